/- Contracts of the functions that the statement reaches, printed by a program out of the translation and joined with the plain laws. -/
import Derived.Laws.BitsAllLaws
import Derived.RowKit
import Derived.Lib.BitFns
import Derived.Lib.ItoaNum
import Derived.Test.YtdbdbimeaabhlaaCFnBlockMeets0
import Derived.Test.YtdbdbimeaabhlaaCFnBlockMeets2
import Derived.Test.YtdbdbimeaabhlaaCFnBlockMeets3
import Derived.Test.YtdbdbimeaabhlaaCFnBlockMeets5
import Derived.Test.YtdbdbimeaabhlaaCFnBlockMeets6
import Derived.Test.YtdbdbimeaabhlaaCFnBlockMeets7
import Derived.Test.YtdbdbimeaabhlaaCFnBlockMeets8
section
namespace Go.Proofs.Ytdbdbimeaabhlaa.Z
open Go Go.RowKit Go.Proofs.YtdbdbimeaabhlaaW.PrintWords Go.Proofs.YtdbdbimeaabhlaaW.PrintMore
set_option linter.unusedVariables false
set_option linter.unusedSimpArgs false
theorem w64 {n : Int} (h : -9223372036854775808 ≤ n ∧ n ≤ 9223372036854775807) : wrap64 n = n := by unfold wrap64; omega
/-- The number of addresses of a block of so many bits. -/
def sz (m : Int) : Int := 2 ^ (32 - m).toNat
theorem sz_cases {m : Int} (h0 : 0 ≤ m) (h1 : m ≤ 32) : ∃ n : Nat, n ≤ 32 ∧ m = 32 - (n : Int) ∧ sz m = 2 ^ n := by
  refine ⟨(32 - m).toNat, by omega, by omega, rfl⟩
theorem sz_pos (m : Int) : 1 ≤ sz m := by
  unfold sz
  have : (0 : Int) < 2 ^ (32 - m).toNat := Int.pow_pos (by decide)
  omega
theorem sz_dvd {m n : Int} (h : m ≤ n) : sz n ∣ sz m := by
  unfold sz
  obtain ⟨j, e⟩ : ∃ j : Nat, (32 - m).toNat = (32 - n).toNat + j := ⟨(32 - m).toNat - (32 - n).toNat, by omega⟩
  rw [e, Int.pow_add]
  exact Int.dvd_mul_right _ _
theorem sz_le {m n : Int} (h : m ≤ n) : sz n ≤ sz m := Int.le_of_dvd (by have := sz_pos m; omega) (sz_dvd h)
theorem sz_top {m : Int} (h0 : 0 ≤ m) : sz m ≤ 4294967296 := sz_le h0
theorem sz_dvd_top {m : Int} (h0 : 0 ≤ m) : sz m ∣ 4294967296 := sz_dvd h0
/-- A block that is valid. -/
def bok (b m : Int) : Prop := 0 ≤ b ∧ b ≤ 4294967295 ∧ 0 ≤ m ∧ m ≤ 32 ∧ b % sz m = 0
instance (b m : Int) : Decidable (bok b m) := by unfold bok; exact inferInstance
def bokB (b m : Int) : Bool := decide (bok b m)
theorem bokB_true {b m : Int} : bokB b m = true ↔ bok b m := by simp [bokB]
theorem bokB_false {b m : Int} : bokB b m = false ↔ ¬ bok b m := by simp [bokB]
/-- Multiples of a size lie a size apart. -/
theorem mult_apart {s a b : Int} (hs : 0 < s) (ha : s ∣ a) (hb : s ∣ b) (h : a < b) : a + s ≤ b := by
  obtain ⟨x, rfl⟩ := ha
  obtain ⟨y, rfl⟩ := hb
  have hxy : x < y := by
    rcases Int.lt_or_le x y with h' | h'
    · exact h'
    · exact absurd (Int.mul_le_mul_of_nonneg_left h' (Int.le_of_lt hs)) (by omega)
  have : s * (x + 1) ≤ s * y := Int.mul_le_mul_of_nonneg_left (by omega) (Int.le_of_lt hs)
  rw [Int.mul_add] at this
  omega
theorem bok.dvd {b m : Int} (h : bok b m) : sz m ∣ b := Int.dvd_of_emod_eq_zero h.2.2.2.2
theorem bok.last {b m : Int} (h : bok b m) : b + sz m ≤ 4294967296 := by
  obtain ⟨h0, h1, h2, h3, h4⟩ := h
  exact mult_apart (by have := sz_pos m; omega) (Int.dvd_of_emod_eq_zero h4) (sz_dvd_top h2) (by omega)
theorem bok.mk' {b m : Int} (h0 : 0 ≤ b) (h1 : b ≤ 4294967295) (h2 : 0 ≤ m) (h3 : m ≤ 32) (h4 : sz m ∣ b) : bok b m := ⟨h0, h1, h2, h3, Int.emod_eq_zero_of_dvd h4⟩
theorem i64_xor_nat (a b : Nat) (ha : a < 9223372036854775808) (hb : b < 9223372036854775808) : bits .xor .i64 (a : Int) (b : Int) = ((a ^^^ b : Nat) : Int) := by
  have hx : a ^^^ b < 2 ^ 63 := Nat.xor_lt_two_pow (by omega) (by omega)
  show IntKind.i64.wrap ((BitVec.ofInt 64 (a : Int) ^^^ BitVec.ofInt 64 (b : Int)).toNat : Int) = _
  rw [BitVec.toNat_xor, ofInt_u64 a (by omega), ofInt_u64 b (by omega), IntKind.wrap_i64]
  omega
theorem i64_xor (a b : Int) (h1 : 0 ≤ a) (h2 : a < 9223372036854775808) (h3 : 0 ≤ b) (h4 : b < 9223372036854775808) : bits .xor .i64 a b = ((a.toNat ^^^ b.toNat : Nat) : Int) := by
  obtain ⟨A, rfl⟩ := Int.eq_ofNat_of_zero_le h1
  obtain ⟨B, rfl⟩ := Int.eq_ofNat_of_zero_le h3
  simpa using i64_xor_nat A B (by omega) (by omega)
theorem shl_one {x : Int} (h0 : 0 ≤ x) (h1 : x ≤ 62) : shl .i64 1 x = 2 ^ x.toNat := by
  have e : min x.toNat IntKind.i64.bits = x.toNat := by
    have : IntKind.i64.bits = 64 := rfl
    omega
  unfold shl
  rw [e, IntKind.wrap_i64, Int.one_mul]
  have hp : (2 : Int) ^ x.toNat ≤ 2 ^ 62 := by
    exact_mod_cast Nat.pow_le_pow_right (n := 2) (by decide) (by omega : x.toNat ≤ 62)
  have hq : (0 : Int) < 2 ^ x.toNat := Int.pow_pos (by decide)
  omega
theorem shl_sz {m : Int} (h0 : 0 ≤ m) (h1 : m ≤ 32) : shl .i64 1 (32 - m) = sz m := by
  rw [shl_one (by omega) (by omega)]; rfl
theorem Ev.all {α : Type} {g : Nat → Option α} {r : α} (h : ∀ k, g k = some r) : Ev g r := ⟨0, fun k _ => h k⟩
end Go.Proofs.Ytdbdbimeaabhlaa.Z
end
section
namespace Go.Proofs.Ytdbdbimeaabhlaa.Z
open Go Go.RowKit Go.Proofs.Ytdbdbimeaabhlaa.PAll Go.Proofs.YtdbdbimeaabhlaaW.PrintWords Go.Proofs.YtdbdbimeaabhlaaW.PrintLast Go.Proofs.YtdbdbimeaabhlaaW.PrintMore
set_option linter.unusedVariables false
set_option linter.unusedSimpArgs false
/-- Bytes that are drawn from. -/
def Bytes (s : List Int) : Prop := (∀ x ∈ s, 0 ≤ x ∧ x ≤ 255) ∧ s.length ≤ 2000
theorem rd_byte {s : List Int} (h : Bytes s) (i : Int) : 0 ≤ rd s i ∧ rd s i ≤ 255 := by
  unfold rd
  rw [List.getD_eq_getElem?_getD]
  cases e : s[i.toNat]? with
  | none => simp
  | some x => simpa using h.1 x (List.mem_of_getElem? e)
theorem pick_aux (k : Nat) (s : List Int) (p n : Int) (hs : Bytes s) (hp0 : 0 ≤ p) (hp1 : p ≤ 1000000000000) (hn0 : 1 ≤ n) (hn1 : n ≤ 2147483648) :
    ∃ v, spec_l1Rd_pick.f (k + 1) s p n = some (v, p + 1) ∧ 0 ≤ v ∧ v < n := by
  have e1 : wrap64 (p + 1) = p + 1 := w64 (by omega)
  have e2 : wrap64 (p + 1 - 1) = p := by rw [w64 (by omega)]; omega
  unfold spec_l1Rd_pick.f
  rw [if_neg (by omega), e1]
  simp only [spec_l1Rd_pick.j0, e2]
  by_cases h0 : (s.length : Int) = 0
  · rw [if_pos (beq_iff_eq.2 h0)]
    exact ⟨0, rfl, by omega, by omega⟩
  · rw [if_neg (fun h => h0 (beq_iff_eq.1 h))]
    have hl := hs.2
    by_cases h1 : p < (s.length : Int)
    · rw [if_pos h1, if_pos hp0, if_neg (by omega)]
      have hb := rd_byte hs p
      rw [w64 (by omega), Int.tmod_eq_emod_of_nonneg (by omega)]
      exact ⟨_, rfl, Int.emod_nonneg _ (by omega), Int.emod_lt_of_pos _ (by omega)⟩
    · have e3 : wrap64 (p * 7) = p * 7 := w64 (by omega)
      have e4 : wrap64 (p * 7 + 3) = p * 7 + 3 := w64 (by omega)
      have e5 : wrap64 (p * 29) = p * 29 := w64 (by omega)
      have d1 : Int.tmod p (s.length : Int) = p % (s.length : Int) := Int.tmod_eq_emod_of_nonneg hp0
      have d2 : Int.tmod (p * 7 + 3) (s.length : Int) = (p * 7 + 3) % (s.length : Int) := Int.tmod_eq_emod_of_nonneg (by omega)
      have d3 : Int.tdiv p (s.length : Int) = p / (s.length : Int) := Int.tdiv_eq_ediv_of_nonneg hp0
      have q0 : 0 ≤ p / (s.length : Int) := Int.ediv_nonneg hp0 (by omega)
      have q1 : p / (s.length : Int) ≤ p := Int.ediv_le_self _ hp0
      have r0 := Int.emod_nonneg p h0
      have r1 := Int.emod_lt_of_pos p (by omega : 0 < (s.length : Int))
      have r2 := Int.emod_nonneg (p * 7 + 3) h0
      have r3 := Int.emod_lt_of_pos (p * 7 + 3) (by omega : 0 < (s.length : Int))
      have b1 := rd_byte hs (p % (s.length : Int))
      have b2 := rd_byte hs ((p * 7 + 3) % (s.length : Int))
      have c1 : wrap64 (rd s (p % (s.length : Int))) = rd s (p % (s.length : Int)) := w64 (by omega)
      have c2 : wrap64 (rd s ((p * 7 + 3) % (s.length : Int))) = rd s ((p * 7 + 3) % (s.length : Int)) := w64 (by omega)
      have c3 : wrap64 (p / (s.length : Int)) = p / (s.length : Int) := w64 (by omega)
      have e6 : wrap64 (p / (s.length : Int) * 53) = p / (s.length : Int) * 53 := w64 (by omega)
      have e7 : wrap64 (rd s (p % (s.length : Int)) * 131) = rd s (p % (s.length : Int)) * 131 := w64 (by omega)
      have e8 : wrap64 (rd s ((p * 7 + 3) % (s.length : Int)) * 1117) = rd s ((p * 7 + 3) % (s.length : Int)) * 1117 := w64 (by omega)
      rw [if_neg h1, if_neg h0]
      simp only [d1, d2, d3, e3, e4, c1, c2, c3, e5, e6, e7, e8]
      rw [if_pos r0, if_pos r1, if_pos r2, if_pos r3, if_neg (by omega)]
      generalize rd s (p % (s.length : Int)) = x at *
      generalize rd s ((p * 7 + 3) % (s.length : Int)) = y at *
      generalize p / (s.length : Int) = z at *
      have f1 : wrap64 (x * 131 + y * 1117) = x * 131 + y * 1117 := w64 (by omega)
      have f2 : wrap64 (x * 131 + y * 1117 + p * 29) = x * 131 + y * 1117 + p * 29 := w64 (by omega)
      have f3 : wrap64 (x * 131 + y * 1117 + p * 29 + z * 53) = x * 131 + y * 1117 + p * 29 + z * 53 := w64 (by omega)
      simp only [f1, f2, f3]
      generalize hX : x * 131 + y * 1117 + p * 29 + z * 53 = X at *
      have g1 : Int.tdiv X 64 = X / 64 := Int.tdiv_eq_ediv_of_nonneg (by omega)
      have g2 : wrap64 (X / 64) = X / 64 := w64 (by omega)
      rw [g1, g2, i64_xor X (X / 64) (by omega) (by omega) (by omega) (by omega), Int.tmod_eq_emod_of_nonneg (by omega)]
      exact ⟨_, rfl, Int.emod_nonneg _ (by omega), Int.emod_lt_of_pos _ (by omega)⟩
/-- A number is drawn. -/
theorem pick (s : List Int) (p n : Int) (hs : Bytes s) (hp0 : 0 ≤ p) (hp1 : p ≤ 1000000000000) (hn0 : 1 ≤ n) (hn1 : n ≤ 2147483648) :
    ∃ v, (∃ K_, ∀ k, K_ ≤ k → spec_l1Rd_pick.f k s p n = some (v, p + 1)) ∧ 0 ≤ v ∧ v < n := by
  obtain ⟨v, h, h0, h1⟩ := pick_aux 0 s p n hs hp0 hp1 hn0 hn1
  exact ⟨v, Ev.of (spec_l1Rd_pick.mono s p n) h, h0, h1⟩
/-- A number of a list is drawn. -/
theorem one (s : List Int) (p : Int) (l : List Int) (hs : Bytes s) (hp0 : 0 ≤ p) (hp1 : p ≤ 1000000000000) (hl0 : 1 ≤ l.length) (hl1 : l.length ≤ 2147483648) :
    ∃ v, (∃ K_, ∀ k, K_ ≤ k → spec_l1Rd_one.f k s p l = some (v, p + 1)) ∧ v ∈ l := by
  obtain ⟨v, ⟨K, h⟩, h0, h1⟩ := pick s p l.length hs hp0 hp1 (by omega) (by omega)
  refine ⟨rd l v, ⟨K, fun k hk => ?_⟩, ?_⟩
  · simp only [spec_l1Rd_one.f, h k hk, Option.bind_some]
    rw [if_pos h0, if_pos h1]
  · unfold rd
    rw [List.getD_eq_getElem?_getD, List.getElem?_eq_getElem (by omega)]
    exact List.getElem_mem _
end Go.Proofs.Ytdbdbimeaabhlaa.Z
end
section
namespace Go.Proofs.Ytdbdbimeaabhlaa.Z
open Go Go.RowKit Go.Proofs.Ytdbdbimeaabhlaa.PAll Go.Proofs.YtdbdbimeaabhlaaW.PrintWords Go.Proofs.YtdbdbimeaabhlaaW.PrintLast Go.Proofs.YtdbdbimeaabhlaaW.PrintMore
set_option linter.unusedVariables false
set_option linter.unusedSimpArgs false
theorem spec_in (a l h : Int) : spec_l1In.f a l h = some (decide (l ≤ a ∧ a ≤ h)) := by
  unfold spec_l1In.f
  by_cases c : a ≥ l
  · rw [if_pos c]; simp [c]
  · rw [if_neg c]
    have : ¬ l ≤ a := by omega
    simp [this]
theorem impl_in (a l h : Int) : impl_in.f a l h = some (decide (l ≤ a ∧ a ≤ h)) := by
  unfold impl_in.f
  by_cases c : a ≥ l
  · rw [if_pos c]; simp [c]
  · rw [if_neg c]
    have : ¬ l ≤ a := by omega
    simp [this]
theorem spec_addr (a : Int) : spec_l1Addr.f a = some (decide (0 ≤ a ∧ a ≤ 4294967295)) := by simp only [spec_l1Addr.f, spec_in, Option.bind_some]
theorem impl_addr (a : Int) : impl_isAddr.f a = some (decide (0 ≤ a ∧ a ≤ 4294967295)) := by simp only [impl_isAddr.f, impl_in, Option.bind_some]
theorem two_loop (n : Nat) : ∀ (k : Nat) (c : Int), n ≤ 62 → n < k → 1 ≤ c → c * 2 ^ n ≤ 4611686018427387904 → spec_l1Two.l0 k (n : Int) c = some (c * 2 ^ n) := by
  induction n with
  | zero =>
    intro k c _ hk _ _
    obtain ⟨k, rfl⟩ : ∃ m, k = m + 1 := ⟨k - 1, by omega⟩
    simp only [spec_l1Two.l0]
    rw [if_neg (by omega)]
    simp
  | succ n ih =>
    intro k c hn hk hc hb
    obtain ⟨k, rfl⟩ : ∃ m, k = m + 1 := ⟨k - 1, by omega⟩
    have e : c * 2 ^ (n + 1) = c * 2 * 2 ^ n := by rw [Int.pow_succ, Int.mul_comm ((2 : Int) ^ n) 2, Int.mul_assoc]
    have hp : (1 : Int) ≤ 2 ^ n := by
      have : (0 : Int) < 2 ^ n := Int.pow_pos (by decide)
      omega
    have hc2 : c * 2 ≤ c * 2 * 2 ^ n := by
      have := Int.mul_le_mul_of_nonneg_left hp (by omega : (0 : Int) ≤ c * 2)
      omega
    simp only [spec_l1Two.l0]
    rw [e] at hb ⊢
    rw [if_pos (by omega), w64 (by omega), w64 (by omega)]
    have : ((n + 1 : Nat) : Int) - 1 = (n : Int) := by omega
    rw [this]
    exact ih k (c * 2) (by omega) (by omega) (by omega) hb
theorem spec_two {n : Int} (h0 : 0 ≤ n) (h1 : n ≤ 62) : (∃ K_, ∀ k, K_ ≤ k → spec_l1Two.f k n = some (2 ^ n.toNat)) := by
  refine ⟨n.toNat + 1, fun k hk => ?_⟩
  have e : (n.toNat : Int) = n := by omega
  have hp : (2 : Int) ^ n.toNat ≤ 2 ^ 62 := by
    exact_mod_cast Nat.pow_le_pow_right (n := 2) (by decide) (by omega : n.toNat ≤ 62)
  have := two_loop n.toNat k 1 (by omega) (by omega) (by omega) (by omega)
  rw [e, Int.one_mul] at this
  exact this
theorem spec_size {m : Int} (h0 : 0 ≤ m) (h1 : m ≤ 32) : (∃ K_, ∀ k, K_ ≤ k → spec_l1Size.f k m = some (sz m)) := by
  obtain ⟨K, h⟩ := spec_two (n := 32 - m) (by omega) (by omega)
  refine ⟨K, fun k hk => ?_⟩
  simp only [spec_l1Size.f]
  rw [w64 (by omega), h k hk]
  rfl
theorem impl_size {b m : Int} (h0 : 0 ≤ m) (h1 : m ≤ 32) : impl_Block_size.f b m = some (sz m) := by
  unfold impl_Block_size.f
  rw [w64 (by omega), if_pos (by omega), shl_sz h0 h1]
theorem tmod_beq {b s : Int} (hb : 0 ≤ b) : (Int.tmod b s == 0) = decide (b % s = 0) := by
  rw [Int.tmod_eq_emod_of_nonneg hb]
  rfl
theorem impl_ok (b m : Int) : impl_BlockOk.f b m = some (bokB b m) := by
  unfold impl_BlockOk.f
  rw [impl_addr, Option.bind_some]
  by_cases c : 0 ≤ b ∧ b ≤ 4294967295
  · rw [if_pos (by simpa using c), impl_in, Option.bind_some]
    by_cases d : 0 ≤ m ∧ m ≤ 32
    · rw [if_pos (by simpa using d), impl_size d.1 d.2, Option.bind_some, if_neg (by have := sz_pos m; omega), tmod_beq c.1]
      simp [bokB, bok, c, d]
    · rw [if_neg (by simpa using d)]
      exact congrArg some (bokB_false.2 (fun h => d ⟨h.2.2.1, h.2.2.2.1⟩)).symm
  · rw [if_neg (by simpa using c)]
    exact congrArg some (bokB_false.2 (fun h => c ⟨h.1, h.2.1⟩)).symm
theorem spec_ok (b m : Int) : (∃ K_, ∀ k, K_ ≤ k → spec_BlockOk.f k b m = some (bokB b m)) := by
  by_cases c : 0 ≤ b ∧ b ≤ 4294967295
  · by_cases d : 0 ≤ m ∧ m ≤ 32
    · obtain ⟨K, h⟩ := spec_size d.1 d.2
      refine ⟨K, fun k hk => ?_⟩
      simp only [spec_BlockOk.f]
      rw [spec_addr, Option.bind_some, if_pos (by simpa using c), spec_in, Option.bind_some, if_pos (by simpa using d), h k hk, Option.bind_some, if_neg (by have := sz_pos m; omega), tmod_beq c.1]
      simp [bokB, bok, c, d]
    · refine ⟨0, fun k _ => ?_⟩
      simp only [spec_BlockOk.f]
      rw [spec_addr, Option.bind_some, if_pos (by simpa using c), spec_in, Option.bind_some, if_neg (by simpa using d)]
      exact congrArg some (bokB_false.2 (fun h => d ⟨h.2.2.1, h.2.2.2.1⟩)).symm
  · refine ⟨0, fun k _ => ?_⟩
    simp only [spec_BlockOk.f]
    rw [spec_addr, Option.bind_some, if_neg (by simpa using c)]
    exact congrArg some (bokB_false.2 (fun h => c ⟨h.1, h.2.1⟩)).symm
theorem sz_bd {m : Int} (h0 : 0 ≤ m) : 1 ≤ sz m ∧ sz m ≤ 4294967296 := ⟨sz_pos m, sz_top h0⟩
theorem impl_last {b m : Int} (hb0 : 0 ≤ b) (hb1 : b ≤ 4611686018427387904) (h0 : 0 ≤ m) (h1 : m ≤ 32) : impl_Block_last.f b m = some (b + sz m - 1) := by
  have := sz_bd h0
  unfold impl_Block_last.f
  rw [impl_size h0 h1, Option.bind_some, w64 (n := b + sz m) (by omega), w64 (by omega)]
theorem spec_last {b m : Int} (hb0 : -1 ≤ b) (hb1 : b ≤ 4611686018427387904) (h0 : 0 ≤ m) (h1 : m ≤ 32) : (∃ K_, ∀ k, K_ ≤ k → spec_l1Last.f k b m = some (b + sz m - 1)) := by
  have := sz_bd h0
  obtain ⟨K, h⟩ := spec_size h0 h1
  refine ⟨K, fun k hk => ?_⟩
  simp only [spec_l1Last.f]
  rw [h k hk, Option.bind_some, w64 (n := b + sz m) (by omega), w64 (by omega)]
/-- Is an address in a block? -/
def hasB (b m a : Int) : Bool := decide (b ≤ a ∧ a ≤ b + sz m - 1)
theorem hasB_iff {b m a : Int} : hasB b m a = true ↔ b ≤ a ∧ a < b + sz m := by simp only [hasB, decide_eq_true_eq]; omega
theorem impl_has {b m : Int} (a : Int) (hb0 : 0 ≤ b) (hb1 : b ≤ 4611686018427387904) (h0 : 0 ≤ m) (h1 : m ≤ 32) : impl_Block_has.f b m a = some (hasB b m a) := by
  unfold impl_Block_has.f
  rw [impl_last hb0 hb1 h0 h1, Option.bind_some, impl_in, Option.bind_some]
  rfl
/-- Does a block lie in another one? -/
def inB (b m c n : Int) : Bool := bokB b m && (bokB c n && (decide (m ≤ n) && hasB b m c))
theorem impl_blockIn (b m c n : Int) : impl_BlockIn.f b m c n = some (inB b m c n) := by
  unfold impl_BlockIn.f inB
  rw [impl_ok, Option.bind_some]
  cases h : bokB b m with
  | false => rfl
  | true =>
    have h' := bokB_true.1 h
    rw [if_pos rfl, impl_ok, Option.bind_some]
    cases h2 : bokB c n with
    | false => rfl
    | true =>
      rw [if_pos rfl]
      by_cases d : n ≥ m
      · rw [if_pos d, impl_has c h'.1 (by have := h'.2.1; omega) h'.2.2.1 h'.2.2.2.1]
        have d' : m ≤ n := d
        simp [d']
      · rw [if_neg d]
        have d' : ¬ m ≤ n := d
        simp [d']
def meetsB (b m c n : Int) : Bool := inB b m c n || inB c n b m
theorem impl_blockMeets (b m c n : Int) : impl_BlockMeets.f b m c n = some (meetsB b m c n) := by
  unfold impl_BlockMeets.f meetsB
  rw [impl_blockIn, Option.bind_some]
  cases h : inB b m c n with
  | true => rfl
  | false => rw [if_neg (by simp), impl_blockIn]; rfl
theorem impl_halves (b m : Int) : impl_BlockHalves.f b m = some (if bokB b m = true ∧ m < 32 then (b, m + 1, b + sz (m + 1), m + 1, true) else (0, 0, 0, 0, false)) := by
  unfold impl_BlockHalves.f
  rw [impl_ok, Option.bind_some]
  cases h : bokB b m with
  | false => simp
  | true =>
    have h' := bokB_true.1 h
    obtain ⟨h0, h1, h2, h3, h4⟩ := h'
    rw [if_pos rfl]
    by_cases d : m = 32
    · rw [if_pos d, if_neg (by omega)]
    · have e : wrap64 (m + 1) = m + 1 := w64 (by omega)
      have := sz_bd (m := m + 1) (by omega)
      rw [if_neg d, if_pos ⟨rfl, by omega⟩, e, impl_size (by omega) (by omega), Option.bind_some, w64 (by omega)]
end Go.Proofs.Ytdbdbimeaabhlaa.Z
end
section
namespace Go.Proofs.Ytdbdbimeaabhlaa.Z
open Go Go.RowKit Go.Proofs.Ytdbdbimeaabhlaa.PAll Go.Proofs.YtdbdbimeaabhlaaW.PrintWords Go.Proofs.YtdbdbimeaabhlaaW.PrintLast Go.Proofs.YtdbdbimeaabhlaaW.PrintMore
set_option linter.unusedVariables false
set_option linter.unusedSimpArgs false
theorem l1Open (l : List Int) (hw : ∀ x ∈ l, (Lit.int .u8 x).wf = true) : ∃ s, spec_l1Open.f l = some (s, 0) ∧ Bytes s := by
  have hb : ∀ x ∈ l, 0 ≤ x ∧ x ≤ 255 := fun x hx => by
    have := hw x hx
    simp [Lit.wf, IntKind.min, IntKind.max, IntKind.bits, IntKind.signed] at this
    omega
  unfold spec_l1Open.f
  by_cases c : (l.length : Int) > 2000
  · rw [if_pos c, if_pos (by omega)]
    exact ⟨_, rfl, fun x hx => hb x (List.mem_of_mem_take hx), by rw [List.length_take]; omega⟩
  · rw [if_neg c]
    exact ⟨_, rfl, hb, by omega⟩
theorem drawAddr (s : List Int) (p : Int) (hs : Bytes s) (hp0 : 0 ≤ p) (hp1 : p ≤ 900000000000) :
    ∃ a, (∃ K_, ∀ k, K_ ≤ k → spec_l12Addr.f k s p = some (a, p + 6)) ∧ 0 ≤ a ∧ a ≤ 4294967295 := by
  obtain ⟨v1, ⟨K1, h1⟩, a1, b1⟩ := pick s p 256 hs (by omega) (by omega) (by decide) (by decide)
  obtain ⟨v2, ⟨K2, h2⟩, a2, b2⟩ := pick s (p + 1) 8 hs (by omega) (by omega) (by decide) (by decide)
  obtain ⟨v3, ⟨K3, h3⟩, a3, b3⟩ := pick s (p + 1 + 1) 16 hs (by omega) (by omega) (by decide) (by decide)
  obtain ⟨v4, ⟨K4, h4⟩, a4, b4⟩ := pick s (p + 1 + 1 + 1) 256 hs (by omega) (by omega) (by decide) (by decide)
  obtain ⟨v5, ⟨K5, h5⟩, a5, b5⟩ := pick s (p + 1 + 1 + 1 + 1) 64 hs (by omega) (by omega) (by decide) (by decide)
  obtain ⟨v6, ⟨K6, h6⟩, b6⟩ := one s (p + 1 + 1 + 1 + 1 + 1) [wrap64 (167772160 + v1), wrap64 (167772160 + v2), wrap64 (167772416 + v3), wrap64 (3232235520 + v4), 0, 4294967295, 184549375, wrap64 (2886729728 + (wrap64 (v5 * 256)))] hs (by omega) (by omega) (by simp) (by simp)
  refine ⟨v6, ⟨K1 + K2 + K3 + K4 + K5 + K6, fun k hk => ?_⟩, ?_⟩
  · simp only [spec_l12Addr.f]
    rw [h1 k (by omega), Option.bind_some, h2 k (by omega), Option.bind_some, h3 k (by omega), Option.bind_some, h4 k (by omega), Option.bind_some, h5 k (by omega), Option.bind_some]
    simp only []
    rw [h6 k (by omega), Option.bind_some]
    simp only [Option.some.injEq, Prod.mk.injEq, true_and]
    omega
  · rw [w64 (by omega), w64 (by omega), w64 (by omega), w64 (by omega), w64 (n := v5 * 256) (by omega), w64 (by omega)] at b6
    simp only [List.mem_cons, List.not_mem_nil, or_false] at b6
    omega
theorem spec_over {a m : Int} (ha0 : 0 ≤ a) (ha1 : a ≤ 4611686018427387904) (h0 : 0 ≤ m) (h1 : m ≤ 32) : (∃ K_, ∀ k, K_ ≤ k → spec_l1Over.f k a m = some (a / sz m * sz m, m)) := by
  obtain ⟨K, h⟩ := spec_size h0 h1
  have hs := sz_bd h0
  have hd : a / sz m * sz m ≤ a := Int.ediv_mul_le a (by omega)
  have hq0 : 0 ≤ a / sz m := Int.ediv_nonneg ha0 (by omega)
  have hq1 : a / sz m ≤ a := Int.ediv_le_self _ ha0
  have hm : 0 ≤ a / sz m * sz m := Int.mul_nonneg hq0 (by omega)
  refine ⟨K, fun k hk => ?_⟩
  simp only [spec_l1Over.f]
  rw [h k hk, Option.bind_some, if_neg (by omega), Option.bind_some, Int.tdiv_eq_ediv_of_nonneg ha0, w64 (n := a / sz m) (by omega), w64 (by omega)]
theorem drawBlock (s : List Int) (p : Int) (hs : Bytes s) (hp0 : 0 ≤ p) (hp1 : p ≤ 800000000000) :
    ∃ b m, (∃ K_, ∀ k, K_ ≤ k → spec_l12Block.f k s p = some (b, m, p + 7)) ∧ bok b m := by
  obtain ⟨a, ⟨K1, h1⟩, a1, b1⟩ := drawAddr s p hs (by omega) (by omega)
  obtain ⟨m, ⟨K2, h2⟩, b2⟩ := one s (p + 6) [32, 31, 30, 28, 24, 24, 25, 16, 8, 1, 0, 29] hs (by omega) (by omega) (by simp) (by simp)
  simp only [List.mem_cons, List.not_mem_nil, or_false] at b2
  obtain ⟨K3, h3⟩ := spec_over (a := a) (m := m) a1 (by omega) (by omega) (by omega)
  have hd : a / sz m * sz m ≤ a := Int.ediv_mul_le a (by have := sz_pos m; omega)
  have hm : 0 ≤ a / sz m * sz m := Int.mul_nonneg (Int.ediv_nonneg a1 (by have := sz_pos m; omega)) (by have := sz_pos m; omega)
  refine ⟨_, m, ⟨K1 + K2 + K3, fun k hk => ?_⟩, bok.mk' hm (by omega) (by omega) (by omega) (Int.dvd_mul_left _ _)⟩
  simp only [spec_l12Block.f]
  rw [h1 k (by omega), Option.bind_some]
  simp only []
  rw [h2 k (by omega), Option.bind_some]
  simp only []
  rw [h3 k (by omega), Option.bind_some]
  simp only [Option.some.injEq, Prod.mk.injEq, true_and]
  omega
theorem drawAnyBlock (s : List Int) (p : Int) (hs : Bytes s) (hp0 : 0 ≤ p) (hp1 : p ≤ 700000000000) :
    ∃ b m p', (∃ K_, ∀ k, K_ ≤ k → spec_l12AnyBlock.f k s p = some (b, m, p')) ∧ p ≤ p' ∧ p' ≤ p + 9 ∧ -1 ≤ b ∧ b ≤ 4294967551 ∧ -1 ≤ m ∧ m ≤ 33 := by
  obtain ⟨b, m, ⟨K1, h1⟩, a1⟩ := drawBlock s p hs (by omega) (by omega)
  have a2 := a1.1
  have a3 := a1.2.1
  have a4 := a1.2.2.1
  have a5 := a1.2.2.2.1
  obtain ⟨v, ⟨K2, h2⟩, c1, c2⟩ := pick s (p + 7) 16 hs (by omega) (by omega) (by decide) (by decide)
  by_cases e0 : v = 0
  · obtain ⟨x, ⟨K3, h3⟩, b3⟩ := one s (p + 7 + 1) [1, (-1), 256] hs (by omega) (by omega) (by simp) (by simp)
    simp only [List.mem_cons, List.not_mem_nil, or_false] at b3
    refine ⟨b + x, m, p + 7 + 1 + 1, ⟨K1 + K2 + K3, fun k hk => ?_⟩, by omega, by omega, by omega, by omega, by omega, by omega⟩
    simp only [spec_l12AnyBlock.f]
    rw [h1 k (by omega), Option.bind_some]
    simp only []
    rw [h2 k (by omega), Option.bind_some]
    simp only []
    rw [if_pos e0, h3 k (by omega), Option.bind_some]
    simp only []
    rw [w64 (by omega)]
  · by_cases e1 : v = 1
    · obtain ⟨x, ⟨K3, h3⟩, b3⟩ := one s (p + 7 + 1) [(-1), 33, 0, 32] hs (by omega) (by omega) (by simp) (by simp)
      simp only [List.mem_cons, List.not_mem_nil, or_false] at b3
      refine ⟨b, x, p + 7 + 1 + 1, ⟨K1 + K2 + K3, fun k hk => ?_⟩, by omega, by omega, by omega, by omega, by omega, by omega⟩
      simp only [spec_l12AnyBlock.f]
      rw [h1 k (by omega), Option.bind_some]
      simp only []
      rw [h2 k (by omega), Option.bind_some]
      simp only []
      rw [if_neg e0, if_pos e1, h3 k (by omega), Option.bind_some]
    · refine ⟨b, m, p + 7 + 1, ⟨K1 + K2, fun k hk => ?_⟩, by omega, by omega, by omega, by omega, by omega, by omega⟩
      simp only [spec_l12AnyBlock.f]
      rw [h1 k (by omega), Option.bind_some]
      simp only []
      rw [h2 k (by omega), Option.bind_some]
      simp only []
      rw [if_neg e0, if_neg e1]
end Go.Proofs.Ytdbdbimeaabhlaa.Z
end
section
namespace Go.Proofs.Ytdbdbimeaabhlaa.Z
open Go Go.RowKit Go.Proofs.Ytdbdbimeaabhlaa.PAll Go.Proofs.YtdbdbimeaabhlaaW.PrintWords Go.Proofs.YtdbdbimeaabhlaaW.PrintLast Go.Proofs.YtdbdbimeaabhlaaW.PrintMore
set_option linter.unusedVariables false
set_option linter.unusedSimpArgs false
theorem bitLen_iff (x k : Nat) (hk : k ≤ 64) (hx : x < 2 ^ 64) : Lib.bitLen x ≤ k ↔ x < 2 ^ k := by
  constructor
  · intro h
    by_cases e : x = 0
    · subst e; exact Nat.two_pow_pos k
    · have := (Lib.bitLenAux_bounds 64 x hx e).2.2
      exact Nat.lt_of_lt_of_le this (Nat.pow_le_pow_right (by decide) h)
  · exact Lib.bitLen_le x k hk
/-- How many first bits two addresses have in common. -/
def lz (b c : Int) : Int := 32 - (Lib.bitLen (b.toNat ^^^ c.toNat) : Int)
theorem lz_comm (b c : Int) : lz b c = lz c b := by unfold lz; rw [Nat.xor_comm]
theorem same_iff {b c q : Int} (hb0 : 0 ≤ b) (hb1 : b ≤ 4294967295) (hc0 : 0 ≤ c) (hc1 : c ≤ 4294967295) (h0 : 0 ≤ q) (h1 : q ≤ 32) : b / sz q = c / sz q ↔ q ≤ lz b c := by
  obtain ⟨B, rfl⟩ := Int.eq_ofNat_of_zero_le hb0
  obtain ⟨C, rfl⟩ := Int.eq_ofNat_of_zero_le hc0
  obtain ⟨n, hn, rfl, hs⟩ := sz_cases h0 h1
  have hx : B ^^^ C < 2 ^ 32 := Nat.xor_lt_two_pow (by omega) (by omega)
  rw [hs]
  have e1 : ((B : Int) / 2 ^ n = (C : Int) / 2 ^ n) ↔ B / 2 ^ n = C / 2 ^ n := by
    rw [show ((2 : Int) ^ n) = ((2 ^ n : Nat) : Int) by simp, ← Int.natCast_ediv, ← Int.natCast_ediv]
    omega
  rw [e1]
  have e2 : (32 - (n : Int) ≤ lz B C) ↔ Lib.bitLen (B ^^^ C) ≤ n := by
    unfold lz
    simp only [Int.toNat_natCast]
    omega
  rw [e2, bitLen_iff _ _ (by omega) (by omega)]
  rw [← Nat.shiftRight_eq_div_pow, ← Nat.shiftRight_eq_div_pow]
  have e3 : (B ^^^ C < 2 ^ n) ↔ (B ^^^ C) >>> n = 0 := by
    rw [Nat.shiftRight_eq_div_pow]
    exact (Nat.div_eq_zero_iff_lt (Nat.two_pow_pos n)).symm
  rw [e3, Nat.shiftRight_xor_distrib]
  constructor
  · intro h; rw [h, Nat.xor_self]
  · intro h
    have := congrArg (fun z => z ^^^ (C >>> n)) h
    simpa [Nat.xor_assoc] using this
theorem lz_bd {b c : Int} (hb0 : 0 ≤ b) (hb1 : b ≤ 4294967295) (hc0 : 0 ≤ c) (hc1 : c ≤ 4294967295) : 0 ≤ lz b c ∧ lz b c ≤ 32 := by
  have h : Lib.bitLen (b.toNat ^^^ c.toNat) ≤ 32 := Lib.bitLen_le _ 32 (by decide) (Nat.xor_lt_two_pow (by omega) (by omega))
  unfold lz
  omega
/-- The bits of the least block that has two. -/
def oq (b m c n : Int) : Int := mn (mn (lz b c) m) n
theorem oq_spec (b m c n : Int) : oq b m c n ≤ lz b c ∧ oq b m c n ≤ m ∧ oq b m c n ≤ n ∧ (oq b m c n = lz b c ∨ oq b m c n = m ∨ oq b m c n = n) := by
  unfold oq mn
  split <;> split <;> omega
theorem oq_comm (b m c n : Int) : oq b m c n = oq c n b m := by
  have h1 := oq_spec b m c n
  have h2 := oq_spec c n b m
  rw [lz_comm c b] at h2
  omega
theorem floor_mem {b s : Int} (hs : 1 ≤ s) : b / s * s ≤ b ∧ b < b / s * s + s := by
  have h1 := Int.ediv_mul_le b (by omega : s ≠ 0)
  have h2 := Int.lt_ediv_add_one_mul_self b (by omega : 0 < s)
  rw [Int.add_mul] at h2
  omega
theorem floor_iff {b c s : Int} (hs : 1 ≤ s) : (b / s * s ≤ c ∧ c < b / s * s + s) ↔ b / s = c / s := by
  have hc := floor_mem (b := c) hs
  constructor
  · intro ⟨h1, h2⟩
    generalize b / s = x at *
    generalize c / s = y at *
    have a1 : x * s < (y + 1) * s := by rw [Int.add_mul]; omega
    have a2 : y * s < (x + 1) * s := by rw [Int.add_mul]; omega
    have b1 := Int.lt_of_mul_lt_mul_right a1 (by omega)
    have b2 := Int.lt_of_mul_lt_mul_right a2 (by omega)
    omega
  · intro h
    rw [h]
    exact hc
section
variable {b m c n : Int} (h1 : bok b m) (h2 : bok c n)
include h1 h2
theorem oq_bd : 0 ≤ oq b m c n ∧ oq b m c n ≤ 32 := by
  obtain ⟨b0, b1, m0, m1, _⟩ := h1
  obtain ⟨c0, c1, n0, n1, _⟩ := h2
  have := lz_bd b0 b1 c0 c1
  have := oq_spec b m c n
  omega
theorem oq_same {q : Int} (q0 : 0 ≤ q) (q1 : q ≤ m) (q2 : q ≤ n) : b / sz q = c / sz q ↔ q ≤ oq b m c n := by
  obtain ⟨b0, b1, m0, m1, _⟩ := h1
  obtain ⟨c0, c1, n0, n1, _⟩ := h2
  rw [same_iff b0 b1 c0 c1 q0 (by omega)]
  have := oq_spec b m c n
  omega
theorem over_ok : bok (b / sz (oq b m c n) * sz (oq b m c n)) (oq b m c n) := by
  have hq := oq_bd h1 h2
  obtain ⟨b0, b1, m0, m1, _⟩ := h1
  have := floor_mem (b := b) (sz_pos (oq b m c n))
  exact bok.mk' (Int.mul_nonneg (Int.ediv_nonneg b0 (by have := sz_pos (oq b m c n); omega)) (by have := sz_pos (oq b m c n); omega)) (by omega) hq.1 hq.2 (Int.dvd_mul_left _ _)
theorem over_comm : b / sz (oq b m c n) * sz (oq b m c n) = c / sz (oq c n b m) * sz (oq c n b m) := by
  have hq := oq_bd h1 h2
  have hs := oq_spec b m c n
  rw [← oq_comm b m c n, (oq_same h1 h2 hq.1 hs.2.1 hs.2.2.1).2 (Int.le_refl _)]
theorem over_in1 : inB (b / sz (oq b m c n) * sz (oq b m c n)) (oq b m c n) b m = true := by
  have hs := oq_spec b m c n
  have hm := floor_mem (b := b) (sz_pos (oq b m c n))
  simp only [inB, bokB_true.2 (over_ok h1 h2), bokB_true.2 h1, Bool.true_and, Bool.and_eq_true, decide_eq_true_eq, hasB_iff]
  exact ⟨hs.2.1, hm.1, hm.2⟩
theorem over_in2 : inB (b / sz (oq b m c n) * sz (oq b m c n)) (oq b m c n) c n = true := by
  have := over_in1 h2 h1
  rw [over_comm h1 h2, oq_comm b m c n]
  exact this
/-- No half of it has both. -/
theorem over_half {x : Int} (hq : oq b m c n < 32) (hx : inB x (oq b m c n + 1) b m = true) (hy : inB x (oq b m c n + 1) c n = true) : False := by
  have hb := oq_bd h1 h2
  simp only [inB, Bool.and_eq_true, decide_eq_true_eq, hasB_iff, bokB_true] at hx hy
  obtain ⟨ox, _, mx, xx1, xx2⟩ := hx
  obtain ⟨_, _, my, xy1, xy2⟩ := hy
  have hd := ox.dvd
  have fx : x / sz (oq b m c n + 1) * sz (oq b m c n + 1) = x := Int.ediv_mul_cancel hd
  have e1 : x / sz (oq b m c n + 1) = b / sz (oq b m c n + 1) := (floor_iff (sz_pos _)).1 (by rw [fx]; exact ⟨xx1, xx2⟩)
  have e2 : x / sz (oq b m c n + 1) = c / sz (oq b m c n + 1) := (floor_iff (sz_pos _)).1 (by rw [fx]; exact ⟨xy1, xy2⟩)
  have := (oq_same h1 h2 (q := oq b m c n + 1) (by omega) mx my).1 (e1.symm.trans e2)
  omega
theorem over_first : (b / sz (oq b m c n) * sz (oq b m c n) = b ∧ oq b m c n = m) ↔ inB b m c n = true := by
  constructor
  · intro ⟨e1, e2⟩
    have := over_in2 h1 h2
    rw [e1, e2] at this
    exact this
  · intro h
    simp only [inB, Bool.and_eq_true, decide_eq_true_eq, hasB_iff, bokB_true] at h
    obtain ⟨_, _, hmn, x1, x2⟩ := h
    have fx : b / sz m * sz m = b := Int.ediv_mul_cancel h1.dvd
    have hs := oq_spec b m c n
    have e : b / sz m = c / sz m := (floor_iff (sz_pos m)).1 (by rw [fx]; exact ⟨x1, x2⟩)
    have : m ≤ oq b m c n := (oq_same h1 h2 h1.2.2.1 (Int.le_refl _) hmn).1 e
    have e2 : oq b m c n = m := by omega
    rw [e2]
    exact ⟨fx, rfl⟩
end
theorem shr_sz {b q : Int} (h0 : 0 ≤ q) (h1 : q ≤ 32) : shr .i64 b (32 - q) = b / sz q := by
  have e : min (32 - q).toNat IntKind.i64.bits = (32 - q).toNat := by
    have : IntKind.i64.bits = 64 := rfl
    omega
  unfold shr sz
  rw [e]
theorem shl_floor {x q : Int} (h0 : 0 ≤ q) (h1 : q ≤ 32) (hx0 : 0 ≤ x * sz q) (hx1 : x * sz q ≤ 4294967296) : shl .i64 x (32 - q) = x * sz q := by
  have e : min (32 - q).toNat IntKind.i64.bits = (32 - q).toNat := by
    have : IntKind.i64.bits = 64 := rfl
    omega
  unfold shl
  rw [e, IntKind.wrap_i64]
  unfold sz at *
  omega
theorem impl_around {b q : Int} (hb0 : 0 ≤ b) (hb1 : b ≤ 4294967295) (h0 : 0 ≤ q) (h1 : q ≤ 32) : impl_around.f b q = some (b / sz q * sz q, q) := by
  have hm := floor_mem (b := b) (sz_pos q)
  have hn : 0 ≤ b / sz q * sz q := Int.mul_nonneg (Int.ediv_nonneg hb0 (by have := sz_pos q; omega)) (by have := sz_pos q; omega)
  unfold impl_around.f
  rw [w64 (by omega), if_pos (by omega), shr_sz h0 h1, shl_floor h0 h1 hn (by omega)]
theorem impl_over (b m c n : Int) : (∃ K_, ∀ k, K_ ≤ k → impl_BlockOver.f k b m c n = some (if bokB b m = true ∧ bokB c n = true then (b / sz (oq b m c n) * sz (oq b m c n), oq b m c n) else (0, 0))) := by
  refine ⟨1, fun k hk => ?_⟩
  obtain ⟨k, rfl⟩ : ∃ j, k = j + 1 := ⟨k - 1, by omega⟩
  simp only [impl_BlockOver.f]
  rw [impl_ok, Option.bind_some]
  cases e1 : bokB b m with
  | false => simp only [impl_BlockOver.j0]; simp
  | true =>
    rw [if_pos rfl, impl_ok, Option.bind_some]
    cases e2 : bokB c n with
    | false => simp only [impl_BlockOver.j0]; simp
    | true =>
      have h1 := bokB_true.1 e1
      have h2 := bokB_true.1 e2
      have hq := oq_bd h1 h2
      simp only [impl_BlockOver.j0]
      rw [if_neg (by simp), if_pos (by simp)]
      have hx : b.toNat ^^^ c.toNat < 2 ^ 32 := Nat.xor_lt_two_pow (by have := h1.2.1; omega) (by have := h2.2.1; omega)
      have ex : bits .xor .i64 b c % 4294967296 = ((b.toNat ^^^ c.toNat : Nat) : Int) := by
        rw [i64_xor b c h1.1 (by have := h1.2.1; omega) h2.1 (by have := h2.2.1; omega)]
        omega
      have el : bits_LeadingZeros32.f ((b.toNat ^^^ c.toNat : Nat) : Int) = some (lz b c) := by
        unfold bits_LeadingZeros32.f lz
        rw [if_pos (by omega)]
        rfl
      rw [ex, el, Option.bind_some]
      have : impl_around.f b (oq b m c n) = some (b / sz (oq b m c n) * sz (oq b m c n), oq b m c n) := impl_around h1.1 h1.2.1 hq.1 hq.2
      unfold oq at this ⊢
      rw [this, Option.bind_some]
theorem spec_within {b m c n : Int} (hb0 : 0 ≤ b) (hb1 : b ≤ 4611686018427387904) (h0 : 0 ≤ m) (h1 : m ≤ 32) : (∃ K_, ∀ k, K_ ≤ k → spec_l1Within.f k b m c n = some (decide (m ≤ n) && hasB b m c)) := by
  obtain ⟨K, h⟩ := spec_last (b := b) (m := m) (by omega) hb1 h0 h1
  by_cases d : n ≥ m
  · have d' : m ≤ n := d
    refine ⟨K, fun k hk => ?_⟩
    simp only [spec_l1Within.f]
    rw [if_pos d, h k hk, Option.bind_some, spec_in, Option.bind_some]
    simp [d', hasB]
  · have d' : ¬ m ≤ n := d
    refine ⟨0, fun k hk => ?_⟩
    simp only [spec_l1Within.f]
    rw [if_neg d]
    simp [d']
theorem over_loop {b m c n : Int} (h1 : bok b m) (h2 : bok c n) (d : Nat) : ∀ q : Int, q = oq b m c n + d → q ≤ m → (∃ K_, ∀ k, K_ ≤ k → spec_BlockOver.l0 k q b m c n = some (b / sz (oq b m c n) * sz (oq b m c n), oq b m c n)) := by
  have hq := oq_bd h1 h2
  have hs := oq_spec b m c n
  obtain ⟨b0, b1, m0, m1, hm⟩ := h1
  have h1 : bok b m := ⟨b0, b1, m0, m1, hm⟩
  induction d with
  | zero =>
    intro q eq hqm
    have : q = oq b m c n := by omega
    subst this
    have hf := floor_mem (b := b) (sz_pos (oq b m c n))
    have hn : 0 ≤ b / sz (oq b m c n) * sz (oq b m c n) := (over_ok h1 h2).1
    obtain ⟨K1, e1⟩ := spec_over (a := b) (m := oq b m c n) b0 (by omega) hq.1 hq.2
    obtain ⟨K2, e2⟩ := spec_within (b := b / sz (oq b m c n) * sz (oq b m c n)) (m := oq b m c n) (c := c) (n := n) hn (by omega) hq.1 hq.2
    have hc : hasB (b / sz (oq b m c n) * sz (oq b m c n)) (oq b m c n) c = true := hasB_iff.2 ((floor_iff (sz_pos _)).2 ((oq_same h1 h2 hq.1 hs.2.1 hs.2.2.1).2 (Int.le_refl _)))
    refine ⟨K1 + K2 + 1, fun k hk => ?_⟩
    obtain ⟨k, rfl⟩ : ∃ j, k = j + 1 := ⟨k - 1, by omega⟩
    simp only [spec_BlockOver.l0]
    rw [e1 k (by omega), Option.bind_some]
    simp only []
    rw [e2 k (by omega), Option.bind_some, hc, if_pos (by simp [hs.2.2.1]), Option.bind_some]
  | succ d ih =>
    intro q eq hqm
    have hf := floor_mem (b := b) (sz_pos q)
    have hn : 0 ≤ b / sz q * sz q := Int.mul_nonneg (Int.ediv_nonneg b0 (by have := sz_pos q; omega)) (by have := sz_pos q; omega)
    obtain ⟨K1, e1⟩ := spec_over (a := b) (m := q) b0 (by omega) (by omega) (by omega)
    obtain ⟨K2, e2⟩ := spec_within (b := b / sz q * sz q) (m := q) (c := c) (n := n) hn (by omega) (by omega) (by omega)
    obtain ⟨K3, e3⟩ := ih (q - 1) (by omega) (by omega)
    have hc : (decide (q ≤ n) && hasB (b / sz q * sz q) q c) = false := by
      rw [Bool.eq_false_iff]
      intro h
      simp only [Bool.and_eq_true, decide_eq_true_eq, hasB_iff] at h
      have := (oq_same h1 h2 (q := q) (by omega) hqm h.1).1 ((floor_iff (sz_pos q)).1 h.2)
      omega
    refine ⟨K1 + K2 + K3 + 1, fun k hk => ?_⟩
    obtain ⟨k, rfl⟩ : ∃ j, k = j + 1 := ⟨k - 1, by omega⟩
    simp only [spec_BlockOver.l0]
    rw [e1 k (by omega), Option.bind_some]
    simp only []
    rw [e2 k (by omega), Option.bind_some, hc, if_neg (by simp), w64 (by omega)]
    exact e3 k (by omega)
theorem spec_blockOver (b m c n : Int) : (∃ K_, ∀ k, K_ ≤ k → spec_BlockOver.f k b m c n = some (if bokB b m = true ∧ bokB c n = true then (b / sz (oq b m c n) * sz (oq b m c n), oq b m c n) else (0, 0))) := by
  obtain ⟨K1, e1⟩ := spec_ok b m
  obtain ⟨K2, e2⟩ := spec_ok c n
  cases d1 : bokB b m with
  | false =>
    refine ⟨K1 + K2 + 1, fun k hk => ?_⟩
    obtain ⟨k, rfl⟩ : ∃ j, k = j + 1 := ⟨k - 1, by omega⟩
    simp only [spec_BlockOver.f]
    rw [e1 (k + 1) (by omega), Option.bind_some, d1]
    simp only [spec_BlockOver.j0]
    simp
  | true =>
    cases d2 : bokB c n with
    | false =>
      refine ⟨K1 + K2 + 1, fun k hk => ?_⟩
      obtain ⟨k, rfl⟩ : ∃ j, k = j + 1 := ⟨k - 1, by omega⟩
      simp only [spec_BlockOver.f]
      rw [e1 (k + 1) (by omega), Option.bind_some, d1, if_pos rfl, e2 (k + 1) (by omega), Option.bind_some, d2]
      simp only [spec_BlockOver.j0]
      simp
    | true =>
      have h1 := bokB_true.1 d1
      have h2 := bokB_true.1 d2
      have hs := oq_spec b m c n
      obtain ⟨K3, e3⟩ := over_loop h1 h2 (m - oq b m c n).toNat m (by omega) (by omega)
      refine ⟨K1 + K2 + K3 + 1, fun k hk => ?_⟩
      obtain ⟨k, rfl⟩ : ∃ j, k = j + 1 := ⟨k - 1, by omega⟩
      simp only [spec_BlockOver.f]
      rw [e1 (k + 1) (by omega), Option.bind_some, d1, if_pos rfl, e2 (k + 1) (by omega), Option.bind_some, d2]
      simp only [spec_BlockOver.j0]
      rw [if_neg (by simp), if_pos (by simp)]
      exact e3 k (by omega)
theorem spec_meets (b m c n : Int) : (∃ K_, ∀ k, K_ ≤ k → spec_BlockMeets.f k b m c n = some (meetsB b m c n)) := by
  obtain ⟨K1, e1⟩ := spec_ok b m
  obtain ⟨K2, e2⟩ := spec_ok c n
  cases d1 : bokB b m with
  | false =>
    refine ⟨K1, fun k hk => ?_⟩
    simp only [spec_BlockMeets.f]
    rw [e1 k hk, Option.bind_some, d1]
    simp [meetsB, inB, d1]
  | true =>
    cases d2 : bokB c n with
    | false =>
      refine ⟨K1 + K2, fun k hk => ?_⟩
      simp only [spec_BlockMeets.f]
      rw [e1 k (by omega), Option.bind_some, d1, if_pos rfl, e2 k (by omega), Option.bind_some, d2]
      simp [meetsB, inB, d1, d2]
    | true =>
      have h1 := bokB_true.1 d1
      have h2 := bokB_true.1 d2
      obtain ⟨K3, e3⟩ := spec_within (b := b) (m := m) (c := c) (n := n) h1.1 (by have := h1.2.1; omega) h1.2.2.1 h1.2.2.2.1
      obtain ⟨K4, e4⟩ := spec_within (b := c) (m := n) (c := b) (n := m) h2.1 (by have := h2.2.1; omega) h2.2.2.1 h2.2.2.2.1
      refine ⟨K1 + K2 + K3 + K4, fun k hk => ?_⟩
      simp only [spec_BlockMeets.f, spec_l1Meets.f]
      rw [e1 k (by omega), Option.bind_some, d1, if_pos rfl, e2 k (by omega), Option.bind_some, d2, if_pos rfl, e3 k (by omega), Option.bind_some, e4 k (by omega)]
      simp only [meetsB, inB, d1, d2, Bool.true_and, Option.bind_some]
      cases (decide (m ≤ n) && hasB b m c) <;> simp
end Go.Proofs.Ytdbdbimeaabhlaa.Z
end
section
namespace Go.Proofs.Ytdbdbimeaabhlaa.Z
open Go Go.RowKit Go.Proofs.Ytdbdbimeaabhlaa.PAll Go.Proofs.YtdbdbimeaabhlaaW.PrintWords Go.Proofs.YtdbdbimeaabhlaaW.PrintLast Go.Proofs.YtdbdbimeaabhlaaW.PrintMore
set_option linter.unusedVariables false
set_option linter.unusedSimpArgs false
theorem two_j1 (s : List Int) (p b m q : Int) (hs : Bytes s) (hp0 : 0 ≤ p) (hp1 : p ≤ 700000000000) (hb : bok b m) (q0 : 0 ≤ q) (q1 : q ≤ 32) :
    ∃ c n p', (∃ K_, ∀ k, K_ ≤ k → spec_l12Two.j1 k q s p b m = some (b, m, c, n, p')) ∧ p ≤ p' ∧ p' ≤ p + 1 := by
  have hl := hb.last
  have hz := sz_pos m
  obtain ⟨K1, e1⟩ := spec_last (b := b) (m := m) (by have := hb.1; omega) (by have := hb.2.1; omega) hb.2.2.1 hb.2.2.2.1
  obtain ⟨x, ⟨K2, e2⟩, hx⟩ := one s p [b, b + sz m - 1] hs hp0 (by omega) (by simp) (by simp)
  have hx0 : 0 ≤ x ∧ x ≤ 4294967295 := by
    have := hb.1
    simp only [List.mem_cons, List.not_mem_nil, or_false] at hx
    omega
  obtain ⟨K3, e3⟩ := spec_over (a := x) (m := q) hx0.1 (by omega) q0 q1
  refine ⟨x / sz q * sz q, q, p + 1, ⟨K1 + K2 + K3 + 1, fun k hk => ?_⟩, by omega, by omega⟩
  obtain ⟨k, rfl⟩ : ∃ j, k = j + 1 := ⟨k - 1, by omega⟩
  simp only [spec_l12Two.j1]
  rw [e1 k (by omega), Option.bind_some, e2 k (by omega), Option.bind_some]
  simp only []
  rw [e3 k (by omega), Option.bind_some]
theorem two_j0 (s : List Int) (p b m : Int) (x : Bool) (hs : Bytes s) (hp0 : 0 ≤ p) (hp1 : p ≤ 600000000000) (hx : x = true → bok b m) :
    ∃ c n p', (∃ K_, ∀ k, K_ ≤ k → spec_l12Two.j0 k x s p b m = some (b, m, c, n, p')) ∧ p ≤ p' ∧ p' ≤ p + 10 := by
  cases x with
  | false =>
    obtain ⟨c, n, p', ⟨K, e⟩, h1, h2, _⟩ := drawAnyBlock s p hs hp0 (by omega)
    refine ⟨c, n, p', ⟨K + 1, fun k hk => ?_⟩, h1, by omega⟩
    obtain ⟨k, rfl⟩ : ∃ j, k = j + 1 := ⟨k - 1, by omega⟩
    simp only [spec_l12Two.j0]
    rw [if_neg (by simp), e k (by omega), Option.bind_some]
  | true =>
    have hb := hx rfl
    obtain ⟨v, ⟨K1, e1⟩, v0, v1⟩ := pick s p 4 hs hp0 (by omega) (by decide) (by decide)
    have hm0 := hb.2.2.1
    have hm1 := hb.2.2.2.1
    have hw : wrap64 (m + v) = m + v := w64 (by omega)
    by_cases d : m + v > 32
    · obtain ⟨c, n, p', ⟨K2, e2⟩, h1, h2⟩ := two_j1 s (p + 1) b m 32 hs (by omega) (by omega) hb (by omega) (by omega)
      refine ⟨c, n, p', ⟨K1 + K2 + 1, fun k hk => ?_⟩, by omega, by omega⟩
      obtain ⟨k, rfl⟩ : ∃ j, k = j + 1 := ⟨k - 1, by omega⟩
      simp only [spec_l12Two.j0]
      rw [if_pos trivial, e1 k (by omega), Option.bind_some]
      simp only [hw]
      rw [if_pos d]
      exact e2 k (by omega)
    · obtain ⟨c, n, p', ⟨K2, e2⟩, h1, h2⟩ := two_j1 s (p + 1) b m (m + v) hs (by omega) (by omega) hb (by omega) (by omega)
      refine ⟨c, n, p', ⟨K1 + K2 + 1, fun k hk => ?_⟩, by omega, by omega⟩
      obtain ⟨k, rfl⟩ : ∃ j, k = j + 1 := ⟨k - 1, by omega⟩
      simp only [spec_l12Two.j0]
      rw [if_pos trivial, e1 k (by omega), Option.bind_some]
      simp only [hw]
      rw [if_neg d]
      exact e2 k (by omega)
/-- Two blocks are drawn. -/
theorem drawTwo (s : List Int) (p : Int) (hs : Bytes s) (hp0 : 0 ≤ p) (hp1 : p ≤ 500000000000) :
    ∃ b m c n p', (∃ K_, ∀ k, K_ ≤ k → spec_l12Two.f k s p = some (b, m, c, n, p')) ∧ p ≤ p' ∧ p' ≤ p + 30 := by
  obtain ⟨b, m, p1, ⟨K1, e1⟩, a1, a2, _⟩ := drawAnyBlock s p hs hp0 (by omega)
  obtain ⟨K2, e2⟩ := spec_ok b m
  cases d : bokB b m with
  | false =>
    obtain ⟨c, n, p', ⟨K3, e3⟩, h1, h2⟩ := two_j0 s p1 b m false hs (by omega) (by omega) (by simp)
    refine ⟨b, m, c, n, p', ⟨K1 + K2 + K3, fun k hk => ?_⟩, by omega, by omega⟩
    simp only [spec_l12Two.f]
    rw [e1 k (by omega), Option.bind_some]
    simp only []
    rw [e2 k (by omega), Option.bind_some, d, if_neg (by simp)]
    exact e3 k (by omega)
  | true =>
    obtain ⟨v, ⟨K4, e4⟩, v0, v1⟩ := pick s p1 2 hs (by omega) (by omega) (by decide) (by decide)
    obtain ⟨c, n, p', ⟨K3, e3⟩, h1, h2⟩ := two_j0 s (p1 + 1) b m (v == 0) hs (by omega) (by omega) (fun _ => bokB_true.1 d)
    refine ⟨b, m, c, n, p', ⟨K1 + K2 + K3 + K4, fun k hk => ?_⟩, by omega, by omega⟩
    simp only [spec_l12Two.f]
    rw [e1 k (by omega), Option.bind_some]
    simp only []
    rw [e2 k (by omega), Option.bind_some, d, if_pos rfl, e4 k (by omega), Option.bind_some]
    exact e3 k (by omega)
end Go.Proofs.Ytdbdbimeaabhlaa.Z
end
section
namespace Go.Proofs.Ytdbdbimeaabhlaa.Pure
open Go Go.RowKit Go.Proofs.Ytdbdbimeaabhlaa.PAll Go.Proofs.YtdbdbimeaabhlaaW.PrintWords Go.Proofs.YtdbdbimeaabhlaaW.PrintLast Go.Proofs.YtdbdbimeaabhlaaW.PrintMore Go.Proofs.Ytdbdbimeaabhlaa.Z
set_option linter.unusedVariables false
set_option linter.unusedSimpArgs false
theorem meets_comm (b m c n : Int) : meetsB c n b m = meetsB b m c n := by unfold meetsB; rw [Bool.or_comm]
theorem meets_less {b m c n : Int} (h1 : bok b m) (h2 : bok c n) (hq : oq b m c n < 32) (x : Int) : (inB x (oq b m c n + 1) b m && inB x (oq b m c n + 1) c n) = false := by
  rw [Bool.eq_false_iff]
  intro h
  rw [Bool.and_eq_true] at h
  exact over_half h1 h2 hq h.1 h.2
theorem meets_over {b m c n : Int} (h1 : bok b m) (h2 : bok c n) :
    meetsB b m c n = ((b / sz (oq b m c n) * sz (oq b m c n) == b && (oq b m c n == m)) || (b / sz (oq b m c n) * sz (oq b m c n) == c && (oq b m c n == n))) := by
  rw [Bool.eq_iff_iff]
  have e1 := over_first h1 h2
  have e2 := over_first h2 h1
  rw [← over_comm h1 h2, ← oq_comm b m c n] at e2
  simp only [meetsB, Bool.or_eq_true, Bool.and_eq_true, beq_iff_eq]
  rw [e1, e2]
theorem meets_j1 {b m c n : Int} (h1 : bok b m) (h2 : bok c n) : (∃ K_, ∀ k, K_ ≤ k → laws_FnBlockMeets.j1 k (meetsB b m c n) false b m c n (b / sz (oq b m c n) * sz (oq b m c n)) (oq b m c n) = some true) := by
  refine ⟨1, fun k hk => ?_⟩
  obtain ⟨k, rfl⟩ : ∃ j, k = j + 1 := ⟨k - 1, by omega⟩
  simp only [laws_FnBlockMeets.j1]
  rw [impl_blockIn, Option.bind_some, impl_blockIn, Option.bind_some, impl_blockIn, Option.bind_some, impl_blockIn, Option.bind_some, over_in1 h1 h2, over_in2 h1 h2]
  have hm := meets_over h1 h2
  have hd : meetsB b m c n = (inB b m c n || inB c n b m) := rfl
  revert hm hd
  generalize meetsB b m c n = x
  generalize inB b m c n = y
  generalize inB c n b m = z
  generalize (b / sz (oq b m c n) * sz (oq b m c n) == b && (oq b m c n == m)) = u
  generalize (b / sz (oq b m c n) * sz (oq b m c n) == c && (oq b m c n == n)) = v
  cases x <;> cases y <;> cases z <;> cases u <;> cases v <;> simp
theorem meets_true (l : List Int) (hw : ∀ x ∈ l, (Lit.int .u8 x).wf = true) : ∃ k, laws_FnBlockMeets.f k l = some true := by
  by_cases cl : (l.length : Int) > 1048576
  · refine ⟨0, ?_⟩
    simp only [laws_FnBlockMeets.f]
    rw [if_pos cl]
  · obtain ⟨s, h0, hs⟩ := l1Open l hw
    obtain ⟨b, m, c, n, p, ⟨K1, e1⟩, _⟩ := drawTwo s 0 hs (by omega) (by omega)
    obtain ⟨K2, e2⟩ := impl_over b m c n
    obtain ⟨K3, e3⟩ := spec_blockOver b m c n
    obtain ⟨K4, e4⟩ := spec_ok b m
    obtain ⟨K5, e5⟩ := spec_ok c n
    obtain ⟨K7, e7⟩ := impl_over c n b m
    obtain ⟨K8, e8⟩ := spec_meets b m c n
    by_cases d : bokB b m = true ∧ bokB c n = true
    · have h1 := bokB_true.1 d.1
      have h2 := bokB_true.1 d.2
      have hq := oq_bd h1 h2
      obtain ⟨K6, e6⟩ := meets_j1 h1 h2
      refine ⟨K1 + K2 + K3 + K4 + K5 + K6 + K7 + K8 + 1, ?_⟩
      simp only [laws_FnBlockMeets.f, spec_DrawBlockMeets.f]
      rw [if_neg cl, h0, Option.bind_some]
      simp only []
      rw [e1 _ (by omega), Option.bind_some]
      simp only [Option.bind_some]
      rw [impl_blockMeets, Option.bind_some, e2 _ (by omega), if_pos d, Option.bind_some, e8 _ (by omega), Option.bind_some, if_neg (by simp)]
      rw [impl_blockMeets, Option.bind_some, meets_comm b m c n, if_neg (by simp), e3 _ (by omega), if_pos d, Option.bind_some, if_neg (by simp)]
      rw [e7 _ (by omega), if_pos ⟨d.2, d.1⟩, Option.bind_some, ← over_comm h1 h2, ← oq_comm b m c n, if_neg (by simp)]
      rw [e4 _ (by omega), Option.bind_some, d.1, if_pos rfl, e5 _ (by omega), Option.bind_some, d.2]
      simp only [laws_FnBlockMeets.j0]
      rw [if_neg (by simp), impl_halves]
      have e6' := e6 (K1 + K2 + K3 + K4 + K5 + K6 + K7 + K8) (by omega)
      by_cases q : oq b m c n < 32
      · rw [if_pos ⟨bokB_true.2 (over_ok h1 h2), q⟩, Option.bind_some]
        simp only [if_true]
        have l1 := meets_less h1 h2 q (b / sz (oq b m c n) * sz (oq b m c n))
        have l2 := meets_less h1 h2 q (b / sz (oq b m c n) * sz (oq b m c n) + sz (oq b m c n + 1))
        rw [impl_blockIn, Option.bind_some, impl_blockIn, Option.bind_some, impl_blockIn, Option.bind_some, impl_blockIn, Option.bind_some]
        simp only [e6']
        revert l1 l2
        generalize inB (b / sz (oq b m c n) * sz (oq b m c n)) (oq b m c n + 1) b m = x1
        generalize inB (b / sz (oq b m c n) * sz (oq b m c n)) (oq b m c n + 1) c n = x2
        generalize inB (b / sz (oq b m c n) * sz (oq b m c n) + sz (oq b m c n + 1)) (oq b m c n + 1) b m = x3
        generalize inB (b / sz (oq b m c n) * sz (oq b m c n) + sz (oq b m c n + 1)) (oq b m c n + 1) c n = x4
        cases x1 <;> cases x2 <;> cases x3 <;> cases x4 <;> simp [e6']
      · rw [if_neg (by simp [q]), Option.bind_some]
        simp only [Bool.false_eq_true, if_false]
        exact e6'
    · have d' : ¬ (bokB c n = true ∧ bokB b m = true) := fun h => d ⟨h.2, h.1⟩
      refine ⟨K1 + K2 + K3 + K4 + K5 + K7 + K8 + 1, ?_⟩
      simp only [laws_FnBlockMeets.f, spec_DrawBlockMeets.f]
      rw [if_neg cl, h0, Option.bind_some]
      simp only []
      rw [e1 _ (by omega), Option.bind_some]
      simp only [Option.bind_some]
      rw [impl_blockMeets, Option.bind_some, e2 _ (by omega), if_neg d, Option.bind_some, e8 _ (by omega), Option.bind_some, if_neg (by simp)]
      rw [impl_blockMeets, Option.bind_some, meets_comm b m c n, if_neg (by simp), e3 _ (by omega), if_neg d, Option.bind_some, if_neg (by simp)]
      rw [e7 _ (by omega), if_neg d', Option.bind_some, if_neg (by simp)]
      rw [e4 _ (by omega), Option.bind_some]
      have hj : laws_FnBlockMeets.j0 (K1 + K2 + K3 + K4 + K5 + K7 + K8 + 1) (meetsB b m c n) true b m c n 0 0 = some true := by
        simp only [laws_FnBlockMeets.j0]
        rw [if_pos trivial, e8 _ (by omega), Option.bind_some, if_pos (by simp), impl_blockMeets, Option.bind_some, meets_comm b m c n, if_pos (by simp), e3 _ (by omega), if_neg d, Option.bind_some, if_pos (by simp), e7 _ (by omega), if_neg d', Option.bind_some]
        rfl
      cases d1 : bokB b m with
      | false => rw [if_neg (by simp)]; exact hj
      | true =>
        rw [if_pos rfl, e5 _ (by omega), Option.bind_some]
        have d2 : bokB c n = false := by
          rw [Bool.eq_false_iff]; exact fun h => d ⟨d1, h⟩
        rw [d2]
        exact hj
theorem FnBlockMeets : laws_FnBlockMeets.Pure := by
  intro l hl hl2 hw
  obtain ⟨k0, hk0⟩ := meets_true l hw
  obtain ⟨s, h0, hs⟩ := l1Open l hw
  obtain ⟨b, m, c, n, p, ⟨K1, e1⟩, _⟩ := drawTwo s 0 hs (by omega) (by omega)
  obtain ⟨K2, e2⟩ := impl_over b m c n
  obtain ⟨K3, e3⟩ := spec_blockOver b m c n
  obtain ⟨K7, e7⟩ := impl_over c n b m
  obtain ⟨K8, e8⟩ := spec_meets b m c n
  have e0 : ∀ k, K1 ≤ k → spec_DrawBlockMeets.f k l = some (b, m, c, n) := by
    intro k hk
    simp only [spec_DrawBlockMeets.f]
    rw [h0, Option.bind_some]
    simp only []
    rw [e1 k hk, Option.bind_some]
  refine ⟨k0 + K1 + K2 + K3 + K7 + K8, at_rounds (g := fun k => laws_FnBlockMeets.f k l) (laws_FnBlockMeets.mono l) (by omega) hk0, ?_, ?_, ?_, ?_⟩
  · intro t101 t102 t103 t104 t107 t108 t109 t111 a1 a2 a3 a4
    rw [e0 _ (by omega)] at a1
    simp only [Option.some.injEq, Prod.mk.injEq] at a1
    obtain ⟨rfl, rfl, rfl, rfl⟩ := a1
    rw [impl_blockMeets] at a2
    rw [e8 _ (by omega)] at a4
    rw [← Option.some.inj a2, ← Option.some.inj a4]
    simp
  · intro t101 t102 t103 t104 t107 t108 t109 t111 t112 a1 a2 a3 a4 a5
    rw [e0 _ (by omega)] at a1
    simp only [Option.some.injEq, Prod.mk.injEq] at a1
    obtain ⟨rfl, rfl, rfl, rfl⟩ := a1
    rw [impl_blockMeets] at a2 a5
    rw [← Option.some.inj a2, ← Option.some.inj a5, meets_comm]
    simp
  · intro t101 t102 t103 t104 t107 t108 t109 t111 t112 t113 t114 a1 a2 a3 a4 a5 a6
    rw [e0 _ (by omega)] at a1
    simp only [Option.some.injEq, Prod.mk.injEq] at a1
    obtain ⟨rfl, rfl, rfl, rfl⟩ := a1
    rw [e2 _ (by omega)] at a3
    rw [e3 _ (by omega)] at a6
    have a7 := Option.some.inj (a3.symm.trans a6)
    simp only [Prod.mk.injEq] at a7
    simp [a7.1, a7.2]
  · intro t101 t102 t103 t104 t107 t108 t109 t111 t112 t113 t114 t115 t116 a1 a2 a3 a4 a5 a6 a7
    rw [e0 _ (by omega)] at a1
    simp only [Option.some.injEq, Prod.mk.injEq] at a1
    obtain ⟨rfl, rfl, rfl, rfl⟩ := a1
    rw [e2 _ (by omega)] at a3
    rw [e7 _ (by omega)] at a7
    have h : (if bokB b m = true ∧ bokB c n = true then (b / sz (oq b m c n) * sz (oq b m c n), oq b m c n) else (0, 0)) = (if bokB c n = true ∧ bokB b m = true then (c / sz (oq c n b m) * sz (oq c n b m), oq c n b m) else ((0 : Int), (0 : Int))) := by
      by_cases d : bokB b m = true ∧ bokB c n = true
      · have d' : bokB c n = true ∧ bokB b m = true := ⟨d.2, d.1⟩
        rw [if_pos d, if_pos d', ← over_comm (bokB_true.1 d.1) (bokB_true.1 d.2), ← oq_comm b m c n]
      · have d' : ¬ (bokB c n = true ∧ bokB b m = true) := fun h => d ⟨h.2, h.1⟩
        rw [if_neg d, if_neg d']
    rw [h] at a3
    have a8 := Option.some.inj (a7.symm.trans a3)
    simp only [Prod.mk.injEq] at a8
    simp [a8.1, a8.2]
end Go.Proofs.Ytdbdbimeaabhlaa.Pure
end
