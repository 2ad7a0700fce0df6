/- Contracts of the functions that the statement reaches, printed by a program out of the translation and joined with the plain laws. -/
import Derived.Laws.BitsAllLaws
import Derived.RowKit
import Derived.Test.YtioghacieopbdaaCFnRulesFirst0
import Derived.Test.YtioghacieopbdaaCFnRulesFirst2
import Derived.Test.YtioghacieopbdaaCFnRulesFirst3
section
namespace Go.Proofs.Ytioghacieopbdaa.PAll
open Go.RowKit Go.Proofs.YtioghacieopbdaaW.PrintWords Go.Proofs.YtioghacieopbdaaW.PrintLast Go.Proofs.YtioghacieopbdaaW.PrintMore
attribute [local go_sem] max2_int min2_int max_two min_two max_three min_three max_four min_four   -- for this text's walks alone
set_option linter.unusedVariables false
set_option linter.unusedSimpArgs false
/-- The place of the first element of which p holds, from i on; -1. -/
def findO {α : Type} (p : α → Option Bool) : List α → Int → Option Int
  | [], _ => some (-1)
  | x :: xs, i => (p x).bind fun b => if b = true then some i else findO p xs (i + 1)
/-- Does p hold of some element? -/
def anyO {α : Type} (p : α → Option Bool) : List α → Option Bool
  | [] => some false
  | x :: xs => (p x).bind fun b => if b = true then some true else anyO p xs
theorem findO_any {α : Type} (p : α → Option Bool) : ∀ (l : List α) (i : Int) (r : Bool), 0 ≤ i → anyO p l = some r → ∃ v, findO p l i = some v ∧ decide (0 ≤ v) = r
  | [], i, r, _, h => by
    simp only [anyO, Option.some.injEq] at h
    exact ⟨-1, rfl, by rw [← h]; rfl⟩
  | x :: xs, i, r, hi, h => by
    simp only [anyO, Option.bind_eq_some_iff] at h
    obtain ⟨b, hb, h⟩ := h
    simp only [findO, hb, Option.bind_some]
    cases b with
    | true => exact ⟨i, rfl, by simp at h; rw [h]; simp [hi]⟩
    | false =>
      simp only [Bool.false_eq_true, if_false] at h ⊢
      exact findO_any p xs (i + 1) r (by omega) h
end Go.Proofs.Ytioghacieopbdaa.PAll
end
section
namespace Go.Proofs.Ytioghacieopbdaa.Z
open Go Go.RowKit Go.Proofs.YtioghacieopbdaaW.PrintWords Go.Proofs.YtioghacieopbdaaW.PrintMore
set_option linter.unusedVariables false
set_option linter.unusedSimpArgs false
theorem w64 {n : Int} (h : -9223372036854775808 ≤ n ∧ n ≤ 9223372036854775807) : wrap64 n = n := by unfold wrap64; omega
/-- The number of addresses of a block of so many bits. -/
def sz (m : Int) : Int := 2 ^ (32 - m).toNat
theorem sz_0 : sz 0 = 4294967296 := rfl
theorem sz_pos (m : Int) : 1 ≤ sz m := by
  unfold sz
  have : (0 : Int) < 2 ^ (32 - m).toNat := Int.pow_pos (by decide)
  omega
theorem sz_dvd {m n : Int} (h : m ≤ n) : sz n ∣ sz m := by
  unfold sz
  obtain ⟨j, e⟩ : ∃ j : Nat, (32 - m).toNat = (32 - n).toNat + j := ⟨(32 - m).toNat - (32 - n).toNat, by omega⟩
  rw [e, Int.pow_add]
  exact Int.dvd_mul_right _ _
theorem sz_le {m n : Int} (h : m ≤ n) : sz n ≤ sz m := Int.le_of_dvd (by have := sz_pos m; omega) (sz_dvd h)
theorem sz_top {m : Int} (h0 : 0 ≤ m) : sz m ≤ 4294967296 := sz_le h0
/-- A block that is valid. -/
def bok (b m : Int) : Prop := 0 ≤ b ∧ b ≤ 4294967295 ∧ 0 ≤ m ∧ m ≤ 32 ∧ b % sz m = 0
instance (b m : Int) : Decidable (bok b m) := by unfold bok; exact inferInstance
def bokB (b m : Int) : Bool := decide (bok b m)
theorem bokB_true {b m : Int} : bokB b m = true ↔ bok b m := by simp [bokB]
theorem bokB_false {b m : Int} : bokB b m = false ↔ ¬ bok b m := by simp [bokB]
theorem bok.mk' {b m : Int} (h0 : 0 ≤ b) (h1 : b ≤ 4294967295) (h2 : 0 ≤ m) (h3 : m ≤ 32) (h4 : sz m ∣ b) : bok b m := ⟨h0, h1, h2, h3, Int.emod_eq_zero_of_dvd h4⟩
theorem i64_xor_nat (a b : Nat) (ha : a < 9223372036854775808) (hb : b < 9223372036854775808) : bits .xor .i64 (a : Int) (b : Int) = ((a ^^^ b : Nat) : Int) := by
  have hx : a ^^^ b < 2 ^ 63 := Nat.xor_lt_two_pow (by omega) (by omega)
  show IntKind.i64.wrap ((BitVec.ofInt 64 (a : Int) ^^^ BitVec.ofInt 64 (b : Int)).toNat : Int) = _
  rw [BitVec.toNat_xor, ofInt_u64 a (by omega), ofInt_u64 b (by omega), IntKind.wrap_i64]
  omega
theorem i64_xor (a b : Int) (h1 : 0 ≤ a) (h2 : a < 9223372036854775808) (h3 : 0 ≤ b) (h4 : b < 9223372036854775808) : bits .xor .i64 a b = ((a.toNat ^^^ b.toNat : Nat) : Int) := by
  obtain ⟨A, rfl⟩ := Int.eq_ofNat_of_zero_le h1
  obtain ⟨B, rfl⟩ := Int.eq_ofNat_of_zero_le h3
  simpa using i64_xor_nat A B (by omega) (by omega)
theorem shl_one {x : Int} (h0 : 0 ≤ x) (h1 : x ≤ 62) : shl .i64 1 x = 2 ^ x.toNat := by
  have e : min x.toNat IntKind.i64.bits = x.toNat := by
    have : IntKind.i64.bits = 64 := rfl
    omega
  unfold shl
  rw [e, IntKind.wrap_i64, Int.one_mul]
  have hp : (2 : Int) ^ x.toNat ≤ 2 ^ 62 := by
    exact_mod_cast Nat.pow_le_pow_right (n := 2) (by decide) (by omega : x.toNat ≤ 62)
  have hq : (0 : Int) < 2 ^ x.toNat := Int.pow_pos (by decide)
  omega
theorem shl_sz {m : Int} (h0 : 0 ≤ m) (h1 : m ≤ 32) : shl .i64 1 (32 - m) = sz m := by
  rw [shl_one (by omega) (by omega)]; rfl
theorem Ev.all {α : Type} {g : Nat → Option α} {r : α} (h : ∀ k, g k = some r) : Ev g r := ⟨0, fun k _ => h k⟩
end Go.Proofs.Ytioghacieopbdaa.Z
end
section
namespace Go.Proofs.Ytioghacieopbdaa.Z
open Go Go.RowKit Go.Proofs.Ytioghacieopbdaa.PAll Go.Proofs.YtioghacieopbdaaW.PrintWords Go.Proofs.YtioghacieopbdaaW.PrintLast Go.Proofs.YtioghacieopbdaaW.PrintMore
set_option linter.unusedVariables false
set_option linter.unusedSimpArgs false
/-- Bytes that are drawn from. -/
def Bytes (s : List Int) : Prop := (∀ x ∈ s, 0 ≤ x ∧ x ≤ 255) ∧ s.length ≤ 2000
theorem rd_byte {s : List Int} (h : Bytes s) (i : Int) : 0 ≤ rd s i ∧ rd s i ≤ 255 := by
  unfold rd
  rw [List.getD_eq_getElem?_getD]
  cases e : s[i.toNat]? with
  | none => simp
  | some x => simpa using h.1 x (List.mem_of_getElem? e)
theorem pick_aux (k : Nat) (s : List Int) (p n : Int) (hs : Bytes s) (hp0 : 0 ≤ p) (hp1 : p ≤ 1000000000000) (hn0 : 1 ≤ n) (hn1 : n ≤ 2147483648) :
    ∃ v, spec_l1Rd_pick.f (k + 1) s p n = some (v, p + 1) ∧ 0 ≤ v ∧ v < n := by
  have e1 : wrap64 (p + 1) = p + 1 := w64 (by omega)
  have e2 : wrap64 (p + 1 - 1) = p := by rw [w64 (by omega)]; omega
  unfold spec_l1Rd_pick.f
  rw [if_neg (by omega), e1]
  simp only [spec_l1Rd_pick.j0, e2]
  by_cases h0 : (s.length : Int) = 0
  · rw [if_pos (beq_iff_eq.2 h0)]
    exact ⟨0, rfl, by omega, by omega⟩
  · rw [if_neg (fun h => h0 (beq_iff_eq.1 h))]
    have hl := hs.2
    by_cases h1 : p < (s.length : Int)
    · rw [if_pos h1, if_pos hp0, if_neg (by omega)]
      have hb := rd_byte hs p
      rw [w64 (by omega), Int.tmod_eq_emod_of_nonneg (by omega)]
      exact ⟨_, rfl, Int.emod_nonneg _ (by omega), Int.emod_lt_of_pos _ (by omega)⟩
    · have e3 : wrap64 (p * 7) = p * 7 := w64 (by omega)
      have e4 : wrap64 (p * 7 + 3) = p * 7 + 3 := w64 (by omega)
      have e5 : wrap64 (p * 29) = p * 29 := w64 (by omega)
      have d1 : Int.tmod p (s.length : Int) = p % (s.length : Int) := Int.tmod_eq_emod_of_nonneg hp0
      have d2 : Int.tmod (p * 7 + 3) (s.length : Int) = (p * 7 + 3) % (s.length : Int) := Int.tmod_eq_emod_of_nonneg (by omega)
      have d3 : Int.tdiv p (s.length : Int) = p / (s.length : Int) := Int.tdiv_eq_ediv_of_nonneg hp0
      have q0 : 0 ≤ p / (s.length : Int) := Int.ediv_nonneg hp0 (by omega)
      have q1 : p / (s.length : Int) ≤ p := Int.ediv_le_self _ hp0
      have r0 := Int.emod_nonneg p h0
      have r1 := Int.emod_lt_of_pos p (by omega : 0 < (s.length : Int))
      have r2 := Int.emod_nonneg (p * 7 + 3) h0
      have r3 := Int.emod_lt_of_pos (p * 7 + 3) (by omega : 0 < (s.length : Int))
      have b1 := rd_byte hs (p % (s.length : Int))
      have b2 := rd_byte hs ((p * 7 + 3) % (s.length : Int))
      have c1 : wrap64 (rd s (p % (s.length : Int))) = rd s (p % (s.length : Int)) := w64 (by omega)
      have c2 : wrap64 (rd s ((p * 7 + 3) % (s.length : Int))) = rd s ((p * 7 + 3) % (s.length : Int)) := w64 (by omega)
      have c3 : wrap64 (p / (s.length : Int)) = p / (s.length : Int) := w64 (by omega)
      have e6 : wrap64 (p / (s.length : Int) * 53) = p / (s.length : Int) * 53 := w64 (by omega)
      have e7 : wrap64 (rd s (p % (s.length : Int)) * 131) = rd s (p % (s.length : Int)) * 131 := w64 (by omega)
      have e8 : wrap64 (rd s ((p * 7 + 3) % (s.length : Int)) * 1117) = rd s ((p * 7 + 3) % (s.length : Int)) * 1117 := w64 (by omega)
      rw [if_neg h1, if_neg h0]
      simp only [d1, d2, d3, e3, e4, c1, c2, c3, e5, e6, e7, e8]
      rw [if_pos r0, if_pos r1, if_pos r2, if_pos r3, if_neg (by omega)]
      generalize rd s (p % (s.length : Int)) = x at *
      generalize rd s ((p * 7 + 3) % (s.length : Int)) = y at *
      generalize p / (s.length : Int) = z at *
      have f1 : wrap64 (x * 131 + y * 1117) = x * 131 + y * 1117 := w64 (by omega)
      have f2 : wrap64 (x * 131 + y * 1117 + p * 29) = x * 131 + y * 1117 + p * 29 := w64 (by omega)
      have f3 : wrap64 (x * 131 + y * 1117 + p * 29 + z * 53) = x * 131 + y * 1117 + p * 29 + z * 53 := w64 (by omega)
      simp only [f1, f2, f3]
      generalize hX : x * 131 + y * 1117 + p * 29 + z * 53 = X at *
      have g1 : Int.tdiv X 64 = X / 64 := Int.tdiv_eq_ediv_of_nonneg (by omega)
      have g2 : wrap64 (X / 64) = X / 64 := w64 (by omega)
      rw [g1, g2, i64_xor X (X / 64) (by omega) (by omega) (by omega) (by omega), Int.tmod_eq_emod_of_nonneg (by omega)]
      exact ⟨_, rfl, Int.emod_nonneg _ (by omega), Int.emod_lt_of_pos _ (by omega)⟩
/-- A number is drawn. -/
theorem pick (s : List Int) (p n : Int) (hs : Bytes s) (hp0 : 0 ≤ p) (hp1 : p ≤ 1000000000000) (hn0 : 1 ≤ n) (hn1 : n ≤ 2147483648) :
    ∃ v, (∃ K_, ∀ k, K_ ≤ k → spec_l1Rd_pick.f k s p n = some (v, p + 1)) ∧ 0 ≤ v ∧ v < n := by
  obtain ⟨v, h, h0, h1⟩ := pick_aux 0 s p n hs hp0 hp1 hn0 hn1
  exact ⟨v, Ev.of (spec_l1Rd_pick.mono s p n) h, h0, h1⟩
/-- A number of a list is drawn. -/
theorem one (s : List Int) (p : Int) (l : List Int) (hs : Bytes s) (hp0 : 0 ≤ p) (hp1 : p ≤ 1000000000000) (hl0 : 1 ≤ l.length) (hl1 : l.length ≤ 2147483648) :
    ∃ v, (∃ K_, ∀ k, K_ ≤ k → spec_l1Rd_one.f k s p l = some (v, p + 1)) ∧ v ∈ l := by
  obtain ⟨v, ⟨K, h⟩, h0, h1⟩ := pick s p l.length hs hp0 hp1 (by omega) (by omega)
  refine ⟨rd l v, ⟨K, fun k hk => ?_⟩, ?_⟩
  · simp only [spec_l1Rd_one.f, h k hk, Option.bind_some]
    rw [if_pos h0, if_pos h1]
  · unfold rd
    rw [List.getD_eq_getElem?_getD, List.getElem?_eq_getElem (by omega)]
    exact List.getElem_mem _
end Go.Proofs.Ytioghacieopbdaa.Z
end
section
namespace Go.Proofs.Ytioghacieopbdaa.Z
open Go Go.RowKit Go.Proofs.YtioghacieopbdaaW.PrintWords Go.Proofs.YtioghacieopbdaaW.PrintMore
set_option linter.unusedVariables false
set_option linter.unusedSimpArgs false
/-- What a walk of some number of rounds answers: step by step. -/
theorem evB {α β : Type} {g : Nat → Option α} {h : α → Nat → Option β} {a : α} {r : β} (e : ∃ K, ∀ k, K ≤ k → g k = some a) (f : ∃ K, ∀ k, K ≤ k → h a k = some r) : ∃ K, ∀ k, K ≤ k → ((g k).bind fun x => h x k) = some r := by
  obtain ⟨K1, e⟩ := e
  obtain ⟨K2, f⟩ := f
  exact ⟨K1 + K2, fun k hk => by rw [e k (by omega), Option.bind_some, f k (by omega)]⟩
theorem evS {α β : Type} {g : Option α} {h : α → Nat → Option β} {a : α} {r : β} (e : g = some a) (f : ∃ K, ∀ k, K ≤ k → h a k = some r) : ∃ K, ∀ k, K ≤ k → (g.bind fun x => h x k) = some r := by
  obtain ⟨K2, f⟩ := f
  exact ⟨K2, fun k hk => by rw [e, Option.bind_some, f k (by omega)]⟩
theorem evP {α : Type} {c : Prop} [Decidable c] {g h : Nat → Option α} {r : α} (hc : c) (f : ∃ K, ∀ k, K ≤ k → g k = some r) : ∃ K, ∀ k, K ≤ k → (if c then g k else h k) = some r := by
  obtain ⟨K2, f⟩ := f
  exact ⟨K2, fun k hk => by rw [if_pos hc, f k (by omega)]⟩
theorem evN {α : Type} {c : Prop} [Decidable c] {g h : Nat → Option α} {r : α} (hc : ¬c) (f : ∃ K, ∀ k, K ≤ k → h k = some r) : ∃ K, ∀ k, K ≤ k → (if c then g k else h k) = some r := by
  obtain ⟨K2, f⟩ := f
  exact ⟨K2, fun k hk => by rw [if_neg hc, f k (by omega)]⟩
theorem evI {α : Type} {c : Prop} [Decidable c] {g h : Nat → Option α} {r : α} (f : c → ∃ K, ∀ k, K ≤ k → g k = some r) (f' : ¬c → ∃ K, ∀ k, K ≤ k → h k = some r) : ∃ K, ∀ k, K ≤ k → (if c then g k else h k) = some r := by
  by_cases hc : c
  · exact evP hc (f hc)
  · exact evN hc (f' hc)
theorem ev1 {α : Type} {f : Nat → Option α} {r : α} (h : ∃ K, ∀ k, K ≤ k → f (k + 1) = some r) : ∃ K, ∀ k, K ≤ k → f k = some r := by
  obtain ⟨K, h⟩ := h
  exact ⟨K + 1, fun k hk => by obtain ⟨j, rfl⟩ : ∃ j, k = j + 1 := ⟨k - 1, by omega⟩; exact h j (by omega)⟩
theorem evR {α : Type} {r q : α} (h : r = q) : ∃ K : Nat, ∀ k, K ≤ k → some r = some q := ⟨0, fun _ _ => by rw [h]⟩
/-- A walk of some number of rounds answers something of which Q holds. -/
def Dr {α : Type} (g : Nat → Option α) (Q : α → Prop) : Prop := ∃ r, (∃ K, ∀ k, K ≤ k → g k = some r) ∧ Q r
theorem drB {α β : Type} {g : Nat → Option α} {h : α → Nat → Option β} {a : α} {Q : β → Prop} (e : ∃ K, ∀ k, K ≤ k → g k = some a) (f : Dr (h a) Q) : Dr (fun k => (g k).bind fun x => h x k) Q := by
  obtain ⟨r, f, q⟩ := f
  exact ⟨r, evB e f, q⟩
theorem drS {α β : Type} {g : Option α} {h : α → Nat → Option β} {a : α} {Q : β → Prop} (e : g = some a) (f : Dr (h a) Q) : Dr (fun k => g.bind fun x => h x k) Q := by
  obtain ⟨r, f, q⟩ := f
  exact ⟨r, evS e f, q⟩
theorem drP {α : Type} {c : Prop} [Decidable c] {g h : Nat → Option α} {Q : α → Prop} (hc : c) (f : Dr g Q) : Dr (fun k => if c then g k else h k) Q := by
  obtain ⟨r, f, q⟩ := f
  exact ⟨r, evP hc f, q⟩
theorem drN {α : Type} {c : Prop} [Decidable c] {g h : Nat → Option α} {Q : α → Prop} (hc : ¬c) (f : Dr h Q) : Dr (fun k => if c then g k else h k) Q := by
  obtain ⟨r, f, q⟩ := f
  exact ⟨r, evN hc f, q⟩
theorem drI {α : Type} {c : Prop} [Decidable c] {g h : Nat → Option α} {Q : α → Prop} (f : c → Dr g Q) (f' : ¬c → Dr h Q) : Dr (fun k => if c then g k else h k) Q := by
  by_cases hc : c
  · exact drP hc (f hc)
  · exact drN hc (f' hc)
theorem dr1 {α : Type} {f : Nat → Option α} {Q : α → Prop} (h : Dr (fun k => f (k + 1)) Q) : Dr f Q := by
  obtain ⟨r, f, q⟩ := h
  exact ⟨r, ev1 f, q⟩
theorem drR {α : Type} {r : α} {Q : α → Prop} (h : Q r) : Dr (fun _ => some r) Q := ⟨r, ⟨0, fun _ _ => rfl⟩, h⟩
theorem Dr.imp {α : Type} {g : Nat → Option α} {P Q : α → Prop} (h : Dr g P) (f : ∀ x, P x → Q x) : Dr g Q := by
  obtain ⟨r, e, q⟩ := h
  exact ⟨r, e, f r q⟩
end Go.Proofs.Ytioghacieopbdaa.Z
end
