/- Contracts of the functions that the statement reaches, printed by a program out of the translation and joined with the plain laws. -/
import Derived.Deep.Slices
import Derived.Deep.Fields
import Derived.ChangeSame
import Derived.ChangeArms
import Derived.Laws.BitsAllLaws
import Derived.RowKit
import Derived.Test.YtioghacieopbdaaCFnExactWaysLess0
import Derived.Test.YtioghacieopbdaaCFnExactWaysLess2
import Derived.Test.YtioghacieopbdaaCFnExactWaysLess3
import Derived.Test.YtioghacieopbdaaCFnExactWaysLess4
import Derived.Test.YtioghacieopbdaaCFnExactWaysLess5
section
namespace Go.Proofs.Ytioghacieopbdaa.PAll
open Go.RowKit Go.Proofs.YtioghacieopbdaaW.PrintWords Go.Proofs.YtioghacieopbdaaW.PrintLast Go.Proofs.YtioghacieopbdaaW.PrintMore
attribute [local go_sem] max2_int min2_int max_two min_two max_three min_three max_four min_four   -- for this text's walks alone
set_option linter.unusedVariables false
set_option linter.unusedSimpArgs false
/-- Whatever reads as a datum of the type is a value of the kind. -/
def Rdr {α : Type} (d : Kd α) (P : Program) (w : World) (t : TypeId) (WF : α → Prop) : Prop :=
  ∀ {H : Type} {enc : TypeId × Value → H} {base : Nat} {spare : Nat → Bool} {held : Bool} {fuel : Nat} {cs : List Value} {x : DataW H × List MemPlace}, DataW.trod enc P w base spare held fuel t cs = some x → ∃ v, d.K w v cs ∧ WF v
theorem Rdr.get {α : Type} {d : Kd α} {P : Program} {w : World} {t : TypeId} {WF : α → Prop} (r : Rdr d P w t WF) {H : Type} {enc : TypeId × Value → H} {base : Nat} {spare : Nat → Bool} {held : Bool} {fuel : Nat} (cs : List Value) {x : DataW H × List MemPlace} (h : DataW.trod enc P w base spare held fuel t cs = some x) : ∃ v, d.K w v cs ∧ WF v := r h
theorem rdr_int {k : IntKind} {P : Program} {w : World} {t : TypeId} (ht : P.underlying t = some (.int k)) : Rdr (Kd.int k) P w t (fun n => (Lit.int k n).wf = true) := by
  intro H enc base spare held fuel cs x h
  obtain ⟨n, hc, _, hw⟩ := DataW.trod_int ht h
  exact ⟨n, hc, hw⟩
theorem rdr_slice {α : Type} {d : Kd α} {P : Program} {w : World} {t e : TypeId} {WF : α → Prop} (z : α) (ht : P.underlying t = some (.slice e)) (hc : P.cellsOf e = d.sz) (he : Rdr d P w e WF) :
    Rdr (Kd.slice e d) P w t (fun xs => xs.length ≤ maxLen ∧ ∀ x ∈ xs, WF x) := by
  intro H enc base spare held fuel cs x h
  rcases Go.Deep.open_slice ht h with ⟨rfl, _⟩ | ⟨a, len, cap, m, n, D, Pl, rfl, hb, hl, hm, hmm, _, hi⟩
  · exact ⟨[], ⟨none, 0, rfl, Nat.le_refl _, Kd.C_nil _ _⟩, by simp, by simp⟩
  · have hlm : len ≤ m := by rw [hmm]; split <;> omega
    haveI : Inhabited α := ⟨z⟩
    obtain ⟨f, hf⟩ : ∃ f : Nat → α, ∀ i, i < len → WF (f i) ∧ ∃ cs', cs'.length = d.sz ∧ d.K w (f i) cs' ∧ ∀ j u, cs'[j]? = some u → w.cell? (a.add (i * d.sz + j)) = some u := by
      refine Go.Deep.choose_lt (p := fun i x => WF x ∧ ∃ cs', cs'.length = d.sz ∧ d.K w x cs' ∧ ∀ j u, cs'[j]? = some u → w.cell? (a.add (i * d.sz + j)) = some u) ?_
      intro i hlt
      obtain ⟨cs', hcell, htrod⟩ := hi i (by omega)
      obtain ⟨v, hk, hw⟩ := he htrod
      rw [hc] at hcell
      obtain ⟨_, hcl, hat⟩ := World.cells?_some hcell
      refine ⟨v, hw, cs', hcl, hk, fun j u hj => ?_⟩
      have hjl : j < cs'.length := (List.getElem?_eq_some_iff.1 hj).1
      have := hat j (by omega)
      rw [← Go.Deep.add_add, this, hj]
    have hlen : ((List.range len).map f).length = len := by simp
    refine ⟨(List.range len).map f, ⟨some a, cap, by rw [hlen], by rw [hlen]; exact hl, ?_⟩, by rw [hlen]; omega, ?_⟩
    · rw [hlen]
      refine ⟨hlen, by unfold maxLen at hm; omega, fun _ => ⟨a, rfl, fun j p hj => ?_⟩⟩
      have hjl : j < len := by have := (List.getElem?_eq_some_iff.1 hj).1; omega
      have hp : f j = p := by simpa [List.getElem?_map, List.getElem?_range hjl] using hj
      subst hp
      obtain ⟨_, cs', h1, h2, h3⟩ := hf j hjl
      exact ⟨cs', h1, h2, h3⟩
    · intro v hv
      obtain ⟨i, hi', rfl⟩ := List.mem_map.1 hv
      exact (hf i (List.mem_range.1 hi')).1
theorem rdr_field {H : Type} {enc : TypeId × Value → H} {P : Program} {w : World} {base : Nat} {spare : Nat → Bool} {held : Bool} {fuel : Nat} {t : TypeId} {cs : List Value} {x : DataW H × List MemPlace} {fs : Array Field} (hu : P.underlying t = some (.struct fs))
    (h : DataW.trod enc P w base spare held fuel t cs = some x) (i : Nat) (f : Field) (hi : fs[i]? = some f) (c : Nat) (hc : P.cellsOf f.type = c) : ∃ n y, DataW.trod enc P w base spare held n f.type ((cs.drop f.offset).take c) = some y := by
  obtain ⟨xs, n, _, _, _, hl, hf⟩ := DataW.trod_struct hu h
  have hil : i < xs.length := by rw [hl]; exact (Array.getElem?_eq_some_iff.1 hi).1
  have := hf i f hi
  rw [hc, List.getElem?_eq_getElem hil] at this
  exact ⟨n, _, this⟩
theorem rdr_cells {H : Type} {enc : TypeId × Value → H} {P : Program} {w : World} {base : Nat} {spare : Nat → Bool} {held : Bool} {fuel : Nat} {t : TypeId} {cs : List Value} {x : DataW H × List MemPlace} {fs : Array Field} (hu : P.underlying t = some (.struct fs))
    (h : DataW.trod enc P w base spare held fuel t cs = some x) (c : Nat) (hc : P.cellsOf t = c) : cs.length = c := by
  obtain ⟨xs, n, _, _, hl, _, _⟩ := DataW.trod_struct hu h
  rw [hl, hc]
def wfT110 (v : S110) : Prop := (Lit.int .i64 v.f0).wf = true ∧ (Lit.int .i64 v.f1).wf = true
theorem rdr_T110 (w : World) : Rdr k110 Try.prog w 110 wfT110 := by
  intro H enc base spare held fuel cs x h
  have hlen := rdr_cells Try.underlying110 h 2 (by kernel_rfl)
  match cs, hlen with
  | [c0_, c1_], _ =>
    obtain ⟨n0, y0, h0⟩ := rdr_field Try.underlying110 h 0 _ rfl 1 (by kernel_rfl)
    obtain ⟨v0, k0_, w0⟩ := Rdr.get (rdr_int Try.underlying3) [c0_] h0
    obtain ⟨n1, y1, h1⟩ := rdr_field Try.underlying110 h 1 _ rfl 1 (by kernel_rfl)
    obtain ⟨v1, k1_, w1⟩ := Rdr.get (rdr_int Try.underlying3) [c1_] h1
    exact ⟨⟨v0, v1⟩, ⟨[c0_], [c1_], rfl, k0_, k1_⟩, ⟨w0, w1⟩⟩
def wfT128 (v : S128) : Prop := wfT110 v.f0 ∧ (Lit.int .i64 v.f1).wf = true
theorem rdr_T128 (w : World) : Rdr k128 Try.prog w 128 wfT128 := by
  intro H enc base spare held fuel cs x h
  have hlen := rdr_cells Try.underlying128 h 3 (by kernel_rfl)
  match cs, hlen with
  | [c0_, c1_, c2_], _ =>
    obtain ⟨n0, y0, h0⟩ := rdr_field Try.underlying128 h 0 _ rfl 2 (by kernel_rfl)
    obtain ⟨v0, k0_, w0⟩ := Rdr.get (rdr_T110 w) [c0_, c1_] h0
    obtain ⟨n1, y1, h1⟩ := rdr_field Try.underlying128 h 1 _ rfl 1 (by kernel_rfl)
    obtain ⟨v1, k1_, w1⟩ := Rdr.get (rdr_int Try.underlying3) [c2_] h1
    exact ⟨⟨v0, v1⟩, ⟨[c0_, c1_], [c2_], rfl, k0_, k1_⟩, ⟨w0, w1⟩⟩
end Go.Proofs.Ytioghacieopbdaa.PAll
end
section
namespace Go.Proofs.Ytioghacieopbdaa.Z
open Go Go.RowKit Go.Proofs.YtioghacieopbdaaW.PrintWords Go.Proofs.YtioghacieopbdaaW.PrintMore
set_option linter.unusedVariables false
set_option linter.unusedSimpArgs false
theorem w64 {n : Int} (h : -9223372036854775808 ≤ n ∧ n ≤ 9223372036854775807) : wrap64 n = n := by unfold wrap64; omega
/-- The number of addresses of a block of so many bits. -/
def sz (m : Int) : Int := 2 ^ (32 - m).toNat
theorem sz_pos (m : Int) : 1 ≤ sz m := by
  unfold sz
  have : (0 : Int) < 2 ^ (32 - m).toNat := Int.pow_pos (by decide)
  omega
theorem sz_dvd {m n : Int} (h : m ≤ n) : sz n ∣ sz m := by
  unfold sz
  obtain ⟨j, e⟩ : ∃ j : Nat, (32 - m).toNat = (32 - n).toNat + j := ⟨(32 - m).toNat - (32 - n).toNat, by omega⟩
  rw [e, Int.pow_add]
  exact Int.dvd_mul_right _ _
theorem sz_le {m n : Int} (h : m ≤ n) : sz n ≤ sz m := Int.le_of_dvd (by have := sz_pos m; omega) (sz_dvd h)
theorem sz_top {m : Int} (h0 : 0 ≤ m) : sz m ≤ 4294967296 := sz_le h0
theorem sz_dvd_top {m : Int} (h0 : 0 ≤ m) : sz m ∣ 4294967296 := sz_dvd h0
/-- A block that is valid. -/
def bok (b m : Int) : Prop := 0 ≤ b ∧ b ≤ 4294967295 ∧ 0 ≤ m ∧ m ≤ 32 ∧ b % sz m = 0
instance (b m : Int) : Decidable (bok b m) := by unfold bok; exact inferInstance
def bokB (b m : Int) : Bool := decide (bok b m)
theorem bokB_true {b m : Int} : bokB b m = true ↔ bok b m := by simp [bokB]
theorem bokB_false {b m : Int} : bokB b m = false ↔ ¬ bok b m := by simp [bokB]
/-- Multiples of a size lie a size apart. -/
theorem mult_apart {s a b : Int} (hs : 0 < s) (ha : s ∣ a) (hb : s ∣ b) (h : a < b) : a + s ≤ b := by
  obtain ⟨x, rfl⟩ := ha
  obtain ⟨y, rfl⟩ := hb
  have hxy : x < y := by
    rcases Int.lt_or_le x y with h' | h'
    · exact h'
    · exact absurd (Int.mul_le_mul_of_nonneg_left h' (Int.le_of_lt hs)) (by omega)
  have : s * (x + 1) ≤ s * y := Int.mul_le_mul_of_nonneg_left (by omega) (Int.le_of_lt hs)
  rw [Int.mul_add] at this
  omega
theorem bok.last {b m : Int} (h : bok b m) : b + sz m ≤ 4294967296 := by
  obtain ⟨h0, h1, h2, h3, h4⟩ := h
  exact mult_apart (by have := sz_pos m; omega) (Int.dvd_of_emod_eq_zero h4) (sz_dvd_top h2) (by omega)
theorem shl_one {x : Int} (h0 : 0 ≤ x) (h1 : x ≤ 62) : shl .i64 1 x = 2 ^ x.toNat := by
  have e : min x.toNat IntKind.i64.bits = x.toNat := by
    have : IntKind.i64.bits = 64 := rfl
    omega
  unfold shl
  rw [e, IntKind.wrap_i64, Int.one_mul]
  have hp : (2 : Int) ^ x.toNat ≤ 2 ^ 62 := by
    exact_mod_cast Nat.pow_le_pow_right (n := 2) (by decide) (by omega : x.toNat ≤ 62)
  have hq : (0 : Int) < 2 ^ x.toNat := Int.pow_pos (by decide)
  omega
theorem shl_sz {m : Int} (h0 : 0 ≤ m) (h1 : m ≤ 32) : shl .i64 1 (32 - m) = sz m := by
  rw [shl_one (by omega) (by omega)]; rfl
theorem Ev.all {α : Type} {g : Nat → Option α} {r : α} (h : ∀ k, g k = some r) : Ev g r := ⟨0, fun k _ => h k⟩
end Go.Proofs.Ytioghacieopbdaa.Z
end
section
namespace Go.Proofs.Ytioghacieopbdaa.Z
open Go Go.RowKit Go.Proofs.Ytioghacieopbdaa.PAll Go.Proofs.YtioghacieopbdaaW.PrintWords Go.Proofs.YtioghacieopbdaaW.PrintLast Go.Proofs.YtioghacieopbdaaW.PrintMore
set_option linter.unusedVariables false
set_option linter.unusedSimpArgs false
theorem spec_in (a l h : Int) : spec_l1In.f a l h = some (decide (l ≤ a ∧ a ≤ h)) := by
  unfold spec_l1In.f
  by_cases c : a ≥ l
  · rw [if_pos c]; simp [c]
  · rw [if_neg c]
    have : ¬ l ≤ a := by omega
    simp [this]
theorem impl_in (a l h : Int) : impl_in.f a l h = some (decide (l ≤ a ∧ a ≤ h)) := by
  unfold impl_in.f
  by_cases c : a ≥ l
  · rw [if_pos c]; simp [c]
  · rw [if_neg c]
    have : ¬ l ≤ a := by omega
    simp [this]
theorem spec_addr (a : Int) : spec_l1Addr.f a = some (decide (0 ≤ a ∧ a ≤ 4294967295)) := by simp only [spec_l1Addr.f, spec_in, Option.bind_some]
theorem impl_addr (a : Int) : impl_isAddr.f a = some (decide (0 ≤ a ∧ a ≤ 4294967295)) := by simp only [impl_isAddr.f, impl_in, Option.bind_some]
theorem two_loop (n : Nat) : ∀ (k : Nat) (c : Int), n ≤ 62 → n < k → 1 ≤ c → c * 2 ^ n ≤ 4611686018427387904 → spec_l1Two.l0 k (n : Int) c = some (c * 2 ^ n) := by
  induction n with
  | zero =>
    intro k c _ hk _ _
    obtain ⟨k, rfl⟩ : ∃ m, k = m + 1 := ⟨k - 1, by omega⟩
    simp only [spec_l1Two.l0]
    rw [if_neg (by omega)]
    simp
  | succ n ih =>
    intro k c hn hk hc hb
    obtain ⟨k, rfl⟩ : ∃ m, k = m + 1 := ⟨k - 1, by omega⟩
    have e : c * 2 ^ (n + 1) = c * 2 * 2 ^ n := by rw [Int.pow_succ, Int.mul_comm ((2 : Int) ^ n) 2, Int.mul_assoc]
    have hp : (1 : Int) ≤ 2 ^ n := by
      have : (0 : Int) < 2 ^ n := Int.pow_pos (by decide)
      omega
    have hc2 : c * 2 ≤ c * 2 * 2 ^ n := by
      have := Int.mul_le_mul_of_nonneg_left hp (by omega : (0 : Int) ≤ c * 2)
      omega
    simp only [spec_l1Two.l0]
    rw [e] at hb ⊢
    rw [if_pos (by omega), w64 (by omega), w64 (by omega)]
    have : ((n + 1 : Nat) : Int) - 1 = (n : Int) := by omega
    rw [this]
    exact ih k (c * 2) (by omega) (by omega) (by omega) hb
theorem spec_two {n : Int} (h0 : 0 ≤ n) (h1 : n ≤ 62) : (∃ K_, ∀ k, K_ ≤ k → spec_l1Two.f k n = some (2 ^ n.toNat)) := by
  refine ⟨n.toNat + 1, fun k hk => ?_⟩
  have e : (n.toNat : Int) = n := by omega
  have hp : (2 : Int) ^ n.toNat ≤ 2 ^ 62 := by
    exact_mod_cast Nat.pow_le_pow_right (n := 2) (by decide) (by omega : n.toNat ≤ 62)
  have := two_loop n.toNat k 1 (by omega) (by omega) (by omega) (by omega)
  rw [e, Int.one_mul] at this
  exact this
theorem spec_size {m : Int} (h0 : 0 ≤ m) (h1 : m ≤ 32) : (∃ K_, ∀ k, K_ ≤ k → spec_l1Size.f k m = some (sz m)) := by
  obtain ⟨K, h⟩ := spec_two (n := 32 - m) (by omega) (by omega)
  refine ⟨K, fun k hk => ?_⟩
  simp only [spec_l1Size.f]
  rw [w64 (by omega), h k hk]
  rfl
theorem impl_size {b m : Int} (h0 : 0 ≤ m) (h1 : m ≤ 32) : impl_Block_size.f b m = some (sz m) := by
  unfold impl_Block_size.f
  rw [w64 (by omega), if_pos (by omega), shl_sz h0 h1]
theorem tmod_beq {b s : Int} (hb : 0 ≤ b) : (Int.tmod b s == 0) = decide (b % s = 0) := by
  rw [Int.tmod_eq_emod_of_nonneg hb]
  rfl
theorem impl_ok (b m : Int) : impl_BlockOk.f b m = some (bokB b m) := by
  unfold impl_BlockOk.f
  rw [impl_addr, Option.bind_some]
  by_cases c : 0 ≤ b ∧ b ≤ 4294967295
  · rw [if_pos (by simpa using c), impl_in, Option.bind_some]
    by_cases d : 0 ≤ m ∧ m ≤ 32
    · rw [if_pos (by simpa using d), impl_size d.1 d.2, Option.bind_some, if_neg (by have := sz_pos m; omega), tmod_beq c.1]
      simp [bokB, bok, c, d]
    · rw [if_neg (by simpa using d)]
      exact congrArg some (bokB_false.2 (fun h => d ⟨h.2.2.1, h.2.2.2.1⟩)).symm
  · rw [if_neg (by simpa using c)]
    exact congrArg some (bokB_false.2 (fun h => c ⟨h.1, h.2.1⟩)).symm
theorem spec_ok (b m : Int) : (∃ K_, ∀ k, K_ ≤ k → spec_BlockOk.f k b m = some (bokB b m)) := by
  by_cases c : 0 ≤ b ∧ b ≤ 4294967295
  · by_cases d : 0 ≤ m ∧ m ≤ 32
    · obtain ⟨K, h⟩ := spec_size d.1 d.2
      refine ⟨K, fun k hk => ?_⟩
      simp only [spec_BlockOk.f]
      rw [spec_addr, Option.bind_some, if_pos (by simpa using c), spec_in, Option.bind_some, if_pos (by simpa using d), h k hk, Option.bind_some, if_neg (by have := sz_pos m; omega), tmod_beq c.1]
      simp [bokB, bok, c, d]
    · refine ⟨0, fun k _ => ?_⟩
      simp only [spec_BlockOk.f]
      rw [spec_addr, Option.bind_some, if_pos (by simpa using c), spec_in, Option.bind_some, if_neg (by simpa using d)]
      exact congrArg some (bokB_false.2 (fun h => d ⟨h.2.2.1, h.2.2.2.1⟩)).symm
  · refine ⟨0, fun k _ => ?_⟩
    simp only [spec_BlockOk.f]
    rw [spec_addr, Option.bind_some, if_neg (by simpa using c)]
    exact congrArg some (bokB_false.2 (fun h => c ⟨h.1, h.2.1⟩)).symm
theorem sz_bd {m : Int} (h0 : 0 ≤ m) : 1 ≤ sz m ∧ sz m ≤ 4294967296 := ⟨sz_pos m, sz_top h0⟩
theorem impl_last {b m : Int} (hb0 : 0 ≤ b) (hb1 : b ≤ 4611686018427387904) (h0 : 0 ≤ m) (h1 : m ≤ 32) : impl_Block_last.f b m = some (b + sz m - 1) := by
  have := sz_bd h0
  unfold impl_Block_last.f
  rw [impl_size h0 h1, Option.bind_some, w64 (n := b + sz m) (by omega), w64 (by omega)]
theorem spec_last {b m : Int} (hb0 : -1 ≤ b) (hb1 : b ≤ 4611686018427387904) (h0 : 0 ≤ m) (h1 : m ≤ 32) : (∃ K_, ∀ k, K_ ≤ k → spec_l1Last.f k b m = some (b + sz m - 1)) := by
  have := sz_bd h0
  obtain ⟨K, h⟩ := spec_size h0 h1
  refine ⟨K, fun k hk => ?_⟩
  simp only [spec_l1Last.f]
  rw [h k hk, Option.bind_some, w64 (n := b + sz m) (by omega), w64 (by omega)]
/-- Is an address in a block? -/
def hasB (b m a : Int) : Bool := decide (b ≤ a ∧ a ≤ b + sz m - 1)
theorem impl_has {b m : Int} (a : Int) (hb0 : 0 ≤ b) (hb1 : b ≤ 4611686018427387904) (h0 : 0 ≤ m) (h1 : m ≤ 32) : impl_Block_has.f b m a = some (hasB b m a) := by
  unfold impl_Block_has.f
  rw [impl_last hb0 hb1 h0 h1, Option.bind_some, impl_in, Option.bind_some]
  rfl
/-- Does a block lie in another one? -/
def inB (b m c n : Int) : Bool := bokB b m && (bokB c n && (decide (m ≤ n) && hasB b m c))
theorem impl_blockIn (b m c n : Int) : impl_BlockIn.f b m c n = some (inB b m c n) := by
  unfold impl_BlockIn.f inB
  rw [impl_ok, Option.bind_some]
  cases h : bokB b m with
  | false => rfl
  | true =>
    have h' := bokB_true.1 h
    rw [if_pos rfl, impl_ok, Option.bind_some]
    cases h2 : bokB c n with
    | false => rfl
    | true =>
      rw [if_pos rfl]
      by_cases d : n ≥ m
      · rw [if_pos d, impl_has c h'.1 (by have := h'.2.1; omega) h'.2.2.1 h'.2.2.2.1]
        have d' : m ≤ n := d
        simp [d']
      · rw [if_neg d]
        have d' : ¬ m ≤ n := d
        simp [d']
theorem spec_within {b m c n : Int} (hb0 : 0 ≤ b) (hb1 : b ≤ 4611686018427387904) (h0 : 0 ≤ m) (h1 : m ≤ 32) : (∃ K_, ∀ k, K_ ≤ k → spec_l1Within.f k b m c n = some (decide (m ≤ n) && hasB b m c)) := by
  obtain ⟨K, h⟩ := spec_last (b := b) (m := m) (by omega) hb1 h0 h1
  by_cases d : n ≥ m
  · have d' : m ≤ n := d
    refine ⟨K, fun k hk => ?_⟩
    simp only [spec_l1Within.f]
    rw [if_pos d, h k hk, Option.bind_some, spec_in, Option.bind_some]
    simp [d', hasB]
  · have d' : ¬ m ≤ n := d
    refine ⟨0, fun k hk => ?_⟩
    simp only [spec_l1Within.f]
    rw [if_neg d]
    simp [d']
end Go.Proofs.Ytioghacieopbdaa.Z
end
section
namespace Go.Proofs.Ytioghacieopbdaa.Z
open Go Go.RowKit Go.Proofs.Ytioghacieopbdaa.PAll Go.Proofs.YtioghacieopbdaaW.PrintWords Go.Proofs.YtioghacieopbdaaW.PrintLast Go.Proofs.YtioghacieopbdaaW.PrintMore
set_option linter.unusedVariables false
set_option linter.unusedSimpArgs false
abbrev Wy := S86
theorem drop_cons {α : Type} {l : List α} {n : Nat} (h : n < l.length) : l.drop n = l[n] :: l.drop (n + 1) := List.drop_eq_getElem_cons h
theorem rd_way (l : List Wy) (n : Nat) (h : n < l.length) : rd_T86 l (n : Int) = l[n] := by
  unfold rd_T86
  rw [List.getD_eq_getElem?_getD, Int.toNat_natCast, List.getElem?_eq_getElem h]
  rfl
/-- The block of a way comes ahead of another one's. -/
def ltB (a b : S32) : Bool := decide (a.f0 < b.f0 ∨ a.f0 = b.f0 ∧ a.f1 < b.f1)
/-- Is it a hop? -/
def hopB (x : Int) : Bool := decide (0 ≤ x ∧ x ≤ 99)
def wayB (w : Wy) : Bool := bokB w.f0.f0 w.f0.f1 && hopB w.f1
/-- Each way is valid, and ahead of the next one; 'p': the one before. -/
def chainB : Option Wy → List Wy → Bool
  | _, [] => true
  | none, w :: l => wayB w && chainB (some w) l
  | some p, w :: l => wayB w && (ltB p.f0 w.f0 && chainB (some w) l)
def wokB (l : List Wy) : Bool := chainB none l && decide (l.length ≤ 40)
/-- The way ahead of place n. -/
def prevW (l : List Wy) (n : Nat) : Option Wy := match n with | 0 => none | m + 1 => l[m]?
theorem isnan (a : Int) : cmp_isNaN_int.f a = some false := by simp [cmp_isNaN_int.f]
/-- How two numbers stand to each other. -/
def cmpI (a b : Int) : Int := if a < b then -1 else if a > b then 1 else 0
theorem cmp_int (a b : Int) : cmp_Compare_int.f a b = some (cmpI a b) := by
  unfold cmp_Compare_int.f cmpI
  rw [isnan, Option.bind_some, isnan, Option.bind_some]
  simp only [Bool.false_eq_true, if_false]
  split
  · rfl
  · split <;> rfl
theorem or_two (a b : Int) : (∃ K_, ∀ k, K_ ≤ k → cmp_Or_int.f k [a, b] = some (if a = 0 then b else a)) := by
  refine ⟨3, fun k hk => ?_⟩
  obtain ⟨k, rfl⟩ : ∃ j, k = j + 3 := ⟨k - 3, by omega⟩
  have e : (([a, b] : List Int).length : Int) = 2 := rfl
  have e0 : wrap64 (0 + 1) = 1 := w64 (by omega)
  have e1 : wrap64 (1 + 1) = 2 := w64 (by omega)
  have r0 : rd [a, b] 0 = a := rfl
  have r1 : rd [a, b] 1 = b := rfl
  simp only [cmp_Or_int.f]
  rw [cmp_Or_int.l0, e, if_pos (by omega), if_pos (by omega), if_pos (by omega), r0]
  by_cases h0 : a = 0
  · rw [if_pos h0, if_pos h0, e0, cmp_Or_int.l0, e, if_pos (by omega), if_pos (by omega), if_pos (by omega), r1]
    by_cases h1 : b = 0
    · rw [if_pos h1, e1, cmp_Or_int.l0, if_neg (by omega), h1]
    · rw [if_neg h1]
  · rw [if_neg h0, if_neg h0]
theorem by_block (a b : S32) : ∃ v, (∃ K_, ∀ k, K_ ≤ k → impl_byBlock.f k a.f0 a.f1 b.f0 b.f1 = some v) ∧ (v ≥ 0 ↔ ltB a b = false) ∧ (v = 0 ↔ a.f0 = b.f0 ∧ a.f1 = b.f1) ∧ -1 ≤ v ∧ v ≤ 1 := by
  obtain ⟨K, h⟩ := or_two (cmpI a.f0 b.f0) (cmpI a.f1 b.f1)
  refine ⟨if cmpI a.f0 b.f0 = 0 then cmpI a.f1 b.f1 else cmpI a.f0 b.f0, ⟨K, fun k hk => ?_⟩, ?_⟩
  · simp only [impl_byBlock.f]
    rw [cmp_int, Option.bind_some, cmp_int, Option.bind_some, h k hk, Option.bind_some]
  · have e : ltB a b = false ↔ ¬ (a.f0 < b.f0 ∨ a.f0 = b.f0 ∧ a.f1 < b.f1) := by simp only [ltB, decide_eq_false_iff_not]
    rw [e]
    unfold cmpI
    repeat' split
    all_goals omega
theorem cmp_block {a b : S32} (ha : bok a.f0 a.f1) (hb : bok b.f0 b.f1) : ∃ v, spec_l3Cmp.f a.f0 a.f1 b.f0 b.f1 = some v ∧ (v ≥ 0 ↔ ltB a b = false) ∧ (v < 0 ↔ ltB a b = true) := by
  obtain ⟨a0, a1, a2, a3, _⟩ := ha
  obtain ⟨b0, b1, b2, b3, _⟩ := hb
  have e : ltB a b = false ↔ ¬ (a.f0 < b.f0 ∨ a.f0 = b.f0 ∧ a.f1 < b.f1) := by simp only [ltB, decide_eq_false_iff_not]
  have e' : ltB a b = true ↔ (a.f0 < b.f0 ∨ a.f0 = b.f0 ∧ a.f1 < b.f1) := by simp only [ltB, decide_eq_true_eq]
  unfold spec_l3Cmp.f
  rw [e, e']
  by_cases c : a.f0 = b.f0
  · rw [if_pos c, w64 (by omega)]
    exact ⟨_, rfl, by omega, by omega⟩
  · rw [if_neg c, w64 (by omega)]
    exact ⟨_, rfl, by omega, by omega⟩
theorem prevW_succ {l : List Wy} {n : Nat} (h : n < l.length) : prevW l (n + 1) = some l[n] := by simp [prevW, h]
/-- What the loops of WaysOk answer, from place n on, all ways ahead being valid. -/
theorem impl_waysOk_loop (l : List Wy) (hl : l.length ≤ 1099511627776) (d : Nat) : ∀ n : Nat, n + d = l.length → (∃ K_, ∀ k, K_ ≤ k → impl_WaysOk.l0 k l l (l.length : Int) (n : Int) = some (chainB (prevW l n) (l.drop n) && decide (l.length ≤ 40))) := by
  induction d with
  | zero =>
    intro n hn
    refine ⟨1, fun k hk => ?_⟩
    obtain ⟨k, rfl⟩ : ∃ j, k = j + 1 := ⟨k - 1, by omega⟩
    simp only [impl_WaysOk.l0]
    rw [if_neg (by omega), List.drop_eq_nil_of_le (by omega)]
    have : decide ((l.length : Int) ≤ 40) = decide (l.length ≤ 40) := by rw [decide_eq_decide]; omega
    rw [this]
    cases prevW l n <;> rfl
  | succ d ih =>
    intro n hn
    have hlt : n < l.length := by omega
    obtain ⟨K1, e1⟩ := ih (n + 1) (by omega)
    rw [prevW_succ hlt] at e1
    have hw : wrap64 ((n : Int) + 1) = ((n + 1 : Nat) : Int) := by rw [w64 (by omega)]; omega
    rw [drop_cons hlt]
    have hin : ∀ x : Int, impl_in.f x 0 99 = some (hopB x) := fun x => impl_in x 0 99
    cases n with
    | zero =>
      refine ⟨K1 + 1, fun k hk => ?_⟩
      obtain ⟨k, rfl⟩ : ∃ j, k = j + 1 := ⟨k - 1, by omega⟩
      have e1 := e1 k (by omega)
      simp only [impl_WaysOk.l0, prevW, chainB]
      rw [if_pos (by omega), if_pos (by omega), if_pos (by omega), rd_way l 0 hlt, impl_ok, Option.bind_some, hin, Option.bind_some, hw, e1]
      cases hx : bokB l[0].f0.f0 l[0].f0.f1 with
      | false => simp [wayB, hx]
      | true =>
        cases hy : hopB l[0].f1 with
        | true =>
          rw [if_pos rfl, if_pos rfl, if_neg (by omega)]
          simp [wayB, hx, hy]
        | false => simp [wayB, hx, hy]
    | succ m =>
      have hm : m < l.length := by omega
      have hw2 : wrap64 (((m + 1 : Nat) : Int) - 1) = (m : Int) := by rw [w64 (by omega)]; omega
      obtain ⟨v, ⟨K2, e2⟩, v1, _⟩ := by_block l[m].f0 l[m + 1].f0
      refine ⟨K1 + K2 + 1, fun k hk => ?_⟩
      obtain ⟨k, rfl⟩ : ∃ j, k = j + 1 := ⟨k - 1, by omega⟩
      have e1 := e1 k (by omega)
      have e2 := e2 k (by omega)
      simp only [impl_WaysOk.l0]
      rw [prevW_succ hm]
      simp only [chainB]
      rw [if_pos (by omega), if_pos (by omega), if_pos (by omega), rd_way l (m + 1) hlt, impl_ok, Option.bind_some, hin, Option.bind_some, hw, e1]
      cases hx : bokB l[m + 1].f0.f0 l[m + 1].f0.f1 with
      | false => simp [wayB, hx]
      | true =>
        cases hy : hopB l[m + 1].f1 with
        | true =>
          rw [if_pos rfl, if_pos rfl, if_pos (by omega), hw2, if_pos (by omega), if_pos (by omega), rd_way l m hm, e2, Option.bind_some]
          cases q : ltB l[m].f0 l[m + 1].f0 with
          | false =>
            rw [if_pos (v1.2 q)]
            simp
          | true =>
            rw [if_neg (fun h => by rw [v1.1 h] at q; cases q)]
            simp [wayB, hx, hy]
        | false => simp [wayB, hx, hy]
theorem impl_waysOk (l : List Wy) (hl : l.length ≤ 1099511627776) : (∃ K_, ∀ k, K_ ≤ k → impl_WaysOk.f k l = some (wokB l)) := impl_waysOk_loop l hl l.length 0 (by omega)
theorem spec_waysOk_loop (l : List Wy) (hl : l.length ≤ 1099511627776) (d : Nat) : ∀ n : Nat, n + d = l.length → (∀ m (h : m < n), m < l.length → ∀ p, l[m]? = some p → bok p.f0.f0 p.f0.f1) → (∃ K_, ∀ k, K_ ≤ k → spec_WaysOk.l0 k l (n : Int) = some (chainB (prevW l n) (l.drop n) && decide (l.length ≤ 40))) := by
  induction d with
  | zero =>
    intro n hn _
    refine ⟨1, fun k hk => ?_⟩
    obtain ⟨k, rfl⟩ : ∃ j, k = j + 1 := ⟨k - 1, by omega⟩
    simp only [spec_WaysOk.l0]
    rw [if_neg (by omega), List.drop_eq_nil_of_le (by omega)]
    have : decide ((l.length : Int) ≤ 40) = decide (l.length ≤ 40) := by rw [decide_eq_decide]; omega
    rw [this]
    cases prevW l n <;> rfl
  | succ d ih =>
    intro n hn hv
    have hlt : n < l.length := by omega
    have hw : wrap64 ((n : Int) + 1) = ((n + 1 : Nat) : Int) := by rw [w64 (by omega)]; omega
    obtain ⟨K3, e3⟩ := spec_ok l[n].f0.f0 l[n].f0.f1
    rw [drop_cons hlt]
    have hin : ∀ x : Int, spec_l1In.f x 0 99 = some (hopB x) := fun x => spec_in x 0 99
    cases hb : bokB l[n].f0.f0 l[n].f0.f1 with
    | false =>
      refine ⟨K3 + 1, fun k hk => ?_⟩
      obtain ⟨k, rfl⟩ : ∃ j, k = j + 1 := ⟨k - 1, by omega⟩
      simp only [spec_WaysOk.l0]
      rw [if_pos (by omega), if_pos (by omega), rd_way l n hlt, e3 k (by omega), Option.bind_some, hb]
      cases prevW l n <;> simp [chainB, wayB, hb]
    | true =>
      obtain ⟨K1, e1⟩ := ih (n + 1) (by omega) (fun m h1 h2 p hp => by
        by_cases e : m = n
        · subst e
          rw [List.getElem?_eq_getElem hlt] at hp
          cases hp
          exact bokB_true.1 hb
        · exact hv m (by omega) h2 p hp)
      rw [prevW_succ hlt] at e1
      cases n with
      | zero =>
        refine ⟨K1 + K3 + 1, fun k hk => ?_⟩
        obtain ⟨k, rfl⟩ : ∃ j, k = j + 1 := ⟨k - 1, by omega⟩
        have e1 := e1 k (by omega)
        simp only [spec_WaysOk.l0, prevW, chainB, wayB]
        rw [if_pos (by omega), if_pos (by omega), rd_way l 0 hlt, e3 k (by omega), Option.bind_some, hin, Option.bind_some, hw, e1, hb]
        cases hy : hopB l[0].f1 with
        | true =>
          rw [if_pos rfl, if_pos rfl, if_neg (by omega)]
          simp [hy]
        | false => simp [hy]
      | succ m =>
        have hm : m < l.length := by omega
        have hw2 : wrap64 (((m + 1 : Nat) : Int) - 1) = (m : Int) := by rw [w64 (by omega)]; omega
        obtain ⟨v, e2, v1, _⟩ := cmp_block (hv m (by omega) hm l[m] (List.getElem?_eq_getElem hm)) (bokB_true.1 hb)
        refine ⟨K1 + K3 + 1, fun k hk => ?_⟩
        obtain ⟨k, rfl⟩ : ∃ j, k = j + 1 := ⟨k - 1, by omega⟩
        have e1 := e1 k (by omega)
        simp only [spec_WaysOk.l0]
        rw [prevW_succ hm]
        simp only [chainB, wayB]
        rw [if_pos (by omega), if_pos (by omega), rd_way l (m + 1) hlt, e3 k (by omega), Option.bind_some, hin, Option.bind_some, hw, e1, hb]
        cases hy : hopB l[m + 1].f1 with
        | true =>
          rw [if_pos rfl, if_pos rfl, if_pos (by omega), hw2, if_pos (by omega), if_pos (by omega), rd_way l m hm, e2, Option.bind_some]
          cases q : ltB l[m].f0 l[m + 1].f0 with
          | false =>
            rw [if_pos (v1.2 q)]
            simp
          | true =>
            rw [if_neg (fun h => by rw [v1.1 h] at q; cases q)]
            simp [hy]
        | false => simp [hy]
theorem spec_waysOk (l : List Wy) (hl : l.length ≤ 1099511627776) : (∃ K_, ∀ k, K_ ≤ k → spec_WaysOk.f k l = some (wokB l)) := spec_waysOk_loop l hl l.length 0 (by omega) (fun m h => absurd h (by omega))
theorem chainB_valid {l : List Wy} : ∀ {p : Option Wy}, chainB p l = true → ∀ w ∈ l, wayB w = true := by
  induction l with
  | nil => intro p _ w hw; cases hw
  | cons x l ih =>
    intro p h w hw
    have h' : wayB x = true ∧ chainB (some x) l = true := by
      cases p <;> simp only [chainB, Bool.and_eq_true] at h
      · exact h
      · exact ⟨h.1, h.2.2⟩
    rcases List.mem_cons.1 hw with rfl | hw
    · exact h'.1
    · exact ih h'.2 w hw
theorem wokB_valid {l : List Wy} (h : wokB l = true) : ∀ w ∈ l, bok w.f0.f0 w.f0.f1 ∧ 0 ≤ w.f1 ∧ w.f1 ≤ 99 := by
  intro w hw
  simp only [wokB, Bool.and_eq_true] at h
  have := chainB_valid h.1 w hw
  simp only [wayB, hopB, Bool.and_eq_true, bokB_true, decide_eq_true_eq] at this
  exact ⟨this.1, this.2⟩
/-- The hop to which an address leads, of what is left; the best till here. -/
def leadGo (a : Int) : List Wy → Int → Int → Int
  | [], hop, _ => hop
  | w :: l, hop, bits => if hasB w.f0.f0 w.f0.f1 a = true ∧ w.f0.f1 > bits then leadGo a l w.f1 w.f0.f1 else leadGo a l hop bits
def leadF (l : List Wy) (a : Int) : Int := leadGo a l (-1) (-1)
theorem impl_lead_loop (l : List Wy) (a : Int) (hv : ∀ w ∈ l, bok w.f0.f0 w.f0.f1) (hl : l.length ≤ 1099511627776) (d : Nat) : ∀ (n : Nat) (x y z : Int), n + d = l.length → (∃ K_, ∀ k, K_ ≤ k → impl_lead.l0 k a l (l.length : Int) (n : Int) x y z = some (leadGo a (l.drop n) z y)) := by
  induction d with
  | zero =>
    intro n x y z hn
    refine ⟨1, fun k hk => ?_⟩
    obtain ⟨k, rfl⟩ : ∃ j, k = j + 1 := ⟨k - 1, by omega⟩
    simp only [impl_lead.l0]
    rw [if_neg (by omega), List.drop_eq_nil_of_le (by omega)]
    rfl
  | succ d ih =>
    intro n x y z hn
    have hlt : n < l.length := by omega
    have hw : wrap64 ((n : Int) + 1) = ((n + 1 : Nat) : Int) := by rw [w64 (by omega)]; omega
    have hb := hv l[n] (List.getElem_mem hlt)
    obtain ⟨K1, e1⟩ := ih (n + 1) x y z (by omega)
    obtain ⟨K2, e2⟩ := ih (n + 1) l[n].f0.f0 l[n].f0.f1 l[n].f1 (by omega)
    refine ⟨K1 + K2 + 1, fun k hk => ?_⟩
    obtain ⟨k, rfl⟩ : ∃ j, k = j + 1 := ⟨k - 1, by omega⟩
    have e1 := e1 k (by omega)
    have e2 := e2 k (by omega)
    simp only [impl_lead.l0]
    rw [drop_cons hlt, if_pos (by omega), if_pos (by omega), if_pos (by omega), rd_way l n hlt, impl_has a hb.1 (by have := hb.2.1; omega) hb.2.2.1 hb.2.2.2.1, Option.bind_some, hw, e1, e2]
    simp only [leadGo]
    cases hasB l[n].f0.f0 l[n].f0.f1 a with
    | false => simp
    | true =>
      by_cases c : l[n].f0.f1 > y
      · simp [c]
      · simp [c]
theorem impl_lead (l : List Wy) (a : Int) (hv : ∀ w ∈ l, bok w.f0.f0 w.f0.f1) (hl : l.length ≤ 1099511627776) : (∃ K_, ∀ k, K_ ≤ k → impl_lead.f k l a = some (leadF l a)) := impl_lead_loop l a hv hl l.length 0 0 (-1) (-1) (by omega)
end Go.Proofs.Ytioghacieopbdaa.Z
end
section
namespace Go.Proofs.Ytioghacieopbdaa.Z
open Go Go.RowKit Go.Proofs.YtioghacieopbdaaW.PrintWords Go.Proofs.YtioghacieopbdaaW.PrintMore
set_option linter.unusedVariables false
set_option linter.unusedSimpArgs false
/-- What a walk of some number of rounds answers: step by step. -/
theorem evB {α β : Type} {g : Nat → Option α} {h : α → Nat → Option β} {a : α} {r : β} (e : ∃ K, ∀ k, K ≤ k → g k = some a) (f : ∃ K, ∀ k, K ≤ k → h a k = some r) : ∃ K, ∀ k, K ≤ k → ((g k).bind fun x => h x k) = some r := by
  obtain ⟨K1, e⟩ := e
  obtain ⟨K2, f⟩ := f
  exact ⟨K1 + K2, fun k hk => by rw [e k (by omega), Option.bind_some, f k (by omega)]⟩
theorem evS {α β : Type} {g : Option α} {h : α → Nat → Option β} {a : α} {r : β} (e : g = some a) (f : ∃ K, ∀ k, K ≤ k → h a k = some r) : ∃ K, ∀ k, K ≤ k → (g.bind fun x => h x k) = some r := by
  obtain ⟨K2, f⟩ := f
  exact ⟨K2, fun k hk => by rw [e, Option.bind_some, f k (by omega)]⟩
theorem evP {α : Type} {c : Prop} [Decidable c] {g h : Nat → Option α} {r : α} (hc : c) (f : ∃ K, ∀ k, K ≤ k → g k = some r) : ∃ K, ∀ k, K ≤ k → (if c then g k else h k) = some r := by
  obtain ⟨K2, f⟩ := f
  exact ⟨K2, fun k hk => by rw [if_pos hc, f k (by omega)]⟩
theorem evN {α : Type} {c : Prop} [Decidable c] {g h : Nat → Option α} {r : α} (hc : ¬c) (f : ∃ K, ∀ k, K ≤ k → h k = some r) : ∃ K, ∀ k, K ≤ k → (if c then g k else h k) = some r := by
  obtain ⟨K2, f⟩ := f
  exact ⟨K2, fun k hk => by rw [if_neg hc, f k (by omega)]⟩
theorem evI {α : Type} {c : Prop} [Decidable c] {g h : Nat → Option α} {r : α} (f : c → ∃ K, ∀ k, K ≤ k → g k = some r) (f' : ¬c → ∃ K, ∀ k, K ≤ k → h k = some r) : ∃ K, ∀ k, K ≤ k → (if c then g k else h k) = some r := by
  by_cases hc : c
  · exact evP hc (f hc)
  · exact evN hc (f' hc)
theorem ev1 {α : Type} {f : Nat → Option α} {r : α} (h : ∃ K, ∀ k, K ≤ k → f (k + 1) = some r) : ∃ K, ∀ k, K ≤ k → f k = some r := by
  obtain ⟨K, h⟩ := h
  exact ⟨K + 1, fun k hk => by obtain ⟨j, rfl⟩ : ∃ j, k = j + 1 := ⟨k - 1, by omega⟩; exact h j (by omega)⟩
theorem evR {α : Type} {r q : α} (h : r = q) : ∃ K : Nat, ∀ k, K ≤ k → some r = some q := ⟨0, fun _ _ => by rw [h]⟩
/-- A walk of some number of rounds answers something of which Q holds. -/
def Dr {α : Type} (g : Nat → Option α) (Q : α → Prop) : Prop := ∃ r, (∃ K, ∀ k, K ≤ k → g k = some r) ∧ Q r
theorem drP {α : Type} {c : Prop} [Decidable c] {g h : Nat → Option α} {Q : α → Prop} (hc : c) (f : Dr g Q) : Dr (fun k => if c then g k else h k) Q := by
  obtain ⟨r, f, q⟩ := f
  exact ⟨r, evP hc f, q⟩
theorem drN {α : Type} {c : Prop} [Decidable c] {g h : Nat → Option α} {Q : α → Prop} (hc : ¬c) (f : Dr h Q) : Dr (fun k => if c then g k else h k) Q := by
  obtain ⟨r, f, q⟩ := f
  exact ⟨r, evN hc f, q⟩
theorem dr1 {α : Type} {f : Nat → Option α} {Q : α → Prop} (h : Dr (fun k => f (k + 1)) Q) : Dr f Q := by
  obtain ⟨r, f, q⟩ := h
  exact ⟨r, ev1 f, q⟩
theorem drR {α : Type} {r : α} {Q : α → Prop} (h : Q r) : Dr (fun _ => some r) Q := ⟨r, ⟨0, fun _ _ => rfl⟩, h⟩
theorem Dr.imp {α : Type} {g : Nat → Option α} {P Q : α → Prop} (h : Dr g P) (f : ∀ x, P x → Q x) : Dr g Q := by
  obtain ⟨r, e, q⟩ := h
  exact ⟨r, e, f r q⟩
end Go.Proofs.Ytioghacieopbdaa.Z
end
section
namespace Go.Proofs.Ytioghacieopbdaa.Z
open Go Go.RowKit Go.Proofs.Ytioghacieopbdaa.PAll Go.Proofs.YtioghacieopbdaaW.PrintWords Go.Proofs.YtioghacieopbdaaW.PrintLast Go.Proofs.YtioghacieopbdaaW.PrintMore
set_option linter.unusedVariables false
set_option linter.unusedSimpArgs false
/-- Valid routes, said plainly. -/
def Wok (l : List Wy) : Prop := (∀ w ∈ l, wayB w = true) ∧ l.Pairwise (fun a b => ltB a.f0 b.f0 = true) ∧ l.length ≤ 40
theorem wayB_iff {w : Wy} : wayB w = true ↔ bok w.f0.f0 w.f0.f1 ∧ 0 ≤ w.f1 ∧ w.f1 ≤ 99 := by
  simp only [wayB, hopB, Bool.and_eq_true, bokB_true, decide_eq_true_eq]
theorem Wok.nil : Wok [] := ⟨fun _ h => (by cases h), List.Pairwise.nil, by simp⟩
theorem Wok.bits {l : List Wy} (h : Wok l) : ∀ w ∈ l, 0 ≤ w.f0.f1 := fun w hw => (wayB_iff.1 (h.1 w hw)).1.2.2.1
/-- The hop to which a route's addresses would lead without it. -/
def belowW (l : List Wy) (n : Int) : List Wy := l.filter fun x => decide (x.f0.f1 < n)
def aboveF (l : List Wy) (w : Wy) : Int := leadF (belowW l w.f0.f1) w.f0.f0
/-- Routes without the redundant ones. -/
def lessF (l : List Wy) : List Wy := l.filter fun w => decide (aboveF l w ≠ w.f1)
theorem less_sub (l : List Wy) : (lessF l).Sublist l := List.filter_sublist
end Go.Proofs.Ytioghacieopbdaa.Z
end
section
namespace Go.Proofs.Ytioghacieopbdaa.Z
open Go Go.RowKit Go.Proofs.Ytioghacieopbdaa.PAll Go.Proofs.YtioghacieopbdaaW.PrintWords Go.Proofs.YtioghacieopbdaaW.PrintLast Go.Proofs.YtioghacieopbdaaW.PrintMore
set_option linter.unusedVariables false
set_option linter.unusedSimpArgs false
def widerB (w x : Wy) : Bool := decide (x.f0.f1 < w.f0.f1) && hasB x.f0.f0 x.f0.f1 w.f0.f0
theorem in_wider {x w : Wy} (hx : bok x.f0.f0 x.f0.f1) (hw : bok w.f0.f0 w.f0.f1) (h : x.f0.f1 < w.f0.f1) : inB x.f0.f0 x.f0.f1 w.f0.f0 w.f0.f1 = hasB x.f0.f0 x.f0.f1 w.f0.f0 := by
  unfold inB
  rw [bokB_true.2 hx, bokB_true.2 hw, decide_eq_true (by omega)]
  simp
theorem leadGo_filter (a : Int) (p : Wy → Bool) (l : List Wy) : ∀ h b : Int, leadGo a (l.filter (fun x => p x && hasB x.f0.f0 x.f0.f1 a)) h b = leadGo a (l.filter p) h b := by
  induction l with
  | nil => intro h b; rfl
  | cons x l ih =>
    intro h b
    simp only [List.filter_cons]
    cases hp : p x <;> cases hx : hasB x.f0.f0 x.f0.f1 a <;> simp [leadGo, hx, ih]
theorem wider_lead (l : List Wy) (w : Wy) : leadF (l.filter (widerB w)) w.f0.f0 = aboveF l w := leadGo_filter w.f0.f0 (fun x => decide (x.f0.f1 < w.f0.f1)) l (-1) (-1)
/-- The inner loop of WaysLess: the routes about one, then the next one. -/
theorem less_l1 (l out : List Wy) (hv : ∀ w ∈ l, bok w.f0.f0 w.f0.f1) (hl : l.length ≤ 1099511627776) (w : Wy) (hw : bok w.f0.f0 w.f0.f1) (i : Int) (R : List Wy) (ho : out.length ≤ 1099511627776) (d : Nat) : ∀ (n : Nat) (acc : List Wy), n + d = l.length → acc.length ≤ n → (∀ x ∈ acc, bok x.f0.f0 x.f0.f1) →
    (∃ K_, ∀ k, K_ ≤ k → impl_WaysLess.l0 k l (if leadF (acc ++ (l.drop n).filter (widerB w)) w.f0.f0 = w.f1 then out else out ++ [w]) l (l.length : Int) (wrap64 (i + 1)) = some R) →
    (∃ K_, ∀ k, K_ ≤ k → impl_WaysLess.l1 k l out acc l (l.length : Int) i l (l.length : Int) (n : Int) w.f0.f0 w.f0.f1 w.f1 = some R) := by
  induction d with
  | zero =>
    intro n acc hn ha hva h
    refine ev1 ?_
    simp only [impl_WaysLess.l1]
    refine evN (by omega) (evB (impl_lead acc w.f0.f0 hva (by omega)) ?_)
    rw [List.drop_eq_nil_of_le (by omega), List.filter_nil, List.append_nil] at h
    by_cases c : leadF acc w.f0.f0 = w.f1
    · rw [if_pos c] at h
      exact evP c h
    · rw [if_neg c] at h
      exact evN c (evP (by omega) h)
  | succ d ih =>
    intro n acc hn ha hva h
    have hlt : n < l.length := by omega
    have hw1 : wrap64 ((n : Int) + 1) = ((n + 1 : Nat) : Int) := by rw [w64 (by omega)]; omega
    have hx := hv l[n] (List.getElem_mem hlt)
    rw [drop_cons hlt, List.filter_cons] at h
    refine ev1 ?_
    simp only [impl_WaysLess.l1, rd_way l n hlt, hw1]
    refine evP (by omega) (evP (by omega) (evP (by omega) (evI (fun c => ?_) (fun c => ?_))))
    · refine evS (impl_blockIn _ _ _ _) ?_
      rw [in_wider hx hw c]
      cases q : hasB l[n].f0.f0 l[n].f0.f1 w.f0.f0 with
      | true =>
        have e : widerB w l[n] = true := by simp [widerB, c, q]
        simp only [e, if_true] at h
        refine evP rfl (evP (by omega) (ih (n + 1) _ (by omega) (by simp; omega) (fun x hx' => ?_) ?_))
        · rcases List.mem_append.1 hx' with hx' | hx'
          · exact hva x hx'
          · rw [List.mem_singleton.1 hx']
            exact hx
        · rw [List.append_assoc]
          exact h
      | false =>
        have e : widerB w l[n] = false := by simp [widerB, q]
        simp only [e, Bool.false_eq_true, if_false] at h
        exact evN (by simp) (ih (n + 1) acc (by omega) (by omega) hva h)
    · have e : widerB w l[n] = false := by simp [widerB, c]
      simp only [e, Bool.false_eq_true, if_false] at h
      exact ih (n + 1) acc (by omega) (by omega) hva h
theorem less_l0 (l : List Wy) (hv : ∀ w ∈ l, bok w.f0.f0 w.f0.f1) (hl : l.length ≤ 1099511627776) (d : Nat) : ∀ (n : Nat) (out : List Wy), n + d = l.length → out.length ≤ n → (∃ K_, ∀ k, K_ ≤ k → impl_WaysLess.l0 k l out l (l.length : Int) (n : Int) = some (out ++ (l.drop n).filter (fun w => decide (aboveF l w ≠ w.f1)))) := by
  induction d with
  | zero =>
    intro n out hn ho
    refine ev1 ?_
    simp only [impl_WaysLess.l0]
    rw [List.drop_eq_nil_of_le (by omega), List.filter_nil, List.append_nil]
    exact evN (by omega) (evR rfl)
  | succ d ih =>
    intro n out hn ho
    have hlt : n < l.length := by omega
    have hw1 : wrap64 ((n : Int) + 1) = ((n + 1 : Nat) : Int) := by rw [w64 (by omega)]; omega
    refine ev1 ?_
    simp only [impl_WaysLess.l0, rd_way l n hlt]
    refine evP (by omega) (evP (by omega) (evP (by omega) (less_l1 l out hv hl l[n] (hv _ (List.getElem_mem hlt)) n _ (by omega) l.length 0 [] (by omega) (by simp) (by simp) ?_)))
    rw [List.drop_zero, List.nil_append, wider_lead, hw1, drop_cons hlt, List.filter_cons]
    by_cases c : aboveF l l[n] = l[n].f1
    · rw [if_pos c, if_neg (by simp [c])]
      exact ih (n + 1) out (by omega) (by omega)
    · rw [if_neg c, if_pos (by simp [c])]
      have := ih (n + 1) (out ++ [l[n]]) (by omega) (by simp; omega)
      rwa [List.append_assoc] at this
/-- What WaysLess answers. -/
def waysLessF (l : List Wy) : List Wy := if wokB l = true then lessF l else []
theorem impl_waysLess (l : List Wy) (hl : l.length ≤ 1099511627776) : (∃ K_, ∀ k, K_ ≤ k → impl_WaysLess.f k l = some (waysLessF l)) := by
  simp only [impl_WaysLess.f]
  refine evB (impl_waysOk l hl) ?_
  unfold waysLessF
  cases h : wokB l with
  | false => exact evN (by simp) (evR rfl)
  | true => exact evP rfl (less_l0 l (fun w hw => (wokB_valid h w hw).1) hl l.length 0 [] (by omega) (by simp))
theorem below_pos {x : Wy} {l : List Wy} {n : Int} (c : x.f0.f1 < n) : belowW (x :: l) n = x :: belowW l n := by simp [belowW, List.filter_cons, c]
theorem below_neg {x : Wy} {l : List Wy} {n : Int} (c : ¬ x.f0.f1 < n) : belowW (x :: l) n = belowW l n := by
  unfold belowW
  rw [List.filter_cons, if_neg (by simp only [decide_eq_true_eq]; exact c)]
theorem spec_above_loop (l : List Wy) (w : Wy) (hv : ∀ w ∈ l, bok w.f0.f0 w.f0.f1) (hl : l.length ≤ 1099511627776) (d : Nat) : ∀ (n : Nat) (h b : Int), n + d = l.length → (∃ K_, ∀ k, K_ ≤ k → spec_l3Above.l0 k l h b (n : Int) w.f0.f0 w.f0.f1 = some (leadGo w.f0.f0 (belowW (l.drop n) w.f0.f1) h b)) := by
  induction d with
  | zero =>
    intro n h b hn
    refine ev1 ?_
    simp only [spec_l3Above.l0]
    rw [List.drop_eq_nil_of_le (by omega)]
    exact evN (by omega) (evR rfl)
  | succ d ih =>
    intro n h b hn
    have hlt : n < l.length := by omega
    have hw1 : wrap64 ((n : Int) + 1) = ((n + 1 : Nat) : Int) := by rw [w64 (by omega)]; omega
    have hb := hv l[n] (List.getElem_mem hlt)
    refine ev1 ?_
    simp only [spec_l3Above.l0, rd_way l n hlt, hw1]
    rw [drop_cons hlt]
    refine evP (by omega) (evP (by omega) (evI (fun c => ?_) (fun c => ?_)))
    · rw [below_pos c]
      simp only [leadGo]
      refine evB (spec_within (b := l[n].f0.f0) (m := l[n].f0.f1) (c := w.f0.f0) (n := w.f0.f1) hb.1 (by have := hb.2.1; omega) hb.2.2.1 hb.2.2.2.1) ?_
      rw [decide_eq_true (show l[n].f0.f1 ≤ w.f0.f1 by omega), Bool.true_and]
      by_cases q : hasB l[n].f0.f0 l[n].f0.f1 w.f0.f0 = true
      · refine evP q (evI (fun g => ?_) (fun g => ?_))
        · rw [if_pos ⟨q, g⟩]
          exact ih (n + 1) _ _ (by omega)
        · rw [if_neg (fun x => g x.2)]
          exact ih (n + 1) _ _ (by omega)
      · rw [if_neg (fun x => q x.1)]
        exact evN q (ih (n + 1) _ _ (by omega))
    · rw [below_neg c]
      exact ih (n + 1) _ _ (by omega)
theorem spec_above (l : List Wy) (w : Wy) (hv : ∀ w ∈ l, bok w.f0.f0 w.f0.f1) (hl : l.length ≤ 1099511627776) : (∃ K_, ∀ k, K_ ≤ k → spec_l3Above.f k l w.f0.f0 w.f0.f1 = some (aboveF l w)) := spec_above_loop l w hv hl l.length 0 (-1) (-1) (by omega)
theorem spec_less_loop (l : List Wy) (hv : ∀ w ∈ l, bok w.f0.f0 w.f0.f1) (hl : l.length ≤ 1099511627776) (d : Nat) : ∀ (n : Nat) (out : List Wy), n + d = l.length → out.length ≤ n → (∃ K_, ∀ k, K_ ≤ k → spec_WaysLess.l0 k l out (n : Int) = some (out ++ (l.drop n).filter (fun w => decide (aboveF l w ≠ w.f1)))) := by
  induction d with
  | zero =>
    intro n out hn ho
    refine ev1 ?_
    simp only [spec_WaysLess.l0]
    rw [List.drop_eq_nil_of_le (by omega), List.filter_nil, List.append_nil]
    exact evN (by omega) (evR rfl)
  | succ d ih =>
    intro n out hn ho
    have hlt : n < l.length := by omega
    have hw1 : wrap64 ((n : Int) + 1) = ((n + 1 : Nat) : Int) := by rw [w64 (by omega)]; omega
    refine ev1 ?_
    simp only [spec_WaysLess.l0, rd_way l n hlt, hw1]
    refine evP (by omega) (evP (by omega) (evB (spec_above l l[n] hv hl) ?_))
    rw [drop_cons hlt, List.filter_cons]
    by_cases c : aboveF l l[n] = l[n].f1
    · rw [if_neg (by simp [c])]
      exact evP c (ih (n + 1) out (by omega) (by omega))
    · rw [if_pos (by simp [c])]
      have := ih (n + 1) (out ++ [l[n]]) (by omega) (by simp; omega)
      rw [List.append_assoc] at this
      exact evN c (evP (by omega) this)
theorem spec_waysLess (l : List Wy) (hl : l.length ≤ 1099511627776) : (∃ K_, ∀ k, K_ ≤ k → spec_WaysLess.f k l = some (waysLessF l)) := by
  simp only [spec_WaysLess.f, Option.bind_some]
  refine evB (spec_waysOk l hl) ?_
  unfold waysLessF
  cases h : wokB l with
  | false => exact evN (by simp) (evR rfl)
  | true => exact evP rfl (spec_less_loop l (fun w hw => (wokB_valid h w hw).1) hl l.length 0 [] (by omega) (by simp))
theorem waysLess_len (l : List Wy) : (waysLessF l).length ≤ l.length := by
  unfold waysLessF
  split
  · exact (less_sub l).length_le
  · simp
end Go.Proofs.Ytioghacieopbdaa.Z
end
section
namespace Go.Proofs.Ytioghacieopbdaa.Z
open Go Go.RowKit Go.Proofs.Ytioghacieopbdaa.PAll Go.Proofs.YtioghacieopbdaaW.PrintWords Go.Proofs.YtioghacieopbdaaW.PrintLast Go.Proofs.YtioghacieopbdaaW.PrintMore
set_option linter.unusedVariables false
set_option linter.unusedSimpArgs false
/-- One of the statement's own values as one of the program's. -/
def convWay (x : S128) : S86 := ⟨⟨x.f0.f0, x.f0.f1⟩, x.f1⟩
theorem rd_lWay (l : List S128) (n : Nat) (h : n < l.length) : rd_T128 l (n : Int) = l[n] := by
  unfold rd_T128
  rw [List.getD_eq_getElem?_getD, Int.toNat_natCast, List.getElem?_eq_getElem h]
  rfl
theorem toWay_loop (l : List S128) (hl : l.length ≤ 1073741824) (d : Nat) : ∀ (n : Nat) (ys : List S86), n + d = l.length → ys.length = l.length → (∀ j, j < n → ys[j]? = (l.map convWay)[j]?) → (∃ K_, ∀ k, K_ ≤ k → laws_toWayS.l0 k l ys (n : Int) = some (l.map convWay)) := by
  induction d with
  | zero =>
    intro n ys hn hy hj
    refine ⟨1, fun k hk => ?_⟩
    obtain ⟨k, rfl⟩ : ∃ j, k = j + 1 := ⟨k - 1, by omega⟩
    simp only [laws_toWayS.l0]
    rw [if_neg (by omega)]
    congr 1
    apply List.ext_getElem?
    intro i
    by_cases c : i < n
    · exact hj i c
    · rw [List.getElem?_eq_none (by omega), List.getElem?_eq_none (by simp; omega)]
  | succ d ih =>
    intro n ys hn hy hj
    have hlt : n < l.length := by omega
    have hw : wrap64 ((n : Int) + 1) = ((n + 1 : Nat) : Int) := by rw [w64 (by omega)]; omega
    obtain ⟨K1, e1⟩ := ih (n + 1) (ys.set n (convWay l[n])) (by omega) (by simpa using hy) (fun j hj2 => by
      by_cases c : j = n
      · subst c
        rw [List.getElem?_set_self (by omega), List.getElem?_map, List.getElem?_eq_getElem hlt]
        rfl
      · rw [List.getElem?_set_ne (by omega)]
        exact hj j (by omega))
    refine ⟨K1 + 1, fun k hk => ?_⟩
    obtain ⟨k, rfl⟩ : ∃ j, k = j + 1 := ⟨k - 1, by omega⟩
    simp only [laws_toWayS.l0]
    rw [if_pos (by omega), if_pos (by omega), rd_lWay l n hlt]
    simp only [laws_toWay.f, laws_toBlock.f, Option.bind_some]
    rw [if_pos (by omega), hw, Int.toNat_natCast]
    exact e1 k (by omega)
theorem toWay (l : List S128) (hl : l.length ≤ 1073741824) : (∃ K_, ∀ k, K_ ≤ k → laws_toWayS.f k l = some (l.map convWay)) := by
  obtain ⟨K, h⟩ := toWay_loop l hl l.length 0 (List.replicate l.length z86) (by omega) (by simp) (fun j h => absurd h (by omega))
  refine ⟨K, fun k hk => ?_⟩
  simp only [laws_toWayS.f]
  rw [if_pos (by omega), if_pos (by omega), Int.toNat_natCast]
  exact h k hk
/-- What is left of a bound, when so many are taken. -/
theorem szWay (l : List S128) (hl : l.length ≤ 9223372036854775807) : laws_szWayS.f l 1048576 = some (if (l.length : Int) ≤ 1048576 then 1048576 - (l.length : Int) else -1) := by
  unfold laws_szWayS.f
  rw [w64 (by omega)]
  by_cases c : (l.length : Int) ≤ 1048576
  · rw [if_neg (by omega), if_pos c]
  · rw [if_pos (by omega), if_neg c]
theorem eqWay_one (x : S86) : laws_eqWay.f x.f0.f0 x.f0.f1 x.f1 x.f0.f0 x.f0.f1 x.f1 = some true := by
  simp [laws_eqWay.f, laws_eqBlock.f]
theorem eqWay_loop (l : List S86) (hl : l.length ≤ 1073741824) (d : Nat) : ∀ n : Nat, n + d = l.length → (∃ K_, ∀ k, K_ ≤ k → laws_eqWayS.l0 k l l (n : Int) = some true) := by
  induction d with
  | zero =>
    intro n hn
    refine ⟨1, fun k hk => ?_⟩
    obtain ⟨k, rfl⟩ : ∃ j, k = j + 1 := ⟨k - 1, by omega⟩
    simp only [laws_eqWayS.l0]
    rw [if_neg (by omega)]
  | succ d ih =>
    intro n hn
    have hw : wrap64 ((n : Int) + 1) = ((n + 1 : Nat) : Int) := by rw [w64 (by omega)]; omega
    obtain ⟨K1, e1⟩ := ih (n + 1) (by omega)
    refine ⟨K1 + 1, fun k hk => ?_⟩
    obtain ⟨k, rfl⟩ : ∃ j, k = j + 1 := ⟨k - 1, by omega⟩
    simp only [laws_eqWayS.l0]
    rw [if_pos (by omega), if_pos (by omega), if_pos (by omega), eqWay_one, Option.bind_some, if_pos rfl, hw]
    exact e1 k (by omega)
theorem eqWay (l : List S86) (hl : l.length ≤ 1073741824) : (∃ K_, ∀ k, K_ ≤ k → laws_eqWayS.f k l l = some true) := by
  obtain ⟨K, h⟩ := eqWay_loop l hl l.length 0 (by omega)
  refine ⟨K, fun k hk => ?_⟩
  simp only [laws_eqWayS.f]
  rw [if_pos trivial]
  exact h k hk
theorem rdiWay (l : List S86) (n : Nat) (h : n < l.length) : rd_T86 l (n : Int) = l[n] := by
  unfold rd_T86
  rw [List.getD_eq_getElem?_getD, Int.toNat_natCast, List.getElem?_eq_getElem h]
  rfl
theorem rdsetWay (l : List S86) (n : Nat) (x : S86) (h : n < l.length) : rd_T86 (l.set n x) (n : Int) = x := by
  unfold rd_T86
  rw [List.getD_eq_getElem?_getD, Int.toNat_natCast, List.getElem?_set_self h]
  rfl
/-- An element all of whose fields are numbers that follow one another. -/
def mkWay (a : Int) : S86 := ⟨⟨a, a + 1⟩, a + 1 + 1⟩
theorem markWay_loop (a : Int) (ha0 : 0 ≤ a) (ha1 : a ≤ 1000000000000000) (d : Nat) : ∀ (n : Nat) (l : List S86), n + d = l.length → l.length ≤ 1073741824 → (∀ j (h : j < l.length), j < n → l[j] = mkWay (a + 3 * j)) → Dr (fun k => laws_markWayS.l0 k l (a + 3 * (n : Int)) (n : Int)) fun r => r.1 = a + 3 * (l.length : Int) ∧ r.2.length = l.length ∧ ∀ j (h : j < r.2.length), r.2[j] = mkWay (a + 3 * j) := by
  induction d with
  | zero =>
    intro n l hn hl hj
    refine dr1 ?_
    simp only [laws_markWayS.l0]
    have e : n = l.length := by omega
    exact drN (by omega) (drR ⟨by rw [e], rfl, fun j h => hj j h (by simp only [] at h; omega)⟩)
  | succ d ih =>
    intro n l hn hl hj
    have hlt : n < l.length := by omega
    have hw : wrap64 ((n : Int) + 1) = ((n + 1 : Nat) : Int) := by rw [w64 (by omega)]; omega
    generalize hX : a + 3 * (n : Int) = X
    have hX0 : 0 ≤ X ∧ X ≤ 2000000000000000 := by omega
    have hw1 : wrap64 (X + 1) = X + 1 := w64 (by omega)
    have hw2 : wrap64 (X + 1 + 1) = X + 1 + 1 := w64 (by omega)
    have hw3 : wrap64 (X + 1 + 1 + 1) = X + 1 + 1 + 1 := w64 (by omega)
    refine dr1 ?_
    simp only [laws_markWayS.l0, Option.bind_some, Int.toNat_natCast, rdsetWay, List.length_set, hlt, List.set_set, hw, hw1, hw2, hw3]
    refine drP (by omega) (drP (by omega) ?_)
    have e : X + 1 + 1 + 1 = a + 3 * ((n + 1 : Nat) : Int) := by omega
    rw [e]
    refine (ih (n + 1) (l.set n _) (by simp only [List.length_set]; omega) (by simp only [List.length_set]; omega) (fun j h hj2 => ?_)).imp fun r hr => ?_
    · by_cases c : j = n
      · subst c
        rw [List.getElem_set_self, hX]
        rfl
      · rw [List.getElem_set_ne (fun h => c h.symm)]
        exact hj j (by simpa using h) (by omega)
    · simp only [List.length_set] at hr
      exact hr
theorem markWay (l : List S86) (a : Int) (ha0 : 0 ≤ a) (ha1 : a ≤ 1000000000000000) (hl : l.length ≤ 1073741824) : Dr (fun k => laws_markWayS.f k l a) fun r => r.1 = a + 3 * (l.length : Int) ∧ r.2.length = l.length ∧ ∀ j (h : j < r.2.length), r.2[j] = mkWay (a + 3 * j) := by
  have := markWay_loop a ha0 ha1 l.length 0 l (by omega) hl (fun j h h2 => absurd h2 (by omega))
  simp only [Int.ofNat_zero, Int.mul_zero, Int.add_zero, Int.natCast_zero] at this
  simp only [laws_markWayS.f]
  exact this
theorem heldWay_loop (l : List S86) (a : Int) (ha0 : 0 ≤ a) (ha1 : a ≤ 1000000000000000) (hl : l.length ≤ 1073741824) (hj : ∀ j (h : j < l.length), l[j] = mkWay (a + 3 * j)) (d : Nat) : ∀ n : Nat, n + d = l.length → (∃ K_, ∀ k, K_ ≤ k → laws_heldWayS.l0 k l (a + 3 * (n : Int)) (n : Int) = some (a + 3 * (l.length : Int))) := by
  induction d with
  | zero =>
    intro n hn
    refine ev1 ?_
    simp only [laws_heldWayS.l0]
    have e : n = l.length := by omega
    exact evN (by omega) (evR (by rw [e]))
  | succ d ih =>
    intro n hn
    have hlt : n < l.length := by omega
    have hw : wrap64 ((n : Int) + 1) = ((n + 1 : Nat) : Int) := by rw [w64 (by omega)]; omega
    have hm := hj n hlt
    have := ih (n + 1) (by omega)
    generalize hX : a + 3 * (n : Int) = X at *
    have hX0 : 0 ≤ X ∧ X ≤ 2000000000000000 := by omega
    have hw1 : wrap64 (X + 1) = X + 1 := w64 (by omega)
    have hw2 : wrap64 (X + 1 + 1) = X + 1 + 1 := w64 (by omega)
    have hw3 : wrap64 (X + 1 + 1 + 1) = X + 1 + 1 + 1 := w64 (by omega)
    refine ev1 ?_
    simp only [laws_heldWayS.l0, rdiWay, hlt, hm, mkWay, hw, hw1, hw2, hw3]
    have e : X + 1 + 1 + 1 = a + 3 * ((n + 1 : Nat) : Int) := by omega
    rw [e]
    exact evP (by omega) (evP (by omega) (evP trivial (evP trivial (evP trivial this))))
theorem heldWay (l : List S86) (a : Int) (ha0 : 0 ≤ a) (ha1 : a ≤ 1000000000000000) (hl : l.length ≤ 1073741824) (hj : ∀ j (h : j < l.length), l[j] = mkWay (a + 3 * j)) : (∃ K_, ∀ k, K_ ≤ k → laws_heldWayS.f k l a = some (a + 3 * (l.length : Int))) := by
  have := heldWay_loop l a ha0 ha1 hl hj l.length 0 (by omega)
  simp only [Int.ofNat_zero, Int.mul_zero, Int.add_zero, Int.natCast_zero] at this
  simp only [laws_heldWayS.f]
  exact this
end Go.Proofs.Ytioghacieopbdaa.Z
end
