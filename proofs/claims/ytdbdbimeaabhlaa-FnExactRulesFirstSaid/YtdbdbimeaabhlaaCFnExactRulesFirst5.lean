/- Contracts of the functions that the statement reaches, printed by a program out of the translation and joined with the plain laws. -/
import Derived.Deep.Slices
import Derived.Deep.Fields
import Derived.ChangeSame
import Derived.ChangeArms
import Derived.Laws.BitsAllLaws
import Derived.RowKit
import Derived.Test.YtdbdbimeaabhlaaCFnExactRulesFirst0
import Derived.Test.YtdbdbimeaabhlaaCFnExactRulesFirst2
import Derived.Test.YtdbdbimeaabhlaaCFnExactRulesFirst3
import Derived.Test.YtdbdbimeaabhlaaCFnExactRulesFirst4
section
namespace Go.Proofs.Ytdbdbimeaabhlaa.PAll
open Go.RowKit Go.Proofs.YtdbdbimeaabhlaaW.PrintWords Go.Proofs.YtdbdbimeaabhlaaW.PrintLast Go.Proofs.YtdbdbimeaabhlaaW.PrintMore
attribute [local go_sem] max2_int min2_int max_two min_two max_three min_three max_four min_four   -- for this text's walks alone
set_option linter.unusedVariables false
set_option linter.unusedSimpArgs false
/-- The place of the first element of which p holds, from i on; -1. -/
def findO {α : Type} (p : α → Option Bool) : List α → Int → Option Int
  | [], _ => some (-1)
  | x :: xs, i => (p x).bind fun b => if b = true then some i else findO p xs (i + 1)
/-- Does p hold of some element? -/
def anyO {α : Type} (p : α → Option Bool) : List α → Option Bool
  | [] => some false
  | x :: xs => (p x).bind fun b => if b = true then some true else anyO p xs
theorem findO_any {α : Type} (p : α → Option Bool) : ∀ (l : List α) (i : Int) (r : Bool), 0 ≤ i → anyO p l = some r → ∃ v, findO p l i = some v ∧ decide (0 ≤ v) = r
  | [], i, r, _, h => by
    simp only [anyO, Option.some.injEq] at h
    exact ⟨-1, rfl, by rw [← h]; rfl⟩
  | x :: xs, i, r, hi, h => by
    simp only [anyO, Option.bind_eq_some_iff] at h
    obtain ⟨b, hb, h⟩ := h
    simp only [findO, hb, Option.bind_some]
    cases b with
    | true => exact ⟨i, rfl, by simp at h; rw [h]; simp [hi]⟩
    | false =>
      simp only [Bool.false_eq_true, if_false] at h ⊢
      exact findO_any p xs (i + 1) r (by omega) h
end Go.Proofs.Ytdbdbimeaabhlaa.PAll
end
section
namespace Go.Proofs.Ytdbdbimeaabhlaa.PAll
open Go.RowKit Go.Proofs.YtdbdbimeaabhlaaW.PrintWords Go.Proofs.YtdbdbimeaabhlaaW.PrintLast Go.Proofs.YtdbdbimeaabhlaaW.PrintMore
attribute [local go_sem] max2_int min2_int max_two min_two max_three min_three max_four min_four   -- for this text's walks alone
set_option linter.unusedVariables false
set_option linter.unusedSimpArgs false
/-- Whatever reads as a datum of the type is a value of the kind. -/
def Rdr {α : Type} (d : Kd α) (P : Program) (w : World) (t : TypeId) (WF : α → Prop) : Prop :=
  ∀ {H : Type} {enc : TypeId × Value → H} {base : Nat} {spare : Nat → Bool} {held : Bool} {fuel : Nat} {cs : List Value} {x : DataW H × List MemPlace}, DataW.trod enc P w base spare held fuel t cs = some x → ∃ v, d.K w v cs ∧ WF v
theorem Rdr.get {α : Type} {d : Kd α} {P : Program} {w : World} {t : TypeId} {WF : α → Prop} (r : Rdr d P w t WF) {H : Type} {enc : TypeId × Value → H} {base : Nat} {spare : Nat → Bool} {held : Bool} {fuel : Nat} (cs : List Value) {x : DataW H × List MemPlace} (h : DataW.trod enc P w base spare held fuel t cs = some x) : ∃ v, d.K w v cs ∧ WF v := r h
theorem rdr_int {k : IntKind} {P : Program} {w : World} {t : TypeId} (ht : P.underlying t = some (.int k)) : Rdr (Kd.int k) P w t (fun n => (Lit.int k n).wf = true) := by
  intro H enc base spare held fuel cs x h
  obtain ⟨n, hc, _, hw⟩ := DataW.trod_int ht h
  exact ⟨n, hc, hw⟩
theorem rdr_slice {α : Type} {d : Kd α} {P : Program} {w : World} {t e : TypeId} {WF : α → Prop} (z : α) (ht : P.underlying t = some (.slice e)) (hc : P.cellsOf e = d.sz) (he : Rdr d P w e WF) :
    Rdr (Kd.slice e d) P w t (fun xs => xs.length ≤ maxLen ∧ ∀ x ∈ xs, WF x) := by
  intro H enc base spare held fuel cs x h
  rcases Go.Deep.open_slice ht h with ⟨rfl, _⟩ | ⟨a, len, cap, m, n, D, Pl, rfl, hb, hl, hm, hmm, _, hi⟩
  · exact ⟨[], ⟨none, 0, rfl, Nat.le_refl _, Kd.C_nil _ _⟩, by simp, by simp⟩
  · have hlm : len ≤ m := by rw [hmm]; split <;> omega
    haveI : Inhabited α := ⟨z⟩
    obtain ⟨f, hf⟩ : ∃ f : Nat → α, ∀ i, i < len → WF (f i) ∧ ∃ cs', cs'.length = d.sz ∧ d.K w (f i) cs' ∧ ∀ j u, cs'[j]? = some u → w.cell? (a.add (i * d.sz + j)) = some u := by
      refine Go.Deep.choose_lt (p := fun i x => WF x ∧ ∃ cs', cs'.length = d.sz ∧ d.K w x cs' ∧ ∀ j u, cs'[j]? = some u → w.cell? (a.add (i * d.sz + j)) = some u) ?_
      intro i hlt
      obtain ⟨cs', hcell, htrod⟩ := hi i (by omega)
      obtain ⟨v, hk, hw⟩ := he htrod
      rw [hc] at hcell
      obtain ⟨_, hcl, hat⟩ := World.cells?_some hcell
      refine ⟨v, hw, cs', hcl, hk, fun j u hj => ?_⟩
      have hjl : j < cs'.length := (List.getElem?_eq_some_iff.1 hj).1
      have := hat j (by omega)
      rw [← Go.Deep.add_add, this, hj]
    have hlen : ((List.range len).map f).length = len := by simp
    refine ⟨(List.range len).map f, ⟨some a, cap, by rw [hlen], by rw [hlen]; exact hl, ?_⟩, by rw [hlen]; omega, ?_⟩
    · rw [hlen]
      refine ⟨hlen, by unfold maxLen at hm; omega, fun _ => ⟨a, rfl, fun j p hj => ?_⟩⟩
      have hjl : j < len := by have := (List.getElem?_eq_some_iff.1 hj).1; omega
      have hp : f j = p := by simpa [List.getElem?_map, List.getElem?_range hjl] using hj
      subst hp
      obtain ⟨_, cs', h1, h2, h3⟩ := hf j hjl
      exact ⟨cs', h1, h2, h3⟩
    · intro v hv
      obtain ⟨i, hi', rfl⟩ := List.mem_map.1 hv
      exact (hf i (List.mem_range.1 hi')).1
theorem rdr_field {H : Type} {enc : TypeId × Value → H} {P : Program} {w : World} {base : Nat} {spare : Nat → Bool} {held : Bool} {fuel : Nat} {t : TypeId} {cs : List Value} {x : DataW H × List MemPlace} {fs : Array Field} (hu : P.underlying t = some (.struct fs))
    (h : DataW.trod enc P w base spare held fuel t cs = some x) (i : Nat) (f : Field) (hi : fs[i]? = some f) (c : Nat) (hc : P.cellsOf f.type = c) : ∃ n y, DataW.trod enc P w base spare held n f.type ((cs.drop f.offset).take c) = some y := by
  obtain ⟨xs, n, _, _, _, hl, hf⟩ := DataW.trod_struct hu h
  have hil : i < xs.length := by rw [hl]; exact (Array.getElem?_eq_some_iff.1 hi).1
  have := hf i f hi
  rw [hc, List.getElem?_eq_getElem hil] at this
  exact ⟨n, _, this⟩
theorem rdr_cells {H : Type} {enc : TypeId × Value → H} {P : Program} {w : World} {base : Nat} {spare : Nat → Bool} {held : Bool} {fuel : Nat} {t : TypeId} {cs : List Value} {x : DataW H × List MemPlace} {fs : Array Field} (hu : P.underlying t = some (.struct fs))
    (h : DataW.trod enc P w base spare held fuel t cs = some x) (c : Nat) (hc : P.cellsOf t = c) : cs.length = c := by
  obtain ⟨xs, n, _, _, hl, _, _⟩ := DataW.trod_struct hu h
  rw [hl, hc]
def wfT74 (v : S74) : Prop := (Lit.int .i64 v.f0).wf = true ∧ (Lit.int .i64 v.f1).wf = true
theorem rdr_T74 (w : World) : Rdr k74 Try.prog w 74 wfT74 := by
  intro H enc base spare held fuel cs x h
  have hlen := rdr_cells Try.underlying74 h 2 (by kernel_rfl)
  match cs, hlen with
  | [c0_, c1_], _ =>
    obtain ⟨n0, y0, h0⟩ := rdr_field Try.underlying74 h 0 _ rfl 1 (by kernel_rfl)
    obtain ⟨v0, k0_, w0⟩ := Rdr.get (rdr_int Try.underlying3) [c0_] h0
    obtain ⟨n1, y1, h1⟩ := rdr_field Try.underlying74 h 1 _ rfl 1 (by kernel_rfl)
    obtain ⟨v1, k1_, w1⟩ := Rdr.get (rdr_int Try.underlying3) [c1_] h1
    exact ⟨⟨v0, v1⟩, ⟨[c0_], [c1_], rfl, k0_, k1_⟩, ⟨w0, w1⟩⟩
def wfT84 (v : S84) : Prop := (Lit.int .i64 v.f0).wf = true ∧ (Lit.int .i64 v.f1).wf = true ∧ wfT74 v.f2 ∧ wfT74 v.f3 ∧ (Lit.int .i64 v.f4).wf = true ∧ (Lit.int .i64 v.f5).wf = true
theorem rdr_T84 (w : World) : Rdr k84 Try.prog w 84 wfT84 := by
  intro H enc base spare held fuel cs x h
  have hlen := rdr_cells Try.underlying84 h 8 (by kernel_rfl)
  match cs, hlen with
  | [c0_, c1_, c2_, c3_, c4_, c5_, c6_, c7_], _ =>
    obtain ⟨n0, y0, h0⟩ := rdr_field Try.underlying84 h 0 _ rfl 1 (by kernel_rfl)
    obtain ⟨v0, k0_, w0⟩ := Rdr.get (rdr_int Try.underlying3) [c0_] h0
    obtain ⟨n1, y1, h1⟩ := rdr_field Try.underlying84 h 1 _ rfl 1 (by kernel_rfl)
    obtain ⟨v1, k1_, w1⟩ := Rdr.get (rdr_int Try.underlying3) [c1_] h1
    obtain ⟨n2, y2, h2⟩ := rdr_field Try.underlying84 h 2 _ rfl 2 (by kernel_rfl)
    obtain ⟨v2, k2_, w2⟩ := Rdr.get (rdr_T74 w) [c2_, c3_] h2
    obtain ⟨n3, y3, h3⟩ := rdr_field Try.underlying84 h 3 _ rfl 2 (by kernel_rfl)
    obtain ⟨v3, k3_, w3⟩ := Rdr.get (rdr_T74 w) [c4_, c5_] h3
    obtain ⟨n4, y4, h4⟩ := rdr_field Try.underlying84 h 4 _ rfl 1 (by kernel_rfl)
    obtain ⟨v4, k4_, w4⟩ := Rdr.get (rdr_int Try.underlying3) [c6_] h4
    obtain ⟨n5, y5, h5⟩ := rdr_field Try.underlying84 h 5 _ rfl 1 (by kernel_rfl)
    obtain ⟨v5, k5_, w5⟩ := Rdr.get (rdr_int Try.underlying3) [c7_] h5
    exact ⟨⟨v0, v1, v2, v3, v4, v5⟩, ⟨[c0_], [c1_, c2_, c3_, c4_, c5_, c6_, c7_], rfl, k0_, ⟨[c1_], [c2_, c3_, c4_, c5_, c6_, c7_], rfl, k1_, ⟨[c2_, c3_], [c4_, c5_, c6_, c7_], rfl, k2_, ⟨[c4_, c5_], [c6_, c7_], rfl, k3_, ⟨[c6_], [c7_], rfl, k4_, k5_⟩⟩⟩⟩⟩, ⟨w0, w1, w2, w3, w4, w5⟩⟩
def wfT47 (v : S47) : Prop := (Lit.int .i64 v.f0).wf = true ∧ (Lit.int .i64 v.f1).wf = true ∧ (Lit.int .i64 v.f2).wf = true
theorem rdr_T47 (w : World) : Rdr k47 Try.prog w 47 wfT47 := by
  intro H enc base spare held fuel cs x h
  have hlen := rdr_cells Try.underlying47 h 3 (by kernel_rfl)
  match cs, hlen with
  | [c0_, c1_, c2_], _ =>
    obtain ⟨n0, y0, h0⟩ := rdr_field Try.underlying47 h 0 _ rfl 1 (by kernel_rfl)
    obtain ⟨v0, k0_, w0⟩ := Rdr.get (rdr_int Try.underlying3) [c0_] h0
    obtain ⟨n1, y1, h1⟩ := rdr_field Try.underlying47 h 1 _ rfl 1 (by kernel_rfl)
    obtain ⟨v1, k1_, w1⟩ := Rdr.get (rdr_int Try.underlying3) [c1_] h1
    obtain ⟨n2, y2, h2⟩ := rdr_field Try.underlying47 h 2 _ rfl 1 (by kernel_rfl)
    obtain ⟨v2, k2_, w2⟩ := Rdr.get (rdr_int Try.underlying3) [c2_] h2
    exact ⟨⟨v0, v1, v2⟩, ⟨[c0_], [c1_, c2_], rfl, k0_, ⟨[c1_], [c2_], rfl, k1_, k2_⟩⟩, ⟨w0, w1, w2⟩⟩
end Go.Proofs.Ytdbdbimeaabhlaa.PAll
end
section
namespace Go.Proofs.Ytdbdbimeaabhlaa.Z
open Go Go.RowKit Go.Proofs.YtdbdbimeaabhlaaW.PrintWords Go.Proofs.YtdbdbimeaabhlaaW.PrintMore
set_option linter.unusedVariables false
set_option linter.unusedSimpArgs false
theorem w64 {n : Int} (h : -9223372036854775808 ≤ n ∧ n ≤ 9223372036854775807) : wrap64 n = n := by unfold wrap64; omega
/-- The number of addresses of a block of so many bits. -/
def sz (m : Int) : Int := 2 ^ (32 - m).toNat
theorem sz_pos (m : Int) : 1 ≤ sz m := by
  unfold sz
  have : (0 : Int) < 2 ^ (32 - m).toNat := Int.pow_pos (by decide)
  omega
theorem sz_dvd {m n : Int} (h : m ≤ n) : sz n ∣ sz m := by
  unfold sz
  obtain ⟨j, e⟩ : ∃ j : Nat, (32 - m).toNat = (32 - n).toNat + j := ⟨(32 - m).toNat - (32 - n).toNat, by omega⟩
  rw [e, Int.pow_add]
  exact Int.dvd_mul_right _ _
theorem sz_le {m n : Int} (h : m ≤ n) : sz n ≤ sz m := Int.le_of_dvd (by have := sz_pos m; omega) (sz_dvd h)
theorem sz_top {m : Int} (h0 : 0 ≤ m) : sz m ≤ 4294967296 := sz_le h0
/-- A block that is valid. -/
def bok (b m : Int) : Prop := 0 ≤ b ∧ b ≤ 4294967295 ∧ 0 ≤ m ∧ m ≤ 32 ∧ b % sz m = 0
instance (b m : Int) : Decidable (bok b m) := by unfold bok; exact inferInstance
def bokB (b m : Int) : Bool := decide (bok b m)
theorem bokB_true {b m : Int} : bokB b m = true ↔ bok b m := by simp [bokB]
theorem bokB_false {b m : Int} : bokB b m = false ↔ ¬ bok b m := by simp [bokB]
theorem shl_one {x : Int} (h0 : 0 ≤ x) (h1 : x ≤ 62) : shl .i64 1 x = 2 ^ x.toNat := by
  have e : min x.toNat IntKind.i64.bits = x.toNat := by
    have : IntKind.i64.bits = 64 := rfl
    omega
  unfold shl
  rw [e, IntKind.wrap_i64, Int.one_mul]
  have hp : (2 : Int) ^ x.toNat ≤ 2 ^ 62 := by
    exact_mod_cast Nat.pow_le_pow_right (n := 2) (by decide) (by omega : x.toNat ≤ 62)
  have hq : (0 : Int) < 2 ^ x.toNat := Int.pow_pos (by decide)
  omega
theorem shl_sz {m : Int} (h0 : 0 ≤ m) (h1 : m ≤ 32) : shl .i64 1 (32 - m) = sz m := by
  rw [shl_one (by omega) (by omega)]; rfl
theorem Ev.all {α : Type} {g : Nat → Option α} {r : α} (h : ∀ k, g k = some r) : Ev g r := ⟨0, fun k _ => h k⟩
end Go.Proofs.Ytdbdbimeaabhlaa.Z
end
section
namespace Go.Proofs.Ytdbdbimeaabhlaa.Z
open Go Go.RowKit Go.Proofs.Ytdbdbimeaabhlaa.PAll Go.Proofs.YtdbdbimeaabhlaaW.PrintWords Go.Proofs.YtdbdbimeaabhlaaW.PrintLast Go.Proofs.YtdbdbimeaabhlaaW.PrintMore
set_option linter.unusedVariables false
set_option linter.unusedSimpArgs false
theorem spec_in (a l h : Int) : spec_l1In.f a l h = some (decide (l ≤ a ∧ a ≤ h)) := by
  unfold spec_l1In.f
  by_cases c : a ≥ l
  · rw [if_pos c]; simp [c]
  · rw [if_neg c]
    have : ¬ l ≤ a := by omega
    simp [this]
theorem impl_in (a l h : Int) : impl_in.f a l h = some (decide (l ≤ a ∧ a ≤ h)) := by
  unfold impl_in.f
  by_cases c : a ≥ l
  · rw [if_pos c]; simp [c]
  · rw [if_neg c]
    have : ¬ l ≤ a := by omega
    simp [this]
theorem spec_addr (a : Int) : spec_l1Addr.f a = some (decide (0 ≤ a ∧ a ≤ 4294967295)) := by simp only [spec_l1Addr.f, spec_in, Option.bind_some]
theorem impl_addr (a : Int) : impl_isAddr.f a = some (decide (0 ≤ a ∧ a ≤ 4294967295)) := by simp only [impl_isAddr.f, impl_in, Option.bind_some]
theorem two_loop (n : Nat) : ∀ (k : Nat) (c : Int), n ≤ 62 → n < k → 1 ≤ c → c * 2 ^ n ≤ 4611686018427387904 → spec_l1Two.l0 k (n : Int) c = some (c * 2 ^ n) := by
  induction n with
  | zero =>
    intro k c _ hk _ _
    obtain ⟨k, rfl⟩ : ∃ m, k = m + 1 := ⟨k - 1, by omega⟩
    simp only [spec_l1Two.l0]
    rw [if_neg (by omega)]
    simp
  | succ n ih =>
    intro k c hn hk hc hb
    obtain ⟨k, rfl⟩ : ∃ m, k = m + 1 := ⟨k - 1, by omega⟩
    have e : c * 2 ^ (n + 1) = c * 2 * 2 ^ n := by rw [Int.pow_succ, Int.mul_comm ((2 : Int) ^ n) 2, Int.mul_assoc]
    have hp : (1 : Int) ≤ 2 ^ n := by
      have : (0 : Int) < 2 ^ n := Int.pow_pos (by decide)
      omega
    have hc2 : c * 2 ≤ c * 2 * 2 ^ n := by
      have := Int.mul_le_mul_of_nonneg_left hp (by omega : (0 : Int) ≤ c * 2)
      omega
    simp only [spec_l1Two.l0]
    rw [e] at hb ⊢
    rw [if_pos (by omega), w64 (by omega), w64 (by omega)]
    have : ((n + 1 : Nat) : Int) - 1 = (n : Int) := by omega
    rw [this]
    exact ih k (c * 2) (by omega) (by omega) (by omega) hb
theorem spec_two {n : Int} (h0 : 0 ≤ n) (h1 : n ≤ 62) : (∃ K_, ∀ k, K_ ≤ k → spec_l1Two.f k n = some (2 ^ n.toNat)) := by
  refine ⟨n.toNat + 1, fun k hk => ?_⟩
  have e : (n.toNat : Int) = n := by omega
  have hp : (2 : Int) ^ n.toNat ≤ 2 ^ 62 := by
    exact_mod_cast Nat.pow_le_pow_right (n := 2) (by decide) (by omega : n.toNat ≤ 62)
  have := two_loop n.toNat k 1 (by omega) (by omega) (by omega) (by omega)
  rw [e, Int.one_mul] at this
  exact this
theorem spec_size {m : Int} (h0 : 0 ≤ m) (h1 : m ≤ 32) : (∃ K_, ∀ k, K_ ≤ k → spec_l1Size.f k m = some (sz m)) := by
  obtain ⟨K, h⟩ := spec_two (n := 32 - m) (by omega) (by omega)
  refine ⟨K, fun k hk => ?_⟩
  simp only [spec_l1Size.f]
  rw [w64 (by omega), h k hk]
  rfl
theorem impl_size {b m : Int} (h0 : 0 ≤ m) (h1 : m ≤ 32) : impl_Block_size.f b m = some (sz m) := by
  unfold impl_Block_size.f
  rw [w64 (by omega), if_pos (by omega), shl_sz h0 h1]
theorem tmod_beq {b s : Int} (hb : 0 ≤ b) : (Int.tmod b s == 0) = decide (b % s = 0) := by
  rw [Int.tmod_eq_emod_of_nonneg hb]
  rfl
theorem impl_ok (b m : Int) : impl_BlockOk.f b m = some (bokB b m) := by
  unfold impl_BlockOk.f
  rw [impl_addr, Option.bind_some]
  by_cases c : 0 ≤ b ∧ b ≤ 4294967295
  · rw [if_pos (by simpa using c), impl_in, Option.bind_some]
    by_cases d : 0 ≤ m ∧ m ≤ 32
    · rw [if_pos (by simpa using d), impl_size d.1 d.2, Option.bind_some, if_neg (by have := sz_pos m; omega), tmod_beq c.1]
      simp [bokB, bok, c, d]
    · rw [if_neg (by simpa using d)]
      exact congrArg some (bokB_false.2 (fun h => d ⟨h.2.2.1, h.2.2.2.1⟩)).symm
  · rw [if_neg (by simpa using c)]
    exact congrArg some (bokB_false.2 (fun h => c ⟨h.1, h.2.1⟩)).symm
theorem spec_ok (b m : Int) : (∃ K_, ∀ k, K_ ≤ k → spec_BlockOk.f k b m = some (bokB b m)) := by
  by_cases c : 0 ≤ b ∧ b ≤ 4294967295
  · by_cases d : 0 ≤ m ∧ m ≤ 32
    · obtain ⟨K, h⟩ := spec_size d.1 d.2
      refine ⟨K, fun k hk => ?_⟩
      simp only [spec_BlockOk.f]
      rw [spec_addr, Option.bind_some, if_pos (by simpa using c), spec_in, Option.bind_some, if_pos (by simpa using d), h k hk, Option.bind_some, if_neg (by have := sz_pos m; omega), tmod_beq c.1]
      simp [bokB, bok, c, d]
    · refine ⟨0, fun k _ => ?_⟩
      simp only [spec_BlockOk.f]
      rw [spec_addr, Option.bind_some, if_pos (by simpa using c), spec_in, Option.bind_some, if_neg (by simpa using d)]
      exact congrArg some (bokB_false.2 (fun h => d ⟨h.2.2.1, h.2.2.2.1⟩)).symm
  · refine ⟨0, fun k _ => ?_⟩
    simp only [spec_BlockOk.f]
    rw [spec_addr, Option.bind_some, if_neg (by simpa using c)]
    exact congrArg some (bokB_false.2 (fun h => c ⟨h.1, h.2.1⟩)).symm
theorem sz_bd {m : Int} (h0 : 0 ≤ m) : 1 ≤ sz m ∧ sz m ≤ 4294967296 := ⟨sz_pos m, sz_top h0⟩
theorem impl_last {b m : Int} (hb0 : 0 ≤ b) (hb1 : b ≤ 4611686018427387904) (h0 : 0 ≤ m) (h1 : m ≤ 32) : impl_Block_last.f b m = some (b + sz m - 1) := by
  have := sz_bd h0
  unfold impl_Block_last.f
  rw [impl_size h0 h1, Option.bind_some, w64 (n := b + sz m) (by omega), w64 (by omega)]
theorem spec_last {b m : Int} (hb0 : -1 ≤ b) (hb1 : b ≤ 4611686018427387904) (h0 : 0 ≤ m) (h1 : m ≤ 32) : (∃ K_, ∀ k, K_ ≤ k → spec_l1Last.f k b m = some (b + sz m - 1)) := by
  have := sz_bd h0
  obtain ⟨K, h⟩ := spec_size h0 h1
  refine ⟨K, fun k hk => ?_⟩
  simp only [spec_l1Last.f]
  rw [h k hk, Option.bind_some, w64 (n := b + sz m) (by omega), w64 (by omega)]
/-- Is an address in a block? -/
def hasB (b m a : Int) : Bool := decide (b ≤ a ∧ a ≤ b + sz m - 1)
theorem impl_has {b m : Int} (a : Int) (hb0 : 0 ≤ b) (hb1 : b ≤ 4611686018427387904) (h0 : 0 ≤ m) (h1 : m ≤ 32) : impl_Block_has.f b m a = some (hasB b m a) := by
  unfold impl_Block_has.f
  rw [impl_last hb0 hb1 h0 h1, Option.bind_some, impl_in, Option.bind_some]
  rfl
end Go.Proofs.Ytdbdbimeaabhlaa.Z
end
