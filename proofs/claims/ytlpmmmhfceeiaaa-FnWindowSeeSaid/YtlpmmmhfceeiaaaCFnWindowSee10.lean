/- Contracts of the functions that the statement reaches, printed by a program out of the translation and joined with the plain laws. -/
import Derived.Test.YtlpmmmhfceeiaaaCFnWindowSee3
import Derived.Test.YtlpmmmhfceeiaaaCFnWindowSee4
import Derived.Test.YtlpmmmhfceeiaaaCFnWindowSee5
import Derived.Test.YtlpmmmhfceeiaaaCFnWindowSee6
import Derived.Test.YtlpmmmhfceeiaaaCFnWindowSee7
import Derived.Test.YtlpmmmhfceeiaaaCFnWindowSee8
import Derived.Test.YtlpmmmhfceeiaaaCFnWindowSee9
section
namespace Go.Proofs.Ytlpmmmhfceeiaaa.Z
open Go Go.RowKit Go.Proofs.Ytlpmmmhfceeiaaa.PAll Go.Proofs.YtlpmmmhfceeiaaaW.PrintWords Go.Proofs.YtlpmmmhfceeiaaaW.PrintLast Go.Proofs.YtlpmmmhfceeiaaaW.PrintMore
set_option linter.unusedVariables false
set_option linter.unusedSimpArgs false
theorem spec_in (a l h : Int) : spec_l1In.f a l h = some (decide (l ≤ a ∧ a ≤ h)) := by
 unfold spec_l1In.f
 by_cases c : a ≥ l
 ·rw [if_pos c]; simp [c]
 ·rw [if_neg c]
  have : ¬ l ≤ a := by omega
  simp [this]
theorem impl_in (a l h : Int) : impl_in.f a l h = some (decide (l ≤ a ∧ a ≤ h)) := by
 unfold impl_in.f
 by_cases c : a ≥ l
 ·rw [if_pos c]; simp [c]
 ·rw [if_neg c]
  have : ¬ l ≤ a := by omega
  simp [this]
theorem impl_size {b m : Int} (h0 : 0 ≤ m) (h1 : m ≤ 32) : impl_Block_size.f b m = some (sz m) := by
 unfold impl_Block_size.f
 rw [w64 (by omega), if_pos (by omega), shl_sz h0 h1]
theorem sz_bd {m : Int} (h0 : 0 ≤ m) : 1 ≤ sz m ∧ sz m ≤ 4294967296 := ⟨sz_pos m, sz_top h0⟩
theorem impl_last {b m : Int} (hb0 : 0 ≤ b) (hb1 : b ≤ 4611686018427387904) (h0 : 0 ≤ m) (h1 : m ≤ 32) : impl_Block_last.f b m = some (b + sz m - 1) := by
 have := sz_bd h0
 unfold impl_Block_last.f
 rw [impl_size h0 h1, Option.bind_some, w64 (n := b + sz m) (by omega), w64 (by omega)]
/-- Is an address in a block? -/
def hasB (b m a : Int) : Bool := decide (b ≤ a ∧ a ≤ b + sz m - 1)
theorem impl_has {b m : Int} (a : Int) (hb0 : 0 ≤ b) (hb1 : b ≤ 4611686018427387904) (h0 : 0 ≤ m) (h1 : m ≤ 32) : impl_Block_has.f b m a = some (hasB b m a) := by
 unfold impl_Block_has.f
 rw [impl_last hb0 hb1 h0 h1, Option.bind_some, impl_in, Option.bind_some]
 rfl
abbrev Ru := S141
/-- Is a number in a range? -/
def inR (a l h : Int) : Bool := decide (l ≤ a ∧ a ≤ h)
theorem impl_inR (a l h : Int) : impl_in.f a l h = some (inR a l h) := impl_in a l h
theorem spec_inR (a l h : Int) : spec_l1In.f a l h = some (inR a l h) := spec_in a l h
def tunB (x : Ru) : Bool := if x.f0 = 2 then inR x.f1 0 3 else decide (x.f1 = 0)
/-- Is a rule valid? -/
def ruleB (x : Ru) : Bool := bokB x.f2.f0 x.f2.f1 && (bokB x.f3.f0 x.f3.f1 && (inR x.f4 0 x.f5 && (decide (x.f5 ≤ 65535) && (inR x.f0 0 2 && tunB x))))
theorem ruleB_blocks {x : Ru} (h : ruleB x = true) : bok x.f2.f0 x.f2.f1 ∧ bok x.f3.f0 x.f3.f1 ∧ 0 ≤ x.f4 ∧ x.f4 ≤ x.f5 ∧ x.f5 ≤ 65535 := by
 simp only [ruleB, inR, Bool.and_eq_true, bokB_true, decide_eq_true_eq] at h
 exact ⟨h.1, h.2.1, h.2.2.1.1, h.2.2.1.2, h.2.2.2.1⟩
/-- Is a rule about a call? -/
def aboutB (a b c : Int) (x : Ru) : Bool := hasB x.f2.f0 x.f2.f1 a && (hasB x.f3.f0 x.f3.f1 b && inR c x.f4 x.f5)
theorem impl_matches {x : Ru} (h : ruleB x = true) (a b c : Int) : impl_Rule_matches.f x.f0 x.f1 x.f2.f0 x.f2.f1 x.f3.f0 x.f3.f1 x.f4 x.f5 a b c = some (aboutB a b c x) := by
 obtain ⟨h1, h2, _⟩ := ruleB_blocks h
 unfold impl_Rule_matches.f aboutB
 rw [impl_has a h1.1 (by have := h1.2.1; omega) h1.2.2.1 h1.2.2.2.1, Option.bind_some, impl_has b h2.1 (by have := h2.2.1; omega) h2.2.2.1 h2.2.2.2.1, Option.bind_some, impl_inR, Option.bind_some]
 cases hasB x.f2.f0 x.f2.f1 a <;> cases hasB x.f3.f0 x.f3.f1 b <;> simp
/-- The place of the first element of which q holds, from i on; -1. -/
def firstGo {α : Type} (q : α → Bool) : List α → Int → Int
 | [], _ => -1
 | x :: l, i => if q x = true then i else firstGo q l (i + 1)
def firstF (l : List Ru) (a b c : Int) : Int := firstGo (aboutB a b c) l 0
theorem findO_first {α : Type} {p : α → Option Bool} {q : α → Bool} : ∀ (l : List α) (i : Int), (∀ x ∈ l, p x = some (q x)) → findO p l i = some (firstGo q l i)
 | [], _, _ => rfl
 | x :: l, i, h => by
  simp only [findO, firstGo]
  rw [h x (List.mem_cons_self ..), Option.bind_some, findO_first l (i + 1) (fun y hy => h y (List.mem_cons_of_mem _ hy))]
  cases q x <;> simp
theorem impl_first {l : List Ru} (h : ∀ x ∈ l, ruleB x = true) (a b c : Int) : impl_first.f l a b c = some (firstF l a b c) :=
 findO_first l 0 (fun x hx => impl_matches (h x hx) a b c)
theorem rd_int (l : List Int) (n : Nat) (h : n < l.length) : rd l (n : Int) = l[n] := by
 unfold rd
 rw [List.getD_eq_getElem?_getD, Int.toNat_natCast, List.getElem?_eq_getElem h]
 rfl
theorem ovInts_loop (l : List Int) (hl : l.length ≤ 1099511627776) (d : Nat) : ∀ n : Nat, n + d = l.length → (∃ K_, ∀ k, K_ ≤ k → laws_ovInts.l0 k l l (n : Int) = some true) := by
 induction d with
 | zero =>
  intro n hn
  refine ev1 ?_
  simp only [laws_ovInts.l0]
  exact evN (by omega) (evR rfl)
 | succ d ih =>
  intro n hn
  have hw : wrap64 ((n : Int) + 1) = ((n + 1 : Nat) : Int) := by rw [w64 (by omega)]; omega
  refine ev1 ?_
  simp only [laws_ovInts.l0, hw]
  exact evP (by omega) (evP (by omega) (evP (by omega) (evP trivial (ih (n + 1) (by omega)))))
theorem ovInts_self (l : List Int) (hl : l.length ≤ 1099511627776) : (∃ K_, ∀ k, K_ ≤ k → laws_ovInts.f k l l = some true) := by
 simp only [laws_ovInts.f]
 exact evP trivial (ovInts_loop l hl l.length 0 (by omega))
abbrev Sa := S95
/-- Is a window as it should be, from place n on, d places being left? -/
def winGo (t : Int) (l : List Int) : Nat → Nat → Bool
 | 0, _ => if rd l ((l.length : Int) - 1) = t then decide (t ≤ 1000000) else false
 | d + 1, n => if rd l (n : Int) < 1 then false else if rd l (n : Int) ≤ wrap64 (t - 16) then false else if 0 < n then (if rd l (n : Int) ≤ rd l ((n : Int) - 1) then false else winGo t l d (n + 1)) else winGo t l d (n + 1)
def winB (t : Int) (l : List Int) : Bool := if l.length = 0 then t == 0 else winGo t l l.length 0
theorem impl_win_loop (t : Int) (l : List Int) (hl : l.length ≤ 1073741824) (h0 : 0 < l.length) (d : Nat) : ∀ n : Nat, n + d = l.length → (∃ K_, ∀ k, K_ ≤ k → impl_WindowOk.l0 k l (l.length : Int) (n : Int) t l = some (winGo t l d n)) := by
 have hw0 : wrap64 ((l.length : Int) - 1) = (l.length : Int) - 1 := w64 (by omega)
 induction d with
 | zero =>
  intro n hn
  refine ev1 ?_
  simp only [impl_WindowOk.l0, hw0]
  exact evN (by omega) (evP (by omega) (evP (by omega) (evI (fun c => evR (by simp only [winGo, if_pos c])) (fun c => evR (by simp only [winGo, if_neg c])))))
 | succ d ih =>
  intro n hn
  have hw : wrap64 ((n : Int) + 1) = ((n + 1 : Nat) : Int) := by rw [w64 (by omega)]; omega
  have hw2 : wrap64 ((n : Int) - 1) = (n : Int) - 1 := w64 (by omega)
  have hi := ih (n + 1) (by omega)
  refine ev1 ?_
  simp only [impl_WindowOk.l0, hw, hw2]
  refine evP (by omega) (evP (by omega) (evP (by omega) (evI (fun c1 => evR (by simp only [winGo, if_pos c1])) (fun c1 => evI (fun c2 => evR (by simp only [winGo, if_neg c1, if_pos c2])) (fun c2 => evI (fun c3 => evP (by omega) (evP (by omega) (evI (fun c4 => evR (by simp only [winGo, if_neg c1, if_neg c2, if_pos (show 0 < n by omega), if_pos c4])) (fun c4 => ?_)))) (fun c3 => ?_))))))
  ·have e : winGo t l (d + 1) n = winGo t l d (n + 1) := by simp only [winGo, if_neg c1, if_neg c2, if_pos (show 0 < n by omega), if_neg c4]
   rw [e]; exact hi
  ·have e : winGo t l (d + 1) n = winGo t l d (n + 1) := by simp only [winGo, if_neg c1, if_neg c2, if_neg (show ¬ 0 < n by omega)]
   rw [e]; exact hi
theorem impl_win (t : Int) (l : List Int) (hl : l.length ≤ 1073741824) : (∃ K_, ∀ k, K_ ≤ k → impl_WindowOk.f k t l = some (winB t l)) := by
 simp only [impl_WindowOk.f]
 refine evI (fun c => evR (by rw [winB, if_pos (by omega)])) (fun c => ?_)
 have e : winB t l = winGo t l l.length 0 := by rw [winB, if_neg (by omega)]
 rw [e]
 exact impl_win_loop t l hl (by omega) l.length 0 (by omega)
theorem spec_win_loop (t : Int) (l : List Int) (hl : l.length ≤ 1073741824) (h0 : 0 < l.length) (d : Nat) : ∀ n : Nat, n + d = l.length → (∃ K_, ∀ k, K_ ≤ k → spec_WindowOk.l0 k (l.length : Int) (n : Int) t l = some (winGo t l d n)) := by
 have hw0 : wrap64 ((l.length : Int) - 1) = (l.length : Int) - 1 := w64 (by omega)
 induction d with
 | zero =>
  intro n hn
  refine ev1 ?_
  simp only [spec_WindowOk.l0, hw0]
  exact evN (by omega) (evP (by omega) (evP (by omega) (evI (fun c => evR (by simp only [winGo, if_pos c])) (fun c => evR (by simp only [winGo, if_neg c])))))
 | succ d ih =>
  intro n hn
  have hw : wrap64 ((n : Int) + 1) = ((n + 1 : Nat) : Int) := by rw [w64 (by omega)]; omega
  have hw2 : wrap64 ((n : Int) - 1) = (n : Int) - 1 := w64 (by omega)
  have hi := ih (n + 1) (by omega)
  refine ev1 ?_
  simp only [spec_WindowOk.l0, hw, hw2]
  refine evP (by omega) (evP (by omega) (evP (by omega) (evI (fun c2 => evR (by simp only [winGo, if_pos c2, ite_self])) (fun c2 => evI (fun c1 => evR (by simp only [winGo, if_pos c1])) (fun c1 => evI (fun c3 => evP (by omega) (evP (by omega) (evI (fun c4 => evR (by simp only [winGo, if_neg c1, if_neg c2, if_pos (show 0 < n by omega), if_pos (show rd l (n : Int) ≤ rd l ((n : Int) - 1) from c4)])) (fun c4 => ?_)))) (fun c3 => ?_))))))
  ·have e : winGo t l (d + 1) n = winGo t l d (n + 1) := by simp only [winGo, if_neg c1, if_neg c2, if_pos (show 0 < n by omega), if_neg (show ¬ rd l (n : Int) ≤ rd l ((n : Int) - 1) from c4)]
   rw [e]; exact hi
  ·have e : winGo t l (d + 1) n = winGo t l d (n + 1) := by simp only [winGo, if_neg c1, if_neg c2, if_neg (show ¬ 0 < n by omega)]
   rw [e]; exact hi
theorem spec_win (t : Int) (l : List Int) (hl : l.length ≤ 1073741824) : (∃ K_, ∀ k, K_ ≤ k → spec_WindowOk.f k t l = some (winB t l)) := by
 simp only [spec_WindowOk.f]
 refine evI (fun c => evR (by rw [winB, if_pos (by omega)])) (fun c => ?_)
 have e : winB t l = winGo t l l.length 0 := by rw [winB, if_neg (by omega)]
 rw [e]
 exact spec_win_loop t l hl (by omega) l.length 0 (by omega)
theorem rd_sa (l : List Sa) (n : Nat) (h : n < l.length) : rd_T95 l (n : Int) = l[n] := by
 unfold rd_T95
 rw [List.getD_eq_getElem?_getD, Int.toNat_natCast, List.getElem?_eq_getElem h]
 rfl
def winsOk (l : List Sa) : Prop := l.length ≤ 1073741824 ∧ ∀ x ∈ l, x.f9.f1.length ≤ 1073741824
theorem winsOk.rd {l : List Sa} (h : winsOk l) {n : Nat} (hn : n < l.length) : (rd_T95 l (n : Int)).f9.f1.length ≤ 1073741824 := by
 rw [rd_sa l n hn]; exact h.2 _ (List.getElem_mem hn)
/-- The numbers before n; n in its place. -/
def befF (l : List Int) (n : Int) : List Int := l.takeWhile (fun x => decide (x < n))
def aftF (l : List Int) (n : Int) : List Int := l.dropWhile (fun x => decide (x < n))
def numF (l : List Int) (n : Int) : List Int := befF l n ++ n :: aftF l n
def keepF (t : Int) (l : List Int) : List Int := l.filter (fun x => !decide (x ≤ wrap64 (t - 16)))
/-- A number is seen. -/
def seeF (t : Int) (l : List Int) (n : Int) : Int × List Int × Int :=
 if inR n 1 1000000 = true then (if n ≤ wrap64 (t - 16) then (t, l, 2) else if n ∈ l then (t, l, 3) else (mx t n, keepF (mx t n) (numF l n), 0)) else (t, l, 1)
theorem numF_cons {a n : Int} {l : List Int} (h : a < n) : numF (a :: l) n = a :: numF l n := by simp [numF, befF, aftF, h]
theorem numF_stop {a n : Int} {l : List Int} (h : ¬ a < n) : numF (a :: l) n = n :: a :: l := by simp [numF, befF, aftF, h]
theorem befaft (l : List Int) (n : Int) : befF l n ++ aftF l n = l := List.takeWhile_append_dropWhile
theorem bef_len (l : List Int) (n : Int) : (befF l n).length ≤ l.length := by
 have h := congrArg List.length (befaft l n)
 rw [List.length_append] at h
 omega
theorem numF_len (l : List Int) (n : Int) : (numF l n).length = l.length + 1 := by
 have h := congrArg List.length (befaft l n)
 rw [List.length_append] at h
 simp only [numF, List.length_append, List.length_cons]
 omega
theorem take_bef (l : List Int) (n : Int) : l.take (befF l n).length = befF l n := by
 have h := List.take_left (l₁ := befF l n) (l₂ := aftF l n)
 rwa [befaft] at h
theorem drop_bef (l : List Int) (n : Int) : l.drop (befF l n).length = aftF l n := by
 have h := List.drop_left (l₁ := befF l n) (l₂ := aftF l n)
 rwa [befaft] at h
theorem mem_bef {l : List Int} {n x : Int} (h : x ∈ befF l n) : x < n := by
 have := List.all_takeWhile (p := fun x => decide (x < n)) (l := l)
 exact of_decide_eq_true (List.all_eq_true.1 this x h)
theorem mem_numF {l : List Int} {n x : Int} : x ∈ numF l n ↔ x = n ∨ x ∈ l := by
 have : x ∈ l ↔ x ∈ befF l n ∨ x ∈ aftF l n := by rw [← List.mem_append, befaft]
 rw [this]
 simp only [numF, List.mem_append, List.mem_cons]
 exact ⟨fun h => h.elim (fun h => .inr (.inl h)) (fun h => h.elim .inl (fun h => .inr (.inr h))), fun h => h.elim (fun h => .inr (.inl h)) (fun h => h.elim .inl (fun h => .inr (.inr h)))⟩
theorem aft_ge {l : List Int} {n : Int} (hp : l.Pairwise (· < ·)) : ∀ x ∈ aftF l n, n ≤ x := by
 induction l with
 | nil => intro x hx; simp [aftF] at hx
 | cons a l ih =>
  rw [List.pairwise_cons] at hp
  intro x hx
  by_cases c : a < n
  ·refine ih hp.2 x ?_
   simpa [aftF, c] using hx
  ·simp only [aftF, List.dropWhile_cons, c, decide_false, Bool.false_eq_true, if_false, List.mem_cons] at hx
   rcases hx with rfl | hx
   ·omega
   ·have := hp.1 x hx; omega
theorem bef_idx {l : List Int} {n : Int} (hp : l.Pairwise (· < ·)) {h : Nat} (hh : h < l.length) : l[h] < n ↔ h < (befF l n).length := by
 by_cases c : h < (befF l n).length
 ·have e : (befF l n)[h] = l[h] := by
   have := List.getElem_take (xs := l) (j := (befF l n).length) (i := h) (h := by rw [take_bef]; exact c)
   simp only [take_bef] at this
   exact this
  exact ⟨fun _ => c, fun _ => by rw [← e]; exact mem_bef (List.getElem_mem c)⟩
 ·have hm : l[h] ∈ aftF l n := by
   rw [← drop_bef]
   exact List.mem_drop_iff_getElem.2 ⟨h - (befF l n).length, by omega, by congr 1; omega⟩
  have := aft_ge hp _ hm
  exact ⟨fun h => by omega, fun h => absurd h c⟩
theorem in_end {l : List Int} {n : Int} (h : l.length ≤ (befF l n).length) : n ∉ l := by
 intro hm
 have e : befF l n = l := by rw [← take_bef, List.take_of_length_le h]
 rw [← e] at hm
 exact absurd (mem_bef hm) (Int.lt_irrefl _)
theorem in_at {l : List Int} {n : Int} (hp : l.Pairwise (· < ·)) (h : (befF l n).length < l.length) : n ∈ l ↔ l[(befF l n).length] = n := by
 refine ⟨fun hm => ?_, fun e => by rw [← e]; exact List.getElem_mem h⟩
 obtain ⟨i, hi, e⟩ := List.getElem_of_mem hm
 have h1 := (bef_idx (n := n) hp hi)
 have h2 := (bef_idx (n := n) hp h)
 have h3 : ¬ l[(befF l n).length] < n := fun c => Nat.lt_irrefl _ (h2.1 c)
 have h4 : ¬ i < (befF l n).length := fun c => by have := h1.2 c; omega
 rcases Nat.lt_or_ge (befF l n).length i with h5 | h5
 ·have := List.pairwise_iff_getElem.1 hp _ _ h hi h5
  omega
 ·have : i = (befF l n).length := by omega
  subst this
  exact e
theorem had_loop (n t : Int) (l : List Int) (hl : l.length ≤ 1073741824) (d : Nat) : ∀ i : Nat, i + d = l.length → (∃ K_, ∀ k, K_ ≤ k → spec_l7Had.l0 k n (i : Int) t l = some (decide (n ∈ l.drop i))) := by
 induction d with
 | zero =>
  intro i hi
  refine ev1 ?_
  simp only [spec_l7Had.l0]
  exact evN (by omega) (evR (by rw [List.drop_eq_nil_of_le (by omega)]; simp))
 | succ d ih =>
  intro i hi
  have hw : wrap64 ((i : Int) + 1) = ((i + 1 : Nat) : Int) := by rw [w64 (by omega)]; omega
  have hlt : i < l.length := by omega
  refine ev1 ?_
  simp only [spec_l7Had.l0, hw, rd_int l i hlt]
  refine evP (by omega) (evP (by omega) (evI (fun c => evR ?_) (fun c => ?_)))
  ·rw [List.drop_eq_getElem_cons hlt, c]; simp
  ·have e : decide (n ∈ l.drop i) = decide (n ∈ l.drop (i + 1)) := by
    have c2 : ¬ n = l[i] := fun h => c h.symm
    rw [List.drop_eq_getElem_cons hlt]; simp only [List.mem_cons, c2, false_or]
   rw [e]
   exact ih (i + 1) (by omega)
theorem spec_had (n t : Int) (l : List Int) (hl : l.length ≤ 1073741824) : (∃ K_, ∀ k, K_ ≤ k → spec_l7Had.f k t l n = some (decide (n ∈ l))) := by
 simp only [spec_l7Had.f]
 exact had_loop n t l hl l.length 0 (by omega)
theorem num_loop (l : List Int) (n : Int) (hl : l.length ≤ 1073741824) (hn : n ∉ l) (d : Nat) : ∀ i : Nat, i + d = l.length → numF l n = l.take i ++ numF (l.drop i) n → (∃ K_, ∀ k, K_ ≤ k → spec_l3Num.l0 k l n (i : Int) = some (numF l n)) := by
 induction d with
 | zero =>
  intro i hi h
  refine ev1 ?_
  simp only [spec_l3Num.l0]
  refine evN (by omega) (evS rfl (evP (by omega) (evP (by omega) (evS rfl (evP (by simp; omega) (evS rfl (evS rfl (evP (by simp; omega) (evS rfl (evS rfl (evP (by simp; omega) (evR ?_))))))))))))
  rw [h, List.drop_eq_nil_of_le (by omega : l.length ≤ i)]
  simp [numF, befF, aftF, List.drop_eq_nil_of_le (by omega : l.length ≤ i)]
 | succ d ih =>
  intro i hi h
  have hw : wrap64 ((i : Int) + 1) = ((i + 1 : Nat) : Int) := by rw [w64 (by omega)]; omega
  have hlt : i < l.length := by omega
  refine ev1 ?_
  simp only [spec_l3Num.l0, hw, rd_int l i hlt]
  refine evP (by omega) (evP (by omega) (evI (fun c => ih (i + 1) (by omega) ?_) (fun c => ?_)))
  ·rw [h, List.drop_eq_getElem_cons hlt, numF_cons c, List.take_add_one, List.getElem?_eq_getElem hlt, List.append_assoc]; rfl
  ·have hne : ¬ l[i] = n := fun e => hn (e ▸ List.getElem_mem hlt)
   refine evN hne (evS rfl ?_)
   refine evP (by omega) (evS rfl ?_)
   refine evP (by simp; omega) (evS rfl (evS rfl ?_))
   refine evP (by simp; omega) (evS rfl (evS rfl ?_))
   refine evP (by simp; omega) (evR ?_)
   rw [h, List.drop_eq_getElem_cons hlt, numF_stop c]
   simp
theorem spec_num (l : List Int) (n : Int) (hl : l.length ≤ 1073741824) (hn : n ∉ l) : (∃ K_, ∀ k, K_ ≤ k → spec_l3Num.f k l n = some (numF l n)) := by
 simp only [spec_l3Num.f]
 exact num_loop l n hl hn l.length 0 (by omega) (by simp)
theorem keep_loop (l : List Int) (t : Int) (hl : l.length ≤ 2147483648) (d : Nat) : ∀ (i : Nat) (acc : List Int), i + d = l.length → acc.length ≤ i → (∃ K_, ∀ k, K_ ≤ k → spec_l7See.l0 k l (i : Int) t acc = some (t, acc ++ keepF t (l.drop i), 0)) := by
 induction d with
 | zero =>
  intro i acc hi ha
  refine ev1 ?_
  simp only [spec_l7See.l0]
  exact evN (by omega) (evR (by rw [List.drop_eq_nil_of_le (by omega)]; simp [keepF]))
 | succ d ih =>
  intro i acc hi ha
  have hw : wrap64 ((i : Int) + 1) = ((i + 1 : Nat) : Int) := by rw [w64 (by omega)]; omega
  have hlt : i < l.length := by omega
  refine ev1 ?_
  simp only [spec_l7See.l0, hw, rd_int l i hlt]
  refine evP (by omega) (evP (by omega) (evI (fun c => evP (by omega) ?_) (fun c => ?_)))
  ·have e : acc ++ keepF t (l.drop i) = (acc ++ [l[i]]) ++ keepF t (l.drop (i + 1)) := by
    rw [List.drop_eq_getElem_cons hlt, keepF, List.filter_cons_of_pos (by simpa using c)]; simp [keepF]
   rw [e]
   exact ih (i + 1) _ (by omega) (by simp; omega)
  ·have e : keepF t (l.drop i) = keepF t (l.drop (i + 1)) := by
    rw [List.drop_eq_getElem_cons hlt, keepF, List.filter_cons_of_neg (by simpa using c)]; rfl
   rw [e]
   exact ih (i + 1) _ (by omega) (by omega)
theorem see_j0 (t t2 n : Int) (l : List Int) (hl : l.length ≤ 1073741824) (hn : n ∉ l) : (∃ K_, ∀ k, K_ ≤ k → spec_l7See.j0 k n t l t2 = some (t2, keepF t2 (numF l n), 0)) := by
 refine ev1 ?_
 simp only [spec_l7See.j0]
 have h := keep_loop (numF l n) t2 (by rw [numF_len]; omega) (numF l n).length 0 [] (by omega) (by simp)
 exact evS rfl (evP (by simp; omega) (evB (spec_num l n hl hn) h))
theorem spec_copy (t : Int) (l : List Int) (hl : l.length ≤ 1073741824) : spec_l7Copy.f t l = some (t, l) := by
 simp only [spec_l7Copy.f, Option.bind_some, List.length_nil, List.nil_append]
 rw [if_pos (by omega)]
theorem spec_see (t : Int) (l : List Int) (n : Int) (hl : l.length ≤ 1073741824) : (∃ K_, ∀ k, K_ ≤ k → spec_l7See.f k t l n = some (seeF t l n)) := by
 simp only [spec_l7See.f]
 refine evS (spec_inR _ _ _) (evI (fun c1 => evI (fun c2 => evS (spec_copy t l hl) (evR (by simp only [seeF, if_pos c1, if_pos c2]))) (fun c2 => evB (spec_had n t l hl) (evI (fun c3 => evS (spec_copy t l hl) (evR ?_)) (fun c3 => ?_)))) (fun c1 => evS (spec_copy t l hl) (evR (by simp only [seeF, if_neg c1]))))
 ·have c4 : n ∈ l := by simpa using c3
  simp only [seeF, if_pos c1, if_neg c2, if_pos c4]
 ·have c4 : n ∉ l := by simpa using c3
  have e : seeF t l n = (mx t n, keepF (mx t n) (numF l n), 0) := by simp only [seeF, if_pos c1, if_neg c2, if_neg c4]
  rw [e]
  refine evI (fun c5 => ?_) (fun c5 => ?_)
  ·rw [show mx t n = n by unfold mx; rw [if_pos (by omega)]]
   exact see_j0 t n n l hl c4
  ·rw [show mx t n = t by unfold mx; rw [if_neg (by omega)]]
   exact see_j0 t t n l hl c4
def wseeF (t : Int) (l : List Int) (n : Int) : Int × List Int × Int := if winB t l = true then seeF t l n else (0, [], 1)
theorem spec_wsee (t : Int) (l : List Int) (n : Int) (hl : l.length ≤ 1073741824) : (∃ K_, ∀ k, K_ ≤ k → spec_WindowSee.f k t l n = some (wseeF t l n)) := by
 simp only [spec_WindowSee.f]
 refine evB (spec_win t l hl) (evI (fun c => evB (spec_see t l n hl) (evR (by simp only [wseeF, if_pos c]))) (fun c => evR (by simp only [wseeF, if_neg c])))
theorem u64_sm {n : Int} (h0 : 0 ≤ n) (h1 : n ≤ 9223372036854775807) : IntKind.u64.wrap n = n := by
 simp only [IntKind.wrap_u64]
 omega
theorem mid_hf {i j : Nat} (h : i + j ≤ 4611686018427387904) : wrap64 (IntKind.u64.wrap (wrap64 ((i : Int) + (j : Int))) / 2) = (((i + j) / 2 : Nat) : Int) := by
 rw [w64 (n := (i : Int) + (j : Int)) (by omega), u64_sm (by omega) (by omega), w64 (by omega)]
 omega
theorem isNaN_no (a : Int) : slices_isNaN_int.f a = some false := by simp [slices_isNaN_int.f]
theorem less_int (a b : Int) : cmp_Less_int.f a b = some (decide (a < b)) := by simp [cmp_Less_int.f, cmp_isNaN_int.f]
theorem bin_loop (l : List Int) (n : Int) (hp : l.Pairwise (· < ·)) (hl : l.length ≤ 1099511627776) (d : Nat) : ∀ i j : Nat, i ≤ (befF l n).length → (befF l n).length ≤ j → j ≤ l.length → j - i ≤ d →
  (∃ K_, ∀ k, K_ ≤ k → slices_BinarySearch_int_int.l0 k l n (l.length : Int) (i : Int) (j : Int) = some (((befF l n).length : Int), decide (n ∈ l))) := by
 have hal := bef_len l n
 induction d with
 | zero =>
  intro i j h1 h2 h3 h4
  have e : i = (befF l n).length := by omega
  have e2 : j = (befF l n).length := by omega
  subst e e2
  refine ev1 ?_
  simp only [slices_BinarySearch_int_int.l0]
  refine evN (by omega) (evI (fun c => ?_) (fun c => evR (by rw [decide_eq_false (in_end (by omega))])))
  have hlt : (befF l n).length < l.length := by omega
  simp only [rd_int l _ hlt]
  refine evP (by omega) (evP (by omega) (evI (fun c2 => evR (by rw [decide_eq_true ((in_at hp hlt).2 c2)])) (fun c2 => evS (isNaN_no _) (evN (by decide) (evR (by rw [decide_eq_false (fun h => c2 ((in_at hp hlt).1 h))]))))))
 | succ d ih =>
  intro i j h1 h2 h3 h4
  by_cases hij : i < j
  ·have hmid := mid_hf (i := i) (j := j) (by omega)
   have hm1 : (i + j) / 2 < l.length := by omega
   have hw : wrap64 ((((i + j) / 2 : Nat) : Int) + 1) = (((i + j) / 2 + 1 : Nat) : Int) := by rw [w64 (by omega)]; omega
   have hx := bef_idx (n := n) hp hm1
   refine ev1 ?_
   simp only [slices_BinarySearch_int_int.l0, hmid, hw, rd_int l _ hm1]
   refine evP (by omega) (evP (by omega) (evP (by omega) (evS (less_int _ _) (evI (fun c => ?_) (fun c => ?_)))))
   ·have := hx.1 (of_decide_eq_true c)
    exact ih _ j (by omega) h2 h3 (by omega)
   ·have hx2 : ¬ (i + j) / 2 < (befF l n).length := fun h => c (decide_eq_true (hx.2 h))
    exact ih i _ h1 (by omega) (by omega) (by omega)
  ·exact ih i j h1 h2 h3 (by omega)
theorem impl_bin (l : List Int) (n : Int) (hp : l.Pairwise (· < ·)) (hl : l.length ≤ 1099511627776) : (∃ K_, ∀ k, K_ ≤ k → slices_BinarySearch_int_int.f k l n = some (((befF l n).length : Int), decide (n ∈ l))) := by
 simp only [slices_BinarySearch_int_int.f]
 exact bin_loop l n hp hl l.length 0 l.length (by omega) (bef_len l n) (by omega) (by omega)
/-- What a window is. -/
def Wn (t : Int) (l : List Int) : Prop := (l = [] ∧ t = 0) ∨ (l ≠ [] ∧ l.Pairwise (· < ·) ∧ (∀ x ∈ l, 1 ≤ x ∧ t - 16 < x ∧ x ≤ t) ∧ t ∈ l ∧ t ≤ 1000000)
theorem winGo_spec (t : Int) (l : List Int) (h0 : 0 < l.length) (d : Nat) : ∀ n : Nat, n + d = l.length → (winGo t l d n = true ↔ (∀ i (h : i < l.length), n ≤ i → 1 ≤ l[i] ∧ wrap64 (t - 16) < l[i] ∧ (∀ (h2 : 0 < i), l[i - 1]'(by omega) < l[i])) ∧ rd l ((l.length : Int) - 1) = t ∧ t ≤ 1000000) := by
 induction d with
 | zero =>
  intro n hn
  simp only [winGo]
  by_cases c : rd l ((l.length : Int) - 1) = t
  ·rw [if_pos c, decide_eq_true_iff]
   exact ⟨fun h => ⟨fun i hi hni => by omega, c, h⟩, fun h => h.2.2⟩
  ·rw [if_neg c]
   exact ⟨fun h => (by cases h), fun h => absurd h.2.1 c⟩
 | succ d ih =>
  intro n hn
  have hlt : n < l.length := by omega
  have hi := ih (n + 1) (by omega)
  simp only [winGo, rd_int l n hlt]
  by_cases c1 : l[n] < 1
  ·rw [if_pos c1]
   exact ⟨fun h => (by cases h), fun h => by have := (h.1 n hlt (Nat.le_refl _)).1; omega⟩
  rw [if_neg c1]
  by_cases c2 : l[n] ≤ wrap64 (t - 16)
  ·rw [if_pos c2]
   exact ⟨fun h => (by cases h), fun h => by have := (h.1 n hlt (Nat.le_refl _)).2.1; omega⟩
  rw [if_neg c2]
  have step : (∀ (h2 : 0 < n), l[n - 1]'(by omega) < l[n]) → ((∀ i (h : i < l.length), n + 1 ≤ i → 1 ≤ l[i] ∧ wrap64 (t - 16) < l[i] ∧ (∀ (h2 : 0 < i), l[i - 1]'(by omega) < l[i])) ↔ (∀ i (h : i < l.length), n ≤ i → 1 ≤ l[i] ∧ wrap64 (t - 16) < l[i] ∧ (∀ (h2 : 0 < i), l[i - 1]'(by omega) < l[i]))) := fun hs =>
   ⟨fun H i h hni => by
    rcases Nat.lt_or_ge n i with h3 | h3
    ·exact H i h h3
    ·have : i = n := by omega
     subst this
     exact ⟨by omega, by omega, hs⟩, fun H i h hni => H i h (by omega)⟩
  by_cases c3 : 0 < n
  ·rw [if_pos c3]
   have e : rd l ((n : Int) - 1) = l[n - 1]'(by omega) := by
    rw [show ((n : Int) - 1) = ((n - 1 : Nat) : Int) by omega, rd_int l (n - 1) (by omega)]
   rw [e]
   by_cases c4 : l[n] ≤ l[n - 1]'(by omega)
   ·rw [if_pos c4]
    exact ⟨fun h => (by cases h), fun h => by have := (h.1 n hlt (Nat.le_refl _)).2.2 c3; omega⟩
   ·rw [if_neg c4, hi, step (fun _ => by omega)]
  ·rw [if_neg c3, hi, step (fun h => absurd h c3)]
theorem pairwise_adj (l : List Int) (h : ∀ i (h : i < l.length) (h2 : 0 < i), l[i - 1]'(by omega) < l[i]) : l.Pairwise (· < ·) := by
 rw [List.pairwise_iff_getElem]
 intro i j hi hj hij
 obtain ⟨d, rfl⟩ : ∃ d, j = i + 1 + d := ⟨j - i - 1, by omega⟩
 induction d with
 | zero => exact h (i + 1) hj (by omega)
 | succ d ih => have h1 := ih (by omega) (by omega); have h2 := h (i + 1 + (d + 1)) hj (by omega); exact Int.lt_trans h1 h2
theorem winB_iff (t : Int) (l : List Int) : winB t l = true ↔ Wn t l := by
 unfold winB Wn
 by_cases c : l.length = 0
 ·rw [if_pos c]
  have : l = [] := List.eq_nil_of_length_eq_zero c
  subst this
  simp
 ·rw [if_neg c, winGo_spec t l (by omega) l.length 0 (by omega)]
  have hne : l ≠ [] := fun h => c (by rw [h]; rfl)
  have hlast : rd l ((l.length : Int) - 1) = l[l.length - 1]'(by omega) := by
   rw [show ((l.length : Int) - 1) = ((l.length - 1 : Nat) : Int) by omega, rd_int l (l.length - 1) (by omega)]
  rw [hlast]
  constructor
  ·rintro ⟨h1, h2, h3⟩
   have hp := pairwise_adj l (fun i h h2 => (h1 i h (Nat.zero_le _)).2.2 h2)
   have ht : t ∈ l := by rw [← h2]; exact List.getElem_mem _
   have ht1 : 1 ≤ t := by
    obtain ⟨i, hi, e⟩ := List.getElem_of_mem ht
    rw [← e]; exact (h1 i hi (Nat.zero_le _)).1
   refine .inr ⟨hne, hp, fun x hx => ?_, ht, h3⟩
   obtain ⟨i, hi, e⟩ := List.getElem_of_mem hx
   obtain ⟨g1, g2, _⟩ := h1 i hi (Nat.zero_le _)
   rw [w64 (by omega)] at g2
   refine ⟨by omega, by omega, ?_⟩
   rcases Nat.lt_or_ge i (l.length - 1) with h5 | h5
   ·have := List.pairwise_iff_getElem.1 hp i (l.length - 1) hi (by omega) h5
    omega
   ·have : i = l.length - 1 := by omega
    subst this
    omega
  ·rintro (⟨h1, _⟩ | ⟨_, hp, h2, h3, h4⟩)
   ·exact absurd h1 hne
   ·have ht := h2 t h3
    refine ⟨fun i hi _ => ?_, ?_, h4⟩
    ·have := h2 _ (List.getElem_mem hi)
     rw [w64 (by omega)]
     exact ⟨by omega, by omega, fun h5 => List.pairwise_iff_getElem.1 hp (i - 1) i (by omega) hi (by omega)⟩
    ·obtain ⟨i, hi, e⟩ := List.getElem_of_mem h3
     have hl := h2 _ (List.getElem_mem (by omega : l.length - 1 < l.length))
     rcases Nat.lt_or_ge i (l.length - 1) with h5 | h5
     ·have := List.pairwise_iff_getElem.1 hp i (l.length - 1) hi (by omega) h5
      omega
     ·have : i = l.length - 1 := by omega
      subst this
      exact e
theorem Wn.pair {t : Int} {l : List Int} (h : Wn t l) : l.Pairwise (· < ·) := by
 rcases h with ⟨rfl, _⟩ | ⟨_, hp, _⟩
 ·exact List.Pairwise.nil
 ·exact hp
theorem impl_copied (t : Int) (l : List Int) (hl : l.length ≤ 1073741824) : impl_Window_copied.f t l = some (t, l) := by
 simp only [impl_Window_copied.f, slices_Clone_int.f]
 rw [if_pos (by omega)]
 rfl
theorem impl_wsee (t : Int) (l : List Int) (n : Int) (hl : l.length ≤ 1073741824) : (∃ K_, ∀ k, K_ ≤ k → impl_WindowSee.f k t l n = some (wseeF t l n)) := by
 simp only [impl_WindowSee.f]
 refine evB (impl_win t l hl) (evI (fun c => ?_) (fun c => evR (by simp only [wseeF, if_neg c])))
 have e0 : wseeF t l n = seeF t l n := by simp only [wseeF, if_pos c]
 rw [e0]
 refine evB (impl_bin l n ((winB_iff t l).1 c).pair (by omega)) (evS (impl_inR _ _ _) (evI (fun c1 => evI (fun c2 => evS (impl_copied t l hl) (evR (by simp only [seeF, if_pos c1, if_pos c2]))) (fun c2 => ?_)) (fun c1 => evS (impl_copied t l hl) (evR (by simp only [seeF, if_neg c1])))))
 refine evI (fun c3 => evS (impl_copied t l hl) (evR ?_)) (fun c3 => ?_)
 ·have c4 : n ∈ l := by simpa using c3
  simp only [seeF, if_pos c1, if_neg c2, if_pos c4]
 ·have c4 : n ∉ l := by simpa using c3
  have e : seeF t l n = (mx t n, keepF (mx t n) (numF l n), 0) := by simp only [seeF, if_pos c1, if_neg c2, if_neg c4]
  have hb := bef_len l n
  have e1 : slices_Clone_int.f l = some l := by unfold slices_Clone_int.f; rw [if_pos (by omega)]
  have e2 : slices_Insert_int.f l ((befF l n).length : Int) [n] = some (numF l n) := by
   unfold slices_Insert_int.f
   rw [if_pos (show [n].length = 1 from rfl), if_pos (by omega), if_pos (by omega), if_pos (by omega), Int.toNat_natCast, take_bef, drop_bef]; rfl
  have e3 : slices_DeleteFunc_int.f (numF l n) (mx t n) = some (keepF (mx t n) (numF l n)) := by
   unfold slices_DeleteFunc_int.f
   rw [if_pos (by rw [numF_len]; omega)]; rfl
  rw [e]
  exact evS e1 (evS e2 (evS e3 (evR rfl)))
theorem keepF_len (t : Int) (l : List Int) : (keepF t l).length ≤ l.length := List.length_filter_le _ _
theorem seeF_len (t : Int) (l : List Int) (n : Int) : (seeF t l n).2.1.length ≤ l.length + 1 := by
 unfold seeF
 have h1 := keepF_len (mx t n) (numF l n)
 rw [numF_len] at h1
 split
 ·split
  ·simp
  ·split
   ·simp
   ·exact h1
 ·simp
theorem wseeF_len (t : Int) (l : List Int) (n : Int) : (wseeF t l n).2.1.length ≤ l.length + 1 := by
 unfold wseeF
 split
 ·exact seeF_len t l n
 ·simp
/-- Bytes that are drawn from. -/
def Bytes (s : List Int) : Prop := (∀ x ∈ s, 0 ≤ x ∧ x ≤ 255) ∧ s.length ≤ 2000
theorem rd_byte {s : List Int} (h : Bytes s) (i : Int) : 0 ≤ rd s i ∧ rd s i ≤ 255 := by
 unfold rd
 rw [List.getD_eq_getElem?_getD]
 cases e : s[i.toNat]? with
 | none => simp
 | some x => simpa using h.1 x (List.mem_of_getElem? e)
theorem pick_aux (k : Nat) (s : List Int) (p n : Int) (hs : Bytes s) (hp0 : 0 ≤ p) (hp1 : p ≤ 1000000000000) (hn0 : 1 ≤ n) (hn1 : n ≤ 2147483648) :
  ∃ v, spec_l1Rd_pick.f (k + 1) s p n = some (v, p + 1) ∧ 0 ≤ v ∧ v < n := by
 have e1 : wrap64 (p + 1) = p + 1 := w64 (by omega)
 have e2 : wrap64 (p + 1 - 1) = p := by rw [w64 (by omega)]; omega
 unfold spec_l1Rd_pick.f
 rw [if_neg (by omega), e1]
 simp only [spec_l1Rd_pick.j0, e2]
 by_cases h0 : (s.length : Int) = 0
 ·rw [if_pos (beq_iff_eq.2 h0)]
  exact ⟨0, rfl, by omega, by omega⟩
 ·rw [if_neg (fun h => h0 (beq_iff_eq.1 h))]
  have hl := hs.2
  by_cases h1 : p < (s.length : Int)
  ·rw [if_pos h1, if_pos hp0, if_neg (by omega)]
   have hb := rd_byte hs p
   rw [w64 (by omega), Int.tmod_eq_emod_of_nonneg (by omega)]
   exact ⟨_, rfl, Int.emod_nonneg _ (by omega), Int.emod_lt_of_pos _ (by omega)⟩
  ·have e3 : wrap64 (p * 7) = p * 7 := w64 (by omega)
   have e4 : wrap64 (p * 7 + 3) = p * 7 + 3 := w64 (by omega)
   have e5 : wrap64 (p * 29) = p * 29 := w64 (by omega)
   have d1 : Int.tmod p (s.length : Int) = p % (s.length : Int) := Int.tmod_eq_emod_of_nonneg hp0
   have d2 : Int.tmod (p * 7 + 3) (s.length : Int) = (p * 7 + 3) % (s.length : Int) := Int.tmod_eq_emod_of_nonneg (by omega)
   have d3 : Int.tdiv p (s.length : Int) = p / (s.length : Int) := Int.tdiv_eq_ediv_of_nonneg hp0
   have q0 : 0 ≤ p / (s.length : Int) := Int.ediv_nonneg hp0 (by omega)
   have q1 : p / (s.length : Int) ≤ p := Int.ediv_le_self _ hp0
   have r0 := Int.emod_nonneg p h0
   have r1 := Int.emod_lt_of_pos p (by omega : 0 < (s.length : Int))
   have r2 := Int.emod_nonneg (p * 7 + 3) h0
   have r3 := Int.emod_lt_of_pos (p * 7 + 3) (by omega : 0 < (s.length : Int))
   have b1 := rd_byte hs (p % (s.length : Int))
   have b2 := rd_byte hs ((p * 7 + 3) % (s.length : Int))
   have c1 : wrap64 (rd s (p % (s.length : Int))) = rd s (p % (s.length : Int)) := w64 (by omega)
   have c2 : wrap64 (rd s ((p * 7 + 3) % (s.length : Int))) = rd s ((p * 7 + 3) % (s.length : Int)) := w64 (by omega)
   have c3 : wrap64 (p / (s.length : Int)) = p / (s.length : Int) := w64 (by omega)
   have e6 : wrap64 (p / (s.length : Int) * 53) = p / (s.length : Int) * 53 := w64 (by omega)
   have e7 : wrap64 (rd s (p % (s.length : Int)) * 131) = rd s (p % (s.length : Int)) * 131 := w64 (by omega)
   have e8 : wrap64 (rd s ((p * 7 + 3) % (s.length : Int)) * 1117) = rd s ((p * 7 + 3) % (s.length : Int)) * 1117 := w64 (by omega)
   rw [if_neg h1, if_neg h0]
   simp only [d1, d2, d3, e3, e4, c1, c2, c3, e5, e6, e7, e8]
   rw [if_pos r0, if_pos r1, if_pos r2, if_pos r3, if_neg (by omega)]
   generalize rd s (p % (s.length : Int)) = x at *
   generalize rd s ((p * 7 + 3) % (s.length : Int)) = y at *
   generalize p / (s.length : Int) = z at *
   have f1 : wrap64 (x * 131 + y * 1117) = x * 131 + y * 1117 := w64 (by omega)
   have f2 : wrap64 (x * 131 + y * 1117 + p * 29) = x * 131 + y * 1117 + p * 29 := w64 (by omega)
   have f3 : wrap64 (x * 131 + y * 1117 + p * 29 + z * 53) = x * 131 + y * 1117 + p * 29 + z * 53 := w64 (by omega)
   simp only [f1, f2, f3]
   generalize hX : x * 131 + y * 1117 + p * 29 + z * 53 = X at *
   have g1 : Int.tdiv X 64 = X / 64 := Int.tdiv_eq_ediv_of_nonneg (by omega)
   have g2 : wrap64 (X / 64) = X / 64 := w64 (by omega)
   rw [g1, g2, i64_xor X (X / 64) (by omega) (by omega) (by omega) (by omega), Int.tmod_eq_emod_of_nonneg (by omega)]
   exact ⟨_, rfl, Int.emod_nonneg _ (by omega), Int.emod_lt_of_pos _ (by omega)⟩
/-- A number is drawn. -/
theorem pick (s : List Int) (p n : Int) (hs : Bytes s) (hp0 : 0 ≤ p) (hp1 : p ≤ 1000000000000) (hn0 : 1 ≤ n) (hn1 : n ≤ 2147483648) :
  ∃ v, (∃ K_, ∀ k, K_ ≤ k → spec_l1Rd_pick.f k s p n = some (v, p + 1)) ∧ 0 ≤ v ∧ v < n := by
 obtain ⟨v, h, h0, h1⟩ := pick_aux 0 s p n hs hp0 hp1 hn0 hn1
 exact ⟨v, Ev.of (spec_l1Rd_pick.mono s p n) h, h0, h1⟩
/-- A number of a list is drawn. -/
theorem one (s : List Int) (p : Int) (l : List Int) (hs : Bytes s) (hp0 : 0 ≤ p) (hp1 : p ≤ 1000000000000) (hl0 : 1 ≤ l.length) (hl1 : l.length ≤ 2147483648) :
  ∃ v, (∃ K_, ∀ k, K_ ≤ k → spec_l1Rd_one.f k s p l = some (v, p + 1)) ∧ v ∈ l := by
 obtain ⟨v, ⟨K, h⟩, h0, h1⟩ := pick s p l.length hs hp0 hp1 (by omega) (by omega)
 refine ⟨rd l v, ⟨K, fun k hk => ?_⟩, ?_⟩
 ·simp only [spec_l1Rd_one.f, h k hk, Option.bind_some]
  rw [if_pos h0, if_pos h1]
 ·unfold rd
  rw [List.getD_eq_getElem?_getD, List.getElem?_eq_getElem (by omega)]
  exact List.getElem_mem _
theorem l1Open (l : List Int) (hw : ∀ x ∈ l, (Lit.int .u8 x).wf = true) : ∃ s, spec_l1Open.f l = some (s, 0) ∧ Bytes s := by
 have hb : ∀ x ∈ l, 0 ≤ x ∧ x ≤ 255 := fun x hx => by
  have := hw x hx
  simp [Lit.wf, IntKind.min, IntKind.max, IntKind.bits, IntKind.signed] at this
  omega
 unfold spec_l1Open.f
 by_cases c : (l.length : Int) > 2000
 ·rw [if_pos c, if_pos (by omega)]
  exact ⟨_, rfl, fun x hx => hb x (List.mem_of_mem_take hx), by rw [List.length_take]; omega⟩
 ·rw [if_neg c]
  exact ⟨_, rfl, hb, by omega⟩
theorem Wn.top {t : Int} {l : List Int} (h : Wn t l) : 0 ≤ t ∧ t ≤ 1000000 := by
 rcases h with ⟨_, rfl⟩ | ⟨_, _, h, ht, h2⟩
 ·omega
 ·have := h t ht; omega
theorem Wn.le {t : Int} {l : List Int} (h : Wn t l) : ∀ x ∈ l, 1 ≤ x ∧ t - 16 < x ∧ x ≤ t := by
 rcases h with ⟨rfl, _⟩ | ⟨_, _, h, _⟩
 ·intro x hx; cases hx
 ·exact h
theorem Wn.nil : Wn 0 [] := .inl ⟨rfl, rfl⟩
theorem inR_iff {a l h : Int} : inR a l h = true ↔ l ≤ a ∧ a ≤ h := by simp [inR]
theorem numF_pair {l : List Int} {n : Int} (hp : l.Pairwise (· < ·)) (hn : n ∉ l) : (numF l n).Pairwise (· < ·) := by
 have h0 := hp
 rw [← befaft l n, List.pairwise_append] at h0
 obtain ⟨h1, h2, h3⟩ := h0
 unfold numF
 rw [List.pairwise_append, List.pairwise_cons]
 have ha : ∀ x ∈ aftF l n, n < x := fun x hx => by
  have := aft_ge hp x hx
  have hne : n ≠ x := fun e => hn (by rw [e, ← befaft l n]; exact List.mem_append.2 (.inr hx))
  omega
 refine ⟨h1, ⟨ha, h2⟩, fun a hA b hb => ?_⟩
 have := mem_bef hA
 rcases List.mem_cons.1 hb with rfl | hb
 ·exact this
 ·have := ha b hb; omega
/-- What a number that is taken makes of a window. -/
theorem Wn.took {t n : Int} {l : List Int} (h : Wn t l) (h1 : 1 ≤ n) (h2 : n ≤ 1000000) (h3 : ¬ n ≤ wrap64 (t - 16)) (h4 : n ∉ l) :
  Wn (mx t n) (keepF (mx t n) (numF l n)) ∧ n ∈ keepF (mx t n) (numF l n) ∧ (∀ x, x ∈ keepF (mx t n) (numF l n) ↔ (x = n ∨ x ∈ l) ∧ mx t n - 16 < x) := by
 have ht := h.top
 rw [w64 (by omega)] at h3
 have hm : mx t n = t ∧ n ≤ t ∨ mx t n = n ∧ t ≤ n := by
  unfold mx
  split
  ·right; exact ⟨rfl, by omega⟩
  ·left; exact ⟨rfl, by omega⟩
 have hw : wrap64 (mx t n - 16) = mx t n - 16 := w64 (by omega)
 have hmem : ∀ x, x ∈ keepF (mx t n) (numF l n) ↔ (x = n ∨ x ∈ l) ∧ mx t n - 16 < x := fun x => by
  unfold keepF
  rw [List.mem_filter, mem_numF, hw]
  simp
 have hn : n ∈ keepF (mx t n) (numF l n) := (hmem n).2 ⟨.inl rfl, by omega⟩
 refine ⟨.inr ⟨fun e => (by rw [e] at hn; cases hn), (numF_pair h.pair h4).sublist List.filter_sublist, fun x hx => ?_, ?_, by omega⟩, hn, hmem⟩
 ·obtain ⟨h5, h6⟩ := (hmem x).1 hx
  rcases h5 with rfl | h5
  ·exact ⟨h1, h6, by omega⟩
  ·have := h.le x h5
   exact ⟨this.1, h6, by omega⟩
 ·rcases hm with ⟨e, hm⟩ | ⟨e, hm⟩
  ·rw [e] at hmem ⊢
   rcases h with ⟨rfl, rfl⟩ | ⟨_, _, _, ht2, _⟩
   ·omega
   ·exact (hmem t).2 ⟨.inr ht2, by omega⟩
  ·rw [e] at hn ⊢
   exact hn
theorem seeF_Wn {t n : Int} {l : List Int} (h : Wn t l) : Wn (seeF t l n).1 (seeF t l n).2.1 := by
 unfold seeF
 by_cases c1 : inR n 1 1000000 = true
 ·rw [if_pos c1]
  by_cases c2 : n ≤ wrap64 (t - 16)
  ·rw [if_pos c2]; exact h
  ·rw [if_neg c2]
   by_cases c3 : n ∈ l
   ·rw [if_pos c3]; exact h
   ·rw [if_neg c3]
    have := inR_iff.1 c1
    exact (h.took this.1 this.2 c2 c3).1
 ·rw [if_neg c1]; exact h
theorem wseeF_Wn {t n : Int} {l : List Int} (h : Wn t l) : wseeF t l n = seeF t l n := by
 unfold wseeF
 rw [if_pos ((winB_iff t l).2 h)]
theorem drawWin_l0 (s : List Int) (hs : Bytes s) (d : Nat) : ∀ (x p t : Int) (l : List Int), 0 ≤ p → p + 2 * d ≤ 100000000000 → l.length + d ≤ 1000 →
  Dr (fun k => spec_l12Window.l0 k x (d : Int) s p t l) fun r => r.2.1.length ≤ l.length + d ∧ p ≤ r.2.2 ∧ r.2.2 ≤ p + 2 * d := by
 induction d with
 | zero =>
  intro x p t l hp0 hp1 hl
  refine dr1 ?_
  simp only [spec_l12Window.l0]
  exact drN (by omega) (drR ⟨by simp, by simp, by simp⟩)
 | succ d ih =>
  intro x p t l hp0 hp1 hl
  have hw : wrap64 (((d + 1 : Nat) : Int) - 1) = (d : Int) := by
   have : ((d + 1 : Nat) : Int) - 1 = (d : Int) := by omega
   rw [this, w64 (by omega)]
  refine dr1 ?_
  simp only [spec_l12Window.l0, hw]
  obtain ⟨v, e, v0, v1⟩ := pick s p 9 hs hp0 (by omega) (by decide) (by decide)
  obtain ⟨u, e2, u0⟩ := one s (p + 1) [1, 1, 2, 20] hs (by omega) (by omega) (by simp) (by simp)
  refine drP (by omega) (drB e (drB (spec_see t l _ (by omega)) (drB e2 ?_)))
  have hk := seeF_len t l (wrap64 (wrap64 (x + v) - 3))
  refine (ih _ _ _ _ (by simp only []; omega) (by simp only []; omega) (by simp only []; omega)).imp fun r hr => ?_
  simp only [] at hr ⊢
  omega
theorem drawWindow (s : List Int) (hs : Bytes s) (p : Int) (hp0 : 0 ≤ p) (hp1 : p ≤ 90000000000) : Dr (fun k => spec_l12Window.f k s p) fun r => r.2.1.length ≤ 8 ∧ p ≤ r.2.2 ∧ r.2.2 ≤ p + 20 := by
 simp only [spec_l12Window.f]
 obtain ⟨v, e, v0, v1⟩ := pick s p 20 hs hp0 (by omega) (by decide) (by decide)
 obtain ⟨u, e2, u0, u1⟩ := pick s (p + 1) 9 hs (by omega) (by omega) (by decide) (by decide)
 refine drB e (drB e2 ?_)
 have hu : u = ((u.toNat : Nat) : Int) := by omega
 simp only []
 rw [hu]
 refine (drawWin_l0 s hs u.toNat v _ 0 [] (by omega) (by omega) (by simp; omega)).imp fun r hr => ?_
 simp only [List.length_nil] at hr
 omega
theorem drawAnyWindow (s : List Int) (hs : Bytes s) (p : Int) (hp0 : 0 ≤ p) (hp1 : p ≤ 80000000000) : Dr (fun k => spec_l12AnyWindow.f k s p) fun r => r.2.1.length ≤ 9 ∧ p ≤ r.2.2 ∧ r.2.2 ≤ p + 30 := by
 simp only [spec_l12AnyWindow.f]
 obtain ⟨⟨t, l, q⟩, e, h1, h2, h3⟩ := drawWindow s hs p hp0 (by omega)
 simp only [] at h1 h2 h3
 refine drB e ?_
 obtain ⟨v, e2, v0, v1⟩ := pick s q 16 hs (by omega) (by omega) (by decide) (by decide)
 obtain ⟨u, e3, u0⟩ := one s (q + 1) [1, -1, 20] hs (by omega) (by omega) (by simp) (by simp)
 obtain ⟨z, e4, z0, z1⟩ := pick s (q + 1) 30 hs (by omega) (by omega) (by decide) (by decide)
 refine drB e2 (drI (fun _ => drB e3 (drR ⟨by simp only []; omega, by simp only []; omega, by simp only []; omega⟩)) (fun _ => drI (fun _ => drB e4 (drP (by simp only []; omega) (drR ⟨by simp; omega, by simp only []; omega, by simp only []; omega⟩))) (fun _ => drR ⟨by simp only []; omega, by simp only []; omega, by simp only []; omega⟩)))
theorem drawWindowSee (l : List Int) (hw : ∀ x ∈ l, (Lit.int .u8 x).wf = true) : Dr (fun k => spec_DrawWindowSee.f k l) fun r => r.2.1.length ≤ 9 := by
 simp only [spec_DrawWindowSee.f]
 obtain ⟨s, h0, hs⟩ := l1Open l hw
 refine drS h0 ?_
 obtain ⟨⟨t, w, q⟩, e, h1, h2, h3⟩ := drawAnyWindow s hs 0 (by omega) (by omega)
 simp only [] at h1 h2 h3
 obtain ⟨v, e2, v0, v1⟩ := pick s q 18 hs (by omega) (by omega) (by decide) (by decide)
 obtain ⟨u, e3, u0, u1⟩ := pick s (q + 1) 30 hs (by omega) (by omega) (by decide) (by decide)
 obtain ⟨z, e4, z0⟩ := one s (q + 1 + 1) [wrap64 (t + 1), t, wrap64 (wrap64 (t - 1) - v), wrap64 (t + u), 0, -1, 1000000, 1000001] hs (by omega) (by omega) (by simp) (by simp)
 exact drB e (drB e2 (drB e3 (drB e4 (drR h1))))
end Go.Proofs.Ytlpmmmhfceeiaaa.Z
end
section
namespace Go.Proofs.Ytlpmmmhfceeiaaa.Pure
open Go Go.RowKit Go.Proofs.Ytlpmmmhfceeiaaa.PAll Go.Proofs.YtlpmmmhfceeiaaaW.PrintWords Go.Proofs.YtlpmmmhfceeiaaaW.PrintLast Go.Proofs.YtlpmmmhfceeiaaaW.PrintMore Go.Proofs.Ytlpmmmhfceeiaaa.Z
set_option linter.unusedVariables false
set_option linter.unusedSimpArgs false
theorem ovWin (a : Int) (l : List Int) (hl : l.length ≤ 1073741824) : (∃ K_, ∀ k, K_ ≤ k → laws_ovWindow.f k a l a l = some true) := by
 simp only [laws_ovWindow.f]
 exact evP trivial (evB (ovInts_self l (by omega)) (evR rfl))
/-- What is seen, case by case. -/
theorem see_cases (t n : Int) (l : List Int) :
  (¬ inR n 1 1000000 = true ∧ seeF t l n = (t, l, 1)) ∨ (inR n 1 1000000 = true ∧ n ≤ wrap64 (t - 16) ∧ seeF t l n = (t, l, 2)) ∨ (inR n 1 1000000 = true ∧ ¬ n ≤ wrap64 (t - 16) ∧ n ∈ l ∧ seeF t l n = (t, l, 3)) ∨
  (inR n 1 1000000 = true ∧ ¬ n ≤ wrap64 (t - 16) ∧ n ∉ l ∧ seeF t l n = (mx t n, keepF (mx t n) (numF l n), 0)) := by
 unfold seeF
 by_cases c1 : inR n 1 1000000 = true
 ·by_cases c2 : n ≤ wrap64 (t - 16)
  ·exact .inr (.inl ⟨c1, c2, by rw [if_pos c1, if_pos c2]⟩)
  ·by_cases c3 : n ∈ l
   ·exact .inr (.inr (.inl ⟨c1, c2, c3, by rw [if_pos c1, if_neg c2, if_pos c3]⟩))
   ·exact .inr (.inr (.inr ⟨c1, c2, c3, by rw [if_pos c1, if_neg c2, if_neg c3]⟩))
 ·exact .inl ⟨c1, by rw [if_neg c1]⟩
theorem see_j2 (t n t2 code : Int) (l l2 : List Int) (hw : Wn t l) (hl : l.length ≤ 1000) (h : seeF t l n = (t2, l2, code)) : (∃ K_, ∀ k, K_ ≤ k → laws_FnWindowSee.j2 k n code false t l t2 l2 = some true) := by
 have hW := seeF_Wn (n := n) hw
 have hk := seeF_len t l n
 rw [h] at hW hk
 simp only [] at hW hk
 refine ev1 ?_
 simp only [laws_FnWindowSee.j2]
 refine evN (by simp) (evB (impl_wsee t2 l2 n (by omega)) (evB (impl_win t2 l2 (by omega)) (evP ((winB_iff t2 l2).2 hW) ?_)))
 rw [wseeF_Wn hW]
 have ht := hw.top
 rcases see_cases t n l with ⟨_, e⟩ | ⟨_, _, e⟩ | ⟨_, _, _, e⟩ | ⟨c1, c2, c3, e⟩
 ·rw [h] at e; simp only [Prod.mk.injEq] at e; obtain ⟨rfl, rfl, rfl⟩ := e
  exact evP (Int.le_refl _) (evN (by decide) (evR rfl))
 ·rw [h] at e; simp only [Prod.mk.injEq] at e; obtain ⟨rfl, rfl, rfl⟩ := e
  exact evP (Int.le_refl _) (evN (by decide) (evR rfl))
 ·rw [h] at e; simp only [Prod.mk.injEq] at e; obtain ⟨rfl, rfl, rfl⟩ := e
  exact evP (Int.le_refl _) (evN (by decide) (evR rfl))
 ·rw [h] at e; simp only [Prod.mk.injEq] at e; obtain ⟨rfl, rfl, rfl⟩ := e
  have hr := inR_iff.1 c1
  obtain ⟨_, h5, _⟩ := hw.took hr.1 hr.2 c2 c3
  have hm : t ≤ mx t n ∧ mx t n ≤ 1000000 ∧ mx t n - 16 < n := by
   rw [w64 (by omega)] at c2
   unfold mx
   split <;> omega
  have e3 : seeF (mx t n) (keepF (mx t n) (numF l n)) n = (mx t n, keepF (mx t n) (numF l n), 3) := by
   generalize keepF (mx t n) (numF l n) = q at h5
   unfold seeF
   rw [if_pos c1, if_neg (by rw [w64 (by omega)]; omega), if_pos h5]
  rw [e3]
  exact evP hm.1 (evP rfl (evR rfl))
theorem see_l0 (t n t2 code : Int) (l l2 : List Int) (hw : Wn t l) (hl : l.length ≤ 1000) (h : seeF t l n = (t2, l2, code)) (d : Nat) : ∀ i : Nat, i + d = l.length →
  (∃ K_, ∀ k, K_ ≤ k → laws_FnWindowSee.l0 k n code (decide (n ∈ l.take i)) (i : Int) t l t2 l2 = some true) := by
 induction d with
 | zero =>
  intro i hi
  rw [List.take_of_length_le (by omega)]
  have hj := see_j2 t n t2 code l l2 hw hl h
  have ht := hw.top
  refine ev1 ?_
  simp only [laws_FnWindowSee.l0]
  refine evN (by omega) ?_
  rcases see_cases t n l with ⟨c1, e⟩ | ⟨c1, c2, e⟩ | ⟨c1, c2, c3, e⟩ | ⟨c1, c2, c3, e⟩
  ·rw [h] at e; simp only [Prod.mk.injEq] at e; obtain ⟨rfl, rfl, rfl⟩ := e
   have hn : ¬ (1 ≤ n ∧ n ≤ 1000000) := fun q => c1 (inR_iff.2 q)
   have ho := ovWin t2 l2 (by omega)
   exact evI (fun g1 => evN (by omega) (evN (by decide) (evN (by decide) (evB ho hj)))) (fun g1 => evN (by decide) (evN (by decide) (evB ho hj)))
  ·rw [h] at e; simp only [Prod.mk.injEq] at e; obtain ⟨rfl, rfl, rfl⟩ := e
   have hr := inR_iff.1 c1
   have ho := ovWin t2 l2 (by omega)
   exact evP (by omega) (evP (by omega) (evN (by omega) (evN (by decide) (evN (by decide) (evB ho hj)))))
  ·rw [h] at e; simp only [Prod.mk.injEq] at e; obtain ⟨rfl, rfl, rfl⟩ := e
   have hr := inR_iff.1 c1
   have ho := ovWin t2 l2 (by omega)
   exact evP (by omega) (evP (by omega) (evP (by omega) (evN (by simp [c3]) (evN (by decide) (evB ho hj)))))
  ·have hc : code = 0 := by rw [h] at e; exact (Prod.mk.inj (Prod.mk.inj e).2).2
   subst hc
   have hr := inR_iff.1 c1
   exact evP (by omega) (evP (by omega) (evP (by omega) (evN (by simp [c3]) (evP rfl hj))))
 | succ d ih =>
  intro i hi
  have hwr : wrap64 ((i : Int) + 1) = ((i + 1 : Nat) : Int) := by rw [w64 (by omega)]; omega
  have hlt : i < l.length := by omega
  have hs := ih (i + 1) (by omega)
  have et : decide (n ∈ l.take (i + 1)) = (decide (n ∈ l.take i) || (l[i] == n)) := by
   rw [List.take_add_one, List.getElem?_eq_getElem hlt]
   by_cases c : l[i] = n
   ·simp [c]
   ·have c2 : ¬ n = l[i] := fun h => c h.symm
    rw [show (l[i] == n) = false from by simpa using c, Bool.or_false]
    exact decide_eq_decide.2 (by simp only [Option.toList_some, List.mem_append, List.mem_singleton, c2, or_false])
  rw [et] at hs
  refine ev1 ?_
  simp only [laws_FnWindowSee.l0, hwr, rd_int l i hlt]
  cases hb : decide (n ∈ l.take i) with
  | true => rw [hb] at hs; exact evP (by omega) (evP rfl hs)
  | false => rw [hb] at hs; exact evP (by omega) (evN (by decide) (evP (by omega) hs))
theorem FnWindowSee : laws_FnWindowSee.Pure := by
 intro s _ _ hs
 suffices h : (∃ K_, ∀ k, K_ ≤ k → laws_FnWindowSee.f k s = some true) by obtain ⟨K, h⟩ := h; exact ⟨K, h K (Nat.le_refl _)⟩
 simp only [laws_FnWindowSee.f]
 refine evI (fun _ => evR rfl) (fun c => ?_)
 obtain ⟨⟨t, l, n⟩, e0, hl⟩ := drawWindowSee s hs
 simp only [] at hl
 have e3 := spec_wsee t l n (by omega)
 have e4 := impl_wsee t l n (by omega)
 have hk := wseeF_len t l n
 have e5 := impl_win t l (by omega)
 have e6 := spec_win t l (by omega)
 refine evB e0 (evB e4 (evB e3 (evP rfl (evB (ovWin _ _ (by omega)) (evP rfl (evB e5 (evB e6 (evN (by simp) (evB e6 (ev1 ?_))))))))))
 simp only [laws_FnWindowSee.j0]
 cases hw : winB t l with
 | false =>
  rw [hw] at e5 e6
  exact evP rfl (evP trivial (evB (ovWin _ _ (by omega)) (evP rfl (evB e5 (evB e6 (evR rfl))))))
 | true =>
  have hW := (winB_iff t l).1 hw
  rw [wseeF_Wn hW]
  exact evN (by simp) (see_l0 t n _ _ l _ hW (by omega) rfl l.length 0 (by omega))
end Go.Proofs.Ytlpmmmhfceeiaaa.Pure
end
