/- Contracts of the functions that the statement reaches, printed by a program out of the translation and joined with the plain laws. -/
import Derived.Test.YtioghacieopbdaaCFnCacheRun3
import Derived.Test.YtioghacieopbdaaCFnCacheRun4
import Derived.Test.YtioghacieopbdaaCFnCacheRun5
import Derived.Test.YtioghacieopbdaaCFnCacheRun6
import Derived.Test.YtioghacieopbdaaCFnCacheRun7
import Derived.Test.YtioghacieopbdaaCFnCacheRun8
import Derived.Test.YtioghacieopbdaaCFnCacheRun9
import Derived.Test.YtioghacieopbdaaCFnCacheRun10
section
namespace Go.Proofs.Ytioghacieopbdaa.Z
open Go Go.RowKit Go.Proofs.Ytioghacieopbdaa.PAll Go.Proofs.YtioghacieopbdaaW.PrintWords Go.Proofs.YtioghacieopbdaaW.PrintLast Go.Proofs.YtioghacieopbdaaW.PrintMore
set_option linter.unusedVariables false
set_option linter.unusedSimpArgs false
theorem spec_in (a l h : Int) : spec_l1In.f a l h = some (decide (l ≤ a ∧ a ≤ h)) := by
 unfold spec_l1In.f
 by_cases c : a ≥ l
 ·rw [if_pos c]; simp [c]
 ·rw [if_neg c]
  have : ¬ l ≤ a := by omega
  simp [this]
theorem impl_in (a l h : Int) : impl_in.f a l h = some (decide (l ≤ a ∧ a ≤ h)) := by
 unfold impl_in.f
 by_cases c : a ≥ l
 ·rw [if_pos c]; simp [c]
 ·rw [if_neg c]
  have : ¬ l ≤ a := by omega
  simp [this]
theorem spec_addr (a : Int) : spec_l1Addr.f a = some (decide (0 ≤ a ∧ a ≤ 4294967295)) := by simp only [spec_l1Addr.f, spec_in, Option.bind_some]
theorem impl_addr (a : Int) : impl_isAddr.f a = some (decide (0 ≤ a ∧ a ≤ 4294967295)) := by simp only [impl_isAddr.f, impl_in, Option.bind_some]
theorem two_loop (n : Nat) : ∀ (k : Nat) (c : Int), n ≤ 62 → n < k → 1 ≤ c → c * 2 ^ n ≤ 4611686018427387904 → spec_l1Two.l0 k (n : Int) c = some (c * 2 ^ n) := by
 induction n with
 | zero =>
  intro k c _ hk _ _
  obtain ⟨k, rfl⟩ : ∃ m, k = m + 1 := ⟨k - 1, by omega⟩
  simp only [spec_l1Two.l0]
  rw [if_neg (by omega)]
  simp
 | succ n ih =>
  intro k c hn hk hc hb
  obtain ⟨k, rfl⟩ : ∃ m, k = m + 1 := ⟨k - 1, by omega⟩
  have e : c * 2 ^ (n + 1) = c * 2 * 2 ^ n := by rw [Int.pow_succ, Int.mul_comm ((2 : Int) ^ n) 2, Int.mul_assoc]
  have hp : (1 : Int) ≤ 2 ^ n := by
   have : (0 : Int) < 2 ^ n := Int.pow_pos (by decide)
   omega
  have hc2 : c * 2 ≤ c * 2 * 2 ^ n := by
   have := Int.mul_le_mul_of_nonneg_left hp (by omega : (0 : Int) ≤ c * 2)
   omega
  simp only [spec_l1Two.l0]
  rw [e] at hb ⊢
  rw [if_pos (by omega), w64 (by omega), w64 (by omega)]
  have : ((n + 1 : Nat) : Int) - 1 = (n : Int) := by omega
  rw [this]
  exact ih k (c * 2) (by omega) (by omega) (by omega) hb
theorem spec_two {n : Int} (h0 : 0 ≤ n) (h1 : n ≤ 62) : (∃ K_, ∀ k, K_ ≤ k → spec_l1Two.f k n = some (2 ^ n.toNat)) := by
 refine ⟨n.toNat + 1, fun k hk => ?_⟩
 have e : (n.toNat : Int) = n := by omega
 have hp : (2 : Int) ^ n.toNat ≤ 2 ^ 62 := by
  exact_mod_cast Nat.pow_le_pow_right (n := 2) (by decide) (by omega : n.toNat ≤ 62)
 have := two_loop n.toNat k 1 (by omega) (by omega) (by omega) (by omega)
 rw [e, Int.one_mul] at this
 exact this
theorem spec_size {m : Int} (h0 : 0 ≤ m) (h1 : m ≤ 32) : (∃ K_, ∀ k, K_ ≤ k → spec_l1Size.f k m = some (sz m)) := by
 obtain ⟨K, h⟩ := spec_two (n := 32 - m) (by omega) (by omega)
 refine ⟨K, fun k hk => ?_⟩
 simp only [spec_l1Size.f]
 rw [w64 (by omega), h k hk]
 rfl
theorem impl_size {b m : Int} (h0 : 0 ≤ m) (h1 : m ≤ 32) : impl_Block_size.f b m = some (sz m) := by
 unfold impl_Block_size.f
 rw [w64 (by omega), if_pos (by omega), shl_sz h0 h1]
theorem tmod_beq {b s : Int} (hb : 0 ≤ b) : (Int.tmod b s == 0) = decide (b % s = 0) := by
 rw [Int.tmod_eq_emod_of_nonneg hb]
 rfl
theorem impl_ok (b m : Int) : impl_BlockOk.f b m = some (bokB b m) := by
 unfold impl_BlockOk.f
 rw [impl_addr, Option.bind_some]
 by_cases c : 0 ≤ b ∧ b ≤ 4294967295
 ·rw [if_pos (by simpa using c), impl_in, Option.bind_some]
  by_cases d : 0 ≤ m ∧ m ≤ 32
  ·rw [if_pos (by simpa using d), impl_size d.1 d.2, Option.bind_some, if_neg (by have := sz_pos m; omega), tmod_beq c.1]
   simp [bokB, bok, c, d]
  ·rw [if_neg (by simpa using d)]
   exact congrArg some (bokB_false.2 (fun h => d ⟨h.2.2.1, h.2.2.2.1⟩)).symm
 ·rw [if_neg (by simpa using c)]
  exact congrArg some (bokB_false.2 (fun h => c ⟨h.1, h.2.1⟩)).symm
theorem spec_ok (b m : Int) : (∃ K_, ∀ k, K_ ≤ k → spec_BlockOk.f k b m = some (bokB b m)) := by
 by_cases c : 0 ≤ b ∧ b ≤ 4294967295
 ·by_cases d : 0 ≤ m ∧ m ≤ 32
  ·obtain ⟨K, h⟩ := spec_size d.1 d.2
   refine ⟨K, fun k hk => ?_⟩
   simp only [spec_BlockOk.f]
   rw [spec_addr, Option.bind_some, if_pos (by simpa using c), spec_in, Option.bind_some, if_pos (by simpa using d), h k hk, Option.bind_some, if_neg (by have := sz_pos m; omega), tmod_beq c.1]
   simp [bokB, bok, c, d]
  ·refine ⟨0, fun k _ => ?_⟩
   simp only [spec_BlockOk.f]
   rw [spec_addr, Option.bind_some, if_pos (by simpa using c), spec_in, Option.bind_some, if_neg (by simpa using d)]
   exact congrArg some (bokB_false.2 (fun h => d ⟨h.2.2.1, h.2.2.2.1⟩)).symm
 ·refine ⟨0, fun k _ => ?_⟩
  simp only [spec_BlockOk.f]
  rw [spec_addr, Option.bind_some, if_neg (by simpa using c)]
  exact congrArg some (bokB_false.2 (fun h => c ⟨h.1, h.2.1⟩)).symm
theorem sz_bd {m : Int} (h0 : 0 ≤ m) : 1 ≤ sz m ∧ sz m ≤ 4294967296 := ⟨sz_pos m, sz_top h0⟩
theorem impl_last {b m : Int} (hb0 : 0 ≤ b) (hb1 : b ≤ 4611686018427387904) (h0 : 0 ≤ m) (h1 : m ≤ 32) : impl_Block_last.f b m = some (b + sz m - 1) := by
 have := sz_bd h0
 unfold impl_Block_last.f
 rw [impl_size h0 h1, Option.bind_some, w64 (n := b + sz m) (by omega), w64 (by omega)]
theorem spec_last {b m : Int} (hb0 : -1 ≤ b) (hb1 : b ≤ 4611686018427387904) (h0 : 0 ≤ m) (h1 : m ≤ 32) : (∃ K_, ∀ k, K_ ≤ k → spec_l1Last.f k b m = some (b + sz m - 1)) := by
 have := sz_bd h0
 obtain ⟨K, h⟩ := spec_size h0 h1
 refine ⟨K, fun k hk => ?_⟩
 simp only [spec_l1Last.f]
 rw [h k hk, Option.bind_some, w64 (n := b + sz m) (by omega), w64 (by omega)]
/-- Is an address in a block? -/
def hasB (b m a : Int) : Bool := decide (b ≤ a ∧ a ≤ b + sz m - 1)
theorem impl_has {b m : Int} (a : Int) (hb0 : 0 ≤ b) (hb1 : b ≤ 4611686018427387904) (h0 : 0 ≤ m) (h1 : m ≤ 32) : impl_Block_has.f b m a = some (hasB b m a) := by
 unfold impl_Block_has.f
 rw [impl_last hb0 hb1 h0 h1, Option.bind_some, impl_in, Option.bind_some]
 rfl
end Go.Proofs.Ytioghacieopbdaa.Z
end
section
namespace Go.Proofs.Ytioghacieopbdaa.Z
open Go Go.RowKit Go.Proofs.Ytioghacieopbdaa.PAll Go.Proofs.YtioghacieopbdaaW.PrintWords Go.Proofs.YtioghacieopbdaaW.PrintLast Go.Proofs.YtioghacieopbdaaW.PrintMore
set_option linter.unusedVariables false
set_option linter.unusedSimpArgs false
abbrev Ru := S34
theorem drop_consR {α : Type} {l : List α} {n : Nat} (h : n < l.length) : l.drop n = l[n] :: l.drop (n + 1) := List.drop_eq_getElem_cons h
theorem rd_rule (l : List Ru) (n : Nat) (h : n < l.length) : rd_T34 l (n : Int) = l[n] := by
 unfold rd_T34
 rw [List.getD_eq_getElem?_getD, Int.toNat_natCast, List.getElem?_eq_getElem h]
 rfl
/-- Is a number in a range? -/
def inR (a l h : Int) : Bool := decide (l ≤ a ∧ a ≤ h)
theorem impl_inR (a l h : Int) : impl_in.f a l h = some (inR a l h) := impl_in a l h
theorem spec_inR (a l h : Int) : spec_l1In.f a l h = some (inR a l h) := spec_in a l h
def tunB (x : Ru) : Bool := if x.f0 = 2 then inR x.f1 0 3 else decide (x.f1 = 0)
/-- Is a rule valid? -/
def ruleB (x : Ru) : Bool := bokB x.f2.f0 x.f2.f1 && (bokB x.f3.f0 x.f3.f1 && (inR x.f4 0 x.f5 && (decide (x.f5 ≤ 65535) && (inR x.f0 0 2 && tunB x))))
theorem right_j0 (k : Nat) (b : Bool) (x : Ru) : impl_Rule_right.j0 (k + 1) b x.f0 x.f1 x.f2.f0 x.f2.f1 x.f3.f0 x.f3.f1 x.f4 x.f5 = some (bokB x.f2.f0 x.f2.f1 && (bokB x.f3.f0 x.f3.f1 && (inR x.f4 0 x.f5 && (decide (x.f5 ≤ 65535) && (inR x.f0 0 2 && b))))) := by
 simp only [impl_Rule_right.j0]
 rw [impl_ok, Option.bind_some, impl_ok, Option.bind_some, impl_inR, Option.bind_some, impl_inR, Option.bind_some]
 by_cases d : x.f5 ≤ 65535
 ·cases bokB x.f2.f0 x.f2.f1 <;> cases bokB x.f3.f0 x.f3.f1 <;> cases inR x.f4 0 x.f5 <;> cases inR x.f0 0 2 <;> simp [d]
 ·cases bokB x.f2.f0 x.f2.f1 <;> cases bokB x.f3.f0 x.f3.f1 <;> cases inR x.f4 0 x.f5 <;> cases inR x.f0 0 2 <;> simp [d]
theorem impl_right (k : Nat) (x : Ru) : impl_Rule_right.f (k + 1) x.f0 x.f1 x.f2.f0 x.f2.f1 x.f3.f0 x.f3.f1 x.f4 x.f5 = some (ruleB x) := by
 simp only [impl_Rule_right.f]
 rw [right_j0, impl_inR, Option.bind_some, right_j0, right_j0]
 unfold ruleB tunB
 by_cases c : x.f1 = 0
 ·rw [if_pos c]
  by_cases d : x.f0 = 2
  ·rw [if_pos d]
   have : inR x.f1 0 3 = true := by rw [c]; rfl
   rw [this]
  ·rw [if_neg d]
   simp [c]
 ·rw [if_neg c]
  by_cases d : x.f0 = 2
  ·rw [if_pos d, if_pos d]
  ·rw [if_neg d, if_neg d]
   simp [c]
theorem spec_right (x : Ru) : (∃ K_, ∀ k, K_ ≤ k → spec_l4Ok.f k x.f0 x.f1 x.f2.f0 x.f2.f1 x.f3.f0 x.f3.f1 x.f4 x.f5 = some (ruleB x)) := by
 obtain ⟨K1, e1⟩ := spec_ok x.f2.f0 x.f2.f1
 obtain ⟨K2, e2⟩ := spec_ok x.f3.f0 x.f3.f1
 refine ⟨K1 + K2 + 1, fun k hk => ?_⟩
 obtain ⟨k, rfl⟩ : ∃ j, k = j + 1 := ⟨k - 1, by omega⟩
 simp only [spec_l4Ok.f]
 rw [e1 _ (by omega), Option.bind_some, e2 _ (by omega), Option.bind_some, spec_inR, Option.bind_some, spec_inR, Option.bind_some]
 simp only [spec_l4Ok.j0]
 rw [spec_inR, Option.bind_some]
 unfold ruleB tunB
 by_cases d : x.f5 ≤ 65535
 ·have d' : ¬ x.f5 > 65535 := by omega
  by_cases c : x.f0 = 2
  ·cases bokB x.f2.f0 x.f2.f1 <;> cases bokB x.f3.f0 x.f3.f1 <;> cases inR x.f4 0 x.f5 <;> cases inR x.f0 0 2 <;> simp [d, d', c]
  ·have e : (x.f1 == 0) = decide (x.f1 = 0) := rfl
   cases bokB x.f2.f0 x.f2.f1 <;> cases bokB x.f3.f0 x.f3.f1 <;> cases inR x.f4 0 x.f5 <;> cases inR x.f0 0 2 <;> simp [d, d', c, e]
 ·have d' : x.f5 > 65535 := by omega
  cases bokB x.f2.f0 x.f2.f1 <;> cases bokB x.f3.f0 x.f3.f1 <;> cases inR x.f4 0 x.f5 <;> simp [d, d']
/-- Are rules valid? -/
def rokB (l : List Ru) : Bool := l.all ruleB && decide (l.length ≤ 8)
theorem any_bad (k : Nat) (l : List Ru) : anyO (impl_RulesOk.bad (k + 1)) l = some (l.any fun x => !ruleB x) := by
 induction l with
 | nil => rfl
 | cons x l ih =>
  simp only [anyO, impl_RulesOk.bad]
  rw [impl_right, Option.bind_some, Option.bind_some, ih]
  cases h : ruleB x <;> simp [h]
theorem all_any (l : List Ru) : (!(l.any fun x => !ruleB x)) = l.all ruleB := by
 induction l with
 | nil => rfl
 | cons x l ih => simp only [List.any_cons, List.all_cons, ← ih]; cases ruleB x <;> simp
theorem impl_rulesOk (l : List Ru) : (∃ K_, ∀ k, K_ ≤ k → impl_RulesOk.f k l = some (rokB l)) := by
 refine ⟨1, fun k hk => ?_⟩
 obtain ⟨k, rfl⟩ : ∃ j, k = j + 1 := ⟨k - 1, by omega⟩
 simp only [impl_RulesOk.f]
 unfold rokB
 by_cases c : (l.length : Int) ≤ 8
 ·have c' : l.length ≤ 8 := by omega
  rw [if_pos c, any_bad, Option.bind_some, all_any]
  simp [c']
 ·have c' : ¬ l.length ≤ 8 := by omega
  rw [if_neg c]
  simp [c']
theorem spec_rulesOk_loop (l : List Ru) (hl : l.length ≤ 1073741824) (d : Nat) : ∀ n : Nat, n + d = l.length → (∃ K_, ∀ k, K_ ≤ k → spec_RulesOk.l0 k l (n : Int) = some ((l.drop n).all ruleB && decide (l.length ≤ 8))) := by
 induction d with
 | zero =>
  intro n hn
  refine ⟨1, fun k hk => ?_⟩
  obtain ⟨k, rfl⟩ : ∃ j, k = j + 1 := ⟨k - 1, by omega⟩
  simp only [spec_RulesOk.l0]
  rw [if_neg (by omega), List.drop_eq_nil_of_le (by omega)]
  have : decide ((l.length : Int) ≤ 8) = decide (l.length ≤ 8) := by rw [decide_eq_decide]; omega
  rw [this]
  rfl
 | succ d ih =>
  intro n hn
  have hlt : n < l.length := by omega
  have hw : wrap64 ((n : Int) + 1) = ((n + 1 : Nat) : Int) := by rw [w64 (by omega)]; omega
  obtain ⟨K1, e1⟩ := ih (n + 1) (by omega)
  obtain ⟨K2, e2⟩ := spec_right l[n]
  refine ⟨K1 + K2 + 1, fun k hk => ?_⟩
  obtain ⟨k, rfl⟩ : ∃ j, k = j + 1 := ⟨k - 1, by omega⟩
  have e1 := e1 k (by omega)
  simp only [spec_RulesOk.l0]
  rw [drop_consR hlt, if_pos (by omega), if_pos (by omega), rd_rule l n hlt, e2 k (by omega), Option.bind_some, hw, e1, List.all_cons]
  cases ruleB l[n] <;> simp
theorem spec_rulesOk (l : List Ru) (hl : l.length ≤ 1073741824) : (∃ K_, ∀ k, K_ ≤ k → spec_RulesOk.f k l = some (rokB l)) := spec_rulesOk_loop l hl l.length 0 (by omega)
theorem rokB_valid {l : List Ru} (h : rokB l = true) : ∀ x ∈ l, ruleB x = true := by
 simp only [rokB, Bool.and_eq_true, List.all_eq_true] at h
 exact h.1
theorem ruleB_blocks {x : Ru} (h : ruleB x = true) : bok x.f2.f0 x.f2.f1 ∧ bok x.f3.f0 x.f3.f1 ∧ 0 ≤ x.f4 ∧ x.f4 ≤ x.f5 ∧ x.f5 ≤ 65535 := by
 simp only [ruleB, inR, Bool.and_eq_true, bokB_true, decide_eq_true_eq] at h
 exact ⟨h.1, h.2.1, h.2.2.1.1, h.2.2.1.2, h.2.2.2.1⟩
/-- Is a rule about a call? -/
def aboutB (a b c : Int) (x : Ru) : Bool := hasB x.f2.f0 x.f2.f1 a && (hasB x.f3.f0 x.f3.f1 b && inR c x.f4 x.f5)
theorem impl_matches {x : Ru} (h : ruleB x = true) (a b c : Int) : impl_Rule_matches.f x.f0 x.f1 x.f2.f0 x.f2.f1 x.f3.f0 x.f3.f1 x.f4 x.f5 a b c = some (aboutB a b c x) := by
 obtain ⟨h1, h2, _⟩ := ruleB_blocks h
 unfold impl_Rule_matches.f aboutB
 rw [impl_has a h1.1 (by have := h1.2.1; omega) h1.2.2.1 h1.2.2.2.1, Option.bind_some, impl_has b h2.1 (by have := h2.2.1; omega) h2.2.2.1 h2.2.2.2.1, Option.bind_some, impl_inR, Option.bind_some]
 cases hasB x.f2.f0 x.f2.f1 a <;> cases hasB x.f3.f0 x.f3.f1 b <;> simp
theorem spec_about {x : Ru} (h : ruleB x = true) (a b c : Int) : (∃ K_, ∀ k, K_ ≤ k → spec_l4About.f k x.f0 x.f1 x.f2.f0 x.f2.f1 x.f3.f0 x.f3.f1 x.f4 x.f5 a b c = some (aboutB a b c x)) := by
 obtain ⟨h1, h2, _⟩ := ruleB_blocks h
 obtain ⟨K1, e1⟩ := spec_last (b := x.f2.f0) (m := x.f2.f1) (by have := h1.1; omega) (by have := h1.2.1; omega) h1.2.2.1 h1.2.2.2.1
 obtain ⟨K2, e2⟩ := spec_last (b := x.f3.f0) (m := x.f3.f1) (by have := h2.1; omega) (by have := h2.2.1; omega) h2.2.2.1 h2.2.2.2.1
 refine ⟨K1 + K2, fun k hk => ?_⟩
 simp only [spec_l4About.f]
 rw [e1 k (by omega), Option.bind_some, e2 k (by omega), Option.bind_some, spec_inR, Option.bind_some, spec_inR, Option.bind_some, spec_inR, Option.bind_some]
 have g1 : inR a x.f2.f0 (x.f2.f0 + sz x.f2.f1 - 1) = hasB x.f2.f0 x.f2.f1 a := rfl
 have g2 : inR b x.f3.f0 (x.f3.f0 + sz x.f3.f1 - 1) = hasB x.f3.f0 x.f3.f1 b := rfl
 rw [g1, g2]
 unfold aboutB
 cases hasB x.f2.f0 x.f2.f1 a <;> cases hasB x.f3.f0 x.f3.f1 b <;> simp
/-- The place of the first element of which q holds, from i on; -1. -/
def firstGo {α : Type} (q : α → Bool) : List α → Int → Int
 | [], _ => -1
 | x :: l, i => if q x = true then i else firstGo q l (i + 1)
def firstF (l : List Ru) (a b c : Int) : Int := firstGo (aboutB a b c) l 0
theorem findO_first {α : Type} {p : α → Option Bool} {q : α → Bool} : ∀ (l : List α) (i : Int), (∀ x ∈ l, p x = some (q x)) → findO p l i = some (firstGo q l i)
 | [], _, _ => rfl
 | x :: l, i, h => by
  simp only [findO, firstGo]
  rw [h x (List.mem_cons_self ..), Option.bind_some, findO_first l (i + 1) (fun y hy => h y (List.mem_cons_of_mem _ hy))]
  cases q x <;> simp
theorem impl_first {l : List Ru} (h : ∀ x ∈ l, ruleB x = true) (a b c : Int) : impl_first.f l a b c = some (firstF l a b c) :=
 findO_first l 0 (fun x hx => impl_matches (h x hx) a b c)
theorem spec_first_loop (l : List Ru) (h : ∀ x ∈ l, ruleB x = true) (a b c : Int) (hl : l.length ≤ 1073741824) (d : Nat) : ∀ n : Nat, n + d = l.length → (∃ K_, ∀ k, K_ ≤ k → spec_l4First.l0 k l (n : Int) a b c = some (firstGo (aboutB a b c) (l.drop n) (n : Int))) := by
 induction d with
 | zero =>
  intro n hn
  refine ⟨1, fun k hk => ?_⟩
  obtain ⟨k, rfl⟩ : ∃ j, k = j + 1 := ⟨k - 1, by omega⟩
  simp only [spec_l4First.l0]
  rw [if_neg (by omega), List.drop_eq_nil_of_le (by omega)]
  rfl
 | succ d ih =>
  intro n hn
  have hlt : n < l.length := by omega
  have hw : wrap64 ((n : Int) + 1) = ((n + 1 : Nat) : Int) := by rw [w64 (by omega)]; omega
  obtain ⟨K1, e1⟩ := ih (n + 1) (by omega)
  obtain ⟨K2, e2⟩ := spec_about (h l[n] (List.getElem_mem hlt)) a b c
  refine ⟨K1 + K2 + 1, fun k hk => ?_⟩
  obtain ⟨k, rfl⟩ : ∃ j, k = j + 1 := ⟨k - 1, by omega⟩
  have e1 := e1 k (by omega)
  simp only [spec_l4First.l0]
  rw [drop_consR hlt, if_pos (by omega), if_pos (by omega), rd_rule l n hlt, e2 k (by omega), Option.bind_some, hw, e1]
  simp only [firstGo]
  have : ((n + 1 : Nat) : Int) = (n : Int) + 1 := by omega
  rw [this]
  cases aboutB a b c l[n] <;> simp
theorem spec_first {l : List Ru} (h : ∀ x ∈ l, ruleB x = true) (a b c : Int) (hl : l.length ≤ 1073741824) : (∃ K_, ∀ k, K_ ≤ k → spec_l4First.f k l a b c = some (firstF l a b c)) := spec_first_loop l h a b c hl l.length 0 (by omega)
/-- Is it a call? -/
def callB (a b c : Int) : Bool := inR a 0 4294967295 && (inR b 0 4294967295 && inR c 0 65535)
theorem impl_call (a b c : Int) : impl_isCall.f a b c = some (callB a b c) := by
 unfold impl_isCall.f callB
 rw [impl_addr, Option.bind_some, impl_addr, Option.bind_some, impl_inR, Option.bind_some]
 have g : ∀ x : Int, decide (0 ≤ x ∧ x ≤ 4294967295) = inR x 0 4294967295 := fun _ => rfl
 rw [g, g]
 cases inR a 0 4294967295 <;> cases inR b 0 4294967295 <;> simp
theorem spec_call (a b c : Int) : spec_l4Call.f a b c = some (callB a b c) := by
 unfold spec_l4Call.f callB
 rw [spec_addr, Option.bind_some, spec_addr, Option.bind_some, spec_inR, Option.bind_some]
 have g : ∀ x : Int, decide (0 ≤ x ∧ x ≤ 4294967295) = inR x 0 4294967295 := fun _ => rfl
 rw [g, g]
 cases inR a 0 4294967295 <;> cases inR b 0 4294967295 <;> simp
/-- What RulesFirst answers. -/
def rulesFirstF (l : List Ru) (a b c : Int) : Int := if rokB l = true ∧ callB a b c = true then firstF l a b c else -1
theorem impl_rulesFirst (l : List Ru) (a b c : Int) : (∃ K_, ∀ k, K_ ≤ k → impl_RulesFirst.f k l a b c = some (rulesFirstF l a b c)) := by
 obtain ⟨K1, e1⟩ := impl_rulesOk l
 refine ⟨K1, fun k hk => ?_⟩
 simp only [impl_RulesFirst.f]
 unfold rulesFirstF
 rw [e1 k hk, Option.bind_some, impl_call, Option.bind_some]
 cases h : rokB l with
 | false => simp
 | true =>
  rw [impl_first (rokB_valid h), Option.bind_some]
  cases callB a b c <;> simp
end Go.Proofs.Ytioghacieopbdaa.Z
end
section
namespace Go.Proofs.Ytioghacieopbdaa.Z
open Go Go.RowKit Go.Proofs.Ytioghacieopbdaa.PAll Go.Proofs.YtioghacieopbdaaW.PrintWords Go.Proofs.YtioghacieopbdaaW.PrintLast Go.Proofs.YtioghacieopbdaaW.PrintMore
set_option linter.unusedVariables false
set_option linter.unusedSimpArgs false
abbrev Se := S108
abbrev Ca := S25
theorem rd_seen (l : List Se) (n : Nat) (h : n < l.length) : rd_T108 l (n : Int) = l[n] := by
 unfold rd_T108
 rw [List.getD_eq_getElem?_getD, Int.toNat_natCast, List.getElem?_eq_getElem h]
 rfl
/-- Is it a call that was seen? -/
def isC (a b c : Int) (x : Se) : Bool := x.f0.f0 == a && (x.f0.f1 == b && (x.f0.f2 == c))
theorem isC_iff {a b c : Int} {x : Se} : isC a b c x = true ↔ x.f0 = ⟨a, b, c⟩ := by
 obtain ⟨⟨p, q, r⟩, s⟩ := x
 simp [isC]
def okS (rs : List Ru) (x : Se) : Bool := callB x.f0.f0 x.f0.f1 x.f0.f2 && decide (x.f1 = firstF rs x.f0.f0 x.f0.f1 x.f0.f2)
/-- Is each seen as it is, and none twice? -/
def seensB (rs : List Ru) : List Se → List Se → Bool
 | _, [] => true
 | pre, x :: l => okS rs x && (!(pre.any (isC x.f0.f0 x.f0.f1 x.f0.f2)) && seensB rs (pre ++ [x]) l)
/-- Is a cache valid? -/
def cacheB (rs : List Ru) (size : Int) (l : List Se) : Bool := rokB rs && (inR size 0 16 && (decide ((l.length : Int) ≤ size) && seensB rs [] l))
theorem take_snoc {α : Type} {l : List α} {n : Nat} (h : n < l.length) : l.take n ++ [l[n]] = l.take (n + 1) := by rw [List.take_succ_eq_append_getElem h]
theorem impl_cacheOk_loop (rs : List Ru) (hr : ∀ x ∈ rs, ruleB x = true) (size : Int) (l : List Se) (hl : l.length ≤ 1073741824) (d : Nat) : ∀ n : Nat, n + d = l.length → (∃ K_, ∀ k, K_ ≤ k → impl_CacheOk.l0 k rs l (l.length : Int) (n : Int) size l = some (seensB rs (l.take n) (l.drop n))) := by
 induction d with
 | zero =>
  intro n hn
  refine ev1 ?_
  simp only [impl_CacheOk.l0]
  rw [List.drop_eq_nil_of_le (by omega)]
  exact evN (by omega) (evR rfl)
 | succ d ih =>
  intro n hn
  have hlt : n < l.length := by omega
  have hw : wrap64 ((n : Int) + 1) = ((n + 1 : Nat) : Int) := by rw [w64 (by omega)]; omega
  have ih := ih (n + 1) (by omega)
  refine ev1 ?_
  simp only [impl_CacheOk.l0, rd_seen l n hlt, hw, Int.toNat_natCast]
  rw [drop_consR hlt]
  simp only [seensB, take_snoc hlt]
  refine evP (by omega) (evP (by omega) (evP (by omega) (evS (impl_call _ _ _) ?_)))
  cases hc : callB l[n].f0.f0 l[n].f0.f1 l[n].f0.f2 with
  | false => exact evN (by simp) (evR (by simp [okS, hc]))
  | true =>
   refine evP rfl (evS (impl_first hr _ _ _) ?_)
   by_cases he : l[n].f1 = firstF rs l[n].f0.f0 l[n].f0.f1 l[n].f0.f2
   ·refine evP he (evP (by omega) (evS rfl ?_))
    have ho : okS rs l[n] = true := by simp [okS, hc, ← he]
    rw [ho, Bool.true_and]
    cases ha : (l.take n).any (isC l[n].f0.f0 l[n].f0.f1 l[n].f0.f2) with
    | true => exact evP ha (evR rfl)
    | false => exact evN (by rw [show (l.take n).any (slices_ContainsFunc_Seen.is l[n].f0.f0 l[n].f0.f1 l[n].f0.f2) = false from ha]; simp) ih
   ·exact evN he (evR (by simp [okS, hc, he]))
theorem impl_cacheOk (rs : List Ru) (size : Int) (l : List Se) (hl : l.length ≤ 1073741824) : (∃ K_, ∀ k, K_ ≤ k → impl_CacheOk.f k rs size l = some (cacheB rs size l)) := by
 simp only [impl_CacheOk.f]
 refine evB (impl_rulesOk rs) ?_
 have hf : (∃ K_, ∀ k, K_ ≤ k → impl_CacheOk.j0 k rs true size l = some false) := by
  refine ev1 ?_
  simp only [impl_CacheOk.j0]
  exact evP trivial (evR rfl)
 unfold cacheB
 cases h1 : rokB rs with
 | false => exact evN (by simp) hf
 | true =>
  refine evP rfl (evS (impl_inR _ _ _) ?_)
  cases h2 : inR size 0 16 with
  | false => exact evN (by simp) hf
  | true =>
   refine evP rfl ?_
   by_cases c : (l.length : Int) > size
   ·rw [decide_eq_true c, decide_eq_false (show ¬ (l.length : Int) ≤ size by omega)]
    exact hf
   ·rw [decide_eq_false c, decide_eq_true (show (l.length : Int) ≤ size by omega)]
    refine ev1 ?_
    simp only [impl_CacheOk.j0]
    exact evN (by simp) (impl_cacheOk_loop rs (rokB_valid h1) size l hl l.length 0 (by omega))
theorem spec_seen_loop (rs : List Ru) (size : Int) (l : List Se) (hl : l.length ≤ 1073741824) (n : Nat) (hn : n < l.length) (R : Bool) (h : (∃ K_, ∀ k, K_ ≤ k → spec_CacheOk.l0 k rs (((n + 1 : Nat)) : Int) size l = some R)) (d : Nat) : ∀ m : Nat, m + d = n → (∃ K_, ∀ k, K_ ≤ k → spec_CacheOk.l1 k rs (n : Int) (m : Int) size l = some (!(((l.take n).drop m).any (isC l[n].f0.f0 l[n].f0.f1 l[n].f0.f2)) && R)) := by
 induction d with
 | zero =>
  intro m hm
  refine ev1 ?_
  simp only [spec_CacheOk.l1]
  have hw : wrap64 ((n : Int) + 1) = ((n + 1 : Nat) : Int) := by rw [w64 (by omega)]; omega
  rw [List.drop_eq_nil_of_le (by simp; omega), hw]
  refine evN (by omega) ?_
  simp only [List.any_nil, Bool.not_false, Bool.true_and]
  exact h
 | succ d ih =>
  intro m hm
  have ih := ih (m + 1) (by omega)
  have hlm : m < (l.take n).length := by simp; omega
  have hw : wrap64 ((m : Int) + 1) = ((m + 1 : Nat) : Int) := by rw [w64 (by omega)]; omega
  have hx : (l.take n)[m] = l[m] := by simp
  refine ev1 ?_
  simp only [spec_CacheOk.l1, rd_seen l n hn, rd_seen l m (by omega), hw]
  rw [drop_consR hlm, hx, List.any_cons]
  refine evP (by omega) (evP (by omega) (evP (by omega) (evP (by omega) (evP (by omega) ?_))))
  cases ha : isC l[n].f0.f0 l[n].f0.f1 l[n].f0.f2 l[m] with
  | true => exact evP ha (evR rfl)
  | false =>
   refine evN (by rw [show (l[m].f0.f0 == l[n].f0.f0 && (l[m].f0.f1 == l[n].f0.f1 && (l[m].f0.f2 == l[n].f0.f2))) = false from ha]; simp) ?_
   rw [Bool.false_or]
   exact ih
theorem spec_cacheOk_loop (rs : List Ru) (hr : ∀ x ∈ rs, ruleB x = true) (hrl : rs.length ≤ 1073741824) (size : Int) (l : List Se) (hl : l.length ≤ 1073741824) (d : Nat) : ∀ n : Nat, n + d = l.length → (∃ K_, ∀ k, K_ ≤ k → spec_CacheOk.l0 k rs (n : Int) size l = some (seensB rs (l.take n) (l.drop n))) := by
 induction d with
 | zero =>
  intro n hn
  refine ev1 ?_
  simp only [spec_CacheOk.l0]
  rw [List.drop_eq_nil_of_le (by omega)]
  exact evN (by omega) (evR rfl)
 | succ d ih =>
  intro n hn
  have hlt : n < l.length := by omega
  have ih := ih (n + 1) (by omega)
  refine ev1 ?_
  simp only [spec_CacheOk.l0, rd_seen l n hlt]
  rw [drop_consR hlt]
  simp only [seensB, take_snoc hlt]
  refine evP (by omega) (evP (by omega) (evS (spec_call _ _ _) ?_))
  have hf : (∃ K_, ∀ k, K_ ≤ k → spec_CacheOk.j2 k rs (n : Int) true size l = some false) := by
   refine ev1 ?_
   simp only [spec_CacheOk.j2]
   exact evP trivial (evR rfl)
  cases hc : callB l[n].f0.f0 l[n].f0.f1 l[n].f0.f2 with
  | false =>
   rw [show okS rs l[n] = false by simp [okS, hc]]
   exact evN (by simp) hf
  | true =>
   refine evP rfl (evB (spec_first hr _ _ _ hrl) ?_)
   by_cases he : l[n].f1 = firstF rs l[n].f0.f0 l[n].f0.f1 l[n].f0.f2
   ·rw [show okS rs l[n] = true by simp [okS, hc, ← he], show (l[n].f1 != firstF rs l[n].f0.f0 l[n].f0.f1 l[n].f0.f2) = false by simp [he]]
    refine ev1 ?_
    simp only [spec_CacheOk.j2]
    have := spec_seen_loop rs size l hl n hlt _ ih n 0 (by omega)
    rw [List.drop_zero] at this
    exact evN (by simp) this
   ·rw [show okS rs l[n] = false by simp [okS, he], show (l[n].f1 != firstF rs l[n].f0.f0 l[n].f0.f1 l[n].f0.f2) = true by simp [he]]
    exact hf
theorem spec_cacheOk (rs : List Ru) (hrl : rs.length ≤ 1073741824) (size : Int) (l : List Se) (hl : l.length ≤ 1073741824) : (∃ K_, ∀ k, K_ ≤ k → spec_CacheOk.f k rs size l = some (cacheB rs size l)) := by
 simp only [spec_CacheOk.f]
 refine evB (spec_rulesOk rs hrl) ?_
 have hf : (∃ K_, ∀ k, K_ ≤ k → spec_CacheOk.j0 k rs true size l = some false) := by
  refine ev1 ?_
  simp only [spec_CacheOk.j0]
  exact evP trivial (evR rfl)
 unfold cacheB
 cases h1 : rokB rs with
 | false => exact evN (by simp) hf
 | true =>
  refine evP rfl (evS (spec_inR _ _ _) ?_)
  cases h2 : inR size 0 16 with
  | false => exact evN (by simp) hf
  | true =>
   refine evP rfl ?_
   by_cases c : (l.length : Int) > size
   ·rw [decide_eq_true c, decide_eq_false (show ¬ (l.length : Int) ≤ size by omega)]
    exact hf
   ·rw [decide_eq_false c, decide_eq_true (show (l.length : Int) ≤ size by omega)]
    refine ev1 ?_
    simp only [spec_CacheOk.j0]
    exact evN (by simp) (spec_cacheOk_loop rs (rokB_valid h1) hrl size l hl l.length 0 (by omega))
/-- What is seen behind a look: the call first, the others as they were, so many. -/
def lookL (r size : Int) (l : List Se) (a b c : Int) : List Se := ((⟨⟨a, b, c⟩, r⟩ : Se) :: l.filter (fun x => !isC a b c x)).take size.toNat
theorem notC (a b c : Int) (x : Se) : ((!(x.f0.f0 == a)) || ((!(x.f0.f1 == b)) || (!(x.f0.f2 == c)))) = !isC a b c x := by
 unfold isC
 cases x.f0.f0 == a <;> cases x.f0.f1 == b <;> cases x.f0.f2 == c <;> rfl
theorem impl_look_loop (r size : Int) (hs : 0 ≤ size) (l : List Se) (hl : l.length ≤ 1073741824) (a b c : Int) (d : Nat) : ∀ (n : Nat) (acc : List Se), n + d = l.length → acc.length ≤ n + 1 → (∃ K_, ∀ k, K_ ≤ k → impl_Cache_look.l0 k r acc l (l.length : Int) (n : Int) size l a b c = some (size, (acc ++ (l.drop n).filter (fun x => !isC a b c x)).take size.toNat, r)) := by
 induction d with
 | zero =>
  intro n acc hn ha
  refine ev1 ?_
  simp only [impl_Cache_look.l0]
  rw [List.drop_eq_nil_of_le (by omega), List.filter_nil, List.append_nil]
  have hm : 0 ≤ mn (acc.length : Int) size ∧ mn (acc.length : Int) size ≤ acc.length := by
   unfold mn
   split <;> omega
  have ht : acc.take (mn (acc.length : Int) size).toNat = acc.take size.toNat := by
   unfold mn
   split
   ·rfl
   ·rename_i h
    rw [Int.toNat_natCast, List.take_length, List.take_of_length_le (by omega)]
  rw [ht]
  refine evN (by omega) (evP hm.1 (evP hm.2 (evS (a := acc.take size.toNat) ?_ (evR rfl))))
  unfold slices_Clone_Seen.f
  rw [if_pos (by simp; omega)]
 | succ d ih =>
  intro n acc hn ha
  have hlt : n < l.length := by omega
  have hw : wrap64 ((n : Int) + 1) = ((n + 1 : Nat) : Int) := by rw [w64 (by omega)]; omega
  refine ev1 ?_
  simp only [impl_Cache_look.l0, rd_seen l n hlt, hw, notC]
  rw [drop_consR hlt, List.filter_cons]
  refine evP (by omega) (evP (by omega) (evP (by omega) ?_))
  cases q : isC a b c l[n] with
  | true => exact evN (by simp) (ih (n + 1) acc (by omega) (by omega))
  | false =>
   have := ih (n + 1) (acc ++ [l[n]]) (by omega) (by simp; omega)
   rw [List.append_assoc] at this
   exact evP rfl (evP (by omega) this)
theorem impl_look (rs : List Ru) (hr : ∀ x ∈ rs, ruleB x = true) (size : Int) (hs : 0 ≤ size) (l : List Se) (hl : l.length ≤ 1073741824) (a b c : Int) : (∃ K_, ∀ k, K_ ≤ k → impl_Cache_look.f k size l rs a b c = some (size, lookL (firstF rs a b c) size l a b c, firstF rs a b c)) := by
 simp only [impl_Cache_look.f]
 exact evS (impl_first hr a b c) (impl_look_loop _ size hs l hl a b c l.length 0 _ (by omega) (by simp))
theorem spec_look_loop (r size : Int) (hs : 0 ≤ size) (l : List Se) (hl : l.length ≤ 1073741824) (a b c : Int) (d : Nat) : ∀ (n : Nat) (acc : List Se), n + d = l.length → acc.length ≤ n + 1 → (∃ K_, ∀ k, K_ ≤ k → spec_l5Find.l0 k r (n : Int) size l a b c size acc = some (size, (acc ++ (l.drop n).filter (fun x => !isC a b c x)).take size.toNat, r)) := by
 induction d with
 | zero =>
  intro n acc hn ha
  refine ev1 ?_
  simp only [spec_l5Find.l0]
  rw [List.drop_eq_nil_of_le (by omega), List.filter_nil, List.append_nil]
  refine evN (by omega) (evI (fun c => evP (by omega) (evP (by omega) (evR rfl))) (fun c => evR ?_))
  rw [List.take_of_length_le (by omega)]
 | succ d ih =>
  intro n acc hn ha
  have hlt : n < l.length := by omega
  have hw : wrap64 ((n : Int) + 1) = ((n + 1 : Nat) : Int) := by rw [w64 (by omega)]; omega
  refine ev1 ?_
  simp only [spec_l5Find.l0, rd_seen l n hlt, hw, notC]
  rw [drop_consR hlt, List.filter_cons]
  refine evP (by omega) (evP (by omega) ?_)
  cases q : isC a b c l[n] with
  | true => exact evN (by simp) (ih (n + 1) acc (by omega) (by omega))
  | false =>
   have := ih (n + 1) (acc ++ [l[n]]) (by omega) (by simp; omega)
   rw [List.append_assoc] at this
   exact evP rfl (evP (by omega) this)
theorem spec_look (rs : List Ru) (hr : ∀ x ∈ rs, ruleB x = true) (hrl : rs.length ≤ 1073741824) (size : Int) (hs : 0 ≤ size) (l : List Se) (hl : l.length ≤ 1073741824) (a b c : Int) : (∃ K_, ∀ k, K_ ≤ k → spec_l5Find.f k rs size l a b c = some (size, lookL (firstF rs a b c) size l a b c, firstF rs a b c)) := by
 simp only [spec_l5Find.f]
 exact evB (spec_first hr a b c hrl) (spec_look_loop _ size hs l hl a b c l.length 0 _ (by omega) (by simp))
/-- What CacheFind answers. -/
def findF (rs : List Ru) (size : Int) (l : List Se) (a b c : Int) : Int × List Se × Int :=
 if cacheB rs size l = true then (if callB a b c = true then (size, lookL (firstF rs a b c) size l a b c, firstF rs a b c) else (size, l, -1)) else (0, [], -1)
theorem cacheB_parts {rs : List Ru} {size : Int} {l : List Se} (h : cacheB rs size l = true) : rokB rs = true ∧ (0 ≤ size ∧ size ≤ 16) ∧ (l.length : Int) ≤ size ∧ seensB rs [] l = true := by
 simp only [cacheB, inR, Bool.and_eq_true, decide_eq_true_eq] at h
 exact h
theorem impl_find (rs : List Ru) (size : Int) (l : List Se) (hl : l.length ≤ 1073741824) (a b c : Int) : (∃ K_, ∀ k, K_ ≤ k → impl_CacheFind.f k rs size l a b c = some (findF rs size l a b c)) := by
 simp only [impl_CacheFind.f]
 refine evB (impl_cacheOk rs size l hl) ?_
 unfold findF
 cases h : cacheB rs size l with
 | false => exact evN (by simp) (evR rfl)
 | true =>
  obtain ⟨h1, ⟨h2, h3⟩, h4, h5⟩ := cacheB_parts h
  refine evP rfl (evS (impl_call a b c) ?_)
  cases hc : callB a b c with
  | false =>
   refine evN (by simp) (evS (a := l) ?_ (evR rfl))
   unfold slices_Clone_Seen.f
   rw [if_pos (by omega)]
  | true => exact evP rfl (evB (impl_look rs (rokB_valid h1) size h2 l hl a b c) (evR rfl))
theorem spec_find (rs : List Ru) (hrl : rs.length ≤ 1073741824) (size : Int) (l : List Se) (hl : l.length ≤ 1073741824) (a b c : Int) : (∃ K_, ∀ k, K_ ≤ k → spec_CacheFind.f k rs size l a b c = some (findF rs size l a b c)) := by
 simp only [spec_CacheFind.f]
 refine evB (spec_cacheOk rs hrl size l hl) ?_
 unfold findF
 cases h : cacheB rs size l with
 | false => exact evN (by simp) (evR rfl)
 | true =>
  obtain ⟨h1, ⟨h2, h3⟩, h4, h5⟩ := cacheB_parts h
  refine evP rfl (evS (spec_call a b c) ?_)
  cases hc : callB a b c with
  | false =>
   refine evN (by simp) (evS (a := []) rfl ?_)
   exact evP (by simp; omega) (evR (by simp))
  | true => exact evP rfl (evB (spec_look rs (rokB_valid h1) hrl size h2 l hl a b c) (evR rfl))
theorem seensB_iff (rs : List Ru) (l : List Se) : ∀ pre, seensB rs pre l = true ↔ (∀ x ∈ l, okS rs x = true) ∧ (∀ x ∈ l, ∀ y ∈ pre, y.f0 ≠ x.f0) ∧ l.Pairwise (fun x y => x.f0 ≠ y.f0) := by
 induction l with
 | nil => intro pre; simp [seensB]
 | cons x l ih =>
  intro pre
  simp only [seensB, Bool.and_eq_true, Bool.not_eq_true', ih]
  have ha : pre.any (isC x.f0.f0 x.f0.f1 x.f0.f2) = false ↔ ∀ y ∈ pre, y.f0 ≠ x.f0 := by
   rw [List.any_eq_false]
   constructor
   ·intro h y hy e
    exact h y hy (isC_iff.2 e)
   ·intro h y hy e
    exact h y hy (isC_iff.1 e)
  rw [ha]
  constructor
  ·rintro ⟨h1, h2, h3, h4, h5⟩
   refine ⟨fun y hy => ?_, fun y hy z hz => ?_, List.pairwise_cons.2 ⟨fun y hy => h4 y hy x (by simp), h5⟩⟩
   ·rcases List.mem_cons.1 hy with e | hy
    ·rw [e]; exact h1
    ·exact h3 y hy
   ·rcases List.mem_cons.1 hy with e | hy
    ·rw [e]; exact h2 z hz
    ·exact h4 y hy z (by simp [hz])
  ·rintro ⟨h1, h2, h3⟩
   obtain ⟨h4, h5⟩ := List.pairwise_cons.1 h3
   refine ⟨h1 x (by simp), h2 x (by simp), fun y hy => h1 y (by simp [hy]), fun y hy z hz => ?_, h5⟩
   rcases List.mem_append.1 hz with hz | hz
   ·exact h2 y (by simp [hy]) z hz
   ·rw [List.mem_singleton.1 hz]
    exact h4 y hy
/-- A cache stays valid. -/
theorem find_ok {rs : List Ru} {size : Int} {l : List Se} (h : cacheB rs size l = true) (a b c : Int) : (findF rs size l a b c).1 = size ∧ cacheB rs size (findF rs size l a b c).2.1 = true ∧ (findF rs size l a b c).2.2 = rulesFirstF rs a b c := by
 obtain ⟨h1, ⟨h2, h3⟩, h4, h5⟩ := cacheB_parts h
 unfold findF rulesFirstF
 rw [if_pos h]
 cases hc : callB a b c with
 | false => simp [h]
 | true =>
  simp only [h1, if_true, and_self, true_and]
  refine ⟨?_, trivial⟩
  obtain ⟨k1, k2, k3⟩ := (seensB_iff rs l []).1 h5
  have hf : seensB rs [] ((⟨⟨a, b, c⟩, firstF rs a b c⟩ : Se) :: l.filter (fun x => !isC a b c x)) = true := by
   rw [seensB_iff]
   refine ⟨fun x hx => ?_, fun _ _ y hy => (by cases hy), List.pairwise_cons.2 ⟨fun x hx => ?_, k3.filter _⟩⟩
   ·rcases List.mem_cons.1 hx with e | hx
    ·rw [e]
     simp [okS, hc]
    ·exact k1 x ((List.mem_filter.1 hx).1)
   ·have := (List.mem_filter.1 hx).2
    intro e
    rw [isC_iff.2 e.symm] at this
    cases this
  have ht : seensB rs [] (lookL (firstF rs a b c) size l a b c) = true := by
   rw [seensB_iff] at hf ⊢
   have hs := List.take_sublist size.toNat ((⟨⟨a, b, c⟩, firstF rs a b c⟩ : Se) :: l.filter (fun x => !isC a b c x))
   exact ⟨fun x hx => hf.1 x (hs.subset hx), fun _ _ y hy => (by cases hy), hf.2.2.sublist hs⟩
  simp only [cacheB, h1, ht, inR, Bool.true_and, Bool.and_true, Bool.and_eq_true, decide_eq_true_eq]
  refine ⟨⟨h2, h3⟩, ?_⟩
  have : (lookL (firstF rs a b c) size l a b c).length ≤ size.toNat := List.length_take_le ..
  omega
/-- What CacheRun answers. -/
def runF (rs : List Ru) (size : Int) (cs : List Ca) : List Int := if rokB rs = true ∧ inR size 0 16 = true ∧ cs.length ≤ 60 then cs.map (fun x => rulesFirstF rs x.f0 x.f1 x.f2) else []
theorem rd_call (l : List Ca) (n : Nat) (h : n < l.length) : rd_T25 l (n : Int) = l[n] := by
 unfold rd_T25
 rw [List.getD_eq_getElem?_getD, Int.toNat_natCast, List.getElem?_eq_getElem h]
 rfl
theorem empty_ok {rs : List Ru} {size : Int} (h1 : rokB rs = true) (h2 : inR size 0 16 = true) : cacheB rs size [] = true := by
 have : 0 ≤ size := by simp only [inR, decide_eq_true_eq] at h2; exact h2.1
 simp [cacheB, h1, h2, seensB, this]
theorem impl_run_loop (rs : List Ru) (size : Int) (cs : List Ca) (hcs : cs.length ≤ 60) (d : Nat) : ∀ (n : Nat) (out : List Int) (l : List Se), n + d = cs.length → out.length ≤ n → cacheB rs size l = true → (∃ K_, ∀ k, K_ ≤ k → impl_CacheRun.l0 k rs out cs (cs.length : Int) (n : Int) size l = some (out ++ (cs.drop n).map (fun x => rulesFirstF rs x.f0 x.f1 x.f2))) := by
 induction d with
 | zero =>
  intro n out l hn ho h
  refine ev1 ?_
  simp only [impl_CacheRun.l0]
  rw [List.drop_eq_nil_of_le (by omega), List.map_nil, List.append_nil]
  exact evN (by omega) (evR rfl)
 | succ d ih =>
  intro n out l hn ho h
  have hlt : n < cs.length := by omega
  have hw : wrap64 ((n : Int) + 1) = ((n + 1 : Nat) : Int) := by rw [w64 (by omega)]; omega
  obtain ⟨q1, q2, q3⟩ := find_ok h cs[n].f0 cs[n].f1 cs[n].f2
  obtain ⟨_, ⟨_, _⟩, _, _⟩ := cacheB_parts h
  refine ev1 ?_
  simp only [impl_CacheRun.l0, rd_call cs n hlt, hw]
  rw [drop_consR hlt, List.map_cons]
  refine evP (by omega) (evP (by omega) (evP (by omega) (evB (impl_find rs size l (by omega) _ _ _) (evP (by omega) ?_))))
  rw [q1, q3]
  have := ih (n + 1) (out ++ [rulesFirstF rs cs[n].f0 cs[n].f1 cs[n].f2]) _ (by omega) (by simp; omega) q2
  rwa [List.append_assoc] at this
theorem impl_run (rs : List Ru) (size : Int) (cs : List Ca) : (∃ K_, ∀ k, K_ ≤ k → impl_CacheRun.f k rs size cs = some (runF rs size cs)) := by
 simp only [impl_CacheRun.f]
 refine evB (impl_rulesOk rs) ?_
 have hf : (∃ K_, ∀ k, K_ ≤ k → impl_CacheRun.j0 k rs size cs true = some []) := by
  refine ev1 ?_
  simp only [impl_CacheRun.j0]
  exact evP trivial (evR rfl)
 unfold runF
 cases h1 : rokB rs with
 | false =>
  rw [if_neg (by simp)]
  exact evN (by simp) hf
 | true =>
  refine evP rfl (evS (impl_inR _ _ _) ?_)
  cases h2 : inR size 0 16 with
  | false =>
   rw [if_neg (by simp)]
   exact evN (by simp) hf
  | true =>
   refine evP rfl ?_
   by_cases c : (cs.length : Int) > 60
   ·rw [decide_eq_true c, if_neg (fun h => by have := h.2.2; omega)]
    exact hf
   ·rw [decide_eq_false c, if_pos ⟨rfl, rfl, by omega⟩]
    refine ev1 ?_
    simp only [impl_CacheRun.j0]
    exact evN (by simp) (impl_run_loop rs size cs (by omega) cs.length 0 [] [] (by omega) (by simp) (empty_ok h1 h2))
theorem spec_run_loop (rs : List Ru) (hrl : rs.length ≤ 1073741824) (size : Int) (cs : List Ca) (hcs : cs.length ≤ 60) (d : Nat) : ∀ (n : Nat) (out : List Int) (l : List Se), n + d = cs.length → out.length ≤ n → cacheB rs size l = true → (∃ K_, ∀ k, K_ ≤ k → spec_CacheRun.l0 k rs cs out (n : Int) size l = some (out ++ (cs.drop n).map (fun x => rulesFirstF rs x.f0 x.f1 x.f2))) := by
 induction d with
 | zero =>
  intro n out l hn ho h
  refine ev1 ?_
  simp only [spec_CacheRun.l0]
  rw [List.drop_eq_nil_of_le (by omega), List.map_nil, List.append_nil]
  exact evN (by omega) (evR rfl)
 | succ d ih =>
  intro n out l hn ho h
  have hlt : n < cs.length := by omega
  have hw : wrap64 ((n : Int) + 1) = ((n + 1 : Nat) : Int) := by rw [w64 (by omega)]; omega
  obtain ⟨q1, q2, q3⟩ := find_ok h cs[n].f0 cs[n].f1 cs[n].f2
  obtain ⟨_, ⟨_, _⟩, _, _⟩ := cacheB_parts h
  refine ev1 ?_
  simp only [spec_CacheRun.l0, rd_call cs n hlt, hw]
  rw [drop_consR hlt, List.map_cons]
  refine evP (by omega) (evP (by omega) (evB (spec_find rs hrl size l (by omega) _ _ _) (evP (by omega) ?_)))
  rw [q1, q3]
  have := ih (n + 1) (out ++ [rulesFirstF rs cs[n].f0 cs[n].f1 cs[n].f2]) _ (by omega) (by simp; omega) q2
  rwa [List.append_assoc] at this
theorem spec_run (rs : List Ru) (hrl : rs.length ≤ 1073741824) (size : Int) (cs : List Ca) : (∃ K_, ∀ k, K_ ≤ k → spec_CacheRun.f k rs size cs = some (runF rs size cs)) := by
 simp only [spec_CacheRun.f, Option.bind_some]
 refine evB (spec_cacheOk rs hrl size [] (by simp)) ?_
 have hf : (∃ K_, ∀ k, K_ ≤ k → spec_CacheRun.j0 k rs cs [] true size = some []) := by
  refine ev1 ?_
  simp only [spec_CacheRun.j0]
  exact evP trivial (evR rfl)
 unfold runF
 cases h : cacheB rs size [] with
 | false =>
  rw [if_neg (fun q => by rw [empty_ok q.1 q.2.1] at h; cases h)]
  exact evN (by simp) hf
 | true =>
  obtain ⟨h1, h2, _⟩ := cacheB_parts h
  have h2' : inR size 0 16 = true := by simp only [inR, decide_eq_true_eq]; exact h2
  refine evP rfl ?_
  by_cases c : (cs.length : Int) > 60
  ·rw [decide_eq_true c, if_neg (fun h => by have := h.2.2; omega)]
   exact hf
  ·rw [decide_eq_false c, if_pos ⟨h1, h2', by omega⟩]
   refine ev1 ?_
   simp only [spec_CacheRun.j0]
   exact evN (by simp) (spec_run_loop rs hrl size cs (by omega) cs.length 0 [] [] (by omega) (by simp) h)
end Go.Proofs.Ytioghacieopbdaa.Z
end
section
namespace Go.Proofs.Ytioghacieopbdaa.Z
open Go Go.RowKit Go.Proofs.Ytioghacieopbdaa.PAll Go.Proofs.YtioghacieopbdaaW.PrintWords Go.Proofs.YtioghacieopbdaaW.PrintLast Go.Proofs.YtioghacieopbdaaW.PrintMore
set_option linter.unusedVariables false
set_option linter.unusedSimpArgs false
/-- Bytes that are drawn from. -/
def Bytes (s : List Int) : Prop := (∀ x ∈ s, 0 ≤ x ∧ x ≤ 255) ∧ s.length ≤ 2000
theorem rd_byte {s : List Int} (h : Bytes s) (i : Int) : 0 ≤ rd s i ∧ rd s i ≤ 255 := by
 unfold rd
 rw [List.getD_eq_getElem?_getD]
 cases e : s[i.toNat]? with
 | none => simp
 | some x => simpa using h.1 x (List.mem_of_getElem? e)
theorem pick_aux (k : Nat) (s : List Int) (p n : Int) (hs : Bytes s) (hp0 : 0 ≤ p) (hp1 : p ≤ 1000000000000) (hn0 : 1 ≤ n) (hn1 : n ≤ 2147483648) :
  ∃ v, spec_l1Rd_pick.f (k + 1) s p n = some (v, p + 1) ∧ 0 ≤ v ∧ v < n := by
 have e1 : wrap64 (p + 1) = p + 1 := w64 (by omega)
 have e2 : wrap64 (p + 1 - 1) = p := by rw [w64 (by omega)]; omega
 unfold spec_l1Rd_pick.f
 rw [if_neg (by omega), e1]
 simp only [spec_l1Rd_pick.j0, e2]
 by_cases h0 : (s.length : Int) = 0
 ·rw [if_pos (beq_iff_eq.2 h0)]
  exact ⟨0, rfl, by omega, by omega⟩
 ·rw [if_neg (fun h => h0 (beq_iff_eq.1 h))]
  have hl := hs.2
  by_cases h1 : p < (s.length : Int)
  ·rw [if_pos h1, if_pos hp0, if_neg (by omega)]
   have hb := rd_byte hs p
   rw [w64 (by omega), Int.tmod_eq_emod_of_nonneg (by omega)]
   exact ⟨_, rfl, Int.emod_nonneg _ (by omega), Int.emod_lt_of_pos _ (by omega)⟩
  ·have e3 : wrap64 (p * 7) = p * 7 := w64 (by omega)
   have e4 : wrap64 (p * 7 + 3) = p * 7 + 3 := w64 (by omega)
   have e5 : wrap64 (p * 29) = p * 29 := w64 (by omega)
   have d1 : Int.tmod p (s.length : Int) = p % (s.length : Int) := Int.tmod_eq_emod_of_nonneg hp0
   have d2 : Int.tmod (p * 7 + 3) (s.length : Int) = (p * 7 + 3) % (s.length : Int) := Int.tmod_eq_emod_of_nonneg (by omega)
   have d3 : Int.tdiv p (s.length : Int) = p / (s.length : Int) := Int.tdiv_eq_ediv_of_nonneg hp0
   have q0 : 0 ≤ p / (s.length : Int) := Int.ediv_nonneg hp0 (by omega)
   have q1 : p / (s.length : Int) ≤ p := Int.ediv_le_self _ hp0
   have r0 := Int.emod_nonneg p h0
   have r1 := Int.emod_lt_of_pos p (by omega : 0 < (s.length : Int))
   have r2 := Int.emod_nonneg (p * 7 + 3) h0
   have r3 := Int.emod_lt_of_pos (p * 7 + 3) (by omega : 0 < (s.length : Int))
   have b1 := rd_byte hs (p % (s.length : Int))
   have b2 := rd_byte hs ((p * 7 + 3) % (s.length : Int))
   have c1 : wrap64 (rd s (p % (s.length : Int))) = rd s (p % (s.length : Int)) := w64 (by omega)
   have c2 : wrap64 (rd s ((p * 7 + 3) % (s.length : Int))) = rd s ((p * 7 + 3) % (s.length : Int)) := w64 (by omega)
   have c3 : wrap64 (p / (s.length : Int)) = p / (s.length : Int) := w64 (by omega)
   have e6 : wrap64 (p / (s.length : Int) * 53) = p / (s.length : Int) * 53 := w64 (by omega)
   have e7 : wrap64 (rd s (p % (s.length : Int)) * 131) = rd s (p % (s.length : Int)) * 131 := w64 (by omega)
   have e8 : wrap64 (rd s ((p * 7 + 3) % (s.length : Int)) * 1117) = rd s ((p * 7 + 3) % (s.length : Int)) * 1117 := w64 (by omega)
   rw [if_neg h1, if_neg h0]
   simp only [d1, d2, d3, e3, e4, c1, c2, c3, e5, e6, e7, e8]
   rw [if_pos r0, if_pos r1, if_pos r2, if_pos r3, if_neg (by omega)]
   generalize rd s (p % (s.length : Int)) = x at *
   generalize rd s ((p * 7 + 3) % (s.length : Int)) = y at *
   generalize p / (s.length : Int) = z at *
   have f1 : wrap64 (x * 131 + y * 1117) = x * 131 + y * 1117 := w64 (by omega)
   have f2 : wrap64 (x * 131 + y * 1117 + p * 29) = x * 131 + y * 1117 + p * 29 := w64 (by omega)
   have f3 : wrap64 (x * 131 + y * 1117 + p * 29 + z * 53) = x * 131 + y * 1117 + p * 29 + z * 53 := w64 (by omega)
   simp only [f1, f2, f3]
   generalize hX : x * 131 + y * 1117 + p * 29 + z * 53 = X at *
   have g1 : Int.tdiv X 64 = X / 64 := Int.tdiv_eq_ediv_of_nonneg (by omega)
   have g2 : wrap64 (X / 64) = X / 64 := w64 (by omega)
   rw [g1, g2, i64_xor X (X / 64) (by omega) (by omega) (by omega) (by omega), Int.tmod_eq_emod_of_nonneg (by omega)]
   exact ⟨_, rfl, Int.emod_nonneg _ (by omega), Int.emod_lt_of_pos _ (by omega)⟩
/-- A number is drawn. -/
theorem pick (s : List Int) (p n : Int) (hs : Bytes s) (hp0 : 0 ≤ p) (hp1 : p ≤ 1000000000000) (hn0 : 1 ≤ n) (hn1 : n ≤ 2147483648) :
  ∃ v, (∃ K_, ∀ k, K_ ≤ k → spec_l1Rd_pick.f k s p n = some (v, p + 1)) ∧ 0 ≤ v ∧ v < n := by
 obtain ⟨v, h, h0, h1⟩ := pick_aux 0 s p n hs hp0 hp1 hn0 hn1
 exact ⟨v, Ev.of (spec_l1Rd_pick.mono s p n) h, h0, h1⟩
/-- A number of a list is drawn. -/
theorem one (s : List Int) (p : Int) (l : List Int) (hs : Bytes s) (hp0 : 0 ≤ p) (hp1 : p ≤ 1000000000000) (hl0 : 1 ≤ l.length) (hl1 : l.length ≤ 2147483648) :
  ∃ v, (∃ K_, ∀ k, K_ ≤ k → spec_l1Rd_one.f k s p l = some (v, p + 1)) ∧ v ∈ l := by
 obtain ⟨v, ⟨K, h⟩, h0, h1⟩ := pick s p l.length hs hp0 hp1 (by omega) (by omega)
 refine ⟨rd l v, ⟨K, fun k hk => ?_⟩, ?_⟩
 ·simp only [spec_l1Rd_one.f, h k hk, Option.bind_some]
  rw [if_pos h0, if_pos h1]
 ·unfold rd
  rw [List.getD_eq_getElem?_getD, List.getElem?_eq_getElem (by omega)]
  exact List.getElem_mem _
end Go.Proofs.Ytioghacieopbdaa.Z
end
section
namespace Go.Proofs.Ytioghacieopbdaa.Z
open Go Go.RowKit Go.Proofs.Ytioghacieopbdaa.PAll Go.Proofs.YtioghacieopbdaaW.PrintWords Go.Proofs.YtioghacieopbdaaW.PrintLast Go.Proofs.YtioghacieopbdaaW.PrintMore
set_option linter.unusedVariables false
set_option linter.unusedSimpArgs false
theorem l1Open (l : List Int) (hw : ∀ x ∈ l, (Lit.int .u8 x).wf = true) : ∃ s, spec_l1Open.f l = some (s, 0) ∧ Bytes s := by
 have hb : ∀ x ∈ l, 0 ≤ x ∧ x ≤ 255 := fun x hx => by
  have := hw x hx
  simp [Lit.wf, IntKind.min, IntKind.max, IntKind.bits, IntKind.signed] at this
  omega
 unfold spec_l1Open.f
 by_cases c : (l.length : Int) > 2000
 ·rw [if_pos c, if_pos (by omega)]
  exact ⟨_, rfl, fun x hx => hb x (List.mem_of_mem_take hx), by rw [List.length_take]; omega⟩
 ·rw [if_neg c]
  exact ⟨_, rfl, hb, by omega⟩
theorem drawAddr (s : List Int) (p : Int) (hs : Bytes s) (hp0 : 0 ≤ p) (hp1 : p ≤ 900000000000) :
  ∃ a, (∃ K_, ∀ k, K_ ≤ k → spec_l12Addr.f k s p = some (a, p + 6)) ∧ 0 ≤ a ∧ a ≤ 4294967295 := by
 obtain ⟨v1, ⟨K1, h1⟩, a1, b1⟩ := pick s p 256 hs (by omega) (by omega) (by decide) (by decide)
 obtain ⟨v2, ⟨K2, h2⟩, a2, b2⟩ := pick s (p + 1) 8 hs (by omega) (by omega) (by decide) (by decide)
 obtain ⟨v3, ⟨K3, h3⟩, a3, b3⟩ := pick s (p + 1 + 1) 16 hs (by omega) (by omega) (by decide) (by decide)
 obtain ⟨v4, ⟨K4, h4⟩, a4, b4⟩ := pick s (p + 1 + 1 + 1) 256 hs (by omega) (by omega) (by decide) (by decide)
 obtain ⟨v5, ⟨K5, h5⟩, a5, b5⟩ := pick s (p + 1 + 1 + 1 + 1) 64 hs (by omega) (by omega) (by decide) (by decide)
 obtain ⟨v6, ⟨K6, h6⟩, b6⟩ := one s (p + 1 + 1 + 1 + 1 + 1) [wrap64 (167772160 + v1), wrap64 (167772160 + v2), wrap64 (167772416 + v3), wrap64 (3232235520 + v4), 0, 4294967295, 184549375, wrap64 (2886729728 + (wrap64 (v5 * 256)))] hs (by omega) (by omega) (by simp) (by simp)
 refine ⟨v6, ⟨K1 + K2 + K3 + K4 + K5 + K6, fun k hk => ?_⟩, ?_⟩
 ·simp only [spec_l12Addr.f]
  rw [h1 k (by omega), Option.bind_some, h2 k (by omega), Option.bind_some, h3 k (by omega), Option.bind_some, h4 k (by omega), Option.bind_some, h5 k (by omega), Option.bind_some]
  simp only []
  rw [h6 k (by omega), Option.bind_some]
  simp only [Option.some.injEq, Prod.mk.injEq, true_and]
  omega
 ·rw [w64 (by omega), w64 (by omega), w64 (by omega), w64 (by omega), w64 (n := v5 * 256) (by omega), w64 (by omega)] at b6
  simp only [List.mem_cons, List.not_mem_nil, or_false] at b6
  omega
theorem spec_over {a m : Int} (ha0 : 0 ≤ a) (ha1 : a ≤ 4611686018427387904) (h0 : 0 ≤ m) (h1 : m ≤ 32) : (∃ K_, ∀ k, K_ ≤ k → spec_l1Over.f k a m = some (a / sz m * sz m, m)) := by
 obtain ⟨K, h⟩ := spec_size h0 h1
 have hs := sz_bd h0
 have hd : a / sz m * sz m ≤ a := Int.ediv_mul_le a (by omega)
 have hq0 : 0 ≤ a / sz m := Int.ediv_nonneg ha0 (by omega)
 have hq1 : a / sz m ≤ a := Int.ediv_le_self _ ha0
 have hm : 0 ≤ a / sz m * sz m := Int.mul_nonneg hq0 (by omega)
 refine ⟨K, fun k hk => ?_⟩
 simp only [spec_l1Over.f]
 rw [h k hk, Option.bind_some, if_neg (by omega), Option.bind_some, Int.tdiv_eq_ediv_of_nonneg ha0, w64 (n := a / sz m) (by omega), w64 (by omega)]
theorem drawBlock (s : List Int) (p : Int) (hs : Bytes s) (hp0 : 0 ≤ p) (hp1 : p ≤ 800000000000) :
  ∃ b m, (∃ K_, ∀ k, K_ ≤ k → spec_l12Block.f k s p = some (b, m, p + 7)) ∧ bok b m := by
 obtain ⟨a, ⟨K1, h1⟩, a1, b1⟩ := drawAddr s p hs (by omega) (by omega)
 obtain ⟨m, ⟨K2, h2⟩, b2⟩ := one s (p + 6) [32, 31, 30, 28, 24, 24, 25, 16, 8, 1, 0, 29] hs (by omega) (by omega) (by simp) (by simp)
 simp only [List.mem_cons, List.not_mem_nil, or_false] at b2
 obtain ⟨K3, h3⟩ := spec_over (a := a) (m := m) a1 (by omega) (by omega) (by omega)
 have hd : a / sz m * sz m ≤ a := Int.ediv_mul_le a (by have := sz_pos m; omega)
 have hm : 0 ≤ a / sz m * sz m := Int.mul_nonneg (Int.ediv_nonneg a1 (by have := sz_pos m; omega)) (by have := sz_pos m; omega)
 refine ⟨_, m, ⟨K1 + K2 + K3, fun k hk => ?_⟩, bok.mk' hm (by omega) (by omega) (by omega) (Int.dvd_mul_left _ _)⟩
 simp only [spec_l12Block.f]
 rw [h1 k (by omega), Option.bind_some]
 simp only []
 rw [h2 k (by omega), Option.bind_some]
 simp only []
 rw [h3 k (by omega), Option.bind_some]
 simp only [Option.some.injEq, Prod.mk.injEq, true_and]
 omega
theorem drawAnyBlock (s : List Int) (p : Int) (hs : Bytes s) (hp0 : 0 ≤ p) (hp1 : p ≤ 700000000000) :
  ∃ b m p', (∃ K_, ∀ k, K_ ≤ k → spec_l12AnyBlock.f k s p = some (b, m, p')) ∧ p ≤ p' ∧ p' ≤ p + 9 ∧ -1 ≤ b ∧ b ≤ 4294967551 ∧ -1 ≤ m ∧ m ≤ 33 := by
 obtain ⟨b, m, ⟨K1, h1⟩, a1⟩ := drawBlock s p hs (by omega) (by omega)
 have a2 := a1.1
 have a3 := a1.2.1
 have a4 := a1.2.2.1
 have a5 := a1.2.2.2.1
 obtain ⟨v, ⟨K2, h2⟩, c1, c2⟩ := pick s (p + 7) 16 hs (by omega) (by omega) (by decide) (by decide)
 by_cases e0 : v = 0
 ·obtain ⟨x, ⟨K3, h3⟩, b3⟩ := one s (p + 7 + 1) [1, (-1), 256] hs (by omega) (by omega) (by simp) (by simp)
  simp only [List.mem_cons, List.not_mem_nil, or_false] at b3
  refine ⟨b + x, m, p + 7 + 1 + 1, ⟨K1 + K2 + K3, fun k hk => ?_⟩, by omega, by omega, by omega, by omega, by omega, by omega⟩
  simp only [spec_l12AnyBlock.f]
  rw [h1 k (by omega), Option.bind_some]
  simp only []
  rw [h2 k (by omega), Option.bind_some]
  simp only []
  rw [if_pos e0, h3 k (by omega), Option.bind_some]
  simp only []
  rw [w64 (by omega)]
 ·by_cases e1 : v = 1
  ·obtain ⟨x, ⟨K3, h3⟩, b3⟩ := one s (p + 7 + 1) [(-1), 33, 0, 32] hs (by omega) (by omega) (by simp) (by simp)
   simp only [List.mem_cons, List.not_mem_nil, or_false] at b3
   refine ⟨b, x, p + 7 + 1 + 1, ⟨K1 + K2 + K3, fun k hk => ?_⟩, by omega, by omega, by omega, by omega, by omega, by omega⟩
   simp only [spec_l12AnyBlock.f]
   rw [h1 k (by omega), Option.bind_some]
   simp only []
   rw [h2 k (by omega), Option.bind_some]
   simp only []
   rw [if_neg e0, if_pos e1, h3 k (by omega), Option.bind_some]
  ·refine ⟨b, m, p + 7 + 1, ⟨K1 + K2, fun k hk => ?_⟩, by omega, by omega, by omega, by omega, by omega, by omega⟩
   simp only [spec_l12AnyBlock.f]
   rw [h1 k (by omega), Option.bind_some]
   simp only []
   rw [h2 k (by omega), Option.bind_some]
   simp only []
   rw [if_neg e0, if_neg e1]
theorem drawAnyAddr (s : List Int) (p : Int) (hs : Bytes s) (hp0 : 0 ≤ p) (hp1 : p ≤ 700000000000) :
  ∃ a p', (∃ K_, ∀ k, K_ ≤ k → spec_l12AnyAddr.f k s p = some (a, p')) ∧ p ≤ p' ∧ p' ≤ p + 8 ∧ -1 ≤ a ∧ a ≤ 1099511627776 := by
 obtain ⟨v, ⟨K1, h1⟩, c1, c2⟩ := pick s p 16 hs (by omega) (by omega) (by decide) (by decide)
 by_cases e0 : v = 0
 ·obtain ⟨x, ⟨K3, h3⟩, b3⟩ := one s (p + 1) [(-1), 4294967296, 1099511627776] hs (by omega) (by omega) (by simp) (by simp)
  simp only [List.mem_cons, List.not_mem_nil, or_false] at b3
  refine ⟨x, p + 1 + 1, ⟨K1 + K3, fun k hk => ?_⟩, by omega, by omega, by omega, by omega⟩
  simp only [spec_l12AnyAddr.f]
  rw [h1 k (by omega), Option.bind_some]
  simp only []
  rw [if_pos e0, h3 k (by omega), Option.bind_some]
 ·obtain ⟨a, ⟨K3, h3⟩, b3, b4⟩ := drawAddr s (p + 1) hs (by omega) (by omega)
  refine ⟨a, p + 1 + 6, ⟨K1 + K3, fun k hk => ?_⟩, by omega, by omega, by omega, by omega⟩
  simp only [spec_l12AnyAddr.f]
  rw [h1 k (by omega), Option.bind_some]
  simp only []
  rw [if_neg e0, h3 k (by omega), Option.bind_some]
end Go.Proofs.Ytioghacieopbdaa.Z
end
section
namespace Go.Proofs.Ytioghacieopbdaa.Z
open Go Go.RowKit Go.Proofs.Ytioghacieopbdaa.PAll Go.Proofs.YtioghacieopbdaaW.PrintWords Go.Proofs.YtioghacieopbdaaW.PrintLast Go.Proofs.YtioghacieopbdaaW.PrintMore
set_option linter.unusedVariables false
set_option linter.unusedSimpArgs false
def smallI (v : Int) : Prop := -1 ≤ v ∧ v ≤ 4294967551
/-- A rule of numbers that are not great. -/
def smallR (x : Ru) : Prop := smallI x.f0 ∧ smallI x.f1 ∧ smallI x.f2.f0 ∧ smallI x.f2.f1 ∧ smallI x.f3.f0 ∧ smallI x.f3.f1 ∧ smallI x.f4 ∧ smallI x.f5
theorem drawRule (s : List Int) (p : Int) (hs : Bytes s) (hp0 : 0 ≤ p) (hp1 : p ≤ 600000000000) :
  Dr (fun k => spec_l12Rule.f k s p) fun r => smallR ⟨r.1, r.2.1, ⟨r.2.2.1, r.2.2.2.1⟩, ⟨r.2.2.2.2.1, r.2.2.2.2.2.1⟩, r.2.2.2.2.2.2.1, r.2.2.2.2.2.2.2.1⟩ ∧ p ≤ r.2.2.2.2.2.2.2.2 ∧ r.2.2.2.2.2.2.2.2 ≤ p + 18 := by
 simp only [spec_l12Rule.f]
 obtain ⟨x, e1, b1⟩ := one s p [0, 1, 2, 2, 2] hs (by omega) (by omega) (by simp) (by simp)
 simp only [List.mem_cons, List.not_mem_nil, or_false] at b1
 obtain ⟨b, m, e2, ⟨c0, c1, c2, c3, _⟩⟩ := drawBlock s (p + 1) hs (by omega) (by omega)
 obtain ⟨b', m', e3, ⟨d0, d1, d2, d3, _⟩⟩ := drawBlock s (p + 1 + 7) hs (by omega) (by omega)
 obtain ⟨y, e4, b4⟩ := one s (p + 1 + 7 + 7) [0, 0, 80, 100] hs (by omega) (by omega) (by simp) (by simp)
 obtain ⟨z, e5, b5⟩ := one s (p + 1 + 7 + 7 + 1) [65535, 80, 100, 443] hs (by omega) (by omega) (by simp) (by simp)
 simp only [List.mem_cons, List.not_mem_nil, or_false] at b4 b5
 obtain ⟨t, e6, t0, t1⟩ := pick s (p + 1 + 7 + 7 + 1 + 1) 2 hs (by omega) (by omega) (by decide) (by decide)
 refine drB e1 (drB e2 (drB e3 (drB e4 (drB e5 ?_))))
 simp only []
 refine drI (fun _ => dr1 ?_) (fun _ => dr1 ?_)
 all_goals
  simp only [spec_l12Rule.j0]
  refine drI (fun _ => drB e6 (drR ?_)) (fun _ => drR ?_)
 all_goals
  simp only []
  refine ⟨⟨⟨?_, ?_⟩, ⟨?_, ?_⟩, ⟨?_, ?_⟩, ⟨?_, ?_⟩, ⟨?_, ?_⟩, ⟨?_, ?_⟩, ⟨?_, ?_⟩, ⟨?_, ?_⟩⟩, ?_, ?_⟩ <;> first | omega | (simp only []; omega)
theorem small_all : smallI 0 ∧ smallI 65535 := ⟨⟨by omega, by omega⟩, ⟨by omega, by omega⟩⟩
theorem mem_snoc_small {l : List Ru} {x : Ru} (h : ∀ y ∈ l, smallR y) (hx : smallR x) : ∀ y ∈ l ++ [x], smallR y := by
 intro y hy
 rcases List.mem_append.1 hy with hy | hy
 ·exact h y hy
 ·rw [List.mem_singleton.1 hy]
  exact hx
theorem rules_l0 (s : List Int) (hs : Bytes s) (d : Nat) : ∀ (l : List Ru) (p : Int), 0 ≤ p → p + 18 * d ≤ 500000000000 → l.length + d ≤ 1000 → (∀ x ∈ l, smallR x) →
  Dr (fun k => spec_l12Rules.l0 k l (d : Int) s p) fun r => r.1.length ≤ l.length + d + 1 ∧ (∀ x ∈ r.1, smallR x) ∧ p ≤ r.2 ∧ r.2 ≤ p + 18 * d + 2 := by
 induction d with
 | zero =>
  intro l p hp0 hp1 hl h
  refine dr1 ?_
  simp only [spec_l12Rules.l0]
  obtain ⟨v, e, v0, v1⟩ := pick s p 2 hs hp0 (by omega) (by decide) (by decide)
  have e2 := spec_over (a := 0) (m := 0) (by omega) (by omega) (by omega) (by omega)
  refine drN (by omega) (drB e (drI (fun c => ?_) (fun c => drR ⟨by simp only []; omega, h, by simp only []; omega, by simp only []; omega⟩)))
  obtain ⟨x, e1, b1⟩ := one s (p + 1) [1, 2, 2] hs (by omega) (by omega) (by simp) (by simp)
  simp only [List.mem_cons, List.not_mem_nil, or_false] at b1
  refine drB e1 (drB e2 (drB e2 (drP (by omega) (drR ⟨by simp, mem_snoc_small h ?_, by simp only []; omega, by simp only []; omega⟩))))
  have hz : (0 : Int) / sz 0 * sz 0 = 0 := by rw [sz_0]; rfl
  simp only [hz]
  exact ⟨⟨by simp only []; omega, by simp only []; omega⟩, small_all.1, small_all.1, small_all.1, small_all.1, small_all.1, small_all.1, small_all.2⟩
 | succ d ih =>
  intro l p hp0 hp1 hl h
  refine dr1 ?_
  simp only [spec_l12Rules.l0]
  have hw : wrap64 (((d + 1 : Nat) : Int) - 1) = (d : Int) := by
   have : ((d + 1 : Nat) : Int) - 1 = (d : Int) := by omega
   rw [this, w64 (by omega)]
  obtain ⟨x, e, hx, q0, q1⟩ := drawRule s p hs hp0 (by omega)
  refine drP (by omega) (drB e (drP (by omega) ?_))
  simp only [hw]
  refine (ih (l ++ [_]) _ (by omega) (by omega) (by simp; omega) (mem_snoc_small h hx)).imp fun r hr => ⟨?_, hr.2.1, by omega, by omega⟩
  have := hr.1
  simp only [List.length_append, List.length_cons, List.length_nil] at this
  omega
theorem drawRules (s : List Int) (p : Int) (hs : Bytes s) (hp0 : 0 ≤ p) (hp1 : p ≤ 400000000000) : Dr (fun k => spec_l12Rules.f k s p) fun r => r.1.length ≤ 5 ∧ (∀ x ∈ r.1, smallR x) ∧ p ≤ r.2 ∧ r.2 ≤ p + 100 := by
 simp only [spec_l12Rules.f]
 obtain ⟨v, e, v0, v1⟩ := pick s p 5 hs hp0 (by omega) (by decide) (by decide)
 refine drB e ?_
 have hv : v = ((v.toNat : Nat) : Int) := by omega
 simp only []
 rw [hv]
 refine (rules_l0 s hs v.toNat [] (p + 1) (by omega) (by omega) (by simp; omega) (fun x hx => by cases hx)).imp fun r hr => ⟨?_, hr.2.1, by omega, by omega⟩
 have := hr.1
 simp only [List.length_nil] at this
 omega
theorem anyRules_l0 (s : List Int) (hs : Bytes s) (d : Nat) : ∀ (l : List Ru) (p : Int), 0 ≤ p → p + 19 * d ≤ 500000000000 → l.length + d = 9 → (∀ x ∈ l, smallR x) →
  Dr (fun k => spec_l12AnyRules.l0 k l s p) fun r => r.1.length ≤ 9 ∧ (∀ x ∈ r.1, smallR x) ∧ p ≤ r.2 ∧ r.2 ≤ p + 19 * d + 1 := by
 induction d with
 | zero =>
  intro l p hp0 hp1 hl h
  refine dr1 ?_
  simp only [spec_l12AnyRules.l0]
  obtain ⟨v, e, v0, v1⟩ := pick s p 2 hs hp0 (by omega) (by decide) (by decide)
  refine drB e ?_
  simp only []
  have hw : wrap64 (8 + v) = 8 + v := w64 (by omega)
  rw [hw]
  exact drN (by omega) (drR ⟨by simp only []; omega, h, by simp only []; omega, by simp only []; omega⟩)
 | succ d ih =>
  intro l p hp0 hp1 hl h
  refine dr1 ?_
  simp only [spec_l12AnyRules.l0]
  obtain ⟨v, e, v0, v1⟩ := pick s p 2 hs hp0 (by omega) (by decide) (by decide)
  refine drB e ?_
  simp only []
  have hw : wrap64 (8 + v) = 8 + v := w64 (by omega)
  rw [hw]
  refine drI (fun c => ?_) (fun c => drR ⟨by simp only []; omega, h, by simp only []; omega, by simp only []; omega⟩)
  obtain ⟨x, e, hx, q0, q1⟩ := drawRule s (p + 1) hs (by omega) (by omega)
  refine drB e (drP (by omega) ?_)
  exact (ih (l ++ [_]) _ (by omega) (by omega) (by simp; omega) (mem_snoc_small h hx)).imp fun r hr => ⟨hr.1, hr.2.1, by omega, by omega⟩
theorem mem_set_small {l : List Ru} {n : Nat} {x : Ru} (h : ∀ y ∈ l, smallR y) (hx : smallR x) : ∀ y ∈ l.set n x, smallR y := by
 intro y hy
 rcases List.mem_or_eq_of_mem_set hy with hy | hy
 ·exact h y hy
 ·rw [hy]
  exact hx
theorem drawAnyRules (s : List Int) (p : Int) (hs : Bytes s) (hp0 : 0 ≤ p) (hp1 : p ≤ 300000000000) : Dr (fun k => spec_l12AnyRules.f k s p) fun r => r.1.length ≤ 9 ∧ (∀ x ∈ r.1, smallR x) ∧ p ≤ r.2 ∧ r.2 ≤ p + 300 := by
 simp only [spec_l12AnyRules.f]
 obtain ⟨⟨l, q⟩, e, h1, h2, q0, q1⟩ := drawRules s p hs hp0 (by omega)
 simp only [] at h1 h2 q0 q1
 refine drB e (drI (fun c => drR ⟨by simp only []; omega, h2, by simp only []; omega, by simp only []; omega⟩) (fun c => ?_))
 simp only [] at c ⊢
 obtain ⟨i, e1, i0, i1⟩ := pick s q l.length hs (by omega) (by omega) (by omega) (by omega)
 obtain ⟨v, e2, v0, v1⟩ := pick s (q + 1) 20 hs (by omega) (by omega) (by decide) (by decide)
 have hi : rd_T34 l i = l[i.toNat]'(by omega) := by
  have := rd_rule l i.toNat (by omega)
  rwa [Int.toNat_of_nonneg i0] at this
 obtain ⟨x1, x2, x3, x4, x5, x6, x7, x8⟩ := h2 _ (List.getElem_mem (show i.toNat < l.length by omega))
 refine drB e1 (drB e2 (drI (fun c0 => ?_) (fun c0 => drI (fun c1 => ?_) (fun c1 => drI (fun c2 => ?_) (fun c2 => drI (fun c3 => ?_) (fun c3 => drI (fun c4 => ?_) (fun c4 => ?_)))))))
 ·obtain ⟨x, e3, b3⟩ := one s (q + 1 + 1) [(-1), 3, 0] hs (by omega) (by omega) (by simp) (by simp)
  simp only [List.mem_cons, List.not_mem_nil, or_false] at b3
  refine drB e3 (drP i0 (drP i1 (drR ⟨by simp only [List.length_set]; omega, mem_set_small h2 ?_, by simp only []; omega, by simp only []; omega⟩)))
  simp only [hi]
  exact ⟨⟨by simp only []; omega, by simp only []; omega⟩, x2, x3, x4, x5, x6, x7, x8⟩
 ·obtain ⟨x, e3, b3⟩ := one s (q + 1 + 1) [(-1), 4, 1] hs (by omega) (by omega) (by simp) (by simp)
  simp only [List.mem_cons, List.not_mem_nil, or_false] at b3
  refine drB e3 (drP i0 (drP i1 (drR ⟨by simp only [List.length_set]; omega, mem_set_small h2 ?_, by simp only []; omega, by simp only []; omega⟩)))
  simp only [hi]
  exact ⟨x1, ⟨by simp only []; omega, by simp only []; omega⟩, x3, x4, x5, x6, x7, x8⟩
 ·obtain ⟨x, e3, b3⟩ := one s (q + 1 + 1) [(-1), 65536] hs (by omega) (by omega) (by simp) (by simp)
  simp only [List.mem_cons, List.not_mem_nil, or_false] at b3
  refine drB e3 (drP i0 (drP i1 (drR ⟨by simp only [List.length_set]; omega, mem_set_small h2 ?_, by simp only []; omega, by simp only []; omega⟩)))
  simp only [hi]
  exact ⟨x1, x2, x3, x4, x5, x6, ⟨by simp only []; omega, by simp only []; omega⟩, x8⟩
 ·obtain ⟨b, m, q', e3, q2, q3, b0, b1, m0, m1⟩ := drawAnyBlock s (q + 1 + 1) hs (by omega) (by omega)
  refine drB e3 (drP i0 (drP i1 (drR ⟨by simp only [List.length_set]; omega, mem_set_small h2 ?_, by simp only []; omega, by simp only []; omega⟩)))
  simp only [hi]
  exact ⟨x1, x2, ⟨b0, b1⟩, ⟨m0, by simp only []; omega⟩, x5, x6, x7, x8⟩
 ·exact (anyRules_l0 s hs (9 - l.length) l _ (by simp only []; omega) (by simp only []; omega) (by omega) h2).imp fun r hr => ⟨hr.1, hr.2.1, by have := hr.2.2.1; simp only [] at this; omega, by have := hr.2.2.2; simp only [] at this; omega⟩
 ·exact drR ⟨by simp only []; omega, h2, by simp only []; omega, by simp only []; omega⟩
theorem drawCall (s : List Int) (p : Int) (hs : Bytes s) (hp0 : 0 ≤ p) (hp1 : p ≤ 500000000000) : Dr (fun k => spec_l12Call.f k s p) fun r => (0 ≤ r.1 ∧ r.1 ≤ 4294967295) ∧ (0 ≤ r.2.1 ∧ r.2.1 ≤ 4294967295) ∧ (0 ≤ r.2.2.1 ∧ r.2.2.1 ≤ 65535) ∧ r.2.2.2 = p + 14 := by
 simp only [spec_l12Call.f]
 obtain ⟨a, e1, a0, a1⟩ := drawAddr s p hs (by omega) (by omega)
 obtain ⟨b, e2, b0, b1⟩ := drawAddr s (p + 6) hs (by omega) (by omega)
 obtain ⟨v, e3, v0, v1⟩ := pick s (p + 6 + 6) 256 hs (by omega) (by omega) (by decide) (by decide)
 obtain ⟨x, e4, b4⟩ := one s (p + 6 + 6 + 1) [0, 80, 81, 100, 443, 65535, v] hs (by omega) (by omega) (by simp) (by simp)
 simp only [List.mem_cons, List.not_mem_nil, or_false] at b4
 exact drB e1 (drB e2 (drB e3 (drB e4 (drR ⟨⟨a0, a1⟩, ⟨b0, b1⟩, ⟨by simp only []; omega, by simp only []; omega⟩, by simp only []; omega⟩))))
theorem drawAnyCall (s : List Int) (p : Int) (hs : Bytes s) (hp0 : 0 ≤ p) (hp1 : p ≤ 400000000000) : Dr (fun k => spec_l12AnyCall.f k s p) fun r => (-1 ≤ r.1 ∧ r.1 ≤ 1099511627776) ∧ (0 ≤ r.2.1 ∧ r.2.1 ≤ 4294967295) ∧ (-1 ≤ r.2.2.1 ∧ r.2.2.1 ≤ 65536) ∧ p ≤ r.2.2.2 ∧ r.2.2.2 ≤ p + 25 := by
 simp only [spec_l12AnyCall.f]
 obtain ⟨⟨a, b, c, q⟩, e1, ⟨a0, a1⟩, ⟨b0, b1⟩, ⟨c0, c1⟩, hq⟩ := drawCall s p hs hp0 (by omega)
 simp only [] at a0 a1 b0 b1 c0 c1 hq
 obtain ⟨v, e3, v0, v1⟩ := pick s q 20 hs (by omega) (by omega) (by decide) (by decide)
 refine drB e1 (drB e3 ?_)
 simp only []
 refine drI (fun c => ?_) (fun c => drI (fun c => ?_) (fun c => ?_))
 ·obtain ⟨a', p', e, p0, p1, k0, k1⟩ := drawAnyAddr s (q + 1) hs (by omega) (by omega)
  exact drB e (drR ⟨⟨k0, k1⟩, ⟨b0, b1⟩, ⟨by simp only []; omega, by simp only []; omega⟩, by simp only []; omega, by simp only []; omega⟩)
 ·obtain ⟨x, e4, b4⟩ := one s (q + 1) [(-1), 65536] hs (by omega) (by omega) (by simp) (by simp)
  simp only [List.mem_cons, List.not_mem_nil, or_false] at b4
  exact drB e4 (drR ⟨⟨by simp only []; omega, by simp only []; omega⟩, ⟨b0, b1⟩, ⟨by simp only []; omega, by simp only []; omega⟩, by simp only []; omega, by simp only []; omega⟩)
 ·exact drR ⟨⟨by simp only []; omega, by simp only []; omega⟩, ⟨b0, b1⟩, ⟨by simp only []; omega, by simp only []; omega⟩, by simp only []; omega, by simp only []; omega⟩
end Go.Proofs.Ytioghacieopbdaa.Z
end
section
namespace Go.Proofs.Ytioghacieopbdaa.Z
open Go Go.RowKit Go.Proofs.Ytioghacieopbdaa.PAll Go.Proofs.YtioghacieopbdaaW.PrintWords Go.Proofs.YtioghacieopbdaaW.PrintLast Go.Proofs.YtioghacieopbdaaW.PrintMore
set_option linter.unusedVariables false
set_option linter.unusedSimpArgs false
theorem run_l0 (s : List Int) (hs : Bytes s) (rs : List Ru) (d : Nat) : ∀ (cs : List Ca) (p : Int), 0 ≤ p → p + 27 * d ≤ 300000000000 → cs.length + d ≤ 1000 →
  Dr (fun k => spec_DrawCacheRun.l0 k rs cs (d : Int) s p) fun r => r.1 = rs ∧ r.2.2.length ≤ cs.length + d := by
 induction d with
 | zero =>
  intro cs p hp0 hp1 hl
  refine dr1 ?_
  simp only [spec_DrawCacheRun.l0]
  obtain ⟨x, e3, b3⟩ := one s p [0, 1, 2, 4, 16, 17, (-1)] hs (by omega) (by omega) (by simp) (by simp)
  exact drN (by omega) (drB e3 (drR ⟨rfl, by simp⟩))
 | succ d ih =>
  intro cs p hp0 hp1 hl
  have hw : wrap64 (((d + 1 : Nat) : Int) - 1) = (d : Int) := by
   have : ((d + 1 : Nat) : Int) - 1 = (d : Int) := by omega
   rw [this, w64 (by omega)]
  have hj : ∀ (b : Bool) (q : Int), (b = true → 0 < cs.length) → p ≤ q → q ≤ p + 1 → Dr (fun k => spec_DrawCacheRun.j2 k rs cs ((d + 1 : Nat) : Int) b s q) fun r => r.1 = rs ∧ r.2.2.length ≤ cs.length + (d + 1) := by
   intro b q hb q0 q1
   refine dr1 ?_
   simp only [spec_DrawCacheRun.j2, hw]
   cases b with
   | true =>
    have hc := hb rfl
    obtain ⟨i, e5, i0, i1⟩ := pick s q cs.length hs (by omega) (by omega) (by omega) (by omega)
    refine drP rfl (drB e5 (drP i0 (drP i1 (drP (by omega) ?_))))
    refine (ih _ _ (by simp only []; omega) (by simp only []; omega) (by simp; omega)).imp fun r hr => ⟨hr.1, ?_⟩
    have := hr.2
    simp only [List.length_append, List.length_cons, List.length_nil] at this
    omega
   | false =>
    obtain ⟨⟨a, b, c, p3⟩, e3, _, _, _, k3, k4⟩ := drawAnyCall s q hs (by omega) (by omega)
    simp only [] at k3 k4
    refine drN (by simp) (drB e3 (drP (by omega) ?_))
    refine (ih _ _ (by simp only []; omega) (by simp only []; omega) (by simp; omega)).imp fun r hr => ⟨hr.1, ?_⟩
    have := hr.2
    simp only [List.length_append, List.length_cons, List.length_nil] at this
    omega
  refine dr1 ?_
  simp only [spec_DrawCacheRun.l0]
  refine drP (by omega) (drI (fun c => ?_) (fun c => hj false p (fun h => by cases h) (by omega) (by omega)))
  obtain ⟨v, e, v0, v1⟩ := pick s p 2 hs hp0 (by omega) (by decide) (by decide)
  exact drB e (hj _ _ (fun _ => by omega) (by simp only []; omega) (by simp only []; omega))
theorem drawCacheRun (l : List Int) (hw : ∀ x ∈ l, (Lit.int .u8 x).wf = true) : Dr (fun k => spec_DrawCacheRun.f k l) fun r => r.1.length ≤ 9 ∧ r.2.2.length ≤ 61 := by
 simp only [spec_DrawCacheRun.f, Option.bind_some]
 obtain ⟨s, h0, hs⟩ := l1Open l hw
 refine drS h0 ?_
 obtain ⟨⟨rs, p⟩, e, h1, h2, p0, p1⟩ := drawAnyRules s 0 hs (by omega) (by omega)
 simp only [] at h1 h2 p0 p1
 obtain ⟨u, e2, u0, u1⟩ := pick s p 12 hs (by omega) (by omega) (by decide) (by decide)
 obtain ⟨v, e3, v0, v1⟩ := pick s (p + 1) 20 hs (by omega) (by omega) (by decide) (by decide)
 obtain ⟨x, e4, x0, x1⟩ := pick s (p + 1 + 1) 2 hs (by omega) (by omega) (by decide) (by decide)
 have hx : wrap64 (60 + x) = (((60 + x).toNat : Nat) : Int) := by rw [w64 (by omega)]; omega
 have hu : u = ((u.toNat : Nat) : Int) := by omega
 refine drB e (drB e2 (drB e3 ?_))
 simp only []
 refine drI (fun _ => drB e4 ?_) (fun _ => ?_)
 ·refine dr1 ?_
  simp only [spec_DrawCacheRun.j0, hx]
  refine (run_l0 s hs rs (60 + x).toNat [] _ (by omega) (by omega) (by simp; omega)).imp fun r hr => ⟨by rw [hr.1]; exact h1, ?_⟩
  have := hr.2
  simp only [List.length_nil] at this
  omega
 ·refine dr1 ?_
  simp only [spec_DrawCacheRun.j0]
  rw [hu]
  refine (run_l0 s hs rs u.toNat [] _ (by omega) (by omega) (by simp; omega)).imp fun r hr => ⟨by rw [hr.1]; exact h1, ?_⟩
  have := hr.2
  simp only [List.length_nil] at this
  omega
end Go.Proofs.Ytioghacieopbdaa.Z
end
section
namespace Go.Proofs.Ytioghacieopbdaa.Pure
open Go Go.RowKit Go.Proofs.Ytioghacieopbdaa.PAll Go.Proofs.YtioghacieopbdaaW.PrintWords Go.Proofs.YtioghacieopbdaaW.PrintLast Go.Proofs.YtioghacieopbdaaW.PrintMore Go.Proofs.Ytioghacieopbdaa.Z
set_option linter.unusedVariables false
set_option linter.unusedSimpArgs false
theorem cache_run_l0 (rs : List Ru) (h : rokB rs = true) (cs : List Ca) (hcs : cs.length ≤ 60) (d : Nat) : ∀ n : Nat, n + d = cs.length → (∃ K_, ∀ k, K_ ≤ k → laws_FnCacheRun.l0 k rs cs (cs.map (fun x => rulesFirstF rs x.f0 x.f1 x.f2)) (n : Int) = some true) := by
 induction d with
 | zero =>
  intro n hn
  have hr : ∀ size, inR size 0 16 = true → runF rs size cs = cs.map (fun x => rulesFirstF rs x.f0 x.f1 x.f2) := fun size hs => by
   unfold runF
   rw [if_pos ⟨h, hs, hcs⟩]
  have e1 := impl_run rs 0 cs
  have e2 := impl_run rs 16 cs
  rw [hr 0 rfl] at e1
  rw [hr 16 rfl] at e2
  have e3 := ovInts_self (cs.map (fun x => rulesFirstF rs x.f0 x.f1 x.f2)) (by simp; omega)
  refine ev1 ?_
  simp only [laws_FnCacheRun.l0]
  exact evN (by omega) (evP (by simp) (evB e1 (evB e3 (evP rfl (evB e2 (evB e3 (evR rfl)))))))
 | succ d ih =>
  intro n hn
  have hlt : n < cs.length := by omega
  have hw : wrap64 ((n : Int) + 1) = ((n + 1 : Nat) : Int) := by rw [w64 (by omega)]; omega
  have hm : rd (cs.map (fun x => rulesFirstF rs x.f0 x.f1 x.f2)) (n : Int) = rulesFirstF rs cs[n].f0 cs[n].f1 cs[n].f2 := by
   rw [rd_int _ n (by simp; exact hlt), List.getElem_map]
  refine ev1 ?_
  simp only [laws_FnCacheRun.l0, rd_call cs n hlt, hw, hm]
  exact evP (by omega) (evP (by omega) (evP (by simp; omega) (evB (impl_rulesFirst rs _ _ _) (evP rfl (ih (n + 1) (by omega))))))
theorem FnCacheRun : laws_FnCacheRun.Pure := by
 intro l hl hl2 hw
 suffices h : (∃ K_, ∀ k, K_ ≤ k → laws_FnCacheRun.f k l = some true) by obtain ⟨K, h⟩ := h; exact ⟨K, h K (Nat.le_refl _)⟩
 simp only [laws_FnCacheRun.f]
 refine evI (fun _ => evR rfl) (fun _ => ?_)
 obtain ⟨⟨rs, size, cs⟩, e, h1, h2⟩ := drawCacheRun l hw
 simp only [] at h1 h2
 have h3 : (runF rs size cs).length ≤ cs.length := by
  unfold runF
  split <;> simp
 have e3 := spec_run rs (by omega) size cs
 have e4 := impl_run rs size cs
 have e5 := ovInts_self (runF rs size cs) (by omega)
 have ht : (∃ K_, ∀ k, K_ ≤ k → laws_FnCacheRun.j0 k rs size cs (runF rs size cs) true = some true) := by
  refine ev1 ?_
  simp only [laws_FnCacheRun.j0]
  exact evP trivial (evB e3 (evB e5 (evR rfl)))
 refine evB e ?_
 simp only []
 refine evB e4 (evB e3 (evB e5 (evP rfl (evB (spec_rulesOk rs (by omega)) ?_))))
 cases h : rokB rs with
 | false => exact evN (by simp) ht
 | true =>
  refine evP rfl (evI (fun _ => ht) (fun c1 => evI (fun _ => ht) (fun c2 => ?_)))
  by_cases c3 : size > 16
  ·rw [decide_eq_true c3]
   exact ht
  ·rw [decide_eq_false c3]
   refine ev1 ?_
   simp only [laws_FnCacheRun.j0]
   have hr : runF rs size cs = cs.map (fun x => rulesFirstF rs x.f0 x.f1 x.f2) := by
    unfold runF
    rw [if_pos ⟨h, by simp only [inR, decide_eq_true_eq]; omega, by omega⟩]
   rw [hr]
   exact evN (by simp) (cache_run_l0 rs h cs (by omega) cs.length 0 (by omega))
end Go.Proofs.Ytioghacieopbdaa.Pure
end
