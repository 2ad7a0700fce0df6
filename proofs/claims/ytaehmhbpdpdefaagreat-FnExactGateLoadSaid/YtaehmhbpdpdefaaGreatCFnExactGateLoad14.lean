/- Contracts of the functions that the statement reaches. -/
import Derived.Lib.SlicesCompact
import Derived.Test.YtaehmhbpdpdefaaGreatCFnExactGateLoad3
import Derived.Test.YtaehmhbpdpdefaaGreatCFnExactGateLoad4
import Derived.Test.YtaehmhbpdpdefaaGreatCFnExactGateLoad5
import Derived.Test.YtaehmhbpdpdefaaGreatCFnExactGateLoad6
import Derived.Test.YtaehmhbpdpdefaaGreatCFnExactGateLoad7
import Derived.Test.YtaehmhbpdpdefaaGreatCFnExactGateLoad8
import Derived.Test.YtaehmhbpdpdefaaGreatCFnExactGateLoad9
import Derived.Test.YtaehmhbpdpdefaaGreatCFnExactGateLoad11
import Derived.Test.YtaehmhbpdpdefaaGreatCFnExactGateLoad12
import Derived.Test.YtaehmhbpdpdefaaGreatCFnExactGateLoad13
section
namespace Go.Proofs.YtaehmhbpdpdefaaGreat.Z
open Go Go.RowKit Go.Proofs.YtaehmhbpdpdefaaGreat.PAll Go.Proofs.YtaehmhbpdpdefaaGreatW.PrintWords Go.Proofs.YtaehmhbpdpdefaaGreatW.PrintLast Go.Proofs.YtaehmhbpdpdefaaGreatW.PrintMore
set_option linter.unusedVariables false
set_option linter.unusedSimpArgs false
theorem spec_in (a l h : Int) : spec_l1In.f a l h = some (decide (l ≤ a ∧ a ≤ h)) := by
 unfold spec_l1In.f; by_cases c : a ≥ l
 ·rw [if_pos c]; simp [c]
 ·rw [if_neg c]
  have : ¬ l ≤ a := by omega
  simp [this]
theorem impl_in (a l h : Int) : impl_in.f a l h = some (decide (l ≤ a ∧ a ≤ h)) := by
 unfold impl_in.f; by_cases c : a ≥ l
 ·rw [if_pos c]; simp [c]
 ·rw [if_neg c]
  have : ¬ l ≤ a := by omega
  simp [this]
theorem spec_addr (a : Int) : spec_l1Addr.f a = some (decide (0 ≤ a ∧ a ≤ 4294967295)) := by simp only [spec_l1Addr.f, spec_in, Option.bind_some]
theorem impl_addr (a : Int) : impl_isAddr.f a = some (decide (0 ≤ a ∧ a ≤ 4294967295)) := by simp only [impl_isAddr.f, impl_in, Option.bind_some]
theorem two_loop (n : Nat) : ∀ (k : Nat) (c : Int), n ≤ 62 → n < k → 1 ≤ c → c * 2 ^ n ≤ 4611686018427387904 → spec_l1Two.l0 k (n : Int) c = some (c * 2 ^ n) := by
 induction n with
 | zero =>
  intro k c _ hk _ _; obtain ⟨k, rfl⟩ : ∃ m, k = m + 1 := ⟨k - 1, by omega⟩; simp only [spec_l1Two.l0]; rw [if_neg (by omega)]; simp
 | succ n ih =>
  intro k c hn hk hc hb; obtain ⟨k, rfl⟩ : ∃ m, k = m + 1 := ⟨k - 1, by omega⟩; have e : c * 2 ^ (n + 1) = c * 2 * 2 ^ n := by rw [Int.pow_succ, Int.mul_comm ((2 : Int) ^ n) 2, Int.mul_assoc]
  have hp : (1 : Int) ≤ 2 ^ n := by
   have : (0 : Int) < 2 ^ n := Int.pow_pos (by decide); omega
  have hc2 : c * 2 ≤ c * 2 * 2 ^ n := by
   have := Int.mul_le_mul_of_nonneg_left hp (by omega : (0 : Int) ≤ c * 2); omega
  simp only [spec_l1Two.l0]; rw [e] at hb ⊢; rw [if_pos (by omega), w64 (by omega), w64 (by omega)]; have : ((n + 1 : Nat) : Int) - 1 = (n : Int) := by omega
  rw [this]; exact ih k (c * 2) (by omega) (by omega) (by omega) hb
theorem spec_two {n : Int} (h0 : 0 ≤ n) (h1 : n ≤ 62) : (∃ K_, ∀ k, K_ ≤ k → spec_l1Two.f k n = some (2 ^ n.toNat)) := by
 refine ⟨n.toNat + 1, fun k hk => ?_⟩; have e : (n.toNat : Int) = n := by omega
 have hp : (2 : Int) ^ n.toNat ≤ 2 ^ 62 := by
  exact_mod_cast Nat.pow_le_pow_right (n := 2) (by decide) (by omega : n.toNat ≤ 62)
 have := two_loop n.toNat k 1 (by omega) (by omega) (by omega) (by omega); rw [e, Int.one_mul] at this; exact this
theorem spec_size {m : Int} (h0 : 0 ≤ m) (h1 : m ≤ 32) : (∃ K_, ∀ k, K_ ≤ k → spec_l1Size.f k m = some (sz m)) := by
 obtain ⟨K, h⟩ := spec_two (n := 32 - m) (by omega) (by omega); refine ⟨K, fun k hk => ?_⟩; simp only [spec_l1Size.f]; rw [w64 (by omega), h k hk]; rfl
theorem impl_size {b m : Int} (h0 : 0 ≤ m) (h1 : m ≤ 32) : impl_Block_size.f b m = some (sz m) := by
 unfold impl_Block_size.f; rw [w64 (by omega), if_pos (by omega), shl_sz h0 h1]
theorem tmod_beq {b s : Int} (hb : 0 ≤ b) : (Int.tmod b s == 0) = decide (b % s = 0) := by
 rw [Int.tmod_eq_emod_of_nonneg hb]; rfl
theorem impl_ok (b m : Int) : impl_BlockOk.f b m = some (bokB b m) := by
 unfold impl_BlockOk.f; rw [impl_addr, Option.bind_some]; by_cases c : 0 ≤ b ∧ b ≤ 4294967295
 ·rw [if_pos (by simpa using c), impl_in, Option.bind_some]
  by_cases d : 0 ≤ m ∧ m ≤ 32
  ·rw [if_pos (by simpa using d), impl_size d.1 d.2, Option.bind_some, if_neg (by have := sz_pos m; omega), tmod_beq c.1]
   simp [bokB, bok, c, d]
  ·rw [if_neg (by simpa using d)]
   exact congrArg some (bokB_false.2 (fun h => d ⟨h.2.2.1, h.2.2.2.1⟩)).symm
 ·rw [if_neg (by simpa using c)]
  exact congrArg some (bokB_false.2 (fun h => c ⟨h.1, h.2.1⟩)).symm
theorem spec_ok (b m : Int) : (∃ K_, ∀ k, K_ ≤ k → spec_BlockOk.f k b m = some (bokB b m)) := by
 by_cases c : 0 ≤ b ∧ b ≤ 4294967295
 ·by_cases d : 0 ≤ m ∧ m ≤ 32
  ·obtain ⟨K, h⟩ := spec_size d.1 d.2
   refine ⟨K, fun k hk => ?_⟩; simp only [spec_BlockOk.f]; rw [spec_addr, Option.bind_some, if_pos (by simpa using c), spec_in, Option.bind_some, if_pos (by simpa using d), h k hk, Option.bind_some, if_neg (by have := sz_pos m; omega), tmod_beq c.1]; simp [bokB, bok, c, d]
  ·refine ⟨0, fun k _ => ?_⟩
   simp only [spec_BlockOk.f]; rw [spec_addr, Option.bind_some, if_pos (by simpa using c), spec_in, Option.bind_some, if_neg (by simpa using d)]; exact congrArg some (bokB_false.2 (fun h => d ⟨h.2.2.1, h.2.2.2.1⟩)).symm
 ·refine ⟨0, fun k _ => ?_⟩
  simp only [spec_BlockOk.f]; rw [spec_addr, Option.bind_some, if_neg (by simpa using c)]; exact congrArg some (bokB_false.2 (fun h => c ⟨h.1, h.2.1⟩)).symm
theorem sz_bd {m : Int} (h0 : 0 ≤ m) : 1 ≤ sz m ∧ sz m ≤ 4294967296 := ⟨sz_pos m, sz_top h0⟩
theorem impl_last {b m : Int} (hb0 : 0 ≤ b) (hb1 : b ≤ 4611686018427387904) (h0 : 0 ≤ m) (h1 : m ≤ 32) : impl_Block_last.f b m = some (b + sz m - 1) := by
 have := sz_bd h0; unfold impl_Block_last.f; rw [impl_size h0 h1, Option.bind_some, w64 (n := b + sz m) (by omega), w64 (by omega)]
theorem spec_last {b m : Int} (hb0 : -1 ≤ b) (hb1 : b ≤ 4611686018427387904) (h0 : 0 ≤ m) (h1 : m ≤ 32) : (∃ K_, ∀ k, K_ ≤ k → spec_l1Last.f k b m = some (b + sz m - 1)) := by
 have := sz_bd h0; obtain ⟨K, h⟩ := spec_size h0 h1; refine ⟨K, fun k hk => ?_⟩; simp only [spec_l1Last.f]; rw [h k hk, Option.bind_some, w64 (n := b + sz m) (by omega), w64 (by omega)]
/-- Is an address in a block? -/
def hasB (b m a : Int) : Bool := decide (b ≤ a ∧ a ≤ b + sz m - 1)
theorem impl_has {b m : Int} (a : Int) (hb0 : 0 ≤ b) (hb1 : b ≤ 4611686018427387904) (h0 : 0 ≤ m) (h1 : m ≤ 32) : impl_Block_has.f b m a = some (hasB b m a) := by
 unfold impl_Block_has.f; rw [impl_last hb0 hb1 h0 h1, Option.bind_some, impl_in, Option.bind_some]; rfl
abbrev Ru := S59
theorem drop_consR {α : Type} {l : List α} {n : Nat} (h : n < l.length) : l.drop n = l[n] :: l.drop (n + 1) := List.drop_eq_getElem_cons h
theorem rd_rule (l : List Ru) (n : Nat) (h : n < l.length) : rd_T59 l (n : Int) = l[n] := by
 unfold rd_T59; rw [List.getD_eq_getElem?_getD, Int.toNat_natCast, List.getElem?_eq_getElem h]; rfl
/-- Is a number in a range? -/
def inR (a l h : Int) : Bool := decide (l ≤ a ∧ a ≤ h)
theorem impl_inR (a l h : Int) : impl_in.f a l h = some (inR a l h) := impl_in a l h
theorem spec_inR (a l h : Int) : spec_l1In.f a l h = some (inR a l h) := spec_in a l h
def tunB (x : Ru) : Bool := if x.f0 = 2 then inR x.f1 0 3 else decide (x.f1 = 0)
/-- Is a rule valid? -/
def ruleB (x : Ru) : Bool := bokB x.f2.f0 x.f2.f1 && (bokB x.f3.f0 x.f3.f1 && (inR x.f4 0 x.f5 && (decide (x.f5 ≤ 65535) && (inR x.f0 0 2 && tunB x))))
theorem right_j0 (k : Nat) (b : Bool) (x : Ru) : impl_Rule_right.j0 (k + 1) b x.f0 x.f1 x.f2.f0 x.f2.f1 x.f3.f0 x.f3.f1 x.f4 x.f5 = some (bokB x.f2.f0 x.f2.f1 && (bokB x.f3.f0 x.f3.f1 && (inR x.f4 0 x.f5 && (decide (x.f5 ≤ 65535) && (inR x.f0 0 2 && b))))) := by
 simp only [impl_Rule_right.j0]; rw [impl_ok, Option.bind_some, impl_ok, Option.bind_some, impl_inR, Option.bind_some, impl_inR, Option.bind_some]; by_cases d : x.f5 ≤ 65535
 ·cases bokB x.f2.f0 x.f2.f1 <;> cases bokB x.f3.f0 x.f3.f1 <;> cases inR x.f4 0 x.f5 <;> cases inR x.f0 0 2 <;> simp [d]
 ·cases bokB x.f2.f0 x.f2.f1 <;> cases bokB x.f3.f0 x.f3.f1 <;> cases inR x.f4 0 x.f5 <;> cases inR x.f0 0 2 <;> simp [d]
theorem impl_right (k : Nat) (x : Ru) : impl_Rule_right.f (k + 1) x.f0 x.f1 x.f2.f0 x.f2.f1 x.f3.f0 x.f3.f1 x.f4 x.f5 = some (ruleB x) := by
 simp only [impl_Rule_right.f]; rw [right_j0, impl_inR, Option.bind_some, right_j0, right_j0]; unfold ruleB tunB; by_cases c : x.f1 = 0
 ·rw [if_pos c]
  by_cases d : x.f0 = 2
  ·rw [if_pos d]
   have : inR x.f1 0 3 = true := by rw [c]; rfl
   rw [this]
  ·rw [if_neg d]
   simp [c]
 ·rw [if_neg c]
  by_cases d : x.f0 = 2
  ·rw [if_pos d, if_pos d]
  ·rw [if_neg d, if_neg d]
   simp [c]
theorem spec_right (x : Ru) : (∃ K_, ∀ k, K_ ≤ k → spec_l4Ok.f k x.f0 x.f1 x.f2.f0 x.f2.f1 x.f3.f0 x.f3.f1 x.f4 x.f5 = some (ruleB x)) := by
 obtain ⟨K1, e1⟩ := spec_ok x.f2.f0 x.f2.f1; obtain ⟨K2, e2⟩ := spec_ok x.f3.f0 x.f3.f1; refine ⟨K1 + K2 + 1, fun k hk => ?_⟩; obtain ⟨k, rfl⟩ : ∃ j, k = j + 1 := ⟨k - 1, by omega⟩; simp only [spec_l4Ok.f]; rw [e1 _ (by omega), Option.bind_some, e2 _ (by omega), Option.bind_some, spec_inR, Option.bind_some, spec_inR, Option.bind_some]; simp only [spec_l4Ok.j0]; rw [spec_inR, Option.bind_some]; unfold ruleB tunB; by_cases d : x.f5 ≤ 65535
 ·have d' : ¬ x.f5 > 65535 := by omega
  by_cases c : x.f0 = 2
  ·cases bokB x.f2.f0 x.f2.f1 <;> cases bokB x.f3.f0 x.f3.f1 <;> cases inR x.f4 0 x.f5 <;> cases inR x.f0 0 2 <;> simp [d, d', c]
  ·have e : (x.f1 == 0) = decide (x.f1 = 0) := rfl
   cases bokB x.f2.f0 x.f2.f1 <;> cases bokB x.f3.f0 x.f3.f1 <;> cases inR x.f4 0 x.f5 <;> cases inR x.f0 0 2 <;> simp [d, d', c, e]
 ·have d' : x.f5 > 65535 := by omega
  cases bokB x.f2.f0 x.f2.f1 <;> cases bokB x.f3.f0 x.f3.f1 <;> cases inR x.f4 0 x.f5 <;> simp [d, d']
/-- Are rules valid? -/
def rokB (l : List Ru) : Bool := l.all ruleB && decide (l.length ≤ 8)
theorem any_bad (k : Nat) (l : List Ru) : anyO (impl_RulesOk.bad (k + 1)) l = some (l.any fun x => !ruleB x) := by
 induction l with
 | nil => rfl
 | cons x l ih =>
  simp only [anyO, impl_RulesOk.bad]; rw [impl_right, Option.bind_some, Option.bind_some, ih]; cases h : ruleB x <;> simp [h]
theorem all_any (l : List Ru) : (!(l.any fun x => !ruleB x)) = l.all ruleB := by
 induction l with
 | nil => rfl
 | cons x l ih => simp only [List.any_cons, List.all_cons, ← ih]; cases ruleB x <;> simp
theorem impl_rulesOk (l : List Ru) : (∃ K_, ∀ k, K_ ≤ k → impl_RulesOk.f k l = some (rokB l)) := by
 refine ⟨1, fun k hk => ?_⟩; obtain ⟨k, rfl⟩ : ∃ j, k = j + 1 := ⟨k - 1, by omega⟩; simp only [impl_RulesOk.f]; unfold rokB; by_cases c : (l.length : Int) ≤ 8
 ·have c' : l.length ≤ 8 := by omega
  rw [if_pos c, any_bad, Option.bind_some, all_any]; simp [c']
 ·have c' : ¬ l.length ≤ 8 := by omega
  rw [if_neg c]; simp [c']
theorem spec_rulesOk_loop (l : List Ru) (hl : l.length ≤ 1073741824) (d : Nat) : ∀ n : Nat, n + d = l.length → (∃ K_, ∀ k, K_ ≤ k → spec_RulesOk.l0 k l (n : Int) = some ((l.drop n).all ruleB && decide (l.length ≤ 8))) := by
 induction d with
 | zero =>
  intro n hn; refine ⟨1, fun k hk => ?_⟩; obtain ⟨k, rfl⟩ : ∃ j, k = j + 1 := ⟨k - 1, by omega⟩; simp only [spec_RulesOk.l0]; rw [if_neg (by omega), List.drop_eq_nil_of_le (by omega)]; have : decide ((l.length : Int) ≤ 8) = decide (l.length ≤ 8) := by rw [decide_eq_decide]; omega
  rw [this]; rfl
 | succ d ih =>
  intro n hn; have hlt : n < l.length := by omega
  have hw : wrap64 ((n : Int) + 1) = ((n + 1 : Nat) : Int) := by rw [w64 (by omega)]; omega
  obtain ⟨K1, e1⟩ := ih (n + 1) (by omega); obtain ⟨K2, e2⟩ := spec_right l[n]; refine ⟨K1 + K2 + 1, fun k hk => ?_⟩; obtain ⟨k, rfl⟩ : ∃ j, k = j + 1 := ⟨k - 1, by omega⟩; have e1 := e1 k (by omega); simp only [spec_RulesOk.l0]; rw [drop_consR hlt, if_pos (by omega), if_pos (by omega), rd_rule l n hlt, e2 k (by omega), Option.bind_some, hw, e1, List.all_cons]; cases ruleB l[n] <;> simp
theorem spec_rulesOk (l : List Ru) (hl : l.length ≤ 1073741824) : (∃ K_, ∀ k, K_ ≤ k → spec_RulesOk.f k l = some (rokB l)) := spec_rulesOk_loop l hl l.length 0 (by omega)
theorem rokB_valid {l : List Ru} (h : rokB l = true) : ∀ x ∈ l, ruleB x = true := by
 simp only [rokB, Bool.and_eq_true, List.all_eq_true] at h; exact h.1
theorem rokB_len {l : List Ru} (h : rokB l = true) : l.length ≤ 8 := by
 simp only [rokB, Bool.and_eq_true, decide_eq_true_eq] at h; exact h.2
theorem ruleB_blocks {x : Ru} (h : ruleB x = true) : bok x.f2.f0 x.f2.f1 ∧ bok x.f3.f0 x.f3.f1 ∧ 0 ≤ x.f4 ∧ x.f4 ≤ x.f5 ∧ x.f5 ≤ 65535 := by
 simp only [ruleB, inR, Bool.and_eq_true, bokB_true, decide_eq_true_eq] at h; exact ⟨h.1, h.2.1, h.2.2.1.1, h.2.2.1.2, h.2.2.2.1⟩
/-- Is a rule about a call? -/
def aboutB (a b c : Int) (x : Ru) : Bool := hasB x.f2.f0 x.f2.f1 a && (hasB x.f3.f0 x.f3.f1 b && inR c x.f4 x.f5)
theorem impl_matches {x : Ru} (h : ruleB x = true) (a b c : Int) : impl_Rule_matches.f x.f0 x.f1 x.f2.f0 x.f2.f1 x.f3.f0 x.f3.f1 x.f4 x.f5 a b c = some (aboutB a b c x) := by
 obtain ⟨h1, h2, _⟩ := ruleB_blocks h; unfold impl_Rule_matches.f aboutB; rw [impl_has a h1.1 (by have := h1.2.1; omega) h1.2.2.1 h1.2.2.2.1, Option.bind_some, impl_has b h2.1 (by have := h2.2.1; omega) h2.2.2.1 h2.2.2.2.1, Option.bind_some, impl_inR, Option.bind_some]; cases hasB x.f2.f0 x.f2.f1 a <;> cases hasB x.f3.f0 x.f3.f1 b <;> simp
theorem spec_about {x : Ru} (h : ruleB x = true) (a b c : Int) : (∃ K_, ∀ k, K_ ≤ k → spec_l4About.f k x.f0 x.f1 x.f2.f0 x.f2.f1 x.f3.f0 x.f3.f1 x.f4 x.f5 a b c = some (aboutB a b c x)) := by
 obtain ⟨h1, h2, _⟩ := ruleB_blocks h; obtain ⟨K1, e1⟩ := spec_last (b := x.f2.f0) (m := x.f2.f1) (by have := h1.1; omega) (by have := h1.2.1; omega) h1.2.2.1 h1.2.2.2.1; obtain ⟨K2, e2⟩ := spec_last (b := x.f3.f0) (m := x.f3.f1) (by have := h2.1; omega) (by have := h2.2.1; omega) h2.2.2.1 h2.2.2.2.1; refine ⟨K1 + K2, fun k hk => ?_⟩; simp only [spec_l4About.f]; rw [e1 k (by omega), Option.bind_some, e2 k (by omega), Option.bind_some, spec_inR, Option.bind_some, spec_inR, Option.bind_some, spec_inR, Option.bind_some]; have g1 : inR a x.f2.f0 (x.f2.f0 + sz x.f2.f1 - 1) = hasB x.f2.f0 x.f2.f1 a := rfl; have g2 : inR b x.f3.f0 (x.f3.f0 + sz x.f3.f1 - 1) = hasB x.f3.f0 x.f3.f1 b := rfl; rw [g1, g2]; unfold aboutB; cases hasB x.f2.f0 x.f2.f1 a <;> cases hasB x.f3.f0 x.f3.f1 b <;> simp
/-- The place of the first element of which q holds, from i on; -1. -/
def firstGo {α : Type} (q : α → Bool) : List α → Int → Int
 | [], _ => -1
 | x :: l, i => if q x = true then i else firstGo q l (i + 1)
def firstF (l : List Ru) (a b c : Int) : Int := firstGo (aboutB a b c) l 0
theorem findO_first {α : Type} {p : α → Option Bool} {q : α → Bool} : ∀ (l : List α) (i : Int), (∀ x ∈ l, p x = some (q x)) → findO p l i = some (firstGo q l i)
 | [], _, _ => rfl
 | x :: l, i, h => by
  simp only [findO, firstGo]; rw [h x (List.mem_cons_self ..), Option.bind_some, findO_first l (i + 1) (fun y hy => h y (List.mem_cons_of_mem _ hy))]; cases q x <;> simp
theorem impl_first {l : List Ru} (h : ∀ x ∈ l, ruleB x = true) (a b c : Int) : impl_first.f l a b c = some (firstF l a b c) :=
 findO_first l 0 (fun x hx => impl_matches (h x hx) a b c)
theorem spec_first_loop (l : List Ru) (h : ∀ x ∈ l, ruleB x = true) (a b c : Int) (hl : l.length ≤ 1073741824) (d : Nat) : ∀ n : Nat, n + d = l.length → (∃ K_, ∀ k, K_ ≤ k → spec_l4First.l0 k l (n : Int) a b c = some (firstGo (aboutB a b c) (l.drop n) (n : Int))) := by
 induction d with
 | zero =>
  intro n hn; refine ⟨1, fun k hk => ?_⟩; obtain ⟨k, rfl⟩ : ∃ j, k = j + 1 := ⟨k - 1, by omega⟩; simp only [spec_l4First.l0]; rw [if_neg (by omega), List.drop_eq_nil_of_le (by omega)]; rfl
 | succ d ih =>
  intro n hn; have hlt : n < l.length := by omega
  have hw : wrap64 ((n : Int) + 1) = ((n + 1 : Nat) : Int) := by rw [w64 (by omega)]; omega
  obtain ⟨K1, e1⟩ := ih (n + 1) (by omega); obtain ⟨K2, e2⟩ := spec_about (h l[n] (List.getElem_mem hlt)) a b c; refine ⟨K1 + K2 + 1, fun k hk => ?_⟩; obtain ⟨k, rfl⟩ : ∃ j, k = j + 1 := ⟨k - 1, by omega⟩; have e1 := e1 k (by omega); simp only [spec_l4First.l0]; rw [drop_consR hlt, if_pos (by omega), if_pos (by omega), rd_rule l n hlt, e2 k (by omega), Option.bind_some, hw, e1]; simp only [firstGo]; have : ((n + 1 : Nat) : Int) = (n : Int) + 1 := by omega
  rw [this]; cases aboutB a b c l[n] <;> simp
theorem spec_first {l : List Ru} (h : ∀ x ∈ l, ruleB x = true) (a b c : Int) (hl : l.length ≤ 1073741824) : (∃ K_, ∀ k, K_ ≤ k → spec_l4First.f k l a b c = some (firstF l a b c)) := spec_first_loop l h a b c hl l.length 0 (by omega)
/-- Is it a call? -/
def callB (a b c : Int) : Bool := inR a 0 4294967295 && (inR b 0 4294967295 && inR c 0 65535)
theorem impl_call (a b c : Int) : impl_isCall.f a b c = some (callB a b c) := by
 unfold impl_isCall.f callB; rw [impl_addr, Option.bind_some, impl_addr, Option.bind_some, impl_inR, Option.bind_some]; have g : ∀ x : Int, decide (0 ≤ x ∧ x ≤ 4294967295) = inR x 0 4294967295 := fun _ => rfl
 rw [g, g]; cases inR a 0 4294967295 <;> cases inR b 0 4294967295 <;> simp
theorem spec_call (a b c : Int) : spec_l4Call.f a b c = some (callB a b c) := by
 unfold spec_l4Call.f callB; rw [spec_addr, Option.bind_some, spec_addr, Option.bind_some, spec_inR, Option.bind_some]; have g : ∀ x : Int, decide (0 ≤ x ∧ x ≤ 4294967295) = inR x 0 4294967295 := fun _ => rfl
 rw [g, g]; cases inR a 0 4294967295 <;> cases inR b 0 4294967295 <;> simp
abbrev Se := S96
theorem rd_seen (l : List Se) (n : Nat) (h : n < l.length) : rd_T96 l (n : Int) = l[n] := by
 unfold rd_T96; rw [List.getD_eq_getElem?_getD, Int.toNat_natCast, List.getElem?_eq_getElem h]; rfl
/-- Is it a call that was seen? -/
def isC (a b c : Int) (x : Se) : Bool := x.f0.f0 == a && (x.f0.f1 == b && (x.f0.f2 == c))
def okS (rs : List Ru) (x : Se) : Bool := callB x.f0.f0 x.f0.f1 x.f0.f2 && decide (x.f1 = firstF rs x.f0.f0 x.f0.f1 x.f0.f2)
/-- Is each seen as it is, and none twice? -/
def seensB (rs : List Ru) : List Se → List Se → Bool
 | _, [] => true
 | pre, x :: l => okS rs x && (!(pre.any (isC x.f0.f0 x.f0.f1 x.f0.f2)) && seensB rs (pre ++ [x]) l)
/-- Is a cache valid? -/
def cacheB (rs : List Ru) (size : Int) (l : List Se) : Bool := rokB rs && (inR size 0 16 && (decide ((l.length : Int) ≤ size) && seensB rs [] l))
theorem take_snoc {α : Type} {l : List α} {n : Nat} (h : n < l.length) : l.take n ++ [l[n]] = l.take (n + 1) := by rw [List.take_succ_eq_append_getElem h]
theorem impl_cacheOk_loop (rs : List Ru) (hr : ∀ x ∈ rs, ruleB x = true) (size : Int) (l : List Se) (hl : l.length ≤ 1073741824) (d : Nat) : ∀ n : Nat, n + d = l.length → (∃ K_, ∀ k, K_ ≤ k → impl_CacheOk.l0 k rs l (l.length : Int) (n : Int) size l = some (seensB rs (l.take n) (l.drop n))) := by
 induction d with
 | zero =>
  intro n hn; refine ev1 ?_; simp only [impl_CacheOk.l0]; rw [List.drop_eq_nil_of_le (by omega)]; exact evN (by omega) (evR rfl)
 | succ d ih =>
  intro n hn; have hlt : n < l.length := by omega
  have hw : wrap64 ((n : Int) + 1) = ((n + 1 : Nat) : Int) := by rw [w64 (by omega)]; omega
  have ih := ih (n + 1) (by omega); refine ev1 ?_; simp only [impl_CacheOk.l0, rd_seen l n hlt, hw, Int.toNat_natCast]; rw [drop_consR hlt]; simp only [seensB, take_snoc hlt]; refine evP (by omega) (evP (by omega) (evP (by omega) (evS (impl_call _ _ _) ?_))); cases hc : callB l[n].f0.f0 l[n].f0.f1 l[n].f0.f2 with
  | false => exact evN (by simp) (evR (by simp [okS, hc]))
  | true =>
   refine evP rfl (evS (impl_first hr _ _ _) ?_); by_cases he : l[n].f1 = firstF rs l[n].f0.f0 l[n].f0.f1 l[n].f0.f2
   ·refine evP he (evP (by omega) (evS rfl ?_))
    have ho : okS rs l[n] = true := by simp [okS, hc, ← he]
    rw [ho, Bool.true_and]; cases ha : (l.take n).any (isC l[n].f0.f0 l[n].f0.f1 l[n].f0.f2) with
    | true => exact evP ha (evR rfl)
    | false => exact evN (by rw [show (l.take n).any (slices_ContainsFunc_Seen.is l[n].f0.f0 l[n].f0.f1 l[n].f0.f2) = false from ha]; simp) ih
   ·exact evN he (evR (by simp [okS, hc, he]))
theorem impl_cacheOk (rs : List Ru) (size : Int) (l : List Se) (hl : l.length ≤ 1073741824) : (∃ K_, ∀ k, K_ ≤ k → impl_CacheOk.f k rs size l = some (cacheB rs size l)) := by
 simp only [impl_CacheOk.f]; refine evB (impl_rulesOk rs) ?_
 have hf : (∃ K_, ∀ k, K_ ≤ k → impl_CacheOk.j0 k rs true size l = some false) := by
  refine ev1 ?_; simp only [impl_CacheOk.j0]; exact evP trivial (evR rfl)
 unfold cacheB; cases h1 : rokB rs with
 | false => exact evN (by simp) hf
 | true =>
  refine evP rfl (evS (impl_inR _ _ _) ?_); cases h2 : inR size 0 16 with
  | false => exact evN (by simp) hf
  | true =>
   refine evP rfl ?_; by_cases c : (l.length : Int) > size
   ·rw [decide_eq_true c, decide_eq_false (show ¬ (l.length : Int) ≤ size by omega)]
    exact hf
   ·rw [decide_eq_false c, decide_eq_true (show (l.length : Int) ≤ size by omega)]
    refine ev1 ?_; simp only [impl_CacheOk.j0]; exact evN (by simp) (impl_cacheOk_loop rs (rokB_valid h1) size l hl l.length 0 (by omega))
theorem spec_seen_loop (rs : List Ru) (size : Int) (l : List Se) (hl : l.length ≤ 1073741824) (n : Nat) (hn : n < l.length) (R : Bool) (h : (∃ K_, ∀ k, K_ ≤ k → spec_CacheOk.l0 k rs (((n + 1 : Nat)) : Int) size l = some R)) (d : Nat) : ∀ m : Nat, m + d = n → (∃ K_, ∀ k, K_ ≤ k → spec_CacheOk.l1 k rs (n : Int) (m : Int) size l = some (!(((l.take n).drop m).any (isC l[n].f0.f0 l[n].f0.f1 l[n].f0.f2)) && R)) := by
 induction d with
 | zero =>
  intro m hm; refine ev1 ?_; simp only [spec_CacheOk.l1]; have hw : wrap64 ((n : Int) + 1) = ((n + 1 : Nat) : Int) := by rw [w64 (by omega)]; omega
  rw [List.drop_eq_nil_of_le (by simp; omega), hw]; refine evN (by omega) ?_; simp only [List.any_nil, Bool.not_false, Bool.true_and]; exact h
 | succ d ih =>
  intro m hm; have ih := ih (m + 1) (by omega); have hlm : m < (l.take n).length := by simp; omega
  have hw : wrap64 ((m : Int) + 1) = ((m + 1 : Nat) : Int) := by rw [w64 (by omega)]; omega
  have hx : (l.take n)[m] = l[m] := by simp
  refine ev1 ?_; simp only [spec_CacheOk.l1, rd_seen l n hn, rd_seen l m (by omega), hw]; rw [drop_consR hlm, hx, List.any_cons]; refine evP (by omega) (evP (by omega) (evP (by omega) (evP (by omega) (evP (by omega) ?_)))); cases ha : isC l[n].f0.f0 l[n].f0.f1 l[n].f0.f2 l[m] with
  | true => exact evP ha (evR rfl)
  | false =>
   refine evN (by rw [show (l[m].f0.f0 == l[n].f0.f0 && (l[m].f0.f1 == l[n].f0.f1 && (l[m].f0.f2 == l[n].f0.f2))) = false from ha]; simp) ?_; rw [Bool.false_or]; exact ih
theorem spec_cacheOk_loop (rs : List Ru) (hr : ∀ x ∈ rs, ruleB x = true) (hrl : rs.length ≤ 1073741824) (size : Int) (l : List Se) (hl : l.length ≤ 1073741824) (d : Nat) : ∀ n : Nat, n + d = l.length → (∃ K_, ∀ k, K_ ≤ k → spec_CacheOk.l0 k rs (n : Int) size l = some (seensB rs (l.take n) (l.drop n))) := by
 induction d with
 | zero =>
  intro n hn; refine ev1 ?_; simp only [spec_CacheOk.l0]; rw [List.drop_eq_nil_of_le (by omega)]; exact evN (by omega) (evR rfl)
 | succ d ih =>
  intro n hn; have hlt : n < l.length := by omega
  have ih := ih (n + 1) (by omega); refine ev1 ?_; simp only [spec_CacheOk.l0, rd_seen l n hlt]; rw [drop_consR hlt]; simp only [seensB, take_snoc hlt]; refine evP (by omega) (evP (by omega) (evS (spec_call _ _ _) ?_))
  have hf : (∃ K_, ∀ k, K_ ≤ k → spec_CacheOk.j2 k rs (n : Int) true size l = some false) := by
   refine ev1 ?_; simp only [spec_CacheOk.j2]; exact evP trivial (evR rfl)
  cases hc : callB l[n].f0.f0 l[n].f0.f1 l[n].f0.f2 with
  | false =>
   rw [show okS rs l[n] = false by simp [okS, hc]]; exact evN (by simp) hf
  | true =>
   refine evP rfl (evB (spec_first hr _ _ _ hrl) ?_); by_cases he : l[n].f1 = firstF rs l[n].f0.f0 l[n].f0.f1 l[n].f0.f2
   ·rw [show okS rs l[n] = true by simp [okS, hc, ← he], show (l[n].f1 != firstF rs l[n].f0.f0 l[n].f0.f1 l[n].f0.f2) = false by simp [he]]
    refine ev1 ?_; simp only [spec_CacheOk.j2]; have := spec_seen_loop rs size l hl n hlt _ ih n 0 (by omega); rw [List.drop_zero] at this; exact evN (by simp) this
   ·rw [show okS rs l[n] = false by simp [okS, he], show (l[n].f1 != firstF rs l[n].f0.f0 l[n].f0.f1 l[n].f0.f2) = true by simp [he]]
    exact hf
theorem spec_cacheOk (rs : List Ru) (hrl : rs.length ≤ 1073741824) (size : Int) (l : List Se) (hl : l.length ≤ 1073741824) : (∃ K_, ∀ k, K_ ≤ k → spec_CacheOk.f k rs size l = some (cacheB rs size l)) := by
 simp only [spec_CacheOk.f]; refine evB (spec_rulesOk rs hrl) ?_
 have hf : (∃ K_, ∀ k, K_ ≤ k → spec_CacheOk.j0 k rs true size l = some false) := by
  refine ev1 ?_; simp only [spec_CacheOk.j0]; exact evP trivial (evR rfl)
 unfold cacheB; cases h1 : rokB rs with
 | false => exact evN (by simp) hf
 | true =>
  refine evP rfl (evS (spec_inR _ _ _) ?_); cases h2 : inR size 0 16 with
  | false => exact evN (by simp) hf
  | true =>
   refine evP rfl ?_; by_cases c : (l.length : Int) > size
   ·rw [decide_eq_true c, decide_eq_false (show ¬ (l.length : Int) ≤ size by omega)]
    exact hf
   ·rw [decide_eq_false c, decide_eq_true (show (l.length : Int) ≤ size by omega)]
    refine ev1 ?_; simp only [spec_CacheOk.j0]; exact evN (by simp) (spec_cacheOk_loop rs (rokB_valid h1) hrl size l hl l.length 0 (by omega))
theorem rd_int (l : List Int) (n : Nat) (h : n < l.length) : rd l (n : Int) = l[n] := by
 unfold rd; rw [List.getD_eq_getElem?_getD, Int.toNat_natCast, List.getElem?_eq_getElem h]; rfl
theorem eqInts_loop (l : List Int) (hl : l.length ≤ 1099511627776) (d : Nat) : ∀ n : Nat, n + d = l.length → (∃ K_, ∀ k, K_ ≤ k → laws_eqIntS.l0 k l l (n : Int) = some true) := by
 induction d with
 | zero =>
  intro n hn; refine ev1 ?_; simp only [laws_eqIntS.l0]; exact evN (by omega) (evR rfl)
 | succ d ih =>
  intro n hn; have hw : wrap64 ((n : Int) + 1) = ((n + 1 : Nat) : Int) := by rw [w64 (by omega)]; omega
  refine ev1 ?_; simp only [laws_eqIntS.l0, hw]; exact evP (by omega) (evP (by omega) (evP (by omega) (evP trivial (ih (n + 1) (by omega)))))
theorem eqInts (l : List Int) (hl : l.length ≤ 1099511627776) : (∃ K_, ∀ k, K_ ≤ k → laws_eqIntS.f k l l = some true) := by
 simp only [laws_eqIntS.f]; exact evP trivial (eqInts_loop l hl l.length 0 (by omega))
theorem markInt_loop (a : Int) (ha0 : 0 ≤ a) (ha1 : a ≤ 1000000000000000) (d : Nat) : ∀ (n : Nat) (l : List Int), n + d = l.length → l.length ≤ 1073741824 → (∀ j (h : j < l.length), j < n → l[j] = a + j) → Dr (fun k => laws_markIntS.l0 k l (a + (n : Int)) (n : Int)) fun r => r.1 = a + (l.length : Int) ∧ r.2.length = l.length ∧ ∀ j (h : j < r.2.length), r.2[j] = a + j := by
 induction d with
 | zero =>
  intro n l hn hl hj; refine dr1 ?_; simp only [laws_markIntS.l0]; have e : n = l.length := by omega
  exact drN (by omega) (drR ⟨by rw [e], rfl, fun j h => hj j h (by simp only [] at h; omega)⟩)
 | succ d ih =>
  intro n l hn hl hj; have hlt : n < l.length := by omega
  have hw : wrap64 ((n : Int) + 1) = ((n + 1 : Nat) : Int) := by rw [w64 (by omega)]; omega
  have hw2 : wrap64 (a + (n : Int) + 1) = a + ((n + 1 : Nat) : Int) := by rw [w64 (by omega)]; omega
  refine dr1 ?_; simp only [laws_markIntS.l0, Int.toNat_natCast, hw, hw2]; refine drP (by omega) (drP (by omega) ?_); refine (ih (n + 1) (l.set n _) (by simp only [List.length_set]; omega) (by simp only [List.length_set]; omega) (fun j h hj2 => ?_)).imp fun r hr => ?_
  ·by_cases c : j = n
   ·subst c
    rw [List.getElem_set_self]
   ·rw [List.getElem_set_ne (fun h => c h.symm)]
    exact hj j (by simpa using h) (by omega)
  ·simp only [List.length_set] at hr
   exact hr
theorem markInt (l : List Int) (a : Int) (ha0 : 0 ≤ a) (ha1 : a ≤ 1000000000000000) (hl : l.length ≤ 1073741824) : Dr (fun k => laws_markIntS.f k l a) fun r => r.1 = a + (l.length : Int) ∧ r.2.length = l.length ∧ ∀ j (h : j < r.2.length), r.2[j] = a + j := by
 have := markInt_loop a ha0 ha1 l.length 0 l (by omega) hl (fun j h h2 => absurd h2 (by omega)); simp only [Int.ofNat_zero, Int.add_zero, Int.natCast_zero] at this; simp only [laws_markIntS.f]; exact this
theorem heldInt_loop (l : List Int) (a : Int) (ha0 : 0 ≤ a) (ha1 : a ≤ 1000000000000000) (hl : l.length ≤ 1073741824) (hj : ∀ j (h : j < l.length), l[j] = a + j) (d : Nat) : ∀ n : Nat, n + d = l.length → (∃ K_, ∀ k, K_ ≤ k → laws_heldIntS.l0 k l (a + (n : Int)) (n : Int) = some (a + (l.length : Int))) := by
 induction d with
 | zero =>
  intro n hn; refine ev1 ?_; simp only [laws_heldIntS.l0]; have e : n = l.length := by omega
  exact evN (by omega) (evR (by rw [e]))
 | succ d ih =>
  intro n hn; have hlt : n < l.length := by omega
  have hw : wrap64 ((n : Int) + 1) = ((n + 1 : Nat) : Int) := by rw [w64 (by omega)]; omega
  have hw2 : wrap64 (a + (n : Int) + 1) = a + ((n + 1 : Nat) : Int) := by rw [w64 (by omega)]; omega
  refine ev1 ?_; simp only [laws_heldIntS.l0, rd_int l n hlt, hj n hlt, hw, hw2]; exact evP (by omega) (evP (by omega) (evP trivial (ih (n + 1) (by omega))))
theorem heldInt (l : List Int) (a : Int) (ha0 : 0 ≤ a) (ha1 : a ≤ 1000000000000000) (hl : l.length ≤ 1073741824) (hj : ∀ j (h : j < l.length), l[j] = a + j) : (∃ K_, ∀ k, K_ ≤ k → laws_heldIntS.f k l a = some (a + (l.length : Int))) := by
 have := heldInt_loop l a ha0 ha1 hl hj l.length 0 (by omega); simp only [Int.ofNat_zero, Int.add_zero, Int.natCast_zero] at this; simp only [laws_heldIntS.f]; exact this
abbrev Sa := S83
/-- Is a window as it should be, from place n on, d places being left? -/
def winGo (t : Int) (l : List Int) : Nat → Nat → Bool
 | 0, _ => if rd l ((l.length : Int) - 1) = t then decide (t ≤ 1000000) else false
 | d + 1, n => if rd l (n : Int) < 1 then false else if rd l (n : Int) ≤ wrap64 (t - 16) then false else if 0 < n then (if rd l (n : Int) ≤ rd l ((n : Int) - 1) then false else winGo t l d (n + 1)) else winGo t l d (n + 1)
def winB (t : Int) (l : List Int) : Bool := if l.length = 0 then t == 0 else winGo t l l.length 0
theorem impl_win_loop (t : Int) (l : List Int) (hl : l.length ≤ 1073741824) (h0 : 0 < l.length) (d : Nat) : ∀ n : Nat, n + d = l.length → (∃ K_, ∀ k, K_ ≤ k → impl_WindowOk.l0 k l (l.length : Int) (n : Int) t l = some (winGo t l d n)) := by
 have hw0 : wrap64 ((l.length : Int) - 1) = (l.length : Int) - 1 := w64 (by omega)
 induction d with
 | zero =>
  intro n hn; refine ev1 ?_; simp only [impl_WindowOk.l0, hw0]; exact evN (by omega) (evP (by omega) (evP (by omega) (evI (fun c => evR (by simp only [winGo, if_pos c])) (fun c => evR (by simp only [winGo, if_neg c])))))
 | succ d ih =>
  intro n hn; have hw : wrap64 ((n : Int) + 1) = ((n + 1 : Nat) : Int) := by rw [w64 (by omega)]; omega
  have hw2 : wrap64 ((n : Int) - 1) = (n : Int) - 1 := w64 (by omega); have hi := ih (n + 1) (by omega); refine ev1 ?_; simp only [impl_WindowOk.l0, hw, hw2]; refine evP (by omega) (evP (by omega) (evP (by omega) (evI (fun c1 => evR (by simp only [winGo, if_pos c1])) (fun c1 => evI (fun c2 => evR (by simp only [winGo, if_neg c1, if_pos c2])) (fun c2 => evI (fun c3 => evP (by omega) (evP (by omega) (evI (fun c4 => evR (by simp only [winGo, if_neg c1, if_neg c2, if_pos (show 0 < n by omega), if_pos c4])) (fun c4 => ?_)))) (fun c3 => ?_))))))
  ·have e : winGo t l (d + 1) n = winGo t l d (n + 1) := by simp only [winGo, if_neg c1, if_neg c2, if_pos (show 0 < n by omega), if_neg c4]
   rw [e]; exact hi
  ·have e : winGo t l (d + 1) n = winGo t l d (n + 1) := by simp only [winGo, if_neg c1, if_neg c2, if_neg (show ¬ 0 < n by omega)]
   rw [e]; exact hi
theorem impl_win (t : Int) (l : List Int) (hl : l.length ≤ 1073741824) : (∃ K_, ∀ k, K_ ≤ k → impl_WindowOk.f k t l = some (winB t l)) := by
 simp only [impl_WindowOk.f]; refine evI (fun c => evR (by rw [winB, if_pos (by omega)])) (fun c => ?_); have e : winB t l = winGo t l l.length 0 := by rw [winB, if_neg (by omega)]
 rw [e]; exact impl_win_loop t l hl (by omega) l.length 0 (by omega)
theorem spec_win_loop (t : Int) (l : List Int) (hl : l.length ≤ 1073741824) (h0 : 0 < l.length) (d : Nat) : ∀ n : Nat, n + d = l.length → (∃ K_, ∀ k, K_ ≤ k → spec_WindowOk.l0 k (l.length : Int) (n : Int) t l = some (winGo t l d n)) := by
 have hw0 : wrap64 ((l.length : Int) - 1) = (l.length : Int) - 1 := w64 (by omega)
 induction d with
 | zero =>
  intro n hn; refine ev1 ?_; simp only [spec_WindowOk.l0, hw0]; exact evN (by omega) (evP (by omega) (evP (by omega) (evI (fun c => evR (by simp only [winGo, if_pos c])) (fun c => evR (by simp only [winGo, if_neg c])))))
 | succ d ih =>
  intro n hn; have hw : wrap64 ((n : Int) + 1) = ((n + 1 : Nat) : Int) := by rw [w64 (by omega)]; omega
  have hw2 : wrap64 ((n : Int) - 1) = (n : Int) - 1 := w64 (by omega); have hi := ih (n + 1) (by omega); refine ev1 ?_; simp only [spec_WindowOk.l0, hw, hw2]; refine evP (by omega) (evP (by omega) (evP (by omega) (evI (fun c2 => evR (by simp only [winGo, if_pos c2, ite_self])) (fun c2 => evI (fun c1 => evR (by simp only [winGo, if_pos c1])) (fun c1 => evI (fun c3 => evP (by omega) (evP (by omega) (evI (fun c4 => evR (by simp only [winGo, if_neg c1, if_neg c2, if_pos (show 0 < n by omega), if_pos (show rd l (n : Int) ≤ rd l ((n : Int) - 1) from c4)])) (fun c4 => ?_)))) (fun c3 => ?_))))))
  ·have e : winGo t l (d + 1) n = winGo t l d (n + 1) := by simp only [winGo, if_neg c1, if_neg c2, if_pos (show 0 < n by omega), if_neg (show ¬ rd l (n : Int) ≤ rd l ((n : Int) - 1) from c4)]
   rw [e]; exact hi
  ·have e : winGo t l (d + 1) n = winGo t l d (n + 1) := by simp only [winGo, if_neg c1, if_neg c2, if_neg (show ¬ 0 < n by omega)]
   rw [e]; exact hi
theorem spec_win (t : Int) (l : List Int) (hl : l.length ≤ 1073741824) : (∃ K_, ∀ k, K_ ≤ k → spec_WindowOk.f k t l = some (winB t l)) := by
 simp only [spec_WindowOk.f]; refine evI (fun c => evR (by rw [winB, if_pos (by omega)])) (fun c => ?_); have e : winB t l = winGo t l l.length 0 := by rw [winB, if_neg (by omega)]
 rw [e]; exact spec_win_loop t l hl (by omega) l.length 0 (by omega)
def keysB (a b : ByteArray) : Bool := decide ((a.size : Int) = 16) && inR (b.size : Int) 1 64
theorem impl_keys (a b : ByteArray) : impl_keysOk.f a b = some (keysB a b) := by
 simp only [impl_keysOk.f, impl_inR, Option.bind_some, keysB]; by_cases c : (a.size : Int) = 16 <;> simp [c]
theorem spec_keys (a b : ByteArray) : spec_l8Keys.f a b = some (keysB a b) := by
 simp only [spec_l8Keys.f, spec_inR, Option.bind_some, keysB]; by_cases c : (a.size : Int) = 16 <;> simp [c]
/-- Are keys as they should be? -/
def saR (x : Sa) : Bool := inR x.f4 0 1000000 && (inR x.f6 1 1000000 && (inR x.f5 1 x.f6 && (inR x.f7 1 1000000 && (inR x.f8 0 x.f6 && winB x.f9.f0 x.f9.f1))))
def saB (x : Sa) : Bool := inR x.f0 1 999 && (inR x.f1 0 3 && (keysB x.f2 x.f3 && saR x))
theorem impl_sa_j0 (b : Bool) (x : Sa) (hl : x.f9.f1.length ≤ 1073741824) : (∃ K_, ∀ k, K_ ≤ k → impl_SaOk.j0 k b x.f0 x.f1 x.f2 x.f3 x.f4 x.f5 x.f6 x.f7 x.f8 x.f9.f0 x.f9.f1 = some (b && saR x)) := by
 refine ev1 ?_; simp only [impl_SaOk.j0, impl_inR, Option.bind_some]; refine evI (fun c1 => evI (fun c2 => evI (fun c3 => evI (fun c4 => evI (fun c5 => evI (fun c6 => evB (impl_win _ _ hl) (evR (by simp [saR, c1, c2, c3, c4, c5, c6]))) (fun c6 => evR (by simp [saR, c6]))) (fun c5 => evR (by simp [saR, c5]))) (fun c4 => evR (by simp [c4]))) (fun c3 => ?_)) (fun c2 => ?_)) (fun c1 => ?_)
 ·exact evI (fun c4 => evR (by simp [saR, c3])) (fun c4 => evR (by simp [saR, c3]))
 ·exact evI (fun c4 => evR (by simp [saR, c2])) (fun c4 => evR (by simp [saR, c2]))
 ·exact evI (fun c4 => evR (by simp [saR, c1])) (fun c4 => evR (by simp [saR, c1]))
theorem impl_sa (x : Sa) (hl : x.f9.f1.length ≤ 1073741824) : (∃ K_, ∀ k, K_ ≤ k → impl_SaOk.f k x.f0 x.f1 x.f2 x.f3 x.f4 x.f5 x.f6 x.f7 x.f8 x.f9.f0 x.f9.f1 = some (saB x)) := by
 simp only [impl_SaOk.f, impl_inR, impl_keys, Option.bind_some]; refine evI (fun c1 => evI (fun c2 => ?_) (fun c2 => ?_)) (fun c1 => ?_)
 ·have e : saB x = (keysB x.f2 x.f3 && saR x) := by simp [saB, c1, c2]
  rw [e]; exact impl_sa_j0 _ x hl
 ·have e : saB x = (false && saR x) := by simp [saB, c2]
  rw [e]; exact impl_sa_j0 _ x hl
 ·have e : saB x = (false && saR x) := by simp [saB, c1]
  rw [e]; exact impl_sa_j0 _ x hl
theorem spec_sa (x : Sa) (hl : x.f9.f1.length ≤ 1073741824) : (∃ K_, ∀ k, K_ ≤ k → spec_SaOk.f k x.f0 x.f1 x.f2 x.f3 x.f4 x.f5 x.f6 x.f7 x.f8 x.f9.f0 x.f9.f1 = some (saB x)) := by
 simp only [spec_SaOk.f, spec_inR, spec_keys, Option.bind_some]; refine evI (fun c1 => evI (fun c2 => evI (fun c3 => evI (fun c4 => evI (fun c5 => evI (fun c6 => evI (fun c7 => evI (fun c8 => evB (spec_win _ _ hl) (evR ?_)) (fun c8 => evR ?_)) (fun c7 => evR ?_)) (fun c6 => evR ?_)) (fun c5 => evR ?_)) (fun c4 => evR ?_)) (fun c3 => evR ?_)) (fun c2 => evR ?_)) (fun c1 => evR ?_)
 ·simp [saB, saR, c1, c2, c3, c4, c5, c6, c7, c8]
 ·simp [saB, saR, c8]
 ·simp [saB, saR, c7]
 ·simp [saB, saR, c6]
 ·simp [saB, saR, c5]
 ·simp [saB, saR, c4]
 ·simp [saB, saR, c3]
 ·simp [saB, saR, c2]
 ·simp [saB, saR, c1]
theorem rd_sa (l : List Sa) (n : Nat) (h : n < l.length) : rd_T83 l (n : Int) = l[n] := by
 unfold rd_T83; rw [List.getD_eq_getElem?_getD, Int.toNat_natCast, List.getElem?_eq_getElem h]; rfl
/-- Are keys in order, from place n on, d places being left? -/
def ascGo (f : Sa → Int) (now : Int) (l : List Sa) : Nat → Nat → Bool
 | 0, _ => true
 | d + 1, n => saB (rd_T83 l (n : Int)) && (decide ((rd_T83 l (n : Int)).f4 ≤ now) && ((decide (n = 0) || decide (f (rd_T83 l ((n : Int) - 1)) < f (rd_T83 l (n : Int)))) && ascGo f now l d (n + 1)))
def winsOk (l : List Sa) : Prop := l.length ≤ 1073741824 ∧ ∀ x ∈ l, x.f9.f1.length ≤ 1073741824
theorem winsOk.rd {l : List Sa} (h : winsOk l) {n : Nat} (hn : n < l.length) : (rd_T83 l (n : Int)).f9.f1.length ≤ 1073741824 := by
 rw [rd_sa l n hn]; exact h.2 _ (List.getElem_mem hn)
theorem impl_asc_loop (pf : Int → Int → ByteArray → ByteArray → Int → Int → Int → Int → Int → Int → List Int → Option Int) (f : Sa → Int) (hf : ∀ x : Sa, pf x.f0 x.f1 x.f2 x.f3 x.f4 x.f5 x.f6 x.f7 x.f8 x.f9.f0 x.f9.f1 = some (f x)) (now : Int) (l : List Sa) (h : winsOk l) (d : Nat) : ∀ n : Nat, n + d = l.length → (∃ K_, ∀ k, K_ ≤ k → impl_ascending_tunOf.l0 pf k l now l (l.length : Int) (n : Int) = some (ascGo f now l d n)) := by
 have hl := h.1
 induction d with
 | zero =>
  intro n hn; refine ev1 ?_; simp only [impl_ascending_tunOf.l0]; exact evN (by omega) (evR rfl)
 | succ d ih =>
  intro n hn; have hw : wrap64 ((n : Int) + 1) = ((n + 1 : Nat) : Int) := by rw [w64 (by omega)]; omega
  have hw2 : wrap64 ((n : Int) - 1) = (n : Int) - 1 := w64 (by omega); have hi := ih (n + 1) (by omega)
  have J : ∀ b, (∃ K_, ∀ k, K_ ≤ k → impl_ascending_tunOf.j1 pf k l now l (l.length : Int) (n : Int) b = some (!b && ascGo f now l d (n + 1))) := fun b => by
   refine ev1 ?_; simp only [impl_ascending_tunOf.j1, hw]; exact evI (fun c => evR (by simp [c])) (fun c => Ev.of_eq hi (by simp [c]))
  refine ev1 ?_; simp only [impl_ascending_tunOf.l0, hf, Option.bind_some, hw2]; refine evP (by omega) (evP (by omega) (evP (by omega) (evB (impl_sa (rd_T83 l (n : Int)) (h.rd (by omega))) (evI (fun c1 => evI (fun c2 => ?_) (fun c2 => evI (fun c3 => evP (by omega) (evP (by omega) ?_)) (fun c3 => ?_))) (fun c1 => ?_)))))
  ·exact Ev.of_eq (J true) (by have : ¬ (rd_T83 l (n : Int)).f4 ≤ now := by omega
                               simp [ascGo, this])
  ·have h4 : (rd_T83 l (n : Int)).f4 ≤ now := by omega
   have h0 : ¬ n = 0 := by omega
   exact Ev.of_eq (J _) (by
    by_cases c5 : f (rd_T83 l ((n : Int) - 1)) < f (rd_T83 l (n : Int))
    ·have c6 : ¬ f (rd_T83 l ((n : Int) - 1)) ≥ f (rd_T83 l (n : Int)) := by omega
     simp [ascGo, c1, h4, h0, c5, c6]
    ·have c6 : f (rd_T83 l ((n : Int) - 1)) ≥ f (rd_T83 l (n : Int)) := by omega
     simp [ascGo, h0, c5, c6])
  ·have h4 : (rd_T83 l (n : Int)).f4 ≤ now := by omega
   have d0 : decide (n = 0) = true := decide_eq_true (by omega)
   exact Ev.of_eq (J false) (by
    simp only [ascGo]; rw [c1, decide_eq_true h4, d0]
    simp only [Bool.true_and, Bool.true_or, Bool.not_false])
  ·exact Ev.of_eq (J true) (by simp [ascGo, c1])
theorem impl_asc_tunOf (now : Int) (l : List Sa) (h : winsOk l) : (∃ K_, ∀ k, K_ ≤ k → impl_ascending_tunOf.f k l now = some (ascGo (fun x => x.f1) now l l.length 0)) := impl_asc_loop impl_tunOf.f (fun x => x.f1) (fun x => rfl) now l h l.length 0 (by omega)
theorem impl_asc_spiOf (now : Int) (l : List Sa) (h : winsOk l) : (∃ K_, ∀ k, K_ ≤ k → impl_ascending_spiOf.f k l now = some (ascGo (fun x => x.f0) now l l.length 0)) := impl_asc_loop impl_spiOf.f (fun x => x.f0) (fun x => rfl) now l h l.length 0 (by omega)
def gateB (now : Int) (rs : List Ru) (size : Int) (ss : List Se) (os is : List Sa) : Bool :=
 inR now 0 1000000 && (decide (size = 4) && (cacheB rs size ss && (decide ((os.length : Int) ≤ 4) && (decide ((is.length : Int) ≤ 6) && (ascGo (fun x => x.f1) now os os.length 0 && ascGo (fun x => x.f0) now is is.length 0)))))
theorem impl_gate_j0 (b : Bool) (now : Int) (rs : List Ru) (size : Int) (ss : List Se) (os is : List Sa) (ho : winsOk os) (hi : winsOk is) : (∃ K_, ∀ k, K_ ≤ k → impl_GateOk.j0 k b now rs size ss os is = some (!b && (ascGo (fun x => x.f1) now os os.length 0 && ascGo (fun x => x.f0) now is is.length 0))) := by
 refine ev1 ?_; simp only [impl_GateOk.j0]; refine evI (fun c => evR (by simp [c])) (fun c => evB (impl_asc_tunOf now os ho) (evI (fun c1 => evB (impl_asc_spiOf now is hi) (evR (by simp [c, c1]))) (fun c1 => evR (by simp [c1]))))
theorem impl_gateOk (now : Int) (rs : List Ru) (size : Int) (ss : List Se) (os is : List Sa) (hs : ss.length ≤ 1073741824) (ho : winsOk os) (hi : winsOk is) : (∃ K_, ∀ k, K_ ≤ k → impl_GateOk.f k now rs size ss os is = some (gateB now rs size ss os is)) := by
 simp only [impl_GateOk.f, impl_inR, Option.bind_some]; have J := fun b => impl_gate_j0 b now rs size ss os is ho hi
 refine evI (fun c1 => evI (fun c2 => evB (impl_cacheOk rs size ss hs) (evI (fun c3 => evI (fun c4 => ?_) (fun c4 => ?_)) (fun c3 => ?_))) (fun c2 => ?_)) (fun c1 => ?_)
 ·exact Ev.of_eq (J true) (by have : ¬ (os.length : Int) ≤ 4 := by omega
                              simp [gateB, this])
 ·subst c2
  exact Ev.of_eq (J _) (by have : (os.length : Int) ≤ 4 := by omega
                           by_cases c5 : (is.length : Int) > 6
                           · have h6 : ¬ (is.length : Int) ≤ 6 := by omega
                             simp [gateB, c5, h6]
                           · have h6 : (is.length : Int) ≤ 6 := by omega
                             simp [gateB, c1, c3, this, c5, h6])
 ·exact Ev.of_eq (J true) (by simp [gateB, c3])
 ·exact Ev.of_eq (J true) (by simp [gateB, c2])
 ·exact Ev.of_eq (J true) (by simp [gateB, c1])
theorem spec_gate_ins (now : Int) (rs : List Ru) (size : Int) (ss : List Se) (os is : List Sa) (hi : winsOk is) (d : Nat) : ∀ n : Nat, n + d = is.length → (∃ K_, ∀ k, K_ ≤ k → spec_GateOk.l1 k (n : Int) now rs size ss os is = some (ascGo (fun x => x.f0) now is d n)) := by
 induction d with
 | zero =>
  intro n hn; refine ev1 ?_; simp only [spec_GateOk.l1]; exact evN (by omega) (evR rfl)
 | succ d ih =>
  intro n hn; have hw : wrap64 ((n : Int) + 1) = ((n + 1 : Nat) : Int) := by rw [w64 (by have := hi.1; omega)]; omega
  have hw2 : wrap64 ((n : Int) - 1) = (n : Int) - 1 := w64 (by have := hi.1; omega)
  have J : ∀ b, (∃ K_, ∀ k, K_ ≤ k → spec_GateOk.j4 k (n : Int) b now rs size ss os is = some (!b && ascGo (fun x => x.f0) now is d (n + 1))) := fun b => by
   refine ev1 ?_; simp only [spec_GateOk.j4, hw]; exact evI (fun c => evR (by simp [c])) (fun c => Ev.of_eq (ih (n + 1) (by omega)) (by simp [c]))
  refine ev1 ?_; simp only [spec_GateOk.l1, hw2]; refine evP (by omega) (evP (by omega) (evB (spec_sa (rd_T83 is (n : Int)) (hi.rd (by omega))) (evI (fun c1 => evI (fun c2 => ?_) (fun c2 => evI (fun c3 => evP (by omega) (evP (by omega) ?_)) (fun c3 => ?_))) (fun c1 => ?_))))
  ·exact Ev.of_eq (J true) (by have : ¬ (rd_T83 is (n : Int)).f4 ≤ now := by omega
                               simp [ascGo, this])
  ·have h4 : (rd_T83 is (n : Int)).f4 ≤ now := by omega
   have h0 : ¬ n = 0 := by omega
   exact Ev.of_eq (J _) (by
    by_cases c5 : (rd_T83 is ((n : Int) - 1)).f0 < (rd_T83 is (n : Int)).f0
    ·have c6 : ¬ (rd_T83 is ((n : Int) - 1)).f0 ≥ (rd_T83 is (n : Int)).f0 := by omega
     simp [ascGo, c1, h4, h0, c5, c6]
    ·have c6 : (rd_T83 is ((n : Int) - 1)).f0 ≥ (rd_T83 is (n : Int)).f0 := by omega
     simp [ascGo, h0, c5, c6])
  ·have h4 : (rd_T83 is (n : Int)).f4 ≤ now := by omega
   have d0 : decide (n = 0) = true := decide_eq_true (by omega)
   exact Ev.of_eq (J false) (by
    simp only [ascGo]; rw [c1, decide_eq_true h4, d0]
    simp only [Bool.true_and, Bool.true_or, Bool.not_false])
  ·exact Ev.of_eq (J true) (by simp [ascGo, c1])
theorem spec_gate_outs (now : Int) (rs : List Ru) (size : Int) (ss : List Se) (os is : List Sa) (ho : winsOk os) (hi : winsOk is) (d : Nat) : ∀ n : Nat, n + d = os.length → (∃ K_, ∀ k, K_ ≤ k → spec_GateOk.l0 k (n : Int) now rs size ss os is = some (ascGo (fun x => x.f1) now os d n && ascGo (fun x => x.f0) now is is.length 0)) := by
 induction d with
 | zero =>
  intro n hn; refine ev1 ?_; simp only [spec_GateOk.l0]; exact evN (by omega) (Ev.of_eq (spec_gate_ins now rs size ss os is hi is.length 0 (by omega)) (by simp [ascGo]))
 | succ d ih =>
  intro n hn; have hw : wrap64 ((n : Int) + 1) = ((n + 1 : Nat) : Int) := by rw [w64 (by have := ho.1; omega)]; omega
  have hw2 : wrap64 ((n : Int) - 1) = (n : Int) - 1 := w64 (by have := ho.1; omega)
  have J : ∀ b, (∃ K_, ∀ k, K_ ≤ k → spec_GateOk.j2 k (n : Int) b now rs size ss os is = some (!b && (ascGo (fun x => x.f1) now os d (n + 1) && ascGo (fun x => x.f0) now is is.length 0))) := fun b => by
   refine ev1 ?_; simp only [spec_GateOk.j2, hw]; exact evI (fun c => evR (by simp [c])) (fun c => Ev.of_eq (ih (n + 1) (by omega)) (by simp [c]))
  refine ev1 ?_; simp only [spec_GateOk.l0, hw2]; refine evP (by omega) (evP (by omega) (evB (spec_sa (rd_T83 os (n : Int)) (ho.rd (by omega))) (evI (fun c1 => evI (fun c2 => ?_) (fun c2 => evI (fun c3 => evP (by omega) (evP (by omega) ?_)) (fun c3 => ?_))) (fun c1 => ?_))))
  ·exact Ev.of_eq (J true) (by have : ¬ (rd_T83 os (n : Int)).f4 ≤ now := by omega
                               simp [ascGo, this])
  ·have h4 : (rd_T83 os (n : Int)).f4 ≤ now := by omega
   have h0 : ¬ n = 0 := by omega
   exact Ev.of_eq (J _) (by
    by_cases c5 : (rd_T83 os ((n : Int) - 1)).f1 < (rd_T83 os (n : Int)).f1
    ·have c6 : ¬ (rd_T83 os ((n : Int) - 1)).f1 ≥ (rd_T83 os (n : Int)).f1 := by omega
     simp [ascGo, c1, h4, h0, c5, c6]
    ·have c6 : (rd_T83 os ((n : Int) - 1)).f1 ≥ (rd_T83 os (n : Int)).f1 := by omega
     simp [ascGo, h0, c5, c6])
  ·have h4 : (rd_T83 os (n : Int)).f4 ≤ now := by omega
   have d0 : decide (n = 0) = true := decide_eq_true (by omega)
   exact Ev.of_eq (J false) (by
    simp only [ascGo]; rw [c1, decide_eq_true h4, d0]
    simp only [Bool.true_and, Bool.true_or, Bool.not_false])
  ·exact Ev.of_eq (J true) (by simp [ascGo, c1])
theorem spec_gate_j0 (b : Bool) (now : Int) (rs : List Ru) (size : Int) (ss : List Se) (os is : List Sa) (ho : winsOk os) (hi : winsOk is) : (∃ K_, ∀ k, K_ ≤ k → spec_GateOk.j0 k b now rs size ss os is = some (!b && (ascGo (fun x => x.f1) now os os.length 0 && ascGo (fun x => x.f0) now is is.length 0))) := by
 refine ev1 ?_; simp only [spec_GateOk.j0]; exact evI (fun c => evR (by simp [c])) (fun c => Ev.of_eq (spec_gate_outs now rs size ss os is ho hi os.length 0 (by omega)) (by simp [c]))
theorem spec_gateOk (now : Int) (rs : List Ru) (size : Int) (ss : List Se) (os is : List Sa) (hr : rs.length ≤ 1073741824) (hs : ss.length ≤ 1073741824) (ho : winsOk os) (hi : winsOk is) : (∃ K_, ∀ k, K_ ≤ k → spec_GateOk.f k now rs size ss os is = some (gateB now rs size ss os is)) := by
 simp only [spec_GateOk.f, spec_inR, Option.bind_some]; have J := fun b => spec_gate_j0 b now rs size ss os is ho hi
 refine evI (fun c1 => evI (fun c2 => evB (spec_cacheOk rs hr size ss hs) (evI (fun c3 => evI (fun c4 => ?_) (fun c4 => ?_)) (fun c3 => ?_))) (fun c2 => ?_)) (fun c1 => ?_)
 ·exact Ev.of_eq (J true) (by have : ¬ (os.length : Int) ≤ 4 := by omega
                              simp [gateB, this])
 ·subst c2
  exact Ev.of_eq (J _) (by have : (os.length : Int) ≤ 4 := by omega
                           by_cases c5 : (is.length : Int) > 6
                           · have h6 : ¬ (is.length : Int) ≤ 6 := by omega
                             simp [gateB, c5, h6]
                           · have h6 : (is.length : Int) ≤ 6 := by omega
                             simp [gateB, c1, c3, this, c5, h6])
 ·exact Ev.of_eq (J true) (by simp [gateB, c3])
 ·exact Ev.of_eq (J true) (by simp [gateB, c2])
 ·exact Ev.of_eq (J true) (by simp [gateB, c1])
/-- One of the statement's own values as one of the program's. -/
def convRule (x : S63) : S59 := ⟨x.f0, x.f1, ⟨x.f2.f0, x.f2.f1⟩, ⟨x.f3.f0, x.f3.f1⟩, x.f4, x.f5⟩
theorem rd_lRule (l : List S63) (n : Nat) (h : n < l.length) : rd_T63 l (n : Int) = l[n] := by
 unfold rd_T63; rw [List.getD_eq_getElem?_getD, Int.toNat_natCast, List.getElem?_eq_getElem h]; rfl
theorem toRule_loop (l : List S63) (hl : l.length ≤ 1073741824) (d : Nat) : ∀ (n : Nat) (ys : List S59), n + d = l.length → ys.length = l.length → (∀ j, j < n → ys[j]? = (l.map convRule)[j]?) → (∃ K_, ∀ k, K_ ≤ k → laws_toRuleS.l0 k l ys (n : Int) = some (l.map convRule)) := by
 induction d with
 | zero =>
  intro n ys hn hy hj; refine ⟨1, fun k hk => ?_⟩; obtain ⟨k, rfl⟩ : ∃ j, k = j + 1 := ⟨k - 1, by omega⟩; simp only [laws_toRuleS.l0]; rw [if_neg (by omega)]
  congr 1
  apply List.ext_getElem?
  intro i; by_cases c : i < n
  ·exact hj i c
  ·rw [List.getElem?_eq_none (by omega), List.getElem?_eq_none (by simp; omega)]
 | succ d ih =>
  intro n ys hn hy hj; have hlt : n < l.length := by omega
  have hw : wrap64 ((n : Int) + 1) = ((n + 1 : Nat) : Int) := by rw [w64 (by omega)]; omega
  obtain ⟨K1, e1⟩ := ih (n + 1) (ys.set n (convRule l[n])) (by omega) (by simpa using hy) (fun j hj2 => by
   by_cases c : j = n
   ·subst c
    rw [List.getElem?_set_self (by omega), List.getElem?_map, List.getElem?_eq_getElem hlt]; rfl
   ·rw [List.getElem?_set_ne (by omega)]
    exact hj j (by omega))
  refine ⟨K1 + 1, fun k hk => ?_⟩; obtain ⟨k, rfl⟩ : ∃ j, k = j + 1 := ⟨k - 1, by omega⟩; simp only [laws_toRuleS.l0]; rw [if_pos (by omega), if_pos (by omega), rd_lRule l n hlt]; simp only [laws_toRule.f, laws_toBlock.f, Option.bind_some]; rw [if_pos (by omega), hw, Int.toNat_natCast]; exact e1 k (by omega)
theorem toRule (l : List S63) (hl : l.length ≤ 1073741824) : (∃ K_, ∀ k, K_ ≤ k → laws_toRuleS.f k l = some (l.map convRule)) := by
 obtain ⟨K, h⟩ := toRule_loop l hl l.length 0 (List.replicate l.length z59) (by omega) (by simp) (fun j h => absurd h (by omega)); refine ⟨K, fun k hk => ?_⟩; simp only [laws_toRuleS.f]; rw [if_pos (by omega), if_pos (by omega), Int.toNat_natCast]; exact h k hk
theorem szgRule (l : List S63) (hl : l.length ≤ 9223372036854775807) (m : Int) (h0 : 0 ≤ m) (h1 : m ≤ 1048576) : laws_szRuleS.f l m = some (if (l.length : Int) ≤ m then m - (l.length : Int) else -1) := by
 unfold laws_szRuleS.f; rw [w64 (by omega)]; by_cases c : (l.length : Int) ≤ m
 ·rw [if_neg (by omega), if_pos c]
 ·rw [if_pos (by omega), if_neg c]
/-- One of the statement's own values as one of the program's. -/
def convSeen (x : S125) : S96 := ⟨⟨x.f0.f0, x.f0.f1, x.f0.f2⟩, x.f1⟩
theorem rd_lSeen (l : List S125) (n : Nat) (h : n < l.length) : rd_T125 l (n : Int) = l[n] := by
 unfold rd_T125; rw [List.getD_eq_getElem?_getD, Int.toNat_natCast, List.getElem?_eq_getElem h]; rfl
theorem toSeen_loop (l : List S125) (hl : l.length ≤ 1073741824) (d : Nat) : ∀ (n : Nat) (ys : List S96), n + d = l.length → ys.length = l.length → (∀ j, j < n → ys[j]? = (l.map convSeen)[j]?) → (∃ K_, ∀ k, K_ ≤ k → laws_toSeenS.l0 k l ys (n : Int) = some (l.map convSeen)) := by
 induction d with
 | zero =>
  intro n ys hn hy hj; refine ⟨1, fun k hk => ?_⟩; obtain ⟨k, rfl⟩ : ∃ j, k = j + 1 := ⟨k - 1, by omega⟩; simp only [laws_toSeenS.l0]; rw [if_neg (by omega)]
  congr 1
  apply List.ext_getElem?
  intro i; by_cases c : i < n
  ·exact hj i c
  ·rw [List.getElem?_eq_none (by omega), List.getElem?_eq_none (by simp; omega)]
 | succ d ih =>
  intro n ys hn hy hj; have hlt : n < l.length := by omega
  have hw : wrap64 ((n : Int) + 1) = ((n + 1 : Nat) : Int) := by rw [w64 (by omega)]; omega
  obtain ⟨K1, e1⟩ := ih (n + 1) (ys.set n (convSeen l[n])) (by omega) (by simpa using hy) (fun j hj2 => by
   by_cases c : j = n
   ·subst c
    rw [List.getElem?_set_self (by omega), List.getElem?_map, List.getElem?_eq_getElem hlt]; rfl
   ·rw [List.getElem?_set_ne (by omega)]
    exact hj j (by omega))
  refine ⟨K1 + 1, fun k hk => ?_⟩; obtain ⟨k, rfl⟩ : ∃ j, k = j + 1 := ⟨k - 1, by omega⟩; simp only [laws_toSeenS.l0]; rw [if_pos (by omega), if_pos (by omega), rd_lSeen l n hlt]; simp only [laws_toSeen.f, laws_toCall.f, Option.bind_some]; rw [if_pos (by omega), hw, Int.toNat_natCast]; exact e1 k (by omega)
theorem toSeen (l : List S125) (hl : l.length ≤ 1073741824) : (∃ K_, ∀ k, K_ ≤ k → laws_toSeenS.f k l = some (l.map convSeen)) := by
 obtain ⟨K, h⟩ := toSeen_loop l hl l.length 0 (List.replicate l.length z96) (by omega) (by simp) (fun j h => absurd h (by omega)); refine ⟨K, fun k hk => ?_⟩; simp only [laws_toSeenS.f]; rw [if_pos (by omega), if_pos (by omega), Int.toNat_natCast]; exact h k hk
theorem szgSeen (l : List S125) (hl : l.length ≤ 9223372036854775807) (m : Int) (h0 : 0 ≤ m) (h1 : m ≤ 1048576) : laws_szSeenS.f l m = some (if (l.length : Int) ≤ m then m - (l.length : Int) else -1) := by
 unfold laws_szSeenS.f; rw [w64 (by omega)]; by_cases c : (l.length : Int) ≤ m
 ·rw [if_neg (by omega), if_pos c]
 ·rw [if_pos (by omega), if_neg c]
theorem toCache (a : Int) (l : List S125) (hl : l.length ≤ 1073741824) : (∃ K_, ∀ k, K_ ≤ k → laws_toCache.f k a l = some (a, l.map convSeen)) := by
 simp only [laws_toCache.f]; exact evB (toSeen l hl) (evR rfl)
theorem szCache (a : Int) (l : List S125) (hl : l.length ≤ 9223372036854775807) (m : Int) (h0 : 0 ≤ m) (h1 : m ≤ 1048576) : laws_szCache.f a l m = some (if (l.length : Int) ≤ m then m - (l.length : Int) else -1) := by
 unfold laws_szCache.f; rw [szgSeen l hl m h0 h1, Option.bind_some]; by_cases c : (l.length : Int) ≤ m
 ·rw [if_pos c, if_neg (by omega)]
 ·rw [if_neg c, if_pos (by omega)]
abbrev Sl := S77
theorem szSa (x : Sl) (h2 : x.f2.size ≤ 9223372036854775807) (h3 : x.f3.size ≤ 9223372036854775807) (h9 : x.f9.f1.length ≤ 9223372036854775807) (m : Int) (h0 : 0 ≤ m) (h1 : m ≤ 1048576) :
  ∃ t, laws_szSa.f x.f0 x.f1 x.f2 x.f3 x.f4 x.f5 x.f6 x.f7 x.f8 x.f9.f0 x.f9.f1 m = some t ∧ t ≤ m ∧ (0 ≤ t → x.f9.f1.length ≤ 1048576) := by
 simp only [laws_szSa.f, laws_szWindow.f, laws_szIntS.f]; rw [w64 (n := m - (x.f2.size : Int)) (by omega)]; by_cases c1 : m - (x.f2.size : Int) < 0
 ·exact ⟨-1, by rw [if_pos c1], by omega, by omega⟩
 ·rw [if_neg c1, w64 (n := m - (x.f2.size : Int) - (x.f3.size : Int)) (by omega)]
  by_cases c2 : m - (x.f2.size : Int) - (x.f3.size : Int) < 0
  ·exact ⟨-1, by rw [if_pos c2], by omega, by omega⟩
  ·rw [if_neg c2, w64 (n := m - (x.f2.size : Int) - (x.f3.size : Int) - (x.f9.f1.length : Int)) (by omega)]
   by_cases c3 : m - (x.f2.size : Int) - (x.f3.size : Int) - (x.f9.f1.length : Int) < 0
   ·exact ⟨-1, by rw [if_pos c3]; rfl, by omega, by omega⟩
   ·exact ⟨_, by rw [if_neg c3, Option.bind_some, if_neg c3, Option.bind_some, if_neg c3], by omega, by omega⟩
theorem rd_lsa (l : List Sl) (n : Nat) (h : n < l.length) : rd_T77 l (n : Int) = l[n] := by
 unfold rd_T77; rw [List.getD_eq_getElem?_getD, Int.toNat_natCast, List.getElem?_eq_getElem h]; rfl
def sizesOk (l : List Sl) : Prop := l.length ≤ 9223372036854775807 ∧ ∀ x ∈ l, x.f2.size ≤ 9223372036854775807 ∧ x.f3.size ≤ 9223372036854775807 ∧ x.f9.f1.length ≤ 9223372036854775807
theorem szSaS_loop (l : List Sl) (hl : l.length ≤ 1048576) (hs : sizesOk l) (d : Nat) : ∀ (n : Nat) (m : Int), n + d = l.length → 0 ≤ m → m ≤ 1048576 → Dr (fun k => laws_szSaS.l0 k l m (n : Int)) (fun t => t ≤ m ∧ (0 ≤ t → ∀ j (h : j < l.length), n ≤ j → l[j].f9.f1.length ≤ 1048576)) := by
 induction d with
 | zero =>
  intro n m hn h0 h1; refine dr1 ?_; simp only [laws_szSaS.l0]; exact drN (by omega) (drR ⟨by omega, fun _ j h hj => by omega⟩)
 | succ d ih =>
  intro n m hn h0 h1; have hlt : n < l.length := by omega
  have hw : wrap64 ((n : Int) + 1) = ((n + 1 : Nat) : Int) := by rw [w64 (by omega)]; omega
  have hx := hs.2 _ (List.getElem_mem hlt); obtain ⟨t, e, e1, e2⟩ := szSa l[n] hx.1 hx.2.1 hx.2.2 m h0 h1; refine dr1 ?_; simp only [laws_szSaS.l0, hw, rd_lsa l n hlt]; refine drP (by omega) (drP (by omega) (drS e (drI (fun c => drR ⟨by omega, by omega⟩) (fun c => ?_)))); refine (ih (n + 1) t (by omega) (by omega) (by omega)).imp fun r hr => ⟨by omega, fun hr0 j h hj => ?_⟩
  by_cases c2 : j = n
  ·subst c2; exact e2 (by omega)
  ·exact hr.2 hr0 j h (by omega)
theorem szSaS (l : List Sl) (hs : sizesOk l) (m : Int) (h0 : 0 ≤ m) (h1 : m ≤ 1048576) : Dr (fun k => laws_szSaS.f k l m) (fun t => t ≤ m ∧ (0 ≤ t → l.length ≤ 1048576 ∧ ∀ x ∈ l, x.f9.f1.length ≤ 1048576)) := by
 have hl := hs.1; simp only [laws_szSaS.f]; rw [w64 (by omega)]; refine drI (fun c => drR ⟨by omega, by omega⟩) (fun c => ?_); refine (szSaS_loop l (by omega) hs l.length 0 (m - (l.length : Int)) (by omega) (by omega) (by omega)).imp fun r hr => ⟨by omega, fun hr0 => ⟨by omega, fun x hx => ?_⟩⟩
 obtain ⟨j, hj, rfl⟩ := List.getElem_of_mem hx; exact hr.2 hr0 j hj (by omega)
theorem toInts_loop (l : List Int) (hl : l.length ≤ 1073741824) (d : Nat) : ∀ (n : Nat) (ys : List Int), n + d = l.length → ys.length = l.length → (∀ j, j < n → ys[j]? = l[j]?) → (∃ K_, ∀ k, K_ ≤ k → laws_toIntS.l0 k l ys (n : Int) = some l) := by
 induction d with
 | zero =>
  intro n ys hn hy hj; refine ev1 ?_; simp only [laws_toIntS.l0]; refine evN (by omega) (evR ?_); apply List.ext_getElem?
  intro i; by_cases c : i < n
  ·exact hj i c
  ·rw [List.getElem?_eq_none (by omega), List.getElem?_eq_none (by omega)]
 | succ d ih =>
  intro n ys hn hy hj; have hlt : n < l.length := by omega
  have hw : wrap64 ((n : Int) + 1) = ((n + 1 : Nat) : Int) := by rw [w64 (by omega)]; omega
  refine ev1 ?_; simp only [laws_toIntS.l0, hw, rd_int l n hlt, Int.toNat_natCast]; refine evP (by omega) (evP (by omega) (evP (by omega) (ih (n + 1) (ys.set n l[n]) (by omega) (by simpa using hy) (fun j hj2 => ?_)))); by_cases c : j = n
  ·subst c
   rw [List.getElem?_set_self (by omega), List.getElem?_eq_getElem hlt]
  ·rw [List.getElem?_set_ne (by omega)]
   exact hj j (by omega)
theorem toInts (l : List Int) (hl : l.length ≤ 1073741824) : (∃ K_, ∀ k, K_ ≤ k → laws_toIntS.f k l = some l) := by
 simp only [laws_toIntS.f, Int.toNat_natCast]; exact evP (by omega) (evP (by omega) (toInts_loop l hl l.length 0 _ (by omega) (by simp) (fun j h => absurd h (by omega))))
def convSa (x : Sl) : Sa := ⟨x.f0, x.f1, x.f2, x.f3, x.f4, x.f5, x.f6, x.f7, x.f8, ⟨x.f9.f0, x.f9.f1⟩⟩
theorem toSa (x : Sl) (hl : x.f9.f1.length ≤ 1073741824) : (∃ K_, ∀ k, K_ ≤ k → laws_toSa.f k x.f0 x.f1 x.f2 x.f3 x.f4 x.f5 x.f6 x.f7 x.f8 x.f9.f0 x.f9.f1 = some (x.f0, x.f1, x.f2, x.f3, x.f4, x.f5, x.f6, x.f7, x.f8, x.f9.f0, x.f9.f1)) := by
 simp only [laws_toSa.f, laws_toWindow.f]; exact evB (evB (toInts _ hl) (evR rfl)) (evR rfl)
theorem toSaS_loop (l : List Sl) (hl : l.length ≤ 1048576) (hx : ∀ x ∈ l, x.f9.f1.length ≤ 1048576) (d : Nat) : ∀ (n : Nat) (ys : List Sa), n + d = l.length → ys.length = l.length → (∀ j, j < n → ys[j]? = (l.map convSa)[j]?) → (∃ K_, ∀ k, K_ ≤ k → laws_toSaS.l0 k l ys (n : Int) = some (l.map convSa)) := by
 induction d with
 | zero =>
  intro n ys hn hy hj; refine ev1 ?_; simp only [laws_toSaS.l0]; refine evN (by omega) (evR ?_); apply List.ext_getElem?
  intro i; by_cases c : i < n
  ·exact hj i c
  ·rw [List.getElem?_eq_none (by omega), List.getElem?_eq_none (by simp; omega)]
 | succ d ih =>
  intro n ys hn hy hj; have hlt : n < l.length := by omega
  have hw : wrap64 ((n : Int) + 1) = ((n + 1 : Nat) : Int) := by rw [w64 (by omega)]; omega
  have hb := hx _ (List.getElem_mem hlt); refine ev1 ?_; simp only [laws_toSaS.l0, hw, rd_lsa l n hlt, Int.toNat_natCast]; refine evP (by omega) (evP (by omega) (evB (toSa l[n] (by omega)) (evP (by omega) (ih (n + 1) (ys.set n (convSa l[n])) (by omega) (by simpa using hy) (fun j hj2 => ?_))))); by_cases c : j = n
  ·subst c
   rw [List.getElem?_set_self (by omega), List.getElem?_map, List.getElem?_eq_getElem hlt]; rfl
  ·rw [List.getElem?_set_ne (by omega)]
   exact hj j (by omega)
theorem toSaS (l : List Sl) (hl : l.length ≤ 1048576) (hx : ∀ x ∈ l, x.f9.f1.length ≤ 1048576) : (∃ K_, ∀ k, K_ ≤ k → laws_toSaS.f k l = some (l.map convSa)) := by
 simp only [laws_toSaS.f, Int.toNat_natCast]; exact evP (by omega) (evP (by omega) (toSaS_loop l hl hx l.length 0 _ (by omega) (by simp) (fun j h => absurd h (by omega))))
theorem toGate (now : Int) (rs : List S63) (size : Int) (ss : List S125) (os is : List Sl) (h1 : rs.length ≤ 1048576) (h2 : ss.length ≤ 1048576) (h3 : os.length ≤ 1048576) (h4 : ∀ x ∈ os, x.f9.f1.length ≤ 1048576) (h5 : is.length ≤ 1048576) (h6 : ∀ x ∈ is, x.f9.f1.length ≤ 1048576) :
  (∃ K_, ∀ k, K_ ≤ k → laws_toGate.f k now rs size ss os is = some (now, rs.map convRule, size, ss.map convSeen, os.map convSa, is.map convSa)) := by
 simp only [laws_toGate.f]; exact evB (toRule rs (by omega)) (evB (toCache size ss (by omega)) (evB (toSaS os h3 h4) (evB (toSaS is h5 h6) (evR rfl))))
theorem szGate (now : Int) (rs : List S63) (size : Int) (ss : List S125) (os is : List Sl) (h1 : rs.length ≤ 9223372036854775807) (h2 : ss.length ≤ 9223372036854775807) (h3 : sizesOk os) (h4 : sizesOk is) (m : Int) (h0 : 0 ≤ m) (hm : m ≤ 1048576) :
  Dr (fun k => laws_szGate.f k now rs size ss os is m) (fun t => t ≤ m ∧ (0 ≤ t → rs.length ≤ 1048576 ∧ ss.length ≤ 1048576 ∧ (os.length ≤ 1048576 ∧ ∀ x ∈ os, x.f9.f1.length ≤ 1048576) ∧ (is.length ≤ 1048576 ∧ ∀ x ∈ is, x.f9.f1.length ≤ 1048576))) := by
 simp only [laws_szGate.f]; refine drS (szgRule rs h1 m h0 hm) ?_; by_cases c : (rs.length : Int) ≤ m
 ·rw [if_pos c]
  refine drN (by omega) (drS (szCache size ss h2 _ (by omega) (by omega)) ?_); by_cases c2 : (ss.length : Int) ≤ m - (rs.length : Int)
  ·rw [if_pos c2]
   refine drN (by omega) ?_; obtain ⟨t1, e1, q1⟩ := szSaS os h3 (m - (rs.length : Int) - (ss.length : Int)) (by omega) (by omega); refine drB e1 (drI (fun c3 => drR ⟨by omega, by omega⟩) (fun c3 => ?_)); obtain ⟨t2, e2, q2⟩ := szSaS is h4 t1 (by omega) (by omega); exact drB e2 (drI (fun c4 => drR ⟨by omega, by omega⟩) (fun c4 => drR ⟨by omega, fun h => ⟨by omega, by omega, q1.2 (by omega), q2.2 (by omega)⟩⟩))
  ·rw [if_neg c2]
   exact drP (by omega) (drR ⟨by omega, by omega⟩)
 ·rw [if_neg c]
  exact drP (by omega) (drR ⟨by omega, by omega⟩)
/-- Keys whose numbers seen are few. -/
def fewOk (l : List Sa) : Prop := l.length ≤ 1048576 ∧ ∀ x ∈ l, x.f9.f1.length ≤ 1048576
theorem fewOk.wins {l : List Sa} (h : fewOk l) : winsOk l := ⟨by have := h.1; omega, fun x hx => by have := h.2 x hx; omega⟩
theorem fewOk.filter {l : List Sa} (h : fewOk l) (p : Sa → Bool) : fewOk (l.filter p) := ⟨Nat.le_trans (List.length_filter_le _ _) h.1, fun x hx => h.2 x (List.mem_filter.1 hx).1⟩
theorem copies_loop (l : List Sa) (h : fewOk l) (d : Nat) : ∀ (n : Nat) (acc : List Sa), n + d = l.length → acc = l.take n → (∃ K_, ∀ k, K_ ≤ k → impl_copies.l0 k acc l (l.length : Int) (n : Int) = some l) := by
 have hl := h.1
 induction d with
 | zero =>
  intro n acc hn ha; refine ev1 ?_; simp only [impl_copies.l0]; refine evN (by omega) (evR ?_); rw [ha, List.take_of_length_le (by omega)]
 | succ d ih =>
  intro n acc hn ha; have hlt : n < l.length := by omega
  have hw : wrap64 ((n : Int) + 1) = ((n + 1 : Nat) : Int) := by rw [w64 (by omega)]; omega
  have hx := h.2 l[n] (List.getElem_mem hlt); refine ev1 ?_; simp only [impl_copies.l0, rd_sa l n hlt, hw, impl_Sa_copied.f, impl_Window_copied.f, slices_Clone_int.f]; rw [if_pos (show l[n].f9.f1.length < 17592186044416 by omega)]; simp only [Option.bind_some]; refine evP (by omega) (evP (by omega) (evP (by omega) (evP (by rw [ha, List.length_take]; omega) (ih (n + 1) _ (by omega) ?_)))); rw [ha, List.take_succ_eq_append_getElem hlt]
theorem copies (l : List Sa) (h : fewOk l) : (∃ K_, ∀ k, K_ ≤ k → impl_copies.f k l = some l) := by
 simp only [impl_copies.f]; exact copies_loop l h l.length 0 [] (by omega) rfl
theorem copy9 (x : Sa) (h : x.f9.f1.length ≤ 1048576) : spec_l9Copy.f x.f0 x.f1 x.f2 x.f3 x.f4 x.f5 x.f6 x.f7 x.f8 x.f9.f0 x.f9.f1 = some (x.f0, x.f1, x.f2, x.f3, x.f4, x.f5, x.f6, x.f7, x.f8, x.f9.f0, x.f9.f1) := by
 simp only [spec_l9Copy.f, spec_l7Copy.f, Option.bind_some, List.length_nil, List.nil_append]; rw [if_pos (by omega)]; rfl
theorem sas_loop (l : List Sa) (h : fewOk l) (d : Nat) : ∀ (n : Nat) (acc : List Sa), n + d = l.length → acc = l.take n → (∃ K_, ∀ k, K_ ≤ k → spec_l10Sas.l0 k l acc (n : Int) = some l) := by
 have hl := h.1
 induction d with
 | zero =>
  intro n acc hn ha; refine ev1 ?_; simp only [spec_l10Sas.l0]; refine evN (by omega) (evR ?_); rw [ha, List.take_of_length_le (by omega)]
 | succ d ih =>
  intro n acc hn ha; have hlt : n < l.length := by omega
  have hw : wrap64 ((n : Int) + 1) = ((n + 1 : Nat) : Int) := by rw [w64 (by omega)]; omega
  refine ev1 ?_; simp only [spec_l10Sas.l0, rd_sa l n hlt, hw, copy9 l[n] (h.2 l[n] (List.getElem_mem hlt)), Option.bind_some]; refine evP (by omega) (evP (by omega) (evP (by rw [ha, List.length_take]; omega) (ih (n + 1) _ (by omega) ?_))); rw [ha, List.take_succ_eq_append_getElem hlt]
theorem sas (l : List Sa) (h : fewOk l) : (∃ K_, ∀ k, K_ ≤ k → spec_l10Sas.f k l = some l) := by
 simp only [spec_l10Sas.f]; exact sas_loop l h l.length 0 [] (by omega) rfl
section
variable (now : Int) (rs : List Ru) (size : Int) (ss : List Se) (os is : List Sa)
theorem copiedG (h1 : rs.length ≤ 1048576) (h2 : ss.length ≤ 1048576) (ho : fewOk os) (hi : fewOk is) : (∃ K_, ∀ k, K_ ≤ k → impl_Gate_copied.f k now rs size ss os is = some (now, rs, size, ss, os, is)) := by
 simp only [impl_Gate_copied.f, slices_Clone_Rule.f, slices_Clone_Seen.f]; rw [if_pos (by omega), if_pos (by omega)]; simp only [Option.bind_some]; exact evB (copies os ho) (evB (copies is hi) (evR rfl))
theorem copy10 (h1 : rs.length ≤ 1048576) (h2 : ss.length ≤ 1048576) (ho : fewOk os) (hi : fewOk is) : (∃ K_, ∀ k, K_ ≤ k → spec_l10Copy.f k now rs size ss os is = some (now, rs, size, ss, os, is)) := by
 simp only [spec_l10Copy.f, Option.bind_some, List.length_nil, List.nil_append]; exact evP (by omega) (evP (by omega) (evB (sas os ho) (evB (sas is hi) (evR rfl))))
end
theorem markText_loop (d : Nat) : ∀ (x : Int) (s : ByteArray), 0 ≤ x → x < 10 ^ d → x ≤ 1000000000000000 → s.size + d ≤ 1000000 → Dr (fun k => laws_markText.l0 k x s) (fun _ => True) := by
 induction d with
 | zero =>
  intro x s h0 h1 h2 hs; refine dr1 ?_; simp only [laws_markText.l0]; have : (10 : Int) ^ 0 = 1 := rfl; exact drN (by omega) (drP (by omega) (drR trivial))
 | succ d ih =>
  intro x s h0 h1 h2 hs; refine dr1 ?_; simp only [laws_markText.l0, Option.bind_some]; refine drI (fun c => drP (by rw [strOfNums_size]; simp; omega) ?_) (fun c => drP (by omega) (drR trivial)); have hp : (10 : Int) ^ (d + 1) = 10 ^ d * 10 := Int.pow_succ 10 d; have hq : Int.tdiv x 10 = x / 10 := Int.tdiv_eq_ediv_of_nonneg h0; rw [hq, w64 (by omega)]; exact ih (x / 10) _ (by omega) (by rw [hp] at h1; omega) (by omega) (by rw [ByteArray.size_append, strOfNums_size]; simp; omega)
theorem markText (a : Int) (h0 : 0 ≤ a) (h1 : a ≤ 1000000000000000) : ∃ s, (∃ K_, ∀ k, K_ ≤ k → laws_markText.f k a = some s) := by
 have h : Dr (fun k => laws_markText.f k a) (fun _ => True) := by
  simp only [laws_markText.f]; exact drI (fun c => drR trivial) (fun c => markText_loop 20 a _ h0 (by omega) h1 (by show (0 : Nat) + 20 ≤ 1000000; omega))
 obtain ⟨s, e, _⟩ := h; exact ⟨s, e⟩
theorem nxw (a : Int) (h0 : 0 ≤ a) (h1 : a ≤ 2000000000000000) : nx a = a + 1 := w64 (by omega)
theorem four {a b c d k : Nat} (h : a + b + c + d ≤ k) : a ≤ k ∧ b ≤ k ∧ c ≤ k ∧ d ≤ k := by omega
theorem markSa (l : List Sa) : ∀ a : Int, (∀ x ∈ l, x.f9.f1.length ≤ 1048576) → 0 ≤ a → a + 1048586 * (l.length : Int) ≤ 900000000000000 →
  ∃ r : Int × List Sa, (∃ K_, ∀ k, K_ ≤ k → mkSaS.f k l a = some r) ∧ a ≤ r.1 ∧ r.1 ≤ a + 1048586 * (l.length : Int) ∧ ∃ K, ∀ k, K ≤ k → heldP k r.2 a r.1 := by
 induction l with
 | nil => exact fun a _ h0 _ => ⟨(a, []), evR rfl, Int.le_refl _, by simp, 0, fun _ _ => rfl⟩
 | cons x xs ih =>
  intro a hx h0 h1; rw [List.length_cons] at h1; have hlx := hx x (List.mem_cons_self ..); obtain ⟨s2, e2⟩ := markText (a + 2) (by omega) (by omega); obtain ⟨s3, e3⟩ := markText (a + 3) (by omega) (by omega); obtain ⟨⟨q1, q2⟩, eq, g1, g2, g3⟩ := markInt x.f9.f1 (a + 10) (by omega) (by omega) (by omega); simp only [] at g1 g2 g3; obtain ⟨⟨p1, p2⟩, ep, b1, b2, K, hK⟩ := ih q1 (fun y hy => hx y (List.mem_cons_of_mem _ hy)) (by omega) (by omega); have eh := heldInt q2 (a + 10) (by omega) (by omega) (by omega) g3; have c1 : a ≤ p1 := Int.le_trans (by omega) b1; have c2 : p1 ≤ a + 1048586 * ((xs.length + 1 : Nat) : Int) := Int.le_trans b2 (by omega); have c3 : 0 ≤ q1 := by omega
  have n1 : nx a = a + 1 := nxw a (by omega) (by omega); have n2 : nx (a + 1) = a + 2 := by rw [nxw (a + 1) (by omega) (by omega)]; omega
  have n3 : nx (a + 2) = a + 3 := by rw [nxw (a + 2) (by omega) (by omega)]; omega
  have n4 : nx (a + 3) = a + 4 := by rw [nxw (a + 3) (by omega) (by omega)]; omega
  have n5 : nx (a + 4) = a + 5 := by rw [nxw (a + 4) (by omega) (by omega)]; omega
  have n6 : nx (a + 5) = a + 6 := by rw [nxw (a + 5) (by omega) (by omega)]; omega
  have n7 : nx (a + 6) = a + 7 := by rw [nxw (a + 6) (by omega) (by omega)]; omega
  have n8 : nx (a + 7) = a + 8 := by rw [nxw (a + 7) (by omega) (by omega)]; omega
  have n9 : nx (a + 8) = a + 9 := by rw [nxw (a + 8) (by omega) (by omega)]; omega
  have n10 : nx (a + 9) = a + 10 := by rw [nxw (a + 9) (by omega) (by omega)]; omega
  refine ⟨(p1, (⟨a, a + 1, s2, s3, a + 4, a + 5, a + 6, a + 7, a + 8, ⟨a + 9, q2⟩⟩ : Sa) :: p2), ?_, c1, by rw [List.length_cons]; exact c2, ?_⟩
  ·simp only [mkSaS.f, n1, n2, n3, n4, n5, n6, n7, n8, n9, n10]
   exact evB e2 (evB e3 (evB eq (evB ep (evR rfl))))
  ·obtain ⟨K2, e2⟩ := e2
   obtain ⟨K3, e3⟩ := e3; obtain ⟨K4, eh⟩ := eh; refine ⟨K + K2 + K3 + K4, fun k hk => ?_⟩; obtain ⟨z1, z2, z3, z4⟩ := four hk; refine ⟨s2, s3, q2, q1, ?_, ?_, ?_, ?_, c3, hK k z1⟩
   ·simp only [n1, n2]; exact e2 k z2
   ·simp only [n1, n2, n3]; exact e3 k z3
   ·simp only [n1, n2, n3, n4, n5, n6, n7, n8, n9]
   ·simp only [n1, n2, n3, n4, n5, n6, n7, n8, n9, n10]
    rw [eh k z4, g2, g1]
theorem mkRu_spec (l : List Ru) : ∀ a : Int, 0 ≤ a → a + 8 * (l.length : Int) ≤ 900000000000000 → (mkRu.f l a).1 = a + 8 * (l.length : Int) ∧ hdRu (mkRu.f l a).2 a (mkRu.f l a).1 := by
 induction l with
 | nil => exact fun a _ _ => ⟨by simp [mkRu.f], rfl⟩
 | cons x xs ih =>
  intro a h0 h1; rw [List.length_cons] at h1; have n1 : nx (a) = a + 1 := by rw [nxw (a) (by omega) (by omega)]
  have n2 : nx (a + 1) = a + 2 := by rw [nxw (a + 1) (by omega) (by omega)]; omega
  have n3 : nx (a + 2) = a + 3 := by rw [nxw (a + 2) (by omega) (by omega)]; omega
  have n4 : nx (a + 3) = a + 4 := by rw [nxw (a + 3) (by omega) (by omega)]; omega
  have n5 : nx (a + 4) = a + 5 := by rw [nxw (a + 4) (by omega) (by omega)]; omega
  have n6 : nx (a + 5) = a + 6 := by rw [nxw (a + 5) (by omega) (by omega)]; omega
  have n7 : nx (a + 6) = a + 7 := by rw [nxw (a + 6) (by omega) (by omega)]; omega
  have n8 : nx (a + 7) = a + 8 := by rw [nxw (a + 7) (by omega) (by omega)]; omega
  have en : (nx (nx (nx (nx (nx (nx (nx (nx a)))))))) = a + 8 := by simp only [n1, n2, n3, n4, n5, n6, n7, n8]
  obtain ⟨i1, i2⟩ := ih (nx (nx (nx (nx (nx (nx (nx (nx a)))))))) (by rw [en]; omega) (by rw [en]; omega); refine ⟨?_, rfl, i2⟩; show (mkRu.f xs (nx (nx (nx (nx (nx (nx (nx (nx a))))))))).1 = _
  rw [i1, en, List.length_cons]; omega
theorem mkSe_spec (l : List Se) : ∀ a : Int, 0 ≤ a → a + 4 * (l.length : Int) ≤ 900000000000000 → (mkSe.f l a).1 = a + 4 * (l.length : Int) ∧ hdSe (mkSe.f l a).2 a (mkSe.f l a).1 := by
 induction l with
 | nil => exact fun a _ _ => ⟨by simp [mkSe.f], rfl⟩
 | cons x xs ih =>
  intro a h0 h1; rw [List.length_cons] at h1; have n1 : nx (a) = a + 1 := by rw [nxw (a) (by omega) (by omega)]
  have n2 : nx (a + 1) = a + 2 := by rw [nxw (a + 1) (by omega) (by omega)]; omega
  have n3 : nx (a + 2) = a + 3 := by rw [nxw (a + 2) (by omega) (by omega)]; omega
  have n4 : nx (a + 3) = a + 4 := by rw [nxw (a + 3) (by omega) (by omega)]; omega
  have en : (nx (nx (nx (nx a)))) = a + 4 := by simp only [n1, n2, n3, n4]
  obtain ⟨i1, i2⟩ := ih (nx (nx (nx (nx a)))) (by rw [en]; omega) (by rw [en]; omega); refine ⟨?_, rfl, i2⟩; show (mkSe.f xs (nx (nx (nx (nx a))))).1 = _
  rw [i1, en, List.length_cons]; omega
theorem markGt (now : Int) (rs : List Ru) (size : Int) (ss : List Se) (os is : List Sa) (h1 : rs.length ≤ 1048576) (h2 : ss.length ≤ 1048576) (ho : fewOk os) (hi : fewOk is) :
  ∃ r : Int × List Ru × List Se × List Sa × List Sa, (∃ K_, ∀ k, K_ ≤ k → mkGate.f k now rs size ss os is 1 = some r) ∧ 0 ≤ r.1 ∧ r.1 ≤ 900000000000000 ∧ ∃ K, ∀ k, K ≤ k → heldGP k r.2.1 size r.2.2.1 r.2.2.2.1 r.2.2.2.2 1 r.1 := by
 have ho1 := ho.1; have hi1 := hi.1; obtain ⟨g1, j1⟩ := mkRu_spec rs 1 (by omega) (by omega); obtain ⟨g2, j2⟩ := mkSe_spec ss (mkRu.f rs 1).1 (by omega) (by omega); obtain ⟨⟨k3, m3⟩, e3, a3, b3, K3, p3⟩ := markSa os (mkSe.f ss (mkRu.f rs 1).1).1 ho.2 (by omega) (by omega); simp only [] at a3 b3 p3; obtain ⟨⟨k4, m4⟩, e4, a4, b4, K4, p4⟩ := markSa is k3 hi.2 (by omega) (by omega); simp only [] at a4 b4 p4; refine ⟨(k4, (mkRu.f rs 1).2, (mkSe.f ss (mkRu.f rs 1).1).2, m3, m4), ?_, by simp only []; omega, by simp only []; omega, K3 + K4, fun k hk => ⟨(mkRu.f rs 1).1, (mkSe.f ss (mkRu.f rs 1).1).1, k3, j1, by omega, j2, by omega, p3 k (by omega), by omega, p4 k (by omega), by omega⟩⟩; simp only [mkGate.f]; exact evB e3 (evB e4 (evR rfl))
/-- Strictly rising. -/
def Rise (l : List Int) : Prop := l.Pairwise (fun a b => a < b)
theorem rise_ext : ∀ {l m : List Int}, Rise l → Rise m → (∀ x, x ∈ l ↔ x ∈ m) → l = m
 | [], [], _, _, _ => rfl
 | [], y :: m, _, _, h => by have := (h y).2 (List.mem_cons_self ..); cases this
 | x :: l, [], _, _, h => by have := (h x).1 (List.mem_cons_self ..); cases this
 | x :: l, y :: m, hl, hm, h => by
  obtain ⟨h1, h2⟩ := List.pairwise_cons.1 hl; obtain ⟨h3, h4⟩ := List.pairwise_cons.1 hm
  have e : x = y := by
   have a := (h x).1 (List.mem_cons_self ..); have b := (h y).2 (List.mem_cons_self ..); rcases List.mem_cons.1 a with a | a
   ·exact a
   ·rcases List.mem_cons.1 b with b | b
    ·exact b.symm
    ·have := h1 y b; have := h3 x a; omega
  subst e; rw [rise_ext h2 h4 (fun z => ?_)]; constructor
  ·intro hz
   rcases List.mem_cons.1 ((h z).1 (List.mem_cons_of_mem _ hz)) with e | e
   ·have := h1 z hz; omega
   ·exact e
  ·intro hz
   rcases List.mem_cons.1 ((h z).2 (List.mem_cons_of_mem _ hz)) with e | e
   ·have := h3 z hz; omega
   ·exact e
/-- A number put among others. -/
def numF : List Int → Int → List Int
 | [], n => [n]
 | x :: l, n => if x < n then x :: numF l n else if x = n then x :: l else n :: x :: l
theorem mem_numF {n y : Int} : ∀ {l : List Int}, y ∈ numF l n ↔ y = n ∨ y ∈ l
 | [] => by simp [numF]
 | x :: l => by
  unfold numF; split
  ·simp only [List.mem_cons, mem_numF (l := l)]
   constructor
   ·rintro (h | h | h) <;> simp [h]
   ·rintro (h | h | h) <;> simp [h]
  ·split
   ·rename_i e
    subst e; simp
   ·simp
theorem rise_numF {n : Int} : ∀ {l : List Int}, Rise l → Rise (numF l n)
 | [], _ => List.pairwise_cons.2 ⟨by simp, List.Pairwise.nil⟩
 | x :: l, h => by
  obtain ⟨h1, h2⟩ := List.pairwise_cons.1 h; unfold numF; split
  ·refine List.pairwise_cons.2 ⟨fun z hz => ?_, rise_numF h2⟩
   rcases mem_numF.1 hz with e | e
   ·rw [e]; assumption
   ·exact h1 z e
  ·split
   ·exact h
   ·refine List.pairwise_cons.2 ⟨fun z hz => ?_, h⟩
    rcases List.mem_cons.1 hz with e | e
    ·omega
    ·have := h1 z e; omega
/-- Numbers, each put among those ahead of it. -/
def numsF (l ns : List Int) : List Int := ns.foldl numF l
theorem rise_numsF : ∀ {ns l : List Int}, Rise l → Rise (numsF l ns)
 | [], _, h => h
 | _ :: ns, _, h => rise_numsF (ns := ns) (rise_numF h)
theorem mem_numsF {y : Int} : ∀ {ns l : List Int}, y ∈ numsF l ns ↔ y ∈ l ∨ y ∈ ns
 | [], l => by simp [numsF]
 | n :: ns, l => by
  show y ∈ numsF (numF l n) ns ↔ _
  rw [mem_numsF, mem_numF]; simp only [List.mem_cons]; constructor
  ·rintro ((h | h) | h) <;> simp [h]
  ·rintro (h | h | h) <;> simp [h]
theorem rise_one (n : Int) : Rise [n] := List.pairwise_cons.2 ⟨by simp, List.Pairwise.nil⟩
/-- Sorted, each once. -/
def dedF : List Int → List Int
 | [] => []
 | [x] => [x]
 | x :: y :: l => if x = y then dedF (y :: l) else x :: dedF (y :: l)
theorem mem_ded {z : Int} : ∀ {l : List Int}, z ∈ dedF l ↔ z ∈ l
 | [] => by simp [dedF]
 | [x] => by simp [dedF]
 | x :: y :: l => by
  unfold dedF; split
  ·rename_i e
   subst e; rw [mem_ded]; simp
  ·simp only [List.mem_cons, mem_ded (l := y :: l)]
theorem rise_ded : ∀ {l : List Int}, l.Pairwise (fun a b => a ≤ b) → Rise (dedF l)
 | [], _ => List.Pairwise.nil
 | [x], _ => rise_one x
 | x :: y :: l, h => by
  obtain ⟨h1, h2⟩ := List.pairwise_cons.1 h; have ih := rise_ded h2; unfold dedF; split
  ·exact ih
  ·rename_i e
   refine List.pairwise_cons.2 ⟨fun z hz => ?_, ih⟩; have hz' := mem_ded.1 hz; have a := h1 y (List.mem_cons_self ..); rcases List.mem_cons.1 hz' with e2 | e2
   ·omega
   ·have := (List.pairwise_cons.1 h2).1 z e2
    omega
/-- Sorting, and each once, is putting one by one. -/
def sortF (l : List Int) : List Int := l.mergeSort fun x y => decide (x ≤ y)
theorem sortF_le (l : List Int) : (sortF l).Pairwise (fun a b => a ≤ b) := by
 have := List.pairwise_mergeSort (le := fun x y : Int => decide (x ≤ y)) (fun a b c h1 h2 => by simp only [decide_eq_true_eq] at *; omega) (fun a b => by simp only [Bool.or_eq_true, decide_eq_true_eq]; omega) l; exact this.imp (fun h => by simpa using h)
theorem mem_sortF {l : List Int} {x : Int} : x ∈ sortF l ↔ x ∈ l := by unfold sortF; exact List.mem_mergeSort
theorem ded_sort {l m : List Int} (hm : Rise m) (h : ∀ x, x ∈ m ↔ x ∈ l) : dedF (sortF l) = m :=
 rise_ext (rise_ded (sortF_le l)) hm (fun x => by rw [mem_ded, mem_sortF, h])
def tailC (x : Int) (t : List Int) : List Int := ((List.range t.length).filter (fun j => decide ((x :: t)[j + 1]! ≠ (x :: t)[j]!))).map (fun j => (x :: t)[j + 1]!)
theorem tailC_cons (x y : Int) (l : List Int) : tailC x (y :: l) = (if y ≠ x then [y] else []) ++ tailC y l := by
 unfold tailC; rw [List.length_cons, List.range_succ_eq_map, List.filter_cons, List.filter_map]; by_cases e : y = x <;> simp [e, Function.comp_def]
theorem ded_tail : ∀ (x : Int) (t : List Int), dedF (x :: t) = x :: tailC x t
 | x, [] => rfl
 | x, y :: l => by
  unfold dedF; rw [tailC_cons, ded_tail y l]; by_cases e : x = y
  ·subst e; simp
  ·rw [if_neg e, if_pos (Ne.symm e)]; rfl
theorem compact_ded : ∀ l : List Int, Lib.compact l = dedF l
 | [] => rfl
 | x :: t => by
  rw [ded_tail]; unfold Lib.compact Lib.compactUpTo tailC; rw [List.length_cons, List.range_succ_eq_map, List.filter_cons]; have h0 : Lib.keeps (x :: t).toArray 0 = true := by simp [Lib.keeps]
  have hs : ∀ j, Lib.keeps (x :: t).toArray (j + 1) = decide ((x :: t)[j + 1]! ≠ (x :: t)[j]!) := fun j => by simp [Lib.keeps]
  rw [h0, if_pos rfl, List.filter_map, List.map_cons, List.map_map]; simp only [Function.comp_def, Nat.succ_eq_add_one, hs]; simp
theorem numF_len (l : List Int) (n : Int) : (numF l n).length ≤ l.length + 1 := by
 induction l with
 | nil => simp [numF]
 | cons x l ih =>
  unfold numF; split
  ·simp only [List.length_cons]; omega
  ·split
   ·simp only [List.length_cons]; omega
   ·simp only [List.length_cons]; omega
theorem rd_num (l : List Int) (n : Nat) (h : n < l.length) : rd l (n : Int) = l[n] := by
 unfold rd; rw [List.getD_eq_getElem?_getD, Int.toNat_natCast, List.getElem?_eq_getElem h]; rfl
theorem spec_num_loop (l : List Int) (v : Int) (hl : l.length ≤ 1000000000) (d : Nat) : ∀ n : Nat, n + d = l.length → (∃ K_, ∀ k, K_ ≤ k → spec_l3Num.l0 k l v (n : Int) = some (l.take n ++ numF (l.drop n) v)) := by
 induction d with
 | zero =>
  intro n hn; refine ev1 ?_; simp only [spec_l3Num.l0]; have e : l.take n = l := List.take_of_length_le (by omega); have e2 : l.drop n = [] := List.drop_eq_nil_of_le (by omega); refine evN (by omega) (evS rfl (evP (by omega) (evP (by omega) ?_))); rw [Int.toNat_natCast, e, e2]; refine evS rfl (evP (by simp; omega) (evS rfl (evS rfl (evP (by simp; omega) (evS rfl (evS rfl (evP (by simp; omega) (evR ?_)))))))); simp [numF]
 | succ d ih =>
  intro n hn; have hlt : n < l.length := by omega
  have hw : wrap64 ((n : Int) + 1) = ((n + 1 : Nat) : Int) := by rw [w64 (by omega)]; omega
  refine ev1 ?_; simp only [spec_l3Num.l0]; refine evP (by omega) (evP (by omega) ?_); rw [rd_num l n hlt, hw, List.drop_eq_getElem_cons hlt]; refine evI (fun c => ?_) (fun c => ?_)
  ·have h := ih (n + 1) (by omega)
   rw [List.take_succ_eq_append_getElem hlt] at h; simp only [numF, if_pos c]; rw [List.append_assoc] at h; exact h
  ·refine evI (fun c2 => ?_) (fun c2 => ?_)
   ·refine evR ?_
    simp only [numF, if_neg c, if_pos c2]; rw [← List.drop_eq_getElem_cons hlt, List.take_append_drop]
   ·refine evS rfl (evP (by omega) ?_)
    rw [Int.toNat_natCast]; refine evS rfl (evP (by simp; omega) (evS rfl (evS rfl (evP (by simp; omega) (evS rfl (evS rfl (evP (by simp; omega) (evR ?_)))))))); simp only [numF, if_neg c, if_neg c2]; rw [← List.drop_eq_getElem_cons hlt]; simp
theorem spec_num (l : List Int) (v : Int) (hl : l.length ≤ 1000000000) : (∃ K_, ∀ k, K_ ≤ k → spec_l3Num.f k l v = some (numF l v)) := spec_num_loop l v hl l.length 0 (by omega)
/-- Where something may change about a block: where it begins, and behind its end. -/
def edgeB (b m : Int) : List Int := if b + sz m ≤ 4294967295 then [b, b + sz m] else [b]
theorem edgeB_len (b m : Int) : (edgeB b m).length ≤ 2 := by unfold edgeB; split <;> simp
theorem mem_edgeB {b m x : Int} : x ∈ edgeB b m ↔ x = b ∨ b + sz m ≤ 4294967295 ∧ x = b + sz m := by
 unfold edgeB; split
 ·rename_i c; simp [c]
 ·rename_i c; simp [c]
theorem edgeB_in {b m x : Int} (h : bok b m) (hx : x ∈ edgeB b m) : 0 ≤ x ∧ x ≤ 4294967295 := by
 have := sz_pos m; obtain ⟨h0, h1, _⟩ := h; rcases mem_edgeB.1 hx with e | ⟨e, e2⟩ <;> omega
def edgesF (bs : List S57) : List Int := numsF [0] (bs.flatMap fun b => edgeB b.f0 b.f1)
theorem rise_edgesF (bs : List S57) : Rise (edgesF bs) := rise_numsF (rise_one 0)
theorem rd_bk (l : List S57) (n : Nat) (h : n < l.length) : rd_T57 l (n : Int) = l[n] := by
 unfold rd_T57; rw [List.getD_eq_getElem?_getD, Int.toNat_natCast, List.getElem?_eq_getElem h]; rfl
theorem sort_ded (l : List Int) (h0 : 0 < l.length) (h1 : l.length ≤ 1000000000) : ((slices_Sort_int.f l).bind fun t => (slices_Compact_int.f t).bind fun t => some t) = some (dedF (sortF l)) := by
 have hl : (sortF l).length = l.length := by unfold sortF; exact List.length_mergeSort _
 unfold slices_Sort_int.f; rw [if_pos (by omega), if_pos (by omega), Option.bind_some]; show ((slices_Compact_int.f (sortF l)).bind fun t => some t) = _
 unfold slices_Compact_int.f; rw [if_pos (by omega), Option.bind_some, compact_ded]
theorem impl_bounds_loop (l : List S57) (hv : ∀ b ∈ l, bok b.f0 b.f1) (hl : l.length ≤ 100000000) (d : Nat) : ∀ (n : Nat) (acc : List Int), n + d = l.length → 0 < acc.length → acc.length + 2 * d ≤ 300000000 → (∃ K_, ∀ k, K_ ≤ k → impl_bounds.l0 k acc l (l.length : Int) (n : Int) = some (dedF (sortF (acc ++ (l.drop n).flatMap fun b => edgeB b.f0 b.f1)))) := by
 induction d with
 | zero =>
  intro n acc hn h0 ha; refine ev1 ?_; simp only [impl_bounds.l0]; rw [List.drop_eq_nil_of_le (by omega), List.flatMap_nil, List.append_nil]; exact evN (by omega) ⟨0, fun k _ => sort_ded acc h0 (by omega)⟩
 | succ d ih =>
  intro n acc hn h0 ha; have hlt : n < l.length := by omega
  have hw : wrap64 ((n : Int) + 1) = ((n + 1 : Nat) : Int) := by rw [w64 (by omega)]; omega
  have hb := hv l[n] (List.getElem_mem hlt); have hs := sz_bd hb.2.2.1; have hla := impl_last hb.1 (by have := hb.2.1; omega) hb.2.2.1 hb.2.2.2.1; have hb2 := hb.2.1; have hb1 := hb.1; refine ev1 ?_; simp only [impl_bounds.l0]; rw [rd_bk l n hlt, hw, List.drop_eq_getElem_cons hlt, List.flatMap_cons]; refine evP (by omega) (evP (by omega) (evP (by omega) (evP (by omega) (evS rfl (evS hla (evI (fun c => ?_) (fun c => ?_)))))))
  ·have e : wrap64 (l[n].f0 + sz l[n].f1 - 1 + 1) = l[n].f0 + sz l[n].f1 := by rw [w64 (by omega)]; omega
   have h := ih (n + 1) (acc ++ [l[n].f0] ++ [l[n].f0 + sz l[n].f1]) (by omega) (by simp) (by simp; omega); refine evS hla (evP (by simp; omega) ?_); rw [e]; unfold edgeB; rw [if_pos (by omega)]; rw [List.append_assoc, List.append_assoc] at h; rw [List.append_assoc]; exact h
  ·have h := ih (n + 1) (acc ++ [l[n].f0]) (by omega) (by simp) (by simp; omega)
   unfold edgeB; rw [if_neg (by omega)]; rw [List.append_assoc] at h; exact h
theorem impl_bounds (l : List S57) (hv : ∀ b ∈ l, bok b.f0 b.f1) (hl : l.length ≤ 100000000) : (∃ K_, ∀ k, K_ ≤ k → impl_bounds.f k l = some (edgesF l)) := by
 have h := impl_bounds_loop l hv hl l.length 0 [0] (by omega) (by simp) (by simp; omega); have e : dedF (sortF ([0] ++ (l.drop 0).flatMap fun b => edgeB b.f0 b.f1)) = edgesF l := ded_sort (rise_edgesF l) (fun x => by rw [edgesF, mem_numsF, List.drop_zero, List.mem_append]); rw [e] at h; exact h
def portE (x : Ru) : List Int := if x.f5 < 65535 then [x.f4, x.f5 + 1] else [x.f4]
def ruleE (d : Nat) (x : Ru) : List Int := if d = 0 then edgeB x.f2.f0 x.f2.f1 else if d = 1 then edgeB x.f3.f0 x.f3.f1 else portE x
def gridE (d : Nat) (l : List Ru) : List Int := numsF [0] (l.flatMap (ruleE d))
theorem numsF_app' (l a b : List Int) : numsF (numsF l a) b = numsF l (a ++ b) := by unfold numsF; rw [List.foldl_append]
theorem numsF_len' (ns : List Int) : ∀ l : List Int, (numsF l ns).length ≤ l.length + ns.length := by
 induction ns with
 | nil => intro l; exact Nat.le_refl _
 | cons n ns ih =>
  intro l; have h := ih (numF l n); have h2 := numF_len l n; show (numsF (numF l n) ns).length ≤ _
  simp only [List.length_cons]; omega
theorem ruleE_len (d : Nat) (x : Ru) : (ruleE d x).length ≤ 2 := by
 unfold ruleE portE; split
 ·exact edgeB_len _ _
 ·split
  ·exact edgeB_len _ _
  ·split <;> simp
theorem rulesE_len (d : Nat) : ∀ l : List Ru, (l.flatMap (ruleE d)).length ≤ 2 * l.length
 | [] => Nat.le_refl _
 | w :: l => by
  rw [List.flatMap_cons, List.length_append, List.length_cons]; have := rulesE_len d l; have h2 := ruleE_len d w; omega
theorem gridE_len (d : Nat) (l : List Ru) : (gridE d l).length ≤ 2 * l.length + 1 := by
 have h1 := numsF_len' (l.flatMap (ruleE d)) [0]; have h2 := rulesE_len d l; unfold gridE; simp only [List.length_singleton] at h1; omega
theorem rise_gridE (d : Nat) (l : List Ru) : Rise (gridE d l) := rise_numsF (rise_one 0)
theorem mem_gridE {d : Nat} {l : List Ru} {x : Int} : x ∈ gridE d l ↔ x = 0 ∨ ∃ r ∈ l, x ∈ ruleE d r := by
 unfold gridE; rw [mem_numsF, List.mem_flatMap, List.mem_singleton]
theorem grid0 (l : List Ru) : edgesF (l.map fun x => x.f2) = gridE 0 l := by
 unfold edgesF gridE; rw [List.flatMap_map]; rfl
theorem grid1 (l : List Ru) : edgesF (l.map fun x => x.f3) = gridE 1 l := by
 unfold edgesF gridE; rw [List.flatMap_map]; rfl
theorem ports_ded (l : List Ru) : dedF (sortF (0 :: l.flatMap portE)) = gridE 2 l := ded_sort (rise_gridE 2 l) (fun x => by
 unfold gridE; rw [mem_numsF, List.mem_singleton, List.mem_cons]
 rfl)
theorem impl_axes_loop (l : List Ru) (hv : ∀ x ∈ l, ruleB x = true) (hl : l.length ≤ 1000000) (d : Nat) : ∀ (n : Nat) (fr tt : List S57) (po : List Int), n + d = l.length → fr = (l.take n).map (fun x => x.f2) → tt = (l.take n).map (fun x => x.f3) → po = 0 :: (l.take n).flatMap portE → (∃ K_, ∀ k, K_ ≤ k → impl_axesOf.l0 k fr tt po l (l.length : Int) (n : Int) = some (gridE 0 l, gridE 1 l, gridE 2 l)) := by
 induction d with
 | zero =>
  intro n fr tt po hn e1 e2 e3; have ht : l.take n = l := List.take_of_length_le (by omega); rw [ht] at e1 e2 e3; subst e1 e2 e3; have hp : (0 :: l.flatMap portE).length ≤ 3000000 := by have := rulesE_len 2 l; simp only [List.length_cons]; have e : l.flatMap (ruleE 2) = l.flatMap portE := rfl; rw [e] at this; omega
  have hs : (sortF (0 :: l.flatMap portE)).length = (0 :: l.flatMap portE).length := by unfold sortF; exact List.length_mergeSort _
  have b1 := impl_bounds (l.map fun x => x.f2) (fun b hb => by obtain ⟨x, hx, rfl⟩ := List.mem_map.1 hb; exact (ruleB_blocks (hv x hx)).1) (by simp; omega); have b2 := impl_bounds (l.map fun x => x.f3) (fun b hb => by obtain ⟨x, hx, rfl⟩ := List.mem_map.1 hb; exact (ruleB_blocks (hv x hx)).2.1) (by simp; omega); refine ev1 ?_; simp only [impl_axesOf.l0]
  have s1 : slices_Sort_int.f (0 :: l.flatMap portE) = some (sortF (0 :: l.flatMap portE)) := by
   unfold slices_Sort_int.f; rw [if_pos (by simp only [List.length_cons]; omega), if_pos (by omega)]; rfl
  have s2 : slices_Compact_int.f (sortF (0 :: l.flatMap portE)) = some (gridE 2 l) := by
   unfold slices_Compact_int.f; rw [if_pos (by rw [hs]; simp only [List.length_cons]; omega), compact_ded, ports_ded]
  refine evN (by omega) (evS s1 (evB b1 (evB b2 (evS s2 (evR ?_))))); rw [grid0, grid1]
 | succ d ih =>
  intro n fr tt po hn e1 e2 e3; have hlt : n < l.length := by omega
  have hw : wrap64 ((n : Int) + 1) = ((n + 1 : Nat) : Int) := by rw [w64 (by omega)]; omega
  have hx := ruleB_blocks (hv _ (List.getElem_mem hlt)); have l1 : fr.length ≤ 1000000 := by rw [e1]; simp; omega
  have l2 : tt.length ≤ 1000000 := by rw [e2]; simp; omega
  have l3 : po.length ≤ 3000000 := by
   have := rulesE_len 2 (l.take n); have e : (l.take n).flatMap (ruleE 2) = (l.take n).flatMap portE := rfl; rw [e, List.length_take] at this; rw [e3, List.length_cons]; omega
  have t1 : fr ++ [l[n].f2] = (l.take (n + 1)).map (fun x => x.f2) := by rw [e1, List.take_succ_eq_append_getElem hlt, List.map_append]; rfl
  have t2 : tt ++ [l[n].f3] = (l.take (n + 1)).map (fun x => x.f3) := by rw [e2, List.take_succ_eq_append_getElem hlt, List.map_append]; rfl
  have t3 : po ++ portE l[n] = 0 :: (l.take (n + 1)).flatMap portE := by rw [e3, List.take_succ_eq_append_getElem hlt, List.flatMap_append]; simp
  refine ev1 ?_; simp only [impl_axesOf.l0]; rw [rd_rule l n hlt, hw]; refine evP (by omega) (evP (by omega) (evP (by omega) (evS rfl (evP (by simp; omega) (evS rfl (evS rfl (evP (by simp; omega) (evS rfl (evS rfl (evP (by simp; omega) (evS rfl (evI (fun c => ?_) (fun c => ?_)))))))))))))
  ·have e5 : portE l[n] = [l[n].f4, wrap64 (l[n].f5 + 1)] := by unfold portE; rw [if_pos c, w64 (by omega)]
   refine evS rfl (evP (by simp; omega) (ih (n + 1) _ _ _ (by omega) t1 t2 ?_)); rw [← t3, e5, List.append_assoc]; rfl
  ·have e5 : portE l[n] = [l[n].f4] := by unfold portE; rw [if_neg c]
   refine ih (n + 1) _ _ _ (by omega) t1 t2 ?_; rw [← t3, e5]
theorem impl_axes (l : List Ru) (hv : ∀ x ∈ l, ruleB x = true) (hl : l.length ≤ 1000000) : (∃ K_, ∀ k, K_ ≤ k → impl_axesOf.f k l = some (gridE 0 l, gridE 1 l, gridE 2 l)) := impl_axes_loop l hv hl l.length 0 [] [] [0] (by omega) rfl rfl rfl
theorem spec_edges_put (l : List Ru) (d : Nat) (out : List Int) (i a b most : Int) (es : List Int) (R : List Int) (he : es = if b < most then [a, b + 1] else [a]) (hb : -1 ≤ b ∧ b ≤ 4611686018427387904) (ho : out.length ≤ 100000000) (h : (∃ K_, ∀ k, K_ ≤ k → spec_l4Edges.l0 k l (d : Int) (numsF out es) (wrap64 (i + 1)) = some R)) :
  (∃ K_, ∀ k, K_ ≤ k → spec_l4Edges.j2 k l (d : Int) out i a b most = some R) := by
 have hl := numF_len out a; refine ev1 ?_; simp only [spec_l4Edges.j2]; refine evB (spec_num _ _ (by omega)) (evI (fun c => ?_) (fun c => ?_))
 ·rw [w64 (n := b + 1) (by omega)]
  rw [if_pos c] at he; subst he; exact evB (spec_num _ _ (by omega)) h
 ·rw [if_neg c] at he
  subst he; exact h
theorem spec_edges4_loop (l : List Ru) (d : Nat) (hd : d < 3) (hv : ∀ x ∈ l, ruleB x = true) (hl : l.length ≤ 1000000) (e : Nat) : ∀ (n : Nat) (out : List Int), n + e = l.length → out.length + 2 * e ≤ 10000000 → (∃ K_, ∀ k, K_ ≤ k → spec_l4Edges.l0 k l (d : Int) out (n : Int) = some (numsF out ((l.drop n).flatMap (ruleE d)))) := by
 induction e with
 | zero =>
  intro n out hn ho; refine ev1 ?_; simp only [spec_l4Edges.l0]; rw [List.drop_eq_nil_of_le (by omega)]; exact evN (by omega) (evR rfl)
 | succ e ih =>
  intro n out hn ho; have hlt : n < l.length := by omega
  have hw : wrap64 ((n : Int) + 1) = ((n + 1 : Nat) : Int) := by rw [w64 (by omega)]; omega
  obtain ⟨h1, h2, h3, h4, h5⟩ := ruleB_blocks (hv _ (List.getElem_mem hlt)); have s1 := sz_bd h1.2.2.1; have s2 := sz_bd h2.2.2.1; have L1 := spec_last (b := l[n].f2.f0) (m := l[n].f2.f1) (by have := h1.1; omega) (by have := h1.2.1; omega) h1.2.2.1 h1.2.2.2.1; have L2 := spec_last (b := l[n].f3.f0) (m := l[n].f3.f1) (by have := h2.1; omega) (by have := h2.2.1; omega) h2.2.2.1 h2.2.2.2.1; have b1 := h1.2.1; have b2 := h2.2.1; have a1 := h1.1; have a2 := h2.1; have hlen := numsF_len' (ruleE d l[n]) out; have hle := ruleE_len d l[n]; have hh := ih (n + 1) (numsF out (ruleE d l[n])) (by omega) (by omega); rw [numsF_app'] at hh; rw [List.drop_eq_getElem_cons hlt, List.flatMap_cons]; have H : (∃ K_, ∀ k, K_ ≤ k → spec_l4Edges.l0 k l (d : Int) (numsF out (ruleE d l[n])) (wrap64 ((n : Int) + 1)) = some (numsF out (ruleE d l[n] ++ (l.drop (n + 1)).flatMap (ruleE d)))) := by rw [hw]; exact hh
  refine ev1 ?_; simp only [spec_l4Edges.l0]; rw [rd_rule l n hlt]; refine evP (by omega) (evP (by omega) ?_); rcases (show d = 0 ∨ d = 1 ∨ d = 2 by omega) with rfl | rfl | rfl
  ·refine evP rfl (evB L1 (ev1 ?_))
   simp only [spec_l4Edges.j1]; refine evN (by omega) (spec_edges_put l 0 out n _ _ _ (ruleE 0 l[n]) _ ?_ (by omega) (by omega) H); unfold ruleE edgeB; rw [if_pos rfl]; by_cases c : l[n].f2.f0 + sz l[n].f2.f1 ≤ 4294967295
   ·rw [if_pos c, if_pos (by omega)]; congr 2; omega
   ·rw [if_neg c, if_neg (by omega)]
  ·refine evN (by omega) (ev1 ?_)
   simp only [spec_l4Edges.j1]; rw [rd_rule l n hlt]; refine evP rfl (evP (by omega) (evP (by omega) (evB L2 (spec_edges_put l 1 out n _ _ _ (ruleE 1 l[n]) _ ?_ (by omega) (by omega) H)))); unfold ruleE edgeB; rw [if_neg (by omega), if_pos rfl]; by_cases c : l[n].f3.f0 + sz l[n].f3.f1 ≤ 4294967295
   ·rw [if_pos c, if_pos (by omega)]; congr 2; omega
   ·rw [if_neg c, if_neg (by omega)]
  ·refine evN (by omega) (ev1 ?_)
   simp only [spec_l4Edges.j1]; refine evN (by omega) (spec_edges_put l 2 out n _ _ _ (ruleE 2 l[n]) _ ?_ (by omega) (by omega) H); unfold ruleE portE; rw [if_neg (by omega), if_neg (by omega)]
theorem spec_of (a b : List Ru) (ha : ∀ x ∈ a, ruleB x = true) (hb : ∀ x ∈ b, ruleB x = true) (hla : a.length ≤ 1000000) (hlb : b.length ≤ 1000000) : (∃ K_, ∀ k, K_ ≤ k → spec_l4Of.f k a b = some (gridE 0 (a ++ b), gridE 1 (a ++ b), gridE 2 (a ++ b))) := by
 have two : ∀ d : Nat, d < 3 → (∃ K_, ∀ k, K_ ≤ k → spec_l4Edges.f k a (d : Int) [0] = some (gridE d a)) ∧ (∃ K_, ∀ k, K_ ≤ k → spec_l4Edges.f k b (d : Int) (gridE d a) = some (gridE d (a ++ b))) := fun d hd => by
  have hg := gridE_len d a; have e1 := spec_edges4_loop a d hd ha hla a.length 0 [0] (by omega) (by simp; omega); have e2 := spec_edges4_loop b d hd hb hlb b.length 0 (gridE d a) (by omega) (by omega); have e3 : numsF (gridE d a) (b.flatMap (ruleE d)) = gridE d (a ++ b) := by unfold gridE; rw [numsF_app', List.flatMap_append]
  rw [List.drop_zero, e3] at e2; exact ⟨e1, e2⟩
 obtain ⟨p0, q0⟩ := two 0 (by omega); obtain ⟨p1, q1⟩ := two 1 (by omega); obtain ⟨p2, q2⟩ := two 2 (by omega); simp only [spec_l4Of.f]; exact evB p0 (evB q0 (evB p1 (evB q1 (evB p2 (evB q2 (evR rfl))))))
abbrev Pt := Int × Int × Int
def gridOf (xs ys zs : List Int) : List Pt := xs.flatMap fun a => ys.flatMap fun b => zs.map fun c => (a, b, c)
def gridF (l : List Ru) : List Pt := gridOf (gridE 0 l) (gridE 1 l) (gridE 2 l)
theorem gridE_in {d : Nat} (hd : d < 3) {l : List Ru} (hv : ∀ x ∈ l, ruleB x = true) {x : Int} (hx : x ∈ gridE d l) : 0 ≤ x ∧ x ≤ (if d = 2 then 65535 else 4294967295) := by
 rcases mem_gridE.1 hx with e | ⟨r, hr, e⟩
 ·subst e; split <;> omega
 ·obtain ⟨h1, h2, h3, h4, h5⟩ := ruleB_blocks (hv r hr)
  rcases (show d = 0 ∨ d = 1 ∨ d = 2 by omega) with rfl | rfl | rfl
  ·exact edgeB_in h1 e
  ·exact edgeB_in h2 e
  ·have e : x ∈ portE r := e
   unfold portE at e; simp only [if_true]; split at e
   ·rcases List.mem_cons.1 e with e | e
    ·omega
    ·have := List.mem_singleton.1 e; omega
   ·have := List.mem_singleton.1 e; omega
def firstP (l : List Ru) (p : Pt) : Int := firstF l p.1 p.2.1 p.2.2
def foldG {σ : Type} (q : σ → Pt → σ × Bool) : List Pt → σ → σ × Bool
 | [], s => (s, true)
 | p :: ps, s => if (q s p).2 = true then foldG q ps (q s p).1 else ((q s p).1, false)
theorem foldG_app {σ : Type} (q : σ → Pt → σ × Bool) : ∀ (a b : List Pt) (s : σ), foldG q (a ++ b) s = if (foldG q a s).2 = true then foldG q b (foldG q a s).1 else ((foldG q a s).1, false)
 | [], b, s => by simp [foldG]
 | p :: a, b, s => by
  simp only [List.cons_append, foldG]; by_cases c : (q s p).2 = true
  ·simp [c, foldG_app q a b]
  ·simp [c]
abbrev Ce := S104
/-- The end of the part of a grid that begins at a place. -/
def endF (xs : List Int) (i : Nat) (m : Int) : Int := if h : i + 1 < xs.length then xs[i + 1] - 1 else m
theorem impl_end (xs : List Int) (hx : ∀ x ∈ xs, 0 ≤ x ∧ x ≤ 4294967296) (hl : xs.length ≤ 100000000) (i : Nat) (hi : i < xs.length) (m : Int) : impl_end.f xs (i : Int) m = some (endF xs i m) := by
 have hw : wrap64 ((i : Int) + 1) = ((i + 1 : Nat) : Int) := by rw [w64 (by omega)]; omega
 unfold impl_end.f endF; rw [hw]; by_cases c : i + 1 < xs.length
 ·have hm := hx _ (List.getElem_mem c)
  rw [if_pos (by omega), if_pos (by omega), rd_num xs (i + 1) c, w64 (by omega), dif_pos c]
 ·rw [if_neg (by omega), dif_neg c]
theorem spec_to (xs : List Int) (hx : ∀ x ∈ xs, 0 ≤ x ∧ x ≤ 4294967296) (hl : xs.length ≤ 100000000) (i : Nat) (hi : i < xs.length) (m : Int) : spec_l5To.f xs (i : Int) m = some (endF xs i m) := by
 have hw : wrap64 ((i : Int) + 1) = ((i + 1 : Nat) : Int) := by rw [w64 (by omega)]; omega
 unfold spec_l5To.f endF; rw [hw]; by_cases c : i + 1 < xs.length
 ·have hm := hx _ (List.getElem_mem c)
  rw [if_pos (by omega), if_pos (by omega), rd_num xs (i + 1) c, w64 (by omega), dif_pos c]
 ·rw [if_neg (by omega), dif_neg c]
/-- What lies ahead of the next edge behind a number. -/
def nxF : List Int → Int → Int → Int
 | [], _, m => m
 | x :: xs, a, m => if a < x then x - 1 else nxF xs a m
theorem nx_end : ∀ (xs : List Int) (m : Int), Rise xs → ∀ (i : Nat) (h : i < xs.length), nxF xs xs[i] m = endF xs i m
 | [], _, _, _, h => absurd h (by simp)
 | [x], m, _, 0, _ => by simp [nxF, endF]
 | x :: y :: xs, m, hr, 0, _ => by
  have := (List.pairwise_cons.1 hr).1 y (List.mem_cons_self ..); simp only [List.getElem_cons_zero, nxF, endF]; rw [if_neg (by omega), if_pos this, dif_pos (by simp)]; rfl
 | x :: xs, m, hr, i + 1, h => by
  have hi : i < xs.length := by simpa using h
  have := (List.pairwise_cons.1 hr).1 xs[i] (List.getElem_mem hi); have ih := nx_end xs m (List.pairwise_cons.1 hr).2 i hi; simp only [List.getElem_cons_succ, nxF]; rw [if_neg (by omega), ih]; unfold endF; by_cases c : i + 1 < xs.length
  ·rw [dif_pos c, dif_pos (by simp only [List.length_cons]; omega)]; rfl
  ·rw [dif_neg c, dif_neg (by simp only [List.length_cons]; omega)]
/-- What a point of the grid gives, and all points together. -/
def cellOf (l : List Ru) (p : Pt) : Ce := ⟨p.1, nxF (gridE 0 l) p.1 4294967295, p.2.1, nxF (gridE 1 l) p.2.1 4294967295, p.2.2, nxF (gridE 2 l) p.2.2 65535, firstP l p⟩
def cellsG (l : List Ru) (ps : List Pt) (s : List Ce) : List Ce := ps.foldl (fun s p => (cellF s (cellOf l p)).1) s
def cellsR (l : List Ru) : List Ce × Bool := if rokB l = true then (if (cellsG l (gridF l) []).length > 400 then ([], false) else (cellsG l (gridF l) [], true)) else ([], false)
theorem cellF_len (s : List Ce) (x : Ce) : s.length ≤ (cellF s x).1.length ∧ (cellF s x).1.length ≤ s.length + 1 := by
 unfold cellF; split
 ·simp
 ·split
  ·simp
  ·simp
theorem cellF_go {s : List Ce} {x : Ce} (h : (cellF s x).2 = true) (hs : s.length ≤ 400) : (cellF s x).1.length ≤ 400 := by
 unfold cellF at h ⊢; split
 ·exact hs
 ·split
  ·simpa using hs
  ·rename_i c1 c2
   rw [if_neg c1, if_neg c2, decide_eq_true_eq] at h; simpa using h
theorem cellF_stop {s : List Ce} {x : Ce} (h : (cellF s x).2 = false) : (cellF s x).1.length > 400 := by
 unfold cellF at h ⊢; split
 ·rename_i c1; rw [if_pos c1] at h; cases h
 ·rename_i c1
  split
  ·rename_i c2; rw [if_neg c1, if_pos c2] at h; cases h
  ·rename_i c2
   rw [if_neg c1, if_neg c2, decide_eq_false_iff_not] at h; simp only [List.length_append, List.length_singleton]; omega
theorem cellsG_len (l : List Ru) : ∀ (ps : List Pt) (s : List Ce), s.length ≤ (cellsG l ps s).length ∧ (cellsG l ps s).length ≤ s.length + ps.length
 | [], s => ⟨Nat.le_refl _, Nat.le_refl _⟩
 | p :: ps, s => by
  have h := cellsG_len l ps (cellF s (cellOf l p)).1; have h2 := cellF_len s (cellOf l p); show s.length ≤ (cellsG l ps (cellF s (cellOf l p)).1).length ∧ (cellsG l ps (cellF s (cellOf l p)).1).length ≤ s.length + (p :: ps).length
  simp only [List.length_cons]; omega
/-- A fold that ends where there are more than 400 comes to all, or to more than 400. -/
theorem fold_cells (l : List Ru) : ∀ (ps : List Pt) (s : List Ce), s.length ≤ 400 → let r := foldG (fun s p => cellF s (cellOf l p)) ps s; (r.1 = cellsG l ps s ∧ r.1.length ≤ 400) ∨ (r.1.length > 400 ∧ (cellsG l ps s).length > 400)
 | [], s, h => .inl ⟨rfl, h⟩
 | p :: ps, s, h => by
  simp only [foldG]; by_cases c : (cellF s (cellOf l p)).2 = true
  ·rw [if_pos c]
   exact fold_cells l ps _ (cellF_go c h)
  ·rw [if_neg c]
   have h1 := cellF_stop (Bool.eq_false_iff.2 c); have h2 := (cellsG_len l ps (cellF s (cellOf l p)).1).1; exact .inr ⟨h1, by show (cellsG l ps (cellF s (cellOf l p)).1).length > 400; omega⟩
section
variable {σ : Type} {p : σ → Int → Int → Int → Int → Int → Int → Option (σ × Bool)} {q : σ → Pt → σ × Bool} {Inv : σ → Prop}
theorem cornZ_at (i k a b : Int) (zs : List Int) (h : ∀ m (hm : m < zs.length) s, Inv s → p s i k m a b zs[m] = some (q s (a, b, zs[m])) ∧ ((q s (a, b, zs[m])).2 = true → Inv (q s (a, b, zs[m])).1)) (d : Nat) :
  ∀ n s, n + d = zs.length → Inv s → cornZ p i k a b (zs.drop n) n s = some (foldG q ((zs.drop n).map fun c => (a, b, c)) s) ∧ ((foldG q ((zs.drop n).map fun c => (a, b, c)) s).2 = true → Inv (foldG q ((zs.drop n).map fun c => (a, b, c)) s).1) := by
 induction d with
 | zero =>
  intro n s hn hs; rw [List.drop_eq_nil_of_le (by omega)]; exact ⟨rfl, fun _ => hs⟩
 | succ d ih =>
  intro n s hn hs; have hlt : n < zs.length := by omega
  obtain ⟨e1, e2⟩ := h n hlt s hs; rw [List.drop_eq_getElem_cons hlt]; simp only [cornZ, List.map_cons, foldG]; rw [e1, Option.bind_some]; by_cases c : (q s (a, b, zs[n])).2 = true
  ·rw [if_pos c, if_pos c]
   have := ih (n + 1) _ (by omega) (e2 c); rw [show ((n + 1 : Nat) : Int) = (n : Int) + 1 by omega] at this; exact this
  ·rw [if_neg c, if_neg c]
   exact ⟨rfl, fun e => by cases e⟩
theorem cornY_at (zs ys : List Int) (i a : Int) (h : ∀ j (hj : j < ys.length) m (hm : m < zs.length) s, Inv s → p s i j m a ys[j] zs[m] = some (q s (a, ys[j], zs[m])) ∧ ((q s (a, ys[j], zs[m])).2 = true → Inv (q s (a, ys[j], zs[m])).1)) (d : Nat) :
  ∀ n s, n + d = ys.length → Inv s → cornY p zs i a (ys.drop n) n s = some (foldG q ((ys.drop n).flatMap fun b => zs.map fun c => (a, b, c)) s) ∧ ((foldG q ((ys.drop n).flatMap fun b => zs.map fun c => (a, b, c)) s).2 = true → Inv (foldG q ((ys.drop n).flatMap fun b => zs.map fun c => (a, b, c)) s).1) := by
 induction d with
 | zero =>
  intro n s hn hs; rw [List.drop_eq_nil_of_le (by omega)]; exact ⟨rfl, fun _ => hs⟩
 | succ d ih =>
  intro n s hn hs; have hlt : n < ys.length := by omega
  obtain ⟨e1, e2⟩ := cornZ_at i n a ys[n] zs (h n hlt) zs.length 0 s (by omega) hs; rw [List.drop_zero] at e1 e2; rw [List.drop_eq_getElem_cons hlt]; simp only [cornY, List.flatMap_cons]; rw [show (0 : Int) = ((0 : Nat) : Int) from rfl, e1, Option.bind_some, foldG_app]; by_cases c : (foldG q (zs.map fun c => (a, ys[n], c)) s).2 = true
  ·rw [if_pos c, if_pos c]
   have := ih (n + 1) _ (by omega) (e2 c); rw [show ((n + 1 : Nat) : Int) = (n : Int) + 1 by omega] at this; exact this
  ·rw [if_neg c, if_neg c]
   exact ⟨rfl, fun e => by cases e⟩
theorem cornX_at (zs ys xs : List Int) (h : ∀ i (hi : i < xs.length) j (hj : j < ys.length) m (hm : m < zs.length) s, Inv s → p s i j m xs[i] ys[j] zs[m] = some (q s (xs[i], ys[j], zs[m])) ∧ ((q s (xs[i], ys[j], zs[m])).2 = true → Inv (q s (xs[i], ys[j], zs[m])).1)) (d : Nat) :
  ∀ n s, n + d = xs.length → Inv s → cornX p zs ys (xs.drop n) n s = some (foldG q (gridOf (xs.drop n) ys zs) s) := by
 induction d with
 | zero =>
  intro n s hn hs; rw [List.drop_eq_nil_of_le (by omega)]; rfl
 | succ d ih =>
  intro n s hn hs; have hlt : n < xs.length := by omega
  obtain ⟨e1, e2⟩ := cornY_at zs ys n xs[n] (h n hlt) ys.length 0 s (by omega) hs; rw [List.drop_zero] at e1 e2; rw [List.drop_eq_getElem_cons hlt]; have e : gridOf (xs[n] :: xs.drop (n + 1)) ys zs = (ys.flatMap fun b => zs.map fun c => (xs[n], b, c)) ++ gridOf (xs.drop (n + 1)) ys zs := by unfold gridOf; rw [List.flatMap_cons]
  simp only [cornX]; rw [show (0 : Int) = ((0 : Nat) : Int) from rfl, e1, Option.bind_some, e, foldG_app]; by_cases c : (foldG q (ys.flatMap fun b => zs.map fun c => (xs[n], b, c)) s).2 = true
  ·rw [if_pos c, if_pos c]
   have := ih (n + 1) _ (by omega) (e2 c); rw [show ((n + 1 : Nat) : Int) = (n : Int) + 1 by omega] at this; exact this
  ·rw [if_neg c, if_neg c]
end
theorem gridE_bd {d : Nat} (hd : d < 3) {l : List Ru} (hv : ∀ x ∈ l, ruleB x = true) : ∀ x ∈ gridE d l, 0 ≤ x ∧ x ≤ 4294967296 := fun x hx => by
 have h := gridE_in hd hv hx; split at h <;> omega
theorem impl_cells (l : List Ru) : (∃ K_, ∀ k, K_ ≤ k → impl_Cells.f k l = some (cellsR l)) := by
 simp only [impl_Cells.f]; refine evB (impl_rulesOk l) (evI (fun c => ?_) (fun c => evR ?_))
 ·have hv := rokB_valid c
  have h8 := rokB_len c; have g0 := gridE_len 0 l; have g1 := gridE_len 1 l; have g2 := gridE_len 2 l
  have hX := cornX_at (p := impl_Cells.p l (gridE 0 l) (gridE 1 l) (gridE 2 l)) (q := fun s p => cellF s (cellOf l p)) (Inv := fun s => s.length ≤ 400) (gridE 2 l) (gridE 1 l) (gridE 0 l) (fun i hi j hj m hm s hs => by
   refine ⟨?_, fun e => cellF_go e hs⟩; unfold impl_Cells.p; rw [impl_first hv, Option.bind_some, impl_end _ (gridE_bd (by omega) hv) (by omega) i hi, Option.bind_some, impl_end _ (gridE_bd (by omega) hv) (by omega) j hj, Option.bind_some, impl_end _ (gridE_bd (by omega) hv) (by omega) m hm, Option.bind_some, if_pos (by omega)]; unfold cellOf; rw [nx_end _ _ (rise_gridE 0 l) i hi, nx_end _ _ (rise_gridE 1 l) j hj, nx_end _ _ (rise_gridE 2 l) m hm]
   rfl) (gridE 0 l).length 0 [] (by omega) (by simp)
  rw [List.drop_zero] at hX; refine evP (by omega) (evB (impl_axes l hv (by omega)) (evP ⟨by simp only []; omega, by simp only []; omega, by simp only []; omega⟩ (evS hX ?_))); unfold cellsR; rw [if_pos c]; rcases fold_cells l (gridF l) [] (by simp) with ⟨e1, e2⟩ | ⟨e1, e2⟩
  ·rw [show gridF l = gridOf (gridE 0 l) (gridE 1 l) (gridE 2 l) from rfl] at e1 e2
   refine evN (by omega) (evR ?_); rw [if_neg (by rw [show gridF l = gridOf (gridE 0 l) (gridE 1 l) (gridE 2 l) from rfl, ← e1]; omega), show gridF l = gridOf (gridE 0 l) (gridE 1 l) (gridE 2 l) from rfl, ← e1]
  ·rw [show gridF l = gridOf (gridE 0 l) (gridE 1 l) (gridE 2 l) from rfl] at e1 e2
   refine evP e1 (evR ?_); rw [if_pos (show (cellsG l (gridF l) []).length > 400 from e2)]
 ·unfold cellsR
  rw [if_neg c]
def JO (l : List Ru) (s : List Ce) : Prop := ∀ x ∈ s, x.f1 = nxF (gridE 0 l) x.f0 4294967295 ∧ x.f3 = nxF (gridE 1 l) x.f2 4294967295
theorem rd_cell (l : List Ce) (n : Nat) (h : n < l.length) : rd_T104 l (n : Int) = l[n] := by
 unfold rd_T104; rw [List.getD_eq_getElem?_getD, Int.toNat_natCast, List.getElem?_eq_getElem h]; rfl
theorem rd_cell' (l : List Ce) (h : 0 < l.length) : ∃ h2 : l.length - 1 < l.length, rd_T104 l ((l.length : Int) - 1) = l[l.length - 1] := by
 refine ⟨by omega, ?_⟩; rw [show (l.length : Int) - 1 = ((l.length - 1 : Nat) : Int) by omega]; exact rd_cell l _ (by omega)
theorem JO.step {l : List Ru} {s : List Ce} (h : JO l s) (p : Pt) : JO l (cellF s (cellOf l p)).1 := by
 unfold cellF; split
 ·exact h
 ·split
  ·rename_i c1 c2
   obtain ⟨h2, hz⟩ := rd_cell' s c2.1; intro x hx; rcases List.mem_or_eq_of_mem_set hx with hx | rfl
   ·exact h x hx
   ·simp only []
    rw [hz]; exact h _ (List.getElem_mem _)
  ·intro x hx
   rcases List.mem_append.1 hx with hx | hx
   ·exact h x hx
   ·obtain rfl := List.mem_singleton.1 hx
    exact ⟨rfl, rfl⟩
theorem spec_join {l : List Ru} {s : List Ce} {X Y Z : List Int} (hX : X = gridE 0 l) (hY : Y = gridE 1 l) (hZ : Z = gridE 2 l) (h : JO l s) (hl : s.length ≤ 1000000000) (p : Pt) (hp : 0 ≤ firstP l p) :
  spec_l5Join.f s p.1 (nxF X p.1 4294967295) p.2.1 (nxF Y p.2.1 4294967295) p.2.2 (nxF Z p.2.2 65535) (firstP l p) = some (cellF s (cellOf l p)).1 := by
 subst hX hY hZ; have hw : wrap64 ((s.length : Int) - 1) = (s.length : Int) - 1 := w64 (by omega); have hn : ¬ (cellOf l p).f6 < 0 := by show ¬ firstP l p < 0; omega
 unfold spec_l5Join.f cellF; rw [if_neg hn, hw]; by_cases c : 0 < s.length
 ·obtain ⟨h2, hz⟩ := rd_cell' s c
  have hm : s[s.length - 1] ∈ s := List.getElem_mem _; have hj := h _ hm; rw [← hz] at hj; have ht : ((s.length : Int) - 1).toNat = s.length - 1 := by omega
  rw [if_pos (by omega), if_pos (by omega), if_pos (by omega), ht]; generalize rd_T104 s ((s.length : Int) - 1) = z at hj hz ⊢
  have hB : joinB s (cellOf l p) ↔ z.f6 = firstP l p ∧ z.f0 = p.1 ∧ z.f2 = p.2.1 ∧ wrap64 (z.f5 + 1) = p.2.2 := by
   obtain ⟨_, hz'⟩ := rd_cell' s c; unfold joinB; rw [hz', ← hz]; simp only [cellOf]; constructor
   ·rintro ⟨_, a, _, b, _, e, f⟩
    exact ⟨e, a, b, f⟩
   ·rintro ⟨e, a, b, f⟩
    exact ⟨c, a, by rw [hj.1, a], b, by rw [hj.2, b], e, f⟩
  by_cases c1 : z.f6 = firstP l p
  ·by_cases c2 : z.f0 = p.1
   ·by_cases c3 : z.f2 = p.2.1
    ·by_cases c4 : wrap64 (z.f5 + 1) = p.2.2
     ·rw [if_pos c1, if_pos c2, if_pos c3, if_pos c4, if_pos (hB.2 ⟨c1, c2, c3, c4⟩)]
      rfl
     ·rw [if_pos c1, if_pos c2, if_pos c3, if_neg c4, if_neg (fun q => c4 (hB.1 q).2.2.2), if_pos (by omega)]
      rfl
    ·rw [if_pos c1, if_pos c2, if_neg c3, if_neg (fun q => c3 (hB.1 q).2.2.1), if_pos (by omega)]
     rfl
   ·rw [if_pos c1, if_neg c2, if_neg (fun q => c2 (hB.1 q).2.1), if_pos (by omega)]
    rfl
  ·rw [if_neg c1, if_neg (fun q => c1 (hB.1 q).1), if_pos (by omega)]
   rfl
 ·rw [if_neg (by omega), if_pos (by omega), if_neg (fun q : joinB s (cellOf l p) => c q.1)]
  rfl
section
variable {l : List Ru} (hv : ∀ x ∈ l, ruleB x = true) (h8 : l.length ≤ 8) {X Y Z : List Int} (hX : X = gridE 0 l) (hY : Y = gridE 1 l) (hZ : Z = gridE 2 l)
include hv h8 hX hY hZ
theorem cells_l2 (i j : Nat) (hi : i < X.length) (hj : j < Y.length) (T : List Pt) (h : ∀ s, JO l s → s.length + T.length ≤ 1000000 → (∃ K_, ∀ k, K_ ≤ k → spec_l5Cells.l1 k l s (i : Int) (wrap64 ((j : Int) + 1)) X Y Z = some (cellsG l T s))) (d : Nat) :
  ∀ (n : Nat) (s : List Ce), n + d = Z.length → JO l s → s.length + d + T.length ≤ 1000000 → (∃ K_, ∀ k, K_ ≤ k → spec_l5Cells.l2 k l s (i : Int) (j : Int) (n : Int) X Y Z = some (cellsG l (((Z.drop n).map fun c => ((X[i], Y[j], c) : Pt)) ++ T) s)) := by
 have g0 : X.length ≤ 2 * l.length + 1 := by rw [hX]; exact gridE_len 0 l
 have g1 : Y.length ≤ 2 * l.length + 1 := by rw [hY]; exact gridE_len 1 l
 have g2 : Z.length ≤ 2 * l.length + 1 := by rw [hZ]; exact gridE_len 2 l
 have bX : ∀ x ∈ X, 0 ≤ x ∧ x ≤ 4294967296 := by rw [hX]; exact gridE_bd (by decide) hv
 have bY : ∀ x ∈ Y, 0 ≤ x ∧ x ≤ 4294967296 := by rw [hY]; exact gridE_bd (by decide) hv
 have bZ : ∀ x ∈ Z, 0 ≤ x ∧ x ≤ 4294967296 := by rw [hZ]; exact gridE_bd (by decide) hv
 have rX : Rise X := by rw [hX]; exact rise_gridE 0 l
 have rY : Rise Y := by rw [hY]; exact rise_gridE 1 l
 have rZ : Rise Z := by rw [hZ]; exact rise_gridE 2 l
 have lX : X.length ≤ 100000000 := by omega
 have lY : Y.length ≤ 100000000 := by omega
 have lZ : Z.length ≤ 100000000 := by omega
 have l8 : l.length ≤ 1073741824 := by omega
 induction d with
 | zero =>
  intro n s hn hs hb; refine ev1 ?_; simp only [spec_l5Cells.l2]; rw [List.drop_eq_nil_of_le (by omega)]; exact evN (by omega) (h s hs (by omega))
 | succ d ih =>
  intro n s hn hs hb; have hlt : n < Z.length := by omega
  have hw : wrap64 ((n : Int) + 1) = ((n + 1 : Nat) : Int) := by rw [w64 (by omega)]; omega
  obtain ⟨s1, hs1⟩ : ∃ s1, s1 = (cellF s (cellOf l (X[i], Y[j], Z[n]))).1 := ⟨_, rfl⟩; have hc := cellF_len s (cellOf l (X[i], Y[j], Z[n])); have hj1 := hs.step (X[i], Y[j], Z[n]); rw [← hs1] at hc hj1; have ih' := ih (n + 1) s1 (by omega) hj1 (by omega); have e2 : cellsG l (((X[i], Y[j], Z[n]) : Pt) :: (((Z.drop (n + 1)).map fun c => ((X[i], Y[j], c) : Pt)) ++ T)) s = cellsG l (((Z.drop (n + 1)).map fun c => ((X[i], Y[j], c) : Pt)) ++ T) s1 := by rw [hs1]; rfl
  rw [List.drop_eq_getElem_cons hlt, List.map_cons, List.cons_append, e2]; refine ev1 ?_; simp only [spec_l5Cells.l2]; rw [rd_num _ i hi, rd_num _ j hj, rd_num _ n hlt, hw]; refine evP (show (n : Int) < (Z.length : Int) by omega) ?_; refine evP (show 0 ≤ (i : Int) by omega) ?_; refine evP (show (i : Int) < (X.length : Int) by omega) ?_; refine evP (show 0 ≤ (j : Int) by omega) ?_; refine evP (show (j : Int) < (Y.length : Int) by omega) ?_; refine evP (c := 0 ≤ (n : Int)) (Int.natCast_nonneg n) ?_; have hsl : s.length ≤ 1000000000 := by omega
  refine evB (spec_first hv X[i] Y[j] Z[n] l8) ?_; refine evI (fun c => ?_) (fun c => ?_)
  ·refine evS (spec_to X bX lX i hi _) (evS (spec_to Y bY lY j hj _) (evS (spec_to Z bZ lZ n hlt _) ?_))
   rw [← nx_end X _ rX i hi, ← nx_end Y _ rY j hj, ← nx_end Z _ rZ n hlt]; have hjn := spec_join hX hY hZ hs hsl (X[i], Y[j], Z[n]) c; rw [← hs1] at hjn; exact evS hjn ih'
  ·have e : s1 = s := by
    rw [hs1]; unfold cellF; exact congrArg Prod.fst (if_pos (show firstF l X[i] Y[j] Z[n] < 0 from Int.not_le.1 c))
   rw [e] at ih' ⊢; exact ih'
theorem cells_l1 (i : Nat) (hi : i < X.length) (T : List Pt) (h : ∀ s, JO l s → s.length + T.length ≤ 1000000 → (∃ K_, ∀ k, K_ ≤ k → spec_l5Cells.l0 k l s (wrap64 ((i : Int) + 1)) X Y Z = some (cellsG l T s))) (d : Nat) :
  ∀ (n : Nat) (s : List Ce), n + d = Y.length → JO l s → s.length + d * Z.length + T.length ≤ 1000000 → (∃ K_, ∀ k, K_ ≤ k → spec_l5Cells.l1 k l s (i : Int) (n : Int) X Y Z = some (cellsG l (((Y.drop n).flatMap fun y => Z.map fun c => ((X[i], y, c) : Pt)) ++ T) s)) := by
 have g0 : X.length ≤ 2 * l.length + 1 := by rw [hX]; exact gridE_len 0 l
 have g1 : Y.length ≤ 2 * l.length + 1 := by rw [hY]; exact gridE_len 1 l
 have g2 : Z.length ≤ 2 * l.length + 1 := by rw [hZ]; exact gridE_len 2 l
 induction d with
 | zero =>
  intro n s hn hs hb; refine ev1 ?_; simp only [spec_l5Cells.l1]; rw [List.drop_eq_nil_of_le (by omega)]; exact evN (by omega) (h s hs (by omega))
 | succ d ih =>
  intro n s hn hs hb; have hlt : n < Y.length := by omega
  have hw : wrap64 ((n : Int) + 1) = ((n + 1 : Nat) : Int) := by rw [w64 (by omega)]; omega
  rw [Nat.succ_mul] at hb; rw [List.drop_eq_getElem_cons hlt, List.flatMap_cons, List.append_assoc]; refine ev1 ?_; simp only [spec_l5Cells.l1]; refine evP (by omega) ?_
  have fl : (((Y.drop (n + 1)).flatMap fun y => Z.map fun c => ((X[i], y, c) : Pt)) ++ T).length = d * Z.length + T.length := by
   rw [List.length_append, List.length_flatMap]; simp only [List.length_map, List.map_const', List.sum_replicate_nat, List.length_drop]; rw [show Y.length - (n + 1) = d by omega]
  have e := cells_l2 hv h8 hX hY hZ i n hi hlt (((Y.drop (n + 1)).flatMap fun y => Z.map fun c => ((X[i], y, c) : Pt)) ++ T) (fun s' hs' hb' => by rw [hw]; exact ih (n + 1) s' (by omega) hs' (by rw [fl] at hb'; omega)) Z.length 0 s (by omega) hs (by rw [fl]; omega); rw [List.drop_zero] at e; exact e
theorem cells_l0 (d : Nat) : ∀ (n : Nat) (s : List Ce), n + d = X.length → JO l s → s.length + d * (Y.length * Z.length) ≤ 1000000 → (∃ K_, ∀ k, K_ ≤ k → spec_l5Cells.l0 k l s (n : Int) X Y Z = some (cellsG l (gridOf (X.drop n) Y Z) s)) := by
 have g0 : X.length ≤ 2 * l.length + 1 := by rw [hX]; exact gridE_len 0 l
 have g1 : Y.length ≤ 2 * l.length + 1 := by rw [hY]; exact gridE_len 1 l
 have g2 : Z.length ≤ 2 * l.length + 1 := by rw [hZ]; exact gridE_len 2 l
 induction d with
 | zero =>
  intro n s hn hs hb; refine ev1 ?_; simp only [spec_l5Cells.l0]; rw [List.drop_eq_nil_of_le (by omega)]; exact evN (by omega) (evR rfl)
 | succ d ih =>
  intro n s hn hs hb; have hlt : n < X.length := by omega
  have hw : wrap64 ((n : Int) + 1) = ((n + 1 : Nat) : Int) := by rw [w64 (by omega)]; omega
  rw [Nat.succ_mul] at hb
  have e : gridOf (X.drop n) Y Z = (Y.flatMap fun y => Z.map fun c => ((X[n], y, c) : Pt)) ++ gridOf (X.drop (n + 1)) Y Z := by
   rw [List.drop_eq_getElem_cons hlt]; unfold gridOf; rw [List.flatMap_cons]
  have fl : (gridOf (X.drop (n + 1)) Y Z).length = d * (Y.length * Z.length) := by
   unfold gridOf; rw [List.length_flatMap]; simp only [List.length_flatMap, List.length_map, List.map_const', List.sum_replicate_nat, List.length_drop]; rw [show X.length - (n + 1) = d by omega]
  rw [e]; refine ev1 ?_; simp only [spec_l5Cells.l0]; refine evP (by omega) ?_; have e2 := cells_l1 hv h8 hX hY hZ n hlt (gridOf (X.drop (n + 1)) Y Z) (fun s' hs' hb' => by rw [hw]; exact ih (n + 1) s' (by omega) hs' (by rw [fl] at hb'; omega)) Y.length 0 s (by omega) hs (by rw [fl]; omega); rw [List.drop_zero] at e2; exact e2
end
theorem spec_cells (l : List Ru) (hl : l.length ≤ 1073741824) : (∃ K_, ∀ k, K_ ≤ k → spec_Cells.f k l = some (cellsR l)) := by
 simp only [spec_Cells.f]; refine evB (spec_rulesOk l hl) (evI (fun c => ?_) (fun c => evR ?_))
 ·have hv := rokB_valid c
  have h8 := rokB_len c; have g0 := gridE_len 0 l; have g1 := gridE_len 1 l; have g2 := gridE_len 2 l
  have e := cells_l0 hv h8 rfl rfl rfl (gridE 0 l).length 0 [] (by omega) (fun x hx => by cases hx) (by
   have h1 : (gridE 1 l).length * (gridE 2 l).length ≤ 17 * 17 := Nat.mul_le_mul (by omega) (by omega); have h2 : (gridE 0 l).length * ((gridE 1 l).length * (gridE 2 l).length) ≤ 17 * (17 * 17) := Nat.mul_le_mul (by omega) h1; simp only [List.length_nil]
   omega)
  rw [List.drop_zero] at e
  have e3 : (∃ K_, ∀ k, K_ ≤ k → spec_l5Cells.f k l = some (cellsG l (gridF l) [])) := by
   simp only [spec_l5Cells.f]; have o := spec_of l [] hv (fun x hx => by cases hx) (by omega) (by simp); rw [List.append_nil] at o; exact evB o e
  unfold cellsR; rw [if_pos c]; refine evB e3 (evI (fun c2 => evR ?_) (fun c2 => evR ?_))
  ·rw [if_pos (by omega)]
  ·rw [if_neg (by omega)]
 ·unfold cellsR
  rw [if_neg c]
end Go.Proofs.YtaehmhbpdpdefaaGreat.Z
end
section
namespace Go.Proofs.YtaehmhbpdpdefaaGreat.Pure
open Go Go.RowKit Go.Proofs.YtaehmhbpdpdefaaGreat.PAll Go.Proofs.YtaehmhbpdpdefaaGreatW.PrintWords Go.Proofs.YtaehmhbpdpdefaaGreatW.PrintLast Go.Proofs.YtaehmhbpdpdefaaGreatW.PrintMore Go.Proofs.YtaehmhbpdpdefaaGreat.Z
set_option linter.unusedVariables false
set_option linter.unusedSimpArgs false
theorem eqWin (x : Sa) (hl : x.f9.f1.length ≤ 1073741824) : (∃ K_, ∀ k, K_ ≤ k → laws_eqWindow.f k x.f9.f0 x.f9.f1 x.f9.f0 x.f9.f1 = some true) := by
 simp only [laws_eqWindow.f]; exact evP trivial (evB (eqInts _ (by omega)) (evP rfl (evR rfl)))
theorem eqWs (l : List Sa) (h : ∀ x ∈ l, x.f9.f1.length ≤ 1073741824) : ∃ K, ∀ k, K ≤ k → eqW k l := by
 induction l with
 | nil => exact ⟨0, fun k _ x hx => by simp at hx⟩
 | cons y ys ih =>
  obtain ⟨K1, e1⟩ := ih (fun x hx => h x (List.mem_cons_of_mem _ hx)); obtain ⟨K2, e2⟩ := eqWin y (h y (List.mem_cons_self ..)); refine ⟨K1 + K2, fun k hk x hx => ?_⟩; rcases List.mem_cons.1 hx with rfl | hx
  ·exact e2 k (by omega)
  ·exact e1 k (by omega) x hx
section
variable (now : Int) (rs : List Ru) (size : Int) (ss : List Se) (os is : List Sa) (z : List Ru)
/-- A gate that is handed rules. -/
def loadV : Int × List Ru × Int × List Se × List Sa × List Sa × Bool :=
 if gateB now rs size ss os is = true then (if (cellsR z).2 = true then (now, z, size, [], os, is, true) else (now, rs, size, ss, os, is, false)) else (0, [], 0, [], [], [], false)
theorem gateB_size {now : Int} {rs : List Ru} {size : Int} {ss : List Se} {os is : List Sa} (h : gateB now rs size ss os is = true) : size = 4 := by
 unfold gateB at h; simp only [Bool.and_eq_true, decide_eq_true_eq] at h; exact h.2.1
theorem spec_load (h1 : rs.length ≤ 1048576) (h2 : ss.length ≤ 1048576) (ho : fewOk os) (hi : fewOk is) (hz : z.length ≤ 1048576) : ∃ K, ∀ k, K ≤ k → ∀ V, V = loadV now rs size ss os is z → sloadP k now rs size ss os is z V.1 V.2.1 V.2.2.1 V.2.2.2.1 V.2.2.2.2.1 V.2.2.2.2.2.1 V.2.2.2.2.2.2 := by
 obtain ⟨K1, e1⟩ := spec_gateOk now rs size ss os is (by omega) (by omega) ho.wins hi.wins; obtain ⟨K2, e2⟩ := copy10 now rs size ss os is h1 h2 ho hi; obtain ⟨K3, e3⟩ := spec_cells z (by omega); refine ⟨K1 + K2 + K3, fun k hk V hV => ?_⟩; replace e1 := e1 k (by omega); replace e2 := e2 k (by omega); replace e3 := e3 k (by omega); unfold loadV at hV; by_cases c : gateB now rs size ss os is = true
 ·rw [c] at e1
  rw [if_pos c] at hV; by_cases d : (cellsR z).2 = true
  ·rw [if_pos d] at hV
   subst hV; exact .inr ⟨e1, rs, ss, (cellsR z).1, e2, by rw [e3, ← d], .inr ⟨rfl, hz, rfl, rfl⟩⟩
  ·rw [if_neg d] at hV
   subst hV; exact .inr ⟨e1, rs, ss, (cellsR z).1, e2, by rw [e3, ← Bool.eq_false_iff.2 d], .inl ⟨rfl, rfl, rfl⟩⟩
 ·rw [Bool.eq_false_iff.2 c] at e1
  rw [if_neg c] at hV; subst hV; exact .inl ⟨e1, rfl, rfl, rfl, rfl, rfl, rfl, rfl⟩
theorem impl_load (h1 : rs.length ≤ 1048576) (h2 : ss.length ≤ 1048576) (ho : fewOk os) (hi : fewOk is) (hz : z.length ≤ 1048576) : ∃ K, ∀ k, K ≤ k → ∀ V, V = loadV now rs size ss os is z → iloadP k now rs size ss os is z V.1 V.2.1 V.2.2.1 V.2.2.2.1 V.2.2.2.2.1 V.2.2.2.2.2.1 V.2.2.2.2.2.2 := by
 obtain ⟨K1, e1⟩ := impl_gateOk now rs size ss os is (by omega) ho.wins hi.wins; obtain ⟨K2, e2⟩ := copiedG now rs size ss os is h1 h2 ho hi; obtain ⟨K3, e3⟩ := impl_cells z; refine ⟨K1 + K2 + K3, fun k hk V hV => ?_⟩; replace e1 := e1 k (by omega); replace e2 := e2 k (by omega); replace e3 := e3 k (by omega); unfold loadV at hV; by_cases c : gateB now rs size ss os is = true
 ·rw [c] at e1
  rw [if_pos c] at hV; by_cases d : (cellsR z).2 = true
  ·rw [if_pos d] at hV
   subst hV; refine .inr ⟨e1, rs, size, ss, (cellsR z).1, e2, by rw [e3, ← d], .inr ⟨rfl, ?_, gateB_size c, rfl⟩⟩; simp only [slices_Clone_Rule.f]; rw [if_pos (by omega)]
  ·rw [if_neg d] at hV
   subst hV; exact .inr ⟨e1, rs, size, ss, (cellsR z).1, e2, by rw [e3, ← Bool.eq_false_iff.2 d], .inl ⟨rfl, rfl, rfl, rfl⟩⟩
 ·rw [Bool.eq_false_iff.2 c] at e1
  rw [if_neg c] at hV; subst hV; exact .inl ⟨e1, rfl, rfl, rfl, rfl, rfl, rfl, rfl⟩
end
theorem mkRu_le (l : List Ru) : ∀ a : Int, 0 ≤ a → a + 8 * (l.length : Int) ≤ 1900000000000000 → (mkRu.f l a).1 = a + 8 * (l.length : Int) := by
 induction l with
 | nil => exact fun a _ _ => by simp [mkRu.f]
 | cons x xs ih =>
  intro a h0 h1; rw [List.length_cons] at h1; have n1 : nx (a) = a + 1 := by rw [nxw (a) (by omega) (by omega)]
  have n2 : nx (a + 1) = a + 2 := by rw [nxw (a + 1) (by omega) (by omega)]; omega
  have n3 : nx (a + 2) = a + 3 := by rw [nxw (a + 2) (by omega) (by omega)]; omega
  have n4 : nx (a + 3) = a + 4 := by rw [nxw (a + 3) (by omega) (by omega)]; omega
  have n5 : nx (a + 4) = a + 5 := by rw [nxw (a + 4) (by omega) (by omega)]; omega
  have n6 : nx (a + 5) = a + 6 := by rw [nxw (a + 5) (by omega) (by omega)]; omega
  have n7 : nx (a + 6) = a + 7 := by rw [nxw (a + 6) (by omega) (by omega)]; omega
  have n8 : nx (a + 7) = a + 8 := by rw [nxw (a + 7) (by omega) (by omega)]; omega
  have en : (nx (nx (nx (nx (nx (nx (nx (nx a)))))))) = a + 8 := by simp only [n1, n2, n3, n4, n5, n6, n7, n8]
  have i1 := ih (nx (nx (nx (nx (nx (nx (nx (nx a)))))))) (by rw [en]; omega) (by rw [en]; omega); show (mkRu.f xs (nx (nx (nx (nx (nx (nx (nx (nx a))))))))).1 = _
  rw [i1, en, List.length_cons]; omega
theorem FnExactGateLoad : laws_FnExactGateLoad.Pure := by
 intro now rs size ss os is l hnow hrs hsize hss hos his hl; unfold maxLen at hrs hss hos his hl; have so : sizesOk os := ⟨hos.1, fun x hx => by have := hos.2 x hx; simp only [wfT77, wfT75, maxLen] at this; exact ⟨this.2.2.1, this.2.2.2.1, this.2.2.2.2.2.2.2.2.2.2.1⟩⟩; have si : sizesOk is := ⟨his.1, fun x hx => by have := his.2 x hx; simp only [wfT77, wfT75, maxLen] at this; exact ⟨this.2.2.1, this.2.2.2.1, this.2.2.2.2.2.2.2.2.2.2.1⟩⟩; obtain ⟨t, ⟨K0, e⟩, q⟩ := szGate now rs size ss os is hrs.1 hss.1 so si 1048576 (by omega) (by omega); by_cases c : t < 0
 ·exact ⟨K0, t, e K0 (Nat.le_refl _), .inl c⟩
 obtain ⟨q1, q2, q3, q4⟩ := q.2 (by omega); have eu := szgRule l hl.1 t (by omega) q.1; by_cases cu : (l.length : Int) ≤ t
 case neg =>
  rw [if_neg cu] at eu; exact ⟨K0, t, e K0 (Nat.le_refl _), .inr ⟨c, -1, eu, .inl (by omega)⟩⟩
 rw [if_pos cu] at eu; have q0 := q.1; have lz : l.length ≤ 1048576 := by omega
 have mo : fewOk (os.map convSa) := ⟨by rw [List.length_map]; exact q3.1, fun x hx => by obtain ⟨y, hy, rfl⟩ := List.mem_map.1 hx; exact q3.2 y hy⟩; have mi : fewOk (is.map convSa) := ⟨by rw [List.length_map]; exact q4.1, fun x hx => by obtain ⟨y, hy, rfl⟩ := List.mem_map.1 hx; exact q4.2 y hy⟩; have l1 : (rs.map convRule).length ≤ 1048576 := by simp; omega
 have l2 : (ss.map convSeen).length ≤ 1048576 := by simp; omega
 obtain ⟨K1, e1⟩ := toGate now rs size ss os is q1 q2 q3.1 q3.2 q4.1 q4.2; obtain ⟨K9, e9⟩ := toRule l (by omega); have hz : (l.map convRule).length ≤ 1048576 := by simp; omega
 generalize l.map convRule = z at e9 hz; obtain ⟨K2, e2⟩ := spec_load now (rs.map convRule) size (ss.map convSeen) _ _ z l1 l2 mo mi hz; obtain ⟨K3, e3⟩ := impl_load now (rs.map convRule) size (ss.map convSeen) _ _ z l1 l2 mo mi hz; obtain ⟨K5, e5⟩ := eqWs (os.map convSa) mo.wins.2; obtain ⟨K5', e5'⟩ := eqWs (is.map convSa) mi.wins.2; obtain ⟨r, ⟨K6, e6⟩, r0, r1, _⟩ := markGt now (rs.map convRule) size (ss.map convSeen) _ _ l1 l2 mo mi; have m0 : 0 ≤ (mkRu.f z r.1).1 := by rw [mkRu_le z r.1 r0 (by omega)]; omega
 have hT : ∀ T : Int × List Ru × Int × List Se × List Sa × List Sa × Bool, T = loadV now (rs.map convRule) size (ss.map convSeen) (os.map convSa) (is.map convSa) z → T.2.1.length ≤ 1048576 ∧ T.2.2.2.1.length ≤ 1048576 ∧ fewOk T.2.2.2.2.1 ∧ fewOk T.2.2.2.2.2.1 := by
  intro T hT; subst hT; unfold loadV; split
  ·split
   ·exact ⟨hz, by simp, mo, mi⟩
   ·exact ⟨l1, l2, mo, mi⟩
  ·exact ⟨by simp, by simp, ⟨by simp, by simp⟩, ⟨by simp, by simp⟩⟩
 have e3' : ∀ k, K3 ≤ k → _ := fun k hk => e3 k hk _ rfl
 have e2' : ∀ k, K2 ≤ k → _ := fun k hk => e2 k hk _ rfl
 clear e3 e2; generalize loadV now (rs.map convRule) size (ss.map convSeen) (os.map convSa) (is.map convSa) z = T at e2' e3' hT; obtain ⟨t1, t2, t3, t4⟩ := hT T rfl; obtain ⟨g0, g1, g2, g3, g4, g5, b⟩ := T; obtain ⟨K4, e4⟩ := eqWs g4 t3.wins.2; obtain ⟨K4', e4'⟩ := eqWs g5 t4.wins.2; obtain ⟨r', ⟨K7, e7⟩, r0', r1', K8, e8⟩ := markGt g0 g1 g2 g3 g4 g5 t1 t2 t3 t4; exact ⟨K0 + K1 + K2 + K3 + K4 + K4' + K5 + K5' + K6 + K7 + K8 + K9, t, e _ (by omega), .inr ⟨c, _, eu, .inr ⟨by omega, _, _, _, _, _, _, z, _, _, _, _, _, _, _, _, _, _, _, _, _, _, _, _, _, e1 _ (by omega), e9 _ (by omega), e2' _ (by omega), e3' _ (by omega), ⟨e4 _ (by omega), e4' _ (by omega)⟩, ⟨e5 _ (by omega), e5' _ (by omega)⟩, e6 _ (by omega), m0, e7 _ (by omega), r0', e8 _ (by omega)⟩⟩⟩
end Go.Proofs.YtaehmhbpdpdefaaGreat.Pure
end
