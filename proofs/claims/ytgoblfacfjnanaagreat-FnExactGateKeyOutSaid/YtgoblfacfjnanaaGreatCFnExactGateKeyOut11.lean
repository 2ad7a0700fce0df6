/- Contracts of the functions that the statement reaches. -/
import Derived.Test.YtgoblfacfjnanaaGreatCFnExactGateKeyOut3
import Derived.Test.YtgoblfacfjnanaaGreatCFnExactGateKeyOut4
import Derived.Test.YtgoblfacfjnanaaGreatCFnExactGateKeyOut5
import Derived.Test.YtgoblfacfjnanaaGreatCFnExactGateKeyOut6
import Derived.Test.YtgoblfacfjnanaaGreatCFnExactGateKeyOut7
import Derived.Test.YtgoblfacfjnanaaGreatCFnExactGateKeyOut8
import Derived.Test.YtgoblfacfjnanaaGreatCFnExactGateKeyOut9
import Derived.Test.YtgoblfacfjnanaaGreatCFnExactGateKeyOut10
section
namespace Go.Proofs.YtgoblfacfjnanaaGreat.Z
open Go Go.RowKit Go.Proofs.YtgoblfacfjnanaaGreat.PAll Go.Proofs.YtgoblfacfjnanaaGreatW.PrintWords Go.Proofs.YtgoblfacfjnanaaGreatW.PrintLast Go.Proofs.YtgoblfacfjnanaaGreatW.PrintMore
set_option linter.unusedVariables false
set_option linter.unusedSimpArgs false
theorem spec_in (a l h : Int) : spec_l1In.f a l h = some (decide (l ≤ a ∧ a ≤ h)) := by
 unfold spec_l1In.f; by_cases c : a ≥ l
 ·rw [if_pos c]; simp [c]
 ·rw [if_neg c]
  have : ¬ l ≤ a := by omega
  simp [this]
theorem impl_in (a l h : Int) : impl_in.f a l h = some (decide (l ≤ a ∧ a ≤ h)) := by
 unfold impl_in.f; by_cases c : a ≥ l
 ·rw [if_pos c]; simp [c]
 ·rw [if_neg c]
  have : ¬ l ≤ a := by omega
  simp [this]
theorem spec_addr (a : Int) : spec_l1Addr.f a = some (decide (0 ≤ a ∧ a ≤ 4294967295)) := by simp only [spec_l1Addr.f, spec_in, Option.bind_some]
theorem impl_addr (a : Int) : impl_isAddr.f a = some (decide (0 ≤ a ∧ a ≤ 4294967295)) := by simp only [impl_isAddr.f, impl_in, Option.bind_some]
theorem two_loop (n : Nat) : ∀ (k : Nat) (c : Int), n ≤ 62 → n < k → 1 ≤ c → c * 2 ^ n ≤ 4611686018427387904 → spec_l1Two.l0 k (n : Int) c = some (c * 2 ^ n) := by
 induction n with
 | zero =>
  intro k c _ hk _ _; obtain ⟨k, rfl⟩ : ∃ m, k = m + 1 := ⟨k - 1, by omega⟩; simp only [spec_l1Two.l0]; rw [if_neg (by omega)]; simp
 | succ n ih =>
  intro k c hn hk hc hb; obtain ⟨k, rfl⟩ : ∃ m, k = m + 1 := ⟨k - 1, by omega⟩; have e : c * 2 ^ (n + 1) = c * 2 * 2 ^ n := by rw [Int.pow_succ, Int.mul_comm ((2 : Int) ^ n) 2, Int.mul_assoc]
  have hp : (1 : Int) ≤ 2 ^ n := by
   have : (0 : Int) < 2 ^ n := Int.pow_pos (by decide); omega
  have hc2 : c * 2 ≤ c * 2 * 2 ^ n := by
   have := Int.mul_le_mul_of_nonneg_left hp (by omega : (0 : Int) ≤ c * 2); omega
  simp only [spec_l1Two.l0]; rw [e] at hb ⊢; rw [if_pos (by omega), w64 (by omega), w64 (by omega)]; have : ((n + 1 : Nat) : Int) - 1 = (n : Int) := by omega
  rw [this]; exact ih k (c * 2) (by omega) (by omega) (by omega) hb
theorem spec_two {n : Int} (h0 : 0 ≤ n) (h1 : n ≤ 62) : (∃ K_, ∀ k, K_ ≤ k → spec_l1Two.f k n = some (2 ^ n.toNat)) := by
 refine ⟨n.toNat + 1, fun k hk => ?_⟩; have e : (n.toNat : Int) = n := by omega
 have hp : (2 : Int) ^ n.toNat ≤ 2 ^ 62 := by
  exact_mod_cast Nat.pow_le_pow_right (n := 2) (by decide) (by omega : n.toNat ≤ 62)
 have := two_loop n.toNat k 1 (by omega) (by omega) (by omega) (by omega); rw [e, Int.one_mul] at this; exact this
theorem spec_size {m : Int} (h0 : 0 ≤ m) (h1 : m ≤ 32) : (∃ K_, ∀ k, K_ ≤ k → spec_l1Size.f k m = some (sz m)) := by
 obtain ⟨K, h⟩ := spec_two (n := 32 - m) (by omega) (by omega); refine ⟨K, fun k hk => ?_⟩; simp only [spec_l1Size.f]; rw [w64 (by omega), h k hk]; rfl
theorem impl_size {b m : Int} (h0 : 0 ≤ m) (h1 : m ≤ 32) : impl_Block_size.f b m = some (sz m) := by
 unfold impl_Block_size.f; rw [w64 (by omega), if_pos (by omega), shl_sz h0 h1]
theorem tmod_beq {b s : Int} (hb : 0 ≤ b) : (Int.tmod b s == 0) = decide (b % s = 0) := by
 rw [Int.tmod_eq_emod_of_nonneg hb]; rfl
theorem impl_ok (b m : Int) : impl_BlockOk.f b m = some (bokB b m) := by
 unfold impl_BlockOk.f; rw [impl_addr, Option.bind_some]; by_cases c : 0 ≤ b ∧ b ≤ 4294967295
 ·rw [if_pos (by simpa using c), impl_in, Option.bind_some]
  by_cases d : 0 ≤ m ∧ m ≤ 32
  ·rw [if_pos (by simpa using d), impl_size d.1 d.2, Option.bind_some, if_neg (by have := sz_pos m; omega), tmod_beq c.1]
   simp [bokB, bok, c, d]
  ·rw [if_neg (by simpa using d)]
   exact congrArg some (bokB_false.2 (fun h => d ⟨h.2.2.1, h.2.2.2.1⟩)).symm
 ·rw [if_neg (by simpa using c)]
  exact congrArg some (bokB_false.2 (fun h => c ⟨h.1, h.2.1⟩)).symm
theorem spec_ok (b m : Int) : (∃ K_, ∀ k, K_ ≤ k → spec_BlockOk.f k b m = some (bokB b m)) := by
 by_cases c : 0 ≤ b ∧ b ≤ 4294967295
 ·by_cases d : 0 ≤ m ∧ m ≤ 32
  ·obtain ⟨K, h⟩ := spec_size d.1 d.2
   refine ⟨K, fun k hk => ?_⟩; simp only [spec_BlockOk.f]; rw [spec_addr, Option.bind_some, if_pos (by simpa using c), spec_in, Option.bind_some, if_pos (by simpa using d), h k hk, Option.bind_some, if_neg (by have := sz_pos m; omega), tmod_beq c.1]; simp [bokB, bok, c, d]
  ·refine ⟨0, fun k _ => ?_⟩
   simp only [spec_BlockOk.f]; rw [spec_addr, Option.bind_some, if_pos (by simpa using c), spec_in, Option.bind_some, if_neg (by simpa using d)]; exact congrArg some (bokB_false.2 (fun h => d ⟨h.2.2.1, h.2.2.2.1⟩)).symm
 ·refine ⟨0, fun k _ => ?_⟩
  simp only [spec_BlockOk.f]; rw [spec_addr, Option.bind_some, if_neg (by simpa using c)]; exact congrArg some (bokB_false.2 (fun h => c ⟨h.1, h.2.1⟩)).symm
theorem sz_bd {m : Int} (h0 : 0 ≤ m) : 1 ≤ sz m ∧ sz m ≤ 4294967296 := ⟨sz_pos m, sz_top h0⟩
theorem impl_last {b m : Int} (hb0 : 0 ≤ b) (hb1 : b ≤ 4611686018427387904) (h0 : 0 ≤ m) (h1 : m ≤ 32) : impl_Block_last.f b m = some (b + sz m - 1) := by
 have := sz_bd h0; unfold impl_Block_last.f; rw [impl_size h0 h1, Option.bind_some, w64 (n := b + sz m) (by omega), w64 (by omega)]
theorem spec_last {b m : Int} (hb0 : -1 ≤ b) (hb1 : b ≤ 4611686018427387904) (h0 : 0 ≤ m) (h1 : m ≤ 32) : (∃ K_, ∀ k, K_ ≤ k → spec_l1Last.f k b m = some (b + sz m - 1)) := by
 have := sz_bd h0; obtain ⟨K, h⟩ := spec_size h0 h1; refine ⟨K, fun k hk => ?_⟩; simp only [spec_l1Last.f]; rw [h k hk, Option.bind_some, w64 (n := b + sz m) (by omega), w64 (by omega)]
/-- Is an address in a block? -/
def hasB (b m a : Int) : Bool := decide (b ≤ a ∧ a ≤ b + sz m - 1)
theorem impl_has {b m : Int} (a : Int) (hb0 : 0 ≤ b) (hb1 : b ≤ 4611686018427387904) (h0 : 0 ≤ m) (h1 : m ≤ 32) : impl_Block_has.f b m a = some (hasB b m a) := by
 unfold impl_Block_has.f; rw [impl_last hb0 hb1 h0 h1, Option.bind_some, impl_in, Option.bind_some]; rfl
abbrev Ru := S92
theorem drop_consR {α : Type} {l : List α} {n : Nat} (h : n < l.length) : l.drop n = l[n] :: l.drop (n + 1) := List.drop_eq_getElem_cons h
theorem rd_rule (l : List Ru) (n : Nat) (h : n < l.length) : rd_T92 l (n : Int) = l[n] := by
 unfold rd_T92; rw [List.getD_eq_getElem?_getD, Int.toNat_natCast, List.getElem?_eq_getElem h]; rfl
/-- Is a number in a range? -/
def inR (a l h : Int) : Bool := decide (l ≤ a ∧ a ≤ h)
theorem impl_inR (a l h : Int) : impl_in.f a l h = some (inR a l h) := impl_in a l h
theorem spec_inR (a l h : Int) : spec_l1In.f a l h = some (inR a l h) := spec_in a l h
def tunB (x : Ru) : Bool := if x.f0 = 2 then inR x.f1 0 3 else decide (x.f1 = 0)
/-- Is a rule valid? -/
def ruleB (x : Ru) : Bool := bokB x.f2.f0 x.f2.f1 && (bokB x.f3.f0 x.f3.f1 && (inR x.f4 0 x.f5 && (decide (x.f5 ≤ 65535) && (inR x.f0 0 2 && tunB x))))
theorem right_j0 (k : Nat) (b : Bool) (x : Ru) : impl_Rule_right.j0 (k + 1) b x.f0 x.f1 x.f2.f0 x.f2.f1 x.f3.f0 x.f3.f1 x.f4 x.f5 = some (bokB x.f2.f0 x.f2.f1 && (bokB x.f3.f0 x.f3.f1 && (inR x.f4 0 x.f5 && (decide (x.f5 ≤ 65535) && (inR x.f0 0 2 && b))))) := by
 simp only [impl_Rule_right.j0]; rw [impl_ok, Option.bind_some, impl_ok, Option.bind_some, impl_inR, Option.bind_some, impl_inR, Option.bind_some]; by_cases d : x.f5 ≤ 65535
 ·cases bokB x.f2.f0 x.f2.f1 <;> cases bokB x.f3.f0 x.f3.f1 <;> cases inR x.f4 0 x.f5 <;> cases inR x.f0 0 2 <;> simp [d]
 ·cases bokB x.f2.f0 x.f2.f1 <;> cases bokB x.f3.f0 x.f3.f1 <;> cases inR x.f4 0 x.f5 <;> cases inR x.f0 0 2 <;> simp [d]
theorem impl_right (k : Nat) (x : Ru) : impl_Rule_right.f (k + 1) x.f0 x.f1 x.f2.f0 x.f2.f1 x.f3.f0 x.f3.f1 x.f4 x.f5 = some (ruleB x) := by
 simp only [impl_Rule_right.f]; rw [right_j0, impl_inR, Option.bind_some, right_j0, right_j0]; unfold ruleB tunB; by_cases c : x.f1 = 0
 ·rw [if_pos c]
  by_cases d : x.f0 = 2
  ·rw [if_pos d]
   have : inR x.f1 0 3 = true := by rw [c]; rfl
   rw [this]
  ·rw [if_neg d]
   simp [c]
 ·rw [if_neg c]
  by_cases d : x.f0 = 2
  ·rw [if_pos d, if_pos d]
  ·rw [if_neg d, if_neg d]
   simp [c]
theorem spec_right (x : Ru) : (∃ K_, ∀ k, K_ ≤ k → spec_l4Ok.f k x.f0 x.f1 x.f2.f0 x.f2.f1 x.f3.f0 x.f3.f1 x.f4 x.f5 = some (ruleB x)) := by
 obtain ⟨K1, e1⟩ := spec_ok x.f2.f0 x.f2.f1; obtain ⟨K2, e2⟩ := spec_ok x.f3.f0 x.f3.f1; refine ⟨K1 + K2 + 1, fun k hk => ?_⟩; obtain ⟨k, rfl⟩ : ∃ j, k = j + 1 := ⟨k - 1, by omega⟩; simp only [spec_l4Ok.f]; rw [e1 _ (by omega), Option.bind_some, e2 _ (by omega), Option.bind_some, spec_inR, Option.bind_some, spec_inR, Option.bind_some]; simp only [spec_l4Ok.j0]; rw [spec_inR, Option.bind_some]; unfold ruleB tunB; by_cases d : x.f5 ≤ 65535
 ·have d' : ¬ x.f5 > 65535 := by omega
  by_cases c : x.f0 = 2
  ·cases bokB x.f2.f0 x.f2.f1 <;> cases bokB x.f3.f0 x.f3.f1 <;> cases inR x.f4 0 x.f5 <;> cases inR x.f0 0 2 <;> simp [d, d', c]
  ·have e : (x.f1 == 0) = decide (x.f1 = 0) := rfl
   cases bokB x.f2.f0 x.f2.f1 <;> cases bokB x.f3.f0 x.f3.f1 <;> cases inR x.f4 0 x.f5 <;> cases inR x.f0 0 2 <;> simp [d, d', c, e]
 ·have d' : x.f5 > 65535 := by omega
  cases bokB x.f2.f0 x.f2.f1 <;> cases bokB x.f3.f0 x.f3.f1 <;> cases inR x.f4 0 x.f5 <;> simp [d, d']
/-- Are rules valid? -/
def rokB (l : List Ru) : Bool := l.all ruleB && decide (l.length ≤ 8)
theorem any_bad (k : Nat) (l : List Ru) : anyO (impl_RulesOk.bad (k + 1)) l = some (l.any fun x => !ruleB x) := by
 induction l with
 | nil => rfl
 | cons x l ih =>
  simp only [anyO, impl_RulesOk.bad]; rw [impl_right, Option.bind_some, Option.bind_some, ih]; cases h : ruleB x <;> simp [h]
theorem all_any (l : List Ru) : (!(l.any fun x => !ruleB x)) = l.all ruleB := by
 induction l with
 | nil => rfl
 | cons x l ih => simp only [List.any_cons, List.all_cons, ← ih]; cases ruleB x <;> simp
theorem impl_rulesOk (l : List Ru) : (∃ K_, ∀ k, K_ ≤ k → impl_RulesOk.f k l = some (rokB l)) := by
 refine ⟨1, fun k hk => ?_⟩; obtain ⟨k, rfl⟩ : ∃ j, k = j + 1 := ⟨k - 1, by omega⟩; simp only [impl_RulesOk.f]; unfold rokB; by_cases c : (l.length : Int) ≤ 8
 ·have c' : l.length ≤ 8 := by omega
  rw [if_pos c, any_bad, Option.bind_some, all_any]; simp [c']
 ·have c' : ¬ l.length ≤ 8 := by omega
  rw [if_neg c]; simp [c']
theorem spec_rulesOk_loop (l : List Ru) (hl : l.length ≤ 1073741824) (d : Nat) : ∀ n : Nat, n + d = l.length → (∃ K_, ∀ k, K_ ≤ k → spec_RulesOk.l0 k l (n : Int) = some ((l.drop n).all ruleB && decide (l.length ≤ 8))) := by
 induction d with
 | zero =>
  intro n hn; refine ⟨1, fun k hk => ?_⟩; obtain ⟨k, rfl⟩ : ∃ j, k = j + 1 := ⟨k - 1, by omega⟩; simp only [spec_RulesOk.l0]; rw [if_neg (by omega), List.drop_eq_nil_of_le (by omega)]; have : decide ((l.length : Int) ≤ 8) = decide (l.length ≤ 8) := by rw [decide_eq_decide]; omega
  rw [this]; rfl
 | succ d ih =>
  intro n hn; have hlt : n < l.length := by omega
  have hw : wrap64 ((n : Int) + 1) = ((n + 1 : Nat) : Int) := by rw [w64 (by omega)]; omega
  obtain ⟨K1, e1⟩ := ih (n + 1) (by omega); obtain ⟨K2, e2⟩ := spec_right l[n]; refine ⟨K1 + K2 + 1, fun k hk => ?_⟩; obtain ⟨k, rfl⟩ : ∃ j, k = j + 1 := ⟨k - 1, by omega⟩; have e1 := e1 k (by omega); simp only [spec_RulesOk.l0]; rw [drop_consR hlt, if_pos (by omega), if_pos (by omega), rd_rule l n hlt, e2 k (by omega), Option.bind_some, hw, e1, List.all_cons]; cases ruleB l[n] <;> simp
theorem spec_rulesOk (l : List Ru) (hl : l.length ≤ 1073741824) : (∃ K_, ∀ k, K_ ≤ k → spec_RulesOk.f k l = some (rokB l)) := spec_rulesOk_loop l hl l.length 0 (by omega)
theorem rokB_valid {l : List Ru} (h : rokB l = true) : ∀ x ∈ l, ruleB x = true := by
 simp only [rokB, Bool.and_eq_true, List.all_eq_true] at h; exact h.1
theorem ruleB_blocks {x : Ru} (h : ruleB x = true) : bok x.f2.f0 x.f2.f1 ∧ bok x.f3.f0 x.f3.f1 ∧ 0 ≤ x.f4 ∧ x.f4 ≤ x.f5 ∧ x.f5 ≤ 65535 := by
 simp only [ruleB, inR, Bool.and_eq_true, bokB_true, decide_eq_true_eq] at h; exact ⟨h.1, h.2.1, h.2.2.1.1, h.2.2.1.2, h.2.2.2.1⟩
/-- Is a rule about a call? -/
def aboutB (a b c : Int) (x : Ru) : Bool := hasB x.f2.f0 x.f2.f1 a && (hasB x.f3.f0 x.f3.f1 b && inR c x.f4 x.f5)
theorem impl_matches {x : Ru} (h : ruleB x = true) (a b c : Int) : impl_Rule_matches.f x.f0 x.f1 x.f2.f0 x.f2.f1 x.f3.f0 x.f3.f1 x.f4 x.f5 a b c = some (aboutB a b c x) := by
 obtain ⟨h1, h2, _⟩ := ruleB_blocks h; unfold impl_Rule_matches.f aboutB; rw [impl_has a h1.1 (by have := h1.2.1; omega) h1.2.2.1 h1.2.2.2.1, Option.bind_some, impl_has b h2.1 (by have := h2.2.1; omega) h2.2.2.1 h2.2.2.2.1, Option.bind_some, impl_inR, Option.bind_some]; cases hasB x.f2.f0 x.f2.f1 a <;> cases hasB x.f3.f0 x.f3.f1 b <;> simp
theorem spec_about {x : Ru} (h : ruleB x = true) (a b c : Int) : (∃ K_, ∀ k, K_ ≤ k → spec_l4About.f k x.f0 x.f1 x.f2.f0 x.f2.f1 x.f3.f0 x.f3.f1 x.f4 x.f5 a b c = some (aboutB a b c x)) := by
 obtain ⟨h1, h2, _⟩ := ruleB_blocks h; obtain ⟨K1, e1⟩ := spec_last (b := x.f2.f0) (m := x.f2.f1) (by have := h1.1; omega) (by have := h1.2.1; omega) h1.2.2.1 h1.2.2.2.1; obtain ⟨K2, e2⟩ := spec_last (b := x.f3.f0) (m := x.f3.f1) (by have := h2.1; omega) (by have := h2.2.1; omega) h2.2.2.1 h2.2.2.2.1; refine ⟨K1 + K2, fun k hk => ?_⟩; simp only [spec_l4About.f]; rw [e1 k (by omega), Option.bind_some, e2 k (by omega), Option.bind_some, spec_inR, Option.bind_some, spec_inR, Option.bind_some, spec_inR, Option.bind_some]; have g1 : inR a x.f2.f0 (x.f2.f0 + sz x.f2.f1 - 1) = hasB x.f2.f0 x.f2.f1 a := rfl; have g2 : inR b x.f3.f0 (x.f3.f0 + sz x.f3.f1 - 1) = hasB x.f3.f0 x.f3.f1 b := rfl; rw [g1, g2]; unfold aboutB; cases hasB x.f2.f0 x.f2.f1 a <;> cases hasB x.f3.f0 x.f3.f1 b <;> simp
/-- The place of the first element of which q holds, from i on; -1. -/
def firstGo {α : Type} (q : α → Bool) : List α → Int → Int
 | [], _ => -1
 | x :: l, i => if q x = true then i else firstGo q l (i + 1)
def firstF (l : List Ru) (a b c : Int) : Int := firstGo (aboutB a b c) l 0
theorem findO_first {α : Type} {p : α → Option Bool} {q : α → Bool} : ∀ (l : List α) (i : Int), (∀ x ∈ l, p x = some (q x)) → findO p l i = some (firstGo q l i)
 | [], _, _ => rfl
 | x :: l, i, h => by
  simp only [findO, firstGo]; rw [h x (List.mem_cons_self ..), Option.bind_some, findO_first l (i + 1) (fun y hy => h y (List.mem_cons_of_mem _ hy))]; cases q x <;> simp
theorem impl_first {l : List Ru} (h : ∀ x ∈ l, ruleB x = true) (a b c : Int) : impl_first.f l a b c = some (firstF l a b c) :=
 findO_first l 0 (fun x hx => impl_matches (h x hx) a b c)
theorem spec_first_loop (l : List Ru) (h : ∀ x ∈ l, ruleB x = true) (a b c : Int) (hl : l.length ≤ 1073741824) (d : Nat) : ∀ n : Nat, n + d = l.length → (∃ K_, ∀ k, K_ ≤ k → spec_l4First.l0 k l (n : Int) a b c = some (firstGo (aboutB a b c) (l.drop n) (n : Int))) := by
 induction d with
 | zero =>
  intro n hn; refine ⟨1, fun k hk => ?_⟩; obtain ⟨k, rfl⟩ : ∃ j, k = j + 1 := ⟨k - 1, by omega⟩; simp only [spec_l4First.l0]; rw [if_neg (by omega), List.drop_eq_nil_of_le (by omega)]; rfl
 | succ d ih =>
  intro n hn; have hlt : n < l.length := by omega
  have hw : wrap64 ((n : Int) + 1) = ((n + 1 : Nat) : Int) := by rw [w64 (by omega)]; omega
  obtain ⟨K1, e1⟩ := ih (n + 1) (by omega); obtain ⟨K2, e2⟩ := spec_about (h l[n] (List.getElem_mem hlt)) a b c; refine ⟨K1 + K2 + 1, fun k hk => ?_⟩; obtain ⟨k, rfl⟩ : ∃ j, k = j + 1 := ⟨k - 1, by omega⟩; have e1 := e1 k (by omega); simp only [spec_l4First.l0]; rw [drop_consR hlt, if_pos (by omega), if_pos (by omega), rd_rule l n hlt, e2 k (by omega), Option.bind_some, hw, e1]; simp only [firstGo]; have : ((n + 1 : Nat) : Int) = (n : Int) + 1 := by omega
  rw [this]; cases aboutB a b c l[n] <;> simp
theorem spec_first {l : List Ru} (h : ∀ x ∈ l, ruleB x = true) (a b c : Int) (hl : l.length ≤ 1073741824) : (∃ K_, ∀ k, K_ ≤ k → spec_l4First.f k l a b c = some (firstF l a b c)) := spec_first_loop l h a b c hl l.length 0 (by omega)
/-- Is it a call? -/
def callB (a b c : Int) : Bool := inR a 0 4294967295 && (inR b 0 4294967295 && inR c 0 65535)
theorem impl_call (a b c : Int) : impl_isCall.f a b c = some (callB a b c) := by
 unfold impl_isCall.f callB; rw [impl_addr, Option.bind_some, impl_addr, Option.bind_some, impl_inR, Option.bind_some]; have g : ∀ x : Int, decide (0 ≤ x ∧ x ≤ 4294967295) = inR x 0 4294967295 := fun _ => rfl
 rw [g, g]; cases inR a 0 4294967295 <;> cases inR b 0 4294967295 <;> simp
theorem spec_call (a b c : Int) : spec_l4Call.f a b c = some (callB a b c) := by
 unfold spec_l4Call.f callB; rw [spec_addr, Option.bind_some, spec_addr, Option.bind_some, spec_inR, Option.bind_some]; have g : ∀ x : Int, decide (0 ≤ x ∧ x ≤ 4294967295) = inR x 0 4294967295 := fun _ => rfl
 rw [g, g]; cases inR a 0 4294967295 <;> cases inR b 0 4294967295 <;> simp
abbrev Se := S105
theorem rd_seen (l : List Se) (n : Nat) (h : n < l.length) : rd_T105 l (n : Int) = l[n] := by
 unfold rd_T105; rw [List.getD_eq_getElem?_getD, Int.toNat_natCast, List.getElem?_eq_getElem h]; rfl
/-- Is it a call that was seen? -/
def isC (a b c : Int) (x : Se) : Bool := x.f0.f0 == a && (x.f0.f1 == b && (x.f0.f2 == c))
def okS (rs : List Ru) (x : Se) : Bool := callB x.f0.f0 x.f0.f1 x.f0.f2 && decide (x.f1 = firstF rs x.f0.f0 x.f0.f1 x.f0.f2)
/-- Is each seen as it is, and none twice? -/
def seensB (rs : List Ru) : List Se → List Se → Bool
 | _, [] => true
 | pre, x :: l => okS rs x && (!(pre.any (isC x.f0.f0 x.f0.f1 x.f0.f2)) && seensB rs (pre ++ [x]) l)
/-- Is a cache valid? -/
def cacheB (rs : List Ru) (size : Int) (l : List Se) : Bool := rokB rs && (inR size 0 16 && (decide ((l.length : Int) ≤ size) && seensB rs [] l))
theorem take_snoc {α : Type} {l : List α} {n : Nat} (h : n < l.length) : l.take n ++ [l[n]] = l.take (n + 1) := by rw [List.take_succ_eq_append_getElem h]
theorem impl_cacheOk_loop (rs : List Ru) (hr : ∀ x ∈ rs, ruleB x = true) (size : Int) (l : List Se) (hl : l.length ≤ 1073741824) (d : Nat) : ∀ n : Nat, n + d = l.length → (∃ K_, ∀ k, K_ ≤ k → impl_CacheOk.l0 k rs l (l.length : Int) (n : Int) size l = some (seensB rs (l.take n) (l.drop n))) := by
 induction d with
 | zero =>
  intro n hn; refine ev1 ?_; simp only [impl_CacheOk.l0]; rw [List.drop_eq_nil_of_le (by omega)]; exact evN (by omega) (evR rfl)
 | succ d ih =>
  intro n hn; have hlt : n < l.length := by omega
  have hw : wrap64 ((n : Int) + 1) = ((n + 1 : Nat) : Int) := by rw [w64 (by omega)]; omega
  have ih := ih (n + 1) (by omega); refine ev1 ?_; simp only [impl_CacheOk.l0, rd_seen l n hlt, hw, Int.toNat_natCast]; rw [drop_consR hlt]; simp only [seensB, take_snoc hlt]; refine evP (by omega) (evP (by omega) (evP (by omega) (evS (impl_call _ _ _) ?_))); cases hc : callB l[n].f0.f0 l[n].f0.f1 l[n].f0.f2 with
  | false => exact evN (by simp) (evR (by simp [okS, hc]))
  | true =>
   refine evP rfl (evS (impl_first hr _ _ _) ?_); by_cases he : l[n].f1 = firstF rs l[n].f0.f0 l[n].f0.f1 l[n].f0.f2
   ·refine evP he (evP (by omega) (evS rfl ?_))
    have ho : okS rs l[n] = true := by simp [okS, hc, ← he]
    rw [ho, Bool.true_and]; cases ha : (l.take n).any (isC l[n].f0.f0 l[n].f0.f1 l[n].f0.f2) with
    | true => exact evP ha (evR rfl)
    | false => exact evN (by rw [show (l.take n).any (slices_ContainsFunc_Seen.is l[n].f0.f0 l[n].f0.f1 l[n].f0.f2) = false from ha]; simp) ih
   ·exact evN he (evR (by simp [okS, hc, he]))
theorem impl_cacheOk (rs : List Ru) (size : Int) (l : List Se) (hl : l.length ≤ 1073741824) : (∃ K_, ∀ k, K_ ≤ k → impl_CacheOk.f k rs size l = some (cacheB rs size l)) := by
 simp only [impl_CacheOk.f]; refine evB (impl_rulesOk rs) ?_
 have hf : (∃ K_, ∀ k, K_ ≤ k → impl_CacheOk.j0 k rs true size l = some false) := by
  refine ev1 ?_; simp only [impl_CacheOk.j0]; exact evP trivial (evR rfl)
 unfold cacheB; cases h1 : rokB rs with
 | false => exact evN (by simp) hf
 | true =>
  refine evP rfl (evS (impl_inR _ _ _) ?_); cases h2 : inR size 0 16 with
  | false => exact evN (by simp) hf
  | true =>
   refine evP rfl ?_; by_cases c : (l.length : Int) > size
   ·rw [decide_eq_true c, decide_eq_false (show ¬ (l.length : Int) ≤ size by omega)]
    exact hf
   ·rw [decide_eq_false c, decide_eq_true (show (l.length : Int) ≤ size by omega)]
    refine ev1 ?_; simp only [impl_CacheOk.j0]; exact evN (by simp) (impl_cacheOk_loop rs (rokB_valid h1) size l hl l.length 0 (by omega))
theorem spec_seen_loop (rs : List Ru) (size : Int) (l : List Se) (hl : l.length ≤ 1073741824) (n : Nat) (hn : n < l.length) (R : Bool) (h : (∃ K_, ∀ k, K_ ≤ k → spec_CacheOk.l0 k rs (((n + 1 : Nat)) : Int) size l = some R)) (d : Nat) : ∀ m : Nat, m + d = n → (∃ K_, ∀ k, K_ ≤ k → spec_CacheOk.l1 k rs (n : Int) (m : Int) size l = some (!(((l.take n).drop m).any (isC l[n].f0.f0 l[n].f0.f1 l[n].f0.f2)) && R)) := by
 induction d with
 | zero =>
  intro m hm; refine ev1 ?_; simp only [spec_CacheOk.l1]; have hw : wrap64 ((n : Int) + 1) = ((n + 1 : Nat) : Int) := by rw [w64 (by omega)]; omega
  rw [List.drop_eq_nil_of_le (by simp; omega), hw]; refine evN (by omega) ?_; simp only [List.any_nil, Bool.not_false, Bool.true_and]; exact h
 | succ d ih =>
  intro m hm; have ih := ih (m + 1) (by omega); have hlm : m < (l.take n).length := by simp; omega
  have hw : wrap64 ((m : Int) + 1) = ((m + 1 : Nat) : Int) := by rw [w64 (by omega)]; omega
  have hx : (l.take n)[m] = l[m] := by simp
  refine ev1 ?_; simp only [spec_CacheOk.l1, rd_seen l n hn, rd_seen l m (by omega), hw]; rw [drop_consR hlm, hx, List.any_cons]; refine evP (by omega) (evP (by omega) (evP (by omega) (evP (by omega) (evP (by omega) ?_)))); cases ha : isC l[n].f0.f0 l[n].f0.f1 l[n].f0.f2 l[m] with
  | true => exact evP ha (evR rfl)
  | false =>
   refine evN (by rw [show (l[m].f0.f0 == l[n].f0.f0 && (l[m].f0.f1 == l[n].f0.f1 && (l[m].f0.f2 == l[n].f0.f2))) = false from ha]; simp) ?_; rw [Bool.false_or]; exact ih
theorem spec_cacheOk_loop (rs : List Ru) (hr : ∀ x ∈ rs, ruleB x = true) (hrl : rs.length ≤ 1073741824) (size : Int) (l : List Se) (hl : l.length ≤ 1073741824) (d : Nat) : ∀ n : Nat, n + d = l.length → (∃ K_, ∀ k, K_ ≤ k → spec_CacheOk.l0 k rs (n : Int) size l = some (seensB rs (l.take n) (l.drop n))) := by
 induction d with
 | zero =>
  intro n hn; refine ev1 ?_; simp only [spec_CacheOk.l0]; rw [List.drop_eq_nil_of_le (by omega)]; exact evN (by omega) (evR rfl)
 | succ d ih =>
  intro n hn; have hlt : n < l.length := by omega
  have ih := ih (n + 1) (by omega); refine ev1 ?_; simp only [spec_CacheOk.l0, rd_seen l n hlt]; rw [drop_consR hlt]; simp only [seensB, take_snoc hlt]; refine evP (by omega) (evP (by omega) (evS (spec_call _ _ _) ?_))
  have hf : (∃ K_, ∀ k, K_ ≤ k → spec_CacheOk.j2 k rs (n : Int) true size l = some false) := by
   refine ev1 ?_; simp only [spec_CacheOk.j2]; exact evP trivial (evR rfl)
  cases hc : callB l[n].f0.f0 l[n].f0.f1 l[n].f0.f2 with
  | false =>
   rw [show okS rs l[n] = false by simp [okS, hc]]; exact evN (by simp) hf
  | true =>
   refine evP rfl (evB (spec_first hr _ _ _ hrl) ?_); by_cases he : l[n].f1 = firstF rs l[n].f0.f0 l[n].f0.f1 l[n].f0.f2
   ·rw [show okS rs l[n] = true by simp [okS, hc, ← he], show (l[n].f1 != firstF rs l[n].f0.f0 l[n].f0.f1 l[n].f0.f2) = false by simp [he]]
    refine ev1 ?_; simp only [spec_CacheOk.j2]; have := spec_seen_loop rs size l hl n hlt _ ih n 0 (by omega); rw [List.drop_zero] at this; exact evN (by simp) this
   ·rw [show okS rs l[n] = false by simp [okS, he], show (l[n].f1 != firstF rs l[n].f0.f0 l[n].f0.f1 l[n].f0.f2) = true by simp [he]]
    exact hf
theorem spec_cacheOk (rs : List Ru) (hrl : rs.length ≤ 1073741824) (size : Int) (l : List Se) (hl : l.length ≤ 1073741824) : (∃ K_, ∀ k, K_ ≤ k → spec_CacheOk.f k rs size l = some (cacheB rs size l)) := by
 simp only [spec_CacheOk.f]; refine evB (spec_rulesOk rs hrl) ?_
 have hf : (∃ K_, ∀ k, K_ ≤ k → spec_CacheOk.j0 k rs true size l = some false) := by
  refine ev1 ?_; simp only [spec_CacheOk.j0]; exact evP trivial (evR rfl)
 unfold cacheB; cases h1 : rokB rs with
 | false => exact evN (by simp) hf
 | true =>
  refine evP rfl (evS (spec_inR _ _ _) ?_); cases h2 : inR size 0 16 with
  | false => exact evN (by simp) hf
  | true =>
   refine evP rfl ?_; by_cases c : (l.length : Int) > size
   ·rw [decide_eq_true c, decide_eq_false (show ¬ (l.length : Int) ≤ size by omega)]
    exact hf
   ·rw [decide_eq_false c, decide_eq_true (show (l.length : Int) ≤ size by omega)]
    refine ev1 ?_; simp only [spec_CacheOk.j0]; exact evN (by simp) (spec_cacheOk_loop rs (rokB_valid h1) hrl size l hl l.length 0 (by omega))
theorem rd_int (l : List Int) (n : Nat) (h : n < l.length) : rd l (n : Int) = l[n] := by
 unfold rd; rw [List.getD_eq_getElem?_getD, Int.toNat_natCast, List.getElem?_eq_getElem h]; rfl
theorem eqInts_loop (l : List Int) (hl : l.length ≤ 1099511627776) (d : Nat) : ∀ n : Nat, n + d = l.length → (∃ K_, ∀ k, K_ ≤ k → laws_eqIntS.l0 k l l (n : Int) = some true) := by
 induction d with
 | zero =>
  intro n hn; refine ev1 ?_; simp only [laws_eqIntS.l0]; exact evN (by omega) (evR rfl)
 | succ d ih =>
  intro n hn; have hw : wrap64 ((n : Int) + 1) = ((n + 1 : Nat) : Int) := by rw [w64 (by omega)]; omega
  refine ev1 ?_; simp only [laws_eqIntS.l0, hw]; exact evP (by omega) (evP (by omega) (evP (by omega) (evP trivial (ih (n + 1) (by omega)))))
theorem eqInts (l : List Int) (hl : l.length ≤ 1099511627776) : (∃ K_, ∀ k, K_ ≤ k → laws_eqIntS.f k l l = some true) := by
 simp only [laws_eqIntS.f]; exact evP trivial (eqInts_loop l hl l.length 0 (by omega))
theorem markInt_loop (a : Int) (ha0 : 0 ≤ a) (ha1 : a ≤ 1000000000000000) (d : Nat) : ∀ (n : Nat) (l : List Int), n + d = l.length → l.length ≤ 1073741824 → (∀ j (h : j < l.length), j < n → l[j] = a + j) → Dr (fun k => laws_markIntS.l0 k l (a + (n : Int)) (n : Int)) fun r => r.1 = a + (l.length : Int) ∧ r.2.length = l.length ∧ ∀ j (h : j < r.2.length), r.2[j] = a + j := by
 induction d with
 | zero =>
  intro n l hn hl hj; refine dr1 ?_; simp only [laws_markIntS.l0]; have e : n = l.length := by omega
  exact drN (by omega) (drR ⟨by rw [e], rfl, fun j h => hj j h (by simp only [] at h; omega)⟩)
 | succ d ih =>
  intro n l hn hl hj; have hlt : n < l.length := by omega
  have hw : wrap64 ((n : Int) + 1) = ((n + 1 : Nat) : Int) := by rw [w64 (by omega)]; omega
  have hw2 : wrap64 (a + (n : Int) + 1) = a + ((n + 1 : Nat) : Int) := by rw [w64 (by omega)]; omega
  refine dr1 ?_; simp only [laws_markIntS.l0, Int.toNat_natCast, hw, hw2]; refine drP (by omega) (drP (by omega) ?_); refine (ih (n + 1) (l.set n _) (by simp only [List.length_set]; omega) (by simp only [List.length_set]; omega) (fun j h hj2 => ?_)).imp fun r hr => ?_
  ·by_cases c : j = n
   ·subst c
    rw [List.getElem_set_self]
   ·rw [List.getElem_set_ne (fun h => c h.symm)]
    exact hj j (by simpa using h) (by omega)
  ·simp only [List.length_set] at hr
   exact hr
theorem markInt (l : List Int) (a : Int) (ha0 : 0 ≤ a) (ha1 : a ≤ 1000000000000000) (hl : l.length ≤ 1073741824) : Dr (fun k => laws_markIntS.f k l a) fun r => r.1 = a + (l.length : Int) ∧ r.2.length = l.length ∧ ∀ j (h : j < r.2.length), r.2[j] = a + j := by
 have := markInt_loop a ha0 ha1 l.length 0 l (by omega) hl (fun j h h2 => absurd h2 (by omega)); simp only [Int.ofNat_zero, Int.add_zero, Int.natCast_zero] at this; simp only [laws_markIntS.f]; exact this
theorem heldInt_loop (l : List Int) (a : Int) (ha0 : 0 ≤ a) (ha1 : a ≤ 1000000000000000) (hl : l.length ≤ 1073741824) (hj : ∀ j (h : j < l.length), l[j] = a + j) (d : Nat) : ∀ n : Nat, n + d = l.length → (∃ K_, ∀ k, K_ ≤ k → laws_heldIntS.l0 k l (a + (n : Int)) (n : Int) = some (a + (l.length : Int))) := by
 induction d with
 | zero =>
  intro n hn; refine ev1 ?_; simp only [laws_heldIntS.l0]; have e : n = l.length := by omega
  exact evN (by omega) (evR (by rw [e]))
 | succ d ih =>
  intro n hn; have hlt : n < l.length := by omega
  have hw : wrap64 ((n : Int) + 1) = ((n + 1 : Nat) : Int) := by rw [w64 (by omega)]; omega
  have hw2 : wrap64 (a + (n : Int) + 1) = a + ((n + 1 : Nat) : Int) := by rw [w64 (by omega)]; omega
  refine ev1 ?_; simp only [laws_heldIntS.l0, rd_int l n hlt, hj n hlt, hw, hw2]; exact evP (by omega) (evP (by omega) (evP trivial (ih (n + 1) (by omega))))
theorem heldInt (l : List Int) (a : Int) (ha0 : 0 ≤ a) (ha1 : a ≤ 1000000000000000) (hl : l.length ≤ 1073741824) (hj : ∀ j (h : j < l.length), l[j] = a + j) : (∃ K_, ∀ k, K_ ≤ k → laws_heldIntS.f k l a = some (a + (l.length : Int))) := by
 have := heldInt_loop l a ha0 ha1 hl hj l.length 0 (by omega); simp only [Int.ofNat_zero, Int.add_zero, Int.natCast_zero] at this; simp only [laws_heldIntS.f]; exact this
abbrev Sa := S48
/-- Is a window as it should be, from place n on, d places being left? -/
def winGo (t : Int) (l : List Int) : Nat → Nat → Bool
 | 0, _ => if rd l ((l.length : Int) - 1) = t then decide (t ≤ 1000000) else false
 | d + 1, n => if rd l (n : Int) < 1 then false else if rd l (n : Int) ≤ wrap64 (t - 16) then false else if 0 < n then (if rd l (n : Int) ≤ rd l ((n : Int) - 1) then false else winGo t l d (n + 1)) else winGo t l d (n + 1)
def winB (t : Int) (l : List Int) : Bool := if l.length = 0 then t == 0 else winGo t l l.length 0
theorem impl_win_loop (t : Int) (l : List Int) (hl : l.length ≤ 1073741824) (h0 : 0 < l.length) (d : Nat) : ∀ n : Nat, n + d = l.length → (∃ K_, ∀ k, K_ ≤ k → impl_WindowOk.l0 k l (l.length : Int) (n : Int) t l = some (winGo t l d n)) := by
 have hw0 : wrap64 ((l.length : Int) - 1) = (l.length : Int) - 1 := w64 (by omega)
 induction d with
 | zero =>
  intro n hn; refine ev1 ?_; simp only [impl_WindowOk.l0, hw0]; exact evN (by omega) (evP (by omega) (evP (by omega) (evI (fun c => evR (by simp only [winGo, if_pos c])) (fun c => evR (by simp only [winGo, if_neg c])))))
 | succ d ih =>
  intro n hn; have hw : wrap64 ((n : Int) + 1) = ((n + 1 : Nat) : Int) := by rw [w64 (by omega)]; omega
  have hw2 : wrap64 ((n : Int) - 1) = (n : Int) - 1 := w64 (by omega); have hi := ih (n + 1) (by omega); refine ev1 ?_; simp only [impl_WindowOk.l0, hw, hw2]; refine evP (by omega) (evP (by omega) (evP (by omega) (evI (fun c1 => evR (by simp only [winGo, if_pos c1])) (fun c1 => evI (fun c2 => evR (by simp only [winGo, if_neg c1, if_pos c2])) (fun c2 => evI (fun c3 => evP (by omega) (evP (by omega) (evI (fun c4 => evR (by simp only [winGo, if_neg c1, if_neg c2, if_pos (show 0 < n by omega), if_pos c4])) (fun c4 => ?_)))) (fun c3 => ?_))))))
  ·have e : winGo t l (d + 1) n = winGo t l d (n + 1) := by simp only [winGo, if_neg c1, if_neg c2, if_pos (show 0 < n by omega), if_neg c4]
   rw [e]; exact hi
  ·have e : winGo t l (d + 1) n = winGo t l d (n + 1) := by simp only [winGo, if_neg c1, if_neg c2, if_neg (show ¬ 0 < n by omega)]
   rw [e]; exact hi
theorem impl_win (t : Int) (l : List Int) (hl : l.length ≤ 1073741824) : (∃ K_, ∀ k, K_ ≤ k → impl_WindowOk.f k t l = some (winB t l)) := by
 simp only [impl_WindowOk.f]; refine evI (fun c => evR (by rw [winB, if_pos (by omega)])) (fun c => ?_); have e : winB t l = winGo t l l.length 0 := by rw [winB, if_neg (by omega)]
 rw [e]; exact impl_win_loop t l hl (by omega) l.length 0 (by omega)
theorem spec_win_loop (t : Int) (l : List Int) (hl : l.length ≤ 1073741824) (h0 : 0 < l.length) (d : Nat) : ∀ n : Nat, n + d = l.length → (∃ K_, ∀ k, K_ ≤ k → spec_WindowOk.l0 k (l.length : Int) (n : Int) t l = some (winGo t l d n)) := by
 have hw0 : wrap64 ((l.length : Int) - 1) = (l.length : Int) - 1 := w64 (by omega)
 induction d with
 | zero =>
  intro n hn; refine ev1 ?_; simp only [spec_WindowOk.l0, hw0]; exact evN (by omega) (evP (by omega) (evP (by omega) (evI (fun c => evR (by simp only [winGo, if_pos c])) (fun c => evR (by simp only [winGo, if_neg c])))))
 | succ d ih =>
  intro n hn; have hw : wrap64 ((n : Int) + 1) = ((n + 1 : Nat) : Int) := by rw [w64 (by omega)]; omega
  have hw2 : wrap64 ((n : Int) - 1) = (n : Int) - 1 := w64 (by omega); have hi := ih (n + 1) (by omega); refine ev1 ?_; simp only [spec_WindowOk.l0, hw, hw2]; refine evP (by omega) (evP (by omega) (evP (by omega) (evI (fun c2 => evR (by simp only [winGo, if_pos c2, ite_self])) (fun c2 => evI (fun c1 => evR (by simp only [winGo, if_pos c1])) (fun c1 => evI (fun c3 => evP (by omega) (evP (by omega) (evI (fun c4 => evR (by simp only [winGo, if_neg c1, if_neg c2, if_pos (show 0 < n by omega), if_pos (show rd l (n : Int) ≤ rd l ((n : Int) - 1) from c4)])) (fun c4 => ?_)))) (fun c3 => ?_))))))
  ·have e : winGo t l (d + 1) n = winGo t l d (n + 1) := by simp only [winGo, if_neg c1, if_neg c2, if_pos (show 0 < n by omega), if_neg (show ¬ rd l (n : Int) ≤ rd l ((n : Int) - 1) from c4)]
   rw [e]; exact hi
  ·have e : winGo t l (d + 1) n = winGo t l d (n + 1) := by simp only [winGo, if_neg c1, if_neg c2, if_neg (show ¬ 0 < n by omega)]
   rw [e]; exact hi
theorem spec_win (t : Int) (l : List Int) (hl : l.length ≤ 1073741824) : (∃ K_, ∀ k, K_ ≤ k → spec_WindowOk.f k t l = some (winB t l)) := by
 simp only [spec_WindowOk.f]; refine evI (fun c => evR (by rw [winB, if_pos (by omega)])) (fun c => ?_); have e : winB t l = winGo t l l.length 0 := by rw [winB, if_neg (by omega)]
 rw [e]; exact spec_win_loop t l hl (by omega) l.length 0 (by omega)
def keysB (a b : ByteArray) : Bool := decide ((a.size : Int) = 16) && inR (b.size : Int) 1 64
theorem impl_keys (a b : ByteArray) : impl_keysOk.f a b = some (keysB a b) := by
 simp only [impl_keysOk.f, impl_inR, Option.bind_some, keysB]; by_cases c : (a.size : Int) = 16 <;> simp [c]
theorem spec_keys (a b : ByteArray) : spec_l8Keys.f a b = some (keysB a b) := by
 simp only [spec_l8Keys.f, spec_inR, Option.bind_some, keysB]; by_cases c : (a.size : Int) = 16 <;> simp [c]
/-- Are keys as they should be? -/
def saR (x : Sa) : Bool := inR x.f4 0 1000000 && (inR x.f6 1 1000000 && (inR x.f5 1 x.f6 && (inR x.f7 1 1000000 && (inR x.f8 0 x.f6 && winB x.f9.f0 x.f9.f1))))
def saB (x : Sa) : Bool := inR x.f0 1 999 && (inR x.f1 0 3 && (keysB x.f2 x.f3 && saR x))
theorem impl_sa_j0 (b : Bool) (x : Sa) (hl : x.f9.f1.length ≤ 1073741824) : (∃ K_, ∀ k, K_ ≤ k → impl_SaOk.j0 k b x.f0 x.f1 x.f2 x.f3 x.f4 x.f5 x.f6 x.f7 x.f8 x.f9.f0 x.f9.f1 = some (b && saR x)) := by
 refine ev1 ?_; simp only [impl_SaOk.j0, impl_inR, Option.bind_some]; refine evI (fun c1 => evI (fun c2 => evI (fun c3 => evI (fun c4 => evI (fun c5 => evI (fun c6 => evB (impl_win _ _ hl) (evR (by simp [saR, c1, c2, c3, c4, c5, c6]))) (fun c6 => evR (by simp [saR, c6]))) (fun c5 => evR (by simp [saR, c5]))) (fun c4 => evR (by simp [c4]))) (fun c3 => ?_)) (fun c2 => ?_)) (fun c1 => ?_)
 ·exact evI (fun c4 => evR (by simp [saR, c3])) (fun c4 => evR (by simp [saR, c3]))
 ·exact evI (fun c4 => evR (by simp [saR, c2])) (fun c4 => evR (by simp [saR, c2]))
 ·exact evI (fun c4 => evR (by simp [saR, c1])) (fun c4 => evR (by simp [saR, c1]))
theorem impl_sa (x : Sa) (hl : x.f9.f1.length ≤ 1073741824) : (∃ K_, ∀ k, K_ ≤ k → impl_SaOk.f k x.f0 x.f1 x.f2 x.f3 x.f4 x.f5 x.f6 x.f7 x.f8 x.f9.f0 x.f9.f1 = some (saB x)) := by
 simp only [impl_SaOk.f, impl_inR, impl_keys, Option.bind_some]; refine evI (fun c1 => evI (fun c2 => ?_) (fun c2 => ?_)) (fun c1 => ?_)
 ·have e : saB x = (keysB x.f2 x.f3 && saR x) := by simp [saB, c1, c2]
  rw [e]; exact impl_sa_j0 _ x hl
 ·have e : saB x = (false && saR x) := by simp [saB, c2]
  rw [e]; exact impl_sa_j0 _ x hl
 ·have e : saB x = (false && saR x) := by simp [saB, c1]
  rw [e]; exact impl_sa_j0 _ x hl
theorem spec_sa (x : Sa) (hl : x.f9.f1.length ≤ 1073741824) : (∃ K_, ∀ k, K_ ≤ k → spec_SaOk.f k x.f0 x.f1 x.f2 x.f3 x.f4 x.f5 x.f6 x.f7 x.f8 x.f9.f0 x.f9.f1 = some (saB x)) := by
 simp only [spec_SaOk.f, spec_inR, spec_keys, Option.bind_some]; refine evI (fun c1 => evI (fun c2 => evI (fun c3 => evI (fun c4 => evI (fun c5 => evI (fun c6 => evI (fun c7 => evI (fun c8 => evB (spec_win _ _ hl) (evR ?_)) (fun c8 => evR ?_)) (fun c7 => evR ?_)) (fun c6 => evR ?_)) (fun c5 => evR ?_)) (fun c4 => evR ?_)) (fun c3 => evR ?_)) (fun c2 => evR ?_)) (fun c1 => evR ?_)
 ·simp [saB, saR, c1, c2, c3, c4, c5, c6, c7, c8]
 ·simp [saB, saR, c8]
 ·simp [saB, saR, c7]
 ·simp [saB, saR, c6]
 ·simp [saB, saR, c5]
 ·simp [saB, saR, c4]
 ·simp [saB, saR, c3]
 ·simp [saB, saR, c2]
 ·simp [saB, saR, c1]
theorem rd_sa (l : List Sa) (n : Nat) (h : n < l.length) : rd_T48 l (n : Int) = l[n] := by
 unfold rd_T48; rw [List.getD_eq_getElem?_getD, Int.toNat_natCast, List.getElem?_eq_getElem h]; rfl
/-- Are keys in order, from place n on, d places being left? -/
def ascGo (f : Sa → Int) (now : Int) (l : List Sa) : Nat → Nat → Bool
 | 0, _ => true
 | d + 1, n => saB (rd_T48 l (n : Int)) && (decide ((rd_T48 l (n : Int)).f4 ≤ now) && ((decide (n = 0) || decide (f (rd_T48 l ((n : Int) - 1)) < f (rd_T48 l (n : Int)))) && ascGo f now l d (n + 1)))
def winsOk (l : List Sa) : Prop := l.length ≤ 1073741824 ∧ ∀ x ∈ l, x.f9.f1.length ≤ 1073741824
theorem winsOk.rd {l : List Sa} (h : winsOk l) {n : Nat} (hn : n < l.length) : (rd_T48 l (n : Int)).f9.f1.length ≤ 1073741824 := by
 rw [rd_sa l n hn]; exact h.2 _ (List.getElem_mem hn)
theorem impl_asc_loop (pf : Int → Int → ByteArray → ByteArray → Int → Int → Int → Int → Int → Int → List Int → Option Int) (f : Sa → Int) (hf : ∀ x : Sa, pf x.f0 x.f1 x.f2 x.f3 x.f4 x.f5 x.f6 x.f7 x.f8 x.f9.f0 x.f9.f1 = some (f x)) (now : Int) (l : List Sa) (h : winsOk l) (d : Nat) : ∀ n : Nat, n + d = l.length → (∃ K_, ∀ k, K_ ≤ k → impl_ascending_tunOf.l0 pf k l now l (l.length : Int) (n : Int) = some (ascGo f now l d n)) := by
 have hl := h.1
 induction d with
 | zero =>
  intro n hn; refine ev1 ?_; simp only [impl_ascending_tunOf.l0]; exact evN (by omega) (evR rfl)
 | succ d ih =>
  intro n hn; have hw : wrap64 ((n : Int) + 1) = ((n + 1 : Nat) : Int) := by rw [w64 (by omega)]; omega
  have hw2 : wrap64 ((n : Int) - 1) = (n : Int) - 1 := w64 (by omega); have hi := ih (n + 1) (by omega)
  have J : ∀ b, (∃ K_, ∀ k, K_ ≤ k → impl_ascending_tunOf.j1 pf k l now l (l.length : Int) (n : Int) b = some (!b && ascGo f now l d (n + 1))) := fun b => by
   refine ev1 ?_; simp only [impl_ascending_tunOf.j1, hw]; exact evI (fun c => evR (by simp [c])) (fun c => Ev.of_eq hi (by simp [c]))
  refine ev1 ?_; simp only [impl_ascending_tunOf.l0, hf, Option.bind_some, hw2]; refine evP (by omega) (evP (by omega) (evP (by omega) (evB (impl_sa (rd_T48 l (n : Int)) (h.rd (by omega))) (evI (fun c1 => evI (fun c2 => ?_) (fun c2 => evI (fun c3 => evP (by omega) (evP (by omega) ?_)) (fun c3 => ?_))) (fun c1 => ?_)))))
  ·exact Ev.of_eq (J true) (by have : ¬ (rd_T48 l (n : Int)).f4 ≤ now := by omega
                               simp [ascGo, this])
  ·have h4 : (rd_T48 l (n : Int)).f4 ≤ now := by omega
   have h0 : ¬ n = 0 := by omega
   exact Ev.of_eq (J _) (by
    by_cases c5 : f (rd_T48 l ((n : Int) - 1)) < f (rd_T48 l (n : Int))
    ·have c6 : ¬ f (rd_T48 l ((n : Int) - 1)) ≥ f (rd_T48 l (n : Int)) := by omega
     simp [ascGo, c1, h4, h0, c5, c6]
    ·have c6 : f (rd_T48 l ((n : Int) - 1)) ≥ f (rd_T48 l (n : Int)) := by omega
     simp [ascGo, h0, c5, c6])
  ·have h4 : (rd_T48 l (n : Int)).f4 ≤ now := by omega
   have d0 : decide (n = 0) = true := decide_eq_true (by omega)
   exact Ev.of_eq (J false) (by
    simp only [ascGo]; rw [c1, decide_eq_true h4, d0]
    simp only [Bool.true_and, Bool.true_or, Bool.not_false])
  ·exact Ev.of_eq (J true) (by simp [ascGo, c1])
theorem impl_asc_tunOf (now : Int) (l : List Sa) (h : winsOk l) : (∃ K_, ∀ k, K_ ≤ k → impl_ascending_tunOf.f k l now = some (ascGo (fun x => x.f1) now l l.length 0)) := impl_asc_loop impl_tunOf.f (fun x => x.f1) (fun x => rfl) now l h l.length 0 (by omega)
theorem impl_asc_spiOf (now : Int) (l : List Sa) (h : winsOk l) : (∃ K_, ∀ k, K_ ≤ k → impl_ascending_spiOf.f k l now = some (ascGo (fun x => x.f0) now l l.length 0)) := impl_asc_loop impl_spiOf.f (fun x => x.f0) (fun x => rfl) now l h l.length 0 (by omega)
def gateB (now : Int) (rs : List Ru) (size : Int) (ss : List Se) (os is : List Sa) : Bool :=
 inR now 0 1000000 && (decide (size = 4) && (cacheB rs size ss && (decide ((os.length : Int) ≤ 4) && (decide ((is.length : Int) ≤ 6) && (ascGo (fun x => x.f1) now os os.length 0 && ascGo (fun x => x.f0) now is is.length 0)))))
theorem impl_gate_j0 (b : Bool) (now : Int) (rs : List Ru) (size : Int) (ss : List Se) (os is : List Sa) (ho : winsOk os) (hi : winsOk is) : (∃ K_, ∀ k, K_ ≤ k → impl_GateOk.j0 k b now rs size ss os is = some (!b && (ascGo (fun x => x.f1) now os os.length 0 && ascGo (fun x => x.f0) now is is.length 0))) := by
 refine ev1 ?_; simp only [impl_GateOk.j0]; refine evI (fun c => evR (by simp [c])) (fun c => evB (impl_asc_tunOf now os ho) (evI (fun c1 => evB (impl_asc_spiOf now is hi) (evR (by simp [c, c1]))) (fun c1 => evR (by simp [c1]))))
theorem impl_gateOk (now : Int) (rs : List Ru) (size : Int) (ss : List Se) (os is : List Sa) (hs : ss.length ≤ 1073741824) (ho : winsOk os) (hi : winsOk is) : (∃ K_, ∀ k, K_ ≤ k → impl_GateOk.f k now rs size ss os is = some (gateB now rs size ss os is)) := by
 simp only [impl_GateOk.f, impl_inR, Option.bind_some]; have J := fun b => impl_gate_j0 b now rs size ss os is ho hi
 refine evI (fun c1 => evI (fun c2 => evB (impl_cacheOk rs size ss hs) (evI (fun c3 => evI (fun c4 => ?_) (fun c4 => ?_)) (fun c3 => ?_))) (fun c2 => ?_)) (fun c1 => ?_)
 ·exact Ev.of_eq (J true) (by have : ¬ (os.length : Int) ≤ 4 := by omega
                              simp [gateB, this])
 ·subst c2
  exact Ev.of_eq (J _) (by have : (os.length : Int) ≤ 4 := by omega
                           by_cases c5 : (is.length : Int) > 6
                           · have h6 : ¬ (is.length : Int) ≤ 6 := by omega
                             simp [gateB, c5, h6]
                           · have h6 : (is.length : Int) ≤ 6 := by omega
                             simp [gateB, c1, c3, this, c5, h6])
 ·exact Ev.of_eq (J true) (by simp [gateB, c3])
 ·exact Ev.of_eq (J true) (by simp [gateB, c2])
 ·exact Ev.of_eq (J true) (by simp [gateB, c1])
theorem spec_gate_ins (now : Int) (rs : List Ru) (size : Int) (ss : List Se) (os is : List Sa) (hi : winsOk is) (d : Nat) : ∀ n : Nat, n + d = is.length → (∃ K_, ∀ k, K_ ≤ k → spec_GateOk.l1 k (n : Int) now rs size ss os is = some (ascGo (fun x => x.f0) now is d n)) := by
 induction d with
 | zero =>
  intro n hn; refine ev1 ?_; simp only [spec_GateOk.l1]; exact evN (by omega) (evR rfl)
 | succ d ih =>
  intro n hn; have hw : wrap64 ((n : Int) + 1) = ((n + 1 : Nat) : Int) := by rw [w64 (by have := hi.1; omega)]; omega
  have hw2 : wrap64 ((n : Int) - 1) = (n : Int) - 1 := w64 (by have := hi.1; omega)
  have J : ∀ b, (∃ K_, ∀ k, K_ ≤ k → spec_GateOk.j4 k (n : Int) b now rs size ss os is = some (!b && ascGo (fun x => x.f0) now is d (n + 1))) := fun b => by
   refine ev1 ?_; simp only [spec_GateOk.j4, hw]; exact evI (fun c => evR (by simp [c])) (fun c => Ev.of_eq (ih (n + 1) (by omega)) (by simp [c]))
  refine ev1 ?_; simp only [spec_GateOk.l1, hw2]; refine evP (by omega) (evP (by omega) (evB (spec_sa (rd_T48 is (n : Int)) (hi.rd (by omega))) (evI (fun c1 => evI (fun c2 => ?_) (fun c2 => evI (fun c3 => evP (by omega) (evP (by omega) ?_)) (fun c3 => ?_))) (fun c1 => ?_))))
  ·exact Ev.of_eq (J true) (by have : ¬ (rd_T48 is (n : Int)).f4 ≤ now := by omega
                               simp [ascGo, this])
  ·have h4 : (rd_T48 is (n : Int)).f4 ≤ now := by omega
   have h0 : ¬ n = 0 := by omega
   exact Ev.of_eq (J _) (by
    by_cases c5 : (rd_T48 is ((n : Int) - 1)).f0 < (rd_T48 is (n : Int)).f0
    ·have c6 : ¬ (rd_T48 is ((n : Int) - 1)).f0 ≥ (rd_T48 is (n : Int)).f0 := by omega
     simp [ascGo, c1, h4, h0, c5, c6]
    ·have c6 : (rd_T48 is ((n : Int) - 1)).f0 ≥ (rd_T48 is (n : Int)).f0 := by omega
     simp [ascGo, h0, c5, c6])
  ·have h4 : (rd_T48 is (n : Int)).f4 ≤ now := by omega
   have d0 : decide (n = 0) = true := decide_eq_true (by omega)
   exact Ev.of_eq (J false) (by
    simp only [ascGo]; rw [c1, decide_eq_true h4, d0]
    simp only [Bool.true_and, Bool.true_or, Bool.not_false])
  ·exact Ev.of_eq (J true) (by simp [ascGo, c1])
theorem spec_gate_outs (now : Int) (rs : List Ru) (size : Int) (ss : List Se) (os is : List Sa) (ho : winsOk os) (hi : winsOk is) (d : Nat) : ∀ n : Nat, n + d = os.length → (∃ K_, ∀ k, K_ ≤ k → spec_GateOk.l0 k (n : Int) now rs size ss os is = some (ascGo (fun x => x.f1) now os d n && ascGo (fun x => x.f0) now is is.length 0)) := by
 induction d with
 | zero =>
  intro n hn; refine ev1 ?_; simp only [spec_GateOk.l0]; exact evN (by omega) (Ev.of_eq (spec_gate_ins now rs size ss os is hi is.length 0 (by omega)) (by simp [ascGo]))
 | succ d ih =>
  intro n hn; have hw : wrap64 ((n : Int) + 1) = ((n + 1 : Nat) : Int) := by rw [w64 (by have := ho.1; omega)]; omega
  have hw2 : wrap64 ((n : Int) - 1) = (n : Int) - 1 := w64 (by have := ho.1; omega)
  have J : ∀ b, (∃ K_, ∀ k, K_ ≤ k → spec_GateOk.j2 k (n : Int) b now rs size ss os is = some (!b && (ascGo (fun x => x.f1) now os d (n + 1) && ascGo (fun x => x.f0) now is is.length 0))) := fun b => by
   refine ev1 ?_; simp only [spec_GateOk.j2, hw]; exact evI (fun c => evR (by simp [c])) (fun c => Ev.of_eq (ih (n + 1) (by omega)) (by simp [c]))
  refine ev1 ?_; simp only [spec_GateOk.l0, hw2]; refine evP (by omega) (evP (by omega) (evB (spec_sa (rd_T48 os (n : Int)) (ho.rd (by omega))) (evI (fun c1 => evI (fun c2 => ?_) (fun c2 => evI (fun c3 => evP (by omega) (evP (by omega) ?_)) (fun c3 => ?_))) (fun c1 => ?_))))
  ·exact Ev.of_eq (J true) (by have : ¬ (rd_T48 os (n : Int)).f4 ≤ now := by omega
                               simp [ascGo, this])
  ·have h4 : (rd_T48 os (n : Int)).f4 ≤ now := by omega
   have h0 : ¬ n = 0 := by omega
   exact Ev.of_eq (J _) (by
    by_cases c5 : (rd_T48 os ((n : Int) - 1)).f1 < (rd_T48 os (n : Int)).f1
    ·have c6 : ¬ (rd_T48 os ((n : Int) - 1)).f1 ≥ (rd_T48 os (n : Int)).f1 := by omega
     simp [ascGo, c1, h4, h0, c5, c6]
    ·have c6 : (rd_T48 os ((n : Int) - 1)).f1 ≥ (rd_T48 os (n : Int)).f1 := by omega
     simp [ascGo, h0, c5, c6])
  ·have h4 : (rd_T48 os (n : Int)).f4 ≤ now := by omega
   have d0 : decide (n = 0) = true := decide_eq_true (by omega)
   exact Ev.of_eq (J false) (by
    simp only [ascGo]; rw [c1, decide_eq_true h4, d0]
    simp only [Bool.true_and, Bool.true_or, Bool.not_false])
  ·exact Ev.of_eq (J true) (by simp [ascGo, c1])
theorem spec_gate_j0 (b : Bool) (now : Int) (rs : List Ru) (size : Int) (ss : List Se) (os is : List Sa) (ho : winsOk os) (hi : winsOk is) : (∃ K_, ∀ k, K_ ≤ k → spec_GateOk.j0 k b now rs size ss os is = some (!b && (ascGo (fun x => x.f1) now os os.length 0 && ascGo (fun x => x.f0) now is is.length 0))) := by
 refine ev1 ?_; simp only [spec_GateOk.j0]; exact evI (fun c => evR (by simp [c])) (fun c => Ev.of_eq (spec_gate_outs now rs size ss os is ho hi os.length 0 (by omega)) (by simp [c]))
theorem spec_gateOk (now : Int) (rs : List Ru) (size : Int) (ss : List Se) (os is : List Sa) (hr : rs.length ≤ 1073741824) (hs : ss.length ≤ 1073741824) (ho : winsOk os) (hi : winsOk is) : (∃ K_, ∀ k, K_ ≤ k → spec_GateOk.f k now rs size ss os is = some (gateB now rs size ss os is)) := by
 simp only [spec_GateOk.f, spec_inR, Option.bind_some]; have J := fun b => spec_gate_j0 b now rs size ss os is ho hi
 refine evI (fun c1 => evI (fun c2 => evB (spec_cacheOk rs hr size ss hs) (evI (fun c3 => evI (fun c4 => ?_) (fun c4 => ?_)) (fun c3 => ?_))) (fun c2 => ?_)) (fun c1 => ?_)
 ·exact Ev.of_eq (J true) (by have : ¬ (os.length : Int) ≤ 4 := by omega
                              simp [gateB, this])
 ·subst c2
  exact Ev.of_eq (J _) (by have : (os.length : Int) ≤ 4 := by omega
                           by_cases c5 : (is.length : Int) > 6
                           · have h6 : ¬ (is.length : Int) ≤ 6 := by omega
                             simp [gateB, c5, h6]
                           · have h6 : (is.length : Int) ≤ 6 := by omega
                             simp [gateB, c1, c3, this, c5, h6])
 ·exact Ev.of_eq (J true) (by simp [gateB, c3])
 ·exact Ev.of_eq (J true) (by simp [gateB, c2])
 ·exact Ev.of_eq (J true) (by simp [gateB, c1])
/-- One of the statement's own values as one of the program's. -/
def convRule (x : S96) : S92 := ⟨x.f0, x.f1, ⟨x.f2.f0, x.f2.f1⟩, ⟨x.f3.f0, x.f3.f1⟩, x.f4, x.f5⟩
theorem rd_lRule (l : List S96) (n : Nat) (h : n < l.length) : rd_T96 l (n : Int) = l[n] := by
 unfold rd_T96; rw [List.getD_eq_getElem?_getD, Int.toNat_natCast, List.getElem?_eq_getElem h]; rfl
theorem toRule_loop (l : List S96) (hl : l.length ≤ 1073741824) (d : Nat) : ∀ (n : Nat) (ys : List S92), n + d = l.length → ys.length = l.length → (∀ j, j < n → ys[j]? = (l.map convRule)[j]?) → (∃ K_, ∀ k, K_ ≤ k → laws_toRuleS.l0 k l ys (n : Int) = some (l.map convRule)) := by
 induction d with
 | zero =>
  intro n ys hn hy hj; refine ⟨1, fun k hk => ?_⟩; obtain ⟨k, rfl⟩ : ∃ j, k = j + 1 := ⟨k - 1, by omega⟩; simp only [laws_toRuleS.l0]; rw [if_neg (by omega)]
  congr 1
  apply List.ext_getElem?
  intro i; by_cases c : i < n
  ·exact hj i c
  ·rw [List.getElem?_eq_none (by omega), List.getElem?_eq_none (by simp; omega)]
 | succ d ih =>
  intro n ys hn hy hj; have hlt : n < l.length := by omega
  have hw : wrap64 ((n : Int) + 1) = ((n + 1 : Nat) : Int) := by rw [w64 (by omega)]; omega
  obtain ⟨K1, e1⟩ := ih (n + 1) (ys.set n (convRule l[n])) (by omega) (by simpa using hy) (fun j hj2 => by
   by_cases c : j = n
   ·subst c
    rw [List.getElem?_set_self (by omega), List.getElem?_map, List.getElem?_eq_getElem hlt]; rfl
   ·rw [List.getElem?_set_ne (by omega)]
    exact hj j (by omega))
  refine ⟨K1 + 1, fun k hk => ?_⟩; obtain ⟨k, rfl⟩ : ∃ j, k = j + 1 := ⟨k - 1, by omega⟩; simp only [laws_toRuleS.l0]; rw [if_pos (by omega), if_pos (by omega), rd_lRule l n hlt]; simp only [laws_toRule.f, laws_toBlock.f, Option.bind_some]; rw [if_pos (by omega), hw, Int.toNat_natCast]; exact e1 k (by omega)
theorem toRule (l : List S96) (hl : l.length ≤ 1073741824) : (∃ K_, ∀ k, K_ ≤ k → laws_toRuleS.f k l = some (l.map convRule)) := by
 obtain ⟨K, h⟩ := toRule_loop l hl l.length 0 (List.replicate l.length z92) (by omega) (by simp) (fun j h => absurd h (by omega)); refine ⟨K, fun k hk => ?_⟩; simp only [laws_toRuleS.f]; rw [if_pos (by omega), if_pos (by omega), Int.toNat_natCast]; exact h k hk
theorem szgRule (l : List S96) (hl : l.length ≤ 9223372036854775807) (m : Int) (h0 : 0 ≤ m) (h1 : m ≤ 1048576) : laws_szRuleS.f l m = some (if (l.length : Int) ≤ m then m - (l.length : Int) else -1) := by
 unfold laws_szRuleS.f; rw [w64 (by omega)]; by_cases c : (l.length : Int) ≤ m
 ·rw [if_neg (by omega), if_pos c]
 ·rw [if_pos (by omega), if_neg c]
/-- One of the statement's own values as one of the program's. -/
def convSeen (x : S124) : S105 := ⟨⟨x.f0.f0, x.f0.f1, x.f0.f2⟩, x.f1⟩
theorem rd_lSeen (l : List S124) (n : Nat) (h : n < l.length) : rd_T124 l (n : Int) = l[n] := by
 unfold rd_T124; rw [List.getD_eq_getElem?_getD, Int.toNat_natCast, List.getElem?_eq_getElem h]; rfl
theorem toSeen_loop (l : List S124) (hl : l.length ≤ 1073741824) (d : Nat) : ∀ (n : Nat) (ys : List S105), n + d = l.length → ys.length = l.length → (∀ j, j < n → ys[j]? = (l.map convSeen)[j]?) → (∃ K_, ∀ k, K_ ≤ k → laws_toSeenS.l0 k l ys (n : Int) = some (l.map convSeen)) := by
 induction d with
 | zero =>
  intro n ys hn hy hj; refine ⟨1, fun k hk => ?_⟩; obtain ⟨k, rfl⟩ : ∃ j, k = j + 1 := ⟨k - 1, by omega⟩; simp only [laws_toSeenS.l0]; rw [if_neg (by omega)]
  congr 1
  apply List.ext_getElem?
  intro i; by_cases c : i < n
  ·exact hj i c
  ·rw [List.getElem?_eq_none (by omega), List.getElem?_eq_none (by simp; omega)]
 | succ d ih =>
  intro n ys hn hy hj; have hlt : n < l.length := by omega
  have hw : wrap64 ((n : Int) + 1) = ((n + 1 : Nat) : Int) := by rw [w64 (by omega)]; omega
  obtain ⟨K1, e1⟩ := ih (n + 1) (ys.set n (convSeen l[n])) (by omega) (by simpa using hy) (fun j hj2 => by
   by_cases c : j = n
   ·subst c
    rw [List.getElem?_set_self (by omega), List.getElem?_map, List.getElem?_eq_getElem hlt]; rfl
   ·rw [List.getElem?_set_ne (by omega)]
    exact hj j (by omega))
  refine ⟨K1 + 1, fun k hk => ?_⟩; obtain ⟨k, rfl⟩ : ∃ j, k = j + 1 := ⟨k - 1, by omega⟩; simp only [laws_toSeenS.l0]; rw [if_pos (by omega), if_pos (by omega), rd_lSeen l n hlt]; simp only [laws_toSeen.f, laws_toCall.f, Option.bind_some]; rw [if_pos (by omega), hw, Int.toNat_natCast]; exact e1 k (by omega)
theorem toSeen (l : List S124) (hl : l.length ≤ 1073741824) : (∃ K_, ∀ k, K_ ≤ k → laws_toSeenS.f k l = some (l.map convSeen)) := by
 obtain ⟨K, h⟩ := toSeen_loop l hl l.length 0 (List.replicate l.length z105) (by omega) (by simp) (fun j h => absurd h (by omega)); refine ⟨K, fun k hk => ?_⟩; simp only [laws_toSeenS.f]; rw [if_pos (by omega), if_pos (by omega), Int.toNat_natCast]; exact h k hk
theorem szgSeen (l : List S124) (hl : l.length ≤ 9223372036854775807) (m : Int) (h0 : 0 ≤ m) (h1 : m ≤ 1048576) : laws_szSeenS.f l m = some (if (l.length : Int) ≤ m then m - (l.length : Int) else -1) := by
 unfold laws_szSeenS.f; rw [w64 (by omega)]; by_cases c : (l.length : Int) ≤ m
 ·rw [if_neg (by omega), if_pos c]
 ·rw [if_pos (by omega), if_neg c]
theorem toCache (a : Int) (l : List S124) (hl : l.length ≤ 1073741824) : (∃ K_, ∀ k, K_ ≤ k → laws_toCache.f k a l = some (a, l.map convSeen)) := by
 simp only [laws_toCache.f]; exact evB (toSeen l hl) (evR rfl)
theorem szCache (a : Int) (l : List S124) (hl : l.length ≤ 9223372036854775807) (m : Int) (h0 : 0 ≤ m) (h1 : m ≤ 1048576) : laws_szCache.f a l m = some (if (l.length : Int) ≤ m then m - (l.length : Int) else -1) := by
 unfold laws_szCache.f; rw [szgSeen l hl m h0 h1, Option.bind_some]; by_cases c : (l.length : Int) ≤ m
 ·rw [if_pos c, if_neg (by omega)]
 ·rw [if_neg c, if_pos (by omega)]
abbrev Sl := S33
theorem szSa (x : Sl) (h2 : x.f2.size ≤ 9223372036854775807) (h3 : x.f3.size ≤ 9223372036854775807) (h9 : x.f9.f1.length ≤ 9223372036854775807) (m : Int) (h0 : 0 ≤ m) (h1 : m ≤ 1048576) :
  ∃ t, laws_szSa.f x.f0 x.f1 x.f2 x.f3 x.f4 x.f5 x.f6 x.f7 x.f8 x.f9.f0 x.f9.f1 m = some t ∧ t ≤ m ∧ (0 ≤ t → x.f9.f1.length ≤ 1048576) := by
 simp only [laws_szSa.f, laws_szWindow.f, laws_szIntS.f]; rw [w64 (n := m - (x.f2.size : Int)) (by omega)]; by_cases c1 : m - (x.f2.size : Int) < 0
 ·exact ⟨-1, by rw [if_pos c1], by omega, by omega⟩
 ·rw [if_neg c1, w64 (n := m - (x.f2.size : Int) - (x.f3.size : Int)) (by omega)]
  by_cases c2 : m - (x.f2.size : Int) - (x.f3.size : Int) < 0
  ·exact ⟨-1, by rw [if_pos c2], by omega, by omega⟩
  ·rw [if_neg c2, w64 (n := m - (x.f2.size : Int) - (x.f3.size : Int) - (x.f9.f1.length : Int)) (by omega)]
   by_cases c3 : m - (x.f2.size : Int) - (x.f3.size : Int) - (x.f9.f1.length : Int) < 0
   ·exact ⟨-1, by rw [if_pos c3]; rfl, by omega, by omega⟩
   ·exact ⟨_, by rw [if_neg c3, Option.bind_some, if_neg c3, Option.bind_some, if_neg c3], by omega, by omega⟩
theorem rd_lsa (l : List Sl) (n : Nat) (h : n < l.length) : rd_T33 l (n : Int) = l[n] := by
 unfold rd_T33; rw [List.getD_eq_getElem?_getD, Int.toNat_natCast, List.getElem?_eq_getElem h]; rfl
def sizesOk (l : List Sl) : Prop := l.length ≤ 9223372036854775807 ∧ ∀ x ∈ l, x.f2.size ≤ 9223372036854775807 ∧ x.f3.size ≤ 9223372036854775807 ∧ x.f9.f1.length ≤ 9223372036854775807
theorem szSaS_loop (l : List Sl) (hl : l.length ≤ 1048576) (hs : sizesOk l) (d : Nat) : ∀ (n : Nat) (m : Int), n + d = l.length → 0 ≤ m → m ≤ 1048576 → Dr (fun k => laws_szSaS.l0 k l m (n : Int)) (fun t => t ≤ m ∧ (0 ≤ t → ∀ j (h : j < l.length), n ≤ j → l[j].f9.f1.length ≤ 1048576)) := by
 induction d with
 | zero =>
  intro n m hn h0 h1; refine dr1 ?_; simp only [laws_szSaS.l0]; exact drN (by omega) (drR ⟨by omega, fun _ j h hj => by omega⟩)
 | succ d ih =>
  intro n m hn h0 h1; have hlt : n < l.length := by omega
  have hw : wrap64 ((n : Int) + 1) = ((n + 1 : Nat) : Int) := by rw [w64 (by omega)]; omega
  have hx := hs.2 _ (List.getElem_mem hlt); obtain ⟨t, e, e1, e2⟩ := szSa l[n] hx.1 hx.2.1 hx.2.2 m h0 h1; refine dr1 ?_; simp only [laws_szSaS.l0, hw, rd_lsa l n hlt]; refine drP (by omega) (drP (by omega) (drS e (drI (fun c => drR ⟨by omega, by omega⟩) (fun c => ?_)))); refine (ih (n + 1) t (by omega) (by omega) (by omega)).imp fun r hr => ⟨by omega, fun hr0 j h hj => ?_⟩
  by_cases c2 : j = n
  ·subst c2; exact e2 (by omega)
  ·exact hr.2 hr0 j h (by omega)
theorem szSaS (l : List Sl) (hs : sizesOk l) (m : Int) (h0 : 0 ≤ m) (h1 : m ≤ 1048576) : Dr (fun k => laws_szSaS.f k l m) (fun t => t ≤ m ∧ (0 ≤ t → l.length ≤ 1048576 ∧ ∀ x ∈ l, x.f9.f1.length ≤ 1048576)) := by
 have hl := hs.1; simp only [laws_szSaS.f]; rw [w64 (by omega)]; refine drI (fun c => drR ⟨by omega, by omega⟩) (fun c => ?_); refine (szSaS_loop l (by omega) hs l.length 0 (m - (l.length : Int)) (by omega) (by omega) (by omega)).imp fun r hr => ⟨by omega, fun hr0 => ⟨by omega, fun x hx => ?_⟩⟩
 obtain ⟨j, hj, rfl⟩ := List.getElem_of_mem hx; exact hr.2 hr0 j hj (by omega)
theorem toInts_loop (l : List Int) (hl : l.length ≤ 1073741824) (d : Nat) : ∀ (n : Nat) (ys : List Int), n + d = l.length → ys.length = l.length → (∀ j, j < n → ys[j]? = l[j]?) → (∃ K_, ∀ k, K_ ≤ k → laws_toIntS.l0 k l ys (n : Int) = some l) := by
 induction d with
 | zero =>
  intro n ys hn hy hj; refine ev1 ?_; simp only [laws_toIntS.l0]; refine evN (by omega) (evR ?_); apply List.ext_getElem?
  intro i; by_cases c : i < n
  ·exact hj i c
  ·rw [List.getElem?_eq_none (by omega), List.getElem?_eq_none (by omega)]
 | succ d ih =>
  intro n ys hn hy hj; have hlt : n < l.length := by omega
  have hw : wrap64 ((n : Int) + 1) = ((n + 1 : Nat) : Int) := by rw [w64 (by omega)]; omega
  refine ev1 ?_; simp only [laws_toIntS.l0, hw, rd_int l n hlt, Int.toNat_natCast]; refine evP (by omega) (evP (by omega) (evP (by omega) (ih (n + 1) (ys.set n l[n]) (by omega) (by simpa using hy) (fun j hj2 => ?_)))); by_cases c : j = n
  ·subst c
   rw [List.getElem?_set_self (by omega), List.getElem?_eq_getElem hlt]
  ·rw [List.getElem?_set_ne (by omega)]
   exact hj j (by omega)
theorem toInts (l : List Int) (hl : l.length ≤ 1073741824) : (∃ K_, ∀ k, K_ ≤ k → laws_toIntS.f k l = some l) := by
 simp only [laws_toIntS.f, Int.toNat_natCast]; exact evP (by omega) (evP (by omega) (toInts_loop l hl l.length 0 _ (by omega) (by simp) (fun j h => absurd h (by omega))))
def convSa (x : Sl) : Sa := ⟨x.f0, x.f1, x.f2, x.f3, x.f4, x.f5, x.f6, x.f7, x.f8, ⟨x.f9.f0, x.f9.f1⟩⟩
theorem toSa (x : Sl) (hl : x.f9.f1.length ≤ 1073741824) : (∃ K_, ∀ k, K_ ≤ k → laws_toSa.f k x.f0 x.f1 x.f2 x.f3 x.f4 x.f5 x.f6 x.f7 x.f8 x.f9.f0 x.f9.f1 = some (x.f0, x.f1, x.f2, x.f3, x.f4, x.f5, x.f6, x.f7, x.f8, x.f9.f0, x.f9.f1)) := by
 simp only [laws_toSa.f, laws_toWindow.f]; exact evB (evB (toInts _ hl) (evR rfl)) (evR rfl)
theorem toSaS_loop (l : List Sl) (hl : l.length ≤ 1048576) (hx : ∀ x ∈ l, x.f9.f1.length ≤ 1048576) (d : Nat) : ∀ (n : Nat) (ys : List Sa), n + d = l.length → ys.length = l.length → (∀ j, j < n → ys[j]? = (l.map convSa)[j]?) → (∃ K_, ∀ k, K_ ≤ k → laws_toSaS.l0 k l ys (n : Int) = some (l.map convSa)) := by
 induction d with
 | zero =>
  intro n ys hn hy hj; refine ev1 ?_; simp only [laws_toSaS.l0]; refine evN (by omega) (evR ?_); apply List.ext_getElem?
  intro i; by_cases c : i < n
  ·exact hj i c
  ·rw [List.getElem?_eq_none (by omega), List.getElem?_eq_none (by simp; omega)]
 | succ d ih =>
  intro n ys hn hy hj; have hlt : n < l.length := by omega
  have hw : wrap64 ((n : Int) + 1) = ((n + 1 : Nat) : Int) := by rw [w64 (by omega)]; omega
  have hb := hx _ (List.getElem_mem hlt); refine ev1 ?_; simp only [laws_toSaS.l0, hw, rd_lsa l n hlt, Int.toNat_natCast]; refine evP (by omega) (evP (by omega) (evB (toSa l[n] (by omega)) (evP (by omega) (ih (n + 1) (ys.set n (convSa l[n])) (by omega) (by simpa using hy) (fun j hj2 => ?_))))); by_cases c : j = n
  ·subst c
   rw [List.getElem?_set_self (by omega), List.getElem?_map, List.getElem?_eq_getElem hlt]; rfl
  ·rw [List.getElem?_set_ne (by omega)]
   exact hj j (by omega)
theorem toSaS (l : List Sl) (hl : l.length ≤ 1048576) (hx : ∀ x ∈ l, x.f9.f1.length ≤ 1048576) : (∃ K_, ∀ k, K_ ≤ k → laws_toSaS.f k l = some (l.map convSa)) := by
 simp only [laws_toSaS.f, Int.toNat_natCast]; exact evP (by omega) (evP (by omega) (toSaS_loop l hl hx l.length 0 _ (by omega) (by simp) (fun j h => absurd h (by omega))))
theorem toGate (now : Int) (rs : List S96) (size : Int) (ss : List S124) (os is : List Sl) (h1 : rs.length ≤ 1048576) (h2 : ss.length ≤ 1048576) (h3 : os.length ≤ 1048576) (h4 : ∀ x ∈ os, x.f9.f1.length ≤ 1048576) (h5 : is.length ≤ 1048576) (h6 : ∀ x ∈ is, x.f9.f1.length ≤ 1048576) :
  (∃ K_, ∀ k, K_ ≤ k → laws_toGate.f k now rs size ss os is = some (now, rs.map convRule, size, ss.map convSeen, os.map convSa, is.map convSa)) := by
 simp only [laws_toGate.f]; exact evB (toRule rs (by omega)) (evB (toCache size ss (by omega)) (evB (toSaS os h3 h4) (evB (toSaS is h5 h6) (evR rfl))))
theorem szGate (now : Int) (rs : List S96) (size : Int) (ss : List S124) (os is : List Sl) (h1 : rs.length ≤ 9223372036854775807) (h2 : ss.length ≤ 9223372036854775807) (h3 : sizesOk os) (h4 : sizesOk is) (m : Int) (h0 : 0 ≤ m) (hm : m ≤ 1048576) :
  Dr (fun k => laws_szGate.f k now rs size ss os is m) (fun t => t ≤ m ∧ (0 ≤ t → rs.length ≤ 1048576 ∧ ss.length ≤ 1048576 ∧ (os.length ≤ 1048576 ∧ ∀ x ∈ os, x.f9.f1.length ≤ 1048576) ∧ (is.length ≤ 1048576 ∧ ∀ x ∈ is, x.f9.f1.length ≤ 1048576))) := by
 simp only [laws_szGate.f]; refine drS (szgRule rs h1 m h0 hm) ?_; by_cases c : (rs.length : Int) ≤ m
 ·rw [if_pos c]
  refine drN (by omega) (drS (szCache size ss h2 _ (by omega) (by omega)) ?_); by_cases c2 : (ss.length : Int) ≤ m - (rs.length : Int)
  ·rw [if_pos c2]
   refine drN (by omega) ?_; obtain ⟨t1, e1, q1⟩ := szSaS os h3 (m - (rs.length : Int) - (ss.length : Int)) (by omega) (by omega); refine drB e1 (drI (fun c3 => drR ⟨by omega, by omega⟩) (fun c3 => ?_)); obtain ⟨t2, e2, q2⟩ := szSaS is h4 t1 (by omega) (by omega); exact drB e2 (drI (fun c4 => drR ⟨by omega, by omega⟩) (fun c4 => drR ⟨by omega, fun h => ⟨by omega, by omega, q1.2 (by omega), q2.2 (by omega)⟩⟩))
  ·rw [if_neg c2]
   exact drP (by omega) (drR ⟨by omega, by omega⟩)
 ·rw [if_neg c]
  exact drP (by omega) (drR ⟨by omega, by omega⟩)
/-- Keys whose numbers seen are few. -/
def fewOk (l : List Sa) : Prop := l.length ≤ 1048576 ∧ ∀ x ∈ l, x.f9.f1.length ≤ 1048576
theorem fewOk.wins {l : List Sa} (h : fewOk l) : winsOk l := ⟨by have := h.1; omega, fun x hx => by have := h.2 x hx; omega⟩
theorem fewOk.filter {l : List Sa} (h : fewOk l) (p : Sa → Bool) : fewOk (l.filter p) := ⟨Nat.le_trans (List.length_filter_le _ _) h.1, fun x hx => h.2 x (List.mem_filter.1 hx).1⟩
theorem copies_loop (l : List Sa) (h : fewOk l) (d : Nat) : ∀ (n : Nat) (acc : List Sa), n + d = l.length → acc = l.take n → (∃ K_, ∀ k, K_ ≤ k → impl_copies.l0 k acc l (l.length : Int) (n : Int) = some l) := by
 have hl := h.1
 induction d with
 | zero =>
  intro n acc hn ha; refine ev1 ?_; simp only [impl_copies.l0]; refine evN (by omega) (evR ?_); rw [ha, List.take_of_length_le (by omega)]
 | succ d ih =>
  intro n acc hn ha; have hlt : n < l.length := by omega
  have hw : wrap64 ((n : Int) + 1) = ((n + 1 : Nat) : Int) := by rw [w64 (by omega)]; omega
  have hx := h.2 l[n] (List.getElem_mem hlt); refine ev1 ?_; simp only [impl_copies.l0, rd_sa l n hlt, hw, impl_Sa_copied.f, impl_Window_copied.f, slices_Clone_int.f]; rw [if_pos (show l[n].f9.f1.length < 17592186044416 by omega)]; simp only [Option.bind_some]; refine evP (by omega) (evP (by omega) (evP (by omega) (evP (by rw [ha, List.length_take]; omega) (ih (n + 1) _ (by omega) ?_)))); rw [ha, List.take_succ_eq_append_getElem hlt]
theorem copies (l : List Sa) (h : fewOk l) : (∃ K_, ∀ k, K_ ≤ k → impl_copies.f k l = some l) := by
 simp only [impl_copies.f]; exact copies_loop l h l.length 0 [] (by omega) rfl
theorem copy9 (x : Sa) (h : x.f9.f1.length ≤ 1048576) : spec_l9Copy.f x.f0 x.f1 x.f2 x.f3 x.f4 x.f5 x.f6 x.f7 x.f8 x.f9.f0 x.f9.f1 = some (x.f0, x.f1, x.f2, x.f3, x.f4, x.f5, x.f6, x.f7, x.f8, x.f9.f0, x.f9.f1) := by
 simp only [spec_l9Copy.f, spec_l7Copy.f, Option.bind_some, List.length_nil, List.nil_append]; rw [if_pos (by omega)]; rfl
theorem sas_loop (l : List Sa) (h : fewOk l) (d : Nat) : ∀ (n : Nat) (acc : List Sa), n + d = l.length → acc = l.take n → (∃ K_, ∀ k, K_ ≤ k → spec_l10Sas.l0 k l acc (n : Int) = some l) := by
 have hl := h.1
 induction d with
 | zero =>
  intro n acc hn ha; refine ev1 ?_; simp only [spec_l10Sas.l0]; refine evN (by omega) (evR ?_); rw [ha, List.take_of_length_le (by omega)]
 | succ d ih =>
  intro n acc hn ha; have hlt : n < l.length := by omega
  have hw : wrap64 ((n : Int) + 1) = ((n + 1 : Nat) : Int) := by rw [w64 (by omega)]; omega
  refine ev1 ?_; simp only [spec_l10Sas.l0, rd_sa l n hlt, hw, copy9 l[n] (h.2 l[n] (List.getElem_mem hlt)), Option.bind_some]; refine evP (by omega) (evP (by omega) (evP (by rw [ha, List.length_take]; omega) (ih (n + 1) _ (by omega) ?_))); rw [ha, List.take_succ_eq_append_getElem hlt]
theorem sas (l : List Sa) (h : fewOk l) : (∃ K_, ∀ k, K_ ≤ k → spec_l10Sas.f k l = some l) := by
 simp only [spec_l10Sas.f]; exact sas_loop l h l.length 0 [] (by omega) rfl
section
variable (now : Int) (rs : List Ru) (size : Int) (ss : List Se) (os is : List Sa)
theorem copiedG (h1 : rs.length ≤ 1048576) (h2 : ss.length ≤ 1048576) (ho : fewOk os) (hi : fewOk is) : (∃ K_, ∀ k, K_ ≤ k → impl_Gate_copied.f k now rs size ss os is = some (now, rs, size, ss, os, is)) := by
 simp only [impl_Gate_copied.f, slices_Clone_Rule.f, slices_Clone_Seen.f]; rw [if_pos (by omega), if_pos (by omega)]; simp only [Option.bind_some]; exact evB (copies os ho) (evB (copies is hi) (evR rfl))
theorem copy10 (h1 : rs.length ≤ 1048576) (h2 : ss.length ≤ 1048576) (ho : fewOk os) (hi : fewOk is) : (∃ K_, ∀ k, K_ ≤ k → spec_l10Copy.f k now rs size ss os is = some (now, rs, size, ss, os, is)) := by
 simp only [spec_l10Copy.f, Option.bind_some, List.length_nil, List.nil_append]; exact evP (by omega) (evP (by omega) (evB (sas os ho) (evB (sas is hi) (evR rfl))))
end
theorem markText_loop (d : Nat) : ∀ (x : Int) (s : ByteArray), 0 ≤ x → x < 10 ^ d → x ≤ 1000000000000000 → s.size + d ≤ 1000000 → Dr (fun k => laws_markText.l0 k x s) (fun _ => True) := by
 induction d with
 | zero =>
  intro x s h0 h1 h2 hs; refine dr1 ?_; simp only [laws_markText.l0]; have : (10 : Int) ^ 0 = 1 := rfl; exact drN (by omega) (drP (by omega) (drR trivial))
 | succ d ih =>
  intro x s h0 h1 h2 hs; refine dr1 ?_; simp only [laws_markText.l0, Option.bind_some]; refine drI (fun c => drP (by rw [strOfNums_size]; simp; omega) ?_) (fun c => drP (by omega) (drR trivial)); have hp : (10 : Int) ^ (d + 1) = 10 ^ d * 10 := Int.pow_succ 10 d; have hq : Int.tdiv x 10 = x / 10 := Int.tdiv_eq_ediv_of_nonneg h0; rw [hq, w64 (by omega)]; exact ih (x / 10) _ (by omega) (by rw [hp] at h1; omega) (by omega) (by rw [ByteArray.size_append, strOfNums_size]; simp; omega)
theorem markText (a : Int) (h0 : 0 ≤ a) (h1 : a ≤ 1000000000000000) : ∃ s, (∃ K_, ∀ k, K_ ≤ k → laws_markText.f k a = some s) := by
 have h : Dr (fun k => laws_markText.f k a) (fun _ => True) := by
  simp only [laws_markText.f]; exact drI (fun c => drR trivial) (fun c => markText_loop 20 a _ h0 (by omega) h1 (by show (0 : Nat) + 20 ≤ 1000000; omega))
 obtain ⟨s, e, _⟩ := h; exact ⟨s, e⟩
theorem nxw (a : Int) (h0 : 0 ≤ a) (h1 : a ≤ 2000000000000000) : nx a = a + 1 := w64 (by omega)
theorem four {a b c d k : Nat} (h : a + b + c + d ≤ k) : a ≤ k ∧ b ≤ k ∧ c ≤ k ∧ d ≤ k := by omega
theorem markSa (l : List Sa) : ∀ a : Int, (∀ x ∈ l, x.f9.f1.length ≤ 1048576) → 0 ≤ a → a + 1048586 * (l.length : Int) ≤ 900000000000000 →
  ∃ r : Int × List Sa, (∃ K_, ∀ k, K_ ≤ k → mkSaS.f k l a = some r) ∧ a ≤ r.1 ∧ r.1 ≤ a + 1048586 * (l.length : Int) ∧ ∃ K, ∀ k, K ≤ k → heldP k r.2 a r.1 := by
 induction l with
 | nil => exact fun a _ h0 _ => ⟨(a, []), evR rfl, Int.le_refl _, by simp, 0, fun _ _ => rfl⟩
 | cons x xs ih =>
  intro a hx h0 h1; rw [List.length_cons] at h1; have hlx := hx x (List.mem_cons_self ..); obtain ⟨s2, e2⟩ := markText (a + 2) (by omega) (by omega); obtain ⟨s3, e3⟩ := markText (a + 3) (by omega) (by omega); obtain ⟨⟨q1, q2⟩, eq, g1, g2, g3⟩ := markInt x.f9.f1 (a + 10) (by omega) (by omega) (by omega); simp only [] at g1 g2 g3; obtain ⟨⟨p1, p2⟩, ep, b1, b2, K, hK⟩ := ih q1 (fun y hy => hx y (List.mem_cons_of_mem _ hy)) (by omega) (by omega); have eh := heldInt q2 (a + 10) (by omega) (by omega) (by omega) g3; have c1 : a ≤ p1 := Int.le_trans (by omega) b1; have c2 : p1 ≤ a + 1048586 * ((xs.length + 1 : Nat) : Int) := Int.le_trans b2 (by omega); have c3 : 0 ≤ q1 := by omega
  have n1 : nx a = a + 1 := nxw a (by omega) (by omega); have n2 : nx (a + 1) = a + 2 := by rw [nxw (a + 1) (by omega) (by omega)]; omega
  have n3 : nx (a + 2) = a + 3 := by rw [nxw (a + 2) (by omega) (by omega)]; omega
  have n4 : nx (a + 3) = a + 4 := by rw [nxw (a + 3) (by omega) (by omega)]; omega
  have n5 : nx (a + 4) = a + 5 := by rw [nxw (a + 4) (by omega) (by omega)]; omega
  have n6 : nx (a + 5) = a + 6 := by rw [nxw (a + 5) (by omega) (by omega)]; omega
  have n7 : nx (a + 6) = a + 7 := by rw [nxw (a + 6) (by omega) (by omega)]; omega
  have n8 : nx (a + 7) = a + 8 := by rw [nxw (a + 7) (by omega) (by omega)]; omega
  have n9 : nx (a + 8) = a + 9 := by rw [nxw (a + 8) (by omega) (by omega)]; omega
  have n10 : nx (a + 9) = a + 10 := by rw [nxw (a + 9) (by omega) (by omega)]; omega
  refine ⟨(p1, (⟨a, a + 1, s2, s3, a + 4, a + 5, a + 6, a + 7, a + 8, ⟨a + 9, q2⟩⟩ : Sa) :: p2), ?_, c1, by rw [List.length_cons]; exact c2, ?_⟩
  ·simp only [mkSaS.f, n1, n2, n3, n4, n5, n6, n7, n8, n9, n10]
   exact evB e2 (evB e3 (evB eq (evB ep (evR rfl))))
  ·obtain ⟨K2, e2⟩ := e2
   obtain ⟨K3, e3⟩ := e3; obtain ⟨K4, eh⟩ := eh; refine ⟨K + K2 + K3 + K4, fun k hk => ?_⟩; obtain ⟨z1, z2, z3, z4⟩ := four hk; refine ⟨s2, s3, q2, q1, ?_, ?_, ?_, ?_, c3, hK k z1⟩
   ·simp only [n1, n2]; exact e2 k z2
   ·simp only [n1, n2, n3]; exact e3 k z3
   ·simp only [n1, n2, n3, n4, n5, n6, n7, n8, n9]
   ·simp only [n1, n2, n3, n4, n5, n6, n7, n8, n9, n10]
    rw [eh k z4, g2, g1]
theorem mkRu_spec (l : List Ru) : ∀ a : Int, 0 ≤ a → a + 8 * (l.length : Int) ≤ 900000000000000 → (mkRu.f l a).1 = a + 8 * (l.length : Int) ∧ hdRu (mkRu.f l a).2 a (mkRu.f l a).1 := by
 induction l with
 | nil => exact fun a _ _ => ⟨by simp [mkRu.f], rfl⟩
 | cons x xs ih =>
  intro a h0 h1; rw [List.length_cons] at h1; have n1 : nx (a) = a + 1 := by rw [nxw (a) (by omega) (by omega)]
  have n2 : nx (a + 1) = a + 2 := by rw [nxw (a + 1) (by omega) (by omega)]; omega
  have n3 : nx (a + 2) = a + 3 := by rw [nxw (a + 2) (by omega) (by omega)]; omega
  have n4 : nx (a + 3) = a + 4 := by rw [nxw (a + 3) (by omega) (by omega)]; omega
  have n5 : nx (a + 4) = a + 5 := by rw [nxw (a + 4) (by omega) (by omega)]; omega
  have n6 : nx (a + 5) = a + 6 := by rw [nxw (a + 5) (by omega) (by omega)]; omega
  have n7 : nx (a + 6) = a + 7 := by rw [nxw (a + 6) (by omega) (by omega)]; omega
  have n8 : nx (a + 7) = a + 8 := by rw [nxw (a + 7) (by omega) (by omega)]; omega
  have en : (nx (nx (nx (nx (nx (nx (nx (nx a)))))))) = a + 8 := by simp only [n1, n2, n3, n4, n5, n6, n7, n8]
  obtain ⟨i1, i2⟩ := ih (nx (nx (nx (nx (nx (nx (nx (nx a)))))))) (by rw [en]; omega) (by rw [en]; omega); refine ⟨?_, rfl, i2⟩; show (mkRu.f xs (nx (nx (nx (nx (nx (nx (nx (nx a))))))))).1 = _
  rw [i1, en, List.length_cons]; omega
theorem mkSe_spec (l : List Se) : ∀ a : Int, 0 ≤ a → a + 4 * (l.length : Int) ≤ 900000000000000 → (mkSe.f l a).1 = a + 4 * (l.length : Int) ∧ hdSe (mkSe.f l a).2 a (mkSe.f l a).1 := by
 induction l with
 | nil => exact fun a _ _ => ⟨by simp [mkSe.f], rfl⟩
 | cons x xs ih =>
  intro a h0 h1; rw [List.length_cons] at h1; have n1 : nx (a) = a + 1 := by rw [nxw (a) (by omega) (by omega)]
  have n2 : nx (a + 1) = a + 2 := by rw [nxw (a + 1) (by omega) (by omega)]; omega
  have n3 : nx (a + 2) = a + 3 := by rw [nxw (a + 2) (by omega) (by omega)]; omega
  have n4 : nx (a + 3) = a + 4 := by rw [nxw (a + 3) (by omega) (by omega)]; omega
  have en : (nx (nx (nx (nx a)))) = a + 4 := by simp only [n1, n2, n3, n4]
  obtain ⟨i1, i2⟩ := ih (nx (nx (nx (nx a)))) (by rw [en]; omega) (by rw [en]; omega); refine ⟨?_, rfl, i2⟩; show (mkSe.f xs (nx (nx (nx (nx a))))).1 = _
  rw [i1, en, List.length_cons]; omega
theorem markGt (now : Int) (rs : List Ru) (size : Int) (ss : List Se) (os is : List Sa) (h1 : rs.length ≤ 1048576) (h2 : ss.length ≤ 1048576) (ho : fewOk os) (hi : fewOk is) :
  ∃ r : Int × List Ru × List Se × List Sa × List Sa, (∃ K_, ∀ k, K_ ≤ k → mkGate.f k now rs size ss os is 1 = some r) ∧ 0 ≤ r.1 ∧ r.1 ≤ 900000000000000 ∧ ∃ K, ∀ k, K ≤ k → heldGP k r.2.1 size r.2.2.1 r.2.2.2.1 r.2.2.2.2 1 r.1 := by
 have ho1 := ho.1; have hi1 := hi.1; obtain ⟨g1, j1⟩ := mkRu_spec rs 1 (by omega) (by omega); obtain ⟨g2, j2⟩ := mkSe_spec ss (mkRu.f rs 1).1 (by omega) (by omega); obtain ⟨⟨k3, m3⟩, e3, a3, b3, K3, p3⟩ := markSa os (mkSe.f ss (mkRu.f rs 1).1).1 ho.2 (by omega) (by omega); simp only [] at a3 b3 p3; obtain ⟨⟨k4, m4⟩, e4, a4, b4, K4, p4⟩ := markSa is k3 hi.2 (by omega) (by omega); simp only [] at a4 b4 p4; refine ⟨(k4, (mkRu.f rs 1).2, (mkSe.f ss (mkRu.f rs 1).1).2, m3, m4), ?_, by simp only []; omega, by simp only []; omega, K3 + K4, fun k hk => ⟨(mkRu.f rs 1).1, (mkSe.f ss (mkRu.f rs 1).1).1, k3, j1, by omega, j2, by omega, p3 k (by omega), by omega, p4 k (by omega), by omega⟩⟩; simp only [mkGate.f]; exact evB e3 (evB e4 (evR rfl))
theorem winGo_last (t : Int) (l : List Int) (hl : l.length ≤ 1073741824) (d : Nat) : ∀ n : Nat, n + d = l.length → 0 < d → winGo t l d n = true → 1 ≤ t := by
 induction d with
 | zero => intro n _ h; omega
 | succ d ih =>
  intro n hn _ h; unfold winGo at h; split at h
  ·exact absurd h (by simp)
  rename_i c1
  split at h
  ·exact absurd h (by simp)
  have hg : winGo t l d (n + 1) = true := by
   split at h
   ·split at h
    ·exact absurd h (by simp)
    ·exact h
   ·exact h
  cases d with
  | succ d => exact ih (n + 1) (by omega) (by omega) hg
  | zero =>
   unfold winGo at hg; split at hg
   ·rename_i c3
    rw [show (l.length : Int) - 1 = (n : Int) by omega] at c3; omega
   ·exact absurd hg (by simp)
theorem win_top (t : Int) (l : List Int) (hl : l.length ≤ 1073741824) (h : winB t l = true) : t = 0 ↔ (l.length : Int) = 0 := by
 unfold winB at h; split at h
 ·rename_i c
  rw [c]; simp at h
  simp [h]
 ·rename_i c
  have := winGo_last t l hl l.length 0 (by omega) (by omega) h; omega
/-- Are keys new ones, at a time? -/
def freshB (now : Int) (z : Sa) : Bool := saB z && (decide (z.f8 = 0) && (decide ((z.f9.f1.length : Int) = 0) && (z.f4 == now)))
theorem saB_win {z : Sa} (h : saB z = true) : winB z.f9.f0 z.f9.f1 = true ∧ 1 ≤ z.f0 ∧ z.f0 ≤ 999 ∧ 0 ≤ z.f1 ∧ z.f1 ≤ 3 := by
 unfold saB saR at h; simp only [Bool.and_eq_true] at h; obtain ⟨h1, h2, h3, h4, h5, h6, h7, h8, h9⟩ := h; unfold inR at h1 h2; simp at h1 h2
 exact ⟨h9, by omega, by omega, by omega, by omega⟩
section
variable (now : Int) (rs : List Ru) (size : Int) (ss : List Se) (os is : List Sa)
theorem impl_new (z : Sa) (hz : z.f9.f1.length ≤ 1048576) : (∃ K_, ∀ k, K_ ≤ k → impl_Gate_fresh.f k now rs size ss os is z.f0 z.f1 z.f2 z.f3 z.f4 z.f5 z.f6 z.f7 z.f8 z.f9.f0 z.f9.f1 = some (freshB now z)) := by
 simp only [impl_Gate_fresh.f]; refine evB (impl_sa z (by omega)) (evI (fun c => evI (fun c2 => evI (fun c3 => evR ?_) (fun c3 => evR ?_)) (fun c2 => evR ?_)) (fun c => evR ?_))
 ·rw [freshB, c, decide_eq_true c2, decide_eq_true c3]; rfl
 ·rw [freshB, decide_eq_false c3, Bool.false_and, Bool.and_false, Bool.and_false]
 ·rw [freshB, decide_eq_false c2, Bool.false_and, Bool.and_false]
 ·simp [freshB, c]
theorem spec_new (z : Sa) (hz : z.f9.f1.length ≤ 1048576) : (∃ K_, ∀ k, K_ ≤ k → spec_l10New.f k now rs size ss os is z.f0 z.f1 z.f2 z.f3 z.f4 z.f5 z.f6 z.f7 z.f8 z.f9.f0 z.f9.f1 = some (freshB now z)) := by
 simp only [spec_l10New.f]; refine evB (spec_sa z (by omega)) (evI (fun c => evI (fun c2 => evI (fun c3 => evR ?_) (fun c3 => evR ?_)) (fun c2 => evR ?_)) (fun c => evR ?_))
 ·rw [freshB, c, decide_eq_true c2, decide_eq_true ((win_top _ _ (by omega) (saB_win c).1).1 c3)]; rfl
 ·rw [freshB, decide_eq_false (fun h => c3 ((win_top _ _ (by omega) (saB_win c).1).2 h)), Bool.false_and, Bool.and_false, Bool.and_false]
 ·rw [freshB, decide_eq_false c2, Bool.false_and, Bool.and_false]
 ·simp [freshB, c]
end
theorem asc_spec (f : Sa → Int) (now : Int) (l : List Sa) (d : Nat) : ∀ n : Nat, n + d = l.length → ascGo f now l d n = true → ∀ j (h : j < l.length), n ≤ j → saB l[j] = true ∧ (∀ h0 : 0 < j, f (l[j - 1]'(by omega)) < f l[j]) := by
 induction d with
 | zero => intro n hn _ j h hj; omega
 | succ d ih =>
  intro n hn h j hj1 hj2; unfold ascGo at h; simp only [Bool.and_eq_true, Bool.or_eq_true, decide_eq_true_eq] at h; obtain ⟨h1, h2, h3, h4⟩ := h; by_cases c : j = n
  ·subst c
   rw [rd_sa l j hj1] at h1 h3; refine ⟨h1, fun h0 => ?_⟩; rcases h3 with h3 | h3
   ·omega
   ·rw [show ((j : Int) - 1) = ((j - 1 : Nat) : Int) by omega, rd_sa l (j - 1) (by omega)] at h3
    exact h3
  ·exact ih (n + 1) (by omega) h4 j hj1 (by omega)
theorem asc_lt (f : Sa → Int) (now : Int) (l : List Sa) (h : ascGo f now l l.length 0 = true) (d : Nat) : ∀ i (h1 : i + d + 1 < l.length), f (l[i]'(by omega)) < f l[i + d + 1] := by
 induction d with
 | zero => exact fun i h1 => (asc_spec f now l l.length 0 (by omega) h (i + 1) h1 (by omega)).2 (by omega)
 | succ d ih =>
  intro i h1; have h2 := ih i (by omega); have h3 := (asc_spec f now l l.length 0 (by omega) h (i + d + 1 + 1) h1 (by omega)).2 (by omega); exact Int.lt_trans h2 h3
/-- The place of a number in a row in order. -/
def cut (f : Sa → Int) (n : Int) (l : List Sa) : Nat := (l.takeWhile (fun x => decide (f x < n))).length
def isAt (f : Sa → Int) (n : Int) (l : List Sa) : Bool := match l[cut f n l]? with
 | some x => f x == n
 | none => false
theorem cut_le (f : Sa → Int) (n : Int) (l : List Sa) : cut f n l ≤ l.length := (List.takeWhile_sublist _).length_le
theorem cut_lt (f : Sa → Int) (n : Int) : ∀ (l : List Sa) (j : Nat) (_ : j < cut f n l) (h : j < l.length), f l[j] < n
 | [], j, _, h => by simp at h
 | x :: xs, j, hj, h => by
  by_cases c : f x < n
  ·have e : cut f n (x :: xs) = cut f n xs + 1 := by unfold cut; rw [List.takeWhile_cons_of_pos (by simpa using c)]; rfl
   cases j with
   | zero => exact c
   | succ j => exact cut_lt f n xs j (by omega) (by simpa using h)
  ·have e : cut f n (x :: xs) = 0 := by unfold cut; rw [List.takeWhile_cons_of_neg (by simpa using c)]; rfl
   omega
theorem cut_at (f : Sa → Int) (n : Int) : ∀ (l : List Sa) (h : cut f n l < l.length), ¬ f (l[cut f n l]'h) < n
 | [], h => by simp at h
 | x :: xs, h => by
  by_cases c : f x < n
  ·have e : cut f n (x :: xs) = cut f n xs + 1 := by unfold cut; rw [List.takeWhile_cons_of_pos (by simpa using c)]; rfl
   simp only [e, List.getElem_cons_succ]; exact cut_at f n xs (by rw [e] at h; simpa using h)
  ·have e : cut f n (x :: xs) = 0 := by unfold cut; rw [List.takeWhile_cons_of_neg (by simpa using c)]; rfl
   simp only [e, List.getElem_cons_zero]; exact c
theorem isAt_some (f : Sa → Int) (n : Int) (l : List Sa) (h : cut f n l < l.length) : isAt f n l = (f l[cut f n l] == n) := by
 unfold isAt; rw [List.getElem?_eq_getElem h]
theorem isAt_none (f : Sa → Int) (n : Int) (l : List Sa) (h : ¬ cut f n l < l.length) : isAt f n l = false := by
 unfold isAt; rw [List.getElem?_eq_none (by omega)]
/-- Row l in order under numbers from 1 to 999: a number of these parts it where its place is. -/
theorem part (f : Sa → Int) (now n : Int) (l : List Sa) (h : ascGo f now l l.length 0 = true) (hf : ∀ x : Sa, saB x = true → 0 ≤ f x ∧ f x ≤ 999) (h1 : 0 ≤ n) (h2 : n ≤ 999) : PT l (fun x => wrap64 (f x - n)) (cut f n l) ∧ atX f n l[cut f n l]? = isAt f n l := by
 have hs := asc_spec f now l l.length 0 (by omega) h; have hr : ∀ j (hj : j < l.length), 0 ≤ f l[j] ∧ f l[j] ≤ 999 := fun j hj => hf _ (hs j hj (by omega)).1
 refine ⟨⟨cut_le f n l, fun j q hq => ?_⟩, ?_⟩
 ·obtain ⟨hj, rfl⟩ := List.getElem?_eq_some_iff.1 hq
  have := hr j hj; show wrap64 (f l[j] - n) < 0 ↔ _
  rw [w64 (by omega)]; constructor
  ·intro c
   refine Nat.lt_of_not_le (fun x => ?_); have hc := cut_at f n l (by omega); by_cases e : j = cut f n l
   ·simp only [e] at c
    omega
   ·have := asc_lt f now l h (j - cut f n l - 1) (cut f n l) (by omega)
    simp only [show cut f n l + (j - cut f n l - 1) + 1 = j by omega] at this; omega
  ·intro c
   have := cut_lt f n l j c hj; omega
 ·by_cases c : cut f n l < l.length
  ·rw [isAt_some f n l c, List.getElem?_eq_getElem c]
   have := hr _ c; show decide (wrap64 (f l[cut f n l] - n) = 0) = _
   rw [w64 (by omega), Bool.eq_iff_iff]; simp
   omega
  ·rw [isAt_none f n l c, List.getElem?_eq_none (by omega)]
   rfl
theorem put10 (l : List Sa) (m : Nat) (z : Sa) (hl : l.length ≤ 1048576) (hm : m ≤ l.length) (hz : z.f9.f1.length ≤ 1048576) : spec_l10Put.f l (m : Int) z.f0 z.f1 z.f2 z.f3 z.f4 z.f5 z.f6 z.f7 z.f8 z.f9.f0 z.f9.f1 = some (l.take m ++ z :: l.drop m) := by
 have h1 : (l.take m).length ≤ 1048576 := by rw [List.length_take]; omega
 have h2 : (l.drop m).length ≤ 1048576 := by rw [List.length_drop]; omega
 simp only [spec_l10Put.f, Option.bind_some, copy9 z hz, List.nil_append, List.length_nil, Int.toNat_natCast]; rw [if_pos (by omega), if_pos (by omega), if_pos (by omega), if_pos (by omega), if_pos (by simp; omega)]; simp
theorem copySa (z : Sa) (hz : z.f9.f1.length ≤ 1048576) : impl_Sa_copied.f z.f0 z.f1 z.f2 z.f3 z.f4 z.f5 z.f6 z.f7 z.f8 z.f9.f0 z.f9.f1 = some (z.f0, z.f1, z.f2, z.f3, z.f4, z.f5, z.f6, z.f7, z.f8, z.f9.f0, z.f9.f1) := by
 simp only [impl_Sa_copied.f, impl_Window_copied.f, slices_Clone_int.f]; rw [if_pos (by omega)]; rfl
theorem gateB_ins {now : Int} {rs : List Ru} {size : Int} {ss : List Se} {os is : List Sa} (h : gateB now rs size ss os is = true) : (os.length ≤ 4 ∧ is.length ≤ 6) ∧ ascGo (fun x => x.f1) now os os.length 0 = true ∧ ascGo (fun x => x.f0) now is is.length 0 = true := by
 unfold gateB at h; simp only [Bool.and_eq_true, decide_eq_true_eq] at h; exact ⟨⟨by omega, by omega⟩, h.2.2.2.2.2.1, h.2.2.2.2.2.2⟩
theorem fewOk.ins {l : List Sa} {z : Sa} (h : fewOk l) (hl : l.length ≤ 6) (hz : z.f9.f1.length ≤ 1048576) (m : Nat) : fewOk (l.take m ++ z :: l.drop m) := by
 refine ⟨by simp; omega, fun x hx => ?_⟩; simp only [List.mem_append, List.mem_cons] at hx; rcases hx with hx | rfl | hx
 ·exact h.2 x (List.mem_of_mem_take hx)
 ·exact hz
 ·exact h.2 x (List.mem_of_mem_drop hx)
/-- One more mark: the row of one window. -/
theorem markOne (z : Sa) (a : Int) (h0 : 0 ≤ a) (h1 : a ≤ 900000000000000) (hz : z.f9.f1.length ≤ 1048576) : ∃ r : Int × List Int, (∃ K_, ∀ k, K_ ≤ k → laws_markSa.f k z.f0 z.f1 z.f2 z.f3 z.f4 z.f5 z.f6 z.f7 z.f8 z.f9.f0 z.f9.f1 a = some r) ∧ 0 ≤ r.1 := by
 obtain ⟨⟨q1, q2⟩, eq, g1, g2, g3⟩ := markInt z.f9.f1 a h0 (by omega) (by omega); simp only [] at g1; refine ⟨(q1, q2), ?_, by simp only []; omega⟩; simp only [laws_markSa.f, laws_markWindow.f]; exact evB (evB eq (evR rfl)) (evR rfl)
theorem eqWin (x : Sa) (hl : x.f9.f1.length ≤ 1073741824) : (∃ K_, ∀ k, K_ ≤ k → laws_eqWindow.f k x.f9.f0 x.f9.f1 x.f9.f0 x.f9.f1 = some true) := by
 simp only [laws_eqWindow.f]; exact evP trivial (evB (eqInts _ (by omega)) (evP rfl (evR rfl)))
theorem eqWs (l : List Sa) (h : ∀ x ∈ l, x.f9.f1.length ≤ 1073741824) : ∃ K, ∀ k, K ≤ k → eqW k l := by
 induction l with
 | nil => exact ⟨0, fun k _ x hx => by simp at hx⟩
 | cons y ys ih =>
  obtain ⟨K1, e1⟩ := ih (fun x hx => h x (List.mem_cons_of_mem _ hx)); obtain ⟨K2, e2⟩ := eqWin y (h y (List.mem_cons_self ..)); refine ⟨K1 + K2, fun k hk x hx => ?_⟩; rcases List.mem_cons.1 hx with rfl | hx
  ·exact e2 k (by omega)
  ·exact e1 k (by omega) x hx
section
variable (now : Int) (rs : List Ru) (size : Int) (ss : List Se) (os is : List Sa) (z : Sa)
end
theorem tun_loop (n : Int) (l : List Sa) (hl : l.length ≤ 1048576) (d : Nat) : ∀ i : Nat, i + d = cut (fun x => x.f1) n l → (∃ K_, ∀ k, K_ ≤ k → spec_l10Tun.l0 k l n (i : Int) = some ((cut (fun x => x.f1) n l : Int), isAt (fun x => x.f1) n l)) := by
 have hc := cut_le (fun x : Sa => x.f1) n l
 induction d with
 | zero =>
  intro i hi; refine ev1 ?_; simp only [spec_l10Tun.l0]; by_cases c : i < l.length
  ·have e : i = cut (fun x : Sa => x.f1) n l := by omega
   have h1 := cut_at (fun x : Sa => x.f1) n l (by omega); have h2 := isAt_some (fun x : Sa => x.f1) n l (by omega); simp only [← e] at h1 h2; rw [rd_sa l i c]; refine evP (by omega) (evP (by omega) (evN h1 (evR ?_))); rw [h2]; exact Prod.ext (by show (i : Int) = _; omega) rfl
  ·refine evN (by omega) (evR ?_)
   rw [isAt_none _ _ _ (by omega), ← hi]; simp
 | succ d ih =>
  intro i hi; have hlt : i < l.length := by omega
  have hw : wrap64 ((i : Int) + 1) = ((i + 1 : Nat) : Int) := by rw [w64 (by omega)]; omega
  have h1 := cut_lt (fun x : Sa => x.f1) n l i (by omega) hlt; refine ev1 ?_; simp only [spec_l10Tun.l0, hw]; rw [rd_sa l i hlt]; exact evP (by omega) (evP (by omega) (evP h1 (ih (i + 1) (by omega))))
theorem tun (n : Int) (l : List Sa) (hl : l.length ≤ 1048576) : (∃ K_, ∀ k, K_ ≤ k → spec_l10Tun.f k l n = some ((cut (fun x => x.f1) n l : Int), isAt (fun x => x.f1) n l)) := by
 simp only [spec_l10Tun.f]; exact tun_loop n l hl (cut (fun x => x.f1) n l) 0 (by omega)
theorem isAt_spec (f : Sa → Int) (n : Int) (l : List Sa) (h : isAt f n l = true) : ∃ e, l[cut f n l]? = some e ∧ cut f n l < l.length := by
 by_cases c : cut f n l < l.length
 ·exact ⟨_, List.getElem?_eq_getElem c, c⟩
 ·rw [isAt_none f n l c] at h
  exact absurd h (by simp)
theorem fewOk.put {l : List Sa} {z : Sa} (h : fewOk l) (hz : z.f9.f1.length ≤ 1048576) (m : Nat) : fewOk (l.set m z) := by
 refine ⟨by rw [List.length_set]; exact h.1, fun x hx => ?_⟩; rcases List.mem_or_eq_of_mem_set hx with hx | rfl
 ·exact h.2 x hx
 ·exact hz
section
variable (now : Int) (rs : List Ru) (size : Int) (ss : List Se) (os is : List Sa) (z : Sa)
/-- The row of keys to give, when new ones come, and whether they are taken. -/
def outsV : List Sa × Bool :=
 if isAt (fun x => x.f1) z.f1 os = true then (match os[cut (fun x => x.f1) z.f1 os]? with
  | some e => if z.f0 ≤ e.f0 then (os, false) else (os.set (cut (fun x => x.f1) z.f1 os) z, true)
  | none => (os, false)) else (os.take (cut (fun x => x.f1) z.f1 os) ++ z :: os.drop (cut (fun x => x.f1) z.f1 os), true)
def keyOut : Int × List Ru × Int × List Se × List Sa × List Sa × Bool :=
 if gateB now rs size ss os is = true then (if freshB now z = true then (now, rs, size, ss, (outsV os z).1, is, (outsV os z).2) else (now, rs, size, ss, os, is, false)) else (0, [], 0, [], [], [], false)
theorem outsV_at (e : Sa) (h : isAt (fun x => x.f1) z.f1 os = true) (he : os[cut (fun x => x.f1) z.f1 os]? = some e) : outsV os z = if z.f0 ≤ e.f0 then (os, false) else (os.set (cut (fun x => x.f1) z.f1 os) z, true) := by
 unfold outsV; rw [if_pos h, he]
theorem outsV_no (h : ¬ isAt (fun x => x.f1) z.f1 os = true) : outsV os z = (os.take (cut (fun x => x.f1) z.f1 os) ++ z :: os.drop (cut (fun x => x.f1) z.f1 os), true) := by
 unfold outsV; rw [if_neg h]
theorem outsV_few (ho : fewOk os) (h4 : os.length ≤ 6) (hz : z.f9.f1.length ≤ 1048576) : fewOk (outsV os z).1 := by
 unfold outsV; split
 ·split
  ·split
   ·exact ho
   ·exact ho.put hz _
  ·exact ho
 ·exact ho.ins h4 hz _
theorem spec_keyOut (h1 : rs.length ≤ 1048576) (h2 : ss.length ≤ 1048576) (ho : fewOk os) (hi : fewOk is) (hz : z.f9.f1.length ≤ 1048576) : ∃ K, ∀ k, K ≤ k → ∀ V, V = keyOut now rs size ss os is z → skoP k now rs size ss os is z V.1 V.2.1 V.2.2.1 V.2.2.2.1 V.2.2.2.2.1 V.2.2.2.2.2.1 V.2.2.2.2.2.2 := by
 obtain ⟨K1, e1⟩ := spec_gateOk now rs size ss os is (by omega) (by omega) ho.wins hi.wins; obtain ⟨K2, e2⟩ := copy10 now rs size ss os is h1 h2 ho hi; obtain ⟨K3, e3⟩ := spec_new now rs size ss os is z hz; obtain ⟨K4, e4⟩ := tun z.f1 os ho.1; refine ⟨K1 + K2 + K3 + K4, fun k hk V hV => ?_⟩; replace e1 := e1 k (by omega); replace e2 := e2 k (by omega); replace e3 := e3 k (by omega); replace e4 := e4 k (by omega); unfold keyOut at hV; by_cases c : gateB now rs size ss os is = true
 ·rw [c] at e1
  rw [if_pos c] at hV; refine .inr ⟨e1, os, _, _, freshB now z, ?_, e4, e3, copy9 z hz, ho.1, ?_⟩
  ·rw [e2]
   subst hV; split <;> rfl
  ·by_cases c2 : freshB now z = true
   ·rw [if_pos c2] at hV
    subst hV; by_cases c3 : isAt (fun x => x.f1) z.f1 os = true
    ·obtain ⟨e, he, _⟩ := isAt_spec _ _ _ c3
     rw [outsV_at os z e c3 he]; by_cases c4 : z.f0 ≤ e.f0
     ·rw [if_pos c4]
      exact .inr (.inl ⟨c2, c3, e, he, .inl ⟨c4, rfl, rfl⟩⟩)
     ·rw [if_neg c4]
      exact .inr (.inl ⟨c2, c3, e, he, .inr ⟨by omega, rfl, rfl⟩⟩)
    ·rw [outsV_no os z c3]
     exact .inr (.inr ⟨c2, by simpa using c3, put10 os _ z ho.1 (cut_le _ _ _) hz, rfl⟩)
   ·rw [if_neg c2] at hV
    subst hV; exact .inl ⟨by simpa using c2, rfl, rfl⟩
 ·rw [if_neg c] at hV
  subst hV; exact .inl ⟨by rw [e1]; simpa using c, rfl, rfl, rfl, rfl, rfl, rfl, rfl⟩
theorem impl_keyOut (h1 : rs.length ≤ 1048576) (h2 : ss.length ≤ 1048576) (ho : fewOk os) (hi : fewOk is) (hz : z.f9.f1.length ≤ 1048576) : ∃ K, ∀ k, K ≤ k → ∀ V, V = keyOut now rs size ss os is z → okeyP k now rs size ss os is z V.1 V.2.1 V.2.2.1 V.2.2.2.1 V.2.2.2.2.1 V.2.2.2.2.2.1 V.2.2.2.2.2.2 := by
 obtain ⟨K1, e1⟩ := impl_gateOk now rs size ss os is (by omega) ho.wins hi.wins; obtain ⟨K2, e2⟩ := copiedG now rs size ss os is h1 h2 ho hi; obtain ⟨K3, e3⟩ := impl_new now rs size ss os is z hz; refine ⟨K1 + K2 + K3, fun k hk V hV => ?_⟩; replace e1 := e1 k (by omega); replace e2 := e2 k (by omega); replace e3 := e3 k (by omega); unfold keyOut at hV; by_cases c : gateB now rs size ss os is = true
 ·rw [c] at e1
  rw [if_pos c] at hV; refine .inr ⟨e1, os, freshB now z, ?_, by have := ho.1; omega, e3, copySa z hz, ?_⟩
  ·rw [e2]
   subst hV; split <;> rfl
  ·by_cases c2 : freshB now z = true
   ·rw [if_pos c2] at hV
    have hs : saB z = true := by unfold freshB at c2; simp only [Bool.and_eq_true] at c2; exact c2.1
    have hp := part (fun x => x.f1) now z.f1 os (gateB_ins c).2.1 (fun x hx => by have := saB_win hx; exact ⟨by omega, by omega⟩) (by have := saB_win hs; omega) (by have := saB_win hs; omega); refine .inr ⟨c2, _, hp.1, ?_⟩; have hat := hp.2; subst hV; by_cases c3 : isAt (fun x => x.f1) z.f1 os = true
    ·obtain ⟨e, he, _⟩ := isAt_spec _ _ _ c3
     rw [outsV_at os z e c3 he]; by_cases c4 : z.f0 ≤ e.f0
     ·rw [if_pos c4]
      exact .inr ⟨e, he, hat.trans c3, .inr ⟨by omega, rfl, rfl⟩⟩
     ·rw [if_neg c4]
      exact .inr ⟨e, he, hat.trans c3, .inl ⟨by omega, rfl, rfl⟩⟩
    ·rw [outsV_no os z c3]
     exact .inl ⟨hat.trans (by simpa using c3), rfl, rfl⟩
   ·rw [if_neg c2] at hV
    subst hV; exact .inl ⟨by simpa using c2, rfl, rfl⟩
 ·rw [if_neg c] at hV
  subst hV; exact .inl ⟨by rw [e1]; simpa using c, rfl, rfl, rfl, rfl, rfl, rfl, rfl⟩
end
end Go.Proofs.YtgoblfacfjnanaaGreat.Z
end
section
namespace Go.Proofs.YtgoblfacfjnanaaGreat.Pure
open Go Go.RowKit Go.Proofs.YtgoblfacfjnanaaGreat.PAll Go.Proofs.YtgoblfacfjnanaaGreatW.PrintWords Go.Proofs.YtgoblfacfjnanaaGreatW.PrintLast Go.Proofs.YtgoblfacfjnanaaGreatW.PrintMore Go.Proofs.YtgoblfacfjnanaaGreat.Z
set_option linter.unusedVariables false
set_option linter.unusedSimpArgs false
theorem FnExactGateKeyOut : laws_FnExactGateKeyOut.Pure := by
 intro now rs size ss os is s0 s1 s2 s3 s4 s5 s6 s7 s8 s9 sn hnow hrs hsize hss hos his _ _ w2 w3 _ _ _ _ _ _ wn; unfold maxLen at hrs hss hos his w2 w3 wn; have so : sizesOk os := ⟨hos.1, fun x hx => by have := hos.2 x hx; simp only [wfT33, wfT31, maxLen] at this; exact ⟨this.2.2.1, this.2.2.2.1, this.2.2.2.2.2.2.2.2.2.2.1⟩⟩; have si : sizesOk is := ⟨his.1, fun x hx => by have := his.2 x hx; simp only [wfT33, wfT31, maxLen] at this; exact ⟨this.2.2.1, this.2.2.2.1, this.2.2.2.2.2.2.2.2.2.2.1⟩⟩; obtain ⟨t, ⟨K0, e⟩, q⟩ := szGate now rs size ss os is hrs.1 hss.1 so si 1048576 (by omega) (by omega); by_cases c : t < 0
 ·exact ⟨K0, t, e K0 (Nat.le_refl _), .inl c⟩
 obtain ⟨q1, q2, q3, q4⟩ := q.2 (by omega); generalize hs : (⟨s0, s1, s2, s3, s4, s5, s6, s7, s8, ⟨s9, sn⟩⟩ : Sl) = s; have hs2 : s.f2.size ≤ 9223372036854775807 := by rw [← hs]; exact w2
 have hs3 : s.f3.size ≤ 9223372036854775807 := by rw [← hs]; exact w3
 have hs9 : s.f9.f1.length ≤ 9223372036854775807 := by rw [← hs]; exact wn.1
 clear hs w2 w3 wn; obtain ⟨u, eu, u1, u2⟩ := szSa s hs2 hs3 hs9 t (by omega) q.1; by_cases cu : u < 0
 ·exact ⟨K0, t, e K0 (Nat.le_refl _), .inr ⟨c, u, eu, .inl cu⟩⟩
 have hz : (convSa s).f9.f1.length ≤ 1048576 := u2 (by omega); have mo : fewOk (os.map convSa) := ⟨by rw [List.length_map]; exact q3.1, fun x hx => by obtain ⟨y, hy, rfl⟩ := List.mem_map.1 hx; exact q3.2 y hy⟩; have mi : fewOk (is.map convSa) := ⟨by rw [List.length_map]; exact q4.1, fun x hx => by obtain ⟨y, hy, rfl⟩ := List.mem_map.1 hx; exact q4.2 y hy⟩; have l1 : (rs.map convRule).length ≤ 1048576 := by simp; omega
 have l2 : (ss.map convSeen).length ≤ 1048576 := by simp; omega
 obtain ⟨K1, e1⟩ := toGate now rs size ss os is q1 q2 q3.1 q3.2 q4.1 q4.2; obtain ⟨K9, e9⟩ := toSa s (by have : s.f9.f1.length ≤ 1048576 := hz; omega); obtain ⟨K2, e2⟩ := spec_keyOut now (rs.map convRule) size (ss.map convSeen) _ _ (convSa s) l1 l2 mo mi hz; obtain ⟨K3, e3⟩ := impl_keyOut now (rs.map convRule) size (ss.map convSeen) _ _ (convSa s) l1 l2 mo mi hz; obtain ⟨K5, e5⟩ := eqWs (os.map convSa) mo.wins.2; obtain ⟨K5', e5'⟩ := eqWs (is.map convSa) mi.wins.2; obtain ⟨K55, e55⟩ := eqWin (convSa s) (by omega); obtain ⟨r, ⟨K6, e6⟩, r0, r1, _⟩ := markGt now (rs.map convRule) size (ss.map convSeen) _ _ l1 l2 mo mi; obtain ⟨⟨ms, ns⟩, ⟨K56, e56⟩, m0⟩ := markOne (convSa s) r.1 r0 r1 hz
 have hT : ∀ T : Int × List Ru × Int × List Se × List Sa × List Sa × Bool, T = keyOut now (rs.map convRule) size (ss.map convSeen) (os.map convSa) (is.map convSa) (convSa s) → T.2.1.length ≤ 1048576 ∧ T.2.2.2.1.length ≤ 1048576 ∧ fewOk T.2.2.2.2.1 ∧ fewOk T.2.2.2.2.2.1 := by
  intro T hT; subst hT; unfold keyOut; split
  ·rename_i hg
   split
   ·exact ⟨l1, l2, outsV_few _ _ mo (by have := (gateB_ins hg).1.1; omega) hz, mi⟩
   ·exact ⟨l1, l2, mo, mi⟩
  ·exact ⟨by simp, by simp, ⟨by simp, by simp⟩, ⟨by simp, by simp⟩⟩
 have e3' : ∀ k, K3 ≤ k → _ := fun k hk => e3 k hk _ rfl
 have e2' : ∀ k, K2 ≤ k → _ := fun k hk => e2 k hk _ rfl
 clear e3 e2; generalize keyOut now (rs.map convRule) size (ss.map convSeen) (os.map convSa) (is.map convSa) (convSa s) = T at e2' e3' hT; obtain ⟨t1, t2, t3, t4⟩ := hT T rfl; obtain ⟨g0, g1, g2, g3, g4, g5, b⟩ := T; obtain ⟨K4, e4⟩ := eqWs g4 t3.wins.2; obtain ⟨K4', e4'⟩ := eqWs g5 t4.wins.2; obtain ⟨r', ⟨K7, e7⟩, r0', r1', K8, e8⟩ := markGt g0 g1 g2 g3 g4 g5 t1 t2 t3 t4; exact ⟨K0 + K1 + K2 + K3 + K4 + K4' + K5 + K5' + K6 + K7 + K8 + K9 + K55 + K56, t, e _ (by omega), .inr ⟨c, u, eu, .inr ⟨cu, _, _, _, _, _, _, convSa s, _, _, _, _, _, _, _, _, _, _, _, _, _, _, _, _, _, _, _, e1 _ (by omega), e9 _ (by omega), e2' _ (by omega), e3' _ (by omega), ⟨e4 _ (by omega), e4' _ (by omega)⟩, ⟨e5 _ (by omega), e5' _ (by omega)⟩, e55 _ (by omega), e6 _ (by omega), e56 _ (by omega), m0, e7 _ (by omega), r0', e8 _ (by omega)⟩⟩⟩
end Go.Proofs.YtgoblfacfjnanaaGreat.Pure
end
