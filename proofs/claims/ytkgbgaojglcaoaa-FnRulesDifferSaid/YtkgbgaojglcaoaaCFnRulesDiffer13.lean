/- Contracts of the functions that the statement reaches, printed by a program out of the translation and joined with the plain laws. -/
import Derived.Lib.SlicesCompact
import Derived.Test.YtkgbgaojglcaoaaCFnRulesDiffer3
import Derived.Test.YtkgbgaojglcaoaaCFnRulesDiffer4
import Derived.Test.YtkgbgaojglcaoaaCFnRulesDiffer5
import Derived.Test.YtkgbgaojglcaoaaCFnRulesDiffer6
import Derived.Test.YtkgbgaojglcaoaaCFnRulesDiffer7
import Derived.Test.YtkgbgaojglcaoaaCFnRulesDiffer9
import Derived.Test.YtkgbgaojglcaoaaCFnRulesDiffer10
import Derived.Test.YtkgbgaojglcaoaaCFnRulesDiffer11
import Derived.Test.YtkgbgaojglcaoaaCFnRulesDiffer12
section
namespace Go.Proofs.Ytkgbgaojglcaoaa.Z
open Go Go.RowKit Go.Proofs.Ytkgbgaojglcaoaa.PAll Go.Proofs.YtkgbgaojglcaoaaW.PrintWords Go.Proofs.YtkgbgaojglcaoaaW.PrintLast Go.Proofs.YtkgbgaojglcaoaaW.PrintMore
set_option linter.unusedVariables false
set_option linter.unusedSimpArgs false
theorem spec_in (a l h : Int) : spec_l1In.f a l h = some (decide (l ≤ a ∧ a ≤ h)) := by
 unfold spec_l1In.f
 by_cases c : a ≥ l
 ·rw [if_pos c]; simp [c]
 ·rw [if_neg c]
  have : ¬ l ≤ a := by omega
  simp [this]
theorem impl_in (a l h : Int) : impl_in.f a l h = some (decide (l ≤ a ∧ a ≤ h)) := by
 unfold impl_in.f
 by_cases c : a ≥ l
 ·rw [if_pos c]; simp [c]
 ·rw [if_neg c]
  have : ¬ l ≤ a := by omega
  simp [this]
theorem spec_addr (a : Int) : spec_l1Addr.f a = some (decide (0 ≤ a ∧ a ≤ 4294967295)) := by simp only [spec_l1Addr.f, spec_in, Option.bind_some]
theorem impl_addr (a : Int) : impl_isAddr.f a = some (decide (0 ≤ a ∧ a ≤ 4294967295)) := by simp only [impl_isAddr.f, impl_in, Option.bind_some]
theorem two_loop (n : Nat) : ∀ (k : Nat) (c : Int), n ≤ 62 → n < k → 1 ≤ c → c * 2 ^ n ≤ 4611686018427387904 → spec_l1Two.l0 k (n : Int) c = some (c * 2 ^ n) := by
 induction n with
 | zero =>
  intro k c _ hk _ _
  obtain ⟨k, rfl⟩ : ∃ m, k = m + 1 := ⟨k - 1, by omega⟩
  simp only [spec_l1Two.l0]
  rw [if_neg (by omega)]
  simp
 | succ n ih =>
  intro k c hn hk hc hb
  obtain ⟨k, rfl⟩ : ∃ m, k = m + 1 := ⟨k - 1, by omega⟩
  have e : c * 2 ^ (n + 1) = c * 2 * 2 ^ n := by rw [Int.pow_succ, Int.mul_comm ((2 : Int) ^ n) 2, Int.mul_assoc]
  have hp : (1 : Int) ≤ 2 ^ n := by
   have : (0 : Int) < 2 ^ n := Int.pow_pos (by decide)
   omega
  have hc2 : c * 2 ≤ c * 2 * 2 ^ n := by
   have := Int.mul_le_mul_of_nonneg_left hp (by omega : (0 : Int) ≤ c * 2)
   omega
  simp only [spec_l1Two.l0]
  rw [e] at hb ⊢
  rw [if_pos (by omega), w64 (by omega), w64 (by omega)]
  have : ((n + 1 : Nat) : Int) - 1 = (n : Int) := by omega
  rw [this]
  exact ih k (c * 2) (by omega) (by omega) (by omega) hb
theorem spec_two {n : Int} (h0 : 0 ≤ n) (h1 : n ≤ 62) : (∃ K_, ∀ k, K_ ≤ k → spec_l1Two.f k n = some (2 ^ n.toNat)) := by
 refine ⟨n.toNat + 1, fun k hk => ?_⟩
 have e : (n.toNat : Int) = n := by omega
 have hp : (2 : Int) ^ n.toNat ≤ 2 ^ 62 := by
  exact_mod_cast Nat.pow_le_pow_right (n := 2) (by decide) (by omega : n.toNat ≤ 62)
 have := two_loop n.toNat k 1 (by omega) (by omega) (by omega) (by omega)
 rw [e, Int.one_mul] at this
 exact this
theorem spec_size {m : Int} (h0 : 0 ≤ m) (h1 : m ≤ 32) : (∃ K_, ∀ k, K_ ≤ k → spec_l1Size.f k m = some (sz m)) := by
 obtain ⟨K, h⟩ := spec_two (n := 32 - m) (by omega) (by omega)
 refine ⟨K, fun k hk => ?_⟩
 simp only [spec_l1Size.f]
 rw [w64 (by omega), h k hk]
 rfl
theorem impl_size {b m : Int} (h0 : 0 ≤ m) (h1 : m ≤ 32) : impl_Block_size.f b m = some (sz m) := by
 unfold impl_Block_size.f
 rw [w64 (by omega), if_pos (by omega), shl_sz h0 h1]
theorem tmod_beq {b s : Int} (hb : 0 ≤ b) : (Int.tmod b s == 0) = decide (b % s = 0) := by
 rw [Int.tmod_eq_emod_of_nonneg hb]
 rfl
theorem impl_ok (b m : Int) : impl_BlockOk.f b m = some (bokB b m) := by
 unfold impl_BlockOk.f
 rw [impl_addr, Option.bind_some]
 by_cases c : 0 ≤ b ∧ b ≤ 4294967295
 ·rw [if_pos (by simpa using c), impl_in, Option.bind_some]
  by_cases d : 0 ≤ m ∧ m ≤ 32
  ·rw [if_pos (by simpa using d), impl_size d.1 d.2, Option.bind_some, if_neg (by have := sz_pos m; omega), tmod_beq c.1]
   simp [bokB, bok, c, d]
  ·rw [if_neg (by simpa using d)]
   exact congrArg some (bokB_false.2 (fun h => d ⟨h.2.2.1, h.2.2.2.1⟩)).symm
 ·rw [if_neg (by simpa using c)]
  exact congrArg some (bokB_false.2 (fun h => c ⟨h.1, h.2.1⟩)).symm
theorem spec_ok (b m : Int) : (∃ K_, ∀ k, K_ ≤ k → spec_BlockOk.f k b m = some (bokB b m)) := by
 by_cases c : 0 ≤ b ∧ b ≤ 4294967295
 ·by_cases d : 0 ≤ m ∧ m ≤ 32
  ·obtain ⟨K, h⟩ := spec_size d.1 d.2
   refine ⟨K, fun k hk => ?_⟩
   simp only [spec_BlockOk.f]
   rw [spec_addr, Option.bind_some, if_pos (by simpa using c), spec_in, Option.bind_some, if_pos (by simpa using d), h k hk, Option.bind_some, if_neg (by have := sz_pos m; omega), tmod_beq c.1]
   simp [bokB, bok, c, d]
  ·refine ⟨0, fun k _ => ?_⟩
   simp only [spec_BlockOk.f]
   rw [spec_addr, Option.bind_some, if_pos (by simpa using c), spec_in, Option.bind_some, if_neg (by simpa using d)]
   exact congrArg some (bokB_false.2 (fun h => d ⟨h.2.2.1, h.2.2.2.1⟩)).symm
 ·refine ⟨0, fun k _ => ?_⟩
  simp only [spec_BlockOk.f]
  rw [spec_addr, Option.bind_some, if_neg (by simpa using c)]
  exact congrArg some (bokB_false.2 (fun h => c ⟨h.1, h.2.1⟩)).symm
theorem sz_bd {m : Int} (h0 : 0 ≤ m) : 1 ≤ sz m ∧ sz m ≤ 4294967296 := ⟨sz_pos m, sz_top h0⟩
theorem impl_last {b m : Int} (hb0 : 0 ≤ b) (hb1 : b ≤ 4611686018427387904) (h0 : 0 ≤ m) (h1 : m ≤ 32) : impl_Block_last.f b m = some (b + sz m - 1) := by
 have := sz_bd h0
 unfold impl_Block_last.f
 rw [impl_size h0 h1, Option.bind_some, w64 (n := b + sz m) (by omega), w64 (by omega)]
theorem spec_last {b m : Int} (hb0 : -1 ≤ b) (hb1 : b ≤ 4611686018427387904) (h0 : 0 ≤ m) (h1 : m ≤ 32) : (∃ K_, ∀ k, K_ ≤ k → spec_l1Last.f k b m = some (b + sz m - 1)) := by
 have := sz_bd h0
 obtain ⟨K, h⟩ := spec_size h0 h1
 refine ⟨K, fun k hk => ?_⟩
 simp only [spec_l1Last.f]
 rw [h k hk, Option.bind_some, w64 (n := b + sz m) (by omega), w64 (by omega)]
/-- Is an address in a block? -/
def hasB (b m a : Int) : Bool := decide (b ≤ a ∧ a ≤ b + sz m - 1)
theorem hasB_iff {b m a : Int} : hasB b m a = true ↔ b ≤ a ∧ a < b + sz m := by simp only [hasB, decide_eq_true_eq]; omega
theorem impl_has {b m : Int} (a : Int) (hb0 : 0 ≤ b) (hb1 : b ≤ 4611686018427387904) (h0 : 0 ≤ m) (h1 : m ≤ 32) : impl_Block_has.f b m a = some (hasB b m a) := by
 unfold impl_Block_has.f
 rw [impl_last hb0 hb1 h0 h1, Option.bind_some, impl_in, Option.bind_some]
 rfl
abbrev Ru := S71
theorem drop_consR {α : Type} {l : List α} {n : Nat} (h : n < l.length) : l.drop n = l[n] :: l.drop (n + 1) := List.drop_eq_getElem_cons h
theorem rd_rule (l : List Ru) (n : Nat) (h : n < l.length) : rd_T71 l (n : Int) = l[n] := by
 unfold rd_T71
 rw [List.getD_eq_getElem?_getD, Int.toNat_natCast, List.getElem?_eq_getElem h]
 rfl
/-- Is a number in a range? -/
def inR (a l h : Int) : Bool := decide (l ≤ a ∧ a ≤ h)
theorem impl_inR (a l h : Int) : impl_in.f a l h = some (inR a l h) := impl_in a l h
theorem spec_inR (a l h : Int) : spec_l1In.f a l h = some (inR a l h) := spec_in a l h
def tunB (x : Ru) : Bool := if x.f0 = 2 then inR x.f1 0 3 else decide (x.f1 = 0)
/-- Is a rule valid? -/
def ruleB (x : Ru) : Bool := bokB x.f2.f0 x.f2.f1 && (bokB x.f3.f0 x.f3.f1 && (inR x.f4 0 x.f5 && (decide (x.f5 ≤ 65535) && (inR x.f0 0 2 && tunB x))))
theorem right_j0 (k : Nat) (b : Bool) (x : Ru) : impl_Rule_right.j0 (k + 1) b x.f0 x.f1 x.f2.f0 x.f2.f1 x.f3.f0 x.f3.f1 x.f4 x.f5 = some (bokB x.f2.f0 x.f2.f1 && (bokB x.f3.f0 x.f3.f1 && (inR x.f4 0 x.f5 && (decide (x.f5 ≤ 65535) && (inR x.f0 0 2 && b))))) := by
 simp only [impl_Rule_right.j0]
 rw [impl_ok, Option.bind_some, impl_ok, Option.bind_some, impl_inR, Option.bind_some, impl_inR, Option.bind_some]
 by_cases d : x.f5 ≤ 65535
 ·cases bokB x.f2.f0 x.f2.f1 <;> cases bokB x.f3.f0 x.f3.f1 <;> cases inR x.f4 0 x.f5 <;> cases inR x.f0 0 2 <;> simp [d]
 ·cases bokB x.f2.f0 x.f2.f1 <;> cases bokB x.f3.f0 x.f3.f1 <;> cases inR x.f4 0 x.f5 <;> cases inR x.f0 0 2 <;> simp [d]
theorem impl_right (k : Nat) (x : Ru) : impl_Rule_right.f (k + 1) x.f0 x.f1 x.f2.f0 x.f2.f1 x.f3.f0 x.f3.f1 x.f4 x.f5 = some (ruleB x) := by
 simp only [impl_Rule_right.f]
 rw [right_j0, impl_inR, Option.bind_some, right_j0, right_j0]
 unfold ruleB tunB
 by_cases c : x.f1 = 0
 ·rw [if_pos c]
  by_cases d : x.f0 = 2
  ·rw [if_pos d]
   have : inR x.f1 0 3 = true := by rw [c]; rfl
   rw [this]
  ·rw [if_neg d]
   simp [c]
 ·rw [if_neg c]
  by_cases d : x.f0 = 2
  ·rw [if_pos d, if_pos d]
  ·rw [if_neg d, if_neg d]
   simp [c]
theorem spec_right (x : Ru) : (∃ K_, ∀ k, K_ ≤ k → spec_l4Ok.f k x.f0 x.f1 x.f2.f0 x.f2.f1 x.f3.f0 x.f3.f1 x.f4 x.f5 = some (ruleB x)) := by
 obtain ⟨K1, e1⟩ := spec_ok x.f2.f0 x.f2.f1
 obtain ⟨K2, e2⟩ := spec_ok x.f3.f0 x.f3.f1
 refine ⟨K1 + K2 + 1, fun k hk => ?_⟩
 obtain ⟨k, rfl⟩ : ∃ j, k = j + 1 := ⟨k - 1, by omega⟩
 simp only [spec_l4Ok.f]
 rw [e1 _ (by omega), Option.bind_some, e2 _ (by omega), Option.bind_some, spec_inR, Option.bind_some, spec_inR, Option.bind_some]
 simp only [spec_l4Ok.j0]
 rw [spec_inR, Option.bind_some]
 unfold ruleB tunB
 by_cases d : x.f5 ≤ 65535
 ·have d' : ¬ x.f5 > 65535 := by omega
  by_cases c : x.f0 = 2
  ·cases bokB x.f2.f0 x.f2.f1 <;> cases bokB x.f3.f0 x.f3.f1 <;> cases inR x.f4 0 x.f5 <;> cases inR x.f0 0 2 <;> simp [d, d', c]
  ·have e : (x.f1 == 0) = decide (x.f1 = 0) := rfl
   cases bokB x.f2.f0 x.f2.f1 <;> cases bokB x.f3.f0 x.f3.f1 <;> cases inR x.f4 0 x.f5 <;> cases inR x.f0 0 2 <;> simp [d, d', c, e]
 ·have d' : x.f5 > 65535 := by omega
  cases bokB x.f2.f0 x.f2.f1 <;> cases bokB x.f3.f0 x.f3.f1 <;> cases inR x.f4 0 x.f5 <;> simp [d, d']
/-- Are rules valid? -/
def rokB (l : List Ru) : Bool := l.all ruleB && decide (l.length ≤ 8)
theorem any_bad (k : Nat) (l : List Ru) : anyO (impl_RulesOk.bad (k + 1)) l = some (l.any fun x => !ruleB x) := by
 induction l with
 | nil => rfl
 | cons x l ih =>
  simp only [anyO, impl_RulesOk.bad]
  rw [impl_right, Option.bind_some, Option.bind_some, ih]
  cases h : ruleB x <;> simp [h]
theorem all_any (l : List Ru) : (!(l.any fun x => !ruleB x)) = l.all ruleB := by
 induction l with
 | nil => rfl
 | cons x l ih => simp only [List.any_cons, List.all_cons, ← ih]; cases ruleB x <;> simp
theorem impl_rulesOk (l : List Ru) : (∃ K_, ∀ k, K_ ≤ k → impl_RulesOk.f k l = some (rokB l)) := by
 refine ⟨1, fun k hk => ?_⟩
 obtain ⟨k, rfl⟩ : ∃ j, k = j + 1 := ⟨k - 1, by omega⟩
 simp only [impl_RulesOk.f]
 unfold rokB
 by_cases c : (l.length : Int) ≤ 8
 ·have c' : l.length ≤ 8 := by omega
  rw [if_pos c, any_bad, Option.bind_some, all_any]
  simp [c']
 ·have c' : ¬ l.length ≤ 8 := by omega
  rw [if_neg c]
  simp [c']
theorem spec_rulesOk_loop (l : List Ru) (hl : l.length ≤ 1073741824) (d : Nat) : ∀ n : Nat, n + d = l.length → (∃ K_, ∀ k, K_ ≤ k → spec_RulesOk.l0 k l (n : Int) = some ((l.drop n).all ruleB && decide (l.length ≤ 8))) := by
 induction d with
 | zero =>
  intro n hn
  refine ⟨1, fun k hk => ?_⟩
  obtain ⟨k, rfl⟩ : ∃ j, k = j + 1 := ⟨k - 1, by omega⟩
  simp only [spec_RulesOk.l0]
  rw [if_neg (by omega), List.drop_eq_nil_of_le (by omega)]
  have : decide ((l.length : Int) ≤ 8) = decide (l.length ≤ 8) := by rw [decide_eq_decide]; omega
  rw [this]
  rfl
 | succ d ih =>
  intro n hn
  have hlt : n < l.length := by omega
  have hw : wrap64 ((n : Int) + 1) = ((n + 1 : Nat) : Int) := by rw [w64 (by omega)]; omega
  obtain ⟨K1, e1⟩ := ih (n + 1) (by omega)
  obtain ⟨K2, e2⟩ := spec_right l[n]
  refine ⟨K1 + K2 + 1, fun k hk => ?_⟩
  obtain ⟨k, rfl⟩ : ∃ j, k = j + 1 := ⟨k - 1, by omega⟩
  have e1 := e1 k (by omega)
  simp only [spec_RulesOk.l0]
  rw [drop_consR hlt, if_pos (by omega), if_pos (by omega), rd_rule l n hlt, e2 k (by omega), Option.bind_some, hw, e1, List.all_cons]
  cases ruleB l[n] <;> simp
theorem spec_rulesOk (l : List Ru) (hl : l.length ≤ 1073741824) : (∃ K_, ∀ k, K_ ≤ k → spec_RulesOk.f k l = some (rokB l)) := spec_rulesOk_loop l hl l.length 0 (by omega)
theorem rokB_valid {l : List Ru} (h : rokB l = true) : ∀ x ∈ l, ruleB x = true := by
 simp only [rokB, Bool.and_eq_true, List.all_eq_true] at h
 exact h.1
theorem rokB_len {l : List Ru} (h : rokB l = true) : l.length ≤ 8 := by
 simp only [rokB, Bool.and_eq_true, decide_eq_true_eq] at h
 exact h.2
theorem ruleB_blocks {x : Ru} (h : ruleB x = true) : bok x.f2.f0 x.f2.f1 ∧ bok x.f3.f0 x.f3.f1 ∧ 0 ≤ x.f4 ∧ x.f4 ≤ x.f5 ∧ x.f5 ≤ 65535 := by
 simp only [ruleB, inR, Bool.and_eq_true, bokB_true, decide_eq_true_eq] at h
 exact ⟨h.1, h.2.1, h.2.2.1.1, h.2.2.1.2, h.2.2.2.1⟩
/-- Is a rule about a call? -/
def aboutB (a b c : Int) (x : Ru) : Bool := hasB x.f2.f0 x.f2.f1 a && (hasB x.f3.f0 x.f3.f1 b && inR c x.f4 x.f5)
theorem impl_matches {x : Ru} (h : ruleB x = true) (a b c : Int) : impl_Rule_matches.f x.f0 x.f1 x.f2.f0 x.f2.f1 x.f3.f0 x.f3.f1 x.f4 x.f5 a b c = some (aboutB a b c x) := by
 obtain ⟨h1, h2, _⟩ := ruleB_blocks h
 unfold impl_Rule_matches.f aboutB
 rw [impl_has a h1.1 (by have := h1.2.1; omega) h1.2.2.1 h1.2.2.2.1, Option.bind_some, impl_has b h2.1 (by have := h2.2.1; omega) h2.2.2.1 h2.2.2.2.1, Option.bind_some, impl_inR, Option.bind_some]
 cases hasB x.f2.f0 x.f2.f1 a <;> cases hasB x.f3.f0 x.f3.f1 b <;> simp
theorem spec_about {x : Ru} (h : ruleB x = true) (a b c : Int) : (∃ K_, ∀ k, K_ ≤ k → spec_l4About.f k x.f0 x.f1 x.f2.f0 x.f2.f1 x.f3.f0 x.f3.f1 x.f4 x.f5 a b c = some (aboutB a b c x)) := by
 obtain ⟨h1, h2, _⟩ := ruleB_blocks h
 obtain ⟨K1, e1⟩ := spec_last (b := x.f2.f0) (m := x.f2.f1) (by have := h1.1; omega) (by have := h1.2.1; omega) h1.2.2.1 h1.2.2.2.1
 obtain ⟨K2, e2⟩ := spec_last (b := x.f3.f0) (m := x.f3.f1) (by have := h2.1; omega) (by have := h2.2.1; omega) h2.2.2.1 h2.2.2.2.1
 refine ⟨K1 + K2, fun k hk => ?_⟩
 simp only [spec_l4About.f]
 rw [e1 k (by omega), Option.bind_some, e2 k (by omega), Option.bind_some, spec_inR, Option.bind_some, spec_inR, Option.bind_some, spec_inR, Option.bind_some]
 have g1 : inR a x.f2.f0 (x.f2.f0 + sz x.f2.f1 - 1) = hasB x.f2.f0 x.f2.f1 a := rfl
 have g2 : inR b x.f3.f0 (x.f3.f0 + sz x.f3.f1 - 1) = hasB x.f3.f0 x.f3.f1 b := rfl
 rw [g1, g2]
 unfold aboutB
 cases hasB x.f2.f0 x.f2.f1 a <;> cases hasB x.f3.f0 x.f3.f1 b <;> simp
/-- The place of the first element of which q holds, from i on; -1. -/
def firstGo {α : Type} (q : α → Bool) : List α → Int → Int
 | [], _ => -1
 | x :: l, i => if q x = true then i else firstGo q l (i + 1)
def firstF (l : List Ru) (a b c : Int) : Int := firstGo (aboutB a b c) l 0
theorem findO_first {α : Type} {p : α → Option Bool} {q : α → Bool} : ∀ (l : List α) (i : Int), (∀ x ∈ l, p x = some (q x)) → findO p l i = some (firstGo q l i)
 | [], _, _ => rfl
 | x :: l, i, h => by
  simp only [findO, firstGo]
  rw [h x (List.mem_cons_self ..), Option.bind_some, findO_first l (i + 1) (fun y hy => h y (List.mem_cons_of_mem _ hy))]
  cases q x <;> simp
theorem impl_first {l : List Ru} (h : ∀ x ∈ l, ruleB x = true) (a b c : Int) : impl_first.f l a b c = some (firstF l a b c) :=
 findO_first l 0 (fun x hx => impl_matches (h x hx) a b c)
theorem spec_first_loop (l : List Ru) (h : ∀ x ∈ l, ruleB x = true) (a b c : Int) (hl : l.length ≤ 1073741824) (d : Nat) : ∀ n : Nat, n + d = l.length → (∃ K_, ∀ k, K_ ≤ k → spec_l4First.l0 k l (n : Int) a b c = some (firstGo (aboutB a b c) (l.drop n) (n : Int))) := by
 induction d with
 | zero =>
  intro n hn
  refine ⟨1, fun k hk => ?_⟩
  obtain ⟨k, rfl⟩ : ∃ j, k = j + 1 := ⟨k - 1, by omega⟩
  simp only [spec_l4First.l0]
  rw [if_neg (by omega), List.drop_eq_nil_of_le (by omega)]
  rfl
 | succ d ih =>
  intro n hn
  have hlt : n < l.length := by omega
  have hw : wrap64 ((n : Int) + 1) = ((n + 1 : Nat) : Int) := by rw [w64 (by omega)]; omega
  obtain ⟨K1, e1⟩ := ih (n + 1) (by omega)
  obtain ⟨K2, e2⟩ := spec_about (h l[n] (List.getElem_mem hlt)) a b c
  refine ⟨K1 + K2 + 1, fun k hk => ?_⟩
  obtain ⟨k, rfl⟩ : ∃ j, k = j + 1 := ⟨k - 1, by omega⟩
  have e1 := e1 k (by omega)
  simp only [spec_l4First.l0]
  rw [drop_consR hlt, if_pos (by omega), if_pos (by omega), rd_rule l n hlt, e2 k (by omega), Option.bind_some, hw, e1]
  simp only [firstGo]
  have : ((n + 1 : Nat) : Int) = (n : Int) + 1 := by omega
  rw [this]
  cases aboutB a b c l[n] <;> simp
theorem spec_first {l : List Ru} (h : ∀ x ∈ l, ruleB x = true) (a b c : Int) (hl : l.length ≤ 1073741824) : (∃ K_, ∀ k, K_ ≤ k → spec_l4First.f k l a b c = some (firstF l a b c)) := spec_first_loop l h a b c hl l.length 0 (by omega)
/-- Is it a call? -/
def callB (a b c : Int) : Bool := inR a 0 4294967295 && (inR b 0 4294967295 && inR c 0 65535)
theorem impl_call (a b c : Int) : impl_isCall.f a b c = some (callB a b c) := by
 unfold impl_isCall.f callB
 rw [impl_addr, Option.bind_some, impl_addr, Option.bind_some, impl_inR, Option.bind_some]
 have g : ∀ x : Int, decide (0 ≤ x ∧ x ≤ 4294967295) = inR x 0 4294967295 := fun _ => rfl
 rw [g, g]
 cases inR a 0 4294967295 <;> cases inR b 0 4294967295 <;> simp
/-- What RulesFirst answers. -/
def rulesFirstF (l : List Ru) (a b c : Int) : Int := if rokB l = true ∧ callB a b c = true then firstF l a b c else -1
theorem impl_rulesFirst (l : List Ru) (a b c : Int) : (∃ K_, ∀ k, K_ ≤ k → impl_RulesFirst.f k l a b c = some (rulesFirstF l a b c)) := by
 obtain ⟨K1, e1⟩ := impl_rulesOk l
 refine ⟨K1, fun k hk => ?_⟩
 simp only [impl_RulesFirst.f]
 unfold rulesFirstF
 rw [e1 k hk, Option.bind_some, impl_call, Option.bind_some]
 cases h : rokB l with
 | false => simp
 | true =>
  rw [impl_first (rokB_valid h), Option.bind_some]
  cases callB a b c <;> simp
/-- Strictly rising. -/
def Rise (l : List Int) : Prop := l.Pairwise (fun a b => a < b)
theorem rise_ext : ∀ {l m : List Int}, Rise l → Rise m → (∀ x, x ∈ l ↔ x ∈ m) → l = m
 | [], [], _, _, _ => rfl
 | [], y :: m, _, _, h => by have := (h y).2 (List.mem_cons_self ..); cases this
 | x :: l, [], _, _, h => by have := (h x).1 (List.mem_cons_self ..); cases this
 | x :: l, y :: m, hl, hm, h => by
  obtain ⟨h1, h2⟩ := List.pairwise_cons.1 hl
  obtain ⟨h3, h4⟩ := List.pairwise_cons.1 hm
  have e : x = y := by
   have a := (h x).1 (List.mem_cons_self ..)
   have b := (h y).2 (List.mem_cons_self ..)
   rcases List.mem_cons.1 a with a | a
   ·exact a
   ·rcases List.mem_cons.1 b with b | b
    ·exact b.symm
    ·have := h1 y b; have := h3 x a; omega
  subst e
  rw [rise_ext h2 h4 (fun z => ?_)]
  constructor
  ·intro hz
   rcases List.mem_cons.1 ((h z).1 (List.mem_cons_of_mem _ hz)) with e | e
   ·have := h1 z hz; omega
   ·exact e
  ·intro hz
   rcases List.mem_cons.1 ((h z).2 (List.mem_cons_of_mem _ hz)) with e | e
   ·have := h3 z hz; omega
   ·exact e
/-- A number put among others. -/
def numF : List Int → Int → List Int
 | [], n => [n]
 | x :: l, n => if x < n then x :: numF l n else if x = n then x :: l else n :: x :: l
theorem mem_numF {n y : Int} : ∀ {l : List Int}, y ∈ numF l n ↔ y = n ∨ y ∈ l
 | [] => by simp [numF]
 | x :: l => by
  unfold numF
  split
  ·simp only [List.mem_cons, mem_numF (l := l)]
   constructor
   ·rintro (h | h | h) <;> simp [h]
   ·rintro (h | h | h) <;> simp [h]
  ·split
   ·rename_i e
    subst e
    simp
   ·simp
theorem rise_numF {n : Int} : ∀ {l : List Int}, Rise l → Rise (numF l n)
 | [], _ => List.pairwise_cons.2 ⟨by simp, List.Pairwise.nil⟩
 | x :: l, h => by
  obtain ⟨h1, h2⟩ := List.pairwise_cons.1 h
  unfold numF
  split
  ·refine List.pairwise_cons.2 ⟨fun z hz => ?_, rise_numF h2⟩
   rcases mem_numF.1 hz with e | e
   ·rw [e]; assumption
   ·exact h1 z e
  ·split
   ·exact h
   ·refine List.pairwise_cons.2 ⟨fun z hz => ?_, h⟩
    rcases List.mem_cons.1 hz with e | e
    ·omega
    ·have := h1 z e; omega
/-- Numbers, each put among those ahead of it. -/
def numsF (l ns : List Int) : List Int := ns.foldl numF l
theorem rise_numsF : ∀ {ns l : List Int}, Rise l → Rise (numsF l ns)
 | [], _, h => h
 | _ :: ns, _, h => rise_numsF (ns := ns) (rise_numF h)
theorem mem_numsF {y : Int} : ∀ {ns l : List Int}, y ∈ numsF l ns ↔ y ∈ l ∨ y ∈ ns
 | [], l => by simp [numsF]
 | n :: ns, l => by
  show y ∈ numsF (numF l n) ns ↔ _
  rw [mem_numsF, mem_numF]
  simp only [List.mem_cons]
  constructor
  ·rintro ((h | h) | h) <;> simp [h]
  ·rintro (h | h | h) <;> simp [h]
theorem rise_one (n : Int) : Rise [n] := List.pairwise_cons.2 ⟨by simp, List.Pairwise.nil⟩
/-- Sorted, each once. -/
def dedF : List Int → List Int
 | [] => []
 | [x] => [x]
 | x :: y :: l => if x = y then dedF (y :: l) else x :: dedF (y :: l)
theorem mem_ded {z : Int} : ∀ {l : List Int}, z ∈ dedF l ↔ z ∈ l
 | [] => by simp [dedF]
 | [x] => by simp [dedF]
 | x :: y :: l => by
  unfold dedF
  split
  ·rename_i e
   subst e
   rw [mem_ded]
   simp
  ·simp only [List.mem_cons, mem_ded (l := y :: l)]
theorem rise_ded : ∀ {l : List Int}, l.Pairwise (fun a b => a ≤ b) → Rise (dedF l)
 | [], _ => List.Pairwise.nil
 | [x], _ => rise_one x
 | x :: y :: l, h => by
  obtain ⟨h1, h2⟩ := List.pairwise_cons.1 h
  have ih := rise_ded h2
  unfold dedF
  split
  ·exact ih
  ·rename_i e
   refine List.pairwise_cons.2 ⟨fun z hz => ?_, ih⟩
   have hz' := mem_ded.1 hz
   have a := h1 y (List.mem_cons_self ..)
   rcases List.mem_cons.1 hz' with e2 | e2
   ·omega
   ·have := (List.pairwise_cons.1 h2).1 z e2
    omega
/-- Sorting, and each once, is putting one by one. -/
def sortF (l : List Int) : List Int := l.mergeSort fun x y => decide (x ≤ y)
theorem sortF_le (l : List Int) : (sortF l).Pairwise (fun a b => a ≤ b) := by
 have := List.pairwise_mergeSort (le := fun x y : Int => decide (x ≤ y)) (fun a b c h1 h2 => by simp only [decide_eq_true_eq] at *; omega) (fun a b => by simp only [Bool.or_eq_true, decide_eq_true_eq]; omega) l
 exact this.imp (fun h => by simpa using h)
theorem mem_sortF {l : List Int} {x : Int} : x ∈ sortF l ↔ x ∈ l := by unfold sortF; exact List.mem_mergeSort
theorem ded_sort {l m : List Int} (hm : Rise m) (h : ∀ x, x ∈ m ↔ x ∈ l) : dedF (sortF l) = m :=
 rise_ext (rise_ded (sortF_le l)) hm (fun x => by rw [mem_ded, mem_sortF, h])
/-- The last edge at or ahead of a number. -/
theorem edge_of {l : List Int} (hl : Rise l) {x : Int} : ∀ {e0 : Int}, e0 ∈ l → e0 ≤ x → ∃ e ∈ l, e ≤ x ∧ ∀ y ∈ l, y ≤ x → y ≤ e := by
 induction l with
 | nil => intro e0 h; cases h
 | cons a l ih =>
  intro e0 h0 h1
  obtain ⟨p, q⟩ := List.pairwise_cons.1 hl
  by_cases c : ∃ b ∈ l, b ≤ x
  ·obtain ⟨b, hb, hbx⟩ := c
   obtain ⟨e, he, h2, h3⟩ := ih q hb hbx
   refine ⟨e, List.mem_cons_of_mem _ he, h2, fun y hy hyx => ?_⟩
   rcases List.mem_cons.1 hy with ey | ey
   ·have := p e he; omega
   ·exact h3 y ey hyx
  ·have ha : a ≤ x := by
    rcases List.mem_cons.1 h0 with e | e
    ·omega
    ·exact absurd ⟨e0, e, h1⟩ c
   refine ⟨a, List.mem_cons_self .., ha, fun y hy hyx => ?_⟩
   rcases List.mem_cons.1 hy with ey | ey
   ·omega
   ·exact absurd ⟨y, ey, hyx⟩ c
def tailC (x : Int) (t : List Int) : List Int := ((List.range t.length).filter (fun j => decide ((x :: t)[j + 1]! ≠ (x :: t)[j]!))).map (fun j => (x :: t)[j + 1]!)
theorem tailC_cons (x y : Int) (l : List Int) : tailC x (y :: l) = (if y ≠ x then [y] else []) ++ tailC y l := by
 unfold tailC
 rw [List.length_cons, List.range_succ_eq_map, List.filter_cons, List.filter_map]
 by_cases e : y = x <;> simp [e, Function.comp_def]
theorem ded_tail : ∀ (x : Int) (t : List Int), dedF (x :: t) = x :: tailC x t
 | x, [] => rfl
 | x, y :: l => by
  unfold dedF
  rw [tailC_cons, ded_tail y l]
  by_cases e : x = y
  ·subst e; simp
  ·rw [if_neg e, if_pos (Ne.symm e)]; rfl
theorem compact_ded : ∀ l : List Int, Lib.compact l = dedF l
 | [] => rfl
 | x :: t => by
  rw [ded_tail]
  unfold Lib.compact Lib.compactUpTo tailC
  rw [List.length_cons, List.range_succ_eq_map, List.filter_cons]
  have h0 : Lib.keeps (x :: t).toArray 0 = true := by simp [Lib.keeps]
  have hs : ∀ j, Lib.keeps (x :: t).toArray (j + 1) = decide ((x :: t)[j + 1]! ≠ (x :: t)[j]!) := fun j => by simp [Lib.keeps]
  rw [h0, if_pos rfl, List.filter_map, List.map_cons, List.map_map]
  simp only [Function.comp_def, Nat.succ_eq_add_one, hs]
  simp
theorem numF_len (l : List Int) (n : Int) : (numF l n).length ≤ l.length + 1 := by
 induction l with
 | nil => simp [numF]
 | cons x l ih =>
  unfold numF
  split
  ·simp only [List.length_cons]; omega
  ·split
   ·simp only [List.length_cons]; omega
   ·simp only [List.length_cons]; omega
theorem rd_num (l : List Int) (n : Nat) (h : n < l.length) : rd l (n : Int) = l[n] := by
 unfold rd
 rw [List.getD_eq_getElem?_getD, Int.toNat_natCast, List.getElem?_eq_getElem h]
 rfl
theorem spec_num_loop (l : List Int) (v : Int) (hl : l.length ≤ 1000000000) (d : Nat) : ∀ n : Nat, n + d = l.length → (∃ K_, ∀ k, K_ ≤ k → spec_l3Num.l0 k l v (n : Int) = some (l.take n ++ numF (l.drop n) v)) := by
 induction d with
 | zero =>
  intro n hn
  refine ev1 ?_
  simp only [spec_l3Num.l0]
  have e : l.take n = l := List.take_of_length_le (by omega)
  have e2 : l.drop n = [] := List.drop_eq_nil_of_le (by omega)
  refine evN (by omega) (evS rfl (evP (by omega) (evP (by omega) ?_)))
  rw [Int.toNat_natCast, e, e2]
  refine evS rfl (evP (by simp; omega) (evS rfl (evS rfl (evP (by simp; omega) (evS rfl (evS rfl (evP (by simp; omega) (evR ?_))))))))
  simp [numF]
 | succ d ih =>
  intro n hn
  have hlt : n < l.length := by omega
  have hw : wrap64 ((n : Int) + 1) = ((n + 1 : Nat) : Int) := by rw [w64 (by omega)]; omega
  refine ev1 ?_
  simp only [spec_l3Num.l0]
  refine evP (by omega) (evP (by omega) ?_)
  rw [rd_num l n hlt, hw, List.drop_eq_getElem_cons hlt]
  refine evI (fun c => ?_) (fun c => ?_)
  ·have h := ih (n + 1) (by omega)
   rw [List.take_succ_eq_append_getElem hlt] at h
   simp only [numF, if_pos c]
   rw [List.append_assoc] at h
   exact h
  ·refine evI (fun c2 => ?_) (fun c2 => ?_)
   ·refine evR ?_
    simp only [numF, if_neg c, if_pos c2]
    rw [← List.drop_eq_getElem_cons hlt, List.take_append_drop]
   ·refine evS rfl (evP (by omega) ?_)
    rw [Int.toNat_natCast]
    refine evS rfl (evP (by simp; omega) (evS rfl (evS rfl (evP (by simp; omega) (evS rfl (evS rfl (evP (by simp; omega) (evR ?_))))))))
    simp only [numF, if_neg c, if_neg c2]
    rw [← List.drop_eq_getElem_cons hlt]
    simp
theorem spec_num (l : List Int) (v : Int) (hl : l.length ≤ 1000000000) : (∃ K_, ∀ k, K_ ≤ k → spec_l3Num.f k l v = some (numF l v)) := spec_num_loop l v hl l.length 0 (by omega)
/-- Where something may change about a block: where it begins, and behind its end. -/
def edgeB (b m : Int) : List Int := if b + sz m ≤ 4294967295 then [b, b + sz m] else [b]
theorem edgeB_len (b m : Int) : (edgeB b m).length ≤ 2 := by unfold edgeB; split <;> simp
theorem mem_edgeB {b m x : Int} : x ∈ edgeB b m ↔ x = b ∨ b + sz m ≤ 4294967295 ∧ x = b + sz m := by
 unfold edgeB
 split
 ·rename_i c; simp [c]
 ·rename_i c; simp [c]
theorem edgeB_in {b m x : Int} (h : bok b m) (hx : x ∈ edgeB b m) : 0 ≤ x ∧ x ≤ 4294967295 := by
 have := sz_pos m
 obtain ⟨h0, h1, _⟩ := h
 rcases mem_edgeB.1 hx with e | ⟨e, e2⟩ <;> omega
/-- A block has a number just if it has the last edge at or ahead of it. -/
theorem has_edge {b m x e : Int} (hx : x ≤ 4294967295) (he : e ≤ x) (h1 : b ≤ x → b ≤ e) (h2 : b + sz m ≤ 4294967295 → b + sz m ≤ x → b + sz m ≤ e) : hasB b m e = hasB b m x := by
 rw [Bool.eq_iff_iff, hasB_iff, hasB_iff]
 constructor
 ·rintro ⟨p, q⟩
  refine ⟨by omega, ?_⟩
  rcases Int.lt_or_le x (b + sz m) with r | r
  ·exact r
  ·have := h2 (by omega) r; omega
 ·rintro ⟨p, q⟩
  exact ⟨h1 p, by omega⟩
def edgesF (bs : List S43) : List Int := numsF [0] (bs.flatMap fun b => edgeB b.f0 b.f1)
theorem rise_edgesF (bs : List S43) : Rise (edgesF bs) := rise_numsF (rise_one 0)
theorem mem_edgesF {bs : List S43} {x : Int} : x ∈ edgesF bs ↔ x = 0 ∨ ∃ b ∈ bs, x ∈ edgeB b.f0 b.f1 := by
 unfold edgesF
 rw [mem_numsF, List.mem_flatMap, List.mem_singleton]
/-- For each number the last edge at or ahead of it: each block has either both or none. -/
theorem edges_of {bs : List S43} {x : Int} (h0 : 0 ≤ x) (h1 : x ≤ 4294967295) : ∃ e ∈ edgesF bs, e ≤ x ∧ ∀ b ∈ bs, hasB b.f0 b.f1 e = hasB b.f0 b.f1 x := by
 obtain ⟨e, he, p, q⟩ := edge_of (rise_edgesF bs) (e0 := 0) (mem_edgesF.2 (.inl rfl)) h0
 refine ⟨e, he, p, fun b hb => has_edge h1 p (fun c => q _ (mem_edgesF.2 (.inr ⟨b, hb, mem_edgeB.2 (.inl rfl)⟩)) c) (fun c c2 => q _ (mem_edgesF.2 (.inr ⟨b, hb, mem_edgeB.2 (.inr ⟨c, rfl⟩)⟩)) c2)⟩
theorem rd_bk (l : List S43) (n : Nat) (h : n < l.length) : rd_T43 l (n : Int) = l[n] := by
 unfold rd_T43
 rw [List.getD_eq_getElem?_getD, Int.toNat_natCast, List.getElem?_eq_getElem h]
 rfl
theorem sort_ded (l : List Int) (h0 : 0 < l.length) (h1 : l.length ≤ 1000000000) : ((slices_Sort_int.f l).bind fun t => (slices_Compact_int.f t).bind fun t => some t) = some (dedF (sortF l)) := by
 have hl : (sortF l).length = l.length := by unfold sortF; exact List.length_mergeSort _
 unfold slices_Sort_int.f
 rw [if_pos (by omega), if_pos (by omega), Option.bind_some]
 show ((slices_Compact_int.f (sortF l)).bind fun t => some t) = _
 unfold slices_Compact_int.f
 rw [if_pos (by omega), Option.bind_some, compact_ded]
theorem impl_bounds_loop (l : List S43) (hv : ∀ b ∈ l, bok b.f0 b.f1) (hl : l.length ≤ 100000000) (d : Nat) : ∀ (n : Nat) (acc : List Int), n + d = l.length → 0 < acc.length → acc.length + 2 * d ≤ 300000000 → (∃ K_, ∀ k, K_ ≤ k → impl_bounds.l0 k acc l (l.length : Int) (n : Int) = some (dedF (sortF (acc ++ (l.drop n).flatMap fun b => edgeB b.f0 b.f1)))) := by
 induction d with
 | zero =>
  intro n acc hn h0 ha
  refine ev1 ?_
  simp only [impl_bounds.l0]
  rw [List.drop_eq_nil_of_le (by omega), List.flatMap_nil, List.append_nil]
  exact evN (by omega) ⟨0, fun k _ => sort_ded acc h0 (by omega)⟩
 | succ d ih =>
  intro n acc hn h0 ha
  have hlt : n < l.length := by omega
  have hw : wrap64 ((n : Int) + 1) = ((n + 1 : Nat) : Int) := by rw [w64 (by omega)]; omega
  have hb := hv l[n] (List.getElem_mem hlt)
  have hs := sz_bd hb.2.2.1
  have hla := impl_last hb.1 (by have := hb.2.1; omega) hb.2.2.1 hb.2.2.2.1
  have hb2 := hb.2.1
  have hb1 := hb.1
  refine ev1 ?_
  simp only [impl_bounds.l0]
  rw [rd_bk l n hlt, hw, List.drop_eq_getElem_cons hlt, List.flatMap_cons]
  refine evP (by omega) (evP (by omega) (evP (by omega) (evP (by omega) (evS rfl (evS hla (evI (fun c => ?_) (fun c => ?_)))))))
  ·have e : wrap64 (l[n].f0 + sz l[n].f1 - 1 + 1) = l[n].f0 + sz l[n].f1 := by rw [w64 (by omega)]; omega
   have h := ih (n + 1) (acc ++ [l[n].f0] ++ [l[n].f0 + sz l[n].f1]) (by omega) (by simp) (by simp; omega)
   refine evS hla (evP (by simp; omega) ?_)
   rw [e]
   unfold edgeB
   rw [if_pos (by omega)]
   rw [List.append_assoc, List.append_assoc] at h
   rw [List.append_assoc]
   exact h
  ·have h := ih (n + 1) (acc ++ [l[n].f0]) (by omega) (by simp) (by simp; omega)
   unfold edgeB
   rw [if_neg (by omega)]
   rw [List.append_assoc] at h
   exact h
theorem impl_bounds (l : List S43) (hv : ∀ b ∈ l, bok b.f0 b.f1) (hl : l.length ≤ 100000000) : (∃ K_, ∀ k, K_ ≤ k → impl_bounds.f k l = some (edgesF l)) := by
 have h := impl_bounds_loop l hv hl l.length 0 [0] (by omega) (by simp) (by simp; omega)
 have e : dedF (sortF ([0] ++ (l.drop 0).flatMap fun b => edgeB b.f0 b.f1)) = edgesF l := ded_sort (rise_edgesF l) (fun x => by rw [edgesF, mem_numsF, List.drop_zero, List.mem_append])
 rw [e] at h
 exact h
def portE (x : Ru) : List Int := if x.f5 < 65535 then [x.f4, x.f5 + 1] else [x.f4]
def ruleE (d : Nat) (x : Ru) : List Int := if d = 0 then edgeB x.f2.f0 x.f2.f1 else if d = 1 then edgeB x.f3.f0 x.f3.f1 else portE x
def gridE (d : Nat) (l : List Ru) : List Int := numsF [0] (l.flatMap (ruleE d))
theorem numsF_app' (l a b : List Int) : numsF (numsF l a) b = numsF l (a ++ b) := by unfold numsF; rw [List.foldl_append]
theorem numsF_len' (ns : List Int) : ∀ l : List Int, (numsF l ns).length ≤ l.length + ns.length := by
 induction ns with
 | nil => intro l; exact Nat.le_refl _
 | cons n ns ih =>
  intro l
  have h := ih (numF l n)
  have h2 := numF_len l n
  show (numsF (numF l n) ns).length ≤ _
  simp only [List.length_cons]
  omega
theorem ruleE_len (d : Nat) (x : Ru) : (ruleE d x).length ≤ 2 := by
 unfold ruleE portE
 split
 ·exact edgeB_len _ _
 ·split
  ·exact edgeB_len _ _
  ·split <;> simp
theorem rulesE_len (d : Nat) : ∀ l : List Ru, (l.flatMap (ruleE d)).length ≤ 2 * l.length
 | [] => Nat.le_refl _
 | w :: l => by
  rw [List.flatMap_cons, List.length_append, List.length_cons]
  have := rulesE_len d l
  have h2 := ruleE_len d w
  omega
theorem gridE_len (d : Nat) (l : List Ru) : (gridE d l).length ≤ 2 * l.length + 1 := by
 have h1 := numsF_len' (l.flatMap (ruleE d)) [0]
 have h2 := rulesE_len d l
 unfold gridE
 simp only [List.length_singleton] at h1
 omega
theorem rise_gridE (d : Nat) (l : List Ru) : Rise (gridE d l) := rise_numsF (rise_one 0)
theorem mem_gridE {d : Nat} {l : List Ru} {x : Int} : x ∈ gridE d l ↔ x = 0 ∨ ∃ r ∈ l, x ∈ ruleE d r := by
 unfold gridE
 rw [mem_numsF, List.mem_flatMap, List.mem_singleton]
theorem grid0 (l : List Ru) : edgesF (l.map fun x => x.f2) = gridE 0 l := by
 unfold edgesF gridE
 rw [List.flatMap_map]
 rfl
theorem grid1 (l : List Ru) : edgesF (l.map fun x => x.f3) = gridE 1 l := by
 unfold edgesF gridE
 rw [List.flatMap_map]
 rfl
theorem ports_ded (l : List Ru) : dedF (sortF (0 :: l.flatMap portE)) = gridE 2 l := ded_sort (rise_gridE 2 l) (fun x => by
 unfold gridE
 rw [mem_numsF, List.mem_singleton, List.mem_cons]
 rfl)
theorem impl_axes_loop (l : List Ru) (hv : ∀ x ∈ l, ruleB x = true) (hl : l.length ≤ 1000000) (d : Nat) : ∀ (n : Nat) (fr tt : List S43) (po : List Int), n + d = l.length → fr = (l.take n).map (fun x => x.f2) → tt = (l.take n).map (fun x => x.f3) → po = 0 :: (l.take n).flatMap portE → (∃ K_, ∀ k, K_ ≤ k → impl_axesOf.l0 k fr tt po l (l.length : Int) (n : Int) = some (gridE 0 l, gridE 1 l, gridE 2 l)) := by
 induction d with
 | zero =>
  intro n fr tt po hn e1 e2 e3
  have ht : l.take n = l := List.take_of_length_le (by omega)
  rw [ht] at e1 e2 e3
  subst e1 e2 e3
  have hp : (0 :: l.flatMap portE).length ≤ 3000000 := by have := rulesE_len 2 l; simp only [List.length_cons]; have e : l.flatMap (ruleE 2) = l.flatMap portE := rfl; rw [e] at this; omega
  have hs : (sortF (0 :: l.flatMap portE)).length = (0 :: l.flatMap portE).length := by unfold sortF; exact List.length_mergeSort _
  have b1 := impl_bounds (l.map fun x => x.f2) (fun b hb => by obtain ⟨x, hx, rfl⟩ := List.mem_map.1 hb; exact (ruleB_blocks (hv x hx)).1) (by simp; omega)
  have b2 := impl_bounds (l.map fun x => x.f3) (fun b hb => by obtain ⟨x, hx, rfl⟩ := List.mem_map.1 hb; exact (ruleB_blocks (hv x hx)).2.1) (by simp; omega)
  refine ev1 ?_
  simp only [impl_axesOf.l0]
  have s1 : slices_Sort_int.f (0 :: l.flatMap portE) = some (sortF (0 :: l.flatMap portE)) := by
   unfold slices_Sort_int.f
   rw [if_pos (by simp only [List.length_cons]; omega), if_pos (by omega)]; rfl
  have s2 : slices_Compact_int.f (sortF (0 :: l.flatMap portE)) = some (gridE 2 l) := by
   unfold slices_Compact_int.f
   rw [if_pos (by rw [hs]; simp only [List.length_cons]; omega), compact_ded, ports_ded]
  refine evN (by omega) (evS s1 (evB b1 (evB b2 (evS s2 (evR ?_)))))
  rw [grid0, grid1]
 | succ d ih =>
  intro n fr tt po hn e1 e2 e3
  have hlt : n < l.length := by omega
  have hw : wrap64 ((n : Int) + 1) = ((n + 1 : Nat) : Int) := by rw [w64 (by omega)]; omega
  have hx := ruleB_blocks (hv _ (List.getElem_mem hlt))
  have l1 : fr.length ≤ 1000000 := by rw [e1]; simp; omega
  have l2 : tt.length ≤ 1000000 := by rw [e2]; simp; omega
  have l3 : po.length ≤ 3000000 := by
   have := rulesE_len 2 (l.take n)
   have e : (l.take n).flatMap (ruleE 2) = (l.take n).flatMap portE := rfl
   rw [e, List.length_take] at this
   rw [e3, List.length_cons]
   omega
  have t1 : fr ++ [l[n].f2] = (l.take (n + 1)).map (fun x => x.f2) := by rw [e1, List.take_succ_eq_append_getElem hlt, List.map_append]; rfl
  have t2 : tt ++ [l[n].f3] = (l.take (n + 1)).map (fun x => x.f3) := by rw [e2, List.take_succ_eq_append_getElem hlt, List.map_append]; rfl
  have t3 : po ++ portE l[n] = 0 :: (l.take (n + 1)).flatMap portE := by rw [e3, List.take_succ_eq_append_getElem hlt, List.flatMap_append]; simp
  refine ev1 ?_
  simp only [impl_axesOf.l0]
  rw [rd_rule l n hlt, hw]
  refine evP (by omega) (evP (by omega) (evP (by omega) (evS rfl (evP (by simp; omega) (evS rfl (evS rfl (evP (by simp; omega) (evS rfl (evS rfl (evP (by simp; omega) (evS rfl (evI (fun c => ?_) (fun c => ?_)))))))))))))
  ·have e5 : portE l[n] = [l[n].f4, wrap64 (l[n].f5 + 1)] := by unfold portE; rw [if_pos c, w64 (by omega)]
   refine evS rfl (evP (by simp; omega) (ih (n + 1) _ _ _ (by omega) t1 t2 ?_))
   rw [← t3, e5, List.append_assoc]
   rfl
  ·have e5 : portE l[n] = [l[n].f4] := by unfold portE; rw [if_neg c]
   refine ih (n + 1) _ _ _ (by omega) t1 t2 ?_
   rw [← t3, e5]
theorem impl_axes (l : List Ru) (hv : ∀ x ∈ l, ruleB x = true) (hl : l.length ≤ 1000000) : (∃ K_, ∀ k, K_ ≤ k → impl_axesOf.f k l = some (gridE 0 l, gridE 1 l, gridE 2 l)) := impl_axes_loop l hv hl l.length 0 [] [] [0] (by omega) rfl rfl rfl
theorem spec_edges_put (l : List Ru) (d : Nat) (out : List Int) (i a b most : Int) (es : List Int) (R : List Int) (he : es = if b < most then [a, b + 1] else [a]) (hb : -1 ≤ b ∧ b ≤ 4611686018427387904) (ho : out.length ≤ 100000000) (h : (∃ K_, ∀ k, K_ ≤ k → spec_l4Edges.l0 k l (d : Int) (numsF out es) (wrap64 (i + 1)) = some R)) :
  (∃ K_, ∀ k, K_ ≤ k → spec_l4Edges.j2 k l (d : Int) out i a b most = some R) := by
 have hl := numF_len out a
 refine ev1 ?_
 simp only [spec_l4Edges.j2]
 refine evB (spec_num _ _ (by omega)) (evI (fun c => ?_) (fun c => ?_))
 ·rw [w64 (n := b + 1) (by omega)]
  rw [if_pos c] at he
  subst he
  exact evB (spec_num _ _ (by omega)) h
 ·rw [if_neg c] at he
  subst he
  exact h
theorem spec_edges4_loop (l : List Ru) (d : Nat) (hd : d < 3) (hv : ∀ x ∈ l, ruleB x = true) (hl : l.length ≤ 1000000) (e : Nat) : ∀ (n : Nat) (out : List Int), n + e = l.length → out.length + 2 * e ≤ 10000000 → (∃ K_, ∀ k, K_ ≤ k → spec_l4Edges.l0 k l (d : Int) out (n : Int) = some (numsF out ((l.drop n).flatMap (ruleE d)))) := by
 induction e with
 | zero =>
  intro n out hn ho
  refine ev1 ?_
  simp only [spec_l4Edges.l0]
  rw [List.drop_eq_nil_of_le (by omega)]
  exact evN (by omega) (evR rfl)
 | succ e ih =>
  intro n out hn ho
  have hlt : n < l.length := by omega
  have hw : wrap64 ((n : Int) + 1) = ((n + 1 : Nat) : Int) := by rw [w64 (by omega)]; omega
  obtain ⟨h1, h2, h3, h4, h5⟩ := ruleB_blocks (hv _ (List.getElem_mem hlt))
  have s1 := sz_bd h1.2.2.1
  have s2 := sz_bd h2.2.2.1
  have L1 := spec_last (b := l[n].f2.f0) (m := l[n].f2.f1) (by have := h1.1; omega) (by have := h1.2.1; omega) h1.2.2.1 h1.2.2.2.1
  have L2 := spec_last (b := l[n].f3.f0) (m := l[n].f3.f1) (by have := h2.1; omega) (by have := h2.2.1; omega) h2.2.2.1 h2.2.2.2.1
  have b1 := h1.2.1
  have b2 := h2.2.1
  have a1 := h1.1
  have a2 := h2.1
  have hlen := numsF_len' (ruleE d l[n]) out
  have hle := ruleE_len d l[n]
  have hh := ih (n + 1) (numsF out (ruleE d l[n])) (by omega) (by omega)
  rw [numsF_app'] at hh
  rw [List.drop_eq_getElem_cons hlt, List.flatMap_cons]
  have H : (∃ K_, ∀ k, K_ ≤ k → spec_l4Edges.l0 k l (d : Int) (numsF out (ruleE d l[n])) (wrap64 ((n : Int) + 1)) = some (numsF out (ruleE d l[n] ++ (l.drop (n + 1)).flatMap (ruleE d)))) := by rw [hw]; exact hh
  refine ev1 ?_
  simp only [spec_l4Edges.l0]
  rw [rd_rule l n hlt]
  refine evP (by omega) (evP (by omega) ?_)
  rcases (show d = 0 ∨ d = 1 ∨ d = 2 by omega) with rfl | rfl | rfl
  ·refine evP rfl (evB L1 (ev1 ?_))
   simp only [spec_l4Edges.j1]
   refine evN (by omega) (spec_edges_put l 0 out n _ _ _ (ruleE 0 l[n]) _ ?_ (by omega) (by omega) H)
   unfold ruleE edgeB
   rw [if_pos rfl]
   by_cases c : l[n].f2.f0 + sz l[n].f2.f1 ≤ 4294967295
   ·rw [if_pos c, if_pos (by omega)]; congr 2; omega
   ·rw [if_neg c, if_neg (by omega)]
  ·refine evN (by omega) (ev1 ?_)
   simp only [spec_l4Edges.j1]
   rw [rd_rule l n hlt]
   refine evP rfl (evP (by omega) (evP (by omega) (evB L2 (spec_edges_put l 1 out n _ _ _ (ruleE 1 l[n]) _ ?_ (by omega) (by omega) H))))
   unfold ruleE edgeB
   rw [if_neg (by omega), if_pos rfl]
   by_cases c : l[n].f3.f0 + sz l[n].f3.f1 ≤ 4294967295
   ·rw [if_pos c, if_pos (by omega)]; congr 2; omega
   ·rw [if_neg c, if_neg (by omega)]
  ·refine evN (by omega) (ev1 ?_)
   simp only [spec_l4Edges.j1]
   refine evN (by omega) (spec_edges_put l 2 out n _ _ _ (ruleE 2 l[n]) _ ?_ (by omega) (by omega) H)
   unfold ruleE portE
   rw [if_neg (by omega), if_neg (by omega)]
theorem spec_of (a b : List Ru) (ha : ∀ x ∈ a, ruleB x = true) (hb : ∀ x ∈ b, ruleB x = true) (hla : a.length ≤ 1000000) (hlb : b.length ≤ 1000000) : (∃ K_, ∀ k, K_ ≤ k → spec_l4Of.f k a b = some (gridE 0 (a ++ b), gridE 1 (a ++ b), gridE 2 (a ++ b))) := by
 have two : ∀ d : Nat, d < 3 → (∃ K_, ∀ k, K_ ≤ k → spec_l4Edges.f k a (d : Int) [0] = some (gridE d a)) ∧ (∃ K_, ∀ k, K_ ≤ k → spec_l4Edges.f k b (d : Int) (gridE d a) = some (gridE d (a ++ b))) := fun d hd => by
  have hg := gridE_len d a
  have e1 := spec_edges4_loop a d hd ha hla a.length 0 [0] (by omega) (by simp; omega)
  have e2 := spec_edges4_loop b d hd hb hlb b.length 0 (gridE d a) (by omega) (by omega)
  have e3 : numsF (gridE d a) (b.flatMap (ruleE d)) = gridE d (a ++ b) := by unfold gridE; rw [numsF_app', List.flatMap_append]
  rw [List.drop_zero, e3] at e2
  exact ⟨e1, e2⟩
 obtain ⟨p0, q0⟩ := two 0 (by omega)
 obtain ⟨p1, q1⟩ := two 1 (by omega)
 obtain ⟨p2, q2⟩ := two 2 (by omega)
 simp only [spec_l4Of.f]
 exact evB p0 (evB q0 (evB p1 (evB q1 (evB p2 (evB q2 (evR rfl))))))
abbrev Pt := Int × Int × Int
def gridOf (xs ys zs : List Int) : List Pt := xs.flatMap fun a => ys.flatMap fun b => zs.map fun c => (a, b, c)
def gridF (l : List Ru) : List Pt := gridOf (gridE 0 l) (gridE 1 l) (gridE 2 l)
theorem mem_gridOf {xs ys zs : List Int} {p : Pt} : p ∈ gridOf xs ys zs ↔ p.1 ∈ xs ∧ p.2.1 ∈ ys ∧ p.2.2 ∈ zs := by
 unfold gridOf
 simp only [List.mem_flatMap, List.mem_map]
 constructor
 ·rintro ⟨a, ha, b, hb, c, hc, rfl⟩
  exact ⟨ha, hb, hc⟩
 ·rintro ⟨h1, h2, h3⟩
  exact ⟨_, h1, _, h2, _, h3, rfl⟩
theorem gridE_in {d : Nat} (hd : d < 3) {l : List Ru} (hv : ∀ x ∈ l, ruleB x = true) {x : Int} (hx : x ∈ gridE d l) : 0 ≤ x ∧ x ≤ (if d = 2 then 65535 else 4294967295) := by
 rcases mem_gridE.1 hx with e | ⟨r, hr, e⟩
 ·subst e; split <;> omega
 ·obtain ⟨h1, h2, h3, h4, h5⟩ := ruleB_blocks (hv r hr)
  rcases (show d = 0 ∨ d = 1 ∨ d = 2 by omega) with rfl | rfl | rfl
  ·exact edgeB_in h1 e
  ·exact edgeB_in h2 e
  ·have e : x ∈ portE r := e
   unfold portE at e
   simp only [if_true]
   split at e
   ·rcases List.mem_cons.1 e with e | e
    ·omega
    ·have := List.mem_singleton.1 e; omega
   ·have := List.mem_singleton.1 e; omega
theorem grid_call {l : List Ru} (hv : ∀ x ∈ l, ruleB x = true) {p : Pt} (hp : p ∈ gridF l) : callB p.1 p.2.1 p.2.2 = true := by
 obtain ⟨h1, h2, h3⟩ := mem_gridOf.1 hp
 have e1 := gridE_in (by omega) hv h1
 have e2 := gridE_in (by omega) hv h2
 have e3 := gridE_in (by omega) hv h3
 simp only [callB, inR, Bool.and_eq_true, decide_eq_true_eq]
 exact ⟨e1, e2, e3⟩
/-- For each call one of the grid, about which the rules are that are about it. -/
theorem grid_rep {l : List Ru} (hv : ∀ x ∈ l, ruleB x = true) {a b c : Int} (hc : callB a b c = true) : ∃ p ∈ gridF l, ∀ x ∈ l, aboutB p.1 p.2.1 p.2.2 x = aboutB a b c x := by
 simp only [callB, inR, Bool.and_eq_true, decide_eq_true_eq] at hc
 obtain ⟨⟨a0, a1⟩, ⟨b0, b1⟩, c0, c1⟩ := hc
 obtain ⟨e1, m1, _, q1⟩ := edges_of (bs := l.map fun x => x.f2) a0 a1
 obtain ⟨e2, m2, _, q2⟩ := edges_of (bs := l.map fun x => x.f3) b0 b1
 rw [grid0] at m1
 rw [grid1] at m2
 obtain ⟨e3, m3, p3, q3⟩ := edge_of (rise_gridE 2 l) (e0 := 0) (mem_gridE.2 (.inl rfl)) c0
 refine ⟨(e1, e2, e3), mem_gridOf.2 ⟨m1, m2, m3⟩, fun x hx => ?_⟩
 have t1 := q1 x.f2 (List.mem_map.2 ⟨x, hx, rfl⟩)
 have t2 := q2 x.f3 (List.mem_map.2 ⟨x, hx, rfl⟩)
 have t3 : inR e3 x.f4 x.f5 = inR c x.f4 x.f5 := by
  obtain ⟨_, _, h3, h4, h5⟩ := ruleB_blocks (hv x hx)
  have s1 : x.f4 ≤ c → x.f4 ≤ e3 := fun h => q3 _ (mem_gridE.2 (.inr ⟨x, hx, by show x.f4 ∈ portE x; unfold portE; split <;> simp⟩)) h
  have s2 : x.f5 < 65535 → x.f5 + 1 ≤ c → x.f5 + 1 ≤ e3 := fun h h' => q3 _ (mem_gridE.2 (.inr ⟨x, hx, by show x.f5 + 1 ∈ portE x; unfold portE; rw [if_pos h]; simp⟩)) h'
  unfold inR
  rw [Bool.eq_iff_iff, decide_eq_true_eq, decide_eq_true_eq]
  constructor
  ·rintro ⟨p, q⟩
   refine ⟨by omega, ?_⟩
   rcases Int.lt_or_le x.f5 c with r | r
   ·have := s2 (by omega) (by omega); omega
   ·exact r
  ·rintro ⟨p, q⟩
   exact ⟨s1 p, by omega⟩
 simp only [aboutB, t1, t2, t3]
def firstP (l : List Ru) (p : Pt) : Int := firstF l p.1 p.2.1 p.2.2
theorem firstGo_congr {α : Type} {q r : α → Bool} : ∀ (l : List α) (i : Int), (∀ x ∈ l, q x = r x) → firstGo q l i = firstGo r l i
 | [], _, _ => rfl
 | x :: l, i, h => by
  simp only [firstGo, h x (List.mem_cons_self ..)]
  rw [firstGo_congr l (i + 1) (fun y hy => h y (List.mem_cons_of_mem _ hy))]
theorem firstGo_range {α : Type} (q : α → Bool) : ∀ (l : List α) (i : Int), 0 ≤ i → firstGo q l i = -1 ∨ i ≤ firstGo q l i ∧ firstGo q l i < i + l.length
 | [], _, _ => .inl rfl
 | x :: l, i, h => by
  unfold firstGo
  split
  ·exact .inr ⟨Int.le_refl _, by simp only [List.length_cons]; omega⟩
  ·rcases firstGo_range q l (i + 1) (by omega) with e | ⟨e1, e2⟩
   ·exact .inl e
   ·exact .inr ⟨by omega, by simp only [List.length_cons]; omega⟩
theorem firstP_range (l : List Ru) (p : Pt) : firstP l p = -1 ∨ 0 ≤ firstP l p ∧ firstP l p < l.length := by
 have := firstGo_range (aboutB p.1 p.2.1 p.2.2) l 0 (Int.le_refl _)
 rw [Int.zero_add] at this
 exact this
theorem firstP_grid {l m : List Ru} (hv : ∀ x ∈ l, ruleB x = true) {a b c : Int} (hc : callB a b c = true) : ∃ p ∈ gridF l, ∀ m : List Ru, (∀ x ∈ m, x ∈ l) → firstP m p = firstF m a b c := by
 obtain ⟨p, hp, h⟩ := grid_rep hv hc
 exact ⟨p, hp, fun m hm => firstGo_congr m 0 (fun x hx => h x (hm x hx))⟩
def foldG {σ : Type} (q : σ → Pt → σ × Bool) : List Pt → σ → σ × Bool
 | [], s => (s, true)
 | p :: ps, s => if (q s p).2 = true then foldG q ps (q s p).1 else ((q s p).1, false)
theorem foldG_app {σ : Type} (q : σ → Pt → σ × Bool) : ∀ (a b : List Pt) (s : σ), foldG q (a ++ b) s = if (foldG q a s).2 = true then foldG q b (foldG q a s).1 else ((foldG q a s).1, false)
 | [], b, s => by simp [foldG]
 | p :: a, b, s => by
  simp only [List.cons_append, foldG]
  by_cases c : (q s p).2 = true
  ·simp [c, foldG_app q a b]
  ·simp [c]
theorem cornZ_fold {σ : Type} {p : σ → Int → Int → Int → Int → Int → Int → Option (σ × Bool)} {q : σ → Pt → σ × Bool} (i k a b : Int) : ∀ (zs : List Int) (n : Int) (s : σ), (∀ c ∈ zs, ∀ s i k n, p s i k n a b c = some (q s (a, b, c))) → cornZ p i k a b zs n s = some (foldG q (zs.map fun c => (a, b, c)) s)
 | [], _, _, _ => rfl
 | c :: zs, n, s, h => by
  simp only [cornZ, List.map_cons, foldG]
  rw [h c (List.mem_cons_self ..), Option.bind_some]
  split
  ·exact cornZ_fold i k a b zs (n + 1) _ (fun c hc => h c (List.mem_cons_of_mem _ hc))
  ·rfl
theorem cornY_fold {σ : Type} {p : σ → Int → Int → Int → Int → Int → Int → Option (σ × Bool)} {q : σ → Pt → σ × Bool} (zs : List Int) (i a : Int) : ∀ (ys : List Int) (k : Int) (s : σ), (∀ b ∈ ys, ∀ c ∈ zs, ∀ s i k n, p s i k n a b c = some (q s (a, b, c))) → cornY p zs i a ys k s = some (foldG q (ys.flatMap fun b => zs.map fun c => (a, b, c)) s)
 | [], _, _, _ => rfl
 | b :: ys, k, s, h => by
  simp only [cornY, List.flatMap_cons]
  rw [cornZ_fold i k a b zs 0 s (h b (List.mem_cons_self ..)), Option.bind_some, foldG_app]
  split
  ·exact cornY_fold zs i a ys (k + 1) _ (fun b hb => h b (List.mem_cons_of_mem _ hb))
  ·rfl
theorem cornX_fold {σ : Type} {p : σ → Int → Int → Int → Int → Int → Int → Option (σ × Bool)} {q : σ → Pt → σ × Bool} (zs ys : List Int) : ∀ (xs : List Int) (i : Int) (s : σ), (∀ a ∈ xs, ∀ b ∈ ys, ∀ c ∈ zs, ∀ s i k n, p s i k n a b c = some (q s (a, b, c))) → cornX p zs ys xs i s = some (foldG q (gridOf xs ys zs) s)
 | [], _, _, _ => rfl
 | a :: xs, i, s, h => by
  have e : gridOf (a :: xs) ys zs = (ys.flatMap fun b => zs.map fun c => (a, b, c)) ++ gridOf xs ys zs := by unfold gridOf; rw [List.flatMap_cons]
  simp only [cornX]
  rw [cornY_fold zs i a ys 0 s (h a (List.mem_cons_self ..)), Option.bind_some, e, foldG_app]
  split
  ·exact cornX_fold zs ys xs (i + 1) _ (fun a ha => h a (List.mem_cons_of_mem _ ha))
  ·rfl
/-- What is done for the place of a rule. -/
def actV (l : List Ru) (v : Int) : Int × Int := if v < 0 then (0, 0) else ((rd_T71 l v).f0, (rd_T71 l v).f1)
def actP (l : List Ru) (p : Pt) : Int × Int := actV l (firstP l p)
theorem impl_act (l : List Ru) (v : Int) (h : v < l.length) : impl_act.f l v = some (actV l v) := by
 unfold impl_act.f actV
 by_cases c : v < 0
 ·rw [if_pos c, if_pos c]
 ·rw [if_neg c, if_neg c, if_pos (by omega), if_pos h]
theorem spec_does {l : List Ru} (hv : ∀ x ∈ l, ruleB x = true) (hl : l.length ≤ 1073741824) (p : Pt) : (∃ K_, ∀ k, K_ ≤ k → spec_l4Does.f k l p.1 p.2.1 p.2.2 = some (actP l p)) := by
 have hr := firstP_range l p
 have he : firstP l p = firstF l p.1 p.2.1 p.2.2 := rfl
 simp only [spec_l4Does.f]
 refine evB (spec_first hv _ _ _ hl) ?_
 rw [← he]
 unfold actP actV
 refine evI (fun c => evR (by rw [if_pos c])) (fun c => evP (by omega) (evP (by omega) (evR (by rw [if_neg c]))))
/-- The first of some calls with which two lists of rules do otherwise. -/
def diffG (a b : List Ru) : List Pt → Int × Int × Int × Bool
 | [] => (0, 0, 0, false)
 | p :: ps => if actP a p = actP b p then diffG a b ps else (p.1, p.2.1, p.2.2, true)
def rulesDiffF (a b : List Ru) : Int × Int × Int × Bool := if rokB a = true ∧ rokB b = true then diffG a b (gridF (a ++ b)) else (0, 0, 0, false)
def diffQ (a b : List Ru) (s : Int × Int × Int × Bool) (p : Pt) : (Int × Int × Int × Bool) × Bool := if actP a p = actP b p then (s, !s.2.2.2) else ((p.1, p.2.1, p.2.2, true), false)
theorem fold_diff (a b : List Ru) : ∀ gs : List Pt, (foldG (diffQ a b) gs (0, 0, 0, false)).1 = diffG a b gs
 | [] => rfl
 | p :: gs => by
  by_cases c : actP a p = actP b p
  ·have e : diffQ a b (0, 0, 0, false) p = ((0, 0, 0, false), true) := by unfold diffQ; rw [if_pos c]; rfl
   have e2 : diffG a b (p :: gs) = diffG a b gs := by rw [diffG, if_pos c]
   rw [e2, ← fold_diff a b gs]
   simp only [foldG, e, if_true]
  ·have e : diffQ a b (0, 0, 0, false) p = ((p.1, p.2.1, p.2.2, true), false) := by unfold diffQ; rw [if_neg c]
   have e2 : diffG a b (p :: gs) = (p.1, p.2.1, p.2.2, true) := by rw [diffG, if_neg c]
   rw [e2]
   simp only [foldG, e, Bool.false_eq_true, if_false]
theorem not_same (x y : Int × Int) : (!(x.1 == y.1) || !(x.2 == y.2)) = true ↔ ¬ x = y := by
 rw [Bool.or_eq_true, Bool.not_eq_true', Bool.not_eq_true', beq_eq_false_iff_ne, beq_eq_false_iff_ne]
 constructor
 ·rintro (h | h) e
  ·exact h (by rw [e])
  ·exact h (by rw [e])
 ·intro h
  by_cases c : x.1 = y.1
  ·exact .inr (fun c2 => h (Prod.ext c c2))
  ·exact .inl c
theorem impl_rulesDiffer (a b : List Ru) (hl : a.length + b.length < 1000000) : (∃ K_, ∀ k, K_ ≤ k → impl_RulesDiffer.f k a b = some (rulesDiffF a b)) := by
 simp only [impl_RulesDiffer.f]
 refine evB (impl_rulesOk a) (evI (fun ca => evB (impl_rulesOk b) (evI (fun cb => ?_) (fun cb => ?_))) (fun ca => ?_))
 ·have hva := rokB_valid ca
  have hvb := rokB_valid cb
  have hv : ∀ x ∈ a ++ b, ruleB x = true := fun x hx => (List.mem_append.1 hx).elim (hva x) (hvb x)
  have h8 := rokB_len ca
  have h9 := rokB_len cb
  have g0 := gridE_len 0 (a ++ b)
  have g1 := gridE_len 1 (a ++ b)
  have g2 := gridE_len 2 (a ++ b)
  rw [List.length_append] at g0 g1 g2
  refine evP hl (evB (impl_axes (a ++ b) hv (by rw [List.length_append]; omega)) (evP ⟨by simp only []; omega, by simp only []; omega, by simp only []; omega⟩ (evS (cornX_fold (q := diffQ a b) _ _ _ 0 (0, 0, 0, false) (fun x hx y hy z hz s i k n => ?_)) (evR ?_))))
  ·have r1 := firstP_range a (x, y, z)
   have r2 := firstP_range b (x, y, z)
   unfold impl_RulesDiffer.p
   rw [impl_first hva, Option.bind_some, impl_act a _ (by have : firstP a (x, y, z) = firstF a x y z := rfl; omega), Option.bind_some, impl_first hvb, Option.bind_some, impl_act b _ (by have : firstP b (x, y, z) = firstF b x y z := rfl; omega), Option.bind_some]
   have e1 : actV a (firstF a x y z) = actP a (x, y, z) := rfl
   have e2 : actV b (firstF b x y z) = actP b (x, y, z) := rfl
   rw [e1, e2]
   unfold diffQ
   by_cases c : actP a (x, y, z) = actP b (x, y, z)
   ·rw [if_pos c, if_neg (fun h => (not_same _ _).1 h c)]
   ·rw [if_neg c, if_pos ((not_same _ _).2 c)]
  ·unfold rulesDiffF
   rw [if_pos ⟨ca, cb⟩]
   exact fold_diff a b _
 ·refine evR ?_
  unfold rulesDiffF
  rw [if_neg (fun h => cb h.2)]
 ·refine evR ?_
  unfold rulesDiffF
  rw [if_neg (fun h => ca h.1)]
theorem diff_l2 (a b : List Ru) (hva : ∀ x ∈ a, ruleB x = true) (hvb : ∀ x ∈ b, ruleB x = true) (hla : a.length ≤ 1000000) (hlb : b.length ≤ 1000000) (xs ys zs : List Int) (hz : zs.length ≤ 100000000) (i j : Nat) (hi : i < xs.length) (hj : j < ys.length) (T : List Pt) (h : (∃ K_, ∀ k, K_ ≤ k → spec_RulesDiffer.l1 k a b (i : Int) (wrap64 ((j : Int) + 1)) xs ys zs = some (diffG a b T))) (d : Nat) :
  ∀ n : Nat, n + d = zs.length → (∃ K_, ∀ k, K_ ≤ k → spec_RulesDiffer.l2 k a b (i : Int) (j : Int) (n : Int) xs ys zs = some (diffG a b (((zs.drop n).map fun c => ((xs[i], ys[j], c) : Pt)) ++ T))) := by
 induction d with
 | zero =>
  intro n hn
  refine ev1 ?_
  simp only [spec_RulesDiffer.l2]
  rw [List.drop_eq_nil_of_le (by omega)]
  exact evN (by omega) h
 | succ d ih =>
  intro n hn
  have hlt : n < zs.length := by omega
  have hw : wrap64 ((n : Int) + 1) = ((n + 1 : Nat) : Int) := by rw [w64 (by omega)]; omega
  rw [List.drop_eq_getElem_cons hlt, List.map_cons, List.cons_append]
  refine ev1 ?_
  simp only [spec_RulesDiffer.l2]
  rw [rd_num xs i hi, rd_num ys j hj, rd_num zs n hlt, hw]
  refine evP (by omega) (evP (by omega) (evP (by omega) (evP (by omega) (evP (by omega) (evP (by omega) (evB (spec_does hva (by omega) (xs[i], ys[j], zs[n])) (evB (spec_does hvb (by omega) (xs[i], ys[j], zs[n])) ?_)))))))
  refine evI (fun c => evI (fun c2 => ?_) (fun c2 => ?_)) (fun c => ?_)
  ·rw [diffG, if_pos (Prod.ext c c2)]
   exact ih (n + 1) (by omega)
  ·rw [diffG, if_neg (fun e => c2 (by rw [e]))]
   exact evR rfl
  ·rw [diffG, if_neg (fun e => c (by rw [e]))]
   exact evR rfl
theorem diff_l1 (a b : List Ru) (hva : ∀ x ∈ a, ruleB x = true) (hvb : ∀ x ∈ b, ruleB x = true) (hla : a.length ≤ 1000000) (hlb : b.length ≤ 1000000) (xs ys zs : List Int) (hz : zs.length ≤ 100000000) (hy : ys.length ≤ 100000000) (i : Nat) (hi : i < xs.length) (T : List Pt) (h : (∃ K_, ∀ k, K_ ≤ k → spec_RulesDiffer.l0 k a b (wrap64 ((i : Int) + 1)) xs ys zs = some (diffG a b T))) (d : Nat) :
  ∀ n : Nat, n + d = ys.length → (∃ K_, ∀ k, K_ ≤ k → spec_RulesDiffer.l1 k a b (i : Int) (n : Int) xs ys zs = some (diffG a b (((ys.drop n).flatMap fun y => zs.map fun c => ((xs[i], y, c) : Pt)) ++ T))) := by
 induction d with
 | zero =>
  intro n hn
  refine ev1 ?_
  simp only [spec_RulesDiffer.l1]
  rw [List.drop_eq_nil_of_le (by omega)]
  exact evN (by omega) h
 | succ d ih =>
  intro n hn
  have hlt : n < ys.length := by omega
  have hw : wrap64 ((n : Int) + 1) = ((n + 1 : Nat) : Int) := by rw [w64 (by omega)]; omega
  rw [List.drop_eq_getElem_cons hlt, List.flatMap_cons, List.append_assoc]
  refine ev1 ?_
  simp only [spec_RulesDiffer.l1]
  refine evP (by omega) ?_
  have e := diff_l2 a b hva hvb hla hlb xs ys zs hz i n hi hlt (((ys.drop (n + 1)).flatMap fun y => zs.map fun c => ((xs[i], y, c) : Pt)) ++ T) (by rw [hw]; exact ih (n + 1) (by omega)) zs.length 0 (by omega)
  rw [List.drop_zero] at e
  exact e
theorem diff_l0 (a b : List Ru) (hva : ∀ x ∈ a, ruleB x = true) (hvb : ∀ x ∈ b, ruleB x = true) (hla : a.length ≤ 1000000) (hlb : b.length ≤ 1000000) (xs ys zs : List Int) (hz : zs.length ≤ 100000000) (hy : ys.length ≤ 100000000) (hx : xs.length ≤ 100000000) (d : Nat) :
  ∀ n : Nat, n + d = xs.length → (∃ K_, ∀ k, K_ ≤ k → spec_RulesDiffer.l0 k a b (n : Int) xs ys zs = some (diffG a b (gridOf (xs.drop n) ys zs))) := by
 induction d with
 | zero =>
  intro n hn
  refine ev1 ?_
  simp only [spec_RulesDiffer.l0]
  rw [List.drop_eq_nil_of_le (by omega)]
  exact evN (by omega) (evR rfl)
 | succ d ih =>
  intro n hn
  have hlt : n < xs.length := by omega
  have hw : wrap64 ((n : Int) + 1) = ((n + 1 : Nat) : Int) := by rw [w64 (by omega)]; omega
  have e : gridOf (xs.drop n) ys zs = (ys.flatMap fun y => zs.map fun c => ((xs[n], y, c) : Pt)) ++ gridOf (xs.drop (n + 1)) ys zs := by
   rw [List.drop_eq_getElem_cons hlt]
   unfold gridOf
   rw [List.flatMap_cons]
  rw [e]
  refine ev1 ?_
  simp only [spec_RulesDiffer.l0]
  refine evP (by omega) ?_
  have e2 := diff_l1 a b hva hvb hla hlb xs ys zs hz hy n hlt (gridOf (xs.drop (n + 1)) ys zs) (by rw [hw]; exact ih (n + 1) (by omega)) ys.length 0 (by omega)
  rw [List.drop_zero] at e2
  exact e2
theorem spec_rulesDiffer (a b : List Ru) (hla : a.length ≤ 1000000000) (hlb : b.length ≤ 1000000000) : (∃ K_, ∀ k, K_ ≤ k → spec_RulesDiffer.f k a b = some (rulesDiffF a b)) := by
 simp only [spec_RulesDiffer.f]
 refine evB (spec_rulesOk a (by omega)) (evI (fun ca => evB (spec_rulesOk b (by omega)) (ev1 ?_)) (fun ca => ev1 ?_))
 ·simp only [spec_RulesDiffer.j0]
  refine evI (fun cb => ?_) (fun cb => ?_)
  ·refine evR ?_
   unfold rulesDiffF
   rw [if_neg (fun h => by rw [h.2] at cb; cases cb)]
  ·have cb : rokB b = true := by simpa using cb
   have hva := rokB_valid ca
   have hvb := rokB_valid cb
   have h8 := rokB_len ca
   have h9 := rokB_len cb
   have g0 := gridE_len 0 (a ++ b)
   have g1 := gridE_len 1 (a ++ b)
   have g2 := gridE_len 2 (a ++ b)
   rw [List.length_append] at g0 g1 g2
   unfold rulesDiffF
   rw [if_pos ⟨ca, cb⟩]
   have e := diff_l0 a b hva hvb (by omega) (by omega) (gridE 0 (a ++ b)) (gridE 1 (a ++ b)) (gridE 2 (a ++ b)) (by omega) (by omega) (by omega) (gridE 0 (a ++ b)).length 0 (by omega)
   exact evB (spec_of a b hva hvb (by omega) (by omega)) e
 ·simp only [spec_RulesDiffer.j0, if_true]
  refine evR ?_
  unfold rulesDiffF
  rw [if_neg (fun h => ca h.1)]
def actF (l : List Ru) (a b c : Int) : Int × Int := actV l (firstF l a b c)
theorem diffG_none {a b : List Ru} : ∀ {gs : List Pt}, (diffG a b gs).2.2.2 = false → diffG a b gs = (0, 0, 0, false) ∧ ∀ p ∈ gs, actP a p = actP b p
 | [], _ => ⟨rfl, fun p hp => by cases hp⟩
 | q :: gs, h => by
  by_cases c : actP a q = actP b q
  ·have e2 : diffG a b (q :: gs) = diffG a b gs := by rw [diffG, if_pos c]
   rw [e2] at h ⊢
   obtain ⟨h1, h2⟩ := diffG_none h
   refine ⟨h1, fun p hp => ?_⟩
   rcases List.mem_cons.1 hp with rfl | hp
   ·exact c
   ·exact h2 p hp
  ·rw [diffG, if_neg c] at h
   cases h
theorem diffG_some {a b : List Ru} : ∀ {gs : List Pt}, (diffG a b gs).2.2.2 = true → ∃ p ∈ gs, diffG a b gs = (p.1, p.2.1, p.2.2, true) ∧ actP a p ≠ actP b p
 | [], h => by cases h
 | q :: gs, h => by
  by_cases c : actP a q = actP b q
  ·have e2 : diffG a b (q :: gs) = diffG a b gs := by rw [diffG, if_pos c]
   rw [e2] at h ⊢
   obtain ⟨p, hp, h2⟩ := diffG_some h
   exact ⟨p, List.mem_cons_of_mem _ hp, h2⟩
  ·exact ⟨q, List.mem_cons_self .., by rw [diffG, if_neg c], c⟩
theorem rdiff_none {a b : List Ru} (ha : rokB a = true) (hb : rokB b = true) (h : (rulesDiffF a b).2.2.2 = false) {x y z : Int} (hc : callB x y z = true) : actF a x y z = actF b x y z := by
 unfold rulesDiffF at h
 rw [if_pos ⟨ha, hb⟩] at h
 have hv : ∀ r ∈ a ++ b, ruleB r = true := fun r hr => (List.mem_append.1 hr).elim (rokB_valid ha r) (rokB_valid hb r)
 obtain ⟨p, hp, hm⟩ := firstP_grid (m := a) hv hc
 have e := (diffG_none h).2 p hp
 unfold actP at e
 rw [hm a (fun r hr => List.mem_append_left _ hr), hm b (fun r hr => List.mem_append_right _ hr)] at e
 exact e
theorem rdiff_some {a b : List Ru} (h : (rulesDiffF a b).2.2.2 = true) : ∃ x y z, rulesDiffF a b = (x, y, z, true) ∧ callB x y z = true ∧ actF a x y z ≠ actF b x y z ∧ rokB a = true ∧ rokB b = true := by
 unfold rulesDiffF at h ⊢
 split at h
 ·rename_i c
  obtain ⟨p, hp, e1, e2⟩ := diffG_some h
  have hv : ∀ r ∈ a ++ b, ruleB r = true := fun r hr => (List.mem_append.1 hr).elim (rokB_valid c.1 r) (rokB_valid c.2 r)
  rw [if_pos c]
  exact ⟨p.1, p.2.1, p.2.2, e1, grid_call hv hp, e2, c.1, c.2⟩
 ·cases h
theorem rdiff_iff {a b : List Ru} (ha : rokB a = true) (hb : rokB b = true) : (rulesDiffF a b).2.2.2 = false ↔ ∀ x y z, callB x y z = true → actF a x y z = actF b x y z := by
 constructor
 ·exact fun h x y z hc => rdiff_none ha hb h hc
 ·intro h
  rw [Bool.eq_false_iff]
  intro c
  obtain ⟨x, y, z, _, hc, hn, _⟩ := rdiff_some c
  exact hn (h x y z hc)
theorem diffG_turn (a b : List Ru) : ∀ gs, diffG b a gs = diffG a b gs
 | [] => rfl
 | p :: gs => by
  unfold diffG
  rw [diffG_turn a b gs]
  by_cases c : actP a p = actP b p
  ·rw [if_pos c, if_pos c.symm]
  ·rw [if_neg c, if_neg (fun q => c q.symm)]
theorem gridE_turn (d : Nat) (a b : List Ru) : gridE d (b ++ a) = gridE d (a ++ b) := rise_ext (rise_gridE _ _) (rise_gridE _ _) (fun x => by
 rw [mem_gridE, mem_gridE]
 simp only [List.mem_append]
 constructor
 ·rintro (h | ⟨r, h | h, q⟩)
  ·exact .inl h
  ·exact .inr ⟨r, .inr h, q⟩
  ·exact .inr ⟨r, .inl h, q⟩
 ·rintro (h | ⟨r, h | h, q⟩)
  ·exact .inl h
  ·exact .inr ⟨r, .inr h, q⟩
  ·exact .inr ⟨r, .inl h, q⟩)
theorem rdiff_turn (a b : List Ru) : rulesDiffF b a = rulesDiffF a b := by
 unfold rulesDiffF
 have e : gridF (b ++ a) = gridF (a ++ b) := by unfold gridF; rw [gridE_turn 0 a b, gridE_turn 1 a b, gridE_turn 2 a b]
 by_cases c : rokB a = true ∧ rokB b = true
 ·rw [if_pos c, if_pos ⟨c.2, c.1⟩, e, diffG_turn]
 ·rw [if_neg c, if_neg (fun q => c ⟨q.2, q.1⟩)]
/-- Bytes that are drawn from. -/
def Bytes (s : List Int) : Prop := (∀ x ∈ s, 0 ≤ x ∧ x ≤ 255) ∧ s.length ≤ 2000
theorem rd_byte {s : List Int} (h : Bytes s) (i : Int) : 0 ≤ rd s i ∧ rd s i ≤ 255 := by
 unfold rd
 rw [List.getD_eq_getElem?_getD]
 cases e : s[i.toNat]? with
 | none => simp
 | some x => simpa using h.1 x (List.mem_of_getElem? e)
theorem pick_aux (k : Nat) (s : List Int) (p n : Int) (hs : Bytes s) (hp0 : 0 ≤ p) (hp1 : p ≤ 1000000000000) (hn0 : 1 ≤ n) (hn1 : n ≤ 2147483648) :
  ∃ v, spec_l1Rd_pick.f (k + 1) s p n = some (v, p + 1) ∧ 0 ≤ v ∧ v < n := by
 have e1 : wrap64 (p + 1) = p + 1 := w64 (by omega)
 have e2 : wrap64 (p + 1 - 1) = p := by rw [w64 (by omega)]; omega
 unfold spec_l1Rd_pick.f
 rw [if_neg (by omega), e1]
 simp only [spec_l1Rd_pick.j0, e2]
 by_cases h0 : (s.length : Int) = 0
 ·rw [if_pos (beq_iff_eq.2 h0)]
  exact ⟨0, rfl, by omega, by omega⟩
 ·rw [if_neg (fun h => h0 (beq_iff_eq.1 h))]
  have hl := hs.2
  by_cases h1 : p < (s.length : Int)
  ·rw [if_pos h1, if_pos hp0, if_neg (by omega)]
   have hb := rd_byte hs p
   rw [w64 (by omega), Int.tmod_eq_emod_of_nonneg (by omega)]
   exact ⟨_, rfl, Int.emod_nonneg _ (by omega), Int.emod_lt_of_pos _ (by omega)⟩
  ·have e3 : wrap64 (p * 7) = p * 7 := w64 (by omega)
   have e4 : wrap64 (p * 7 + 3) = p * 7 + 3 := w64 (by omega)
   have e5 : wrap64 (p * 29) = p * 29 := w64 (by omega)
   have d1 : Int.tmod p (s.length : Int) = p % (s.length : Int) := Int.tmod_eq_emod_of_nonneg hp0
   have d2 : Int.tmod (p * 7 + 3) (s.length : Int) = (p * 7 + 3) % (s.length : Int) := Int.tmod_eq_emod_of_nonneg (by omega)
   have d3 : Int.tdiv p (s.length : Int) = p / (s.length : Int) := Int.tdiv_eq_ediv_of_nonneg hp0
   have q0 : 0 ≤ p / (s.length : Int) := Int.ediv_nonneg hp0 (by omega)
   have q1 : p / (s.length : Int) ≤ p := Int.ediv_le_self _ hp0
   have r0 := Int.emod_nonneg p h0
   have r1 := Int.emod_lt_of_pos p (by omega : 0 < (s.length : Int))
   have r2 := Int.emod_nonneg (p * 7 + 3) h0
   have r3 := Int.emod_lt_of_pos (p * 7 + 3) (by omega : 0 < (s.length : Int))
   have b1 := rd_byte hs (p % (s.length : Int))
   have b2 := rd_byte hs ((p * 7 + 3) % (s.length : Int))
   have c1 : wrap64 (rd s (p % (s.length : Int))) = rd s (p % (s.length : Int)) := w64 (by omega)
   have c2 : wrap64 (rd s ((p * 7 + 3) % (s.length : Int))) = rd s ((p * 7 + 3) % (s.length : Int)) := w64 (by omega)
   have c3 : wrap64 (p / (s.length : Int)) = p / (s.length : Int) := w64 (by omega)
   have e6 : wrap64 (p / (s.length : Int) * 53) = p / (s.length : Int) * 53 := w64 (by omega)
   have e7 : wrap64 (rd s (p % (s.length : Int)) * 131) = rd s (p % (s.length : Int)) * 131 := w64 (by omega)
   have e8 : wrap64 (rd s ((p * 7 + 3) % (s.length : Int)) * 1117) = rd s ((p * 7 + 3) % (s.length : Int)) * 1117 := w64 (by omega)
   rw [if_neg h1, if_neg h0]
   simp only [d1, d2, d3, e3, e4, c1, c2, c3, e5, e6, e7, e8]
   rw [if_pos r0, if_pos r1, if_pos r2, if_pos r3, if_neg (by omega)]
   generalize rd s (p % (s.length : Int)) = x at *
   generalize rd s ((p * 7 + 3) % (s.length : Int)) = y at *
   generalize p / (s.length : Int) = z at *
   have f1 : wrap64 (x * 131 + y * 1117) = x * 131 + y * 1117 := w64 (by omega)
   have f2 : wrap64 (x * 131 + y * 1117 + p * 29) = x * 131 + y * 1117 + p * 29 := w64 (by omega)
   have f3 : wrap64 (x * 131 + y * 1117 + p * 29 + z * 53) = x * 131 + y * 1117 + p * 29 + z * 53 := w64 (by omega)
   simp only [f1, f2, f3]
   generalize hX : x * 131 + y * 1117 + p * 29 + z * 53 = X at *
   have g1 : Int.tdiv X 64 = X / 64 := Int.tdiv_eq_ediv_of_nonneg (by omega)
   have g2 : wrap64 (X / 64) = X / 64 := w64 (by omega)
   rw [g1, g2, i64_xor X (X / 64) (by omega) (by omega) (by omega) (by omega), Int.tmod_eq_emod_of_nonneg (by omega)]
   exact ⟨_, rfl, Int.emod_nonneg _ (by omega), Int.emod_lt_of_pos _ (by omega)⟩
/-- A number is drawn. -/
theorem pick (s : List Int) (p n : Int) (hs : Bytes s) (hp0 : 0 ≤ p) (hp1 : p ≤ 1000000000000) (hn0 : 1 ≤ n) (hn1 : n ≤ 2147483648) :
  ∃ v, (∃ K_, ∀ k, K_ ≤ k → spec_l1Rd_pick.f k s p n = some (v, p + 1)) ∧ 0 ≤ v ∧ v < n := by
 obtain ⟨v, h, h0, h1⟩ := pick_aux 0 s p n hs hp0 hp1 hn0 hn1
 exact ⟨v, Ev.of (spec_l1Rd_pick.mono s p n) h, h0, h1⟩
/-- A number of a list is drawn. -/
theorem one (s : List Int) (p : Int) (l : List Int) (hs : Bytes s) (hp0 : 0 ≤ p) (hp1 : p ≤ 1000000000000) (hl0 : 1 ≤ l.length) (hl1 : l.length ≤ 2147483648) :
  ∃ v, (∃ K_, ∀ k, K_ ≤ k → spec_l1Rd_one.f k s p l = some (v, p + 1)) ∧ v ∈ l := by
 obtain ⟨v, ⟨K, h⟩, h0, h1⟩ := pick s p l.length hs hp0 hp1 (by omega) (by omega)
 refine ⟨rd l v, ⟨K, fun k hk => ?_⟩, ?_⟩
 ·simp only [spec_l1Rd_one.f, h k hk, Option.bind_some]
  rw [if_pos h0, if_pos h1]
 ·unfold rd
  rw [List.getD_eq_getElem?_getD, List.getElem?_eq_getElem (by omega)]
  exact List.getElem_mem _
theorem l1Open (l : List Int) (hw : ∀ x ∈ l, (Lit.int .u8 x).wf = true) : ∃ s, spec_l1Open.f l = some (s, 0) ∧ Bytes s := by
 have hb : ∀ x ∈ l, 0 ≤ x ∧ x ≤ 255 := fun x hx => by
  have := hw x hx
  simp [Lit.wf, IntKind.min, IntKind.max, IntKind.bits, IntKind.signed] at this
  omega
 unfold spec_l1Open.f
 by_cases c : (l.length : Int) > 2000
 ·rw [if_pos c, if_pos (by omega)]
  exact ⟨_, rfl, fun x hx => hb x (List.mem_of_mem_take hx), by rw [List.length_take]; omega⟩
 ·rw [if_neg c]
  exact ⟨_, rfl, hb, by omega⟩
theorem drawAddr (s : List Int) (p : Int) (hs : Bytes s) (hp0 : 0 ≤ p) (hp1 : p ≤ 900000000000) :
  ∃ a, (∃ K_, ∀ k, K_ ≤ k → spec_l12Addr.f k s p = some (a, p + 6)) ∧ 0 ≤ a ∧ a ≤ 4294967295 := by
 obtain ⟨v1, ⟨K1, h1⟩, a1, b1⟩ := pick s p 256 hs (by omega) (by omega) (by decide) (by decide)
 obtain ⟨v2, ⟨K2, h2⟩, a2, b2⟩ := pick s (p + 1) 8 hs (by omega) (by omega) (by decide) (by decide)
 obtain ⟨v3, ⟨K3, h3⟩, a3, b3⟩ := pick s (p + 1 + 1) 16 hs (by omega) (by omega) (by decide) (by decide)
 obtain ⟨v4, ⟨K4, h4⟩, a4, b4⟩ := pick s (p + 1 + 1 + 1) 256 hs (by omega) (by omega) (by decide) (by decide)
 obtain ⟨v5, ⟨K5, h5⟩, a5, b5⟩ := pick s (p + 1 + 1 + 1 + 1) 64 hs (by omega) (by omega) (by decide) (by decide)
 obtain ⟨v6, ⟨K6, h6⟩, b6⟩ := one s (p + 1 + 1 + 1 + 1 + 1) [wrap64 (167772160 + v1), wrap64 (167772160 + v2), wrap64 (167772416 + v3), wrap64 (3232235520 + v4), 0, 4294967295, 184549375, wrap64 (2886729728 + (wrap64 (v5 * 256)))] hs (by omega) (by omega) (by simp) (by simp)
 refine ⟨v6, ⟨K1 + K2 + K3 + K4 + K5 + K6, fun k hk => ?_⟩, ?_⟩
 ·simp only [spec_l12Addr.f]
  rw [h1 k (by omega), Option.bind_some, h2 k (by omega), Option.bind_some, h3 k (by omega), Option.bind_some, h4 k (by omega), Option.bind_some, h5 k (by omega), Option.bind_some]
  simp only []
  rw [h6 k (by omega), Option.bind_some]
  simp only [Option.some.injEq, Prod.mk.injEq, true_and]
  omega
 ·rw [w64 (by omega), w64 (by omega), w64 (by omega), w64 (by omega), w64 (n := v5 * 256) (by omega), w64 (by omega)] at b6
  simp only [List.mem_cons, List.not_mem_nil, or_false] at b6
  omega
theorem spec_over {a m : Int} (ha0 : 0 ≤ a) (ha1 : a ≤ 4611686018427387904) (h0 : 0 ≤ m) (h1 : m ≤ 32) : (∃ K_, ∀ k, K_ ≤ k → spec_l1Over.f k a m = some (a / sz m * sz m, m)) := by
 obtain ⟨K, h⟩ := spec_size h0 h1
 have hs := sz_bd h0
 have hd : a / sz m * sz m ≤ a := Int.ediv_mul_le a (by omega)
 have hq0 : 0 ≤ a / sz m := Int.ediv_nonneg ha0 (by omega)
 have hq1 : a / sz m ≤ a := Int.ediv_le_self _ ha0
 have hm : 0 ≤ a / sz m * sz m := Int.mul_nonneg hq0 (by omega)
 refine ⟨K, fun k hk => ?_⟩
 simp only [spec_l1Over.f]
 rw [h k hk, Option.bind_some, if_neg (by omega), Option.bind_some, Int.tdiv_eq_ediv_of_nonneg ha0, w64 (n := a / sz m) (by omega), w64 (by omega)]
theorem drawBlock (s : List Int) (p : Int) (hs : Bytes s) (hp0 : 0 ≤ p) (hp1 : p ≤ 800000000000) :
  ∃ b m, (∃ K_, ∀ k, K_ ≤ k → spec_l12Block.f k s p = some (b, m, p + 7)) ∧ bok b m := by
 obtain ⟨a, ⟨K1, h1⟩, a1, b1⟩ := drawAddr s p hs (by omega) (by omega)
 obtain ⟨m, ⟨K2, h2⟩, b2⟩ := one s (p + 6) [32, 31, 30, 28, 24, 24, 25, 16, 8, 1, 0, 29] hs (by omega) (by omega) (by simp) (by simp)
 simp only [List.mem_cons, List.not_mem_nil, or_false] at b2
 obtain ⟨K3, h3⟩ := spec_over (a := a) (m := m) a1 (by omega) (by omega) (by omega)
 have hd : a / sz m * sz m ≤ a := Int.ediv_mul_le a (by have := sz_pos m; omega)
 have hm : 0 ≤ a / sz m * sz m := Int.mul_nonneg (Int.ediv_nonneg a1 (by have := sz_pos m; omega)) (by have := sz_pos m; omega)
 refine ⟨_, m, ⟨K1 + K2 + K3, fun k hk => ?_⟩, bok.mk' hm (by omega) (by omega) (by omega) (Int.dvd_mul_left _ _)⟩
 simp only [spec_l12Block.f]
 rw [h1 k (by omega), Option.bind_some]
 simp only []
 rw [h2 k (by omega), Option.bind_some]
 simp only []
 rw [h3 k (by omega), Option.bind_some]
 simp only [Option.some.injEq, Prod.mk.injEq, true_and]
 omega
theorem drawAnyBlock (s : List Int) (p : Int) (hs : Bytes s) (hp0 : 0 ≤ p) (hp1 : p ≤ 700000000000) :
  ∃ b m p', (∃ K_, ∀ k, K_ ≤ k → spec_l12AnyBlock.f k s p = some (b, m, p')) ∧ p ≤ p' ∧ p' ≤ p + 9 ∧ -1 ≤ b ∧ b ≤ 4294967551 ∧ -1 ≤ m ∧ m ≤ 33 := by
 obtain ⟨b, m, ⟨K1, h1⟩, a1⟩ := drawBlock s p hs (by omega) (by omega)
 have a2 := a1.1
 have a3 := a1.2.1
 have a4 := a1.2.2.1
 have a5 := a1.2.2.2.1
 obtain ⟨v, ⟨K2, h2⟩, c1, c2⟩ := pick s (p + 7) 16 hs (by omega) (by omega) (by decide) (by decide)
 by_cases e0 : v = 0
 ·obtain ⟨x, ⟨K3, h3⟩, b3⟩ := one s (p + 7 + 1) [1, (-1), 256] hs (by omega) (by omega) (by simp) (by simp)
  simp only [List.mem_cons, List.not_mem_nil, or_false] at b3
  refine ⟨b + x, m, p + 7 + 1 + 1, ⟨K1 + K2 + K3, fun k hk => ?_⟩, by omega, by omega, by omega, by omega, by omega, by omega⟩
  simp only [spec_l12AnyBlock.f]
  rw [h1 k (by omega), Option.bind_some]
  simp only []
  rw [h2 k (by omega), Option.bind_some]
  simp only []
  rw [if_pos e0, h3 k (by omega), Option.bind_some]
  simp only []
  rw [w64 (by omega)]
 ·by_cases e1 : v = 1
  ·obtain ⟨x, ⟨K3, h3⟩, b3⟩ := one s (p + 7 + 1) [(-1), 33, 0, 32] hs (by omega) (by omega) (by simp) (by simp)
   simp only [List.mem_cons, List.not_mem_nil, or_false] at b3
   refine ⟨b, x, p + 7 + 1 + 1, ⟨K1 + K2 + K3, fun k hk => ?_⟩, by omega, by omega, by omega, by omega, by omega, by omega⟩
   simp only [spec_l12AnyBlock.f]
   rw [h1 k (by omega), Option.bind_some]
   simp only []
   rw [h2 k (by omega), Option.bind_some]
   simp only []
   rw [if_neg e0, if_pos e1, h3 k (by omega), Option.bind_some]
  ·refine ⟨b, m, p + 7 + 1, ⟨K1 + K2, fun k hk => ?_⟩, by omega, by omega, by omega, by omega, by omega, by omega⟩
   simp only [spec_l12AnyBlock.f]
   rw [h1 k (by omega), Option.bind_some]
   simp only []
   rw [h2 k (by omega), Option.bind_some]
   simp only []
   rw [if_neg e0, if_neg e1]
theorem drawAnyAddr (s : List Int) (p : Int) (hs : Bytes s) (hp0 : 0 ≤ p) (hp1 : p ≤ 700000000000) :
  ∃ a p', (∃ K_, ∀ k, K_ ≤ k → spec_l12AnyAddr.f k s p = some (a, p')) ∧ p ≤ p' ∧ p' ≤ p + 8 ∧ -1 ≤ a ∧ a ≤ 1099511627776 := by
 obtain ⟨v, ⟨K1, h1⟩, c1, c2⟩ := pick s p 16 hs (by omega) (by omega) (by decide) (by decide)
 by_cases e0 : v = 0
 ·obtain ⟨x, ⟨K3, h3⟩, b3⟩ := one s (p + 1) [(-1), 4294967296, 1099511627776] hs (by omega) (by omega) (by simp) (by simp)
  simp only [List.mem_cons, List.not_mem_nil, or_false] at b3
  refine ⟨x, p + 1 + 1, ⟨K1 + K3, fun k hk => ?_⟩, by omega, by omega, by omega, by omega⟩
  simp only [spec_l12AnyAddr.f]
  rw [h1 k (by omega), Option.bind_some]
  simp only []
  rw [if_pos e0, h3 k (by omega), Option.bind_some]
 ·obtain ⟨a, ⟨K3, h3⟩, b3, b4⟩ := drawAddr s (p + 1) hs (by omega) (by omega)
  refine ⟨a, p + 1 + 6, ⟨K1 + K3, fun k hk => ?_⟩, by omega, by omega, by omega, by omega⟩
  simp only [spec_l12AnyAddr.f]
  rw [h1 k (by omega), Option.bind_some]
  simp only []
  rw [if_neg e0, h3 k (by omega), Option.bind_some]
def smallI (v : Int) : Prop := -1 ≤ v ∧ v ≤ 4294967551
/-- A rule of numbers that are not great. -/
def smallR (x : Ru) : Prop := smallI x.f0 ∧ smallI x.f1 ∧ smallI x.f2.f0 ∧ smallI x.f2.f1 ∧ smallI x.f3.f0 ∧ smallI x.f3.f1 ∧ smallI x.f4 ∧ smallI x.f5
theorem drawRule (s : List Int) (p : Int) (hs : Bytes s) (hp0 : 0 ≤ p) (hp1 : p ≤ 600000000000) :
  Dr (fun k => spec_l12Rule.f k s p) fun r => smallR ⟨r.1, r.2.1, ⟨r.2.2.1, r.2.2.2.1⟩, ⟨r.2.2.2.2.1, r.2.2.2.2.2.1⟩, r.2.2.2.2.2.2.1, r.2.2.2.2.2.2.2.1⟩ ∧ p ≤ r.2.2.2.2.2.2.2.2 ∧ r.2.2.2.2.2.2.2.2 ≤ p + 18 := by
 simp only [spec_l12Rule.f]
 obtain ⟨x, e1, b1⟩ := one s p [0, 1, 2, 2, 2] hs (by omega) (by omega) (by simp) (by simp)
 simp only [List.mem_cons, List.not_mem_nil, or_false] at b1
 obtain ⟨b, m, e2, ⟨c0, c1, c2, c3, _⟩⟩ := drawBlock s (p + 1) hs (by omega) (by omega)
 obtain ⟨b', m', e3, ⟨d0, d1, d2, d3, _⟩⟩ := drawBlock s (p + 1 + 7) hs (by omega) (by omega)
 obtain ⟨y, e4, b4⟩ := one s (p + 1 + 7 + 7) [0, 0, 80, 100] hs (by omega) (by omega) (by simp) (by simp)
 obtain ⟨z, e5, b5⟩ := one s (p + 1 + 7 + 7 + 1) [65535, 80, 100, 443] hs (by omega) (by omega) (by simp) (by simp)
 simp only [List.mem_cons, List.not_mem_nil, or_false] at b4 b5
 obtain ⟨t, e6, t0, t1⟩ := pick s (p + 1 + 7 + 7 + 1 + 1) 2 hs (by omega) (by omega) (by decide) (by decide)
 refine drB e1 (drB e2 (drB e3 (drB e4 (drB e5 ?_))))
 simp only []
 refine drI (fun _ => dr1 ?_) (fun _ => dr1 ?_)
 all_goals
  simp only [spec_l12Rule.j0]
  refine drI (fun _ => drB e6 (drR ?_)) (fun _ => drR ?_)
 all_goals
  simp only []
  refine ⟨⟨⟨?_, ?_⟩, ⟨?_, ?_⟩, ⟨?_, ?_⟩, ⟨?_, ?_⟩, ⟨?_, ?_⟩, ⟨?_, ?_⟩, ⟨?_, ?_⟩, ⟨?_, ?_⟩⟩, ?_, ?_⟩ <;> first | omega | (simp only []; omega)
theorem small_all : smallI 0 ∧ smallI 65535 := ⟨⟨by omega, by omega⟩, ⟨by omega, by omega⟩⟩
theorem mem_snoc_small {l : List Ru} {x : Ru} (h : ∀ y ∈ l, smallR y) (hx : smallR x) : ∀ y ∈ l ++ [x], smallR y := by
 intro y hy
 rcases List.mem_append.1 hy with hy | hy
 ·exact h y hy
 ·rw [List.mem_singleton.1 hy]
  exact hx
theorem rules_l0 (s : List Int) (hs : Bytes s) (d : Nat) : ∀ (l : List Ru) (p : Int), 0 ≤ p → p + 18 * d ≤ 500000000000 → l.length + d ≤ 1000 → (∀ x ∈ l, smallR x) →
  Dr (fun k => spec_l12Rules.l0 k l (d : Int) s p) fun r => r.1.length ≤ l.length + d + 1 ∧ (∀ x ∈ r.1, smallR x) ∧ p ≤ r.2 ∧ r.2 ≤ p + 18 * d + 2 := by
 induction d with
 | zero =>
  intro l p hp0 hp1 hl h
  refine dr1 ?_
  simp only [spec_l12Rules.l0]
  obtain ⟨v, e, v0, v1⟩ := pick s p 2 hs hp0 (by omega) (by decide) (by decide)
  have e2 := spec_over (a := 0) (m := 0) (by omega) (by omega) (by omega) (by omega)
  refine drN (by omega) (drB e (drI (fun c => ?_) (fun c => drR ⟨by simp only []; omega, h, by simp only []; omega, by simp only []; omega⟩)))
  obtain ⟨x, e1, b1⟩ := one s (p + 1) [1, 2, 2] hs (by omega) (by omega) (by simp) (by simp)
  simp only [List.mem_cons, List.not_mem_nil, or_false] at b1
  refine drB e1 (drB e2 (drB e2 (drP (by omega) (drR ⟨by simp, mem_snoc_small h ?_, by simp only []; omega, by simp only []; omega⟩))))
  have hz : (0 : Int) / sz 0 * sz 0 = 0 := by rw [sz_0]; rfl
  simp only [hz]
  exact ⟨⟨by simp only []; omega, by simp only []; omega⟩, small_all.1, small_all.1, small_all.1, small_all.1, small_all.1, small_all.1, small_all.2⟩
 | succ d ih =>
  intro l p hp0 hp1 hl h
  refine dr1 ?_
  simp only [spec_l12Rules.l0]
  have hw : wrap64 (((d + 1 : Nat) : Int) - 1) = (d : Int) := by
   have : ((d + 1 : Nat) : Int) - 1 = (d : Int) := by omega
   rw [this, w64 (by omega)]
  obtain ⟨x, e, hx, q0, q1⟩ := drawRule s p hs hp0 (by omega)
  refine drP (by omega) (drB e (drP (by omega) ?_))
  simp only [hw]
  refine (ih (l ++ [_]) _ (by omega) (by omega) (by simp; omega) (mem_snoc_small h hx)).imp fun r hr => ⟨?_, hr.2.1, by omega, by omega⟩
  have := hr.1
  simp only [List.length_append, List.length_cons, List.length_nil] at this
  omega
theorem drawRules (s : List Int) (p : Int) (hs : Bytes s) (hp0 : 0 ≤ p) (hp1 : p ≤ 400000000000) : Dr (fun k => spec_l12Rules.f k s p) fun r => r.1.length ≤ 5 ∧ (∀ x ∈ r.1, smallR x) ∧ p ≤ r.2 ∧ r.2 ≤ p + 100 := by
 simp only [spec_l12Rules.f]
 obtain ⟨v, e, v0, v1⟩ := pick s p 5 hs hp0 (by omega) (by decide) (by decide)
 refine drB e ?_
 have hv : v = ((v.toNat : Nat) : Int) := by omega
 simp only []
 rw [hv]
 refine (rules_l0 s hs v.toNat [] (p + 1) (by omega) (by omega) (by simp; omega) (fun x hx => by cases hx)).imp fun r hr => ⟨?_, hr.2.1, by omega, by omega⟩
 have := hr.1
 simp only [List.length_nil] at this
 omega
theorem anyRules_l0 (s : List Int) (hs : Bytes s) (d : Nat) : ∀ (l : List Ru) (p : Int), 0 ≤ p → p + 19 * d ≤ 500000000000 → l.length + d = 9 → (∀ x ∈ l, smallR x) →
  Dr (fun k => spec_l12AnyRules.l0 k l s p) fun r => r.1.length ≤ 9 ∧ (∀ x ∈ r.1, smallR x) ∧ p ≤ r.2 ∧ r.2 ≤ p + 19 * d + 1 := by
 induction d with
 | zero =>
  intro l p hp0 hp1 hl h
  refine dr1 ?_
  simp only [spec_l12AnyRules.l0]
  obtain ⟨v, e, v0, v1⟩ := pick s p 2 hs hp0 (by omega) (by decide) (by decide)
  refine drB e ?_
  simp only []
  have hw : wrap64 (8 + v) = 8 + v := w64 (by omega)
  rw [hw]
  exact drN (by omega) (drR ⟨by simp only []; omega, h, by simp only []; omega, by simp only []; omega⟩)
 | succ d ih =>
  intro l p hp0 hp1 hl h
  refine dr1 ?_
  simp only [spec_l12AnyRules.l0]
  obtain ⟨v, e, v0, v1⟩ := pick s p 2 hs hp0 (by omega) (by decide) (by decide)
  refine drB e ?_
  simp only []
  have hw : wrap64 (8 + v) = 8 + v := w64 (by omega)
  rw [hw]
  refine drI (fun c => ?_) (fun c => drR ⟨by simp only []; omega, h, by simp only []; omega, by simp only []; omega⟩)
  obtain ⟨x, e, hx, q0, q1⟩ := drawRule s (p + 1) hs (by omega) (by omega)
  refine drB e (drP (by omega) ?_)
  exact (ih (l ++ [_]) _ (by omega) (by omega) (by simp; omega) (mem_snoc_small h hx)).imp fun r hr => ⟨hr.1, hr.2.1, by omega, by omega⟩
theorem mem_set_small {l : List Ru} {n : Nat} {x : Ru} (h : ∀ y ∈ l, smallR y) (hx : smallR x) : ∀ y ∈ l.set n x, smallR y := by
 intro y hy
 rcases List.mem_or_eq_of_mem_set hy with hy | hy
 ·exact h y hy
 ·rw [hy]
  exact hx
theorem drawAnyRules (s : List Int) (p : Int) (hs : Bytes s) (hp0 : 0 ≤ p) (hp1 : p ≤ 300000000000) : Dr (fun k => spec_l12AnyRules.f k s p) fun r => r.1.length ≤ 9 ∧ (∀ x ∈ r.1, smallR x) ∧ p ≤ r.2 ∧ r.2 ≤ p + 300 := by
 simp only [spec_l12AnyRules.f]
 obtain ⟨⟨l, q⟩, e, h1, h2, q0, q1⟩ := drawRules s p hs hp0 (by omega)
 simp only [] at h1 h2 q0 q1
 refine drB e (drI (fun c => drR ⟨by simp only []; omega, h2, by simp only []; omega, by simp only []; omega⟩) (fun c => ?_))
 simp only [] at c ⊢
 obtain ⟨i, e1, i0, i1⟩ := pick s q l.length hs (by omega) (by omega) (by omega) (by omega)
 obtain ⟨v, e2, v0, v1⟩ := pick s (q + 1) 20 hs (by omega) (by omega) (by decide) (by decide)
 have hi : rd_T71 l i = l[i.toNat]'(by omega) := by
  have := rd_rule l i.toNat (by omega)
  rwa [Int.toNat_of_nonneg i0] at this
 obtain ⟨x1, x2, x3, x4, x5, x6, x7, x8⟩ := h2 _ (List.getElem_mem (show i.toNat < l.length by omega))
 refine drB e1 (drB e2 (drI (fun c0 => ?_) (fun c0 => drI (fun c1 => ?_) (fun c1 => drI (fun c2 => ?_) (fun c2 => drI (fun c3 => ?_) (fun c3 => drI (fun c4 => ?_) (fun c4 => ?_)))))))
 ·obtain ⟨x, e3, b3⟩ := one s (q + 1 + 1) [(-1), 3, 0] hs (by omega) (by omega) (by simp) (by simp)
  simp only [List.mem_cons, List.not_mem_nil, or_false] at b3
  refine drB e3 (drP i0 (drP i1 (drR ⟨by simp only [List.length_set]; omega, mem_set_small h2 ?_, by simp only []; omega, by simp only []; omega⟩)))
  simp only [hi]
  exact ⟨⟨by simp only []; omega, by simp only []; omega⟩, x2, x3, x4, x5, x6, x7, x8⟩
 ·obtain ⟨x, e3, b3⟩ := one s (q + 1 + 1) [(-1), 4, 1] hs (by omega) (by omega) (by simp) (by simp)
  simp only [List.mem_cons, List.not_mem_nil, or_false] at b3
  refine drB e3 (drP i0 (drP i1 (drR ⟨by simp only [List.length_set]; omega, mem_set_small h2 ?_, by simp only []; omega, by simp only []; omega⟩)))
  simp only [hi]
  exact ⟨x1, ⟨by simp only []; omega, by simp only []; omega⟩, x3, x4, x5, x6, x7, x8⟩
 ·obtain ⟨x, e3, b3⟩ := one s (q + 1 + 1) [(-1), 65536] hs (by omega) (by omega) (by simp) (by simp)
  simp only [List.mem_cons, List.not_mem_nil, or_false] at b3
  refine drB e3 (drP i0 (drP i1 (drR ⟨by simp only [List.length_set]; omega, mem_set_small h2 ?_, by simp only []; omega, by simp only []; omega⟩)))
  simp only [hi]
  exact ⟨x1, x2, x3, x4, x5, x6, ⟨by simp only []; omega, by simp only []; omega⟩, x8⟩
 ·obtain ⟨b, m, q', e3, q2, q3, b0, b1, m0, m1⟩ := drawAnyBlock s (q + 1 + 1) hs (by omega) (by omega)
  refine drB e3 (drP i0 (drP i1 (drR ⟨by simp only [List.length_set]; omega, mem_set_small h2 ?_, by simp only []; omega, by simp only []; omega⟩)))
  simp only [hi]
  exact ⟨x1, x2, ⟨b0, b1⟩, ⟨m0, by simp only []; omega⟩, x5, x6, x7, x8⟩
 ·exact (anyRules_l0 s hs (9 - l.length) l _ (by simp only []; omega) (by simp only []; omega) (by omega) h2).imp fun r hr => ⟨hr.1, hr.2.1, by have := hr.2.2.1; simp only [] at this; omega, by have := hr.2.2.2; simp only [] at this; omega⟩
 ·exact drR ⟨by simp only []; omega, h2, by simp only []; omega, by simp only []; omega⟩
theorem drawCall (s : List Int) (p : Int) (hs : Bytes s) (hp0 : 0 ≤ p) (hp1 : p ≤ 500000000000) : Dr (fun k => spec_l12Call.f k s p) fun r => (0 ≤ r.1 ∧ r.1 ≤ 4294967295) ∧ (0 ≤ r.2.1 ∧ r.2.1 ≤ 4294967295) ∧ (0 ≤ r.2.2.1 ∧ r.2.2.1 ≤ 65535) ∧ r.2.2.2 = p + 14 := by
 simp only [spec_l12Call.f]
 obtain ⟨a, e1, a0, a1⟩ := drawAddr s p hs (by omega) (by omega)
 obtain ⟨b, e2, b0, b1⟩ := drawAddr s (p + 6) hs (by omega) (by omega)
 obtain ⟨v, e3, v0, v1⟩ := pick s (p + 6 + 6) 256 hs (by omega) (by omega) (by decide) (by decide)
 obtain ⟨x, e4, b4⟩ := one s (p + 6 + 6 + 1) [0, 80, 81, 100, 443, 65535, v] hs (by omega) (by omega) (by simp) (by simp)
 simp only [List.mem_cons, List.not_mem_nil, or_false] at b4
 exact drB e1 (drB e2 (drB e3 (drB e4 (drR ⟨⟨a0, a1⟩, ⟨b0, b1⟩, ⟨by simp only []; omega, by simp only []; omega⟩, by simp only []; omega⟩))))
theorem drawAnyCall (s : List Int) (p : Int) (hs : Bytes s) (hp0 : 0 ≤ p) (hp1 : p ≤ 400000000000) : Dr (fun k => spec_l12AnyCall.f k s p) fun r => (-1 ≤ r.1 ∧ r.1 ≤ 1099511627776) ∧ (0 ≤ r.2.1 ∧ r.2.1 ≤ 4294967295) ∧ (-1 ≤ r.2.2.1 ∧ r.2.2.1 ≤ 65536) ∧ p ≤ r.2.2.2 ∧ r.2.2.2 ≤ p + 25 := by
 simp only [spec_l12AnyCall.f]
 obtain ⟨⟨a, b, c, q⟩, e1, ⟨a0, a1⟩, ⟨b0, b1⟩, ⟨c0, c1⟩, hq⟩ := drawCall s p hs hp0 (by omega)
 simp only [] at a0 a1 b0 b1 c0 c1 hq
 obtain ⟨v, e3, v0, v1⟩ := pick s q 20 hs (by omega) (by omega) (by decide) (by decide)
 refine drB e1 (drB e3 ?_)
 simp only []
 refine drI (fun c => ?_) (fun c => drI (fun c => ?_) (fun c => ?_))
 ·obtain ⟨a', p', e, p0, p1, k0, k1⟩ := drawAnyAddr s (q + 1) hs (by omega) (by omega)
  exact drB e (drR ⟨⟨k0, k1⟩, ⟨b0, b1⟩, ⟨by simp only []; omega, by simp only []; omega⟩, by simp only []; omega, by simp only []; omega⟩)
 ·obtain ⟨x, e4, b4⟩ := one s (q + 1) [(-1), 65536] hs (by omega) (by omega) (by simp) (by simp)
  simp only [List.mem_cons, List.not_mem_nil, or_false] at b4
  exact drB e4 (drR ⟨⟨by simp only []; omega, by simp only []; omega⟩, ⟨b0, b1⟩, ⟨by simp only []; omega, by simp only []; omega⟩, by simp only []; omega, by simp only []; omega⟩)
 ·exact drR ⟨⟨by simp only []; omega, by simp only []; omega⟩, ⟨b0, b1⟩, ⟨by simp only []; omega, by simp only []; omega⟩, by simp only []; omega, by simp only []; omega⟩
theorem drawRulesFirst (l : List Int) (hw : ∀ x ∈ l, (Lit.int .u8 x).wf = true) : Dr (fun k => spec_DrawRulesFirst.f k l) fun r => r.1.length ≤ 9 := by
 simp only [spec_DrawRulesFirst.f]
 obtain ⟨s, h0, hs⟩ := l1Open l hw
 refine drS h0 ?_
 obtain ⟨r, e, h1, h2, p0, p1⟩ := drawAnyRules s 0 hs (by omega) (by omega)
 obtain ⟨c, e2, _⟩ := drawAnyCall s r.2 hs (by omega) (by omega)
 exact drB e (drB e2 (drR h1))
end Go.Proofs.Ytkgbgaojglcaoaa.Z
end
section
namespace Go.Proofs.Ytkgbgaojglcaoaa.Pure
open Go Go.RowKit Go.Proofs.Ytkgbgaojglcaoaa.PAll Go.Proofs.YtkgbgaojglcaoaaW.PrintWords Go.Proofs.YtkgbgaojglcaoaaW.PrintLast Go.Proofs.YtkgbgaojglcaoaaW.PrintMore Go.Proofs.Ytkgbgaojglcaoaa.Z
set_option linter.unusedVariables false
set_option linter.unusedSimpArgs false
theorem drawRulesDiffer (l0 : List Int) (hw : ∀ x ∈ l0, (Lit.int .u8 x).wf = true) : Dr (fun k => spec_DrawRulesDiffer.f k l0) fun r => r.1.length ≤ 9 ∧ r.2.length ≤ 9 := by
 simp only [spec_DrawRulesDiffer.f]
 obtain ⟨s, h0, hs⟩ := l1Open l0 hw
 refine drS h0 ?_
 obtain ⟨⟨l, q⟩, e, h1, h2, p0, p1⟩ := drawAnyRules s 0 hs (by omega) (by omega)
 simp only [] at h1 h2 p0 p1
 obtain ⟨v, e1, v0, v1⟩ := pick s q 3 hs (by omega) (by omega) (by decide) (by decide)
 obtain ⟨⟨m, q2⟩, e2, m1, _⟩ := drawAnyRules s (q + 1) hs (by omega) (by omega)
 simp only [] at m1
 refine drB e (drB e1 ?_)
 simp only []
 refine drI (fun _ => ?_) (fun _ => drB e2 (drR ⟨h1, m1⟩))
 refine drS rfl (drP (by simp; omega) (drS rfl (drI (fun c => drP (by omega) (drP c (drR ⟨h1, ?_⟩))) (fun c => drR ⟨h1, ?_⟩))))
 ·simp only [List.length_set, List.nil_append]; exact h1
 ·simp only [List.nil_append]; exact h1
theorem rules_range (l : List Ru) (a b c : Int) : rulesFirstF l a b c = -1 ∨ 0 ≤ rulesFirstF l a b c ∧ rulesFirstF l a b c < l.length := by
 unfold rulesFirstF
 split
 ·exact firstP_range l (a, b, c)
 ·exact .inl rfl
theorem diff_j4 {a : List Ru} (ok : rokB a = true) (hl : a.length ≤ 9) (o : Bool) (u0 u1 u2 u3 u4 u5 u6 u7 v0 v1 v2 v3 v4 v5 v6 v7 : Int) (h : (u0, u1) = (v0, v1) ↔ o = false) : (∃ K_, ∀ k, K_ ≤ k → laws_FnRulesDiffer.j4 k a o u0 u1 u2 u3 u4 u5 u6 u7 v0 v1 v2 v3 v4 v5 v6 v7 = some true) := by
 have hs : (rulesDiffF a a).2.2.2 = false := (rdiff_iff ok ok).2 (fun _ _ _ _ => rfl)
 refine ev1 ?_
 simp only [laws_FnRulesDiffer.j4]
 refine evB (impl_rulesDiffer a a (by omega)) ?_
 rw [hs]
 refine evI (fun c => evP ?_ (evR rfl)) (fun c => evP ?_ (evR rfl))
 ·subst c
  cases o with
  | false =>
   have h2 : u1 = v1 := congrArg Prod.snd (h.2 rfl)
   simp [h2]
  | true =>
   have h2 : ¬ u1 = v1 := fun e => by
    have := h.1 (by rw [e])
    cases this
   simp [h2]
 ·cases o with
  | false => exact absurd (congrArg Prod.fst (h.2 rfl)) c
  | true => rfl
theorem diff_j3 {a : List Ru} (b : List Ru) (ok : rokB a = true) (hl : a.length ≤ 9) (o : Bool) (t u0 u1 u2 u3 u4 u5 u6 u7 : Int) (ht : t = -1 ∨ 0 ≤ t ∧ t < b.length) (h : (u0, u1) = actV b t ↔ o = false) : (∃ K_, ∀ k, K_ ≤ k → laws_FnRulesDiffer.j3 k a b o t u0 u1 u2 u3 u4 u5 u6 u7 0 0 0 0 0 0 0 0 = some true) := by
 refine ev1 ?_
 simp only [laws_FnRulesDiffer.j3]
 unfold actV at h
 refine evI (fun c => ?_) (fun c => ?_)
 ·rw [if_neg (by omega)] at h
  exact evP (by omega) (evP (by omega) (diff_j4 ok hl o _ _ _ _ _ _ _ _ _ _ _ _ _ _ _ _ h))
 ·rw [if_pos (by omega)] at h
  exact diff_j4 ok hl o _ _ _ _ _ _ _ _ _ _ _ _ _ _ _ _ h
theorem diff_j2 {a b : List Ru} (ok : rokB a = true) (hl : a.length ≤ 9) (o : Bool) (x y z : Int) (h : actV a (rulesFirstF a x y z) = actV b (rulesFirstF b x y z) ↔ o = false) : (∃ K_, ∀ k, K_ ≤ k → laws_FnRulesDiffer.j2 k a b o x y z = some true) := by
 have ra := rules_range a x y z
 have rb := rules_range b x y z
 refine ev1 ?_
 simp only [laws_FnRulesDiffer.j2]
 refine evB (impl_rulesFirst a x y z) (evB (impl_rulesFirst b x y z) ?_)
 generalize rulesFirstF a x y z = i at h ra ⊢
 generalize rulesFirstF b x y z = t at h rb ⊢
 unfold actV at h
 refine evI (fun c => ?_) (fun c => ?_)
 ·rw [if_neg (show ¬ i < 0 by omega)] at h
  exact evP (by omega) (evP (by omega) (diff_j3 b ok hl o t _ _ _ _ _ _ _ _ rb h))
 ·rw [if_pos (show i < 0 by omega)] at h
  exact diff_j3 b ok hl o t _ _ _ _ _ _ _ _ rb h
theorem act_first {l : List Ru} (ok : rokB l = true) {x y z : Int} (hc : callB x y z = true) : actV l (rulesFirstF l x y z) = actF l x y z := by
 unfold rulesFirstF actF
 rw [if_pos ⟨ok, hc⟩]
theorem FnRulesDiffer : laws_FnRulesDiffer.Pure := by
 intro l0 l1 h1 h2 hw1 h3 h4 hw2
 suffices h : (∃ K_, ∀ k, K_ ≤ k → laws_FnRulesDiffer.f k l0 l1 = some true) by obtain ⟨K, h⟩ := h; exact ⟨K, h K (Nat.le_refl _)⟩
 have T : (∃ K_, ∀ k, K_ ≤ k → laws_FnRulesDiffer.j0 k l0 l1 true = some true) := by
  refine ev1 ?_
  simp only [laws_FnRulesDiffer.j0]
  exact evP trivial (evR rfl)
 simp only [laws_FnRulesDiffer.f]
 refine evI (fun _ => T) (fun _ => ?_)
 cases hb : decide ((l1.length : Int) > 1048576) with
 | true => exact T
 | false =>
  obtain ⟨⟨a, b⟩, e, ha, hb⟩ := drawRulesDiffer l0 hw1
  simp only [] at ha hb
  have J1 : ∀ (o : Bool) (x y z : Int), (∃ K_, ∀ k, K_ ≤ k → laws_FnRulesDiffer.j1 k l1 a b o o o true x y z x y z x y z = some true) := fun o x y z => by
   refine ev1 ?_
   simp only [laws_FnRulesDiffer.j1]
   exact evP trivial (evP (by simp) (evP (by simp) (evP (by simp) (evR (by simp)))))
  refine ev1 ?_
  simp only [laws_FnRulesDiffer.j0]
  refine evN (by simp) (evB e (evB (impl_rulesDiffer a b (by omega)) (evB (spec_rulesDiffer a b (by omega) (by omega)) (evB (impl_rulesDiffer b a (by omega)) ?_))))
  simp only []
  rw [rdiff_turn a b]
  have hsome := @rdiff_some a b
  have hnone := @rdiff_none a b
  generalize rulesDiffF a b = R at hsome hnone ⊢
  obtain ⟨x, y, z, o⟩ := R
  simp only [] at hsome hnone ⊢
  refine evN (by simp) (evN (by simp) (evN (by simp) (evN (by simp) (evB (spec_rulesOk a (by omega)) (evI (fun oka => evB (spec_rulesOk b (by omega)) ?_) (fun _ => J1 o x y z))))))
  cases okb : rokB b with
  | false => exact J1 o x y z
  | true =>
   refine ev1 ?_
   simp only [laws_FnRulesDiffer.j1]
   refine evN (by simp) ?_
   cases o with
   | true =>
    refine evP rfl (diff_j2 oka ha true x y z ?_)
    obtain ⟨x', y', z', e1, hc, hn, _⟩ := hsome rfl
    cases e1
    rw [act_first oka hc, act_first okb hc]
    exact ⟨fun h => absurd h hn, fun h => by cases h⟩
   | false =>
    obtain ⟨⟨m, c1, c2, c3⟩, e2, _⟩ := drawRulesFirst l1 hw2
    refine evN (by simp) (evB e2 (diff_j2 oka ha false c1 c2 c3 ⟨fun _ => rfl, fun _ => ?_⟩))
    by_cases hc : callB c1 c2 c3 = true
    ·rw [act_first oka hc, act_first okb hc]
     exact hnone oka okb rfl hc
    ·have e1 : ∀ l : List Ru, rulesFirstF l c1 c2 c3 = -1 := fun l => by
      unfold rulesFirstF
      rw [if_neg (fun h => hc h.2)]
     rw [e1, e1]
     rfl
end Go.Proofs.Ytkgbgaojglcaoaa.Pure
end
