/- Contracts of the functions that the statement reaches, printed by a program out of the translation and joined with the plain laws. -/
import Derived.Lib.SlicesCompact
import Derived.Test.YtkgbgaojglcaoaaCFnExactRulesDiffer3
import Derived.Test.YtkgbgaojglcaoaaCFnExactRulesDiffer4
import Derived.Test.YtkgbgaojglcaoaaCFnExactRulesDiffer5
import Derived.Test.YtkgbgaojglcaoaaCFnExactRulesDiffer6
import Derived.Test.YtkgbgaojglcaoaaCFnExactRulesDiffer7
import Derived.Test.YtkgbgaojglcaoaaCFnExactRulesDiffer9
import Derived.Test.YtkgbgaojglcaoaaCFnExactRulesDiffer10
section
namespace Go.Proofs.Ytkgbgaojglcaoaa.Z
open Go Go.RowKit Go.Proofs.Ytkgbgaojglcaoaa.PAll Go.Proofs.YtkgbgaojglcaoaaW.PrintWords Go.Proofs.YtkgbgaojglcaoaaW.PrintLast Go.Proofs.YtkgbgaojglcaoaaW.PrintMore
set_option linter.unusedVariables false
set_option linter.unusedSimpArgs false
theorem spec_in (a l h : Int) : spec_l1In.f a l h = some (decide (l ≤ a ∧ a ≤ h)) := by
 unfold spec_l1In.f
 by_cases c : a ≥ l
 ·rw [if_pos c]; simp [c]
 ·rw [if_neg c]
  have : ¬ l ≤ a := by omega
  simp [this]
theorem impl_in (a l h : Int) : impl_in.f a l h = some (decide (l ≤ a ∧ a ≤ h)) := by
 unfold impl_in.f
 by_cases c : a ≥ l
 ·rw [if_pos c]; simp [c]
 ·rw [if_neg c]
  have : ¬ l ≤ a := by omega
  simp [this]
theorem spec_addr (a : Int) : spec_l1Addr.f a = some (decide (0 ≤ a ∧ a ≤ 4294967295)) := by simp only [spec_l1Addr.f, spec_in, Option.bind_some]
theorem impl_addr (a : Int) : impl_isAddr.f a = some (decide (0 ≤ a ∧ a ≤ 4294967295)) := by simp only [impl_isAddr.f, impl_in, Option.bind_some]
theorem two_loop (n : Nat) : ∀ (k : Nat) (c : Int), n ≤ 62 → n < k → 1 ≤ c → c * 2 ^ n ≤ 4611686018427387904 → spec_l1Two.l0 k (n : Int) c = some (c * 2 ^ n) := by
 induction n with
 | zero =>
  intro k c _ hk _ _
  obtain ⟨k, rfl⟩ : ∃ m, k = m + 1 := ⟨k - 1, by omega⟩
  simp only [spec_l1Two.l0]
  rw [if_neg (by omega)]
  simp
 | succ n ih =>
  intro k c hn hk hc hb
  obtain ⟨k, rfl⟩ : ∃ m, k = m + 1 := ⟨k - 1, by omega⟩
  have e : c * 2 ^ (n + 1) = c * 2 * 2 ^ n := by rw [Int.pow_succ, Int.mul_comm ((2 : Int) ^ n) 2, Int.mul_assoc]
  have hp : (1 : Int) ≤ 2 ^ n := by
   have : (0 : Int) < 2 ^ n := Int.pow_pos (by decide)
   omega
  have hc2 : c * 2 ≤ c * 2 * 2 ^ n := by
   have := Int.mul_le_mul_of_nonneg_left hp (by omega : (0 : Int) ≤ c * 2)
   omega
  simp only [spec_l1Two.l0]
  rw [e] at hb ⊢
  rw [if_pos (by omega), w64 (by omega), w64 (by omega)]
  have : ((n + 1 : Nat) : Int) - 1 = (n : Int) := by omega
  rw [this]
  exact ih k (c * 2) (by omega) (by omega) (by omega) hb
theorem spec_two {n : Int} (h0 : 0 ≤ n) (h1 : n ≤ 62) : (∃ K_, ∀ k, K_ ≤ k → spec_l1Two.f k n = some (2 ^ n.toNat)) := by
 refine ⟨n.toNat + 1, fun k hk => ?_⟩
 have e : (n.toNat : Int) = n := by omega
 have hp : (2 : Int) ^ n.toNat ≤ 2 ^ 62 := by
  exact_mod_cast Nat.pow_le_pow_right (n := 2) (by decide) (by omega : n.toNat ≤ 62)
 have := two_loop n.toNat k 1 (by omega) (by omega) (by omega) (by omega)
 rw [e, Int.one_mul] at this
 exact this
theorem spec_size {m : Int} (h0 : 0 ≤ m) (h1 : m ≤ 32) : (∃ K_, ∀ k, K_ ≤ k → spec_l1Size.f k m = some (sz m)) := by
 obtain ⟨K, h⟩ := spec_two (n := 32 - m) (by omega) (by omega)
 refine ⟨K, fun k hk => ?_⟩
 simp only [spec_l1Size.f]
 rw [w64 (by omega), h k hk]
 rfl
theorem impl_size {b m : Int} (h0 : 0 ≤ m) (h1 : m ≤ 32) : impl_Block_size.f b m = some (sz m) := by
 unfold impl_Block_size.f
 rw [w64 (by omega), if_pos (by omega), shl_sz h0 h1]
theorem tmod_beq {b s : Int} (hb : 0 ≤ b) : (Int.tmod b s == 0) = decide (b % s = 0) := by
 rw [Int.tmod_eq_emod_of_nonneg hb]
 rfl
theorem impl_ok (b m : Int) : impl_BlockOk.f b m = some (bokB b m) := by
 unfold impl_BlockOk.f
 rw [impl_addr, Option.bind_some]
 by_cases c : 0 ≤ b ∧ b ≤ 4294967295
 ·rw [if_pos (by simpa using c), impl_in, Option.bind_some]
  by_cases d : 0 ≤ m ∧ m ≤ 32
  ·rw [if_pos (by simpa using d), impl_size d.1 d.2, Option.bind_some, if_neg (by have := sz_pos m; omega), tmod_beq c.1]
   simp [bokB, bok, c, d]
  ·rw [if_neg (by simpa using d)]
   exact congrArg some (bokB_false.2 (fun h => d ⟨h.2.2.1, h.2.2.2.1⟩)).symm
 ·rw [if_neg (by simpa using c)]
  exact congrArg some (bokB_false.2 (fun h => c ⟨h.1, h.2.1⟩)).symm
theorem spec_ok (b m : Int) : (∃ K_, ∀ k, K_ ≤ k → spec_BlockOk.f k b m = some (bokB b m)) := by
 by_cases c : 0 ≤ b ∧ b ≤ 4294967295
 ·by_cases d : 0 ≤ m ∧ m ≤ 32
  ·obtain ⟨K, h⟩ := spec_size d.1 d.2
   refine ⟨K, fun k hk => ?_⟩
   simp only [spec_BlockOk.f]
   rw [spec_addr, Option.bind_some, if_pos (by simpa using c), spec_in, Option.bind_some, if_pos (by simpa using d), h k hk, Option.bind_some, if_neg (by have := sz_pos m; omega), tmod_beq c.1]
   simp [bokB, bok, c, d]
  ·refine ⟨0, fun k _ => ?_⟩
   simp only [spec_BlockOk.f]
   rw [spec_addr, Option.bind_some, if_pos (by simpa using c), spec_in, Option.bind_some, if_neg (by simpa using d)]
   exact congrArg some (bokB_false.2 (fun h => d ⟨h.2.2.1, h.2.2.2.1⟩)).symm
 ·refine ⟨0, fun k _ => ?_⟩
  simp only [spec_BlockOk.f]
  rw [spec_addr, Option.bind_some, if_neg (by simpa using c)]
  exact congrArg some (bokB_false.2 (fun h => c ⟨h.1, h.2.1⟩)).symm
theorem sz_bd {m : Int} (h0 : 0 ≤ m) : 1 ≤ sz m ∧ sz m ≤ 4294967296 := ⟨sz_pos m, sz_top h0⟩
theorem impl_last {b m : Int} (hb0 : 0 ≤ b) (hb1 : b ≤ 4611686018427387904) (h0 : 0 ≤ m) (h1 : m ≤ 32) : impl_Block_last.f b m = some (b + sz m - 1) := by
 have := sz_bd h0
 unfold impl_Block_last.f
 rw [impl_size h0 h1, Option.bind_some, w64 (n := b + sz m) (by omega), w64 (by omega)]
theorem spec_last {b m : Int} (hb0 : -1 ≤ b) (hb1 : b ≤ 4611686018427387904) (h0 : 0 ≤ m) (h1 : m ≤ 32) : (∃ K_, ∀ k, K_ ≤ k → spec_l1Last.f k b m = some (b + sz m - 1)) := by
 have := sz_bd h0
 obtain ⟨K, h⟩ := spec_size h0 h1
 refine ⟨K, fun k hk => ?_⟩
 simp only [spec_l1Last.f]
 rw [h k hk, Option.bind_some, w64 (n := b + sz m) (by omega), w64 (by omega)]
/-- Is an address in a block? -/
def hasB (b m a : Int) : Bool := decide (b ≤ a ∧ a ≤ b + sz m - 1)
theorem impl_has {b m : Int} (a : Int) (hb0 : 0 ≤ b) (hb1 : b ≤ 4611686018427387904) (h0 : 0 ≤ m) (h1 : m ≤ 32) : impl_Block_has.f b m a = some (hasB b m a) := by
 unfold impl_Block_has.f
 rw [impl_last hb0 hb1 h0 h1, Option.bind_some, impl_in, Option.bind_some]
 rfl
abbrev Ru := S71
theorem drop_consR {α : Type} {l : List α} {n : Nat} (h : n < l.length) : l.drop n = l[n] :: l.drop (n + 1) := List.drop_eq_getElem_cons h
theorem rd_rule (l : List Ru) (n : Nat) (h : n < l.length) : rd_T71 l (n : Int) = l[n] := by
 unfold rd_T71
 rw [List.getD_eq_getElem?_getD, Int.toNat_natCast, List.getElem?_eq_getElem h]
 rfl
/-- Is a number in a range? -/
def inR (a l h : Int) : Bool := decide (l ≤ a ∧ a ≤ h)
theorem impl_inR (a l h : Int) : impl_in.f a l h = some (inR a l h) := impl_in a l h
theorem spec_inR (a l h : Int) : spec_l1In.f a l h = some (inR a l h) := spec_in a l h
def tunB (x : Ru) : Bool := if x.f0 = 2 then inR x.f1 0 3 else decide (x.f1 = 0)
/-- Is a rule valid? -/
def ruleB (x : Ru) : Bool := bokB x.f2.f0 x.f2.f1 && (bokB x.f3.f0 x.f3.f1 && (inR x.f4 0 x.f5 && (decide (x.f5 ≤ 65535) && (inR x.f0 0 2 && tunB x))))
theorem right_j0 (k : Nat) (b : Bool) (x : Ru) : impl_Rule_right.j0 (k + 1) b x.f0 x.f1 x.f2.f0 x.f2.f1 x.f3.f0 x.f3.f1 x.f4 x.f5 = some (bokB x.f2.f0 x.f2.f1 && (bokB x.f3.f0 x.f3.f1 && (inR x.f4 0 x.f5 && (decide (x.f5 ≤ 65535) && (inR x.f0 0 2 && b))))) := by
 simp only [impl_Rule_right.j0]
 rw [impl_ok, Option.bind_some, impl_ok, Option.bind_some, impl_inR, Option.bind_some, impl_inR, Option.bind_some]
 by_cases d : x.f5 ≤ 65535
 ·cases bokB x.f2.f0 x.f2.f1 <;> cases bokB x.f3.f0 x.f3.f1 <;> cases inR x.f4 0 x.f5 <;> cases inR x.f0 0 2 <;> simp [d]
 ·cases bokB x.f2.f0 x.f2.f1 <;> cases bokB x.f3.f0 x.f3.f1 <;> cases inR x.f4 0 x.f5 <;> cases inR x.f0 0 2 <;> simp [d]
theorem impl_right (k : Nat) (x : Ru) : impl_Rule_right.f (k + 1) x.f0 x.f1 x.f2.f0 x.f2.f1 x.f3.f0 x.f3.f1 x.f4 x.f5 = some (ruleB x) := by
 simp only [impl_Rule_right.f]
 rw [right_j0, impl_inR, Option.bind_some, right_j0, right_j0]
 unfold ruleB tunB
 by_cases c : x.f1 = 0
 ·rw [if_pos c]
  by_cases d : x.f0 = 2
  ·rw [if_pos d]
   have : inR x.f1 0 3 = true := by rw [c]; rfl
   rw [this]
  ·rw [if_neg d]
   simp [c]
 ·rw [if_neg c]
  by_cases d : x.f0 = 2
  ·rw [if_pos d, if_pos d]
  ·rw [if_neg d, if_neg d]
   simp [c]
theorem spec_right (x : Ru) : (∃ K_, ∀ k, K_ ≤ k → spec_l4Ok.f k x.f0 x.f1 x.f2.f0 x.f2.f1 x.f3.f0 x.f3.f1 x.f4 x.f5 = some (ruleB x)) := by
 obtain ⟨K1, e1⟩ := spec_ok x.f2.f0 x.f2.f1
 obtain ⟨K2, e2⟩ := spec_ok x.f3.f0 x.f3.f1
 refine ⟨K1 + K2 + 1, fun k hk => ?_⟩
 obtain ⟨k, rfl⟩ : ∃ j, k = j + 1 := ⟨k - 1, by omega⟩
 simp only [spec_l4Ok.f]
 rw [e1 _ (by omega), Option.bind_some, e2 _ (by omega), Option.bind_some, spec_inR, Option.bind_some, spec_inR, Option.bind_some]
 simp only [spec_l4Ok.j0]
 rw [spec_inR, Option.bind_some]
 unfold ruleB tunB
 by_cases d : x.f5 ≤ 65535
 ·have d' : ¬ x.f5 > 65535 := by omega
  by_cases c : x.f0 = 2
  ·cases bokB x.f2.f0 x.f2.f1 <;> cases bokB x.f3.f0 x.f3.f1 <;> cases inR x.f4 0 x.f5 <;> cases inR x.f0 0 2 <;> simp [d, d', c]
  ·have e : (x.f1 == 0) = decide (x.f1 = 0) := rfl
   cases bokB x.f2.f0 x.f2.f1 <;> cases bokB x.f3.f0 x.f3.f1 <;> cases inR x.f4 0 x.f5 <;> cases inR x.f0 0 2 <;> simp [d, d', c, e]
 ·have d' : x.f5 > 65535 := by omega
  cases bokB x.f2.f0 x.f2.f1 <;> cases bokB x.f3.f0 x.f3.f1 <;> cases inR x.f4 0 x.f5 <;> simp [d, d']
/-- Are rules valid? -/
def rokB (l : List Ru) : Bool := l.all ruleB && decide (l.length ≤ 8)
theorem any_bad (k : Nat) (l : List Ru) : anyO (impl_RulesOk.bad (k + 1)) l = some (l.any fun x => !ruleB x) := by
 induction l with
 | nil => rfl
 | cons x l ih =>
  simp only [anyO, impl_RulesOk.bad]
  rw [impl_right, Option.bind_some, Option.bind_some, ih]
  cases h : ruleB x <;> simp [h]
theorem all_any (l : List Ru) : (!(l.any fun x => !ruleB x)) = l.all ruleB := by
 induction l with
 | nil => rfl
 | cons x l ih => simp only [List.any_cons, List.all_cons, ← ih]; cases ruleB x <;> simp
theorem impl_rulesOk (l : List Ru) : (∃ K_, ∀ k, K_ ≤ k → impl_RulesOk.f k l = some (rokB l)) := by
 refine ⟨1, fun k hk => ?_⟩
 obtain ⟨k, rfl⟩ : ∃ j, k = j + 1 := ⟨k - 1, by omega⟩
 simp only [impl_RulesOk.f]
 unfold rokB
 by_cases c : (l.length : Int) ≤ 8
 ·have c' : l.length ≤ 8 := by omega
  rw [if_pos c, any_bad, Option.bind_some, all_any]
  simp [c']
 ·have c' : ¬ l.length ≤ 8 := by omega
  rw [if_neg c]
  simp [c']
theorem spec_rulesOk_loop (l : List Ru) (hl : l.length ≤ 1073741824) (d : Nat) : ∀ n : Nat, n + d = l.length → (∃ K_, ∀ k, K_ ≤ k → spec_RulesOk.l0 k l (n : Int) = some ((l.drop n).all ruleB && decide (l.length ≤ 8))) := by
 induction d with
 | zero =>
  intro n hn
  refine ⟨1, fun k hk => ?_⟩
  obtain ⟨k, rfl⟩ : ∃ j, k = j + 1 := ⟨k - 1, by omega⟩
  simp only [spec_RulesOk.l0]
  rw [if_neg (by omega), List.drop_eq_nil_of_le (by omega)]
  have : decide ((l.length : Int) ≤ 8) = decide (l.length ≤ 8) := by rw [decide_eq_decide]; omega
  rw [this]
  rfl
 | succ d ih =>
  intro n hn
  have hlt : n < l.length := by omega
  have hw : wrap64 ((n : Int) + 1) = ((n + 1 : Nat) : Int) := by rw [w64 (by omega)]; omega
  obtain ⟨K1, e1⟩ := ih (n + 1) (by omega)
  obtain ⟨K2, e2⟩ := spec_right l[n]
  refine ⟨K1 + K2 + 1, fun k hk => ?_⟩
  obtain ⟨k, rfl⟩ : ∃ j, k = j + 1 := ⟨k - 1, by omega⟩
  have e1 := e1 k (by omega)
  simp only [spec_RulesOk.l0]
  rw [drop_consR hlt, if_pos (by omega), if_pos (by omega), rd_rule l n hlt, e2 k (by omega), Option.bind_some, hw, e1, List.all_cons]
  cases ruleB l[n] <;> simp
theorem spec_rulesOk (l : List Ru) (hl : l.length ≤ 1073741824) : (∃ K_, ∀ k, K_ ≤ k → spec_RulesOk.f k l = some (rokB l)) := spec_rulesOk_loop l hl l.length 0 (by omega)
theorem rokB_valid {l : List Ru} (h : rokB l = true) : ∀ x ∈ l, ruleB x = true := by
 simp only [rokB, Bool.and_eq_true, List.all_eq_true] at h
 exact h.1
theorem rokB_len {l : List Ru} (h : rokB l = true) : l.length ≤ 8 := by
 simp only [rokB, Bool.and_eq_true, decide_eq_true_eq] at h
 exact h.2
theorem ruleB_blocks {x : Ru} (h : ruleB x = true) : bok x.f2.f0 x.f2.f1 ∧ bok x.f3.f0 x.f3.f1 ∧ 0 ≤ x.f4 ∧ x.f4 ≤ x.f5 ∧ x.f5 ≤ 65535 := by
 simp only [ruleB, inR, Bool.and_eq_true, bokB_true, decide_eq_true_eq] at h
 exact ⟨h.1, h.2.1, h.2.2.1.1, h.2.2.1.2, h.2.2.2.1⟩
/-- Is a rule about a call? -/
def aboutB (a b c : Int) (x : Ru) : Bool := hasB x.f2.f0 x.f2.f1 a && (hasB x.f3.f0 x.f3.f1 b && inR c x.f4 x.f5)
theorem impl_matches {x : Ru} (h : ruleB x = true) (a b c : Int) : impl_Rule_matches.f x.f0 x.f1 x.f2.f0 x.f2.f1 x.f3.f0 x.f3.f1 x.f4 x.f5 a b c = some (aboutB a b c x) := by
 obtain ⟨h1, h2, _⟩ := ruleB_blocks h
 unfold impl_Rule_matches.f aboutB
 rw [impl_has a h1.1 (by have := h1.2.1; omega) h1.2.2.1 h1.2.2.2.1, Option.bind_some, impl_has b h2.1 (by have := h2.2.1; omega) h2.2.2.1 h2.2.2.2.1, Option.bind_some, impl_inR, Option.bind_some]
 cases hasB x.f2.f0 x.f2.f1 a <;> cases hasB x.f3.f0 x.f3.f1 b <;> simp
theorem spec_about {x : Ru} (h : ruleB x = true) (a b c : Int) : (∃ K_, ∀ k, K_ ≤ k → spec_l4About.f k x.f0 x.f1 x.f2.f0 x.f2.f1 x.f3.f0 x.f3.f1 x.f4 x.f5 a b c = some (aboutB a b c x)) := by
 obtain ⟨h1, h2, _⟩ := ruleB_blocks h
 obtain ⟨K1, e1⟩ := spec_last (b := x.f2.f0) (m := x.f2.f1) (by have := h1.1; omega) (by have := h1.2.1; omega) h1.2.2.1 h1.2.2.2.1
 obtain ⟨K2, e2⟩ := spec_last (b := x.f3.f0) (m := x.f3.f1) (by have := h2.1; omega) (by have := h2.2.1; omega) h2.2.2.1 h2.2.2.2.1
 refine ⟨K1 + K2, fun k hk => ?_⟩
 simp only [spec_l4About.f]
 rw [e1 k (by omega), Option.bind_some, e2 k (by omega), Option.bind_some, spec_inR, Option.bind_some, spec_inR, Option.bind_some, spec_inR, Option.bind_some]
 have g1 : inR a x.f2.f0 (x.f2.f0 + sz x.f2.f1 - 1) = hasB x.f2.f0 x.f2.f1 a := rfl
 have g2 : inR b x.f3.f0 (x.f3.f0 + sz x.f3.f1 - 1) = hasB x.f3.f0 x.f3.f1 b := rfl
 rw [g1, g2]
 unfold aboutB
 cases hasB x.f2.f0 x.f2.f1 a <;> cases hasB x.f3.f0 x.f3.f1 b <;> simp
/-- The place of the first element of which q holds, from i on; -1. -/
def firstGo {α : Type} (q : α → Bool) : List α → Int → Int
 | [], _ => -1
 | x :: l, i => if q x = true then i else firstGo q l (i + 1)
def firstF (l : List Ru) (a b c : Int) : Int := firstGo (aboutB a b c) l 0
theorem findO_first {α : Type} {p : α → Option Bool} {q : α → Bool} : ∀ (l : List α) (i : Int), (∀ x ∈ l, p x = some (q x)) → findO p l i = some (firstGo q l i)
 | [], _, _ => rfl
 | x :: l, i, h => by
  simp only [findO, firstGo]
  rw [h x (List.mem_cons_self ..), Option.bind_some, findO_first l (i + 1) (fun y hy => h y (List.mem_cons_of_mem _ hy))]
  cases q x <;> simp
theorem impl_first {l : List Ru} (h : ∀ x ∈ l, ruleB x = true) (a b c : Int) : impl_first.f l a b c = some (firstF l a b c) :=
 findO_first l 0 (fun x hx => impl_matches (h x hx) a b c)
theorem spec_first_loop (l : List Ru) (h : ∀ x ∈ l, ruleB x = true) (a b c : Int) (hl : l.length ≤ 1073741824) (d : Nat) : ∀ n : Nat, n + d = l.length → (∃ K_, ∀ k, K_ ≤ k → spec_l4First.l0 k l (n : Int) a b c = some (firstGo (aboutB a b c) (l.drop n) (n : Int))) := by
 induction d with
 | zero =>
  intro n hn
  refine ⟨1, fun k hk => ?_⟩
  obtain ⟨k, rfl⟩ : ∃ j, k = j + 1 := ⟨k - 1, by omega⟩
  simp only [spec_l4First.l0]
  rw [if_neg (by omega), List.drop_eq_nil_of_le (by omega)]
  rfl
 | succ d ih =>
  intro n hn
  have hlt : n < l.length := by omega
  have hw : wrap64 ((n : Int) + 1) = ((n + 1 : Nat) : Int) := by rw [w64 (by omega)]; omega
  obtain ⟨K1, e1⟩ := ih (n + 1) (by omega)
  obtain ⟨K2, e2⟩ := spec_about (h l[n] (List.getElem_mem hlt)) a b c
  refine ⟨K1 + K2 + 1, fun k hk => ?_⟩
  obtain ⟨k, rfl⟩ : ∃ j, k = j + 1 := ⟨k - 1, by omega⟩
  have e1 := e1 k (by omega)
  simp only [spec_l4First.l0]
  rw [drop_consR hlt, if_pos (by omega), if_pos (by omega), rd_rule l n hlt, e2 k (by omega), Option.bind_some, hw, e1]
  simp only [firstGo]
  have : ((n + 1 : Nat) : Int) = (n : Int) + 1 := by omega
  rw [this]
  cases aboutB a b c l[n] <;> simp
theorem spec_first {l : List Ru} (h : ∀ x ∈ l, ruleB x = true) (a b c : Int) (hl : l.length ≤ 1073741824) : (∃ K_, ∀ k, K_ ≤ k → spec_l4First.f k l a b c = some (firstF l a b c)) := spec_first_loop l h a b c hl l.length 0 (by omega)
/-- Strictly rising. -/
def Rise (l : List Int) : Prop := l.Pairwise (fun a b => a < b)
theorem rise_ext : ∀ {l m : List Int}, Rise l → Rise m → (∀ x, x ∈ l ↔ x ∈ m) → l = m
 | [], [], _, _, _ => rfl
 | [], y :: m, _, _, h => by have := (h y).2 (List.mem_cons_self ..); cases this
 | x :: l, [], _, _, h => by have := (h x).1 (List.mem_cons_self ..); cases this
 | x :: l, y :: m, hl, hm, h => by
  obtain ⟨h1, h2⟩ := List.pairwise_cons.1 hl
  obtain ⟨h3, h4⟩ := List.pairwise_cons.1 hm
  have e : x = y := by
   have a := (h x).1 (List.mem_cons_self ..)
   have b := (h y).2 (List.mem_cons_self ..)
   rcases List.mem_cons.1 a with a | a
   ·exact a
   ·rcases List.mem_cons.1 b with b | b
    ·exact b.symm
    ·have := h1 y b; have := h3 x a; omega
  subst e
  rw [rise_ext h2 h4 (fun z => ?_)]
  constructor
  ·intro hz
   rcases List.mem_cons.1 ((h z).1 (List.mem_cons_of_mem _ hz)) with e | e
   ·have := h1 z hz; omega
   ·exact e
  ·intro hz
   rcases List.mem_cons.1 ((h z).2 (List.mem_cons_of_mem _ hz)) with e | e
   ·have := h3 z hz; omega
   ·exact e
/-- A number put among others. -/
def numF : List Int → Int → List Int
 | [], n => [n]
 | x :: l, n => if x < n then x :: numF l n else if x = n then x :: l else n :: x :: l
theorem mem_numF {n y : Int} : ∀ {l : List Int}, y ∈ numF l n ↔ y = n ∨ y ∈ l
 | [] => by simp [numF]
 | x :: l => by
  unfold numF
  split
  ·simp only [List.mem_cons, mem_numF (l := l)]
   constructor
   ·rintro (h | h | h) <;> simp [h]
   ·rintro (h | h | h) <;> simp [h]
  ·split
   ·rename_i e
    subst e
    simp
   ·simp
theorem rise_numF {n : Int} : ∀ {l : List Int}, Rise l → Rise (numF l n)
 | [], _ => List.pairwise_cons.2 ⟨by simp, List.Pairwise.nil⟩
 | x :: l, h => by
  obtain ⟨h1, h2⟩ := List.pairwise_cons.1 h
  unfold numF
  split
  ·refine List.pairwise_cons.2 ⟨fun z hz => ?_, rise_numF h2⟩
   rcases mem_numF.1 hz with e | e
   ·rw [e]; assumption
   ·exact h1 z e
  ·split
   ·exact h
   ·refine List.pairwise_cons.2 ⟨fun z hz => ?_, h⟩
    rcases List.mem_cons.1 hz with e | e
    ·omega
    ·have := h1 z e; omega
/-- Numbers, each put among those ahead of it. -/
def numsF (l ns : List Int) : List Int := ns.foldl numF l
theorem rise_numsF : ∀ {ns l : List Int}, Rise l → Rise (numsF l ns)
 | [], _, h => h
 | _ :: ns, _, h => rise_numsF (ns := ns) (rise_numF h)
theorem mem_numsF {y : Int} : ∀ {ns l : List Int}, y ∈ numsF l ns ↔ y ∈ l ∨ y ∈ ns
 | [], l => by simp [numsF]
 | n :: ns, l => by
  show y ∈ numsF (numF l n) ns ↔ _
  rw [mem_numsF, mem_numF]
  simp only [List.mem_cons]
  constructor
  ·rintro ((h | h) | h) <;> simp [h]
  ·rintro (h | h | h) <;> simp [h]
theorem rise_one (n : Int) : Rise [n] := List.pairwise_cons.2 ⟨by simp, List.Pairwise.nil⟩
/-- Sorted, each once. -/
def dedF : List Int → List Int
 | [] => []
 | [x] => [x]
 | x :: y :: l => if x = y then dedF (y :: l) else x :: dedF (y :: l)
theorem mem_ded {z : Int} : ∀ {l : List Int}, z ∈ dedF l ↔ z ∈ l
 | [] => by simp [dedF]
 | [x] => by simp [dedF]
 | x :: y :: l => by
  unfold dedF
  split
  ·rename_i e
   subst e
   rw [mem_ded]
   simp
  ·simp only [List.mem_cons, mem_ded (l := y :: l)]
theorem rise_ded : ∀ {l : List Int}, l.Pairwise (fun a b => a ≤ b) → Rise (dedF l)
 | [], _ => List.Pairwise.nil
 | [x], _ => rise_one x
 | x :: y :: l, h => by
  obtain ⟨h1, h2⟩ := List.pairwise_cons.1 h
  have ih := rise_ded h2
  unfold dedF
  split
  ·exact ih
  ·rename_i e
   refine List.pairwise_cons.2 ⟨fun z hz => ?_, ih⟩
   have hz' := mem_ded.1 hz
   have a := h1 y (List.mem_cons_self ..)
   rcases List.mem_cons.1 hz' with e2 | e2
   ·omega
   ·have := (List.pairwise_cons.1 h2).1 z e2
    omega
/-- Sorting, and each once, is putting one by one. -/
def sortF (l : List Int) : List Int := l.mergeSort fun x y => decide (x ≤ y)
theorem sortF_le (l : List Int) : (sortF l).Pairwise (fun a b => a ≤ b) := by
 have := List.pairwise_mergeSort (le := fun x y : Int => decide (x ≤ y)) (fun a b c h1 h2 => by simp only [decide_eq_true_eq] at *; omega) (fun a b => by simp only [Bool.or_eq_true, decide_eq_true_eq]; omega) l
 exact this.imp (fun h => by simpa using h)
theorem mem_sortF {l : List Int} {x : Int} : x ∈ sortF l ↔ x ∈ l := by unfold sortF; exact List.mem_mergeSort
theorem ded_sort {l m : List Int} (hm : Rise m) (h : ∀ x, x ∈ m ↔ x ∈ l) : dedF (sortF l) = m :=
 rise_ext (rise_ded (sortF_le l)) hm (fun x => by rw [mem_ded, mem_sortF, h])
def tailC (x : Int) (t : List Int) : List Int := ((List.range t.length).filter (fun j => decide ((x :: t)[j + 1]! ≠ (x :: t)[j]!))).map (fun j => (x :: t)[j + 1]!)
theorem tailC_cons (x y : Int) (l : List Int) : tailC x (y :: l) = (if y ≠ x then [y] else []) ++ tailC y l := by
 unfold tailC
 rw [List.length_cons, List.range_succ_eq_map, List.filter_cons, List.filter_map]
 by_cases e : y = x <;> simp [e, Function.comp_def]
theorem ded_tail : ∀ (x : Int) (t : List Int), dedF (x :: t) = x :: tailC x t
 | x, [] => rfl
 | x, y :: l => by
  unfold dedF
  rw [tailC_cons, ded_tail y l]
  by_cases e : x = y
  ·subst e; simp
  ·rw [if_neg e, if_pos (Ne.symm e)]; rfl
theorem compact_ded : ∀ l : List Int, Lib.compact l = dedF l
 | [] => rfl
 | x :: t => by
  rw [ded_tail]
  unfold Lib.compact Lib.compactUpTo tailC
  rw [List.length_cons, List.range_succ_eq_map, List.filter_cons]
  have h0 : Lib.keeps (x :: t).toArray 0 = true := by simp [Lib.keeps]
  have hs : ∀ j, Lib.keeps (x :: t).toArray (j + 1) = decide ((x :: t)[j + 1]! ≠ (x :: t)[j]!) := fun j => by simp [Lib.keeps]
  rw [h0, if_pos rfl, List.filter_map, List.map_cons, List.map_map]
  simp only [Function.comp_def, Nat.succ_eq_add_one, hs]
  simp
theorem numF_len (l : List Int) (n : Int) : (numF l n).length ≤ l.length + 1 := by
 induction l with
 | nil => simp [numF]
 | cons x l ih =>
  unfold numF
  split
  ·simp only [List.length_cons]; omega
  ·split
   ·simp only [List.length_cons]; omega
   ·simp only [List.length_cons]; omega
theorem rd_num (l : List Int) (n : Nat) (h : n < l.length) : rd l (n : Int) = l[n] := by
 unfold rd
 rw [List.getD_eq_getElem?_getD, Int.toNat_natCast, List.getElem?_eq_getElem h]
 rfl
theorem spec_num_loop (l : List Int) (v : Int) (hl : l.length ≤ 1000000000) (d : Nat) : ∀ n : Nat, n + d = l.length → (∃ K_, ∀ k, K_ ≤ k → spec_l3Num.l0 k l v (n : Int) = some (l.take n ++ numF (l.drop n) v)) := by
 induction d with
 | zero =>
  intro n hn
  refine ev1 ?_
  simp only [spec_l3Num.l0]
  have e : l.take n = l := List.take_of_length_le (by omega)
  have e2 : l.drop n = [] := List.drop_eq_nil_of_le (by omega)
  refine evN (by omega) (evS rfl (evP (by omega) (evP (by omega) ?_)))
  rw [Int.toNat_natCast, e, e2]
  refine evS rfl (evP (by simp; omega) (evS rfl (evS rfl (evP (by simp; omega) (evS rfl (evS rfl (evP (by simp; omega) (evR ?_))))))))
  simp [numF]
 | succ d ih =>
  intro n hn
  have hlt : n < l.length := by omega
  have hw : wrap64 ((n : Int) + 1) = ((n + 1 : Nat) : Int) := by rw [w64 (by omega)]; omega
  refine ev1 ?_
  simp only [spec_l3Num.l0]
  refine evP (by omega) (evP (by omega) ?_)
  rw [rd_num l n hlt, hw, List.drop_eq_getElem_cons hlt]
  refine evI (fun c => ?_) (fun c => ?_)
  ·have h := ih (n + 1) (by omega)
   rw [List.take_succ_eq_append_getElem hlt] at h
   simp only [numF, if_pos c]
   rw [List.append_assoc] at h
   exact h
  ·refine evI (fun c2 => ?_) (fun c2 => ?_)
   ·refine evR ?_
    simp only [numF, if_neg c, if_pos c2]
    rw [← List.drop_eq_getElem_cons hlt, List.take_append_drop]
   ·refine evS rfl (evP (by omega) ?_)
    rw [Int.toNat_natCast]
    refine evS rfl (evP (by simp; omega) (evS rfl (evS rfl (evP (by simp; omega) (evS rfl (evS rfl (evP (by simp; omega) (evR ?_))))))))
    simp only [numF, if_neg c, if_neg c2]
    rw [← List.drop_eq_getElem_cons hlt]
    simp
theorem spec_num (l : List Int) (v : Int) (hl : l.length ≤ 1000000000) : (∃ K_, ∀ k, K_ ≤ k → spec_l3Num.f k l v = some (numF l v)) := spec_num_loop l v hl l.length 0 (by omega)
/-- Where something may change about a block: where it begins, and behind its end. -/
def edgeB (b m : Int) : List Int := if b + sz m ≤ 4294967295 then [b, b + sz m] else [b]
theorem edgeB_len (b m : Int) : (edgeB b m).length ≤ 2 := by unfold edgeB; split <;> simp
def edgesF (bs : List S43) : List Int := numsF [0] (bs.flatMap fun b => edgeB b.f0 b.f1)
theorem rise_edgesF (bs : List S43) : Rise (edgesF bs) := rise_numsF (rise_one 0)
theorem rd_bk (l : List S43) (n : Nat) (h : n < l.length) : rd_T43 l (n : Int) = l[n] := by
 unfold rd_T43
 rw [List.getD_eq_getElem?_getD, Int.toNat_natCast, List.getElem?_eq_getElem h]
 rfl
theorem sort_ded (l : List Int) (h0 : 0 < l.length) (h1 : l.length ≤ 1000000000) : ((slices_Sort_int.f l).bind fun t => (slices_Compact_int.f t).bind fun t => some t) = some (dedF (sortF l)) := by
 have hl : (sortF l).length = l.length := by unfold sortF; exact List.length_mergeSort _
 unfold slices_Sort_int.f
 rw [if_pos (by omega), if_pos (by omega), Option.bind_some]
 show ((slices_Compact_int.f (sortF l)).bind fun t => some t) = _
 unfold slices_Compact_int.f
 rw [if_pos (by omega), Option.bind_some, compact_ded]
theorem impl_bounds_loop (l : List S43) (hv : ∀ b ∈ l, bok b.f0 b.f1) (hl : l.length ≤ 100000000) (d : Nat) : ∀ (n : Nat) (acc : List Int), n + d = l.length → 0 < acc.length → acc.length + 2 * d ≤ 300000000 → (∃ K_, ∀ k, K_ ≤ k → impl_bounds.l0 k acc l (l.length : Int) (n : Int) = some (dedF (sortF (acc ++ (l.drop n).flatMap fun b => edgeB b.f0 b.f1)))) := by
 induction d with
 | zero =>
  intro n acc hn h0 ha
  refine ev1 ?_
  simp only [impl_bounds.l0]
  rw [List.drop_eq_nil_of_le (by omega), List.flatMap_nil, List.append_nil]
  exact evN (by omega) ⟨0, fun k _ => sort_ded acc h0 (by omega)⟩
 | succ d ih =>
  intro n acc hn h0 ha
  have hlt : n < l.length := by omega
  have hw : wrap64 ((n : Int) + 1) = ((n + 1 : Nat) : Int) := by rw [w64 (by omega)]; omega
  have hb := hv l[n] (List.getElem_mem hlt)
  have hs := sz_bd hb.2.2.1
  have hla := impl_last hb.1 (by have := hb.2.1; omega) hb.2.2.1 hb.2.2.2.1
  have hb2 := hb.2.1
  have hb1 := hb.1
  refine ev1 ?_
  simp only [impl_bounds.l0]
  rw [rd_bk l n hlt, hw, List.drop_eq_getElem_cons hlt, List.flatMap_cons]
  refine evP (by omega) (evP (by omega) (evP (by omega) (evP (by omega) (evS rfl (evS hla (evI (fun c => ?_) (fun c => ?_)))))))
  ·have e : wrap64 (l[n].f0 + sz l[n].f1 - 1 + 1) = l[n].f0 + sz l[n].f1 := by rw [w64 (by omega)]; omega
   have h := ih (n + 1) (acc ++ [l[n].f0] ++ [l[n].f0 + sz l[n].f1]) (by omega) (by simp) (by simp; omega)
   refine evS hla (evP (by simp; omega) ?_)
   rw [e]
   unfold edgeB
   rw [if_pos (by omega)]
   rw [List.append_assoc, List.append_assoc] at h
   rw [List.append_assoc]
   exact h
  ·have h := ih (n + 1) (acc ++ [l[n].f0]) (by omega) (by simp) (by simp; omega)
   unfold edgeB
   rw [if_neg (by omega)]
   rw [List.append_assoc] at h
   exact h
theorem impl_bounds (l : List S43) (hv : ∀ b ∈ l, bok b.f0 b.f1) (hl : l.length ≤ 100000000) : (∃ K_, ∀ k, K_ ≤ k → impl_bounds.f k l = some (edgesF l)) := by
 have h := impl_bounds_loop l hv hl l.length 0 [0] (by omega) (by simp) (by simp; omega)
 have e : dedF (sortF ([0] ++ (l.drop 0).flatMap fun b => edgeB b.f0 b.f1)) = edgesF l := ded_sort (rise_edgesF l) (fun x => by rw [edgesF, mem_numsF, List.drop_zero, List.mem_append])
 rw [e] at h
 exact h
def portE (x : Ru) : List Int := if x.f5 < 65535 then [x.f4, x.f5 + 1] else [x.f4]
def ruleE (d : Nat) (x : Ru) : List Int := if d = 0 then edgeB x.f2.f0 x.f2.f1 else if d = 1 then edgeB x.f3.f0 x.f3.f1 else portE x
def gridE (d : Nat) (l : List Ru) : List Int := numsF [0] (l.flatMap (ruleE d))
theorem numsF_app' (l a b : List Int) : numsF (numsF l a) b = numsF l (a ++ b) := by unfold numsF; rw [List.foldl_append]
theorem numsF_len' (ns : List Int) : ∀ l : List Int, (numsF l ns).length ≤ l.length + ns.length := by
 induction ns with
 | nil => intro l; exact Nat.le_refl _
 | cons n ns ih =>
  intro l
  have h := ih (numF l n)
  have h2 := numF_len l n
  show (numsF (numF l n) ns).length ≤ _
  simp only [List.length_cons]
  omega
theorem ruleE_len (d : Nat) (x : Ru) : (ruleE d x).length ≤ 2 := by
 unfold ruleE portE
 split
 ·exact edgeB_len _ _
 ·split
  ·exact edgeB_len _ _
  ·split <;> simp
theorem rulesE_len (d : Nat) : ∀ l : List Ru, (l.flatMap (ruleE d)).length ≤ 2 * l.length
 | [] => Nat.le_refl _
 | w :: l => by
  rw [List.flatMap_cons, List.length_append, List.length_cons]
  have := rulesE_len d l
  have h2 := ruleE_len d w
  omega
theorem gridE_len (d : Nat) (l : List Ru) : (gridE d l).length ≤ 2 * l.length + 1 := by
 have h1 := numsF_len' (l.flatMap (ruleE d)) [0]
 have h2 := rulesE_len d l
 unfold gridE
 simp only [List.length_singleton] at h1
 omega
theorem rise_gridE (d : Nat) (l : List Ru) : Rise (gridE d l) := rise_numsF (rise_one 0)
theorem grid0 (l : List Ru) : edgesF (l.map fun x => x.f2) = gridE 0 l := by
 unfold edgesF gridE
 rw [List.flatMap_map]
 rfl
theorem grid1 (l : List Ru) : edgesF (l.map fun x => x.f3) = gridE 1 l := by
 unfold edgesF gridE
 rw [List.flatMap_map]
 rfl
theorem ports_ded (l : List Ru) : dedF (sortF (0 :: l.flatMap portE)) = gridE 2 l := ded_sort (rise_gridE 2 l) (fun x => by
 unfold gridE
 rw [mem_numsF, List.mem_singleton, List.mem_cons]
 rfl)
theorem impl_axes_loop (l : List Ru) (hv : ∀ x ∈ l, ruleB x = true) (hl : l.length ≤ 1000000) (d : Nat) : ∀ (n : Nat) (fr tt : List S43) (po : List Int), n + d = l.length → fr = (l.take n).map (fun x => x.f2) → tt = (l.take n).map (fun x => x.f3) → po = 0 :: (l.take n).flatMap portE → (∃ K_, ∀ k, K_ ≤ k → impl_axesOf.l0 k fr tt po l (l.length : Int) (n : Int) = some (gridE 0 l, gridE 1 l, gridE 2 l)) := by
 induction d with
 | zero =>
  intro n fr tt po hn e1 e2 e3
  have ht : l.take n = l := List.take_of_length_le (by omega)
  rw [ht] at e1 e2 e3
  subst e1 e2 e3
  have hp : (0 :: l.flatMap portE).length ≤ 3000000 := by have := rulesE_len 2 l; simp only [List.length_cons]; have e : l.flatMap (ruleE 2) = l.flatMap portE := rfl; rw [e] at this; omega
  have hs : (sortF (0 :: l.flatMap portE)).length = (0 :: l.flatMap portE).length := by unfold sortF; exact List.length_mergeSort _
  have b1 := impl_bounds (l.map fun x => x.f2) (fun b hb => by obtain ⟨x, hx, rfl⟩ := List.mem_map.1 hb; exact (ruleB_blocks (hv x hx)).1) (by simp; omega)
  have b2 := impl_bounds (l.map fun x => x.f3) (fun b hb => by obtain ⟨x, hx, rfl⟩ := List.mem_map.1 hb; exact (ruleB_blocks (hv x hx)).2.1) (by simp; omega)
  refine ev1 ?_
  simp only [impl_axesOf.l0]
  have s1 : slices_Sort_int.f (0 :: l.flatMap portE) = some (sortF (0 :: l.flatMap portE)) := by
   unfold slices_Sort_int.f
   rw [if_pos (by simp only [List.length_cons]; omega), if_pos (by omega)]; rfl
  have s2 : slices_Compact_int.f (sortF (0 :: l.flatMap portE)) = some (gridE 2 l) := by
   unfold slices_Compact_int.f
   rw [if_pos (by rw [hs]; simp only [List.length_cons]; omega), compact_ded, ports_ded]
  refine evN (by omega) (evS s1 (evB b1 (evB b2 (evS s2 (evR ?_)))))
  rw [grid0, grid1]
 | succ d ih =>
  intro n fr tt po hn e1 e2 e3
  have hlt : n < l.length := by omega
  have hw : wrap64 ((n : Int) + 1) = ((n + 1 : Nat) : Int) := by rw [w64 (by omega)]; omega
  have hx := ruleB_blocks (hv _ (List.getElem_mem hlt))
  have l1 : fr.length ≤ 1000000 := by rw [e1]; simp; omega
  have l2 : tt.length ≤ 1000000 := by rw [e2]; simp; omega
  have l3 : po.length ≤ 3000000 := by
   have := rulesE_len 2 (l.take n)
   have e : (l.take n).flatMap (ruleE 2) = (l.take n).flatMap portE := rfl
   rw [e, List.length_take] at this
   rw [e3, List.length_cons]
   omega
  have t1 : fr ++ [l[n].f2] = (l.take (n + 1)).map (fun x => x.f2) := by rw [e1, List.take_succ_eq_append_getElem hlt, List.map_append]; rfl
  have t2 : tt ++ [l[n].f3] = (l.take (n + 1)).map (fun x => x.f3) := by rw [e2, List.take_succ_eq_append_getElem hlt, List.map_append]; rfl
  have t3 : po ++ portE l[n] = 0 :: (l.take (n + 1)).flatMap portE := by rw [e3, List.take_succ_eq_append_getElem hlt, List.flatMap_append]; simp
  refine ev1 ?_
  simp only [impl_axesOf.l0]
  rw [rd_rule l n hlt, hw]
  refine evP (by omega) (evP (by omega) (evP (by omega) (evS rfl (evP (by simp; omega) (evS rfl (evS rfl (evP (by simp; omega) (evS rfl (evS rfl (evP (by simp; omega) (evS rfl (evI (fun c => ?_) (fun c => ?_)))))))))))))
  ·have e5 : portE l[n] = [l[n].f4, wrap64 (l[n].f5 + 1)] := by unfold portE; rw [if_pos c, w64 (by omega)]
   refine evS rfl (evP (by simp; omega) (ih (n + 1) _ _ _ (by omega) t1 t2 ?_))
   rw [← t3, e5, List.append_assoc]
   rfl
  ·have e5 : portE l[n] = [l[n].f4] := by unfold portE; rw [if_neg c]
   refine ih (n + 1) _ _ _ (by omega) t1 t2 ?_
   rw [← t3, e5]
theorem impl_axes (l : List Ru) (hv : ∀ x ∈ l, ruleB x = true) (hl : l.length ≤ 1000000) : (∃ K_, ∀ k, K_ ≤ k → impl_axesOf.f k l = some (gridE 0 l, gridE 1 l, gridE 2 l)) := impl_axes_loop l hv hl l.length 0 [] [] [0] (by omega) rfl rfl rfl
theorem spec_edges_put (l : List Ru) (d : Nat) (out : List Int) (i a b most : Int) (es : List Int) (R : List Int) (he : es = if b < most then [a, b + 1] else [a]) (hb : -1 ≤ b ∧ b ≤ 4611686018427387904) (ho : out.length ≤ 100000000) (h : (∃ K_, ∀ k, K_ ≤ k → spec_l4Edges.l0 k l (d : Int) (numsF out es) (wrap64 (i + 1)) = some R)) :
  (∃ K_, ∀ k, K_ ≤ k → spec_l4Edges.j2 k l (d : Int) out i a b most = some R) := by
 have hl := numF_len out a
 refine ev1 ?_
 simp only [spec_l4Edges.j2]
 refine evB (spec_num _ _ (by omega)) (evI (fun c => ?_) (fun c => ?_))
 ·rw [w64 (n := b + 1) (by omega)]
  rw [if_pos c] at he
  subst he
  exact evB (spec_num _ _ (by omega)) h
 ·rw [if_neg c] at he
  subst he
  exact h
theorem spec_edges4_loop (l : List Ru) (d : Nat) (hd : d < 3) (hv : ∀ x ∈ l, ruleB x = true) (hl : l.length ≤ 1000000) (e : Nat) : ∀ (n : Nat) (out : List Int), n + e = l.length → out.length + 2 * e ≤ 10000000 → (∃ K_, ∀ k, K_ ≤ k → spec_l4Edges.l0 k l (d : Int) out (n : Int) = some (numsF out ((l.drop n).flatMap (ruleE d)))) := by
 induction e with
 | zero =>
  intro n out hn ho
  refine ev1 ?_
  simp only [spec_l4Edges.l0]
  rw [List.drop_eq_nil_of_le (by omega)]
  exact evN (by omega) (evR rfl)
 | succ e ih =>
  intro n out hn ho
  have hlt : n < l.length := by omega
  have hw : wrap64 ((n : Int) + 1) = ((n + 1 : Nat) : Int) := by rw [w64 (by omega)]; omega
  obtain ⟨h1, h2, h3, h4, h5⟩ := ruleB_blocks (hv _ (List.getElem_mem hlt))
  have s1 := sz_bd h1.2.2.1
  have s2 := sz_bd h2.2.2.1
  have L1 := spec_last (b := l[n].f2.f0) (m := l[n].f2.f1) (by have := h1.1; omega) (by have := h1.2.1; omega) h1.2.2.1 h1.2.2.2.1
  have L2 := spec_last (b := l[n].f3.f0) (m := l[n].f3.f1) (by have := h2.1; omega) (by have := h2.2.1; omega) h2.2.2.1 h2.2.2.2.1
  have b1 := h1.2.1
  have b2 := h2.2.1
  have a1 := h1.1
  have a2 := h2.1
  have hlen := numsF_len' (ruleE d l[n]) out
  have hle := ruleE_len d l[n]
  have hh := ih (n + 1) (numsF out (ruleE d l[n])) (by omega) (by omega)
  rw [numsF_app'] at hh
  rw [List.drop_eq_getElem_cons hlt, List.flatMap_cons]
  have H : (∃ K_, ∀ k, K_ ≤ k → spec_l4Edges.l0 k l (d : Int) (numsF out (ruleE d l[n])) (wrap64 ((n : Int) + 1)) = some (numsF out (ruleE d l[n] ++ (l.drop (n + 1)).flatMap (ruleE d)))) := by rw [hw]; exact hh
  refine ev1 ?_
  simp only [spec_l4Edges.l0]
  rw [rd_rule l n hlt]
  refine evP (by omega) (evP (by omega) ?_)
  rcases (show d = 0 ∨ d = 1 ∨ d = 2 by omega) with rfl | rfl | rfl
  ·refine evP rfl (evB L1 (ev1 ?_))
   simp only [spec_l4Edges.j1]
   refine evN (by omega) (spec_edges_put l 0 out n _ _ _ (ruleE 0 l[n]) _ ?_ (by omega) (by omega) H)
   unfold ruleE edgeB
   rw [if_pos rfl]
   by_cases c : l[n].f2.f0 + sz l[n].f2.f1 ≤ 4294967295
   ·rw [if_pos c, if_pos (by omega)]; congr 2; omega
   ·rw [if_neg c, if_neg (by omega)]
  ·refine evN (by omega) (ev1 ?_)
   simp only [spec_l4Edges.j1]
   rw [rd_rule l n hlt]
   refine evP rfl (evP (by omega) (evP (by omega) (evB L2 (spec_edges_put l 1 out n _ _ _ (ruleE 1 l[n]) _ ?_ (by omega) (by omega) H))))
   unfold ruleE edgeB
   rw [if_neg (by omega), if_pos rfl]
   by_cases c : l[n].f3.f0 + sz l[n].f3.f1 ≤ 4294967295
   ·rw [if_pos c, if_pos (by omega)]; congr 2; omega
   ·rw [if_neg c, if_neg (by omega)]
  ·refine evN (by omega) (ev1 ?_)
   simp only [spec_l4Edges.j1]
   refine evN (by omega) (spec_edges_put l 2 out n _ _ _ (ruleE 2 l[n]) _ ?_ (by omega) (by omega) H)
   unfold ruleE portE
   rw [if_neg (by omega), if_neg (by omega)]
theorem spec_of (a b : List Ru) (ha : ∀ x ∈ a, ruleB x = true) (hb : ∀ x ∈ b, ruleB x = true) (hla : a.length ≤ 1000000) (hlb : b.length ≤ 1000000) : (∃ K_, ∀ k, K_ ≤ k → spec_l4Of.f k a b = some (gridE 0 (a ++ b), gridE 1 (a ++ b), gridE 2 (a ++ b))) := by
 have two : ∀ d : Nat, d < 3 → (∃ K_, ∀ k, K_ ≤ k → spec_l4Edges.f k a (d : Int) [0] = some (gridE d a)) ∧ (∃ K_, ∀ k, K_ ≤ k → spec_l4Edges.f k b (d : Int) (gridE d a) = some (gridE d (a ++ b))) := fun d hd => by
  have hg := gridE_len d a
  have e1 := spec_edges4_loop a d hd ha hla a.length 0 [0] (by omega) (by simp; omega)
  have e2 := spec_edges4_loop b d hd hb hlb b.length 0 (gridE d a) (by omega) (by omega)
  have e3 : numsF (gridE d a) (b.flatMap (ruleE d)) = gridE d (a ++ b) := by unfold gridE; rw [numsF_app', List.flatMap_append]
  rw [List.drop_zero, e3] at e2
  exact ⟨e1, e2⟩
 obtain ⟨p0, q0⟩ := two 0 (by omega)
 obtain ⟨p1, q1⟩ := two 1 (by omega)
 obtain ⟨p2, q2⟩ := two 2 (by omega)
 simp only [spec_l4Of.f]
 exact evB p0 (evB q0 (evB p1 (evB q1 (evB p2 (evB q2 (evR rfl))))))
abbrev Pt := Int × Int × Int
def gridOf (xs ys zs : List Int) : List Pt := xs.flatMap fun a => ys.flatMap fun b => zs.map fun c => (a, b, c)
def gridF (l : List Ru) : List Pt := gridOf (gridE 0 l) (gridE 1 l) (gridE 2 l)
def firstP (l : List Ru) (p : Pt) : Int := firstF l p.1 p.2.1 p.2.2
theorem firstGo_range {α : Type} (q : α → Bool) : ∀ (l : List α) (i : Int), 0 ≤ i → firstGo q l i = -1 ∨ i ≤ firstGo q l i ∧ firstGo q l i < i + l.length
 | [], _, _ => .inl rfl
 | x :: l, i, h => by
  unfold firstGo
  split
  ·exact .inr ⟨Int.le_refl _, by simp only [List.length_cons]; omega⟩
  ·rcases firstGo_range q l (i + 1) (by omega) with e | ⟨e1, e2⟩
   ·exact .inl e
   ·exact .inr ⟨by omega, by simp only [List.length_cons]; omega⟩
theorem firstP_range (l : List Ru) (p : Pt) : firstP l p = -1 ∨ 0 ≤ firstP l p ∧ firstP l p < l.length := by
 have := firstGo_range (aboutB p.1 p.2.1 p.2.2) l 0 (Int.le_refl _)
 rw [Int.zero_add] at this
 exact this
def foldG {σ : Type} (q : σ → Pt → σ × Bool) : List Pt → σ → σ × Bool
 | [], s => (s, true)
 | p :: ps, s => if (q s p).2 = true then foldG q ps (q s p).1 else ((q s p).1, false)
theorem foldG_app {σ : Type} (q : σ → Pt → σ × Bool) : ∀ (a b : List Pt) (s : σ), foldG q (a ++ b) s = if (foldG q a s).2 = true then foldG q b (foldG q a s).1 else ((foldG q a s).1, false)
 | [], b, s => by simp [foldG]
 | p :: a, b, s => by
  simp only [List.cons_append, foldG]
  by_cases c : (q s p).2 = true
  ·simp [c, foldG_app q a b]
  ·simp [c]
theorem cornZ_fold {σ : Type} {p : σ → Int → Int → Int → Int → Int → Int → Option (σ × Bool)} {q : σ → Pt → σ × Bool} (i k a b : Int) : ∀ (zs : List Int) (n : Int) (s : σ), (∀ c ∈ zs, ∀ s i k n, p s i k n a b c = some (q s (a, b, c))) → cornZ p i k a b zs n s = some (foldG q (zs.map fun c => (a, b, c)) s)
 | [], _, _, _ => rfl
 | c :: zs, n, s, h => by
  simp only [cornZ, List.map_cons, foldG]
  rw [h c (List.mem_cons_self ..), Option.bind_some]
  split
  ·exact cornZ_fold i k a b zs (n + 1) _ (fun c hc => h c (List.mem_cons_of_mem _ hc))
  ·rfl
theorem cornY_fold {σ : Type} {p : σ → Int → Int → Int → Int → Int → Int → Option (σ × Bool)} {q : σ → Pt → σ × Bool} (zs : List Int) (i a : Int) : ∀ (ys : List Int) (k : Int) (s : σ), (∀ b ∈ ys, ∀ c ∈ zs, ∀ s i k n, p s i k n a b c = some (q s (a, b, c))) → cornY p zs i a ys k s = some (foldG q (ys.flatMap fun b => zs.map fun c => (a, b, c)) s)
 | [], _, _, _ => rfl
 | b :: ys, k, s, h => by
  simp only [cornY, List.flatMap_cons]
  rw [cornZ_fold i k a b zs 0 s (h b (List.mem_cons_self ..)), Option.bind_some, foldG_app]
  split
  ·exact cornY_fold zs i a ys (k + 1) _ (fun b hb => h b (List.mem_cons_of_mem _ hb))
  ·rfl
theorem cornX_fold {σ : Type} {p : σ → Int → Int → Int → Int → Int → Int → Option (σ × Bool)} {q : σ → Pt → σ × Bool} (zs ys : List Int) : ∀ (xs : List Int) (i : Int) (s : σ), (∀ a ∈ xs, ∀ b ∈ ys, ∀ c ∈ zs, ∀ s i k n, p s i k n a b c = some (q s (a, b, c))) → cornX p zs ys xs i s = some (foldG q (gridOf xs ys zs) s)
 | [], _, _, _ => rfl
 | a :: xs, i, s, h => by
  have e : gridOf (a :: xs) ys zs = (ys.flatMap fun b => zs.map fun c => (a, b, c)) ++ gridOf xs ys zs := by unfold gridOf; rw [List.flatMap_cons]
  simp only [cornX]
  rw [cornY_fold zs i a ys 0 s (h a (List.mem_cons_self ..)), Option.bind_some, e, foldG_app]
  split
  ·exact cornX_fold zs ys xs (i + 1) _ (fun a ha => h a (List.mem_cons_of_mem _ ha))
  ·rfl
/-- What is done for the place of a rule. -/
def actV (l : List Ru) (v : Int) : Int × Int := if v < 0 then (0, 0) else ((rd_T71 l v).f0, (rd_T71 l v).f1)
def actP (l : List Ru) (p : Pt) : Int × Int := actV l (firstP l p)
theorem impl_act (l : List Ru) (v : Int) (h : v < l.length) : impl_act.f l v = some (actV l v) := by
 unfold impl_act.f actV
 by_cases c : v < 0
 ·rw [if_pos c, if_pos c]
 ·rw [if_neg c, if_neg c, if_pos (by omega), if_pos h]
theorem spec_does {l : List Ru} (hv : ∀ x ∈ l, ruleB x = true) (hl : l.length ≤ 1073741824) (p : Pt) : (∃ K_, ∀ k, K_ ≤ k → spec_l4Does.f k l p.1 p.2.1 p.2.2 = some (actP l p)) := by
 have hr := firstP_range l p
 have he : firstP l p = firstF l p.1 p.2.1 p.2.2 := rfl
 simp only [spec_l4Does.f]
 refine evB (spec_first hv _ _ _ hl) ?_
 rw [← he]
 unfold actP actV
 refine evI (fun c => evR (by rw [if_pos c])) (fun c => evP (by omega) (evP (by omega) (evR (by rw [if_neg c]))))
/-- The first of some calls with which two lists of rules do otherwise. -/
def diffG (a b : List Ru) : List Pt → Int × Int × Int × Bool
 | [] => (0, 0, 0, false)
 | p :: ps => if actP a p = actP b p then diffG a b ps else (p.1, p.2.1, p.2.2, true)
def rulesDiffF (a b : List Ru) : Int × Int × Int × Bool := if rokB a = true ∧ rokB b = true then diffG a b (gridF (a ++ b)) else (0, 0, 0, false)
def diffQ (a b : List Ru) (s : Int × Int × Int × Bool) (p : Pt) : (Int × Int × Int × Bool) × Bool := if actP a p = actP b p then (s, !s.2.2.2) else ((p.1, p.2.1, p.2.2, true), false)
theorem fold_diff (a b : List Ru) : ∀ gs : List Pt, (foldG (diffQ a b) gs (0, 0, 0, false)).1 = diffG a b gs
 | [] => rfl
 | p :: gs => by
  by_cases c : actP a p = actP b p
  ·have e : diffQ a b (0, 0, 0, false) p = ((0, 0, 0, false), true) := by unfold diffQ; rw [if_pos c]; rfl
   have e2 : diffG a b (p :: gs) = diffG a b gs := by rw [diffG, if_pos c]
   rw [e2, ← fold_diff a b gs]
   simp only [foldG, e, if_true]
  ·have e : diffQ a b (0, 0, 0, false) p = ((p.1, p.2.1, p.2.2, true), false) := by unfold diffQ; rw [if_neg c]
   have e2 : diffG a b (p :: gs) = (p.1, p.2.1, p.2.2, true) := by rw [diffG, if_neg c]
   rw [e2]
   simp only [foldG, e, Bool.false_eq_true, if_false]
theorem not_same (x y : Int × Int) : (!(x.1 == y.1) || !(x.2 == y.2)) = true ↔ ¬ x = y := by
 rw [Bool.or_eq_true, Bool.not_eq_true', Bool.not_eq_true', beq_eq_false_iff_ne, beq_eq_false_iff_ne]
 constructor
 ·rintro (h | h) e
  ·exact h (by rw [e])
  ·exact h (by rw [e])
 ·intro h
  by_cases c : x.1 = y.1
  ·exact .inr (fun c2 => h (Prod.ext c c2))
  ·exact .inl c
theorem impl_rulesDiffer (a b : List Ru) (hl : a.length + b.length < 1000000) : (∃ K_, ∀ k, K_ ≤ k → impl_RulesDiffer.f k a b = some (rulesDiffF a b)) := by
 simp only [impl_RulesDiffer.f]
 refine evB (impl_rulesOk a) (evI (fun ca => evB (impl_rulesOk b) (evI (fun cb => ?_) (fun cb => ?_))) (fun ca => ?_))
 ·have hva := rokB_valid ca
  have hvb := rokB_valid cb
  have hv : ∀ x ∈ a ++ b, ruleB x = true := fun x hx => (List.mem_append.1 hx).elim (hva x) (hvb x)
  have h8 := rokB_len ca
  have h9 := rokB_len cb
  have g0 := gridE_len 0 (a ++ b)
  have g1 := gridE_len 1 (a ++ b)
  have g2 := gridE_len 2 (a ++ b)
  rw [List.length_append] at g0 g1 g2
  refine evP hl (evB (impl_axes (a ++ b) hv (by rw [List.length_append]; omega)) (evP ⟨by simp only []; omega, by simp only []; omega, by simp only []; omega⟩ (evS (cornX_fold (q := diffQ a b) _ _ _ 0 (0, 0, 0, false) (fun x hx y hy z hz s i k n => ?_)) (evR ?_))))
  ·have r1 := firstP_range a (x, y, z)
   have r2 := firstP_range b (x, y, z)
   unfold impl_RulesDiffer.p
   rw [impl_first hva, Option.bind_some, impl_act a _ (by have : firstP a (x, y, z) = firstF a x y z := rfl; omega), Option.bind_some, impl_first hvb, Option.bind_some, impl_act b _ (by have : firstP b (x, y, z) = firstF b x y z := rfl; omega), Option.bind_some]
   have e1 : actV a (firstF a x y z) = actP a (x, y, z) := rfl
   have e2 : actV b (firstF b x y z) = actP b (x, y, z) := rfl
   rw [e1, e2]
   unfold diffQ
   by_cases c : actP a (x, y, z) = actP b (x, y, z)
   ·rw [if_pos c, if_neg (fun h => (not_same _ _).1 h c)]
   ·rw [if_neg c, if_pos ((not_same _ _).2 c)]
  ·unfold rulesDiffF
   rw [if_pos ⟨ca, cb⟩]
   exact fold_diff a b _
 ·refine evR ?_
  unfold rulesDiffF
  rw [if_neg (fun h => cb h.2)]
 ·refine evR ?_
  unfold rulesDiffF
  rw [if_neg (fun h => ca h.1)]
theorem diff_l2 (a b : List Ru) (hva : ∀ x ∈ a, ruleB x = true) (hvb : ∀ x ∈ b, ruleB x = true) (hla : a.length ≤ 1000000) (hlb : b.length ≤ 1000000) (xs ys zs : List Int) (hz : zs.length ≤ 100000000) (i j : Nat) (hi : i < xs.length) (hj : j < ys.length) (T : List Pt) (h : (∃ K_, ∀ k, K_ ≤ k → spec_RulesDiffer.l1 k a b (i : Int) (wrap64 ((j : Int) + 1)) xs ys zs = some (diffG a b T))) (d : Nat) :
  ∀ n : Nat, n + d = zs.length → (∃ K_, ∀ k, K_ ≤ k → spec_RulesDiffer.l2 k a b (i : Int) (j : Int) (n : Int) xs ys zs = some (diffG a b (((zs.drop n).map fun c => ((xs[i], ys[j], c) : Pt)) ++ T))) := by
 induction d with
 | zero =>
  intro n hn
  refine ev1 ?_
  simp only [spec_RulesDiffer.l2]
  rw [List.drop_eq_nil_of_le (by omega)]
  exact evN (by omega) h
 | succ d ih =>
  intro n hn
  have hlt : n < zs.length := by omega
  have hw : wrap64 ((n : Int) + 1) = ((n + 1 : Nat) : Int) := by rw [w64 (by omega)]; omega
  rw [List.drop_eq_getElem_cons hlt, List.map_cons, List.cons_append]
  refine ev1 ?_
  simp only [spec_RulesDiffer.l2]
  rw [rd_num xs i hi, rd_num ys j hj, rd_num zs n hlt, hw]
  refine evP (by omega) (evP (by omega) (evP (by omega) (evP (by omega) (evP (by omega) (evP (by omega) (evB (spec_does hva (by omega) (xs[i], ys[j], zs[n])) (evB (spec_does hvb (by omega) (xs[i], ys[j], zs[n])) ?_)))))))
  refine evI (fun c => evI (fun c2 => ?_) (fun c2 => ?_)) (fun c => ?_)
  ·rw [diffG, if_pos (Prod.ext c c2)]
   exact ih (n + 1) (by omega)
  ·rw [diffG, if_neg (fun e => c2 (by rw [e]))]
   exact evR rfl
  ·rw [diffG, if_neg (fun e => c (by rw [e]))]
   exact evR rfl
theorem diff_l1 (a b : List Ru) (hva : ∀ x ∈ a, ruleB x = true) (hvb : ∀ x ∈ b, ruleB x = true) (hla : a.length ≤ 1000000) (hlb : b.length ≤ 1000000) (xs ys zs : List Int) (hz : zs.length ≤ 100000000) (hy : ys.length ≤ 100000000) (i : Nat) (hi : i < xs.length) (T : List Pt) (h : (∃ K_, ∀ k, K_ ≤ k → spec_RulesDiffer.l0 k a b (wrap64 ((i : Int) + 1)) xs ys zs = some (diffG a b T))) (d : Nat) :
  ∀ n : Nat, n + d = ys.length → (∃ K_, ∀ k, K_ ≤ k → spec_RulesDiffer.l1 k a b (i : Int) (n : Int) xs ys zs = some (diffG a b (((ys.drop n).flatMap fun y => zs.map fun c => ((xs[i], y, c) : Pt)) ++ T))) := by
 induction d with
 | zero =>
  intro n hn
  refine ev1 ?_
  simp only [spec_RulesDiffer.l1]
  rw [List.drop_eq_nil_of_le (by omega)]
  exact evN (by omega) h
 | succ d ih =>
  intro n hn
  have hlt : n < ys.length := by omega
  have hw : wrap64 ((n : Int) + 1) = ((n + 1 : Nat) : Int) := by rw [w64 (by omega)]; omega
  rw [List.drop_eq_getElem_cons hlt, List.flatMap_cons, List.append_assoc]
  refine ev1 ?_
  simp only [spec_RulesDiffer.l1]
  refine evP (by omega) ?_
  have e := diff_l2 a b hva hvb hla hlb xs ys zs hz i n hi hlt (((ys.drop (n + 1)).flatMap fun y => zs.map fun c => ((xs[i], y, c) : Pt)) ++ T) (by rw [hw]; exact ih (n + 1) (by omega)) zs.length 0 (by omega)
  rw [List.drop_zero] at e
  exact e
theorem diff_l0 (a b : List Ru) (hva : ∀ x ∈ a, ruleB x = true) (hvb : ∀ x ∈ b, ruleB x = true) (hla : a.length ≤ 1000000) (hlb : b.length ≤ 1000000) (xs ys zs : List Int) (hz : zs.length ≤ 100000000) (hy : ys.length ≤ 100000000) (hx : xs.length ≤ 100000000) (d : Nat) :
  ∀ n : Nat, n + d = xs.length → (∃ K_, ∀ k, K_ ≤ k → spec_RulesDiffer.l0 k a b (n : Int) xs ys zs = some (diffG a b (gridOf (xs.drop n) ys zs))) := by
 induction d with
 | zero =>
  intro n hn
  refine ev1 ?_
  simp only [spec_RulesDiffer.l0]
  rw [List.drop_eq_nil_of_le (by omega)]
  exact evN (by omega) (evR rfl)
 | succ d ih =>
  intro n hn
  have hlt : n < xs.length := by omega
  have hw : wrap64 ((n : Int) + 1) = ((n + 1 : Nat) : Int) := by rw [w64 (by omega)]; omega
  have e : gridOf (xs.drop n) ys zs = (ys.flatMap fun y => zs.map fun c => ((xs[n], y, c) : Pt)) ++ gridOf (xs.drop (n + 1)) ys zs := by
   rw [List.drop_eq_getElem_cons hlt]
   unfold gridOf
   rw [List.flatMap_cons]
  rw [e]
  refine ev1 ?_
  simp only [spec_RulesDiffer.l0]
  refine evP (by omega) ?_
  have e2 := diff_l1 a b hva hvb hla hlb xs ys zs hz hy n hlt (gridOf (xs.drop (n + 1)) ys zs) (by rw [hw]; exact ih (n + 1) (by omega)) ys.length 0 (by omega)
  rw [List.drop_zero] at e2
  exact e2
theorem spec_rulesDiffer (a b : List Ru) (hla : a.length ≤ 1000000000) (hlb : b.length ≤ 1000000000) : (∃ K_, ∀ k, K_ ≤ k → spec_RulesDiffer.f k a b = some (rulesDiffF a b)) := by
 simp only [spec_RulesDiffer.f]
 refine evB (spec_rulesOk a (by omega)) (evI (fun ca => evB (spec_rulesOk b (by omega)) (ev1 ?_)) (fun ca => ev1 ?_))
 ·simp only [spec_RulesDiffer.j0]
  refine evI (fun cb => ?_) (fun cb => ?_)
  ·refine evR ?_
   unfold rulesDiffF
   rw [if_neg (fun h => by rw [h.2] at cb; cases cb)]
  ·have cb : rokB b = true := by simpa using cb
   have hva := rokB_valid ca
   have hvb := rokB_valid cb
   have h8 := rokB_len ca
   have h9 := rokB_len cb
   have g0 := gridE_len 0 (a ++ b)
   have g1 := gridE_len 1 (a ++ b)
   have g2 := gridE_len 2 (a ++ b)
   rw [List.length_append] at g0 g1 g2
   unfold rulesDiffF
   rw [if_pos ⟨ca, cb⟩]
   have e := diff_l0 a b hva hvb (by omega) (by omega) (gridE 0 (a ++ b)) (gridE 1 (a ++ b)) (gridE 2 (a ++ b)) (by omega) (by omega) (by omega) (gridE 0 (a ++ b)).length 0 (by omega)
   exact evB (spec_of a b hva hvb (by omega) (by omega)) e
 ·simp only [spec_RulesDiffer.j0, if_true]
  refine evR ?_
  unfold rulesDiffF
  rw [if_neg (fun h => ca h.1)]
/-- One of the statement's own values as one of the program's. -/
def convRule (x : S110) : S71 := ⟨x.f0, x.f1, ⟨x.f2.f0, x.f2.f1⟩, ⟨x.f3.f0, x.f3.f1⟩, x.f4, x.f5⟩
theorem rd_lRule (l : List S110) (n : Nat) (h : n < l.length) : rd_T110 l (n : Int) = l[n] := by
 unfold rd_T110
 rw [List.getD_eq_getElem?_getD, Int.toNat_natCast, List.getElem?_eq_getElem h]
 rfl
theorem toRule_loop (l : List S110) (hl : l.length ≤ 1073741824) (d : Nat) : ∀ (n : Nat) (ys : List S71), n + d = l.length → ys.length = l.length → (∀ j, j < n → ys[j]? = (l.map convRule)[j]?) → (∃ K_, ∀ k, K_ ≤ k → laws_toRuleS.l0 k l ys (n : Int) = some (l.map convRule)) := by
 induction d with
 | zero =>
  intro n ys hn hy hj
  refine ⟨1, fun k hk => ?_⟩
  obtain ⟨k, rfl⟩ : ∃ j, k = j + 1 := ⟨k - 1, by omega⟩
  simp only [laws_toRuleS.l0]
  rw [if_neg (by omega)]
  congr 1
  apply List.ext_getElem?
  intro i
  by_cases c : i < n
  ·exact hj i c
  ·rw [List.getElem?_eq_none (by omega), List.getElem?_eq_none (by simp; omega)]
 | succ d ih =>
  intro n ys hn hy hj
  have hlt : n < l.length := by omega
  have hw : wrap64 ((n : Int) + 1) = ((n + 1 : Nat) : Int) := by rw [w64 (by omega)]; omega
  obtain ⟨K1, e1⟩ := ih (n + 1) (ys.set n (convRule l[n])) (by omega) (by simpa using hy) (fun j hj2 => by
   by_cases c : j = n
   ·subst c
    rw [List.getElem?_set_self (by omega), List.getElem?_map, List.getElem?_eq_getElem hlt]
    rfl
   ·rw [List.getElem?_set_ne (by omega)]
    exact hj j (by omega))
  refine ⟨K1 + 1, fun k hk => ?_⟩
  obtain ⟨k, rfl⟩ : ∃ j, k = j + 1 := ⟨k - 1, by omega⟩
  simp only [laws_toRuleS.l0]
  rw [if_pos (by omega), if_pos (by omega), rd_lRule l n hlt]
  simp only [laws_toRule.f, laws_toBlock.f, Option.bind_some]
  rw [if_pos (by omega), hw, Int.toNat_natCast]
  exact e1 k (by omega)
theorem toRule (l : List S110) (hl : l.length ≤ 1073741824) : (∃ K_, ∀ k, K_ ≤ k → laws_toRuleS.f k l = some (l.map convRule)) := by
 obtain ⟨K, h⟩ := toRule_loop l hl l.length 0 (List.replicate l.length z71) (by omega) (by simp) (fun j h => absurd h (by omega))
 refine ⟨K, fun k hk => ?_⟩
 simp only [laws_toRuleS.f]
 rw [if_pos (by omega), if_pos (by omega), Int.toNat_natCast]
 exact h k hk
theorem szgRule (l : List S110) (hl : l.length ≤ 9223372036854775807) (m : Int) (h0 : 0 ≤ m) (h1 : m ≤ 1048576) : laws_szRuleS.f l m = some (if (l.length : Int) ≤ m then m - (l.length : Int) else -1) := by
 unfold laws_szRuleS.f
 rw [w64 (by omega)]
 by_cases c : (l.length : Int) ≤ m
 ·rw [if_neg (by omega), if_pos c]
 ·rw [if_pos (by omega), if_neg c]
theorem eqRule_one (x : S71) : laws_eqRule.f x.f0 x.f1 x.f2.f0 x.f2.f1 x.f3.f0 x.f3.f1 x.f4 x.f5 x.f0 x.f1 x.f2.f0 x.f2.f1 x.f3.f0 x.f3.f1 x.f4 x.f5 = some true := by
 simp [laws_eqRule.f, laws_eqBlock.f]
theorem eqRule_loop (l : List S71) (hl : l.length ≤ 1073741824) (d : Nat) : ∀ n : Nat, n + d = l.length → (∃ K_, ∀ k, K_ ≤ k → laws_eqRuleS.l0 k l l (n : Int) = some true) := by
 induction d with
 | zero =>
  intro n hn
  refine ⟨1, fun k hk => ?_⟩
  obtain ⟨k, rfl⟩ : ∃ j, k = j + 1 := ⟨k - 1, by omega⟩
  simp only [laws_eqRuleS.l0]
  rw [if_neg (by omega)]
 | succ d ih =>
  intro n hn
  have hw : wrap64 ((n : Int) + 1) = ((n + 1 : Nat) : Int) := by rw [w64 (by omega)]; omega
  obtain ⟨K1, e1⟩ := ih (n + 1) (by omega)
  refine ⟨K1 + 1, fun k hk => ?_⟩
  obtain ⟨k, rfl⟩ : ∃ j, k = j + 1 := ⟨k - 1, by omega⟩
  simp only [laws_eqRuleS.l0]
  rw [if_pos (by omega), if_pos (by omega), if_pos (by omega), eqRule_one, Option.bind_some, if_pos rfl, hw]
  exact e1 k (by omega)
theorem eqRule (l : List S71) (hl : l.length ≤ 1073741824) : (∃ K_, ∀ k, K_ ≤ k → laws_eqRuleS.f k l l = some true) := by
 obtain ⟨K, h⟩ := eqRule_loop l hl l.length 0 (by omega)
 refine ⟨K, fun k hk => ?_⟩
 simp only [laws_eqRuleS.f]
 rw [if_pos trivial]
 exact h k hk
end Go.Proofs.Ytkgbgaojglcaoaa.Z
end
section
namespace Go.Proofs.Ytkgbgaojglcaoaa.Pure
open Go Go.RowKit Go.Proofs.Ytkgbgaojglcaoaa.PAll Go.Proofs.YtkgbgaojglcaoaaW.PrintWords Go.Proofs.YtkgbgaojglcaoaaW.PrintLast Go.Proofs.YtkgbgaojglcaoaaW.PrintMore Go.Proofs.Ytkgbgaojglcaoaa.Z
set_option linter.unusedVariables false
set_option linter.unusedSimpArgs false
/-- RulesDiffer of however many rules. -/
theorem impl_rulesDiffer' (a b : List Ru) : (∃ K_, ∀ k, K_ ≤ k → impl_RulesDiffer.f k a b = some (rulesDiffF a b)) := by
 by_cases c : a.length + b.length < 1000000
 ·exact impl_rulesDiffer a b c
 ·have hb : ¬ (rokB a = true ∧ rokB b = true) := fun h => by
   have := rokB_len h.1
   have := rokB_len h.2
   omega
  have e : rulesDiffF a b = (0, 0, 0, false) := by unfold rulesDiffF; rw [if_neg hb]
  rw [e]
  simp only [impl_RulesDiffer.f]
  exact evB (impl_rulesOk a) (evI (fun ca => evB (impl_rulesOk b) (evN (fun cb => hb ⟨ca, cb⟩) (evR rfl))) (fun _ => evR rfl))
theorem eq_call (a b c : Int) : laws_eqCall.f a b c a b c = some true := by simp [laws_eqCall.f]
theorem FnExactRulesDiffer : laws_FnExactRulesDiffer.Pure := by
 intro l m hl hm
 suffices h : (∃ K_, ∀ k, K_ ≤ k → laws_FnExactRulesDiffer.f k l m = some true) by obtain ⟨K, h⟩ := h; exact ⟨K, h K (Nat.le_refl _)⟩
 have h1 : l.length ≤ 9223372036854775807 := by have := hl.1; unfold maxLen at this; exact this
 have h2 : m.length ≤ 9223372036854775807 := by have := hm.1; unfold maxLen at this; exact this
 simp only [laws_FnExactRulesDiffer.f]
 refine evS (szgRule l h1 1048576 (by omega) (by omega)) ?_
 by_cases c : (l.length : Int) ≤ 1048576
 ·rw [if_pos c]
  refine evN (by omega) (evS (szgRule m h2 _ (by omega) (by omega)) ?_)
  by_cases c2 : (m.length : Int) ≤ 1048576 - (l.length : Int)
  ·rw [if_pos c2]
   have n1 : (l.map convRule).length ≤ 1048576 := by simp; omega
   have n2 : (m.map convRule).length ≤ 1048576 := by simp; omega
   have e1 := toRule l (by omega)
   have e2 := toRule m (by omega)
   refine evN (by omega) (evB e1 (evB e2 (evB (spec_rulesDiffer _ _ (by omega) (by omega)) (evB e1 (evB e2 (evB (impl_rulesDiffer' _ _) (evS (eq_call _ _ _) (evP rfl (ev1 ?_)))))))))
   simp only [laws_FnExactRulesDiffer.j0]
   exact evN (by simp) (evB e1 (evB (eqRule _ (by omega)) (evP rfl (evB e2 (evB (eqRule _ (by omega)) (evP rfl (evR rfl)))))))
  ·rw [if_neg c2]
   exact evP (by omega) (evR rfl)
 ·rw [if_neg c]
  exact evP (by omega) (evR rfl)
end Go.Proofs.Ytkgbgaojglcaoaa.Pure
end
