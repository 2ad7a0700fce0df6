/- Contracts of the functions that the statement reaches, printed by a program out of the translation and joined with the plain laws. -/
import Derived.Lib.SlicesCompact
import Derived.Test.YtkgbgaojglcaoaaCFnCells3
import Derived.Test.YtkgbgaojglcaoaaCFnCells4
import Derived.Test.YtkgbgaojglcaoaaCFnCells5
import Derived.Test.YtkgbgaojglcaoaaCFnCells6
import Derived.Test.YtkgbgaojglcaoaaCFnCells7
import Derived.Test.YtkgbgaojglcaoaaCFnCells8
import Derived.Test.YtkgbgaojglcaoaaCFnCells10
import Derived.Test.YtkgbgaojglcaoaaCFnCells11
section
namespace Go.Proofs.Ytkgbgaojglcaoaa.Z
open Go Go.RowKit Go.Proofs.Ytkgbgaojglcaoaa.PAll Go.Proofs.YtkgbgaojglcaoaaW.PrintWords Go.Proofs.YtkgbgaojglcaoaaW.PrintLast Go.Proofs.YtkgbgaojglcaoaaW.PrintMore
set_option linter.unusedVariables false
set_option linter.unusedSimpArgs false
theorem spec_in (a l h : Int) : spec_l1In.f a l h = some (decide (l ≤ a ∧ a ≤ h)) := by
 unfold spec_l1In.f
 by_cases c : a ≥ l
 ·rw [if_pos c]; simp [c]
 ·rw [if_neg c]
  have : ¬ l ≤ a := by omega
  simp [this]
theorem impl_in (a l h : Int) : impl_in.f a l h = some (decide (l ≤ a ∧ a ≤ h)) := by
 unfold impl_in.f
 by_cases c : a ≥ l
 ·rw [if_pos c]; simp [c]
 ·rw [if_neg c]
  have : ¬ l ≤ a := by omega
  simp [this]
theorem spec_addr (a : Int) : spec_l1Addr.f a = some (decide (0 ≤ a ∧ a ≤ 4294967295)) := by simp only [spec_l1Addr.f, spec_in, Option.bind_some]
theorem impl_addr (a : Int) : impl_isAddr.f a = some (decide (0 ≤ a ∧ a ≤ 4294967295)) := by simp only [impl_isAddr.f, impl_in, Option.bind_some]
theorem two_loop (n : Nat) : ∀ (k : Nat) (c : Int), n ≤ 62 → n < k → 1 ≤ c → c * 2 ^ n ≤ 4611686018427387904 → spec_l1Two.l0 k (n : Int) c = some (c * 2 ^ n) := by
 induction n with
 | zero =>
  intro k c _ hk _ _
  obtain ⟨k, rfl⟩ : ∃ m, k = m + 1 := ⟨k - 1, by omega⟩
  simp only [spec_l1Two.l0]
  rw [if_neg (by omega)]
  simp
 | succ n ih =>
  intro k c hn hk hc hb
  obtain ⟨k, rfl⟩ : ∃ m, k = m + 1 := ⟨k - 1, by omega⟩
  have e : c * 2 ^ (n + 1) = c * 2 * 2 ^ n := by rw [Int.pow_succ, Int.mul_comm ((2 : Int) ^ n) 2, Int.mul_assoc]
  have hp : (1 : Int) ≤ 2 ^ n := by
   have : (0 : Int) < 2 ^ n := Int.pow_pos (by decide)
   omega
  have hc2 : c * 2 ≤ c * 2 * 2 ^ n := by
   have := Int.mul_le_mul_of_nonneg_left hp (by omega : (0 : Int) ≤ c * 2)
   omega
  simp only [spec_l1Two.l0]
  rw [e] at hb ⊢
  rw [if_pos (by omega), w64 (by omega), w64 (by omega)]
  have : ((n + 1 : Nat) : Int) - 1 = (n : Int) := by omega
  rw [this]
  exact ih k (c * 2) (by omega) (by omega) (by omega) hb
theorem spec_two {n : Int} (h0 : 0 ≤ n) (h1 : n ≤ 62) : (∃ K_, ∀ k, K_ ≤ k → spec_l1Two.f k n = some (2 ^ n.toNat)) := by
 refine ⟨n.toNat + 1, fun k hk => ?_⟩
 have e : (n.toNat : Int) = n := by omega
 have hp : (2 : Int) ^ n.toNat ≤ 2 ^ 62 := by
  exact_mod_cast Nat.pow_le_pow_right (n := 2) (by decide) (by omega : n.toNat ≤ 62)
 have := two_loop n.toNat k 1 (by omega) (by omega) (by omega) (by omega)
 rw [e, Int.one_mul] at this
 exact this
theorem spec_size {m : Int} (h0 : 0 ≤ m) (h1 : m ≤ 32) : (∃ K_, ∀ k, K_ ≤ k → spec_l1Size.f k m = some (sz m)) := by
 obtain ⟨K, h⟩ := spec_two (n := 32 - m) (by omega) (by omega)
 refine ⟨K, fun k hk => ?_⟩
 simp only [spec_l1Size.f]
 rw [w64 (by omega), h k hk]
 rfl
theorem impl_size {b m : Int} (h0 : 0 ≤ m) (h1 : m ≤ 32) : impl_Block_size.f b m = some (sz m) := by
 unfold impl_Block_size.f
 rw [w64 (by omega), if_pos (by omega), shl_sz h0 h1]
theorem tmod_beq {b s : Int} (hb : 0 ≤ b) : (Int.tmod b s == 0) = decide (b % s = 0) := by
 rw [Int.tmod_eq_emod_of_nonneg hb]
 rfl
theorem impl_ok (b m : Int) : impl_BlockOk.f b m = some (bokB b m) := by
 unfold impl_BlockOk.f
 rw [impl_addr, Option.bind_some]
 by_cases c : 0 ≤ b ∧ b ≤ 4294967295
 ·rw [if_pos (by simpa using c), impl_in, Option.bind_some]
  by_cases d : 0 ≤ m ∧ m ≤ 32
  ·rw [if_pos (by simpa using d), impl_size d.1 d.2, Option.bind_some, if_neg (by have := sz_pos m; omega), tmod_beq c.1]
   simp [bokB, bok, c, d]
  ·rw [if_neg (by simpa using d)]
   exact congrArg some (bokB_false.2 (fun h => d ⟨h.2.2.1, h.2.2.2.1⟩)).symm
 ·rw [if_neg (by simpa using c)]
  exact congrArg some (bokB_false.2 (fun h => c ⟨h.1, h.2.1⟩)).symm
theorem spec_ok (b m : Int) : (∃ K_, ∀ k, K_ ≤ k → spec_BlockOk.f k b m = some (bokB b m)) := by
 by_cases c : 0 ≤ b ∧ b ≤ 4294967295
 ·by_cases d : 0 ≤ m ∧ m ≤ 32
  ·obtain ⟨K, h⟩ := spec_size d.1 d.2
   refine ⟨K, fun k hk => ?_⟩
   simp only [spec_BlockOk.f]
   rw [spec_addr, Option.bind_some, if_pos (by simpa using c), spec_in, Option.bind_some, if_pos (by simpa using d), h k hk, Option.bind_some, if_neg (by have := sz_pos m; omega), tmod_beq c.1]
   simp [bokB, bok, c, d]
  ·refine ⟨0, fun k _ => ?_⟩
   simp only [spec_BlockOk.f]
   rw [spec_addr, Option.bind_some, if_pos (by simpa using c), spec_in, Option.bind_some, if_neg (by simpa using d)]
   exact congrArg some (bokB_false.2 (fun h => d ⟨h.2.2.1, h.2.2.2.1⟩)).symm
 ·refine ⟨0, fun k _ => ?_⟩
  simp only [spec_BlockOk.f]
  rw [spec_addr, Option.bind_some, if_neg (by simpa using c)]
  exact congrArg some (bokB_false.2 (fun h => c ⟨h.1, h.2.1⟩)).symm
theorem sz_bd {m : Int} (h0 : 0 ≤ m) : 1 ≤ sz m ∧ sz m ≤ 4294967296 := ⟨sz_pos m, sz_top h0⟩
theorem impl_last {b m : Int} (hb0 : 0 ≤ b) (hb1 : b ≤ 4611686018427387904) (h0 : 0 ≤ m) (h1 : m ≤ 32) : impl_Block_last.f b m = some (b + sz m - 1) := by
 have := sz_bd h0
 unfold impl_Block_last.f
 rw [impl_size h0 h1, Option.bind_some, w64 (n := b + sz m) (by omega), w64 (by omega)]
theorem spec_last {b m : Int} (hb0 : -1 ≤ b) (hb1 : b ≤ 4611686018427387904) (h0 : 0 ≤ m) (h1 : m ≤ 32) : (∃ K_, ∀ k, K_ ≤ k → spec_l1Last.f k b m = some (b + sz m - 1)) := by
 have := sz_bd h0
 obtain ⟨K, h⟩ := spec_size h0 h1
 refine ⟨K, fun k hk => ?_⟩
 simp only [spec_l1Last.f]
 rw [h k hk, Option.bind_some, w64 (n := b + sz m) (by omega), w64 (by omega)]
/-- Is an address in a block? -/
def hasB (b m a : Int) : Bool := decide (b ≤ a ∧ a ≤ b + sz m - 1)
theorem hasB_iff {b m a : Int} : hasB b m a = true ↔ b ≤ a ∧ a < b + sz m := by simp only [hasB, decide_eq_true_eq]; omega
theorem impl_has {b m : Int} (a : Int) (hb0 : 0 ≤ b) (hb1 : b ≤ 4611686018427387904) (h0 : 0 ≤ m) (h1 : m ≤ 32) : impl_Block_has.f b m a = some (hasB b m a) := by
 unfold impl_Block_has.f
 rw [impl_last hb0 hb1 h0 h1, Option.bind_some, impl_in, Option.bind_some]
 rfl
abbrev Ru := S71
theorem drop_consR {α : Type} {l : List α} {n : Nat} (h : n < l.length) : l.drop n = l[n] :: l.drop (n + 1) := List.drop_eq_getElem_cons h
theorem rd_rule (l : List Ru) (n : Nat) (h : n < l.length) : rd_T71 l (n : Int) = l[n] := by
 unfold rd_T71
 rw [List.getD_eq_getElem?_getD, Int.toNat_natCast, List.getElem?_eq_getElem h]
 rfl
/-- Is a number in a range? -/
def inR (a l h : Int) : Bool := decide (l ≤ a ∧ a ≤ h)
theorem impl_inR (a l h : Int) : impl_in.f a l h = some (inR a l h) := impl_in a l h
theorem spec_inR (a l h : Int) : spec_l1In.f a l h = some (inR a l h) := spec_in a l h
def tunB (x : Ru) : Bool := if x.f0 = 2 then inR x.f1 0 3 else decide (x.f1 = 0)
/-- Is a rule valid? -/
def ruleB (x : Ru) : Bool := bokB x.f2.f0 x.f2.f1 && (bokB x.f3.f0 x.f3.f1 && (inR x.f4 0 x.f5 && (decide (x.f5 ≤ 65535) && (inR x.f0 0 2 && tunB x))))
theorem right_j0 (k : Nat) (b : Bool) (x : Ru) : impl_Rule_right.j0 (k + 1) b x.f0 x.f1 x.f2.f0 x.f2.f1 x.f3.f0 x.f3.f1 x.f4 x.f5 = some (bokB x.f2.f0 x.f2.f1 && (bokB x.f3.f0 x.f3.f1 && (inR x.f4 0 x.f5 && (decide (x.f5 ≤ 65535) && (inR x.f0 0 2 && b))))) := by
 simp only [impl_Rule_right.j0]
 rw [impl_ok, Option.bind_some, impl_ok, Option.bind_some, impl_inR, Option.bind_some, impl_inR, Option.bind_some]
 by_cases d : x.f5 ≤ 65535
 ·cases bokB x.f2.f0 x.f2.f1 <;> cases bokB x.f3.f0 x.f3.f1 <;> cases inR x.f4 0 x.f5 <;> cases inR x.f0 0 2 <;> simp [d]
 ·cases bokB x.f2.f0 x.f2.f1 <;> cases bokB x.f3.f0 x.f3.f1 <;> cases inR x.f4 0 x.f5 <;> cases inR x.f0 0 2 <;> simp [d]
theorem impl_right (k : Nat) (x : Ru) : impl_Rule_right.f (k + 1) x.f0 x.f1 x.f2.f0 x.f2.f1 x.f3.f0 x.f3.f1 x.f4 x.f5 = some (ruleB x) := by
 simp only [impl_Rule_right.f]
 rw [right_j0, impl_inR, Option.bind_some, right_j0, right_j0]
 unfold ruleB tunB
 by_cases c : x.f1 = 0
 ·rw [if_pos c]
  by_cases d : x.f0 = 2
  ·rw [if_pos d]
   have : inR x.f1 0 3 = true := by rw [c]; rfl
   rw [this]
  ·rw [if_neg d]
   simp [c]
 ·rw [if_neg c]
  by_cases d : x.f0 = 2
  ·rw [if_pos d, if_pos d]
  ·rw [if_neg d, if_neg d]
   simp [c]
theorem spec_right (x : Ru) : (∃ K_, ∀ k, K_ ≤ k → spec_l4Ok.f k x.f0 x.f1 x.f2.f0 x.f2.f1 x.f3.f0 x.f3.f1 x.f4 x.f5 = some (ruleB x)) := by
 obtain ⟨K1, e1⟩ := spec_ok x.f2.f0 x.f2.f1
 obtain ⟨K2, e2⟩ := spec_ok x.f3.f0 x.f3.f1
 refine ⟨K1 + K2 + 1, fun k hk => ?_⟩
 obtain ⟨k, rfl⟩ : ∃ j, k = j + 1 := ⟨k - 1, by omega⟩
 simp only [spec_l4Ok.f]
 rw [e1 _ (by omega), Option.bind_some, e2 _ (by omega), Option.bind_some, spec_inR, Option.bind_some, spec_inR, Option.bind_some]
 simp only [spec_l4Ok.j0]
 rw [spec_inR, Option.bind_some]
 unfold ruleB tunB
 by_cases d : x.f5 ≤ 65535
 ·have d' : ¬ x.f5 > 65535 := by omega
  by_cases c : x.f0 = 2
  ·cases bokB x.f2.f0 x.f2.f1 <;> cases bokB x.f3.f0 x.f3.f1 <;> cases inR x.f4 0 x.f5 <;> cases inR x.f0 0 2 <;> simp [d, d', c]
  ·have e : (x.f1 == 0) = decide (x.f1 = 0) := rfl
   cases bokB x.f2.f0 x.f2.f1 <;> cases bokB x.f3.f0 x.f3.f1 <;> cases inR x.f4 0 x.f5 <;> cases inR x.f0 0 2 <;> simp [d, d', c, e]
 ·have d' : x.f5 > 65535 := by omega
  cases bokB x.f2.f0 x.f2.f1 <;> cases bokB x.f3.f0 x.f3.f1 <;> cases inR x.f4 0 x.f5 <;> simp [d, d']
/-- Are rules valid? -/
def rokB (l : List Ru) : Bool := l.all ruleB && decide (l.length ≤ 8)
theorem any_bad (k : Nat) (l : List Ru) : anyO (impl_RulesOk.bad (k + 1)) l = some (l.any fun x => !ruleB x) := by
 induction l with
 | nil => rfl
 | cons x l ih =>
  simp only [anyO, impl_RulesOk.bad]
  rw [impl_right, Option.bind_some, Option.bind_some, ih]
  cases h : ruleB x <;> simp [h]
theorem all_any (l : List Ru) : (!(l.any fun x => !ruleB x)) = l.all ruleB := by
 induction l with
 | nil => rfl
 | cons x l ih => simp only [List.any_cons, List.all_cons, ← ih]; cases ruleB x <;> simp
theorem impl_rulesOk (l : List Ru) : (∃ K_, ∀ k, K_ ≤ k → impl_RulesOk.f k l = some (rokB l)) := by
 refine ⟨1, fun k hk => ?_⟩
 obtain ⟨k, rfl⟩ : ∃ j, k = j + 1 := ⟨k - 1, by omega⟩
 simp only [impl_RulesOk.f]
 unfold rokB
 by_cases c : (l.length : Int) ≤ 8
 ·have c' : l.length ≤ 8 := by omega
  rw [if_pos c, any_bad, Option.bind_some, all_any]
  simp [c']
 ·have c' : ¬ l.length ≤ 8 := by omega
  rw [if_neg c]
  simp [c']
theorem spec_rulesOk_loop (l : List Ru) (hl : l.length ≤ 1073741824) (d : Nat) : ∀ n : Nat, n + d = l.length → (∃ K_, ∀ k, K_ ≤ k → spec_RulesOk.l0 k l (n : Int) = some ((l.drop n).all ruleB && decide (l.length ≤ 8))) := by
 induction d with
 | zero =>
  intro n hn
  refine ⟨1, fun k hk => ?_⟩
  obtain ⟨k, rfl⟩ : ∃ j, k = j + 1 := ⟨k - 1, by omega⟩
  simp only [spec_RulesOk.l0]
  rw [if_neg (by omega), List.drop_eq_nil_of_le (by omega)]
  have : decide ((l.length : Int) ≤ 8) = decide (l.length ≤ 8) := by rw [decide_eq_decide]; omega
  rw [this]
  rfl
 | succ d ih =>
  intro n hn
  have hlt : n < l.length := by omega
  have hw : wrap64 ((n : Int) + 1) = ((n + 1 : Nat) : Int) := by rw [w64 (by omega)]; omega
  obtain ⟨K1, e1⟩ := ih (n + 1) (by omega)
  obtain ⟨K2, e2⟩ := spec_right l[n]
  refine ⟨K1 + K2 + 1, fun k hk => ?_⟩
  obtain ⟨k, rfl⟩ : ∃ j, k = j + 1 := ⟨k - 1, by omega⟩
  have e1 := e1 k (by omega)
  simp only [spec_RulesOk.l0]
  rw [drop_consR hlt, if_pos (by omega), if_pos (by omega), rd_rule l n hlt, e2 k (by omega), Option.bind_some, hw, e1, List.all_cons]
  cases ruleB l[n] <;> simp
theorem spec_rulesOk (l : List Ru) (hl : l.length ≤ 1073741824) : (∃ K_, ∀ k, K_ ≤ k → spec_RulesOk.f k l = some (rokB l)) := spec_rulesOk_loop l hl l.length 0 (by omega)
theorem rokB_valid {l : List Ru} (h : rokB l = true) : ∀ x ∈ l, ruleB x = true := by
 simp only [rokB, Bool.and_eq_true, List.all_eq_true] at h
 exact h.1
theorem rokB_len {l : List Ru} (h : rokB l = true) : l.length ≤ 8 := by
 simp only [rokB, Bool.and_eq_true, decide_eq_true_eq] at h
 exact h.2
theorem ruleB_blocks {x : Ru} (h : ruleB x = true) : bok x.f2.f0 x.f2.f1 ∧ bok x.f3.f0 x.f3.f1 ∧ 0 ≤ x.f4 ∧ x.f4 ≤ x.f5 ∧ x.f5 ≤ 65535 := by
 simp only [ruleB, inR, Bool.and_eq_true, bokB_true, decide_eq_true_eq] at h
 exact ⟨h.1, h.2.1, h.2.2.1.1, h.2.2.1.2, h.2.2.2.1⟩
/-- Is a rule about a call? -/
def aboutB (a b c : Int) (x : Ru) : Bool := hasB x.f2.f0 x.f2.f1 a && (hasB x.f3.f0 x.f3.f1 b && inR c x.f4 x.f5)
theorem impl_matches {x : Ru} (h : ruleB x = true) (a b c : Int) : impl_Rule_matches.f x.f0 x.f1 x.f2.f0 x.f2.f1 x.f3.f0 x.f3.f1 x.f4 x.f5 a b c = some (aboutB a b c x) := by
 obtain ⟨h1, h2, _⟩ := ruleB_blocks h
 unfold impl_Rule_matches.f aboutB
 rw [impl_has a h1.1 (by have := h1.2.1; omega) h1.2.2.1 h1.2.2.2.1, Option.bind_some, impl_has b h2.1 (by have := h2.2.1; omega) h2.2.2.1 h2.2.2.2.1, Option.bind_some, impl_inR, Option.bind_some]
 cases hasB x.f2.f0 x.f2.f1 a <;> cases hasB x.f3.f0 x.f3.f1 b <;> simp
theorem spec_about {x : Ru} (h : ruleB x = true) (a b c : Int) : (∃ K_, ∀ k, K_ ≤ k → spec_l4About.f k x.f0 x.f1 x.f2.f0 x.f2.f1 x.f3.f0 x.f3.f1 x.f4 x.f5 a b c = some (aboutB a b c x)) := by
 obtain ⟨h1, h2, _⟩ := ruleB_blocks h
 obtain ⟨K1, e1⟩ := spec_last (b := x.f2.f0) (m := x.f2.f1) (by have := h1.1; omega) (by have := h1.2.1; omega) h1.2.2.1 h1.2.2.2.1
 obtain ⟨K2, e2⟩ := spec_last (b := x.f3.f0) (m := x.f3.f1) (by have := h2.1; omega) (by have := h2.2.1; omega) h2.2.2.1 h2.2.2.2.1
 refine ⟨K1 + K2, fun k hk => ?_⟩
 simp only [spec_l4About.f]
 rw [e1 k (by omega), Option.bind_some, e2 k (by omega), Option.bind_some, spec_inR, Option.bind_some, spec_inR, Option.bind_some, spec_inR, Option.bind_some]
 have g1 : inR a x.f2.f0 (x.f2.f0 + sz x.f2.f1 - 1) = hasB x.f2.f0 x.f2.f1 a := rfl
 have g2 : inR b x.f3.f0 (x.f3.f0 + sz x.f3.f1 - 1) = hasB x.f3.f0 x.f3.f1 b := rfl
 rw [g1, g2]
 unfold aboutB
 cases hasB x.f2.f0 x.f2.f1 a <;> cases hasB x.f3.f0 x.f3.f1 b <;> simp
/-- The place of the first element of which q holds, from i on; -1. -/
def firstGo {α : Type} (q : α → Bool) : List α → Int → Int
 | [], _ => -1
 | x :: l, i => if q x = true then i else firstGo q l (i + 1)
def firstF (l : List Ru) (a b c : Int) : Int := firstGo (aboutB a b c) l 0
theorem findO_first {α : Type} {p : α → Option Bool} {q : α → Bool} : ∀ (l : List α) (i : Int), (∀ x ∈ l, p x = some (q x)) → findO p l i = some (firstGo q l i)
 | [], _, _ => rfl
 | x :: l, i, h => by
  simp only [findO, firstGo]
  rw [h x (List.mem_cons_self ..), Option.bind_some, findO_first l (i + 1) (fun y hy => h y (List.mem_cons_of_mem _ hy))]
  cases q x <;> simp
theorem impl_first {l : List Ru} (h : ∀ x ∈ l, ruleB x = true) (a b c : Int) : impl_first.f l a b c = some (firstF l a b c) :=
 findO_first l 0 (fun x hx => impl_matches (h x hx) a b c)
theorem spec_first_loop (l : List Ru) (h : ∀ x ∈ l, ruleB x = true) (a b c : Int) (hl : l.length ≤ 1073741824) (d : Nat) : ∀ n : Nat, n + d = l.length → (∃ K_, ∀ k, K_ ≤ k → spec_l4First.l0 k l (n : Int) a b c = some (firstGo (aboutB a b c) (l.drop n) (n : Int))) := by
 induction d with
 | zero =>
  intro n hn
  refine ⟨1, fun k hk => ?_⟩
  obtain ⟨k, rfl⟩ : ∃ j, k = j + 1 := ⟨k - 1, by omega⟩
  simp only [spec_l4First.l0]
  rw [if_neg (by omega), List.drop_eq_nil_of_le (by omega)]
  rfl
 | succ d ih =>
  intro n hn
  have hlt : n < l.length := by omega
  have hw : wrap64 ((n : Int) + 1) = ((n + 1 : Nat) : Int) := by rw [w64 (by omega)]; omega
  obtain ⟨K1, e1⟩ := ih (n + 1) (by omega)
  obtain ⟨K2, e2⟩ := spec_about (h l[n] (List.getElem_mem hlt)) a b c
  refine ⟨K1 + K2 + 1, fun k hk => ?_⟩
  obtain ⟨k, rfl⟩ : ∃ j, k = j + 1 := ⟨k - 1, by omega⟩
  have e1 := e1 k (by omega)
  simp only [spec_l4First.l0]
  rw [drop_consR hlt, if_pos (by omega), if_pos (by omega), rd_rule l n hlt, e2 k (by omega), Option.bind_some, hw, e1]
  simp only [firstGo]
  have : ((n + 1 : Nat) : Int) = (n : Int) + 1 := by omega
  rw [this]
  cases aboutB a b c l[n] <;> simp
theorem spec_first {l : List Ru} (h : ∀ x ∈ l, ruleB x = true) (a b c : Int) (hl : l.length ≤ 1073741824) : (∃ K_, ∀ k, K_ ≤ k → spec_l4First.f k l a b c = some (firstF l a b c)) := spec_first_loop l h a b c hl l.length 0 (by omega)
/-- Is it a call? -/
def callB (a b c : Int) : Bool := inR a 0 4294967295 && (inR b 0 4294967295 && inR c 0 65535)
theorem impl_call (a b c : Int) : impl_isCall.f a b c = some (callB a b c) := by
 unfold impl_isCall.f callB
 rw [impl_addr, Option.bind_some, impl_addr, Option.bind_some, impl_inR, Option.bind_some]
 have g : ∀ x : Int, decide (0 ≤ x ∧ x ≤ 4294967295) = inR x 0 4294967295 := fun _ => rfl
 rw [g, g]
 cases inR a 0 4294967295 <;> cases inR b 0 4294967295 <;> simp
/-- What RulesFirst answers. -/
def rulesFirstF (l : List Ru) (a b c : Int) : Int := if rokB l = true ∧ callB a b c = true then firstF l a b c else -1
theorem impl_rulesFirst (l : List Ru) (a b c : Int) : (∃ K_, ∀ k, K_ ≤ k → impl_RulesFirst.f k l a b c = some (rulesFirstF l a b c)) := by
 obtain ⟨K1, e1⟩ := impl_rulesOk l
 refine ⟨K1, fun k hk => ?_⟩
 simp only [impl_RulesFirst.f]
 unfold rulesFirstF
 rw [e1 k hk, Option.bind_some, impl_call, Option.bind_some]
 cases h : rokB l with
 | false => simp
 | true =>
  rw [impl_first (rokB_valid h), Option.bind_some]
  cases callB a b c <;> simp
/-- Strictly rising. -/
def Rise (l : List Int) : Prop := l.Pairwise (fun a b => a < b)
theorem rise_ext : ∀ {l m : List Int}, Rise l → Rise m → (∀ x, x ∈ l ↔ x ∈ m) → l = m
 | [], [], _, _, _ => rfl
 | [], y :: m, _, _, h => by have := (h y).2 (List.mem_cons_self ..); cases this
 | x :: l, [], _, _, h => by have := (h x).1 (List.mem_cons_self ..); cases this
 | x :: l, y :: m, hl, hm, h => by
  obtain ⟨h1, h2⟩ := List.pairwise_cons.1 hl
  obtain ⟨h3, h4⟩ := List.pairwise_cons.1 hm
  have e : x = y := by
   have a := (h x).1 (List.mem_cons_self ..)
   have b := (h y).2 (List.mem_cons_self ..)
   rcases List.mem_cons.1 a with a | a
   ·exact a
   ·rcases List.mem_cons.1 b with b | b
    ·exact b.symm
    ·have := h1 y b; have := h3 x a; omega
  subst e
  rw [rise_ext h2 h4 (fun z => ?_)]
  constructor
  ·intro hz
   rcases List.mem_cons.1 ((h z).1 (List.mem_cons_of_mem _ hz)) with e | e
   ·have := h1 z hz; omega
   ·exact e
  ·intro hz
   rcases List.mem_cons.1 ((h z).2 (List.mem_cons_of_mem _ hz)) with e | e
   ·have := h3 z hz; omega
   ·exact e
/-- A number put among others. -/
def numF : List Int → Int → List Int
 | [], n => [n]
 | x :: l, n => if x < n then x :: numF l n else if x = n then x :: l else n :: x :: l
theorem mem_numF {n y : Int} : ∀ {l : List Int}, y ∈ numF l n ↔ y = n ∨ y ∈ l
 | [] => by simp [numF]
 | x :: l => by
  unfold numF
  split
  ·simp only [List.mem_cons, mem_numF (l := l)]
   constructor
   ·rintro (h | h | h) <;> simp [h]
   ·rintro (h | h | h) <;> simp [h]
  ·split
   ·rename_i e
    subst e
    simp
   ·simp
theorem rise_numF {n : Int} : ∀ {l : List Int}, Rise l → Rise (numF l n)
 | [], _ => List.pairwise_cons.2 ⟨by simp, List.Pairwise.nil⟩
 | x :: l, h => by
  obtain ⟨h1, h2⟩ := List.pairwise_cons.1 h
  unfold numF
  split
  ·refine List.pairwise_cons.2 ⟨fun z hz => ?_, rise_numF h2⟩
   rcases mem_numF.1 hz with e | e
   ·rw [e]; assumption
   ·exact h1 z e
  ·split
   ·exact h
   ·refine List.pairwise_cons.2 ⟨fun z hz => ?_, h⟩
    rcases List.mem_cons.1 hz with e | e
    ·omega
    ·have := h1 z e; omega
/-- Numbers, each put among those ahead of it. -/
def numsF (l ns : List Int) : List Int := ns.foldl numF l
theorem rise_numsF : ∀ {ns l : List Int}, Rise l → Rise (numsF l ns)
 | [], _, h => h
 | _ :: ns, _, h => rise_numsF (ns := ns) (rise_numF h)
theorem mem_numsF {y : Int} : ∀ {ns l : List Int}, y ∈ numsF l ns ↔ y ∈ l ∨ y ∈ ns
 | [], l => by simp [numsF]
 | n :: ns, l => by
  show y ∈ numsF (numF l n) ns ↔ _
  rw [mem_numsF, mem_numF]
  simp only [List.mem_cons]
  constructor
  ·rintro ((h | h) | h) <;> simp [h]
  ·rintro (h | h | h) <;> simp [h]
theorem rise_one (n : Int) : Rise [n] := List.pairwise_cons.2 ⟨by simp, List.Pairwise.nil⟩
/-- Sorted, each once. -/
def dedF : List Int → List Int
 | [] => []
 | [x] => [x]
 | x :: y :: l => if x = y then dedF (y :: l) else x :: dedF (y :: l)
theorem mem_ded {z : Int} : ∀ {l : List Int}, z ∈ dedF l ↔ z ∈ l
 | [] => by simp [dedF]
 | [x] => by simp [dedF]
 | x :: y :: l => by
  unfold dedF
  split
  ·rename_i e
   subst e
   rw [mem_ded]
   simp
  ·simp only [List.mem_cons, mem_ded (l := y :: l)]
theorem rise_ded : ∀ {l : List Int}, l.Pairwise (fun a b => a ≤ b) → Rise (dedF l)
 | [], _ => List.Pairwise.nil
 | [x], _ => rise_one x
 | x :: y :: l, h => by
  obtain ⟨h1, h2⟩ := List.pairwise_cons.1 h
  have ih := rise_ded h2
  unfold dedF
  split
  ·exact ih
  ·rename_i e
   refine List.pairwise_cons.2 ⟨fun z hz => ?_, ih⟩
   have hz' := mem_ded.1 hz
   have a := h1 y (List.mem_cons_self ..)
   rcases List.mem_cons.1 hz' with e2 | e2
   ·omega
   ·have := (List.pairwise_cons.1 h2).1 z e2
    omega
/-- Sorting, and each once, is putting one by one. -/
def sortF (l : List Int) : List Int := l.mergeSort fun x y => decide (x ≤ y)
theorem sortF_le (l : List Int) : (sortF l).Pairwise (fun a b => a ≤ b) := by
 have := List.pairwise_mergeSort (le := fun x y : Int => decide (x ≤ y)) (fun a b c h1 h2 => by simp only [decide_eq_true_eq] at *; omega) (fun a b => by simp only [Bool.or_eq_true, decide_eq_true_eq]; omega) l
 exact this.imp (fun h => by simpa using h)
theorem mem_sortF {l : List Int} {x : Int} : x ∈ sortF l ↔ x ∈ l := by unfold sortF; exact List.mem_mergeSort
theorem ded_sort {l m : List Int} (hm : Rise m) (h : ∀ x, x ∈ m ↔ x ∈ l) : dedF (sortF l) = m :=
 rise_ext (rise_ded (sortF_le l)) hm (fun x => by rw [mem_ded, mem_sortF, h])
/-- The last edge at or ahead of a number. -/
theorem edge_of {l : List Int} (hl : Rise l) {x : Int} : ∀ {e0 : Int}, e0 ∈ l → e0 ≤ x → ∃ e ∈ l, e ≤ x ∧ ∀ y ∈ l, y ≤ x → y ≤ e := by
 induction l with
 | nil => intro e0 h; cases h
 | cons a l ih =>
  intro e0 h0 h1
  obtain ⟨p, q⟩ := List.pairwise_cons.1 hl
  by_cases c : ∃ b ∈ l, b ≤ x
  ·obtain ⟨b, hb, hbx⟩ := c
   obtain ⟨e, he, h2, h3⟩ := ih q hb hbx
   refine ⟨e, List.mem_cons_of_mem _ he, h2, fun y hy hyx => ?_⟩
   rcases List.mem_cons.1 hy with ey | ey
   ·have := p e he; omega
   ·exact h3 y ey hyx
  ·have ha : a ≤ x := by
    rcases List.mem_cons.1 h0 with e | e
    ·omega
    ·exact absurd ⟨e0, e, h1⟩ c
   refine ⟨a, List.mem_cons_self .., ha, fun y hy hyx => ?_⟩
   rcases List.mem_cons.1 hy with ey | ey
   ·omega
   ·exact absurd ⟨y, ey, hyx⟩ c
def tailC (x : Int) (t : List Int) : List Int := ((List.range t.length).filter (fun j => decide ((x :: t)[j + 1]! ≠ (x :: t)[j]!))).map (fun j => (x :: t)[j + 1]!)
theorem tailC_cons (x y : Int) (l : List Int) : tailC x (y :: l) = (if y ≠ x then [y] else []) ++ tailC y l := by
 unfold tailC
 rw [List.length_cons, List.range_succ_eq_map, List.filter_cons, List.filter_map]
 by_cases e : y = x <;> simp [e, Function.comp_def]
theorem ded_tail : ∀ (x : Int) (t : List Int), dedF (x :: t) = x :: tailC x t
 | x, [] => rfl
 | x, y :: l => by
  unfold dedF
  rw [tailC_cons, ded_tail y l]
  by_cases e : x = y
  ·subst e; simp
  ·rw [if_neg e, if_pos (Ne.symm e)]; rfl
theorem compact_ded : ∀ l : List Int, Lib.compact l = dedF l
 | [] => rfl
 | x :: t => by
  rw [ded_tail]
  unfold Lib.compact Lib.compactUpTo tailC
  rw [List.length_cons, List.range_succ_eq_map, List.filter_cons]
  have h0 : Lib.keeps (x :: t).toArray 0 = true := by simp [Lib.keeps]
  have hs : ∀ j, Lib.keeps (x :: t).toArray (j + 1) = decide ((x :: t)[j + 1]! ≠ (x :: t)[j]!) := fun j => by simp [Lib.keeps]
  rw [h0, if_pos rfl, List.filter_map, List.map_cons, List.map_map]
  simp only [Function.comp_def, Nat.succ_eq_add_one, hs]
  simp
theorem numF_len (l : List Int) (n : Int) : (numF l n).length ≤ l.length + 1 := by
 induction l with
 | nil => simp [numF]
 | cons x l ih =>
  unfold numF
  split
  ·simp only [List.length_cons]; omega
  ·split
   ·simp only [List.length_cons]; omega
   ·simp only [List.length_cons]; omega
theorem rd_num (l : List Int) (n : Nat) (h : n < l.length) : rd l (n : Int) = l[n] := by
 unfold rd
 rw [List.getD_eq_getElem?_getD, Int.toNat_natCast, List.getElem?_eq_getElem h]
 rfl
theorem spec_num_loop (l : List Int) (v : Int) (hl : l.length ≤ 1000000000) (d : Nat) : ∀ n : Nat, n + d = l.length → (∃ K_, ∀ k, K_ ≤ k → spec_l3Num.l0 k l v (n : Int) = some (l.take n ++ numF (l.drop n) v)) := by
 induction d with
 | zero =>
  intro n hn
  refine ev1 ?_
  simp only [spec_l3Num.l0]
  have e : l.take n = l := List.take_of_length_le (by omega)
  have e2 : l.drop n = [] := List.drop_eq_nil_of_le (by omega)
  refine evN (by omega) (evS rfl (evP (by omega) (evP (by omega) ?_)))
  rw [Int.toNat_natCast, e, e2]
  refine evS rfl (evP (by simp; omega) (evS rfl (evS rfl (evP (by simp; omega) (evS rfl (evS rfl (evP (by simp; omega) (evR ?_))))))))
  simp [numF]
 | succ d ih =>
  intro n hn
  have hlt : n < l.length := by omega
  have hw : wrap64 ((n : Int) + 1) = ((n + 1 : Nat) : Int) := by rw [w64 (by omega)]; omega
  refine ev1 ?_
  simp only [spec_l3Num.l0]
  refine evP (by omega) (evP (by omega) ?_)
  rw [rd_num l n hlt, hw, List.drop_eq_getElem_cons hlt]
  refine evI (fun c => ?_) (fun c => ?_)
  ·have h := ih (n + 1) (by omega)
   rw [List.take_succ_eq_append_getElem hlt] at h
   simp only [numF, if_pos c]
   rw [List.append_assoc] at h
   exact h
  ·refine evI (fun c2 => ?_) (fun c2 => ?_)
   ·refine evR ?_
    simp only [numF, if_neg c, if_pos c2]
    rw [← List.drop_eq_getElem_cons hlt, List.take_append_drop]
   ·refine evS rfl (evP (by omega) ?_)
    rw [Int.toNat_natCast]
    refine evS rfl (evP (by simp; omega) (evS rfl (evS rfl (evP (by simp; omega) (evS rfl (evS rfl (evP (by simp; omega) (evR ?_))))))))
    simp only [numF, if_neg c, if_neg c2]
    rw [← List.drop_eq_getElem_cons hlt]
    simp
theorem spec_num (l : List Int) (v : Int) (hl : l.length ≤ 1000000000) : (∃ K_, ∀ k, K_ ≤ k → spec_l3Num.f k l v = some (numF l v)) := spec_num_loop l v hl l.length 0 (by omega)
/-- Where something may change about a block: where it begins, and behind its end. -/
def edgeB (b m : Int) : List Int := if b + sz m ≤ 4294967295 then [b, b + sz m] else [b]
theorem edgeB_len (b m : Int) : (edgeB b m).length ≤ 2 := by unfold edgeB; split <;> simp
theorem mem_edgeB {b m x : Int} : x ∈ edgeB b m ↔ x = b ∨ b + sz m ≤ 4294967295 ∧ x = b + sz m := by
 unfold edgeB
 split
 ·rename_i c; simp [c]
 ·rename_i c; simp [c]
theorem edgeB_in {b m x : Int} (h : bok b m) (hx : x ∈ edgeB b m) : 0 ≤ x ∧ x ≤ 4294967295 := by
 have := sz_pos m
 obtain ⟨h0, h1, _⟩ := h
 rcases mem_edgeB.1 hx with e | ⟨e, e2⟩ <;> omega
/-- A block has a number just if it has the last edge at or ahead of it. -/
theorem has_edge {b m x e : Int} (hx : x ≤ 4294967295) (he : e ≤ x) (h1 : b ≤ x → b ≤ e) (h2 : b + sz m ≤ 4294967295 → b + sz m ≤ x → b + sz m ≤ e) : hasB b m e = hasB b m x := by
 rw [Bool.eq_iff_iff, hasB_iff, hasB_iff]
 constructor
 ·rintro ⟨p, q⟩
  refine ⟨by omega, ?_⟩
  rcases Int.lt_or_le x (b + sz m) with r | r
  ·exact r
  ·have := h2 (by omega) r; omega
 ·rintro ⟨p, q⟩
  exact ⟨h1 p, by omega⟩
def edgesF (bs : List S43) : List Int := numsF [0] (bs.flatMap fun b => edgeB b.f0 b.f1)
theorem rise_edgesF (bs : List S43) : Rise (edgesF bs) := rise_numsF (rise_one 0)
theorem rd_bk (l : List S43) (n : Nat) (h : n < l.length) : rd_T43 l (n : Int) = l[n] := by
 unfold rd_T43
 rw [List.getD_eq_getElem?_getD, Int.toNat_natCast, List.getElem?_eq_getElem h]
 rfl
theorem sort_ded (l : List Int) (h0 : 0 < l.length) (h1 : l.length ≤ 1000000000) : ((slices_Sort_int.f l).bind fun t => (slices_Compact_int.f t).bind fun t => some t) = some (dedF (sortF l)) := by
 have hl : (sortF l).length = l.length := by unfold sortF; exact List.length_mergeSort _
 unfold slices_Sort_int.f
 rw [if_pos (by omega), if_pos (by omega), Option.bind_some]
 show ((slices_Compact_int.f (sortF l)).bind fun t => some t) = _
 unfold slices_Compact_int.f
 rw [if_pos (by omega), Option.bind_some, compact_ded]
theorem impl_bounds_loop (l : List S43) (hv : ∀ b ∈ l, bok b.f0 b.f1) (hl : l.length ≤ 100000000) (d : Nat) : ∀ (n : Nat) (acc : List Int), n + d = l.length → 0 < acc.length → acc.length + 2 * d ≤ 300000000 → (∃ K_, ∀ k, K_ ≤ k → impl_bounds.l0 k acc l (l.length : Int) (n : Int) = some (dedF (sortF (acc ++ (l.drop n).flatMap fun b => edgeB b.f0 b.f1)))) := by
 induction d with
 | zero =>
  intro n acc hn h0 ha
  refine ev1 ?_
  simp only [impl_bounds.l0]
  rw [List.drop_eq_nil_of_le (by omega), List.flatMap_nil, List.append_nil]
  exact evN (by omega) ⟨0, fun k _ => sort_ded acc h0 (by omega)⟩
 | succ d ih =>
  intro n acc hn h0 ha
  have hlt : n < l.length := by omega
  have hw : wrap64 ((n : Int) + 1) = ((n + 1 : Nat) : Int) := by rw [w64 (by omega)]; omega
  have hb := hv l[n] (List.getElem_mem hlt)
  have hs := sz_bd hb.2.2.1
  have hla := impl_last hb.1 (by have := hb.2.1; omega) hb.2.2.1 hb.2.2.2.1
  have hb2 := hb.2.1
  have hb1 := hb.1
  refine ev1 ?_
  simp only [impl_bounds.l0]
  rw [rd_bk l n hlt, hw, List.drop_eq_getElem_cons hlt, List.flatMap_cons]
  refine evP (by omega) (evP (by omega) (evP (by omega) (evP (by omega) (evS rfl (evS hla (evI (fun c => ?_) (fun c => ?_)))))))
  ·have e : wrap64 (l[n].f0 + sz l[n].f1 - 1 + 1) = l[n].f0 + sz l[n].f1 := by rw [w64 (by omega)]; omega
   have h := ih (n + 1) (acc ++ [l[n].f0] ++ [l[n].f0 + sz l[n].f1]) (by omega) (by simp) (by simp; omega)
   refine evS hla (evP (by simp; omega) ?_)
   rw [e]
   unfold edgeB
   rw [if_pos (by omega)]
   rw [List.append_assoc, List.append_assoc] at h
   rw [List.append_assoc]
   exact h
  ·have h := ih (n + 1) (acc ++ [l[n].f0]) (by omega) (by simp) (by simp; omega)
   unfold edgeB
   rw [if_neg (by omega)]
   rw [List.append_assoc] at h
   exact h
theorem impl_bounds (l : List S43) (hv : ∀ b ∈ l, bok b.f0 b.f1) (hl : l.length ≤ 100000000) : (∃ K_, ∀ k, K_ ≤ k → impl_bounds.f k l = some (edgesF l)) := by
 have h := impl_bounds_loop l hv hl l.length 0 [0] (by omega) (by simp) (by simp; omega)
 have e : dedF (sortF ([0] ++ (l.drop 0).flatMap fun b => edgeB b.f0 b.f1)) = edgesF l := ded_sort (rise_edgesF l) (fun x => by rw [edgesF, mem_numsF, List.drop_zero, List.mem_append])
 rw [e] at h
 exact h
def portE (x : Ru) : List Int := if x.f5 < 65535 then [x.f4, x.f5 + 1] else [x.f4]
def ruleE (d : Nat) (x : Ru) : List Int := if d = 0 then edgeB x.f2.f0 x.f2.f1 else if d = 1 then edgeB x.f3.f0 x.f3.f1 else portE x
def gridE (d : Nat) (l : List Ru) : List Int := numsF [0] (l.flatMap (ruleE d))
theorem numsF_app' (l a b : List Int) : numsF (numsF l a) b = numsF l (a ++ b) := by unfold numsF; rw [List.foldl_append]
theorem numsF_len' (ns : List Int) : ∀ l : List Int, (numsF l ns).length ≤ l.length + ns.length := by
 induction ns with
 | nil => intro l; exact Nat.le_refl _
 | cons n ns ih =>
  intro l
  have h := ih (numF l n)
  have h2 := numF_len l n
  show (numsF (numF l n) ns).length ≤ _
  simp only [List.length_cons]
  omega
theorem ruleE_len (d : Nat) (x : Ru) : (ruleE d x).length ≤ 2 := by
 unfold ruleE portE
 split
 ·exact edgeB_len _ _
 ·split
  ·exact edgeB_len _ _
  ·split <;> simp
theorem rulesE_len (d : Nat) : ∀ l : List Ru, (l.flatMap (ruleE d)).length ≤ 2 * l.length
 | [] => Nat.le_refl _
 | w :: l => by
  rw [List.flatMap_cons, List.length_append, List.length_cons]
  have := rulesE_len d l
  have h2 := ruleE_len d w
  omega
theorem gridE_len (d : Nat) (l : List Ru) : (gridE d l).length ≤ 2 * l.length + 1 := by
 have h1 := numsF_len' (l.flatMap (ruleE d)) [0]
 have h2 := rulesE_len d l
 unfold gridE
 simp only [List.length_singleton] at h1
 omega
theorem rise_gridE (d : Nat) (l : List Ru) : Rise (gridE d l) := rise_numsF (rise_one 0)
theorem mem_gridE {d : Nat} {l : List Ru} {x : Int} : x ∈ gridE d l ↔ x = 0 ∨ ∃ r ∈ l, x ∈ ruleE d r := by
 unfold gridE
 rw [mem_numsF, List.mem_flatMap, List.mem_singleton]
theorem grid0 (l : List Ru) : edgesF (l.map fun x => x.f2) = gridE 0 l := by
 unfold edgesF gridE
 rw [List.flatMap_map]
 rfl
theorem grid1 (l : List Ru) : edgesF (l.map fun x => x.f3) = gridE 1 l := by
 unfold edgesF gridE
 rw [List.flatMap_map]
 rfl
theorem ports_ded (l : List Ru) : dedF (sortF (0 :: l.flatMap portE)) = gridE 2 l := ded_sort (rise_gridE 2 l) (fun x => by
 unfold gridE
 rw [mem_numsF, List.mem_singleton, List.mem_cons]
 rfl)
theorem impl_axes_loop (l : List Ru) (hv : ∀ x ∈ l, ruleB x = true) (hl : l.length ≤ 1000000) (d : Nat) : ∀ (n : Nat) (fr tt : List S43) (po : List Int), n + d = l.length → fr = (l.take n).map (fun x => x.f2) → tt = (l.take n).map (fun x => x.f3) → po = 0 :: (l.take n).flatMap portE → (∃ K_, ∀ k, K_ ≤ k → impl_axesOf.l0 k fr tt po l (l.length : Int) (n : Int) = some (gridE 0 l, gridE 1 l, gridE 2 l)) := by
 induction d with
 | zero =>
  intro n fr tt po hn e1 e2 e3
  have ht : l.take n = l := List.take_of_length_le (by omega)
  rw [ht] at e1 e2 e3
  subst e1 e2 e3
  have hp : (0 :: l.flatMap portE).length ≤ 3000000 := by have := rulesE_len 2 l; simp only [List.length_cons]; have e : l.flatMap (ruleE 2) = l.flatMap portE := rfl; rw [e] at this; omega
  have hs : (sortF (0 :: l.flatMap portE)).length = (0 :: l.flatMap portE).length := by unfold sortF; exact List.length_mergeSort _
  have b1 := impl_bounds (l.map fun x => x.f2) (fun b hb => by obtain ⟨x, hx, rfl⟩ := List.mem_map.1 hb; exact (ruleB_blocks (hv x hx)).1) (by simp; omega)
  have b2 := impl_bounds (l.map fun x => x.f3) (fun b hb => by obtain ⟨x, hx, rfl⟩ := List.mem_map.1 hb; exact (ruleB_blocks (hv x hx)).2.1) (by simp; omega)
  refine ev1 ?_
  simp only [impl_axesOf.l0]
  have s1 : slices_Sort_int.f (0 :: l.flatMap portE) = some (sortF (0 :: l.flatMap portE)) := by
   unfold slices_Sort_int.f
   rw [if_pos (by simp only [List.length_cons]; omega), if_pos (by omega)]; rfl
  have s2 : slices_Compact_int.f (sortF (0 :: l.flatMap portE)) = some (gridE 2 l) := by
   unfold slices_Compact_int.f
   rw [if_pos (by rw [hs]; simp only [List.length_cons]; omega), compact_ded, ports_ded]
  refine evN (by omega) (evS s1 (evB b1 (evB b2 (evS s2 (evR ?_)))))
  rw [grid0, grid1]
 | succ d ih =>
  intro n fr tt po hn e1 e2 e3
  have hlt : n < l.length := by omega
  have hw : wrap64 ((n : Int) + 1) = ((n + 1 : Nat) : Int) := by rw [w64 (by omega)]; omega
  have hx := ruleB_blocks (hv _ (List.getElem_mem hlt))
  have l1 : fr.length ≤ 1000000 := by rw [e1]; simp; omega
  have l2 : tt.length ≤ 1000000 := by rw [e2]; simp; omega
  have l3 : po.length ≤ 3000000 := by
   have := rulesE_len 2 (l.take n)
   have e : (l.take n).flatMap (ruleE 2) = (l.take n).flatMap portE := rfl
   rw [e, List.length_take] at this
   rw [e3, List.length_cons]
   omega
  have t1 : fr ++ [l[n].f2] = (l.take (n + 1)).map (fun x => x.f2) := by rw [e1, List.take_succ_eq_append_getElem hlt, List.map_append]; rfl
  have t2 : tt ++ [l[n].f3] = (l.take (n + 1)).map (fun x => x.f3) := by rw [e2, List.take_succ_eq_append_getElem hlt, List.map_append]; rfl
  have t3 : po ++ portE l[n] = 0 :: (l.take (n + 1)).flatMap portE := by rw [e3, List.take_succ_eq_append_getElem hlt, List.flatMap_append]; simp
  refine ev1 ?_
  simp only [impl_axesOf.l0]
  rw [rd_rule l n hlt, hw]
  refine evP (by omega) (evP (by omega) (evP (by omega) (evS rfl (evP (by simp; omega) (evS rfl (evS rfl (evP (by simp; omega) (evS rfl (evS rfl (evP (by simp; omega) (evS rfl (evI (fun c => ?_) (fun c => ?_)))))))))))))
  ·have e5 : portE l[n] = [l[n].f4, wrap64 (l[n].f5 + 1)] := by unfold portE; rw [if_pos c, w64 (by omega)]
   refine evS rfl (evP (by simp; omega) (ih (n + 1) _ _ _ (by omega) t1 t2 ?_))
   rw [← t3, e5, List.append_assoc]
   rfl
  ·have e5 : portE l[n] = [l[n].f4] := by unfold portE; rw [if_neg c]
   refine ih (n + 1) _ _ _ (by omega) t1 t2 ?_
   rw [← t3, e5]
theorem impl_axes (l : List Ru) (hv : ∀ x ∈ l, ruleB x = true) (hl : l.length ≤ 1000000) : (∃ K_, ∀ k, K_ ≤ k → impl_axesOf.f k l = some (gridE 0 l, gridE 1 l, gridE 2 l)) := impl_axes_loop l hv hl l.length 0 [] [] [0] (by omega) rfl rfl rfl
theorem spec_edges_put (l : List Ru) (d : Nat) (out : List Int) (i a b most : Int) (es : List Int) (R : List Int) (he : es = if b < most then [a, b + 1] else [a]) (hb : -1 ≤ b ∧ b ≤ 4611686018427387904) (ho : out.length ≤ 100000000) (h : (∃ K_, ∀ k, K_ ≤ k → spec_l4Edges.l0 k l (d : Int) (numsF out es) (wrap64 (i + 1)) = some R)) :
  (∃ K_, ∀ k, K_ ≤ k → spec_l4Edges.j2 k l (d : Int) out i a b most = some R) := by
 have hl := numF_len out a
 refine ev1 ?_
 simp only [spec_l4Edges.j2]
 refine evB (spec_num _ _ (by omega)) (evI (fun c => ?_) (fun c => ?_))
 ·rw [w64 (n := b + 1) (by omega)]
  rw [if_pos c] at he
  subst he
  exact evB (spec_num _ _ (by omega)) h
 ·rw [if_neg c] at he
  subst he
  exact h
theorem spec_edges4_loop (l : List Ru) (d : Nat) (hd : d < 3) (hv : ∀ x ∈ l, ruleB x = true) (hl : l.length ≤ 1000000) (e : Nat) : ∀ (n : Nat) (out : List Int), n + e = l.length → out.length + 2 * e ≤ 10000000 → (∃ K_, ∀ k, K_ ≤ k → spec_l4Edges.l0 k l (d : Int) out (n : Int) = some (numsF out ((l.drop n).flatMap (ruleE d)))) := by
 induction e with
 | zero =>
  intro n out hn ho
  refine ev1 ?_
  simp only [spec_l4Edges.l0]
  rw [List.drop_eq_nil_of_le (by omega)]
  exact evN (by omega) (evR rfl)
 | succ e ih =>
  intro n out hn ho
  have hlt : n < l.length := by omega
  have hw : wrap64 ((n : Int) + 1) = ((n + 1 : Nat) : Int) := by rw [w64 (by omega)]; omega
  obtain ⟨h1, h2, h3, h4, h5⟩ := ruleB_blocks (hv _ (List.getElem_mem hlt))
  have s1 := sz_bd h1.2.2.1
  have s2 := sz_bd h2.2.2.1
  have L1 := spec_last (b := l[n].f2.f0) (m := l[n].f2.f1) (by have := h1.1; omega) (by have := h1.2.1; omega) h1.2.2.1 h1.2.2.2.1
  have L2 := spec_last (b := l[n].f3.f0) (m := l[n].f3.f1) (by have := h2.1; omega) (by have := h2.2.1; omega) h2.2.2.1 h2.2.2.2.1
  have b1 := h1.2.1
  have b2 := h2.2.1
  have a1 := h1.1
  have a2 := h2.1
  have hlen := numsF_len' (ruleE d l[n]) out
  have hle := ruleE_len d l[n]
  have hh := ih (n + 1) (numsF out (ruleE d l[n])) (by omega) (by omega)
  rw [numsF_app'] at hh
  rw [List.drop_eq_getElem_cons hlt, List.flatMap_cons]
  have H : (∃ K_, ∀ k, K_ ≤ k → spec_l4Edges.l0 k l (d : Int) (numsF out (ruleE d l[n])) (wrap64 ((n : Int) + 1)) = some (numsF out (ruleE d l[n] ++ (l.drop (n + 1)).flatMap (ruleE d)))) := by rw [hw]; exact hh
  refine ev1 ?_
  simp only [spec_l4Edges.l0]
  rw [rd_rule l n hlt]
  refine evP (by omega) (evP (by omega) ?_)
  rcases (show d = 0 ∨ d = 1 ∨ d = 2 by omega) with rfl | rfl | rfl
  ·refine evP rfl (evB L1 (ev1 ?_))
   simp only [spec_l4Edges.j1]
   refine evN (by omega) (spec_edges_put l 0 out n _ _ _ (ruleE 0 l[n]) _ ?_ (by omega) (by omega) H)
   unfold ruleE edgeB
   rw [if_pos rfl]
   by_cases c : l[n].f2.f0 + sz l[n].f2.f1 ≤ 4294967295
   ·rw [if_pos c, if_pos (by omega)]; congr 2; omega
   ·rw [if_neg c, if_neg (by omega)]
  ·refine evN (by omega) (ev1 ?_)
   simp only [spec_l4Edges.j1]
   rw [rd_rule l n hlt]
   refine evP rfl (evP (by omega) (evP (by omega) (evB L2 (spec_edges_put l 1 out n _ _ _ (ruleE 1 l[n]) _ ?_ (by omega) (by omega) H))))
   unfold ruleE edgeB
   rw [if_neg (by omega), if_pos rfl]
   by_cases c : l[n].f3.f0 + sz l[n].f3.f1 ≤ 4294967295
   ·rw [if_pos c, if_pos (by omega)]; congr 2; omega
   ·rw [if_neg c, if_neg (by omega)]
  ·refine evN (by omega) (ev1 ?_)
   simp only [spec_l4Edges.j1]
   refine evN (by omega) (spec_edges_put l 2 out n _ _ _ (ruleE 2 l[n]) _ ?_ (by omega) (by omega) H)
   unfold ruleE portE
   rw [if_neg (by omega), if_neg (by omega)]
theorem spec_of (a b : List Ru) (ha : ∀ x ∈ a, ruleB x = true) (hb : ∀ x ∈ b, ruleB x = true) (hla : a.length ≤ 1000000) (hlb : b.length ≤ 1000000) : (∃ K_, ∀ k, K_ ≤ k → spec_l4Of.f k a b = some (gridE 0 (a ++ b), gridE 1 (a ++ b), gridE 2 (a ++ b))) := by
 have two : ∀ d : Nat, d < 3 → (∃ K_, ∀ k, K_ ≤ k → spec_l4Edges.f k a (d : Int) [0] = some (gridE d a)) ∧ (∃ K_, ∀ k, K_ ≤ k → spec_l4Edges.f k b (d : Int) (gridE d a) = some (gridE d (a ++ b))) := fun d hd => by
  have hg := gridE_len d a
  have e1 := spec_edges4_loop a d hd ha hla a.length 0 [0] (by omega) (by simp; omega)
  have e2 := spec_edges4_loop b d hd hb hlb b.length 0 (gridE d a) (by omega) (by omega)
  have e3 : numsF (gridE d a) (b.flatMap (ruleE d)) = gridE d (a ++ b) := by unfold gridE; rw [numsF_app', List.flatMap_append]
  rw [List.drop_zero, e3] at e2
  exact ⟨e1, e2⟩
 obtain ⟨p0, q0⟩ := two 0 (by omega)
 obtain ⟨p1, q1⟩ := two 1 (by omega)
 obtain ⟨p2, q2⟩ := two 2 (by omega)
 simp only [spec_l4Of.f]
 exact evB p0 (evB q0 (evB p1 (evB q1 (evB p2 (evB q2 (evR rfl))))))
abbrev Pt := Int × Int × Int
def gridOf (xs ys zs : List Int) : List Pt := xs.flatMap fun a => ys.flatMap fun b => zs.map fun c => (a, b, c)
def gridF (l : List Ru) : List Pt := gridOf (gridE 0 l) (gridE 1 l) (gridE 2 l)
theorem mem_gridOf {xs ys zs : List Int} {p : Pt} : p ∈ gridOf xs ys zs ↔ p.1 ∈ xs ∧ p.2.1 ∈ ys ∧ p.2.2 ∈ zs := by
 unfold gridOf
 simp only [List.mem_flatMap, List.mem_map]
 constructor
 ·rintro ⟨a, ha, b, hb, c, hc, rfl⟩
  exact ⟨ha, hb, hc⟩
 ·rintro ⟨h1, h2, h3⟩
  exact ⟨_, h1, _, h2, _, h3, rfl⟩
theorem gridE_in {d : Nat} (hd : d < 3) {l : List Ru} (hv : ∀ x ∈ l, ruleB x = true) {x : Int} (hx : x ∈ gridE d l) : 0 ≤ x ∧ x ≤ (if d = 2 then 65535 else 4294967295) := by
 rcases mem_gridE.1 hx with e | ⟨r, hr, e⟩
 ·subst e; split <;> omega
 ·obtain ⟨h1, h2, h3, h4, h5⟩ := ruleB_blocks (hv r hr)
  rcases (show d = 0 ∨ d = 1 ∨ d = 2 by omega) with rfl | rfl | rfl
  ·exact edgeB_in h1 e
  ·exact edgeB_in h2 e
  ·have e : x ∈ portE r := e
   unfold portE at e
   simp only [if_true]
   split at e
   ·rcases List.mem_cons.1 e with e | e
    ·omega
    ·have := List.mem_singleton.1 e; omega
   ·have := List.mem_singleton.1 e; omega
def firstP (l : List Ru) (p : Pt) : Int := firstF l p.1 p.2.1 p.2.2
theorem firstGo_congr {α : Type} {q r : α → Bool} : ∀ (l : List α) (i : Int), (∀ x ∈ l, q x = r x) → firstGo q l i = firstGo r l i
 | [], _, _ => rfl
 | x :: l, i, h => by
  simp only [firstGo, h x (List.mem_cons_self ..)]
  rw [firstGo_congr l (i + 1) (fun y hy => h y (List.mem_cons_of_mem _ hy))]
theorem firstGo_range {α : Type} (q : α → Bool) : ∀ (l : List α) (i : Int), 0 ≤ i → firstGo q l i = -1 ∨ i ≤ firstGo q l i ∧ firstGo q l i < i + l.length
 | [], _, _ => .inl rfl
 | x :: l, i, h => by
  unfold firstGo
  split
  ·exact .inr ⟨Int.le_refl _, by simp only [List.length_cons]; omega⟩
  ·rcases firstGo_range q l (i + 1) (by omega) with e | ⟨e1, e2⟩
   ·exact .inl e
   ·exact .inr ⟨by omega, by simp only [List.length_cons]; omega⟩
theorem firstP_range (l : List Ru) (p : Pt) : firstP l p = -1 ∨ 0 ≤ firstP l p ∧ firstP l p < l.length := by
 have := firstGo_range (aboutB p.1 p.2.1 p.2.2) l 0 (Int.le_refl _)
 rw [Int.zero_add] at this
 exact this
def foldG {σ : Type} (q : σ → Pt → σ × Bool) : List Pt → σ → σ × Bool
 | [], s => (s, true)
 | p :: ps, s => if (q s p).2 = true then foldG q ps (q s p).1 else ((q s p).1, false)
theorem foldG_app {σ : Type} (q : σ → Pt → σ × Bool) : ∀ (a b : List Pt) (s : σ), foldG q (a ++ b) s = if (foldG q a s).2 = true then foldG q b (foldG q a s).1 else ((foldG q a s).1, false)
 | [], b, s => by simp [foldG]
 | p :: a, b, s => by
  simp only [List.cons_append, foldG]
  by_cases c : (q s p).2 = true
  ·simp [c, foldG_app q a b]
  ·simp [c]
abbrev Ce := S80
/-- The end of the part of a grid that begins at a place. -/
def endF (xs : List Int) (i : Nat) (m : Int) : Int := if h : i + 1 < xs.length then xs[i + 1] - 1 else m
theorem impl_end (xs : List Int) (hx : ∀ x ∈ xs, 0 ≤ x ∧ x ≤ 4294967296) (hl : xs.length ≤ 100000000) (i : Nat) (hi : i < xs.length) (m : Int) : impl_end.f xs (i : Int) m = some (endF xs i m) := by
 have hw : wrap64 ((i : Int) + 1) = ((i + 1 : Nat) : Int) := by rw [w64 (by omega)]; omega
 unfold impl_end.f endF
 rw [hw]
 by_cases c : i + 1 < xs.length
 ·have hm := hx _ (List.getElem_mem c)
  rw [if_pos (by omega), if_pos (by omega), rd_num xs (i + 1) c, w64 (by omega), dif_pos c]
 ·rw [if_neg (by omega), dif_neg c]
theorem spec_to (xs : List Int) (hx : ∀ x ∈ xs, 0 ≤ x ∧ x ≤ 4294967296) (hl : xs.length ≤ 100000000) (i : Nat) (hi : i < xs.length) (m : Int) : spec_l5To.f xs (i : Int) m = some (endF xs i m) := by
 have hw : wrap64 ((i : Int) + 1) = ((i + 1 : Nat) : Int) := by rw [w64 (by omega)]; omega
 unfold spec_l5To.f endF
 rw [hw]
 by_cases c : i + 1 < xs.length
 ·have hm := hx _ (List.getElem_mem c)
  rw [if_pos (by omega), if_pos (by omega), rd_num xs (i + 1) c, w64 (by omega), dif_pos c]
 ·rw [if_neg (by omega), dif_neg c]
/-- What lies ahead of the next edge behind a number. -/
def nxF : List Int → Int → Int → Int
 | [], _, m => m
 | x :: xs, a, m => if a < x then x - 1 else nxF xs a m
theorem nx_end : ∀ (xs : List Int) (m : Int), Rise xs → ∀ (i : Nat) (h : i < xs.length), nxF xs xs[i] m = endF xs i m
 | [], _, _, _, h => absurd h (by simp)
 | [x], m, _, 0, _ => by simp [nxF, endF]
 | x :: y :: xs, m, hr, 0, _ => by
  have := (List.pairwise_cons.1 hr).1 y (List.mem_cons_self ..)
  simp only [List.getElem_cons_zero, nxF, endF]
  rw [if_neg (by omega), if_pos this, dif_pos (by simp)]
  rfl
 | x :: xs, m, hr, i + 1, h => by
  have hi : i < xs.length := by simpa using h
  have := (List.pairwise_cons.1 hr).1 xs[i] (List.getElem_mem hi)
  have ih := nx_end xs m (List.pairwise_cons.1 hr).2 i hi
  simp only [List.getElem_cons_succ, nxF]
  rw [if_neg (by omega), ih]
  unfold endF
  by_cases c : i + 1 < xs.length
  ·rw [dif_pos c, dif_pos (by simp only [List.length_cons]; omega)]; rfl
  ·rw [dif_neg c, dif_neg (by simp only [List.length_cons]; omega)]
theorem nx_lt {m : Int} : ∀ {xs : List Int} {a y : Int}, Rise xs → y ∈ xs → a < y → nxF xs a m < y
 | x :: xs, a, y, hr, hy, h => by
  unfold nxF
  split
  ·rcases List.mem_cons.1 hy with rfl | hy
   ·omega
   ·have := (List.pairwise_cons.1 hr).1 y hy; omega
  ·rcases List.mem_cons.1 hy with rfl | hy
   ·omega
   ·exact nx_lt (List.pairwise_cons.1 hr).2 hy h
theorem nx_ge {m a : Int} (h : a ≤ m) : ∀ xs : List Int, a ≤ nxF xs a m
 | [] => h
 | x :: xs => by
  unfold nxF
  split
  ·omega
  ·exact nx_ge h xs
theorem nx_le {m a : Int} : ∀ {xs : List Int}, (∀ x ∈ xs, x ≤ m + 1) → nxF xs a m ≤ m
 | [], _ => Int.le_refl _
 | x :: xs, h => by
  unfold nxF
  split
  ·have := h x (List.mem_cons_self ..); omega
  ·exact nx_le (fun y hy => h y (List.mem_cons_of_mem _ hy))
/-- What a point of the grid gives, and all points together. -/
def cellOf (l : List Ru) (p : Pt) : Ce := ⟨p.1, nxF (gridE 0 l) p.1 4294967295, p.2.1, nxF (gridE 1 l) p.2.1 4294967295, p.2.2, nxF (gridE 2 l) p.2.2 65535, firstP l p⟩
def cellsG (l : List Ru) (ps : List Pt) (s : List Ce) : List Ce := ps.foldl (fun s p => (cellF s (cellOf l p)).1) s
def cellsR (l : List Ru) : List Ce × Bool := if rokB l = true then (if (cellsG l (gridF l) []).length > 400 then ([], false) else (cellsG l (gridF l) [], true)) else ([], false)
theorem cellF_len (s : List Ce) (x : Ce) : s.length ≤ (cellF s x).1.length ∧ (cellF s x).1.length ≤ s.length + 1 := by
 unfold cellF
 split
 ·simp
 ·split
  ·simp
  ·simp
theorem cellF_go {s : List Ce} {x : Ce} (h : (cellF s x).2 = true) (hs : s.length ≤ 400) : (cellF s x).1.length ≤ 400 := by
 unfold cellF at h ⊢
 split
 ·exact hs
 ·split
  ·simpa using hs
  ·rename_i c1 c2
   rw [if_neg c1, if_neg c2, decide_eq_true_eq] at h
   simpa using h
theorem cellF_stop {s : List Ce} {x : Ce} (h : (cellF s x).2 = false) : (cellF s x).1.length > 400 := by
 unfold cellF at h ⊢
 split
 ·rename_i c1; rw [if_pos c1] at h; cases h
 ·rename_i c1
  split
  ·rename_i c2; rw [if_neg c1, if_pos c2] at h; cases h
  ·rename_i c2
   rw [if_neg c1, if_neg c2, decide_eq_false_iff_not] at h
   simp only [List.length_append, List.length_singleton]
   omega
theorem cellsG_len (l : List Ru) : ∀ (ps : List Pt) (s : List Ce), s.length ≤ (cellsG l ps s).length ∧ (cellsG l ps s).length ≤ s.length + ps.length
 | [], s => ⟨Nat.le_refl _, Nat.le_refl _⟩
 | p :: ps, s => by
  have h := cellsG_len l ps (cellF s (cellOf l p)).1
  have h2 := cellF_len s (cellOf l p)
  show s.length ≤ (cellsG l ps (cellF s (cellOf l p)).1).length ∧ (cellsG l ps (cellF s (cellOf l p)).1).length ≤ s.length + (p :: ps).length
  simp only [List.length_cons]
  omega
/-- A fold that ends where there are more than 400 comes to all, or to more than 400. -/
theorem fold_cells (l : List Ru) : ∀ (ps : List Pt) (s : List Ce), s.length ≤ 400 → let r := foldG (fun s p => cellF s (cellOf l p)) ps s; (r.1 = cellsG l ps s ∧ r.1.length ≤ 400) ∨ (r.1.length > 400 ∧ (cellsG l ps s).length > 400)
 | [], s, h => .inl ⟨rfl, h⟩
 | p :: ps, s, h => by
  simp only [foldG]
  by_cases c : (cellF s (cellOf l p)).2 = true
  ·rw [if_pos c]
   exact fold_cells l ps _ (cellF_go c h)
  ·rw [if_neg c]
   have h1 := cellF_stop (Bool.eq_false_iff.2 c)
   have h2 := (cellsG_len l ps (cellF s (cellOf l p)).1).1
   exact .inr ⟨h1, by show (cellsG l ps (cellF s (cellOf l p)).1).length > 400; omega⟩
section
variable {σ : Type} {p : σ → Int → Int → Int → Int → Int → Int → Option (σ × Bool)} {q : σ → Pt → σ × Bool} {Inv : σ → Prop}
theorem cornZ_at (i k a b : Int) (zs : List Int) (h : ∀ m (hm : m < zs.length) s, Inv s → p s i k m a b zs[m] = some (q s (a, b, zs[m])) ∧ ((q s (a, b, zs[m])).2 = true → Inv (q s (a, b, zs[m])).1)) (d : Nat) :
  ∀ n s, n + d = zs.length → Inv s → cornZ p i k a b (zs.drop n) n s = some (foldG q ((zs.drop n).map fun c => (a, b, c)) s) ∧ ((foldG q ((zs.drop n).map fun c => (a, b, c)) s).2 = true → Inv (foldG q ((zs.drop n).map fun c => (a, b, c)) s).1) := by
 induction d with
 | zero =>
  intro n s hn hs
  rw [List.drop_eq_nil_of_le (by omega)]
  exact ⟨rfl, fun _ => hs⟩
 | succ d ih =>
  intro n s hn hs
  have hlt : n < zs.length := by omega
  obtain ⟨e1, e2⟩ := h n hlt s hs
  rw [List.drop_eq_getElem_cons hlt]
  simp only [cornZ, List.map_cons, foldG]
  rw [e1, Option.bind_some]
  by_cases c : (q s (a, b, zs[n])).2 = true
  ·rw [if_pos c, if_pos c]
   have := ih (n + 1) _ (by omega) (e2 c)
   rw [show ((n + 1 : Nat) : Int) = (n : Int) + 1 by omega] at this
   exact this
  ·rw [if_neg c, if_neg c]
   exact ⟨rfl, fun e => by cases e⟩
theorem cornY_at (zs ys : List Int) (i a : Int) (h : ∀ j (hj : j < ys.length) m (hm : m < zs.length) s, Inv s → p s i j m a ys[j] zs[m] = some (q s (a, ys[j], zs[m])) ∧ ((q s (a, ys[j], zs[m])).2 = true → Inv (q s (a, ys[j], zs[m])).1)) (d : Nat) :
  ∀ n s, n + d = ys.length → Inv s → cornY p zs i a (ys.drop n) n s = some (foldG q ((ys.drop n).flatMap fun b => zs.map fun c => (a, b, c)) s) ∧ ((foldG q ((ys.drop n).flatMap fun b => zs.map fun c => (a, b, c)) s).2 = true → Inv (foldG q ((ys.drop n).flatMap fun b => zs.map fun c => (a, b, c)) s).1) := by
 induction d with
 | zero =>
  intro n s hn hs
  rw [List.drop_eq_nil_of_le (by omega)]
  exact ⟨rfl, fun _ => hs⟩
 | succ d ih =>
  intro n s hn hs
  have hlt : n < ys.length := by omega
  obtain ⟨e1, e2⟩ := cornZ_at i n a ys[n] zs (h n hlt) zs.length 0 s (by omega) hs
  rw [List.drop_zero] at e1 e2
  rw [List.drop_eq_getElem_cons hlt]
  simp only [cornY, List.flatMap_cons]
  rw [show (0 : Int) = ((0 : Nat) : Int) from rfl, e1, Option.bind_some, foldG_app]
  by_cases c : (foldG q (zs.map fun c => (a, ys[n], c)) s).2 = true
  ·rw [if_pos c, if_pos c]
   have := ih (n + 1) _ (by omega) (e2 c)
   rw [show ((n + 1 : Nat) : Int) = (n : Int) + 1 by omega] at this
   exact this
  ·rw [if_neg c, if_neg c]
   exact ⟨rfl, fun e => by cases e⟩
theorem cornX_at (zs ys xs : List Int) (h : ∀ i (hi : i < xs.length) j (hj : j < ys.length) m (hm : m < zs.length) s, Inv s → p s i j m xs[i] ys[j] zs[m] = some (q s (xs[i], ys[j], zs[m])) ∧ ((q s (xs[i], ys[j], zs[m])).2 = true → Inv (q s (xs[i], ys[j], zs[m])).1)) (d : Nat) :
  ∀ n s, n + d = xs.length → Inv s → cornX p zs ys (xs.drop n) n s = some (foldG q (gridOf (xs.drop n) ys zs) s) := by
 induction d with
 | zero =>
  intro n s hn hs
  rw [List.drop_eq_nil_of_le (by omega)]
  rfl
 | succ d ih =>
  intro n s hn hs
  have hlt : n < xs.length := by omega
  obtain ⟨e1, e2⟩ := cornY_at zs ys n xs[n] (h n hlt) ys.length 0 s (by omega) hs
  rw [List.drop_zero] at e1 e2
  rw [List.drop_eq_getElem_cons hlt]
  have e : gridOf (xs[n] :: xs.drop (n + 1)) ys zs = (ys.flatMap fun b => zs.map fun c => (xs[n], b, c)) ++ gridOf (xs.drop (n + 1)) ys zs := by unfold gridOf; rw [List.flatMap_cons]
  simp only [cornX]
  rw [show (0 : Int) = ((0 : Nat) : Int) from rfl, e1, Option.bind_some, e, foldG_app]
  by_cases c : (foldG q (ys.flatMap fun b => zs.map fun c => (xs[n], b, c)) s).2 = true
  ·rw [if_pos c, if_pos c]
   have := ih (n + 1) _ (by omega) (e2 c)
   rw [show ((n + 1 : Nat) : Int) = (n : Int) + 1 by omega] at this
   exact this
  ·rw [if_neg c, if_neg c]
end
theorem gridE_bd {d : Nat} (hd : d < 3) {l : List Ru} (hv : ∀ x ∈ l, ruleB x = true) : ∀ x ∈ gridE d l, 0 ≤ x ∧ x ≤ 4294967296 := fun x hx => by
 have h := gridE_in hd hv hx
 split at h <;> omega
theorem impl_cells (l : List Ru) : (∃ K_, ∀ k, K_ ≤ k → impl_Cells.f k l = some (cellsR l)) := by
 simp only [impl_Cells.f]
 refine evB (impl_rulesOk l) (evI (fun c => ?_) (fun c => evR ?_))
 ·have hv := rokB_valid c
  have h8 := rokB_len c
  have g0 := gridE_len 0 l
  have g1 := gridE_len 1 l
  have g2 := gridE_len 2 l
  have hX := cornX_at (p := impl_Cells.p l (gridE 0 l) (gridE 1 l) (gridE 2 l)) (q := fun s p => cellF s (cellOf l p)) (Inv := fun s => s.length ≤ 400) (gridE 2 l) (gridE 1 l) (gridE 0 l) (fun i hi j hj m hm s hs => by
   refine ⟨?_, fun e => cellF_go e hs⟩
   unfold impl_Cells.p
   rw [impl_first hv, Option.bind_some, impl_end _ (gridE_bd (by omega) hv) (by omega) i hi, Option.bind_some, impl_end _ (gridE_bd (by omega) hv) (by omega) j hj, Option.bind_some, impl_end _ (gridE_bd (by omega) hv) (by omega) m hm, Option.bind_some, if_pos (by omega)]
   unfold cellOf
   rw [nx_end _ _ (rise_gridE 0 l) i hi, nx_end _ _ (rise_gridE 1 l) j hj, nx_end _ _ (rise_gridE 2 l) m hm]
   rfl) (gridE 0 l).length 0 [] (by omega) (by simp)
  rw [List.drop_zero] at hX
  refine evP (by omega) (evB (impl_axes l hv (by omega)) (evP ⟨by simp only []; omega, by simp only []; omega, by simp only []; omega⟩ (evS hX ?_)))
  unfold cellsR
  rw [if_pos c]
  rcases fold_cells l (gridF l) [] (by simp) with ⟨e1, e2⟩ | ⟨e1, e2⟩
  ·rw [show gridF l = gridOf (gridE 0 l) (gridE 1 l) (gridE 2 l) from rfl] at e1 e2
   refine evN (by omega) (evR ?_)
   rw [if_neg (by rw [show gridF l = gridOf (gridE 0 l) (gridE 1 l) (gridE 2 l) from rfl, ← e1]; omega), show gridF l = gridOf (gridE 0 l) (gridE 1 l) (gridE 2 l) from rfl, ← e1]
  ·rw [show gridF l = gridOf (gridE 0 l) (gridE 1 l) (gridE 2 l) from rfl] at e1 e2
   refine evP e1 (evR ?_)
   rw [if_pos (show (cellsG l (gridF l) []).length > 400 from e2)]
 ·unfold cellsR
  rw [if_neg c]
theorem cellsR_len' (l : List Ru) : (cellsR l).1.length ≤ 400 := by
 unfold cellsR
 split
 ·split
  ·simp
  ·simp only []; omega
 ·simp
def JO (l : List Ru) (s : List Ce) : Prop := ∀ x ∈ s, x.f1 = nxF (gridE 0 l) x.f0 4294967295 ∧ x.f3 = nxF (gridE 1 l) x.f2 4294967295
theorem rd_cell (l : List Ce) (n : Nat) (h : n < l.length) : rd_T80 l (n : Int) = l[n] := by
 unfold rd_T80
 rw [List.getD_eq_getElem?_getD, Int.toNat_natCast, List.getElem?_eq_getElem h]
 rfl
theorem rd_cell' (l : List Ce) (h : 0 < l.length) : ∃ h2 : l.length - 1 < l.length, rd_T80 l ((l.length : Int) - 1) = l[l.length - 1] := by
 refine ⟨by omega, ?_⟩
 rw [show (l.length : Int) - 1 = ((l.length - 1 : Nat) : Int) by omega]
 exact rd_cell l _ (by omega)
theorem JO.step {l : List Ru} {s : List Ce} (h : JO l s) (p : Pt) : JO l (cellF s (cellOf l p)).1 := by
 unfold cellF
 split
 ·exact h
 ·split
  ·rename_i c1 c2
   obtain ⟨h2, hz⟩ := rd_cell' s c2.1
   intro x hx
   rcases List.mem_or_eq_of_mem_set hx with hx | rfl
   ·exact h x hx
   ·simp only []
    rw [hz]
    exact h _ (List.getElem_mem _)
  ·intro x hx
   rcases List.mem_append.1 hx with hx | hx
   ·exact h x hx
   ·obtain rfl := List.mem_singleton.1 hx
    exact ⟨rfl, rfl⟩
theorem spec_join {l : List Ru} {s : List Ce} {X Y Z : List Int} (hX : X = gridE 0 l) (hY : Y = gridE 1 l) (hZ : Z = gridE 2 l) (h : JO l s) (hl : s.length ≤ 1000000000) (p : Pt) (hp : 0 ≤ firstP l p) :
  spec_l5Join.f s p.1 (nxF X p.1 4294967295) p.2.1 (nxF Y p.2.1 4294967295) p.2.2 (nxF Z p.2.2 65535) (firstP l p) = some (cellF s (cellOf l p)).1 := by
 subst hX hY hZ
 have hw : wrap64 ((s.length : Int) - 1) = (s.length : Int) - 1 := w64 (by omega)
 have hn : ¬ (cellOf l p).f6 < 0 := by show ¬ firstP l p < 0; omega
 unfold spec_l5Join.f cellF
 rw [if_neg hn, hw]
 by_cases c : 0 < s.length
 ·obtain ⟨h2, hz⟩ := rd_cell' s c
  have hm : s[s.length - 1] ∈ s := List.getElem_mem _
  have hj := h _ hm
  rw [← hz] at hj
  have ht : ((s.length : Int) - 1).toNat = s.length - 1 := by omega
  rw [if_pos (by omega), if_pos (by omega), if_pos (by omega), ht]
  generalize rd_T80 s ((s.length : Int) - 1) = z at hj hz ⊢
  have hB : joinB s (cellOf l p) ↔ z.f6 = firstP l p ∧ z.f0 = p.1 ∧ z.f2 = p.2.1 ∧ wrap64 (z.f5 + 1) = p.2.2 := by
   obtain ⟨_, hz'⟩ := rd_cell' s c
   unfold joinB
   rw [hz', ← hz]
   simp only [cellOf]
   constructor
   ·rintro ⟨_, a, _, b, _, e, f⟩
    exact ⟨e, a, b, f⟩
   ·rintro ⟨e, a, b, f⟩
    exact ⟨c, a, by rw [hj.1, a], b, by rw [hj.2, b], e, f⟩
  by_cases c1 : z.f6 = firstP l p
  ·by_cases c2 : z.f0 = p.1
   ·by_cases c3 : z.f2 = p.2.1
    ·by_cases c4 : wrap64 (z.f5 + 1) = p.2.2
     ·rw [if_pos c1, if_pos c2, if_pos c3, if_pos c4, if_pos (hB.2 ⟨c1, c2, c3, c4⟩)]
      rfl
     ·rw [if_pos c1, if_pos c2, if_pos c3, if_neg c4, if_neg (fun q => c4 (hB.1 q).2.2.2), if_pos (by omega)]
      rfl
    ·rw [if_pos c1, if_pos c2, if_neg c3, if_neg (fun q => c3 (hB.1 q).2.2.1), if_pos (by omega)]
     rfl
   ·rw [if_pos c1, if_neg c2, if_neg (fun q => c2 (hB.1 q).2.1), if_pos (by omega)]
    rfl
  ·rw [if_neg c1, if_neg (fun q => c1 (hB.1 q).1), if_pos (by omega)]
   rfl
 ·rw [if_neg (by omega), if_pos (by omega), if_neg (fun q : joinB s (cellOf l p) => c q.1)]
  rfl
section
variable {l : List Ru} (hv : ∀ x ∈ l, ruleB x = true) (h8 : l.length ≤ 8) {X Y Z : List Int} (hX : X = gridE 0 l) (hY : Y = gridE 1 l) (hZ : Z = gridE 2 l)
include hv h8 hX hY hZ
theorem cells_l2 (i j : Nat) (hi : i < X.length) (hj : j < Y.length) (T : List Pt) (h : ∀ s, JO l s → s.length + T.length ≤ 1000000 → (∃ K_, ∀ k, K_ ≤ k → spec_l5Cells.l1 k l s (i : Int) (wrap64 ((j : Int) + 1)) X Y Z = some (cellsG l T s))) (d : Nat) :
  ∀ (n : Nat) (s : List Ce), n + d = Z.length → JO l s → s.length + d + T.length ≤ 1000000 → (∃ K_, ∀ k, K_ ≤ k → spec_l5Cells.l2 k l s (i : Int) (j : Int) (n : Int) X Y Z = some (cellsG l (((Z.drop n).map fun c => ((X[i], Y[j], c) : Pt)) ++ T) s)) := by
 have g0 : X.length ≤ 2 * l.length + 1 := by rw [hX]; exact gridE_len 0 l
 have g1 : Y.length ≤ 2 * l.length + 1 := by rw [hY]; exact gridE_len 1 l
 have g2 : Z.length ≤ 2 * l.length + 1 := by rw [hZ]; exact gridE_len 2 l
 have bX : ∀ x ∈ X, 0 ≤ x ∧ x ≤ 4294967296 := by rw [hX]; exact gridE_bd (by decide) hv
 have bY : ∀ x ∈ Y, 0 ≤ x ∧ x ≤ 4294967296 := by rw [hY]; exact gridE_bd (by decide) hv
 have bZ : ∀ x ∈ Z, 0 ≤ x ∧ x ≤ 4294967296 := by rw [hZ]; exact gridE_bd (by decide) hv
 have rX : Rise X := by rw [hX]; exact rise_gridE 0 l
 have rY : Rise Y := by rw [hY]; exact rise_gridE 1 l
 have rZ : Rise Z := by rw [hZ]; exact rise_gridE 2 l
 have lX : X.length ≤ 100000000 := by omega
 have lY : Y.length ≤ 100000000 := by omega
 have lZ : Z.length ≤ 100000000 := by omega
 have l8 : l.length ≤ 1073741824 := by omega
 induction d with
 | zero =>
  intro n s hn hs hb
  refine ev1 ?_
  simp only [spec_l5Cells.l2]
  rw [List.drop_eq_nil_of_le (by omega)]
  exact evN (by omega) (h s hs (by omega))
 | succ d ih =>
  intro n s hn hs hb
  have hlt : n < Z.length := by omega
  have hw : wrap64 ((n : Int) + 1) = ((n + 1 : Nat) : Int) := by rw [w64 (by omega)]; omega
  obtain ⟨s1, hs1⟩ : ∃ s1, s1 = (cellF s (cellOf l (X[i], Y[j], Z[n]))).1 := ⟨_, rfl⟩
  have hc := cellF_len s (cellOf l (X[i], Y[j], Z[n]))
  have hj1 := hs.step (X[i], Y[j], Z[n])
  rw [← hs1] at hc hj1
  have ih' := ih (n + 1) s1 (by omega) hj1 (by omega)
  have e2 : cellsG l (((X[i], Y[j], Z[n]) : Pt) :: (((Z.drop (n + 1)).map fun c => ((X[i], Y[j], c) : Pt)) ++ T)) s = cellsG l (((Z.drop (n + 1)).map fun c => ((X[i], Y[j], c) : Pt)) ++ T) s1 := by rw [hs1]; rfl
  rw [List.drop_eq_getElem_cons hlt, List.map_cons, List.cons_append, e2]
  refine ev1 ?_
  simp only [spec_l5Cells.l2]
  rw [rd_num _ i hi, rd_num _ j hj, rd_num _ n hlt, hw]
  refine evP (show (n : Int) < (Z.length : Int) by omega) ?_
  refine evP (show 0 ≤ (i : Int) by omega) ?_
  refine evP (show (i : Int) < (X.length : Int) by omega) ?_
  refine evP (show 0 ≤ (j : Int) by omega) ?_
  refine evP (show (j : Int) < (Y.length : Int) by omega) ?_
  refine evP (c := 0 ≤ (n : Int)) (Int.natCast_nonneg n) ?_
  have hsl : s.length ≤ 1000000000 := by omega
  refine evB (spec_first hv X[i] Y[j] Z[n] l8) ?_
  refine evI (fun c => ?_) (fun c => ?_)
  ·refine evS (spec_to X bX lX i hi _) (evS (spec_to Y bY lY j hj _) (evS (spec_to Z bZ lZ n hlt _) ?_))
   rw [← nx_end X _ rX i hi, ← nx_end Y _ rY j hj, ← nx_end Z _ rZ n hlt]
   have hjn := spec_join hX hY hZ hs hsl (X[i], Y[j], Z[n]) c
   rw [← hs1] at hjn
   exact evS hjn ih'
  ·have e : s1 = s := by
    rw [hs1]
    unfold cellF
    exact congrArg Prod.fst (if_pos (show firstF l X[i] Y[j] Z[n] < 0 from Int.not_le.1 c))
   rw [e] at ih' ⊢
   exact ih'
theorem cells_l1 (i : Nat) (hi : i < X.length) (T : List Pt) (h : ∀ s, JO l s → s.length + T.length ≤ 1000000 → (∃ K_, ∀ k, K_ ≤ k → spec_l5Cells.l0 k l s (wrap64 ((i : Int) + 1)) X Y Z = some (cellsG l T s))) (d : Nat) :
  ∀ (n : Nat) (s : List Ce), n + d = Y.length → JO l s → s.length + d * Z.length + T.length ≤ 1000000 → (∃ K_, ∀ k, K_ ≤ k → spec_l5Cells.l1 k l s (i : Int) (n : Int) X Y Z = some (cellsG l (((Y.drop n).flatMap fun y => Z.map fun c => ((X[i], y, c) : Pt)) ++ T) s)) := by
 have g0 : X.length ≤ 2 * l.length + 1 := by rw [hX]; exact gridE_len 0 l
 have g1 : Y.length ≤ 2 * l.length + 1 := by rw [hY]; exact gridE_len 1 l
 have g2 : Z.length ≤ 2 * l.length + 1 := by rw [hZ]; exact gridE_len 2 l
 induction d with
 | zero =>
  intro n s hn hs hb
  refine ev1 ?_
  simp only [spec_l5Cells.l1]
  rw [List.drop_eq_nil_of_le (by omega)]
  exact evN (by omega) (h s hs (by omega))
 | succ d ih =>
  intro n s hn hs hb
  have hlt : n < Y.length := by omega
  have hw : wrap64 ((n : Int) + 1) = ((n + 1 : Nat) : Int) := by rw [w64 (by omega)]; omega
  rw [Nat.succ_mul] at hb
  rw [List.drop_eq_getElem_cons hlt, List.flatMap_cons, List.append_assoc]
  refine ev1 ?_
  simp only [spec_l5Cells.l1]
  refine evP (by omega) ?_
  have fl : (((Y.drop (n + 1)).flatMap fun y => Z.map fun c => ((X[i], y, c) : Pt)) ++ T).length = d * Z.length + T.length := by
   rw [List.length_append, List.length_flatMap]
   simp only [List.length_map, List.map_const', List.sum_replicate_nat, List.length_drop]
   rw [show Y.length - (n + 1) = d by omega]
  have e := cells_l2 hv h8 hX hY hZ i n hi hlt (((Y.drop (n + 1)).flatMap fun y => Z.map fun c => ((X[i], y, c) : Pt)) ++ T) (fun s' hs' hb' => by rw [hw]; exact ih (n + 1) s' (by omega) hs' (by rw [fl] at hb'; omega)) Z.length 0 s (by omega) hs (by rw [fl]; omega)
  rw [List.drop_zero] at e
  exact e
theorem cells_l0 (d : Nat) : ∀ (n : Nat) (s : List Ce), n + d = X.length → JO l s → s.length + d * (Y.length * Z.length) ≤ 1000000 → (∃ K_, ∀ k, K_ ≤ k → spec_l5Cells.l0 k l s (n : Int) X Y Z = some (cellsG l (gridOf (X.drop n) Y Z) s)) := by
 have g0 : X.length ≤ 2 * l.length + 1 := by rw [hX]; exact gridE_len 0 l
 have g1 : Y.length ≤ 2 * l.length + 1 := by rw [hY]; exact gridE_len 1 l
 have g2 : Z.length ≤ 2 * l.length + 1 := by rw [hZ]; exact gridE_len 2 l
 induction d with
 | zero =>
  intro n s hn hs hb
  refine ev1 ?_
  simp only [spec_l5Cells.l0]
  rw [List.drop_eq_nil_of_le (by omega)]
  exact evN (by omega) (evR rfl)
 | succ d ih =>
  intro n s hn hs hb
  have hlt : n < X.length := by omega
  have hw : wrap64 ((n : Int) + 1) = ((n + 1 : Nat) : Int) := by rw [w64 (by omega)]; omega
  rw [Nat.succ_mul] at hb
  have e : gridOf (X.drop n) Y Z = (Y.flatMap fun y => Z.map fun c => ((X[n], y, c) : Pt)) ++ gridOf (X.drop (n + 1)) Y Z := by
   rw [List.drop_eq_getElem_cons hlt]
   unfold gridOf
   rw [List.flatMap_cons]
  have fl : (gridOf (X.drop (n + 1)) Y Z).length = d * (Y.length * Z.length) := by
   unfold gridOf
   rw [List.length_flatMap]
   simp only [List.length_flatMap, List.length_map, List.map_const', List.sum_replicate_nat, List.length_drop]
   rw [show X.length - (n + 1) = d by omega]
  rw [e]
  refine ev1 ?_
  simp only [spec_l5Cells.l0]
  refine evP (by omega) ?_
  have e2 := cells_l1 hv h8 hX hY hZ n hlt (gridOf (X.drop (n + 1)) Y Z) (fun s' hs' hb' => by rw [hw]; exact ih (n + 1) s' (by omega) hs' (by rw [fl] at hb'; omega)) Y.length 0 s (by omega) hs (by rw [fl]; omega)
  rw [List.drop_zero] at e2
  exact e2
end
theorem spec_cells (l : List Ru) (hl : l.length ≤ 1073741824) : (∃ K_, ∀ k, K_ ≤ k → spec_Cells.f k l = some (cellsR l)) := by
 simp only [spec_Cells.f]
 refine evB (spec_rulesOk l hl) (evI (fun c => ?_) (fun c => evR ?_))
 ·have hv := rokB_valid c
  have h8 := rokB_len c
  have g0 := gridE_len 0 l
  have g1 := gridE_len 1 l
  have g2 := gridE_len 2 l
  have e := cells_l0 hv h8 rfl rfl rfl (gridE 0 l).length 0 [] (by omega) (fun x hx => by cases hx) (by
   have h1 : (gridE 1 l).length * (gridE 2 l).length ≤ 17 * 17 := Nat.mul_le_mul (by omega) (by omega)
   have h2 : (gridE 0 l).length * ((gridE 1 l).length * (gridE 2 l).length) ≤ 17 * (17 * 17) := Nat.mul_le_mul (by omega) h1
   simp only [List.length_nil]
   omega)
  rw [List.drop_zero] at e
  have e3 : (∃ K_, ∀ k, K_ ≤ k → spec_l5Cells.f k l = some (cellsG l (gridF l) [])) := by
   simp only [spec_l5Cells.f]
   have o := spec_of l [] hv (fun x hx => by cases hx) (by omega) (by simp)
   rw [List.append_nil] at o
   exact evB o e
  unfold cellsR
  rw [if_pos c]
  refine evB e3 (evI (fun c2 => evR ?_) (fun c2 => evR ?_))
  ·rw [if_pos (by omega)]
  ·rw [if_neg (by omega)]
 ·unfold cellsR
  rw [if_neg c]
/-- A point of the grid ahead of another. -/
def ltP (p q : Pt) : Prop := p.1 < q.1 ∨ p.1 = q.1 ∧ (p.2.1 < q.2.1 ∨ p.2.1 = q.2.1 ∧ p.2.2 < q.2.2)
theorem grid_sorted {xs ys zs : List Int} (hx : Rise xs) (hy : Rise ys) (hz : Rise zs) : (gridOf xs ys zs).Pairwise ltP := by
 unfold gridOf
 rw [List.pairwise_flatMap]
 refine ⟨fun a _ => ?_, hx.imp fun h x hx y hy => ?_⟩
 ·rw [List.pairwise_flatMap]
  refine ⟨fun b _ => ?_, hy.imp fun h x hx y hy => ?_⟩
  ·rw [List.pairwise_map]
   exact hz.imp fun h => .inr ⟨rfl, .inr ⟨rfl, h⟩⟩
  ·obtain ⟨_, _, rfl⟩ := List.mem_map.1 hx
   obtain ⟨_, _, rfl⟩ := List.mem_map.1 hy
   exact .inr ⟨rfl, .inl h⟩
 ·obtain ⟨_, _, hx⟩ := List.mem_flatMap.1 hx
  obtain ⟨_, _, rfl⟩ := List.mem_map.1 hx
  obtain ⟨_, _, hy⟩ := List.mem_flatMap.1 hy
  obtain ⟨_, _, rfl⟩ := List.mem_map.1 hy
  exact .inl h
theorem nx_max {m e a : Int} (ham : a ≤ m) : ∀ {xs : List Int}, (∀ y ∈ xs, y ≤ a → y ≤ e) → a ≤ nxF xs e m
 | [], _ => ham
 | x :: xs, h => by
  unfold nxF
  split
  ·have := h x (List.mem_cons_self ..)
   omega
  ·exact nx_max ham (fun y hy => h y (List.mem_cons_of_mem _ hy))
theorem nx_top {xs : List Int} {a m c : Int} (hr : Rise xs) (h : c ≤ nxF xs a m) {y : Int} (hy : y ∈ xs) (hc : y ≤ c) : y ≤ a := by
 rcases Int.lt_or_le a y with q | q
 ·have := nx_lt (m := m) hr hy q
  omega
 ·exact q
section
variable {l : List Ru} (hv : ∀ x ∈ l, ruleB x = true)
include hv
theorem nx0_le {d : Nat} (hd : d < 3) {m : Int} (hm : m = if d = 2 then 65535 else 4294967295) (a : Int) : nxF (gridE d l) a m ≤ m := nx_le (fun x hx => by
 have := gridE_in hd hv hx
 split at this <;> split at hm <;> omega)
/-- Rules are about each call of a box as they are about its corner. -/
theorem first_nx {a b c e1 e2 e3 : Int} (h1 : e1 ≤ a ∧ a ≤ nxF (gridE 0 l) e1 4294967295) (h2 : e2 ≤ b ∧ b ≤ nxF (gridE 1 l) e2 4294967295) (h3 : e3 ≤ c ∧ c ≤ nxF (gridE 2 l) e3 65535) : firstF l a b c = firstP l (e1, e2, e3) := by
 refine firstGo_congr l 0 (fun x hx => ?_)
 have q1 : ∀ y ∈ edgeB x.f2.f0 x.f2.f1, y ≤ a → y ≤ e1 := fun y hy => nx_top (rise_gridE 0 l) h1.2 (mem_gridE.2 (.inr ⟨x, hx, hy⟩))
 have q2 : ∀ y ∈ edgeB x.f3.f0 x.f3.f1, y ≤ b → y ≤ e2 := fun y hy => nx_top (rise_gridE 1 l) h2.2 (mem_gridE.2 (.inr ⟨x, hx, hy⟩))
 have q3 : ∀ y ∈ portE x, y ≤ c → y ≤ e3 := fun y hy => nx_top (rise_gridE 2 l) h3.2 (mem_gridE.2 (.inr ⟨x, hx, hy⟩))
 have b1 := nx0_le hv (d := 0) (by omega) (m := 4294967295) rfl e1
 have b2 := nx0_le hv (d := 1) (by omega) (m := 4294967295) rfl e2
 have b3 := nx0_le hv (d := 2) (by omega) (m := 65535) rfl e3
 have t1 := has_edge (b := x.f2.f0) (m := x.f2.f1) (x := a) (e := e1) (by omega) h1.1 (fun h => q1 _ (mem_edgeB.2 (.inl rfl)) h) (fun h h' => q1 _ (mem_edgeB.2 (.inr ⟨h, rfl⟩)) h')
 have t2 := has_edge (b := x.f3.f0) (m := x.f3.f1) (x := b) (e := e2) (by omega) h2.1 (fun h => q2 _ (mem_edgeB.2 (.inl rfl)) h) (fun h h' => q2 _ (mem_edgeB.2 (.inr ⟨h, rfl⟩)) h')
 have t3 : inR e3 x.f4 x.f5 = inR c x.f4 x.f5 := by
  have s1 : x.f4 ≤ c → x.f4 ≤ e3 := fun h => q3 _ (by unfold portE; split <;> simp) h
  have s2 : x.f5 < 65535 → x.f5 + 1 ≤ c → x.f5 + 1 ≤ e3 := fun h h' => q3 _ (by unfold portE; rw [if_pos h]; simp) h'
  unfold inR
  rw [Bool.eq_iff_iff, decide_eq_true_eq, decide_eq_true_eq]
  constructor
  ·rintro ⟨p, q⟩
   refine ⟨by omega, ?_⟩
   rcases Int.lt_or_le x.f5 c with r | r
   ·have := s2 (by omega) (by omega); omega
   ·exact r
  ·rintro ⟨p, q⟩
   exact ⟨s1 p, by omega⟩
 simp only [aboutB, t1, t2, t3]
end
/-- A cell has a call. -/
def inC (x : Ce) (a b c : Int) : Prop := x.f0 ≤ a ∧ a ≤ x.f1 ∧ x.f2 ≤ b ∧ b ≤ x.f3 ∧ x.f4 ≤ c ∧ c ≤ x.f5
/-- A cell as it should be. -/
structure GC (l : List Ru) (x : Ce) : Prop where
 m0 : x.f0 ∈ gridE 0 l
 m1 : x.f1 = nxF (gridE 0 l) x.f0 4294967295
 m2 : x.f2 ∈ gridE 1 l
 m3 : x.f3 = nxF (gridE 1 l) x.f2 4294967295
 p0 : 0 ≤ x.f4
 p1 : x.f4 ≤ x.f5
 p2 : x.f5 ≤ 65535
 r : 0 ≤ x.f6
 is : ∀ a b c, inC x a b c → firstF l a b c = x.f6
theorem cellF_cases (s : List Ce) (x : Ce) : (x.f6 < 0 ∧ (cellF s x).1 = s) ∨ (0 ≤ x.f6 ∧ (cellF s x).1 = s ++ [x]) ∨
  (0 ≤ x.f6 ∧ ∃ (s0 : List Ce) (z : Ce), s = s0 ++ [z] ∧ z.f0 = x.f0 ∧ z.f2 = x.f2 ∧ z.f6 = x.f6 ∧ wrap64 (z.f5 + 1) = x.f4 ∧ (cellF s x).1 = s0 ++ [{ z with f5 := x.f5 }]) := by
 unfold cellF
 by_cases c : x.f6 < 0
 ·exact .inl ⟨c, by rw [if_pos c]⟩
 ·rw [if_neg c]
  by_cases c2 : joinB s x
  ·refine .inr (.inr ⟨by omega, ?_⟩)
   have hne : s ≠ [] := fun e => by have := c2.1; rw [e] at this; simp at this
   obtain ⟨h2, hz⟩ := rd_cell' s c2.1
   have es := List.dropLast_concat_getLast hne
   have ez : s[s.length - 1] = s.getLast hne := (List.getLast_eq_getElem hne).symm
   obtain ⟨_, j0, j1, j2, j3, j6, j5⟩ := id c2
   rw [hz, ez] at j0 j2 j6 j5
   rw [if_pos c2, hz, ez]
   refine ⟨s.dropLast, s.getLast hne, es.symm, j0, j2, j6, j5, ?_⟩
   generalize s.getLast hne = z at es ⊢
   simp only []
   conv => lhs; rw [← es]
   rw [List.set_append_right _ _ (by simp)]
   congr 1
   simp
  ·refine .inr (.inl ⟨by omega, ?_⟩)
   rw [if_neg c2]
/-- What holds when the points P have been come to. -/
structure CI (l : List Ru) (P : List Pt) (s : List Ce) : Prop where
 good : ∀ x ∈ s, GC l x
 all : ∀ p ∈ P, 0 ≤ firstP l p → ∃ x ∈ s, x.f0 = p.1 ∧ x.f2 = p.2.1 ∧ x.f4 ≤ p.2.2 ∧ nxF (gridE 2 l) p.2.2 65535 ≤ x.f5
 sorted : s.Pairwise fun x y => ltP (x.f0, x.f2, x.f5) (y.f0, y.f2, y.f4)
theorem ltP_next {l : List Ru} {p q : Pt} (h : ltP p q) (hq : q ∈ gridF l) : ltP (p.1, p.2.1, nxF (gridE 2 l) p.2.2 65535) q := by
 rcases h with h | ⟨h1, h | ⟨h2, h⟩⟩
 ·exact .inl h
 ·exact .inr ⟨h1, .inl h⟩
 ·exact .inr ⟨h1, .inr ⟨h2, nx_lt (rise_gridE 2 l) (mem_gridOf.1 hq).2.2 h⟩⟩
theorem cells_step {l : List Ru} (hv : ∀ x ∈ l, ruleB x = true) {P ps : List Pt} {p : Pt} {s : List Ce} (hp : p ∈ gridF l) (hps : ∀ q ∈ ps, q ∈ gridF l ∧ ltP p q) (h : CI l P s) (hd : ∀ x ∈ s, ∀ q ∈ p :: ps, ltP (x.f0, x.f2, x.f5) q) :
  CI l (P ++ [p]) (cellF s (cellOf l p)).1 ∧ ∀ x ∈ (cellF s (cellOf l p)).1, ∀ q ∈ ps, ltP (x.f0, x.f2, x.f5) q := by
 obtain ⟨p1, p2, p3⟩ := p
 obtain ⟨g1, g2, g3⟩ := mem_gridOf.1 hp
 simp only [] at g1 g2 g3
 have i3 := gridE_in (d := 2) (by omega) hv g3
 simp only [if_true] at i3
 have n3 := nx_ge (m := 65535) (a := p3) i3.2 (gridE 2 l)
 have t3 := nx0_le hv (d := 2) (by omega) (m := 65535) rfl p3
 have hx : 0 ≤ firstP l (p1, p2, p3) → GC l (cellOf l (p1, p2, p3)) := fun h0 => ⟨g1, rfl, g2, rfl, i3.1, n3, t3, h0, fun a b c hi => first_nx hv ⟨hi.1, hi.2.1⟩ ⟨hi.2.2.1, hi.2.2.2.1⟩ ⟨hi.2.2.2.2.1, hi.2.2.2.2.2⟩⟩
 rcases cellF_cases s (cellOf l (p1, p2, p3)) with ⟨c, e⟩ | ⟨c, e⟩ | ⟨c, s0, z, rfl, z0, z2, z6, z5, e⟩
 ·rw [e]
  refine ⟨⟨h.good, fun q hq h0 => ?_, h.sorted⟩, fun x hx q hq => hd x hx q (List.mem_cons_of_mem _ hq)⟩
  rcases List.mem_append.1 hq with hq | hq
  ·exact h.all q hq h0
  ·obtain rfl := List.mem_singleton.1 hq
   exact absurd h0 (by have c : firstP l (p1, p2, p3) < 0 := c; omega)
 ·rw [e]
  refine ⟨⟨fun x hm => ?_, fun q hq h0 => ?_, ?_⟩, fun x hm q hq => ?_⟩
  ·rcases List.mem_append.1 hm with hm | hm
   ·exact h.good x hm
   ·obtain rfl := List.mem_singleton.1 hm
    exact hx c
  ·rcases List.mem_append.1 hq with hq | hq
   ·obtain ⟨x, hm, r⟩ := h.all q hq h0
    exact ⟨x, List.mem_append_left _ hm, r⟩
   ·obtain rfl := List.mem_singleton.1 hq
    exact ⟨_, List.mem_append_right _ (List.mem_singleton.2 rfl), rfl, rfl, Int.le_refl _, Int.le_refl _⟩
  ·rw [List.pairwise_append]
   refine ⟨h.sorted, by simp, fun x hm y hy => ?_⟩
   obtain rfl := List.mem_singleton.1 hy
   exact hd x hm (p1, p2, p3) (List.mem_cons_self ..)
  ·rcases List.mem_append.1 hm with hm | hm
   ·exact hd x hm q (List.mem_cons_of_mem _ hq)
   ·obtain rfl := List.mem_singleton.1 hm
    exact ltP_next (hps q hq).2 (hps q hq).1
 ·rw [e]
  have hz := h.good z (List.mem_append_right _ (List.mem_singleton.2 rfl))
  have z0 : z.f0 = p1 := z0
  have z2 : z.f2 = p2 := z2
  have z6 : z.f6 = firstP l (p1, p2, p3) := z6
  have z5 : z.f5 + 1 = p3 := by
   have e5 : wrap64 (z.f5 + 1) = p3 := z5
   rw [w64 (by have := hz.p0; have := hz.p1; have := hz.p2; omega)] at e5
   exact e5
  have hp1 := hz.p1
  refine ⟨⟨fun x hm => ?_, fun q hq h0 => ?_, ?_⟩, fun x hm q hq => ?_⟩
  ·rcases List.mem_append.1 hm with hm | hm
   ·exact h.good x (List.mem_append_left _ hm)
   ·obtain rfl := List.mem_singleton.1 hm
    refine ⟨hz.m0, hz.m1, hz.m2, hz.m3, hz.p0, ?_, t3, hz.r, fun a b c' hi => ?_⟩
    ·show z.f4 ≤ nxF (gridE 2 l) p3 65535
     omega
    ·obtain ⟨i0, i1, i2, i4, i5, i6⟩ := hi
     simp only [] at i0 i1 i2 i4 i5 i6 ⊢
     rcases Int.lt_or_le c' p3 with q | q
     ·exact hz.is a b c' ⟨i0, i1, i2, i4, i5, by omega⟩
     ·rw [hz.m1, z0] at i1
      rw [hz.m3, z2] at i4
      rw [z6]
      exact first_nx hv ⟨by omega, i1⟩ ⟨by omega, i4⟩ ⟨q, i6⟩
  ·rcases List.mem_append.1 hq with hq | hq
   ·obtain ⟨x, hm, r0, r2, r4, r5⟩ := h.all q hq h0
    rcases List.mem_append.1 hm with hm | hm
    ·exact ⟨x, List.mem_append_left _ hm, r0, r2, r4, r5⟩
    ·obtain rfl := List.mem_singleton.1 hm
     refine ⟨_, List.mem_append_right _ (List.mem_singleton.2 rfl), r0, r2, r4, ?_⟩
     show _ ≤ nxF (gridE 2 l) p3 65535
     omega
   ·obtain rfl := List.mem_singleton.1 hq
    refine ⟨_, List.mem_append_right _ (List.mem_singleton.2 rfl), z0, z2, ?_, Int.le_refl _⟩
    show z.f4 ≤ p3
    omega
  ·have hs := List.pairwise_append.1 h.sorted
   rw [List.pairwise_append]
   refine ⟨hs.1, by simp, fun x hm y hy => ?_⟩
   obtain rfl := List.mem_singleton.1 hy
   exact hs.2.2 x hm z (List.mem_singleton.2 rfl)
  ·rcases List.mem_append.1 hm with hm | hm
   ·exact hd x (List.mem_append_left _ hm) q (List.mem_cons_of_mem _ hq)
   ·obtain rfl := List.mem_singleton.1 hm
    have := ltP_next (hps q hq).2 (hps q hq).1
    simp only [] at this ⊢
    rw [z0, z2]
    exact this
theorem cells_all {l : List Ru} (hv : ∀ x ∈ l, ruleB x = true) : ∀ (ps P : List Pt) (s : List Ce), (∀ p ∈ ps, p ∈ gridF l) → ps.Pairwise ltP → CI l P s → (∀ x ∈ s, ∀ q ∈ ps, ltP (x.f0, x.f2, x.f5) q) → CI l (P ++ ps) (cellsG l ps s)
 | [], P, s, _, _, h, _ => by rw [List.append_nil]; exact h
 | p :: ps, P, s, hm, hs, h, hd => by
  obtain ⟨h1, h2⟩ := List.pairwise_cons.1 hs
  obtain ⟨k1, k2⟩ := cells_step hv (ps := ps) (hm p (List.mem_cons_self ..)) (fun q hq => ⟨hm q (List.mem_cons_of_mem _ hq), h1 q hq⟩) h hd
  have := cells_all hv ps (P ++ [p]) _ (fun q hq => hm q (List.mem_cons_of_mem _ hq)) h2 k1 k2
  rw [List.append_assoc] at this
  exact this
theorem cells_CI {l : List Ru} (hv : ∀ x ∈ l, ruleB x = true) : CI l (gridF l) (cellsG l (gridF l) []) :=
 cells_all hv (gridF l) [] [] (fun _ h => h) (grid_sorted (rise_gridE 0 l) (rise_gridE 1 l) (rise_gridE 2 l)) ⟨fun x hx => (by cases hx), fun p hp => (by cases hp), List.Pairwise.nil⟩ (fun x hx => (by cases hx))
/-- A call that a rule is about lies in a cell. -/
theorem cells_has {l : List Ru} (hv : ∀ x ∈ l, ruleB x = true) {a b c : Int} (hc : callB a b c = true) (h0 : 0 ≤ firstF l a b c) : ∃ x ∈ cellsG l (gridF l) [], inC x a b c := by
 simp only [callB, inR, Bool.and_eq_true, decide_eq_true_eq] at hc
 obtain ⟨⟨a0, a1⟩, ⟨b0, b1⟩, c0, c1⟩ := hc
 obtain ⟨e1, m1, u1, v1⟩ := edge_of (rise_gridE 0 l) (e0 := 0) (mem_gridE.2 (.inl rfl)) a0
 obtain ⟨e2, m2, u2, v2⟩ := edge_of (rise_gridE 1 l) (e0 := 0) (mem_gridE.2 (.inl rfl)) b0
 obtain ⟨e3, m3, u3, v3⟩ := edge_of (rise_gridE 2 l) (e0 := 0) (mem_gridE.2 (.inl rfl)) c0
 have w1 := nx_max (m := 4294967295) a1 v1
 have w2 := nx_max (m := 4294967295) b1 v2
 have w3 := nx_max (m := 65535) c1 v3
 have hf := first_nx hv ⟨u1, w1⟩ ⟨u2, w2⟩ ⟨u3, w3⟩
 rw [hf] at h0
 have C := cells_CI hv
 obtain ⟨x, hx, r0, r2, r4, r5⟩ := C.all (e1, e2, e3) (mem_gridOf.2 ⟨m1, m2, m3⟩) h0
 simp only [] at r0 r2 r4 r5
 have g := C.good x hx
 refine ⟨x, hx, by omega, ?_, by omega, ?_, by omega, by omega⟩
 ·rw [g.m1, r0]; exact w1
 ·rw [g.m3, r2]; exact w2
/-- Two cells meet. -/
def meetC (x y : Ce) : Bool := decide (mx x.f0 y.f0 ≤ mn x.f1 y.f1 ∧ mx x.f2 y.f2 ≤ mn x.f3 y.f3 ∧ mx x.f4 y.f4 ≤ mn x.f5 y.f5)
theorem cells_apart {l : List Ru} {x y : Ce} (hx : GC l x) (hy : GC l y) (h : ltP (x.f0, x.f2, x.f5) (y.f0, y.f2, y.f4)) : meetC x y = false := by
 unfold meetC
 rw [decide_eq_false_iff_not]
 rintro ⟨q0, q1, q2⟩
 have k0 : ∀ a b c d : Int, mx a b ≤ mn c d → b ≤ c := fun a b c d h => by unfold mx mn at h; split at h <;> split at h <;> omega
 have j0 := k0 _ _ _ _ q0
 have j1 := k0 _ _ _ _ q1
 have j2 := k0 _ _ _ _ q2
 rcases h with h | ⟨h1, h | ⟨h2, h⟩⟩
 ·have := nx_lt (m := 4294967295) (rise_gridE 0 l) hy.m0 h
  rw [hx.m1] at j0
  simp only [] at this
  omega
 ·have := nx_lt (m := 4294967295) (rise_gridE 1 l) hy.m2 h
  rw [hx.m3] at j1
  simp only [] at this
  omega
 ·simp only [] at h
  omega
theorem impl_meet (x y : Ce) : impl_CellsMeet.f x.f0 x.f1 x.f2 x.f3 x.f4 x.f5 x.f6 y.f0 y.f1 y.f2 y.f3 y.f4 y.f5 y.f6 = some (meetC x y) := by
 unfold impl_CellsMeet.f meetC
 by_cases c0 : mx x.f0 y.f0 ≤ mn x.f1 y.f1
 ·by_cases c1 : mx x.f2 y.f2 ≤ mn x.f3 y.f3
  ·rw [if_pos c0, if_pos c1]; simp only [c0, c1, true_and]
  ·rw [if_pos c0, if_neg c1]; simp only [c0, c1, true_and, false_and, decide_false]
 ·rw [if_neg c0]; simp only [c0, false_and, decide_false]
/-- The rule of the first cell that has a call. -/
def inCB (a b c : Int) (x : Ce) : Bool := inR a x.f0 x.f1 && (inR b x.f2 x.f3 && inR c x.f4 x.f5)
theorem inCB_iff {a b c : Int} {x : Ce} : inCB a b c x = true ↔ inC x a b c := by
 simp only [inCB, inR, Bool.and_eq_true, decide_eq_true_eq, inC, and_assoc]
def findC : List Ce → Int → Int → Int → Int
 | [], _, _, _ => -1
 | x :: s, a, b, c => if inCB a b c x = true then x.f6 else findC s a b c
theorem impl_findC_loop (s : List Ce) (hl : s.length ≤ 1000000000) (a b c : Int) (d : Nat) : ∀ n : Nat, n + d = s.length → (∃ K_, ∀ k, K_ ≤ k → impl_CellsFind.l0 k s (s.length : Int) (n : Int) a b c = some (findC (s.drop n) a b c)) := by
 induction d with
 | zero =>
  intro n hn
  refine ev1 ?_
  simp only [impl_CellsFind.l0]
  rw [List.drop_eq_nil_of_le (by omega)]
  exact evN (by omega) (evR rfl)
 | succ d ih =>
  intro n hn
  have hlt : n < s.length := by omega
  have hw : wrap64 ((n : Int) + 1) = ((n + 1 : Nat) : Int) := by rw [w64 (by omega)]; omega
  have ih' := ih (n + 1) (by omega)
  rw [List.drop_eq_getElem_cons hlt]
  refine ev1 ?_
  simp only [impl_CellsFind.l0, findC]
  rw [rd_cell s n hlt, hw]
  have no : ∀ b' : Bool, inCB a b c s[n] = b' → b' = false → (∃ K_, ∀ k, K_ ≤ k → impl_CellsFind.l0 k s (s.length : Int) ((n + 1 : Nat) : Int) a b c = some (if inCB a b c s[n] = true then s[n].f6 else findC (s.drop (n + 1)) a b c)) := fun b' h1 h2 => by
   rw [if_neg (by rw [h1, h2]; simp)]
   exact ih'
  refine evP (by omega) (evP (by omega) (evP (by omega) (evS (impl_inR _ _ _) (evI (fun c0 => ?_) (fun c0 => ?_)))))
  ·refine evS (impl_inR _ _ _) (evI (fun c1 => ?_) (fun c1 => ?_))
   ·refine evS (impl_inR _ _ _) (evI (fun c2 => evR ?_) (fun c2 => ?_))
    ·rw [if_pos (show inCB a b c s[n] = true from by unfold inCB; rw [c0, c1, c2]; rfl)]
    ·exact no false (by unfold inCB; rw [c0, c1, Bool.eq_false_iff.2 c2]; rfl) rfl
   ·exact no false (by unfold inCB; rw [c0, Bool.eq_false_iff.2 c1]; rfl) rfl
  ·exact no false (by unfold inCB; rw [Bool.eq_false_iff.2 c0]; rfl) rfl
theorem impl_findC (s : List Ce) (hl : s.length ≤ 1000000000) (a b c : Int) : (∃ K_, ∀ k, K_ ≤ k → impl_CellsFind.f k s a b c = some (findC s a b c)) := impl_findC_loop s hl a b c s.length 0 (by omega)
theorem findC_none {a b c : Int} : ∀ {s : List Ce}, (∀ x ∈ s, ¬ inC x a b c) → findC s a b c = -1
 | [], _ => rfl
 | x :: s, h => by
  unfold findC
  rw [if_neg (fun q => h x (List.mem_cons_self ..) (inCB_iff.1 q))]
  exact findC_none (fun y hy => h y (List.mem_cons_of_mem _ hy))
theorem findC_some {a b c v : Int} : ∀ {s : List Ce}, (∀ x ∈ s, inC x a b c → x.f6 = v) → (∃ x ∈ s, inC x a b c) → findC s a b c = v
 | [], _, h => by obtain ⟨x, hx, _⟩ := h; cases hx
 | x :: s, h, h2 => by
  unfold findC
  by_cases q : inCB a b c x = true
  ·rw [if_pos q]
   exact h x (List.mem_cons_self ..) (inCB_iff.1 q)
  ·rw [if_neg q]
   refine findC_some (fun y hy => h y (List.mem_cons_of_mem _ hy)) ?_
   obtain ⟨y, hy, hi⟩ := h2
   rcases List.mem_cons.1 hy with rfl | hy
   ·exact absurd (inCB_iff.2 hi) q
   ·exact ⟨y, hy, hi⟩
theorem GC.call {l : List Ru} (hv : ∀ x ∈ l, ruleB x = true) {x : Ce} (g : GC l x) {a b c : Int} (h : inC x a b c) : callB a b c = true := by
 obtain ⟨i0, i1, i2, i3, i4, i5⟩ := h
 have u0 := gridE_in (d := 0) (by omega) hv g.m0
 have u1 := gridE_in (d := 1) (by omega) hv g.m2
 have t0 := nx0_le hv (d := 0) (by omega) (m := 4294967295) rfl x.f0
 have t1 := nx0_le hv (d := 1) (by omega) (m := 4294967295) rfl x.f2
 rw [g.m1] at i1
 rw [g.m3] at i3
 have p0 := g.p0
 have p2 := g.p2
 simp only [callB, inR, Bool.and_eq_true, decide_eq_true_eq]
 refine ⟨⟨by omega, by omega⟩, ⟨by omega, by omega⟩, by omega, by omega⟩
/-- What cells tell is what the rules tell. -/
theorem cells_find {l : List Ru} (hr : rokB l = true) (a b c : Int) : findC (cellsG l (gridF l) []) a b c = rulesFirstF l a b c := by
 have hv := rokB_valid hr
 have C := cells_CI hv
 unfold rulesFirstF
 by_cases hc : callB a b c = true
 ·rw [if_pos ⟨hr, hc⟩]
  by_cases h0 : 0 ≤ firstF l a b c
  ·exact findC_some (fun x hx hi => ((C.good x hx).is a b c hi).symm) (cells_has hv hc h0)
  ·have e : firstF l a b c = -1 := by
    rcases firstP_range l (a, b, c) with e | ⟨e, _⟩
    ·exact e
    ·exact absurd e h0
   rw [e]
   refine findC_none (fun x hx hi => h0 ?_)
   rw [(C.good x hx).is a b c hi]
   exact (C.good x hx).r
 ·rw [if_neg (fun q => hc q.2)]
  exact findC_none (fun x hx hi => hc ((C.good x hx).call hv hi))
theorem GC.corner {l : List Ru} (hr : rokB l = true) {x : Ce} (g : GC l x) {a b c : Int} (h : inC x a b c) : rulesFirstF l a b c = x.f6 := by
 unfold rulesFirstF
 rw [if_pos ⟨hr, g.call (rokB_valid hr) h⟩]
 exact g.is a b c h
theorem GC.full {l : List Ru} (hv : ∀ x ∈ l, ruleB x = true) {x : Ce} (g : GC l x) : x.f0 ≤ x.f1 ∧ x.f2 ≤ x.f3 ∧ x.f4 ≤ x.f5 := by
 have u0 := gridE_in (d := 0) (by omega) hv g.m0
 have u1 := gridE_in (d := 1) (by omega) hv g.m2
 simp only [show ((0 : Nat) = 2) = False by simp, show ((1 : Nat) = 2) = False by simp, if_false] at u0 u1
 exact ⟨by rw [g.m1]; exact nx_ge u0.2 _, by rw [g.m3]; exact nx_ge u1.2 _, g.p1⟩
/-- Bytes that are drawn from. -/
def Bytes (s : List Int) : Prop := (∀ x ∈ s, 0 ≤ x ∧ x ≤ 255) ∧ s.length ≤ 2000
theorem rd_byte {s : List Int} (h : Bytes s) (i : Int) : 0 ≤ rd s i ∧ rd s i ≤ 255 := by
 unfold rd
 rw [List.getD_eq_getElem?_getD]
 cases e : s[i.toNat]? with
 | none => simp
 | some x => simpa using h.1 x (List.mem_of_getElem? e)
theorem pick_aux (k : Nat) (s : List Int) (p n : Int) (hs : Bytes s) (hp0 : 0 ≤ p) (hp1 : p ≤ 1000000000000) (hn0 : 1 ≤ n) (hn1 : n ≤ 2147483648) :
  ∃ v, spec_l1Rd_pick.f (k + 1) s p n = some (v, p + 1) ∧ 0 ≤ v ∧ v < n := by
 have e1 : wrap64 (p + 1) = p + 1 := w64 (by omega)
 have e2 : wrap64 (p + 1 - 1) = p := by rw [w64 (by omega)]; omega
 unfold spec_l1Rd_pick.f
 rw [if_neg (by omega), e1]
 simp only [spec_l1Rd_pick.j0, e2]
 by_cases h0 : (s.length : Int) = 0
 ·rw [if_pos (beq_iff_eq.2 h0)]
  exact ⟨0, rfl, by omega, by omega⟩
 ·rw [if_neg (fun h => h0 (beq_iff_eq.1 h))]
  have hl := hs.2
  by_cases h1 : p < (s.length : Int)
  ·rw [if_pos h1, if_pos hp0, if_neg (by omega)]
   have hb := rd_byte hs p
   rw [w64 (by omega), Int.tmod_eq_emod_of_nonneg (by omega)]
   exact ⟨_, rfl, Int.emod_nonneg _ (by omega), Int.emod_lt_of_pos _ (by omega)⟩
  ·have e3 : wrap64 (p * 7) = p * 7 := w64 (by omega)
   have e4 : wrap64 (p * 7 + 3) = p * 7 + 3 := w64 (by omega)
   have e5 : wrap64 (p * 29) = p * 29 := w64 (by omega)
   have d1 : Int.tmod p (s.length : Int) = p % (s.length : Int) := Int.tmod_eq_emod_of_nonneg hp0
   have d2 : Int.tmod (p * 7 + 3) (s.length : Int) = (p * 7 + 3) % (s.length : Int) := Int.tmod_eq_emod_of_nonneg (by omega)
   have d3 : Int.tdiv p (s.length : Int) = p / (s.length : Int) := Int.tdiv_eq_ediv_of_nonneg hp0
   have q0 : 0 ≤ p / (s.length : Int) := Int.ediv_nonneg hp0 (by omega)
   have q1 : p / (s.length : Int) ≤ p := Int.ediv_le_self _ hp0
   have r0 := Int.emod_nonneg p h0
   have r1 := Int.emod_lt_of_pos p (by omega : 0 < (s.length : Int))
   have r2 := Int.emod_nonneg (p * 7 + 3) h0
   have r3 := Int.emod_lt_of_pos (p * 7 + 3) (by omega : 0 < (s.length : Int))
   have b1 := rd_byte hs (p % (s.length : Int))
   have b2 := rd_byte hs ((p * 7 + 3) % (s.length : Int))
   have c1 : wrap64 (rd s (p % (s.length : Int))) = rd s (p % (s.length : Int)) := w64 (by omega)
   have c2 : wrap64 (rd s ((p * 7 + 3) % (s.length : Int))) = rd s ((p * 7 + 3) % (s.length : Int)) := w64 (by omega)
   have c3 : wrap64 (p / (s.length : Int)) = p / (s.length : Int) := w64 (by omega)
   have e6 : wrap64 (p / (s.length : Int) * 53) = p / (s.length : Int) * 53 := w64 (by omega)
   have e7 : wrap64 (rd s (p % (s.length : Int)) * 131) = rd s (p % (s.length : Int)) * 131 := w64 (by omega)
   have e8 : wrap64 (rd s ((p * 7 + 3) % (s.length : Int)) * 1117) = rd s ((p * 7 + 3) % (s.length : Int)) * 1117 := w64 (by omega)
   rw [if_neg h1, if_neg h0]
   simp only [d1, d2, d3, e3, e4, c1, c2, c3, e5, e6, e7, e8]
   rw [if_pos r0, if_pos r1, if_pos r2, if_pos r3, if_neg (by omega)]
   generalize rd s (p % (s.length : Int)) = x at *
   generalize rd s ((p * 7 + 3) % (s.length : Int)) = y at *
   generalize p / (s.length : Int) = z at *
   have f1 : wrap64 (x * 131 + y * 1117) = x * 131 + y * 1117 := w64 (by omega)
   have f2 : wrap64 (x * 131 + y * 1117 + p * 29) = x * 131 + y * 1117 + p * 29 := w64 (by omega)
   have f3 : wrap64 (x * 131 + y * 1117 + p * 29 + z * 53) = x * 131 + y * 1117 + p * 29 + z * 53 := w64 (by omega)
   simp only [f1, f2, f3]
   generalize hX : x * 131 + y * 1117 + p * 29 + z * 53 = X at *
   have g1 : Int.tdiv X 64 = X / 64 := Int.tdiv_eq_ediv_of_nonneg (by omega)
   have g2 : wrap64 (X / 64) = X / 64 := w64 (by omega)
   rw [g1, g2, i64_xor X (X / 64) (by omega) (by omega) (by omega) (by omega), Int.tmod_eq_emod_of_nonneg (by omega)]
   exact ⟨_, rfl, Int.emod_nonneg _ (by omega), Int.emod_lt_of_pos _ (by omega)⟩
/-- A number is drawn. -/
theorem pick (s : List Int) (p n : Int) (hs : Bytes s) (hp0 : 0 ≤ p) (hp1 : p ≤ 1000000000000) (hn0 : 1 ≤ n) (hn1 : n ≤ 2147483648) :
  ∃ v, (∃ K_, ∀ k, K_ ≤ k → spec_l1Rd_pick.f k s p n = some (v, p + 1)) ∧ 0 ≤ v ∧ v < n := by
 obtain ⟨v, h, h0, h1⟩ := pick_aux 0 s p n hs hp0 hp1 hn0 hn1
 exact ⟨v, Ev.of (spec_l1Rd_pick.mono s p n) h, h0, h1⟩
/-- A number of a list is drawn. -/
theorem one (s : List Int) (p : Int) (l : List Int) (hs : Bytes s) (hp0 : 0 ≤ p) (hp1 : p ≤ 1000000000000) (hl0 : 1 ≤ l.length) (hl1 : l.length ≤ 2147483648) :
  ∃ v, (∃ K_, ∀ k, K_ ≤ k → spec_l1Rd_one.f k s p l = some (v, p + 1)) ∧ v ∈ l := by
 obtain ⟨v, ⟨K, h⟩, h0, h1⟩ := pick s p l.length hs hp0 hp1 (by omega) (by omega)
 refine ⟨rd l v, ⟨K, fun k hk => ?_⟩, ?_⟩
 ·simp only [spec_l1Rd_one.f, h k hk, Option.bind_some]
  rw [if_pos h0, if_pos h1]
 ·unfold rd
  rw [List.getD_eq_getElem?_getD, List.getElem?_eq_getElem (by omega)]
  exact List.getElem_mem _
theorem l1Open (l : List Int) (hw : ∀ x ∈ l, (Lit.int .u8 x).wf = true) : ∃ s, spec_l1Open.f l = some (s, 0) ∧ Bytes s := by
 have hb : ∀ x ∈ l, 0 ≤ x ∧ x ≤ 255 := fun x hx => by
  have := hw x hx
  simp [Lit.wf, IntKind.min, IntKind.max, IntKind.bits, IntKind.signed] at this
  omega
 unfold spec_l1Open.f
 by_cases c : (l.length : Int) > 2000
 ·rw [if_pos c, if_pos (by omega)]
  exact ⟨_, rfl, fun x hx => hb x (List.mem_of_mem_take hx), by rw [List.length_take]; omega⟩
 ·rw [if_neg c]
  exact ⟨_, rfl, hb, by omega⟩
theorem drawAddr (s : List Int) (p : Int) (hs : Bytes s) (hp0 : 0 ≤ p) (hp1 : p ≤ 900000000000) :
  ∃ a, (∃ K_, ∀ k, K_ ≤ k → spec_l12Addr.f k s p = some (a, p + 6)) ∧ 0 ≤ a ∧ a ≤ 4294967295 := by
 obtain ⟨v1, ⟨K1, h1⟩, a1, b1⟩ := pick s p 256 hs (by omega) (by omega) (by decide) (by decide)
 obtain ⟨v2, ⟨K2, h2⟩, a2, b2⟩ := pick s (p + 1) 8 hs (by omega) (by omega) (by decide) (by decide)
 obtain ⟨v3, ⟨K3, h3⟩, a3, b3⟩ := pick s (p + 1 + 1) 16 hs (by omega) (by omega) (by decide) (by decide)
 obtain ⟨v4, ⟨K4, h4⟩, a4, b4⟩ := pick s (p + 1 + 1 + 1) 256 hs (by omega) (by omega) (by decide) (by decide)
 obtain ⟨v5, ⟨K5, h5⟩, a5, b5⟩ := pick s (p + 1 + 1 + 1 + 1) 64 hs (by omega) (by omega) (by decide) (by decide)
 obtain ⟨v6, ⟨K6, h6⟩, b6⟩ := one s (p + 1 + 1 + 1 + 1 + 1) [wrap64 (167772160 + v1), wrap64 (167772160 + v2), wrap64 (167772416 + v3), wrap64 (3232235520 + v4), 0, 4294967295, 184549375, wrap64 (2886729728 + (wrap64 (v5 * 256)))] hs (by omega) (by omega) (by simp) (by simp)
 refine ⟨v6, ⟨K1 + K2 + K3 + K4 + K5 + K6, fun k hk => ?_⟩, ?_⟩
 ·simp only [spec_l12Addr.f]
  rw [h1 k (by omega), Option.bind_some, h2 k (by omega), Option.bind_some, h3 k (by omega), Option.bind_some, h4 k (by omega), Option.bind_some, h5 k (by omega), Option.bind_some]
  simp only []
  rw [h6 k (by omega), Option.bind_some]
  simp only [Option.some.injEq, Prod.mk.injEq, true_and]
  omega
 ·rw [w64 (by omega), w64 (by omega), w64 (by omega), w64 (by omega), w64 (n := v5 * 256) (by omega), w64 (by omega)] at b6
  simp only [List.mem_cons, List.not_mem_nil, or_false] at b6
  omega
theorem spec_over {a m : Int} (ha0 : 0 ≤ a) (ha1 : a ≤ 4611686018427387904) (h0 : 0 ≤ m) (h1 : m ≤ 32) : (∃ K_, ∀ k, K_ ≤ k → spec_l1Over.f k a m = some (a / sz m * sz m, m)) := by
 obtain ⟨K, h⟩ := spec_size h0 h1
 have hs := sz_bd h0
 have hd : a / sz m * sz m ≤ a := Int.ediv_mul_le a (by omega)
 have hq0 : 0 ≤ a / sz m := Int.ediv_nonneg ha0 (by omega)
 have hq1 : a / sz m ≤ a := Int.ediv_le_self _ ha0
 have hm : 0 ≤ a / sz m * sz m := Int.mul_nonneg hq0 (by omega)
 refine ⟨K, fun k hk => ?_⟩
 simp only [spec_l1Over.f]
 rw [h k hk, Option.bind_some, if_neg (by omega), Option.bind_some, Int.tdiv_eq_ediv_of_nonneg ha0, w64 (n := a / sz m) (by omega), w64 (by omega)]
theorem drawBlock (s : List Int) (p : Int) (hs : Bytes s) (hp0 : 0 ≤ p) (hp1 : p ≤ 800000000000) :
  ∃ b m, (∃ K_, ∀ k, K_ ≤ k → spec_l12Block.f k s p = some (b, m, p + 7)) ∧ bok b m := by
 obtain ⟨a, ⟨K1, h1⟩, a1, b1⟩ := drawAddr s p hs (by omega) (by omega)
 obtain ⟨m, ⟨K2, h2⟩, b2⟩ := one s (p + 6) [32, 31, 30, 28, 24, 24, 25, 16, 8, 1, 0, 29] hs (by omega) (by omega) (by simp) (by simp)
 simp only [List.mem_cons, List.not_mem_nil, or_false] at b2
 obtain ⟨K3, h3⟩ := spec_over (a := a) (m := m) a1 (by omega) (by omega) (by omega)
 have hd : a / sz m * sz m ≤ a := Int.ediv_mul_le a (by have := sz_pos m; omega)
 have hm : 0 ≤ a / sz m * sz m := Int.mul_nonneg (Int.ediv_nonneg a1 (by have := sz_pos m; omega)) (by have := sz_pos m; omega)
 refine ⟨_, m, ⟨K1 + K2 + K3, fun k hk => ?_⟩, bok.mk' hm (by omega) (by omega) (by omega) (Int.dvd_mul_left _ _)⟩
 simp only [spec_l12Block.f]
 rw [h1 k (by omega), Option.bind_some]
 simp only []
 rw [h2 k (by omega), Option.bind_some]
 simp only []
 rw [h3 k (by omega), Option.bind_some]
 simp only [Option.some.injEq, Prod.mk.injEq, true_and]
 omega
theorem drawAnyBlock (s : List Int) (p : Int) (hs : Bytes s) (hp0 : 0 ≤ p) (hp1 : p ≤ 700000000000) :
  ∃ b m p', (∃ K_, ∀ k, K_ ≤ k → spec_l12AnyBlock.f k s p = some (b, m, p')) ∧ p ≤ p' ∧ p' ≤ p + 9 ∧ -1 ≤ b ∧ b ≤ 4294967551 ∧ -1 ≤ m ∧ m ≤ 33 := by
 obtain ⟨b, m, ⟨K1, h1⟩, a1⟩ := drawBlock s p hs (by omega) (by omega)
 have a2 := a1.1
 have a3 := a1.2.1
 have a4 := a1.2.2.1
 have a5 := a1.2.2.2.1
 obtain ⟨v, ⟨K2, h2⟩, c1, c2⟩ := pick s (p + 7) 16 hs (by omega) (by omega) (by decide) (by decide)
 by_cases e0 : v = 0
 ·obtain ⟨x, ⟨K3, h3⟩, b3⟩ := one s (p + 7 + 1) [1, (-1), 256] hs (by omega) (by omega) (by simp) (by simp)
  simp only [List.mem_cons, List.not_mem_nil, or_false] at b3
  refine ⟨b + x, m, p + 7 + 1 + 1, ⟨K1 + K2 + K3, fun k hk => ?_⟩, by omega, by omega, by omega, by omega, by omega, by omega⟩
  simp only [spec_l12AnyBlock.f]
  rw [h1 k (by omega), Option.bind_some]
  simp only []
  rw [h2 k (by omega), Option.bind_some]
  simp only []
  rw [if_pos e0, h3 k (by omega), Option.bind_some]
  simp only []
  rw [w64 (by omega)]
 ·by_cases e1 : v = 1
  ·obtain ⟨x, ⟨K3, h3⟩, b3⟩ := one s (p + 7 + 1) [(-1), 33, 0, 32] hs (by omega) (by omega) (by simp) (by simp)
   simp only [List.mem_cons, List.not_mem_nil, or_false] at b3
   refine ⟨b, x, p + 7 + 1 + 1, ⟨K1 + K2 + K3, fun k hk => ?_⟩, by omega, by omega, by omega, by omega, by omega, by omega⟩
   simp only [spec_l12AnyBlock.f]
   rw [h1 k (by omega), Option.bind_some]
   simp only []
   rw [h2 k (by omega), Option.bind_some]
   simp only []
   rw [if_neg e0, if_pos e1, h3 k (by omega), Option.bind_some]
  ·refine ⟨b, m, p + 7 + 1, ⟨K1 + K2, fun k hk => ?_⟩, by omega, by omega, by omega, by omega, by omega, by omega⟩
   simp only [spec_l12AnyBlock.f]
   rw [h1 k (by omega), Option.bind_some]
   simp only []
   rw [h2 k (by omega), Option.bind_some]
   simp only []
   rw [if_neg e0, if_neg e1]
theorem drawAnyAddr (s : List Int) (p : Int) (hs : Bytes s) (hp0 : 0 ≤ p) (hp1 : p ≤ 700000000000) :
  ∃ a p', (∃ K_, ∀ k, K_ ≤ k → spec_l12AnyAddr.f k s p = some (a, p')) ∧ p ≤ p' ∧ p' ≤ p + 8 ∧ -1 ≤ a ∧ a ≤ 1099511627776 := by
 obtain ⟨v, ⟨K1, h1⟩, c1, c2⟩ := pick s p 16 hs (by omega) (by omega) (by decide) (by decide)
 by_cases e0 : v = 0
 ·obtain ⟨x, ⟨K3, h3⟩, b3⟩ := one s (p + 1) [(-1), 4294967296, 1099511627776] hs (by omega) (by omega) (by simp) (by simp)
  simp only [List.mem_cons, List.not_mem_nil, or_false] at b3
  refine ⟨x, p + 1 + 1, ⟨K1 + K3, fun k hk => ?_⟩, by omega, by omega, by omega, by omega⟩
  simp only [spec_l12AnyAddr.f]
  rw [h1 k (by omega), Option.bind_some]
  simp only []
  rw [if_pos e0, h3 k (by omega), Option.bind_some]
 ·obtain ⟨a, ⟨K3, h3⟩, b3, b4⟩ := drawAddr s (p + 1) hs (by omega) (by omega)
  refine ⟨a, p + 1 + 6, ⟨K1 + K3, fun k hk => ?_⟩, by omega, by omega, by omega, by omega⟩
  simp only [spec_l12AnyAddr.f]
  rw [h1 k (by omega), Option.bind_some]
  simp only []
  rw [if_neg e0, h3 k (by omega), Option.bind_some]
def smallI (v : Int) : Prop := -1 ≤ v ∧ v ≤ 4294967551
/-- A rule of numbers that are not great. -/
def smallR (x : Ru) : Prop := smallI x.f0 ∧ smallI x.f1 ∧ smallI x.f2.f0 ∧ smallI x.f2.f1 ∧ smallI x.f3.f0 ∧ smallI x.f3.f1 ∧ smallI x.f4 ∧ smallI x.f5
theorem drawRule (s : List Int) (p : Int) (hs : Bytes s) (hp0 : 0 ≤ p) (hp1 : p ≤ 600000000000) :
  Dr (fun k => spec_l12Rule.f k s p) fun r => smallR ⟨r.1, r.2.1, ⟨r.2.2.1, r.2.2.2.1⟩, ⟨r.2.2.2.2.1, r.2.2.2.2.2.1⟩, r.2.2.2.2.2.2.1, r.2.2.2.2.2.2.2.1⟩ ∧ p ≤ r.2.2.2.2.2.2.2.2 ∧ r.2.2.2.2.2.2.2.2 ≤ p + 18 := by
 simp only [spec_l12Rule.f]
 obtain ⟨x, e1, b1⟩ := one s p [0, 1, 2, 2, 2] hs (by omega) (by omega) (by simp) (by simp)
 simp only [List.mem_cons, List.not_mem_nil, or_false] at b1
 obtain ⟨b, m, e2, ⟨c0, c1, c2, c3, _⟩⟩ := drawBlock s (p + 1) hs (by omega) (by omega)
 obtain ⟨b', m', e3, ⟨d0, d1, d2, d3, _⟩⟩ := drawBlock s (p + 1 + 7) hs (by omega) (by omega)
 obtain ⟨y, e4, b4⟩ := one s (p + 1 + 7 + 7) [0, 0, 80, 100] hs (by omega) (by omega) (by simp) (by simp)
 obtain ⟨z, e5, b5⟩ := one s (p + 1 + 7 + 7 + 1) [65535, 80, 100, 443] hs (by omega) (by omega) (by simp) (by simp)
 simp only [List.mem_cons, List.not_mem_nil, or_false] at b4 b5
 obtain ⟨t, e6, t0, t1⟩ := pick s (p + 1 + 7 + 7 + 1 + 1) 2 hs (by omega) (by omega) (by decide) (by decide)
 refine drB e1 (drB e2 (drB e3 (drB e4 (drB e5 ?_))))
 simp only []
 refine drI (fun _ => dr1 ?_) (fun _ => dr1 ?_)
 all_goals
  simp only [spec_l12Rule.j0]
  refine drI (fun _ => drB e6 (drR ?_)) (fun _ => drR ?_)
 all_goals
  simp only []
  refine ⟨⟨⟨?_, ?_⟩, ⟨?_, ?_⟩, ⟨?_, ?_⟩, ⟨?_, ?_⟩, ⟨?_, ?_⟩, ⟨?_, ?_⟩, ⟨?_, ?_⟩, ⟨?_, ?_⟩⟩, ?_, ?_⟩ <;> first | omega | (simp only []; omega)
theorem small_all : smallI 0 ∧ smallI 65535 := ⟨⟨by omega, by omega⟩, ⟨by omega, by omega⟩⟩
theorem mem_snoc_small {l : List Ru} {x : Ru} (h : ∀ y ∈ l, smallR y) (hx : smallR x) : ∀ y ∈ l ++ [x], smallR y := by
 intro y hy
 rcases List.mem_append.1 hy with hy | hy
 ·exact h y hy
 ·rw [List.mem_singleton.1 hy]
  exact hx
theorem rules_l0 (s : List Int) (hs : Bytes s) (d : Nat) : ∀ (l : List Ru) (p : Int), 0 ≤ p → p + 18 * d ≤ 500000000000 → l.length + d ≤ 1000 → (∀ x ∈ l, smallR x) →
  Dr (fun k => spec_l12Rules.l0 k l (d : Int) s p) fun r => r.1.length ≤ l.length + d + 1 ∧ (∀ x ∈ r.1, smallR x) ∧ p ≤ r.2 ∧ r.2 ≤ p + 18 * d + 2 := by
 induction d with
 | zero =>
  intro l p hp0 hp1 hl h
  refine dr1 ?_
  simp only [spec_l12Rules.l0]
  obtain ⟨v, e, v0, v1⟩ := pick s p 2 hs hp0 (by omega) (by decide) (by decide)
  have e2 := spec_over (a := 0) (m := 0) (by omega) (by omega) (by omega) (by omega)
  refine drN (by omega) (drB e (drI (fun c => ?_) (fun c => drR ⟨by simp only []; omega, h, by simp only []; omega, by simp only []; omega⟩)))
  obtain ⟨x, e1, b1⟩ := one s (p + 1) [1, 2, 2] hs (by omega) (by omega) (by simp) (by simp)
  simp only [List.mem_cons, List.not_mem_nil, or_false] at b1
  refine drB e1 (drB e2 (drB e2 (drP (by omega) (drR ⟨by simp, mem_snoc_small h ?_, by simp only []; omega, by simp only []; omega⟩))))
  have hz : (0 : Int) / sz 0 * sz 0 = 0 := by rw [sz_0]; rfl
  simp only [hz]
  exact ⟨⟨by simp only []; omega, by simp only []; omega⟩, small_all.1, small_all.1, small_all.1, small_all.1, small_all.1, small_all.1, small_all.2⟩
 | succ d ih =>
  intro l p hp0 hp1 hl h
  refine dr1 ?_
  simp only [spec_l12Rules.l0]
  have hw : wrap64 (((d + 1 : Nat) : Int) - 1) = (d : Int) := by
   have : ((d + 1 : Nat) : Int) - 1 = (d : Int) := by omega
   rw [this, w64 (by omega)]
  obtain ⟨x, e, hx, q0, q1⟩ := drawRule s p hs hp0 (by omega)
  refine drP (by omega) (drB e (drP (by omega) ?_))
  simp only [hw]
  refine (ih (l ++ [_]) _ (by omega) (by omega) (by simp; omega) (mem_snoc_small h hx)).imp fun r hr => ⟨?_, hr.2.1, by omega, by omega⟩
  have := hr.1
  simp only [List.length_append, List.length_cons, List.length_nil] at this
  omega
theorem drawRules (s : List Int) (p : Int) (hs : Bytes s) (hp0 : 0 ≤ p) (hp1 : p ≤ 400000000000) : Dr (fun k => spec_l12Rules.f k s p) fun r => r.1.length ≤ 5 ∧ (∀ x ∈ r.1, smallR x) ∧ p ≤ r.2 ∧ r.2 ≤ p + 100 := by
 simp only [spec_l12Rules.f]
 obtain ⟨v, e, v0, v1⟩ := pick s p 5 hs hp0 (by omega) (by decide) (by decide)
 refine drB e ?_
 have hv : v = ((v.toNat : Nat) : Int) := by omega
 simp only []
 rw [hv]
 refine (rules_l0 s hs v.toNat [] (p + 1) (by omega) (by omega) (by simp; omega) (fun x hx => by cases hx)).imp fun r hr => ⟨?_, hr.2.1, by omega, by omega⟩
 have := hr.1
 simp only [List.length_nil] at this
 omega
theorem anyRules_l0 (s : List Int) (hs : Bytes s) (d : Nat) : ∀ (l : List Ru) (p : Int), 0 ≤ p → p + 19 * d ≤ 500000000000 → l.length + d = 9 → (∀ x ∈ l, smallR x) →
  Dr (fun k => spec_l12AnyRules.l0 k l s p) fun r => r.1.length ≤ 9 ∧ (∀ x ∈ r.1, smallR x) ∧ p ≤ r.2 ∧ r.2 ≤ p + 19 * d + 1 := by
 induction d with
 | zero =>
  intro l p hp0 hp1 hl h
  refine dr1 ?_
  simp only [spec_l12AnyRules.l0]
  obtain ⟨v, e, v0, v1⟩ := pick s p 2 hs hp0 (by omega) (by decide) (by decide)
  refine drB e ?_
  simp only []
  have hw : wrap64 (8 + v) = 8 + v := w64 (by omega)
  rw [hw]
  exact drN (by omega) (drR ⟨by simp only []; omega, h, by simp only []; omega, by simp only []; omega⟩)
 | succ d ih =>
  intro l p hp0 hp1 hl h
  refine dr1 ?_
  simp only [spec_l12AnyRules.l0]
  obtain ⟨v, e, v0, v1⟩ := pick s p 2 hs hp0 (by omega) (by decide) (by decide)
  refine drB e ?_
  simp only []
  have hw : wrap64 (8 + v) = 8 + v := w64 (by omega)
  rw [hw]
  refine drI (fun c => ?_) (fun c => drR ⟨by simp only []; omega, h, by simp only []; omega, by simp only []; omega⟩)
  obtain ⟨x, e, hx, q0, q1⟩ := drawRule s (p + 1) hs (by omega) (by omega)
  refine drB e (drP (by omega) ?_)
  exact (ih (l ++ [_]) _ (by omega) (by omega) (by simp; omega) (mem_snoc_small h hx)).imp fun r hr => ⟨hr.1, hr.2.1, by omega, by omega⟩
theorem mem_set_small {l : List Ru} {n : Nat} {x : Ru} (h : ∀ y ∈ l, smallR y) (hx : smallR x) : ∀ y ∈ l.set n x, smallR y := by
 intro y hy
 rcases List.mem_or_eq_of_mem_set hy with hy | hy
 ·exact h y hy
 ·rw [hy]
  exact hx
theorem drawAnyRules (s : List Int) (p : Int) (hs : Bytes s) (hp0 : 0 ≤ p) (hp1 : p ≤ 300000000000) : Dr (fun k => spec_l12AnyRules.f k s p) fun r => r.1.length ≤ 9 ∧ (∀ x ∈ r.1, smallR x) ∧ p ≤ r.2 ∧ r.2 ≤ p + 300 := by
 simp only [spec_l12AnyRules.f]
 obtain ⟨⟨l, q⟩, e, h1, h2, q0, q1⟩ := drawRules s p hs hp0 (by omega)
 simp only [] at h1 h2 q0 q1
 refine drB e (drI (fun c => drR ⟨by simp only []; omega, h2, by simp only []; omega, by simp only []; omega⟩) (fun c => ?_))
 simp only [] at c ⊢
 obtain ⟨i, e1, i0, i1⟩ := pick s q l.length hs (by omega) (by omega) (by omega) (by omega)
 obtain ⟨v, e2, v0, v1⟩ := pick s (q + 1) 20 hs (by omega) (by omega) (by decide) (by decide)
 have hi : rd_T71 l i = l[i.toNat]'(by omega) := by
  have := rd_rule l i.toNat (by omega)
  rwa [Int.toNat_of_nonneg i0] at this
 obtain ⟨x1, x2, x3, x4, x5, x6, x7, x8⟩ := h2 _ (List.getElem_mem (show i.toNat < l.length by omega))
 refine drB e1 (drB e2 (drI (fun c0 => ?_) (fun c0 => drI (fun c1 => ?_) (fun c1 => drI (fun c2 => ?_) (fun c2 => drI (fun c3 => ?_) (fun c3 => drI (fun c4 => ?_) (fun c4 => ?_)))))))
 ·obtain ⟨x, e3, b3⟩ := one s (q + 1 + 1) [(-1), 3, 0] hs (by omega) (by omega) (by simp) (by simp)
  simp only [List.mem_cons, List.not_mem_nil, or_false] at b3
  refine drB e3 (drP i0 (drP i1 (drR ⟨by simp only [List.length_set]; omega, mem_set_small h2 ?_, by simp only []; omega, by simp only []; omega⟩)))
  simp only [hi]
  exact ⟨⟨by simp only []; omega, by simp only []; omega⟩, x2, x3, x4, x5, x6, x7, x8⟩
 ·obtain ⟨x, e3, b3⟩ := one s (q + 1 + 1) [(-1), 4, 1] hs (by omega) (by omega) (by simp) (by simp)
  simp only [List.mem_cons, List.not_mem_nil, or_false] at b3
  refine drB e3 (drP i0 (drP i1 (drR ⟨by simp only [List.length_set]; omega, mem_set_small h2 ?_, by simp only []; omega, by simp only []; omega⟩)))
  simp only [hi]
  exact ⟨x1, ⟨by simp only []; omega, by simp only []; omega⟩, x3, x4, x5, x6, x7, x8⟩
 ·obtain ⟨x, e3, b3⟩ := one s (q + 1 + 1) [(-1), 65536] hs (by omega) (by omega) (by simp) (by simp)
  simp only [List.mem_cons, List.not_mem_nil, or_false] at b3
  refine drB e3 (drP i0 (drP i1 (drR ⟨by simp only [List.length_set]; omega, mem_set_small h2 ?_, by simp only []; omega, by simp only []; omega⟩)))
  simp only [hi]
  exact ⟨x1, x2, x3, x4, x5, x6, ⟨by simp only []; omega, by simp only []; omega⟩, x8⟩
 ·obtain ⟨b, m, q', e3, q2, q3, b0, b1, m0, m1⟩ := drawAnyBlock s (q + 1 + 1) hs (by omega) (by omega)
  refine drB e3 (drP i0 (drP i1 (drR ⟨by simp only [List.length_set]; omega, mem_set_small h2 ?_, by simp only []; omega, by simp only []; omega⟩)))
  simp only [hi]
  exact ⟨x1, x2, ⟨b0, b1⟩, ⟨m0, by simp only []; omega⟩, x5, x6, x7, x8⟩
 ·exact (anyRules_l0 s hs (9 - l.length) l _ (by simp only []; omega) (by simp only []; omega) (by omega) h2).imp fun r hr => ⟨hr.1, hr.2.1, by have := hr.2.2.1; simp only [] at this; omega, by have := hr.2.2.2; simp only [] at this; omega⟩
 ·exact drR ⟨by simp only []; omega, h2, by simp only []; omega, by simp only []; omega⟩
theorem drawCall (s : List Int) (p : Int) (hs : Bytes s) (hp0 : 0 ≤ p) (hp1 : p ≤ 500000000000) : Dr (fun k => spec_l12Call.f k s p) fun r => (0 ≤ r.1 ∧ r.1 ≤ 4294967295) ∧ (0 ≤ r.2.1 ∧ r.2.1 ≤ 4294967295) ∧ (0 ≤ r.2.2.1 ∧ r.2.2.1 ≤ 65535) ∧ r.2.2.2 = p + 14 := by
 simp only [spec_l12Call.f]
 obtain ⟨a, e1, a0, a1⟩ := drawAddr s p hs (by omega) (by omega)
 obtain ⟨b, e2, b0, b1⟩ := drawAddr s (p + 6) hs (by omega) (by omega)
 obtain ⟨v, e3, v0, v1⟩ := pick s (p + 6 + 6) 256 hs (by omega) (by omega) (by decide) (by decide)
 obtain ⟨x, e4, b4⟩ := one s (p + 6 + 6 + 1) [0, 80, 81, 100, 443, 65535, v] hs (by omega) (by omega) (by simp) (by simp)
 simp only [List.mem_cons, List.not_mem_nil, or_false] at b4
 exact drB e1 (drB e2 (drB e3 (drB e4 (drR ⟨⟨a0, a1⟩, ⟨b0, b1⟩, ⟨by simp only []; omega, by simp only []; omega⟩, by simp only []; omega⟩))))
theorem drawAnyCall (s : List Int) (p : Int) (hs : Bytes s) (hp0 : 0 ≤ p) (hp1 : p ≤ 400000000000) : Dr (fun k => spec_l12AnyCall.f k s p) fun r => (-1 ≤ r.1 ∧ r.1 ≤ 1099511627776) ∧ (0 ≤ r.2.1 ∧ r.2.1 ≤ 4294967295) ∧ (-1 ≤ r.2.2.1 ∧ r.2.2.1 ≤ 65536) ∧ p ≤ r.2.2.2 ∧ r.2.2.2 ≤ p + 25 := by
 simp only [spec_l12AnyCall.f]
 obtain ⟨⟨a, b, c, q⟩, e1, ⟨a0, a1⟩, ⟨b0, b1⟩, ⟨c0, c1⟩, hq⟩ := drawCall s p hs hp0 (by omega)
 simp only [] at a0 a1 b0 b1 c0 c1 hq
 obtain ⟨v, e3, v0, v1⟩ := pick s q 20 hs (by omega) (by omega) (by decide) (by decide)
 refine drB e1 (drB e3 ?_)
 simp only []
 refine drI (fun c => ?_) (fun c => drI (fun c => ?_) (fun c => ?_))
 ·obtain ⟨a', p', e, p0, p1, k0, k1⟩ := drawAnyAddr s (q + 1) hs (by omega) (by omega)
  exact drB e (drR ⟨⟨k0, k1⟩, ⟨b0, b1⟩, ⟨by simp only []; omega, by simp only []; omega⟩, by simp only []; omega, by simp only []; omega⟩)
 ·obtain ⟨x, e4, b4⟩ := one s (q + 1) [(-1), 65536] hs (by omega) (by omega) (by simp) (by simp)
  simp only [List.mem_cons, List.not_mem_nil, or_false] at b4
  exact drB e4 (drR ⟨⟨by simp only []; omega, by simp only []; omega⟩, ⟨b0, b1⟩, ⟨by simp only []; omega, by simp only []; omega⟩, by simp only []; omega, by simp only []; omega⟩)
 ·exact drR ⟨⟨by simp only []; omega, by simp only []; omega⟩, ⟨b0, b1⟩, ⟨by simp only []; omega, by simp only []; omega⟩, by simp only []; omega, by simp only []; omega⟩
theorem drawRulesFirst (l : List Int) (hw : ∀ x ∈ l, (Lit.int .u8 x).wf = true) : Dr (fun k => spec_DrawRulesFirst.f k l) fun r => r.1.length ≤ 9 := by
 simp only [spec_DrawRulesFirst.f]
 obtain ⟨s, h0, hs⟩ := l1Open l hw
 refine drS h0 ?_
 obtain ⟨r, e, h1, h2, p0, p1⟩ := drawAnyRules s 0 hs (by omega) (by omega)
 obtain ⟨c, e2, _⟩ := drawAnyCall s r.2 hs (by omega) (by omega)
 exact drB e (drB e2 (drR h1))
end Go.Proofs.Ytkgbgaojglcaoaa.Z
end
section
namespace Go.Proofs.Ytkgbgaojglcaoaa.Pure
open Go Go.RowKit Go.Proofs.Ytkgbgaojglcaoaa.PAll Go.Proofs.YtkgbgaojglcaoaaW.PrintWords Go.Proofs.YtkgbgaojglcaoaaW.PrintLast Go.Proofs.YtkgbgaojglcaoaaW.PrintMore Go.Proofs.Ytkgbgaojglcaoaa.Z
set_option linter.unusedVariables false
set_option linter.unusedSimpArgs false
theorem ovCells_loop (s : List Ce) (hl : s.length ≤ 1000000000) (d : Nat) : ∀ n : Nat, n + d = s.length → (∃ K_, ∀ k, K_ ≤ k → laws_ovCells.l0 k s s (n : Int) = some true) := by
 induction d with
 | zero =>
  intro n hn
  refine ev1 ?_
  simp only [laws_ovCells.l0]
  exact evN (by omega) (evR rfl)
 | succ d ih =>
  intro n hn
  have hw : wrap64 ((n : Int) + 1) = ((n + 1 : Nat) : Int) := by rw [w64 (by omega)]; omega
  refine ev1 ?_
  simp only [laws_ovCells.l0]
  rw [hw]
  exact evP (by omega) (evP (by omega) (evP (by omega) (evN (by simp) (ih (n + 1) (by omega)))))
theorem ovCells_self (s : List Ce) (hl : s.length ≤ 1000000000) : (∃ K_, ∀ k, K_ ≤ k → laws_ovCells.f k s s = some true) := by
 simp only [laws_ovCells.f]
 exact evP trivial (ovCells_loop s hl s.length 0 (by omega))
theorem drawCells (l : List Int) (hw : ∀ x ∈ l, (Lit.int .u8 x).wf = true) : Dr (fun k => spec_DrawCells.f k l) fun r => r.length ≤ 9 := by
 simp only [spec_DrawCells.f]
 obtain ⟨s, h0, hs⟩ := l1Open l hw
 refine drS h0 ?_
 obtain ⟨⟨r, q⟩, e, h1, h2, p0, p1⟩ := drawAnyRules s 0 hs (by omega) (by omega)
 exact drB e (drR h1)
section
variable {l : List Ru} {code : List Int} {cs : List Ce} (hr : rokB l = true) (ec : cs = cellsG l (gridF l) [])
include hr ec
theorem cells_inner (i : Nat) (hi : i < cs.length) (hl : cs.length ≤ 400) (h : (∃ K_, ∀ k, K_ ≤ k → laws_FnCells.l0 k code l cs (wrap64 ((i : Int) + 1)) = some true)) (d : Nat) :
  ∀ n : Nat, n + d = i → (∃ K_, ∀ k, K_ ≤ k → laws_FnCells.l1 k code l cs (i : Int) (n : Int) cs[i].f0 cs[i].f1 cs[i].f2 cs[i].f3 cs[i].f4 cs[i].f5 cs[i].f6 = some true) := by
 have stop : ∀ n : Nat, (∃ K_, ∀ k, K_ ≤ k → laws_FnCells.j5 k code l cs (i : Int) (n : Int) false cs[i].f0 cs[i].f1 cs[i].f2 cs[i].f3 cs[i].f4 cs[i].f5 cs[i].f6 = some true) := fun n => by
  refine ev1 ?_
  simp only [laws_FnCells.j5]
  exact evN (by simp) h
 induction d with
 | zero =>
  intro n hn
  refine ev1 ?_
  simp only [laws_FnCells.l1]
  exact evN (by omega) (stop n)
 | succ d ih =>
  intro n hn
  have hlt : n < cs.length := by omega
  have hw : wrap64 ((n : Int) + 1) = ((n + 1 : Nat) : Int) := by rw [w64 (by omega)]; omega
  refine ev1 ?_
  simp only [laws_FnCells.l1]
  refine evP (by omega) ?_
  by_cases c : (n : Int) < 40
  ·rw [decide_eq_true c]
   refine ev1 ?_
   simp only [laws_FnCells.j5]
   rw [rd_cell cs n hlt, hw]
   have C := cells_CI (rokB_valid hr)
   rw [← ec] at C
   have hp := (List.pairwise_iff_getElem.1 C.sorted) n i hlt hi (by omega)
   have hm := cells_apart (C.good _ (List.getElem_mem hlt)) (C.good _ (List.getElem_mem hi)) hp
   exact evP trivial (evP (by omega) (evP (by omega) (evS (impl_meet cs[n] cs[i]) (evN (by rw [hm]; simp) (ih (n + 1) (by omega))))))
  ·rw [decide_eq_false c]
   exact stop n
theorem cells_outer (hl : cs.length ≤ 400) (hwf : ∀ x ∈ code, (Lit.int .u8 x).wf = true) (d : Nat) : ∀ n : Nat, n + d = cs.length → (∃ K_, ∀ k, K_ ≤ k → laws_FnCells.l0 k code l cs (n : Int) = some true) := by
 induction d with
 | zero =>
  intro n hn
  refine ev1 ?_
  simp only [laws_FnCells.l0]
  refine evN (by omega) ?_
  obtain ⟨⟨r, c1, c2, c3⟩, e, _⟩ := drawRulesFirst code hwf
  refine evB e (evB (impl_findC cs (by omega) c1 c2 c3) (evB (impl_rulesFirst l c1 c2 c3) (evR ?_)))
  rw [ec, cells_find hr]
  simp
 | succ d ih =>
  intro n hn
  have hlt : n < cs.length := by omega
  have hw : wrap64 ((n : Int) + 1) = ((n + 1 : Nat) : Int) := by rw [w64 (by omega)]; omega
  have C := cells_CI (rokB_valid hr)
  rw [← ec] at C
  have g := C.good _ (List.getElem_mem hlt)
  obtain ⟨f0, f2, f4⟩ := g.full (rokB_valid hr)
  have k1 := g.corner hr (a := cs[n].f0) (b := cs[n].f3) (c := cs[n].f4) ⟨by omega, f0, f2, by omega, by omega, f4⟩
  have k2 := g.corner hr (a := cs[n].f1) (b := cs[n].f2) (c := cs[n].f5) ⟨f0, by omega, by omega, f2, f4, by omega⟩
  refine ev1 ?_
  simp only [laws_FnCells.l0]
  rw [rd_cell cs n hlt]
  refine evP (by omega) (evP (by omega) (evN (by omega) (evN (by omega) (evN (by omega) (evB (impl_rulesFirst l _ _ _) (evP k1 (evB (impl_rulesFirst l _ _ _) ?_)))))))
  rw [k2]
  refine ev1 ?_
  simp only [laws_FnCells.j3]
  exact evN (by simp) (cells_inner hr ec n hlt hl (by rw [hw]; exact ih (n + 1) (by omega)) n 0 (by omega))
end
theorem FnCells : laws_FnCells.Pure := by
 intro l0 l1 h0 _ hw0 h1 _ hw1
 suffices h : (∃ K_, ∀ k, K_ ≤ k → laws_FnCells.f k l0 l1 = some true) by obtain ⟨K, h⟩ := h; exact ⟨K, h K (Nat.le_refl _)⟩
 have big : (∃ K_, ∀ k, K_ ≤ k → laws_FnCells.j0 k l0 l1 true = some true) := by
  refine ev1 ?_
  simp only [laws_FnCells.j0]
  exact evP trivial (evR rfl)
 simp only [laws_FnCells.f]
 refine evI (fun _ => big) (fun _ => ?_)
 cases hd : decide ((l1.length : Int) > 1048576) with
 | true => exact big
 | false =>
  refine ev1 ?_
  simp only [laws_FnCells.j0]
  obtain ⟨l, e, hl⟩ := drawCells l0 hw0
  have hlen := cellsR_len' l
  have ei := impl_cells l
  have es := spec_cells l (by omega)
  have hok : (cellsR l).2 = true → rokB l = true ∧ (cellsR l).1 = cellsG l (gridF l) [] := fun h => by
   unfold cellsR at h ⊢
   split at h
   ·rename_i c
    rw [if_pos c]
    split at h
    ·cases h
    ·rename_i c2
     rw [if_neg c2]
     exact ⟨c, rfl⟩
   ·cases h
  generalize cellsR l = R at hlen ei es hok
  obtain ⟨cs, b⟩ := R
  simp only [] at hlen hok
  have ov := ovCells_self cs (by omega)
  refine evN (by simp) (evB e (evB ei (evB es (evN (by simp) (evB ov (evP rfl (ev1 ?_)))))))
  simp only [laws_FnCells.j1]
  cases b with
  | false => exact evP rfl (evP rfl (evB ov (evR rfl)))
  | true =>
   obtain ⟨hr, ec⟩ := hok rfl
   exact evN (by simp) (cells_outer hr ec hlen hw1 cs.length 0 (by omega))
end Go.Proofs.Ytkgbgaojglcaoaa.Pure
end
