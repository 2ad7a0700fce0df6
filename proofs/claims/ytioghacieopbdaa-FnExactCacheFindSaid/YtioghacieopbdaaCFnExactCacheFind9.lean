/- Contracts of the functions that the statement reaches, printed by a program out of the translation and joined with the plain laws. -/
import Derived.Test.YtioghacieopbdaaCFnExactCacheFind3
import Derived.Test.YtioghacieopbdaaCFnExactCacheFind4
import Derived.Test.YtioghacieopbdaaCFnExactCacheFind5
import Derived.Test.YtioghacieopbdaaCFnExactCacheFind6
import Derived.Test.YtioghacieopbdaaCFnExactCacheFind7
import Derived.Test.YtioghacieopbdaaCFnExactCacheFind8
section
namespace Go.Proofs.Ytioghacieopbdaa.Z
open Go Go.RowKit Go.Proofs.Ytioghacieopbdaa.PAll Go.Proofs.YtioghacieopbdaaW.PrintWords Go.Proofs.YtioghacieopbdaaW.PrintLast Go.Proofs.YtioghacieopbdaaW.PrintMore
set_option linter.unusedVariables false
set_option linter.unusedSimpArgs false
theorem spec_in (a l h : Int) : spec_l1In.f a l h = some (decide (l ≤ a ∧ a ≤ h)) := by
 unfold spec_l1In.f
 by_cases c : a ≥ l
 ·rw [if_pos c]; simp [c]
 ·rw [if_neg c]
  have : ¬ l ≤ a := by omega
  simp [this]
theorem impl_in (a l h : Int) : impl_in.f a l h = some (decide (l ≤ a ∧ a ≤ h)) := by
 unfold impl_in.f
 by_cases c : a ≥ l
 ·rw [if_pos c]; simp [c]
 ·rw [if_neg c]
  have : ¬ l ≤ a := by omega
  simp [this]
theorem spec_addr (a : Int) : spec_l1Addr.f a = some (decide (0 ≤ a ∧ a ≤ 4294967295)) := by simp only [spec_l1Addr.f, spec_in, Option.bind_some]
theorem impl_addr (a : Int) : impl_isAddr.f a = some (decide (0 ≤ a ∧ a ≤ 4294967295)) := by simp only [impl_isAddr.f, impl_in, Option.bind_some]
theorem two_loop (n : Nat) : ∀ (k : Nat) (c : Int), n ≤ 62 → n < k → 1 ≤ c → c * 2 ^ n ≤ 4611686018427387904 → spec_l1Two.l0 k (n : Int) c = some (c * 2 ^ n) := by
 induction n with
 | zero =>
  intro k c _ hk _ _
  obtain ⟨k, rfl⟩ : ∃ m, k = m + 1 := ⟨k - 1, by omega⟩
  simp only [spec_l1Two.l0]
  rw [if_neg (by omega)]
  simp
 | succ n ih =>
  intro k c hn hk hc hb
  obtain ⟨k, rfl⟩ : ∃ m, k = m + 1 := ⟨k - 1, by omega⟩
  have e : c * 2 ^ (n + 1) = c * 2 * 2 ^ n := by rw [Int.pow_succ, Int.mul_comm ((2 : Int) ^ n) 2, Int.mul_assoc]
  have hp : (1 : Int) ≤ 2 ^ n := by
   have : (0 : Int) < 2 ^ n := Int.pow_pos (by decide)
   omega
  have hc2 : c * 2 ≤ c * 2 * 2 ^ n := by
   have := Int.mul_le_mul_of_nonneg_left hp (by omega : (0 : Int) ≤ c * 2)
   omega
  simp only [spec_l1Two.l0]
  rw [e] at hb ⊢
  rw [if_pos (by omega), w64 (by omega), w64 (by omega)]
  have : ((n + 1 : Nat) : Int) - 1 = (n : Int) := by omega
  rw [this]
  exact ih k (c * 2) (by omega) (by omega) (by omega) hb
theorem spec_two {n : Int} (h0 : 0 ≤ n) (h1 : n ≤ 62) : (∃ K_, ∀ k, K_ ≤ k → spec_l1Two.f k n = some (2 ^ n.toNat)) := by
 refine ⟨n.toNat + 1, fun k hk => ?_⟩
 have e : (n.toNat : Int) = n := by omega
 have hp : (2 : Int) ^ n.toNat ≤ 2 ^ 62 := by
  exact_mod_cast Nat.pow_le_pow_right (n := 2) (by decide) (by omega : n.toNat ≤ 62)
 have := two_loop n.toNat k 1 (by omega) (by omega) (by omega) (by omega)
 rw [e, Int.one_mul] at this
 exact this
theorem spec_size {m : Int} (h0 : 0 ≤ m) (h1 : m ≤ 32) : (∃ K_, ∀ k, K_ ≤ k → spec_l1Size.f k m = some (sz m)) := by
 obtain ⟨K, h⟩ := spec_two (n := 32 - m) (by omega) (by omega)
 refine ⟨K, fun k hk => ?_⟩
 simp only [spec_l1Size.f]
 rw [w64 (by omega), h k hk]
 rfl
theorem impl_size {b m : Int} (h0 : 0 ≤ m) (h1 : m ≤ 32) : impl_Block_size.f b m = some (sz m) := by
 unfold impl_Block_size.f
 rw [w64 (by omega), if_pos (by omega), shl_sz h0 h1]
theorem tmod_beq {b s : Int} (hb : 0 ≤ b) : (Int.tmod b s == 0) = decide (b % s = 0) := by
 rw [Int.tmod_eq_emod_of_nonneg hb]
 rfl
theorem impl_ok (b m : Int) : impl_BlockOk.f b m = some (bokB b m) := by
 unfold impl_BlockOk.f
 rw [impl_addr, Option.bind_some]
 by_cases c : 0 ≤ b ∧ b ≤ 4294967295
 ·rw [if_pos (by simpa using c), impl_in, Option.bind_some]
  by_cases d : 0 ≤ m ∧ m ≤ 32
  ·rw [if_pos (by simpa using d), impl_size d.1 d.2, Option.bind_some, if_neg (by have := sz_pos m; omega), tmod_beq c.1]
   simp [bokB, bok, c, d]
  ·rw [if_neg (by simpa using d)]
   exact congrArg some (bokB_false.2 (fun h => d ⟨h.2.2.1, h.2.2.2.1⟩)).symm
 ·rw [if_neg (by simpa using c)]
  exact congrArg some (bokB_false.2 (fun h => c ⟨h.1, h.2.1⟩)).symm
theorem spec_ok (b m : Int) : (∃ K_, ∀ k, K_ ≤ k → spec_BlockOk.f k b m = some (bokB b m)) := by
 by_cases c : 0 ≤ b ∧ b ≤ 4294967295
 ·by_cases d : 0 ≤ m ∧ m ≤ 32
  ·obtain ⟨K, h⟩ := spec_size d.1 d.2
   refine ⟨K, fun k hk => ?_⟩
   simp only [spec_BlockOk.f]
   rw [spec_addr, Option.bind_some, if_pos (by simpa using c), spec_in, Option.bind_some, if_pos (by simpa using d), h k hk, Option.bind_some, if_neg (by have := sz_pos m; omega), tmod_beq c.1]
   simp [bokB, bok, c, d]
  ·refine ⟨0, fun k _ => ?_⟩
   simp only [spec_BlockOk.f]
   rw [spec_addr, Option.bind_some, if_pos (by simpa using c), spec_in, Option.bind_some, if_neg (by simpa using d)]
   exact congrArg some (bokB_false.2 (fun h => d ⟨h.2.2.1, h.2.2.2.1⟩)).symm
 ·refine ⟨0, fun k _ => ?_⟩
  simp only [spec_BlockOk.f]
  rw [spec_addr, Option.bind_some, if_neg (by simpa using c)]
  exact congrArg some (bokB_false.2 (fun h => c ⟨h.1, h.2.1⟩)).symm
theorem sz_bd {m : Int} (h0 : 0 ≤ m) : 1 ≤ sz m ∧ sz m ≤ 4294967296 := ⟨sz_pos m, sz_top h0⟩
theorem impl_last {b m : Int} (hb0 : 0 ≤ b) (hb1 : b ≤ 4611686018427387904) (h0 : 0 ≤ m) (h1 : m ≤ 32) : impl_Block_last.f b m = some (b + sz m - 1) := by
 have := sz_bd h0
 unfold impl_Block_last.f
 rw [impl_size h0 h1, Option.bind_some, w64 (n := b + sz m) (by omega), w64 (by omega)]
theorem spec_last {b m : Int} (hb0 : -1 ≤ b) (hb1 : b ≤ 4611686018427387904) (h0 : 0 ≤ m) (h1 : m ≤ 32) : (∃ K_, ∀ k, K_ ≤ k → spec_l1Last.f k b m = some (b + sz m - 1)) := by
 have := sz_bd h0
 obtain ⟨K, h⟩ := spec_size h0 h1
 refine ⟨K, fun k hk => ?_⟩
 simp only [spec_l1Last.f]
 rw [h k hk, Option.bind_some, w64 (n := b + sz m) (by omega), w64 (by omega)]
/-- Is an address in a block? -/
def hasB (b m a : Int) : Bool := decide (b ≤ a ∧ a ≤ b + sz m - 1)
theorem impl_has {b m : Int} (a : Int) (hb0 : 0 ≤ b) (hb1 : b ≤ 4611686018427387904) (h0 : 0 ≤ m) (h1 : m ≤ 32) : impl_Block_has.f b m a = some (hasB b m a) := by
 unfold impl_Block_has.f
 rw [impl_last hb0 hb1 h0 h1, Option.bind_some, impl_in, Option.bind_some]
 rfl
abbrev Ru := S34
theorem drop_consR {α : Type} {l : List α} {n : Nat} (h : n < l.length) : l.drop n = l[n] :: l.drop (n + 1) := List.drop_eq_getElem_cons h
theorem rd_rule (l : List Ru) (n : Nat) (h : n < l.length) : rd_T34 l (n : Int) = l[n] := by
 unfold rd_T34
 rw [List.getD_eq_getElem?_getD, Int.toNat_natCast, List.getElem?_eq_getElem h]
 rfl
/-- Is a number in a range? -/
def inR (a l h : Int) : Bool := decide (l ≤ a ∧ a ≤ h)
theorem impl_inR (a l h : Int) : impl_in.f a l h = some (inR a l h) := impl_in a l h
theorem spec_inR (a l h : Int) : spec_l1In.f a l h = some (inR a l h) := spec_in a l h
def tunB (x : Ru) : Bool := if x.f0 = 2 then inR x.f1 0 3 else decide (x.f1 = 0)
/-- Is a rule valid? -/
def ruleB (x : Ru) : Bool := bokB x.f2.f0 x.f2.f1 && (bokB x.f3.f0 x.f3.f1 && (inR x.f4 0 x.f5 && (decide (x.f5 ≤ 65535) && (inR x.f0 0 2 && tunB x))))
theorem right_j0 (k : Nat) (b : Bool) (x : Ru) : impl_Rule_right.j0 (k + 1) b x.f0 x.f1 x.f2.f0 x.f2.f1 x.f3.f0 x.f3.f1 x.f4 x.f5 = some (bokB x.f2.f0 x.f2.f1 && (bokB x.f3.f0 x.f3.f1 && (inR x.f4 0 x.f5 && (decide (x.f5 ≤ 65535) && (inR x.f0 0 2 && b))))) := by
 simp only [impl_Rule_right.j0]
 rw [impl_ok, Option.bind_some, impl_ok, Option.bind_some, impl_inR, Option.bind_some, impl_inR, Option.bind_some]
 by_cases d : x.f5 ≤ 65535
 ·cases bokB x.f2.f0 x.f2.f1 <;> cases bokB x.f3.f0 x.f3.f1 <;> cases inR x.f4 0 x.f5 <;> cases inR x.f0 0 2 <;> simp [d]
 ·cases bokB x.f2.f0 x.f2.f1 <;> cases bokB x.f3.f0 x.f3.f1 <;> cases inR x.f4 0 x.f5 <;> cases inR x.f0 0 2 <;> simp [d]
theorem impl_right (k : Nat) (x : Ru) : impl_Rule_right.f (k + 1) x.f0 x.f1 x.f2.f0 x.f2.f1 x.f3.f0 x.f3.f1 x.f4 x.f5 = some (ruleB x) := by
 simp only [impl_Rule_right.f]
 rw [right_j0, impl_inR, Option.bind_some, right_j0, right_j0]
 unfold ruleB tunB
 by_cases c : x.f1 = 0
 ·rw [if_pos c]
  by_cases d : x.f0 = 2
  ·rw [if_pos d]
   have : inR x.f1 0 3 = true := by rw [c]; rfl
   rw [this]
  ·rw [if_neg d]
   simp [c]
 ·rw [if_neg c]
  by_cases d : x.f0 = 2
  ·rw [if_pos d, if_pos d]
  ·rw [if_neg d, if_neg d]
   simp [c]
theorem spec_right (x : Ru) : (∃ K_, ∀ k, K_ ≤ k → spec_l4Ok.f k x.f0 x.f1 x.f2.f0 x.f2.f1 x.f3.f0 x.f3.f1 x.f4 x.f5 = some (ruleB x)) := by
 obtain ⟨K1, e1⟩ := spec_ok x.f2.f0 x.f2.f1
 obtain ⟨K2, e2⟩ := spec_ok x.f3.f0 x.f3.f1
 refine ⟨K1 + K2 + 1, fun k hk => ?_⟩
 obtain ⟨k, rfl⟩ : ∃ j, k = j + 1 := ⟨k - 1, by omega⟩
 simp only [spec_l4Ok.f]
 rw [e1 _ (by omega), Option.bind_some, e2 _ (by omega), Option.bind_some, spec_inR, Option.bind_some, spec_inR, Option.bind_some]
 simp only [spec_l4Ok.j0]
 rw [spec_inR, Option.bind_some]
 unfold ruleB tunB
 by_cases d : x.f5 ≤ 65535
 ·have d' : ¬ x.f5 > 65535 := by omega
  by_cases c : x.f0 = 2
  ·cases bokB x.f2.f0 x.f2.f1 <;> cases bokB x.f3.f0 x.f3.f1 <;> cases inR x.f4 0 x.f5 <;> cases inR x.f0 0 2 <;> simp [d, d', c]
  ·have e : (x.f1 == 0) = decide (x.f1 = 0) := rfl
   cases bokB x.f2.f0 x.f2.f1 <;> cases bokB x.f3.f0 x.f3.f1 <;> cases inR x.f4 0 x.f5 <;> cases inR x.f0 0 2 <;> simp [d, d', c, e]
 ·have d' : x.f5 > 65535 := by omega
  cases bokB x.f2.f0 x.f2.f1 <;> cases bokB x.f3.f0 x.f3.f1 <;> cases inR x.f4 0 x.f5 <;> simp [d, d']
/-- Are rules valid? -/
def rokB (l : List Ru) : Bool := l.all ruleB && decide (l.length ≤ 8)
theorem any_bad (k : Nat) (l : List Ru) : anyO (impl_RulesOk.bad (k + 1)) l = some (l.any fun x => !ruleB x) := by
 induction l with
 | nil => rfl
 | cons x l ih =>
  simp only [anyO, impl_RulesOk.bad]
  rw [impl_right, Option.bind_some, Option.bind_some, ih]
  cases h : ruleB x <;> simp [h]
theorem all_any (l : List Ru) : (!(l.any fun x => !ruleB x)) = l.all ruleB := by
 induction l with
 | nil => rfl
 | cons x l ih => simp only [List.any_cons, List.all_cons, ← ih]; cases ruleB x <;> simp
theorem impl_rulesOk (l : List Ru) : (∃ K_, ∀ k, K_ ≤ k → impl_RulesOk.f k l = some (rokB l)) := by
 refine ⟨1, fun k hk => ?_⟩
 obtain ⟨k, rfl⟩ : ∃ j, k = j + 1 := ⟨k - 1, by omega⟩
 simp only [impl_RulesOk.f]
 unfold rokB
 by_cases c : (l.length : Int) ≤ 8
 ·have c' : l.length ≤ 8 := by omega
  rw [if_pos c, any_bad, Option.bind_some, all_any]
  simp [c']
 ·have c' : ¬ l.length ≤ 8 := by omega
  rw [if_neg c]
  simp [c']
theorem spec_rulesOk_loop (l : List Ru) (hl : l.length ≤ 1073741824) (d : Nat) : ∀ n : Nat, n + d = l.length → (∃ K_, ∀ k, K_ ≤ k → spec_RulesOk.l0 k l (n : Int) = some ((l.drop n).all ruleB && decide (l.length ≤ 8))) := by
 induction d with
 | zero =>
  intro n hn
  refine ⟨1, fun k hk => ?_⟩
  obtain ⟨k, rfl⟩ : ∃ j, k = j + 1 := ⟨k - 1, by omega⟩
  simp only [spec_RulesOk.l0]
  rw [if_neg (by omega), List.drop_eq_nil_of_le (by omega)]
  have : decide ((l.length : Int) ≤ 8) = decide (l.length ≤ 8) := by rw [decide_eq_decide]; omega
  rw [this]
  rfl
 | succ d ih =>
  intro n hn
  have hlt : n < l.length := by omega
  have hw : wrap64 ((n : Int) + 1) = ((n + 1 : Nat) : Int) := by rw [w64 (by omega)]; omega
  obtain ⟨K1, e1⟩ := ih (n + 1) (by omega)
  obtain ⟨K2, e2⟩ := spec_right l[n]
  refine ⟨K1 + K2 + 1, fun k hk => ?_⟩
  obtain ⟨k, rfl⟩ : ∃ j, k = j + 1 := ⟨k - 1, by omega⟩
  have e1 := e1 k (by omega)
  simp only [spec_RulesOk.l0]
  rw [drop_consR hlt, if_pos (by omega), if_pos (by omega), rd_rule l n hlt, e2 k (by omega), Option.bind_some, hw, e1, List.all_cons]
  cases ruleB l[n] <;> simp
theorem spec_rulesOk (l : List Ru) (hl : l.length ≤ 1073741824) : (∃ K_, ∀ k, K_ ≤ k → spec_RulesOk.f k l = some (rokB l)) := spec_rulesOk_loop l hl l.length 0 (by omega)
theorem rokB_valid {l : List Ru} (h : rokB l = true) : ∀ x ∈ l, ruleB x = true := by
 simp only [rokB, Bool.and_eq_true, List.all_eq_true] at h
 exact h.1
theorem ruleB_blocks {x : Ru} (h : ruleB x = true) : bok x.f2.f0 x.f2.f1 ∧ bok x.f3.f0 x.f3.f1 ∧ 0 ≤ x.f4 ∧ x.f4 ≤ x.f5 ∧ x.f5 ≤ 65535 := by
 simp only [ruleB, inR, Bool.and_eq_true, bokB_true, decide_eq_true_eq] at h
 exact ⟨h.1, h.2.1, h.2.2.1.1, h.2.2.1.2, h.2.2.2.1⟩
/-- Is a rule about a call? -/
def aboutB (a b c : Int) (x : Ru) : Bool := hasB x.f2.f0 x.f2.f1 a && (hasB x.f3.f0 x.f3.f1 b && inR c x.f4 x.f5)
theorem impl_matches {x : Ru} (h : ruleB x = true) (a b c : Int) : impl_Rule_matches.f x.f0 x.f1 x.f2.f0 x.f2.f1 x.f3.f0 x.f3.f1 x.f4 x.f5 a b c = some (aboutB a b c x) := by
 obtain ⟨h1, h2, _⟩ := ruleB_blocks h
 unfold impl_Rule_matches.f aboutB
 rw [impl_has a h1.1 (by have := h1.2.1; omega) h1.2.2.1 h1.2.2.2.1, Option.bind_some, impl_has b h2.1 (by have := h2.2.1; omega) h2.2.2.1 h2.2.2.2.1, Option.bind_some, impl_inR, Option.bind_some]
 cases hasB x.f2.f0 x.f2.f1 a <;> cases hasB x.f3.f0 x.f3.f1 b <;> simp
theorem spec_about {x : Ru} (h : ruleB x = true) (a b c : Int) : (∃ K_, ∀ k, K_ ≤ k → spec_l4About.f k x.f0 x.f1 x.f2.f0 x.f2.f1 x.f3.f0 x.f3.f1 x.f4 x.f5 a b c = some (aboutB a b c x)) := by
 obtain ⟨h1, h2, _⟩ := ruleB_blocks h
 obtain ⟨K1, e1⟩ := spec_last (b := x.f2.f0) (m := x.f2.f1) (by have := h1.1; omega) (by have := h1.2.1; omega) h1.2.2.1 h1.2.2.2.1
 obtain ⟨K2, e2⟩ := spec_last (b := x.f3.f0) (m := x.f3.f1) (by have := h2.1; omega) (by have := h2.2.1; omega) h2.2.2.1 h2.2.2.2.1
 refine ⟨K1 + K2, fun k hk => ?_⟩
 simp only [spec_l4About.f]
 rw [e1 k (by omega), Option.bind_some, e2 k (by omega), Option.bind_some, spec_inR, Option.bind_some, spec_inR, Option.bind_some, spec_inR, Option.bind_some]
 have g1 : inR a x.f2.f0 (x.f2.f0 + sz x.f2.f1 - 1) = hasB x.f2.f0 x.f2.f1 a := rfl
 have g2 : inR b x.f3.f0 (x.f3.f0 + sz x.f3.f1 - 1) = hasB x.f3.f0 x.f3.f1 b := rfl
 rw [g1, g2]
 unfold aboutB
 cases hasB x.f2.f0 x.f2.f1 a <;> cases hasB x.f3.f0 x.f3.f1 b <;> simp
/-- The place of the first element of which q holds, from i on; -1. -/
def firstGo {α : Type} (q : α → Bool) : List α → Int → Int
 | [], _ => -1
 | x :: l, i => if q x = true then i else firstGo q l (i + 1)
def firstF (l : List Ru) (a b c : Int) : Int := firstGo (aboutB a b c) l 0
theorem findO_first {α : Type} {p : α → Option Bool} {q : α → Bool} : ∀ (l : List α) (i : Int), (∀ x ∈ l, p x = some (q x)) → findO p l i = some (firstGo q l i)
 | [], _, _ => rfl
 | x :: l, i, h => by
  simp only [findO, firstGo]
  rw [h x (List.mem_cons_self ..), Option.bind_some, findO_first l (i + 1) (fun y hy => h y (List.mem_cons_of_mem _ hy))]
  cases q x <;> simp
theorem impl_first {l : List Ru} (h : ∀ x ∈ l, ruleB x = true) (a b c : Int) : impl_first.f l a b c = some (firstF l a b c) :=
 findO_first l 0 (fun x hx => impl_matches (h x hx) a b c)
theorem spec_first_loop (l : List Ru) (h : ∀ x ∈ l, ruleB x = true) (a b c : Int) (hl : l.length ≤ 1073741824) (d : Nat) : ∀ n : Nat, n + d = l.length → (∃ K_, ∀ k, K_ ≤ k → spec_l4First.l0 k l (n : Int) a b c = some (firstGo (aboutB a b c) (l.drop n) (n : Int))) := by
 induction d with
 | zero =>
  intro n hn
  refine ⟨1, fun k hk => ?_⟩
  obtain ⟨k, rfl⟩ : ∃ j, k = j + 1 := ⟨k - 1, by omega⟩
  simp only [spec_l4First.l0]
  rw [if_neg (by omega), List.drop_eq_nil_of_le (by omega)]
  rfl
 | succ d ih =>
  intro n hn
  have hlt : n < l.length := by omega
  have hw : wrap64 ((n : Int) + 1) = ((n + 1 : Nat) : Int) := by rw [w64 (by omega)]; omega
  obtain ⟨K1, e1⟩ := ih (n + 1) (by omega)
  obtain ⟨K2, e2⟩ := spec_about (h l[n] (List.getElem_mem hlt)) a b c
  refine ⟨K1 + K2 + 1, fun k hk => ?_⟩
  obtain ⟨k, rfl⟩ : ∃ j, k = j + 1 := ⟨k - 1, by omega⟩
  have e1 := e1 k (by omega)
  simp only [spec_l4First.l0]
  rw [drop_consR hlt, if_pos (by omega), if_pos (by omega), rd_rule l n hlt, e2 k (by omega), Option.bind_some, hw, e1]
  simp only [firstGo]
  have : ((n + 1 : Nat) : Int) = (n : Int) + 1 := by omega
  rw [this]
  cases aboutB a b c l[n] <;> simp
theorem spec_first {l : List Ru} (h : ∀ x ∈ l, ruleB x = true) (a b c : Int) (hl : l.length ≤ 1073741824) : (∃ K_, ∀ k, K_ ≤ k → spec_l4First.f k l a b c = some (firstF l a b c)) := spec_first_loop l h a b c hl l.length 0 (by omega)
/-- Is it a call? -/
def callB (a b c : Int) : Bool := inR a 0 4294967295 && (inR b 0 4294967295 && inR c 0 65535)
theorem impl_call (a b c : Int) : impl_isCall.f a b c = some (callB a b c) := by
 unfold impl_isCall.f callB
 rw [impl_addr, Option.bind_some, impl_addr, Option.bind_some, impl_inR, Option.bind_some]
 have g : ∀ x : Int, decide (0 ≤ x ∧ x ≤ 4294967295) = inR x 0 4294967295 := fun _ => rfl
 rw [g, g]
 cases inR a 0 4294967295 <;> cases inR b 0 4294967295 <;> simp
theorem spec_call (a b c : Int) : spec_l4Call.f a b c = some (callB a b c) := by
 unfold spec_l4Call.f callB
 rw [spec_addr, Option.bind_some, spec_addr, Option.bind_some, spec_inR, Option.bind_some]
 have g : ∀ x : Int, decide (0 ≤ x ∧ x ≤ 4294967295) = inR x 0 4294967295 := fun _ => rfl
 rw [g, g]
 cases inR a 0 4294967295 <;> cases inR b 0 4294967295 <;> simp
abbrev Se := S108
theorem rd_seen (l : List Se) (n : Nat) (h : n < l.length) : rd_T108 l (n : Int) = l[n] := by
 unfold rd_T108
 rw [List.getD_eq_getElem?_getD, Int.toNat_natCast, List.getElem?_eq_getElem h]
 rfl
/-- Is it a call that was seen? -/
def isC (a b c : Int) (x : Se) : Bool := x.f0.f0 == a && (x.f0.f1 == b && (x.f0.f2 == c))
def okS (rs : List Ru) (x : Se) : Bool := callB x.f0.f0 x.f0.f1 x.f0.f2 && decide (x.f1 = firstF rs x.f0.f0 x.f0.f1 x.f0.f2)
/-- Is each seen as it is, and none twice? -/
def seensB (rs : List Ru) : List Se → List Se → Bool
 | _, [] => true
 | pre, x :: l => okS rs x && (!(pre.any (isC x.f0.f0 x.f0.f1 x.f0.f2)) && seensB rs (pre ++ [x]) l)
/-- Is a cache valid? -/
def cacheB (rs : List Ru) (size : Int) (l : List Se) : Bool := rokB rs && (inR size 0 16 && (decide ((l.length : Int) ≤ size) && seensB rs [] l))
theorem take_snoc {α : Type} {l : List α} {n : Nat} (h : n < l.length) : l.take n ++ [l[n]] = l.take (n + 1) := by rw [List.take_succ_eq_append_getElem h]
theorem impl_cacheOk_loop (rs : List Ru) (hr : ∀ x ∈ rs, ruleB x = true) (size : Int) (l : List Se) (hl : l.length ≤ 1073741824) (d : Nat) : ∀ n : Nat, n + d = l.length → (∃ K_, ∀ k, K_ ≤ k → impl_CacheOk.l0 k rs l (l.length : Int) (n : Int) size l = some (seensB rs (l.take n) (l.drop n))) := by
 induction d with
 | zero =>
  intro n hn
  refine ev1 ?_
  simp only [impl_CacheOk.l0]
  rw [List.drop_eq_nil_of_le (by omega)]
  exact evN (by omega) (evR rfl)
 | succ d ih =>
  intro n hn
  have hlt : n < l.length := by omega
  have hw : wrap64 ((n : Int) + 1) = ((n + 1 : Nat) : Int) := by rw [w64 (by omega)]; omega
  have ih := ih (n + 1) (by omega)
  refine ev1 ?_
  simp only [impl_CacheOk.l0, rd_seen l n hlt, hw, Int.toNat_natCast]
  rw [drop_consR hlt]
  simp only [seensB, take_snoc hlt]
  refine evP (by omega) (evP (by omega) (evP (by omega) (evS (impl_call _ _ _) ?_)))
  cases hc : callB l[n].f0.f0 l[n].f0.f1 l[n].f0.f2 with
  | false => exact evN (by simp) (evR (by simp [okS, hc]))
  | true =>
   refine evP rfl (evS (impl_first hr _ _ _) ?_)
   by_cases he : l[n].f1 = firstF rs l[n].f0.f0 l[n].f0.f1 l[n].f0.f2
   ·refine evP he (evP (by omega) (evS rfl ?_))
    have ho : okS rs l[n] = true := by simp [okS, hc, ← he]
    rw [ho, Bool.true_and]
    cases ha : (l.take n).any (isC l[n].f0.f0 l[n].f0.f1 l[n].f0.f2) with
    | true => exact evP ha (evR rfl)
    | false => exact evN (by rw [show (l.take n).any (slices_ContainsFunc_Seen.is l[n].f0.f0 l[n].f0.f1 l[n].f0.f2) = false from ha]; simp) ih
   ·exact evN he (evR (by simp [okS, hc, he]))
theorem impl_cacheOk (rs : List Ru) (size : Int) (l : List Se) (hl : l.length ≤ 1073741824) : (∃ K_, ∀ k, K_ ≤ k → impl_CacheOk.f k rs size l = some (cacheB rs size l)) := by
 simp only [impl_CacheOk.f]
 refine evB (impl_rulesOk rs) ?_
 have hf : (∃ K_, ∀ k, K_ ≤ k → impl_CacheOk.j0 k rs true size l = some false) := by
  refine ev1 ?_
  simp only [impl_CacheOk.j0]
  exact evP trivial (evR rfl)
 unfold cacheB
 cases h1 : rokB rs with
 | false => exact evN (by simp) hf
 | true =>
  refine evP rfl (evS (impl_inR _ _ _) ?_)
  cases h2 : inR size 0 16 with
  | false => exact evN (by simp) hf
  | true =>
   refine evP rfl ?_
   by_cases c : (l.length : Int) > size
   ·rw [decide_eq_true c, decide_eq_false (show ¬ (l.length : Int) ≤ size by omega)]
    exact hf
   ·rw [decide_eq_false c, decide_eq_true (show (l.length : Int) ≤ size by omega)]
    refine ev1 ?_
    simp only [impl_CacheOk.j0]
    exact evN (by simp) (impl_cacheOk_loop rs (rokB_valid h1) size l hl l.length 0 (by omega))
theorem spec_seen_loop (rs : List Ru) (size : Int) (l : List Se) (hl : l.length ≤ 1073741824) (n : Nat) (hn : n < l.length) (R : Bool) (h : (∃ K_, ∀ k, K_ ≤ k → spec_CacheOk.l0 k rs (((n + 1 : Nat)) : Int) size l = some R)) (d : Nat) : ∀ m : Nat, m + d = n → (∃ K_, ∀ k, K_ ≤ k → spec_CacheOk.l1 k rs (n : Int) (m : Int) size l = some (!(((l.take n).drop m).any (isC l[n].f0.f0 l[n].f0.f1 l[n].f0.f2)) && R)) := by
 induction d with
 | zero =>
  intro m hm
  refine ev1 ?_
  simp only [spec_CacheOk.l1]
  have hw : wrap64 ((n : Int) + 1) = ((n + 1 : Nat) : Int) := by rw [w64 (by omega)]; omega
  rw [List.drop_eq_nil_of_le (by simp; omega), hw]
  refine evN (by omega) ?_
  simp only [List.any_nil, Bool.not_false, Bool.true_and]
  exact h
 | succ d ih =>
  intro m hm
  have ih := ih (m + 1) (by omega)
  have hlm : m < (l.take n).length := by simp; omega
  have hw : wrap64 ((m : Int) + 1) = ((m + 1 : Nat) : Int) := by rw [w64 (by omega)]; omega
  have hx : (l.take n)[m] = l[m] := by simp
  refine ev1 ?_
  simp only [spec_CacheOk.l1, rd_seen l n hn, rd_seen l m (by omega), hw]
  rw [drop_consR hlm, hx, List.any_cons]
  refine evP (by omega) (evP (by omega) (evP (by omega) (evP (by omega) (evP (by omega) ?_))))
  cases ha : isC l[n].f0.f0 l[n].f0.f1 l[n].f0.f2 l[m] with
  | true => exact evP ha (evR rfl)
  | false =>
   refine evN (by rw [show (l[m].f0.f0 == l[n].f0.f0 && (l[m].f0.f1 == l[n].f0.f1 && (l[m].f0.f2 == l[n].f0.f2))) = false from ha]; simp) ?_
   rw [Bool.false_or]
   exact ih
theorem spec_cacheOk_loop (rs : List Ru) (hr : ∀ x ∈ rs, ruleB x = true) (hrl : rs.length ≤ 1073741824) (size : Int) (l : List Se) (hl : l.length ≤ 1073741824) (d : Nat) : ∀ n : Nat, n + d = l.length → (∃ K_, ∀ k, K_ ≤ k → spec_CacheOk.l0 k rs (n : Int) size l = some (seensB rs (l.take n) (l.drop n))) := by
 induction d with
 | zero =>
  intro n hn
  refine ev1 ?_
  simp only [spec_CacheOk.l0]
  rw [List.drop_eq_nil_of_le (by omega)]
  exact evN (by omega) (evR rfl)
 | succ d ih =>
  intro n hn
  have hlt : n < l.length := by omega
  have ih := ih (n + 1) (by omega)
  refine ev1 ?_
  simp only [spec_CacheOk.l0, rd_seen l n hlt]
  rw [drop_consR hlt]
  simp only [seensB, take_snoc hlt]
  refine evP (by omega) (evP (by omega) (evS (spec_call _ _ _) ?_))
  have hf : (∃ K_, ∀ k, K_ ≤ k → spec_CacheOk.j2 k rs (n : Int) true size l = some false) := by
   refine ev1 ?_
   simp only [spec_CacheOk.j2]
   exact evP trivial (evR rfl)
  cases hc : callB l[n].f0.f0 l[n].f0.f1 l[n].f0.f2 with
  | false =>
   rw [show okS rs l[n] = false by simp [okS, hc]]
   exact evN (by simp) hf
  | true =>
   refine evP rfl (evB (spec_first hr _ _ _ hrl) ?_)
   by_cases he : l[n].f1 = firstF rs l[n].f0.f0 l[n].f0.f1 l[n].f0.f2
   ·rw [show okS rs l[n] = true by simp [okS, hc, ← he], show (l[n].f1 != firstF rs l[n].f0.f0 l[n].f0.f1 l[n].f0.f2) = false by simp [he]]
    refine ev1 ?_
    simp only [spec_CacheOk.j2]
    have := spec_seen_loop rs size l hl n hlt _ ih n 0 (by omega)
    rw [List.drop_zero] at this
    exact evN (by simp) this
   ·rw [show okS rs l[n] = false by simp [okS, he], show (l[n].f1 != firstF rs l[n].f0.f0 l[n].f0.f1 l[n].f0.f2) = true by simp [he]]
    exact hf
theorem spec_cacheOk (rs : List Ru) (hrl : rs.length ≤ 1073741824) (size : Int) (l : List Se) (hl : l.length ≤ 1073741824) : (∃ K_, ∀ k, K_ ≤ k → spec_CacheOk.f k rs size l = some (cacheB rs size l)) := by
 simp only [spec_CacheOk.f]
 refine evB (spec_rulesOk rs hrl) ?_
 have hf : (∃ K_, ∀ k, K_ ≤ k → spec_CacheOk.j0 k rs true size l = some false) := by
  refine ev1 ?_
  simp only [spec_CacheOk.j0]
  exact evP trivial (evR rfl)
 unfold cacheB
 cases h1 : rokB rs with
 | false => exact evN (by simp) hf
 | true =>
  refine evP rfl (evS (spec_inR _ _ _) ?_)
  cases h2 : inR size 0 16 with
  | false => exact evN (by simp) hf
  | true =>
   refine evP rfl ?_
   by_cases c : (l.length : Int) > size
   ·rw [decide_eq_true c, decide_eq_false (show ¬ (l.length : Int) ≤ size by omega)]
    exact hf
   ·rw [decide_eq_false c, decide_eq_true (show (l.length : Int) ≤ size by omega)]
    refine ev1 ?_
    simp only [spec_CacheOk.j0]
    exact evN (by simp) (spec_cacheOk_loop rs (rokB_valid h1) hrl size l hl l.length 0 (by omega))
/-- What is seen behind a look: the call first, the others as they were, so many. -/
def lookL (r size : Int) (l : List Se) (a b c : Int) : List Se := ((⟨⟨a, b, c⟩, r⟩ : Se) :: l.filter (fun x => !isC a b c x)).take size.toNat
theorem notC (a b c : Int) (x : Se) : ((!(x.f0.f0 == a)) || ((!(x.f0.f1 == b)) || (!(x.f0.f2 == c)))) = !isC a b c x := by
 unfold isC
 cases x.f0.f0 == a <;> cases x.f0.f1 == b <;> cases x.f0.f2 == c <;> rfl
theorem impl_look_loop (r size : Int) (hs : 0 ≤ size) (l : List Se) (hl : l.length ≤ 1073741824) (a b c : Int) (d : Nat) : ∀ (n : Nat) (acc : List Se), n + d = l.length → acc.length ≤ n + 1 → (∃ K_, ∀ k, K_ ≤ k → impl_Cache_look.l0 k r acc l (l.length : Int) (n : Int) size l a b c = some (size, (acc ++ (l.drop n).filter (fun x => !isC a b c x)).take size.toNat, r)) := by
 induction d with
 | zero =>
  intro n acc hn ha
  refine ev1 ?_
  simp only [impl_Cache_look.l0]
  rw [List.drop_eq_nil_of_le (by omega), List.filter_nil, List.append_nil]
  have hm : 0 ≤ mn (acc.length : Int) size ∧ mn (acc.length : Int) size ≤ acc.length := by
   unfold mn
   split <;> omega
  have ht : acc.take (mn (acc.length : Int) size).toNat = acc.take size.toNat := by
   unfold mn
   split
   ·rfl
   ·rename_i h
    rw [Int.toNat_natCast, List.take_length, List.take_of_length_le (by omega)]
  rw [ht]
  refine evN (by omega) (evP hm.1 (evP hm.2 (evS (a := acc.take size.toNat) ?_ (evR rfl))))
  unfold slices_Clone_Seen.f
  rw [if_pos (by simp; omega)]
 | succ d ih =>
  intro n acc hn ha
  have hlt : n < l.length := by omega
  have hw : wrap64 ((n : Int) + 1) = ((n + 1 : Nat) : Int) := by rw [w64 (by omega)]; omega
  refine ev1 ?_
  simp only [impl_Cache_look.l0, rd_seen l n hlt, hw, notC]
  rw [drop_consR hlt, List.filter_cons]
  refine evP (by omega) (evP (by omega) (evP (by omega) ?_))
  cases q : isC a b c l[n] with
  | true => exact evN (by simp) (ih (n + 1) acc (by omega) (by omega))
  | false =>
   have := ih (n + 1) (acc ++ [l[n]]) (by omega) (by simp; omega)
   rw [List.append_assoc] at this
   exact evP rfl (evP (by omega) this)
theorem impl_look (rs : List Ru) (hr : ∀ x ∈ rs, ruleB x = true) (size : Int) (hs : 0 ≤ size) (l : List Se) (hl : l.length ≤ 1073741824) (a b c : Int) : (∃ K_, ∀ k, K_ ≤ k → impl_Cache_look.f k size l rs a b c = some (size, lookL (firstF rs a b c) size l a b c, firstF rs a b c)) := by
 simp only [impl_Cache_look.f]
 exact evS (impl_first hr a b c) (impl_look_loop _ size hs l hl a b c l.length 0 _ (by omega) (by simp))
theorem spec_look_loop (r size : Int) (hs : 0 ≤ size) (l : List Se) (hl : l.length ≤ 1073741824) (a b c : Int) (d : Nat) : ∀ (n : Nat) (acc : List Se), n + d = l.length → acc.length ≤ n + 1 → (∃ K_, ∀ k, K_ ≤ k → spec_l5Find.l0 k r (n : Int) size l a b c size acc = some (size, (acc ++ (l.drop n).filter (fun x => !isC a b c x)).take size.toNat, r)) := by
 induction d with
 | zero =>
  intro n acc hn ha
  refine ev1 ?_
  simp only [spec_l5Find.l0]
  rw [List.drop_eq_nil_of_le (by omega), List.filter_nil, List.append_nil]
  refine evN (by omega) (evI (fun c => evP (by omega) (evP (by omega) (evR rfl))) (fun c => evR ?_))
  rw [List.take_of_length_le (by omega)]
 | succ d ih =>
  intro n acc hn ha
  have hlt : n < l.length := by omega
  have hw : wrap64 ((n : Int) + 1) = ((n + 1 : Nat) : Int) := by rw [w64 (by omega)]; omega
  refine ev1 ?_
  simp only [spec_l5Find.l0, rd_seen l n hlt, hw, notC]
  rw [drop_consR hlt, List.filter_cons]
  refine evP (by omega) (evP (by omega) ?_)
  cases q : isC a b c l[n] with
  | true => exact evN (by simp) (ih (n + 1) acc (by omega) (by omega))
  | false =>
   have := ih (n + 1) (acc ++ [l[n]]) (by omega) (by simp; omega)
   rw [List.append_assoc] at this
   exact evP rfl (evP (by omega) this)
theorem spec_look (rs : List Ru) (hr : ∀ x ∈ rs, ruleB x = true) (hrl : rs.length ≤ 1073741824) (size : Int) (hs : 0 ≤ size) (l : List Se) (hl : l.length ≤ 1073741824) (a b c : Int) : (∃ K_, ∀ k, K_ ≤ k → spec_l5Find.f k rs size l a b c = some (size, lookL (firstF rs a b c) size l a b c, firstF rs a b c)) := by
 simp only [spec_l5Find.f]
 exact evB (spec_first hr a b c hrl) (spec_look_loop _ size hs l hl a b c l.length 0 _ (by omega) (by simp))
/-- What CacheFind answers. -/
def findF (rs : List Ru) (size : Int) (l : List Se) (a b c : Int) : Int × List Se × Int :=
 if cacheB rs size l = true then (if callB a b c = true then (size, lookL (firstF rs a b c) size l a b c, firstF rs a b c) else (size, l, -1)) else (0, [], -1)
theorem cacheB_parts {rs : List Ru} {size : Int} {l : List Se} (h : cacheB rs size l = true) : rokB rs = true ∧ (0 ≤ size ∧ size ≤ 16) ∧ (l.length : Int) ≤ size ∧ seensB rs [] l = true := by
 simp only [cacheB, inR, Bool.and_eq_true, decide_eq_true_eq] at h
 exact h
theorem impl_find (rs : List Ru) (size : Int) (l : List Se) (hl : l.length ≤ 1073741824) (a b c : Int) : (∃ K_, ∀ k, K_ ≤ k → impl_CacheFind.f k rs size l a b c = some (findF rs size l a b c)) := by
 simp only [impl_CacheFind.f]
 refine evB (impl_cacheOk rs size l hl) ?_
 unfold findF
 cases h : cacheB rs size l with
 | false => exact evN (by simp) (evR rfl)
 | true =>
  obtain ⟨h1, ⟨h2, h3⟩, h4, h5⟩ := cacheB_parts h
  refine evP rfl (evS (impl_call a b c) ?_)
  cases hc : callB a b c with
  | false =>
   refine evN (by simp) (evS (a := l) ?_ (evR rfl))
   unfold slices_Clone_Seen.f
   rw [if_pos (by omega)]
  | true => exact evP rfl (evB (impl_look rs (rokB_valid h1) size h2 l hl a b c) (evR rfl))
theorem spec_find (rs : List Ru) (hrl : rs.length ≤ 1073741824) (size : Int) (l : List Se) (hl : l.length ≤ 1073741824) (a b c : Int) : (∃ K_, ∀ k, K_ ≤ k → spec_CacheFind.f k rs size l a b c = some (findF rs size l a b c)) := by
 simp only [spec_CacheFind.f]
 refine evB (spec_cacheOk rs hrl size l hl) ?_
 unfold findF
 cases h : cacheB rs size l with
 | false => exact evN (by simp) (evR rfl)
 | true =>
  obtain ⟨h1, ⟨h2, h3⟩, h4, h5⟩ := cacheB_parts h
  refine evP rfl (evS (spec_call a b c) ?_)
  cases hc : callB a b c with
  | false =>
   refine evN (by simp) (evS (a := []) rfl ?_)
   exact evP (by simp; omega) (evR (by simp))
  | true => exact evP rfl (evB (spec_look rs (rokB_valid h1) hrl size h2 l hl a b c) (evR rfl))
/-- One of the statement's own values as one of the program's. -/
def convRule (x : S112) : S34 := ⟨x.f0, x.f1, ⟨x.f2.f0, x.f2.f1⟩, ⟨x.f3.f0, x.f3.f1⟩, x.f4, x.f5⟩
theorem rd_lRule (l : List S112) (n : Nat) (h : n < l.length) : rd_T112 l (n : Int) = l[n] := by
 unfold rd_T112
 rw [List.getD_eq_getElem?_getD, Int.toNat_natCast, List.getElem?_eq_getElem h]
 rfl
theorem toRule_loop (l : List S112) (hl : l.length ≤ 1073741824) (d : Nat) : ∀ (n : Nat) (ys : List S34), n + d = l.length → ys.length = l.length → (∀ j, j < n → ys[j]? = (l.map convRule)[j]?) → (∃ K_, ∀ k, K_ ≤ k → laws_toRuleS.l0 k l ys (n : Int) = some (l.map convRule)) := by
 induction d with
 | zero =>
  intro n ys hn hy hj
  refine ⟨1, fun k hk => ?_⟩
  obtain ⟨k, rfl⟩ : ∃ j, k = j + 1 := ⟨k - 1, by omega⟩
  simp only [laws_toRuleS.l0]
  rw [if_neg (by omega)]
  congr 1
  apply List.ext_getElem?
  intro i
  by_cases c : i < n
  ·exact hj i c
  ·rw [List.getElem?_eq_none (by omega), List.getElem?_eq_none (by simp; omega)]
 | succ d ih =>
  intro n ys hn hy hj
  have hlt : n < l.length := by omega
  have hw : wrap64 ((n : Int) + 1) = ((n + 1 : Nat) : Int) := by rw [w64 (by omega)]; omega
  obtain ⟨K1, e1⟩ := ih (n + 1) (ys.set n (convRule l[n])) (by omega) (by simpa using hy) (fun j hj2 => by
   by_cases c : j = n
   ·subst c
    rw [List.getElem?_set_self (by omega), List.getElem?_map, List.getElem?_eq_getElem hlt]
    rfl
   ·rw [List.getElem?_set_ne (by omega)]
    exact hj j (by omega))
  refine ⟨K1 + 1, fun k hk => ?_⟩
  obtain ⟨k, rfl⟩ : ∃ j, k = j + 1 := ⟨k - 1, by omega⟩
  simp only [laws_toRuleS.l0]
  rw [if_pos (by omega), if_pos (by omega), rd_lRule l n hlt]
  simp only [laws_toRule.f, laws_toBlock.f, Option.bind_some]
  rw [if_pos (by omega), hw, Int.toNat_natCast]
  exact e1 k (by omega)
theorem toRule (l : List S112) (hl : l.length ≤ 1073741824) : (∃ K_, ∀ k, K_ ≤ k → laws_toRuleS.f k l = some (l.map convRule)) := by
 obtain ⟨K, h⟩ := toRule_loop l hl l.length 0 (List.replicate l.length z34) (by omega) (by simp) (fun j h => absurd h (by omega))
 refine ⟨K, fun k hk => ?_⟩
 simp only [laws_toRuleS.f]
 rw [if_pos (by omega), if_pos (by omega), Int.toNat_natCast]
 exact h k hk
theorem szgRule (l : List S112) (hl : l.length ≤ 9223372036854775807) (m : Int) (h0 : 0 ≤ m) (h1 : m ≤ 1048576) : laws_szRuleS.f l m = some (if (l.length : Int) ≤ m then m - (l.length : Int) else -1) := by
 unfold laws_szRuleS.f
 rw [w64 (by omega)]
 by_cases c : (l.length : Int) ≤ m
 ·rw [if_neg (by omega), if_pos c]
 ·rw [if_pos (by omega), if_neg c]
theorem eqRule_one (x : S34) : laws_eqRule.f x.f0 x.f1 x.f2.f0 x.f2.f1 x.f3.f0 x.f3.f1 x.f4 x.f5 x.f0 x.f1 x.f2.f0 x.f2.f1 x.f3.f0 x.f3.f1 x.f4 x.f5 = some true := by
 simp [laws_eqRule.f, laws_eqBlock.f]
theorem eqRule_loop (l : List S34) (hl : l.length ≤ 1073741824) (d : Nat) : ∀ n : Nat, n + d = l.length → (∃ K_, ∀ k, K_ ≤ k → laws_eqRuleS.l0 k l l (n : Int) = some true) := by
 induction d with
 | zero =>
  intro n hn
  refine ⟨1, fun k hk => ?_⟩
  obtain ⟨k, rfl⟩ : ∃ j, k = j + 1 := ⟨k - 1, by omega⟩
  simp only [laws_eqRuleS.l0]
  rw [if_neg (by omega)]
 | succ d ih =>
  intro n hn
  have hw : wrap64 ((n : Int) + 1) = ((n + 1 : Nat) : Int) := by rw [w64 (by omega)]; omega
  obtain ⟨K1, e1⟩ := ih (n + 1) (by omega)
  refine ⟨K1 + 1, fun k hk => ?_⟩
  obtain ⟨k, rfl⟩ : ∃ j, k = j + 1 := ⟨k - 1, by omega⟩
  simp only [laws_eqRuleS.l0]
  rw [if_pos (by omega), if_pos (by omega), if_pos (by omega), eqRule_one, Option.bind_some, if_pos rfl, hw]
  exact e1 k (by omega)
theorem eqRule (l : List S34) (hl : l.length ≤ 1073741824) : (∃ K_, ∀ k, K_ ≤ k → laws_eqRuleS.f k l l = some true) := by
 obtain ⟨K, h⟩ := eqRule_loop l hl l.length 0 (by omega)
 refine ⟨K, fun k hk => ?_⟩
 simp only [laws_eqRuleS.f]
 rw [if_pos trivial]
 exact h k hk
theorem rdsetRule (l : List S34) (n : Nat) (x : S34) (h : n < l.length) : rd_T34 (l.set n x) (n : Int) = x := by
 unfold rd_T34
 rw [List.getD_eq_getElem?_getD, Int.toNat_natCast, List.getElem?_set_self h]
 rfl
/-- An element all of whose fields are numbers that follow one another. -/
def mkRule (a : Int) : S34 := ⟨a, a + 1, ⟨a + 1 + 1, a + 1 + 1 + 1⟩, ⟨a + 1 + 1 + 1 + 1, a + 1 + 1 + 1 + 1 + 1⟩, a + 1 + 1 + 1 + 1 + 1 + 1, a + 1 + 1 + 1 + 1 + 1 + 1 + 1⟩
theorem markRule_loop (a : Int) (ha0 : 0 ≤ a) (ha1 : a ≤ 1000000000000000) (d : Nat) : ∀ (n : Nat) (l : List S34), n + d = l.length → l.length ≤ 1073741824 → (∀ j (h : j < l.length), j < n → l[j] = mkRule (a + 8 * j)) → Dr (fun k => laws_markRuleS.l0 k l (a + 8 * (n : Int)) (n : Int)) fun r => r.1 = a + 8 * (l.length : Int) ∧ r.2.length = l.length ∧ ∀ j (h : j < r.2.length), r.2[j] = mkRule (a + 8 * j) := by
 induction d with
 | zero =>
  intro n l hn hl hj
  refine dr1 ?_
  simp only [laws_markRuleS.l0]
  have e : n = l.length := by omega
  exact drN (by omega) (drR ⟨by rw [e], rfl, fun j h => hj j h (by simp only [] at h; omega)⟩)
 | succ d ih =>
  intro n l hn hl hj
  have hlt : n < l.length := by omega
  have hw : wrap64 ((n : Int) + 1) = ((n + 1 : Nat) : Int) := by rw [w64 (by omega)]; omega
  generalize hX : a + 8 * (n : Int) = X
  have hX0 : 0 ≤ X ∧ X ≤ 2000000000000000 := by omega
  have hw1 : wrap64 (X + 1) = X + 1 := w64 (by omega)
  have hw2 : wrap64 (X + 1 + 1) = X + 1 + 1 := w64 (by omega)
  have hw3 : wrap64 (X + 1 + 1 + 1) = X + 1 + 1 + 1 := w64 (by omega)
  have hw4 : wrap64 (X + 1 + 1 + 1 + 1) = X + 1 + 1 + 1 + 1 := w64 (by omega)
  have hw5 : wrap64 (X + 1 + 1 + 1 + 1 + 1) = X + 1 + 1 + 1 + 1 + 1 := w64 (by omega)
  have hw6 : wrap64 (X + 1 + 1 + 1 + 1 + 1 + 1) = X + 1 + 1 + 1 + 1 + 1 + 1 := w64 (by omega)
  have hw7 : wrap64 (X + 1 + 1 + 1 + 1 + 1 + 1 + 1) = X + 1 + 1 + 1 + 1 + 1 + 1 + 1 := w64 (by omega)
  have hw8 : wrap64 (X + 1 + 1 + 1 + 1 + 1 + 1 + 1 + 1) = X + 1 + 1 + 1 + 1 + 1 + 1 + 1 + 1 := w64 (by omega)
  refine dr1 ?_
  simp only [laws_markRuleS.l0, Option.bind_some, Int.toNat_natCast, rdsetRule, List.length_set, hlt, List.set_set, hw, hw1, hw2, hw3, hw4, hw5, hw6, hw7, hw8]
  refine drP (by omega) (drP (by omega) ?_)
  have e : X + 1 + 1 + 1 + 1 + 1 + 1 + 1 + 1 = a + 8 * ((n + 1 : Nat) : Int) := by omega
  rw [e]
  refine (ih (n + 1) (l.set n _) (by simp only [List.length_set]; omega) (by simp only [List.length_set]; omega) (fun j h hj2 => ?_)).imp fun r hr => ?_
  ·by_cases c : j = n
   ·subst c
    rw [List.getElem_set_self, hX]
    rfl
   ·rw [List.getElem_set_ne (fun h => c h.symm)]
    exact hj j (by simpa using h) (by omega)
  ·simp only [List.length_set] at hr
   exact hr
theorem markRule (l : List S34) (a : Int) (ha0 : 0 ≤ a) (ha1 : a ≤ 1000000000000000) (hl : l.length ≤ 1073741824) : Dr (fun k => laws_markRuleS.f k l a) fun r => r.1 = a + 8 * (l.length : Int) ∧ r.2.length = l.length ∧ ∀ j (h : j < r.2.length), r.2[j] = mkRule (a + 8 * j) := by
 have := markRule_loop a ha0 ha1 l.length 0 l (by omega) hl (fun j h h2 => absurd h2 (by omega))
 simp only [Int.ofNat_zero, Int.mul_zero, Int.add_zero, Int.natCast_zero] at this
 simp only [laws_markRuleS.f]
 exact this
/-- One of the statement's own values as one of the program's. -/
def convSeen (x : S149) : S108 := ⟨⟨x.f0.f0, x.f0.f1, x.f0.f2⟩, x.f1⟩
theorem rd_lSeen (l : List S149) (n : Nat) (h : n < l.length) : rd_T149 l (n : Int) = l[n] := by
 unfold rd_T149
 rw [List.getD_eq_getElem?_getD, Int.toNat_natCast, List.getElem?_eq_getElem h]
 rfl
theorem toSeen_loop (l : List S149) (hl : l.length ≤ 1073741824) (d : Nat) : ∀ (n : Nat) (ys : List S108), n + d = l.length → ys.length = l.length → (∀ j, j < n → ys[j]? = (l.map convSeen)[j]?) → (∃ K_, ∀ k, K_ ≤ k → laws_toSeenS.l0 k l ys (n : Int) = some (l.map convSeen)) := by
 induction d with
 | zero =>
  intro n ys hn hy hj
  refine ⟨1, fun k hk => ?_⟩
  obtain ⟨k, rfl⟩ : ∃ j, k = j + 1 := ⟨k - 1, by omega⟩
  simp only [laws_toSeenS.l0]
  rw [if_neg (by omega)]
  congr 1
  apply List.ext_getElem?
  intro i
  by_cases c : i < n
  ·exact hj i c
  ·rw [List.getElem?_eq_none (by omega), List.getElem?_eq_none (by simp; omega)]
 | succ d ih =>
  intro n ys hn hy hj
  have hlt : n < l.length := by omega
  have hw : wrap64 ((n : Int) + 1) = ((n + 1 : Nat) : Int) := by rw [w64 (by omega)]; omega
  obtain ⟨K1, e1⟩ := ih (n + 1) (ys.set n (convSeen l[n])) (by omega) (by simpa using hy) (fun j hj2 => by
   by_cases c : j = n
   ·subst c
    rw [List.getElem?_set_self (by omega), List.getElem?_map, List.getElem?_eq_getElem hlt]
    rfl
   ·rw [List.getElem?_set_ne (by omega)]
    exact hj j (by omega))
  refine ⟨K1 + 1, fun k hk => ?_⟩
  obtain ⟨k, rfl⟩ : ∃ j, k = j + 1 := ⟨k - 1, by omega⟩
  simp only [laws_toSeenS.l0]
  rw [if_pos (by omega), if_pos (by omega), rd_lSeen l n hlt]
  simp only [laws_toSeen.f, laws_toCall.f, Option.bind_some]
  rw [if_pos (by omega), hw, Int.toNat_natCast]
  exact e1 k (by omega)
theorem toSeen (l : List S149) (hl : l.length ≤ 1073741824) : (∃ K_, ∀ k, K_ ≤ k → laws_toSeenS.f k l = some (l.map convSeen)) := by
 obtain ⟨K, h⟩ := toSeen_loop l hl l.length 0 (List.replicate l.length z108) (by omega) (by simp) (fun j h => absurd h (by omega))
 refine ⟨K, fun k hk => ?_⟩
 simp only [laws_toSeenS.f]
 rw [if_pos (by omega), if_pos (by omega), Int.toNat_natCast]
 exact h k hk
theorem szgSeen (l : List S149) (hl : l.length ≤ 9223372036854775807) (m : Int) (h0 : 0 ≤ m) (h1 : m ≤ 1048576) : laws_szSeenS.f l m = some (if (l.length : Int) ≤ m then m - (l.length : Int) else -1) := by
 unfold laws_szSeenS.f
 rw [w64 (by omega)]
 by_cases c : (l.length : Int) ≤ m
 ·rw [if_neg (by omega), if_pos c]
 ·rw [if_pos (by omega), if_neg c]
theorem eqSeen_one (x : S108) : laws_eqSeen.f x.f0.f0 x.f0.f1 x.f0.f2 x.f1 x.f0.f0 x.f0.f1 x.f0.f2 x.f1 = some true := by
 simp [laws_eqSeen.f, laws_eqCall.f]
theorem eqSeen_loop (l : List S108) (hl : l.length ≤ 1073741824) (d : Nat) : ∀ n : Nat, n + d = l.length → (∃ K_, ∀ k, K_ ≤ k → laws_eqSeenS.l0 k l l (n : Int) = some true) := by
 induction d with
 | zero =>
  intro n hn
  refine ⟨1, fun k hk => ?_⟩
  obtain ⟨k, rfl⟩ : ∃ j, k = j + 1 := ⟨k - 1, by omega⟩
  simp only [laws_eqSeenS.l0]
  rw [if_neg (by omega)]
 | succ d ih =>
  intro n hn
  have hw : wrap64 ((n : Int) + 1) = ((n + 1 : Nat) : Int) := by rw [w64 (by omega)]; omega
  obtain ⟨K1, e1⟩ := ih (n + 1) (by omega)
  refine ⟨K1 + 1, fun k hk => ?_⟩
  obtain ⟨k, rfl⟩ : ∃ j, k = j + 1 := ⟨k - 1, by omega⟩
  simp only [laws_eqSeenS.l0]
  rw [if_pos (by omega), if_pos (by omega), if_pos (by omega), eqSeen_one, Option.bind_some, if_pos rfl, hw]
  exact e1 k (by omega)
theorem eqSeen (l : List S108) (hl : l.length ≤ 1073741824) : (∃ K_, ∀ k, K_ ≤ k → laws_eqSeenS.f k l l = some true) := by
 obtain ⟨K, h⟩ := eqSeen_loop l hl l.length 0 (by omega)
 refine ⟨K, fun k hk => ?_⟩
 simp only [laws_eqSeenS.f]
 rw [if_pos trivial]
 exact h k hk
theorem rdiSeen (l : List S108) (n : Nat) (h : n < l.length) : rd_T108 l (n : Int) = l[n] := by
 unfold rd_T108
 rw [List.getD_eq_getElem?_getD, Int.toNat_natCast, List.getElem?_eq_getElem h]
 rfl
theorem rdsetSeen (l : List S108) (n : Nat) (x : S108) (h : n < l.length) : rd_T108 (l.set n x) (n : Int) = x := by
 unfold rd_T108
 rw [List.getD_eq_getElem?_getD, Int.toNat_natCast, List.getElem?_set_self h]
 rfl
/-- An element all of whose fields are numbers that follow one another. -/
def mkSeen (a : Int) : S108 := ⟨⟨a, a + 1, a + 1 + 1⟩, a + 1 + 1 + 1⟩
theorem markSeen_loop (a : Int) (ha0 : 0 ≤ a) (ha1 : a ≤ 1000000000000000) (d : Nat) : ∀ (n : Nat) (l : List S108), n + d = l.length → l.length ≤ 1073741824 → (∀ j (h : j < l.length), j < n → l[j] = mkSeen (a + 4 * j)) → Dr (fun k => laws_markSeenS.l0 k l (a + 4 * (n : Int)) (n : Int)) fun r => r.1 = a + 4 * (l.length : Int) ∧ r.2.length = l.length ∧ ∀ j (h : j < r.2.length), r.2[j] = mkSeen (a + 4 * j) := by
 induction d with
 | zero =>
  intro n l hn hl hj
  refine dr1 ?_
  simp only [laws_markSeenS.l0]
  have e : n = l.length := by omega
  exact drN (by omega) (drR ⟨by rw [e], rfl, fun j h => hj j h (by simp only [] at h; omega)⟩)
 | succ d ih =>
  intro n l hn hl hj
  have hlt : n < l.length := by omega
  have hw : wrap64 ((n : Int) + 1) = ((n + 1 : Nat) : Int) := by rw [w64 (by omega)]; omega
  generalize hX : a + 4 * (n : Int) = X
  have hX0 : 0 ≤ X ∧ X ≤ 2000000000000000 := by omega
  have hw1 : wrap64 (X + 1) = X + 1 := w64 (by omega)
  have hw2 : wrap64 (X + 1 + 1) = X + 1 + 1 := w64 (by omega)
  have hw3 : wrap64 (X + 1 + 1 + 1) = X + 1 + 1 + 1 := w64 (by omega)
  have hw4 : wrap64 (X + 1 + 1 + 1 + 1) = X + 1 + 1 + 1 + 1 := w64 (by omega)
  refine dr1 ?_
  simp only [laws_markSeenS.l0, Option.bind_some, Int.toNat_natCast, rdsetSeen, List.length_set, hlt, List.set_set, hw, hw1, hw2, hw3, hw4]
  refine drP (by omega) (drP (by omega) ?_)
  have e : X + 1 + 1 + 1 + 1 = a + 4 * ((n + 1 : Nat) : Int) := by omega
  rw [e]
  refine (ih (n + 1) (l.set n _) (by simp only [List.length_set]; omega) (by simp only [List.length_set]; omega) (fun j h hj2 => ?_)).imp fun r hr => ?_
  ·by_cases c : j = n
   ·subst c
    rw [List.getElem_set_self, hX]
    rfl
   ·rw [List.getElem_set_ne (fun h => c h.symm)]
    exact hj j (by simpa using h) (by omega)
  ·simp only [List.length_set] at hr
   exact hr
theorem markSeen (l : List S108) (a : Int) (ha0 : 0 ≤ a) (ha1 : a ≤ 1000000000000000) (hl : l.length ≤ 1073741824) : Dr (fun k => laws_markSeenS.f k l a) fun r => r.1 = a + 4 * (l.length : Int) ∧ r.2.length = l.length ∧ ∀ j (h : j < r.2.length), r.2[j] = mkSeen (a + 4 * j) := by
 have := markSeen_loop a ha0 ha1 l.length 0 l (by omega) hl (fun j h h2 => absurd h2 (by omega))
 simp only [Int.ofNat_zero, Int.mul_zero, Int.add_zero, Int.natCast_zero] at this
 simp only [laws_markSeenS.f]
 exact this
theorem heldSeen_loop (l : List S108) (a : Int) (ha0 : 0 ≤ a) (ha1 : a ≤ 1000000000000000) (hl : l.length ≤ 1073741824) (hj : ∀ j (h : j < l.length), l[j] = mkSeen (a + 4 * j)) (d : Nat) : ∀ n : Nat, n + d = l.length → (∃ K_, ∀ k, K_ ≤ k → laws_heldSeenS.l0 k l (a + 4 * (n : Int)) (n : Int) = some (a + 4 * (l.length : Int))) := by
 induction d with
 | zero =>
  intro n hn
  refine ev1 ?_
  simp only [laws_heldSeenS.l0]
  have e : n = l.length := by omega
  exact evN (by omega) (evR (by rw [e]))
 | succ d ih =>
  intro n hn
  have hlt : n < l.length := by omega
  have hw : wrap64 ((n : Int) + 1) = ((n + 1 : Nat) : Int) := by rw [w64 (by omega)]; omega
  have hm := hj n hlt
  have := ih (n + 1) (by omega)
  generalize hX : a + 4 * (n : Int) = X at *
  have hX0 : 0 ≤ X ∧ X ≤ 2000000000000000 := by omega
  have hw1 : wrap64 (X + 1) = X + 1 := w64 (by omega)
  have hw2 : wrap64 (X + 1 + 1) = X + 1 + 1 := w64 (by omega)
  have hw3 : wrap64 (X + 1 + 1 + 1) = X + 1 + 1 + 1 := w64 (by omega)
  have hw4 : wrap64 (X + 1 + 1 + 1 + 1) = X + 1 + 1 + 1 + 1 := w64 (by omega)
  refine ev1 ?_
  simp only [laws_heldSeenS.l0, rdiSeen, hlt, hm, mkSeen, hw, hw1, hw2, hw3, hw4]
  have e : X + 1 + 1 + 1 + 1 = a + 4 * ((n + 1 : Nat) : Int) := by omega
  rw [e]
  exact evP (by omega) (evP (by omega) (evP trivial (evP trivial (evP trivial (evP trivial this)))))
theorem heldSeen (l : List S108) (a : Int) (ha0 : 0 ≤ a) (ha1 : a ≤ 1000000000000000) (hl : l.length ≤ 1073741824) (hj : ∀ j (h : j < l.length), l[j] = mkSeen (a + 4 * j)) : (∃ K_, ∀ k, K_ ≤ k → laws_heldSeenS.f k l a = some (a + 4 * (l.length : Int))) := by
 have := heldSeen_loop l a ha0 ha1 hl hj l.length 0 (by omega)
 simp only [Int.ofNat_zero, Int.mul_zero, Int.add_zero, Int.natCast_zero] at this
 simp only [laws_heldSeenS.f]
 exact this
theorem toCache (a : Int) (l : List S149) (hl : l.length ≤ 1073741824) : (∃ K_, ∀ k, K_ ≤ k → laws_toCache.f k a l = some (a, l.map convSeen)) := by
 simp only [laws_toCache.f]
 exact evB (toSeen l hl) (evR rfl)
theorem szCache (a : Int) (l : List S149) (hl : l.length ≤ 9223372036854775807) (m : Int) (h0 : 0 ≤ m) (h1 : m ≤ 1048576) : laws_szCache.f a l m = some (if (l.length : Int) ≤ m then m - (l.length : Int) else -1) := by
 unfold laws_szCache.f
 rw [szgSeen l hl m h0 h1, Option.bind_some]
 by_cases c : (l.length : Int) ≤ m
 ·rw [if_pos c, if_neg (by omega)]
 ·rw [if_neg c, if_pos (by omega)]
theorem eqCache (a : Int) (l : List Se) (hl : l.length ≤ 1073741824) : (∃ K_, ∀ k, K_ ≤ k → laws_eqCache.f k a l a l = some true) := by
 simp only [laws_eqCache.f]
 exact evP trivial (evB (eqSeen l hl) (evP rfl (evR rfl)))
theorem markCache (b : Int) (l : List Se) (a : Int) (ha0 : 0 ≤ a) (ha1 : a ≤ 1000000000000000) (hl : l.length ≤ 1073741824) : Dr (fun k => laws_markCache.f k b l a) fun r => r.1 = a + 4 * (l.length : Int) ∧ r.2.length = l.length ∧ ∀ j (h : j < r.2.length), r.2[j] = mkSeen (a + 4 * j) := by
 simp only [laws_markCache.f]
 obtain ⟨r, e, h⟩ := markSeen l a ha0 ha1 hl
 exact drB e (drR h)
theorem heldCache (b : Int) (l : List Se) (a : Int) (ha0 : 0 ≤ a) (ha1 : a ≤ 1000000000000000) (hl : l.length ≤ 1073741824) (hj : ∀ j (h : j < l.length), l[j] = mkSeen (a + 4 * j)) : (∃ K_, ∀ k, K_ ≤ k → laws_heldCache.f k b l a = some (a + 4 * (l.length : Int))) := by
 simp only [laws_heldCache.f]
 exact evB (heldSeen l a ha0 ha1 hl hj) (evN (by omega) (evR rfl))
theorem findF_len (rs : List Ru) (size : Int) (l : List Se) (a b c : Int) : (findF rs size l a b c).2.1.length ≤ l.length + 1 := by
 unfold findF
 split
 ·split
  ·have h1 : (lookL (firstF rs a b c) size l a b c).length ≤ ((⟨⟨a, b, c⟩, firstF rs a b c⟩ : Se) :: l.filter (fun x => !isC a b c x)).length := (List.take_sublist _ _).length_le
   have h2 : (l.filter (fun x => !isC a b c x)).length ≤ l.length := List.filter_sublist.length_le
   simp only [List.length_cons] at h1
   exact Nat.le_trans h1 (Nat.succ_le_succ h2)
  ·simp
 ·simp
end Go.Proofs.Ytioghacieopbdaa.Z
end
section
namespace Go.Proofs.Ytioghacieopbdaa.Pure
open Go Go.RowKit Go.Proofs.Ytioghacieopbdaa.PAll Go.Proofs.YtioghacieopbdaaW.PrintWords Go.Proofs.YtioghacieopbdaaW.PrintLast Go.Proofs.YtioghacieopbdaaW.PrintMore Go.Proofs.Ytioghacieopbdaa.Z
set_option linter.unusedVariables false
set_option linter.unusedSimpArgs false
theorem FnExactCacheFind : laws_FnExactCacheFind.Pure := by
 intro l a s x y z hl ha hs _ _ _
 suffices h : (∃ K_, ∀ k, K_ ≤ k → laws_FnExactCacheFind.f k l a s x y z = some true) by obtain ⟨K, h⟩ := h; exact ⟨K, h K (Nat.le_refl _)⟩
 have hm : l.length ≤ 9223372036854775807 := by have := hl.1; unfold maxLen at this; exact this
 have hn : s.length ≤ 9223372036854775807 := by have := hs.1; unfold maxLen at this; exact this
 simp only [laws_FnExactCacheFind.f, laws_toCall.f, Option.bind_some]
 refine evS (szgRule l hm 1048576 (by omega) (by omega)) ?_
 by_cases c : (l.length : Int) ≤ 1048576
 ·rw [if_pos c]
  refine evN (by omega) (evS (szCache a s hn _ (by omega) (by omega)) ?_)
  by_cases c2 : (s.length : Int) ≤ 1048576 - (l.length : Int)
  ·rw [if_pos c2]
   have h1 : (l.map convRule).length ≤ 1048576 := by simp; omega
   have h2 : (s.map convSeen).length ≤ 1048576 := by simp; omega
   have h3 := findF_len (l.map convRule) a (s.map convSeen) x y z
   have e1 := toRule l (by omega)
   have e2 := toCache a s (by omega)
   have e3 := spec_find (l.map convRule) (by omega) a (s.map convSeen) (by omega) x y z
   have e4 := impl_find (l.map convRule) a (s.map convSeen) (by omega) x y z
   generalize findF (l.map convRule) a (s.map convSeen) x y z = r at *
   obtain ⟨r1, r2, r3⟩ := r
   simp only [] at h3
   have e5 := eqCache r1 r2 (by omega)
   obtain ⟨⟨k1, m1⟩, e6, g1, _, _⟩ := markRule (l.map convRule) 1 (by omega) (by omega) (by omega)
   simp only [] at g1
   obtain ⟨⟨k2, m2⟩, e7, g2, _, _⟩ := markCache a (s.map convSeen) k1 (by omega) (by omega) (by omega)
   simp only [] at g2
   obtain ⟨⟨k3, m3⟩, e8, g3, g4, g5⟩ := markCache r1 r2 1 (by omega) (by omega) (by omega)
   simp only [] at g3 g4 g5
   have e9 := heldCache r1 m3 1 (by omega) (by omega) (by omega) g5
   rw [g4, ← g3] at e9
   refine evN (by omega) (evB e1 (evB e2 (evB e3 (evB e1 (evB e2 (evB e4 ?_))))))
   simp only []
   have hb : (r3 != r3) = false := by simp
   rw [hb]
   refine evB e5 (evP rfl (ev1 ?_))
   simp only [laws_FnExactCacheFind.j0]
   refine evN (by simp) (evB e1 (evB (eqRule _ (by omega)) (evP rfl (evB e2 (evB (eqCache _ _ (by omega)) (evP rfl (evB e6 ?_)))))))
   simp only []
   refine evB e7 ?_
   simp only []
   refine evN (by omega) (evB e5 (evP rfl ?_))
   rw [hb]
   refine ev1 ?_
   simp only [laws_FnExactCacheFind.j1, laws_toCall.f, Option.bind_some]
   refine evN (by simp) (evB e8 ?_)
   simp only []
   refine evB e9 (evN (by omega) (evP rfl (evB e1 (evB e2 (evB e4 ?_)))))
   simp only []
   refine evB e5 (evP rfl ?_)
   rw [hb]
   refine ev1 ?_
   simp only [laws_FnExactCacheFind.j2]
   exact evN (by simp) (evB e9 (evN (by omega) (evP rfl (evR rfl))))
  ·rw [if_neg c2]
   exact evP (by omega) (evR rfl)
 ·rw [if_neg c]
  exact evP (by omega) (evR rfl)
end Go.Proofs.Ytioghacieopbdaa.Pure
end
