/- Contracts of the functions that the statement reaches, printed by a program out of the translation and joined with the plain laws. -/
import Derived.Test.YtdbdbimeaabhlaaCFnExactRulesFirst3
import Derived.Test.YtdbdbimeaabhlaaCFnExactRulesFirst4
import Derived.Test.YtdbdbimeaabhlaaCFnExactRulesFirst5
import Derived.Test.YtdbdbimeaabhlaaCFnExactRulesFirst6
import Derived.Test.YtdbdbimeaabhlaaCFnExactRulesFirst7
import Derived.Test.YtdbdbimeaabhlaaCFnExactRulesFirst8
section
namespace Go.Proofs.Ytdbdbimeaabhlaa.Z
open Go Go.RowKit Go.Proofs.Ytdbdbimeaabhlaa.PAll Go.Proofs.YtdbdbimeaabhlaaW.PrintWords Go.Proofs.YtdbdbimeaabhlaaW.PrintLast Go.Proofs.YtdbdbimeaabhlaaW.PrintMore
set_option linter.unusedVariables false
set_option linter.unusedSimpArgs false
abbrev Ru := S81
theorem drop_consR {α : Type} {l : List α} {n : Nat} (h : n < l.length) : l.drop n = l[n] :: l.drop (n + 1) := List.drop_eq_getElem_cons h
theorem rd_rule (l : List Ru) (n : Nat) (h : n < l.length) : rd_T81 l (n : Int) = l[n] := by
  unfold rd_T81
  rw [List.getD_eq_getElem?_getD, Int.toNat_natCast, List.getElem?_eq_getElem h]
  rfl
/-- Is a number in a range? -/
def inR (a l h : Int) : Bool := decide (l ≤ a ∧ a ≤ h)
theorem impl_inR (a l h : Int) : impl_in.f a l h = some (inR a l h) := impl_in a l h
theorem spec_inR (a l h : Int) : spec_l1In.f a l h = some (inR a l h) := spec_in a l h
def tunB (x : Ru) : Bool := if x.f0 = 2 then inR x.f1 0 3 else decide (x.f1 = 0)
/-- Is a rule valid? -/
def ruleB (x : Ru) : Bool := bokB x.f2.f0 x.f2.f1 && (bokB x.f3.f0 x.f3.f1 && (inR x.f4 0 x.f5 && (decide (x.f5 ≤ 65535) && (inR x.f0 0 2 && tunB x))))
theorem right_j0 (k : Nat) (b : Bool) (x : Ru) : impl_Rule_right.j0 (k + 1) b x.f0 x.f1 x.f2.f0 x.f2.f1 x.f3.f0 x.f3.f1 x.f4 x.f5 = some (bokB x.f2.f0 x.f2.f1 && (bokB x.f3.f0 x.f3.f1 && (inR x.f4 0 x.f5 && (decide (x.f5 ≤ 65535) && (inR x.f0 0 2 && b))))) := by
  simp only [impl_Rule_right.j0]
  rw [impl_ok, Option.bind_some, impl_ok, Option.bind_some, impl_inR, Option.bind_some, impl_inR, Option.bind_some]
  by_cases d : x.f5 ≤ 65535
  · cases bokB x.f2.f0 x.f2.f1 <;> cases bokB x.f3.f0 x.f3.f1 <;> cases inR x.f4 0 x.f5 <;> cases inR x.f0 0 2 <;> simp [d]
  · cases bokB x.f2.f0 x.f2.f1 <;> cases bokB x.f3.f0 x.f3.f1 <;> cases inR x.f4 0 x.f5 <;> cases inR x.f0 0 2 <;> simp [d]
theorem impl_right (k : Nat) (x : Ru) : impl_Rule_right.f (k + 1) x.f0 x.f1 x.f2.f0 x.f2.f1 x.f3.f0 x.f3.f1 x.f4 x.f5 = some (ruleB x) := by
  simp only [impl_Rule_right.f]
  rw [right_j0, impl_inR, Option.bind_some, right_j0, right_j0]
  unfold ruleB tunB
  by_cases c : x.f1 = 0
  · rw [if_pos c]
    by_cases d : x.f0 = 2
    · rw [if_pos d]
      have : inR x.f1 0 3 = true := by rw [c]; rfl
      rw [this]
    · rw [if_neg d]
      simp [c]
  · rw [if_neg c]
    by_cases d : x.f0 = 2
    · rw [if_pos d, if_pos d]
    · rw [if_neg d, if_neg d]
      simp [c]
theorem spec_right (x : Ru) : (∃ K_, ∀ k, K_ ≤ k → spec_l4Ok.f k x.f0 x.f1 x.f2.f0 x.f2.f1 x.f3.f0 x.f3.f1 x.f4 x.f5 = some (ruleB x)) := by
  obtain ⟨K1, e1⟩ := spec_ok x.f2.f0 x.f2.f1
  obtain ⟨K2, e2⟩ := spec_ok x.f3.f0 x.f3.f1
  refine ⟨K1 + K2 + 1, fun k hk => ?_⟩
  obtain ⟨k, rfl⟩ : ∃ j, k = j + 1 := ⟨k - 1, by omega⟩
  simp only [spec_l4Ok.f]
  rw [e1 _ (by omega), Option.bind_some, e2 _ (by omega), Option.bind_some, spec_inR, Option.bind_some, spec_inR, Option.bind_some]
  simp only [spec_l4Ok.j0]
  rw [spec_inR, Option.bind_some]
  unfold ruleB tunB
  by_cases d : x.f5 ≤ 65535
  · have d' : ¬ x.f5 > 65535 := by omega
    by_cases c : x.f0 = 2
    · cases bokB x.f2.f0 x.f2.f1 <;> cases bokB x.f3.f0 x.f3.f1 <;> cases inR x.f4 0 x.f5 <;> cases inR x.f0 0 2 <;> simp [d, d', c]
    · have e : (x.f1 == 0) = decide (x.f1 = 0) := rfl
      cases bokB x.f2.f0 x.f2.f1 <;> cases bokB x.f3.f0 x.f3.f1 <;> cases inR x.f4 0 x.f5 <;> cases inR x.f0 0 2 <;> simp [d, d', c, e]
  · have d' : x.f5 > 65535 := by omega
    cases bokB x.f2.f0 x.f2.f1 <;> cases bokB x.f3.f0 x.f3.f1 <;> cases inR x.f4 0 x.f5 <;> simp [d, d']
/-- Are rules valid? -/
def rokB (l : List Ru) : Bool := l.all ruleB && decide (l.length ≤ 8)
theorem any_bad (k : Nat) (l : List Ru) : anyO (impl_RulesOk.bad (k + 1)) l = some (l.any fun x => !ruleB x) := by
  induction l with
  | nil => rfl
  | cons x l ih =>
    simp only [anyO, impl_RulesOk.bad]
    rw [impl_right, Option.bind_some, Option.bind_some, ih]
    cases h : ruleB x <;> simp [h]
theorem all_any (l : List Ru) : (!(l.any fun x => !ruleB x)) = l.all ruleB := by
  induction l with
  | nil => rfl
  | cons x l ih => simp only [List.any_cons, List.all_cons, ← ih]; cases ruleB x <;> simp
theorem impl_rulesOk (l : List Ru) : (∃ K_, ∀ k, K_ ≤ k → impl_RulesOk.f k l = some (rokB l)) := by
  refine ⟨1, fun k hk => ?_⟩
  obtain ⟨k, rfl⟩ : ∃ j, k = j + 1 := ⟨k - 1, by omega⟩
  simp only [impl_RulesOk.f]
  unfold rokB
  by_cases c : (l.length : Int) ≤ 8
  · have c' : l.length ≤ 8 := by omega
    rw [if_pos c, any_bad, Option.bind_some, all_any]
    simp [c']
  · have c' : ¬ l.length ≤ 8 := by omega
    rw [if_neg c]
    simp [c']
theorem spec_rulesOk_loop (l : List Ru) (hl : l.length ≤ 1073741824) (d : Nat) : ∀ n : Nat, n + d = l.length → (∃ K_, ∀ k, K_ ≤ k → spec_RulesOk.l0 k l (n : Int) = some ((l.drop n).all ruleB && decide (l.length ≤ 8))) := by
  induction d with
  | zero =>
    intro n hn
    refine ⟨1, fun k hk => ?_⟩
    obtain ⟨k, rfl⟩ : ∃ j, k = j + 1 := ⟨k - 1, by omega⟩
    simp only [spec_RulesOk.l0]
    rw [if_neg (by omega), List.drop_eq_nil_of_le (by omega)]
    have : decide ((l.length : Int) ≤ 8) = decide (l.length ≤ 8) := by rw [decide_eq_decide]; omega
    rw [this]
    rfl
  | succ d ih =>
    intro n hn
    have hlt : n < l.length := by omega
    have hw : wrap64 ((n : Int) + 1) = ((n + 1 : Nat) : Int) := by rw [w64 (by omega)]; omega
    obtain ⟨K1, e1⟩ := ih (n + 1) (by omega)
    obtain ⟨K2, e2⟩ := spec_right l[n]
    refine ⟨K1 + K2 + 1, fun k hk => ?_⟩
    obtain ⟨k, rfl⟩ : ∃ j, k = j + 1 := ⟨k - 1, by omega⟩
    have e1 := e1 k (by omega)
    simp only [spec_RulesOk.l0]
    rw [drop_consR hlt, if_pos (by omega), if_pos (by omega), rd_rule l n hlt, e2 k (by omega), Option.bind_some, hw, e1, List.all_cons]
    cases ruleB l[n] <;> simp
theorem spec_rulesOk (l : List Ru) (hl : l.length ≤ 1073741824) : (∃ K_, ∀ k, K_ ≤ k → spec_RulesOk.f k l = some (rokB l)) := spec_rulesOk_loop l hl l.length 0 (by omega)
theorem rokB_valid {l : List Ru} (h : rokB l = true) : ∀ x ∈ l, ruleB x = true := by
  simp only [rokB, Bool.and_eq_true, List.all_eq_true] at h
  exact h.1
theorem ruleB_blocks {x : Ru} (h : ruleB x = true) : bok x.f2.f0 x.f2.f1 ∧ bok x.f3.f0 x.f3.f1 ∧ 0 ≤ x.f4 ∧ x.f4 ≤ x.f5 ∧ x.f5 ≤ 65535 := by
  simp only [ruleB, inR, Bool.and_eq_true, bokB_true, decide_eq_true_eq] at h
  exact ⟨h.1, h.2.1, h.2.2.1.1, h.2.2.1.2, h.2.2.2.1⟩
/-- Is a rule about a call? -/
def aboutB (a b c : Int) (x : Ru) : Bool := hasB x.f2.f0 x.f2.f1 a && (hasB x.f3.f0 x.f3.f1 b && inR c x.f4 x.f5)
theorem impl_matches {x : Ru} (h : ruleB x = true) (a b c : Int) : impl_Rule_matches.f x.f0 x.f1 x.f2.f0 x.f2.f1 x.f3.f0 x.f3.f1 x.f4 x.f5 a b c = some (aboutB a b c x) := by
  obtain ⟨h1, h2, _⟩ := ruleB_blocks h
  unfold impl_Rule_matches.f aboutB
  rw [impl_has a h1.1 (by have := h1.2.1; omega) h1.2.2.1 h1.2.2.2.1, Option.bind_some, impl_has b h2.1 (by have := h2.2.1; omega) h2.2.2.1 h2.2.2.2.1, Option.bind_some, impl_inR, Option.bind_some]
  cases hasB x.f2.f0 x.f2.f1 a <;> cases hasB x.f3.f0 x.f3.f1 b <;> simp
theorem spec_about {x : Ru} (h : ruleB x = true) (a b c : Int) : (∃ K_, ∀ k, K_ ≤ k → spec_l4About.f k x.f0 x.f1 x.f2.f0 x.f2.f1 x.f3.f0 x.f3.f1 x.f4 x.f5 a b c = some (aboutB a b c x)) := by
  obtain ⟨h1, h2, _⟩ := ruleB_blocks h
  obtain ⟨K1, e1⟩ := spec_last (b := x.f2.f0) (m := x.f2.f1) (by have := h1.1; omega) (by have := h1.2.1; omega) h1.2.2.1 h1.2.2.2.1
  obtain ⟨K2, e2⟩ := spec_last (b := x.f3.f0) (m := x.f3.f1) (by have := h2.1; omega) (by have := h2.2.1; omega) h2.2.2.1 h2.2.2.2.1
  refine ⟨K1 + K2, fun k hk => ?_⟩
  simp only [spec_l4About.f]
  rw [e1 k (by omega), Option.bind_some, e2 k (by omega), Option.bind_some, spec_inR, Option.bind_some, spec_inR, Option.bind_some, spec_inR, Option.bind_some]
  have g1 : inR a x.f2.f0 (x.f2.f0 + sz x.f2.f1 - 1) = hasB x.f2.f0 x.f2.f1 a := rfl
  have g2 : inR b x.f3.f0 (x.f3.f0 + sz x.f3.f1 - 1) = hasB x.f3.f0 x.f3.f1 b := rfl
  rw [g1, g2]
  unfold aboutB
  cases hasB x.f2.f0 x.f2.f1 a <;> cases hasB x.f3.f0 x.f3.f1 b <;> simp
/-- The place of the first element of which q holds, from i on; -1. -/
def firstGo {α : Type} (q : α → Bool) : List α → Int → Int
  | [], _ => -1
  | x :: l, i => if q x = true then i else firstGo q l (i + 1)
def firstF (l : List Ru) (a b c : Int) : Int := firstGo (aboutB a b c) l 0
theorem findO_first {α : Type} {p : α → Option Bool} {q : α → Bool} : ∀ (l : List α) (i : Int), (∀ x ∈ l, p x = some (q x)) → findO p l i = some (firstGo q l i)
  | [], _, _ => rfl
  | x :: l, i, h => by
    simp only [findO, firstGo]
    rw [h x (List.mem_cons_self ..), Option.bind_some, findO_first l (i + 1) (fun y hy => h y (List.mem_cons_of_mem _ hy))]
    cases q x <;> simp
theorem impl_first {l : List Ru} (h : ∀ x ∈ l, ruleB x = true) (a b c : Int) : impl_first.f l a b c = some (firstF l a b c) :=
  findO_first l 0 (fun x hx => impl_matches (h x hx) a b c)
theorem spec_first_loop (l : List Ru) (h : ∀ x ∈ l, ruleB x = true) (a b c : Int) (hl : l.length ≤ 1073741824) (d : Nat) : ∀ n : Nat, n + d = l.length → (∃ K_, ∀ k, K_ ≤ k → spec_l4First.l0 k l (n : Int) a b c = some (firstGo (aboutB a b c) (l.drop n) (n : Int))) := by
  induction d with
  | zero =>
    intro n hn
    refine ⟨1, fun k hk => ?_⟩
    obtain ⟨k, rfl⟩ : ∃ j, k = j + 1 := ⟨k - 1, by omega⟩
    simp only [spec_l4First.l0]
    rw [if_neg (by omega), List.drop_eq_nil_of_le (by omega)]
    rfl
  | succ d ih =>
    intro n hn
    have hlt : n < l.length := by omega
    have hw : wrap64 ((n : Int) + 1) = ((n + 1 : Nat) : Int) := by rw [w64 (by omega)]; omega
    obtain ⟨K1, e1⟩ := ih (n + 1) (by omega)
    obtain ⟨K2, e2⟩ := spec_about (h l[n] (List.getElem_mem hlt)) a b c
    refine ⟨K1 + K2 + 1, fun k hk => ?_⟩
    obtain ⟨k, rfl⟩ : ∃ j, k = j + 1 := ⟨k - 1, by omega⟩
    have e1 := e1 k (by omega)
    simp only [spec_l4First.l0]
    rw [drop_consR hlt, if_pos (by omega), if_pos (by omega), rd_rule l n hlt, e2 k (by omega), Option.bind_some, hw, e1]
    simp only [firstGo]
    have : ((n + 1 : Nat) : Int) = (n : Int) + 1 := by omega
    rw [this]
    cases aboutB a b c l[n] <;> simp
theorem spec_first {l : List Ru} (h : ∀ x ∈ l, ruleB x = true) (a b c : Int) (hl : l.length ≤ 1073741824) : (∃ K_, ∀ k, K_ ≤ k → spec_l4First.f k l a b c = some (firstF l a b c)) := spec_first_loop l h a b c hl l.length 0 (by omega)
/-- Is it a call? -/
def callB (a b c : Int) : Bool := inR a 0 4294967295 && (inR b 0 4294967295 && inR c 0 65535)
theorem impl_call (a b c : Int) : impl_isCall.f a b c = some (callB a b c) := by
  unfold impl_isCall.f callB
  rw [impl_addr, Option.bind_some, impl_addr, Option.bind_some, impl_inR, Option.bind_some]
  have g : ∀ x : Int, decide (0 ≤ x ∧ x ≤ 4294967295) = inR x 0 4294967295 := fun _ => rfl
  rw [g, g]
  cases inR a 0 4294967295 <;> cases inR b 0 4294967295 <;> simp
theorem spec_call (a b c : Int) : spec_l4Call.f a b c = some (callB a b c) := by
  unfold spec_l4Call.f callB
  rw [spec_addr, Option.bind_some, spec_addr, Option.bind_some, spec_inR, Option.bind_some]
  have g : ∀ x : Int, decide (0 ≤ x ∧ x ≤ 4294967295) = inR x 0 4294967295 := fun _ => rfl
  rw [g, g]
  cases inR a 0 4294967295 <;> cases inR b 0 4294967295 <;> simp
/-- What RulesFirst answers. -/
def rulesFirstF (l : List Ru) (a b c : Int) : Int := if rokB l = true ∧ callB a b c = true then firstF l a b c else -1
theorem impl_rulesFirst (l : List Ru) (a b c : Int) : (∃ K_, ∀ k, K_ ≤ k → impl_RulesFirst.f k l a b c = some (rulesFirstF l a b c)) := by
  obtain ⟨K1, e1⟩ := impl_rulesOk l
  refine ⟨K1, fun k hk => ?_⟩
  simp only [impl_RulesFirst.f]
  unfold rulesFirstF
  rw [e1 k hk, Option.bind_some, impl_call, Option.bind_some]
  cases h : rokB l with
  | false => simp
  | true =>
    rw [impl_first (rokB_valid h), Option.bind_some]
    cases callB a b c <;> simp
theorem spec_rulesFirst (l : List Ru) (a b c : Int) (hl : l.length ≤ 1073741824) : (∃ K_, ∀ k, K_ ≤ k → spec_RulesFirst.f k l a b c = some (rulesFirstF l a b c)) := by
  obtain ⟨K1, e1⟩ := spec_rulesOk l hl
  unfold rulesFirstF
  cases h : rokB l with
  | false =>
    refine ⟨K1, fun k hk => ?_⟩
    simp only [spec_RulesFirst.f]
    rw [e1 k hk, Option.bind_some, h]
    simp
  | true =>
    obtain ⟨K2, e2⟩ := spec_first (rokB_valid h) a b c hl
    refine ⟨K1 + K2, fun k hk => ?_⟩
    simp only [spec_RulesFirst.f]
    rw [e1 k (by omega), Option.bind_some, spec_call, Option.bind_some, h, e2 k (by omega), Option.bind_some]
    cases callB a b c <;> simp
end Go.Proofs.Ytdbdbimeaabhlaa.Z
end
section
namespace Go.Proofs.Ytdbdbimeaabhlaa.Z
open Go Go.RowKit Go.Proofs.Ytdbdbimeaabhlaa.PAll Go.Proofs.YtdbdbimeaabhlaaW.PrintWords Go.Proofs.YtdbdbimeaabhlaaW.PrintLast Go.Proofs.YtdbdbimeaabhlaaW.PrintMore
set_option linter.unusedVariables false
set_option linter.unusedSimpArgs false
/-- One of the statement's own values as one of the program's. -/
def convRule (x : S84) : S81 := ⟨x.f0, x.f1, ⟨x.f2.f0, x.f2.f1⟩, ⟨x.f3.f0, x.f3.f1⟩, x.f4, x.f5⟩
theorem rd_lRule (l : List S84) (n : Nat) (h : n < l.length) : rd_T84 l (n : Int) = l[n] := by
  unfold rd_T84
  rw [List.getD_eq_getElem?_getD, Int.toNat_natCast, List.getElem?_eq_getElem h]
  rfl
theorem toRule_loop (l : List S84) (hl : l.length ≤ 1073741824) (d : Nat) : ∀ (n : Nat) (ys : List S81), n + d = l.length → ys.length = l.length → (∀ j, j < n → ys[j]? = (l.map convRule)[j]?) → (∃ K_, ∀ k, K_ ≤ k → laws_toRuleS.l0 k l ys (n : Int) = some (l.map convRule)) := by
  induction d with
  | zero =>
    intro n ys hn hy hj
    refine ⟨1, fun k hk => ?_⟩
    obtain ⟨k, rfl⟩ : ∃ j, k = j + 1 := ⟨k - 1, by omega⟩
    simp only [laws_toRuleS.l0]
    rw [if_neg (by omega)]
    congr 1
    apply List.ext_getElem?
    intro i
    by_cases c : i < n
    · exact hj i c
    · rw [List.getElem?_eq_none (by omega), List.getElem?_eq_none (by simp; omega)]
  | succ d ih =>
    intro n ys hn hy hj
    have hlt : n < l.length := by omega
    have hw : wrap64 ((n : Int) + 1) = ((n + 1 : Nat) : Int) := by rw [w64 (by omega)]; omega
    obtain ⟨K1, e1⟩ := ih (n + 1) (ys.set n (convRule l[n])) (by omega) (by simpa using hy) (fun j hj2 => by
      by_cases c : j = n
      · subst c
        rw [List.getElem?_set_self (by omega), List.getElem?_map, List.getElem?_eq_getElem hlt]
        rfl
      · rw [List.getElem?_set_ne (by omega)]
        exact hj j (by omega))
    refine ⟨K1 + 1, fun k hk => ?_⟩
    obtain ⟨k, rfl⟩ : ∃ j, k = j + 1 := ⟨k - 1, by omega⟩
    simp only [laws_toRuleS.l0]
    rw [if_pos (by omega), if_pos (by omega), rd_lRule l n hlt]
    simp only [laws_toRule.f, laws_toBlock.f, Option.bind_some]
    rw [if_pos (by omega), hw, Int.toNat_natCast]
    exact e1 k (by omega)
theorem toRule (l : List S84) (hl : l.length ≤ 1073741824) : (∃ K_, ∀ k, K_ ≤ k → laws_toRuleS.f k l = some (l.map convRule)) := by
  obtain ⟨K, h⟩ := toRule_loop l hl l.length 0 (List.replicate l.length z81) (by omega) (by simp) (fun j h => absurd h (by omega))
  refine ⟨K, fun k hk => ?_⟩
  simp only [laws_toRuleS.f]
  rw [if_pos (by omega), if_pos (by omega), Int.toNat_natCast]
  exact h k hk
/-- What is left of a bound, when so many are taken. -/
theorem szRule (l : List S84) (hl : l.length ≤ 9223372036854775807) : laws_szRuleS.f l 1048576 = some (if (l.length : Int) ≤ 1048576 then 1048576 - (l.length : Int) else -1) := by
  unfold laws_szRuleS.f
  rw [w64 (by omega)]
  by_cases c : (l.length : Int) ≤ 1048576
  · rw [if_neg (by omega), if_pos c]
  · rw [if_pos (by omega), if_neg c]
theorem eqRule_one (x : S81) : laws_eqRule.f x.f0 x.f1 x.f2.f0 x.f2.f1 x.f3.f0 x.f3.f1 x.f4 x.f5 x.f0 x.f1 x.f2.f0 x.f2.f1 x.f3.f0 x.f3.f1 x.f4 x.f5 = some true := by
  simp [laws_eqRule.f, laws_eqBlock.f]
theorem eqRule_loop (l : List S81) (hl : l.length ≤ 1073741824) (d : Nat) : ∀ n : Nat, n + d = l.length → (∃ K_, ∀ k, K_ ≤ k → laws_eqRuleS.l0 k l l (n : Int) = some true) := by
  induction d with
  | zero =>
    intro n hn
    refine ⟨1, fun k hk => ?_⟩
    obtain ⟨k, rfl⟩ : ∃ j, k = j + 1 := ⟨k - 1, by omega⟩
    simp only [laws_eqRuleS.l0]
    rw [if_neg (by omega)]
  | succ d ih =>
    intro n hn
    have hw : wrap64 ((n : Int) + 1) = ((n + 1 : Nat) : Int) := by rw [w64 (by omega)]; omega
    obtain ⟨K1, e1⟩ := ih (n + 1) (by omega)
    refine ⟨K1 + 1, fun k hk => ?_⟩
    obtain ⟨k, rfl⟩ : ∃ j, k = j + 1 := ⟨k - 1, by omega⟩
    simp only [laws_eqRuleS.l0]
    rw [if_pos (by omega), if_pos (by omega), if_pos (by omega), eqRule_one, Option.bind_some, if_pos rfl, hw]
    exact e1 k (by omega)
theorem eqRule (l : List S81) (hl : l.length ≤ 1073741824) : (∃ K_, ∀ k, K_ ≤ k → laws_eqRuleS.f k l l = some true) := by
  obtain ⟨K, h⟩ := eqRule_loop l hl l.length 0 (by omega)
  refine ⟨K, fun k hk => ?_⟩
  simp only [laws_eqRuleS.f]
  rw [if_pos trivial]
  exact h k hk
end Go.Proofs.Ytdbdbimeaabhlaa.Z
end
section
namespace Go.Proofs.Ytdbdbimeaabhlaa.Pure
open Go Go.RowKit Go.Proofs.Ytdbdbimeaabhlaa.PAll Go.Proofs.YtdbdbimeaabhlaaW.PrintWords Go.Proofs.YtdbdbimeaabhlaaW.PrintLast Go.Proofs.YtdbdbimeaabhlaaW.PrintMore Go.Proofs.Ytdbdbimeaabhlaa.Z
set_option linter.unusedVariables false
set_option linter.unusedSimpArgs false
theorem FnExactRulesFirst : laws_FnExactRulesFirst.Pure := by
  intro l x y z hl _ _ _
  have hm : l.length ≤ 9223372036854775807 := by have := hl.1; unfold maxLen at this; exact this
  by_cases c : (l.length : Int) ≤ 1048576
  · obtain ⟨K1, e1⟩ := toRule l (by omega)
    obtain ⟨K2, e2⟩ := impl_rulesFirst (l.map convRule) x y z
    obtain ⟨K3, e3⟩ := spec_rulesFirst (l.map convRule) x y z (by simp; omega)
    obtain ⟨K4, e4⟩ := eqRule (l.map convRule) (by simp; omega)
    refine ⟨K1 + K2 + K3 + K4, ?_⟩
    simp only [laws_FnExactRulesFirst.f, laws_toCall.f, Option.bind_some]
    rw [szRule l hm, if_pos c, Option.bind_some, if_neg (by omega), e1 _ (by omega), Option.bind_some, e3 _ (by omega), Option.bind_some, Option.bind_some, e2 _ (by omega), Option.bind_some, if_pos rfl, Option.bind_some, e4 _ (by omega), Option.bind_some, if_pos rfl]
  · refine ⟨0, ?_⟩
    simp only [laws_FnExactRulesFirst.f]
    rw [szRule l hm, if_neg c, Option.bind_some, if_pos (by omega)]
end Go.Proofs.Ytdbdbimeaabhlaa.Pure
end
