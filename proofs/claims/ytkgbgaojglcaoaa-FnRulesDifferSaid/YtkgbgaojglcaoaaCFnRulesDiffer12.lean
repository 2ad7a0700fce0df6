/- Contracts of the functions that the statement reaches, printed by a program out of the translation and joined with the plain laws. -/
import Derived.Test.YtkgbgaojglcaoaaCFnRulesDiffer3
import Derived.Test.YtkgbgaojglcaoaaCFnRulesDiffer4
import Derived.Test.YtkgbgaojglcaoaaCFnRulesDiffer5
import Derived.Test.YtkgbgaojglcaoaaCFnRulesDiffer6
import Derived.Test.YtkgbgaojglcaoaaCFnRulesDiffer7
import Derived.Test.YtkgbgaojglcaoaaCFnRulesDiffer10
import Derived.Test.YtkgbgaojglcaoaaCFnRulesDiffer11
section
namespace Go.Proofs.Ytkgbgaojglcaoaa.PAll
open Go.RowKit Go.Proofs.YtkgbgaojglcaoaaW.PrintWords Go.Proofs.YtkgbgaojglcaoaaW.PrintLast Go.Proofs.YtkgbgaojglcaoaaW.PrintMore
attribute [local go_sem] max2_int min2_int max_two min_two max_three min_three max_four min_four   -- for this text's walks alone
set_option linter.unusedVariables false
set_option linter.unusedSimpArgs false
attribute [local go_sem high] eqA60
mutual
def laws_FnRulesDiffer.j0 : Nat → List Int → List Int → Bool → Option (Bool)
 | 0, _, _, _ => none
 | k + 1, x0, x1, x26 => if x26 = true then (some true) else ((spec_DrawRulesDiffer.f k x0).bind fun bt101 => ((impl_RulesDiffer.f k bt101.1 bt101.2).bind fun bt107 => ((spec_RulesDiffer.f k bt101.1 bt101.2).bind fun bt112 => ((impl_RulesDiffer.f k bt101.2 bt101.1).bind fun bt117 => (if (!(bt107.1 == bt112.1) || (!(bt107.2.1 == bt112.2.1) || (!(bt107.2.2.1 == bt112.2.2.1)))) = true then (laws_FnRulesDiffer.j1 k x1 bt101.1 bt101.2 bt107.2.2.2 bt112.2.2.2 bt117.2.2.2 true bt107.1 bt107.2.1 bt107.2.2.1 bt112.1 bt112.2.1 bt112.2.2.1 bt117.1 bt117.2.1 bt117.2.2.1) else (if (bt107.2.2.2 != bt112.2.2.2) = true then (laws_FnRulesDiffer.j1 k x1 bt101.1 bt101.2 bt107.2.2.2 bt112.2.2.2 bt117.2.2.2 true bt107.1 bt107.2.1 bt107.2.2.1 bt112.1 bt112.2.1 bt112.2.2.1 bt117.1 bt117.2.1 bt117.2.2.1) else (if (!(bt117.1 == bt107.1) || (!(bt117.2.1 == bt107.2.1) || (!(bt117.2.2.1 == bt107.2.2.1)))) = true then (laws_FnRulesDiffer.j1 k x1 bt101.1 bt101.2 bt107.2.2.2 bt112.2.2.2 bt117.2.2.2 true bt107.1 bt107.2.1 bt107.2.2.1 bt112.1 bt112.2.1 bt112.2.2.1 bt117.1 bt117.2.1 bt117.2.2.1) else (if (bt117.2.2.2 != bt107.2.2.2) = true then (laws_FnRulesDiffer.j1 k x1 bt101.1 bt101.2 bt107.2.2.2 bt112.2.2.2 bt117.2.2.2 true bt107.1 bt107.2.1 bt107.2.2.1 bt112.1 bt112.2.1 bt112.2.2.1 bt117.1 bt117.2.1 bt117.2.2.1) else ((spec_RulesOk.f k bt101.1).bind fun t122 => (if t122 = true then ((spec_RulesOk.f k bt101.2).bind fun t123 => (laws_FnRulesDiffer.j1 k x1 bt101.1 bt101.2 bt107.2.2.2 bt112.2.2.2 bt117.2.2.2 (!t123) bt107.1 bt107.2.1 bt107.2.2.1 bt112.1 bt112.2.1 bt112.2.2.1 bt117.1 bt117.2.1 bt117.2.2.1)) else (laws_FnRulesDiffer.j1 k x1 bt101.1 bt101.2 bt107.2.2.2 bt112.2.2.2 bt117.2.2.2 true bt107.1 bt107.2.1 bt107.2.2.1 bt112.1 bt112.2.1 bt112.2.2.1 bt117.1 bt117.2.1 bt117.2.2.1)))))))))))
def laws_FnRulesDiffer.j1 : Nat → List Int → List (S71) → List (S71) → Bool → Bool → Bool → Bool → Int → Int → Int → Int → Int → Int → Int → Int → Int → Option (Bool)
 | 0, _, _, _, _, _, _, _, _, _, _, _, _, _, _, _, _ => none
 | k + 1, x1, x5, x6, x8, x10, x12, x77, x112000, x112001, x112002, x117000, x117001, x117002, x122000, x122001, x122002 => if x77 = true then (if (x112000 == x117000 && (x112001 == x117001 && (x112002 == x117002))) = true then (if (x8 == x10) = true then (if (x122000 == x112000 && (x122001 == x112001 && (x122002 == x112002))) = true then (some (x12 == x8)) else (some false)) else (some false)) else (some false)) else (if x8 = true then (laws_FnRulesDiffer.j2 k x5 x6 x8 x112000 x112001 x112002) else ((spec_DrawRulesFirst.f k x1).bind fun bt124 => (laws_FnRulesDiffer.j2 k x5 x6 x8 bt124.2.1 bt124.2.2.1 bt124.2.2.2)))
def laws_FnRulesDiffer.j2 : Nat → List (S71) → List (S71) → Bool → Int → Int → Int → Option (Bool)
 | 0, _, _, _, _, _, _ => none
 | k + 1, x5, x6, x8, x112000, x112001, x112002 => (impl_RulesFirst.f k x5 x112000 x112001 x112002).bind fun t130 => ((impl_RulesFirst.f k x6 x112000 x112001 x112002).bind fun t131 => (if t130 ≥ 0 then (if 0 ≤ t130 then (if t130 < (x5.length : Int) then (laws_FnRulesDiffer.j3 k x5 x6 x8 t131 ((rd_T71 x5 t130).f0) ((rd_T71 x5 t130).f1) ((rd_T71 x5 t130).f2.f0) ((rd_T71 x5 t130).f2.f1) ((rd_T71 x5 t130).f3.f0) ((rd_T71 x5 t130).f3.f1) ((rd_T71 x5 t130).f4) ((rd_T71 x5 t130).f5) 0 0 0 0 0 0 0 0) else (none)) else (none)) else (laws_FnRulesDiffer.j3 k x5 x6 x8 t131 0 0 0 0 0 0 0 0 0 0 0 0 0 0 0 0)))
def laws_FnRulesDiffer.j3 : Nat → List (S71) → List (S71) → Bool → Int → Int → Int → Int → Int → Int → Int → Int → Int → Int → Int → Int → Int → Int → Int → Int → Int → Option (Bool)
 | 0, _, _, _, _, _, _, _, _, _, _, _, _, _, _, _, _, _, _, _, _ => none
 | k + 1, x5, x6, x8, x14, x133000, x133001, x133002, x133003, x133004, x133005, x133006, x133007, x134000, x134001, x134002, x134003, x134004, x134005, x134006, x134007 => if x14 ≥ 0 then (if 0 ≤ x14 then (if x14 < (x6.length : Int) then (laws_FnRulesDiffer.j4 k x5 x8 x133000 x133001 x133002 x133003 x133004 x133005 x133006 x133007 ((rd_T71 x6 x14).f0) ((rd_T71 x6 x14).f1) ((rd_T71 x6 x14).f2.f0) ((rd_T71 x6 x14).f2.f1) ((rd_T71 x6 x14).f3.f0) ((rd_T71 x6 x14).f3.f1) ((rd_T71 x6 x14).f4) ((rd_T71 x6 x14).f5)) else (none)) else (none)) else (laws_FnRulesDiffer.j4 k x5 x8 x133000 x133001 x133002 x133003 x133004 x133005 x133006 x133007 x134000 x134001 x134002 x134003 x134004 x134005 x134006 x134007)
def laws_FnRulesDiffer.j4 : Nat → List (S71) → Bool → Int → Int → Int → Int → Int → Int → Int → Int → Int → Int → Int → Int → Int → Int → Int → Int → Option (Bool)
 | 0, _, _, _, _, _, _, _, _, _, _, _, _, _, _, _, _, _, _ => none
 | k + 1, x5, x8, x133000, x133001, x133002, x133003, x133004, x133005, x133006, x133007, x134000, x134001, x134002, x134003, x134004, x134005, x134006, x134007 => (impl_RulesDiffer.f k x5 x5).bind fun bt136 => (if x133000 = x134000 then (if ((x133001 == x134001) != x8) = true then (some (!bt136.2.2.2)) else (some false)) else (if (false != x8) = true then (some (!bt136.2.2.2)) else (some false)))
end
def laws_FnRulesDiffer.f (k : Nat) (l0 : List Int) (l1 : List Int) : Option (Bool) := if (l0.length : Int) > 1048576 then (laws_FnRulesDiffer.j0 k l0 l1 true) else (laws_FnRulesDiffer.j0 k l0 l1 (decide ((l1.length : Int) > 1048576)))
set_option maxHeartbeats 8000000 in
set_option maxRecDepth 100000 in
theorem laws_FnRulesDiffer.calls (k : Nat) (A0 : Option Addr) (c0 : Nat) (l0 : List Int) (A1 : Option Addr) (c1 : Nat) (l1 : List Int) (r : Bool) (w : World) (hr0 : Kd.C (Kd.int .u8) w A0 l0.length l0) (hc0 : l0.length ≤ c0) (hr1 : Kd.C (Kd.int .u8) w A1 l1.length l1) (hc1 : l1.length ≤ c1) (hr0_ : r = true) (h : laws_FnRulesDiffer.f k l0 l1 = some r) :
  Calls Try.prog 11 #[.slice A0 l0.length c0, .slice A1 l1.length c1] w fun e w' => e = .returned (.bool r) ∧ Below w.heap.size w w' := by
 have hu60 := Try.underlying60
 have hu71 := Try.underlying71
 have HR0 := Aside0.mk hr0
 have HC0 := Aside0.mk hc0
 clear hr0 hc0
 have HR1 := Aside0.mk hr1
 have HC1 := Aside0.mk hc1
 clear hr1 hc1
 have HB := am (Below.refl w.heap.size w)
 have H : (if (l0.length : Int) > 1048576 then (laws_FnRulesDiffer.j0 k l0 l1 true) else (laws_FnRulesDiffer.j0 k l0 l1 (decide ((l1.length : Int) > 1048576)))) = some r := h
 clear h
 have HR_ := Aside0.mk hr0_
 clear hr0_
 have HC3 := Aside0.mk H
 clear H
 go_enter Try.func11, Try.ntmps11
 go_upto_region 1 with (fail)
 go_cut [26] (fun v26 wc => ∃ (kq : Nat) (x26_2 : Bool), v26 = .bool x26_2 ∧ Aside0 (laws_FnRulesDiffer.j0 kq l0 l1 x26_2 = some r) ∧ Aside0 (kq ≤ k) ∧ Aside0 (Below w.heap.size w wc))
 case first =>
  have H := HC3.out
  clear HC3
  by_cases c4 : (l0.length : Int) > 1048576
  ·rw [if_pos c4] at H
   have c4b0 : decide (1048576 < (l0.length : Int)) = true := decide_eq_true c4
   have c4b1 : decide (1048576 < l0.length) = true := decide_eq_true (by omega)
   clear c4
   (first | rw [c4b0] | (simp only [i64_w, i32_w]; rw [c4b0]) | skip)
   have H' := Aside0.mk H
   clear H
   go_wp2
   go_meet
   case rel => exact ⟨_, (true), (by first | rfl | (simp; done) | (simp [*]; done)), H', ⟨by first | omega | exact Nat.le_refl _⟩, ⟨KL HB⟩⟩
  ·rw [if_neg c4] at H
   have c4b0 : decide (1048576 < (l0.length : Int)) = false := decide_eq_false c4
   have c4b1 : decide (1048576 < l0.length) = false := decide_eq_false (by omega)
   clear c4
   (first | rw [c4b0] | (simp only [i64_w, i32_w]; rw [c4b0]) | skip)
   have H' := Aside0.mk H
   clear H
   go_wp2
   go_meet
   case rel => exact ⟨_, (decide ((l1.length : Int) > 1048576)), (by first | rfl | (simp; done) | (simp [*]; done)), H', ⟨by first | omega | exact Nat.le_refl _⟩, ⟨KL HB⟩⟩
 case rest =>
  clear HC3
  try clear c1
  try clear p2
  try clear c4
  try clear c4b0
  try clear c4b1
  obtain ⟨kq, x26_2, rfl, HA, HJ2, HB⟩ := hcut
  cases kq with
  | zero => exact absurd HA.out (by simp [laws_FnRulesDiffer.j0])
  | succ kj2 =>
   have H := HA.out
   clear HA
   simp only [laws_FnRulesDiffer.j0] at H
   by_cases c5 : x26_2 = true
   ·subst c5
    have H1 : (some true) = some r := by rw [if_pos rfl] at H; exact H
    clear H
    have H := H1
    clear H1
    obtain rfl := Option.some.inj H
    go_wp2
    go_ret
    exact ⟨ER, KL HB⟩
   ·replace c5 := Bool.eq_false_iff.mpr c5
    subst c5
    have H1 : ((spec_DrawRulesDiffer.f kj2 l0).bind fun bt101 => ((impl_RulesDiffer.f kj2 bt101.1 bt101.2).bind fun bt107 => ((spec_RulesDiffer.f kj2 bt101.1 bt101.2).bind fun bt112 => ((impl_RulesDiffer.f kj2 bt101.2 bt101.1).bind fun bt117 => (if (!(bt107.1 == bt112.1) || (!(bt107.2.1 == bt112.2.1) || (!(bt107.2.2.1 == bt112.2.2.1)))) = true then (laws_FnRulesDiffer.j1 kj2 l1 bt101.1 bt101.2 bt107.2.2.2 bt112.2.2.2 bt117.2.2.2 true bt107.1 bt107.2.1 bt107.2.2.1 bt112.1 bt112.2.1 bt112.2.2.1 bt117.1 bt117.2.1 bt117.2.2.1) else (if (bt107.2.2.2 != bt112.2.2.2) = true then (laws_FnRulesDiffer.j1 kj2 l1 bt101.1 bt101.2 bt107.2.2.2 bt112.2.2.2 bt117.2.2.2 true bt107.1 bt107.2.1 bt107.2.2.1 bt112.1 bt112.2.1 bt112.2.2.1 bt117.1 bt117.2.1 bt117.2.2.1) else (if (!(bt117.1 == bt107.1) || (!(bt117.2.1 == bt107.2.1) || (!(bt117.2.2.1 == bt107.2.2.1)))) = true then (laws_FnRulesDiffer.j1 kj2 l1 bt101.1 bt101.2 bt107.2.2.2 bt112.2.2.2 bt117.2.2.2 true bt107.1 bt107.2.1 bt107.2.2.1 bt112.1 bt112.2.1 bt112.2.2.1 bt117.1 bt117.2.1 bt117.2.2.1) else (if (bt117.2.2.2 != bt107.2.2.2) = true then (laws_FnRulesDiffer.j1 kj2 l1 bt101.1 bt101.2 bt107.2.2.2 bt112.2.2.2 bt117.2.2.2 true bt107.1 bt107.2.1 bt107.2.2.1 bt112.1 bt112.2.1 bt112.2.2.1 bt117.1 bt117.2.1 bt117.2.2.1) else ((spec_RulesOk.f kj2 bt101.1).bind fun t122 => (if t122 = true then ((spec_RulesOk.f kj2 bt101.2).bind fun t123 => (laws_FnRulesDiffer.j1 kj2 l1 bt101.1 bt101.2 bt107.2.2.2 bt112.2.2.2 bt117.2.2.2 (!t123) bt107.1 bt107.2.1 bt107.2.2.1 bt112.1 bt112.2.1 bt112.2.2.1 bt117.1 bt117.2.1 bt117.2.2.1)) else (laws_FnRulesDiffer.j1 kj2 l1 bt101.1 bt101.2 bt107.2.2.2 bt112.2.2.2 bt117.2.2.2 true bt107.1 bt107.2.1 bt107.2.2.1 bt112.1 bt112.2.1 bt112.2.2.1 bt117.1 bt117.2.1 bt117.2.2.1))))))))))) = some r := by rw [if_neg (show ¬ (false = true) by decide)] at H; exact H
    clear H
    have H := H1
    clear H1
    replace H := Option.bind_eq_some_iff.mp H
    obtain ⟨⟨t101, t102⟩, A60, H⟩ := H
    replace H : ((impl_RulesDiffer.f kj2 t101 t102).bind fun bt107 => ((spec_RulesDiffer.f kj2 t101 t102).bind fun bt112 => ((impl_RulesDiffer.f kj2 t102 t101).bind fun bt117 => (if (!(bt107.1 == bt112.1) || (!(bt107.2.1 == bt112.2.1) || (!(bt107.2.2.1 == bt112.2.2.1)))) = true then (laws_FnRulesDiffer.j1 kj2 l1 t101 t102 bt107.2.2.2 bt112.2.2.2 bt117.2.2.2 true bt107.1 bt107.2.1 bt107.2.2.1 bt112.1 bt112.2.1 bt112.2.2.1 bt117.1 bt117.2.1 bt117.2.2.1) else (if (bt107.2.2.2 != bt112.2.2.2) = true then (laws_FnRulesDiffer.j1 kj2 l1 t101 t102 bt107.2.2.2 bt112.2.2.2 bt117.2.2.2 true bt107.1 bt107.2.1 bt107.2.2.1 bt112.1 bt112.2.1 bt112.2.2.1 bt117.1 bt117.2.1 bt117.2.2.1) else (if (!(bt117.1 == bt107.1) || (!(bt117.2.1 == bt107.2.1) || (!(bt117.2.2.1 == bt107.2.2.1)))) = true then (laws_FnRulesDiffer.j1 kj2 l1 t101 t102 bt107.2.2.2 bt112.2.2.2 bt117.2.2.2 true bt107.1 bt107.2.1 bt107.2.2.1 bt112.1 bt112.2.1 bt112.2.2.1 bt117.1 bt117.2.1 bt117.2.2.1) else (if (bt117.2.2.2 != bt107.2.2.2) = true then (laws_FnRulesDiffer.j1 kj2 l1 t101 t102 bt107.2.2.2 bt112.2.2.2 bt117.2.2.2 true bt107.1 bt107.2.1 bt107.2.2.1 bt112.1 bt112.2.1 bt112.2.2.1 bt117.1 bt117.2.1 bt117.2.2.1) else ((spec_RulesOk.f kj2 t101).bind fun t122 => (if t122 = true then ((spec_RulesOk.f kj2 t102).bind fun t123 => (laws_FnRulesDiffer.j1 kj2 l1 t101 t102 bt107.2.2.2 bt112.2.2.2 bt117.2.2.2 (!t123) bt107.1 bt107.2.1 bt107.2.2.1 bt112.1 bt112.2.1 bt112.2.2.1 bt117.1 bt117.2.1 bt117.2.2.1)) else (laws_FnRulesDiffer.j1 kj2 l1 t101 t102 bt107.2.2.2 bt112.2.2.2 bt117.2.2.2 true bt107.1 bt107.2.1 bt107.2.2.1 bt112.1 bt112.2.1 bt112.2.2.1 bt117.1 bt117.2.1 bt117.2.2.1)))))))))) = some r := H
    have A6 := Aside0.mk A60
    clear A60
    replace H := Option.bind_eq_some_iff.mp H
    obtain ⟨⟨t107, t108, t109, t110⟩, A70, H⟩ := H
    replace H : ((spec_RulesDiffer.f kj2 t101 t102).bind fun bt112 => ((impl_RulesDiffer.f kj2 t102 t101).bind fun bt117 => (if (!(t107 == bt112.1) || (!(t108 == bt112.2.1) || (!(t109 == bt112.2.2.1)))) = true then (laws_FnRulesDiffer.j1 kj2 l1 t101 t102 t110 bt112.2.2.2 bt117.2.2.2 true t107 t108 t109 bt112.1 bt112.2.1 bt112.2.2.1 bt117.1 bt117.2.1 bt117.2.2.1) else (if (t110 != bt112.2.2.2) = true then (laws_FnRulesDiffer.j1 kj2 l1 t101 t102 t110 bt112.2.2.2 bt117.2.2.2 true t107 t108 t109 bt112.1 bt112.2.1 bt112.2.2.1 bt117.1 bt117.2.1 bt117.2.2.1) else (if (!(bt117.1 == t107) || (!(bt117.2.1 == t108) || (!(bt117.2.2.1 == t109)))) = true then (laws_FnRulesDiffer.j1 kj2 l1 t101 t102 t110 bt112.2.2.2 bt117.2.2.2 true t107 t108 t109 bt112.1 bt112.2.1 bt112.2.2.1 bt117.1 bt117.2.1 bt117.2.2.1) else (if (bt117.2.2.2 != t110) = true then (laws_FnRulesDiffer.j1 kj2 l1 t101 t102 t110 bt112.2.2.2 bt117.2.2.2 true t107 t108 t109 bt112.1 bt112.2.1 bt112.2.2.1 bt117.1 bt117.2.1 bt117.2.2.1) else ((spec_RulesOk.f kj2 t101).bind fun t122 => (if t122 = true then ((spec_RulesOk.f kj2 t102).bind fun t123 => (laws_FnRulesDiffer.j1 kj2 l1 t101 t102 t110 bt112.2.2.2 bt117.2.2.2 (!t123) t107 t108 t109 bt112.1 bt112.2.1 bt112.2.2.1 bt117.1 bt117.2.1 bt117.2.2.1)) else (laws_FnRulesDiffer.j1 kj2 l1 t101 t102 t110 bt112.2.2.2 bt117.2.2.2 true t107 t108 t109 bt112.1 bt112.2.1 bt112.2.2.1 bt117.1 bt117.2.1 bt117.2.2.1))))))))) = some r := H
    have A7 := Aside0.mk A70
    clear A70
    replace H := Option.bind_eq_some_iff.mp H
    obtain ⟨⟨t112, t113, t114, t115⟩, A80, H⟩ := H
    replace H : ((impl_RulesDiffer.f kj2 t102 t101).bind fun bt117 => (if (!(t107 == t112) || (!(t108 == t113) || (!(t109 == t114)))) = true then (laws_FnRulesDiffer.j1 kj2 l1 t101 t102 t110 t115 bt117.2.2.2 true t107 t108 t109 t112 t113 t114 bt117.1 bt117.2.1 bt117.2.2.1) else (if (t110 != t115) = true then (laws_FnRulesDiffer.j1 kj2 l1 t101 t102 t110 t115 bt117.2.2.2 true t107 t108 t109 t112 t113 t114 bt117.1 bt117.2.1 bt117.2.2.1) else (if (!(bt117.1 == t107) || (!(bt117.2.1 == t108) || (!(bt117.2.2.1 == t109)))) = true then (laws_FnRulesDiffer.j1 kj2 l1 t101 t102 t110 t115 bt117.2.2.2 true t107 t108 t109 t112 t113 t114 bt117.1 bt117.2.1 bt117.2.2.1) else (if (bt117.2.2.2 != t110) = true then (laws_FnRulesDiffer.j1 kj2 l1 t101 t102 t110 t115 bt117.2.2.2 true t107 t108 t109 t112 t113 t114 bt117.1 bt117.2.1 bt117.2.2.1) else ((spec_RulesOk.f kj2 t101).bind fun t122 => (if t122 = true then ((spec_RulesOk.f kj2 t102).bind fun t123 => (laws_FnRulesDiffer.j1 kj2 l1 t101 t102 t110 t115 bt117.2.2.2 (!t123) t107 t108 t109 t112 t113 t114 bt117.1 bt117.2.1 bt117.2.2.1)) else (laws_FnRulesDiffer.j1 kj2 l1 t101 t102 t110 t115 bt117.2.2.2 true t107 t108 t109 t112 t113 t114 bt117.1 bt117.2.1 bt117.2.2.1)))))))) = some r := H
    have A8 := Aside0.mk A80
    clear A80
    replace H := Option.bind_eq_some_iff.mp H
    obtain ⟨⟨t117, t118, t119, t120⟩, A90, H⟩ := H
    replace H : (if (!(t107 == t112) || (!(t108 == t113) || (!(t109 == t114)))) = true then (laws_FnRulesDiffer.j1 kj2 l1 t101 t102 t110 t115 t120 true t107 t108 t109 t112 t113 t114 t117 t118 t119) else (if (t110 != t115) = true then (laws_FnRulesDiffer.j1 kj2 l1 t101 t102 t110 t115 t120 true t107 t108 t109 t112 t113 t114 t117 t118 t119) else (if (!(t117 == t107) || (!(t118 == t108) || (!(t119 == t109)))) = true then (laws_FnRulesDiffer.j1 kj2 l1 t101 t102 t110 t115 t120 true t107 t108 t109 t112 t113 t114 t117 t118 t119) else (if (t120 != t110) = true then (laws_FnRulesDiffer.j1 kj2 l1 t101 t102 t110 t115 t120 true t107 t108 t109 t112 t113 t114 t117 t118 t119) else ((spec_RulesOk.f kj2 t101).bind fun t122 => (if t122 = true then ((spec_RulesOk.f kj2 t102).bind fun t123 => (laws_FnRulesDiffer.j1 kj2 l1 t101 t102 t110 t115 t120 (!t123) t107 t108 t109 t112 t113 t114 t117 t118 t119)) else (laws_FnRulesDiffer.j1 kj2 l1 t101 t102 t110 t115 t120 true t107 t108 t109 t112 t113 t114 t117 t118 t119))))))) = some r := H
    have A9 := Aside0.mk A90
    clear A90
    have HC10 := Aside0.mk H
    clear H
    go_upto_region 7 with (first | ((with_reducible refine gate_callee (f := 50) rfl ?_); refine goesL_ (some 29) rfl rfl Try.func50 (by kernel_rfl) rfl #[.slice A0 l0.length c0] rfl MT ?_; (with_reducible refine (spec_DrawRulesDiffer.calls kj2 _ _ l0 t101 t102 _ ?side1 ?side2 A6.out).mono ?_); (case side1 => exact KD HR0 HB); (case side2 => exact HC0.out); rintro e w11 ⟨v103, v105, rfl, ho0, ho1, hb⟩; refine ⟨_, rfl, ?_⟩; have HO104 := am (Kd.R_lower ho0 (below_size (KL HB))); have HO106 := am (Kd.R_lower ho1 (below_size (KL HB))); replace HB := am (below_step (KL HB) hb); (try clear hb); (try clear ho0); (try clear ho1); obtain ⟨Ao12, co12, eo12⟩ := Kd.R_slice HO104.out; subst eo12; obtain ⟨Ao13, co13, eo13⟩ := Kd.R_slice HO106.out; subst eo13) | ((with_reducible refine gate_callee (f := 40) rfl ?_); refine goesL_ (some 35) rfl rfl Try.func40 (by kernel_rfl) rfl #[.slice Ao12 t101.length co12, .slice Ao13 t102.length co13] rfl MT ?_; (with_reducible refine (impl_RulesDiffer.calls kj2 _ _ t101 _ _ t102 t107 t108 t109 t110 _ ?side1 ?side2 ?side3 ?side4 A7.out).mono ?_); (case side1 => exact KC (Kd.R_reads' HO104.out).2.2); (case side2 => exact (Kd.R_reads' HO104.out).2.1); (case side3 => exact KC (Kd.R_reads' HO106.out).2.2); (case side4 => exact (Kd.R_reads' HO106.out).2.1); rintro e w14 ⟨rfl, hb⟩; refine ⟨_, rfl, ?_⟩; replace HO104 := am (Kd.R_below (KR HO104) hb); replace HO106 := am (Kd.R_below (KR HO106) hb); replace HB := am (below_step (KL HB) hb); (try clear hb)) | ((with_reducible refine gate_dst (N := 7) rfl ?_); (try (refine gate_guard (by rfl) ?_; dsimp only)); refine box_event rfl (N := 7) rfl (cs := #[.int .i64 0, .int .i64 0, .int .i64 0]) (t := 60) BX ?_; intro gb111 hg w15 hbox hb; replace HO104 := am (Kd.R_below (KR HO104) hb); replace HO106 := am (Kd.R_below (KR HO106) hb); have BK111 := am (hbox); have GW111 := am (GH HB hg); have GE111 := GW111; replace HB := am (below_step (KL HB) hb); clear hb hbox hg; obtain ⟨hcz16_0, hcz16_1, hcz16_2, hfz16_0⟩ := y3 w15 BK111.out) | ((with_reducible refine gate_callee (f := 39) rfl ?_); refine goesL_ (some 41) rfl rfl Try.func39 (by kernel_rfl) rfl #[.slice Ao12 t101.length co12, .slice Ao13 t102.length co13] rfl MT ?_; (with_reducible refine (spec_RulesDiffer.calls kj2 _ _ t101 _ _ t102 t112 t113 t114 t115 _ ?side1 ?side2 ?side3 ?side4 A8.out).mono ?_); (case side1 => refine (Kd.R_reads' (e := 71) (base := w.heap.size) (ok := fun k_ => some k_ ≠ (.slice Ao13 t102.length co13 : Value).ownBlock) (n := t101.length) (c := co12) ?_).2.2; exact (by (with_reducible repeat (first | apply Kd.R_alloc | apply Kd.R_drewN | apply Kd.R_drew)); exact (RF HO104.out BK111.out))); (case side2 => exact (Kd.R_reads' HO104.out).2.1); (case side3 => refine (Kd.R_reads' (e := 71) (base := w.heap.size) (ok := fun k_ => some k_ ≠ (.slice Ao12 t101.length co12 : Value).ownBlock) (n := t102.length) (c := co13) ?_).2.2; exact (by (with_reducible repeat (first | apply Kd.R_alloc | apply Kd.R_drewN | apply Kd.R_drew)); exact (RF HO106.out BK111.out))); (case side4 => exact (Kd.R_reads' HO106.out).2.1); rintro e w17 ⟨rfl, hb⟩; refine ⟨_, rfl, ?_⟩; replace HO104 := am (Kd.R_below (by (with_reducible repeat (first | apply Kd.R_alloc | apply Kd.R_drewN | apply Kd.R_drew)); exact (RF HO104.out BK111.out)) hb); replace HO106 := am (Kd.R_below (by (with_reducible repeat (first | apply Kd.R_alloc | apply Kd.R_drewN | apply Kd.R_drew)); exact (RF HO106.out BK111.out)) hb); replace BK111 := am (blk_below (g := gb111) (o := .cells #[.int .i64 t107, .int .i64 t108, .int .i64 t109] 60 (0, 0)) (by (with_reducible repeat (first | refine blk_drewN ?_ _ | refine blk_drew ?_ | refine blk_alloc ?_ _)); refine blk_put (cs := #[.int .i64 t107, .int .i64 t108, .int .i64 0]) ?_ 2 _ rfl; (with_reducible repeat (first | refine blk_drewN ?_ _ | refine blk_drew ?_ | refine blk_alloc ?_ _)); refine blk_put (cs := #[.int .i64 t107, .int .i64 0, .int .i64 0]) ?_ 1 _ rfl; (with_reducible repeat (first | refine blk_drewN ?_ _ | refine blk_drew ?_ | refine blk_alloc ?_ _)); refine blk_put (cs := #[.int .i64 0, .int .i64 0, .int .i64 0]) ?_ 0 _ rfl; (with_reducible repeat (first | refine blk_drewN ?_ _ | refine blk_drew ?_ | refine blk_alloc ?_ _)); exact BK111.out) hb); replace HB := am (below_step (K1 HB GE111.out) hb); (try clear hb); (try clear hb2); (try clear hk); (try clear hi)) | ((with_reducible refine gate_dst (N := 9) rfl ?_); (try (refine gate_guard (by rfl) ?_; dsimp only)); refine box_event rfl (N := 9) rfl (cs := #[.int .i64 0, .int .i64 0, .int .i64 0]) (t := 60) BX ?_; intro gb116 hg w18 hbox hb; replace HO104 := am (Kd.R_below (KR HO104) hb); replace HO106 := am (Kd.R_below (KR HO106) hb); have BK116 := am (hbox); have GW116 := am (GH1 HB GE111.out hg); have GE116 := GW116; replace HB := am (below_step (K1 HB GE111.out) hb); have NB111_116 := am (NL BK111 hg); have NB116_111 := am (NG BK111 hg); replace BK111 := am (BB BK111 hb); clear hb hbox hg; have hnb19 := NB116_111.out; have hnc19 := NB111_116.out; obtain ⟨hcz20_0, hcz20_1, hcz20_2, hfz20_0⟩ := y3 w18 BK116.out) | ((with_reducible refine gate_callee (f := 40) rfl ?_); refine goesL_ (some 47) rfl rfl Try.func40 (by kernel_rfl) rfl #[.slice Ao13 t102.length co13, .slice Ao12 t101.length co12] rfl MT ?_; (with_reducible refine (impl_RulesDiffer.calls kj2 _ _ t102 _ _ t101 t117 t118 t119 t120 _ ?side1 ?side2 ?side3 ?side4 A9.out).mono ?_); (case side1 => refine (Kd.R_reads' (e := 71) (base := w.heap.size) (ok := fun k_ => some k_ ≠ (.slice Ao12 t101.length co12 : Value).ownBlock) (n := t102.length) (c := co13) ?_).2.2; exact (by (with_reducible repeat (first | apply Kd.R_alloc | apply Kd.R_drewN | apply Kd.R_drew)); exact (RF HO106.out BK116.out))); (case side2 => exact (Kd.R_reads' HO106.out).2.1); (case side3 => refine (Kd.R_reads' (e := 71) (base := w.heap.size) (ok := fun k_ => some k_ ≠ (.slice Ao13 t102.length co13 : Value).ownBlock) (n := t101.length) (c := co12) ?_).2.2; exact (by (with_reducible repeat (first | apply Kd.R_alloc | apply Kd.R_drewN | apply Kd.R_drew)); exact (RF HO104.out BK116.out))); (case side4 => exact (Kd.R_reads' HO104.out).2.1); rintro e w21 ⟨rfl, hb⟩; refine ⟨_, rfl, ?_⟩; replace HO104 := am (Kd.R_below (by (with_reducible repeat (first | apply Kd.R_alloc | apply Kd.R_drewN | apply Kd.R_drew)); exact (RF HO104.out BK116.out)) hb); replace HO106 := am (Kd.R_below (by (with_reducible repeat (first | apply Kd.R_alloc | apply Kd.R_drewN | apply Kd.R_drew)); exact (RF HO106.out BK116.out)) hb); replace BK111 := am (blk_below (g := gb111) (o := .cells #[.int .i64 t107, .int .i64 t108, .int .i64 t109] 60 (0, 0)) (by (with_reducible repeat (first | refine blk_drewN ?_ _ | refine blk_drew ?_ | refine blk_alloc ?_ _)); refine blk_far ?_ NB111_116.out _; (with_reducible repeat (first | refine blk_drewN ?_ _ | refine blk_drew ?_ | refine blk_alloc ?_ _)); refine blk_far ?_ NB111_116.out _; (with_reducible repeat (first | refine blk_drewN ?_ _ | refine blk_drew ?_ | refine blk_alloc ?_ _)); refine blk_far ?_ NB111_116.out _; (with_reducible repeat (first | refine blk_drewN ?_ _ | refine blk_drew ?_ | refine blk_alloc ?_ _)); exact BK111.out) hb); replace BK116 := am (blk_below (g := gb116) (o := .cells #[.int .i64 t112, .int .i64 t113, .int .i64 t114] 60 (0, 0)) (by (with_reducible repeat (first | refine blk_drewN ?_ _ | refine blk_drew ?_ | refine blk_alloc ?_ _)); refine blk_put (cs := #[.int .i64 t112, .int .i64 t113, .int .i64 0]) ?_ 2 _ rfl; (with_reducible repeat (first | refine blk_drewN ?_ _ | refine blk_drew ?_ | refine blk_alloc ?_ _)); refine blk_put (cs := #[.int .i64 t112, .int .i64 0, .int .i64 0]) ?_ 1 _ rfl; (with_reducible repeat (first | refine blk_drewN ?_ _ | refine blk_drew ?_ | refine blk_alloc ?_ _)); refine blk_put (cs := #[.int .i64 0, .int .i64 0, .int .i64 0]) ?_ 0 _ rfl; (with_reducible repeat (first | refine blk_drewN ?_ _ | refine blk_drew ?_ | refine blk_alloc ?_ _)); exact BK116.out) hb); replace HB := am (below_step (K2 HB GE111.out GE116.out) hb); (try clear hb); (try clear hb2); (try clear hk); (try clear hi)) | ((with_reducible refine gate_dst (N := 11) rfl ?_); (try (refine gate_guard (by rfl) ?_; dsimp only)); refine box_event rfl (N := 11) rfl (cs := #[.int .i64 0, .int .i64 0, .int .i64 0]) (t := 60) BX ?_; intro gb121 hg w22 hbox hb; replace HO104 := am (Kd.R_below (KR HO104) hb); replace HO106 := am (Kd.R_below (KR HO106) hb); have BK121 := am (hbox); have GW121 := am (GH2 HB GE111.out GE116.out hg); have GE121 := GW121; replace HB := am (below_step (K2 HB GE111.out GE116.out) hb); have NB111_121 := am (NL BK111 hg); have NB121_111 := am (NG BK111 hg); replace BK111 := am (BB BK111 hb); have NB116_121 := am (NL BK116 hg); have NB121_116 := am (NG BK116 hg); replace BK116 := am (BB BK116 hb); clear hb hbox hg; have hnb23 := NB121_111.out; have hnc23 := NB111_121.out; have hnb24 := NB121_116.out; have hnc24 := NB116_121.out; obtain ⟨hcz25_0, hcz25_1, hcz25_2, hfz25_0⟩ := y3 w22 BK121.out))
    (try simp only [Act.put, List.setIfInBounds_toArray, List.set_cons_zero, List.set_cons_succ])
    go_cut [77] (fun v77 wc => ∃ (kq : Nat) (x77_9 : Bool), v77 = .bool x77_9 ∧ Aside0 (laws_FnRulesDiffer.j1 kq l1 t101 t102 t110 t115 t120 x77_9 t107 t108 t109 t112 t113 t114 t117 t118 t119 = some r) ∧ Aside0 (kq ≤ kj2) ∧ Aside0 (Kd.R k71 71 wc w.heap.size (fun k_ => some k_ ≠ ((.slice Ao13 t102.length co13) : Value).ownBlock) (.slice Ao12 t101.length co12) t101) ∧ Aside0 (Kd.R k71 71 wc w.heap.size (fun k_ => some k_ ≠ ((.slice Ao12 t101.length co12) : Value).ownBlock) (.slice Ao13 t102.length co13) t102) ∧ Aside0 (wc.heap[gb111]? = some (.cells #[.int .i64 t107, .int .i64 t108, .int .i64 t109] 60 (0, 0))) ∧ Aside0 (wc.heap[gb116]? = some (.cells #[.int .i64 t112, .int .i64 t113, .int .i64 t114] 60 (0, 0))) ∧ Aside0 (wc.heap[gb121]? = some (.cells #[.int .i64 t117, .int .i64 t118, .int .i64 t119] 60 (0, 0))) ∧ Aside0 (Below w.heap.size w wc))
    case first =>
     have H := HC10.out
     clear HC10
     by_cases c26 : (!(t107 == t112) || (!(t108 == t113) || (!(t109 == t114)))) = true
     ·rw [if_pos c26] at H
      have c26b0 : (!(t107 == t112) || (!(t108 == t113) || (!(t109 == t114)))) = true := c26
      clear c26
      (first | rw [c26b0] | (simp only [i64_w, i32_w]; rw [c26b0]) | skip)
      have H' := Aside0.mk H
      clear H
      have hnb27 := NB111_116.out
      have hnc27 := NB116_111.out
      have hnb28 := NB111_121.out
      have hnc28 := NB121_111.out
      obtain ⟨hcz29_0, hcz29_1, hcz29_2, hfz29_0⟩ := y3 w22 BK111.out
      have hnb30 := NB116_121.out
      have hnc30 := NB121_116.out
      obtain ⟨hcz31_0, hcz31_1, hcz31_2, hfz31_0⟩ := y3 w22 BK116.out
      go_wp2
      go_meet
      case rel => exact ⟨_, (true), (by first | rfl | (simp; done) | (simp [*]; done)), H', ⟨by have := HJ2.out; first | omega | exact Nat.le_refl _⟩, ⟨by (with_reducible repeat (first | apply Kd.R_alloc | apply Kd.R_drewN | apply Kd.R_drew)); exact RF HO104.out BK121.out⟩, ⟨by (with_reducible repeat (first | apply Kd.R_alloc | apply Kd.R_drewN | apply Kd.R_drew)); exact RF HO106.out BK121.out⟩, ⟨by (with_reducible repeat (first | refine blk_drewN ?_ _ | refine blk_drew ?_ | refine blk_alloc ?_ _)); refine blk_far ?_ NB111_121.out _; (with_reducible repeat (first | refine blk_drewN ?_ _ | refine blk_drew ?_ | refine blk_alloc ?_ _)); refine blk_far ?_ NB111_121.out _; (with_reducible repeat (first | refine blk_drewN ?_ _ | refine blk_drew ?_ | refine blk_alloc ?_ _)); refine blk_far ?_ NB111_121.out _; (with_reducible repeat (first | refine blk_drewN ?_ _ | refine blk_drew ?_ | refine blk_alloc ?_ _)); exact BK111.out⟩, ⟨by (with_reducible repeat (first | refine blk_drewN ?_ _ | refine blk_drew ?_ | refine blk_alloc ?_ _)); refine blk_far ?_ NB116_121.out _; (with_reducible repeat (first | refine blk_drewN ?_ _ | refine blk_drew ?_ | refine blk_alloc ?_ _)); refine blk_far ?_ NB116_121.out _; (with_reducible repeat (first | refine blk_drewN ?_ _ | refine blk_drew ?_ | refine blk_alloc ?_ _)); refine blk_far ?_ NB116_121.out _; (with_reducible repeat (first | refine blk_drewN ?_ _ | refine blk_drew ?_ | refine blk_alloc ?_ _)); exact BK116.out⟩, ⟨by (with_reducible repeat (first | refine blk_drewN ?_ _ | refine blk_drew ?_ | refine blk_alloc ?_ _)); refine blk_put (cs := #[.int .i64 t117, .int .i64 t118, .int .i64 0]) ?_ 2 _ rfl; (with_reducible repeat (first | refine blk_drewN ?_ _ | refine blk_drew ?_ | refine blk_alloc ?_ _)); refine blk_put (cs := #[.int .i64 t117, .int .i64 0, .int .i64 0]) ?_ 1 _ rfl; (with_reducible repeat (first | refine blk_drewN ?_ _ | refine blk_drew ?_ | refine blk_alloc ?_ _)); refine blk_put (cs := #[.int .i64 0, .int .i64 0, .int .i64 0]) ?_ 0 _ rfl; (with_reducible repeat (first | refine blk_drewN ?_ _ | refine blk_drew ?_ | refine blk_alloc ?_ _)); exact BK121.out⟩, ⟨K3 HB GE111.out GE116.out GE121.out⟩⟩
     ·rw [if_neg c26] at H
      have c26b0 : (!(t107 == t112) || (!(t108 == t113) || (!(t109 == t114)))) = false := by simpa using c26
      clear c26
      (first | rw [c26b0] | (simp only [i64_w, i32_w]; rw [c26b0]) | skip)
      by_cases c32 : (t110 != t115) = true
      ·rw [if_pos c32] at H
       have c32b0 : (t110 != t115) = true := c32
       (try (have c32b1 : decide (t110 = t115) = false := by simpa using c32))
       (try (have c32b2 : (t110 == t115) = false := by simpa using c32))
       (try (have c32b3 : ¬ (t110 = t115) := by simpa using c32))
       clear c32
       have H' := Aside0.mk H
       clear H
       have hnb33 := NB111_116.out
       have hnc33 := NB116_111.out
       have hnb34 := NB111_121.out
       have hnc34 := NB121_111.out
       obtain ⟨hcz35_0, hcz35_1, hcz35_2, hfz35_0⟩ := y3 w22 BK111.out
       have hnb36 := NB116_121.out
       have hnc36 := NB121_116.out
       obtain ⟨hcz37_0, hcz37_1, hcz37_2, hfz37_0⟩ := y3 w22 BK116.out
       go_wp2
       go_meet
       case rel => exact ⟨_, (true), (by first | rfl | (simp; done) | (simp [*]; done)), H', ⟨by have := HJ2.out; first | omega | exact Nat.le_refl _⟩, ⟨by (with_reducible repeat (first | apply Kd.R_alloc | apply Kd.R_drewN | apply Kd.R_drew)); exact RF HO104.out BK121.out⟩, ⟨by (with_reducible repeat (first | apply Kd.R_alloc | apply Kd.R_drewN | apply Kd.R_drew)); exact RF HO106.out BK121.out⟩, ⟨by (with_reducible repeat (first | refine blk_drewN ?_ _ | refine blk_drew ?_ | refine blk_alloc ?_ _)); refine blk_far ?_ NB111_121.out _; (with_reducible repeat (first | refine blk_drewN ?_ _ | refine blk_drew ?_ | refine blk_alloc ?_ _)); refine blk_far ?_ NB111_121.out _; (with_reducible repeat (first | refine blk_drewN ?_ _ | refine blk_drew ?_ | refine blk_alloc ?_ _)); refine blk_far ?_ NB111_121.out _; (with_reducible repeat (first | refine blk_drewN ?_ _ | refine blk_drew ?_ | refine blk_alloc ?_ _)); exact BK111.out⟩, ⟨by (with_reducible repeat (first | refine blk_drewN ?_ _ | refine blk_drew ?_ | refine blk_alloc ?_ _)); refine blk_far ?_ NB116_121.out _; (with_reducible repeat (first | refine blk_drewN ?_ _ | refine blk_drew ?_ | refine blk_alloc ?_ _)); refine blk_far ?_ NB116_121.out _; (with_reducible repeat (first | refine blk_drewN ?_ _ | refine blk_drew ?_ | refine blk_alloc ?_ _)); refine blk_far ?_ NB116_121.out _; (with_reducible repeat (first | refine blk_drewN ?_ _ | refine blk_drew ?_ | refine blk_alloc ?_ _)); exact BK116.out⟩, ⟨by (with_reducible repeat (first | refine blk_drewN ?_ _ | refine blk_drew ?_ | refine blk_alloc ?_ _)); refine blk_put (cs := #[.int .i64 t117, .int .i64 t118, .int .i64 0]) ?_ 2 _ rfl; (with_reducible repeat (first | refine blk_drewN ?_ _ | refine blk_drew ?_ | refine blk_alloc ?_ _)); refine blk_put (cs := #[.int .i64 t117, .int .i64 0, .int .i64 0]) ?_ 1 _ rfl; (with_reducible repeat (first | refine blk_drewN ?_ _ | refine blk_drew ?_ | refine blk_alloc ?_ _)); refine blk_put (cs := #[.int .i64 0, .int .i64 0, .int .i64 0]) ?_ 0 _ rfl; (with_reducible repeat (first | refine blk_drewN ?_ _ | refine blk_drew ?_ | refine blk_alloc ?_ _)); exact BK121.out⟩, ⟨K3 HB GE111.out GE116.out GE121.out⟩⟩
      ·rw [if_neg c32] at H
       have c32b0 : (t110 != t115) = false := by simpa using c32
       (try (have c32b1 : decide (t110 = t115) = true := by simpa using c32))
       (try (have c32b2 : (t110 == t115) = true := by simpa using c32))
       clear c32
       by_cases c38 : (!(t117 == t107) || (!(t118 == t108) || (!(t119 == t109)))) = true
       ·rw [if_pos c38] at H
        have c38b0 : (!(t117 == t107) || (!(t118 == t108) || (!(t119 == t109)))) = true := c38
        clear c38
        have H' := Aside0.mk H
        clear H
        have hnb39 := NB111_116.out
        have hnc39 := NB116_111.out
        have hnb40 := NB111_121.out
        have hnc40 := NB121_111.out
        obtain ⟨hcz41_0, hcz41_1, hcz41_2, hfz41_0⟩ := y3 w22 BK111.out
        have hnb42 := NB116_121.out
        have hnc42 := NB121_116.out
        obtain ⟨hcz43_0, hcz43_1, hcz43_2, hfz43_0⟩ := y3 w22 BK116.out
        obtain ⟨hcz44_0, hcz44_1, hcz44_2, hfz44_0⟩ := y3 w22 BK121.out
        go_wp2
        go_meet
        case rel => exact ⟨_, (true), (by first | rfl | (simp; done) | (simp [*]; done)), H', ⟨by have := HJ2.out; first | omega | exact Nat.le_refl _⟩, ⟨by (with_reducible repeat (first | apply Kd.R_alloc | apply Kd.R_drewN | apply Kd.R_drew)); exact RF HO104.out BK121.out⟩, ⟨by (with_reducible repeat (first | apply Kd.R_alloc | apply Kd.R_drewN | apply Kd.R_drew)); exact RF HO106.out BK121.out⟩, ⟨by (with_reducible repeat (first | refine blk_drewN ?_ _ | refine blk_drew ?_ | refine blk_alloc ?_ _)); refine blk_far ?_ NB111_121.out _; (with_reducible repeat (first | refine blk_drewN ?_ _ | refine blk_drew ?_ | refine blk_alloc ?_ _)); refine blk_far ?_ NB111_121.out _; (with_reducible repeat (first | refine blk_drewN ?_ _ | refine blk_drew ?_ | refine blk_alloc ?_ _)); refine blk_far ?_ NB111_121.out _; (with_reducible repeat (first | refine blk_drewN ?_ _ | refine blk_drew ?_ | refine blk_alloc ?_ _)); exact BK111.out⟩, ⟨by (with_reducible repeat (first | refine blk_drewN ?_ _ | refine blk_drew ?_ | refine blk_alloc ?_ _)); refine blk_far ?_ NB116_121.out _; (with_reducible repeat (first | refine blk_drewN ?_ _ | refine blk_drew ?_ | refine blk_alloc ?_ _)); refine blk_far ?_ NB116_121.out _; (with_reducible repeat (first | refine blk_drewN ?_ _ | refine blk_drew ?_ | refine blk_alloc ?_ _)); refine blk_far ?_ NB116_121.out _; (with_reducible repeat (first | refine blk_drewN ?_ _ | refine blk_drew ?_ | refine blk_alloc ?_ _)); exact BK116.out⟩, ⟨by (with_reducible repeat (first | refine blk_drewN ?_ _ | refine blk_drew ?_ | refine blk_alloc ?_ _)); refine blk_put (cs := #[.int .i64 t117, .int .i64 t118, .int .i64 0]) ?_ 2 _ rfl; (with_reducible repeat (first | refine blk_drewN ?_ _ | refine blk_drew ?_ | refine blk_alloc ?_ _)); refine blk_put (cs := #[.int .i64 t117, .int .i64 0, .int .i64 0]) ?_ 1 _ rfl; (with_reducible repeat (first | refine blk_drewN ?_ _ | refine blk_drew ?_ | refine blk_alloc ?_ _)); refine blk_put (cs := #[.int .i64 0, .int .i64 0, .int .i64 0]) ?_ 0 _ rfl; (with_reducible repeat (first | refine blk_drewN ?_ _ | refine blk_drew ?_ | refine blk_alloc ?_ _)); exact BK121.out⟩, ⟨K3 HB GE111.out GE116.out GE121.out⟩⟩
       ·rw [if_neg c38] at H
        have c38b0 : (!(t117 == t107) || (!(t118 == t108) || (!(t119 == t109)))) = false := by simpa using c38
        clear c38
        by_cases c45 : (t120 != t110) = true
        ·rw [if_pos c45] at H
         have c45b0 : (t120 != t110) = true := c45
         (try (have c45b1 : decide (t120 = t110) = false := by simpa using c45))
         (try (have c45b2 : (t120 == t110) = false := by simpa using c45))
         (try (have c45b3 : ¬ (t120 = t110) := by simpa using c45))
         clear c45
         have H' := Aside0.mk H
         clear H
         have hnb46 := NB111_116.out
         have hnc46 := NB116_111.out
         have hnb47 := NB111_121.out
         have hnc47 := NB121_111.out
         obtain ⟨hcz48_0, hcz48_1, hcz48_2, hfz48_0⟩ := y3 w22 BK111.out
         have hnb49 := NB116_121.out
         have hnc49 := NB121_116.out
         obtain ⟨hcz50_0, hcz50_1, hcz50_2, hfz50_0⟩ := y3 w22 BK116.out
         obtain ⟨hcz51_0, hcz51_1, hcz51_2, hfz51_0⟩ := y3 w22 BK121.out
         go_wp2
         go_meet
         case rel => exact ⟨_, (true), (by first | rfl | (simp; done) | (simp [*]; done)), H', ⟨by have := HJ2.out; first | omega | exact Nat.le_refl _⟩, ⟨by (with_reducible repeat (first | apply Kd.R_alloc | apply Kd.R_drewN | apply Kd.R_drew)); exact RF HO104.out BK121.out⟩, ⟨by (with_reducible repeat (first | apply Kd.R_alloc | apply Kd.R_drewN | apply Kd.R_drew)); exact RF HO106.out BK121.out⟩, ⟨by (with_reducible repeat (first | refine blk_drewN ?_ _ | refine blk_drew ?_ | refine blk_alloc ?_ _)); refine blk_far ?_ NB111_121.out _; (with_reducible repeat (first | refine blk_drewN ?_ _ | refine blk_drew ?_ | refine blk_alloc ?_ _)); refine blk_far ?_ NB111_121.out _; (with_reducible repeat (first | refine blk_drewN ?_ _ | refine blk_drew ?_ | refine blk_alloc ?_ _)); refine blk_far ?_ NB111_121.out _; (with_reducible repeat (first | refine blk_drewN ?_ _ | refine blk_drew ?_ | refine blk_alloc ?_ _)); exact BK111.out⟩, ⟨by (with_reducible repeat (first | refine blk_drewN ?_ _ | refine blk_drew ?_ | refine blk_alloc ?_ _)); refine blk_far ?_ NB116_121.out _; (with_reducible repeat (first | refine blk_drewN ?_ _ | refine blk_drew ?_ | refine blk_alloc ?_ _)); refine blk_far ?_ NB116_121.out _; (with_reducible repeat (first | refine blk_drewN ?_ _ | refine blk_drew ?_ | refine blk_alloc ?_ _)); refine blk_far ?_ NB116_121.out _; (with_reducible repeat (first | refine blk_drewN ?_ _ | refine blk_drew ?_ | refine blk_alloc ?_ _)); exact BK116.out⟩, ⟨by (with_reducible repeat (first | refine blk_drewN ?_ _ | refine blk_drew ?_ | refine blk_alloc ?_ _)); refine blk_put (cs := #[.int .i64 t117, .int .i64 t118, .int .i64 0]) ?_ 2 _ rfl; (with_reducible repeat (first | refine blk_drewN ?_ _ | refine blk_drew ?_ | refine blk_alloc ?_ _)); refine blk_put (cs := #[.int .i64 t117, .int .i64 0, .int .i64 0]) ?_ 1 _ rfl; (with_reducible repeat (first | refine blk_drewN ?_ _ | refine blk_drew ?_ | refine blk_alloc ?_ _)); refine blk_put (cs := #[.int .i64 0, .int .i64 0, .int .i64 0]) ?_ 0 _ rfl; (with_reducible repeat (first | refine blk_drewN ?_ _ | refine blk_drew ?_ | refine blk_alloc ?_ _)); exact BK121.out⟩, ⟨K3 HB GE111.out GE116.out GE121.out⟩⟩
        ·rw [if_neg c45] at H
         have c45b0 : (t120 != t110) = false := by simpa using c45
         (try (have c45b1 : decide (t120 = t110) = true := by simpa using c45))
         (try (have c45b2 : (t120 == t110) = true := by simpa using c45))
         clear c45
         replace H := Option.bind_eq_some_iff.mp H
         obtain ⟨t122, A520, H⟩ := H
         replace H : (if t122 = true then ((spec_RulesOk.f kj2 t102).bind fun t123 => (laws_FnRulesDiffer.j1 kj2 l1 t101 t102 t110 t115 t120 (!t123) t107 t108 t109 t112 t113 t114 t117 t118 t119)) else (laws_FnRulesDiffer.j1 kj2 l1 t101 t102 t110 t115 t120 true t107 t108 t109 t112 t113 t114 t117 t118 t119)) = some r := H
         have A52 := Aside0.mk A520
         clear A520
         by_cases c53 : t122 = true
         ·subst c53
          have H1 : ((spec_RulesOk.f kj2 t102).bind fun t123 => (laws_FnRulesDiffer.j1 kj2 l1 t101 t102 t110 t115 t120 (!t123) t107 t108 t109 t112 t113 t114 t117 t118 t119)) = some r := by rw [if_pos rfl] at H; exact H
          clear H
          have H := H1
          clear H1
          replace H := Option.bind_eq_some_iff.mp H
          obtain ⟨t123, A540, H⟩ := H
          replace H : (laws_FnRulesDiffer.j1 kj2 l1 t101 t102 t110 t115 t120 (!t123) t107 t108 t109 t112 t113 t114 t117 t118 t119) = some r := H
          have A54 := Aside0.mk A540
          clear A540
          have H' := Aside0.mk H
          clear H
          have hnb55 := NB111_116.out
          have hnc55 := NB116_111.out
          have hnb56 := NB111_121.out
          have hnc56 := NB121_111.out
          obtain ⟨hcz57_0, hcz57_1, hcz57_2, hfz57_0⟩ := y3 w22 BK111.out
          have hnb58 := NB116_121.out
          have hnc58 := NB121_116.out
          obtain ⟨hcz59_0, hcz59_1, hcz59_2, hfz59_0⟩ := y3 w22 BK116.out
          obtain ⟨hcz60_0, hcz60_1, hcz60_2, hfz60_0⟩ := y3 w22 BK121.out
          go_wp2_with (first | (go_at_call 44; (with_reducible refine (spec_RulesOk.calls kj2 _ _ t101 true _ ?side1 ?side2 A52.out).mono ?_); (case side1 => refine (Kd.R_reads' (e := 71) (base := w.heap.size) (ok := fun k_ => some k_ ≠ (.slice Ao13 t102.length co13 : Value).ownBlock) (n := t101.length) (c := co12) ?_).2.2; exact (by (with_reducible repeat (first | apply Kd.R_alloc | apply Kd.R_drewN | apply Kd.R_drew)); exact (RF HO104.out BK121.out))); (case side2 => exact (Kd.R_reads' HO104.out).2.1); clear A52; rintro e w61 ⟨rfl, hb⟩; replace HO104 := am (Kd.R_below (by (with_reducible repeat (first | apply Kd.R_alloc | apply Kd.R_drewN | apply Kd.R_drew)); exact (RF HO104.out BK121.out)) hb); replace HO106 := am (Kd.R_below (by (with_reducible repeat (first | apply Kd.R_alloc | apply Kd.R_drewN | apply Kd.R_drew)); exact (RF HO106.out BK121.out)) hb); replace BK111 := am (blk_below (g := gb111) (o := .cells #[.int .i64 t107, .int .i64 t108, .int .i64 t109] 60 (0, 0)) (by (with_reducible repeat (first | refine blk_drewN ?_ _ | refine blk_drew ?_ | refine blk_alloc ?_ _)); refine blk_far ?_ NB111_121.out _; (with_reducible repeat (first | refine blk_drewN ?_ _ | refine blk_drew ?_ | refine blk_alloc ?_ _)); refine blk_far ?_ NB111_121.out _; (with_reducible repeat (first | refine blk_drewN ?_ _ | refine blk_drew ?_ | refine blk_alloc ?_ _)); refine blk_far ?_ NB111_121.out _; (with_reducible repeat (first | refine blk_drewN ?_ _ | refine blk_drew ?_ | refine blk_alloc ?_ _)); exact BK111.out) hb); replace BK116 := am (blk_below (g := gb116) (o := .cells #[.int .i64 t112, .int .i64 t113, .int .i64 t114] 60 (0, 0)) (by (with_reducible repeat (first | refine blk_drewN ?_ _ | refine blk_drew ?_ | refine blk_alloc ?_ _)); refine blk_far ?_ NB116_121.out _; (with_reducible repeat (first | refine blk_drewN ?_ _ | refine blk_drew ?_ | refine blk_alloc ?_ _)); refine blk_far ?_ NB116_121.out _; (with_reducible repeat (first | refine blk_drewN ?_ _ | refine blk_drew ?_ | refine blk_alloc ?_ _)); refine blk_far ?_ NB116_121.out _; (with_reducible repeat (first | refine blk_drewN ?_ _ | refine blk_drew ?_ | refine blk_alloc ?_ _)); exact BK116.out) hb); replace BK121 := am (blk_below (g := gb121) (o := .cells #[.int .i64 t117, .int .i64 t118, .int .i64 t119] 60 (0, 0)) (by (with_reducible repeat (first | refine blk_drewN ?_ _ | refine blk_drew ?_ | refine blk_alloc ?_ _)); refine blk_put (cs := #[.int .i64 t117, .int .i64 t118, .int .i64 0]) ?_ 2 _ rfl; (with_reducible repeat (first | refine blk_drewN ?_ _ | refine blk_drew ?_ | refine blk_alloc ?_ _)); refine blk_put (cs := #[.int .i64 t117, .int .i64 0, .int .i64 0]) ?_ 1 _ rfl; (with_reducible repeat (first | refine blk_drewN ?_ _ | refine blk_drew ?_ | refine blk_alloc ?_ _)); refine blk_put (cs := #[.int .i64 0, .int .i64 0, .int .i64 0]) ?_ 0 _ rfl; (with_reducible repeat (first | refine blk_drewN ?_ _ | refine blk_drew ?_ | refine blk_alloc ?_ _)); exact BK121.out) hb); replace HB := am (below_step (K3 HB GE111.out GE116.out GE121.out) hb); (try clear hb); (try clear hb2); (try clear hk); (try clear hi)) | (go_at_call 44; (with_reducible refine (spec_RulesOk.calls kj2 _ _ t102 t123 _ ?side1 ?side2 A54.out).mono ?_); (case side1 => exact KC (Kd.R_reads' HO106.out).2.2); (case side2 => exact (Kd.R_reads' HO106.out).2.1); rintro e w62 ⟨rfl, hb⟩; replace HO104 := am (Kd.R_below (KR HO104) hb); replace HO106 := am (Kd.R_below (KR HO106) hb); replace BK111 := am (BB BK111 hb); replace BK116 := am (BB BK116 hb); replace BK121 := am (BB BK121 hb); replace HB := am (below_step (K3 HB GE111.out GE116.out GE121.out) hb); (try clear hb)))
          go_meet
          case rel => exact ⟨_, (!t123), (by first | rfl | (simp; done) | (simp [*]; done)), H', ⟨by have := HJ2.out; first | omega | exact Nat.le_refl _⟩, ⟨KR HO104⟩, ⟨KR HO106⟩, ⟨KB BK111⟩, ⟨KB BK116⟩, ⟨KB BK121⟩, ⟨K3 HB GE111.out GE116.out GE121.out⟩⟩
         ·replace c53 := Bool.eq_false_iff.mpr c53
          subst c53
          have H1 : (laws_FnRulesDiffer.j1 kj2 l1 t101 t102 t110 t115 t120 true t107 t108 t109 t112 t113 t114 t117 t118 t119) = some r := by rw [if_neg (show ¬ (false = true) by decide)] at H; exact H
          clear H
          have H := H1
          clear H1
          have H' := Aside0.mk H
          clear H
          have hnb63 := NB111_116.out
          have hnc63 := NB116_111.out
          have hnb64 := NB111_121.out
          have hnc64 := NB121_111.out
          obtain ⟨hcz65_0, hcz65_1, hcz65_2, hfz65_0⟩ := y3 w22 BK111.out
          have hnb66 := NB116_121.out
          have hnc66 := NB121_116.out
          obtain ⟨hcz67_0, hcz67_1, hcz67_2, hfz67_0⟩ := y3 w22 BK116.out
          obtain ⟨hcz68_0, hcz68_1, hcz68_2, hfz68_0⟩ := y3 w22 BK121.out
          go_wp2_with (first | (go_at_call 44; (with_reducible refine (spec_RulesOk.calls kj2 _ _ t101 false _ ?side1 ?side2 A52.out).mono ?_); (case side1 => refine (Kd.R_reads' (e := 71) (base := w.heap.size) (ok := fun k_ => some k_ ≠ (.slice Ao13 t102.length co13 : Value).ownBlock) (n := t101.length) (c := co12) ?_).2.2; exact (by (with_reducible repeat (first | apply Kd.R_alloc | apply Kd.R_drewN | apply Kd.R_drew)); exact (RF HO104.out BK121.out))); (case side2 => exact (Kd.R_reads' HO104.out).2.1); rintro e w69 ⟨rfl, hb⟩; replace HO104 := am (Kd.R_below (by (with_reducible repeat (first | apply Kd.R_alloc | apply Kd.R_drewN | apply Kd.R_drew)); exact (RF HO104.out BK121.out)) hb); replace HO106 := am (Kd.R_below (by (with_reducible repeat (first | apply Kd.R_alloc | apply Kd.R_drewN | apply Kd.R_drew)); exact (RF HO106.out BK121.out)) hb); replace BK111 := am (blk_below (g := gb111) (o := .cells #[.int .i64 t107, .int .i64 t108, .int .i64 t109] 60 (0, 0)) (by (with_reducible repeat (first | refine blk_drewN ?_ _ | refine blk_drew ?_ | refine blk_alloc ?_ _)); refine blk_far ?_ NB111_121.out _; (with_reducible repeat (first | refine blk_drewN ?_ _ | refine blk_drew ?_ | refine blk_alloc ?_ _)); refine blk_far ?_ NB111_121.out _; (with_reducible repeat (first | refine blk_drewN ?_ _ | refine blk_drew ?_ | refine blk_alloc ?_ _)); refine blk_far ?_ NB111_121.out _; (with_reducible repeat (first | refine blk_drewN ?_ _ | refine blk_drew ?_ | refine blk_alloc ?_ _)); exact BK111.out) hb); replace BK116 := am (blk_below (g := gb116) (o := .cells #[.int .i64 t112, .int .i64 t113, .int .i64 t114] 60 (0, 0)) (by (with_reducible repeat (first | refine blk_drewN ?_ _ | refine blk_drew ?_ | refine blk_alloc ?_ _)); refine blk_far ?_ NB116_121.out _; (with_reducible repeat (first | refine blk_drewN ?_ _ | refine blk_drew ?_ | refine blk_alloc ?_ _)); refine blk_far ?_ NB116_121.out _; (with_reducible repeat (first | refine blk_drewN ?_ _ | refine blk_drew ?_ | refine blk_alloc ?_ _)); refine blk_far ?_ NB116_121.out _; (with_reducible repeat (first | refine blk_drewN ?_ _ | refine blk_drew ?_ | refine blk_alloc ?_ _)); exact BK116.out) hb); replace BK121 := am (blk_below (g := gb121) (o := .cells #[.int .i64 t117, .int .i64 t118, .int .i64 t119] 60 (0, 0)) (by (with_reducible repeat (first | refine blk_drewN ?_ _ | refine blk_drew ?_ | refine blk_alloc ?_ _)); refine blk_put (cs := #[.int .i64 t117, .int .i64 t118, .int .i64 0]) ?_ 2 _ rfl; (with_reducible repeat (first | refine blk_drewN ?_ _ | refine blk_drew ?_ | refine blk_alloc ?_ _)); refine blk_put (cs := #[.int .i64 t117, .int .i64 0, .int .i64 0]) ?_ 1 _ rfl; (with_reducible repeat (first | refine blk_drewN ?_ _ | refine blk_drew ?_ | refine blk_alloc ?_ _)); refine blk_put (cs := #[.int .i64 0, .int .i64 0, .int .i64 0]) ?_ 0 _ rfl; (with_reducible repeat (first | refine blk_drewN ?_ _ | refine blk_drew ?_ | refine blk_alloc ?_ _)); exact BK121.out) hb); replace HB := am (below_step (K3 HB GE111.out GE116.out GE121.out) hb); (try clear hb); (try clear hb2); (try clear hk); (try clear hi)))
          go_meet
          case rel => exact ⟨_, (true), (by first | rfl | (simp; done) | (simp [*]; done)), H', ⟨by have := HJ2.out; first | omega | exact Nat.le_refl _⟩, ⟨KR HO104⟩, ⟨KR HO106⟩, ⟨KB BK111⟩, ⟨KB BK116⟩, ⟨KB BK121⟩, ⟨K3 HB GE111.out GE116.out GE121.out⟩⟩
    case rest =>
     clear HC10
     try clear c1
     try clear c2
     try clear p2
     try clear c3
     try clear c4
     try clear c4b0
     try clear c4b1
     try clear c5
     try clear c6
     try clear c11
     try clear c19
     try clear c23
     try clear c24
     try clear c26
     try clear c26b0
     try clear c27
     try clear c28
     try clear c30
     try clear c32
     try clear c32b0
     try clear c32b1
     try clear c32b2
     try clear c33
     try clear c34
     try clear c36
     try clear c38
     try clear c38b0
     try clear c39
     try clear c40
     try clear c42
     try clear c45
     try clear c45b0
     try clear c45b1
     try clear c45b2
     try clear c46
     try clear c47
     try clear c49
     try clear c50
     try clear c53
     try clear c55
     try clear c56
     try clear c58
     try clear c63
     try clear c64
     try clear c66
     try clear hcz16_0 hcz16_1 hcz16_2 hfz16_0
     try clear hcz20_0 hcz20_1 hcz20_2 hfz20_0
     try clear hcz25_0 hcz25_1 hcz25_2 hfz25_0
     try clear hcz29_0 hcz29_1 hcz29_2 hfz29_0
     try clear hcz31_0 hcz31_1 hcz31_2 hfz31_0
     try clear hcz35_0 hcz35_1 hcz35_2 hfz35_0
     try clear hcz37_0 hcz37_1 hcz37_2 hfz37_0
     try clear hcz41_0 hcz41_1 hcz41_2 hfz41_0
     try clear hcz43_0 hcz43_1 hcz43_2 hfz43_0
     try clear hcz44_0 hcz44_1 hcz44_2 hfz44_0
     try clear hcz48_0 hcz48_1 hcz48_2 hfz48_0
     try clear hcz50_0 hcz50_1 hcz50_2 hfz50_0
     try clear hcz51_0 hcz51_1 hcz51_2 hfz51_0
     try clear hcz57_0 hcz57_1 hcz57_2 hfz57_0
     try clear hcz59_0 hcz59_1 hcz59_2 hfz59_0
     try clear hcz60_0 hcz60_1 hcz60_2 hfz60_0
     try clear hcz65_0 hcz65_1 hcz65_2 hfz65_0
     try clear hcz67_0 hcz67_1 hcz67_2 hfz67_0
     try clear hcz68_0 hcz68_1 hcz68_2 hfz68_0
     try clear p2
     obtain ⟨kq, x77_9, rfl, HA, HJ9, HO_5, HO_6, BK111, BK116, BK121, HB⟩ := hcut
     cases kq with
     | zero => exact absurd HA.out (by simp [laws_FnRulesDiffer.j1])
     | succ kj9 =>
      have H := HA.out
      clear HA
      simp only [laws_FnRulesDiffer.j1] at H
      by_cases c70 : x77_9 = true
      ·subst c70
       have H1 : (if (t107 == t112 && (t108 == t113 && (t109 == t114))) = true then (if (t110 == t115) = true then (if (t117 == t107 && (t118 == t108 && (t119 == t109))) = true then (some (t120 == t110)) else (some false)) else (some false)) else (some false)) = some r := by rw [if_pos rfl] at H; exact H
       clear H
       have H := H1
       clear H1
       by_cases c71 : (t107 == t112 && (t108 == t113 && (t109 == t114))) = true
       ·rw [if_pos c71] at H
        have c71b0 : (t107 == t112 && (t108 == t113 && (t109 == t114))) = true := c71
        (try (have c71b1 : decide (t107 = t112 && (t108 == t113 && (t109 == t114))) = true := by simpa using c71))
        (try (have c71b2 : (t107 == t112 && (t108 == t113 && (t109 == t114))) = true := by simpa using c71))
        clear c71
        by_cases c72 : (t110 == t115) = true
        ·rw [if_pos c72] at H
         have c72b0 : (t110 == t115) = true := c72
         (try (have c72b1 : decide (t110 = t115) = true := by simpa using c72))
         (try (have c72b2 : (t110 == t115) = true := by simpa using c72))
         clear c72
         by_cases c73 : (t117 == t107 && (t118 == t108 && (t119 == t109))) = true
         ·rw [if_pos c73] at H
          have c73b0 : (t117 == t107 && (t118 == t108 && (t119 == t109))) = true := c73
          (try (have c73b1 : decide (t117 = t107 && (t118 == t108 && (t119 == t109))) = true := by simpa using c73))
          (try (have c73b2 : (t117 == t107 && (t118 == t108 && (t119 == t109))) = true := by simpa using c73))
          clear c73
          obtain rfl := Option.some.inj H
          have hnb74 := NB111_116.out
          have hnc74 := NB116_111.out
          have hnb75 := NB111_121.out
          have hnc75 := NB121_111.out
          obtain ⟨hcz76_0, hcz76_1, hcz76_2, hfz76_0⟩ := y3 wc BK111.out
          have hnb77 := NB116_121.out
          have hnc77 := NB121_116.out
          obtain ⟨hcz78_0, hcz78_1, hcz78_2, hfz78_0⟩ := y3 wc BK116.out
          obtain ⟨hcz79_0, hcz79_1, hcz79_2, hfz79_0⟩ := y3 wc BK121.out
          go_wp2
          go_ret
          exact ⟨ER, K3 HB GE111.out GE116.out GE121.out⟩
         ·rw [if_neg c73] at H
          have c73b0 : (t117 == t107 && (t118 == t108 && (t119 == t109))) = false := by simpa using c73
          (try (have c73b1 : decide (t117 = t107 && (t118 == t108 && (t119 == t109))) = false := by simpa using c73))
          (try (have c73b2 : (t117 == t107 && (t118 == t108 && (t119 == t109))) = false := by simpa using c73))
          (try (have c73b3 : ¬ (t117 = t107 && (t118 == t108 && (t119 == t109))) := by simpa using c73))
          clear c73
          exact absurd ((Option.some.inj H).trans HR_.out) (by decide)
        ·rw [if_neg c72] at H
         have c72b0 : (t110 == t115) = false := by simpa using c72
         (try (have c72b1 : decide (t110 = t115) = false := by simpa using c72))
         (try (have c72b2 : (t110 == t115) = false := by simpa using c72))
         (try (have c72b3 : ¬ (t110 = t115) := by simpa using c72))
         clear c72
         exact absurd ((Option.some.inj H).trans HR_.out) (by decide)
       ·rw [if_neg c71] at H
        have c71b0 : (t107 == t112 && (t108 == t113 && (t109 == t114))) = false := by simpa using c71
        (try (have c71b1 : decide (t107 = t112 && (t108 == t113 && (t109 == t114))) = false := by simpa using c71))
        (try (have c71b2 : (t107 == t112 && (t108 == t113 && (t109 == t114))) = false := by simpa using c71))
        (try (have c71b3 : ¬ (t107 = t112 && (t108 == t113 && (t109 == t114))) := by simpa using c71))
        clear c71
        exact absurd ((Option.some.inj H).trans HR_.out) (by decide)
      ·replace c70 := Bool.eq_false_iff.mpr c70
       subst c70
       have H1 : (if t110 = true then (laws_FnRulesDiffer.j2 kj9 t101 t102 t110 t107 t108 t109) else ((spec_DrawRulesFirst.f kj9 l1).bind fun bt124 => (laws_FnRulesDiffer.j2 kj9 t101 t102 t110 bt124.2.1 bt124.2.2.1 bt124.2.2.2))) = some r := by rw [if_neg (show ¬ (false = true) by decide)] at H; exact H
       clear H
       have H := H1
       clear H1
       have HC80 := Aside0.mk H
       clear H
       go_upto_if 97 with (fail)
       go_cut [] (fun wc => ∃ (kq : Nat) (x112000_79 : Int) (x112001_79 : Int) (x112002_79 : Int), Aside0 (laws_FnRulesDiffer.j2 kq t101 t102 t110 x112000_79 x112001_79 x112002_79 = some r) ∧ Aside0 (kq ≤ kj9) ∧ Aside0 (Kd.R k71 71 wc w.heap.size (fun k_ => some k_ ≠ ((.slice Ao13 t102.length co13) : Value).ownBlock) (.slice Ao12 t101.length co12) t101) ∧ Aside0 (Kd.R k71 71 wc w.heap.size (fun k_ => some k_ ≠ ((.slice Ao12 t101.length co12) : Value).ownBlock) (.slice Ao13 t102.length co13) t102) ∧ Aside0 (wc.heap[gb111]? = some (.cells #[.int .i64 x112000_79, .int .i64 x112001_79, .int .i64 x112002_79] 60 (0, 0))) ∧ Aside0 (wc.heap[gb116]? = some (.cells #[.int .i64 t112, .int .i64 t113, .int .i64 t114] 60 (0, 0))) ∧ Aside0 (wc.heap[gb121]? = some (.cells #[.int .i64 t117, .int .i64 t118, .int .i64 t119] 60 (0, 0))) ∧ Aside0 (Below w.heap.size w wc))
       case first =>
        have H := HC80.out
        clear HC80
        by_cases c81 : t110 = true
        ·subst c81
         have H1 : (laws_FnRulesDiffer.j2 kj9 t101 t102 true t107 t108 t109) = some r := by rw [if_pos rfl] at H; exact H
         clear H
         have H := H1
         clear H1
         have H' := Aside0.mk H
         clear H
         go_wp2
         go_meet
         case rel => exact ⟨_, (t107), (t108), (t109), H', ⟨by have := HJ2.out; have := HJ9.out; first | omega | exact Nat.le_refl _⟩, ⟨KR HO_5⟩, ⟨KR HO_6⟩, ⟨KB BK111⟩, ⟨KB BK116⟩, ⟨KB BK121⟩, ⟨K3 HB GE111.out GE116.out GE121.out⟩⟩
        ·replace c81 := Bool.eq_false_iff.mpr c81
         subst c81
         have H1 : ((spec_DrawRulesFirst.f kj9 l1).bind fun bt124 => (laws_FnRulesDiffer.j2 kj9 t101 t102 false bt124.2.1 bt124.2.2.1 bt124.2.2.2)) = some r := by rw [if_neg (show ¬ (false = true) by decide)] at H; exact H
         clear H
         have H := H1
         clear H1
         replace H := Option.bind_eq_some_iff.mp H
         obtain ⟨⟨t124, t127, t128, t129⟩, A820, H⟩ := H
         replace H : (laws_FnRulesDiffer.j2 kj9 t101 t102 false t127 t128 t129) = some r := H
         have A82 := Aside0.mk A820
         clear A820
         have H' := Aside0.mk H
         clear H
         go_wp2_with (first | ((with_reducible refine gate_callee (f := 46) rfl ?_); refine goesL_ (some 100) rfl rfl Try.func46 (by kernel_rfl) rfl #[.slice A1 l1.length c1] rfl MT ?_; (with_reducible refine (spec_DrawRulesFirst.calls kj9 _ _ l1 t124 t127 t128 t129 _ ?side1 ?side2 A82.out).mono ?_); (case side1 => exact KD HR1 HB); (case side2 => exact HC1.out); rintro e w83 ⟨v125, rfl, ho0, hb⟩; refine ⟨_, rfl, ?_⟩; have HO126 := am (Kd.R_lower (Kd.R_new' (Kd.R_new' ho0 (Kd.R_lt (KR HO_5))) (Kd.R_lt (KR HO_6))) (below_size (K3 HB GE111.out GE116.out GE121.out))); replace HO_5 := am (Kd.R_elder' (KR HO_5) (Kd.R_base ho0) hb); replace HO_6 := am (Kd.R_elder' (KR HO_6) (Kd.R_base ho0) hb); replace BK111 := am (BB BK111 hb); replace BK116 := am (BB BK116 hb); replace BK121 := am (BB BK121 hb); replace HB := am (below_step (K3 HB GE111.out GE116.out GE121.out) hb); (try clear hb); (try clear ho0); have hnb84 := NB111_116.out; have hnc84 := NB116_111.out; have hnb85 := NB111_121.out; have hnc85 := NB121_111.out; obtain ⟨hcz86_0, hcz86_1, hcz86_2, hfz86_0⟩ := y3 w83 BK111.out))
         go_meet
         case rel => exact ⟨_, (t127), (t128), (t129), H', ⟨by have := HJ2.out; have := HJ9.out; first | omega | exact Nat.le_refl _⟩, ⟨by (with_reducible repeat (first | apply Kd.R_alloc | apply Kd.R_drewN | apply Kd.R_drew)); exact Kd.R_mono (Kd.R_far (p := ⟨gb111, 2, none⟩) (Kd.R_far (p := ⟨gb111, 1, none⟩) (Kd.R_far (p := ⟨gb111, 0, none⟩) (Kd.R_types HO_5.out BK111.out (by decide)) (fun _ hk => hk.2) (.int .i64 t127)) (fun _ hk => hk.2) (.int .i64 t128)) (fun _ hk => hk.2) (.int .i64 t129)) (fun _ hk => hk.1.1)⟩, ⟨by (with_reducible repeat (first | apply Kd.R_alloc | apply Kd.R_drewN | apply Kd.R_drew)); exact Kd.R_mono (Kd.R_far (p := ⟨gb111, 2, none⟩) (Kd.R_far (p := ⟨gb111, 1, none⟩) (Kd.R_far (p := ⟨gb111, 0, none⟩) (Kd.R_types HO_6.out BK111.out (by decide)) (fun _ hk => hk.2) (.int .i64 t127)) (fun _ hk => hk.2) (.int .i64 t128)) (fun _ hk => hk.2) (.int .i64 t129)) (fun _ hk => hk.1.1)⟩, ⟨by (with_reducible repeat (first | refine blk_drewN ?_ _ | refine blk_drew ?_ | refine blk_alloc ?_ _)); refine blk_put (cs := #[.int .i64 t127, .int .i64 t128, .int .i64 t109]) ?_ 2 _ rfl; (with_reducible repeat (first | refine blk_drewN ?_ _ | refine blk_drew ?_ | refine blk_alloc ?_ _)); refine blk_put (cs := #[.int .i64 t127, .int .i64 t108, .int .i64 t109]) ?_ 1 _ rfl; (with_reducible repeat (first | refine blk_drewN ?_ _ | refine blk_drew ?_ | refine blk_alloc ?_ _)); refine blk_put (cs := #[.int .i64 t107, .int .i64 t108, .int .i64 t109]) ?_ 0 _ rfl; (with_reducible repeat (first | refine blk_drewN ?_ _ | refine blk_drew ?_ | refine blk_alloc ?_ _)); exact BK111.out⟩, ⟨by (with_reducible repeat (first | refine blk_drewN ?_ _ | refine blk_drew ?_ | refine blk_alloc ?_ _)); refine blk_far ?_ NB116_111.out _; (with_reducible repeat (first | refine blk_drewN ?_ _ | refine blk_drew ?_ | refine blk_alloc ?_ _)); refine blk_far ?_ NB116_111.out _; (with_reducible repeat (first | refine blk_drewN ?_ _ | refine blk_drew ?_ | refine blk_alloc ?_ _)); refine blk_far ?_ NB116_111.out _; (with_reducible repeat (first | refine blk_drewN ?_ _ | refine blk_drew ?_ | refine blk_alloc ?_ _)); exact BK116.out⟩, ⟨by (with_reducible repeat (first | refine blk_drewN ?_ _ | refine blk_drew ?_ | refine blk_alloc ?_ _)); refine blk_far ?_ NB121_111.out _; (with_reducible repeat (first | refine blk_drewN ?_ _ | refine blk_drew ?_ | refine blk_alloc ?_ _)); refine blk_far ?_ NB121_111.out _; (with_reducible repeat (first | refine blk_drewN ?_ _ | refine blk_drew ?_ | refine blk_alloc ?_ _)); refine blk_far ?_ NB121_111.out _; (with_reducible repeat (first | refine blk_drewN ?_ _ | refine blk_drew ?_ | refine blk_alloc ?_ _)); exact BK121.out⟩, ⟨K3 HB GE111.out GE116.out GE121.out⟩⟩
       case rest =>
        clear HC80
        try clear c1
        try clear c2
        try clear p2
        try clear c3
        try clear c4
        try clear c4b0
        try clear c4b1
        try clear c5
        try clear c6
        try clear c7
        try clear c8
        try clear c11
        try clear c19
        try clear c23
        try clear c24
        try clear c26
        try clear c26b0
        try clear c27
        try clear c28
        try clear c30
        try clear c32
        try clear c32b0
        try clear c32b1
        try clear c32b2
        try clear c33
        try clear c34
        try clear c36
        try clear c38
        try clear c38b0
        try clear c39
        try clear c40
        try clear c42
        try clear c45
        try clear c45b0
        try clear c45b1
        try clear c45b2
        try clear c46
        try clear c47
        try clear c49
        try clear c50
        try clear c53
        try clear c55
        try clear c56
        try clear c58
        try clear c63
        try clear c64
        try clear c66
        try clear c70
        try clear c71
        try clear c71b0
        try clear c71b1
        try clear c71b2
        try clear c72
        try clear c72b0
        try clear c72b1
        try clear c72b2
        try clear c73
        try clear c73b0
        try clear c73b1
        try clear c73b2
        try clear c74
        try clear c75
        try clear c77
        try clear c81
        try clear c84
        try clear c85
        try clear hcz16_0 hcz16_1 hcz16_2 hfz16_0
        try clear hcz20_0 hcz20_1 hcz20_2 hfz20_0
        try clear hcz25_0 hcz25_1 hcz25_2 hfz25_0
        try clear hcz29_0 hcz29_1 hcz29_2 hfz29_0
        try clear hcz31_0 hcz31_1 hcz31_2 hfz31_0
        try clear hcz35_0 hcz35_1 hcz35_2 hfz35_0
        try clear hcz37_0 hcz37_1 hcz37_2 hfz37_0
        try clear hcz41_0 hcz41_1 hcz41_2 hfz41_0
        try clear hcz43_0 hcz43_1 hcz43_2 hfz43_0
        try clear hcz44_0 hcz44_1 hcz44_2 hfz44_0
        try clear hcz48_0 hcz48_1 hcz48_2 hfz48_0
        try clear hcz50_0 hcz50_1 hcz50_2 hfz50_0
        try clear hcz51_0 hcz51_1 hcz51_2 hfz51_0
        try clear hcz57_0 hcz57_1 hcz57_2 hfz57_0
        try clear hcz59_0 hcz59_1 hcz59_2 hfz59_0
        try clear hcz60_0 hcz60_1 hcz60_2 hfz60_0
        try clear hcz65_0 hcz65_1 hcz65_2 hfz65_0
        try clear hcz67_0 hcz67_1 hcz67_2 hfz67_0
        try clear hcz68_0 hcz68_1 hcz68_2 hfz68_0
        try clear hcz76_0 hcz76_1 hcz76_2 hfz76_0
        try clear hcz78_0 hcz78_1 hcz78_2 hfz78_0
        try clear hcz79_0 hcz79_1 hcz79_2 hfz79_0
        try clear hcz86_0 hcz86_1 hcz86_2 hfz86_0
        try clear p2
        obtain ⟨kq, x112000_79, x112001_79, x112002_79, HA, HJ79, HO_5, HO_6, BK111, BK116, BK121, HB⟩ := hcut
        cases kq with
        | zero => exact absurd HA.out (by simp [laws_FnRulesDiffer.j2])
        | succ kj79 =>
         have H := HA.out
         clear HA
         simp only [laws_FnRulesDiffer.j2] at H
         replace H := Option.bind_eq_some_iff.mp H
         obtain ⟨t130, A870, H⟩ := H
         replace H : ((impl_RulesFirst.f kj79 t102 x112000_79 x112001_79 x112002_79).bind fun t131 => (if t130 ≥ 0 then (if 0 ≤ t130 then (if t130 < (t101.length : Int) then (laws_FnRulesDiffer.j3 kj79 t101 t102 t110 t131 ((rd_T71 t101 t130).f0) ((rd_T71 t101 t130).f1) ((rd_T71 t101 t130).f2.f0) ((rd_T71 t101 t130).f2.f1) ((rd_T71 t101 t130).f3.f0) ((rd_T71 t101 t130).f3.f1) ((rd_T71 t101 t130).f4) ((rd_T71 t101 t130).f5) 0 0 0 0 0 0 0 0) else (none)) else (none)) else (laws_FnRulesDiffer.j3 kj79 t101 t102 t110 t131 0 0 0 0 0 0 0 0 0 0 0 0 0 0 0 0))) = some r := H
         have A87 := Aside0.mk A870
         clear A870
         replace H := Option.bind_eq_some_iff.mp H
         obtain ⟨t131, A880, H⟩ := H
         replace H : (if t130 ≥ 0 then (if 0 ≤ t130 then (if t130 < (t101.length : Int) then (laws_FnRulesDiffer.j3 kj79 t101 t102 t110 t131 ((rd_T71 t101 t130).f0) ((rd_T71 t101 t130).f1) ((rd_T71 t101 t130).f2.f0) ((rd_T71 t101 t130).f2.f1) ((rd_T71 t101 t130).f3.f0) ((rd_T71 t101 t130).f3.f1) ((rd_T71 t101 t130).f4) ((rd_T71 t101 t130).f5) 0 0 0 0 0 0 0 0) else (none)) else (none)) else (laws_FnRulesDiffer.j3 kj79 t101 t102 t110 t131 0 0 0 0 0 0 0 0 0 0 0 0 0 0 0 0)) = some r := H
         have A88 := Aside0.mk A880
         clear A880
         have HC89 := Aside0.mk H
         clear H
         have hnb90 := NB111_116.out
         have hnc90 := NB116_111.out
         have hnb91 := NB111_121.out
         have hnc91 := NB121_111.out
         obtain ⟨hcz92_0, hcz92_1, hcz92_2, hfz92_0⟩ := y3 wc BK111.out
         go_upto_if 112 with (first | ((with_reducible refine gate_callee (f := 47) rfl ?_); refine goesL_ (some 105) rfl rfl Try.func47 (by kernel_rfl) rfl #[.slice Ao12 t101.length co12, .agg #[.int .i64 x112000_79, .int .i64 x112001_79, .int .i64 x112002_79]] rfl MT ?_; (with_reducible refine (impl_RulesFirst.calls kj79 _ _ t101 x112000_79 x112001_79 x112002_79 t130 _ ?side1 ?side2 A87.out).mono ?_); (case side1 => exact KC (Kd.R_reads' HO_5.out).2.2); (case side2 => exact (Kd.R_reads' HO_5.out).2.1); rintro e w93 ⟨rfl, hb⟩; refine ⟨_, rfl, ?_⟩; replace HO_5 := am (Kd.R_below (KR HO_5) hb); replace HO_6 := am (Kd.R_below (KR HO_6) hb); replace BK111 := am (BB BK111 hb); replace BK116 := am (BB BK116 hb); replace BK121 := am (BB BK121 hb); replace HB := am (below_step (K3 HB GE111.out GE116.out GE121.out) hb); (try clear hb); obtain ⟨hcz94_0, hcz94_1, hcz94_2, hfz94_0⟩ := y3 w93 BK111.out) | ((with_reducible refine gate_callee (f := 47) rfl ?_); refine goesL_ (some 108) rfl rfl Try.func47 (by kernel_rfl) rfl #[.slice Ao13 t102.length co13, .agg #[.int .i64 x112000_79, .int .i64 x112001_79, .int .i64 x112002_79]] rfl MT ?_; (with_reducible refine (impl_RulesFirst.calls kj79 _ _ t102 x112000_79 x112001_79 x112002_79 t131 _ ?side1 ?side2 A88.out).mono ?_); (case side1 => exact KC (Kd.R_reads' HO_6.out).2.2); (case side2 => exact (Kd.R_reads' HO_6.out).2.1); rintro e w95 ⟨rfl, hb⟩; refine ⟨_, rfl, ?_⟩; replace HO_5 := am (Kd.R_below (KR HO_5) hb); replace HO_6 := am (Kd.R_below (KR HO_6) hb); replace BK111 := am (BB BK111 hb); replace BK116 := am (BB BK116 hb); replace BK121 := am (BB BK121 hb); replace HB := am (below_step (K3 HB GE111.out GE116.out GE121.out) hb); (try clear hb)) | ((with_reducible refine gate_dst (N := 15) rfl ?_); (try (refine gate_guard (by rfl) ?_; dsimp only)); refine box_event rfl (N := 15) rfl (cs := #[.int .i64 0, .int .i64 0, .int .i64 0, .int .i64 0, .int .i64 0, .int .i64 0, .int .i64 0, .int .i64 0]) (t := 71) BX ?_; intro gb132 hg w96 hbox hb; replace HO_5 := am (Kd.R_below (Kd.R_elderB (KR HO_5) gb132 (Nat.le_of_eq hg.symm)) hb); replace HO_6 := am (Kd.R_below (Kd.R_elderB (KR HO_6) gb132 (Nat.le_of_eq hg.symm)) hb); have BK132 := am (hbox); have GW132 := am (GH3 HB GE111.out GE116.out GE121.out hg); have GE132 := GW132; replace HB := am (below_step (K3 HB GE111.out GE116.out GE121.out) hb); have NB111_132 := am (NL BK111 hg); have NB132_111 := am (NG BK111 hg); replace BK111 := am (BB BK111 hb); have NB116_132 := am (NL BK116 hg); have NB132_116 := am (NG BK116 hg); replace BK116 := am (BB BK116 hb); have NB121_132 := am (NL BK121 hg); have NB132_121 := am (NG BK121 hg); replace BK121 := am (BB BK121 hb); clear hb hbox hg; have hnb97 := NB132_111.out; have hnc97 := NB111_132.out; have hnb98 := NB132_116.out; have hnc98 := NB116_132.out; have hnb99 := NB132_121.out; have hnc99 := NB121_132.out; obtain ⟨hcz100_0, hcz100_1, hcz100_2, hcz100_3, hcz100_4, hcz100_5, hcz100_6, hcz100_7, hfz100_0⟩ := y8 w96 BK132.out) | ((with_reducible refine gate_dst (N := 16) rfl ?_); (try (refine gate_guard (by rfl) ?_; dsimp only)); refine box_event rfl (N := 16) rfl (cs := #[.int .i64 0, .int .i64 0, .int .i64 0, .int .i64 0, .int .i64 0, .int .i64 0, .int .i64 0, .int .i64 0]) (t := 71) BX ?_; intro gb133 hg w101 hbox hb; replace HO_5 := am (Kd.R_below (Kd.R_elderB (by (with_reducible repeat (first | apply Kd.R_alloc | apply Kd.R_drewN | apply Kd.R_drew)); exact (Kd.R_mono (Kd.R_far (p := ⟨gb132, 7, none⟩) (Kd.R_far (p := ⟨gb132, 6, none⟩) (Kd.R_far (p := ⟨gb132, 5, none⟩) (Kd.R_far (p := ⟨gb132, 4, none⟩) (Kd.R_far (p := ⟨gb132, 3, none⟩) (Kd.R_far (p := ⟨gb132, 2, none⟩) (Kd.R_far (p := ⟨gb132, 1, none⟩) (Kd.R_far (p := ⟨gb132, 0, none⟩) (Kd.R_mono HO_5.out (fun k_ hk => (⟨hk, hk.2⟩ : _ ∧ k_ ≠ gb132))) (fun _ hk => hk.2) (.int .i64 0)) (fun _ hk => hk.2) (.int .i64 0)) (fun _ hk => hk.2) (.int .i64 0)) (fun _ hk => hk.2) (.int .i64 0)) (fun _ hk => hk.2) (.int .i64 0)) (fun _ hk => hk.2) (.int .i64 0)) (fun _ hk => hk.2) (.int .i64 0)) (fun _ hk => hk.2) (.int .i64 0)) (fun _ h_ => h_.1))) gb133 (Nat.le_of_eq hg.symm)) hb); replace HO_6 := am (Kd.R_below (Kd.R_elderB (by (with_reducible repeat (first | apply Kd.R_alloc | apply Kd.R_drewN | apply Kd.R_drew)); exact (Kd.R_mono (Kd.R_far (p := ⟨gb132, 7, none⟩) (Kd.R_far (p := ⟨gb132, 6, none⟩) (Kd.R_far (p := ⟨gb132, 5, none⟩) (Kd.R_far (p := ⟨gb132, 4, none⟩) (Kd.R_far (p := ⟨gb132, 3, none⟩) (Kd.R_far (p := ⟨gb132, 2, none⟩) (Kd.R_far (p := ⟨gb132, 1, none⟩) (Kd.R_far (p := ⟨gb132, 0, none⟩) (Kd.R_mono HO_6.out (fun k_ hk => (⟨hk, hk.2⟩ : _ ∧ k_ ≠ gb132))) (fun _ hk => hk.2) (.int .i64 0)) (fun _ hk => hk.2) (.int .i64 0)) (fun _ hk => hk.2) (.int .i64 0)) (fun _ hk => hk.2) (.int .i64 0)) (fun _ hk => hk.2) (.int .i64 0)) (fun _ hk => hk.2) (.int .i64 0)) (fun _ hk => hk.2) (.int .i64 0)) (fun _ hk => hk.2) (.int .i64 0)) (fun _ h_ => h_.1))) gb133 (Nat.le_of_eq hg.symm)) hb); have BK133 := am (hbox); have GW133 := am (GH4 HB GE111.out GE116.out GE121.out GE132.out hg); have GE133 := GW133; replace HB := am (below_step (K4 HB GE111.out GE116.out GE121.out GE132.out) hb); have NB111_133 := am ((by rw [hg]; exact Nat.ne_of_lt (blk_lt (g := gb111) (o := .cells #[.int .i64 x112000_79, .int .i64 x112001_79, .int .i64 x112002_79] 60 (0, 0)) (by (with_reducible repeat (first | refine blk_drewN ?_ _ | refine blk_drew ?_ | refine blk_alloc ?_ _)); refine blk_far ?_ NB111_132.out _; (with_reducible repeat (first | refine blk_drewN ?_ _ | refine blk_drew ?_ | refine blk_alloc ?_ _)); refine blk_far ?_ NB111_132.out _; (with_reducible repeat (first | refine blk_drewN ?_ _ | refine blk_drew ?_ | refine blk_alloc ?_ _)); refine blk_far ?_ NB111_132.out _; (with_reducible repeat (first | refine blk_drewN ?_ _ | refine blk_drew ?_ | refine blk_alloc ?_ _)); refine blk_far ?_ NB111_132.out _; (with_reducible repeat (first | refine blk_drewN ?_ _ | refine blk_drew ?_ | refine blk_alloc ?_ _)); refine blk_far ?_ NB111_132.out _; (with_reducible repeat (first | refine blk_drewN ?_ _ | refine blk_drew ?_ | refine blk_alloc ?_ _)); refine blk_far ?_ NB111_132.out _; (with_reducible repeat (first | refine blk_drewN ?_ _ | refine blk_drew ?_ | refine blk_alloc ?_ _)); refine blk_far ?_ NB111_132.out _; (with_reducible repeat (first | refine blk_drewN ?_ _ | refine blk_drew ?_ | refine blk_alloc ?_ _)); refine blk_far ?_ NB111_132.out _; (with_reducible repeat (first | refine blk_drewN ?_ _ | refine blk_drew ?_ | refine blk_alloc ?_ _)); exact BK111.out)) : gb111 ≠ gb133)); have NB133_111 := am ((by rw [hg]; exact Nat.ne_of_gt (blk_lt (g := gb111) (o := .cells #[.int .i64 x112000_79, .int .i64 x112001_79, .int .i64 x112002_79] 60 (0, 0)) (by (with_reducible repeat (first | refine blk_drewN ?_ _ | refine blk_drew ?_ | refine blk_alloc ?_ _)); refine blk_far ?_ NB111_132.out _; (with_reducible repeat (first | refine blk_drewN ?_ _ | refine blk_drew ?_ | refine blk_alloc ?_ _)); refine blk_far ?_ NB111_132.out _; (with_reducible repeat (first | refine blk_drewN ?_ _ | refine blk_drew ?_ | refine blk_alloc ?_ _)); refine blk_far ?_ NB111_132.out _; (with_reducible repeat (first | refine blk_drewN ?_ _ | refine blk_drew ?_ | refine blk_alloc ?_ _)); refine blk_far ?_ NB111_132.out _; (with_reducible repeat (first | refine blk_drewN ?_ _ | refine blk_drew ?_ | refine blk_alloc ?_ _)); refine blk_far ?_ NB111_132.out _; (with_reducible repeat (first | refine blk_drewN ?_ _ | refine blk_drew ?_ | refine blk_alloc ?_ _)); refine blk_far ?_ NB111_132.out _; (with_reducible repeat (first | refine blk_drewN ?_ _ | refine blk_drew ?_ | refine blk_alloc ?_ _)); refine blk_far ?_ NB111_132.out _; (with_reducible repeat (first | refine blk_drewN ?_ _ | refine blk_drew ?_ | refine blk_alloc ?_ _)); refine blk_far ?_ NB111_132.out _; (with_reducible repeat (first | refine blk_drewN ?_ _ | refine blk_drew ?_ | refine blk_alloc ?_ _)); exact BK111.out)) : gb133 ≠ gb111)); replace BK111 := am (blk_below (g := gb111) (o := .cells #[.int .i64 x112000_79, .int .i64 x112001_79, .int .i64 x112002_79] 60 (0, 0)) (by (with_reducible repeat (first | refine blk_drewN ?_ _ | refine blk_drew ?_ | refine blk_alloc ?_ _)); refine blk_far ?_ NB111_132.out _; (with_reducible repeat (first | refine blk_drewN ?_ _ | refine blk_drew ?_ | refine blk_alloc ?_ _)); refine blk_far ?_ NB111_132.out _; (with_reducible repeat (first | refine blk_drewN ?_ _ | refine blk_drew ?_ | refine blk_alloc ?_ _)); refine blk_far ?_ NB111_132.out _; (with_reducible repeat (first | refine blk_drewN ?_ _ | refine blk_drew ?_ | refine blk_alloc ?_ _)); refine blk_far ?_ NB111_132.out _; (with_reducible repeat (first | refine blk_drewN ?_ _ | refine blk_drew ?_ | refine blk_alloc ?_ _)); refine blk_far ?_ NB111_132.out _; (with_reducible repeat (first | refine blk_drewN ?_ _ | refine blk_drew ?_ | refine blk_alloc ?_ _)); refine blk_far ?_ NB111_132.out _; (with_reducible repeat (first | refine blk_drewN ?_ _ | refine blk_drew ?_ | refine blk_alloc ?_ _)); refine blk_far ?_ NB111_132.out _; (with_reducible repeat (first | refine blk_drewN ?_ _ | refine blk_drew ?_ | refine blk_alloc ?_ _)); refine blk_far ?_ NB111_132.out _; (with_reducible repeat (first | refine blk_drewN ?_ _ | refine blk_drew ?_ | refine blk_alloc ?_ _)); exact BK111.out) hb); have NB116_133 := am ((by rw [hg]; exact Nat.ne_of_lt (blk_lt (g := gb116) (o := .cells #[.int .i64 t112, .int .i64 t113, .int .i64 t114] 60 (0, 0)) (by (with_reducible repeat (first | refine blk_drewN ?_ _ | refine blk_drew ?_ | refine blk_alloc ?_ _)); refine blk_far ?_ NB116_132.out _; (with_reducible repeat (first | refine blk_drewN ?_ _ | refine blk_drew ?_ | refine blk_alloc ?_ _)); refine blk_far ?_ NB116_132.out _; (with_reducible repeat (first | refine blk_drewN ?_ _ | refine blk_drew ?_ | refine blk_alloc ?_ _)); refine blk_far ?_ NB116_132.out _; (with_reducible repeat (first | refine blk_drewN ?_ _ | refine blk_drew ?_ | refine blk_alloc ?_ _)); refine blk_far ?_ NB116_132.out _; (with_reducible repeat (first | refine blk_drewN ?_ _ | refine blk_drew ?_ | refine blk_alloc ?_ _)); refine blk_far ?_ NB116_132.out _; (with_reducible repeat (first | refine blk_drewN ?_ _ | refine blk_drew ?_ | refine blk_alloc ?_ _)); refine blk_far ?_ NB116_132.out _; (with_reducible repeat (first | refine blk_drewN ?_ _ | refine blk_drew ?_ | refine blk_alloc ?_ _)); refine blk_far ?_ NB116_132.out _; (with_reducible repeat (first | refine blk_drewN ?_ _ | refine blk_drew ?_ | refine blk_alloc ?_ _)); refine blk_far ?_ NB116_132.out _; (with_reducible repeat (first | refine blk_drewN ?_ _ | refine blk_drew ?_ | refine blk_alloc ?_ _)); exact BK116.out)) : gb116 ≠ gb133)); have NB133_116 := am ((by rw [hg]; exact Nat.ne_of_gt (blk_lt (g := gb116) (o := .cells #[.int .i64 t112, .int .i64 t113, .int .i64 t114] 60 (0, 0)) (by (with_reducible repeat (first | refine blk_drewN ?_ _ | refine blk_drew ?_ | refine blk_alloc ?_ _)); refine blk_far ?_ NB116_132.out _; (with_reducible repeat (first | refine blk_drewN ?_ _ | refine blk_drew ?_ | refine blk_alloc ?_ _)); refine blk_far ?_ NB116_132.out _; (with_reducible repeat (first | refine blk_drewN ?_ _ | refine blk_drew ?_ | refine blk_alloc ?_ _)); refine blk_far ?_ NB116_132.out _; (with_reducible repeat (first | refine blk_drewN ?_ _ | refine blk_drew ?_ | refine blk_alloc ?_ _)); refine blk_far ?_ NB116_132.out _; (with_reducible repeat (first | refine blk_drewN ?_ _ | refine blk_drew ?_ | refine blk_alloc ?_ _)); refine blk_far ?_ NB116_132.out _; (with_reducible repeat (first | refine blk_drewN ?_ _ | refine blk_drew ?_ | refine blk_alloc ?_ _)); refine blk_far ?_ NB116_132.out _; (with_reducible repeat (first | refine blk_drewN ?_ _ | refine blk_drew ?_ | refine blk_alloc ?_ _)); refine blk_far ?_ NB116_132.out _; (with_reducible repeat (first | refine blk_drewN ?_ _ | refine blk_drew ?_ | refine blk_alloc ?_ _)); refine blk_far ?_ NB116_132.out _; (with_reducible repeat (first | refine blk_drewN ?_ _ | refine blk_drew ?_ | refine blk_alloc ?_ _)); exact BK116.out)) : gb133 ≠ gb116)); replace BK116 := am (blk_below (g := gb116) (o := .cells #[.int .i64 t112, .int .i64 t113, .int .i64 t114] 60 (0, 0)) (by (with_reducible repeat (first | refine blk_drewN ?_ _ | refine blk_drew ?_ | refine blk_alloc ?_ _)); refine blk_far ?_ NB116_132.out _; (with_reducible repeat (first | refine blk_drewN ?_ _ | refine blk_drew ?_ | refine blk_alloc ?_ _)); refine blk_far ?_ NB116_132.out _; (with_reducible repeat (first | refine blk_drewN ?_ _ | refine blk_drew ?_ | refine blk_alloc ?_ _)); refine blk_far ?_ NB116_132.out _; (with_reducible repeat (first | refine blk_drewN ?_ _ | refine blk_drew ?_ | refine blk_alloc ?_ _)); refine blk_far ?_ NB116_132.out _; (with_reducible repeat (first | refine blk_drewN ?_ _ | refine blk_drew ?_ | refine blk_alloc ?_ _)); refine blk_far ?_ NB116_132.out _; (with_reducible repeat (first | refine blk_drewN ?_ _ | refine blk_drew ?_ | refine blk_alloc ?_ _)); refine blk_far ?_ NB116_132.out _; (with_reducible repeat (first | refine blk_drewN ?_ _ | refine blk_drew ?_ | refine blk_alloc ?_ _)); refine blk_far ?_ NB116_132.out _; (with_reducible repeat (first | refine blk_drewN ?_ _ | refine blk_drew ?_ | refine blk_alloc ?_ _)); refine blk_far ?_ NB116_132.out _; (with_reducible repeat (first | refine blk_drewN ?_ _ | refine blk_drew ?_ | refine blk_alloc ?_ _)); exact BK116.out) hb); have NB121_133 := am ((by rw [hg]; exact Nat.ne_of_lt (blk_lt (g := gb121) (o := .cells #[.int .i64 t117, .int .i64 t118, .int .i64 t119] 60 (0, 0)) (by (with_reducible repeat (first | refine blk_drewN ?_ _ | refine blk_drew ?_ | refine blk_alloc ?_ _)); refine blk_far ?_ NB121_132.out _; (with_reducible repeat (first | refine blk_drewN ?_ _ | refine blk_drew ?_ | refine blk_alloc ?_ _)); refine blk_far ?_ NB121_132.out _; (with_reducible repeat (first | refine blk_drewN ?_ _ | refine blk_drew ?_ | refine blk_alloc ?_ _)); refine blk_far ?_ NB121_132.out _; (with_reducible repeat (first | refine blk_drewN ?_ _ | refine blk_drew ?_ | refine blk_alloc ?_ _)); refine blk_far ?_ NB121_132.out _; (with_reducible repeat (first | refine blk_drewN ?_ _ | refine blk_drew ?_ | refine blk_alloc ?_ _)); refine blk_far ?_ NB121_132.out _; (with_reducible repeat (first | refine blk_drewN ?_ _ | refine blk_drew ?_ | refine blk_alloc ?_ _)); refine blk_far ?_ NB121_132.out _; (with_reducible repeat (first | refine blk_drewN ?_ _ | refine blk_drew ?_ | refine blk_alloc ?_ _)); refine blk_far ?_ NB121_132.out _; (with_reducible repeat (first | refine blk_drewN ?_ _ | refine blk_drew ?_ | refine blk_alloc ?_ _)); refine blk_far ?_ NB121_132.out _; (with_reducible repeat (first | refine blk_drewN ?_ _ | refine blk_drew ?_ | refine blk_alloc ?_ _)); exact BK121.out)) : gb121 ≠ gb133)); have NB133_121 := am ((by rw [hg]; exact Nat.ne_of_gt (blk_lt (g := gb121) (o := .cells #[.int .i64 t117, .int .i64 t118, .int .i64 t119] 60 (0, 0)) (by (with_reducible repeat (first | refine blk_drewN ?_ _ | refine blk_drew ?_ | refine blk_alloc ?_ _)); refine blk_far ?_ NB121_132.out _; (with_reducible repeat (first | refine blk_drewN ?_ _ | refine blk_drew ?_ | refine blk_alloc ?_ _)); refine blk_far ?_ NB121_132.out _; (with_reducible repeat (first | refine blk_drewN ?_ _ | refine blk_drew ?_ | refine blk_alloc ?_ _)); refine blk_far ?_ NB121_132.out _; (with_reducible repeat (first | refine blk_drewN ?_ _ | refine blk_drew ?_ | refine blk_alloc ?_ _)); refine blk_far ?_ NB121_132.out _; (with_reducible repeat (first | refine blk_drewN ?_ _ | refine blk_drew ?_ | refine blk_alloc ?_ _)); refine blk_far ?_ NB121_132.out _; (with_reducible repeat (first | refine blk_drewN ?_ _ | refine blk_drew ?_ | refine blk_alloc ?_ _)); refine blk_far ?_ NB121_132.out _; (with_reducible repeat (first | refine blk_drewN ?_ _ | refine blk_drew ?_ | refine blk_alloc ?_ _)); refine blk_far ?_ NB121_132.out _; (with_reducible repeat (first | refine blk_drewN ?_ _ | refine blk_drew ?_ | refine blk_alloc ?_ _)); refine blk_far ?_ NB121_132.out _; (with_reducible repeat (first | refine blk_drewN ?_ _ | refine blk_drew ?_ | refine blk_alloc ?_ _)); exact BK121.out)) : gb133 ≠ gb121)); replace BK121 := am (blk_below (g := gb121) (o := .cells #[.int .i64 t117, .int .i64 t118, .int .i64 t119] 60 (0, 0)) (by (with_reducible repeat (first | refine blk_drewN ?_ _ | refine blk_drew ?_ | refine blk_alloc ?_ _)); refine blk_far ?_ NB121_132.out _; (with_reducible repeat (first | refine blk_drewN ?_ _ | refine blk_drew ?_ | refine blk_alloc ?_ _)); refine blk_far ?_ NB121_132.out _; (with_reducible repeat (first | refine blk_drewN ?_ _ | refine blk_drew ?_ | refine blk_alloc ?_ _)); refine blk_far ?_ NB121_132.out _; (with_reducible repeat (first | refine blk_drewN ?_ _ | refine blk_drew ?_ | refine blk_alloc ?_ _)); refine blk_far ?_ NB121_132.out _; (with_reducible repeat (first | refine blk_drewN ?_ _ | refine blk_drew ?_ | refine blk_alloc ?_ _)); refine blk_far ?_ NB121_132.out _; (with_reducible repeat (first | refine blk_drewN ?_ _ | refine blk_drew ?_ | refine blk_alloc ?_ _)); refine blk_far ?_ NB121_132.out _; (with_reducible repeat (first | refine blk_drewN ?_ _ | refine blk_drew ?_ | refine blk_alloc ?_ _)); refine blk_far ?_ NB121_132.out _; (with_reducible repeat (first | refine blk_drewN ?_ _ | refine blk_drew ?_ | refine blk_alloc ?_ _)); refine blk_far ?_ NB121_132.out _; (with_reducible repeat (first | refine blk_drewN ?_ _ | refine blk_drew ?_ | refine blk_alloc ?_ _)); exact BK121.out) hb); have NB132_133 := am ((by rw [hg]; exact Nat.ne_of_lt (blk_lt (g := gb132) (o := .cells #[.int .i64 0, .int .i64 0, .int .i64 0, .int .i64 0, .int .i64 0, .int .i64 0, .int .i64 0, .int .i64 0] 71 (0, 0)) (by (with_reducible repeat (first | refine blk_drewN ?_ _ | refine blk_drew ?_ | refine blk_alloc ?_ _)); refine blk_put (cs := #[.int .i64 0, .int .i64 0, .int .i64 0, .int .i64 0, .int .i64 0, .int .i64 0, .int .i64 0, .int .i64 0]) ?_ 7 _ rfl; (with_reducible repeat (first | refine blk_drewN ?_ _ | refine blk_drew ?_ | refine blk_alloc ?_ _)); refine blk_put (cs := #[.int .i64 0, .int .i64 0, .int .i64 0, .int .i64 0, .int .i64 0, .int .i64 0, .int .i64 0, .int .i64 0]) ?_ 6 _ rfl; (with_reducible repeat (first | refine blk_drewN ?_ _ | refine blk_drew ?_ | refine blk_alloc ?_ _)); refine blk_put (cs := #[.int .i64 0, .int .i64 0, .int .i64 0, .int .i64 0, .int .i64 0, .int .i64 0, .int .i64 0, .int .i64 0]) ?_ 5 _ rfl; (with_reducible repeat (first | refine blk_drewN ?_ _ | refine blk_drew ?_ | refine blk_alloc ?_ _)); refine blk_put (cs := #[.int .i64 0, .int .i64 0, .int .i64 0, .int .i64 0, .int .i64 0, .int .i64 0, .int .i64 0, .int .i64 0]) ?_ 4 _ rfl; (with_reducible repeat (first | refine blk_drewN ?_ _ | refine blk_drew ?_ | refine blk_alloc ?_ _)); refine blk_put (cs := #[.int .i64 0, .int .i64 0, .int .i64 0, .int .i64 0, .int .i64 0, .int .i64 0, .int .i64 0, .int .i64 0]) ?_ 3 _ rfl; (with_reducible repeat (first | refine blk_drewN ?_ _ | refine blk_drew ?_ | refine blk_alloc ?_ _)); refine blk_put (cs := #[.int .i64 0, .int .i64 0, .int .i64 0, .int .i64 0, .int .i64 0, .int .i64 0, .int .i64 0, .int .i64 0]) ?_ 2 _ rfl; (with_reducible repeat (first | refine blk_drewN ?_ _ | refine blk_drew ?_ | refine blk_alloc ?_ _)); refine blk_put (cs := #[.int .i64 0, .int .i64 0, .int .i64 0, .int .i64 0, .int .i64 0, .int .i64 0, .int .i64 0, .int .i64 0]) ?_ 1 _ rfl; (with_reducible repeat (first | refine blk_drewN ?_ _ | refine blk_drew ?_ | refine blk_alloc ?_ _)); refine blk_put (cs := #[.int .i64 0, .int .i64 0, .int .i64 0, .int .i64 0, .int .i64 0, .int .i64 0, .int .i64 0, .int .i64 0]) ?_ 0 _ rfl; (with_reducible repeat (first | refine blk_drewN ?_ _ | refine blk_drew ?_ | refine blk_alloc ?_ _)); exact BK132.out)) : gb132 ≠ gb133)); have NB133_132 := am ((by rw [hg]; exact Nat.ne_of_gt (blk_lt (g := gb132) (o := .cells #[.int .i64 0, .int .i64 0, .int .i64 0, .int .i64 0, .int .i64 0, .int .i64 0, .int .i64 0, .int .i64 0] 71 (0, 0)) (by (with_reducible repeat (first | refine blk_drewN ?_ _ | refine blk_drew ?_ | refine blk_alloc ?_ _)); refine blk_put (cs := #[.int .i64 0, .int .i64 0, .int .i64 0, .int .i64 0, .int .i64 0, .int .i64 0, .int .i64 0, .int .i64 0]) ?_ 7 _ rfl; (with_reducible repeat (first | refine blk_drewN ?_ _ | refine blk_drew ?_ | refine blk_alloc ?_ _)); refine blk_put (cs := #[.int .i64 0, .int .i64 0, .int .i64 0, .int .i64 0, .int .i64 0, .int .i64 0, .int .i64 0, .int .i64 0]) ?_ 6 _ rfl; (with_reducible repeat (first | refine blk_drewN ?_ _ | refine blk_drew ?_ | refine blk_alloc ?_ _)); refine blk_put (cs := #[.int .i64 0, .int .i64 0, .int .i64 0, .int .i64 0, .int .i64 0, .int .i64 0, .int .i64 0, .int .i64 0]) ?_ 5 _ rfl; (with_reducible repeat (first | refine blk_drewN ?_ _ | refine blk_drew ?_ | refine blk_alloc ?_ _)); refine blk_put (cs := #[.int .i64 0, .int .i64 0, .int .i64 0, .int .i64 0, .int .i64 0, .int .i64 0, .int .i64 0, .int .i64 0]) ?_ 4 _ rfl; (with_reducible repeat (first | refine blk_drewN ?_ _ | refine blk_drew ?_ | refine blk_alloc ?_ _)); refine blk_put (cs := #[.int .i64 0, .int .i64 0, .int .i64 0, .int .i64 0, .int .i64 0, .int .i64 0, .int .i64 0, .int .i64 0]) ?_ 3 _ rfl; (with_reducible repeat (first | refine blk_drewN ?_ _ | refine blk_drew ?_ | refine blk_alloc ?_ _)); refine blk_put (cs := #[.int .i64 0, .int .i64 0, .int .i64 0, .int .i64 0, .int .i64 0, .int .i64 0, .int .i64 0, .int .i64 0]) ?_ 2 _ rfl; (with_reducible repeat (first | refine blk_drewN ?_ _ | refine blk_drew ?_ | refine blk_alloc ?_ _)); refine blk_put (cs := #[.int .i64 0, .int .i64 0, .int .i64 0, .int .i64 0, .int .i64 0, .int .i64 0, .int .i64 0, .int .i64 0]) ?_ 1 _ rfl; (with_reducible repeat (first | refine blk_drewN ?_ _ | refine blk_drew ?_ | refine blk_alloc ?_ _)); refine blk_put (cs := #[.int .i64 0, .int .i64 0, .int .i64 0, .int .i64 0, .int .i64 0, .int .i64 0, .int .i64 0, .int .i64 0]) ?_ 0 _ rfl; (with_reducible repeat (first | refine blk_drewN ?_ _ | refine blk_drew ?_ | refine blk_alloc ?_ _)); exact BK132.out)) : gb133 ≠ gb132)); replace BK132 := am (blk_below (g := gb132) (o := .cells #[.int .i64 0, .int .i64 0, .int .i64 0, .int .i64 0, .int .i64 0, .int .i64 0, .int .i64 0, .int .i64 0] 71 (0, 0)) (by (with_reducible repeat (first | refine blk_drewN ?_ _ | refine blk_drew ?_ | refine blk_alloc ?_ _)); refine blk_put (cs := #[.int .i64 0, .int .i64 0, .int .i64 0, .int .i64 0, .int .i64 0, .int .i64 0, .int .i64 0, .int .i64 0]) ?_ 7 _ rfl; (with_reducible repeat (first | refine blk_drewN ?_ _ | refine blk_drew ?_ | refine blk_alloc ?_ _)); refine blk_put (cs := #[.int .i64 0, .int .i64 0, .int .i64 0, .int .i64 0, .int .i64 0, .int .i64 0, .int .i64 0, .int .i64 0]) ?_ 6 _ rfl; (with_reducible repeat (first | refine blk_drewN ?_ _ | refine blk_drew ?_ | refine blk_alloc ?_ _)); refine blk_put (cs := #[.int .i64 0, .int .i64 0, .int .i64 0, .int .i64 0, .int .i64 0, .int .i64 0, .int .i64 0, .int .i64 0]) ?_ 5 _ rfl; (with_reducible repeat (first | refine blk_drewN ?_ _ | refine blk_drew ?_ | refine blk_alloc ?_ _)); refine blk_put (cs := #[.int .i64 0, .int .i64 0, .int .i64 0, .int .i64 0, .int .i64 0, .int .i64 0, .int .i64 0, .int .i64 0]) ?_ 4 _ rfl; (with_reducible repeat (first | refine blk_drewN ?_ _ | refine blk_drew ?_ | refine blk_alloc ?_ _)); refine blk_put (cs := #[.int .i64 0, .int .i64 0, .int .i64 0, .int .i64 0, .int .i64 0, .int .i64 0, .int .i64 0, .int .i64 0]) ?_ 3 _ rfl; (with_reducible repeat (first | refine blk_drewN ?_ _ | refine blk_drew ?_ | refine blk_alloc ?_ _)); refine blk_put (cs := #[.int .i64 0, .int .i64 0, .int .i64 0, .int .i64 0, .int .i64 0, .int .i64 0, .int .i64 0, .int .i64 0]) ?_ 2 _ rfl; (with_reducible repeat (first | refine blk_drewN ?_ _ | refine blk_drew ?_ | refine blk_alloc ?_ _)); refine blk_put (cs := #[.int .i64 0, .int .i64 0, .int .i64 0, .int .i64 0, .int .i64 0, .int .i64 0, .int .i64 0, .int .i64 0]) ?_ 1 _ rfl; (with_reducible repeat (first | refine blk_drewN ?_ _ | refine blk_drew ?_ | refine blk_alloc ?_ _)); refine blk_put (cs := #[.int .i64 0, .int .i64 0, .int .i64 0, .int .i64 0, .int .i64 0, .int .i64 0, .int .i64 0, .int .i64 0]) ?_ 0 _ rfl; (with_reducible repeat (first | refine blk_drewN ?_ _ | refine blk_drew ?_ | refine blk_alloc ?_ _)); exact BK132.out) hb); clear hb hbox hg; have hnb102 := NB133_111.out; have hnc102 := NB111_133.out; have hnb103 := NB133_116.out; have hnc103 := NB116_133.out; have hnb104 := NB133_121.out; have hnc104 := NB121_133.out; have hnb105 := NB133_132.out; have hnc105 := NB132_133.out; obtain ⟨hcz106_0, hcz106_1, hcz106_2, hcz106_3, hcz106_4, hcz106_5, hcz106_6, hcz106_7, hfz106_0⟩ := y8 w101 BK133.out))
         (try simp only [Act.put, List.setIfInBounds_toArray, List.set_cons_zero, List.set_cons_succ])
         go_cut [] (fun wc => ∃ (kq : Nat) (x133000_88 : Int) (x133001_88 : Int) (x133002_88 : Int) (x133003_88 : Int) (x133004_88 : Int) (x133005_88 : Int) (x133006_88 : Int) (x133007_88 : Int), Aside0 (laws_FnRulesDiffer.j3 kq t101 t102 t110 t131 x133000_88 x133001_88 x133002_88 x133003_88 x133004_88 x133005_88 x133006_88 x133007_88 0 0 0 0 0 0 0 0 = some r) ∧ Aside0 (kq ≤ kj79) ∧ Aside0 (Kd.R k71 71 wc w.heap.size (fun k_ => some k_ ≠ ((.slice Ao13 t102.length co13) : Value).ownBlock ∧ k_ ≠ gb132 ∧ k_ ≠ gb133) (.slice Ao12 t101.length co12) t101) ∧ Aside0 (Kd.R k71 71 wc w.heap.size (fun k_ => some k_ ≠ ((.slice Ao12 t101.length co12) : Value).ownBlock ∧ k_ ≠ gb132 ∧ k_ ≠ gb133) (.slice Ao13 t102.length co13) t102) ∧ Aside0 (wc.heap[gb111]? = some (.cells #[.int .i64 x112000_79, .int .i64 x112001_79, .int .i64 x112002_79] 60 (0, 0))) ∧ Aside0 (wc.heap[gb116]? = some (.cells #[.int .i64 t112, .int .i64 t113, .int .i64 t114] 60 (0, 0))) ∧ Aside0 (wc.heap[gb121]? = some (.cells #[.int .i64 t117, .int .i64 t118, .int .i64 t119] 60 (0, 0))) ∧ Aside0 (wc.heap[gb132]? = some (.cells #[.int .i64 x133000_88, .int .i64 x133001_88, .int .i64 x133002_88, .int .i64 x133003_88, .int .i64 x133004_88, .int .i64 x133005_88, .int .i64 x133006_88, .int .i64 x133007_88] 71 (0, 0))) ∧ Aside0 (wc.heap[gb133]? = some (.cells #[.int .i64 0, .int .i64 0, .int .i64 0, .int .i64 0, .int .i64 0, .int .i64 0, .int .i64 0, .int .i64 0] 71 (0, 0))) ∧ Aside0 (Below w.heap.size w wc))
         case first =>
          have H := HC89.out
          clear HC89
          by_cases c107 : t130 ≥ 0
          ·rw [if_pos c107] at H
           have c107b0 : decide (0 ≤ t130) = true := decide_eq_true c107
           clear c107
           (first | rw [c107b0] | (simp only [i64_w, i32_w]; rw [c107b0]) | skip)
           by_cases c108 : 0 ≤ t130
           ·rw [if_pos c108] at H
            have c108b0 : decide (0 ≤ t130) = true := decide_eq_true c108
            clear c108
            by_cases c109 : t130 < (t101.length : Int)
            ·rw [if_pos c109] at H
             have c109b0 : decide (t130 < (t101.length : Int)) = true := decide_eq_true c109
             clear c109
             have H' := Aside0.mk H
             clear H
             have p134 : 0 ≤ (t130 : Int) := OD
             have q134 : t130 < (t101.length : Int) := OD
             obtain ⟨ad134, e134, hx134_0, hx134_1, hx134_2, hx134_3, hx134_4, hx134_5, hx134_6, hx134_7⟩ := at_T71 (Kd.R_reads' HO_5.out).2.2 t130 p134 q134
             cases e134
             have hn134_0 : ad134.block ≠ gb133 := (HO_5.out.1 _ rfl).2
             have hn134_1 : ad134.block ≠ gb133 := (HO_5.out.1 _ rfl).2
             have hn134_2 : ad134.block ≠ gb133 := (HO_5.out.1 _ rfl).2
             have hn134_3 : ad134.block ≠ gb133 := (HO_5.out.1 _ rfl).2
             have hn134_4 : ad134.block ≠ gb133 := (HO_5.out.1 _ rfl).2
             have hn134_5 : ad134.block ≠ gb133 := (HO_5.out.1 _ rfl).2
             have hn134_6 : ad134.block ≠ gb133 := (HO_5.out.1 _ rfl).2
             have hn134_7 : ad134.block ≠ gb133 := (HO_5.out.1 _ rfl).2
             replace hx134_0 := (cell_far (p := ⟨gb133, 0, none⟩) (by first | (rw [add_block]; exact hn134_0) | (show (Addr.add _ _).block ≠ _; rw [add_block]; exact hn134_0) | exact hn134_0) (.int .i64 0)).trans hx134_0
             replace hx134_1 := (cell_far (p := ⟨gb133, 0, none⟩) (by first | (rw [add_block]; exact hn134_0) | (show (Addr.add _ _).block ≠ _; rw [add_block]; exact hn134_0) | exact hn134_0) (.int .i64 0)).trans hx134_1
             replace hx134_2 := (cell_far (p := ⟨gb133, 0, none⟩) (by first | (rw [add_block]; exact hn134_0) | (show (Addr.add _ _).block ≠ _; rw [add_block]; exact hn134_0) | exact hn134_0) (.int .i64 0)).trans hx134_2
             replace hx134_3 := (cell_far (p := ⟨gb133, 0, none⟩) (by first | (rw [add_block]; exact hn134_0) | (show (Addr.add _ _).block ≠ _; rw [add_block]; exact hn134_0) | exact hn134_0) (.int .i64 0)).trans hx134_3
             replace hx134_4 := (cell_far (p := ⟨gb133, 0, none⟩) (by first | (rw [add_block]; exact hn134_0) | (show (Addr.add _ _).block ≠ _; rw [add_block]; exact hn134_0) | exact hn134_0) (.int .i64 0)).trans hx134_4
             replace hx134_5 := (cell_far (p := ⟨gb133, 0, none⟩) (by first | (rw [add_block]; exact hn134_0) | (show (Addr.add _ _).block ≠ _; rw [add_block]; exact hn134_0) | exact hn134_0) (.int .i64 0)).trans hx134_5
             replace hx134_6 := (cell_far (p := ⟨gb133, 0, none⟩) (by first | (rw [add_block]; exact hn134_0) | (show (Addr.add _ _).block ≠ _; rw [add_block]; exact hn134_0) | exact hn134_0) (.int .i64 0)).trans hx134_6
             replace hx134_7 := (cell_far (p := ⟨gb133, 0, none⟩) (by first | (rw [add_block]; exact hn134_0) | (show (Addr.add _ _).block ≠ _; rw [add_block]; exact hn134_0) | exact hn134_0) (.int .i64 0)).trans hx134_7
             replace hx134_0 := (cell_far (p := ⟨gb133, 1, none⟩) (by first | (rw [add_block]; exact hn134_1) | (show (Addr.add _ _).block ≠ _; rw [add_block]; exact hn134_1) | exact hn134_1) (.int .i64 0)).trans hx134_0
             replace hx134_1 := (cell_far (p := ⟨gb133, 1, none⟩) (by first | (rw [add_block]; exact hn134_1) | (show (Addr.add _ _).block ≠ _; rw [add_block]; exact hn134_1) | exact hn134_1) (.int .i64 0)).trans hx134_1
             replace hx134_2 := (cell_far (p := ⟨gb133, 1, none⟩) (by first | (rw [add_block]; exact hn134_1) | (show (Addr.add _ _).block ≠ _; rw [add_block]; exact hn134_1) | exact hn134_1) (.int .i64 0)).trans hx134_2
             replace hx134_3 := (cell_far (p := ⟨gb133, 1, none⟩) (by first | (rw [add_block]; exact hn134_1) | (show (Addr.add _ _).block ≠ _; rw [add_block]; exact hn134_1) | exact hn134_1) (.int .i64 0)).trans hx134_3
             replace hx134_4 := (cell_far (p := ⟨gb133, 1, none⟩) (by first | (rw [add_block]; exact hn134_1) | (show (Addr.add _ _).block ≠ _; rw [add_block]; exact hn134_1) | exact hn134_1) (.int .i64 0)).trans hx134_4
             replace hx134_5 := (cell_far (p := ⟨gb133, 1, none⟩) (by first | (rw [add_block]; exact hn134_1) | (show (Addr.add _ _).block ≠ _; rw [add_block]; exact hn134_1) | exact hn134_1) (.int .i64 0)).trans hx134_5
             replace hx134_6 := (cell_far (p := ⟨gb133, 1, none⟩) (by first | (rw [add_block]; exact hn134_1) | (show (Addr.add _ _).block ≠ _; rw [add_block]; exact hn134_1) | exact hn134_1) (.int .i64 0)).trans hx134_6
             replace hx134_7 := (cell_far (p := ⟨gb133, 1, none⟩) (by first | (rw [add_block]; exact hn134_1) | (show (Addr.add _ _).block ≠ _; rw [add_block]; exact hn134_1) | exact hn134_1) (.int .i64 0)).trans hx134_7
             replace hx134_0 := (cell_far (p := ⟨gb133, 2, none⟩) (by first | (rw [add_block]; exact hn134_2) | (show (Addr.add _ _).block ≠ _; rw [add_block]; exact hn134_2) | exact hn134_2) (.int .i64 0)).trans hx134_0
             replace hx134_1 := (cell_far (p := ⟨gb133, 2, none⟩) (by first | (rw [add_block]; exact hn134_2) | (show (Addr.add _ _).block ≠ _; rw [add_block]; exact hn134_2) | exact hn134_2) (.int .i64 0)).trans hx134_1
             replace hx134_2 := (cell_far (p := ⟨gb133, 2, none⟩) (by first | (rw [add_block]; exact hn134_2) | (show (Addr.add _ _).block ≠ _; rw [add_block]; exact hn134_2) | exact hn134_2) (.int .i64 0)).trans hx134_2
             replace hx134_3 := (cell_far (p := ⟨gb133, 2, none⟩) (by first | (rw [add_block]; exact hn134_2) | (show (Addr.add _ _).block ≠ _; rw [add_block]; exact hn134_2) | exact hn134_2) (.int .i64 0)).trans hx134_3
             replace hx134_4 := (cell_far (p := ⟨gb133, 2, none⟩) (by first | (rw [add_block]; exact hn134_2) | (show (Addr.add _ _).block ≠ _; rw [add_block]; exact hn134_2) | exact hn134_2) (.int .i64 0)).trans hx134_4
             replace hx134_5 := (cell_far (p := ⟨gb133, 2, none⟩) (by first | (rw [add_block]; exact hn134_2) | (show (Addr.add _ _).block ≠ _; rw [add_block]; exact hn134_2) | exact hn134_2) (.int .i64 0)).trans hx134_5
             replace hx134_6 := (cell_far (p := ⟨gb133, 2, none⟩) (by first | (rw [add_block]; exact hn134_2) | (show (Addr.add _ _).block ≠ _; rw [add_block]; exact hn134_2) | exact hn134_2) (.int .i64 0)).trans hx134_6
             replace hx134_7 := (cell_far (p := ⟨gb133, 2, none⟩) (by first | (rw [add_block]; exact hn134_2) | (show (Addr.add _ _).block ≠ _; rw [add_block]; exact hn134_2) | exact hn134_2) (.int .i64 0)).trans hx134_7
             replace hx134_0 := (cell_far (p := ⟨gb133, 3, none⟩) (by first | (rw [add_block]; exact hn134_3) | (show (Addr.add _ _).block ≠ _; rw [add_block]; exact hn134_3) | exact hn134_3) (.int .i64 0)).trans hx134_0
             replace hx134_1 := (cell_far (p := ⟨gb133, 3, none⟩) (by first | (rw [add_block]; exact hn134_3) | (show (Addr.add _ _).block ≠ _; rw [add_block]; exact hn134_3) | exact hn134_3) (.int .i64 0)).trans hx134_1
             replace hx134_2 := (cell_far (p := ⟨gb133, 3, none⟩) (by first | (rw [add_block]; exact hn134_3) | (show (Addr.add _ _).block ≠ _; rw [add_block]; exact hn134_3) | exact hn134_3) (.int .i64 0)).trans hx134_2
             replace hx134_3 := (cell_far (p := ⟨gb133, 3, none⟩) (by first | (rw [add_block]; exact hn134_3) | (show (Addr.add _ _).block ≠ _; rw [add_block]; exact hn134_3) | exact hn134_3) (.int .i64 0)).trans hx134_3
             replace hx134_4 := (cell_far (p := ⟨gb133, 3, none⟩) (by first | (rw [add_block]; exact hn134_3) | (show (Addr.add _ _).block ≠ _; rw [add_block]; exact hn134_3) | exact hn134_3) (.int .i64 0)).trans hx134_4
             replace hx134_5 := (cell_far (p := ⟨gb133, 3, none⟩) (by first | (rw [add_block]; exact hn134_3) | (show (Addr.add _ _).block ≠ _; rw [add_block]; exact hn134_3) | exact hn134_3) (.int .i64 0)).trans hx134_5
             replace hx134_6 := (cell_far (p := ⟨gb133, 3, none⟩) (by first | (rw [add_block]; exact hn134_3) | (show (Addr.add _ _).block ≠ _; rw [add_block]; exact hn134_3) | exact hn134_3) (.int .i64 0)).trans hx134_6
             replace hx134_7 := (cell_far (p := ⟨gb133, 3, none⟩) (by first | (rw [add_block]; exact hn134_3) | (show (Addr.add _ _).block ≠ _; rw [add_block]; exact hn134_3) | exact hn134_3) (.int .i64 0)).trans hx134_7
             replace hx134_0 := (cell_far (p := ⟨gb133, 4, none⟩) (by first | (rw [add_block]; exact hn134_4) | (show (Addr.add _ _).block ≠ _; rw [add_block]; exact hn134_4) | exact hn134_4) (.int .i64 0)).trans hx134_0
             replace hx134_1 := (cell_far (p := ⟨gb133, 4, none⟩) (by first | (rw [add_block]; exact hn134_4) | (show (Addr.add _ _).block ≠ _; rw [add_block]; exact hn134_4) | exact hn134_4) (.int .i64 0)).trans hx134_1
             replace hx134_2 := (cell_far (p := ⟨gb133, 4, none⟩) (by first | (rw [add_block]; exact hn134_4) | (show (Addr.add _ _).block ≠ _; rw [add_block]; exact hn134_4) | exact hn134_4) (.int .i64 0)).trans hx134_2
             replace hx134_3 := (cell_far (p := ⟨gb133, 4, none⟩) (by first | (rw [add_block]; exact hn134_4) | (show (Addr.add _ _).block ≠ _; rw [add_block]; exact hn134_4) | exact hn134_4) (.int .i64 0)).trans hx134_3
             replace hx134_4 := (cell_far (p := ⟨gb133, 4, none⟩) (by first | (rw [add_block]; exact hn134_4) | (show (Addr.add _ _).block ≠ _; rw [add_block]; exact hn134_4) | exact hn134_4) (.int .i64 0)).trans hx134_4
             replace hx134_5 := (cell_far (p := ⟨gb133, 4, none⟩) (by first | (rw [add_block]; exact hn134_4) | (show (Addr.add _ _).block ≠ _; rw [add_block]; exact hn134_4) | exact hn134_4) (.int .i64 0)).trans hx134_5
             replace hx134_6 := (cell_far (p := ⟨gb133, 4, none⟩) (by first | (rw [add_block]; exact hn134_4) | (show (Addr.add _ _).block ≠ _; rw [add_block]; exact hn134_4) | exact hn134_4) (.int .i64 0)).trans hx134_6
             replace hx134_7 := (cell_far (p := ⟨gb133, 4, none⟩) (by first | (rw [add_block]; exact hn134_4) | (show (Addr.add _ _).block ≠ _; rw [add_block]; exact hn134_4) | exact hn134_4) (.int .i64 0)).trans hx134_7
             replace hx134_0 := (cell_far (p := ⟨gb133, 5, none⟩) (by first | (rw [add_block]; exact hn134_5) | (show (Addr.add _ _).block ≠ _; rw [add_block]; exact hn134_5) | exact hn134_5) (.int .i64 0)).trans hx134_0
             replace hx134_1 := (cell_far (p := ⟨gb133, 5, none⟩) (by first | (rw [add_block]; exact hn134_5) | (show (Addr.add _ _).block ≠ _; rw [add_block]; exact hn134_5) | exact hn134_5) (.int .i64 0)).trans hx134_1
             replace hx134_2 := (cell_far (p := ⟨gb133, 5, none⟩) (by first | (rw [add_block]; exact hn134_5) | (show (Addr.add _ _).block ≠ _; rw [add_block]; exact hn134_5) | exact hn134_5) (.int .i64 0)).trans hx134_2
             replace hx134_3 := (cell_far (p := ⟨gb133, 5, none⟩) (by first | (rw [add_block]; exact hn134_5) | (show (Addr.add _ _).block ≠ _; rw [add_block]; exact hn134_5) | exact hn134_5) (.int .i64 0)).trans hx134_3
             replace hx134_4 := (cell_far (p := ⟨gb133, 5, none⟩) (by first | (rw [add_block]; exact hn134_5) | (show (Addr.add _ _).block ≠ _; rw [add_block]; exact hn134_5) | exact hn134_5) (.int .i64 0)).trans hx134_4
             replace hx134_5 := (cell_far (p := ⟨gb133, 5, none⟩) (by first | (rw [add_block]; exact hn134_5) | (show (Addr.add _ _).block ≠ _; rw [add_block]; exact hn134_5) | exact hn134_5) (.int .i64 0)).trans hx134_5
             replace hx134_6 := (cell_far (p := ⟨gb133, 5, none⟩) (by first | (rw [add_block]; exact hn134_5) | (show (Addr.add _ _).block ≠ _; rw [add_block]; exact hn134_5) | exact hn134_5) (.int .i64 0)).trans hx134_6
             replace hx134_7 := (cell_far (p := ⟨gb133, 5, none⟩) (by first | (rw [add_block]; exact hn134_5) | (show (Addr.add _ _).block ≠ _; rw [add_block]; exact hn134_5) | exact hn134_5) (.int .i64 0)).trans hx134_7
             replace hx134_0 := (cell_far (p := ⟨gb133, 6, none⟩) (by first | (rw [add_block]; exact hn134_6) | (show (Addr.add _ _).block ≠ _; rw [add_block]; exact hn134_6) | exact hn134_6) (.int .i64 0)).trans hx134_0
             replace hx134_1 := (cell_far (p := ⟨gb133, 6, none⟩) (by first | (rw [add_block]; exact hn134_6) | (show (Addr.add _ _).block ≠ _; rw [add_block]; exact hn134_6) | exact hn134_6) (.int .i64 0)).trans hx134_1
             replace hx134_2 := (cell_far (p := ⟨gb133, 6, none⟩) (by first | (rw [add_block]; exact hn134_6) | (show (Addr.add _ _).block ≠ _; rw [add_block]; exact hn134_6) | exact hn134_6) (.int .i64 0)).trans hx134_2
             replace hx134_3 := (cell_far (p := ⟨gb133, 6, none⟩) (by first | (rw [add_block]; exact hn134_6) | (show (Addr.add _ _).block ≠ _; rw [add_block]; exact hn134_6) | exact hn134_6) (.int .i64 0)).trans hx134_3
             replace hx134_4 := (cell_far (p := ⟨gb133, 6, none⟩) (by first | (rw [add_block]; exact hn134_6) | (show (Addr.add _ _).block ≠ _; rw [add_block]; exact hn134_6) | exact hn134_6) (.int .i64 0)).trans hx134_4
             replace hx134_5 := (cell_far (p := ⟨gb133, 6, none⟩) (by first | (rw [add_block]; exact hn134_6) | (show (Addr.add _ _).block ≠ _; rw [add_block]; exact hn134_6) | exact hn134_6) (.int .i64 0)).trans hx134_5
             replace hx134_6 := (cell_far (p := ⟨gb133, 6, none⟩) (by first | (rw [add_block]; exact hn134_6) | (show (Addr.add _ _).block ≠ _; rw [add_block]; exact hn134_6) | exact hn134_6) (.int .i64 0)).trans hx134_6
             replace hx134_7 := (cell_far (p := ⟨gb133, 6, none⟩) (by first | (rw [add_block]; exact hn134_6) | (show (Addr.add _ _).block ≠ _; rw [add_block]; exact hn134_6) | exact hn134_6) (.int .i64 0)).trans hx134_7
             replace hx134_0 := (cell_far (p := ⟨gb133, 7, none⟩) (by first | (rw [add_block]; exact hn134_7) | (show (Addr.add _ _).block ≠ _; rw [add_block]; exact hn134_7) | exact hn134_7) (.int .i64 0)).trans hx134_0
             replace hx134_1 := (cell_far (p := ⟨gb133, 7, none⟩) (by first | (rw [add_block]; exact hn134_7) | (show (Addr.add _ _).block ≠ _; rw [add_block]; exact hn134_7) | exact hn134_7) (.int .i64 0)).trans hx134_1
             replace hx134_2 := (cell_far (p := ⟨gb133, 7, none⟩) (by first | (rw [add_block]; exact hn134_7) | (show (Addr.add _ _).block ≠ _; rw [add_block]; exact hn134_7) | exact hn134_7) (.int .i64 0)).trans hx134_2
             replace hx134_3 := (cell_far (p := ⟨gb133, 7, none⟩) (by first | (rw [add_block]; exact hn134_7) | (show (Addr.add _ _).block ≠ _; rw [add_block]; exact hn134_7) | exact hn134_7) (.int .i64 0)).trans hx134_3
             replace hx134_4 := (cell_far (p := ⟨gb133, 7, none⟩) (by first | (rw [add_block]; exact hn134_7) | (show (Addr.add _ _).block ≠ _; rw [add_block]; exact hn134_7) | exact hn134_7) (.int .i64 0)).trans hx134_4
             replace hx134_5 := (cell_far (p := ⟨gb133, 7, none⟩) (by first | (rw [add_block]; exact hn134_7) | (show (Addr.add _ _).block ≠ _; rw [add_block]; exact hn134_7) | exact hn134_7) (.int .i64 0)).trans hx134_5
             replace hx134_6 := (cell_far (p := ⟨gb133, 7, none⟩) (by first | (rw [add_block]; exact hn134_7) | (show (Addr.add _ _).block ≠ _; rw [add_block]; exact hn134_7) | exact hn134_7) (.int .i64 0)).trans hx134_6
             replace hx134_7 := (cell_far (p := ⟨gb133, 7, none⟩) (by first | (rw [add_block]; exact hn134_7) | (show (Addr.add _ _).block ≠ _; rw [add_block]; exact hn134_7) | exact hn134_7) (.int .i64 0)).trans hx134_7
             clear hn134_0
             clear hn134_1
             clear hn134_2
             clear hn134_3
             clear hn134_4
             clear hn134_5
             clear hn134_6
             clear hn134_7
             replace p134 := eq_true p134
             replace q134 := eq_true q134
             have hnb110 := NB132_111.out
             have hnc110 := NB111_132.out
             have hnb111 := NB132_116.out
             have hnc111 := NB116_132.out
             have hnb112 := NB132_121.out
             have hnc112 := NB121_132.out
             have hnb113 := NB132_133.out
             have hnc113 := NB133_132.out
             obtain ⟨hcz114_0, hcz114_1, hcz114_2, hcz114_3, hcz114_4, hcz114_5, hcz114_6, hcz114_7, hfz114_0⟩ := y8 w101 BK132.out
             go_wp2
             go_meet
             case rel => exact ⟨_, ((rd_T71 t101 t130).f0), ((rd_T71 t101 t130).f1), ((rd_T71 t101 t130).f2.f0), ((rd_T71 t101 t130).f2.f1), ((rd_T71 t101 t130).f3.f0), ((rd_T71 t101 t130).f3.f1), ((rd_T71 t101 t130).f4), ((rd_T71 t101 t130).f5), H', ⟨by have := HJ2.out; have := HJ9.out; have := HJ79.out; first | omega | exact Nat.le_refl _⟩, ⟨by (with_reducible repeat (first | apply Kd.R_alloc | apply Kd.R_drewN | apply Kd.R_drew)); exact Kd.R_mono (Kd.R_far (p := ⟨gb132, 7, none⟩) (Kd.R_far (p := ⟨gb132, 6, none⟩) (Kd.R_far (p := ⟨gb132, 5, none⟩) (Kd.R_far (p := ⟨gb132, 4, none⟩) (Kd.R_far (p := ⟨gb132, 3, none⟩) (Kd.R_far (p := ⟨gb132, 2, none⟩) (Kd.R_far (p := ⟨gb132, 1, none⟩) (Kd.R_far (p := ⟨gb132, 0, none⟩) (Kd.R_far (p := ⟨gb133, 7, none⟩) (Kd.R_far (p := ⟨gb133, 6, none⟩) (Kd.R_far (p := ⟨gb133, 5, none⟩) (Kd.R_far (p := ⟨gb133, 4, none⟩) (Kd.R_far (p := ⟨gb133, 3, none⟩) (Kd.R_far (p := ⟨gb133, 2, none⟩) (Kd.R_far (p := ⟨gb133, 1, none⟩) (Kd.R_far (p := ⟨gb133, 0, none⟩) (Kd.R_mono (Kd.R_mono HO_5.out (fun k_ hk => (⟨hk, hk.2⟩ : _ ∧ k_ ≠ gb133))) (fun k_ hk => (⟨hk, hk.1.1.2⟩ : _ ∧ k_ ≠ gb132))) (fun _ hk => hk.1.2) (.int .i64 0)) (fun _ hk => hk.1.2) (.int .i64 0)) (fun _ hk => hk.1.2) (.int .i64 0)) (fun _ hk => hk.1.2) (.int .i64 0)) (fun _ hk => hk.1.2) (.int .i64 0)) (fun _ hk => hk.1.2) (.int .i64 0)) (fun _ hk => hk.1.2) (.int .i64 0)) (fun _ hk => hk.1.2) (.int .i64 0)) (fun _ hk => hk.2) (.int .i64 ((rd_T71 t101 t130).f0))) (fun _ hk => hk.2) (.int .i64 ((rd_T71 t101 t130).f1))) (fun _ hk => hk.2) (.int .i64 ((rd_T71 t101 t130).f2.f0))) (fun _ hk => hk.2) (.int .i64 ((rd_T71 t101 t130).f2.f1))) (fun _ hk => hk.2) (.int .i64 ((rd_T71 t101 t130).f3.f0))) (fun _ hk => hk.2) (.int .i64 ((rd_T71 t101 t130).f3.f1))) (fun _ hk => hk.2) (.int .i64 ((rd_T71 t101 t130).f4))) (fun _ hk => hk.2) (.int .i64 ((rd_T71 t101 t130).f5))) (fun _ hk => ⟨hk.1.1.1.1, ⟨hk.1.1.1.2, hk.1.1.2⟩⟩)⟩, ⟨by (with_reducible repeat (first | apply Kd.R_alloc | apply Kd.R_drewN | apply Kd.R_drew)); exact Kd.R_mono (Kd.R_far (p := ⟨gb132, 7, none⟩) (Kd.R_far (p := ⟨gb132, 6, none⟩) (Kd.R_far (p := ⟨gb132, 5, none⟩) (Kd.R_far (p := ⟨gb132, 4, none⟩) (Kd.R_far (p := ⟨gb132, 3, none⟩) (Kd.R_far (p := ⟨gb132, 2, none⟩) (Kd.R_far (p := ⟨gb132, 1, none⟩) (Kd.R_far (p := ⟨gb132, 0, none⟩) (Kd.R_far (p := ⟨gb133, 7, none⟩) (Kd.R_far (p := ⟨gb133, 6, none⟩) (Kd.R_far (p := ⟨gb133, 5, none⟩) (Kd.R_far (p := ⟨gb133, 4, none⟩) (Kd.R_far (p := ⟨gb133, 3, none⟩) (Kd.R_far (p := ⟨gb133, 2, none⟩) (Kd.R_far (p := ⟨gb133, 1, none⟩) (Kd.R_far (p := ⟨gb133, 0, none⟩) (Kd.R_mono (Kd.R_mono HO_6.out (fun k_ hk => (⟨hk, hk.2⟩ : _ ∧ k_ ≠ gb133))) (fun k_ hk => (⟨hk, hk.1.1.2⟩ : _ ∧ k_ ≠ gb132))) (fun _ hk => hk.1.2) (.int .i64 0)) (fun _ hk => hk.1.2) (.int .i64 0)) (fun _ hk => hk.1.2) (.int .i64 0)) (fun _ hk => hk.1.2) (.int .i64 0)) (fun _ hk => hk.1.2) (.int .i64 0)) (fun _ hk => hk.1.2) (.int .i64 0)) (fun _ hk => hk.1.2) (.int .i64 0)) (fun _ hk => hk.1.2) (.int .i64 0)) (fun _ hk => hk.2) (.int .i64 ((rd_T71 t101 t130).f0))) (fun _ hk => hk.2) (.int .i64 ((rd_T71 t101 t130).f1))) (fun _ hk => hk.2) (.int .i64 ((rd_T71 t101 t130).f2.f0))) (fun _ hk => hk.2) (.int .i64 ((rd_T71 t101 t130).f2.f1))) (fun _ hk => hk.2) (.int .i64 ((rd_T71 t101 t130).f3.f0))) (fun _ hk => hk.2) (.int .i64 ((rd_T71 t101 t130).f3.f1))) (fun _ hk => hk.2) (.int .i64 ((rd_T71 t101 t130).f4))) (fun _ hk => hk.2) (.int .i64 ((rd_T71 t101 t130).f5))) (fun _ hk => ⟨hk.1.1.1.1, ⟨hk.1.1.1.2, hk.1.1.2⟩⟩)⟩, ⟨by (with_reducible repeat (first | refine blk_drewN ?_ _ | refine blk_drew ?_ | refine blk_alloc ?_ _)); refine blk_far ?_ NB111_132.out _; (with_reducible repeat (first | refine blk_drewN ?_ _ | refine blk_drew ?_ | refine blk_alloc ?_ _)); refine blk_far ?_ NB111_132.out _; (with_reducible repeat (first | refine blk_drewN ?_ _ | refine blk_drew ?_ | refine blk_alloc ?_ _)); refine blk_far ?_ NB111_132.out _; (with_reducible repeat (first | refine blk_drewN ?_ _ | refine blk_drew ?_ | refine blk_alloc ?_ _)); refine blk_far ?_ NB111_132.out _; (with_reducible repeat (first | refine blk_drewN ?_ _ | refine blk_drew ?_ | refine blk_alloc ?_ _)); refine blk_far ?_ NB111_132.out _; (with_reducible repeat (first | refine blk_drewN ?_ _ | refine blk_drew ?_ | refine blk_alloc ?_ _)); refine blk_far ?_ NB111_132.out _; (with_reducible repeat (first | refine blk_drewN ?_ _ | refine blk_drew ?_ | refine blk_alloc ?_ _)); refine blk_far ?_ NB111_132.out _; (with_reducible repeat (first | refine blk_drewN ?_ _ | refine blk_drew ?_ | refine blk_alloc ?_ _)); refine blk_far ?_ NB111_132.out _; (with_reducible repeat (first | refine blk_drewN ?_ _ | refine blk_drew ?_ | refine blk_alloc ?_ _)); refine blk_far ?_ NB111_133.out _; (with_reducible repeat (first | refine blk_drewN ?_ _ | refine blk_drew ?_ | refine blk_alloc ?_ _)); refine blk_far ?_ NB111_133.out _; (with_reducible repeat (first | refine blk_drewN ?_ _ | refine blk_drew ?_ | refine blk_alloc ?_ _)); refine blk_far ?_ NB111_133.out _; (with_reducible repeat (first | refine blk_drewN ?_ _ | refine blk_drew ?_ | refine blk_alloc ?_ _)); refine blk_far ?_ NB111_133.out _; (with_reducible repeat (first | refine blk_drewN ?_ _ | refine blk_drew ?_ | refine blk_alloc ?_ _)); refine blk_far ?_ NB111_133.out _; (with_reducible repeat (first | refine blk_drewN ?_ _ | refine blk_drew ?_ | refine blk_alloc ?_ _)); refine blk_far ?_ NB111_133.out _; (with_reducible repeat (first | refine blk_drewN ?_ _ | refine blk_drew ?_ | refine blk_alloc ?_ _)); refine blk_far ?_ NB111_133.out _; (with_reducible repeat (first | refine blk_drewN ?_ _ | refine blk_drew ?_ | refine blk_alloc ?_ _)); refine blk_far ?_ NB111_133.out _; (with_reducible repeat (first | refine blk_drewN ?_ _ | refine blk_drew ?_ | refine blk_alloc ?_ _)); exact BK111.out⟩, ⟨by (with_reducible repeat (first | refine blk_drewN ?_ _ | refine blk_drew ?_ | refine blk_alloc ?_ _)); refine blk_far ?_ NB116_132.out _; (with_reducible repeat (first | refine blk_drewN ?_ _ | refine blk_drew ?_ | refine blk_alloc ?_ _)); refine blk_far ?_ NB116_132.out _; (with_reducible repeat (first | refine blk_drewN ?_ _ | refine blk_drew ?_ | refine blk_alloc ?_ _)); refine blk_far ?_ NB116_132.out _; (with_reducible repeat (first | refine blk_drewN ?_ _ | refine blk_drew ?_ | refine blk_alloc ?_ _)); refine blk_far ?_ NB116_132.out _; (with_reducible repeat (first | refine blk_drewN ?_ _ | refine blk_drew ?_ | refine blk_alloc ?_ _)); refine blk_far ?_ NB116_132.out _; (with_reducible repeat (first | refine blk_drewN ?_ _ | refine blk_drew ?_ | refine blk_alloc ?_ _)); refine blk_far ?_ NB116_132.out _; (with_reducible repeat (first | refine blk_drewN ?_ _ | refine blk_drew ?_ | refine blk_alloc ?_ _)); refine blk_far ?_ NB116_132.out _; (with_reducible repeat (first | refine blk_drewN ?_ _ | refine blk_drew ?_ | refine blk_alloc ?_ _)); refine blk_far ?_ NB116_132.out _; (with_reducible repeat (first | refine blk_drewN ?_ _ | refine blk_drew ?_ | refine blk_alloc ?_ _)); refine blk_far ?_ NB116_133.out _; (with_reducible repeat (first | refine blk_drewN ?_ _ | refine blk_drew ?_ | refine blk_alloc ?_ _)); refine blk_far ?_ NB116_133.out _; (with_reducible repeat (first | refine blk_drewN ?_ _ | refine blk_drew ?_ | refine blk_alloc ?_ _)); refine blk_far ?_ NB116_133.out _; (with_reducible repeat (first | refine blk_drewN ?_ _ | refine blk_drew ?_ | refine blk_alloc ?_ _)); refine blk_far ?_ NB116_133.out _; (with_reducible repeat (first | refine blk_drewN ?_ _ | refine blk_drew ?_ | refine blk_alloc ?_ _)); refine blk_far ?_ NB116_133.out _; (with_reducible repeat (first | refine blk_drewN ?_ _ | refine blk_drew ?_ | refine blk_alloc ?_ _)); refine blk_far ?_ NB116_133.out _; (with_reducible repeat (first | refine blk_drewN ?_ _ | refine blk_drew ?_ | refine blk_alloc ?_ _)); refine blk_far ?_ NB116_133.out _; (with_reducible repeat (first | refine blk_drewN ?_ _ | refine blk_drew ?_ | refine blk_alloc ?_ _)); refine blk_far ?_ NB116_133.out _; (with_reducible repeat (first | refine blk_drewN ?_ _ | refine blk_drew ?_ | refine blk_alloc ?_ _)); exact BK116.out⟩, ⟨by (with_reducible repeat (first | refine blk_drewN ?_ _ | refine blk_drew ?_ | refine blk_alloc ?_ _)); refine blk_far ?_ NB121_132.out _; (with_reducible repeat (first | refine blk_drewN ?_ _ | refine blk_drew ?_ | refine blk_alloc ?_ _)); refine blk_far ?_ NB121_132.out _; (with_reducible repeat (first | refine blk_drewN ?_ _ | refine blk_drew ?_ | refine blk_alloc ?_ _)); refine blk_far ?_ NB121_132.out _; (with_reducible repeat (first | refine blk_drewN ?_ _ | refine blk_drew ?_ | refine blk_alloc ?_ _)); refine blk_far ?_ NB121_132.out _; (with_reducible repeat (first | refine blk_drewN ?_ _ | refine blk_drew ?_ | refine blk_alloc ?_ _)); refine blk_far ?_ NB121_132.out _; (with_reducible repeat (first | refine blk_drewN ?_ _ | refine blk_drew ?_ | refine blk_alloc ?_ _)); refine blk_far ?_ NB121_132.out _; (with_reducible repeat (first | refine blk_drewN ?_ _ | refine blk_drew ?_ | refine blk_alloc ?_ _)); refine blk_far ?_ NB121_132.out _; (with_reducible repeat (first | refine blk_drewN ?_ _ | refine blk_drew ?_ | refine blk_alloc ?_ _)); refine blk_far ?_ NB121_132.out _; (with_reducible repeat (first | refine blk_drewN ?_ _ | refine blk_drew ?_ | refine blk_alloc ?_ _)); refine blk_far ?_ NB121_133.out _; (with_reducible repeat (first | refine blk_drewN ?_ _ | refine blk_drew ?_ | refine blk_alloc ?_ _)); refine blk_far ?_ NB121_133.out _; (with_reducible repeat (first | refine blk_drewN ?_ _ | refine blk_drew ?_ | refine blk_alloc ?_ _)); refine blk_far ?_ NB121_133.out _; (with_reducible repeat (first | refine blk_drewN ?_ _ | refine blk_drew ?_ | refine blk_alloc ?_ _)); refine blk_far ?_ NB121_133.out _; (with_reducible repeat (first | refine blk_drewN ?_ _ | refine blk_drew ?_ | refine blk_alloc ?_ _)); refine blk_far ?_ NB121_133.out _; (with_reducible repeat (first | refine blk_drewN ?_ _ | refine blk_drew ?_ | refine blk_alloc ?_ _)); refine blk_far ?_ NB121_133.out _; (with_reducible repeat (first | refine blk_drewN ?_ _ | refine blk_drew ?_ | refine blk_alloc ?_ _)); refine blk_far ?_ NB121_133.out _; (with_reducible repeat (first | refine blk_drewN ?_ _ | refine blk_drew ?_ | refine blk_alloc ?_ _)); refine blk_far ?_ NB121_133.out _; (with_reducible repeat (first | refine blk_drewN ?_ _ | refine blk_drew ?_ | refine blk_alloc ?_ _)); exact BK121.out⟩, ⟨by (with_reducible repeat (first | refine blk_drewN ?_ _ | refine blk_drew ?_ | refine blk_alloc ?_ _)); refine blk_put (cs := #[.int .i64 ((rd_T71 t101 t130).f0), .int .i64 ((rd_T71 t101 t130).f1), .int .i64 ((rd_T71 t101 t130).f2.f0), .int .i64 ((rd_T71 t101 t130).f2.f1), .int .i64 ((rd_T71 t101 t130).f3.f0), .int .i64 ((rd_T71 t101 t130).f3.f1), .int .i64 ((rd_T71 t101 t130).f4), .int .i64 0]) ?_ 7 _ rfl; (with_reducible repeat (first | refine blk_drewN ?_ _ | refine blk_drew ?_ | refine blk_alloc ?_ _)); refine blk_put (cs := #[.int .i64 ((rd_T71 t101 t130).f0), .int .i64 ((rd_T71 t101 t130).f1), .int .i64 ((rd_T71 t101 t130).f2.f0), .int .i64 ((rd_T71 t101 t130).f2.f1), .int .i64 ((rd_T71 t101 t130).f3.f0), .int .i64 ((rd_T71 t101 t130).f3.f1), .int .i64 0, .int .i64 0]) ?_ 6 _ rfl; (with_reducible repeat (first | refine blk_drewN ?_ _ | refine blk_drew ?_ | refine blk_alloc ?_ _)); refine blk_put (cs := #[.int .i64 ((rd_T71 t101 t130).f0), .int .i64 ((rd_T71 t101 t130).f1), .int .i64 ((rd_T71 t101 t130).f2.f0), .int .i64 ((rd_T71 t101 t130).f2.f1), .int .i64 ((rd_T71 t101 t130).f3.f0), .int .i64 0, .int .i64 0, .int .i64 0]) ?_ 5 _ rfl; (with_reducible repeat (first | refine blk_drewN ?_ _ | refine blk_drew ?_ | refine blk_alloc ?_ _)); refine blk_put (cs := #[.int .i64 ((rd_T71 t101 t130).f0), .int .i64 ((rd_T71 t101 t130).f1), .int .i64 ((rd_T71 t101 t130).f2.f0), .int .i64 ((rd_T71 t101 t130).f2.f1), .int .i64 0, .int .i64 0, .int .i64 0, .int .i64 0]) ?_ 4 _ rfl; (with_reducible repeat (first | refine blk_drewN ?_ _ | refine blk_drew ?_ | refine blk_alloc ?_ _)); refine blk_put (cs := #[.int .i64 ((rd_T71 t101 t130).f0), .int .i64 ((rd_T71 t101 t130).f1), .int .i64 ((rd_T71 t101 t130).f2.f0), .int .i64 0, .int .i64 0, .int .i64 0, .int .i64 0, .int .i64 0]) ?_ 3 _ rfl; (with_reducible repeat (first | refine blk_drewN ?_ _ | refine blk_drew ?_ | refine blk_alloc ?_ _)); refine blk_put (cs := #[.int .i64 ((rd_T71 t101 t130).f0), .int .i64 ((rd_T71 t101 t130).f1), .int .i64 0, .int .i64 0, .int .i64 0, .int .i64 0, .int .i64 0, .int .i64 0]) ?_ 2 _ rfl; (with_reducible repeat (first | refine blk_drewN ?_ _ | refine blk_drew ?_ | refine blk_alloc ?_ _)); refine blk_put (cs := #[.int .i64 ((rd_T71 t101 t130).f0), .int .i64 0, .int .i64 0, .int .i64 0, .int .i64 0, .int .i64 0, .int .i64 0, .int .i64 0]) ?_ 1 _ rfl; (with_reducible repeat (first | refine blk_drewN ?_ _ | refine blk_drew ?_ | refine blk_alloc ?_ _)); refine blk_put (cs := #[.int .i64 0, .int .i64 0, .int .i64 0, .int .i64 0, .int .i64 0, .int .i64 0, .int .i64 0, .int .i64 0]) ?_ 0 _ rfl; (with_reducible repeat (first | refine blk_drewN ?_ _ | refine blk_drew ?_ | refine blk_alloc ?_ _)); refine blk_far ?_ NB132_133.out _; (with_reducible repeat (first | refine blk_drewN ?_ _ | refine blk_drew ?_ | refine blk_alloc ?_ _)); refine blk_far ?_ NB132_133.out _; (with_reducible repeat (first | refine blk_drewN ?_ _ | refine blk_drew ?_ | refine blk_alloc ?_ _)); refine blk_far ?_ NB132_133.out _; (with_reducible repeat (first | refine blk_drewN ?_ _ | refine blk_drew ?_ | refine blk_alloc ?_ _)); refine blk_far ?_ NB132_133.out _; (with_reducible repeat (first | refine blk_drewN ?_ _ | refine blk_drew ?_ | refine blk_alloc ?_ _)); refine blk_far ?_ NB132_133.out _; (with_reducible repeat (first | refine blk_drewN ?_ _ | refine blk_drew ?_ | refine blk_alloc ?_ _)); refine blk_far ?_ NB132_133.out _; (with_reducible repeat (first | refine blk_drewN ?_ _ | refine blk_drew ?_ | refine blk_alloc ?_ _)); refine blk_far ?_ NB132_133.out _; (with_reducible repeat (first | refine blk_drewN ?_ _ | refine blk_drew ?_ | refine blk_alloc ?_ _)); refine blk_far ?_ NB132_133.out _; (with_reducible repeat (first | refine blk_drewN ?_ _ | refine blk_drew ?_ | refine blk_alloc ?_ _)); exact BK132.out⟩, ⟨by (with_reducible repeat (first | refine blk_drewN ?_ _ | refine blk_drew ?_ | refine blk_alloc ?_ _)); refine blk_far ?_ NB133_132.out _; (with_reducible repeat (first | refine blk_drewN ?_ _ | refine blk_drew ?_ | refine blk_alloc ?_ _)); refine blk_far ?_ NB133_132.out _; (with_reducible repeat (first | refine blk_drewN ?_ _ | refine blk_drew ?_ | refine blk_alloc ?_ _)); refine blk_far ?_ NB133_132.out _; (with_reducible repeat (first | refine blk_drewN ?_ _ | refine blk_drew ?_ | refine blk_alloc ?_ _)); refine blk_far ?_ NB133_132.out _; (with_reducible repeat (first | refine blk_drewN ?_ _ | refine blk_drew ?_ | refine blk_alloc ?_ _)); refine blk_far ?_ NB133_132.out _; (with_reducible repeat (first | refine blk_drewN ?_ _ | refine blk_drew ?_ | refine blk_alloc ?_ _)); refine blk_far ?_ NB133_132.out _; (with_reducible repeat (first | refine blk_drewN ?_ _ | refine blk_drew ?_ | refine blk_alloc ?_ _)); refine blk_far ?_ NB133_132.out _; (with_reducible repeat (first | refine blk_drewN ?_ _ | refine blk_drew ?_ | refine blk_alloc ?_ _)); refine blk_far ?_ NB133_132.out _; (with_reducible repeat (first | refine blk_drewN ?_ _ | refine blk_drew ?_ | refine blk_alloc ?_ _)); refine blk_put (cs := #[.int .i64 0, .int .i64 0, .int .i64 0, .int .i64 0, .int .i64 0, .int .i64 0, .int .i64 0, .int .i64 0]) ?_ 7 _ rfl; (with_reducible repeat (first | refine blk_drewN ?_ _ | refine blk_drew ?_ | refine blk_alloc ?_ _)); refine blk_put (cs := #[.int .i64 0, .int .i64 0, .int .i64 0, .int .i64 0, .int .i64 0, .int .i64 0, .int .i64 0, .int .i64 0]) ?_ 6 _ rfl; (with_reducible repeat (first | refine blk_drewN ?_ _ | refine blk_drew ?_ | refine blk_alloc ?_ _)); refine blk_put (cs := #[.int .i64 0, .int .i64 0, .int .i64 0, .int .i64 0, .int .i64 0, .int .i64 0, .int .i64 0, .int .i64 0]) ?_ 5 _ rfl; (with_reducible repeat (first | refine blk_drewN ?_ _ | refine blk_drew ?_ | refine blk_alloc ?_ _)); refine blk_put (cs := #[.int .i64 0, .int .i64 0, .int .i64 0, .int .i64 0, .int .i64 0, .int .i64 0, .int .i64 0, .int .i64 0]) ?_ 4 _ rfl; (with_reducible repeat (first | refine blk_drewN ?_ _ | refine blk_drew ?_ | refine blk_alloc ?_ _)); refine blk_put (cs := #[.int .i64 0, .int .i64 0, .int .i64 0, .int .i64 0, .int .i64 0, .int .i64 0, .int .i64 0, .int .i64 0]) ?_ 3 _ rfl; (with_reducible repeat (first | refine blk_drewN ?_ _ | refine blk_drew ?_ | refine blk_alloc ?_ _)); refine blk_put (cs := #[.int .i64 0, .int .i64 0, .int .i64 0, .int .i64 0, .int .i64 0, .int .i64 0, .int .i64 0, .int .i64 0]) ?_ 2 _ rfl; (with_reducible repeat (first | refine blk_drewN ?_ _ | refine blk_drew ?_ | refine blk_alloc ?_ _)); refine blk_put (cs := #[.int .i64 0, .int .i64 0, .int .i64 0, .int .i64 0, .int .i64 0, .int .i64 0, .int .i64 0, .int .i64 0]) ?_ 1 _ rfl; (with_reducible repeat (first | refine blk_drewN ?_ _ | refine blk_drew ?_ | refine blk_alloc ?_ _)); refine blk_put (cs := #[.int .i64 0, .int .i64 0, .int .i64 0, .int .i64 0, .int .i64 0, .int .i64 0, .int .i64 0, .int .i64 0]) ?_ 0 _ rfl; (with_reducible repeat (first | refine blk_drewN ?_ _ | refine blk_drew ?_ | refine blk_alloc ?_ _)); exact BK133.out⟩, ⟨K5 HB GE111.out GE116.out GE121.out GE132.out GE133.out⟩⟩
            ·rw [if_neg c109] at H
             exact absurd H (by simp)
           ·rw [if_neg c108] at H
            exact absurd H (by simp)
          ·rw [if_neg c107] at H
           have c107b0 : decide (0 ≤ t130) = false := decide_eq_false c107
           clear c107
           (first | rw [c107b0] | (simp only [i64_w, i32_w]; rw [c107b0]) | skip)
           have H' := Aside0.mk H
           clear H
           go_wp2
           go_meet
           case rel => exact ⟨_, (0), (0), (0), (0), (0), (0), (0), (0), H', ⟨by have := HJ2.out; have := HJ9.out; have := HJ79.out; first | omega | exact Nat.le_refl _⟩, ⟨by (with_reducible repeat (first | apply Kd.R_alloc | apply Kd.R_drewN | apply Kd.R_drew)); exact Kd.R_mono (Kd.R_far (p := ⟨gb133, 7, none⟩) (Kd.R_far (p := ⟨gb133, 6, none⟩) (Kd.R_far (p := ⟨gb133, 5, none⟩) (Kd.R_far (p := ⟨gb133, 4, none⟩) (Kd.R_far (p := ⟨gb133, 3, none⟩) (Kd.R_far (p := ⟨gb133, 2, none⟩) (Kd.R_far (p := ⟨gb133, 1, none⟩) (Kd.R_far (p := ⟨gb133, 0, none⟩) (Kd.R_mono HO_5.out (fun k_ hk => (⟨hk, hk.2⟩ : _ ∧ k_ ≠ gb133))) (fun _ hk => hk.2) (.int .i64 0)) (fun _ hk => hk.2) (.int .i64 0)) (fun _ hk => hk.2) (.int .i64 0)) (fun _ hk => hk.2) (.int .i64 0)) (fun _ hk => hk.2) (.int .i64 0)) (fun _ hk => hk.2) (.int .i64 0)) (fun _ hk => hk.2) (.int .i64 0)) (fun _ hk => hk.2) (.int .i64 0)) (fun _ hk => ⟨hk.1.1.1, ⟨hk.1.1.2, hk.1.2⟩⟩)⟩, ⟨by (with_reducible repeat (first | apply Kd.R_alloc | apply Kd.R_drewN | apply Kd.R_drew)); exact Kd.R_mono (Kd.R_far (p := ⟨gb133, 7, none⟩) (Kd.R_far (p := ⟨gb133, 6, none⟩) (Kd.R_far (p := ⟨gb133, 5, none⟩) (Kd.R_far (p := ⟨gb133, 4, none⟩) (Kd.R_far (p := ⟨gb133, 3, none⟩) (Kd.R_far (p := ⟨gb133, 2, none⟩) (Kd.R_far (p := ⟨gb133, 1, none⟩) (Kd.R_far (p := ⟨gb133, 0, none⟩) (Kd.R_mono HO_6.out (fun k_ hk => (⟨hk, hk.2⟩ : _ ∧ k_ ≠ gb133))) (fun _ hk => hk.2) (.int .i64 0)) (fun _ hk => hk.2) (.int .i64 0)) (fun _ hk => hk.2) (.int .i64 0)) (fun _ hk => hk.2) (.int .i64 0)) (fun _ hk => hk.2) (.int .i64 0)) (fun _ hk => hk.2) (.int .i64 0)) (fun _ hk => hk.2) (.int .i64 0)) (fun _ hk => hk.2) (.int .i64 0)) (fun _ hk => ⟨hk.1.1.1, ⟨hk.1.1.2, hk.1.2⟩⟩)⟩, ⟨by (with_reducible repeat (first | refine blk_drewN ?_ _ | refine blk_drew ?_ | refine blk_alloc ?_ _)); refine blk_far ?_ NB111_133.out _; (with_reducible repeat (first | refine blk_drewN ?_ _ | refine blk_drew ?_ | refine blk_alloc ?_ _)); refine blk_far ?_ NB111_133.out _; (with_reducible repeat (first | refine blk_drewN ?_ _ | refine blk_drew ?_ | refine blk_alloc ?_ _)); refine blk_far ?_ NB111_133.out _; (with_reducible repeat (first | refine blk_drewN ?_ _ | refine blk_drew ?_ | refine blk_alloc ?_ _)); refine blk_far ?_ NB111_133.out _; (with_reducible repeat (first | refine blk_drewN ?_ _ | refine blk_drew ?_ | refine blk_alloc ?_ _)); refine blk_far ?_ NB111_133.out _; (with_reducible repeat (first | refine blk_drewN ?_ _ | refine blk_drew ?_ | refine blk_alloc ?_ _)); refine blk_far ?_ NB111_133.out _; (with_reducible repeat (first | refine blk_drewN ?_ _ | refine blk_drew ?_ | refine blk_alloc ?_ _)); refine blk_far ?_ NB111_133.out _; (with_reducible repeat (first | refine blk_drewN ?_ _ | refine blk_drew ?_ | refine blk_alloc ?_ _)); refine blk_far ?_ NB111_133.out _; (with_reducible repeat (first | refine blk_drewN ?_ _ | refine blk_drew ?_ | refine blk_alloc ?_ _)); exact BK111.out⟩, ⟨by (with_reducible repeat (first | refine blk_drewN ?_ _ | refine blk_drew ?_ | refine blk_alloc ?_ _)); refine blk_far ?_ NB116_133.out _; (with_reducible repeat (first | refine blk_drewN ?_ _ | refine blk_drew ?_ | refine blk_alloc ?_ _)); refine blk_far ?_ NB116_133.out _; (with_reducible repeat (first | refine blk_drewN ?_ _ | refine blk_drew ?_ | refine blk_alloc ?_ _)); refine blk_far ?_ NB116_133.out _; (with_reducible repeat (first | refine blk_drewN ?_ _ | refine blk_drew ?_ | refine blk_alloc ?_ _)); refine blk_far ?_ NB116_133.out _; (with_reducible repeat (first | refine blk_drewN ?_ _ | refine blk_drew ?_ | refine blk_alloc ?_ _)); refine blk_far ?_ NB116_133.out _; (with_reducible repeat (first | refine blk_drewN ?_ _ | refine blk_drew ?_ | refine blk_alloc ?_ _)); refine blk_far ?_ NB116_133.out _; (with_reducible repeat (first | refine blk_drewN ?_ _ | refine blk_drew ?_ | refine blk_alloc ?_ _)); refine blk_far ?_ NB116_133.out _; (with_reducible repeat (first | refine blk_drewN ?_ _ | refine blk_drew ?_ | refine blk_alloc ?_ _)); refine blk_far ?_ NB116_133.out _; (with_reducible repeat (first | refine blk_drewN ?_ _ | refine blk_drew ?_ | refine blk_alloc ?_ _)); exact BK116.out⟩, ⟨by (with_reducible repeat (first | refine blk_drewN ?_ _ | refine blk_drew ?_ | refine blk_alloc ?_ _)); refine blk_far ?_ NB121_133.out _; (with_reducible repeat (first | refine blk_drewN ?_ _ | refine blk_drew ?_ | refine blk_alloc ?_ _)); refine blk_far ?_ NB121_133.out _; (with_reducible repeat (first | refine blk_drewN ?_ _ | refine blk_drew ?_ | refine blk_alloc ?_ _)); refine blk_far ?_ NB121_133.out _; (with_reducible repeat (first | refine blk_drewN ?_ _ | refine blk_drew ?_ | refine blk_alloc ?_ _)); refine blk_far ?_ NB121_133.out _; (with_reducible repeat (first | refine blk_drewN ?_ _ | refine blk_drew ?_ | refine blk_alloc ?_ _)); refine blk_far ?_ NB121_133.out _; (with_reducible repeat (first | refine blk_drewN ?_ _ | refine blk_drew ?_ | refine blk_alloc ?_ _)); refine blk_far ?_ NB121_133.out _; (with_reducible repeat (first | refine blk_drewN ?_ _ | refine blk_drew ?_ | refine blk_alloc ?_ _)); refine blk_far ?_ NB121_133.out _; (with_reducible repeat (first | refine blk_drewN ?_ _ | refine blk_drew ?_ | refine blk_alloc ?_ _)); refine blk_far ?_ NB121_133.out _; (with_reducible repeat (first | refine blk_drewN ?_ _ | refine blk_drew ?_ | refine blk_alloc ?_ _)); exact BK121.out⟩, ⟨by (with_reducible repeat (first | refine blk_drewN ?_ _ | refine blk_drew ?_ | refine blk_alloc ?_ _)); refine blk_far ?_ NB132_133.out _; (with_reducible repeat (first | refine blk_drewN ?_ _ | refine blk_drew ?_ | refine blk_alloc ?_ _)); refine blk_far ?_ NB132_133.out _; (with_reducible repeat (first | refine blk_drewN ?_ _ | refine blk_drew ?_ | refine blk_alloc ?_ _)); refine blk_far ?_ NB132_133.out _; (with_reducible repeat (first | refine blk_drewN ?_ _ | refine blk_drew ?_ | refine blk_alloc ?_ _)); refine blk_far ?_ NB132_133.out _; (with_reducible repeat (first | refine blk_drewN ?_ _ | refine blk_drew ?_ | refine blk_alloc ?_ _)); refine blk_far ?_ NB132_133.out _; (with_reducible repeat (first | refine blk_drewN ?_ _ | refine blk_drew ?_ | refine blk_alloc ?_ _)); refine blk_far ?_ NB132_133.out _; (with_reducible repeat (first | refine blk_drewN ?_ _ | refine blk_drew ?_ | refine blk_alloc ?_ _)); refine blk_far ?_ NB132_133.out _; (with_reducible repeat (first | refine blk_drewN ?_ _ | refine blk_drew ?_ | refine blk_alloc ?_ _)); refine blk_far ?_ NB132_133.out _; (with_reducible repeat (first | refine blk_drewN ?_ _ | refine blk_drew ?_ | refine blk_alloc ?_ _)); exact BK132.out⟩, ⟨by (with_reducible repeat (first | refine blk_drewN ?_ _ | refine blk_drew ?_ | refine blk_alloc ?_ _)); refine blk_put (cs := #[.int .i64 0, .int .i64 0, .int .i64 0, .int .i64 0, .int .i64 0, .int .i64 0, .int .i64 0, .int .i64 0]) ?_ 7 _ rfl; (with_reducible repeat (first | refine blk_drewN ?_ _ | refine blk_drew ?_ | refine blk_alloc ?_ _)); refine blk_put (cs := #[.int .i64 0, .int .i64 0, .int .i64 0, .int .i64 0, .int .i64 0, .int .i64 0, .int .i64 0, .int .i64 0]) ?_ 6 _ rfl; (with_reducible repeat (first | refine blk_drewN ?_ _ | refine blk_drew ?_ | refine blk_alloc ?_ _)); refine blk_put (cs := #[.int .i64 0, .int .i64 0, .int .i64 0, .int .i64 0, .int .i64 0, .int .i64 0, .int .i64 0, .int .i64 0]) ?_ 5 _ rfl; (with_reducible repeat (first | refine blk_drewN ?_ _ | refine blk_drew ?_ | refine blk_alloc ?_ _)); refine blk_put (cs := #[.int .i64 0, .int .i64 0, .int .i64 0, .int .i64 0, .int .i64 0, .int .i64 0, .int .i64 0, .int .i64 0]) ?_ 4 _ rfl; (with_reducible repeat (first | refine blk_drewN ?_ _ | refine blk_drew ?_ | refine blk_alloc ?_ _)); refine blk_put (cs := #[.int .i64 0, .int .i64 0, .int .i64 0, .int .i64 0, .int .i64 0, .int .i64 0, .int .i64 0, .int .i64 0]) ?_ 3 _ rfl; (with_reducible repeat (first | refine blk_drewN ?_ _ | refine blk_drew ?_ | refine blk_alloc ?_ _)); refine blk_put (cs := #[.int .i64 0, .int .i64 0, .int .i64 0, .int .i64 0, .int .i64 0, .int .i64 0, .int .i64 0, .int .i64 0]) ?_ 2 _ rfl; (with_reducible repeat (first | refine blk_drewN ?_ _ | refine blk_drew ?_ | refine blk_alloc ?_ _)); refine blk_put (cs := #[.int .i64 0, .int .i64 0, .int .i64 0, .int .i64 0, .int .i64 0, .int .i64 0, .int .i64 0, .int .i64 0]) ?_ 1 _ rfl; (with_reducible repeat (first | refine blk_drewN ?_ _ | refine blk_drew ?_ | refine blk_alloc ?_ _)); refine blk_put (cs := #[.int .i64 0, .int .i64 0, .int .i64 0, .int .i64 0, .int .i64 0, .int .i64 0, .int .i64 0, .int .i64 0]) ?_ 0 _ rfl; (with_reducible repeat (first | refine blk_drewN ?_ _ | refine blk_drew ?_ | refine blk_alloc ?_ _)); exact BK133.out⟩, ⟨K5 HB GE111.out GE116.out GE121.out GE132.out GE133.out⟩⟩
         case rest =>
          clear HC89
          try clear c1
          try clear p1
          try clear q1
          try clear hx1
          try clear c2
          try clear p2
          try clear c3
          try clear c4
          try clear c4b0
          try clear c4b1
          try clear c5
          try clear c6
          try clear c7
          try clear c8
          try clear c9
          try clear c10
          try clear c11
          try clear p13
          try clear q13
          try clear hx13
          try clear c19
          try clear c23
          try clear c24
          try clear c26
          try clear c26b0
          try clear c27
          try clear c28
          try clear c30
          try clear c32
          try clear c32b0
          try clear c32b1
          try clear c32b2
          try clear c33
          try clear c34
          try clear c36
          try clear c38
          try clear c38b0
          try clear c39
          try clear c40
          try clear c42
          try clear c45
          try clear c45b0
          try clear c45b1
          try clear c45b2
          try clear c46
          try clear c47
          try clear c49
          try clear c50
          try clear c53
          try clear c55
          try clear c56
          try clear c58
          try clear c63
          try clear c64
          try clear c66
          try clear c70
          try clear c71
          try clear c71b0
          try clear c71b1
          try clear c71b2
          try clear c72
          try clear c72b0
          try clear c72b1
          try clear c72b2
          try clear c73
          try clear c73b0
          try clear c73b1
          try clear c73b2
          try clear c74
          try clear c75
          try clear c77
          try clear c81
          try clear c84
          try clear c85
          try clear c90
          try clear c91
          try clear c97
          try clear c98
          try clear c99
          try clear c102
          try clear c103
          try clear c104
          try clear c105
          try clear c107
          try clear c107b0
          try clear c108
          try clear c108b0
          try clear c109
          try clear c109b0
          try clear c110
          try clear c111
          try clear c112
          try clear c113
          try clear hcz100_0 hcz100_1 hcz100_2 hcz100_3 hcz100_4 hcz100_5 hcz100_6 hcz100_7 hfz100_0
          try clear hcz106_0 hcz106_1 hcz106_2 hcz106_3 hcz106_4 hcz106_5 hcz106_6 hcz106_7 hfz106_0
          try clear hcz114_0 hcz114_1 hcz114_2 hcz114_3 hcz114_4 hcz114_5 hcz114_6 hcz114_7 hfz114_0
          try clear hcz16_0 hcz16_1 hcz16_2 hfz16_0
          try clear hcz20_0 hcz20_1 hcz20_2 hfz20_0
          try clear hcz25_0 hcz25_1 hcz25_2 hfz25_0
          try clear hcz29_0 hcz29_1 hcz29_2 hfz29_0
          try clear hcz31_0 hcz31_1 hcz31_2 hfz31_0
          try clear hcz35_0 hcz35_1 hcz35_2 hfz35_0
          try clear hcz37_0 hcz37_1 hcz37_2 hfz37_0
          try clear hcz41_0 hcz41_1 hcz41_2 hfz41_0
          try clear hcz43_0 hcz43_1 hcz43_2 hfz43_0
          try clear hcz44_0 hcz44_1 hcz44_2 hfz44_0
          try clear hcz48_0 hcz48_1 hcz48_2 hfz48_0
          try clear hcz50_0 hcz50_1 hcz50_2 hfz50_0
          try clear hcz51_0 hcz51_1 hcz51_2 hfz51_0
          try clear hcz57_0 hcz57_1 hcz57_2 hfz57_0
          try clear hcz59_0 hcz59_1 hcz59_2 hfz59_0
          try clear hcz60_0 hcz60_1 hcz60_2 hfz60_0
          try clear hcz65_0 hcz65_1 hcz65_2 hfz65_0
          try clear hcz67_0 hcz67_1 hcz67_2 hfz67_0
          try clear hcz68_0 hcz68_1 hcz68_2 hfz68_0
          try clear hcz76_0 hcz76_1 hcz76_2 hfz76_0
          try clear hcz78_0 hcz78_1 hcz78_2 hfz78_0
          try clear hcz79_0 hcz79_1 hcz79_2 hfz79_0
          try clear hcz86_0 hcz86_1 hcz86_2 hfz86_0
          try clear hcz92_0 hcz92_1 hcz92_2 hfz92_0
          try clear hcz94_0 hcz94_1 hcz94_2 hfz94_0
          try clear hx134_0
          try clear hx134_1
          try clear hx134_2
          try clear hx134_3
          try clear hx134_4
          try clear hx134_5
          try clear hx134_6
          try clear hx134_7
          try clear p134
          try clear p2
          try clear q134
          obtain ⟨kq, x133000_88, x133001_88, x133002_88, x133003_88, x133004_88, x133005_88, x133006_88, x133007_88, HA, HJ88, HO_5, HO_6, BK111, BK116, BK121, BK132, BK133, HB⟩ := hcut
          cases kq with
          | zero => exact absurd HA.out (by simp [laws_FnRulesDiffer.j3])
          | succ kj88 =>
           have H := HA.out
           clear HA
           simp only [laws_FnRulesDiffer.j3] at H
           have HC115 := Aside0.mk H
           clear H
           go_upto_if 118 with (fail)
           go_cut [] (fun wc => ∃ (kq : Nat) (x134000_114 : Int) (x134001_114 : Int) (x134002_114 : Int) (x134003_114 : Int) (x134004_114 : Int) (x134005_114 : Int) (x134006_114 : Int) (x134007_114 : Int), Aside0 (laws_FnRulesDiffer.j4 kq t101 t110 x133000_88 x133001_88 x133002_88 x133003_88 x133004_88 x133005_88 x133006_88 x133007_88 x134000_114 x134001_114 x134002_114 x134003_114 x134004_114 x134005_114 x134006_114 x134007_114 = some r) ∧ Aside0 (kq ≤ kj88) ∧ Aside0 (Kd.R k71 71 wc w.heap.size (fun k_ => k_ ≠ gb132 ∧ k_ ≠ gb133) (.slice Ao12 t101.length co12) t101) ∧ Aside0 (wc.heap[gb111]? = some (.cells #[.int .i64 x112000_79, .int .i64 x112001_79, .int .i64 x112002_79] 60 (0, 0))) ∧ Aside0 (wc.heap[gb116]? = some (.cells #[.int .i64 t112, .int .i64 t113, .int .i64 t114] 60 (0, 0))) ∧ Aside0 (wc.heap[gb121]? = some (.cells #[.int .i64 t117, .int .i64 t118, .int .i64 t119] 60 (0, 0))) ∧ Aside0 (wc.heap[gb132]? = some (.cells #[.int .i64 x133000_88, .int .i64 x133001_88, .int .i64 x133002_88, .int .i64 x133003_88, .int .i64 x133004_88, .int .i64 x133005_88, .int .i64 x133006_88, .int .i64 x133007_88] 71 (0, 0))) ∧ Aside0 (wc.heap[gb133]? = some (.cells #[.int .i64 x134000_114, .int .i64 x134001_114, .int .i64 x134002_114, .int .i64 x134003_114, .int .i64 x134004_114, .int .i64 x134005_114, .int .i64 x134006_114, .int .i64 x134007_114] 71 (0, 0))) ∧ Aside0 (Below w.heap.size w wc))
           case first =>
            have H := HC115.out
            clear HC115
            by_cases c116 : t131 ≥ 0
            ·rw [if_pos c116] at H
             have c116b0 : decide (0 ≤ t131) = true := decide_eq_true c116
             clear c116
             (first | rw [c116b0] | (simp only [i64_w, i32_w]; rw [c116b0]) | skip)
             by_cases c117 : 0 ≤ t131
             ·rw [if_pos c117] at H
              have c117b0 : decide (0 ≤ t131) = true := decide_eq_true c117
              clear c117
              by_cases c118 : t131 < (t102.length : Int)
              ·rw [if_pos c118] at H
               have c118b0 : decide (t131 < (t102.length : Int)) = true := decide_eq_true c118
               clear c118
               have H' := Aside0.mk H
               clear H
               have p135 : 0 ≤ (t131 : Int) := OD
               have q135 : t131 < (t102.length : Int) := OD
               obtain ⟨ad135, e135, hx135_0, hx135_1, hx135_2, hx135_3, hx135_4, hx135_5, hx135_6, hx135_7⟩ := at_T71 (Kd.R_reads' HO_6.out).2.2 t131 p135 q135
               cases e135
               replace p135 := eq_true p135
               replace q135 := eq_true q135
               have hnb119 := NB133_111.out
               have hnc119 := NB111_133.out
               have hnb120 := NB133_116.out
               have hnc120 := NB116_133.out
               have hnb121 := NB133_121.out
               have hnc121 := NB121_133.out
               have hnb122 := NB133_132.out
               have hnc122 := NB132_133.out
               obtain ⟨hcz123_0, hcz123_1, hcz123_2, hcz123_3, hcz123_4, hcz123_5, hcz123_6, hcz123_7, hfz123_0⟩ := y8 wc BK133.out
               go_wp2
               go_meet
               case rel => exact ⟨_, ((rd_T71 t102 t131).f0), ((rd_T71 t102 t131).f1), ((rd_T71 t102 t131).f2.f0), ((rd_T71 t102 t131).f2.f1), ((rd_T71 t102 t131).f3.f0), ((rd_T71 t102 t131).f3.f1), ((rd_T71 t102 t131).f4), ((rd_T71 t102 t131).f5), H', ⟨by have := HJ2.out; have := HJ9.out; have := HJ79.out; have := HJ88.out; first | omega | exact Nat.le_refl _⟩, ⟨by (with_reducible repeat (first | apply Kd.R_alloc | apply Kd.R_drewN | apply Kd.R_drew)); exact Kd.R_mono (Kd.R_far (p := ⟨gb133, 7, none⟩) (Kd.R_far (p := ⟨gb133, 6, none⟩) (Kd.R_far (p := ⟨gb133, 5, none⟩) (Kd.R_far (p := ⟨gb133, 4, none⟩) (Kd.R_far (p := ⟨gb133, 3, none⟩) (Kd.R_far (p := ⟨gb133, 2, none⟩) (Kd.R_far (p := ⟨gb133, 1, none⟩) (Kd.R_far (p := ⟨gb133, 0, none⟩) (Kd.R_mono HO_5.out (fun k_ hk => (⟨hk, hk.2.2⟩ : _ ∧ k_ ≠ gb133))) (fun _ hk => hk.2) (.int .i64 ((rd_T71 t102 t131).f0))) (fun _ hk => hk.2) (.int .i64 ((rd_T71 t102 t131).f1))) (fun _ hk => hk.2) (.int .i64 ((rd_T71 t102 t131).f2.f0))) (fun _ hk => hk.2) (.int .i64 ((rd_T71 t102 t131).f2.f1))) (fun _ hk => hk.2) (.int .i64 ((rd_T71 t102 t131).f3.f0))) (fun _ hk => hk.2) (.int .i64 ((rd_T71 t102 t131).f3.f1))) (fun _ hk => hk.2) (.int .i64 ((rd_T71 t102 t131).f4))) (fun _ hk => hk.2) (.int .i64 ((rd_T71 t102 t131).f5))) (fun _ hk => ⟨hk.1.2.1, hk.1.2.2⟩)⟩, ⟨by (with_reducible repeat (first | refine blk_drewN ?_ _ | refine blk_drew ?_ | refine blk_alloc ?_ _)); refine blk_far ?_ NB111_133.out _; (with_reducible repeat (first | refine blk_drewN ?_ _ | refine blk_drew ?_ | refine blk_alloc ?_ _)); refine blk_far ?_ NB111_133.out _; (with_reducible repeat (first | refine blk_drewN ?_ _ | refine blk_drew ?_ | refine blk_alloc ?_ _)); refine blk_far ?_ NB111_133.out _; (with_reducible repeat (first | refine blk_drewN ?_ _ | refine blk_drew ?_ | refine blk_alloc ?_ _)); refine blk_far ?_ NB111_133.out _; (with_reducible repeat (first | refine blk_drewN ?_ _ | refine blk_drew ?_ | refine blk_alloc ?_ _)); refine blk_far ?_ NB111_133.out _; (with_reducible repeat (first | refine blk_drewN ?_ _ | refine blk_drew ?_ | refine blk_alloc ?_ _)); refine blk_far ?_ NB111_133.out _; (with_reducible repeat (first | refine blk_drewN ?_ _ | refine blk_drew ?_ | refine blk_alloc ?_ _)); refine blk_far ?_ NB111_133.out _; (with_reducible repeat (first | refine blk_drewN ?_ _ | refine blk_drew ?_ | refine blk_alloc ?_ _)); refine blk_far ?_ NB111_133.out _; (with_reducible repeat (first | refine blk_drewN ?_ _ | refine blk_drew ?_ | refine blk_alloc ?_ _)); exact BK111.out⟩, ⟨by (with_reducible repeat (first | refine blk_drewN ?_ _ | refine blk_drew ?_ | refine blk_alloc ?_ _)); refine blk_far ?_ NB116_133.out _; (with_reducible repeat (first | refine blk_drewN ?_ _ | refine blk_drew ?_ | refine blk_alloc ?_ _)); refine blk_far ?_ NB116_133.out _; (with_reducible repeat (first | refine blk_drewN ?_ _ | refine blk_drew ?_ | refine blk_alloc ?_ _)); refine blk_far ?_ NB116_133.out _; (with_reducible repeat (first | refine blk_drewN ?_ _ | refine blk_drew ?_ | refine blk_alloc ?_ _)); refine blk_far ?_ NB116_133.out _; (with_reducible repeat (first | refine blk_drewN ?_ _ | refine blk_drew ?_ | refine blk_alloc ?_ _)); refine blk_far ?_ NB116_133.out _; (with_reducible repeat (first | refine blk_drewN ?_ _ | refine blk_drew ?_ | refine blk_alloc ?_ _)); refine blk_far ?_ NB116_133.out _; (with_reducible repeat (first | refine blk_drewN ?_ _ | refine blk_drew ?_ | refine blk_alloc ?_ _)); refine blk_far ?_ NB116_133.out _; (with_reducible repeat (first | refine blk_drewN ?_ _ | refine blk_drew ?_ | refine blk_alloc ?_ _)); refine blk_far ?_ NB116_133.out _; (with_reducible repeat (first | refine blk_drewN ?_ _ | refine blk_drew ?_ | refine blk_alloc ?_ _)); exact BK116.out⟩, ⟨by (with_reducible repeat (first | refine blk_drewN ?_ _ | refine blk_drew ?_ | refine blk_alloc ?_ _)); refine blk_far ?_ NB121_133.out _; (with_reducible repeat (first | refine blk_drewN ?_ _ | refine blk_drew ?_ | refine blk_alloc ?_ _)); refine blk_far ?_ NB121_133.out _; (with_reducible repeat (first | refine blk_drewN ?_ _ | refine blk_drew ?_ | refine blk_alloc ?_ _)); refine blk_far ?_ NB121_133.out _; (with_reducible repeat (first | refine blk_drewN ?_ _ | refine blk_drew ?_ | refine blk_alloc ?_ _)); refine blk_far ?_ NB121_133.out _; (with_reducible repeat (first | refine blk_drewN ?_ _ | refine blk_drew ?_ | refine blk_alloc ?_ _)); refine blk_far ?_ NB121_133.out _; (with_reducible repeat (first | refine blk_drewN ?_ _ | refine blk_drew ?_ | refine blk_alloc ?_ _)); refine blk_far ?_ NB121_133.out _; (with_reducible repeat (first | refine blk_drewN ?_ _ | refine blk_drew ?_ | refine blk_alloc ?_ _)); refine blk_far ?_ NB121_133.out _; (with_reducible repeat (first | refine blk_drewN ?_ _ | refine blk_drew ?_ | refine blk_alloc ?_ _)); refine blk_far ?_ NB121_133.out _; (with_reducible repeat (first | refine blk_drewN ?_ _ | refine blk_drew ?_ | refine blk_alloc ?_ _)); exact BK121.out⟩, ⟨by (with_reducible repeat (first | refine blk_drewN ?_ _ | refine blk_drew ?_ | refine blk_alloc ?_ _)); refine blk_far ?_ NB132_133.out _; (with_reducible repeat (first | refine blk_drewN ?_ _ | refine blk_drew ?_ | refine blk_alloc ?_ _)); refine blk_far ?_ NB132_133.out _; (with_reducible repeat (first | refine blk_drewN ?_ _ | refine blk_drew ?_ | refine blk_alloc ?_ _)); refine blk_far ?_ NB132_133.out _; (with_reducible repeat (first | refine blk_drewN ?_ _ | refine blk_drew ?_ | refine blk_alloc ?_ _)); refine blk_far ?_ NB132_133.out _; (with_reducible repeat (first | refine blk_drewN ?_ _ | refine blk_drew ?_ | refine blk_alloc ?_ _)); refine blk_far ?_ NB132_133.out _; (with_reducible repeat (first | refine blk_drewN ?_ _ | refine blk_drew ?_ | refine blk_alloc ?_ _)); refine blk_far ?_ NB132_133.out _; (with_reducible repeat (first | refine blk_drewN ?_ _ | refine blk_drew ?_ | refine blk_alloc ?_ _)); refine blk_far ?_ NB132_133.out _; (with_reducible repeat (first | refine blk_drewN ?_ _ | refine blk_drew ?_ | refine blk_alloc ?_ _)); refine blk_far ?_ NB132_133.out _; (with_reducible repeat (first | refine blk_drewN ?_ _ | refine blk_drew ?_ | refine blk_alloc ?_ _)); exact BK132.out⟩, ⟨by (with_reducible repeat (first | refine blk_drewN ?_ _ | refine blk_drew ?_ | refine blk_alloc ?_ _)); refine blk_put (cs := #[.int .i64 ((rd_T71 t102 t131).f0), .int .i64 ((rd_T71 t102 t131).f1), .int .i64 ((rd_T71 t102 t131).f2.f0), .int .i64 ((rd_T71 t102 t131).f2.f1), .int .i64 ((rd_T71 t102 t131).f3.f0), .int .i64 ((rd_T71 t102 t131).f3.f1), .int .i64 ((rd_T71 t102 t131).f4), .int .i64 0]) ?_ 7 _ rfl; (with_reducible repeat (first | refine blk_drewN ?_ _ | refine blk_drew ?_ | refine blk_alloc ?_ _)); refine blk_put (cs := #[.int .i64 ((rd_T71 t102 t131).f0), .int .i64 ((rd_T71 t102 t131).f1), .int .i64 ((rd_T71 t102 t131).f2.f0), .int .i64 ((rd_T71 t102 t131).f2.f1), .int .i64 ((rd_T71 t102 t131).f3.f0), .int .i64 ((rd_T71 t102 t131).f3.f1), .int .i64 0, .int .i64 0]) ?_ 6 _ rfl; (with_reducible repeat (first | refine blk_drewN ?_ _ | refine blk_drew ?_ | refine blk_alloc ?_ _)); refine blk_put (cs := #[.int .i64 ((rd_T71 t102 t131).f0), .int .i64 ((rd_T71 t102 t131).f1), .int .i64 ((rd_T71 t102 t131).f2.f0), .int .i64 ((rd_T71 t102 t131).f2.f1), .int .i64 ((rd_T71 t102 t131).f3.f0), .int .i64 0, .int .i64 0, .int .i64 0]) ?_ 5 _ rfl; (with_reducible repeat (first | refine blk_drewN ?_ _ | refine blk_drew ?_ | refine blk_alloc ?_ _)); refine blk_put (cs := #[.int .i64 ((rd_T71 t102 t131).f0), .int .i64 ((rd_T71 t102 t131).f1), .int .i64 ((rd_T71 t102 t131).f2.f0), .int .i64 ((rd_T71 t102 t131).f2.f1), .int .i64 0, .int .i64 0, .int .i64 0, .int .i64 0]) ?_ 4 _ rfl; (with_reducible repeat (first | refine blk_drewN ?_ _ | refine blk_drew ?_ | refine blk_alloc ?_ _)); refine blk_put (cs := #[.int .i64 ((rd_T71 t102 t131).f0), .int .i64 ((rd_T71 t102 t131).f1), .int .i64 ((rd_T71 t102 t131).f2.f0), .int .i64 0, .int .i64 0, .int .i64 0, .int .i64 0, .int .i64 0]) ?_ 3 _ rfl; (with_reducible repeat (first | refine blk_drewN ?_ _ | refine blk_drew ?_ | refine blk_alloc ?_ _)); refine blk_put (cs := #[.int .i64 ((rd_T71 t102 t131).f0), .int .i64 ((rd_T71 t102 t131).f1), .int .i64 0, .int .i64 0, .int .i64 0, .int .i64 0, .int .i64 0, .int .i64 0]) ?_ 2 _ rfl; (with_reducible repeat (first | refine blk_drewN ?_ _ | refine blk_drew ?_ | refine blk_alloc ?_ _)); refine blk_put (cs := #[.int .i64 ((rd_T71 t102 t131).f0), .int .i64 0, .int .i64 0, .int .i64 0, .int .i64 0, .int .i64 0, .int .i64 0, .int .i64 0]) ?_ 1 _ rfl; (with_reducible repeat (first | refine blk_drewN ?_ _ | refine blk_drew ?_ | refine blk_alloc ?_ _)); refine blk_put (cs := #[.int .i64 0, .int .i64 0, .int .i64 0, .int .i64 0, .int .i64 0, .int .i64 0, .int .i64 0, .int .i64 0]) ?_ 0 _ rfl; (with_reducible repeat (first | refine blk_drewN ?_ _ | refine blk_drew ?_ | refine blk_alloc ?_ _)); exact BK133.out⟩, ⟨K5 HB GE111.out GE116.out GE121.out GE132.out GE133.out⟩⟩
              ·rw [if_neg c118] at H
               exact absurd H (by simp)
             ·rw [if_neg c117] at H
              exact absurd H (by simp)
            ·rw [if_neg c116] at H
             have c116b0 : decide (0 ≤ t131) = false := decide_eq_false c116
             clear c116
             (first | rw [c116b0] | (simp only [i64_w, i32_w]; rw [c116b0]) | skip)
             have H' := Aside0.mk H
             clear H
             go_wp2
             go_meet
             case rel => exact ⟨_, (0), (0), (0), (0), (0), (0), (0), (0), H', ⟨by have := HJ2.out; have := HJ9.out; have := HJ79.out; have := HJ88.out; first | omega | exact Nat.le_refl _⟩, ⟨by (with_reducible repeat (first | apply Kd.R_alloc | apply Kd.R_drewN | apply Kd.R_drew)); exact Kd.R_mono HO_5.out (fun _ hk => ⟨hk.2.1, hk.2.2⟩)⟩, ⟨KB BK111⟩, ⟨KB BK116⟩, ⟨KB BK121⟩, ⟨KB BK132⟩, ⟨KB BK133⟩, ⟨K5 HB GE111.out GE116.out GE121.out GE132.out GE133.out⟩⟩
           case rest =>
            clear HC115
            try clear c1
            try clear p1
            try clear q1
            try clear hx1
            try clear c2
            try clear p2
            try clear c3
            try clear c4
            try clear c4b0
            try clear c4b1
            try clear c5
            try clear c6
            try clear c7
            try clear c8
            try clear c9
            try clear c10
            try clear c11
            try clear c12
            try clear p13
            try clear q13
            try clear hx13
            try clear c19
            try clear c23
            try clear c24
            try clear c26
            try clear c26b0
            try clear c27
            try clear c28
            try clear c30
            try clear c32
            try clear c32b0
            try clear c32b1
            try clear c32b2
            try clear c33
            try clear c34
            try clear c36
            try clear c38
            try clear c38b0
            try clear c39
            try clear c40
            try clear c42
            try clear c45
            try clear c45b0
            try clear c45b1
            try clear c45b2
            try clear c46
            try clear c47
            try clear c49
            try clear c50
            try clear c53
            try clear c55
            try clear c56
            try clear c58
            try clear c63
            try clear c64
            try clear c66
            try clear c70
            try clear c71
            try clear c71b0
            try clear c71b1
            try clear c71b2
            try clear c72
            try clear c72b0
            try clear c72b1
            try clear c72b2
            try clear c73
            try clear c73b0
            try clear c73b1
            try clear c73b2
            try clear c74
            try clear c75
            try clear c77
            try clear c81
            try clear c84
            try clear c85
            try clear c90
            try clear c91
            try clear c97
            try clear c98
            try clear c99
            try clear c102
            try clear c103
            try clear c104
            try clear c105
            try clear c107
            try clear c107b0
            try clear c108
            try clear c108b0
            try clear c109
            try clear c109b0
            try clear c110
            try clear c111
            try clear c112
            try clear c113
            try clear c116
            try clear c116b0
            try clear c117
            try clear c117b0
            try clear c118
            try clear c118b0
            try clear c119
            try clear c120
            try clear c121
            try clear c122
            try clear hcz100_0 hcz100_1 hcz100_2 hcz100_3 hcz100_4 hcz100_5 hcz100_6 hcz100_7 hfz100_0
            try clear hcz106_0 hcz106_1 hcz106_2 hcz106_3 hcz106_4 hcz106_5 hcz106_6 hcz106_7 hfz106_0
            try clear hcz114_0 hcz114_1 hcz114_2 hcz114_3 hcz114_4 hcz114_5 hcz114_6 hcz114_7 hfz114_0
            try clear hcz123_0 hcz123_1 hcz123_2 hcz123_3 hcz123_4 hcz123_5 hcz123_6 hcz123_7 hfz123_0
            try clear hcz16_0 hcz16_1 hcz16_2 hfz16_0
            try clear hcz20_0 hcz20_1 hcz20_2 hfz20_0
            try clear hcz25_0 hcz25_1 hcz25_2 hfz25_0
            try clear hcz29_0 hcz29_1 hcz29_2 hfz29_0
            try clear hcz31_0 hcz31_1 hcz31_2 hfz31_0
            try clear hcz35_0 hcz35_1 hcz35_2 hfz35_0
            try clear hcz37_0 hcz37_1 hcz37_2 hfz37_0
            try clear hcz41_0 hcz41_1 hcz41_2 hfz41_0
            try clear hcz43_0 hcz43_1 hcz43_2 hfz43_0
            try clear hcz44_0 hcz44_1 hcz44_2 hfz44_0
            try clear hcz48_0 hcz48_1 hcz48_2 hfz48_0
            try clear hcz50_0 hcz50_1 hcz50_2 hfz50_0
            try clear hcz51_0 hcz51_1 hcz51_2 hfz51_0
            try clear hcz57_0 hcz57_1 hcz57_2 hfz57_0
            try clear hcz59_0 hcz59_1 hcz59_2 hfz59_0
            try clear hcz60_0 hcz60_1 hcz60_2 hfz60_0
            try clear hcz65_0 hcz65_1 hcz65_2 hfz65_0
            try clear hcz67_0 hcz67_1 hcz67_2 hfz67_0
            try clear hcz68_0 hcz68_1 hcz68_2 hfz68_0
            try clear hcz76_0 hcz76_1 hcz76_2 hfz76_0
            try clear hcz78_0 hcz78_1 hcz78_2 hfz78_0
            try clear hcz79_0 hcz79_1 hcz79_2 hfz79_0
            try clear hcz86_0 hcz86_1 hcz86_2 hfz86_0
            try clear hcz92_0 hcz92_1 hcz92_2 hfz92_0
            try clear hcz94_0 hcz94_1 hcz94_2 hfz94_0
            try clear hx134_0
            try clear hx134_1
            try clear hx134_2
            try clear hx134_3
            try clear hx134_4
            try clear hx134_5
            try clear hx134_6
            try clear hx134_7
            try clear hx135_0
            try clear hx135_1
            try clear hx135_2
            try clear hx135_3
            try clear hx135_4
            try clear hx135_5
            try clear hx135_6
            try clear hx135_7
            try clear p1
            try clear p13
            try clear p134
            try clear p135
            try clear p2
            try clear q1
            try clear q13
            try clear q134
            try clear q135
            obtain ⟨kq, x134000_114, x134001_114, x134002_114, x134003_114, x134004_114, x134005_114, x134006_114, x134007_114, HA, HJ114, HO_5, BK111, BK116, BK121, BK132, BK133, HB⟩ := hcut
            cases kq with
            | zero => exact absurd HA.out (by simp [laws_FnRulesDiffer.j4])
            | succ kj114 =>
             have H := HA.out
             clear HA
             simp only [laws_FnRulesDiffer.j4] at H
             replace H := Option.bind_eq_some_iff.mp H
             obtain ⟨⟨t136, t137, t138, t139⟩, A1240, H⟩ := H
             replace H : (if x133000_88 = x134000_114 then (if ((x133001_88 == x134001_114) != t110) = true then (some (!t139)) else (some false)) else (if (false != t110) = true then (some (!t139)) else (some false))) = some r := H
             have A124 := Aside0.mk A1240
             clear A1240
             by_cases c125 : x133000_88 = x134000_114
             ·rw [if_pos c125] at H
              have c125b0 : (x133000_88 == x134000_114) = true := beq_iff_eq.mpr c125
              have c125b1 : (x133000_88 != x134000_114) = false := bne_eq_false_iff_eq.mpr c125
              clear c125
              by_cases c126 : ((x133001_88 == x134001_114) != t110) = true
              ·rw [if_pos c126] at H
               have c126b0 : ((x133001_88 == x134001_114) != t110) = true := c126
               (try (have c126b1 : decide ((x133001_88 == x134001_114) = t110) = false := by simpa using c126))
               (try (have c126b2 : ((x133001_88 == x134001_114) == t110) = false := by simpa using c126))
               (try (have c126b3 : ¬ ((x133001_88 == x134001_114) = t110) := by simpa using c126))
               clear c126
               obtain rfl := Option.some.inj H
               go_wp2_with (first | ((with_reducible refine gate_callee (f := 40) rfl ?_); refine goesL_ (some 126) rfl rfl Try.func40 (by kernel_rfl) rfl #[.slice Ao12 t101.length co12, .slice Ao12 t101.length co12] rfl MT ?_; (with_reducible refine (impl_RulesDiffer.calls kj114 _ _ t101 _ _ t101 t136 t137 t138 t139 _ ?side1 ?side2 ?side3 ?side4 A124.out).mono ?_); (case side1 => exact KC (Kd.R_reads' HO_5.out).2.2); (case side2 => exact (Kd.R_reads' HO_5.out).2.1); (case side3 => exact KC (Kd.R_reads' HO_5.out).2.2); (case side4 => exact (Kd.R_reads' HO_5.out).2.1); rintro e w127 ⟨rfl, hb⟩; refine ⟨_, rfl, ?_⟩; replace HO_5 := am (Kd.R_below (KR HO_5) hb); replace BK111 := am (BB BK111 hb); replace BK116 := am (BB BK116 hb); replace BK121 := am (BB BK121 hb); replace BK132 := am (BB BK132 hb); replace BK133 := am (BB BK133 hb); replace HB := am (below_step (K5 HB GE111.out GE116.out GE121.out GE132.out GE133.out) hb); (try clear hb)) | ((with_reducible refine gate_dst (N := 17) rfl ?_); (try (refine gate_guard (by rfl) ?_; dsimp only)); refine box_event rfl (N := 17) rfl (cs := #[.int .i64 0, .int .i64 0, .int .i64 0]) (t := 60) BX ?_; intro gb140 hg w128 hbox hb; replace HO_5 := am (Kd.R_below (KR HO_5) hb); have BK140 := am (hbox); have GW140 := am (GH5 HB GE111.out GE116.out GE121.out GE132.out GE133.out hg); have GE140 := GW140; replace HB := am (below_step (K5 HB GE111.out GE116.out GE121.out GE132.out GE133.out) hb); have NB111_140 := am (NL BK111 hg); have NB140_111 := am (NG BK111 hg); replace BK111 := am (BB BK111 hb); have NB116_140 := am (NL BK116 hg); have NB140_116 := am (NG BK116 hg); replace BK116 := am (BB BK116 hb); have NB121_140 := am (NL BK121 hg); have NB140_121 := am (NG BK121 hg); replace BK121 := am (BB BK121 hb); have NB132_140 := am (NL BK132 hg); have NB140_132 := am (NG BK132 hg); replace BK132 := am (BB BK132 hb); have NB133_140 := am (NL BK133 hg); have NB140_133 := am (NG BK133 hg); replace BK133 := am (BB BK133 hb); clear hb hbox hg; have hnb129 := NB140_111.out; have hnc129 := NB111_140.out; have hnb130 := NB140_116.out; have hnc130 := NB116_140.out; have hnb131 := NB140_121.out; have hnc131 := NB121_140.out; have hnb132 := NB140_132.out; have hnc132 := NB132_140.out; have hnb133 := NB140_133.out; have hnc133 := NB133_140.out; obtain ⟨hcz134_0, hcz134_1, hcz134_2, hfz134_0⟩ := y3 w128 BK140.out; have hnb135 := NB132_111.out; have hnc135 := NB111_132.out; have hnb136 := NB132_116.out; have hnc136 := NB116_132.out; have hnb137 := NB132_121.out; have hnc137 := NB121_132.out; have hnb138 := NB132_133.out; have hnc138 := NB133_132.out; obtain ⟨hcz139_0, hcz139_1, hcz139_2, hcz139_3, hcz139_4, hcz139_5, hcz139_6, hcz139_7, hfz139_0⟩ := y8 w128 BK132.out; have hnb140 := NB133_111.out; have hnc140 := NB111_133.out; have hnb141 := NB133_116.out; have hnc141 := NB116_133.out; have hnb142 := NB133_121.out; have hnc142 := NB121_133.out; obtain ⟨hcz143_0, hcz143_1, hcz143_2, hcz143_3, hcz143_4, hcz143_5, hcz143_6, hcz143_7, hfz143_0⟩ := y8 w128 BK133.out))
               go_ret
               exact ⟨ER, K6 HB GE111.out GE116.out GE121.out GE132.out GE133.out GE140.out⟩
              ·rw [if_neg c126] at H
               have c126b0 : ((x133001_88 == x134001_114) != t110) = false := by simpa using c126
               (try (have c126b1 : decide ((x133001_88 == x134001_114) = t110) = true := by simpa using c126))
               (try (have c126b2 : ((x133001_88 == x134001_114) == t110) = true := by simpa using c126))
               clear c126
               exact absurd ((Option.some.inj H).trans HR_.out) (by decide)
             ·rw [if_neg c125] at H
              have c125b0 : (x133000_88 == x134000_114) = false := beq_eq_false_iff_ne.mpr c125
              have c125b1 : (x133000_88 != x134000_114) = true := bne_iff_ne.mpr c125
              by_cases c144 : (false != t110) = true
              ·rw [if_pos c144] at H
               have c144b0 : (false != t110) = true := c144
               (try (have c144b1 : decide (false = t110) = false := by simpa using c144))
               (try (have c144b2 : (false == t110) = false := by simpa using c144))
               (try (have c144b3 : ¬ (false = t110) := by simpa using c144))
               clear c144
               obtain rfl := Option.some.inj H
               go_wp2_with (first | ((with_reducible refine gate_callee (f := 40) rfl ?_); refine goesL_ (some 126) rfl rfl Try.func40 (by kernel_rfl) rfl #[.slice Ao12 t101.length co12, .slice Ao12 t101.length co12] rfl MT ?_; (with_reducible refine (impl_RulesDiffer.calls kj114 _ _ t101 _ _ t101 t136 t137 t138 t139 _ ?side1 ?side2 ?side3 ?side4 A124.out).mono ?_); (case side1 => exact KC (Kd.R_reads' HO_5.out).2.2); (case side2 => exact (Kd.R_reads' HO_5.out).2.1); (case side3 => exact KC (Kd.R_reads' HO_5.out).2.2); (case side4 => exact (Kd.R_reads' HO_5.out).2.1); rintro e w145 ⟨rfl, hb⟩; refine ⟨_, rfl, ?_⟩; replace HO_5 := am (Kd.R_below (KR HO_5) hb); replace BK111 := am (BB BK111 hb); replace BK116 := am (BB BK116 hb); replace BK121 := am (BB BK121 hb); replace BK132 := am (BB BK132 hb); replace BK133 := am (BB BK133 hb); replace HB := am (below_step (K5 HB GE111.out GE116.out GE121.out GE132.out GE133.out) hb); (try clear hb)) | ((with_reducible refine gate_dst (N := 17) rfl ?_); (try (refine gate_guard (by rfl) ?_; dsimp only)); refine box_event rfl (N := 17) rfl (cs := #[.int .i64 0, .int .i64 0, .int .i64 0]) (t := 60) BX ?_; intro gb140 hg w146 hbox hb; replace HO_5 := am (Kd.R_below (KR HO_5) hb); have BK140 := am (hbox); have GW140 := am (GH5 HB GE111.out GE116.out GE121.out GE132.out GE133.out hg); have GE140 := GW140; replace HB := am (below_step (K5 HB GE111.out GE116.out GE121.out GE132.out GE133.out) hb); have NB111_140 := am (NL BK111 hg); have NB140_111 := am (NG BK111 hg); replace BK111 := am (BB BK111 hb); have NB116_140 := am (NL BK116 hg); have NB140_116 := am (NG BK116 hg); replace BK116 := am (BB BK116 hb); have NB121_140 := am (NL BK121 hg); have NB140_121 := am (NG BK121 hg); replace BK121 := am (BB BK121 hb); have NB132_140 := am (NL BK132 hg); have NB140_132 := am (NG BK132 hg); replace BK132 := am (BB BK132 hb); have NB133_140 := am (NL BK133 hg); have NB140_133 := am (NG BK133 hg); replace BK133 := am (BB BK133 hb); clear hb hbox hg; have hnb147 := NB140_111.out; have hnc147 := NB111_140.out; have hnb148 := NB140_116.out; have hnc148 := NB116_140.out; have hnb149 := NB140_121.out; have hnc149 := NB121_140.out; have hnb150 := NB140_132.out; have hnc150 := NB132_140.out; have hnb151 := NB140_133.out; have hnc151 := NB133_140.out; obtain ⟨hcz152_0, hcz152_1, hcz152_2, hfz152_0⟩ := y3 w146 BK140.out; have hnb153 := NB132_111.out; have hnc153 := NB111_132.out; have hnb154 := NB132_116.out; have hnc154 := NB116_132.out; have hnb155 := NB132_121.out; have hnc155 := NB121_132.out; have hnb156 := NB132_133.out; have hnc156 := NB133_132.out; obtain ⟨hcz157_0, hcz157_1, hcz157_2, hcz157_3, hcz157_4, hcz157_5, hcz157_6, hcz157_7, hfz157_0⟩ := y8 w146 BK132.out; have hnb158 := NB133_111.out; have hnc158 := NB111_133.out; have hnb159 := NB133_116.out; have hnc159 := NB116_133.out; have hnb160 := NB133_121.out; have hnc160 := NB121_133.out; obtain ⟨hcz161_0, hcz161_1, hcz161_2, hcz161_3, hcz161_4, hcz161_5, hcz161_6, hcz161_7, hfz161_0⟩ := y8 w146 BK133.out))
               go_ret
               exact ⟨ER, K6 HB GE111.out GE116.out GE121.out GE132.out GE133.out GE140.out⟩
              ·rw [if_neg c144] at H
               have c144b0 : (false != t110) = false := by simpa using c144
               (try (have c144b1 : decide (false = t110) = true := by simpa using c144))
               (try (have c144b2 : (false == t110) = true := by simpa using c144))
               clear c144
               exact absurd ((Option.some.inj H).trans HR_.out) (by decide)
/-- THE ONE PURE STATEMENT of laws_FnRulesDiffer: yours. -/
def laws_FnRulesDiffer.Pure : Prop := ∀ (l0 : List Int) (l1 : List Int), l0.length ≤ maxLen → l0.length * 1 ≤ 140737488351232 → (∀ x ∈ l0, (Lit.int .u8 x).wf = true) → l1.length ≤ maxLen → l1.length * 1 ≤ 140737488351232 → (∀ x ∈ l1, (Lit.int .u8 x).wf = true) → ∃ k, laws_FnRulesDiffer.f k l0 l1 = some true
theorem laws_FnRulesDiffer.walk (P : laws_FnRulesDiffer.Pure) (a0 : Option Addr) (len0 cap0 : Nat) (z0 : List Int) (a1 : Option Addr) (len1 cap1 : Nat) (z1 : List Int) (w : World) (w0 : (a0 = none ∧ len0 = 0 ∧ cap0 = 0 ∧ z0 = []) ∨ ∃ x, a0 = some x ∧ len0 ≤ cap0 ∧ cap0 ≤ maxLen ∧ z0.length = cap0 ∧ (∀ i, i < z0.length → w.cell? (x.add i) = some (.int .u8 (z0.getD i 0))) ∧ ∀ n ∈ z0, (Lit.int .u8 n).wf = true) (y0 : len0 * 1 ≤ 140737488351232) (w1 : (a1 = none ∧ len1 = 0 ∧ cap1 = 0 ∧ z1 = []) ∨ ∃ x, a1 = some x ∧ len1 ≤ cap1 ∧ cap1 ≤ maxLen ∧ z1.length = cap1 ∧ (∀ i, i < z1.length → w.cell? (x.add i) = some (.int .u8 (z1.getD i 0))) ∧ ∀ n ∈ z1, (Lit.int .u8 n).wf = true) (y1 : len1 * 1 ≤ 140737488351232) :
  Calls Try.prog 11 #[.slice a0 len0 cap0, .slice a1 len1 cap1] w fun e w' => e = .returned (.bool true) ∧ Below w.heap.size w w' := by
 obtain ⟨l0, rfl, hr0, hm0, hw0, hc0⟩ := ReadsInt.ofRowC w0
 obtain ⟨l1, rfl, hr1, hm1, hw1, hc1⟩ := ReadsInt.ofRowC w1
 obtain ⟨k, h⟩ := P l0 l1 hm0 y0 hw0 hm1 y1 hw1
 refine (laws_FnRulesDiffer.calls k _ _ l0 _ _ l1 true w (Kd.C_of_reads (d := (0 : Int)) (h1 := fun _ => rfl) hr0) hc0 (Kd.C_of_reads (d := (0 : Int)) (h1 := fun _ => rfl) hr1) hc1 rfl h).mono ?_
 rintro e w' ⟨rfl, hd⟩
 exact ⟨rfl, hd⟩
end Go.Proofs.Ytkgbgaojglcaoaa.PAll
end
