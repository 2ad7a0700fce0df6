/- Contracts of the functions that the statement reaches, printed by a program out of the translation and joined with the plain laws. -/
import Derived.Test.YtioghacieopbdaaCFnExactCacheRun3
import Derived.Test.YtioghacieopbdaaCFnExactCacheRun4
import Derived.Test.YtioghacieopbdaaCFnExactCacheRun5
import Derived.Test.YtioghacieopbdaaCFnExactCacheRun6
import Derived.Test.YtioghacieopbdaaCFnExactCacheRun7
import Derived.Test.YtioghacieopbdaaCFnExactCacheRun8
section
namespace Go.Proofs.Ytioghacieopbdaa.PAll
open Go.RowKit Go.Proofs.YtioghacieopbdaaW.PrintWords Go.Proofs.YtioghacieopbdaaW.PrintLast Go.Proofs.YtioghacieopbdaaW.PrintMore
attribute [local go_sem] max2_int min2_int max_two min_two max_three min_three max_four min_four   -- for this text's walks alone
set_option linter.unusedVariables false
set_option linter.unusedSimpArgs false
def laws_FnExactCacheRun.j0 : Nat → List (S112) → Int → List (S69) → List Int → List Int → Bool → Option (Bool)
 | 0, _, _, _, _, _, _ => none
 | k + 1, x0, x1, x2, x8, x11, x67 => if x67 = true then (some false) else ((laws_markIntS.f k x11 1).bind fun bt135 => ((laws_heldIntS.f k bt135.2 1).bind fun t137 => (if t137 < 0 then (some false) else (if t137 = bt135.1 then ((laws_toRuleS.f k x0).bind fun t138 => ((laws_toCallS.f k x2).bind fun t141 => ((impl_CacheRun.f k t138 x1 t141).bind fun t144 => ((laws_eqIntS.f k t144 x8).bind fun t147 => (if t147 = true then ((laws_heldIntS.f k bt135.2 1).bind fun t148 => (if t148 < 0 then (some false) else (if t148 = bt135.1 then (some true) else (some false)))) else (some false)))))) else (some false)))))
def laws_FnExactCacheRun.f (k : Nat) (l0 : List (S112)) (a1 : Int) (l2 : List (S69)) : Option (Bool) := (laws_szRuleS.f l0 1048576).bind fun t101 => (if t101 < 0 then (some true) else ((laws_szCallS.f l2 t101).bind fun t102 => (if t102 < 0 then (some true) else ((laws_toRuleS.f k l0).bind fun t103 => ((laws_toCallS.f k l2).bind fun t106 => ((spec_CacheRun.f k t103 a1 t106).bind fun t109 => ((laws_toRuleS.f k l0).bind fun t112 => ((laws_toCallS.f k l2).bind fun t115 => ((impl_CacheRun.f k t112 a1 t115).bind fun t118 => ((laws_eqIntS.f k t118 t109).bind fun t121 => (if t121 = true then ((laws_toRuleS.f k l0).bind fun t122 => ((laws_eqRuleS.f k t112 t122).bind fun t125 => (if t125 = true then ((laws_toCallS.f k l2).bind fun t126 => ((laws_eqCallS.f k t115 t126).bind fun t129 => (if t129 = true then ((laws_markRuleS.f k t112 1).bind fun bt130 => ((laws_markCallS.f k t115 bt130.1).bind fun bt132 => (if bt132.1 < 0 then (laws_FnExactCacheRun.j0 k l0 a1 l2 t109 t118 true) else ((laws_eqIntS.f k t118 t109).bind fun t134 => (laws_FnExactCacheRun.j0 k l0 a1 l2 t109 t118 (!t134)))))) else (some false)))) else (some false)))) else (some false))))))))))))
set_option maxHeartbeats 8000000 in
set_option maxRecDepth 100000 in
theorem laws_FnExactCacheRun.calls (k : Nat) (A0 : Option Addr) (c0 : Nat) (l0 : List (S112)) (a1 : Int) (A2 : Option Addr) (c2 : Nat) (l2 : List (S69)) (r : Bool) (w : World) (hr0 : Kd.C k112 w A0 l0.length l0) (hc0 : l0.length ≤ c0) (hr2 : Kd.C k69 w A2 l2.length l2) (hc2 : l2.length ≤ c2) (hr0_ : r = true) (h : laws_FnExactCacheRun.f k l0 a1 l2 = some r) :
  Calls Try.prog 8 #[.slice A0 l0.length c0, .int .i64 a1, .slice A2 l2.length c2] w fun e w' => e = .returned (.bool r) ∧ Below w.heap.size w w' := by
 have HR0 := Aside0.mk hr0
 have HC0 := Aside0.mk hc0
 clear hr0 hc0
 have HR2 := Aside0.mk hr2
 have HC2 := Aside0.mk hc2
 clear hr2 hc2
 have HB := am (Below.refl w.heap.size w)
 have H : ((laws_szRuleS.f l0 1048576).bind fun t101 => (if t101 < 0 then (some true) else ((laws_szCallS.f l2 t101).bind fun t102 => (if t102 < 0 then (some true) else ((laws_toRuleS.f k l0).bind fun t103 => ((laws_toCallS.f k l2).bind fun t106 => ((spec_CacheRun.f k t103 a1 t106).bind fun t109 => ((laws_toRuleS.f k l0).bind fun t112 => ((laws_toCallS.f k l2).bind fun t115 => ((impl_CacheRun.f k t112 a1 t115).bind fun t118 => ((laws_eqIntS.f k t118 t109).bind fun t121 => (if t121 = true then ((laws_toRuleS.f k l0).bind fun t122 => ((laws_eqRuleS.f k t112 t122).bind fun t125 => (if t125 = true then ((laws_toCallS.f k l2).bind fun t126 => ((laws_eqCallS.f k t115 t126).bind fun t129 => (if t129 = true then ((laws_markRuleS.f k t112 1).bind fun bt130 => ((laws_markCallS.f k t115 bt130.1).bind fun bt132 => (if bt132.1 < 0 then (laws_FnExactCacheRun.j0 k l0 a1 l2 t109 t118 true) else ((laws_eqIntS.f k t118 t109).bind fun t134 => (laws_FnExactCacheRun.j0 k l0 a1 l2 t109 t118 (!t134)))))) else (some false)))) else (some false)))) else (some false))))))))))))) = some r := h
 clear h
 have HR_ := Aside0.mk hr0_
 clear hr0_
 replace H := Option.bind_eq_some_iff.mp H
 obtain ⟨t101, A40, H⟩ := H
 replace H : (if t101 < 0 then (some true) else ((laws_szCallS.f l2 t101).bind fun t102 => (if t102 < 0 then (some true) else ((laws_toRuleS.f k l0).bind fun t103 => ((laws_toCallS.f k l2).bind fun t106 => ((spec_CacheRun.f k t103 a1 t106).bind fun t109 => ((laws_toRuleS.f k l0).bind fun t112 => ((laws_toCallS.f k l2).bind fun t115 => ((impl_CacheRun.f k t112 a1 t115).bind fun t118 => ((laws_eqIntS.f k t118 t109).bind fun t121 => (if t121 = true then ((laws_toRuleS.f k l0).bind fun t122 => ((laws_eqRuleS.f k t112 t122).bind fun t125 => (if t125 = true then ((laws_toCallS.f k l2).bind fun t126 => ((laws_eqCallS.f k t115 t126).bind fun t129 => (if t129 = true then ((laws_markRuleS.f k t112 1).bind fun bt130 => ((laws_markCallS.f k t115 bt130.1).bind fun bt132 => (if bt132.1 < 0 then (laws_FnExactCacheRun.j0 k l0 a1 l2 t109 t118 true) else ((laws_eqIntS.f k t118 t109).bind fun t134 => (laws_FnExactCacheRun.j0 k l0 a1 l2 t109 t118 (!t134)))))) else (some false)))) else (some false)))) else (some false)))))))))))) = some r := H
 have A4 := Aside0.mk A40
 clear A40
 by_cases c5 : t101 < 0
 ·rw [if_pos c5] at H
  have c5b0 : decide (t101 < 0) = true := decide_eq_true c5
  clear c5
  obtain rfl := Option.some.inj H
  go_enter Try.func8, Try.ntmps8
  go_wp2_with (first | ((with_reducible refine gate_callee (f := 21) rfl ?_); refine goesL_ (some 18) rfl rfl Try.func21 (by kernel_rfl) rfl #[.slice A0 l0.length c0, .int .i64 1048576] rfl MT ?_; (with_reducible refine (laws_szRuleS.calls _ _ l0 1048576 t101 _ ?side1 ?side2 A4.out).mono ?_); (case side1 => exact KC HR0.out); (case side2 => exact HC0.out); rintro e w' ⟨rfl, ⟨nd, rfl⟩⟩; refine ⟨_, rfl, ?_⟩))
  go_ret
  exact ⟨by first | rfl | (simp [errW_none, errW_some] <;> rfl) | (simp [*, errW_none, errW_some] <;> rfl), KL HB⟩
 ·rw [if_neg c5] at H
  have c5b0 : decide (t101 < 0) = false := decide_eq_false c5
  clear c5
  replace H := Option.bind_eq_some_iff.mp H
  obtain ⟨t102, A60, H⟩ := H
  replace H : (if t102 < 0 then (some true) else ((laws_toRuleS.f k l0).bind fun t103 => ((laws_toCallS.f k l2).bind fun t106 => ((spec_CacheRun.f k t103 a1 t106).bind fun t109 => ((laws_toRuleS.f k l0).bind fun t112 => ((laws_toCallS.f k l2).bind fun t115 => ((impl_CacheRun.f k t112 a1 t115).bind fun t118 => ((laws_eqIntS.f k t118 t109).bind fun t121 => (if t121 = true then ((laws_toRuleS.f k l0).bind fun t122 => ((laws_eqRuleS.f k t112 t122).bind fun t125 => (if t125 = true then ((laws_toCallS.f k l2).bind fun t126 => ((laws_eqCallS.f k t115 t126).bind fun t129 => (if t129 = true then ((laws_markRuleS.f k t112 1).bind fun bt130 => ((laws_markCallS.f k t115 bt130.1).bind fun bt132 => (if bt132.1 < 0 then (laws_FnExactCacheRun.j0 k l0 a1 l2 t109 t118 true) else ((laws_eqIntS.f k t118 t109).bind fun t134 => (laws_FnExactCacheRun.j0 k l0 a1 l2 t109 t118 (!t134)))))) else (some false)))) else (some false)))) else (some false)))))))))) = some r := H
  have A6 := Aside0.mk A60
  clear A60
  by_cases c7 : t102 < 0
  ·rw [if_pos c7] at H
   have c7b0 : decide (t102 < 0) = true := decide_eq_true c7
   clear c7
   obtain rfl := Option.some.inj H
   go_enter Try.func8, Try.ntmps8
   go_wp2_with (first | ((with_reducible refine gate_callee (f := 21) rfl ?_); refine goesL_ (some 18) rfl rfl Try.func21 (by kernel_rfl) rfl #[.slice A0 l0.length c0, .int .i64 1048576] rfl MT ?_; (with_reducible refine (laws_szRuleS.calls _ _ l0 1048576 t101 _ ?side1 ?side2 A4.out).mono ?_); (case side1 => exact KC HR0.out); (case side2 => exact HC0.out); rintro e w' ⟨rfl, ⟨nd, rfl⟩⟩; refine ⟨_, rfl, ?_⟩) | ((with_reducible refine gate_callee (f := 37) rfl ?_); refine goesL_ (some 23) rfl rfl Try.func37 (by kernel_rfl) rfl #[.slice A2 l2.length c2, .int .i64 t101] rfl MT ?_; (with_reducible refine (laws_szCallS.calls _ _ l2 t101 t102 _ ?side1 ?side2 A6.out).mono ?_); (case side1 => exact KC HR2.out); (case side2 => exact HC2.out); rintro e w' ⟨rfl, ⟨nd, rfl⟩⟩; refine ⟨_, rfl, ?_⟩))
   go_ret
   exact ⟨by first | rfl | (simp [errW_none, errW_some] <;> rfl) | (simp [*, errW_none, errW_some] <;> rfl), KL HB⟩
  ·rw [if_neg c7] at H
   have c7b0 : decide (t102 < 0) = false := decide_eq_false c7
   clear c7
   replace H := Option.bind_eq_some_iff.mp H
   obtain ⟨t103, A80, H⟩ := H
   replace H : ((laws_toCallS.f k l2).bind fun t106 => ((spec_CacheRun.f k t103 a1 t106).bind fun t109 => ((laws_toRuleS.f k l0).bind fun t112 => ((laws_toCallS.f k l2).bind fun t115 => ((impl_CacheRun.f k t112 a1 t115).bind fun t118 => ((laws_eqIntS.f k t118 t109).bind fun t121 => (if t121 = true then ((laws_toRuleS.f k l0).bind fun t122 => ((laws_eqRuleS.f k t112 t122).bind fun t125 => (if t125 = true then ((laws_toCallS.f k l2).bind fun t126 => ((laws_eqCallS.f k t115 t126).bind fun t129 => (if t129 = true then ((laws_markRuleS.f k t112 1).bind fun bt130 => ((laws_markCallS.f k t115 bt130.1).bind fun bt132 => (if bt132.1 < 0 then (laws_FnExactCacheRun.j0 k l0 a1 l2 t109 t118 true) else ((laws_eqIntS.f k t118 t109).bind fun t134 => (laws_FnExactCacheRun.j0 k l0 a1 l2 t109 t118 (!t134)))))) else (some false)))) else (some false)))) else (some false)))))))) = some r := H
   have A8 := Aside0.mk A80
   clear A80
   replace H := Option.bind_eq_some_iff.mp H
   obtain ⟨t106, A90, H⟩ := H
   replace H : ((spec_CacheRun.f k t103 a1 t106).bind fun t109 => ((laws_toRuleS.f k l0).bind fun t112 => ((laws_toCallS.f k l2).bind fun t115 => ((impl_CacheRun.f k t112 a1 t115).bind fun t118 => ((laws_eqIntS.f k t118 t109).bind fun t121 => (if t121 = true then ((laws_toRuleS.f k l0).bind fun t122 => ((laws_eqRuleS.f k t112 t122).bind fun t125 => (if t125 = true then ((laws_toCallS.f k l2).bind fun t126 => ((laws_eqCallS.f k t115 t126).bind fun t129 => (if t129 = true then ((laws_markRuleS.f k t112 1).bind fun bt130 => ((laws_markCallS.f k t115 bt130.1).bind fun bt132 => (if bt132.1 < 0 then (laws_FnExactCacheRun.j0 k l0 a1 l2 t109 t118 true) else ((laws_eqIntS.f k t118 t109).bind fun t134 => (laws_FnExactCacheRun.j0 k l0 a1 l2 t109 t118 (!t134)))))) else (some false)))) else (some false)))) else (some false))))))) = some r := H
   have A9 := Aside0.mk A90
   clear A90
   replace H := Option.bind_eq_some_iff.mp H
   obtain ⟨t109, A100, H⟩ := H
   replace H : ((laws_toRuleS.f k l0).bind fun t112 => ((laws_toCallS.f k l2).bind fun t115 => ((impl_CacheRun.f k t112 a1 t115).bind fun t118 => ((laws_eqIntS.f k t118 t109).bind fun t121 => (if t121 = true then ((laws_toRuleS.f k l0).bind fun t122 => ((laws_eqRuleS.f k t112 t122).bind fun t125 => (if t125 = true then ((laws_toCallS.f k l2).bind fun t126 => ((laws_eqCallS.f k t115 t126).bind fun t129 => (if t129 = true then ((laws_markRuleS.f k t112 1).bind fun bt130 => ((laws_markCallS.f k t115 bt130.1).bind fun bt132 => (if bt132.1 < 0 then (laws_FnExactCacheRun.j0 k l0 a1 l2 t109 t118 true) else ((laws_eqIntS.f k t118 t109).bind fun t134 => (laws_FnExactCacheRun.j0 k l0 a1 l2 t109 t118 (!t134)))))) else (some false)))) else (some false)))) else (some false)))))) = some r := H
   have A10 := Aside0.mk A100
   clear A100
   replace H := Option.bind_eq_some_iff.mp H
   obtain ⟨t112, A110, H⟩ := H
   replace H : ((laws_toCallS.f k l2).bind fun t115 => ((impl_CacheRun.f k t112 a1 t115).bind fun t118 => ((laws_eqIntS.f k t118 t109).bind fun t121 => (if t121 = true then ((laws_toRuleS.f k l0).bind fun t122 => ((laws_eqRuleS.f k t112 t122).bind fun t125 => (if t125 = true then ((laws_toCallS.f k l2).bind fun t126 => ((laws_eqCallS.f k t115 t126).bind fun t129 => (if t129 = true then ((laws_markRuleS.f k t112 1).bind fun bt130 => ((laws_markCallS.f k t115 bt130.1).bind fun bt132 => (if bt132.1 < 0 then (laws_FnExactCacheRun.j0 k l0 a1 l2 t109 t118 true) else ((laws_eqIntS.f k t118 t109).bind fun t134 => (laws_FnExactCacheRun.j0 k l0 a1 l2 t109 t118 (!t134)))))) else (some false)))) else (some false)))) else (some false))))) = some r := H
   have A11 := Aside0.mk A110
   clear A110
   replace H := Option.bind_eq_some_iff.mp H
   obtain ⟨t115, A120, H⟩ := H
   replace H : ((impl_CacheRun.f k t112 a1 t115).bind fun t118 => ((laws_eqIntS.f k t118 t109).bind fun t121 => (if t121 = true then ((laws_toRuleS.f k l0).bind fun t122 => ((laws_eqRuleS.f k t112 t122).bind fun t125 => (if t125 = true then ((laws_toCallS.f k l2).bind fun t126 => ((laws_eqCallS.f k t115 t126).bind fun t129 => (if t129 = true then ((laws_markRuleS.f k t112 1).bind fun bt130 => ((laws_markCallS.f k t115 bt130.1).bind fun bt132 => (if bt132.1 < 0 then (laws_FnExactCacheRun.j0 k l0 a1 l2 t109 t118 true) else ((laws_eqIntS.f k t118 t109).bind fun t134 => (laws_FnExactCacheRun.j0 k l0 a1 l2 t109 t118 (!t134)))))) else (some false)))) else (some false)))) else (some false)))) = some r := H
   have A12 := Aside0.mk A120
   clear A120
   replace H := Option.bind_eq_some_iff.mp H
   obtain ⟨t118, A130, H⟩ := H
   replace H : ((laws_eqIntS.f k t118 t109).bind fun t121 => (if t121 = true then ((laws_toRuleS.f k l0).bind fun t122 => ((laws_eqRuleS.f k t112 t122).bind fun t125 => (if t125 = true then ((laws_toCallS.f k l2).bind fun t126 => ((laws_eqCallS.f k t115 t126).bind fun t129 => (if t129 = true then ((laws_markRuleS.f k t112 1).bind fun bt130 => ((laws_markCallS.f k t115 bt130.1).bind fun bt132 => (if bt132.1 < 0 then (laws_FnExactCacheRun.j0 k l0 a1 l2 t109 t118 true) else ((laws_eqIntS.f k t118 t109).bind fun t134 => (laws_FnExactCacheRun.j0 k l0 a1 l2 t109 t118 (!t134)))))) else (some false)))) else (some false)))) else (some false))) = some r := H
   have A13 := Aside0.mk A130
   clear A130
   replace H := Option.bind_eq_some_iff.mp H
   obtain ⟨t121, A140, H⟩ := H
   replace H : (if t121 = true then ((laws_toRuleS.f k l0).bind fun t122 => ((laws_eqRuleS.f k t112 t122).bind fun t125 => (if t125 = true then ((laws_toCallS.f k l2).bind fun t126 => ((laws_eqCallS.f k t115 t126).bind fun t129 => (if t129 = true then ((laws_markRuleS.f k t112 1).bind fun bt130 => ((laws_markCallS.f k t115 bt130.1).bind fun bt132 => (if bt132.1 < 0 then (laws_FnExactCacheRun.j0 k l0 a1 l2 t109 t118 true) else ((laws_eqIntS.f k t118 t109).bind fun t134 => (laws_FnExactCacheRun.j0 k l0 a1 l2 t109 t118 (!t134)))))) else (some false)))) else (some false)))) else (some false)) = some r := H
   have A14 := Aside0.mk A140
   clear A140
   by_cases c15 : t121 = true
   ·subst c15
    have H1 : ((laws_toRuleS.f k l0).bind fun t122 => ((laws_eqRuleS.f k t112 t122).bind fun t125 => (if t125 = true then ((laws_toCallS.f k l2).bind fun t126 => ((laws_eqCallS.f k t115 t126).bind fun t129 => (if t129 = true then ((laws_markRuleS.f k t112 1).bind fun bt130 => ((laws_markCallS.f k t115 bt130.1).bind fun bt132 => (if bt132.1 < 0 then (laws_FnExactCacheRun.j0 k l0 a1 l2 t109 t118 true) else ((laws_eqIntS.f k t118 t109).bind fun t134 => (laws_FnExactCacheRun.j0 k l0 a1 l2 t109 t118 (!t134)))))) else (some false)))) else (some false)))) = some r := by rw [if_pos rfl] at H; exact H
    clear H
    have H := H1
    clear H1
    replace H := Option.bind_eq_some_iff.mp H
    obtain ⟨t122, A160, H⟩ := H
    replace H : ((laws_eqRuleS.f k t112 t122).bind fun t125 => (if t125 = true then ((laws_toCallS.f k l2).bind fun t126 => ((laws_eqCallS.f k t115 t126).bind fun t129 => (if t129 = true then ((laws_markRuleS.f k t112 1).bind fun bt130 => ((laws_markCallS.f k t115 bt130.1).bind fun bt132 => (if bt132.1 < 0 then (laws_FnExactCacheRun.j0 k l0 a1 l2 t109 t118 true) else ((laws_eqIntS.f k t118 t109).bind fun t134 => (laws_FnExactCacheRun.j0 k l0 a1 l2 t109 t118 (!t134)))))) else (some false)))) else (some false))) = some r := H
    have A16 := Aside0.mk A160
    clear A160
    replace H := Option.bind_eq_some_iff.mp H
    obtain ⟨t125, A170, H⟩ := H
    replace H : (if t125 = true then ((laws_toCallS.f k l2).bind fun t126 => ((laws_eqCallS.f k t115 t126).bind fun t129 => (if t129 = true then ((laws_markRuleS.f k t112 1).bind fun bt130 => ((laws_markCallS.f k t115 bt130.1).bind fun bt132 => (if bt132.1 < 0 then (laws_FnExactCacheRun.j0 k l0 a1 l2 t109 t118 true) else ((laws_eqIntS.f k t118 t109).bind fun t134 => (laws_FnExactCacheRun.j0 k l0 a1 l2 t109 t118 (!t134)))))) else (some false)))) else (some false)) = some r := H
    have A17 := Aside0.mk A170
    clear A170
    by_cases c18 : t125 = true
    ·subst c18
     have H1 : ((laws_toCallS.f k l2).bind fun t126 => ((laws_eqCallS.f k t115 t126).bind fun t129 => (if t129 = true then ((laws_markRuleS.f k t112 1).bind fun bt130 => ((laws_markCallS.f k t115 bt130.1).bind fun bt132 => (if bt132.1 < 0 then (laws_FnExactCacheRun.j0 k l0 a1 l2 t109 t118 true) else ((laws_eqIntS.f k t118 t109).bind fun t134 => (laws_FnExactCacheRun.j0 k l0 a1 l2 t109 t118 (!t134)))))) else (some false)))) = some r := by rw [if_pos rfl] at H; exact H
     clear H
     have H := H1
     clear H1
     replace H := Option.bind_eq_some_iff.mp H
     obtain ⟨t126, A190, H⟩ := H
     replace H : ((laws_eqCallS.f k t115 t126).bind fun t129 => (if t129 = true then ((laws_markRuleS.f k t112 1).bind fun bt130 => ((laws_markCallS.f k t115 bt130.1).bind fun bt132 => (if bt132.1 < 0 then (laws_FnExactCacheRun.j0 k l0 a1 l2 t109 t118 true) else ((laws_eqIntS.f k t118 t109).bind fun t134 => (laws_FnExactCacheRun.j0 k l0 a1 l2 t109 t118 (!t134)))))) else (some false))) = some r := H
     have A19 := Aside0.mk A190
     clear A190
     replace H := Option.bind_eq_some_iff.mp H
     obtain ⟨t129, A200, H⟩ := H
     replace H : (if t129 = true then ((laws_markRuleS.f k t112 1).bind fun bt130 => ((laws_markCallS.f k t115 bt130.1).bind fun bt132 => (if bt132.1 < 0 then (laws_FnExactCacheRun.j0 k l0 a1 l2 t109 t118 true) else ((laws_eqIntS.f k t118 t109).bind fun t134 => (laws_FnExactCacheRun.j0 k l0 a1 l2 t109 t118 (!t134)))))) else (some false)) = some r := H
     have A20 := Aside0.mk A200
     clear A200
     by_cases c21 : t129 = true
     ·subst c21
      have H1 : ((laws_markRuleS.f k t112 1).bind fun bt130 => ((laws_markCallS.f k t115 bt130.1).bind fun bt132 => (if bt132.1 < 0 then (laws_FnExactCacheRun.j0 k l0 a1 l2 t109 t118 true) else ((laws_eqIntS.f k t118 t109).bind fun t134 => (laws_FnExactCacheRun.j0 k l0 a1 l2 t109 t118 (!t134)))))) = some r := by rw [if_pos rfl] at H; exact H
      clear H
      have H := H1
      clear H1
      replace H := Option.bind_eq_some_iff.mp H
      obtain ⟨⟨t130, t131⟩, A220, H⟩ := H
      replace H : ((laws_markCallS.f k t115 t130).bind fun bt132 => (if bt132.1 < 0 then (laws_FnExactCacheRun.j0 k l0 a1 l2 t109 t118 true) else ((laws_eqIntS.f k t118 t109).bind fun t134 => (laws_FnExactCacheRun.j0 k l0 a1 l2 t109 t118 (!t134))))) = some r := H
      have A22 := Aside0.mk A220
      clear A220
      replace H := Option.bind_eq_some_iff.mp H
      obtain ⟨⟨t132, t133⟩, A230, H⟩ := H
      replace H : (if t132 < 0 then (laws_FnExactCacheRun.j0 k l0 a1 l2 t109 t118 true) else ((laws_eqIntS.f k t118 t109).bind fun t134 => (laws_FnExactCacheRun.j0 k l0 a1 l2 t109 t118 (!t134)))) = some r := H
      have A23 := Aside0.mk A230
      clear A230
      have HC24 := Aside0.mk H
      clear H
      go_enter Try.func8, Try.ntmps8
      go_upto_region 21 with (first | ((with_reducible refine gate_callee (f := 21) rfl ?_); refine goesL_ (some 18) rfl rfl Try.func21 (by kernel_rfl) rfl #[.slice A0 l0.length c0, .int .i64 1048576] rfl MT ?_; (with_reducible refine (laws_szRuleS.calls _ _ l0 1048576 t101 _ ?side1 ?side2 A4.out).mono ?_); (case side1 => exact KC HR0.out); (case side2 => exact HC0.out); rintro e w' ⟨rfl, ⟨nd, rfl⟩⟩; refine ⟨_, rfl, ?_⟩) | ((with_reducible refine gate_callee (f := 37) rfl ?_); refine goesL_ (some 23) rfl rfl Try.func37 (by kernel_rfl) rfl #[.slice A2 l2.length c2, .int .i64 t101] rfl MT ?_; (with_reducible refine (laws_szCallS.calls _ _ l2 t101 t102 _ ?side1 ?side2 A6.out).mono ?_); (case side1 => exact KC HR2.out); (case side2 => exact HC2.out); rintro e w' ⟨rfl, ⟨nd, rfl⟩⟩; refine ⟨_, rfl, ?_⟩) | ((with_reducible refine gate_callee (f := 24) rfl ?_); refine goesL_ (some 27) rfl rfl Try.func24 (by kernel_rfl) rfl #[.slice A0 l0.length c0] rfl MT ?_; (with_reducible refine (laws_toRuleS.calls k _ _ l0 t103 _ ?side1 ?side2 A8.out).mono ?_); (case side1 => exact KC HR0.out); (case side2 => exact HC0.out); rintro e w25 ⟨v104, rfl, ho0, hb⟩; refine ⟨_, rfl, ?_⟩; have HO105 := am (Kd.R_lower ho0 (below_size (KL HB))); replace HB := am (below_step (KL HB) hb); (try clear hb); (try clear hb2); (try clear hk); (try clear hi); (try clear ho0)) | ((with_reducible refine gate_callee (f := 38) rfl ?_); refine goesL_ (some 30) rfl rfl Try.func38 (by kernel_rfl) rfl #[.slice A2 l2.length c2] rfl MT ?_; (with_reducible refine (laws_toCallS.calls k _ _ l2 t106 _ ?side1 ?side2 A9.out).mono ?_); (case side1 => exact KC (Kd.C_below HR2.out HB.out)); (case side2 => exact HC2.out); rintro e w26 ⟨v107, rfl, ho0, hb⟩; refine ⟨_, rfl, ?_⟩; replace HO105 := am (Kd.R_below (KR HO105) hb); have HO108 := am (Kd.R_lower ho0 (below_size (KL HB))); replace HB := am (below_step (KL HB) hb); (try clear hb); (try clear hb2); (try clear hk); (try clear hi); (try clear ho0); obtain ⟨Ao27, co27, eo27⟩ := Kd.R_slice HO105.out; subst eo27; obtain ⟨Ao28, co28, eo28⟩ := Kd.R_slice HO108.out; subst eo28) | ((with_reducible refine gate_callee (f := 36) rfl ?_); refine goesL_ (some 31) rfl rfl Try.func36 (by kernel_rfl) rfl #[.slice Ao27 t103.length co27, .int .i64 a1, .slice Ao28 t106.length co28] rfl MT ?_; (with_reducible refine (spec_CacheRun.calls k _ _ t103 a1 _ _ t106 t109 _ ?side1 ?side2 ?side3 ?side4 A10.out).mono ?_); (case side1 => exact KC (Kd.R_reads' HO105.out).2.2); (case side2 => exact (Kd.R_reads' HO105.out).2.1); (case side3 => exact KC (Kd.R_reads' HO108.out).2.2); (case side4 => exact (Kd.R_reads' HO108.out).2.1); rintro e w29 ⟨v110, rfl, ho0, hb⟩; refine ⟨_, rfl, ?_⟩; replace HO105 := am (Kd.R_below (KR HO105) hb); replace HO108 := am (Kd.R_below (KR HO108) hb); have HO111 := am (Kd.R_lower ho0 (below_size (KL HB))); replace HB := am (below_step (KL HB) hb); (try clear hb); (try clear hb2); (try clear hk); (try clear hi); (try clear ho0)) | ((with_reducible refine gate_callee (f := 24) rfl ?_); refine goesL_ (some 33) rfl rfl Try.func24 (by kernel_rfl) rfl #[.slice A0 l0.length c0] rfl MT ?_; (with_reducible refine (laws_toRuleS.calls k _ _ l0 t112 _ ?side1 ?side2 A11.out).mono ?_); (case side1 => exact KC (Kd.C_below HR0.out HB.out)); (case side2 => exact HC0.out); rintro e w30 ⟨v113, rfl, ho0, hb⟩; refine ⟨_, rfl, ?_⟩; replace HO108 := am (Kd.R_below (KR HO108) hb); replace HO111 := am (Kd.R_below (KR HO111) hb); have HO114 := am (Kd.R_lower (Kd.R_new' ho0 (Kd.R_lt (KR HO105))) (below_size (KL HB))); replace HO105 := am (Kd.R_elder' (KR HO105) (Kd.R_base ho0) hb); replace HB := am (below_step (KL HB) hb); (try clear hb); (try clear hb2); (try clear hk); (try clear hi); (try clear ho0)) | ((with_reducible refine gate_callee (f := 38) rfl ?_); refine goesL_ (some 35) rfl rfl Try.func38 (by kernel_rfl) rfl #[.slice A2 l2.length c2] rfl MT ?_; (with_reducible refine (laws_toCallS.calls k _ _ l2 t115 _ ?side1 ?side2 A12.out).mono ?_); (case side1 => exact KC (Kd.C_below HR2.out HB.out)); (case side2 => exact HC2.out); rintro e w31 ⟨v116, rfl, ho0, hb⟩; refine ⟨_, rfl, ?_⟩; replace HO105 := am (Kd.R_below (KR HO105) hb); replace HO111 := am (Kd.R_below (KR HO111) hb); replace HO114 := am (Kd.R_below (KR HO114) hb); have HO117 := am (Kd.R_lower (Kd.R_new' ho0 (Kd.R_lt (KR HO108))) (below_size (KL HB))); replace HO108 := am (Kd.R_elder' (KR HO108) (Kd.R_base ho0) hb); replace HB := am (below_step (KL HB) hb); (try clear hb); (try clear hb2); (try clear hk); (try clear hi); (try clear ho0); obtain ⟨Ao32, co32, eo32⟩ := Kd.R_slice HO114.out; subst eo32; obtain ⟨Ao33, co33, eo33⟩ := Kd.R_slice HO117.out; subst eo33) | ((with_reducible refine gate_callee (f := 34) rfl ?_); refine goesL_ (some 39) rfl rfl Try.func34 (by kernel_rfl) rfl #[.slice Ao32 t112.length co32, .int .i64 a1, .slice Ao33 t115.length co33] rfl MT ?_; (with_reducible refine (impl_CacheRun.calls k _ _ t112 a1 _ _ t115 t118 _ ?side1 ?side2 ?side3 ?side4 A13.out).mono ?_); (case side1 => exact KC (Kd.R_reads' HO114.out).2.2); (case side2 => exact (Kd.R_reads' HO114.out).2.1); (case side3 => exact KC (Kd.R_reads' HO117.out).2.2); (case side4 => exact (Kd.R_reads' HO117.out).2.1); rintro e w34 ⟨v119, rfl, ho0, hb⟩; refine ⟨_, rfl, ?_⟩; replace HO105 := am (Kd.R_below (KR HO105) hb); replace HO108 := am (Kd.R_below (KR HO108) hb); replace HO114 := am (Kd.R_below (KR HO114) hb); replace HO117 := am (Kd.R_below (KR HO117) hb); have HO120 := am (Kd.R_lower (Kd.R_new' ho0 (Kd.R_lt (KR HO111))) (below_size (KL HB))); replace HO111 := am (Kd.R_elder' (KR HO111) (Kd.R_base ho0) hb); replace HB := am (below_step (KL HB) hb); (try clear hb); (try clear hb2); (try clear hk); (try clear hi); (try clear ho0); obtain ⟨Ao35, co35, eo35⟩ := Kd.R_slice HO120.out; subst eo35; obtain ⟨Ao36, co36, eo36⟩ := Kd.R_slice HO111.out; subst eo36) | ((with_reducible refine gate_callee (f := 39) rfl ?_); refine goesL_ (some 42) rfl rfl Try.func39 (by kernel_rfl) rfl #[.slice Ao35 t118.length co35, .slice Ao36 t109.length co36] rfl MT ?_; (with_reducible refine (laws_eqIntS.calls k _ _ t118 _ _ t109 true _ ?side1 ?side2 ?side3 ?side4 A14.out).mono ?_); (case side1 => exact KC (Kd.R_reads' HO120.out).2.2); (case side2 => exact (Kd.R_reads' HO120.out).2.1); (case side3 => exact KC (Kd.R_reads' HO111.out).2.2); (case side4 => exact (Kd.R_reads' HO111.out).2.1); rintro e w' ⟨rfl, ⟨nd, rfl⟩⟩; refine ⟨_, rfl, ?_⟩) | ((with_reducible refine gate_callee (f := 24) rfl ?_); refine goesL_ (some 46) rfl rfl Try.func24 (by kernel_rfl) rfl #[.slice A0 l0.length c0] rfl MT ?_; (with_reducible refine (laws_toRuleS.calls k _ _ l0 t122 _ ?side1 ?side2 A16.out).mono ?_); (case side1 => repeat (first | exact (Kd.C_below HR0.out (KL HB)) | (with_reducible refine Kd.C_alloc ?_ _) | (with_reducible refine Kd.C_drewN ?_ _) | (with_reducible refine Kd.C_drew ?_))); (case side2 => exact HC0.out); rintro e w37 ⟨v123, rfl, ho0, hb⟩; refine ⟨_, rfl, ?_⟩; replace HO108 := am (Kd.R_below (KR HO108) hb); replace HO111 := am (Kd.R_below (KR HO111) hb); replace HO117 := am (Kd.R_below (KR HO117) hb); replace HO120 := am (Kd.R_below (KR HO120) hb); have HO124 := am (Kd.R_lower (Kd.R_new' (Kd.R_new' ho0 (Kd.R_lt (KR HO105))) (Kd.R_lt (KR HO114))) (below_size (KL HB))); replace HO105 := am (Kd.R_elder' (KR HO105) (Kd.R_base ho0) hb); replace HO114 := am (Kd.R_elder' (KR HO114) (Kd.R_base ho0) hb); replace HB := am (below_step (KL HB) hb); (try clear hb); (try clear hb2); (try clear hk); (try clear hi); (try clear ho0); obtain ⟨Ao38, co38, eo38⟩ := Kd.R_slice HO124.out; subst eo38) | ((with_reducible refine gate_callee (f := 27) rfl ?_); refine goesL_ (some 47) rfl rfl Try.func27 (by kernel_rfl) rfl #[.slice Ao32 t112.length co32, .slice Ao38 t122.length co38] rfl MT ?_; (with_reducible refine (laws_eqRuleS.calls k _ _ t112 _ _ t122 true _ ?side1 ?side2 ?side3 ?side4 A17.out).mono ?_); (case side1 => exact KC (Kd.R_reads' HO114.out).2.2); (case side2 => exact (Kd.R_reads' HO114.out).2.1); (case side3 => exact KC (Kd.R_reads' HO124.out).2.2); (case side4 => exact (Kd.R_reads' HO124.out).2.1); rintro e w39 ⟨rfl, hb⟩; refine ⟨_, rfl, ?_⟩; replace HO105 := am (Kd.R_below (KR HO105) hb); replace HO108 := am (Kd.R_below (KR HO108) hb); replace HO111 := am (Kd.R_below (KR HO111) hb); replace HO114 := am (Kd.R_below (KR HO114) hb); replace HO117 := am (Kd.R_below (KR HO117) hb); replace HO120 := am (Kd.R_below (KR HO120) hb); replace HO124 := am (Kd.R_below (KR HO124) hb); replace HB := am (below_step (KL HB) hb); (try clear hb); (try clear hb2); (try clear hk); (try clear hi)) | ((with_reducible refine gate_callee (f := 38) rfl ?_); refine goesL_ (some 51) rfl rfl Try.func38 (by kernel_rfl) rfl #[.slice A2 l2.length c2] rfl MT ?_; (with_reducible refine (laws_toCallS.calls k _ _ l2 t126 _ ?side1 ?side2 A19.out).mono ?_); (case side1 => exact KC (Kd.C_below HR2.out HB.out)); (case side2 => exact HC2.out); rintro e w40 ⟨v127, rfl, ho0, hb⟩; refine ⟨_, rfl, ?_⟩; replace HO105 := am (Kd.R_below (KR HO105) hb); replace HO111 := am (Kd.R_below (KR HO111) hb); replace HO114 := am (Kd.R_below (KR HO114) hb); replace HO120 := am (Kd.R_below (KR HO120) hb); replace HO124 := am (Kd.R_below (KR HO124) hb); have HO128 := am (Kd.R_lower (Kd.R_new' (Kd.R_new' ho0 (Kd.R_lt (KR HO108))) (Kd.R_lt (KR HO117))) (below_size (KL HB))); replace HO108 := am (Kd.R_elder' (KR HO108) (Kd.R_base ho0) hb); replace HO117 := am (Kd.R_elder' (KR HO117) (Kd.R_base ho0) hb); replace HB := am (below_step (KL HB) hb); (try clear hb); (try clear hb2); (try clear hk); (try clear hi); (try clear ho0); obtain ⟨Ao41, co41, eo41⟩ := Kd.R_slice HO128.out; subst eo41) | ((with_reducible refine gate_callee (f := 40) rfl ?_); refine goesL_ (some 52) rfl rfl Try.func40 (by kernel_rfl) rfl #[.slice Ao33 t115.length co33, .slice Ao41 t126.length co41] rfl MT ?_; (with_reducible refine (laws_eqCallS.calls k _ _ t115 _ _ t126 true _ ?side1 ?side2 ?side3 ?side4 A20.out).mono ?_); (case side1 => exact KC (Kd.R_reads' HO117.out).2.2); (case side2 => exact (Kd.R_reads' HO117.out).2.1); (case side3 => exact KC (Kd.R_reads' HO128.out).2.2); (case side4 => exact (Kd.R_reads' HO128.out).2.1); rintro e w42 ⟨rfl, hb⟩; refine ⟨_, rfl, ?_⟩; replace HO105 := am (Kd.R_below (KR HO105) hb); replace HO108 := am (Kd.R_below (KR HO108) hb); replace HO111 := am (Kd.R_below (KR HO111) hb); replace HO114 := am (Kd.R_below (KR HO114) hb); replace HO117 := am (Kd.R_below (KR HO117) hb); replace HO120 := am (Kd.R_below (KR HO120) hb); replace HO124 := am (Kd.R_below (KR HO124) hb); replace HO128 := am (Kd.R_below (KR HO128) hb); replace HB := am (below_step (KL HB) hb); (try clear hb); (try clear hb2); (try clear hk); (try clear hi)) | ((with_reducible refine gate_callee (f := 41) rfl ?_); refine goesL_ (some 56) rfl rfl Try.func41 (by kernel_rfl) rfl #[.slice Ao32 t112.length co32, .int .i64 1] rfl MT ?_; (with_reducible refine (laws_markRuleS.calls k (fun k_ => some k_ = (.slice Ao32 t112.length co32 : Value).ownBlock) (.slice Ao32 t112.length co32) t112 1 t130 t131 w _ ?side1 ?side2 A22.out).mono ?_); (case side1 => exact KL HB); (case side2 => exact Kd.R_tight rfl HO114.out); rintro e w43 ⟨rfl, hy0, hb, hkp⟩; refine ⟨_, rfl, ?_⟩; replace HO105 := am (Kd.R_mono (ok' := fun k_ => some k_ ≠ (.slice Ao32 t112.length co32 : Value).ownBlock ∧ some k_ ≠ (.slice Ao38 t122.length co38 : Value).ownBlock) (Kd.R_keptB (HO105.out) hkp (fun k_ hk_ hs_ => (hk_.1.2) hs_)) (fun k_ hk_ => ⟨hk_.1.1.2, hk_.1.2⟩)); replace HO108 := am (Kd.R_mono (ok' := fun k_ => some k_ ≠ (.slice Ao33 t115.length co33 : Value).ownBlock ∧ some k_ ≠ (.slice Ao41 t126.length co41 : Value).ownBlock) (Kd.R_keptB ((Kd.R_apart' HO108.out (Kd.R_typed HO114.out) (by decide))) hkp (fun k_ hk_ hs_ => (hk_.2) hs_)) (fun k_ hk_ => ⟨hk_.1.1.1.2, hk_.1.1.2⟩)); replace HO111 := am (Kd.R_mono (ok' := fun k_ => some k_ ≠ (.slice Ao35 t118.length co35 : Value).ownBlock) (Kd.R_keptB ((Kd.R_apart' HO111.out (Kd.R_typed HO114.out) (by decide))) hkp (fun k_ hk_ hs_ => (hk_.2) hs_)) (fun k_ hk_ => hk_.1.1.2)); replace HO117 := am (Kd.R_mono (ok' := fun k_ => some k_ ≠ (.slice Ao28 t106.length co28 : Value).ownBlock ∧ some k_ ≠ (.slice Ao41 t126.length co41 : Value).ownBlock) (Kd.R_keptB ((Kd.R_apart' HO117.out (Kd.R_typed HO114.out) (by decide))) hkp (fun k_ hk_ hs_ => (hk_.2) hs_)) (fun k_ hk_ => ⟨hk_.1.1.1.2, hk_.1.1.2⟩)); replace HO120 := am (Kd.R_mono (ok' := fun k_ => some k_ ≠ (.slice Ao36 t109.length co36 : Value).ownBlock) (Kd.R_keptB ((Kd.R_apart' HO120.out (Kd.R_typed HO114.out) (by decide))) hkp (fun k_ hk_ hs_ => (hk_.2) hs_)) (fun k_ hk_ => hk_.1.1.2)); replace HO124 := am (Kd.R_mono (ok' := fun k_ => some k_ ≠ (.slice Ao27 t103.length co27 : Value).ownBlock ∧ some k_ ≠ (.slice Ao32 t112.length co32 : Value).ownBlock) (Kd.R_keptB (HO124.out) hkp (fun k_ hk_ hs_ => (hk_.2) hs_)) (fun k_ hk_ => ⟨hk_.1.1.2, hk_.1.2⟩)); replace HO128 := am (Kd.R_mono (ok' := fun k_ => some k_ ≠ (.slice Ao28 t106.length co28 : Value).ownBlock ∧ some k_ ≠ (.slice Ao33 t115.length co33 : Value).ownBlock) (Kd.R_keptB ((Kd.R_apart' HO128.out (Kd.R_typed HO114.out) (by decide))) hkp (fun k_ hk_ hs_ => (hk_.2) hs_)) (fun k_ hk_ => ⟨hk_.1.1.1.2, hk_.1.1.2⟩)); replace HO114 := am (Kd.R_reok rfl hy0 (fun k_ e_ => HO114.out.1 k_ e_)); replace HB := am (hb); (try clear hb); (try clear hkp); (try clear hy0)) | ((with_reducible refine gate_callee (f := 42) rfl ?_); refine goesL_ (some 59) rfl rfl Try.func42 (by kernel_rfl) rfl #[.slice Ao33 t115.length co33, .int .i64 t130] rfl MT ?_; (with_reducible refine (laws_markCallS.calls k (fun k_ => some k_ = (.slice Ao33 t115.length co33 : Value).ownBlock) (.slice Ao33 t115.length co33) t115 t130 t132 t133 w _ ?side1 ?side2 A23.out).mono ?_); (case side1 => exact KL HB); (case side2 => exact Kd.R_tight rfl HO117.out); rintro e w44 ⟨rfl, hy0, hb, hkp⟩; refine ⟨_, rfl, ?_⟩; replace HO105 := am (Kd.R_mono (ok' := fun k_ => some k_ ≠ (.slice Ao32 t112.length co32 : Value).ownBlock ∧ some k_ ≠ (.slice Ao38 t122.length co38 : Value).ownBlock) (Kd.R_keptB ((Kd.R_apart' HO105.out (Kd.R_typed HO117.out) (by decide))) hkp (fun k_ hk_ hs_ => (hk_.2) hs_)) (fun k_ hk_ => ⟨hk_.1.1.1, hk_.1.1.2⟩)); replace HO108 := am (Kd.R_mono (ok' := fun k_ => some k_ ≠ (.slice Ao33 t115.length co33 : Value).ownBlock ∧ some k_ ≠ (.slice Ao41 t126.length co41 : Value).ownBlock) (Kd.R_keptB (HO108.out) hkp (fun k_ hk_ hs_ => (hk_.1) hs_)) (fun k_ hk_ => ⟨hk_.1.1, hk_.1.2⟩)); replace HO111 := am (Kd.R_mono (ok' := fun k_ => some k_ ≠ (.slice Ao35 t118.length co35 : Value).ownBlock) (Kd.R_keptB ((Kd.R_apart' HO111.out (Kd.R_typed HO117.out) (by decide))) hkp (fun k_ hk_ hs_ => (hk_.2) hs_)) (fun k_ hk_ => hk_.1.1)); replace HO114 := am (Kd.R_mono (ok' := fun k_ => some k_ ≠ (.slice Ao27 t103.length co27 : Value).ownBlock ∧ some k_ ≠ (.slice Ao38 t122.length co38 : Value).ownBlock) (Kd.R_keptB ((Kd.R_apart' HO114.out (Kd.R_typed HO117.out) (by decide))) hkp (fun k_ hk_ hs_ => (hk_.2) hs_)) (fun k_ hk_ => ⟨hk_.1.1.1.2, hk_.1.1.2⟩)); replace HO120 := am (Kd.R_mono (ok' := fun k_ => some k_ ≠ (.slice Ao36 t109.length co36 : Value).ownBlock) (Kd.R_keptB ((Kd.R_apart' HO120.out (Kd.R_typed HO117.out) (by decide))) hkp (fun k_ hk_ hs_ => (hk_.2) hs_)) (fun k_ hk_ => hk_.1.1)); replace HO124 := am (Kd.R_mono (ok' := fun k_ => some k_ ≠ (.slice Ao27 t103.length co27 : Value).ownBlock ∧ some k_ ≠ (.slice Ao32 t112.length co32 : Value).ownBlock) (Kd.R_keptB ((Kd.R_apart' HO124.out (Kd.R_typed HO117.out) (by decide))) hkp (fun k_ hk_ hs_ => (hk_.2) hs_)) (fun k_ hk_ => ⟨hk_.1.1.1, hk_.1.1.2⟩)); replace HO117 := am (Kd.R_reok rfl hy0 (fun k_ e_ => HO117.out.1 k_ e_)); replace HO128 := am (Kd.R_mono (ok' := fun k_ => some k_ ≠ (.slice Ao28 t106.length co28 : Value).ownBlock ∧ some k_ ≠ (.slice Ao33 t115.length co33 : Value).ownBlock) (Kd.R_keptB (HO128.out) hkp (fun k_ hk_ hs_ => (hk_.2) hs_)) (fun k_ hk_ => ⟨hk_.1.1, hk_.1.2⟩)); replace HB := am (hb); (try clear hb); (try clear hkp); (try clear hy0)))
      (try simp only [Act.put, List.setIfInBounds_toArray, List.set_cons_zero, List.set_cons_succ])
      go_cut [67] (fun v67 wc => ∃ (kq : Nat) (x67_23 : Bool), v67 = .bool x67_23 ∧ Aside0 (laws_FnExactCacheRun.j0 kq l0 a1 l2 t109 t118 x67_23 = some r) ∧ Aside0 (kq ≤ k) ∧ Aside0 (Kd.R (Kd.int .i64) 3 wc w.heap.size (fun k_ => some k_ ≠ ((.slice Ao35 t118.length co35) : Value).ownBlock) (.slice Ao36 t109.length co36) t109) ∧ Aside0 (Kd.R (Kd.int .i64) 3 wc w.heap.size (fun k_ => some k_ ≠ ((.slice Ao36 t109.length co36) : Value).ownBlock) (.slice Ao35 t118.length co35) t118) ∧ Aside0 (Below w.heap.size w wc))
      case first =>
       have H := HC24.out
       clear HC24
       by_cases c45 : t132 < 0
       ·rw [if_pos c45] at H
        have c45b0 : decide (t132 < 0) = true := decide_eq_true c45
        clear c45
        (first | rw [c45b0] | (simp only [i64_w, i32_w]; rw [c45b0]) | skip)
        have H' := Aside0.mk H
        clear H
        go_wp2
        go_meet
        case rel => exact ⟨_, (true), (by first | rfl | (simp; done) | (simp [*]; done)), H', ⟨by first | omega | exact Nat.le_refl _⟩, ⟨KR HO111⟩, ⟨KR HO120⟩, ⟨KL HB⟩⟩
       ·rw [if_neg c45] at H
        have c45b0 : decide (t132 < 0) = false := decide_eq_false c45
        clear c45
        (first | rw [c45b0] | (simp only [i64_w, i32_w]; rw [c45b0]) | skip)
        replace H := Option.bind_eq_some_iff.mp H
        obtain ⟨t134, A460, H⟩ := H
        replace H : (laws_FnExactCacheRun.j0 k l0 a1 l2 t109 t118 (!t134)) = some r := H
        have A46 := Aside0.mk A460
        clear A460
        have H' := Aside0.mk H
        clear H
        go_wp2_with (first | (go_at_call 39; (with_reducible refine (laws_eqIntS.calls k _ _ t118 _ _ t109 t134 _ ?side1 ?side2 ?side3 ?side4 A46.out).mono ?_); (case side1 => exact KC (Kd.R_reads' HO120.out).2.2); (case side2 => exact (Kd.R_reads' HO120.out).2.1); (case side3 => exact KC (Kd.R_reads' HO111.out).2.2); (case side4 => exact (Kd.R_reads' HO111.out).2.1); rintro e w' ⟨rfl, ⟨nd, rfl⟩⟩))
        go_meet
        case rel => exact ⟨_, (!t134), (by first | rfl | (simp; done) | (simp [*]; done)), H', ⟨by first | omega | exact Nat.le_refl _⟩, ⟨KR HO111⟩, ⟨KR HO120⟩, ⟨KL HB⟩⟩
      case rest =>
       clear HC24
       try clear c1
       try clear c2
       try clear p2
       try clear c3
       try clear c4
       try clear c5
       try clear c5b0
       try clear c7
       try clear c7b0
       try clear c8
       try clear c15
       try clear c18
       try clear c21
       try clear c24
       try clear c27
       try clear c34
       try clear c36
       try clear c37
       try clear c38
       try clear c39
       try clear c40
       try clear c41
       try clear c42
       try clear c45
       try clear c45b0
       obtain ⟨kq, x67_23, rfl, HA, HJ23, HO_8, HO_11, HB⟩ := hcut
       cases kq with
       | zero => exact absurd HA.out (by simp [laws_FnExactCacheRun.j0])
       | succ kj23 =>
        have H := HA.out
        clear HA
        simp only [laws_FnExactCacheRun.j0] at H
        by_cases c47 : x67_23 = true
        ·subst c47
         have H1 : (some false) = some r := by rw [if_pos rfl] at H; exact H
         clear H
         have H := H1
         clear H1
         exact absurd ((Option.some.inj H).trans HR_.out) (by decide)
        ·replace c47 := Bool.eq_false_iff.mpr c47
         subst c47
         have H1 : ((laws_markIntS.f kj23 t118 1).bind fun bt135 => ((laws_heldIntS.f kj23 bt135.2 1).bind fun t137 => (if t137 < 0 then (some false) else (if t137 = bt135.1 then ((laws_toRuleS.f kj23 l0).bind fun t138 => ((laws_toCallS.f kj23 l2).bind fun t141 => ((impl_CacheRun.f kj23 t138 a1 t141).bind fun t144 => ((laws_eqIntS.f kj23 t144 t109).bind fun t147 => (if t147 = true then ((laws_heldIntS.f kj23 bt135.2 1).bind fun t148 => (if t148 < 0 then (some false) else (if t148 = bt135.1 then (some true) else (some false)))) else (some false)))))) else (some false))))) = some r := by rw [if_neg (show ¬ (false = true) by decide)] at H; exact H
         clear H
         have H := H1
         clear H1
         replace H := Option.bind_eq_some_iff.mp H
         obtain ⟨⟨t135, t136⟩, A480, H⟩ := H
         replace H : ((laws_heldIntS.f kj23 t136 1).bind fun t137 => (if t137 < 0 then (some false) else (if t137 = t135 then ((laws_toRuleS.f kj23 l0).bind fun t138 => ((laws_toCallS.f kj23 l2).bind fun t141 => ((impl_CacheRun.f kj23 t138 a1 t141).bind fun t144 => ((laws_eqIntS.f kj23 t144 t109).bind fun t147 => (if t147 = true then ((laws_heldIntS.f kj23 t136 1).bind fun t148 => (if t148 < 0 then (some false) else (if t148 = t135 then (some true) else (some false)))) else (some false)))))) else (some false)))) = some r := H
         have A48 := Aside0.mk A480
         clear A480
         replace H := Option.bind_eq_some_iff.mp H
         obtain ⟨t137, A490, H⟩ := H
         replace H : (if t137 < 0 then (some false) else (if t137 = t135 then ((laws_toRuleS.f kj23 l0).bind fun t138 => ((laws_toCallS.f kj23 l2).bind fun t141 => ((impl_CacheRun.f kj23 t138 a1 t141).bind fun t144 => ((laws_eqIntS.f kj23 t144 t109).bind fun t147 => (if t147 = true then ((laws_heldIntS.f kj23 t136 1).bind fun t148 => (if t148 < 0 then (some false) else (if t148 = t135 then (some true) else (some false)))) else (some false)))))) else (some false))) = some r := H
         have A49 := Aside0.mk A490
         clear A490
         by_cases c50 : t137 < 0
         ·rw [if_pos c50] at H
          have c50b0 : decide (t137 < 0) = true := decide_eq_true c50
          clear c50
          exact absurd ((Option.some.inj H).trans HR_.out) (by decide)
         ·rw [if_neg c50] at H
          have c50b0 : decide (t137 < 0) = false := decide_eq_false c50
          clear c50
          by_cases c51 : t137 = t135
          ·rw [if_pos c51] at H
           have c51b0 : (t137 == t135) = true := beq_iff_eq.mpr c51
           have c51b1 : (t137 != t135) = false := bne_eq_false_iff_eq.mpr c51
           clear c51
           replace H := Option.bind_eq_some_iff.mp H
           obtain ⟨t138, A520, H⟩ := H
           replace H : ((laws_toCallS.f kj23 l2).bind fun t141 => ((impl_CacheRun.f kj23 t138 a1 t141).bind fun t144 => ((laws_eqIntS.f kj23 t144 t109).bind fun t147 => (if t147 = true then ((laws_heldIntS.f kj23 t136 1).bind fun t148 => (if t148 < 0 then (some false) else (if t148 = t135 then (some true) else (some false)))) else (some false))))) = some r := H
           have A52 := Aside0.mk A520
           clear A520
           replace H := Option.bind_eq_some_iff.mp H
           obtain ⟨t141, A530, H⟩ := H
           replace H : ((impl_CacheRun.f kj23 t138 a1 t141).bind fun t144 => ((laws_eqIntS.f kj23 t144 t109).bind fun t147 => (if t147 = true then ((laws_heldIntS.f kj23 t136 1).bind fun t148 => (if t148 < 0 then (some false) else (if t148 = t135 then (some true) else (some false)))) else (some false)))) = some r := H
           have A53 := Aside0.mk A530
           clear A530
           replace H := Option.bind_eq_some_iff.mp H
           obtain ⟨t144, A540, H⟩ := H
           replace H : ((laws_eqIntS.f kj23 t144 t109).bind fun t147 => (if t147 = true then ((laws_heldIntS.f kj23 t136 1).bind fun t148 => (if t148 < 0 then (some false) else (if t148 = t135 then (some true) else (some false)))) else (some false))) = some r := H
           have A54 := Aside0.mk A540
           clear A540
           replace H := Option.bind_eq_some_iff.mp H
           obtain ⟨t147, A550, H⟩ := H
           replace H : (if t147 = true then ((laws_heldIntS.f kj23 t136 1).bind fun t148 => (if t148 < 0 then (some false) else (if t148 = t135 then (some true) else (some false)))) else (some false)) = some r := H
           have A55 := Aside0.mk A550
           clear A550
           by_cases c56 : t147 = true
           ·subst c56
            have H1 : ((laws_heldIntS.f kj23 t136 1).bind fun t148 => (if t148 < 0 then (some false) else (if t148 = t135 then (some true) else (some false)))) = some r := by rw [if_pos rfl] at H; exact H
            clear H
            have H := H1
            clear H1
            replace H := Option.bind_eq_some_iff.mp H
            obtain ⟨t148, A570, H⟩ := H
            replace H : (if t148 < 0 then (some false) else (if t148 = t135 then (some true) else (some false))) = some r := H
            have A57 := Aside0.mk A570
            clear A570
            by_cases c58 : t148 < 0
            ·rw [if_pos c58] at H
             have c58b0 : decide (t148 < 0) = true := decide_eq_true c58
             clear c58
             exact absurd ((Option.some.inj H).trans HR_.out) (by decide)
            ·rw [if_neg c58] at H
             have c58b0 : decide (t148 < 0) = false := decide_eq_false c58
             clear c58
             by_cases c59 : t148 = t135
             ·rw [if_pos c59] at H
              have c59b0 : (t148 == t135) = true := beq_iff_eq.mpr c59
              have c59b1 : (t148 != t135) = false := bne_eq_false_iff_eq.mpr c59
              clear c59
              obtain rfl := Option.some.inj H
              go_wp2_with (first | ((with_reducible refine gate_callee (f := 43) rfl ?_); refine goesL_ (some 70) rfl rfl Try.func43 (by kernel_rfl) rfl #[.slice Ao35 t118.length co35, .int .i64 1] rfl MT ?_; (with_reducible refine (laws_markIntS.calls kj23 (fun k_ => some k_ = (.slice Ao35 t118.length co35 : Value).ownBlock) (.slice Ao35 t118.length co35) t118 1 t135 t136 w _ ?side1 ?side2 A48.out).mono ?_); (case side1 => exact KL HB); (case side2 => exact Kd.R_tight rfl HO_11.out); rintro e w60 ⟨rfl, hy0, hb, hkp⟩; refine ⟨_, rfl, ?_⟩; replace HO_8 := am (Kd.R_mono (ok' := fun k_ => some k_ ≠ (.slice Ao35 t118.length co35 : Value).ownBlock) (Kd.R_keptB (HO_8.out) hkp (fun k_ hk_ hs_ => (hk_) hs_)) (fun k_ hk_ => hk_.1)); replace HO_11 := am (Kd.R_reok rfl hy0 (fun k_ e_ => HO_11.out.1 k_ e_)); replace HB := am (hb); (try clear hb); (try clear hkp); (try clear hy0)) | ((with_reducible refine gate_callee (f := 44) rfl ?_); refine goesL_ (some 73) rfl rfl Try.func44 (by kernel_rfl) rfl #[.slice Ao35 t136.length co35, .int .i64 1] rfl (by (try simp only [List.map_toArray, List.map_cons, List.map_nil]); first | done | (rw [show t136.length = t118.length from (Kd.R_reads' HO_11.out).1.symm] <;> rfl) | rfl | (simp only [List.length_drop, List.length_take]; rfl)) ?_; (with_reducible refine (laws_heldIntS.calls kj23 _ _ t136 1 t137 _ ?side1 ?side2 A49.out).mono ?_); (case side1 => exact KC (Kd.R_reads' HO_11.out).2.2); (case side2 => rw [show t136.length = t118.length from (Kd.R_reads' HO_11.out).1.symm]; exact (Kd.R_reads' HO_11.out).2.1); rintro e w' ⟨rfl, ⟨nd, rfl⟩⟩; refine ⟨_, rfl, ?_⟩) | ((with_reducible refine gate_callee (f := 24) rfl ?_); refine goesL_ (some 80) rfl rfl Try.func24 (by kernel_rfl) rfl #[.slice A0 l0.length c0] rfl MT ?_; (with_reducible refine (laws_toRuleS.calls kj23 _ _ l0 t138 _ ?side1 ?side2 A52.out).mono ?_); (case side1 => repeat (first | exact (Kd.C_below HR0.out (KL HB)) | (with_reducible refine Kd.C_alloc ?_ _) | (with_reducible refine Kd.C_drewN ?_ _) | (with_reducible refine Kd.C_drew ?_))); (case side2 => exact HC0.out); rintro e w61 ⟨v139, rfl, ho0, hb⟩; refine ⟨_, rfl, ?_⟩; replace HO_8 := am (Kd.R_below (KR HO_8) hb); replace HO_11 := am (Kd.R_below (KR HO_11) hb); have HO140 := am (Kd.R_lower ho0 (below_size (KL HB))); replace HB := am (below_step (KL HB) hb); (try clear hb); (try clear hb2); (try clear hk); (try clear hi); (try clear ho0)) | ((with_reducible refine gate_callee (f := 38) rfl ?_); refine goesL_ (some 83) rfl rfl Try.func38 (by kernel_rfl) rfl #[.slice A2 l2.length c2] rfl MT ?_; (with_reducible refine (laws_toCallS.calls kj23 _ _ l2 t141 _ ?side1 ?side2 A53.out).mono ?_); (case side1 => exact KC (Kd.C_below HR2.out HB.out)); (case side2 => exact HC2.out); rintro e w62 ⟨v142, rfl, ho0, hb⟩; refine ⟨_, rfl, ?_⟩; replace HO_8 := am (Kd.R_below (KR HO_8) hb); replace HO_11 := am (Kd.R_below (KR HO_11) hb); replace HO140 := am (Kd.R_below (KR HO140) hb); have HO143 := am (Kd.R_lower ho0 (below_size (KL HB))); replace HB := am (below_step (KL HB) hb); (try clear hb); (try clear hb2); (try clear hk); (try clear hi); (try clear ho0); obtain ⟨Ao63, co63, eo63⟩ := Kd.R_slice HO140.out; subst eo63; obtain ⟨Ao64, co64, eo64⟩ := Kd.R_slice HO143.out; subst eo64) | ((with_reducible refine gate_callee (f := 34) rfl ?_); refine goesL_ (some 84) rfl rfl Try.func34 (by kernel_rfl) rfl #[.slice Ao63 t138.length co63, .int .i64 a1, .slice Ao64 t141.length co64] rfl MT ?_; (with_reducible refine (impl_CacheRun.calls kj23 _ _ t138 a1 _ _ t141 t144 _ ?side1 ?side2 ?side3 ?side4 A54.out).mono ?_); (case side1 => exact KC (Kd.R_reads' HO140.out).2.2); (case side2 => exact (Kd.R_reads' HO140.out).2.1); (case side3 => exact KC (Kd.R_reads' HO143.out).2.2); (case side4 => exact (Kd.R_reads' HO143.out).2.1); rintro e w65 ⟨v145, rfl, ho0, hb⟩; refine ⟨_, rfl, ?_⟩; replace HO140 := am (Kd.R_below (KR HO140) hb); replace HO143 := am (Kd.R_below (KR HO143) hb); have HO146 := am (Kd.R_lower (Kd.R_new' (Kd.R_new' ho0 (Kd.R_lt (KR HO_8))) (Kd.R_lt (KR HO_11))) (below_size (KL HB))); replace HO_8 := am (Kd.R_elder' (KR HO_8) (Kd.R_base ho0) hb); replace HO_11 := am (Kd.R_elder' (KR HO_11) (Kd.R_base ho0) hb); replace HB := am (below_step (KL HB) hb); (try clear hb); (try clear hb2); (try clear hk); (try clear hi); (try clear ho0); obtain ⟨Ao66, co66, eo66⟩ := Kd.R_slice HO146.out; subst eo66) | ((with_reducible refine gate_callee (f := 39) rfl ?_); refine goesL_ (some 87) rfl rfl Try.func39 (by kernel_rfl) rfl #[.slice Ao66 t144.length co66, .slice Ao36 t109.length co36] rfl MT ?_; (with_reducible refine (laws_eqIntS.calls kj23 _ _ t144 _ _ t109 true _ ?side1 ?side2 ?side3 ?side4 A55.out).mono ?_); (case side1 => exact KC (Kd.R_reads' HO146.out).2.2); (case side2 => exact (Kd.R_reads' HO146.out).2.1); (case side3 => exact KC (Kd.R_reads' HO_8.out).2.2); (case side4 => exact (Kd.R_reads' HO_8.out).2.1); rintro e w' ⟨rfl, ⟨nd, rfl⟩⟩; refine ⟨_, rfl, ?_⟩) | ((with_reducible refine gate_callee (f := 44) rfl ?_); refine goesL_ (some 91) rfl rfl Try.func44 (by kernel_rfl) rfl #[.slice Ao35 t136.length co35, .int .i64 1] rfl (by (try simp only [List.map_toArray, List.map_cons, List.map_nil]); first | done | (rw [show t136.length = t118.length from (Kd.R_reads' HO_11.out).1.symm] <;> rfl) | rfl | (simp only [List.length_drop, List.length_take]; rfl)) ?_; (with_reducible refine (laws_heldIntS.calls kj23 _ _ t136 1 t148 _ ?side1 ?side2 A57.out).mono ?_); (case side1 => exact KC (Kd.R_reads' HO_11.out).2.2); (case side2 => rw [show t136.length = t118.length from (Kd.R_reads' HO_11.out).1.symm]; exact (Kd.R_reads' HO_11.out).2.1); rintro e w' ⟨rfl, ⟨nd, rfl⟩⟩; refine ⟨_, rfl, ?_⟩))
              go_ret
              exact ⟨by first | rfl | (simp [errW_none, errW_some] <;> rfl) | (simp [*, errW_none, errW_some] <;> rfl), KL HB⟩
             ·rw [if_neg c59] at H
              have c59b0 : (t148 == t135) = false := beq_eq_false_iff_ne.mpr c59
              have c59b1 : (t148 != t135) = true := bne_iff_ne.mpr c59
              exact absurd ((Option.some.inj H).trans HR_.out) (by decide)
           ·replace c56 := Bool.eq_false_iff.mpr c56
            subst c56
            have H1 : (some false) = some r := by rw [if_neg (show ¬ (false = true) by decide)] at H; exact H
            clear H
            have H := H1
            clear H1
            exact absurd ((Option.some.inj H).trans HR_.out) (by decide)
          ·rw [if_neg c51] at H
           have c51b0 : (t137 == t135) = false := beq_eq_false_iff_ne.mpr c51
           have c51b1 : (t137 != t135) = true := bne_iff_ne.mpr c51
           exact absurd ((Option.some.inj H).trans HR_.out) (by decide)
     ·replace c21 := Bool.eq_false_iff.mpr c21
      subst c21
      have H1 : (some false) = some r := by rw [if_neg (show ¬ (false = true) by decide)] at H; exact H
      clear H
      have H := H1
      clear H1
      exact absurd ((Option.some.inj H).trans HR_.out) (by decide)
    ·replace c18 := Bool.eq_false_iff.mpr c18
     subst c18
     have H1 : (some false) = some r := by rw [if_neg (show ¬ (false = true) by decide)] at H; exact H
     clear H
     have H := H1
     clear H1
     exact absurd ((Option.some.inj H).trans HR_.out) (by decide)
   ·replace c15 := Bool.eq_false_iff.mpr c15
    subst c15
    have H1 : (some false) = some r := by rw [if_neg (show ¬ (false = true) by decide)] at H; exact H
    clear H
    have H := H1
    clear H1
    exact absurd ((Option.some.inj H).trans HR_.out) (by decide)
def laws_FnExactCacheRun.Pure : Prop := ∀ (l0 : List (S112)) (a1 : Int) (l2 : List (S69)), ((l0.length ≤ maxLen ∧ ∀ x_ ∈ l0, wfT112 x_)) → ((Lit.int .i64 a1).wf = true) → ((l2.length ≤ maxLen ∧ ∀ x_ ∈ l2, wfT69 x_)) → ∃ k, laws_FnExactCacheRun.f k l0 a1 l2 = some true
theorem laws_FnExactCacheRun.walk (P : laws_FnExactCacheRun.Pure) (A0 : Option Addr) (c0 : Nat) (l0 : List (S112)) (a1 : Int) (A2 : Option Addr) (c2 : Nat) (l2 : List (S69)) (w : World) (hr0 : Kd.C k112 w A0 l0.length l0) (hc0 : l0.length ≤ c0) (hr2 : Kd.C k69 w A2 l2.length l2) (hc2 : l2.length ≤ c2) (q0_ : (l0.length ≤ maxLen ∧ ∀ x_ ∈ l0, wfT112 x_)) (q1_ : (Lit.int .i64 a1).wf = true) (q2_ : (l2.length ≤ maxLen ∧ ∀ x_ ∈ l2, wfT69 x_)) :
  Calls Try.prog 8 #[.slice A0 l0.length c0, .int .i64 a1, .slice A2 l2.length c2] w fun e w' => e = .returned (.bool true) ∧ Below w.heap.size w w' := by
 obtain ⟨k, h⟩ := P l0 a1 l2 q0_ q1_ q2_
 refine (laws_FnExactCacheRun.calls k A0 c0 l0 a1 A2 c2 l2 true w hr0 hc0 hr2 hc2 rfl h).mono ?_
 rintro e w' ⟨rfl, hd⟩
 exact ⟨rfl, hd⟩
end Go.Proofs.Ytioghacieopbdaa.PAll
end
