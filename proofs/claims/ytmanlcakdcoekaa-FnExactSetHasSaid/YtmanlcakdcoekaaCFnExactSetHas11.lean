/- Contracts of the functions that the statement reaches, printed by a program out of the translation and joined with the plain laws. -/
import Derived.Test.YtmanlcakdcoekaaCFnExactSetHas3
import Derived.Test.YtmanlcakdcoekaaCFnExactSetHas4
import Derived.Test.YtmanlcakdcoekaaCFnExactSetHas6
import Derived.Test.YtmanlcakdcoekaaCFnExactSetHas9
import Derived.Test.YtmanlcakdcoekaaCFnExactSetHas10
section
namespace Go.Proofs.Ytmanlcakdcoekaa.PAll
open Go.RowKit Go.Proofs.YtmanlcakdcoekaaW.PrintWords Go.Proofs.YtmanlcakdcoekaaW.PrintLast Go.Proofs.YtmanlcakdcoekaaW.PrintMore
attribute [local go_sem] max2_int min2_int max_two min_two max_three min_three max_four min_four   -- for this text's walks alone
set_option linter.unusedVariables false
set_option linter.unusedSimpArgs false
def laws_FnExactSetHas.f (k : Nat) (l0 : List (S82)) (a1 : Int) : Option (Bool) := (laws_szBlockS.f l0 1048576).bind fun t101 => (if t101 < 0 then (some true) else ((laws_toBlockS.f k l0).bind fun t102 => ((spec_SetHas.f k t102 a1).bind fun t105 => ((laws_toBlockS.f k l0).bind fun t106 => ((impl_SetHas.f k t106 a1).bind fun t109 => (if (t109 != t105) = true then (some false) else ((laws_toBlockS.f k l0).bind fun t110 => ((laws_eqBlockS.f k t106 t110).bind fun t113 => (if t113 = true then (some true) else (some false))))))))))
set_option maxHeartbeats 8000000 in
set_option maxRecDepth 100000 in
theorem laws_FnExactSetHas.calls (k : Nat) (A0 : Option Addr) (c0 : Nat) (l0 : List (S82)) (a1 : Int) (r : Bool) (w : World) (hr0 : Kd.C k82 w A0 l0.length l0) (hc0 : l0.length ≤ c0) (hr0_ : r = true) (h : laws_FnExactSetHas.f k l0 a1 = some r) :
  Calls Try.prog 4 #[.slice A0 l0.length c0, .int .i64 a1] w fun e w' => e = .returned (.bool r) ∧ Below w.heap.size w w' := by
 have HR0 := Aside0.mk hr0
 have HC0 := Aside0.mk hc0
 clear hr0 hc0
 have HB := am (Below.refl w.heap.size w)
 have H : ((laws_szBlockS.f l0 1048576).bind fun t101 => (if t101 < 0 then (some true) else ((laws_toBlockS.f k l0).bind fun t102 => ((spec_SetHas.f k t102 a1).bind fun t105 => ((laws_toBlockS.f k l0).bind fun t106 => ((impl_SetHas.f k t106 a1).bind fun t109 => (if (t109 != t105) = true then (some false) else ((laws_toBlockS.f k l0).bind fun t110 => ((laws_eqBlockS.f k t106 t110).bind fun t113 => (if t113 = true then (some true) else (some false))))))))))) = some r := h
 clear h
 have HR_ := Aside0.mk hr0_
 clear hr0_
 replace H := Option.bind_eq_some_iff.mp H
 obtain ⟨t101, A30, H⟩ := H
 replace H : (if t101 < 0 then (some true) else ((laws_toBlockS.f k l0).bind fun t102 => ((spec_SetHas.f k t102 a1).bind fun t105 => ((laws_toBlockS.f k l0).bind fun t106 => ((impl_SetHas.f k t106 a1).bind fun t109 => (if (t109 != t105) = true then (some false) else ((laws_toBlockS.f k l0).bind fun t110 => ((laws_eqBlockS.f k t106 t110).bind fun t113 => (if t113 = true then (some true) else (some false)))))))))) = some r := H
 have A3 := Aside0.mk A30
 clear A30
 by_cases c4 : t101 < 0
 ·rw [if_pos c4] at H
  have c4b0 : decide (t101 < 0) = true := decide_eq_true c4
  clear c4
  obtain rfl := Option.some.inj H
  go_enter Try.func4, Try.ntmps4
  go_wp2_with (first | ((with_reducible refine gate_callee (f := 16) rfl ?_); refine goesL_ (some 11) rfl rfl Try.func16 (by kernel_rfl) rfl #[.slice A0 l0.length c0, .int .i64 1048576] rfl MT ?_; (with_reducible refine (laws_szBlockS.calls _ _ l0 1048576 t101 _ ?side1 ?side2 A3.out).mono ?_); (case side1 => exact KC HR0.out); (case side2 => exact HC0.out); rintro e w' ⟨rfl, ⟨nd, rfl⟩⟩; refine ⟨_, rfl, ?_⟩))
  go_ret
  exact ⟨ER, KL HB⟩
 ·rw [if_neg c4] at H
  have c4b0 : decide (t101 < 0) = false := decide_eq_false c4
  clear c4
  replace H := Option.bind_eq_some_iff.mp H
  obtain ⟨t102, A50, H⟩ := H
  replace H : ((spec_SetHas.f k t102 a1).bind fun t105 => ((laws_toBlockS.f k l0).bind fun t106 => ((impl_SetHas.f k t106 a1).bind fun t109 => (if (t109 != t105) = true then (some false) else ((laws_toBlockS.f k l0).bind fun t110 => ((laws_eqBlockS.f k t106 t110).bind fun t113 => (if t113 = true then (some true) else (some false)))))))) = some r := H
  have A5 := Aside0.mk A50
  clear A50
  replace H := Option.bind_eq_some_iff.mp H
  obtain ⟨t105, A60, H⟩ := H
  replace H : ((laws_toBlockS.f k l0).bind fun t106 => ((impl_SetHas.f k t106 a1).bind fun t109 => (if (t109 != t105) = true then (some false) else ((laws_toBlockS.f k l0).bind fun t110 => ((laws_eqBlockS.f k t106 t110).bind fun t113 => (if t113 = true then (some true) else (some false))))))) = some r := H
  have A6 := Aside0.mk A60
  clear A60
  replace H := Option.bind_eq_some_iff.mp H
  obtain ⟨t106, A70, H⟩ := H
  replace H : ((impl_SetHas.f k t106 a1).bind fun t109 => (if (t109 != t105) = true then (some false) else ((laws_toBlockS.f k l0).bind fun t110 => ((laws_eqBlockS.f k t106 t110).bind fun t113 => (if t113 = true then (some true) else (some false)))))) = some r := H
  have A7 := Aside0.mk A70
  clear A70
  replace H := Option.bind_eq_some_iff.mp H
  obtain ⟨t109, A80, H⟩ := H
  replace H : (if (t109 != t105) = true then (some false) else ((laws_toBlockS.f k l0).bind fun t110 => ((laws_eqBlockS.f k t106 t110).bind fun t113 => (if t113 = true then (some true) else (some false))))) = some r := H
  have A8 := Aside0.mk A80
  clear A80
  by_cases c9 : (t109 != t105) = true
  ·rw [if_pos c9] at H
   have c9b0 : (t109 != t105) = true := c9
   (try (have c9b1 : decide (t109 = t105) = false := by simpa using c9))
   (try (have c9b2 : (t109 == t105) = false := by simpa using c9))
   (try (have c9b3 : ¬ (t109 = t105) := by simpa using c9))
   clear c9
   exact absurd ((Option.some.inj H).trans HR_.out) (by decide)
  ·rw [if_neg c9] at H
   have c9b0 : (t109 != t105) = false := by simpa using c9
   (try (have c9b1 : decide (t109 = t105) = true := by simpa using c9))
   (try (have c9b2 : (t109 == t105) = true := by simpa using c9))
   clear c9
   replace H := Option.bind_eq_some_iff.mp H
   obtain ⟨t110, A100, H⟩ := H
   replace H : ((laws_eqBlockS.f k t106 t110).bind fun t113 => (if t113 = true then (some true) else (some false))) = some r := H
   have A10 := Aside0.mk A100
   clear A100
   replace H := Option.bind_eq_some_iff.mp H
   obtain ⟨t113, A110, H⟩ := H
   replace H : (if t113 = true then (some true) else (some false)) = some r := H
   have A11 := Aside0.mk A110
   clear A110
   by_cases c12 : t113 = true
   ·subst c12
    have H1 : (some true) = some r := by rw [if_pos rfl] at H; exact H
    clear H
    have H := H1
    clear H1
    obtain rfl := Option.some.inj H
    go_enter Try.func4, Try.ntmps4
    go_wp2_with (first | ((with_reducible refine gate_callee (f := 16) rfl ?_); refine goesL_ (some 11) rfl rfl Try.func16 (by kernel_rfl) rfl #[.slice A0 l0.length c0, .int .i64 1048576] rfl MT ?_; (with_reducible refine (laws_szBlockS.calls _ _ l0 1048576 t101 _ ?side1 ?side2 A3.out).mono ?_); (case side1 => exact KC HR0.out); (case side2 => exact HC0.out); rintro e w' ⟨rfl, ⟨nd, rfl⟩⟩; refine ⟨_, rfl, ?_⟩) | ((with_reducible refine gate_callee (f := 18) rfl ?_); refine goesL_ (some 15) rfl rfl Try.func18 (by kernel_rfl) rfl #[.slice A0 l0.length c0] rfl MT ?_; (with_reducible refine (laws_toBlockS.calls k _ _ l0 t102 _ ?side1 ?side2 A5.out).mono ?_); (case side1 => exact KC HR0.out); (case side2 => exact HC0.out); rintro e w13 ⟨v103, rfl, ho0, hb⟩; refine ⟨_, rfl, ?_⟩; have HO104 := am (Kd.R_lower ho0 (below_size (KL HB))); replace HB := am (below_step (KL HB) hb); (try clear hb); (try clear ho0); obtain ⟨Ao14, co14, eo14⟩ := Kd.R_slice HO104.out; subst eo14) | ((with_reducible refine gate_callee (f := 17) rfl ?_); refine goesL_ (some 17) rfl rfl Try.func17 (by kernel_rfl) rfl #[.slice Ao14 t102.length co14, .int .i64 a1] rfl MT ?_; (with_reducible refine (spec_SetHas.calls k _ _ t102 a1 t105 _ ?side1 ?side2 A6.out).mono ?_); (case side1 => exact KC (Kd.R_reads' HO104.out).2.2); (case side2 => exact (Kd.R_reads' HO104.out).2.1); rintro e w15 ⟨rfl, hb⟩; refine ⟨_, rfl, ?_⟩; replace HO104 := am (Kd.R_below (KR HO104) hb); replace HB := am (below_step (KL HB) hb); (try clear hb)) | ((with_reducible refine gate_callee (f := 18) rfl ?_); refine goesL_ (some 19) rfl rfl Try.func18 (by kernel_rfl) rfl #[.slice A0 l0.length c0] rfl MT ?_; (with_reducible refine (laws_toBlockS.calls k _ _ l0 t106 _ ?side1 ?side2 A7.out).mono ?_); (case side1 => exact KD HR0 HB); (case side2 => exact HC0.out); rintro e w16 ⟨v107, rfl, ho0, hb⟩; refine ⟨_, rfl, ?_⟩; have HO108 := am (Kd.R_lower (Kd.R_new' ho0 (Kd.R_lt (KR HO104))) (below_size (KL HB))); replace HO104 := am (Kd.R_elder' (KR HO104) (Kd.R_base ho0) hb); replace HB := am (below_step (KL HB) hb); (try clear hb); (try clear ho0); obtain ⟨Ao17, co17, eo17⟩ := Kd.R_slice HO108.out; subst eo17) | ((with_reducible refine gate_callee (f := 15) rfl ?_); refine goesL_ (some 22) rfl rfl Try.func15 (by kernel_rfl) rfl #[.slice Ao17 t106.length co17, .int .i64 a1] rfl MT ?_; (with_reducible refine (impl_SetHas.calls k _ _ t106 a1 t109 _ ?side1 ?side2 A8.out).mono ?_); (case side1 => exact KC (Kd.R_reads' HO108.out).2.2); (case side2 => exact (Kd.R_reads' HO108.out).2.1); rintro e w18 ⟨rfl, hb⟩; refine ⟨_, rfl, ?_⟩; replace HO104 := am (Kd.R_below (KR HO104) hb); replace HO108 := am (Kd.R_below (KR HO108) hb); replace HB := am (below_step (KL HB) hb); (try clear hb)) | ((with_reducible refine gate_callee (f := 18) rfl ?_); refine goesL_ (some 28) rfl rfl Try.func18 (by kernel_rfl) rfl #[.slice A0 l0.length c0] rfl MT ?_; (with_reducible refine (laws_toBlockS.calls k _ _ l0 t110 _ ?side1 ?side2 A10.out).mono ?_); (case side1 => exact KD HR0 HB); (case side2 => exact HC0.out); rintro e w19 ⟨v111, rfl, ho0, hb⟩; refine ⟨_, rfl, ?_⟩; have HO112 := am (Kd.R_lower (Kd.R_new' (Kd.R_new' ho0 (Kd.R_lt (KR HO104))) (Kd.R_lt (KR HO108))) (below_size (KL HB))); replace HO104 := am (Kd.R_elder' (KR HO104) (Kd.R_base ho0) hb); replace HO108 := am (Kd.R_elder' (KR HO108) (Kd.R_base ho0) hb); replace HB := am (below_step (KL HB) hb); (try clear hb); (try clear ho0); obtain ⟨Ao20, co20, eo20⟩ := Kd.R_slice HO112.out; subst eo20) | ((with_reducible refine gate_callee (f := 19) rfl ?_); refine goesL_ (some 29) rfl rfl Try.func19 (by kernel_rfl) rfl #[.slice Ao17 t106.length co17, .slice Ao20 t110.length co20] rfl MT ?_; (with_reducible refine (laws_eqBlockS.calls k _ _ t106 _ _ t110 true _ ?side1 ?side2 ?side3 ?side4 A11.out).mono ?_); (case side1 => exact KC (Kd.R_reads' HO108.out).2.2); (case side2 => exact (Kd.R_reads' HO108.out).2.1); (case side3 => exact KC (Kd.R_reads' HO112.out).2.2); (case side4 => exact (Kd.R_reads' HO112.out).2.1); rintro e w21 ⟨rfl, hb⟩; refine ⟨_, rfl, ?_⟩; replace HO104 := am (Kd.R_below (KR HO104) hb); replace HO108 := am (Kd.R_below (KR HO108) hb); replace HO112 := am (Kd.R_below (KR HO112) hb); replace HB := am (below_step (KL HB) hb); (try clear hb)))
    go_ret
    exact ⟨ER, KL HB⟩
   ·replace c12 := Bool.eq_false_iff.mpr c12
    subst c12
    have H1 : (some false) = some r := by rw [if_neg (show ¬ (false = true) by decide)] at H; exact H
    clear H
    have H := H1
    clear H1
    exact absurd ((Option.some.inj H).trans HR_.out) (by decide)
def laws_FnExactSetHas.Pure : Prop := ∀ (l0 : List (S82)) (a1 : Int), ((l0.length ≤ maxLen ∧ ∀ x_ ∈ l0, wfT82 x_)) → ((Lit.int .i64 a1).wf = true) → ∃ k, laws_FnExactSetHas.f k l0 a1 = some true
theorem laws_FnExactSetHas.walk (P : laws_FnExactSetHas.Pure) (A0 : Option Addr) (c0 : Nat) (l0 : List (S82)) (a1 : Int) (w : World) (hr0 : Kd.C k82 w A0 l0.length l0) (hc0 : l0.length ≤ c0) (q0_ : (l0.length ≤ maxLen ∧ ∀ x_ ∈ l0, wfT82 x_)) (q1_ : (Lit.int .i64 a1).wf = true) :
  Calls Try.prog 4 #[.slice A0 l0.length c0, .int .i64 a1] w fun e w' => e = .returned (.bool true) ∧ Below w.heap.size w w' := by
 obtain ⟨k, h⟩ := P l0 a1 q0_ q1_
 refine (laws_FnExactSetHas.calls k A0 c0 l0 a1 true w hr0 hc0 rfl h).mono ?_
 rintro e w' ⟨rfl, hd⟩
 exact ⟨rfl, hd⟩
end Go.Proofs.Ytmanlcakdcoekaa.PAll
end
