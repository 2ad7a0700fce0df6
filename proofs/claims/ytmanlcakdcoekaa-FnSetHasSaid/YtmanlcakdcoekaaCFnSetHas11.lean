/- Contracts of the functions that the statement reaches, printed by a program out of the translation and joined with the plain laws. -/
import Derived.Test.YtmanlcakdcoekaaCFnSetHas3
import Derived.Test.YtmanlcakdcoekaaCFnSetHas4
import Derived.Test.YtmanlcakdcoekaaCFnSetHas6
import Derived.Test.YtmanlcakdcoekaaCFnSetHas9
import Derived.Test.YtmanlcakdcoekaaCFnSetHas10
section
namespace Go.Proofs.Ytmanlcakdcoekaa.PAll
open Go.RowKit Go.Proofs.YtmanlcakdcoekaaW.PrintWords Go.Proofs.YtmanlcakdcoekaaW.PrintLast Go.Proofs.YtmanlcakdcoekaaW.PrintMore
attribute [local go_sem] max2_int min2_int max_two min_two max_three min_three max_four min_four   -- for this text's walks alone
set_option linter.unusedVariables false
set_option linter.unusedSimpArgs false
mutual
def laws_FnSetHas.j0 : Nat → List (S40) → Int → Bool → Int → Bool → Option (Bool)
 | 0, _, _, _, _, _ => none
 | k + 1, x3, x4, x5, x6, x38 => if x38 = true then ((spec_SetHas.f k x3 x4).bind fun t110 => (if (x5 == t110) = true then ((spec_SetSize.f k x3).bind fun t111 => (some (x6 == t111))) else (some false))) else (laws_FnSetHas.l0 k x3 x4 x5 x6 false 0 0)
def laws_FnSetHas.l0 : Nat → List (S40) → Int → Bool → Int → Bool → Int → Int → Option (Bool)
 | 0, _, _, _, _, _, _, _ => none
 | k + 1, x3, x4, x5, x6, x7, x8, x9 => if x9 < (x3.length : Int) then (if x7 = true then (if 0 ≤ x9 then ((impl_BlockSize.f ((rd_T40 x3 x9).f0) ((rd_T40 x3 x9).f1)).bind fun t113 => (laws_FnSetHas.l0 k x3 x4 x5 x6 true (wrap64 (x8 + t113)) (wrap64 (x9 + 1)))) else (none)) else (if 0 ≤ x9 then ((impl_BlockHas.f ((rd_T40 x3 x9).f0) ((rd_T40 x3 x9).f1) x4).bind fun t115 => ((impl_BlockSize.f ((rd_T40 x3 x9).f0) ((rd_T40 x3 x9).f1)).bind fun t117 => (laws_FnSetHas.l0 k x3 x4 x5 x6 t115 (wrap64 (x8 + t117)) (wrap64 (x9 + 1))))) else (none))) else (if (x5 == x7) = true then (some (x6 == x8)) else (some false))
end
def laws_FnSetHas.f (k : Nat) (l0 : List Int) : Option (Bool) := if (l0.length : Int) > 1048576 then (some true) else ((spec_DrawSetHas.f k l0).bind fun bt101 => ((impl_SetHas.f k bt101.1 bt101.2).bind fun t105 => ((impl_SetSize.f k bt101.1).bind fun t106 => ((spec_SetHas.f k bt101.1 bt101.2).bind fun t107 => (if (t105 != t107) = true then (laws_FnSetHas.j0 k bt101.1 bt101.2 t105 t106 true) else ((spec_SetSize.f k bt101.1).bind fun t108 => (if t106 = t108 then ((spec_SetOk.f k bt101.1).bind fun t109 => (laws_FnSetHas.j0 k bt101.1 bt101.2 t105 t106 (!t109))) else (laws_FnSetHas.j0 k bt101.1 bt101.2 t105 t106 true))))))))
set_option maxHeartbeats 8000000 in
set_option maxRecDepth 100000 in
theorem laws_FnSetHas.calls (k : Nat) (A0 : Option Addr) (c0 : Nat) (l0 : List Int) (r : Bool) (w : World) (hr0 : Kd.C (Kd.int .u8) w A0 l0.length l0) (hc0 : l0.length ≤ c0) (hr0_ : r = true) (h : laws_FnSetHas.f k l0 = some r) :
  Calls Try.prog 6 #[.slice A0 l0.length c0] w fun e w' => e = .returned (.bool r) ∧ Below w.heap.size w w' := by
 have hu40 := Try.underlying40
 have HR0 := Aside0.mk hr0
 have HC0 := Aside0.mk hc0
 clear hr0 hc0
 have HB := am (Below.refl w.heap.size w)
 have H : (if (l0.length : Int) > 1048576 then (some true) else ((spec_DrawSetHas.f k l0).bind fun bt101 => ((impl_SetHas.f k bt101.1 bt101.2).bind fun t105 => ((impl_SetSize.f k bt101.1).bind fun t106 => ((spec_SetHas.f k bt101.1 bt101.2).bind fun t107 => (if (t105 != t107) = true then (laws_FnSetHas.j0 k bt101.1 bt101.2 t105 t106 true) else ((spec_SetSize.f k bt101.1).bind fun t108 => (if t106 = t108 then ((spec_SetOk.f k bt101.1).bind fun t109 => (laws_FnSetHas.j0 k bt101.1 bt101.2 t105 t106 (!t109))) else (laws_FnSetHas.j0 k bt101.1 bt101.2 t105 t106 true))))))))) = some r := h
 clear h
 have HR_ := Aside0.mk hr0_
 clear hr0_
 by_cases c2 : (l0.length : Int) > 1048576
 ·rw [if_pos c2] at H
  have c2b0 : decide (1048576 < (l0.length : Int)) = true := decide_eq_true c2
  have c2b1 : decide (1048576 < l0.length) = true := decide_eq_true (by omega)
  clear c2
  obtain rfl := Option.some.inj H
  go_enter Try.func6, Try.ntmps6
  go_wp2
  go_ret
  exact ⟨ER, KL HB⟩
 ·rw [if_neg c2] at H
  have c2b0 : decide (1048576 < (l0.length : Int)) = false := decide_eq_false c2
  have c2b1 : decide (1048576 < l0.length) = false := decide_eq_false (by omega)
  clear c2
  replace H := Option.bind_eq_some_iff.mp H
  obtain ⟨⟨t101, t102⟩, A30, H⟩ := H
  replace H : ((impl_SetHas.f k t101 t102).bind fun t105 => ((impl_SetSize.f k t101).bind fun t106 => ((spec_SetHas.f k t101 t102).bind fun t107 => (if (t105 != t107) = true then (laws_FnSetHas.j0 k t101 t102 t105 t106 true) else ((spec_SetSize.f k t101).bind fun t108 => (if t106 = t108 then ((spec_SetOk.f k t101).bind fun t109 => (laws_FnSetHas.j0 k t101 t102 t105 t106 (!t109))) else (laws_FnSetHas.j0 k t101 t102 t105 t106 true))))))) = some r := H
  have A3 := Aside0.mk A30
  clear A30
  replace H := Option.bind_eq_some_iff.mp H
  obtain ⟨t105, A40, H⟩ := H
  replace H : ((impl_SetSize.f k t101).bind fun t106 => ((spec_SetHas.f k t101 t102).bind fun t107 => (if (t105 != t107) = true then (laws_FnSetHas.j0 k t101 t102 t105 t106 true) else ((spec_SetSize.f k t101).bind fun t108 => (if t106 = t108 then ((spec_SetOk.f k t101).bind fun t109 => (laws_FnSetHas.j0 k t101 t102 t105 t106 (!t109))) else (laws_FnSetHas.j0 k t101 t102 t105 t106 true)))))) = some r := H
  have A4 := Aside0.mk A40
  clear A40
  replace H := Option.bind_eq_some_iff.mp H
  obtain ⟨t106, A50, H⟩ := H
  replace H : ((spec_SetHas.f k t101 t102).bind fun t107 => (if (t105 != t107) = true then (laws_FnSetHas.j0 k t101 t102 t105 t106 true) else ((spec_SetSize.f k t101).bind fun t108 => (if t106 = t108 then ((spec_SetOk.f k t101).bind fun t109 => (laws_FnSetHas.j0 k t101 t102 t105 t106 (!t109))) else (laws_FnSetHas.j0 k t101 t102 t105 t106 true))))) = some r := H
  have A5 := Aside0.mk A50
  clear A50
  have HC6 := Aside0.mk H
  clear H
  go_enter Try.func6, Try.ntmps6
  go_upto_region 6 with (first | ((with_reducible refine gate_callee (f := 26) rfl ?_); refine goesL_ (some 15) rfl rfl Try.func26 (by kernel_rfl) rfl #[.slice A0 l0.length c0] rfl MT ?_; (with_reducible refine (spec_DrawSetHas.calls k _ _ l0 t101 t102 _ ?side1 ?side2 A3.out).mono ?_); (case side1 => exact KC HR0.out); (case side2 => exact HC0.out); rintro e w7 ⟨v103, rfl, ho0, hb⟩; refine ⟨_, rfl, ?_⟩; have HO104 := am (Kd.R_lower ho0 (below_size (KL HB))); replace HB := am (below_step (KL HB) hb); (try clear hb); (try clear ho0); obtain ⟨Ao8, co8, eo8⟩ := Kd.R_slice HO104.out; subst eo8) | ((with_reducible refine gate_callee (f := 15) rfl ?_); refine goesL_ (some 20) rfl rfl Try.func15 (by kernel_rfl) rfl #[.slice Ao8 t101.length co8, .int .i64 t102] rfl MT ?_; (with_reducible refine (impl_SetHas.calls k _ _ t101 t102 t105 _ ?side1 ?side2 A4.out).mono ?_); (case side1 => exact KC (Kd.R_reads' HO104.out).2.2); (case side2 => exact (Kd.R_reads' HO104.out).2.1); rintro e w9 ⟨rfl, hb⟩; refine ⟨_, rfl, ?_⟩; replace HO104 := am (Kd.R_below (KR HO104) hb); replace HB := am (below_step (KL HB) hb); (try clear hb)) | ((with_reducible refine gate_callee (f := 14) rfl ?_); refine goesL_ (some 22) rfl rfl Try.func14 (by kernel_rfl) rfl #[.slice Ao8 t101.length co8] rfl MT ?_; (with_reducible refine (impl_SetSize.calls k _ _ t101 t106 _ ?side1 ?side2 A5.out).mono ?_); (case side1 => exact KC (Kd.R_reads' HO104.out).2.2); (case side2 => exact (Kd.R_reads' HO104.out).2.1); rintro e w10 ⟨rfl, hb⟩; refine ⟨_, rfl, ?_⟩; replace HO104 := am (Kd.R_below (KR HO104) hb); replace HB := am (below_step (KL HB) hb); (try clear hb)))
  (try simp only [Act.put, List.setIfInBounds_toArray, List.set_cons_zero, List.set_cons_succ])
  go_cut [38] (fun v38 wc => ∃ (kq : Nat) (x38_5 : Bool), v38 = .bool x38_5 ∧ Aside0 (laws_FnSetHas.j0 kq t101 t102 t105 t106 x38_5 = some r) ∧ Aside0 (kq ≤ k) ∧ Aside0 (Kd.R k40 40 wc w.heap.size (fun _ => True) (.slice Ao8 t101.length co8) t101) ∧ Aside0 (Below w.heap.size w wc))
  case first =>
   have H := HC6.out
   clear HC6
   replace H := Option.bind_eq_some_iff.mp H
   obtain ⟨t107, A110, H⟩ := H
   replace H : (if (t105 != t107) = true then (laws_FnSetHas.j0 k t101 t102 t105 t106 true) else ((spec_SetSize.f k t101).bind fun t108 => (if t106 = t108 then ((spec_SetOk.f k t101).bind fun t109 => (laws_FnSetHas.j0 k t101 t102 t105 t106 (!t109))) else (laws_FnSetHas.j0 k t101 t102 t105 t106 true)))) = some r := H
   have A11 := Aside0.mk A110
   clear A110
   by_cases c12 : (t105 != t107) = true
   ·rw [if_pos c12] at H
    have c12b0 : (t105 != t107) = true := c12
    (try (have c12b1 : decide (t105 = t107) = false := by simpa using c12))
    (try (have c12b2 : (t105 == t107) = false := by simpa using c12))
    (try (have c12b3 : ¬ (t105 = t107) := by simpa using c12))
    clear c12
    (first | rw [c12b0] | (simp only [i64_w, i32_w]; rw [c12b0]) | skip)
    have H' := Aside0.mk H
    clear H
    go_wp2_with (first | ((with_reducible refine gate_callee (f := 17) rfl ?_); refine goesL_ (some 26) rfl rfl Try.func17 (by kernel_rfl) rfl #[.slice Ao8 t101.length co8, .int .i64 t102] rfl MT ?_; (with_reducible refine (spec_SetHas.calls k _ _ t101 t102 t107 _ ?side1 ?side2 A11.out).mono ?_); (case side1 => exact KC (Kd.R_reads' HO104.out).2.2); (case side2 => exact (Kd.R_reads' HO104.out).2.1); rintro e w13 ⟨rfl, hb⟩; refine ⟨_, rfl, ?_⟩; replace HO104 := am (Kd.R_below (KR HO104) hb); replace HB := am (below_step (KL HB) hb); (try clear hb)))
    go_meet
    case rel => exact ⟨_, (true), (by first | rfl | (simp; done) | (simp [*]; done)), H', ⟨by first | omega | exact Nat.le_refl _⟩, ⟨KR HO104⟩, ⟨KL HB⟩⟩
   ·rw [if_neg c12] at H
    have c12b0 : (t105 != t107) = false := by simpa using c12
    (try (have c12b1 : decide (t105 = t107) = true := by simpa using c12))
    (try (have c12b2 : (t105 == t107) = true := by simpa using c12))
    clear c12
    (first | rw [c12b0] | (simp only [i64_w, i32_w]; rw [c12b0]) | skip)
    replace H := Option.bind_eq_some_iff.mp H
    obtain ⟨t108, A140, H⟩ := H
    replace H : (if t106 = t108 then ((spec_SetOk.f k t101).bind fun t109 => (laws_FnSetHas.j0 k t101 t102 t105 t106 (!t109))) else (laws_FnSetHas.j0 k t101 t102 t105 t106 true)) = some r := H
    have A14 := Aside0.mk A140
    clear A140
    by_cases c15 : t106 = t108
    ·rw [if_pos c15] at H
     have c15b0 : (t106 == t108) = true := beq_iff_eq.mpr c15
     have c15b1 : (t106 != t108) = false := bne_eq_false_iff_eq.mpr c15
     clear c15
     replace H := Option.bind_eq_some_iff.mp H
     obtain ⟨t109, A160, H⟩ := H
     replace H : (laws_FnSetHas.j0 k t101 t102 t105 t106 (!t109)) = some r := H
     have A16 := Aside0.mk A160
     clear A160
     have H' := Aside0.mk H
     clear H
     go_wp2_with (first | ((with_reducible refine gate_callee (f := 17) rfl ?_); refine goesL_ (some 26) rfl rfl Try.func17 (by kernel_rfl) rfl #[.slice Ao8 t101.length co8, .int .i64 t102] rfl MT ?_; (with_reducible refine (spec_SetHas.calls k _ _ t101 t102 t107 _ ?side1 ?side2 A11.out).mono ?_); (case side1 => exact KC (Kd.R_reads' HO104.out).2.2); (case side2 => exact (Kd.R_reads' HO104.out).2.1); rintro e w17 ⟨rfl, hb⟩; refine ⟨_, rfl, ?_⟩; replace HO104 := am (Kd.R_below (KR HO104) hb); replace HB := am (below_step (KL HB) hb); (try clear hb)) | (go_at_call 27; (with_reducible refine (spec_SetSize.calls k _ _ t101 t108 _ ?side1 ?side2 A14.out).mono ?_); (case side1 => exact KC (Kd.R_reads' HO104.out).2.2); (case side2 => exact (Kd.R_reads' HO104.out).2.1); rintro e w18 ⟨rfl, hb⟩; replace HO104 := am (Kd.R_below (KR HO104) hb); replace HB := am (below_step (KL HB) hb); (try clear hb)) | (go_at_call 28; (with_reducible refine (spec_SetOk.calls k _ _ t101 t109 _ ?side1 ?side2 A16.out).mono ?_); (case side1 => exact KC (Kd.R_reads' HO104.out).2.2); (case side2 => exact (Kd.R_reads' HO104.out).2.1); rintro e w19 ⟨rfl, hb⟩; replace HO104 := am (Kd.R_below (KR HO104) hb); replace HB := am (below_step (KL HB) hb); (try clear hb)))
     go_meet
     case rel => exact ⟨_, (!t109), (by first | rfl | (simp; done) | (simp [*]; done)), H', ⟨by first | omega | exact Nat.le_refl _⟩, ⟨KR HO104⟩, ⟨KL HB⟩⟩
    ·rw [if_neg c15] at H
     have c15b0 : (t106 == t108) = false := beq_eq_false_iff_ne.mpr c15
     have c15b1 : (t106 != t108) = true := bne_iff_ne.mpr c15
     have H' := Aside0.mk H
     clear H
     go_wp2_with (first | ((with_reducible refine gate_callee (f := 17) rfl ?_); refine goesL_ (some 26) rfl rfl Try.func17 (by kernel_rfl) rfl #[.slice Ao8 t101.length co8, .int .i64 t102] rfl MT ?_; (with_reducible refine (spec_SetHas.calls k _ _ t101 t102 t107 _ ?side1 ?side2 A11.out).mono ?_); (case side1 => exact KC (Kd.R_reads' HO104.out).2.2); (case side2 => exact (Kd.R_reads' HO104.out).2.1); rintro e w20 ⟨rfl, hb⟩; refine ⟨_, rfl, ?_⟩; replace HO104 := am (Kd.R_below (KR HO104) hb); replace HB := am (below_step (KL HB) hb); (try clear hb)) | (go_at_call 27; (with_reducible refine (spec_SetSize.calls k _ _ t101 t108 _ ?side1 ?side2 A14.out).mono ?_); (case side1 => exact KC (Kd.R_reads' HO104.out).2.2); (case side2 => exact (Kd.R_reads' HO104.out).2.1); rintro e w21 ⟨rfl, hb⟩; replace HO104 := am (Kd.R_below (KR HO104) hb); replace HB := am (below_step (KL HB) hb); (try clear hb)))
     go_meet
     case rel => exact ⟨_, (true), (by first | rfl | (simp; done) | (simp [*]; done)), H', ⟨by first | omega | exact Nat.le_refl _⟩, ⟨KR HO104⟩, ⟨KL HB⟩⟩
  case rest =>
   clear HC6
   try clear c1
   try clear c2
   try clear c2b0
   try clear c2b1
   try clear p2
   try clear c6
   try clear c12
   try clear c12b0
   try clear c12b1
   try clear c12b2
   try clear c14
   try clear c15
   try clear c15b0
   try clear c15b1
   try clear c17
   obtain ⟨kq, x38_5, rfl, HA, HJ5, HO_3, HB⟩ := hcut
   cases kq with
   | zero => exact absurd HA.out (by simp [laws_FnSetHas.j0])
   | succ kj5 =>
    have H := HA.out
    clear HA
    simp only [laws_FnSetHas.j0] at H
    by_cases c22 : x38_5 = true
    ·subst c22
     have H1 : ((spec_SetHas.f kj5 t101 t102).bind fun t110 => (if (t105 == t110) = true then ((spec_SetSize.f kj5 t101).bind fun t111 => (some (t106 == t111))) else (some false))) = some r := by rw [if_pos rfl] at H; exact H
     clear H
     have H := H1
     clear H1
     replace H := Option.bind_eq_some_iff.mp H
     obtain ⟨t110, A230, H⟩ := H
     replace H : (if (t105 == t110) = true then ((spec_SetSize.f kj5 t101).bind fun t111 => (some (t106 == t111))) else (some false)) = some r := H
     have A23 := Aside0.mk A230
     clear A230
     by_cases c24 : (t105 == t110) = true
     ·rw [if_pos c24] at H
      have c24b0 : (t105 == t110) = true := c24
      (try (have c24b1 : decide (t105 = t110) = true := by simpa using c24))
      (try (have c24b2 : (t105 == t110) = true := by simpa using c24))
      clear c24
      replace H := Option.bind_eq_some_iff.mp H
      obtain ⟨t111, A250, H⟩ := H
      replace H : (some (t106 == t111)) = some r := H
      have A25 := Aside0.mk A250
      clear A250
      obtain rfl := Option.some.inj H
      go_wp2_with (first | ((with_reducible refine gate_callee (f := 17) rfl ?_); refine goesL_ (some 42) rfl rfl Try.func17 (by kernel_rfl) rfl #[.slice Ao8 t101.length co8, .int .i64 t102] rfl MT ?_; (with_reducible refine (spec_SetHas.calls kj5 _ _ t101 t102 t110 _ ?side1 ?side2 A23.out).mono ?_); (case side1 => exact KC (Kd.R_reads' HO_3.out).2.2); (case side2 => exact (Kd.R_reads' HO_3.out).2.1); rintro e w26 ⟨rfl, hb⟩; refine ⟨_, rfl, ?_⟩; replace HO_3 := am (Kd.R_below (KR HO_3) hb); replace HB := am (below_step (KL HB) hb); (try clear hb)) | (go_at_call 27; (with_reducible refine (spec_SetSize.calls kj5 _ _ t101 t111 _ ?side1 ?side2 A25.out).mono ?_); (case side1 => exact KC (Kd.R_reads' HO_3.out).2.2); (case side2 => exact (Kd.R_reads' HO_3.out).2.1); rintro e w27 ⟨rfl, hb⟩; replace HO_3 := am (Kd.R_below (KR HO_3) hb); replace HB := am (below_step (KL HB) hb); (try clear hb)))
      go_ret
      exact ⟨ER, KL HB⟩
     ·rw [if_neg c24] at H
      have c24b0 : (t105 == t110) = false := by simpa using c24
      (try (have c24b1 : decide (t105 = t110) = false := by simpa using c24))
      (try (have c24b2 : (t105 == t110) = false := by simpa using c24))
      (try (have c24b3 : ¬ (t105 = t110) := by simpa using c24))
      clear c24
      exact absurd ((Option.some.inj H).trans HR_.out) (by decide)
    ·replace c22 := Bool.eq_false_iff.mpr c22
     subst c22
     have H1 : (laws_FnSetHas.l0 kj5 t101 t102 t105 t106 false 0 0) = some r := by rw [if_neg (show ¬ (false = true) by decide)] at H; exact H
     clear H
     have H := H1
     clear H1
     have H' := Aside0.mk H
     clear H
     go_wp2
     go_loopg [7, 8, 9] kj5 (fun kq v7 v8 v9 w' => ∃ (x7_2 : Bool) (x8_2 : Int) (x9_2 : Int), v7 = .bool x7_2 ∧ v8 = .int .i64 x8_2 ∧ v9 = .int .i64 x9_2 ∧ Aside0 (laws_FnSetHas.l0 kq t101 t102 t105 t106 x7_2 x8_2 x9_2 = some r) ∧ Aside0 (kq ≤ kj5) ∧ Aside0 (Kd.R k40 40 w' w.heap.size (fun _ => True) (.slice Ao8 t101.length co8) t101) ∧ Aside0 (Below w.heap.size w w'))
     case atStart => exact ⟨(false), (0), (0), (by first | rfl | (simp; done) | (simp [*]; done)), (by first | rfl | (simp; done) | (simp [*]; done)), (by first | rfl | (simp; done) | (simp [*]; done)), H', ⟨Nat.le_refl _⟩, ⟨KR HO_3⟩, ⟨KL HB⟩⟩
     case round =>
      clear H'
      try clear c1
      try clear c2
      try clear c2b0
      try clear c2b1
      try clear p2
      try clear c6
      try clear c12
      try clear c12b0
      try clear c12b1
      try clear c12b2
      try clear c14
      try clear c15
      try clear c15b0
      try clear c15b1
      try clear c17
      try clear c22
      try clear c24
      try clear c24b0
      try clear c24b1
      try clear c24b2
      try clear c26
      try clear p2
      obtain ⟨x7_2, x8_2, x9_2, rfl, rfl, rfl, HA, HK2, HO_3, HB⟩ := hrel
      cases gk with
      | zero => exact absurd HA.out (by simp [laws_FnSetHas.l0])
      | succ k2 =>
       have H := HA.out
       clear HA
       simp only [laws_FnSetHas.l0] at H
       by_cases c28 : x9_2 < (t101.length : Int)
       ·rw [if_pos c28] at H
        have c28b0 : decide (x9_2 < (t101.length : Int)) = true := decide_eq_true c28
        clear c28
        by_cases c29 : x7_2 = true
        ·subst c29
         have H1 : (if 0 ≤ x9_2 then ((impl_BlockSize.f ((rd_T40 t101 x9_2).f0) ((rd_T40 t101 x9_2).f1)).bind fun t113 => (laws_FnSetHas.l0 k2 t101 t102 t105 t106 true (wrap64 (x8_2 + t113)) (wrap64 (x9_2 + 1)))) else (none)) = some r := by rw [if_pos rfl] at H; exact H
         clear H
         have H := H1
         clear H1
         by_cases c30 : 0 ≤ x9_2
         ·rw [if_pos c30] at H
          have c30b0 : decide (0 ≤ x9_2) = true := decide_eq_true c30
          clear c30
          replace H := Option.bind_eq_some_iff.mp H
          obtain ⟨t113, A310, H⟩ := H
          replace H : (laws_FnSetHas.l0 k2 t101 t102 t105 t106 true (wrap64 (x8_2 + t113)) (wrap64 (x9_2 + 1))) = some r := H
          have A31 := Aside0.mk A310
          clear A310
          have H' := Aside0.mk H
          clear H
          have p112 : 0 ≤ (x9_2 : Int) := OD
          have q112 : x9_2 < (t101.length : Int) := OD
          obtain ⟨ad112, e112, hx112_0, hx112_1⟩ := at_T40 (Kd.R_reads' HO_3.out).2.2 x9_2 p112 q112
          cases e112
          replace p112 := eq_true p112
          replace q112 := eq_true q112
          go_wp2_with (first | ((with_reducible refine gate_callee (f := 23) rfl ?_); refine goesL_ (some 70) rfl rfl Try.func23 (by kernel_rfl) rfl #[.agg #[.int .i64 ((rd_T40 t101 x9_2).f0), .int .i64 ((rd_T40 t101 x9_2).f1)]] rfl MT ?_; (with_reducible refine (impl_BlockSize.calls ((rd_T40 t101 x9_2).f0) ((rd_T40 t101 x9_2).f1) t113 _ A31.out).mono ?_); rintro e w32 ⟨rfl, hb⟩; refine ⟨_, rfl, ?_⟩; replace HO_3 := am (Kd.R_below (KR HO_3) hb); replace HB := am (below_step (KL HB) hb); (try clear hb)))
          go_roundg k2
          case measure => have := HJ5.out; have := HK2.out; omega
          case rel => exact ⟨(true), (wrap64 (x8_2 + t113)), (wrap64 (x9_2 + 1)), (by first | rfl | (simp; done) | (simp [*]; done)), (by first | rfl | (simp; done) | (simp [*]; done)), (by first | rfl | (simp; done) | (simp [*]; done)), H', ⟨by have := HJ5.out; have := HK2.out; omega⟩, ⟨KR HO_3⟩, ⟨KL HB⟩⟩
         ·rw [if_neg c30] at H
          exact absurd H (by simp)
        ·replace c29 := Bool.eq_false_iff.mpr c29
         subst c29
         have H1 : (if 0 ≤ x9_2 then ((impl_BlockHas.f ((rd_T40 t101 x9_2).f0) ((rd_T40 t101 x9_2).f1) t102).bind fun t115 => ((impl_BlockSize.f ((rd_T40 t101 x9_2).f0) ((rd_T40 t101 x9_2).f1)).bind fun t117 => (laws_FnSetHas.l0 k2 t101 t102 t105 t106 t115 (wrap64 (x8_2 + t117)) (wrap64 (x9_2 + 1))))) else (none)) = some r := by rw [if_neg (show ¬ (false = true) by decide)] at H; exact H
         clear H
         have H := H1
         clear H1
         by_cases c33 : 0 ≤ x9_2
         ·rw [if_pos c33] at H
          have c33b0 : decide (0 ≤ x9_2) = true := decide_eq_true c33
          clear c33
          replace H := Option.bind_eq_some_iff.mp H
          obtain ⟨t115, A340, H⟩ := H
          replace H : ((impl_BlockSize.f ((rd_T40 t101 x9_2).f0) ((rd_T40 t101 x9_2).f1)).bind fun t117 => (laws_FnSetHas.l0 k2 t101 t102 t105 t106 t115 (wrap64 (x8_2 + t117)) (wrap64 (x9_2 + 1)))) = some r := H
          have A34 := Aside0.mk A340
          clear A340
          replace H := Option.bind_eq_some_iff.mp H
          obtain ⟨t117, A350, H⟩ := H
          replace H : (laws_FnSetHas.l0 k2 t101 t102 t105 t106 t115 (wrap64 (x8_2 + t117)) (wrap64 (x9_2 + 1))) = some r := H
          have A35 := Aside0.mk A350
          clear A350
          have H' := Aside0.mk H
          clear H
          have p114 : 0 ≤ (x9_2 : Int) := OD
          have q114 : x9_2 < (t101.length : Int) := OD
          obtain ⟨ad114, e114, hx114_0, hx114_1⟩ := at_T40 (Kd.R_reads' HO_3.out).2.2 x9_2 p114 q114
          cases e114
          replace p114 := eq_true p114
          replace q114 := eq_true q114
          go_wp2_with (first | (go_at_call 29; (with_reducible refine (impl_BlockHas.calls ((rd_T40 t101 x9_2).f0) ((rd_T40 t101 x9_2).f1) t102 t115 _ A34.out).mono ?_); rintro e w36 ⟨rfl, hb⟩; replace HO_3 := am (Kd.R_below (KR HO_3) hb); replace HB := am (below_step (KL HB) hb); (try clear hb); have p116 : 0 ≤ (x9_2 : Int) := OD; have q116 : x9_2 < (t101.length : Int) := OD; obtain ⟨ad116, e116, hx116_0, hx116_1⟩ := at_T40 (Kd.R_reads' HO_3.out).2.2 x9_2 p116 q116; obtain rfl : ad114 = ad116 := (by injection e116); replace p116 := eq_true p116; replace q116 := eq_true q116) | ((with_reducible refine gate_callee (f := 23) rfl ?_); refine goesL_ (some 70) rfl rfl Try.func23 (by kernel_rfl) rfl #[.agg #[.int .i64 ((rd_T40 t101 x9_2).f0), .int .i64 ((rd_T40 t101 x9_2).f1)]] rfl MT ?_; (with_reducible refine (impl_BlockSize.calls ((rd_T40 t101 x9_2).f0) ((rd_T40 t101 x9_2).f1) t117 _ A35.out).mono ?_); rintro e w37 ⟨rfl, hb⟩; refine ⟨_, rfl, ?_⟩; replace HO_3 := am (Kd.R_below (KR HO_3) hb); replace HB := am (below_step (KL HB) hb); (try clear hb)))
          go_roundg k2
          case measure => have := HJ5.out; have := HK2.out; omega
          case rel => exact ⟨(t115), (wrap64 (x8_2 + t117)), (wrap64 (x9_2 + 1)), (by first | rfl | (simp; done) | (simp [*]; done)), (by first | rfl | (simp; done) | (simp [*]; done)), (by first | rfl | (simp; done) | (simp [*]; done)), H', ⟨by have := HJ5.out; have := HK2.out; omega⟩, ⟨KR HO_3⟩, ⟨KL HB⟩⟩
         ·rw [if_neg c33] at H
          exact absurd H (by simp)
       ·rw [if_neg c28] at H
        have c28b0 : decide (x9_2 < (t101.length : Int)) = false := decide_eq_false c28
        clear c28
        by_cases c38 : (t105 == x7_2) = true
        ·rw [if_pos c38] at H
         have c38b0 : (t105 == x7_2) = true := c38
         (try (have c38b1 : decide (t105 = x7_2) = true := by simpa using c38))
         (try (have c38b2 : (t105 == x7_2) = true := by simpa using c38))
         clear c38
         obtain rfl := Option.some.inj H
         go_wp2
         go_ret
         exact ⟨ER, KL HB⟩
        ·rw [if_neg c38] at H
         have c38b0 : (t105 == x7_2) = false := by simpa using c38
         (try (have c38b1 : decide (t105 = x7_2) = false := by simpa using c38))
         (try (have c38b2 : (t105 == x7_2) = false := by simpa using c38))
         (try (have c38b3 : ¬ (t105 = x7_2) := by simpa using c38))
         clear c38
         exact absurd ((Option.some.inj H).trans HR_.out) (by decide)
/-- THE ONE PURE STATEMENT of laws_FnSetHas: yours. -/
def laws_FnSetHas.Pure : Prop := ∀ (l0 : List Int), l0.length ≤ maxLen → l0.length * 1 ≤ 140737488351232 → (∀ x ∈ l0, (Lit.int .u8 x).wf = true) → ∃ k, laws_FnSetHas.f k l0 = some true
theorem laws_FnSetHas.walk (P : laws_FnSetHas.Pure) (a0 : Option Addr) (len0 cap0 : Nat) (z0 : List Int) (w : World) (w0 : (a0 = none ∧ len0 = 0 ∧ cap0 = 0 ∧ z0 = []) ∨ ∃ x, a0 = some x ∧ len0 ≤ cap0 ∧ cap0 ≤ maxLen ∧ z0.length = cap0 ∧ (∀ i, i < z0.length → w.cell? (x.add i) = some (.int .u8 (z0.getD i 0))) ∧ ∀ n ∈ z0, (Lit.int .u8 n).wf = true) (y0 : len0 * 1 ≤ 140737488351232) :
  Calls Try.prog 6 #[.slice a0 len0 cap0] w fun e w' => e = .returned (.bool true) ∧ Below w.heap.size w w' := by
 obtain ⟨l0, rfl, hr0, hm0, hw0, hc0⟩ := ReadsInt.ofRowC w0
 obtain ⟨k, h⟩ := P l0 hm0 y0 hw0
 refine (laws_FnSetHas.calls k _ _ l0 true w (Kd.C_of_reads (d := (0 : Int)) (h1 := fun _ => rfl) hr0) hc0 rfl h).mono ?_
 rintro e w' ⟨rfl, hd⟩
 exact ⟨rfl, hd⟩
end Go.Proofs.Ytmanlcakdcoekaa.PAll
end
