/- Contracts of the functions that the statement reaches, printed by a program out of the translation and joined with the plain laws. -/
import Derived.Test.YtkgbgaojglcaoaaCFnWaysDiffer3
import Derived.Test.YtkgbgaojglcaoaaCFnWaysDiffer4
import Derived.Test.YtkgbgaojglcaoaaCFnWaysDiffer5
import Derived.Test.YtkgbgaojglcaoaaCFnWaysDiffer6
import Derived.Test.YtkgbgaojglcaoaaCFnWaysDiffer8
import Derived.Test.YtkgbgaojglcaoaaCFnWaysDiffer9
section
namespace Go.Proofs.Ytkgbgaojglcaoaa.PAll
open Go.RowKit Go.Proofs.YtkgbgaojglcaoaaW.PrintWords Go.Proofs.YtkgbgaojglcaoaaW.PrintLast Go.Proofs.YtkgbgaojglcaoaaW.PrintMore
attribute [local go_sem] max2_int min2_int max_two min_two max_three min_three max_four min_four   -- for this text's walks alone
set_option linter.unusedVariables false
set_option linter.unusedSimpArgs false
mutual
def laws_FnWaysDiffer.j0 : Nat → List Int → List Int → Bool → Option (Bool)
 | 0, _, _, _ => none
 | k + 1, x0, x1, x24 => if x24 = true then (some true) else ((spec_DrawWaysDiffer.f k x0).bind fun bt101 => ((impl_WaysDiffer.f k bt101.1 bt101.2).bind fun bt107 => ((spec_WaysDiffer.f k bt101.1 bt101.2).bind fun bt109 => ((impl_WaysDiffer.f k bt101.2 bt101.1).bind fun bt111 => (if bt107.1 = bt109.1 then (if (bt107.2 != bt109.2) = true then (laws_FnWaysDiffer.j1 k x1 bt101.1 bt101.2 bt107.1 bt107.2 bt109.1 bt109.2 bt111.1 bt111.2 true) else (if bt111.1 = bt107.1 then (if (bt111.2 != bt107.2) = true then (laws_FnWaysDiffer.j1 k x1 bt101.1 bt101.2 bt107.1 bt107.2 bt109.1 bt109.2 bt111.1 bt111.2 true) else ((spec_WaysOk.f k bt101.1).bind fun t113 => (if t113 = true then ((spec_WaysOk.f k bt101.2).bind fun t114 => (laws_FnWaysDiffer.j1 k x1 bt101.1 bt101.2 bt107.1 bt107.2 bt109.1 bt109.2 bt111.1 bt111.2 (!t114))) else (laws_FnWaysDiffer.j1 k x1 bt101.1 bt101.2 bt107.1 bt107.2 bt109.1 bt109.2 bt111.1 bt111.2 true)))) else (laws_FnWaysDiffer.j1 k x1 bt101.1 bt101.2 bt107.1 bt107.2 bt109.1 bt109.2 bt111.1 bt111.2 true))) else (laws_FnWaysDiffer.j1 k x1 bt101.1 bt101.2 bt107.1 bt107.2 bt109.1 bt109.2 bt111.1 bt111.2 true))))))
def laws_FnWaysDiffer.j1 : Nat → List Int → List (S45) → List (S45) → Int → Bool → Int → Bool → Int → Bool → Bool → Option (Bool)
 | 0, _, _, _, _, _, _, _, _, _, _ => none
 | k + 1, x1, x5, x6, x7, x8, x9, x10, x11, x12, x75 => if x75 = true then (if x7 = x9 then (if (x8 == x10) = true then (if x11 = x7 then (some (x12 == x8)) else (some false)) else (some false)) else (some false)) else ((impl_WaysDiffer.f k x5 x5).bind fun bt115 => ((spec_DrawWaysLead.f k x1).bind fun bt117 => (if x8 = true then ((impl_WaysLead.f k x5 x7).bind fun t121 => ((impl_WaysLead.f k x6 x7).bind fun t122 => (if t121 = t122 then (laws_FnWaysDiffer.j2 k x5 x6 x7 x8 bt115.2 bt117.2 true) else (if x7 > 0 then ((impl_WaysLead.f k x5 (wrap64 (x7 - 1))).bind fun t123 => ((impl_WaysLead.f k x6 (wrap64 (x7 - 1))).bind fun t124 => (laws_FnWaysDiffer.j2 k x5 x6 x7 x8 bt115.2 bt117.2 (t123 != t124)))) else (laws_FnWaysDiffer.j2 k x5 x6 x7 x8 bt115.2 bt117.2 false))))) else (laws_FnWaysDiffer.j2 k x5 x6 x7 x8 bt115.2 bt117.2 false))))
def laws_FnWaysDiffer.j2 : Nat → List (S45) → List (S45) → Int → Bool → Bool → Int → Bool → Option (Bool)
 | 0, _, _, _, _, _, _, _ => none
 | k + 1, x5, x6, x7, x8, x14, x16, x129 => if x129 = true then (some false) else (if x14 = true then (some false) else ((impl_WaysLead.f k x5 x16).bind fun t125 => ((impl_WaysLead.f k x6 x16).bind fun t126 => (if t125 = t126 then (some true) else (if x8 = true then (some (decide (x7 ≤ x16))) else (some false))))))
end
def laws_FnWaysDiffer.f (k : Nat) (l0 : List Int) (l1 : List Int) : Option (Bool) := if (l0.length : Int) > 1048576 then (laws_FnWaysDiffer.j0 k l0 l1 true) else (laws_FnWaysDiffer.j0 k l0 l1 (decide ((l1.length : Int) > 1048576)))
set_option maxHeartbeats 8000000 in
set_option maxRecDepth 100000 in
theorem laws_FnWaysDiffer.calls (k : Nat) (A0 : Option Addr) (c0 : Nat) (l0 : List Int) (A1 : Option Addr) (c1 : Nat) (l1 : List Int) (r : Bool) (w : World) (hr0 : Kd.C (Kd.int .u8) w A0 l0.length l0) (hc0 : l0.length ≤ c0) (hr1 : Kd.C (Kd.int .u8) w A1 l1.length l1) (hc1 : l1.length ≤ c1) (hr0_ : r = true) (h : laws_FnWaysDiffer.f k l0 l1 = some r) :
  Calls Try.prog 4 #[.slice A0 l0.length c0, .slice A1 l1.length c1] w fun e w' => e = .returned (.bool r) ∧ Below w.heap.size w w' := by
 have HR0 := Aside0.mk hr0
 have HC0 := Aside0.mk hc0
 clear hr0 hc0
 have HR1 := Aside0.mk hr1
 have HC1 := Aside0.mk hc1
 clear hr1 hc1
 have HB := am (Below.refl w.heap.size w)
 have H : (if (l0.length : Int) > 1048576 then (laws_FnWaysDiffer.j0 k l0 l1 true) else (laws_FnWaysDiffer.j0 k l0 l1 (decide ((l1.length : Int) > 1048576)))) = some r := h
 clear h
 have HR_ := Aside0.mk hr0_
 clear hr0_
 have HC3 := Aside0.mk H
 clear H
 go_enter Try.func4, Try.ntmps4
 go_upto_region 1 with (fail)
 go_cut [24] (fun v24 wc => ∃ (kq : Nat) (x24_2 : Bool), v24 = .bool x24_2 ∧ Aside0 (laws_FnWaysDiffer.j0 kq l0 l1 x24_2 = some r) ∧ Aside0 (kq ≤ k) ∧ Aside0 (Below w.heap.size w wc))
 case first =>
  have H := HC3.out
  clear HC3
  by_cases c4 : (l0.length : Int) > 1048576
  ·rw [if_pos c4] at H
   have c4b0 : decide (1048576 < (l0.length : Int)) = true := decide_eq_true c4
   have c4b1 : decide (1048576 < l0.length) = true := decide_eq_true (by omega)
   clear c4
   (first | rw [c4b0] | (simp only [i64_w, i32_w]; rw [c4b0]) | skip)
   have H' := Aside0.mk H
   clear H
   go_wp2
   go_meet
   case rel => exact ⟨_, (true), (by first | rfl | (simp; done) | (simp [*]; done)), H', ⟨by first | omega | exact Nat.le_refl _⟩, ⟨KL HB⟩⟩
  ·rw [if_neg c4] at H
   have c4b0 : decide (1048576 < (l0.length : Int)) = false := decide_eq_false c4
   have c4b1 : decide (1048576 < l0.length) = false := decide_eq_false (by omega)
   clear c4
   (first | rw [c4b0] | (simp only [i64_w, i32_w]; rw [c4b0]) | skip)
   have H' := Aside0.mk H
   clear H
   go_wp2
   go_meet
   case rel => exact ⟨_, (decide ((l1.length : Int) > 1048576)), (by first | rfl | (simp; done) | (simp [*]; done)), H', ⟨by first | omega | exact Nat.le_refl _⟩, ⟨KL HB⟩⟩
 case rest =>
  clear HC3
  try clear c1
  try clear p2
  try clear c4
  try clear c4b0
  try clear c4b1
  obtain ⟨kq, x24_2, rfl, HA, HJ2, HB⟩ := hcut
  cases kq with
  | zero => exact absurd HA.out (by simp [laws_FnWaysDiffer.j0])
  | succ kj2 =>
   have H := HA.out
   clear HA
   simp only [laws_FnWaysDiffer.j0] at H
   by_cases c5 : x24_2 = true
   ·subst c5
    have H1 : (some true) = some r := by rw [if_pos rfl] at H; exact H
    clear H
    have H := H1
    clear H1
    obtain rfl := Option.some.inj H
    go_wp2
    go_ret
    exact ⟨ER, KL HB⟩
   ·replace c5 := Bool.eq_false_iff.mpr c5
    subst c5
    have H1 : ((spec_DrawWaysDiffer.f kj2 l0).bind fun bt101 => ((impl_WaysDiffer.f kj2 bt101.1 bt101.2).bind fun bt107 => ((spec_WaysDiffer.f kj2 bt101.1 bt101.2).bind fun bt109 => ((impl_WaysDiffer.f kj2 bt101.2 bt101.1).bind fun bt111 => (if bt107.1 = bt109.1 then (if (bt107.2 != bt109.2) = true then (laws_FnWaysDiffer.j1 kj2 l1 bt101.1 bt101.2 bt107.1 bt107.2 bt109.1 bt109.2 bt111.1 bt111.2 true) else (if bt111.1 = bt107.1 then (if (bt111.2 != bt107.2) = true then (laws_FnWaysDiffer.j1 kj2 l1 bt101.1 bt101.2 bt107.1 bt107.2 bt109.1 bt109.2 bt111.1 bt111.2 true) else ((spec_WaysOk.f kj2 bt101.1).bind fun t113 => (if t113 = true then ((spec_WaysOk.f kj2 bt101.2).bind fun t114 => (laws_FnWaysDiffer.j1 kj2 l1 bt101.1 bt101.2 bt107.1 bt107.2 bt109.1 bt109.2 bt111.1 bt111.2 (!t114))) else (laws_FnWaysDiffer.j1 kj2 l1 bt101.1 bt101.2 bt107.1 bt107.2 bt109.1 bt109.2 bt111.1 bt111.2 true)))) else (laws_FnWaysDiffer.j1 kj2 l1 bt101.1 bt101.2 bt107.1 bt107.2 bt109.1 bt109.2 bt111.1 bt111.2 true))) else (laws_FnWaysDiffer.j1 kj2 l1 bt101.1 bt101.2 bt107.1 bt107.2 bt109.1 bt109.2 bt111.1 bt111.2 true)))))) = some r := by rw [if_neg (show ¬ (false = true) by decide)] at H; exact H
    clear H
    have H := H1
    clear H1
    replace H := Option.bind_eq_some_iff.mp H
    obtain ⟨⟨t101, t102⟩, A60, H⟩ := H
    replace H : ((impl_WaysDiffer.f kj2 t101 t102).bind fun bt107 => ((spec_WaysDiffer.f kj2 t101 t102).bind fun bt109 => ((impl_WaysDiffer.f kj2 t102 t101).bind fun bt111 => (if bt107.1 = bt109.1 then (if (bt107.2 != bt109.2) = true then (laws_FnWaysDiffer.j1 kj2 l1 t101 t102 bt107.1 bt107.2 bt109.1 bt109.2 bt111.1 bt111.2 true) else (if bt111.1 = bt107.1 then (if (bt111.2 != bt107.2) = true then (laws_FnWaysDiffer.j1 kj2 l1 t101 t102 bt107.1 bt107.2 bt109.1 bt109.2 bt111.1 bt111.2 true) else ((spec_WaysOk.f kj2 t101).bind fun t113 => (if t113 = true then ((spec_WaysOk.f kj2 t102).bind fun t114 => (laws_FnWaysDiffer.j1 kj2 l1 t101 t102 bt107.1 bt107.2 bt109.1 bt109.2 bt111.1 bt111.2 (!t114))) else (laws_FnWaysDiffer.j1 kj2 l1 t101 t102 bt107.1 bt107.2 bt109.1 bt109.2 bt111.1 bt111.2 true)))) else (laws_FnWaysDiffer.j1 kj2 l1 t101 t102 bt107.1 bt107.2 bt109.1 bt109.2 bt111.1 bt111.2 true))) else (laws_FnWaysDiffer.j1 kj2 l1 t101 t102 bt107.1 bt107.2 bt109.1 bt109.2 bt111.1 bt111.2 true))))) = some r := H
    have A6 := Aside0.mk A60
    clear A60
    replace H := Option.bind_eq_some_iff.mp H
    obtain ⟨⟨t107, t108⟩, A70, H⟩ := H
    replace H : ((spec_WaysDiffer.f kj2 t101 t102).bind fun bt109 => ((impl_WaysDiffer.f kj2 t102 t101).bind fun bt111 => (if t107 = bt109.1 then (if (t108 != bt109.2) = true then (laws_FnWaysDiffer.j1 kj2 l1 t101 t102 t107 t108 bt109.1 bt109.2 bt111.1 bt111.2 true) else (if bt111.1 = t107 then (if (bt111.2 != t108) = true then (laws_FnWaysDiffer.j1 kj2 l1 t101 t102 t107 t108 bt109.1 bt109.2 bt111.1 bt111.2 true) else ((spec_WaysOk.f kj2 t101).bind fun t113 => (if t113 = true then ((spec_WaysOk.f kj2 t102).bind fun t114 => (laws_FnWaysDiffer.j1 kj2 l1 t101 t102 t107 t108 bt109.1 bt109.2 bt111.1 bt111.2 (!t114))) else (laws_FnWaysDiffer.j1 kj2 l1 t101 t102 t107 t108 bt109.1 bt109.2 bt111.1 bt111.2 true)))) else (laws_FnWaysDiffer.j1 kj2 l1 t101 t102 t107 t108 bt109.1 bt109.2 bt111.1 bt111.2 true))) else (laws_FnWaysDiffer.j1 kj2 l1 t101 t102 t107 t108 bt109.1 bt109.2 bt111.1 bt111.2 true)))) = some r := H
    have A7 := Aside0.mk A70
    clear A70
    replace H := Option.bind_eq_some_iff.mp H
    obtain ⟨⟨t109, t110⟩, A80, H⟩ := H
    replace H : ((impl_WaysDiffer.f kj2 t102 t101).bind fun bt111 => (if t107 = t109 then (if (t108 != t110) = true then (laws_FnWaysDiffer.j1 kj2 l1 t101 t102 t107 t108 t109 t110 bt111.1 bt111.2 true) else (if bt111.1 = t107 then (if (bt111.2 != t108) = true then (laws_FnWaysDiffer.j1 kj2 l1 t101 t102 t107 t108 t109 t110 bt111.1 bt111.2 true) else ((spec_WaysOk.f kj2 t101).bind fun t113 => (if t113 = true then ((spec_WaysOk.f kj2 t102).bind fun t114 => (laws_FnWaysDiffer.j1 kj2 l1 t101 t102 t107 t108 t109 t110 bt111.1 bt111.2 (!t114))) else (laws_FnWaysDiffer.j1 kj2 l1 t101 t102 t107 t108 t109 t110 bt111.1 bt111.2 true)))) else (laws_FnWaysDiffer.j1 kj2 l1 t101 t102 t107 t108 t109 t110 bt111.1 bt111.2 true))) else (laws_FnWaysDiffer.j1 kj2 l1 t101 t102 t107 t108 t109 t110 bt111.1 bt111.2 true))) = some r := H
    have A8 := Aside0.mk A80
    clear A80
    replace H := Option.bind_eq_some_iff.mp H
    obtain ⟨⟨t111, t112⟩, A90, H⟩ := H
    replace H : (if t107 = t109 then (if (t108 != t110) = true then (laws_FnWaysDiffer.j1 kj2 l1 t101 t102 t107 t108 t109 t110 t111 t112 true) else (if t111 = t107 then (if (t112 != t108) = true then (laws_FnWaysDiffer.j1 kj2 l1 t101 t102 t107 t108 t109 t110 t111 t112 true) else ((spec_WaysOk.f kj2 t101).bind fun t113 => (if t113 = true then ((spec_WaysOk.f kj2 t102).bind fun t114 => (laws_FnWaysDiffer.j1 kj2 l1 t101 t102 t107 t108 t109 t110 t111 t112 (!t114))) else (laws_FnWaysDiffer.j1 kj2 l1 t101 t102 t107 t108 t109 t110 t111 t112 true)))) else (laws_FnWaysDiffer.j1 kj2 l1 t101 t102 t107 t108 t109 t110 t111 t112 true))) else (laws_FnWaysDiffer.j1 kj2 l1 t101 t102 t107 t108 t109 t110 t111 t112 true)) = some r := H
    have A9 := Aside0.mk A90
    clear A90
    have HC10 := Aside0.mk H
    clear H
    go_upto_region 7 with (first | ((with_reducible refine gate_callee (f := 19) rfl ?_); refine goesL_ (some 27) rfl rfl Try.func19 (by kernel_rfl) rfl #[.slice A0 l0.length c0] rfl MT ?_; (with_reducible refine (spec_DrawWaysDiffer.calls kj2 _ _ l0 t101 t102 _ ?side1 ?side2 A6.out).mono ?_); (case side1 => exact KD HR0 HB); (case side2 => exact HC0.out); rintro e w11 ⟨v103, v105, rfl, ho0, ho1, hb⟩; refine ⟨_, rfl, ?_⟩; have HO104 := am (Kd.R_lower ho0 (below_size (KL HB))); have HO106 := am (Kd.R_lower ho1 (below_size (KL HB))); replace HB := am (below_step (KL HB) hb); (try clear hb); (try clear ho0); (try clear ho1); obtain ⟨Ao12, co12, eo12⟩ := Kd.R_slice HO104.out; subst eo12; obtain ⟨Ao13, co13, eo13⟩ := Kd.R_slice HO106.out; subst eo13) | ((with_reducible refine gate_callee (f := 17) rfl ?_); refine goesL_ (some 33) rfl rfl Try.func17 (by kernel_rfl) rfl #[.slice Ao12 t101.length co12, .slice Ao13 t102.length co13] rfl MT ?_; (with_reducible refine (impl_WaysDiffer.calls kj2 (fun k_ => some k_ = (.slice Ao12 t101.length co12 : Value).ownBlock) _ _ t101 (fun k_ => some k_ = (.slice Ao13 t102.length co13 : Value).ownBlock) _ _ t102 t107 t108 _ ?side1 ?side2 A7.out).mono ?_); (case side1 => exact Kd.R_V (Kd.R_tight rfl (HO104.out))); (case side2 => exact Kd.R_V (Kd.R_tight rfl (HO106.out))); rintro e w14 ⟨rfl, hb⟩; refine ⟨_, rfl, ?_⟩; replace HO104 := am (Kd.R_below (KR HO104) hb); replace HO106 := am (Kd.R_below (KR HO106) hb); replace HB := am (below_step (KL HB) hb); (try clear hb)) | ((with_reducible refine gate_callee (f := 15) rfl ?_); refine goesL_ (some 39) rfl rfl Try.func15 (by kernel_rfl) rfl #[.slice Ao12 t101.length co12, .slice Ao13 t102.length co13] rfl MT ?_; (with_reducible refine (spec_WaysDiffer.calls kj2 _ _ t101 _ _ t102 t109 t110 _ ?side1 ?side2 ?side3 ?side4 A8.out).mono ?_); (case side1 => exact KC (Kd.R_reads' HO104.out).2.2); (case side2 => exact (Kd.R_reads' HO104.out).2.1); (case side3 => exact KC (Kd.R_reads' HO106.out).2.2); (case side4 => exact (Kd.R_reads' HO106.out).2.1); rintro e w15 ⟨rfl, hb⟩; refine ⟨_, rfl, ?_⟩; replace HO104 := am (Kd.R_below (KR HO104) hb); replace HO106 := am (Kd.R_below (KR HO106) hb); replace HB := am (below_step (KL HB) hb); (try clear hb)) | ((with_reducible refine gate_callee (f := 17) rfl ?_); refine goesL_ (some 45) rfl rfl Try.func17 (by kernel_rfl) rfl #[.slice Ao13 t102.length co13, .slice Ao12 t101.length co12] rfl MT ?_; (with_reducible refine (impl_WaysDiffer.calls kj2 (fun k_ => some k_ = (.slice Ao13 t102.length co13 : Value).ownBlock) _ _ t102 (fun k_ => some k_ = (.slice Ao12 t101.length co12 : Value).ownBlock) _ _ t101 t111 t112 _ ?side1 ?side2 A9.out).mono ?_); (case side1 => exact Kd.R_V (Kd.R_tight rfl (HO106.out))); (case side2 => exact Kd.R_V (Kd.R_tight rfl (HO104.out))); rintro e w16 ⟨rfl, hb⟩; refine ⟨_, rfl, ?_⟩; replace HO104 := am (Kd.R_below (KR HO104) hb); replace HO106 := am (Kd.R_below (KR HO106) hb); replace HB := am (below_step (KL HB) hb); (try clear hb)))
    (try simp only [Act.put, List.setIfInBounds_toArray, List.set_cons_zero, List.set_cons_succ])
    go_cut [75] (fun v75 wc => ∃ (kq : Nat) (x75_9 : Bool), v75 = .bool x75_9 ∧ Aside0 (laws_FnWaysDiffer.j1 kq l1 t101 t102 t107 t108 t109 t110 t111 t112 x75_9 = some r) ∧ Aside0 (kq ≤ kj2) ∧ Aside0 (Kd.R k45 45 wc w.heap.size (fun k_ => some k_ ≠ ((.slice Ao13 t102.length co13) : Value).ownBlock) (.slice Ao12 t101.length co12) t101) ∧ Aside0 (Kd.R k45 45 wc w.heap.size (fun k_ => some k_ ≠ ((.slice Ao12 t101.length co12) : Value).ownBlock) (.slice Ao13 t102.length co13) t102) ∧ Aside0 (Below w.heap.size w wc))
    case first =>
     have H := HC10.out
     clear HC10
     by_cases c17 : t107 = t109
     ·rw [if_pos c17] at H
      have c17b0 : (t107 == t109) = true := beq_iff_eq.mpr c17
      have c17b1 : (t107 != t109) = false := bne_eq_false_iff_eq.mpr c17
      clear c17
      (first | rw [c17b0] | (simp only [i64_w, i32_w]; rw [c17b0]) | skip)
      by_cases c18 : (t108 != t110) = true
      ·rw [if_pos c18] at H
       have c18b0 : (t108 != t110) = true := c18
       (try (have c18b1 : decide (t108 = t110) = false := by simpa using c18))
       (try (have c18b2 : (t108 == t110) = false := by simpa using c18))
       (try (have c18b3 : ¬ (t108 = t110) := by simpa using c18))
       clear c18
       have H' := Aside0.mk H
       clear H
       go_wp2
       go_meet
       case rel => exact ⟨_, (true), (by first | rfl | (simp; done) | (simp [*]; done)), H', ⟨by have := HJ2.out; first | omega | exact Nat.le_refl _⟩, ⟨KR HO104⟩, ⟨KR HO106⟩, ⟨KL HB⟩⟩
      ·rw [if_neg c18] at H
       have c18b0 : (t108 != t110) = false := by simpa using c18
       (try (have c18b1 : decide (t108 = t110) = true := by simpa using c18))
       (try (have c18b2 : (t108 == t110) = true := by simpa using c18))
       clear c18
       by_cases c19 : t111 = t107
       ·rw [if_pos c19] at H
        have c19b0 : (t111 == t107) = true := beq_iff_eq.mpr c19
        have c19b1 : (t111 != t107) = false := bne_eq_false_iff_eq.mpr c19
        clear c19
        by_cases c20 : (t112 != t108) = true
        ·rw [if_pos c20] at H
         have c20b0 : (t112 != t108) = true := c20
         (try (have c20b1 : decide (t112 = t108) = false := by simpa using c20))
         (try (have c20b2 : (t112 == t108) = false := by simpa using c20))
         (try (have c20b3 : ¬ (t112 = t108) := by simpa using c20))
         clear c20
         have H' := Aside0.mk H
         clear H
         go_wp2
         go_meet
         case rel => exact ⟨_, (true), (by first | rfl | (simp; done) | (simp [*]; done)), H', ⟨by have := HJ2.out; first | omega | exact Nat.le_refl _⟩, ⟨KR HO104⟩, ⟨KR HO106⟩, ⟨KL HB⟩⟩
        ·rw [if_neg c20] at H
         have c20b0 : (t112 != t108) = false := by simpa using c20
         (try (have c20b1 : decide (t112 = t108) = true := by simpa using c20))
         (try (have c20b2 : (t112 == t108) = true := by simpa using c20))
         clear c20
         replace H := Option.bind_eq_some_iff.mp H
         obtain ⟨t113, A210, H⟩ := H
         replace H : (if t113 = true then ((spec_WaysOk.f kj2 t102).bind fun t114 => (laws_FnWaysDiffer.j1 kj2 l1 t101 t102 t107 t108 t109 t110 t111 t112 (!t114))) else (laws_FnWaysDiffer.j1 kj2 l1 t101 t102 t107 t108 t109 t110 t111 t112 true)) = some r := H
         have A21 := Aside0.mk A210
         clear A210
         by_cases c22 : t113 = true
         ·subst c22
          have H1 : ((spec_WaysOk.f kj2 t102).bind fun t114 => (laws_FnWaysDiffer.j1 kj2 l1 t101 t102 t107 t108 t109 t110 t111 t112 (!t114))) = some r := by rw [if_pos rfl] at H; exact H
          clear H
          have H := H1
          clear H1
          replace H := Option.bind_eq_some_iff.mp H
          obtain ⟨t114, A230, H⟩ := H
          replace H : (laws_FnWaysDiffer.j1 kj2 l1 t101 t102 t107 t108 t109 t110 t111 t112 (!t114)) = some r := H
          have A23 := Aside0.mk A230
          clear A230
          have H' := Aside0.mk H
          clear H
          go_wp2_with (first | (go_at_call 20; (with_reducible refine (spec_WaysOk.calls kj2 _ _ t101 true _ ?side1 ?side2 A21.out).mono ?_); (case side1 => exact KC (Kd.R_reads' HO104.out).2.2); (case side2 => exact (Kd.R_reads' HO104.out).2.1); clear A21; rintro e w24 ⟨rfl, hb⟩; replace HO104 := am (Kd.R_below (KR HO104) hb); replace HO106 := am (Kd.R_below (KR HO106) hb); replace HB := am (below_step (KL HB) hb); (try clear hb)) | (go_at_call 20; (with_reducible refine (spec_WaysOk.calls kj2 _ _ t102 t114 _ ?side1 ?side2 A23.out).mono ?_); (case side1 => exact KC (Kd.R_reads' HO106.out).2.2); (case side2 => exact (Kd.R_reads' HO106.out).2.1); rintro e w25 ⟨rfl, hb⟩; replace HO104 := am (Kd.R_below (KR HO104) hb); replace HO106 := am (Kd.R_below (KR HO106) hb); replace HB := am (below_step (KL HB) hb); (try clear hb)))
          go_meet
          case rel => exact ⟨_, (!t114), (by first | rfl | (simp; done) | (simp [*]; done)), H', ⟨by have := HJ2.out; first | omega | exact Nat.le_refl _⟩, ⟨KR HO104⟩, ⟨KR HO106⟩, ⟨KL HB⟩⟩
         ·replace c22 := Bool.eq_false_iff.mpr c22
          subst c22
          have H1 : (laws_FnWaysDiffer.j1 kj2 l1 t101 t102 t107 t108 t109 t110 t111 t112 true) = some r := by rw [if_neg (show ¬ (false = true) by decide)] at H; exact H
          clear H
          have H := H1
          clear H1
          have H' := Aside0.mk H
          clear H
          go_wp2_with (first | (go_at_call 20; (with_reducible refine (spec_WaysOk.calls kj2 _ _ t101 false _ ?side1 ?side2 A21.out).mono ?_); (case side1 => exact KC (Kd.R_reads' HO104.out).2.2); (case side2 => exact (Kd.R_reads' HO104.out).2.1); rintro e w26 ⟨rfl, hb⟩; replace HO104 := am (Kd.R_below (KR HO104) hb); replace HO106 := am (Kd.R_below (KR HO106) hb); replace HB := am (below_step (KL HB) hb); (try clear hb)))
          go_meet
          case rel => exact ⟨_, (true), (by first | rfl | (simp; done) | (simp [*]; done)), H', ⟨by have := HJ2.out; first | omega | exact Nat.le_refl _⟩, ⟨KR HO104⟩, ⟨KR HO106⟩, ⟨KL HB⟩⟩
       ·rw [if_neg c19] at H
        have c19b0 : (t111 == t107) = false := beq_eq_false_iff_ne.mpr c19
        have c19b1 : (t111 != t107) = true := bne_iff_ne.mpr c19
        have H' := Aside0.mk H
        clear H
        go_wp2
        go_meet
        case rel => exact ⟨_, (true), (by first | rfl | (simp; done) | (simp [*]; done)), H', ⟨by have := HJ2.out; first | omega | exact Nat.le_refl _⟩, ⟨KR HO104⟩, ⟨KR HO106⟩, ⟨KL HB⟩⟩
     ·rw [if_neg c17] at H
      have c17b0 : (t107 == t109) = false := beq_eq_false_iff_ne.mpr c17
      have c17b1 : (t107 != t109) = true := bne_iff_ne.mpr c17
      (first | rw [c17b0] | (simp only [i64_w, i32_w]; rw [c17b0]) | skip)
      have H' := Aside0.mk H
      clear H
      go_wp2
      go_meet
      case rel => exact ⟨_, (true), (by first | rfl | (simp; done) | (simp [*]; done)), H', ⟨by have := HJ2.out; first | omega | exact Nat.le_refl _⟩, ⟨KR HO104⟩, ⟨KR HO106⟩, ⟨KL HB⟩⟩
    case rest =>
     clear HC10
     try clear c1
     try clear c2
     try clear p2
     try clear c4
     try clear c4b0
     try clear c4b1
     try clear c5
     try clear c15
     try clear c17
     try clear c17b0
     try clear c17b1
     try clear c18
     try clear c18b0
     try clear c18b1
     try clear c18b2
     try clear c19
     try clear c19b0
     try clear c19b1
     try clear c20
     try clear c20b0
     try clear c20b1
     try clear c20b2
     try clear c22
     try clear p2
     obtain ⟨kq, x75_9, rfl, HA, HJ9, HO_5, HO_6, HB⟩ := hcut
     cases kq with
     | zero => exact absurd HA.out (by simp [laws_FnWaysDiffer.j1])
     | succ kj9 =>
      have H := HA.out
      clear HA
      simp only [laws_FnWaysDiffer.j1] at H
      by_cases c27 : x75_9 = true
      ·subst c27
       have H1 : (if t107 = t109 then (if (t108 == t110) = true then (if t111 = t107 then (some (t112 == t108)) else (some false)) else (some false)) else (some false)) = some r := by rw [if_pos rfl] at H; exact H
       clear H
       have H := H1
       clear H1
       by_cases c28 : t107 = t109
       ·rw [if_pos c28] at H
        have c28b0 : (t107 == t109) = true := beq_iff_eq.mpr c28
        have c28b1 : (t107 != t109) = false := bne_eq_false_iff_eq.mpr c28
        clear c28
        by_cases c29 : (t108 == t110) = true
        ·rw [if_pos c29] at H
         have c29b0 : (t108 == t110) = true := c29
         (try (have c29b1 : decide (t108 = t110) = true := by simpa using c29))
         (try (have c29b2 : (t108 == t110) = true := by simpa using c29))
         clear c29
         by_cases c30 : t111 = t107
         ·rw [if_pos c30] at H
          have c30b0 : (t111 == t107) = true := beq_iff_eq.mpr c30
          have c30b1 : (t111 != t107) = false := bne_eq_false_iff_eq.mpr c30
          clear c30
          obtain rfl := Option.some.inj H
          go_wp2
          go_ret
          exact ⟨ER, KL HB⟩
         ·rw [if_neg c30] at H
          have c30b0 : (t111 == t107) = false := beq_eq_false_iff_ne.mpr c30
          have c30b1 : (t111 != t107) = true := bne_iff_ne.mpr c30
          exact absurd ((Option.some.inj H).trans HR_.out) (by decide)
        ·rw [if_neg c29] at H
         have c29b0 : (t108 == t110) = false := by simpa using c29
         (try (have c29b1 : decide (t108 = t110) = false := by simpa using c29))
         (try (have c29b2 : (t108 == t110) = false := by simpa using c29))
         (try (have c29b3 : ¬ (t108 = t110) := by simpa using c29))
         clear c29
         exact absurd ((Option.some.inj H).trans HR_.out) (by decide)
       ·rw [if_neg c28] at H
        have c28b0 : (t107 == t109) = false := beq_eq_false_iff_ne.mpr c28
        have c28b1 : (t107 != t109) = true := bne_iff_ne.mpr c28
        exact absurd ((Option.some.inj H).trans HR_.out) (by decide)
      ·replace c27 := Bool.eq_false_iff.mpr c27
       subst c27
       have H1 : ((impl_WaysDiffer.f kj9 t101 t101).bind fun bt115 => ((spec_DrawWaysLead.f kj9 l1).bind fun bt117 => (if t108 = true then ((impl_WaysLead.f kj9 t101 t107).bind fun t121 => ((impl_WaysLead.f kj9 t102 t107).bind fun t122 => (if t121 = t122 then (laws_FnWaysDiffer.j2 kj9 t101 t102 t107 t108 bt115.2 bt117.2 true) else (if t107 > 0 then ((impl_WaysLead.f kj9 t101 (wrap64 (t107 - 1))).bind fun t123 => ((impl_WaysLead.f kj9 t102 (wrap64 (t107 - 1))).bind fun t124 => (laws_FnWaysDiffer.j2 kj9 t101 t102 t107 t108 bt115.2 bt117.2 (t123 != t124)))) else (laws_FnWaysDiffer.j2 kj9 t101 t102 t107 t108 bt115.2 bt117.2 false))))) else (laws_FnWaysDiffer.j2 kj9 t101 t102 t107 t108 bt115.2 bt117.2 false)))) = some r := by rw [if_neg (show ¬ (false = true) by decide)] at H; exact H
       clear H
       have H := H1
       clear H1
       replace H := Option.bind_eq_some_iff.mp H
       obtain ⟨⟨t115, t116⟩, A310, H⟩ := H
       replace H : ((spec_DrawWaysLead.f kj9 l1).bind fun bt117 => (if t108 = true then ((impl_WaysLead.f kj9 t101 t107).bind fun t121 => ((impl_WaysLead.f kj9 t102 t107).bind fun t122 => (if t121 = t122 then (laws_FnWaysDiffer.j2 kj9 t101 t102 t107 t108 t116 bt117.2 true) else (if t107 > 0 then ((impl_WaysLead.f kj9 t101 (wrap64 (t107 - 1))).bind fun t123 => ((impl_WaysLead.f kj9 t102 (wrap64 (t107 - 1))).bind fun t124 => (laws_FnWaysDiffer.j2 kj9 t101 t102 t107 t108 t116 bt117.2 (t123 != t124)))) else (laws_FnWaysDiffer.j2 kj9 t101 t102 t107 t108 t116 bt117.2 false))))) else (laws_FnWaysDiffer.j2 kj9 t101 t102 t107 t108 t116 bt117.2 false))) = some r := H
       have A31 := Aside0.mk A310
       clear A310
       replace H := Option.bind_eq_some_iff.mp H
       obtain ⟨⟨t117, t118⟩, A320, H⟩ := H
       replace H : (if t108 = true then ((impl_WaysLead.f kj9 t101 t107).bind fun t121 => ((impl_WaysLead.f kj9 t102 t107).bind fun t122 => (if t121 = t122 then (laws_FnWaysDiffer.j2 kj9 t101 t102 t107 t108 t116 t118 true) else (if t107 > 0 then ((impl_WaysLead.f kj9 t101 (wrap64 (t107 - 1))).bind fun t123 => ((impl_WaysLead.f kj9 t102 (wrap64 (t107 - 1))).bind fun t124 => (laws_FnWaysDiffer.j2 kj9 t101 t102 t107 t108 t116 t118 (t123 != t124)))) else (laws_FnWaysDiffer.j2 kj9 t101 t102 t107 t108 t116 t118 false))))) else (laws_FnWaysDiffer.j2 kj9 t101 t102 t107 t108 t116 t118 false)) = some r := H
       have A32 := Aside0.mk A320
       clear A320
       have HC33 := Aside0.mk H
       clear H
       go_upto_region 11 with (first | ((with_reducible refine gate_callee (f := 17) rfl ?_); refine goesL_ (some 97) rfl rfl Try.func17 (by kernel_rfl) rfl #[.slice Ao12 t101.length co12, .slice Ao12 t101.length co12] rfl MT ?_; (with_reducible refine (impl_WaysDiffer.calls kj9 (fun k_ => some k_ = (.slice Ao12 t101.length co12 : Value).ownBlock) _ _ t101 (fun k_ => some k_ = (.slice Ao12 t101.length co12 : Value).ownBlock) _ _ t101 t115 t116 _ ?side1 ?side2 A31.out).mono ?_); (case side1 => exact Kd.R_V (Kd.R_tight rfl (HO_5.out))); (case side2 => exact Kd.R_V (Kd.R_tight rfl (HO_5.out))); rintro e w34 ⟨rfl, hb⟩; refine ⟨_, rfl, ?_⟩; replace HO_5 := am (Kd.R_below (KR HO_5) hb); replace HO_6 := am (Kd.R_below (KR HO_6) hb); replace HB := am (below_step (KL HB) hb); (try clear hb)) | ((with_reducible refine gate_callee (f := 21) rfl ?_); refine goesL_ (some 102) rfl rfl Try.func21 (by kernel_rfl) rfl #[.slice A1 l1.length c1] rfl MT ?_; (with_reducible refine (spec_DrawWaysLead.calls kj9 _ _ l1 t117 t118 _ ?side1 ?side2 A32.out).mono ?_); (case side1 => exact KD HR1 HB); (case side2 => exact HC1.out); rintro e w35 ⟨v119, rfl, ho0, hb⟩; refine ⟨_, rfl, ?_⟩; have HO120 := am (Kd.R_lower (Kd.R_new' (Kd.R_new' ho0 (Kd.R_lt (KR HO_5))) (Kd.R_lt (KR HO_6))) (below_size (KL HB))); replace HO_5 := am (Kd.R_elder' (KR HO_5) (Kd.R_base ho0) hb); replace HO_6 := am (Kd.R_elder' (KR HO_6) (Kd.R_base ho0) hb); replace HB := am (below_step (KL HB) hb); (try clear hb); (try clear ho0)))
       (try simp only [Act.put, List.setIfInBounds_toArray, List.set_cons_zero, List.set_cons_succ])
       go_cut [129] (fun v129 wc => ∃ (kq : Nat) (x129_32 : Bool), v129 = .bool x129_32 ∧ Aside0 (laws_FnWaysDiffer.j2 kq t101 t102 t107 t108 t116 t118 x129_32 = some r) ∧ Aside0 (kq ≤ kj9) ∧ Aside0 (Kd.R k45 45 wc w.heap.size (fun k_ => some k_ ≠ ((.slice Ao13 t102.length co13) : Value).ownBlock) (.slice Ao12 t101.length co12) t101) ∧ Aside0 (Kd.R k45 45 wc w.heap.size (fun k_ => some k_ ≠ ((.slice Ao12 t101.length co12) : Value).ownBlock) (.slice Ao13 t102.length co13) t102) ∧ Aside0 (Below w.heap.size w wc))
       case first =>
        have H := HC33.out
        clear HC33
        by_cases c36 : t108 = true
        ·subst c36
         have H1 : ((impl_WaysLead.f kj9 t101 t107).bind fun t121 => ((impl_WaysLead.f kj9 t102 t107).bind fun t122 => (if t121 = t122 then (laws_FnWaysDiffer.j2 kj9 t101 t102 t107 true t116 t118 true) else (if t107 > 0 then ((impl_WaysLead.f kj9 t101 (wrap64 (t107 - 1))).bind fun t123 => ((impl_WaysLead.f kj9 t102 (wrap64 (t107 - 1))).bind fun t124 => (laws_FnWaysDiffer.j2 kj9 t101 t102 t107 true t116 t118 (t123 != t124)))) else (laws_FnWaysDiffer.j2 kj9 t101 t102 t107 true t116 t118 false))))) = some r := by rw [if_pos rfl] at H; exact H
         clear H
         have H := H1
         clear H1
         replace H := Option.bind_eq_some_iff.mp H
         obtain ⟨t121, A370, H⟩ := H
         replace H : ((impl_WaysLead.f kj9 t102 t107).bind fun t122 => (if t121 = t122 then (laws_FnWaysDiffer.j2 kj9 t101 t102 t107 true t116 t118 true) else (if t107 > 0 then ((impl_WaysLead.f kj9 t101 (wrap64 (t107 - 1))).bind fun t123 => ((impl_WaysLead.f kj9 t102 (wrap64 (t107 - 1))).bind fun t124 => (laws_FnWaysDiffer.j2 kj9 t101 t102 t107 true t116 t118 (t123 != t124)))) else (laws_FnWaysDiffer.j2 kj9 t101 t102 t107 true t116 t118 false)))) = some r := H
         have A37 := Aside0.mk A370
         clear A370
         replace H := Option.bind_eq_some_iff.mp H
         obtain ⟨t122, A380, H⟩ := H
         replace H : (if t121 = t122 then (laws_FnWaysDiffer.j2 kj9 t101 t102 t107 true t116 t118 true) else (if t107 > 0 then ((impl_WaysLead.f kj9 t101 (wrap64 (t107 - 1))).bind fun t123 => ((impl_WaysLead.f kj9 t102 (wrap64 (t107 - 1))).bind fun t124 => (laws_FnWaysDiffer.j2 kj9 t101 t102 t107 true t116 t118 (t123 != t124)))) else (laws_FnWaysDiffer.j2 kj9 t101 t102 t107 true t116 t118 false))) = some r := H
         have A38 := Aside0.mk A380
         clear A380
         by_cases c39 : t121 = t122
         ·rw [if_pos c39] at H
          have c39b0 : (t121 == t122) = true := beq_iff_eq.mpr c39
          have c39b1 : (t121 != t122) = false := bne_eq_false_iff_eq.mpr c39
          clear c39
          (first | rw [c39b0] | (simp only [i64_w, i32_w]; rw [c39b0]) | skip)
          have H' := Aside0.mk H
          clear H
          go_wp2_with (first | (go_at_call 22; (with_reducible refine (impl_WaysLead.calls kj9 _ _ t101 t107 t121 _ ?side1 ?side2 A37.out).mono ?_); (case side1 => exact KC (Kd.R_reads' HO_5.out).2.2); (case side2 => exact (Kd.R_reads' HO_5.out).2.1); clear A37; rintro e w40 ⟨rfl, hb⟩; replace HO_5 := am (Kd.R_below (KR HO_5) hb); replace HO_6 := am (Kd.R_below (KR HO_6) hb); replace HO120 := am (Kd.R_below (KR HO120) hb); replace HB := am (below_step (KL HB) hb); (try clear hb)) | (go_at_call 22; (with_reducible refine (impl_WaysLead.calls kj9 _ _ t102 t107 t122 _ ?side1 ?side2 A38.out).mono ?_); (case side1 => exact KC (Kd.R_reads' HO_6.out).2.2); (case side2 => exact (Kd.R_reads' HO_6.out).2.1); rintro e w41 ⟨rfl, hb⟩; replace HO_5 := am (Kd.R_below (KR HO_5) hb); replace HO_6 := am (Kd.R_below (KR HO_6) hb); replace HO120 := am (Kd.R_below (KR HO120) hb); replace HB := am (below_step (KL HB) hb); (try clear hb)))
          go_meet
          case rel => exact ⟨_, (true), (by first | rfl | (simp; done) | (simp [*]; done)), H', ⟨by have := HJ2.out; have := HJ9.out; first | omega | exact Nat.le_refl _⟩, ⟨by (with_reducible repeat (first | apply Kd.R_alloc | apply Kd.R_drewN | apply Kd.R_drew)); exact Kd.R_mono HO_5.out (fun _ hk => hk.1)⟩, ⟨by (with_reducible repeat (first | apply Kd.R_alloc | apply Kd.R_drewN | apply Kd.R_drew)); exact Kd.R_mono HO_6.out (fun _ hk => hk.1)⟩, ⟨KL HB⟩⟩
         ·rw [if_neg c39] at H
          have c39b0 : (t121 == t122) = false := beq_eq_false_iff_ne.mpr c39
          have c39b1 : (t121 != t122) = true := bne_iff_ne.mpr c39
          (first | rw [c39b0] | (simp only [i64_w, i32_w]; rw [c39b0]) | skip)
          by_cases c42 : t107 > 0
          ·rw [if_pos c42] at H
           have c42b0 : decide (0 < t107) = true := decide_eq_true c42
           clear c42
           replace H := Option.bind_eq_some_iff.mp H
           obtain ⟨t123, A430, H⟩ := H
           replace H : ((impl_WaysLead.f kj9 t102 (wrap64 (t107 - 1))).bind fun t124 => (laws_FnWaysDiffer.j2 kj9 t101 t102 t107 true t116 t118 (t123 != t124))) = some r := H
           have A43 := Aside0.mk A430
           clear A430
           replace H := Option.bind_eq_some_iff.mp H
           obtain ⟨t124, A440, H⟩ := H
           replace H : (laws_FnWaysDiffer.j2 kj9 t101 t102 t107 true t116 t118 (t123 != t124)) = some r := H
           have A44 := Aside0.mk A440
           clear A440
           have H' := Aside0.mk H
           clear H
           go_wp2_with (first | (go_at_call 22; (with_reducible refine (impl_WaysLead.calls kj9 _ _ t101 t107 t121 _ ?side1 ?side2 A37.out).mono ?_); (case side1 => exact KC (Kd.R_reads' HO_5.out).2.2); (case side2 => exact (Kd.R_reads' HO_5.out).2.1); clear A37; rintro e w45 ⟨rfl, hb⟩; replace HO_5 := am (Kd.R_below (KR HO_5) hb); replace HO_6 := am (Kd.R_below (KR HO_6) hb); replace HO120 := am (Kd.R_below (KR HO120) hb); replace HB := am (below_step (KL HB) hb); (try clear hb)) | (go_at_call 22; (with_reducible refine (impl_WaysLead.calls kj9 _ _ t102 t107 t122 _ ?side1 ?side2 A38.out).mono ?_); (case side1 => exact KC (Kd.R_reads' HO_6.out).2.2); (case side2 => exact (Kd.R_reads' HO_6.out).2.1); clear A38; rintro e w46 ⟨rfl, hb⟩; replace HO_5 := am (Kd.R_below (KR HO_5) hb); replace HO_6 := am (Kd.R_below (KR HO_6) hb); replace HO120 := am (Kd.R_below (KR HO120) hb); replace HB := am (below_step (KL HB) hb); (try clear hb)) | (go_at_call 22; (with_reducible refine (impl_WaysLead.calls kj9 _ _ t101 (wrap64 (t107 - 1)) t123 _ ?side1 ?side2 A43.out).mono ?_); (case side1 => exact KC (Kd.R_reads' HO_5.out).2.2); (case side2 => exact (Kd.R_reads' HO_5.out).2.1); clear A43; rintro e w47 ⟨rfl, hb⟩; replace HO_5 := am (Kd.R_below (KR HO_5) hb); replace HO_6 := am (Kd.R_below (KR HO_6) hb); replace HO120 := am (Kd.R_below (KR HO120) hb); replace HB := am (below_step (KL HB) hb); (try clear hb)) | (go_at_call 22; (with_reducible refine (impl_WaysLead.calls kj9 _ _ t102 (wrap64 (t107 - 1)) t124 _ ?side1 ?side2 A44.out).mono ?_); (case side1 => exact KC (Kd.R_reads' HO_6.out).2.2); (case side2 => exact (Kd.R_reads' HO_6.out).2.1); rintro e w48 ⟨rfl, hb⟩; replace HO_5 := am (Kd.R_below (KR HO_5) hb); replace HO_6 := am (Kd.R_below (KR HO_6) hb); replace HO120 := am (Kd.R_below (KR HO120) hb); replace HB := am (below_step (KL HB) hb); (try clear hb)))
           go_meet
           case rel => exact ⟨_, ((t123 != t124)), (by first | rfl | (simp; done) | (simp [*]; done)), H', ⟨by have := HJ2.out; have := HJ9.out; first | omega | exact Nat.le_refl _⟩, ⟨by (with_reducible repeat (first | apply Kd.R_alloc | apply Kd.R_drewN | apply Kd.R_drew)); exact Kd.R_mono HO_5.out (fun _ hk => hk.1)⟩, ⟨by (with_reducible repeat (first | apply Kd.R_alloc | apply Kd.R_drewN | apply Kd.R_drew)); exact Kd.R_mono HO_6.out (fun _ hk => hk.1)⟩, ⟨KL HB⟩⟩
          ·rw [if_neg c42] at H
           have c42b0 : decide (0 < t107) = false := decide_eq_false c42
           clear c42
           have H' := Aside0.mk H
           clear H
           go_wp2_with (first | (go_at_call 22; (with_reducible refine (impl_WaysLead.calls kj9 _ _ t101 t107 t121 _ ?side1 ?side2 A37.out).mono ?_); (case side1 => exact KC (Kd.R_reads' HO_5.out).2.2); (case side2 => exact (Kd.R_reads' HO_5.out).2.1); clear A37; rintro e w49 ⟨rfl, hb⟩; replace HO_5 := am (Kd.R_below (KR HO_5) hb); replace HO_6 := am (Kd.R_below (KR HO_6) hb); replace HO120 := am (Kd.R_below (KR HO120) hb); replace HB := am (below_step (KL HB) hb); (try clear hb)) | (go_at_call 22; (with_reducible refine (impl_WaysLead.calls kj9 _ _ t102 t107 t122 _ ?side1 ?side2 A38.out).mono ?_); (case side1 => exact KC (Kd.R_reads' HO_6.out).2.2); (case side2 => exact (Kd.R_reads' HO_6.out).2.1); rintro e w50 ⟨rfl, hb⟩; replace HO_5 := am (Kd.R_below (KR HO_5) hb); replace HO_6 := am (Kd.R_below (KR HO_6) hb); replace HO120 := am (Kd.R_below (KR HO120) hb); replace HB := am (below_step (KL HB) hb); (try clear hb)))
           go_meet
           case rel => exact ⟨_, (false), (by first | rfl | (simp; done) | (simp [*]; done)), H', ⟨by have := HJ2.out; have := HJ9.out; first | omega | exact Nat.le_refl _⟩, ⟨by (with_reducible repeat (first | apply Kd.R_alloc | apply Kd.R_drewN | apply Kd.R_drew)); exact Kd.R_mono HO_5.out (fun _ hk => hk.1)⟩, ⟨by (with_reducible repeat (first | apply Kd.R_alloc | apply Kd.R_drewN | apply Kd.R_drew)); exact Kd.R_mono HO_6.out (fun _ hk => hk.1)⟩, ⟨KL HB⟩⟩
        ·replace c36 := Bool.eq_false_iff.mpr c36
         subst c36
         have H1 : (laws_FnWaysDiffer.j2 kj9 t101 t102 t107 false t116 t118 false) = some r := by rw [if_neg (show ¬ (false = true) by decide)] at H; exact H
         clear H
         have H := H1
         clear H1
         have H' := Aside0.mk H
         clear H
         go_wp2
         go_meet
         case rel => exact ⟨_, (false), (by first | rfl | (simp; done) | (simp [*]; done)), H', ⟨by have := HJ2.out; have := HJ9.out; first | omega | exact Nat.le_refl _⟩, ⟨by (with_reducible repeat (first | apply Kd.R_alloc | apply Kd.R_drewN | apply Kd.R_drew)); exact Kd.R_mono HO_5.out (fun _ hk => hk.1)⟩, ⟨by (with_reducible repeat (first | apply Kd.R_alloc | apply Kd.R_drewN | apply Kd.R_drew)); exact Kd.R_mono HO_6.out (fun _ hk => hk.1)⟩, ⟨KL HB⟩⟩
       case rest =>
        clear HC33
        try clear c1
        try clear c2
        try clear p2
        try clear c3
        try clear c4
        try clear c4b0
        try clear c4b1
        try clear c5
        try clear p6
        try clear c15
        try clear c17
        try clear c17b0
        try clear c17b1
        try clear c18
        try clear c18b0
        try clear c18b1
        try clear c18b2
        try clear c19
        try clear c19b0
        try clear c19b1
        try clear c20
        try clear c20b0
        try clear c20b1
        try clear c20b2
        try clear c21
        try clear c22
        try clear c27
        try clear c28
        try clear c28b0
        try clear c28b1
        try clear c29
        try clear c29b0
        try clear c29b1
        try clear c29b2
        try clear c30
        try clear c30b0
        try clear c30b1
        try clear c36
        try clear c39
        try clear c39b0
        try clear c39b1
        try clear c42
        try clear c42b0
        try clear p2
        obtain ⟨kq, x129_32, rfl, HA, HJ32, HO_5, HO_6, HB⟩ := hcut
        cases kq with
        | zero => exact absurd HA.out (by simp [laws_FnWaysDiffer.j2])
        | succ kj32 =>
         have H := HA.out
         clear HA
         simp only [laws_FnWaysDiffer.j2] at H
         by_cases c51 : x129_32 = true
         ·subst c51
          have H1 : (some false) = some r := by rw [if_pos rfl] at H; exact H
          clear H
          have H := H1
          clear H1
          exact absurd ((Option.some.inj H).trans HR_.out) (by decide)
         ·replace c51 := Bool.eq_false_iff.mpr c51
          subst c51
          have H1 : (if t116 = true then (some false) else ((impl_WaysLead.f kj32 t101 t118).bind fun t125 => ((impl_WaysLead.f kj32 t102 t118).bind fun t126 => (if t125 = t126 then (some true) else (if t108 = true then (some (decide (t107 ≤ t118))) else (some false)))))) = some r := by rw [if_neg (show ¬ (false = true) by decide)] at H; exact H
          clear H
          have H := H1
          clear H1
          by_cases c52 : t116 = true
          ·subst c52
           have H1 : (some false) = some r := by rw [if_pos rfl] at H; exact H
           clear H
           have H := H1
           clear H1
           exact absurd ((Option.some.inj H).trans HR_.out) (by decide)
          ·replace c52 := Bool.eq_false_iff.mpr c52
           subst c52
           have H1 : ((impl_WaysLead.f kj32 t101 t118).bind fun t125 => ((impl_WaysLead.f kj32 t102 t118).bind fun t126 => (if t125 = t126 then (some true) else (if t108 = true then (some (decide (t107 ≤ t118))) else (some false))))) = some r := by rw [if_neg (show ¬ (false = true) by decide)] at H; exact H
           clear H
           have H := H1
           clear H1
           replace H := Option.bind_eq_some_iff.mp H
           obtain ⟨t125, A530, H⟩ := H
           replace H : ((impl_WaysLead.f kj32 t102 t118).bind fun t126 => (if t125 = t126 then (some true) else (if t108 = true then (some (decide (t107 ≤ t118))) else (some false)))) = some r := H
           have A53 := Aside0.mk A530
           clear A530
           replace H := Option.bind_eq_some_iff.mp H
           obtain ⟨t126, A540, H⟩ := H
           replace H : (if t125 = t126 then (some true) else (if t108 = true then (some (decide (t107 ≤ t118))) else (some false))) = some r := H
           have A54 := Aside0.mk A540
           clear A540
           by_cases c55 : t125 = t126
           ·rw [if_pos c55] at H
            have c55b0 : (t125 == t126) = true := beq_iff_eq.mpr c55
            have c55b1 : (t125 != t126) = false := bne_eq_false_iff_eq.mpr c55
            clear c55
            obtain rfl := Option.some.inj H
            go_wp2_with (first | (go_at_call 22; (with_reducible refine (impl_WaysLead.calls kj32 _ _ t101 t118 t125 _ ?side1 ?side2 A53.out).mono ?_); (case side1 => exact KC (Kd.R_reads' HO_5.out).2.2); (case side2 => exact (Kd.R_reads' HO_5.out).2.1); clear A53; rintro e w56 ⟨rfl, hb⟩; replace HO_5 := am (Kd.R_below (KR HO_5) hb); replace HO_6 := am (Kd.R_below (KR HO_6) hb); replace HB := am (below_step (KL HB) hb); (try clear hb)) | (go_at_call 22; (with_reducible refine (impl_WaysLead.calls kj32 _ _ t102 t118 t126 _ ?side1 ?side2 A54.out).mono ?_); (case side1 => exact KC (Kd.R_reads' HO_6.out).2.2); (case side2 => exact (Kd.R_reads' HO_6.out).2.1); rintro e w57 ⟨rfl, hb⟩; replace HO_5 := am (Kd.R_below (KR HO_5) hb); replace HO_6 := am (Kd.R_below (KR HO_6) hb); replace HB := am (below_step (KL HB) hb); (try clear hb)))
            go_ret
            exact ⟨ER, KL HB⟩
           ·rw [if_neg c55] at H
            have c55b0 : (t125 == t126) = false := beq_eq_false_iff_ne.mpr c55
            have c55b1 : (t125 != t126) = true := bne_iff_ne.mpr c55
            by_cases c58 : t108 = true
            ·subst c58
             have H1 : (some (decide (t107 ≤ t118))) = some r := by rw [if_pos rfl] at H; exact H
             clear H
             have H := H1
             clear H1
             obtain rfl := Option.some.inj H
             go_wp2_with (first | (go_at_call 22; (with_reducible refine (impl_WaysLead.calls kj32 _ _ t101 t118 t125 _ ?side1 ?side2 A53.out).mono ?_); (case side1 => exact KC (Kd.R_reads' HO_5.out).2.2); (case side2 => exact (Kd.R_reads' HO_5.out).2.1); clear A53; rintro e w59 ⟨rfl, hb⟩; replace HO_5 := am (Kd.R_below (KR HO_5) hb); replace HO_6 := am (Kd.R_below (KR HO_6) hb); replace HB := am (below_step (KL HB) hb); (try clear hb)) | (go_at_call 22; (with_reducible refine (impl_WaysLead.calls kj32 _ _ t102 t118 t126 _ ?side1 ?side2 A54.out).mono ?_); (case side1 => exact KC (Kd.R_reads' HO_6.out).2.2); (case side2 => exact (Kd.R_reads' HO_6.out).2.1); rintro e w60 ⟨rfl, hb⟩; replace HO_5 := am (Kd.R_below (KR HO_5) hb); replace HO_6 := am (Kd.R_below (KR HO_6) hb); replace HB := am (below_step (KL HB) hb); (try clear hb)))
             go_ret
             exact ⟨ER, KL HB⟩
            ·replace c58 := Bool.eq_false_iff.mpr c58
             subst c58
             have H1 : (some false) = some r := by rw [if_neg (show ¬ (false = true) by decide)] at H; exact H
             clear H
             have H := H1
             clear H1
             exact absurd ((Option.some.inj H).trans HR_.out) (by decide)
/-- THE ONE PURE STATEMENT of laws_FnWaysDiffer: yours. -/
def laws_FnWaysDiffer.Pure : Prop := ∀ (l0 : List Int) (l1 : List Int), l0.length ≤ maxLen → l0.length * 1 ≤ 140737488351232 → (∀ x ∈ l0, (Lit.int .u8 x).wf = true) → l1.length ≤ maxLen → l1.length * 1 ≤ 140737488351232 → (∀ x ∈ l1, (Lit.int .u8 x).wf = true) → ∃ k, laws_FnWaysDiffer.f k l0 l1 = some true
theorem laws_FnWaysDiffer.walk (P : laws_FnWaysDiffer.Pure) (a0 : Option Addr) (len0 cap0 : Nat) (z0 : List Int) (a1 : Option Addr) (len1 cap1 : Nat) (z1 : List Int) (w : World) (w0 : (a0 = none ∧ len0 = 0 ∧ cap0 = 0 ∧ z0 = []) ∨ ∃ x, a0 = some x ∧ len0 ≤ cap0 ∧ cap0 ≤ maxLen ∧ z0.length = cap0 ∧ (∀ i, i < z0.length → w.cell? (x.add i) = some (.int .u8 (z0.getD i 0))) ∧ ∀ n ∈ z0, (Lit.int .u8 n).wf = true) (y0 : len0 * 1 ≤ 140737488351232) (w1 : (a1 = none ∧ len1 = 0 ∧ cap1 = 0 ∧ z1 = []) ∨ ∃ x, a1 = some x ∧ len1 ≤ cap1 ∧ cap1 ≤ maxLen ∧ z1.length = cap1 ∧ (∀ i, i < z1.length → w.cell? (x.add i) = some (.int .u8 (z1.getD i 0))) ∧ ∀ n ∈ z1, (Lit.int .u8 n).wf = true) (y1 : len1 * 1 ≤ 140737488351232) :
  Calls Try.prog 4 #[.slice a0 len0 cap0, .slice a1 len1 cap1] w fun e w' => e = .returned (.bool true) ∧ Below w.heap.size w w' := by
 obtain ⟨l0, rfl, hr0, hm0, hw0, hc0⟩ := ReadsInt.ofRowC w0
 obtain ⟨l1, rfl, hr1, hm1, hw1, hc1⟩ := ReadsInt.ofRowC w1
 obtain ⟨k, h⟩ := P l0 l1 hm0 y0 hw0 hm1 y1 hw1
 refine (laws_FnWaysDiffer.calls k _ _ l0 _ _ l1 true w (Kd.C_of_reads (d := (0 : Int)) (h1 := fun _ => rfl) hr0) hc0 (Kd.C_of_reads (d := (0 : Int)) (h1 := fun _ => rfl) hr1) hc1 rfl h).mono ?_
 rintro e w' ⟨rfl, hd⟩
 exact ⟨rfl, hd⟩
end Go.Proofs.Ytkgbgaojglcaoaa.PAll
end
