/- Contracts of the functions that the statement reaches, printed by a program out of the translation and joined with the plain laws. -/
import Derived.Test.YtioghacieopbdaaCFnCacheRun3
import Derived.Test.YtioghacieopbdaaCFnCacheRun4
import Derived.Test.YtioghacieopbdaaCFnCacheRun6
import Derived.Test.YtioghacieopbdaaCFnCacheRun7
import Derived.Test.YtioghacieopbdaaCFnCacheRun8
import Derived.Test.YtioghacieopbdaaCFnCacheRun9
section
namespace Go.Proofs.Ytioghacieopbdaa.PAll
open Go.RowKit Go.Proofs.YtioghacieopbdaaW.PrintWords Go.Proofs.YtioghacieopbdaaW.PrintLast Go.Proofs.YtioghacieopbdaaW.PrintMore
attribute [local go_sem] max2_int min2_int max_two min_two max_three min_three max_four min_four   -- for this text's walks alone
set_option linter.unusedVariables false
set_option linter.unusedSimpArgs false
mutual
def laws_FnCacheRun.j0 : Nat → List (S34) → Int → List (S25) → List Int → Bool → Option (Bool)
 | 0, _, _, _, _, _ => none
 | k + 1, x3, x4, x5, x6, x45 => if x45 = true then ((spec_CacheRun.f k x3 x4 x5).bind fun t116 => ((laws_ovInts.f k x6 t116).bind fun t119 => (some t119))) else (laws_FnCacheRun.l0 k x3 x5 x6 0)
def laws_FnCacheRun.l0 : Nat → List (S34) → List (S25) → List Int → Int → Option (Bool)
 | 0, _, _, _, _ => none
 | k + 1, x3, x5, x6, x7 => if x7 < (x5.length : Int) then (if 0 ≤ x7 then (if x7 < (x6.length : Int) then ((impl_RulesFirst.f k x3 ((rd_T25 x5 x7).f0) ((rd_T25 x5 x7).f1) ((rd_T25 x5 x7).f2)).bind fun t122 => (if (rd x6 x7) = t122 then (laws_FnCacheRun.l0 k x3 x5 x6 (wrap64 (x7 + 1))) else (some false))) else (none)) else (none)) else (if (x6.length : Int) = (x5.length : Int) then ((impl_CacheRun.f k x3 0 x5).bind fun t123 => ((laws_ovInts.f k t123 x6).bind fun t126 => (if t126 = true then ((impl_CacheRun.f k x3 16 x5).bind fun t127 => ((laws_ovInts.f k t127 x6).bind fun t130 => (some t130))) else (some false)))) else (some false))
end
def laws_FnCacheRun.f (k : Nat) (l0 : List Int) : Option (Bool) := if (l0.length : Int) > 1048576 then (some true) else ((spec_DrawCacheRun.f k l0).bind fun bt101 => ((impl_CacheRun.f k bt101.1 bt101.2.1 bt101.2.2).bind fun t108 => ((spec_CacheRun.f k bt101.1 bt101.2.1 bt101.2.2).bind fun t111 => ((laws_ovInts.f k t108 t111).bind fun t114 => (if t114 = true then ((spec_RulesOk.f k bt101.1).bind fun t115 => (if t115 = true then (if (bt101.2.2.length : Int) > 60 then (laws_FnCacheRun.j0 k bt101.1 bt101.2.1 bt101.2.2 t108 true) else (if bt101.2.1 < 0 then (laws_FnCacheRun.j0 k bt101.1 bt101.2.1 bt101.2.2 t108 true) else (laws_FnCacheRun.j0 k bt101.1 bt101.2.1 bt101.2.2 t108 (decide (bt101.2.1 > 16))))) else (laws_FnCacheRun.j0 k bt101.1 bt101.2.1 bt101.2.2 t108 true))) else (laws_FnCacheRun.j0 k bt101.1 bt101.2.1 bt101.2.2 t108 true))))))
def laws_FnCacheRun.T10 : Bool × List (List Nat × List Nat) := (true, [([], []), ([], []), ([0, 1], [0, 1]), ([2], [2]), ([], []), ([], []), ([], []), ([5, 6], [5, 6]), ([7], [7]), ([4, 8], [4, 8]), ([3, 9], [3, 9])])
def laws_FnCacheRun.B10 : List Nat := [0, 0, 3, 7, 0, 0, 0, 96, 224, 496, 1023]
theorem laws_FnCacheRun.tab10 : rtab .any (opsOf Try.f7 10) = laws_FnCacheRun.T10 := by kernel_rfl
theorem laws_FnCacheRun.bits10 : waitsOk laws_FnCacheRun.T10.2 laws_FnCacheRun.B10 = true := by kernel_rfl
set_option maxHeartbeats 8000000 in
set_option maxRecDepth 100000 in
theorem laws_FnCacheRun.calls (k : Nat) (A0 : Option Addr) (c0 : Nat) (l0 : List Int) (r : Bool) (w : World) (hr0 : Kd.C (Kd.int .u8) w A0 l0.length l0) (hc0 : l0.length ≤ c0) (hr0_ : r = true) (h : laws_FnCacheRun.f k l0 = some r) :
  Calls Try.prog 7 #[.slice A0 l0.length c0] w fun e w' => e = .returned (.bool r) ∧ Below w.heap.size w w' := by
 have hu25 := Try.underlying25
 have HR0 := Aside0.mk hr0
 have HC0 := Aside0.mk hc0
 clear hr0 hc0
 have HB := am (Below.refl w.heap.size w)
 have H : (if (l0.length : Int) > 1048576 then (some true) else ((spec_DrawCacheRun.f k l0).bind fun bt101 => ((impl_CacheRun.f k bt101.1 bt101.2.1 bt101.2.2).bind fun t108 => ((spec_CacheRun.f k bt101.1 bt101.2.1 bt101.2.2).bind fun t111 => ((laws_ovInts.f k t108 t111).bind fun t114 => (if t114 = true then ((spec_RulesOk.f k bt101.1).bind fun t115 => (if t115 = true then (if (bt101.2.2.length : Int) > 60 then (laws_FnCacheRun.j0 k bt101.1 bt101.2.1 bt101.2.2 t108 true) else (if bt101.2.1 < 0 then (laws_FnCacheRun.j0 k bt101.1 bt101.2.1 bt101.2.2 t108 true) else (laws_FnCacheRun.j0 k bt101.1 bt101.2.1 bt101.2.2 t108 (decide (bt101.2.1 > 16))))) else (laws_FnCacheRun.j0 k bt101.1 bt101.2.1 bt101.2.2 t108 true))) else (laws_FnCacheRun.j0 k bt101.1 bt101.2.1 bt101.2.2 t108 true))))))) = some r := h
 clear h
 have HR_ := Aside0.mk hr0_
 clear hr0_
 by_cases c2 : (l0.length : Int) > 1048576
 ·rw [if_pos c2] at H
  have c2b0 : decide (1048576 < (l0.length : Int)) = true := decide_eq_true c2
  have c2b1 : decide (1048576 < l0.length) = true := decide_eq_true (by omega)
  clear c2
  obtain rfl := Option.some.inj H
  go_enter Try.func7, Try.ntmps7
  go_wp2
  go_ret
  exact ⟨by first | rfl | (simp [errW_none, errW_some] <;> rfl) | (simp [*, errW_none, errW_some] <;> rfl), KL HB⟩
 ·rw [if_neg c2] at H
  have c2b0 : decide (1048576 < (l0.length : Int)) = false := decide_eq_false c2
  have c2b1 : decide (1048576 < l0.length) = false := decide_eq_false (by omega)
  clear c2
  replace H := Option.bind_eq_some_iff.mp H
  obtain ⟨⟨t101, t102, t103⟩, A30, H⟩ := H
  replace H : ((impl_CacheRun.f k t101 t102 t103).bind fun t108 => ((spec_CacheRun.f k t101 t102 t103).bind fun t111 => ((laws_ovInts.f k t108 t111).bind fun t114 => (if t114 = true then ((spec_RulesOk.f k t101).bind fun t115 => (if t115 = true then (if (t103.length : Int) > 60 then (laws_FnCacheRun.j0 k t101 t102 t103 t108 true) else (if t102 < 0 then (laws_FnCacheRun.j0 k t101 t102 t103 t108 true) else (laws_FnCacheRun.j0 k t101 t102 t103 t108 (decide (t102 > 16))))) else (laws_FnCacheRun.j0 k t101 t102 t103 t108 true))) else (laws_FnCacheRun.j0 k t101 t102 t103 t108 true))))) = some r := H
  have A3 := Aside0.mk A30
  clear A30
  replace H := Option.bind_eq_some_iff.mp H
  obtain ⟨t108, A40, H⟩ := H
  replace H : ((spec_CacheRun.f k t101 t102 t103).bind fun t111 => ((laws_ovInts.f k t108 t111).bind fun t114 => (if t114 = true then ((spec_RulesOk.f k t101).bind fun t115 => (if t115 = true then (if (t103.length : Int) > 60 then (laws_FnCacheRun.j0 k t101 t102 t103 t108 true) else (if t102 < 0 then (laws_FnCacheRun.j0 k t101 t102 t103 t108 true) else (laws_FnCacheRun.j0 k t101 t102 t103 t108 (decide (t102 > 16))))) else (laws_FnCacheRun.j0 k t101 t102 t103 t108 true))) else (laws_FnCacheRun.j0 k t101 t102 t103 t108 true)))) = some r := H
  have A4 := Aside0.mk A40
  clear A40
  have HC5 := Aside0.mk H
  clear H
  go_enter Try.func7, Try.ntmps7
  go_upto_region 5 with (first | ((with_reducible refine gate_callee (f := 33) rfl ?_); refine goesL_ (some 13) rfl rfl Try.func33 (by kernel_rfl) rfl #[.slice A0 l0.length c0] rfl MT ?_; (with_reducible refine (spec_DrawCacheRun.calls k _ _ l0 t101 t102 t103 _ ?side1 ?side2 A3.out).mono ?_); (case side1 => exact KC HR0.out); (case side2 => exact HC0.out); rintro e w6 ⟨v104, v106, rfl, ho0, ho1, hb⟩; refine ⟨_, rfl, ?_⟩; have HO105 := am (Kd.R_lower ho0 (below_size (KL HB))); have HO107 := am (Kd.R_lower ho1 (below_size (KL HB))); replace HB := am (below_step (KL HB) hb); (try clear hb); (try clear hb2); (try clear hk); (try clear hi); (try clear ho0); (try clear ho1); obtain ⟨Ao7, co7, eo7⟩ := Kd.R_slice HO105.out; subst eo7; obtain ⟨Ao8, co8, eo8⟩ := Kd.R_slice HO107.out; subst eo8) | ((with_reducible refine gate_callee (f := 34) rfl ?_); refine goesL_ (some 20) rfl rfl Try.func34 (by kernel_rfl) rfl #[.slice Ao7 t101.length co7, .int .i64 t102, .slice Ao8 t103.length co8] rfl MT ?_; (with_reducible refine (impl_CacheRun.calls k _ _ t101 t102 _ _ t103 t108 _ ?side1 ?side2 ?side3 ?side4 A4.out).mono ?_); (case side1 => exact KC (Kd.R_reads' HO105.out).2.2); (case side2 => exact (Kd.R_reads' HO105.out).2.1); (case side3 => exact KC (Kd.R_reads' HO107.out).2.2); (case side4 => exact (Kd.R_reads' HO107.out).2.1); rintro e w9 ⟨v109, rfl, ho0, hb⟩; refine ⟨_, rfl, ?_⟩; replace HO105 := am (Kd.R_below (KR HO105) hb); replace HO107 := am (Kd.R_below (KR HO107) hb); have HO110 := am (Kd.R_lower ho0 (below_size (KL HB))); replace HB := am (below_step (KL HB) hb); (try clear hb); (try clear hb2); (try clear hk); (try clear hi); (try clear ho0)))
  (try simp only [Act.put, List.setIfInBounds_toArray, List.set_cons_zero, List.set_cons_succ])
  go_cut [45] (fun v45 wc => ∃ (kq : Nat) (x45_4 : Bool), v45 = .bool x45_4 ∧ Aside0 (laws_FnCacheRun.j0 kq t101 t102 t103 t108 x45_4 = some r) ∧ Aside0 (kq ≤ k) ∧ Aside0 (Kd.R k34 34 wc w.heap.size (fun _ => True) (.slice Ao7 t101.length co7) t101) ∧ Aside0 (Kd.R k25 25 wc w.heap.size (fun _ => True) (.slice Ao8 t103.length co8) t103) ∧ Aside0 (Kd.R (Kd.int .i64) 3 wc w.heap.size (fun _ => True) v109 t108) ∧ Aside0 (Below w.heap.size w wc))
  case first =>
   have H := HC5.out
   clear HC5
   replace H := Option.bind_eq_some_iff.mp H
   obtain ⟨t111, A100, H⟩ := H
   replace H : ((laws_ovInts.f k t108 t111).bind fun t114 => (if t114 = true then ((spec_RulesOk.f k t101).bind fun t115 => (if t115 = true then (if (t103.length : Int) > 60 then (laws_FnCacheRun.j0 k t101 t102 t103 t108 true) else (if t102 < 0 then (laws_FnCacheRun.j0 k t101 t102 t103 t108 true) else (laws_FnCacheRun.j0 k t101 t102 t103 t108 (decide (t102 > 16))))) else (laws_FnCacheRun.j0 k t101 t102 t103 t108 true))) else (laws_FnCacheRun.j0 k t101 t102 t103 t108 true))) = some r := H
   have A10 := Aside0.mk A100
   clear A100
   replace H := Option.bind_eq_some_iff.mp H
   obtain ⟨t114, A110, H⟩ := H
   replace H : (if t114 = true then ((spec_RulesOk.f k t101).bind fun t115 => (if t115 = true then (if (t103.length : Int) > 60 then (laws_FnCacheRun.j0 k t101 t102 t103 t108 true) else (if t102 < 0 then (laws_FnCacheRun.j0 k t101 t102 t103 t108 true) else (laws_FnCacheRun.j0 k t101 t102 t103 t108 (decide (t102 > 16))))) else (laws_FnCacheRun.j0 k t101 t102 t103 t108 true))) else (laws_FnCacheRun.j0 k t101 t102 t103 t108 true)) = some r := H
   have A11 := Aside0.mk A110
   clear A110
   by_cases c12 : t114 = true
   ·subst c12
    have H1 : ((spec_RulesOk.f k t101).bind fun t115 => (if t115 = true then (if (t103.length : Int) > 60 then (laws_FnCacheRun.j0 k t101 t102 t103 t108 true) else (if t102 < 0 then (laws_FnCacheRun.j0 k t101 t102 t103 t108 true) else (laws_FnCacheRun.j0 k t101 t102 t103 t108 (decide (t102 > 16))))) else (laws_FnCacheRun.j0 k t101 t102 t103 t108 true))) = some r := by rw [if_pos rfl] at H; exact H
    clear H
    have H := H1
    clear H1
    replace H := Option.bind_eq_some_iff.mp H
    obtain ⟨t115, A130, H⟩ := H
    replace H : (if t115 = true then (if (t103.length : Int) > 60 then (laws_FnCacheRun.j0 k t101 t102 t103 t108 true) else (if t102 < 0 then (laws_FnCacheRun.j0 k t101 t102 t103 t108 true) else (laws_FnCacheRun.j0 k t101 t102 t103 t108 (decide (t102 > 16))))) else (laws_FnCacheRun.j0 k t101 t102 t103 t108 true)) = some r := H
    have A13 := Aside0.mk A130
    clear A130
    by_cases c14 : t115 = true
    ·subst c14
     have H1 : (if (t103.length : Int) > 60 then (laws_FnCacheRun.j0 k t101 t102 t103 t108 true) else (if t102 < 0 then (laws_FnCacheRun.j0 k t101 t102 t103 t108 true) else (laws_FnCacheRun.j0 k t101 t102 t103 t108 (decide (t102 > 16))))) = some r := by rw [if_pos rfl] at H; exact H
     clear H
     have H := H1
     clear H1
     by_cases c15 : (t103.length : Int) > 60
     ·rw [if_pos c15] at H
      have c15b0 : decide (60 < (t103.length : Int)) = true := decide_eq_true c15
      have c15b1 : decide (60 < t103.length) = true := decide_eq_true (by omega)
      clear c15
      (first | rw [c15b0] | (simp only [i64_w, i32_w]; rw [c15b0]) | skip)
      have H' := Aside0.mk H
      clear H
      go_wp2_with (first | ((with_reducible refine gate_callee (f := 36) rfl ?_); refine goesL_ (some 25) rfl rfl Try.func36 (by kernel_rfl) rfl #[.slice Ao7 t101.length co7, .int .i64 t102, .slice Ao8 t103.length co8] rfl MT ?_; (with_reducible refine (spec_CacheRun.calls k _ _ t101 t102 _ _ t103 t111 _ ?side1 ?side2 ?side3 ?side4 A10.out).mono ?_); (case side1 => exact KC (Kd.R_reads' HO105.out).2.2); (case side2 => exact (Kd.R_reads' HO105.out).2.1); (case side3 => exact KC (Kd.R_reads' HO107.out).2.2); (case side4 => exact (Kd.R_reads' HO107.out).2.1); rintro e w16 ⟨v112, rfl, ho0, hb⟩; refine ⟨_, rfl, ?_⟩; replace HO105 := am (Kd.R_below (KR HO105) hb); replace HO107 := am (Kd.R_below (KR HO107) hb); have HO113 := am (Kd.R_lower (Kd.R_new' ho0 (Kd.R_lt (KR HO110))) (below_size (KL HB))); replace HO110 := am (Kd.R_elder' (KR HO110) (Kd.R_base ho0) hb); replace HB := am (below_step (KL HB) hb); (try clear hb); (try clear hb2); (try clear hk); (try clear hi); (try clear ho0); obtain ⟨Ao17, co17, eo17⟩ := Kd.R_slice HO110.out; subst eo17; obtain ⟨Ao18, co18, eo18⟩ := Kd.R_slice HO113.out; subst eo18) | ((with_reducible refine gate_callee (f := 35) rfl ?_); refine goesL_ (some 26) rfl rfl Try.func35 (by kernel_rfl) rfl #[.slice Ao17 t108.length co17, .slice Ao18 t111.length co18] rfl MT ?_; (with_reducible refine (laws_ovInts.calls k _ _ t108 _ _ t111 true _ ?side1 ?side2 ?side3 ?side4 A11.out).mono ?_); (case side1 => exact KC (Kd.R_reads' HO110.out).2.2); (case side2 => exact (Kd.R_reads' HO110.out).2.1); (case side3 => exact KC (Kd.R_reads' HO113.out).2.2); (case side4 => exact (Kd.R_reads' HO113.out).2.1); rintro e w' ⟨rfl, ⟨nd, rfl⟩⟩; refine ⟨_, rfl, ?_⟩) | (go_at_call 19; (with_reducible refine (spec_RulesOk.calls k _ _ t101 true _ ?side1 ?side2 A13.out).mono ?_); (case side1 => exact KC (Kd.R_reads' HO105.out).2.2); (case side2 => exact (Kd.R_reads' HO105.out).2.1); rintro e w19 ⟨rfl, hb⟩; replace HO105 := am (Kd.R_below (KR HO105) hb); replace HO107 := am (Kd.R_below (KR HO107) hb); replace HO110 := am (Kd.R_below (KR HO110) hb); replace HO113 := am (Kd.R_below (KR HO113) hb); replace HB := am (below_step (KL HB) hb); (try clear hb); (try clear hb2); (try clear hk); (try clear hi)))
      go_meet
      case rel => exact ⟨_, (true), (by first | rfl | (simp; done) | (simp [*]; done)), H', ⟨by first | omega | exact Nat.le_refl _⟩, ⟨KR HO105⟩, ⟨KR HO107⟩, ⟨by (with_reducible repeat (first | apply Kd.R_alloc | apply Kd.R_drewN | apply Kd.R_drew)); exact Kd.R_mono HO110.out (fun _ hk => trivial)⟩, ⟨KL HB⟩⟩
     ·rw [if_neg c15] at H
      have c15b0 : decide (60 < (t103.length : Int)) = false := decide_eq_false c15
      have c15b1 : decide (60 < t103.length) = false := decide_eq_false (by omega)
      clear c15
      (first | rw [c15b0] | (simp only [i64_w, i32_w]; rw [c15b0]) | skip)
      by_cases c20 : t102 < 0
      ·rw [if_pos c20] at H
       have c20b0 : decide (t102 < 0) = true := decide_eq_true c20
       clear c20
       have H' := Aside0.mk H
       clear H
       go_wp2_with (first | ((with_reducible refine gate_callee (f := 36) rfl ?_); refine goesL_ (some 25) rfl rfl Try.func36 (by kernel_rfl) rfl #[.slice Ao7 t101.length co7, .int .i64 t102, .slice Ao8 t103.length co8] rfl MT ?_; (with_reducible refine (spec_CacheRun.calls k _ _ t101 t102 _ _ t103 t111 _ ?side1 ?side2 ?side3 ?side4 A10.out).mono ?_); (case side1 => exact KC (Kd.R_reads' HO105.out).2.2); (case side2 => exact (Kd.R_reads' HO105.out).2.1); (case side3 => exact KC (Kd.R_reads' HO107.out).2.2); (case side4 => exact (Kd.R_reads' HO107.out).2.1); rintro e w21 ⟨v112, rfl, ho0, hb⟩; refine ⟨_, rfl, ?_⟩; replace HO105 := am (Kd.R_below (KR HO105) hb); replace HO107 := am (Kd.R_below (KR HO107) hb); have HO113 := am (Kd.R_lower (Kd.R_new' ho0 (Kd.R_lt (KR HO110))) (below_size (KL HB))); replace HO110 := am (Kd.R_elder' (KR HO110) (Kd.R_base ho0) hb); replace HB := am (below_step (KL HB) hb); (try clear hb); (try clear hb2); (try clear hk); (try clear hi); (try clear ho0); obtain ⟨Ao22, co22, eo22⟩ := Kd.R_slice HO110.out; subst eo22; obtain ⟨Ao23, co23, eo23⟩ := Kd.R_slice HO113.out; subst eo23) | ((with_reducible refine gate_callee (f := 35) rfl ?_); refine goesL_ (some 26) rfl rfl Try.func35 (by kernel_rfl) rfl #[.slice Ao22 t108.length co22, .slice Ao23 t111.length co23] rfl MT ?_; (with_reducible refine (laws_ovInts.calls k _ _ t108 _ _ t111 true _ ?side1 ?side2 ?side3 ?side4 A11.out).mono ?_); (case side1 => exact KC (Kd.R_reads' HO110.out).2.2); (case side2 => exact (Kd.R_reads' HO110.out).2.1); (case side3 => exact KC (Kd.R_reads' HO113.out).2.2); (case side4 => exact (Kd.R_reads' HO113.out).2.1); rintro e w' ⟨rfl, ⟨nd, rfl⟩⟩; refine ⟨_, rfl, ?_⟩) | (go_at_call 19; (with_reducible refine (spec_RulesOk.calls k _ _ t101 true _ ?side1 ?side2 A13.out).mono ?_); (case side1 => exact KC (Kd.R_reads' HO105.out).2.2); (case side2 => exact (Kd.R_reads' HO105.out).2.1); rintro e w24 ⟨rfl, hb⟩; replace HO105 := am (Kd.R_below (KR HO105) hb); replace HO107 := am (Kd.R_below (KR HO107) hb); replace HO110 := am (Kd.R_below (KR HO110) hb); replace HO113 := am (Kd.R_below (KR HO113) hb); replace HB := am (below_step (KL HB) hb); (try clear hb); (try clear hb2); (try clear hk); (try clear hi)))
       go_meet
       case rel => exact ⟨_, (true), (by first | rfl | (simp; done) | (simp [*]; done)), H', ⟨by first | omega | exact Nat.le_refl _⟩, ⟨KR HO105⟩, ⟨KR HO107⟩, ⟨by (with_reducible repeat (first | apply Kd.R_alloc | apply Kd.R_drewN | apply Kd.R_drew)); exact Kd.R_mono HO110.out (fun _ hk => trivial)⟩, ⟨KL HB⟩⟩
      ·rw [if_neg c20] at H
       have c20b0 : decide (t102 < 0) = false := decide_eq_false c20
       clear c20
       have H' := Aside0.mk H
       clear H
       go_wp2_with (first | ((with_reducible refine gate_callee (f := 36) rfl ?_); refine goesL_ (some 25) rfl rfl Try.func36 (by kernel_rfl) rfl #[.slice Ao7 t101.length co7, .int .i64 t102, .slice Ao8 t103.length co8] rfl MT ?_; (with_reducible refine (spec_CacheRun.calls k _ _ t101 t102 _ _ t103 t111 _ ?side1 ?side2 ?side3 ?side4 A10.out).mono ?_); (case side1 => exact KC (Kd.R_reads' HO105.out).2.2); (case side2 => exact (Kd.R_reads' HO105.out).2.1); (case side3 => exact KC (Kd.R_reads' HO107.out).2.2); (case side4 => exact (Kd.R_reads' HO107.out).2.1); rintro e w25 ⟨v112, rfl, ho0, hb⟩; refine ⟨_, rfl, ?_⟩; replace HO105 := am (Kd.R_below (KR HO105) hb); replace HO107 := am (Kd.R_below (KR HO107) hb); have HO113 := am (Kd.R_lower (Kd.R_new' ho0 (Kd.R_lt (KR HO110))) (below_size (KL HB))); replace HO110 := am (Kd.R_elder' (KR HO110) (Kd.R_base ho0) hb); replace HB := am (below_step (KL HB) hb); (try clear hb); (try clear hb2); (try clear hk); (try clear hi); (try clear ho0); obtain ⟨Ao26, co26, eo26⟩ := Kd.R_slice HO110.out; subst eo26; obtain ⟨Ao27, co27, eo27⟩ := Kd.R_slice HO113.out; subst eo27) | ((with_reducible refine gate_callee (f := 35) rfl ?_); refine goesL_ (some 26) rfl rfl Try.func35 (by kernel_rfl) rfl #[.slice Ao26 t108.length co26, .slice Ao27 t111.length co27] rfl MT ?_; (with_reducible refine (laws_ovInts.calls k _ _ t108 _ _ t111 true _ ?side1 ?side2 ?side3 ?side4 A11.out).mono ?_); (case side1 => exact KC (Kd.R_reads' HO110.out).2.2); (case side2 => exact (Kd.R_reads' HO110.out).2.1); (case side3 => exact KC (Kd.R_reads' HO113.out).2.2); (case side4 => exact (Kd.R_reads' HO113.out).2.1); rintro e w' ⟨rfl, ⟨nd, rfl⟩⟩; refine ⟨_, rfl, ?_⟩) | (go_at_call 19; (with_reducible refine (spec_RulesOk.calls k _ _ t101 true _ ?side1 ?side2 A13.out).mono ?_); (case side1 => exact KC (Kd.R_reads' HO105.out).2.2); (case side2 => exact (Kd.R_reads' HO105.out).2.1); rintro e w28 ⟨rfl, hb⟩; replace HO105 := am (Kd.R_below (KR HO105) hb); replace HO107 := am (Kd.R_below (KR HO107) hb); replace HO110 := am (Kd.R_below (KR HO110) hb); replace HO113 := am (Kd.R_below (KR HO113) hb); replace HB := am (below_step (KL HB) hb); (try clear hb); (try clear hb2); (try clear hk); (try clear hi)))
       go_meet
       case rel => exact ⟨_, (decide (t102 > 16)), (by first | rfl | (simp; done) | (simp [*]; done)), H', ⟨by first | omega | exact Nat.le_refl _⟩, ⟨KR HO105⟩, ⟨KR HO107⟩, ⟨by (with_reducible repeat (first | apply Kd.R_alloc | apply Kd.R_drewN | apply Kd.R_drew)); exact Kd.R_mono HO110.out (fun _ hk => trivial)⟩, ⟨KL HB⟩⟩
    ·replace c14 := Bool.eq_false_iff.mpr c14
     subst c14
     have H1 : (laws_FnCacheRun.j0 k t101 t102 t103 t108 true) = some r := by rw [if_neg (show ¬ (false = true) by decide)] at H; exact H
     clear H
     have H := H1
     clear H1
     have H' := Aside0.mk H
     clear H
     go_wp2_with (first | ((with_reducible refine gate_callee (f := 36) rfl ?_); refine goesL_ (some 25) rfl rfl Try.func36 (by kernel_rfl) rfl #[.slice Ao7 t101.length co7, .int .i64 t102, .slice Ao8 t103.length co8] rfl MT ?_; (with_reducible refine (spec_CacheRun.calls k _ _ t101 t102 _ _ t103 t111 _ ?side1 ?side2 ?side3 ?side4 A10.out).mono ?_); (case side1 => exact KC (Kd.R_reads' HO105.out).2.2); (case side2 => exact (Kd.R_reads' HO105.out).2.1); (case side3 => exact KC (Kd.R_reads' HO107.out).2.2); (case side4 => exact (Kd.R_reads' HO107.out).2.1); rintro e w29 ⟨v112, rfl, ho0, hb⟩; refine ⟨_, rfl, ?_⟩; replace HO105 := am (Kd.R_below (KR HO105) hb); replace HO107 := am (Kd.R_below (KR HO107) hb); have HO113 := am (Kd.R_lower (Kd.R_new' ho0 (Kd.R_lt (KR HO110))) (below_size (KL HB))); replace HO110 := am (Kd.R_elder' (KR HO110) (Kd.R_base ho0) hb); replace HB := am (below_step (KL HB) hb); (try clear hb); (try clear hb2); (try clear hk); (try clear hi); (try clear ho0); obtain ⟨Ao30, co30, eo30⟩ := Kd.R_slice HO110.out; subst eo30; obtain ⟨Ao31, co31, eo31⟩ := Kd.R_slice HO113.out; subst eo31) | ((with_reducible refine gate_callee (f := 35) rfl ?_); refine goesL_ (some 26) rfl rfl Try.func35 (by kernel_rfl) rfl #[.slice Ao30 t108.length co30, .slice Ao31 t111.length co31] rfl MT ?_; (with_reducible refine (laws_ovInts.calls k _ _ t108 _ _ t111 true _ ?side1 ?side2 ?side3 ?side4 A11.out).mono ?_); (case side1 => exact KC (Kd.R_reads' HO110.out).2.2); (case side2 => exact (Kd.R_reads' HO110.out).2.1); (case side3 => exact KC (Kd.R_reads' HO113.out).2.2); (case side4 => exact (Kd.R_reads' HO113.out).2.1); rintro e w' ⟨rfl, ⟨nd, rfl⟩⟩; refine ⟨_, rfl, ?_⟩) | (go_at_call 19; (with_reducible refine (spec_RulesOk.calls k _ _ t101 false _ ?side1 ?side2 A13.out).mono ?_); (case side1 => exact KC (Kd.R_reads' HO105.out).2.2); (case side2 => exact (Kd.R_reads' HO105.out).2.1); rintro e w32 ⟨rfl, hb⟩; replace HO105 := am (Kd.R_below (KR HO105) hb); replace HO107 := am (Kd.R_below (KR HO107) hb); replace HO110 := am (Kd.R_below (KR HO110) hb); replace HO113 := am (Kd.R_below (KR HO113) hb); replace HB := am (below_step (KL HB) hb); (try clear hb); (try clear hb2); (try clear hk); (try clear hi)))
     go_meet
     case rel => exact ⟨_, (true), (by first | rfl | (simp; done) | (simp [*]; done)), H', ⟨by first | omega | exact Nat.le_refl _⟩, ⟨KR HO105⟩, ⟨KR HO107⟩, ⟨by (with_reducible repeat (first | apply Kd.R_alloc | apply Kd.R_drewN | apply Kd.R_drew)); exact Kd.R_mono HO110.out (fun _ hk => trivial)⟩, ⟨KL HB⟩⟩
   ·replace c12 := Bool.eq_false_iff.mpr c12
    subst c12
    have H1 : (laws_FnCacheRun.j0 k t101 t102 t103 t108 true) = some r := by rw [if_neg (show ¬ (false = true) by decide)] at H; exact H
    clear H
    have H := H1
    clear H1
    have H' := Aside0.mk H
    clear H
    go_wp2_with (first | ((with_reducible refine gate_callee (f := 36) rfl ?_); refine goesL_ (some 25) rfl rfl Try.func36 (by kernel_rfl) rfl #[.slice Ao7 t101.length co7, .int .i64 t102, .slice Ao8 t103.length co8] rfl MT ?_; (with_reducible refine (spec_CacheRun.calls k _ _ t101 t102 _ _ t103 t111 _ ?side1 ?side2 ?side3 ?side4 A10.out).mono ?_); (case side1 => exact KC (Kd.R_reads' HO105.out).2.2); (case side2 => exact (Kd.R_reads' HO105.out).2.1); (case side3 => exact KC (Kd.R_reads' HO107.out).2.2); (case side4 => exact (Kd.R_reads' HO107.out).2.1); rintro e w33 ⟨v112, rfl, ho0, hb⟩; refine ⟨_, rfl, ?_⟩; replace HO105 := am (Kd.R_below (KR HO105) hb); replace HO107 := am (Kd.R_below (KR HO107) hb); have HO113 := am (Kd.R_lower (Kd.R_new' ho0 (Kd.R_lt (KR HO110))) (below_size (KL HB))); replace HO110 := am (Kd.R_elder' (KR HO110) (Kd.R_base ho0) hb); replace HB := am (below_step (KL HB) hb); (try clear hb); (try clear hb2); (try clear hk); (try clear hi); (try clear ho0); obtain ⟨Ao34, co34, eo34⟩ := Kd.R_slice HO110.out; subst eo34; obtain ⟨Ao35, co35, eo35⟩ := Kd.R_slice HO113.out; subst eo35) | ((with_reducible refine gate_callee (f := 35) rfl ?_); refine goesL_ (some 26) rfl rfl Try.func35 (by kernel_rfl) rfl #[.slice Ao34 t108.length co34, .slice Ao35 t111.length co35] rfl MT ?_; (with_reducible refine (laws_ovInts.calls k _ _ t108 _ _ t111 false _ ?side1 ?side2 ?side3 ?side4 A11.out).mono ?_); (case side1 => exact KC (Kd.R_reads' HO110.out).2.2); (case side2 => exact (Kd.R_reads' HO110.out).2.1); (case side3 => exact KC (Kd.R_reads' HO113.out).2.2); (case side4 => exact (Kd.R_reads' HO113.out).2.1); rintro e w' ⟨rfl, ⟨nd, rfl⟩⟩; refine ⟨_, rfl, ?_⟩))
    go_meet
    case rel => exact ⟨_, (true), (by first | rfl | (simp; done) | (simp [*]; done)), H', ⟨by first | omega | exact Nat.le_refl _⟩, ⟨KR HO105⟩, ⟨KR HO107⟩, ⟨by (with_reducible repeat (first | apply Kd.R_alloc | apply Kd.R_drewN | apply Kd.R_drew)); exact Kd.R_mono HO110.out (fun _ hk => trivial)⟩, ⟨KL HB⟩⟩
  case rest =>
   clear HC5
   try clear c1
   try clear c2
   try clear c2b0
   try clear c2b1
   try clear p2
   try clear c3
   try clear c7
   try clear c12
   try clear c14
   try clear c15
   try clear c15b0
   try clear c15b1
   try clear c20
   try clear c20b0
   try clear c33
   try clear c34
   try clear c35
   obtain ⟨kq, x45_4, rfl, HA, HJ4, HO_3, HO_5, HO_6, HB⟩ := hcut
   cases kq with
   | zero => exact absurd HA.out (by simp [laws_FnCacheRun.j0])
   | succ kj4 =>
    have H := HA.out
    clear HA
    simp only [laws_FnCacheRun.j0] at H
    by_cases c36 : x45_4 = true
    ·subst c36
     have H1 : ((spec_CacheRun.f kj4 t101 t102 t103).bind fun t116 => ((laws_ovInts.f kj4 t108 t116).bind fun t119 => (some t119))) = some r := by rw [if_pos rfl] at H; exact H
     clear H
     have H := H1
     clear H1
     replace H := Option.bind_eq_some_iff.mp H
     obtain ⟨t116, A370, H⟩ := H
     replace H : ((laws_ovInts.f kj4 t108 t116).bind fun t119 => (some t119)) = some r := H
     have A37 := Aside0.mk A370
     clear A370
     replace H := Option.bind_eq_some_iff.mp H
     obtain ⟨t119, A380, H⟩ := H
     replace H : (some t119) = some r := H
     have A38 := Aside0.mk A380
     clear A380
     obtain rfl := Option.some.inj H
     go_wp2_with (first | ((with_reducible refine gate_callee (f := 36) rfl ?_); refine goesL_ (some 50) rfl rfl Try.func36 (by kernel_rfl) rfl #[.slice Ao7 t101.length co7, .int .i64 t102, .slice Ao8 t103.length co8] rfl MT ?_; (with_reducible refine (spec_CacheRun.calls kj4 _ _ t101 t102 _ _ t103 t116 _ ?side1 ?side2 ?side3 ?side4 A37.out).mono ?_); (case side1 => exact KC (Kd.R_reads' HO_3.out).2.2); (case side2 => exact (Kd.R_reads' HO_3.out).2.1); (case side3 => exact KC (Kd.R_reads' HO_5.out).2.2); (case side4 => exact (Kd.R_reads' HO_5.out).2.1); rintro e w39 ⟨v117, rfl, ho0, hb⟩; refine ⟨_, rfl, ?_⟩; replace HO_3 := am (Kd.R_below (KR HO_3) hb); replace HO_5 := am (Kd.R_below (KR HO_5) hb); have HO118 := am (Kd.R_lower (Kd.R_new' ho0 (Kd.R_lt (KR HO_6))) (below_size (KL HB))); replace HO_6 := am (Kd.R_elder' (KR HO_6) (Kd.R_base ho0) hb); replace HB := am (below_step (KL HB) hb); (try clear hb); (try clear hb2); (try clear hk); (try clear hi); (try clear ho0); obtain ⟨Ao40, co40, eo40⟩ := Kd.R_slice HO_6.out; subst eo40; obtain ⟨Ao41, co41, eo41⟩ := Kd.R_slice HO118.out; subst eo41) | ((with_reducible refine gate_callee (f := 35) rfl ?_); refine goesL_ (some 51) rfl rfl Try.func35 (by kernel_rfl) rfl #[.slice Ao40 t108.length co40, .slice Ao41 t116.length co41] rfl MT ?_; (with_reducible refine (laws_ovInts.calls kj4 _ _ t108 _ _ t116 t119 _ ?side1 ?side2 ?side3 ?side4 A38.out).mono ?_); (case side1 => exact KC (Kd.R_reads' HO_6.out).2.2); (case side2 => exact (Kd.R_reads' HO_6.out).2.1); (case side3 => exact KC (Kd.R_reads' HO118.out).2.2); (case side4 => exact (Kd.R_reads' HO118.out).2.1); rintro e w' ⟨rfl, ⟨nd, rfl⟩⟩; refine ⟨_, rfl, ?_⟩))
     go_ret
     exact ⟨by first | rfl | (simp [errW_none, errW_some] <;> rfl) | (simp [*, errW_none, errW_some] <;> rfl), KL HB⟩
    ·replace c36 := Bool.eq_false_iff.mpr c36
     subst c36
     have H1 : (laws_FnCacheRun.l0 kj4 t101 t103 t108 0) = some r := by rw [if_neg (show ¬ (false = true) by decide)] at H; exact H
     clear H
     have H := H1
     clear H1
     have H' := Aside0.mk H
     clear H
     go_wp2
     go_loopg [7] kj4 (fun kq v7 w' => ∃ (x7_2 : Int), v7 = .int .i64 x7_2 ∧ Aside0 (laws_FnCacheRun.l0 kq t101 t103 t108 x7_2 = some r) ∧ Aside0 (kq ≤ kj4) ∧ Aside0 (Kd.R k34 34 w' w.heap.size (fun _ => True) (.slice Ao7 t101.length co7) t101) ∧ Aside0 (Kd.R k25 25 w' w.heap.size (fun _ => True) (.slice Ao8 t103.length co8) t103) ∧ Aside0 (Kd.R (Kd.int .i64) 3 w' w.heap.size (fun _ => True) v109 t108) ∧ Aside0 (Below w.heap.size w w'))
     case atStart => exact ⟨(0), (by first | rfl | (simp; done) | (simp [*]; done)), H', ⟨Nat.le_refl _⟩, ⟨KR HO_3⟩, ⟨KR HO_5⟩, ⟨KR HO_6⟩, ⟨KL HB⟩⟩
     case round =>
      clear H'
      try clear c1
      try clear c2
      try clear c2b0
      try clear c2b1
      try clear p2
      try clear c3
      try clear c7
      try clear c12
      try clear c14
      try clear c15
      try clear c15b0
      try clear c15b1
      try clear c20
      try clear c20b0
      try clear c33
      try clear c34
      try clear c35
      try clear c36
      try clear p2
      obtain ⟨x7_2, rfl, HA, HK2, HO_3, HO_5, HO_6, HB⟩ := hrel
      cases gk with
      | zero => exact absurd HA.out (by simp [laws_FnCacheRun.l0])
      | succ k2 =>
       have H := HA.out
       clear HA
       simp only [laws_FnCacheRun.l0] at H
       by_cases c42 : x7_2 < (t103.length : Int)
       ·rw [if_pos c42] at H
        have c42b0 : decide (x7_2 < (t103.length : Int)) = true := decide_eq_true c42
        clear c42
        by_cases c43 : 0 ≤ x7_2
        ·rw [if_pos c43] at H
         have c43b0 : decide (0 ≤ x7_2) = true := decide_eq_true c43
         clear c43
         by_cases c44 : x7_2 < (t108.length : Int)
         ·rw [if_pos c44] at H
          have c44b0 : decide (x7_2 < (t108.length : Int)) = true := decide_eq_true c44
          clear c44
          replace H := Option.bind_eq_some_iff.mp H
          obtain ⟨t122, A450, H⟩ := H
          replace H : (if (rd t108 x7_2) = t122 then (laws_FnCacheRun.l0 k2 t101 t103 t108 (wrap64 (x7_2 + 1))) else (some false)) = some r := H
          have A45 := Aside0.mk A450
          clear A450
          by_cases c46 : (rd t108 x7_2) = t122
          ·rw [if_pos c46] at H
           have c46b0 : ((rd t108 x7_2) == t122) = true := beq_iff_eq.mpr c46
           have c46b1 : ((rd t108 x7_2) != t122) = false := bne_eq_false_iff_eq.mpr c46
           clear c46
           have H' := Aside0.mk H
           clear H
           try go_wp2
           replace HO_3 := am (Kd.R_drew HO_3.out)
           replace HO_5 := am (Kd.R_drew HO_5.out)
           replace HO_6 := am (Kd.R_drew HO_6.out)
           replace HB := am (below_drew1 HB.out)
           obtain ⟨Ao48, co48, eo48⟩ := Kd.R_slice HO_6.out
           (first | subst eo48 | (injection eo48 with f1_ f2_ f3_; have f4_ := f1_.symm; have f5_ := f3_.symm; clear f1_ f2_ f3_; subst f4_; subst f5_))
           have p120 : 0 ≤ (x7_2 : Int) := of_decide_eq_true (by first | (with_reducible assumption) | assumption)
           have q120 : x7_2 < (t108.length : Int) := of_decide_eq_true (by first | (with_reducible assumption) | assumption)
           obtain ⟨ad120, e120, hx120_0⟩ := Kd.at_int (Kd.R_reads' HO_6.out).2.2 x7_2 p120 q120
           cases e120
           replace p120 := eq_true p120
           replace q120 := eq_true q120
           have p121 : 0 ≤ (x7_2 : Int) := of_decide_eq_true (by first | (with_reducible assumption) | assumption)
           have q121 : x7_2 < (t103.length : Int) := of_decide_eq_true (by first | (with_reducible assumption) | assumption)
           obtain ⟨ad121, e121, hx121_0, hx121_1, hx121_2⟩ := at_T25 (Kd.R_reads' HO_5.out).2.2 x7_2 p121 q121
           cases e121
           replace p121 := eq_true p121
           replace q121 := eq_true q121
           refine start_ (n := 11) (S := fun w' => w'.cell? (ad120.add (x7_2).toNat) = some (.int .i64 (rd t108 x7_2)) ∧ w'.cell? (ad121.add ((x7_2).toNat * 3)) = some (.int .i64 ((rd_T25 t103 x7_2).f0)) ∧ w'.cell? ⟨(ad121.add ((x7_2).toNat * 3)).block, (ad121.add ((x7_2).toNat * 3)).off + 1, none⟩ = some (.int .i64 ((rd_T25 t103 x7_2).f1)) ∧ w'.cell? ⟨(ad121.add ((x7_2).toNat * 3)).block, (ad121.add ((x7_2).toNat * 3)).off + 2, none⟩ = some (.int .i64 ((rd_T25 t103 x7_2).f2))) (ds := []) (tf 0 11) (by kernel_rfl) rfl rfl ⟨hx120_0, hx121_0, hx121_1, hx121_2⟩ (fun hHeld => ?_); refine with_tabW laws_FnCacheRun.tab10 laws_FnCacheRun.bits10 (fun HT_ HW_ => ?_)
           generalize wr.drew = w47 at HO_3 HO_5 HO_6 HB hx120_0 hx121_0 hx121_1 hx121_2 hHeld ⊢
           refine pu 0 (some 58) (tf 1 10) (any_of HT_.out (by kernel_rfl)) ?_
           refine pu 1 (some 59) (tf 2 9) (any_of HT_.out (by kernel_rfl)) ?_
           refine pu 2 (some 60) (tf 3 8) (any_of HT_.out (by kernel_rfl)) ?_
           refine pu 4 (some 62) #[true, true, true, false, true, false, false, false, false, false, false] (any_of HT_.out (by kernel_rfl)) ?_
           refine pu 5 (some 63) #[true, true, true, false, true, true, false, false, false, false, false] (any_of HT_.out (by kernel_rfl)) ?_
           refine pu 6 (some 64) #[true, true, true, false, true, true, true, false, false, false, false] (any_of HT_.out (by kernel_rfl)) ?_
           refine pu 7 (some 65) #[true, true, true, false, true, true, true, true, false, false, false] (any_of HT_.out (by kernel_rfl)) ?_
           refine tk 3 (some 61) (tf 8 3) (take_ofW HT_.out HW_.out (by kernel_rfl)) hHeld ?_
           refine tk 8 (some 66) (tf 9 2) (take_ofW HT_.out HW_.out (by kernel_rfl)) hHeld ?_
           refine one_ (i := 9) (N := some 67) (tf 10 1) rfl rfl (one_of HT_.out (by kernel_rfl)) (by decide) (fun K hK => ?_)
           refine goes_ Try.func16 (by kernel_rfl) rfl #[.slice Ao7 t101.length co7, .agg #[.int .i64 ((rd_T25 t103 x7_2).f0), .int .i64 ((rd_T25 t103 x7_2).f1), .int .i64 ((rd_T25 t103 x7_2).f2)]] (by rfl) rfl rfl MT ?_
           with_reducible refine (impl_RulesFirst.calls k2 _ _ t101 ((rd_T25 t103 x7_2).f0) ((rd_T25 t103 x7_2).f1) ((rd_T25 t103 x7_2).f2) t122 _ ?side1 ?side2 A45.out).mono ?_
           (case side1 => exact KC (Kd.R_reads' HO_3.out).2.2)
           (case side2 => exact (Kd.R_reads' HO_3.out).2.1)
           rintro e w49 ⟨rfl, hb⟩
           have HS0_ := (hb.cell (World.block_lt_of_cell? _ _ (hHeld.1))).trans (hHeld.1)
           have HS1_ := (hb.cell (World.block_lt_of_cell? _ _ (hHeld.2.1))).trans (hHeld.2.1)
           have HS2_ := (hb.cell (World.block_lt_of_cell? _ _ (hHeld.2.2.1))).trans (hHeld.2.2.1)
           have HS3_ := (hb.cell (World.block_lt_of_cell? _ _ (hHeld.2.2.2))).trans (hHeld.2.2.2)
           refine ⟨_, rfl, ?_⟩
           replace HO_3 := am (Kd.R_below (KR HO_3) hb)
           replace HO_5 := am (Kd.R_below (KR HO_5) hb)
           replace HO_6 := am (Kd.R_below (KR HO_6) hb)
           replace HB := am (below_step (KL HB) hb)
           (try clear hb)
           (try clear hb2)
           (try clear hk)
           (try clear hi)
           refine hK.out _ _ ⟨HS0_, HS1_, HS2_, HS3_⟩ (fun hHeld => ?_)
           clear hK K
           refine norm_ (a' := ?_) ?_ ?_
           rotate_left
           ·show Act.put _ (some 67) _ = _
            simp only [Act.put, List.setIfInBounds_toArray, List.set_cons_zero, List.set_cons_succ, i64_w, i32_w]
            rfl
           refine pu 10 (some 68) (tf 11 0) (any_of HT_.out (by kernel_rfl)) ?_
           refine done_ (done_of HT_.out (by kernel_rfl)) ?_
           try go_wp2
           go_roundg k2
           case measure => have := HJ4.out; have := HK2.out; omega
           case rel => exact ⟨(wrap64 (x7_2 + 1)), (by first | rfl | (simp; done) | (simp [*]; done)), H', ⟨by have := HJ4.out; have := HK2.out; omega⟩, ⟨KR HO_3⟩, ⟨KR HO_5⟩, ⟨KR HO_6⟩, ⟨KL HB⟩⟩
          ·rw [if_neg c46] at H
           have c46b0 : ((rd t108 x7_2) == t122) = false := beq_eq_false_iff_ne.mpr c46
           have c46b1 : ((rd t108 x7_2) != t122) = true := bne_iff_ne.mpr c46
           exact absurd ((Option.some.inj H).trans HR_.out) (by decide)
         ·rw [if_neg c44] at H
          exact absurd H (by simp)
        ·rw [if_neg c43] at H
         exact absurd H (by simp)
       ·rw [if_neg c42] at H
        have c42b0 : decide (x7_2 < (t103.length : Int)) = false := decide_eq_false c42
        clear c42
        by_cases c50 : (t108.length : Int) = (t103.length : Int)
        ·rw [if_pos c50] at H
         have c50b0 : ((t108.length : Int) == (t103.length : Int)) = true := beq_iff_eq.mpr c50
         have c50b1 : ((t108.length : Int) != (t103.length : Int)) = false := bne_eq_false_iff_eq.mpr c50
         have c50b2 : (t108.length == t103.length) = true := by first | simpa using c50 | (simp at c50 ⊢; omega)
         clear c50
         replace H := Option.bind_eq_some_iff.mp H
         obtain ⟨t123, A510, H⟩ := H
         replace H : ((laws_ovInts.f k2 t123 t108).bind fun t126 => (if t126 = true then ((impl_CacheRun.f k2 t101 16 t103).bind fun t127 => ((laws_ovInts.f k2 t127 t108).bind fun t130 => (some t130))) else (some false))) = some r := H
         have A51 := Aside0.mk A510
         clear A510
         replace H := Option.bind_eq_some_iff.mp H
         obtain ⟨t126, A520, H⟩ := H
         replace H : (if t126 = true then ((impl_CacheRun.f k2 t101 16 t103).bind fun t127 => ((laws_ovInts.f k2 t127 t108).bind fun t130 => (some t130))) else (some false)) = some r := H
         have A52 := Aside0.mk A520
         clear A520
         by_cases c53 : t126 = true
         ·subst c53
          have H1 : ((impl_CacheRun.f k2 t101 16 t103).bind fun t127 => ((laws_ovInts.f k2 t127 t108).bind fun t130 => (some t130))) = some r := by rw [if_pos rfl] at H; exact H
          clear H
          have H := H1
          clear H1
          replace H := Option.bind_eq_some_iff.mp H
          obtain ⟨t127, A540, H⟩ := H
          replace H : ((laws_ovInts.f k2 t127 t108).bind fun t130 => (some t130)) = some r := H
          have A54 := Aside0.mk A540
          clear A540
          replace H := Option.bind_eq_some_iff.mp H
          obtain ⟨t130, A550, H⟩ := H
          replace H : (some t130) = some r := H
          have A55 := Aside0.mk A550
          clear A550
          obtain rfl := Option.some.inj H
          obtain ⟨Ao56, co56, eo56⟩ := Kd.R_slice HO_6.out
          subst eo56
          go_wp2_with (first | (go_at_call 34; (with_reducible refine (impl_CacheRun.calls k2 _ _ t101 0 _ _ t103 t123 _ ?side1 ?side2 ?side3 ?side4 A51.out).mono ?_); (case side1 => exact KC (Kd.R_reads' HO_3.out).2.2); (case side2 => exact (Kd.R_reads' HO_3.out).2.1); (case side3 => exact KC (Kd.R_reads' HO_5.out).2.2); (case side4 => exact (Kd.R_reads' HO_5.out).2.1); clear A51; rintro e w57 ⟨v124, rfl, ho0, hb⟩; replace HO_3 := am (Kd.R_below (KR HO_3) hb); replace HO_5 := am (Kd.R_below (KR HO_5) hb); have HO125 := am (Kd.R_lower (Kd.R_new' ho0 (Kd.R_lt (KR HO_6))) (below_size (KL HB))); replace HO_6 := am (Kd.R_elder' (KR HO_6) (Kd.R_base ho0) hb); replace HB := am (below_step (KL HB) hb); (try clear hb); (try clear hb2); (try clear hk); (try clear hi); (try clear ho0); obtain ⟨Ao58, co58, eo58⟩ := Kd.R_slice HO125.out; subst eo58) | (go_at_call 35; (with_reducible refine (laws_ovInts.calls k2 _ _ t123 _ _ t108 true _ ?side1 ?side2 ?side3 ?side4 A52.out).mono ?_); (case side1 => exact KC (Kd.R_reads' HO125.out).2.2); (case side2 => exact (Kd.R_reads' HO125.out).2.1); (case side3 => exact KC (Kd.R_reads' HO_6.out).2.2); (case side4 => exact (Kd.R_reads' HO_6.out).2.1); clear A52; rintro e w' ⟨rfl, ⟨nd, rfl⟩⟩) | (go_at_call 34; (with_reducible refine (impl_CacheRun.calls k2 _ _ t101 16 _ _ t103 t127 _ ?side1 ?side2 ?side3 ?side4 A54.out).mono ?_); (case side1 => exact KC (Kd.R_reads' HO_3.out).2.2); (case side2 => exact (Kd.R_reads' HO_3.out).2.1); (case side3 => exact KC (Kd.R_reads' HO_5.out).2.2); (case side4 => exact (Kd.R_reads' HO_5.out).2.1); rintro e w59 ⟨v128, rfl, ho0, hb⟩; replace HO_3 := am (Kd.R_below (KR HO_3) hb); replace HO_5 := am (Kd.R_below (KR HO_5) hb); have HO129 := am (Kd.R_lower (Kd.R_new' (Kd.R_new' ho0 (Kd.R_lt (KR HO_6))) (Kd.R_lt (KR HO125))) (below_size (KL HB))); replace HO_6 := am (Kd.R_elder' (KR HO_6) (Kd.R_base ho0) hb); replace HO125 := am (Kd.R_elder' (KR HO125) (Kd.R_base ho0) hb); replace HB := am (below_step (KL HB) hb); (try clear hb); (try clear hb2); (try clear hk); (try clear hi); (try clear ho0); obtain ⟨Ao60, co60, eo60⟩ := Kd.R_slice HO129.out; subst eo60) | (go_at_call 35; (with_reducible refine (laws_ovInts.calls k2 _ _ t127 _ _ t108 t130 _ ?side1 ?side2 ?side3 ?side4 A55.out).mono ?_); (case side1 => exact KC (Kd.R_reads' HO129.out).2.2); (case side2 => exact (Kd.R_reads' HO129.out).2.1); (case side3 => exact KC (Kd.R_reads' HO_6.out).2.2); (case side4 => exact (Kd.R_reads' HO_6.out).2.1); rintro e w' ⟨rfl, ⟨nd, rfl⟩⟩))
          go_ret
          exact ⟨by first | rfl | (simp [errW_none, errW_some] <;> rfl) | (simp [*, errW_none, errW_some] <;> rfl), KL HB⟩
         ·replace c53 := Bool.eq_false_iff.mpr c53
          subst c53
          have H1 : (some false) = some r := by rw [if_neg (show ¬ (false = true) by decide)] at H; exact H
          clear H
          have H := H1
          clear H1
          exact absurd ((Option.some.inj H).trans HR_.out) (by decide)
        ·rw [if_neg c50] at H
         have c50b0 : ((t108.length : Int) == (t103.length : Int)) = false := beq_eq_false_iff_ne.mpr c50
         have c50b1 : ((t108.length : Int) != (t103.length : Int)) = true := bne_iff_ne.mpr c50
         have c50b2 : (t108.length == t103.length) = false := by first | simpa using c50 | (simp at c50 ⊢; omega)
         exact absurd ((Option.some.inj H).trans HR_.out) (by decide)
/-- THE ONE PURE STATEMENT of laws_FnCacheRun: yours. -/
def laws_FnCacheRun.Pure : Prop := ∀ (l0 : List Int), l0.length ≤ maxLen → l0.length * 1 ≤ 140737488351232 → (∀ x ∈ l0, (Lit.int .u8 x).wf = true) → ∃ k, laws_FnCacheRun.f k l0 = some true
theorem laws_FnCacheRun.walk (P : laws_FnCacheRun.Pure) (a0 : Option Addr) (len0 cap0 : Nat) (z0 : List Int) (w : World) (w0 : (a0 = none ∧ len0 = 0 ∧ cap0 = 0 ∧ z0 = []) ∨ ∃ x, a0 = some x ∧ len0 ≤ cap0 ∧ cap0 ≤ maxLen ∧ z0.length = cap0 ∧ (∀ i, i < z0.length → w.cell? (x.add i) = some (.int .u8 (z0.getD i 0))) ∧ ∀ n ∈ z0, (Lit.int .u8 n).wf = true) (y0 : len0 * 1 ≤ 140737488351232) :
  Calls Try.prog 7 #[.slice a0 len0 cap0] w fun e w' => e = .returned (.bool true) ∧ Below w.heap.size w w' := by
 obtain ⟨l0, rfl, hr0, hm0, hw0, hc0⟩ := ReadsInt.ofRowC w0
 obtain ⟨k, h⟩ := P l0 hm0 y0 hw0
 refine (laws_FnCacheRun.calls k _ _ l0 true w (Kd.C_of_reads (d := (0 : Int)) (h1 := fun _ => rfl) hr0) hc0 rfl h).mono ?_
 rintro e w' ⟨rfl, hd⟩
 exact ⟨rfl, hd⟩
end Go.Proofs.Ytioghacieopbdaa.PAll
end
