/- Contracts of the functions that the statement reaches, printed by a program out of the translation and joined with the plain laws. -/
import Derived.Test.YtmanlcakdcoekaaCFnExactWaysTo3
import Derived.Test.YtmanlcakdcoekaaCFnExactWaysTo4
import Derived.Test.YtmanlcakdcoekaaCFnExactWaysTo5
import Derived.Test.YtmanlcakdcoekaaCFnExactWaysTo6
import Derived.Test.YtmanlcakdcoekaaCFnExactWaysTo10
import Derived.Test.YtmanlcakdcoekaaCFnExactWaysTo11
section
namespace Go.Proofs.Ytmanlcakdcoekaa.PAll
open Go.RowKit Go.Proofs.YtmanlcakdcoekaaW.PrintWords Go.Proofs.YtmanlcakdcoekaaW.PrintLast Go.Proofs.YtmanlcakdcoekaaW.PrintMore
attribute [local go_sem] max2_int min2_int max_two min_two max_three min_three max_four min_four   -- for this text's walks alone
set_option linter.unusedVariables false
set_option linter.unusedSimpArgs false
mutual
def laws_FnExactWaysTo.j0 : Nat → List (S98) → Int → List (S40) → Bool → List (S95) → List (S40) → Bool → Bool → Option (Bool)
 | 0, _, _, _, _, _, _, _, _ => none
 | k + 1, x0, x1, x6, x7, x8, x9, x10, x44 => if x44 = true then (some false) else ((laws_toWayS.f k x0).bind fun t117 => ((laws_eqWayS.f k x8 t117).bind fun t120 => (if t120 = true then ((laws_markWayS.f k x8 1).bind fun bt121 => (if bt121.1 < 0 then (laws_FnExactWaysTo.j1 k x0 x1 x6 x7 x9 true) else ((laws_eqBlockS.f k x9 x6).bind fun t123 => (if t123 = true then (laws_FnExactWaysTo.j1 k x0 x1 x6 x7 x9 (x10 != x7)) else (laws_FnExactWaysTo.j1 k x0 x1 x6 x7 x9 true))))) else (some false))))
def laws_FnExactWaysTo.j1 : Nat → List (S98) → Int → List (S40) → Bool → List (S40) → Bool → Option (Bool)
 | 0, _, _, _, _, _, _ => none
 | k + 1, x0, x1, x6, x7, x9, x65 => if x65 = true then (some false) else ((laws_markBlockS.f k x9 1).bind fun bt124 => ((laws_heldBlockS.f k bt124.2 1).bind fun t126 => (if t126 < 0 then (some false) else (if t126 = bt124.1 then ((laws_toWayS.f k x0).bind fun t127 => ((impl_WaysTo.f k t127 x1).bind fun bt130 => ((laws_eqBlockS.f k bt130.1 x6).bind fun t134 => (if t134 = true then (laws_FnExactWaysTo.j2 k bt124.2 bt124.1 (bt130.2 != x7)) else (laws_FnExactWaysTo.j2 k bt124.2 bt124.1 true))))) else (some false)))))
def laws_FnExactWaysTo.j2 : Nat → List (S40) → Int → Bool → Option (Bool)
 | 0, _, _, _ => none
 | k + 1, x9, x12, x92 => if x92 = true then (some false) else ((laws_heldBlockS.f k x9 1).bind fun t135 => (if t135 < 0 then (some false) else (if t135 = x12 then (some true) else (some false))))
end
def laws_FnExactWaysTo.f (k : Nat) (l0 : List (S98)) (a1 : Int) : Option (Bool) := (laws_szWayS.f l0 1048576).bind fun t101 => (if t101 < 0 then (some true) else ((laws_toWayS.f k l0).bind fun t102 => ((spec_WaysTo.f k t102 a1).bind fun bt105 => ((laws_toWayS.f k l0).bind fun t109 => ((impl_WaysTo.f k t109 a1).bind fun bt112 => ((laws_eqBlockS.f k bt112.1 bt105.1).bind fun t116 => (if t116 = true then (laws_FnExactWaysTo.j0 k l0 a1 bt105.1 bt105.2 t109 bt112.1 bt112.2 (bt112.2 != bt105.2)) else (laws_FnExactWaysTo.j0 k l0 a1 bt105.1 bt105.2 t109 bt112.1 bt112.2 true))))))))
set_option maxHeartbeats 8000000 in
set_option maxRecDepth 100000 in
theorem laws_FnExactWaysTo.calls (k : Nat) (A0 : Option Addr) (c0 : Nat) (l0 : List (S98)) (a1 : Int) (r : Bool) (w : World) (hr0 : Kd.C k98 w A0 l0.length l0) (hc0 : l0.length ≤ c0) (hr0_ : r = true) (h : laws_FnExactWaysTo.f k l0 a1 = some r) :
  Calls Try.prog 8 #[.slice A0 l0.length c0, .int .i64 a1] w fun e w' => e = .returned (.bool r) ∧ Below w.heap.size w w' := by
 have HR0 := Aside0.mk hr0
 have HC0 := Aside0.mk hc0
 clear hr0 hc0
 have HB := am (Below.refl w.heap.size w)
 have H : ((laws_szWayS.f l0 1048576).bind fun t101 => (if t101 < 0 then (some true) else ((laws_toWayS.f k l0).bind fun t102 => ((spec_WaysTo.f k t102 a1).bind fun bt105 => ((laws_toWayS.f k l0).bind fun t109 => ((impl_WaysTo.f k t109 a1).bind fun bt112 => ((laws_eqBlockS.f k bt112.1 bt105.1).bind fun t116 => (if t116 = true then (laws_FnExactWaysTo.j0 k l0 a1 bt105.1 bt105.2 t109 bt112.1 bt112.2 (bt112.2 != bt105.2)) else (laws_FnExactWaysTo.j0 k l0 a1 bt105.1 bt105.2 t109 bt112.1 bt112.2 true))))))))) = some r := h
 clear h
 have HR_ := Aside0.mk hr0_
 clear hr0_
 replace H := Option.bind_eq_some_iff.mp H
 obtain ⟨t101, A30, H⟩ := H
 replace H : (if t101 < 0 then (some true) else ((laws_toWayS.f k l0).bind fun t102 => ((spec_WaysTo.f k t102 a1).bind fun bt105 => ((laws_toWayS.f k l0).bind fun t109 => ((impl_WaysTo.f k t109 a1).bind fun bt112 => ((laws_eqBlockS.f k bt112.1 bt105.1).bind fun t116 => (if t116 = true then (laws_FnExactWaysTo.j0 k l0 a1 bt105.1 bt105.2 t109 bt112.1 bt112.2 (bt112.2 != bt105.2)) else (laws_FnExactWaysTo.j0 k l0 a1 bt105.1 bt105.2 t109 bt112.1 bt112.2 true)))))))) = some r := H
 have A3 := Aside0.mk A30
 clear A30
 by_cases c4 : t101 < 0
 ·rw [if_pos c4] at H
  have c4b0 : decide (t101 < 0) = true := decide_eq_true c4
  clear c4
  obtain rfl := Option.some.inj H
  go_enter Try.func8, Try.ntmps8
  go_wp2_with (first | ((with_reducible refine gate_callee (f := 34) rfl ?_); refine goesL_ (some 18) rfl rfl Try.func34 (by kernel_rfl) rfl #[.slice A0 l0.length c0, .int .i64 1048576] rfl MT ?_; (with_reducible refine (laws_szWayS.calls _ _ l0 1048576 t101 _ ?side1 ?side2 A3.out).mono ?_); (case side1 => exact KC HR0.out); (case side2 => exact HC0.out); rintro e w' ⟨rfl, ⟨nd, rfl⟩⟩; refine ⟨_, rfl, ?_⟩))
  go_ret
  exact ⟨ER, KL HB⟩
 ·rw [if_neg c4] at H
  have c4b0 : decide (t101 < 0) = false := decide_eq_false c4
  clear c4
  replace H := Option.bind_eq_some_iff.mp H
  obtain ⟨t102, A50, H⟩ := H
  replace H : ((spec_WaysTo.f k t102 a1).bind fun bt105 => ((laws_toWayS.f k l0).bind fun t109 => ((impl_WaysTo.f k t109 a1).bind fun bt112 => ((laws_eqBlockS.f k bt112.1 bt105.1).bind fun t116 => (if t116 = true then (laws_FnExactWaysTo.j0 k l0 a1 bt105.1 bt105.2 t109 bt112.1 bt112.2 (bt112.2 != bt105.2)) else (laws_FnExactWaysTo.j0 k l0 a1 bt105.1 bt105.2 t109 bt112.1 bt112.2 true)))))) = some r := H
  have A5 := Aside0.mk A50
  clear A50
  replace H := Option.bind_eq_some_iff.mp H
  obtain ⟨⟨t105, t106⟩, A60, H⟩ := H
  replace H : ((laws_toWayS.f k l0).bind fun t109 => ((impl_WaysTo.f k t109 a1).bind fun bt112 => ((laws_eqBlockS.f k bt112.1 t105).bind fun t116 => (if t116 = true then (laws_FnExactWaysTo.j0 k l0 a1 t105 t106 t109 bt112.1 bt112.2 (bt112.2 != t106)) else (laws_FnExactWaysTo.j0 k l0 a1 t105 t106 t109 bt112.1 bt112.2 true))))) = some r := H
  have A6 := Aside0.mk A60
  clear A60
  replace H := Option.bind_eq_some_iff.mp H
  obtain ⟨t109, A70, H⟩ := H
  replace H : ((impl_WaysTo.f k t109 a1).bind fun bt112 => ((laws_eqBlockS.f k bt112.1 t105).bind fun t116 => (if t116 = true then (laws_FnExactWaysTo.j0 k l0 a1 t105 t106 t109 bt112.1 bt112.2 (bt112.2 != t106)) else (laws_FnExactWaysTo.j0 k l0 a1 t105 t106 t109 bt112.1 bt112.2 true)))) = some r := H
  have A7 := Aside0.mk A70
  clear A70
  replace H := Option.bind_eq_some_iff.mp H
  obtain ⟨⟨t112, t115⟩, A80, H⟩ := H
  replace H : ((laws_eqBlockS.f k t112 t105).bind fun t116 => (if t116 = true then (laws_FnExactWaysTo.j0 k l0 a1 t105 t106 t109 t112 t115 (t115 != t106)) else (laws_FnExactWaysTo.j0 k l0 a1 t105 t106 t109 t112 t115 true))) = some r := H
  have A8 := Aside0.mk A80
  clear A80
  have HC9 := Aside0.mk H
  clear H
  go_enter Try.func8, Try.ntmps8
  go_upto_region 8 with (first | ((with_reducible refine gate_callee (f := 34) rfl ?_); refine goesL_ (some 18) rfl rfl Try.func34 (by kernel_rfl) rfl #[.slice A0 l0.length c0, .int .i64 1048576] rfl MT ?_; (with_reducible refine (laws_szWayS.calls _ _ l0 1048576 t101 _ ?side1 ?side2 A3.out).mono ?_); (case side1 => exact KC HR0.out); (case side2 => exact HC0.out); rintro e w' ⟨rfl, ⟨nd, rfl⟩⟩; refine ⟨_, rfl, ?_⟩) | ((with_reducible refine gate_callee (f := 36) rfl ?_); refine goesL_ (some 23) rfl rfl Try.func36 (by kernel_rfl) rfl #[.slice A0 l0.length c0] rfl MT ?_; (with_reducible refine (laws_toWayS.calls k _ _ l0 t102 _ ?side1 ?side2 A5.out).mono ?_); (case side1 => exact KC HR0.out); (case side2 => exact HC0.out); rintro e w10 ⟨v103, rfl, ho0, hb⟩; refine ⟨_, rfl, ?_⟩; have HO104 := am (Kd.R_lower ho0 (below_size (KL HB))); replace HB := am (below_step (KL HB) hb); (try clear hb); (try clear ho0); obtain ⟨Ao11, co11, eo11⟩ := Kd.R_slice HO104.out; subst eo11) | ((with_reducible refine gate_callee (f := 35) rfl ?_); refine goesL_ (some 25) rfl rfl Try.func35 (by kernel_rfl) rfl #[.slice Ao11 t102.length co11, .int .i64 a1] rfl MT ?_; (with_reducible refine (spec_WaysTo.calls k _ _ t102 a1 t105 t106 _ ?side1 ?side2 A6.out).mono ?_); (case side1 => exact KC (Kd.R_reads' HO104.out).2.2); (case side2 => exact (Kd.R_reads' HO104.out).2.1); rintro e w12 ⟨v107, rfl, ho0, hb⟩; refine ⟨_, rfl, ?_⟩; replace HO104 := am (Kd.R_below (KR HO104) hb); have HO108 := am (Kd.R_lower ho0 (below_size (KL HB))); replace HB := am (below_step (KL HB) hb); (try clear hb); (try clear ho0)) | ((with_reducible refine gate_callee (f := 36) rfl ?_); refine goesL_ (some 29) rfl rfl Try.func36 (by kernel_rfl) rfl #[.slice A0 l0.length c0] rfl MT ?_; (with_reducible refine (laws_toWayS.calls k _ _ l0 t109 _ ?side1 ?side2 A7.out).mono ?_); (case side1 => exact KD HR0 HB); (case side2 => exact HC0.out); rintro e w13 ⟨v110, rfl, ho0, hb⟩; refine ⟨_, rfl, ?_⟩; replace HO108 := am (Kd.R_below (KR HO108) hb); have HO111 := am (Kd.R_lower (Kd.R_new' ho0 (Kd.R_lt (KR HO104))) (below_size (KL HB))); replace HO104 := am (Kd.R_elder' (KR HO104) (Kd.R_base ho0) hb); replace HB := am (below_step (KL HB) hb); (try clear hb); (try clear ho0); obtain ⟨Ao14, co14, eo14⟩ := Kd.R_slice HO111.out; subst eo14) | ((with_reducible refine gate_callee (f := 37) rfl ?_); refine goesL_ (some 33) rfl rfl Try.func37 (by kernel_rfl) rfl #[.slice Ao14 t109.length co14, .int .i64 a1] rfl MT ?_; (with_reducible refine (impl_WaysTo.calls k (fun k_ => some k_ = (.slice Ao14 t109.length co14 : Value).ownBlock) _ _ t109 a1 t112 t115 _ ?side1 A8.out).mono ?_); (case side1 => exact Kd.R_V (Kd.R_tight rfl (Kd.R_apart' (HO111.out) (Kd.R_typed HO108.out) (by decide)))); rintro e w15 ⟨v113, rfl, ho0, hb⟩; refine ⟨_, rfl, ?_⟩; replace HO104 := am (Kd.R_below (KR HO104) hb); replace HO111 := am (Kd.R_below (KR HO111) hb); have HO114 := am (Kd.R_lower (Kd.R_new' (Kd.R_mono (ok' := fun k_ => True) ho0 (fun _ hk_ => trivial)) (Kd.R_lt (KR HO108))) (below_size (KL HB))); replace HO108 := am (Kd.R_elder' (KR HO108) (Kd.R_base ho0) hb); replace HB := am (below_step (KL HB) hb); (try clear hb); (try clear ho0)))
  (try simp only [Act.put, List.setIfInBounds_toArray, List.set_cons_zero, List.set_cons_succ])
  go_cut [44] (fun v44 wc => ∃ (kq : Nat) (x44_8 : Bool), v44 = .bool x44_8 ∧ Aside0 (laws_FnExactWaysTo.j0 kq l0 a1 t105 t106 t109 t112 t115 x44_8 = some r) ∧ Aside0 (kq ≤ k) ∧ Aside0 (Kd.R k40 40 wc w.heap.size (fun k_ => some k_ ≠ (v113 : Value).ownBlock) v107 t105) ∧ Aside0 (Kd.R k95 95 wc w.heap.size (fun _ => True) (.slice Ao14 t109.length co14) t109) ∧ Aside0 (Kd.R k40 40 wc w.heap.size (fun k_ => some k_ ≠ (v107 : Value).ownBlock) v113 t112) ∧ Aside0 (Below w.heap.size w wc))
  case first =>
   have H := HC9.out
   clear HC9
   replace H := Option.bind_eq_some_iff.mp H
   obtain ⟨t116, A160, H⟩ := H
   replace H : (if t116 = true then (laws_FnExactWaysTo.j0 k l0 a1 t105 t106 t109 t112 t115 (t115 != t106)) else (laws_FnExactWaysTo.j0 k l0 a1 t105 t106 t109 t112 t115 true)) = some r := H
   have A16 := Aside0.mk A160
   clear A160
   by_cases c17 : t116 = true
   ·subst c17
    have H1 : (laws_FnExactWaysTo.j0 k l0 a1 t105 t106 t109 t112 t115 (t115 != t106)) = some r := by rw [if_pos rfl] at H; exact H
    clear H
    have H := H1
    clear H1
    have H' := Aside0.mk H
    clear H
    obtain ⟨Ao18, co18, eo18⟩ := Kd.R_slice HO114.out
    subst eo18
    obtain ⟨Ao19, co19, eo19⟩ := Kd.R_slice HO108.out
    subst eo19
    go_wp2_with (first | ((with_reducible refine gate_callee (f := 19) rfl ?_); refine goesL_ (some 38) rfl rfl Try.func19 (by kernel_rfl) rfl #[.slice Ao18 t112.length co18, .slice Ao19 t105.length co19] rfl MT ?_; (with_reducible refine (laws_eqBlockS.calls k _ _ t112 _ _ t105 true _ ?side1 ?side2 ?side3 ?side4 A16.out).mono ?_); (case side1 => exact KC (Kd.R_reads' HO114.out).2.2); (case side2 => exact (Kd.R_reads' HO114.out).2.1); (case side3 => exact KC (Kd.R_reads' HO108.out).2.2); (case side4 => exact (Kd.R_reads' HO108.out).2.1); rintro e w20 ⟨rfl, hb⟩; refine ⟨_, rfl, ?_⟩; replace HO104 := am (Kd.R_below (KR HO104) hb); replace HO108 := am (Kd.R_below (KR HO108) hb); replace HO111 := am (Kd.R_below (KR HO111) hb); replace HO114 := am (Kd.R_below (KR HO114) hb); replace HB := am (below_step (KL HB) hb); (try clear hb)))
    go_meet
    case rel => exact ⟨_, ((t115 != t106)), (by first | rfl | (simp; done) | (simp [*]; done)), H', ⟨by first | omega | exact Nat.le_refl _⟩, ⟨by (with_reducible repeat (first | apply Kd.R_alloc | apply Kd.R_drewN | apply Kd.R_drew)); exact Kd.R_mono HO108.out (fun _ hk => hk.2)⟩, ⟨by (with_reducible repeat (first | apply Kd.R_alloc | apply Kd.R_drewN | apply Kd.R_drew)); exact Kd.R_mono HO111.out (fun _ hk => trivial)⟩, ⟨by (with_reducible repeat (first | apply Kd.R_alloc | apply Kd.R_drewN | apply Kd.R_drew)); exact Kd.R_mono HO114.out (fun _ hk => hk.2)⟩, ⟨KL HB⟩⟩
   ·replace c17 := Bool.eq_false_iff.mpr c17
    subst c17
    have H1 : (laws_FnExactWaysTo.j0 k l0 a1 t105 t106 t109 t112 t115 true) = some r := by rw [if_neg (show ¬ (false = true) by decide)] at H; exact H
    clear H
    have H := H1
    clear H1
    have H' := Aside0.mk H
    clear H
    obtain ⟨Ao21, co21, eo21⟩ := Kd.R_slice HO114.out
    subst eo21
    obtain ⟨Ao22, co22, eo22⟩ := Kd.R_slice HO108.out
    subst eo22
    go_wp2_with (first | ((with_reducible refine gate_callee (f := 19) rfl ?_); refine goesL_ (some 38) rfl rfl Try.func19 (by kernel_rfl) rfl #[.slice Ao21 t112.length co21, .slice Ao22 t105.length co22] rfl MT ?_; (with_reducible refine (laws_eqBlockS.calls k _ _ t112 _ _ t105 false _ ?side1 ?side2 ?side3 ?side4 A16.out).mono ?_); (case side1 => exact KC (Kd.R_reads' HO114.out).2.2); (case side2 => exact (Kd.R_reads' HO114.out).2.1); (case side3 => exact KC (Kd.R_reads' HO108.out).2.2); (case side4 => exact (Kd.R_reads' HO108.out).2.1); rintro e w23 ⟨rfl, hb⟩; refine ⟨_, rfl, ?_⟩; replace HO104 := am (Kd.R_below (KR HO104) hb); replace HO108 := am (Kd.R_below (KR HO108) hb); replace HO111 := am (Kd.R_below (KR HO111) hb); replace HO114 := am (Kd.R_below (KR HO114) hb); replace HB := am (below_step (KL HB) hb); (try clear hb)))
    go_meet
    case rel => exact ⟨_, (true), (by first | rfl | (simp; done) | (simp [*]; done)), H', ⟨by first | omega | exact Nat.le_refl _⟩, ⟨by (with_reducible repeat (first | apply Kd.R_alloc | apply Kd.R_drewN | apply Kd.R_drew)); exact Kd.R_mono HO108.out (fun _ hk => hk.2)⟩, ⟨by (with_reducible repeat (first | apply Kd.R_alloc | apply Kd.R_drewN | apply Kd.R_drew)); exact Kd.R_mono HO111.out (fun _ hk => trivial)⟩, ⟨by (with_reducible repeat (first | apply Kd.R_alloc | apply Kd.R_drewN | apply Kd.R_drew)); exact Kd.R_mono HO114.out (fun _ hk => hk.2)⟩, ⟨KL HB⟩⟩
  case rest =>
   clear HC9
   try clear c1
   try clear p2
   try clear c3
   try clear c4
   try clear c4b0
   try clear c8
   try clear c17
   try clear c19
   obtain ⟨kq, x44_8, rfl, HA, HJ8, HO_6, HO_8, HO_9, HB⟩ := hcut
   cases kq with
   | zero => exact absurd HA.out (by simp [laws_FnExactWaysTo.j0])
   | succ kj8 =>
    have H := HA.out
    clear HA
    simp only [laws_FnExactWaysTo.j0] at H
    by_cases c24 : x44_8 = true
    ·subst c24
     have H1 : (some false) = some r := by rw [if_pos rfl] at H; exact H
     clear H
     have H := H1
     clear H1
     exact absurd ((Option.some.inj H).trans HR_.out) (by decide)
    ·replace c24 := Bool.eq_false_iff.mpr c24
     subst c24
     have H1 : ((laws_toWayS.f kj8 l0).bind fun t117 => ((laws_eqWayS.f kj8 t109 t117).bind fun t120 => (if t120 = true then ((laws_markWayS.f kj8 t109 1).bind fun bt121 => (if bt121.1 < 0 then (laws_FnExactWaysTo.j1 kj8 l0 a1 t105 t106 t112 true) else ((laws_eqBlockS.f kj8 t112 t105).bind fun t123 => (if t123 = true then (laws_FnExactWaysTo.j1 kj8 l0 a1 t105 t106 t112 (t115 != t106)) else (laws_FnExactWaysTo.j1 kj8 l0 a1 t105 t106 t112 true))))) else (some false)))) = some r := by rw [if_neg (show ¬ (false = true) by decide)] at H; exact H
     clear H
     have H := H1
     clear H1
     replace H := Option.bind_eq_some_iff.mp H
     obtain ⟨t117, A250, H⟩ := H
     replace H : ((laws_eqWayS.f kj8 t109 t117).bind fun t120 => (if t120 = true then ((laws_markWayS.f kj8 t109 1).bind fun bt121 => (if bt121.1 < 0 then (laws_FnExactWaysTo.j1 kj8 l0 a1 t105 t106 t112 true) else ((laws_eqBlockS.f kj8 t112 t105).bind fun t123 => (if t123 = true then (laws_FnExactWaysTo.j1 kj8 l0 a1 t105 t106 t112 (t115 != t106)) else (laws_FnExactWaysTo.j1 kj8 l0 a1 t105 t106 t112 true))))) else (some false))) = some r := H
     have A25 := Aside0.mk A250
     clear A250
     replace H := Option.bind_eq_some_iff.mp H
     obtain ⟨t120, A260, H⟩ := H
     replace H : (if t120 = true then ((laws_markWayS.f kj8 t109 1).bind fun bt121 => (if bt121.1 < 0 then (laws_FnExactWaysTo.j1 kj8 l0 a1 t105 t106 t112 true) else ((laws_eqBlockS.f kj8 t112 t105).bind fun t123 => (if t123 = true then (laws_FnExactWaysTo.j1 kj8 l0 a1 t105 t106 t112 (t115 != t106)) else (laws_FnExactWaysTo.j1 kj8 l0 a1 t105 t106 t112 true))))) else (some false)) = some r := H
     have A26 := Aside0.mk A260
     clear A260
     by_cases c27 : t120 = true
     ·subst c27
      have H1 : ((laws_markWayS.f kj8 t109 1).bind fun bt121 => (if bt121.1 < 0 then (laws_FnExactWaysTo.j1 kj8 l0 a1 t105 t106 t112 true) else ((laws_eqBlockS.f kj8 t112 t105).bind fun t123 => (if t123 = true then (laws_FnExactWaysTo.j1 kj8 l0 a1 t105 t106 t112 (t115 != t106)) else (laws_FnExactWaysTo.j1 kj8 l0 a1 t105 t106 t112 true))))) = some r := by rw [if_pos rfl] at H; exact H
      clear H
      have H := H1
      clear H1
      replace H := Option.bind_eq_some_iff.mp H
      obtain ⟨⟨t121, t122⟩, A280, H⟩ := H
      replace H : (if t121 < 0 then (laws_FnExactWaysTo.j1 kj8 l0 a1 t105 t106 t112 true) else ((laws_eqBlockS.f kj8 t112 t105).bind fun t123 => (if t123 = true then (laws_FnExactWaysTo.j1 kj8 l0 a1 t105 t106 t112 (t115 != t106)) else (laws_FnExactWaysTo.j1 kj8 l0 a1 t105 t106 t112 true)))) = some r := H
      have A28 := Aside0.mk A280
      clear A280
      have HC29 := Aside0.mk H
      clear H
      go_upto_region 14 with (first | ((with_reducible refine gate_callee (f := 36) rfl ?_); refine goesL_ (some 47) rfl rfl Try.func36 (by kernel_rfl) rfl #[.slice A0 l0.length c0] rfl MT ?_; (with_reducible refine (laws_toWayS.calls kj8 _ _ l0 t117 _ ?side1 ?side2 A25.out).mono ?_); (case side1 => exact KD HR0 HB); (case side2 => exact HC0.out); rintro e w30 ⟨v118, rfl, ho0, hb⟩; refine ⟨_, rfl, ?_⟩; replace HO_6 := am (Kd.R_below (KR HO_6) hb); replace HO_9 := am (Kd.R_below (KR HO_9) hb); have HO119 := am (Kd.R_lower (Kd.R_new' ho0 (Kd.R_lt (KR HO_8))) (below_size (KL HB))); replace HO_8 := am (Kd.R_elder' (KR HO_8) (Kd.R_base ho0) hb); replace HB := am (below_step (KL HB) hb); (try clear hb); (try clear ho0); obtain ⟨Ao31, co31, eo31⟩ := Kd.R_slice HO119.out; subst eo31) | ((with_reducible refine gate_callee (f := 38) rfl ?_); refine goesL_ (some 48) rfl rfl Try.func38 (by kernel_rfl) rfl #[.slice Ao14 t109.length co14, .slice Ao31 t117.length co31] rfl MT ?_; (with_reducible refine (laws_eqWayS.calls kj8 _ _ t109 _ _ t117 true _ ?side1 ?side2 ?side3 ?side4 A26.out).mono ?_); (case side1 => exact KC (Kd.R_reads' HO_8.out).2.2); (case side2 => exact (Kd.R_reads' HO_8.out).2.1); (case side3 => exact KC (Kd.R_reads' HO119.out).2.2); (case side4 => exact (Kd.R_reads' HO119.out).2.1); rintro e w32 ⟨rfl, hb⟩; refine ⟨_, rfl, ?_⟩; replace HO_6 := am (Kd.R_below (KR HO_6) hb); replace HO_8 := am (Kd.R_below (KR HO_8) hb); replace HO_9 := am (Kd.R_below (KR HO_9) hb); replace HO119 := am (Kd.R_below (KR HO119) hb); replace HB := am (below_step (KL HB) hb); (try clear hb)) | ((with_reducible refine gate_callee (f := 39) rfl ?_); refine goesL_ (some 52) rfl rfl Try.func39 (by kernel_rfl) rfl #[.slice Ao14 t109.length co14, .int .i64 1] rfl MT ?_; (with_reducible refine (laws_markWayS.calls kj8 (fun k_ => some k_ = (.slice Ao14 t109.length co14 : Value).ownBlock) (.slice Ao14 t109.length co14) t109 1 t121 t122 w _ ?side1 ?side2 A28.out).mono ?_); (case side1 => exact KL HB); (case side2 => exact Kd.R_tight rfl HO_8.out); rintro e w33 ⟨rfl, hy0, hb, hkp⟩; refine ⟨_, rfl, ?_⟩; replace HO_6 := am (Kd.R_mono (ok' := fun k_ => some k_ ≠ (v113 : Value).ownBlock) (Kd.R_keptB ((Kd.R_apart' HO_6.out (Kd.R_typed HO_8.out) (by decide))) hkp (fun k_ hk_ hs_ => (hk_.2) hs_)) (fun k_ hk_ => hk_.1.1)); replace HO_9 := am (Kd.R_mono (ok' := fun k_ => some k_ ≠ (v107 : Value).ownBlock) (Kd.R_keptB ((Kd.R_apart' HO_9.out (Kd.R_typed HO_8.out) (by decide))) hkp (fun k_ hk_ hs_ => (hk_.2) hs_)) (fun k_ hk_ => hk_.1.1)); replace HO_8 := am (Kd.R_reok rfl hy0 (fun k_ e_ => HO_8.out.1 k_ e_)); replace HO119 := am (Kd.R_mono (ok' := fun k_ => some k_ ≠ (.slice Ao14 t109.length co14 : Value).ownBlock) (Kd.R_keptB (HO119.out) hkp (fun k_ hk_ hs_ => (hk_.2) hs_)) (fun k_ hk_ => hk_.1.2)); replace HB := am (hb); (try clear hb); (try clear hkp); (try clear hy0)))
      (try simp only [Act.put, List.setIfInBounds_toArray, List.set_cons_zero, List.set_cons_succ])
      go_cut [65] (fun v65 wc => ∃ (kq : Nat) (x65_28 : Bool), v65 = .bool x65_28 ∧ Aside0 (laws_FnExactWaysTo.j1 kq l0 a1 t105 t106 t112 x65_28 = some r) ∧ Aside0 (kq ≤ kj8) ∧ Aside0 (Kd.R k40 40 wc w.heap.size (fun k_ => some k_ ≠ (v113 : Value).ownBlock) v107 t105) ∧ Aside0 (Kd.R k40 40 wc w.heap.size (fun k_ => some k_ ≠ (v107 : Value).ownBlock) v113 t112) ∧ Aside0 (Below w.heap.size w wc))
      case first =>
       have H := HC29.out
       clear HC29
       by_cases c34 : t121 < 0
       ·rw [if_pos c34] at H
        have c34b0 : decide (t121 < 0) = true := decide_eq_true c34
        clear c34
        (first | rw [c34b0] | (simp only [i64_w, i32_w]; rw [c34b0]) | skip)
        have H' := Aside0.mk H
        clear H
        go_wp2
        go_meet
        case rel => exact ⟨_, (true), (by first | rfl | (simp; done) | (simp [*]; done)), H', ⟨by have := HJ8.out; first | omega | exact Nat.le_refl _⟩, ⟨KR HO_6⟩, ⟨KR HO_9⟩, ⟨KL HB⟩⟩
       ·rw [if_neg c34] at H
        have c34b0 : decide (t121 < 0) = false := decide_eq_false c34
        clear c34
        (first | rw [c34b0] | (simp only [i64_w, i32_w]; rw [c34b0]) | skip)
        replace H := Option.bind_eq_some_iff.mp H
        obtain ⟨t123, A350, H⟩ := H
        replace H : (if t123 = true then (laws_FnExactWaysTo.j1 kj8 l0 a1 t105 t106 t112 (t115 != t106)) else (laws_FnExactWaysTo.j1 kj8 l0 a1 t105 t106 t112 true)) = some r := H
        have A35 := Aside0.mk A350
        clear A350
        by_cases c36 : t123 = true
        ·subst c36
         have H1 : (laws_FnExactWaysTo.j1 kj8 l0 a1 t105 t106 t112 (t115 != t106)) = some r := by rw [if_pos rfl] at H; exact H
         clear H
         have H := H1
         clear H1
         have H' := Aside0.mk H
         clear H
         obtain ⟨Ao37, co37, eo37⟩ := Kd.R_slice HO_9.out
         subst eo37
         obtain ⟨Ao38, co38, eo38⟩ := Kd.R_slice HO_6.out
         subst eo38
         go_wp2_with (first | (go_at_call 19; (with_reducible refine (laws_eqBlockS.calls kj8 _ _ t112 _ _ t105 true _ ?side1 ?side2 ?side3 ?side4 A35.out).mono ?_); (case side1 => exact KC (Kd.R_reads' HO_9.out).2.2); (case side2 => exact (Kd.R_reads' HO_9.out).2.1); (case side3 => exact KC (Kd.R_reads' HO_6.out).2.2); (case side4 => exact (Kd.R_reads' HO_6.out).2.1); rintro e w39 ⟨rfl, hb⟩; replace HO_6 := am (Kd.R_below (KR HO_6) hb); replace HO_8 := am (Kd.R_below (KR HO_8) hb); replace HO_9 := am (Kd.R_below (KR HO_9) hb); replace HO119 := am (Kd.R_below (KR HO119) hb); replace HB := am (below_step (KL HB) hb); (try clear hb)))
         go_meet
         case rel => exact ⟨_, ((t115 != t106)), (by first | rfl | (simp; done) | (simp [*]; done)), H', ⟨by have := HJ8.out; first | omega | exact Nat.le_refl _⟩, ⟨KR HO_6⟩, ⟨KR HO_9⟩, ⟨KL HB⟩⟩
        ·replace c36 := Bool.eq_false_iff.mpr c36
         subst c36
         have H1 : (laws_FnExactWaysTo.j1 kj8 l0 a1 t105 t106 t112 true) = some r := by rw [if_neg (show ¬ (false = true) by decide)] at H; exact H
         clear H
         have H := H1
         clear H1
         have H' := Aside0.mk H
         clear H
         obtain ⟨Ao40, co40, eo40⟩ := Kd.R_slice HO_9.out
         subst eo40
         obtain ⟨Ao41, co41, eo41⟩ := Kd.R_slice HO_6.out
         subst eo41
         go_wp2_with (first | (go_at_call 19; (with_reducible refine (laws_eqBlockS.calls kj8 _ _ t112 _ _ t105 false _ ?side1 ?side2 ?side3 ?side4 A35.out).mono ?_); (case side1 => exact KC (Kd.R_reads' HO_9.out).2.2); (case side2 => exact (Kd.R_reads' HO_9.out).2.1); (case side3 => exact KC (Kd.R_reads' HO_6.out).2.2); (case side4 => exact (Kd.R_reads' HO_6.out).2.1); rintro e w42 ⟨rfl, hb⟩; replace HO_6 := am (Kd.R_below (KR HO_6) hb); replace HO_8 := am (Kd.R_below (KR HO_8) hb); replace HO_9 := am (Kd.R_below (KR HO_9) hb); replace HO119 := am (Kd.R_below (KR HO119) hb); replace HB := am (below_step (KL HB) hb); (try clear hb)))
         go_meet
         case rel => exact ⟨_, (true), (by first | rfl | (simp; done) | (simp [*]; done)), H', ⟨by have := HJ8.out; first | omega | exact Nat.le_refl _⟩, ⟨KR HO_6⟩, ⟨KR HO_9⟩, ⟨KL HB⟩⟩
      case rest =>
       clear HC29
       try clear c1
       try clear c2
       try clear p2
       try clear c3
       try clear c4
       try clear c4b0
       try clear c8
       try clear c17
       try clear c19
       try clear c24
       try clear c27
       try clear c34
       try clear c34b0
       try clear c35
       try clear c36
       try clear c37
       try clear c38
       try clear c39
       try clear p2
       obtain ⟨kq, x65_28, rfl, HA, HJ28, HO_6, HO_9, HB⟩ := hcut
       cases kq with
       | zero => exact absurd HA.out (by simp [laws_FnExactWaysTo.j1])
       | succ kj28 =>
        have H := HA.out
        clear HA
        simp only [laws_FnExactWaysTo.j1] at H
        by_cases c43 : x65_28 = true
        ·subst c43
         have H1 : (some false) = some r := by rw [if_pos rfl] at H; exact H
         clear H
         have H := H1
         clear H1
         exact absurd ((Option.some.inj H).trans HR_.out) (by decide)
        ·replace c43 := Bool.eq_false_iff.mpr c43
         subst c43
         have H1 : ((laws_markBlockS.f kj28 t112 1).bind fun bt124 => ((laws_heldBlockS.f kj28 bt124.2 1).bind fun t126 => (if t126 < 0 then (some false) else (if t126 = bt124.1 then ((laws_toWayS.f kj28 l0).bind fun t127 => ((impl_WaysTo.f kj28 t127 a1).bind fun bt130 => ((laws_eqBlockS.f kj28 bt130.1 t105).bind fun t134 => (if t134 = true then (laws_FnExactWaysTo.j2 kj28 bt124.2 bt124.1 (bt130.2 != t106)) else (laws_FnExactWaysTo.j2 kj28 bt124.2 bt124.1 true))))) else (some false))))) = some r := by rw [if_neg (show ¬ (false = true) by decide)] at H; exact H
         clear H
         have H := H1
         clear H1
         replace H := Option.bind_eq_some_iff.mp H
         obtain ⟨⟨t124, t125⟩, A440, H⟩ := H
         replace H : ((laws_heldBlockS.f kj28 t125 1).bind fun t126 => (if t126 < 0 then (some false) else (if t126 = t124 then ((laws_toWayS.f kj28 l0).bind fun t127 => ((impl_WaysTo.f kj28 t127 a1).bind fun bt130 => ((laws_eqBlockS.f kj28 bt130.1 t105).bind fun t134 => (if t134 = true then (laws_FnExactWaysTo.j2 kj28 t125 t124 (bt130.2 != t106)) else (laws_FnExactWaysTo.j2 kj28 t125 t124 true))))) else (some false)))) = some r := H
         have A44 := Aside0.mk A440
         clear A440
         replace H := Option.bind_eq_some_iff.mp H
         obtain ⟨t126, A450, H⟩ := H
         replace H : (if t126 < 0 then (some false) else (if t126 = t124 then ((laws_toWayS.f kj28 l0).bind fun t127 => ((impl_WaysTo.f kj28 t127 a1).bind fun bt130 => ((laws_eqBlockS.f kj28 bt130.1 t105).bind fun t134 => (if t134 = true then (laws_FnExactWaysTo.j2 kj28 t125 t124 (bt130.2 != t106)) else (laws_FnExactWaysTo.j2 kj28 t125 t124 true))))) else (some false))) = some r := H
         have A45 := Aside0.mk A450
         clear A450
         by_cases c46 : t126 < 0
         ·rw [if_pos c46] at H
          have c46b0 : decide (t126 < 0) = true := decide_eq_true c46
          clear c46
          exact absurd ((Option.some.inj H).trans HR_.out) (by decide)
         ·rw [if_neg c46] at H
          have c46b0 : decide (t126 < 0) = false := decide_eq_false c46
          clear c46
          by_cases c47 : t126 = t124
          ·rw [if_pos c47] at H
           have c47b0 : (t126 == t124) = true := beq_iff_eq.mpr c47
           have c47b1 : (t126 != t124) = false := bne_eq_false_iff_eq.mpr c47
           clear c47
           replace H := Option.bind_eq_some_iff.mp H
           obtain ⟨t127, A480, H⟩ := H
           replace H : ((impl_WaysTo.f kj28 t127 a1).bind fun bt130 => ((laws_eqBlockS.f kj28 bt130.1 t105).bind fun t134 => (if t134 = true then (laws_FnExactWaysTo.j2 kj28 t125 t124 (bt130.2 != t106)) else (laws_FnExactWaysTo.j2 kj28 t125 t124 true)))) = some r := H
           have A48 := Aside0.mk A480
           clear A480
           replace H := Option.bind_eq_some_iff.mp H
           obtain ⟨⟨t130, t133⟩, A490, H⟩ := H
           replace H : ((laws_eqBlockS.f kj28 t130 t105).bind fun t134 => (if t134 = true then (laws_FnExactWaysTo.j2 kj28 t125 t124 (t133 != t106)) else (laws_FnExactWaysTo.j2 kj28 t125 t124 true))) = some r := H
           have A49 := Aside0.mk A490
           clear A490
           have HC50 := Aside0.mk H
           clear H
           obtain ⟨Ao51, co51, eo51⟩ := Kd.R_slice HO_9.out
           subst eo51
           go_upto_region 25 with (first | ((with_reducible refine gate_callee (f := 40) rfl ?_); refine goesL_ (some 68) rfl rfl Try.func40 (by kernel_rfl) rfl #[.slice Ao51 t112.length co51, .int .i64 1] rfl MT ?_; (with_reducible refine (laws_markBlockS.calls kj28 (fun k_ => some k_ = (.slice Ao51 t112.length co51 : Value).ownBlock) (.slice Ao51 t112.length co51) t112 1 t124 t125 w _ ?side1 ?side2 A44.out).mono ?_); (case side1 => exact KL HB); (case side2 => exact Kd.R_tight rfl HO_9.out); rintro e w52 ⟨rfl, hy0, hb, hkp⟩; refine ⟨_, rfl, ?_⟩; replace HO_6 := am (Kd.R_mono (ok' := fun k_ => some k_ ≠ (.slice Ao51 t112.length co51 : Value).ownBlock) (Kd.R_keptB (HO_6.out) hkp (fun k_ hk_ hs_ => (hk_) hs_)) (fun k_ hk_ => hk_.1)); replace HO_9 := am (Kd.R_reok rfl hy0 (fun k_ e_ => HO_9.out.1 k_ e_)); replace HB := am (hb); (try clear hb); (try clear hkp); (try clear hy0)) | ((with_reducible refine gate_callee (f := 41) rfl ?_); refine goesL_ (some 71) rfl rfl Try.func41 (by kernel_rfl) rfl #[.slice Ao51 t125.length co51, .int .i64 1] rfl (by (try simp only [List.map_toArray, List.map_cons, List.map_nil]); first | done | (rw [show t125.length = t112.length from (Kd.R_reads' HO_9.out).1.symm] <;> rfl) | rfl | (simp only [List.length_drop, List.length_take]; rfl)) ?_; (with_reducible refine (laws_heldBlockS.calls kj28 _ _ t125 1 t126 _ ?side1 ?side2 A45.out).mono ?_); (case side1 => exact KC (Kd.R_reads' HO_9.out).2.2); (case side2 => rw [show t125.length = t112.length from (Kd.R_reads' HO_9.out).1.symm]; exact (Kd.R_reads' HO_9.out).2.1); rintro e w' ⟨rfl, ⟨nd, rfl⟩⟩; refine ⟨_, rfl, ?_⟩) | ((with_reducible refine gate_callee (f := 36) rfl ?_); refine goesL_ (some 79) rfl rfl Try.func36 (by kernel_rfl) rfl #[.slice A0 l0.length c0] rfl MT ?_; (with_reducible refine (laws_toWayS.calls kj28 _ _ l0 t127 _ ?side1 ?side2 A48.out).mono ?_); (case side1 => repeat (first | exact (Kd.C_below HR0.out (KL HB)) | (with_reducible refine Kd.C_alloc ?_ _) | (with_reducible refine Kd.C_drewN ?_ _) | (with_reducible refine Kd.C_drew ?_))); (case side2 => exact HC0.out); rintro e w53 ⟨v128, rfl, ho0, hb⟩; refine ⟨_, rfl, ?_⟩; replace HO_6 := am (Kd.R_below (KR HO_6) hb); replace HO_9 := am (Kd.R_below (KR HO_9) hb); have HO129 := am (Kd.R_lower ho0 (below_size (KL HB))); replace HB := am (below_step (KL HB) hb); (try clear hb); (try clear ho0); obtain ⟨Ao54, co54, eo54⟩ := Kd.R_slice HO129.out; subst eo54) | ((with_reducible refine gate_callee (f := 37) rfl ?_); refine goesL_ (some 81) rfl rfl Try.func37 (by kernel_rfl) rfl #[.slice Ao54 t127.length co54, .int .i64 a1] rfl MT ?_; (with_reducible refine (impl_WaysTo.calls kj28 (fun k_ => some k_ = (.slice Ao54 t127.length co54 : Value).ownBlock) _ _ t127 a1 t130 t133 _ ?side1 A49.out).mono ?_); (case side1 => exact Kd.R_V (Kd.R_tight rfl (Kd.R_apart' (Kd.R_apart' (HO129.out) (Kd.R_typed HO_6.out) (by decide)) (Kd.R_typed HO_9.out) (by decide)))); rintro e w55 ⟨v131, rfl, ho0, hb⟩; refine ⟨_, rfl, ?_⟩; replace HO129 := am (Kd.R_below (KR HO129) hb); have HO132 := am (Kd.R_lower (Kd.R_new' (Kd.R_new' (Kd.R_mono (ok' := fun k_ => True) ho0 (fun _ hk_ => trivial)) (Kd.R_lt (KR HO_6))) (Kd.R_lt (KR HO_9))) (below_size (KL HB))); replace HO_6 := am (Kd.R_elder' (KR HO_6) (Kd.R_base ho0) hb); replace HO_9 := am (Kd.R_elder' (KR HO_9) (Kd.R_base ho0) hb); replace HB := am (below_step (KL HB) hb); (try clear hb); (try clear ho0)))
           (try simp only [Act.put, List.setIfInBounds_toArray, List.set_cons_zero, List.set_cons_succ])
           go_cut [92] (fun v92 wc => ∃ (kq : Nat) (x92_49 : Bool), v92 = .bool x92_49 ∧ Aside0 (laws_FnExactWaysTo.j2 kq t125 t124 x92_49 = some r) ∧ Aside0 (kq ≤ kj28) ∧ Aside0 (Kd.R k40 40 wc w.heap.size (fun _ => True) (.slice Ao51 t112.length co51) t125) ∧ Aside0 (Below w.heap.size w wc))
           case first =>
            have H := HC50.out
            clear HC50
            replace H := Option.bind_eq_some_iff.mp H
            obtain ⟨t134, A560, H⟩ := H
            replace H : (if t134 = true then (laws_FnExactWaysTo.j2 kj28 t125 t124 (t133 != t106)) else (laws_FnExactWaysTo.j2 kj28 t125 t124 true)) = some r := H
            have A56 := Aside0.mk A560
            clear A560
            by_cases c57 : t134 = true
            ·subst c57
             have H1 : (laws_FnExactWaysTo.j2 kj28 t125 t124 (t133 != t106)) = some r := by rw [if_pos rfl] at H; exact H
             clear H
             have H := H1
             clear H1
             have H' := Aside0.mk H
             clear H
             obtain ⟨Ao58, co58, eo58⟩ := Kd.R_slice HO132.out
             subst eo58
             obtain ⟨Ao59, co59, eo59⟩ := Kd.R_slice HO_6.out
             subst eo59
             go_wp2_with (first | ((with_reducible refine gate_callee (f := 19) rfl ?_); refine goesL_ (some 86) rfl rfl Try.func19 (by kernel_rfl) rfl #[.slice Ao58 t130.length co58, .slice Ao59 t105.length co59] rfl MT ?_; (with_reducible refine (laws_eqBlockS.calls kj28 _ _ t130 _ _ t105 true _ ?side1 ?side2 ?side3 ?side4 A56.out).mono ?_); (case side1 => exact KC (Kd.R_reads' HO132.out).2.2); (case side2 => exact (Kd.R_reads' HO132.out).2.1); (case side3 => exact KC (Kd.R_reads' HO_6.out).2.2); (case side4 => exact (Kd.R_reads' HO_6.out).2.1); rintro e w60 ⟨rfl, hb⟩; refine ⟨_, rfl, ?_⟩; replace HO_6 := am (Kd.R_below (KR HO_6) hb); replace HO_9 := am (Kd.R_below (KR HO_9) hb); replace HO129 := am (Kd.R_below (KR HO129) hb); replace HO132 := am (Kd.R_below (KR HO132) hb); replace HB := am (below_step (KL HB) hb); (try clear hb)))
             go_meet
             case rel => exact ⟨_, ((t133 != t106)), (by first | rfl | (simp; done) | (simp [*]; done)), H', ⟨by have := HJ8.out; have := HJ28.out; first | omega | exact Nat.le_refl _⟩, ⟨by (with_reducible repeat (first | apply Kd.R_alloc | apply Kd.R_drewN | apply Kd.R_drew)); exact Kd.R_mono HO_9.out (fun _ hk => trivial)⟩, ⟨KL HB⟩⟩
            ·replace c57 := Bool.eq_false_iff.mpr c57
             subst c57
             have H1 : (laws_FnExactWaysTo.j2 kj28 t125 t124 true) = some r := by rw [if_neg (show ¬ (false = true) by decide)] at H; exact H
             clear H
             have H := H1
             clear H1
             have H' := Aside0.mk H
             clear H
             obtain ⟨Ao61, co61, eo61⟩ := Kd.R_slice HO132.out
             subst eo61
             obtain ⟨Ao62, co62, eo62⟩ := Kd.R_slice HO_6.out
             subst eo62
             go_wp2_with (first | ((with_reducible refine gate_callee (f := 19) rfl ?_); refine goesL_ (some 86) rfl rfl Try.func19 (by kernel_rfl) rfl #[.slice Ao61 t130.length co61, .slice Ao62 t105.length co62] rfl MT ?_; (with_reducible refine (laws_eqBlockS.calls kj28 _ _ t130 _ _ t105 false _ ?side1 ?side2 ?side3 ?side4 A56.out).mono ?_); (case side1 => exact KC (Kd.R_reads' HO132.out).2.2); (case side2 => exact (Kd.R_reads' HO132.out).2.1); (case side3 => exact KC (Kd.R_reads' HO_6.out).2.2); (case side4 => exact (Kd.R_reads' HO_6.out).2.1); rintro e w63 ⟨rfl, hb⟩; refine ⟨_, rfl, ?_⟩; replace HO_6 := am (Kd.R_below (KR HO_6) hb); replace HO_9 := am (Kd.R_below (KR HO_9) hb); replace HO129 := am (Kd.R_below (KR HO129) hb); replace HO132 := am (Kd.R_below (KR HO132) hb); replace HB := am (below_step (KL HB) hb); (try clear hb)))
             go_meet
             case rel => exact ⟨_, (true), (by first | rfl | (simp; done) | (simp [*]; done)), H', ⟨by have := HJ8.out; have := HJ28.out; first | omega | exact Nat.le_refl _⟩, ⟨by (with_reducible repeat (first | apply Kd.R_alloc | apply Kd.R_drewN | apply Kd.R_drew)); exact Kd.R_mono HO_9.out (fun _ hk => trivial)⟩, ⟨KL HB⟩⟩
           case rest =>
            clear HC50
            try clear c1
            try clear c2
            try clear p2
            try clear c3
            try clear c4
            try clear c4b0
            try clear c5
            try clear c8
            try clear c17
            try clear c19
            try clear c24
            try clear c27
            try clear c34
            try clear c34b0
            try clear c35
            try clear c36
            try clear c37
            try clear c38
            try clear c39
            try clear c40
            try clear c41
            try clear c43
            try clear c46
            try clear c46b0
            try clear c47
            try clear c47b0
            try clear c47b1
            try clear c57
            try clear p2
            obtain ⟨kq, x92_49, rfl, HA, HJ49, HO_9, HB⟩ := hcut
            have hl9_49 := (Kd.R_reads' HO_9.out).1
            rw [hl9_49] at HO_9
            (try simp only [hl9_49])
            cases kq with
            | zero => exact absurd HA.out (by simp [laws_FnExactWaysTo.j2])
            | succ kj49 =>
             have H := HA.out
             clear HA
             simp only [laws_FnExactWaysTo.j2] at H
             by_cases c64 : x92_49 = true
             ·subst c64
              have H1 : (some false) = some r := by rw [if_pos rfl] at H; exact H
              clear H
              have H := H1
              clear H1
              exact absurd ((Option.some.inj H).trans HR_.out) (by decide)
             ·replace c64 := Bool.eq_false_iff.mpr c64
              subst c64
              have H1 : ((laws_heldBlockS.f kj49 t125 1).bind fun t135 => (if t135 < 0 then (some false) else (if t135 = t124 then (some true) else (some false)))) = some r := by rw [if_neg (show ¬ (false = true) by decide)] at H; exact H
              clear H
              have H := H1
              clear H1
              replace H := Option.bind_eq_some_iff.mp H
              obtain ⟨t135, A650, H⟩ := H
              replace H : (if t135 < 0 then (some false) else (if t135 = t124 then (some true) else (some false))) = some r := H
              have A65 := Aside0.mk A650
              clear A650
              by_cases c66 : t135 < 0
              ·rw [if_pos c66] at H
               have c66b0 : decide (t135 < 0) = true := decide_eq_true c66
               clear c66
               exact absurd ((Option.some.inj H).trans HR_.out) (by decide)
              ·rw [if_neg c66] at H
               have c66b0 : decide (t135 < 0) = false := decide_eq_false c66
               clear c66
               by_cases c67 : t135 = t124
               ·rw [if_pos c67] at H
                have c67b0 : (t135 == t124) = true := beq_iff_eq.mpr c67
                have c67b1 : (t135 != t124) = false := bne_eq_false_iff_eq.mpr c67
                clear c67
                obtain rfl := Option.some.inj H
                go_wp2_with (first | ((with_reducible refine gate_callee (f := 41) rfl ?_); refine goesL_ (some 95) rfl rfl Try.func41 (by kernel_rfl) rfl #[.slice Ao51 t125.length co51, .int .i64 1] rfl MT ?_; (with_reducible refine (laws_heldBlockS.calls kj49 _ _ t125 1 t135 _ ?side1 ?side2 A65.out).mono ?_); (case side1 => exact KC (Kd.R_reads' HO_9.out).2.2); (case side2 => exact (Kd.R_reads' HO_9.out).2.1); rintro e w' ⟨rfl, ⟨nd, rfl⟩⟩; refine ⟨_, rfl, ?_⟩))
                go_ret
                exact ⟨ER, KL HB⟩
               ·rw [if_neg c67] at H
                have c67b0 : (t135 == t124) = false := beq_eq_false_iff_ne.mpr c67
                have c67b1 : (t135 != t124) = true := bne_iff_ne.mpr c67
                exact absurd ((Option.some.inj H).trans HR_.out) (by decide)
          ·rw [if_neg c47] at H
           have c47b0 : (t126 == t124) = false := beq_eq_false_iff_ne.mpr c47
           have c47b1 : (t126 != t124) = true := bne_iff_ne.mpr c47
           exact absurd ((Option.some.inj H).trans HR_.out) (by decide)
     ·replace c27 := Bool.eq_false_iff.mpr c27
      subst c27
      have H1 : (some false) = some r := by rw [if_neg (show ¬ (false = true) by decide)] at H; exact H
      clear H
      have H := H1
      clear H1
      exact absurd ((Option.some.inj H).trans HR_.out) (by decide)
def laws_FnExactWaysTo.Pure : Prop := ∀ (l0 : List (S98)) (a1 : Int), ((l0.length ≤ maxLen ∧ ∀ x_ ∈ l0, wfT98 x_)) → ((Lit.int .i64 a1).wf = true) → ∃ k, laws_FnExactWaysTo.f k l0 a1 = some true
theorem laws_FnExactWaysTo.walk (P : laws_FnExactWaysTo.Pure) (A0 : Option Addr) (c0 : Nat) (l0 : List (S98)) (a1 : Int) (w : World) (hr0 : Kd.C k98 w A0 l0.length l0) (hc0 : l0.length ≤ c0) (q0_ : (l0.length ≤ maxLen ∧ ∀ x_ ∈ l0, wfT98 x_)) (q1_ : (Lit.int .i64 a1).wf = true) :
  Calls Try.prog 8 #[.slice A0 l0.length c0, .int .i64 a1] w fun e w' => e = .returned (.bool true) ∧ Below w.heap.size w w' := by
 obtain ⟨k, h⟩ := P l0 a1 q0_ q1_
 refine (laws_FnExactWaysTo.calls k A0 c0 l0 a1 true w hr0 hc0 rfl h).mono ?_
 rintro e w' ⟨rfl, hd⟩
 exact ⟨rfl, hd⟩
end Go.Proofs.Ytmanlcakdcoekaa.PAll
end
