/- Contracts of the functions that the statement reaches, printed by a program out of the translation and joined with the plain laws. -/
import Derived.Test.YtkgbgaojglcaoaaCFnWaysLess3
import Derived.Test.YtkgbgaojglcaoaaCFnWaysLess4
import Derived.Test.YtkgbgaojglcaoaaCFnWaysLess5
import Derived.Test.YtkgbgaojglcaoaaCFnWaysLess7
import Derived.Test.YtkgbgaojglcaoaaCFnWaysLess8
import Derived.Test.YtkgbgaojglcaoaaCFnWaysLess9
section
namespace Go.Proofs.Ytkgbgaojglcaoaa.PAll
open Go.RowKit Go.Proofs.YtkgbgaojglcaoaaW.PrintWords Go.Proofs.YtkgbgaojglcaoaaW.PrintLast Go.Proofs.YtkgbgaojglcaoaaW.PrintMore
attribute [local go_sem] max2_int min2_int max_two min_two max_three min_three max_four min_four   -- for this text's walks alone
set_option linter.unusedVariables false
set_option linter.unusedSimpArgs false
mutual
def laws_FnWaysLess.j0 : Nat → List (S45) → List (S45) → Bool → Option (Bool)
 | 0, _, _, _ => none
 | k + 1, x3, x4, x30 => if x30 = true then ((spec_WaysLess.f k x3).bind fun t112 => ((laws_ovWays.f k x4 t112).bind fun t115 => (some t115))) else ((impl_WaysDiffer.f k x3 x4).bind fun bt116 => (laws_FnWaysLess.l0 k x3 x4 bt116.2 0))
def laws_FnWaysLess.l0 : Nat → List (S45) → List (S45) → Bool → Int → Option (Bool)
 | 0, _, _, _, _ => none
 | k + 1, x3, x4, x6, x7 => if x7 < (x4.length : Int) then (if 0 ≤ x7 then ((impl_WaysGone.f k x4 ((rd_T45 x4 x7).f0.f0) ((rd_T45 x4 x7).f0.f1)).bind fun bt124 => ((impl_WaysDiffer.f k x4 bt124.1).bind fun bt128 => (laws_FnWaysLess.l1 k x3 x4 x6 x7 bt128.2 false 0))) else (none)) else ((impl_WaysOk.f k x4).bind fun t118 => (if t118 = true then (if x6 = true then (some false) else (if (x4.length : Int) ≤ (x3.length : Int) then ((impl_WaysLess.f k x4).bind fun t119 => ((laws_ovWays.f k t119 x4).bind fun t122 => (some t122))) else (some false))) else (some false)))
def laws_FnWaysLess.l1 : Nat → List (S45) → List (S45) → Bool → Int → Bool → Bool → Int → Option (Bool)
 | 0, _, _, _, _, _, _, _ => none
 | k + 1, x3, x4, x6, x7, x11, x12, x13 => if x13 < (x4.length : Int) then (if x12 = true then (laws_FnWaysLess.l1 k x3 x4 x6 x7 x11 true (wrap64 (x13 + 1))) else (if x13 = x7 then (laws_FnWaysLess.l1 k x3 x4 x6 x7 x11 false (wrap64 (x13 + 1))) else (if 0 ≤ x7 then (if x7 < (x4.length : Int) then (if 0 ≤ x13 then ((impl_BlockIn.f ((rd_T45 x4 x7).f0.f0) ((rd_T45 x4 x7).f0.f1) ((rd_T45 x4 x13).f0.f0) ((rd_T45 x4 x13).f0.f1)).bind fun t132 => (laws_FnWaysLess.l1 k x3 x4 x6 x7 x11 t132 (wrap64 (x13 + 1)))) else (none)) else (none)) else (none)))) else (if x11 = true then (laws_FnWaysLess.l0 k x3 x4 x6 (wrap64 (x7 + 1))) else (if x12 = true then (laws_FnWaysLess.l0 k x3 x4 x6 (wrap64 (x7 + 1))) else (some false)))
end
def laws_FnWaysLess.f (k : Nat) (l0 : List Int) : Option (Bool) := if (l0.length : Int) > 1048576 then (some true) else ((spec_DrawWaysLess.f k l0).bind fun t101 => ((impl_WaysLess.f k t101).bind fun t104 => ((spec_WaysLess.f k t101).bind fun t107 => ((laws_ovWays.f k t104 t107).bind fun t110 => (if t110 = true then ((spec_WaysOk.f k t101).bind fun t111 => (laws_FnWaysLess.j0 k t101 t104 (!t111))) else (laws_FnWaysLess.j0 k t101 t104 true))))))
def laws_FnWaysLess.T17 : Bool × List (List Nat × List Nat) := (true, [([], []), ([0], [0]), ([1], [1]), ([1], [1]), ([2, 3, 1], [1, 2, 3]), ([4, 1, 1], [1, 4]), ([5], [5]), ([5], [5]), ([6, 7, 5], [5, 6, 7]), ([8, 5], [5, 8]), ([9, 5], [5, 9]), ([5], [5]), ([5], [5]), ([11, 12, 5], [5, 11, 12]), ([13, 5], [5, 13]), ([14, 5], [5, 14]), ([10, 15, 5, 5], [5, 10, 15]), ([5, 16, 1], [1, 5, 16]), ([1, 17], [1, 17]), ([18, 16, 0, 1, 2, 3, 4, 5, 6, 7, 8, 9, 10, 11, 12, 13, 14, 15, 16, 17, 18], [0, 18])])
def laws_FnWaysLess.B17 : List Nat := [0, 1, 3, 3, 15, 31, 63, 63, 255, 511, 1023, 63, 63, 6207, 14399, 30783, 65535, 131071, 262143, 524287]
theorem laws_FnWaysLess.tab17 : rtab .any (opsOf Try.f5 17) = laws_FnWaysLess.T17 := by kernel_rfl
theorem laws_FnWaysLess.bits17 : waitsOk laws_FnWaysLess.T17.2 laws_FnWaysLess.B17 = true := by kernel_rfl
set_option maxHeartbeats 8000000 in
set_option maxRecDepth 100000 in
theorem laws_FnWaysLess.calls (k : Nat) (A0 : Option Addr) (c0 : Nat) (l0 : List Int) (r : Bool) (w : World) (hr0 : Kd.C (Kd.int .u8) w A0 l0.length l0) (hc0 : l0.length ≤ c0) (hr0_ : r = true) (h : laws_FnWaysLess.f k l0 = some r) :
  Calls Try.prog 5 #[.slice A0 l0.length c0] w fun e w' => e = .returned (.bool r) ∧ Below w.heap.size w w' := by
 have hu43 := Try.underlying43
 have HR0 := Aside0.mk hr0
 have HC0 := Aside0.mk hc0
 clear hr0 hc0
 have HB := am (Below.refl w.heap.size w)
 have H : (if (l0.length : Int) > 1048576 then (some true) else ((spec_DrawWaysLess.f k l0).bind fun t101 => ((impl_WaysLess.f k t101).bind fun t104 => ((spec_WaysLess.f k t101).bind fun t107 => ((laws_ovWays.f k t104 t107).bind fun t110 => (if t110 = true then ((spec_WaysOk.f k t101).bind fun t111 => (laws_FnWaysLess.j0 k t101 t104 (!t111))) else (laws_FnWaysLess.j0 k t101 t104 true))))))) = some r := h
 clear h
 have HR_ := Aside0.mk hr0_
 clear hr0_
 by_cases c2 : (l0.length : Int) > 1048576
 ·rw [if_pos c2] at H
  have c2b0 : decide (1048576 < (l0.length : Int)) = true := decide_eq_true c2
  have c2b1 : decide (1048576 < l0.length) = true := decide_eq_true (by omega)
  clear c2
  obtain rfl := Option.some.inj H
  go_enter Try.func5, Try.ntmps5
  go_wp2
  go_ret
  exact ⟨ER, KL HB⟩
 ·rw [if_neg c2] at H
  have c2b0 : decide (1048576 < (l0.length : Int)) = false := decide_eq_false c2
  have c2b1 : decide (1048576 < l0.length) = false := decide_eq_false (by omega)
  clear c2
  replace H := Option.bind_eq_some_iff.mp H
  obtain ⟨t101, A30, H⟩ := H
  replace H : ((impl_WaysLess.f k t101).bind fun t104 => ((spec_WaysLess.f k t101).bind fun t107 => ((laws_ovWays.f k t104 t107).bind fun t110 => (if t110 = true then ((spec_WaysOk.f k t101).bind fun t111 => (laws_FnWaysLess.j0 k t101 t104 (!t111))) else (laws_FnWaysLess.j0 k t101 t104 true))))) = some r := H
  have A3 := Aside0.mk A30
  clear A30
  replace H := Option.bind_eq_some_iff.mp H
  obtain ⟨t104, A40, H⟩ := H
  replace H : ((spec_WaysLess.f k t101).bind fun t107 => ((laws_ovWays.f k t104 t107).bind fun t110 => (if t110 = true then ((spec_WaysOk.f k t101).bind fun t111 => (laws_FnWaysLess.j0 k t101 t104 (!t111))) else (laws_FnWaysLess.j0 k t101 t104 true)))) = some r := H
  have A4 := Aside0.mk A40
  clear A40
  have HC5 := Aside0.mk H
  clear H
  go_enter Try.func5, Try.ntmps5
  go_upto_region 5 with (first | ((with_reducible refine gate_callee (f := 23) rfl ?_); refine goesL_ (some 18) rfl rfl Try.func23 (by kernel_rfl) rfl #[.slice A0 l0.length c0] rfl MT ?_; (with_reducible refine (spec_DrawWaysLess.calls k _ _ l0 t101 _ ?side1 ?side2 A3.out).mono ?_); (case side1 => exact KC HR0.out); (case side2 => exact HC0.out); rintro e w6 ⟨v102, rfl, ho0, hb⟩; refine ⟨_, rfl, ?_⟩; have HO103 := am (Kd.R_lower ho0 (below_size (KL HB))); replace HB := am (below_step (KL HB) hb); (try clear hb); (try clear ho0); obtain ⟨Ao7, co7, eo7⟩ := Kd.R_slice HO103.out; subst eo7) | ((with_reducible refine gate_callee (f := 24) rfl ?_); refine goesL_ (some 20) rfl rfl Try.func24 (by kernel_rfl) rfl #[.slice Ao7 t101.length co7] rfl MT ?_; (with_reducible refine (impl_WaysLess.calls k _ _ t101 t104 _ ?side1 ?side2 A4.out).mono ?_); (case side1 => exact KC (Kd.R_reads' HO103.out).2.2); (case side2 => exact (Kd.R_reads' HO103.out).2.1); rintro e w8 ⟨v105, rfl, ho0, hb⟩; refine ⟨_, rfl, ?_⟩; have HO106 := am (Kd.R_lower (Kd.R_new' ho0 (Kd.R_lt (KR HO103))) (below_size (KL HB))); replace HO103 := am (Kd.R_elder' (KR HO103) (Kd.R_base ho0) hb); replace HB := am (below_step (KL HB) hb); (try clear hb); (try clear ho0)))
  (try simp only [Act.put, List.setIfInBounds_toArray, List.set_cons_zero, List.set_cons_succ])
  go_cut [30] (fun v30 wc => ∃ (kq : Nat) (x30_4 : Bool), v30 = .bool x30_4 ∧ Aside0 (laws_FnWaysLess.j0 kq t101 t104 x30_4 = some r) ∧ Aside0 (kq ≤ k) ∧ Aside0 (Kd.R k45 45 wc w.heap.size (fun k_ => some k_ ≠ (v105 : Value).ownBlock) (.slice Ao7 t101.length co7) t101) ∧ Aside0 (Kd.R k45 45 wc w.heap.size (fun k_ => some k_ ≠ ((.slice Ao7 t101.length co7) : Value).ownBlock) v105 t104) ∧ Aside0 (Below w.heap.size w wc))
  case first =>
   have H := HC5.out
   clear HC5
   replace H := Option.bind_eq_some_iff.mp H
   obtain ⟨t107, A90, H⟩ := H
   replace H : ((laws_ovWays.f k t104 t107).bind fun t110 => (if t110 = true then ((spec_WaysOk.f k t101).bind fun t111 => (laws_FnWaysLess.j0 k t101 t104 (!t111))) else (laws_FnWaysLess.j0 k t101 t104 true))) = some r := H
   have A9 := Aside0.mk A90
   clear A90
   replace H := Option.bind_eq_some_iff.mp H
   obtain ⟨t110, A100, H⟩ := H
   replace H : (if t110 = true then ((spec_WaysOk.f k t101).bind fun t111 => (laws_FnWaysLess.j0 k t101 t104 (!t111))) else (laws_FnWaysLess.j0 k t101 t104 true)) = some r := H
   have A10 := Aside0.mk A100
   clear A100
   by_cases c11 : t110 = true
   ·subst c11
    have H1 : ((spec_WaysOk.f k t101).bind fun t111 => (laws_FnWaysLess.j0 k t101 t104 (!t111))) = some r := by rw [if_pos rfl] at H; exact H
    clear H
    have H := H1
    clear H1
    replace H := Option.bind_eq_some_iff.mp H
    obtain ⟨t111, A120, H⟩ := H
    replace H : (laws_FnWaysLess.j0 k t101 t104 (!t111)) = some r := H
    have A12 := Aside0.mk A120
    clear A120
    have H' := Aside0.mk H
    clear H
    go_wp2_with (first | ((with_reducible refine gate_callee (f := 26) rfl ?_); refine goesL_ (some 23) rfl rfl Try.func26 (by kernel_rfl) rfl #[.slice Ao7 t101.length co7] rfl MT ?_; (with_reducible refine (spec_WaysLess.calls k _ _ t101 t107 _ ?side1 ?side2 A9.out).mono ?_); (case side1 => exact KC (Kd.R_reads' HO103.out).2.2); (case side2 => exact (Kd.R_reads' HO103.out).2.1); rintro e w13 ⟨v108, rfl, ho0, hb⟩; refine ⟨_, rfl, ?_⟩; have HO109 := am (Kd.R_lower (Kd.R_new' (Kd.R_new' ho0 (Kd.R_lt (KR HO103))) (Kd.R_lt (KR HO106))) (below_size (KL HB))); replace HO103 := am (Kd.R_elder' (KR HO103) (Kd.R_base ho0) hb); replace HO106 := am (Kd.R_elder' (KR HO106) (Kd.R_base ho0) hb); replace HB := am (below_step (KL HB) hb); (try clear hb); (try clear ho0); obtain ⟨Ao14, co14, eo14⟩ := Kd.R_slice HO106.out; subst eo14; obtain ⟨Ao15, co15, eo15⟩ := Kd.R_slice HO109.out; subst eo15) | ((with_reducible refine gate_callee (f := 25) rfl ?_); refine goesL_ (some 24) rfl rfl Try.func25 (by kernel_rfl) rfl #[.slice Ao14 t104.length co14, .slice Ao15 t107.length co15] rfl MT ?_; (with_reducible refine (laws_ovWays.calls k _ _ t104 _ _ t107 true _ ?side1 ?side2 ?side3 ?side4 A10.out).mono ?_); (case side1 => exact KC (Kd.R_reads' HO106.out).2.2); (case side2 => exact (Kd.R_reads' HO106.out).2.1); (case side3 => exact KC (Kd.R_reads' HO109.out).2.2); (case side4 => exact (Kd.R_reads' HO109.out).2.1); rintro e w' ⟨rfl, ⟨nd, rfl⟩⟩; refine ⟨_, rfl, ?_⟩) | (go_at_call 20; (with_reducible refine (spec_WaysOk.calls k _ _ t101 t111 _ ?side1 ?side2 A12.out).mono ?_); (case side1 => exact KC (Kd.R_reads' HO103.out).2.2); (case side2 => exact (Kd.R_reads' HO103.out).2.1); rintro e w16 ⟨rfl, hb⟩; replace HO103 := am (Kd.R_below (KR HO103) hb); replace HO106 := am (Kd.R_below (KR HO106) hb); replace HO109 := am (Kd.R_below (KR HO109) hb); replace HB := am (below_step (KL HB) hb); (try clear hb)))
    go_meet
    case rel => exact ⟨_, (!t111), (by first | rfl | (simp; done) | (simp [*]; done)), H', ⟨by first | omega | exact Nat.le_refl _⟩, ⟨by (with_reducible repeat (first | apply Kd.R_alloc | apply Kd.R_drewN | apply Kd.R_drew)); exact Kd.R_mono HO103.out (fun _ hk => hk.1.2)⟩, ⟨by (with_reducible repeat (first | apply Kd.R_alloc | apply Kd.R_drewN | apply Kd.R_drew)); exact Kd.R_mono HO106.out (fun _ hk => hk.1.2)⟩, ⟨KL HB⟩⟩
   ·replace c11 := Bool.eq_false_iff.mpr c11
    subst c11
    have H1 : (laws_FnWaysLess.j0 k t101 t104 true) = some r := by rw [if_neg (show ¬ (false = true) by decide)] at H; exact H
    clear H
    have H := H1
    clear H1
    have H' := Aside0.mk H
    clear H
    go_wp2_with (first | ((with_reducible refine gate_callee (f := 26) rfl ?_); refine goesL_ (some 23) rfl rfl Try.func26 (by kernel_rfl) rfl #[.slice Ao7 t101.length co7] rfl MT ?_; (with_reducible refine (spec_WaysLess.calls k _ _ t101 t107 _ ?side1 ?side2 A9.out).mono ?_); (case side1 => exact KC (Kd.R_reads' HO103.out).2.2); (case side2 => exact (Kd.R_reads' HO103.out).2.1); rintro e w17 ⟨v108, rfl, ho0, hb⟩; refine ⟨_, rfl, ?_⟩; have HO109 := am (Kd.R_lower (Kd.R_new' (Kd.R_new' ho0 (Kd.R_lt (KR HO103))) (Kd.R_lt (KR HO106))) (below_size (KL HB))); replace HO103 := am (Kd.R_elder' (KR HO103) (Kd.R_base ho0) hb); replace HO106 := am (Kd.R_elder' (KR HO106) (Kd.R_base ho0) hb); replace HB := am (below_step (KL HB) hb); (try clear hb); (try clear ho0); obtain ⟨Ao18, co18, eo18⟩ := Kd.R_slice HO106.out; subst eo18; obtain ⟨Ao19, co19, eo19⟩ := Kd.R_slice HO109.out; subst eo19) | ((with_reducible refine gate_callee (f := 25) rfl ?_); refine goesL_ (some 24) rfl rfl Try.func25 (by kernel_rfl) rfl #[.slice Ao18 t104.length co18, .slice Ao19 t107.length co19] rfl MT ?_; (with_reducible refine (laws_ovWays.calls k _ _ t104 _ _ t107 false _ ?side1 ?side2 ?side3 ?side4 A10.out).mono ?_); (case side1 => exact KC (Kd.R_reads' HO106.out).2.2); (case side2 => exact (Kd.R_reads' HO106.out).2.1); (case side3 => exact KC (Kd.R_reads' HO109.out).2.2); (case side4 => exact (Kd.R_reads' HO109.out).2.1); rintro e w' ⟨rfl, ⟨nd, rfl⟩⟩; refine ⟨_, rfl, ?_⟩))
    go_meet
    case rel => exact ⟨_, (true), (by first | rfl | (simp; done) | (simp [*]; done)), H', ⟨by first | omega | exact Nat.le_refl _⟩, ⟨by (with_reducible repeat (first | apply Kd.R_alloc | apply Kd.R_drewN | apply Kd.R_drew)); exact Kd.R_mono HO103.out (fun _ hk => hk.1.2)⟩, ⟨by (with_reducible repeat (first | apply Kd.R_alloc | apply Kd.R_drewN | apply Kd.R_drew)); exact Kd.R_mono HO106.out (fun _ hk => hk.1.2)⟩, ⟨KL HB⟩⟩
  case rest =>
   clear HC5
   try clear c1
   try clear c2
   try clear c2b0
   try clear c2b1
   try clear p2
   try clear c5
   try clear c11
   obtain ⟨kq, x30_4, rfl, HA, HJ4, HO_3, HO_4, HB⟩ := hcut
   cases kq with
   | zero => exact absurd HA.out (by simp [laws_FnWaysLess.j0])
   | succ kj4 =>
    have H := HA.out
    clear HA
    simp only [laws_FnWaysLess.j0] at H
    by_cases c20 : x30_4 = true
    ·subst c20
     have H1 : ((spec_WaysLess.f kj4 t101).bind fun t112 => ((laws_ovWays.f kj4 t104 t112).bind fun t115 => (some t115))) = some r := by rw [if_pos rfl] at H; exact H
     clear H
     have H := H1
     clear H1
     replace H := Option.bind_eq_some_iff.mp H
     obtain ⟨t112, A210, H⟩ := H
     replace H : ((laws_ovWays.f kj4 t104 t112).bind fun t115 => (some t115)) = some r := H
     have A21 := Aside0.mk A210
     clear A210
     replace H := Option.bind_eq_some_iff.mp H
     obtain ⟨t115, A220, H⟩ := H
     replace H : (some t115) = some r := H
     have A22 := Aside0.mk A220
     clear A220
     obtain rfl := Option.some.inj H
     go_wp2_with (first | ((with_reducible refine gate_callee (f := 26) rfl ?_); refine goesL_ (some 33) rfl rfl Try.func26 (by kernel_rfl) rfl #[.slice Ao7 t101.length co7] rfl MT ?_; (with_reducible refine (spec_WaysLess.calls kj4 _ _ t101 t112 _ ?side1 ?side2 A21.out).mono ?_); (case side1 => exact KC (Kd.R_reads' HO_3.out).2.2); (case side2 => exact (Kd.R_reads' HO_3.out).2.1); rintro e w23 ⟨v113, rfl, ho0, hb⟩; refine ⟨_, rfl, ?_⟩; have HO114 := am (Kd.R_lower (Kd.R_new' (Kd.R_new' ho0 (Kd.R_lt (KR HO_3))) (Kd.R_lt (KR HO_4))) (below_size (KL HB))); replace HO_3 := am (Kd.R_elder' (KR HO_3) (Kd.R_base ho0) hb); replace HO_4 := am (Kd.R_elder' (KR HO_4) (Kd.R_base ho0) hb); replace HB := am (below_step (KL HB) hb); (try clear hb); (try clear ho0); obtain ⟨Ao24, co24, eo24⟩ := Kd.R_slice HO_4.out; subst eo24; obtain ⟨Ao25, co25, eo25⟩ := Kd.R_slice HO114.out; subst eo25) | ((with_reducible refine gate_callee (f := 25) rfl ?_); refine goesL_ (some 34) rfl rfl Try.func25 (by kernel_rfl) rfl #[.slice Ao24 t104.length co24, .slice Ao25 t112.length co25] rfl MT ?_; (with_reducible refine (laws_ovWays.calls kj4 _ _ t104 _ _ t112 t115 _ ?side1 ?side2 ?side3 ?side4 A22.out).mono ?_); (case side1 => exact KC (Kd.R_reads' HO_4.out).2.2); (case side2 => exact (Kd.R_reads' HO_4.out).2.1); (case side3 => exact KC (Kd.R_reads' HO114.out).2.2); (case side4 => exact (Kd.R_reads' HO114.out).2.1); rintro e w' ⟨rfl, ⟨nd, rfl⟩⟩; refine ⟨_, rfl, ?_⟩))
     go_ret
     exact ⟨ER, KL HB⟩
    ·replace c20 := Bool.eq_false_iff.mpr c20
     subst c20
     have H1 : ((impl_WaysDiffer.f kj4 t101 t104).bind fun bt116 => (laws_FnWaysLess.l0 kj4 t101 t104 bt116.2 0)) = some r := by rw [if_neg (show ¬ (false = true) by decide)] at H; exact H
     clear H
     have H := H1
     clear H1
     replace H := Option.bind_eq_some_iff.mp H
     obtain ⟨⟨t116, t117⟩, A260, H⟩ := H
     replace H : (laws_FnWaysLess.l0 kj4 t101 t104 t117 0) = some r := H
     have A26 := Aside0.mk A260
     clear A260
     have H' := Aside0.mk H
     clear H
     obtain ⟨Ao27, co27, eo27⟩ := Kd.R_slice HO_4.out
     subst eo27
     go_wp2_with (first | ((with_reducible refine gate_callee (f := 17) rfl ?_); refine goesL_ (some 38) rfl rfl Try.func17 (by kernel_rfl) rfl #[.slice Ao7 t101.length co7, .slice Ao27 t104.length co27] rfl MT ?_; (with_reducible refine (impl_WaysDiffer.calls kj4 (fun k_ => some k_ = (.slice Ao7 t101.length co7 : Value).ownBlock) _ _ t101 (fun k_ => some k_ = (.slice Ao27 t104.length co27 : Value).ownBlock) _ _ t104 t116 t117 _ ?side1 ?side2 A26.out).mono ?_); (case side1 => exact Kd.R_V (Kd.R_tight rfl (HO_3.out))); (case side2 => exact Kd.R_V (Kd.R_tight rfl (HO_4.out))); rintro e w28 ⟨rfl, hb⟩; refine ⟨_, rfl, ?_⟩; replace HO_3 := am (Kd.R_below (KR HO_3) hb); replace HO_4 := am (Kd.R_below (KR HO_4) hb); replace HB := am (below_step (KL HB) hb); (try clear hb)))
     go_loopg [7] kj4 (fun kq v7 w' => ∃ (x7_2 : Int), v7 = .int .i64 x7_2 ∧ Aside0 (laws_FnWaysLess.l0 kq t101 t104 t117 x7_2 = some r) ∧ Aside0 (kq ≤ kj4) ∧ Aside0 (Kd.R k45 45 w' w.heap.size (fun k_ => some k_ ≠ ((.slice Ao27 t104.length co27) : Value).ownBlock) (.slice Ao7 t101.length co7) t101) ∧ Aside0 (Kd.R k45 45 w' w.heap.size (fun k_ => some k_ ≠ ((.slice Ao7 t101.length co7) : Value).ownBlock) (.slice Ao27 t104.length co27) t104) ∧ Aside0 (Below w.heap.size w w'))
     case atStart => exact ⟨(0), (by first | rfl | (simp; done) | (simp [*]; done)), H', ⟨Nat.le_refl _⟩, ⟨KR HO_3⟩, ⟨KR HO_4⟩, ⟨KL HB⟩⟩
     case round =>
      clear H'
      try clear c1
      try clear c2
      try clear c2b0
      try clear c2b1
      try clear p2
      try clear c5
      try clear c11
      try clear c17
      try clear c20
      try clear c23
      try clear c24
      try clear c25
      try clear c26
      try clear p2
      obtain ⟨x7_2, rfl, HA, HK2, HO_3, HO_4, HB⟩ := hrel
      cases gk with
      | zero => exact absurd HA.out (by simp [laws_FnWaysLess.l0])
      | succ k2 =>
       have H := HA.out
       clear HA
       simp only [laws_FnWaysLess.l0] at H
       by_cases c29 : x7_2 < (t104.length : Int)
       ·rw [if_pos c29] at H
        have c29b0 : decide (x7_2 < (t104.length : Int)) = true := decide_eq_true c29
        clear c29
        by_cases c30 : 0 ≤ x7_2
        ·rw [if_pos c30] at H
         have c30b0 : decide (0 ≤ x7_2) = true := decide_eq_true c30
         clear c30
         replace H := Option.bind_eq_some_iff.mp H
         obtain ⟨⟨t124, t127⟩, A310, H⟩ := H
         replace H : ((impl_WaysDiffer.f k2 t104 t124).bind fun bt128 => (laws_FnWaysLess.l1 k2 t101 t104 t117 x7_2 bt128.2 false 0)) = some r := H
         have A31 := Aside0.mk A310
         clear A310
         replace H := Option.bind_eq_some_iff.mp H
         obtain ⟨⟨t128, t129⟩, A320, H⟩ := H
         replace H : (laws_FnWaysLess.l1 k2 t101 t104 t117 x7_2 t129 false 0) = some r := H
         have A32 := Aside0.mk A320
         clear A320
         have H' := Aside0.mk H
         clear H
         have p123 : 0 ≤ (x7_2 : Int) := OD
         have q123 : x7_2 < (t104.length : Int) := OD
         obtain ⟨ad123, e123, hx123_0, hx123_1, hx123_2⟩ := at_T45 (Kd.R_reads' HO_4.out).2.2 x7_2 p123 q123
         cases e123
         replace p123 := eq_true p123
         replace q123 := eq_true q123
         go_wp2_with (first | ((with_reducible refine gate_callee (f := 27) rfl ?_); refine goesL_ (some 54) rfl rfl Try.func27 (by kernel_rfl) rfl #[.slice (some ad123) t104.length co27, .agg #[.int .i64 ((rd_T45 t104 x7_2).f0.f0), .int .i64 ((rd_T45 t104 x7_2).f0.f1)]] rfl MT ?_; (with_reducible refine (impl_WaysGone.calls k2 _ _ t104 ((rd_T45 t104 x7_2).f0.f0) ((rd_T45 t104 x7_2).f0.f1) t124 t127 _ ?side1 ?side2 A31.out).mono ?_); (case side1 => exact KC (Kd.R_reads' HO_4.out).2.2); (case side2 => exact (Kd.R_reads' HO_4.out).2.1); rintro e w33 ⟨v125, rfl, ho0, hb⟩; refine ⟨_, rfl, ?_⟩; have HO126 := am (Kd.R_lower (Kd.R_new' (Kd.R_new' ho0 (Kd.R_lt (KR HO_3))) (Kd.R_lt (KR HO_4))) (below_size (KL HB))); replace HO_3 := am (Kd.R_elder' (KR HO_3) (Kd.R_base ho0) hb); replace HO_4 := am (Kd.R_elder' (KR HO_4) (Kd.R_base ho0) hb); replace HB := am (below_step (KL HB) hb); (try clear hb); (try clear ho0); obtain ⟨Ao34, co34, eo34⟩ := Kd.R_slice HO126.out; subst eo34) | ((with_reducible refine gate_callee (f := 17) rfl ?_); refine goesL_ (some 60) rfl rfl Try.func17 (by kernel_rfl) rfl #[.slice (some ad123) t104.length co27, .slice Ao34 t124.length co34] rfl MT ?_; (with_reducible refine (impl_WaysDiffer.calls k2 (fun k_ => some k_ = (.slice (some ad123) t104.length co27 : Value).ownBlock) _ _ t104 (fun k_ => some k_ = (.slice Ao34 t124.length co34 : Value).ownBlock) _ _ t124 t128 t129 _ ?side1 ?side2 A32.out).mono ?_); (case side1 => exact Kd.R_V (Kd.R_tight rfl (HO_4.out))); (case side2 => exact Kd.R_V (Kd.R_tight rfl (HO126.out))); rintro e w35 ⟨rfl, hb⟩; refine ⟨_, rfl, ?_⟩; replace HO_3 := am (Kd.R_below (KR HO_3) hb); replace HO_4 := am (Kd.R_below (KR HO_4) hb); replace HO126 := am (Kd.R_below (KR HO126) hb); replace HB := am (below_step (KL HB) hb); (try clear hb)))
         go_loopg [12, 13] k2 (fun kq v12 v13 w' => ∃ (x12_3 : Bool) (x13_3 : Int), v12 = .bool x12_3 ∧ v13 = .int .i64 x13_3 ∧ Aside0 (laws_FnWaysLess.l1 kq t101 t104 t117 x7_2 t129 x12_3 x13_3 = some r) ∧ Aside0 (kq ≤ k2) ∧ Aside0 (Kd.R k45 45 w' w.heap.size (fun k_ => some k_ ≠ ((.slice (some ad123) t104.length co27) : Value).ownBlock) (.slice Ao7 t101.length co7) t101) ∧ Aside0 (Kd.R k45 45 w' w.heap.size (fun k_ => some k_ ≠ ((.slice Ao7 t101.length co7) : Value).ownBlock) (.slice (some ad123) t104.length co27) t104) ∧ Aside0 (Below w.heap.size w w'))
         case atStart => exact ⟨(false), (0), (by first | rfl | (simp; done) | (simp [*]; done)), (by first | rfl | (simp; done) | (simp [*]; done)), H', ⟨Nat.le_refl _⟩, ⟨by (with_reducible repeat (first | apply Kd.R_alloc | apply Kd.R_drewN | apply Kd.R_drew)); exact Kd.R_mono HO_3.out (fun _ hk => hk.1)⟩, ⟨by (with_reducible repeat (first | apply Kd.R_alloc | apply Kd.R_drewN | apply Kd.R_drew)); exact Kd.R_mono HO_4.out (fun _ hk => hk.1)⟩, ⟨KL HB⟩⟩
         case round =>
          clear H'
          try clear c1
          try clear p1
          try clear q1
          try clear hx1
          try clear c2
          try clear c2b0
          try clear c2b1
          try clear p2
          try clear c3
          try clear c5
          try clear c11
          try clear p12
          try clear q12
          try clear hx12
          try clear c17
          try clear c20
          try clear c23
          try clear c24
          try clear c25
          try clear c26
          try clear c27
          try clear c29
          try clear c29b0
          try clear c30
          try clear c30b0
          try clear hx123_0
          try clear hx123_1
          try clear hx123_2
          try clear p123
          try clear p2
          try clear q123
          obtain ⟨x12_3, x13_3, rfl, rfl, HA, HK3, HO_3, HO_4, HB⟩ := hrel
          cases gk with
          | zero => exact absurd HA.out (by simp [laws_FnWaysLess.l1])
          | succ k3 =>
           have H := HA.out
           clear HA
           simp only [laws_FnWaysLess.l1] at H
           by_cases c36 : x13_3 < (t104.length : Int)
           ·rw [if_pos c36] at H
            have c36b0 : decide (x13_3 < (t104.length : Int)) = true := decide_eq_true c36
            clear c36
            by_cases c37 : x12_3 = true
            ·subst c37
             have H1 : (laws_FnWaysLess.l1 k3 t101 t104 t117 x7_2 t129 true (wrap64 (x13_3 + 1))) = some r := by rw [if_pos rfl] at H; exact H
             clear H
             have H := H1
             clear H1
             have H' := Aside0.mk H
             clear H
             try go_wp2
             replace HO_3 := am (Kd.R_drew HO_3.out)
             replace HO_4 := am (Kd.R_drew HO_4.out)
             replace HB := am (below_drew1 HB.out)
             refine start_ (n := 20) (S := fun w' => True) (ds := []) (tf 0 20) (by kernel_rfl) rfl rfl trivial (fun hHeld => ?_); refine with_tabW laws_FnWaysLess.tab17 laws_FnWaysLess.bits17 (fun HT_ HW_ => ?_)
             generalize wr.drew = w38 at HO_3 HO_4 HB hHeld ⊢
             refine pv HT_ 0 69 (tf 1 19) ?_
             refine pv HT_ 1 70 (tf 2 18) ?_
             refine pw HT_ 2 71 (tf 3 17) ?_
             refine pw HT_ 3 72 (tf 4 16) ?_
             refine pw HT_ 4 73 (tf 5 15) ?_
             refine pw HT_ 5 74 (tf 6 14) ?_
             refine pw HT_ 6 75 (tf 7 13) ?_
             refine pw HT_ 7 76 (tf 8 12) ?_
             refine pw HT_ 8 77 (tf 9 11) ?_
             refine pw HT_ 9 78 (tf 10 10) ?_
             refine pw HT_ 10 79 (tf 11 9) ?_
             refine pw HT_ 11 80 (tf 12 8) ?_
             refine pw HT_ 12 81 (tf 13 7) ?_
             refine pw HT_ 13 82 (tf 14 6) ?_
             refine pw HT_ 14 83 (tf 15 5) ?_
             refine pw HT_ 15 84 (tf 16 4) ?_
             refine pw HT_ 16 85 (tf 17 3) ?_
             refine pw HT_ 17 86 (tf 18 2) ?_
             refine pv HT_ 18 87 (tf 19 1) ?_
             refine pv HT_ 19 12 (tf 20 0) ?_
             refine done_ (done_of HT_.out (by kernel_rfl)) ?_
             try go_wp2
             go_roundg k3
             case measure => have := HJ4.out; have := HK2.out; have := HK3.out; omega
             case rel => exact ⟨(true), (wrap64 (x13_3 + 1)), (by first | rfl | (simp; done) | (simp [*]; done)), (by first | rfl | (simp; done) | (simp [*]; done)), H', ⟨by have := HJ4.out; have := HK2.out; have := HK3.out; omega⟩, ⟨KR HO_3⟩, ⟨KR HO_4⟩, ⟨KL HB⟩⟩
            ·replace c37 := Bool.eq_false_iff.mpr c37
             subst c37
             have H1 : (if x13_3 = x7_2 then (laws_FnWaysLess.l1 k3 t101 t104 t117 x7_2 t129 false (wrap64 (x13_3 + 1))) else (if 0 ≤ x7_2 then (if x7_2 < (t104.length : Int) then (if 0 ≤ x13_3 then ((impl_BlockIn.f ((rd_T45 t104 x7_2).f0.f0) ((rd_T45 t104 x7_2).f0.f1) ((rd_T45 t104 x13_3).f0.f0) ((rd_T45 t104 x13_3).f0.f1)).bind fun t132 => (laws_FnWaysLess.l1 k3 t101 t104 t117 x7_2 t129 t132 (wrap64 (x13_3 + 1)))) else (none)) else (none)) else (none))) = some r := by rw [if_neg (show ¬ (false = true) by decide)] at H; exact H
             clear H
             have H := H1
             clear H1
             by_cases c39 : x13_3 = x7_2
             ·rw [if_pos c39] at H
              have c39b0 : (x13_3 == x7_2) = true := beq_iff_eq.mpr c39
              have c39b1 : (x13_3 != x7_2) = false := bne_eq_false_iff_eq.mpr c39
              clear c39
              have H' := Aside0.mk H
              clear H
              try go_wp2
              replace HO_3 := am (Kd.R_drew HO_3.out)
              replace HO_4 := am (Kd.R_drew HO_4.out)
              replace HB := am (below_drew1 HB.out)
              refine start_ (n := 20) (S := fun w' => True) (ds := []) (tf 0 20) (by kernel_rfl) rfl rfl trivial (fun hHeld => ?_); refine with_tabW laws_FnWaysLess.tab17 laws_FnWaysLess.bits17 (fun HT_ HW_ => ?_)
              generalize wr.drew = w40 at HO_3 HO_4 HB hHeld ⊢
              refine pv HT_ 0 69 (tf 1 19) ?_
              refine pv HT_ 1 70 (tf 2 18) ?_
              refine pv HT_ 2 71 (tf 3 17) ?_
              refine pv HT_ 3 72 (tf 4 16) ?_
              refine pv HT_ 4 73 (tf 5 15) ?_
              refine pv HT_ 5 74 (tf 6 14) ?_
              refine pw HT_ 6 75 (tf 7 13) ?_
              refine pw HT_ 7 76 (tf 8 12) ?_
              refine pw HT_ 8 77 (tf 9 11) ?_
              refine pw HT_ 9 78 (tf 10 10) ?_
              refine pw HT_ 10 79 (tf 11 9) ?_
              refine pw HT_ 11 80 (tf 12 8) ?_
              refine pw HT_ 12 81 (tf 13 7) ?_
              refine pw HT_ 13 82 (tf 14 6) ?_
              refine pw HT_ 14 83 (tf 15 5) ?_
              refine pw HT_ 15 84 (tf 16 4) ?_
              refine pw HT_ 16 85 (tf 17 3) ?_
              refine pv HT_ 17 86 (tf 18 2) ?_
              refine pv HT_ 18 87 (tf 19 1) ?_
              refine pv HT_ 19 12 (tf 20 0) ?_
              refine done_ (done_of HT_.out (by kernel_rfl)) ?_
              try go_wp2
              go_roundg k3
              case measure => have := HJ4.out; have := HK2.out; have := HK3.out; omega
              case rel => exact ⟨(false), (wrap64 (x13_3 + 1)), (by first | rfl | (simp; done) | (simp [*]; done)), (by first | rfl | (simp; done) | (simp [*]; done)), H', ⟨by have := HJ4.out; have := HK2.out; have := HK3.out; omega⟩, ⟨KR HO_3⟩, ⟨KR HO_4⟩, ⟨KL HB⟩⟩
             ·rw [if_neg c39] at H
              have c39b0 : (x13_3 == x7_2) = false := beq_eq_false_iff_ne.mpr c39
              have c39b1 : (x13_3 != x7_2) = true := bne_iff_ne.mpr c39
              by_cases c41 : 0 ≤ x7_2
              ·rw [if_pos c41] at H
               have c41b0 : decide (0 ≤ x7_2) = true := decide_eq_true c41
               clear c41
               by_cases c42 : x7_2 < (t104.length : Int)
               ·rw [if_pos c42] at H
                have c42b0 : decide (x7_2 < (t104.length : Int)) = true := decide_eq_true c42
                clear c42
                by_cases c43 : 0 ≤ x13_3
                ·rw [if_pos c43] at H
                 have c43b0 : decide (0 ≤ x13_3) = true := decide_eq_true c43
                 clear c43
                 replace H := Option.bind_eq_some_iff.mp H
                 obtain ⟨t132, A440, H⟩ := H
                 replace H : (laws_FnWaysLess.l1 k3 t101 t104 t117 x7_2 t129 t132 (wrap64 (x13_3 + 1))) = some r := H
                 have A44 := Aside0.mk A440
                 clear A440
                 have H' := Aside0.mk H
                 clear H
                 try go_wp2
                 replace HO_3 := am (Kd.R_drew HO_3.out)
                 replace HO_4 := am (Kd.R_drew HO_4.out)
                 replace HB := am (below_drew1 HB.out)
                 have p130 : 0 ≤ (x7_2 : Int) := OD
                 have q130 : x7_2 < (t104.length : Int) := OD
                 obtain ⟨ad130, e130, hx130_0, hx130_1, hx130_2⟩ := at_T45 (Kd.R_reads' HO_4.out).2.2 x7_2 p130 q130
                 obtain rfl : ad123 = ad130 := (by injection e130)
                 replace p130 := eq_true p130
                 replace q130 := eq_true q130
                 have p131 : 0 ≤ (x13_3 : Int) := OD
                 have q131 : x13_3 < (t104.length : Int) := OD
                 obtain ⟨ad131, e131, hx131_0, hx131_1, hx131_2⟩ := at_T45 (Kd.R_reads' HO_4.out).2.2 x13_3 p131 q131
                 obtain rfl : ad123 = ad131 := (by injection e131)
                 replace p131 := eq_true p131
                 replace q131 := eq_true q131
                 refine start_ (n := 20) (S := fun w' => w'.cell? (ad123.add ((x7_2).toNat * 3)) = some (.int .i64 ((rd_T45 t104 x7_2).f0.f0)) ∧ w'.cell? ⟨(ad123.add ((x7_2).toNat * 3)).block, (ad123.add ((x7_2).toNat * 3)).off + 1, none⟩ = some (.int .i64 ((rd_T45 t104 x7_2).f0.f1)) ∧ w'.cell? ⟨(ad123.add ((x7_2).toNat * 3)).block, (ad123.add ((x7_2).toNat * 3)).off + 2, none⟩ = some (.int .i64 ((rd_T45 t104 x7_2).f1)) ∧ w'.cell? (ad123.add ((x13_3).toNat * 3)) = some (.int .i64 ((rd_T45 t104 x13_3).f0.f0)) ∧ w'.cell? ⟨(ad123.add ((x13_3).toNat * 3)).block, (ad123.add ((x13_3).toNat * 3)).off + 1, none⟩ = some (.int .i64 ((rd_T45 t104 x13_3).f0.f1)) ∧ w'.cell? ⟨(ad123.add ((x13_3).toNat * 3)).block, (ad123.add ((x13_3).toNat * 3)).off + 2, none⟩ = some (.int .i64 ((rd_T45 t104 x13_3).f1))) (ds := []) (tf 0 20) (by kernel_rfl) rfl rfl ⟨hx130_0, hx130_1, hx130_2, hx131_0, hx131_1, hx131_2⟩ (fun hHeld => ?_); refine with_tabW laws_FnWaysLess.tab17 laws_FnWaysLess.bits17 (fun HT_ HW_ => ?_)
                 generalize wr.drew = w45 at HO_3 HO_4 HB hx130_0 hx130_1 hx130_2 hx131_0 hx131_1 hx131_2 hHeld ⊢
                 refine pv HT_ 0 69 (tf 1 19) ?_
                 refine pv HT_ 1 70 (tf 2 18) ?_
                 refine pv HT_ 2 71 (tf 3 17) ?_
                 refine pv HT_ 3 72 (tf 4 16) ?_
                 refine pv HT_ 4 73 (tf 5 15) ?_
                 refine pv HT_ 5 74 (tf 6 14) ?_
                 refine pv HT_ 6 75 (tf 7 13) ?_
                 refine pv HT_ 7 76 (tf 8 12) ?_
                 refine pv HT_ 8 77 (tf 9 11) ?_
                 refine pv HT_ 9 78 (tf 10 10) ?_
                 refine pv HT_ 11 80 (tr [10, 1, 1, 8]) ?_
                 refine pv HT_ 12 81 (tr [10, 1, 2, 7]) ?_
                 refine pv HT_ 13 82 (tr [10, 1, 3, 6]) ?_
                 refine pv HT_ 14 83 (tr [10, 1, 4, 5]) ?_
                 refine tk 10 (some 79) (tf 15 5) (take_ofW HT_.out HW_.out (by kernel_rfl)) hHeld ?_
                 refine tk 15 (some 84) (tf 16 4) (take_ofW HT_.out HW_.out (by kernel_rfl)) hHeld ?_
                 refine one_ (i := 16) (N := some 85) (tf 17 3) rfl rfl (one_of HT_.out (by kernel_rfl)) (by decide) (fun K hK => ?_)
                 refine goes_ Try.func28 (by kernel_rfl) rfl #[.agg #[.int .i64 ((rd_T45 t104 x7_2).f0.f0), .int .i64 ((rd_T45 t104 x7_2).f0.f1)], .agg #[.int .i64 ((rd_T45 t104 x13_3).f0.f0), .int .i64 ((rd_T45 t104 x13_3).f0.f1)]] (by rfl) rfl rfl MT ?_
                 with_reducible refine (impl_BlockIn.calls ((rd_T45 t104 x7_2).f0.f0) ((rd_T45 t104 x7_2).f0.f1) ((rd_T45 t104 x13_3).f0.f0) ((rd_T45 t104 x13_3).f0.f1) t132 _ A44.out).mono ?_
                 rintro e w46 ⟨rfl, hb⟩
                 have HS0_ := (hb.cell (World.block_lt_of_cell? _ _ (hHeld.1))).trans (hHeld.1)
                 have HS1_ := (hb.cell (World.block_lt_of_cell? _ _ (hHeld.2.1))).trans (hHeld.2.1)
                 have HS2_ := (hb.cell (World.block_lt_of_cell? _ _ (hHeld.2.2.1))).trans (hHeld.2.2.1)
                 have HS3_ := (hb.cell (World.block_lt_of_cell? _ _ (hHeld.2.2.2.1))).trans (hHeld.2.2.2.1)
                 have HS4_ := (hb.cell (World.block_lt_of_cell? _ _ (hHeld.2.2.2.2.1))).trans (hHeld.2.2.2.2.1)
                 have HS5_ := (hb.cell (World.block_lt_of_cell? _ _ (hHeld.2.2.2.2.2))).trans (hHeld.2.2.2.2.2)
                 refine ⟨_, rfl, ?_⟩
                 replace HO_3 := am (Kd.R_below (KR HO_3) hb)
                 replace HO_4 := am (Kd.R_below (KR HO_4) hb)
                 replace HB := am (below_step (KL HB) hb)
                 (try clear hb)
                 (try clear hb2)
                 (try clear hk)
                 (try clear hi)
                 refine hK.out _ _ ⟨HS0_, HS1_, HS2_, HS3_, HS4_, HS5_⟩ (fun hHeld => ?_)
                 clear hK K
                 refine norm_ (a' := ?_) ?_ ?_
                 rotate_left
                 ·show Act.put _ (some 85) _ = _
                  simp only [Act.put, List.setIfInBounds_toArray, List.set_cons_zero, List.set_cons_succ, i64_w, i32_w]
                  rfl
                 refine pv HT_ 17 86 (tf 18 2) ?_
                 refine pv HT_ 18 87 (tf 19 1) ?_
                 refine pv HT_ 19 12 (tf 20 0) ?_
                 refine done_ (done_of HT_.out (by kernel_rfl)) ?_
                 try go_wp2
                 go_roundg k3
                 case measure => have := HJ4.out; have := HK2.out; have := HK3.out; omega
                 case rel => exact ⟨(t132), (wrap64 (x13_3 + 1)), (by first | rfl | (simp; done) | (simp [*]; done)), (by first | rfl | (simp; done) | (simp [*]; done)), H', ⟨by have := HJ4.out; have := HK2.out; have := HK3.out; omega⟩, ⟨KR HO_3⟩, ⟨KR HO_4⟩, ⟨KL HB⟩⟩
                ·rw [if_neg c43] at H
                 exact absurd H (by simp)
               ·rw [if_neg c42] at H
                exact absurd H (by simp)
              ·rw [if_neg c41] at H
               exact absurd H (by simp)
           ·rw [if_neg c36] at H
            have c36b0 : decide (x13_3 < (t104.length : Int)) = false := decide_eq_false c36
            clear c36
            by_cases c47 : t129 = true
            ·subst c47
             have H1 : (laws_FnWaysLess.l0 k3 t101 t104 t117 (wrap64 (x7_2 + 1))) = some r := by rw [if_pos rfl] at H; exact H
             clear H
             have H := H1
             clear H1
             have H' := Aside0.mk H
             clear H
             go_wp2
             go_roundg k3
             case measure => have := HJ4.out; have := HK2.out; have := HK3.out; omega
             case rel => exact ⟨(wrap64 (x7_2 + 1)), (by first | rfl | (simp; done) | (simp [*]; done)), H', ⟨by have := HJ4.out; have := HK2.out; have := HK3.out; omega⟩, ⟨KR HO_3⟩, ⟨KR HO_4⟩, ⟨KL HB⟩⟩
            ·replace c47 := Bool.eq_false_iff.mpr c47
             subst c47
             have H1 : (if x12_3 = true then (laws_FnWaysLess.l0 k3 t101 t104 t117 (wrap64 (x7_2 + 1))) else (some false)) = some r := by rw [if_neg (show ¬ (false = true) by decide)] at H; exact H
             clear H
             have H := H1
             clear H1
             by_cases c48 : x12_3 = true
             ·subst c48
              have H1 : (laws_FnWaysLess.l0 k3 t101 t104 t117 (wrap64 (x7_2 + 1))) = some r := by rw [if_pos rfl] at H; exact H
              clear H
              have H := H1
              clear H1
              have H' := Aside0.mk H
              clear H
              go_wp2
              go_roundg k3
              case measure => have := HJ4.out; have := HK2.out; have := HK3.out; omega
              case rel => exact ⟨(wrap64 (x7_2 + 1)), (by first | rfl | (simp; done) | (simp [*]; done)), H', ⟨by have := HJ4.out; have := HK2.out; have := HK3.out; omega⟩, ⟨KR HO_3⟩, ⟨KR HO_4⟩, ⟨KL HB⟩⟩
             ·replace c48 := Bool.eq_false_iff.mpr c48
              subst c48
              have H1 : (some false) = some r := by rw [if_neg (show ¬ (false = true) by decide)] at H; exact H
              clear H
              have H := H1
              clear H1
              exact absurd ((Option.some.inj H).trans HR_.out) (by decide)
        ·rw [if_neg c30] at H
         exact absurd H (by simp)
       ·rw [if_neg c29] at H
        have c29b0 : decide (x7_2 < (t104.length : Int)) = false := decide_eq_false c29
        clear c29
        replace H := Option.bind_eq_some_iff.mp H
        obtain ⟨t118, A490, H⟩ := H
        replace H : (if t118 = true then (if t117 = true then (some false) else (if (t104.length : Int) ≤ (t101.length : Int) then ((impl_WaysLess.f k2 t104).bind fun t119 => ((laws_ovWays.f k2 t119 t104).bind fun t122 => (some t122))) else (some false))) else (some false)) = some r := H
        have A49 := Aside0.mk A490
        clear A490
        by_cases c50 : t118 = true
        ·subst c50
         have H1 : (if t117 = true then (some false) else (if (t104.length : Int) ≤ (t101.length : Int) then ((impl_WaysLess.f k2 t104).bind fun t119 => ((laws_ovWays.f k2 t119 t104).bind fun t122 => (some t122))) else (some false))) = some r := by rw [if_pos rfl] at H; exact H
         clear H
         have H := H1
         clear H1
         by_cases c51 : t117 = true
         ·subst c51
          have H1 : (some false) = some r := by rw [if_pos rfl] at H; exact H
          clear H
          have H := H1
          clear H1
          exact absurd ((Option.some.inj H).trans HR_.out) (by decide)
         ·replace c51 := Bool.eq_false_iff.mpr c51
          subst c51
          have H1 : (if (t104.length : Int) ≤ (t101.length : Int) then ((impl_WaysLess.f k2 t104).bind fun t119 => ((laws_ovWays.f k2 t119 t104).bind fun t122 => (some t122))) else (some false)) = some r := by rw [if_neg (show ¬ (false = true) by decide)] at H; exact H
          clear H
          have H := H1
          clear H1
          by_cases c52 : (t104.length : Int) ≤ (t101.length : Int)
          ·rw [if_pos c52] at H
           have c52b0 : decide ((t104.length : Int) ≤ (t101.length : Int)) = true := decide_eq_true c52
           have c52b1 : decide (t104.length ≤ t101.length) = true := decide_eq_true (Int.ofNat_le.mp c52)
           clear c52
           replace H := Option.bind_eq_some_iff.mp H
           obtain ⟨t119, A530, H⟩ := H
           replace H : ((laws_ovWays.f k2 t119 t104).bind fun t122 => (some t122)) = some r := H
           have A53 := Aside0.mk A530
           clear A530
           replace H := Option.bind_eq_some_iff.mp H
           obtain ⟨t122, A540, H⟩ := H
           replace H : (some t122) = some r := H
           have A54 := Aside0.mk A540
           clear A540
           obtain rfl := Option.some.inj H
           go_wp2_with (first | ((with_reducible refine gate_callee (f := 29) rfl ?_); refine goesL_ (some 95) rfl rfl Try.func29 (by kernel_rfl) rfl #[.slice Ao27 t104.length co27] rfl MT ?_; (with_reducible refine (impl_WaysOk.calls k2 _ _ t104 true _ ?side1 ?side2 A49.out).mono ?_); (case side1 => exact KC (Kd.R_reads' HO_4.out).2.2); (case side2 => exact (Kd.R_reads' HO_4.out).2.1); rintro e w55 ⟨rfl, hb⟩; refine ⟨_, rfl, ?_⟩; replace HO_3 := am (Kd.R_below (KR HO_3) hb); replace HO_4 := am (Kd.R_below (KR HO_4) hb); replace HB := am (below_step (KL HB) hb); (try clear hb)) | (go_at_call 24; (with_reducible refine (impl_WaysLess.calls k2 _ _ t104 t119 _ ?side1 ?side2 A53.out).mono ?_); (case side1 => exact KC (Kd.R_reads' HO_4.out).2.2); (case side2 => exact (Kd.R_reads' HO_4.out).2.1); rintro e w56 ⟨v120, rfl, ho0, hb⟩; have HO121 := am (Kd.R_lower (Kd.R_new' (Kd.R_new' ho0 (Kd.R_lt (KR HO_3))) (Kd.R_lt (KR HO_4))) (below_size (KL HB))); replace HO_3 := am (Kd.R_elder' (KR HO_3) (Kd.R_base ho0) hb); replace HO_4 := am (Kd.R_elder' (KR HO_4) (Kd.R_base ho0) hb); replace HB := am (below_step (KL HB) hb); (try clear hb); (try clear ho0); obtain ⟨Ao57, co57, eo57⟩ := Kd.R_slice HO121.out; subst eo57) | (go_at_call 25; (with_reducible refine (laws_ovWays.calls k2 _ _ t119 _ _ t104 t122 _ ?side1 ?side2 ?side3 ?side4 A54.out).mono ?_); (case side1 => exact KC (Kd.R_reads' HO121.out).2.2); (case side2 => exact (Kd.R_reads' HO121.out).2.1); (case side3 => exact KC (Kd.R_reads' HO_4.out).2.2); (case side4 => exact (Kd.R_reads' HO_4.out).2.1); rintro e w' ⟨rfl, ⟨nd, rfl⟩⟩))
           go_ret
           exact ⟨ER, KL HB⟩
          ·rw [if_neg c52] at H
           have c52b0 : decide ((t104.length : Int) ≤ (t101.length : Int)) = false := decide_eq_false c52
           have c52b1 : decide (t104.length ≤ t101.length) = false := decide_eq_false (fun h => c52 (Int.ofNat_le.mpr h))
           clear c52
           exact absurd ((Option.some.inj H).trans HR_.out) (by decide)
        ·replace c50 := Bool.eq_false_iff.mpr c50
         subst c50
         have H1 : (some false) = some r := by rw [if_neg (show ¬ (false = true) by decide)] at H; exact H
         clear H
         have H := H1
         clear H1
         exact absurd ((Option.some.inj H).trans HR_.out) (by decide)
/-- THE ONE PURE STATEMENT of laws_FnWaysLess: yours. -/
def laws_FnWaysLess.Pure : Prop := ∀ (l0 : List Int), l0.length ≤ maxLen → l0.length * 1 ≤ 140737488351232 → (∀ x ∈ l0, (Lit.int .u8 x).wf = true) → ∃ k, laws_FnWaysLess.f k l0 = some true
theorem laws_FnWaysLess.walk (P : laws_FnWaysLess.Pure) (a0 : Option Addr) (len0 cap0 : Nat) (z0 : List Int) (w : World) (w0 : (a0 = none ∧ len0 = 0 ∧ cap0 = 0 ∧ z0 = []) ∨ ∃ x, a0 = some x ∧ len0 ≤ cap0 ∧ cap0 ≤ maxLen ∧ z0.length = cap0 ∧ (∀ i, i < z0.length → w.cell? (x.add i) = some (.int .u8 (z0.getD i 0))) ∧ ∀ n ∈ z0, (Lit.int .u8 n).wf = true) (y0 : len0 * 1 ≤ 140737488351232) :
  Calls Try.prog 5 #[.slice a0 len0 cap0] w fun e w' => e = .returned (.bool true) ∧ Below w.heap.size w w' := by
 obtain ⟨l0, rfl, hr0, hm0, hw0, hc0⟩ := ReadsInt.ofRowC w0
 obtain ⟨k, h⟩ := P l0 hm0 y0 hw0
 refine (laws_FnWaysLess.calls k _ _ l0 true w (Kd.C_of_reads (d := (0 : Int)) (h1 := fun _ => rfl) hr0) hc0 rfl h).mono ?_
 rintro e w' ⟨rfl, hd⟩
 exact ⟨rfl, hd⟩
end Go.Proofs.Ytkgbgaojglcaoaa.PAll
end
