/- Contracts of the functions that the statement reaches, printed by a program out of the translation and joined with the plain laws. -/
import Derived.Test.YtmanlcakdcoekaaGreatCFnWaysTo3
import Derived.Test.YtmanlcakdcoekaaGreatCFnWaysTo4
import Derived.Test.YtmanlcakdcoekaaGreatCFnWaysTo7
import Derived.Test.YtmanlcakdcoekaaGreatCFnWaysTo10
import Derived.Test.YtmanlcakdcoekaaGreatCFnWaysTo11
import Derived.Test.YtmanlcakdcoekaaGreatCFnWaysTo13
import Derived.Test.YtmanlcakdcoekaaGreatCFnWaysTo14
section
namespace Go.Proofs.YtmanlcakdcoekaaGreat.PAll
open Go.RowKit Go.Proofs.YtmanlcakdcoekaaGreatW.PrintWords Go.Proofs.YtmanlcakdcoekaaGreatW.PrintLast Go.Proofs.YtmanlcakdcoekaaGreatW.PrintMore
attribute [local go_sem] max2_int min2_int max_two min_two max_three min_three max_four min_four   -- for this text's walks alone
set_option linter.unusedVariables false
set_option linter.unusedSimpArgs false
mutual
def laws_FnWaysTo.j0 : Nat → List Int → List Int → Bool → Option (Bool)
 | 0, _, _, _ => none
 | k + 1, x0, x1, x26 => if x26 = true then (some true) else ((spec_DrawWaysTo.f k x0).bind fun bt101 => ((impl_WaysTo.f k bt101.1 bt101.2).bind fun bt105 => ((spec_WaysTo.f k bt101.1 bt101.2).bind fun bt109 => (if (bt105.2 != bt109.2) = true then (laws_FnWaysTo.j1 k x1 bt101.1 bt101.2 bt105.1 bt105.2 bt109.1 bt109.2 true) else ((laws_ovBlocks.f k bt105.1 bt109.1).bind fun t113 => (if t113 = true then (laws_FnWaysTo.j1 k x1 bt101.1 bt101.2 bt105.1 bt105.2 bt109.1 bt109.2 (!bt105.2)) else (laws_FnWaysTo.j1 k x1 bt101.1 bt101.2 bt105.1 bt105.2 bt109.1 bt109.2 true)))))))
def laws_FnWaysTo.j1 : Nat → List Int → List (S34) → Int → List (S32) → Bool → List (S32) → Bool → Bool → Option (Bool)
 | 0, _, _, _, _, _, _, _, _ => none
 | k + 1, x1, x5, x6, x7, x8, x9, x10, x56 => if x56 = true then (if (x8 == x10) = true then ((laws_ovBlocks.f k x7 x9).bind fun t114 => (some t114)) else (some false)) else ((spec_DrawWaysLead.f k x1).bind fun bt115 => (laws_FnWaysTo.l0 k x5 x6 x7 bt115.2 0 true (-1)))
def laws_FnWaysTo.l0 : Nat → List (S34) → Int → List (S32) → Int → Int → Bool → Int → Option (Bool)
 | 0, _, _, _, _, _, _, _ => none
 | k + 1, x5, x6, x7, x12, x13, x14, x15 => if x15 ≤ 2 then ((impl_WaysTo.f k x5 x15).bind fun bt119 => (if x14 = true then ((impl_SetSize.f k bt119.1).bind fun t123 => (laws_FnWaysTo.l0 k x5 x6 x7 x12 (wrap64 (x13 + t123)) bt119.2 (wrap64 (x15 + 1)))) else ((impl_SetSize.f k bt119.1).bind fun t124 => (laws_FnWaysTo.l0 k x5 x6 x7 x12 (wrap64 (x13 + t124)) false (wrap64 (x15 + 1)))))) else (laws_FnWaysTo.l1 k x5 x6 x7 x12 x13 x14 0)
def laws_FnWaysTo.l1 : Nat → List (S34) → Int → List (S32) → Int → Int → Bool → Int → Option (Bool)
 | 0, _, _, _, _, _, _, _ => none
 | k + 1, x5, x6, x7, x12, x13, x14, x18 => if x18 < (x5.length : Int) then (if x14 = true then (if 0 ≤ x18 then (laws_FnWaysTo.l1 k x5 x6 x7 x12 x13 (decide (((rd_T34 x5 x18).f1) ≤ 2)) (wrap64 (x18 + 1))) else (none)) else (laws_FnWaysTo.l1 k x5 x6 x7 x12 x13 false (wrap64 (x18 + 1)))) else ((impl_SetOk.f k x7).bind fun t126 => (if t126 = true then ((impl_SetHas.f k x7 x12).bind fun t127 => (if x12 ≥ 0 then (if x12 ≤ 4294967295 then ((impl_WaysLead.f k x5 x12).bind fun t128 => (if (t127 == (t128 == x6)) = true then (if x14 = true then (some (x13 == 4294967296)) else (some true)) else (some false))) else (if (t127 == false) = true then (if x14 = true then (some (x13 == 4294967296)) else (some true)) else (some false))) else (if (t127 == false) = true then (if x14 = true then (some (x13 == 4294967296)) else (some true)) else (some false)))) else (some false)))
end
def laws_FnWaysTo.f (k : Nat) (l0 : List Int) (l1 : List Int) : Option (Bool) := if (l0.length : Int) > 1048576 then (laws_FnWaysTo.j0 k l0 l1 true) else (laws_FnWaysTo.j0 k l0 l1 (decide ((l1.length : Int) > 1048576)))
set_option maxHeartbeats 8000000 in
set_option maxRecDepth 100000 in
theorem laws_FnWaysTo.calls (k : Nat) (A0 : Option Addr) (c0 : Nat) (l0 : List Int) (A1 : Option Addr) (c1 : Nat) (l1 : List Int) (r : Bool) (w : World) (hr0 : Kd.C (Kd.int .u8) w A0 l0.length l0) (hc0 : l0.length ≤ c0) (hr1 : Kd.C (Kd.int .u8) w A1 l1.length l1) (hc1 : l1.length ≤ c1) (hr0_ : r = true) (h : laws_FnWaysTo.f k l0 l1 = some r) :
  Calls Tryz.prog 3 #[.slice A0 l0.length c0, .slice A1 l1.length c1] w fun e w' => e = .returned (.bool r) ∧ Below w.heap.size w w' := by
 have HR0 := Aside0.mk hr0
 have HC0 := Aside0.mk hc0
 clear hr0 hc0
 have HR1 := Aside0.mk hr1
 have HC1 := Aside0.mk hc1
 clear hr1 hc1
 have HB := am (Below.refl w.heap.size w)
 have H : (if (l0.length : Int) > 1048576 then (laws_FnWaysTo.j0 k l0 l1 true) else (laws_FnWaysTo.j0 k l0 l1 (decide ((l1.length : Int) > 1048576)))) = some r := h
 clear h
 have HR_ := Aside0.mk hr0_
 clear hr0_
 have HC3 := Aside0.mk H
 clear H
 go_enter Tryz.func3, Tryz.ntmps3
 go_upto_region 1 with (fail)
 go_cut [26] (fun v26 wc => ∃ (kq : Nat) (x26_2 : Bool), v26 = .bool x26_2 ∧ Aside0 (laws_FnWaysTo.j0 kq l0 l1 x26_2 = some r) ∧ Aside0 (kq ≤ k) ∧ Aside0 (Below w.heap.size w wc))
 case first =>
  have H := HC3.out
  clear HC3
  by_cases c4 : (l0.length : Int) > 1048576
  ·rw [if_pos c4] at H
   have c4b0 : decide (1048576 < (l0.length : Int)) = true := decide_eq_true c4
   have c4b1 : decide (1048576 < l0.length) = true := decide_eq_true (by omega)
   clear c4
   (first | rw [c4b0] | (simp only [i64_w, i32_w]; rw [c4b0]) | skip)
   have H' := Aside0.mk H
   clear H
   go_wp2
   go_meet
   case rel => exact ⟨_, (true), (by first | rfl | (simp; done) | (simp [*]; done)), H', ⟨by first | omega | exact Nat.le_refl _⟩, ⟨KL HB⟩⟩
  ·rw [if_neg c4] at H
   have c4b0 : decide (1048576 < (l0.length : Int)) = false := decide_eq_false c4
   have c4b1 : decide (1048576 < l0.length) = false := decide_eq_false (by omega)
   clear c4
   (first | rw [c4b0] | (simp only [i64_w, i32_w]; rw [c4b0]) | skip)
   have H' := Aside0.mk H
   clear H
   go_wp2
   go_meet
   case rel => exact ⟨_, (decide ((l1.length : Int) > 1048576)), (by first | rfl | (simp; done) | (simp [*]; done)), H', ⟨by first | omega | exact Nat.le_refl _⟩, ⟨KL HB⟩⟩
 case rest =>
  clear HC3
  try clear c1
  try clear p2
  try clear c3
  try clear c4
  try clear c4b0
  try clear c4b1
  obtain ⟨kq, x26_2, rfl, HA, HJ2, HB⟩ := hcut
  cases kq with
  | zero => exact absurd HA.out (by simp [laws_FnWaysTo.j0])
  | succ kj2 =>
   have H := HA.out
   clear HA
   simp only [laws_FnWaysTo.j0] at H
   by_cases c5 : x26_2 = true
   ·subst c5
    have H1 : (some true) = some r := by rw [if_pos rfl] at H; exact H
    clear H
    have H := H1
    clear H1
    obtain rfl := Option.some.inj H
    go_wp2
    go_ret
    exact ⟨ER, KL HB⟩
   ·replace c5 := Bool.eq_false_iff.mpr c5
    subst c5
    have H1 : ((spec_DrawWaysTo.f kj2 l0).bind fun bt101 => ((impl_WaysTo.f kj2 bt101.1 bt101.2).bind fun bt105 => ((spec_WaysTo.f kj2 bt101.1 bt101.2).bind fun bt109 => (if (bt105.2 != bt109.2) = true then (laws_FnWaysTo.j1 kj2 l1 bt101.1 bt101.2 bt105.1 bt105.2 bt109.1 bt109.2 true) else ((laws_ovBlocks.f kj2 bt105.1 bt109.1).bind fun t113 => (if t113 = true then (laws_FnWaysTo.j1 kj2 l1 bt101.1 bt101.2 bt105.1 bt105.2 bt109.1 bt109.2 (!bt105.2)) else (laws_FnWaysTo.j1 kj2 l1 bt101.1 bt101.2 bt105.1 bt105.2 bt109.1 bt109.2 true))))))) = some r := by rw [if_neg (show ¬ (false = true) by decide)] at H; exact H
    clear H
    have H := H1
    clear H1
    replace H := Option.bind_eq_some_iff.mp H
    obtain ⟨⟨t101, t102⟩, A60, H⟩ := H
    replace H : ((impl_WaysTo.f kj2 t101 t102).bind fun bt105 => ((spec_WaysTo.f kj2 t101 t102).bind fun bt109 => (if (bt105.2 != bt109.2) = true then (laws_FnWaysTo.j1 kj2 l1 t101 t102 bt105.1 bt105.2 bt109.1 bt109.2 true) else ((laws_ovBlocks.f kj2 bt105.1 bt109.1).bind fun t113 => (if t113 = true then (laws_FnWaysTo.j1 kj2 l1 t101 t102 bt105.1 bt105.2 bt109.1 bt109.2 (!bt105.2)) else (laws_FnWaysTo.j1 kj2 l1 t101 t102 bt105.1 bt105.2 bt109.1 bt109.2 true)))))) = some r := H
    have A6 := Aside0.mk A60
    clear A60
    replace H := Option.bind_eq_some_iff.mp H
    obtain ⟨⟨t105, t108⟩, A70, H⟩ := H
    replace H : ((spec_WaysTo.f kj2 t101 t102).bind fun bt109 => (if (t108 != bt109.2) = true then (laws_FnWaysTo.j1 kj2 l1 t101 t102 t105 t108 bt109.1 bt109.2 true) else ((laws_ovBlocks.f kj2 t105 bt109.1).bind fun t113 => (if t113 = true then (laws_FnWaysTo.j1 kj2 l1 t101 t102 t105 t108 bt109.1 bt109.2 (!t108)) else (laws_FnWaysTo.j1 kj2 l1 t101 t102 t105 t108 bt109.1 bt109.2 true))))) = some r := H
    have A7 := Aside0.mk A70
    clear A70
    replace H := Option.bind_eq_some_iff.mp H
    obtain ⟨⟨t109, t110⟩, A80, H⟩ := H
    replace H : (if (t108 != t110) = true then (laws_FnWaysTo.j1 kj2 l1 t101 t102 t105 t108 t109 t110 true) else ((laws_ovBlocks.f kj2 t105 t109).bind fun t113 => (if t113 = true then (laws_FnWaysTo.j1 kj2 l1 t101 t102 t105 t108 t109 t110 (!t108)) else (laws_FnWaysTo.j1 kj2 l1 t101 t102 t105 t108 t109 t110 true)))) = some r := H
    have A8 := Aside0.mk A80
    clear A80
    have HC9 := Aside0.mk H
    clear H
    go_upto_region 6 with (first | ((with_reducible refine gate_callee (f := 4) rfl ?_); refine goesL_ (some 29) rfl rfl Tryz.func4 (by kernel_rfl) rfl #[.slice A0 l0.length c0] rfl MT ?_; (with_reducible refine (spec_DrawWaysTo.calls kj2 _ _ l0 t101 t102 _ ?side1 ?side2 A6.out).mono ?_); (case side1 => exact KD HR0 HB); (case side2 => exact HC0.out); rintro e w10 ⟨v103, rfl, ho0, hb⟩; refine ⟨_, rfl, ?_⟩; have HO104 := am (Kd.R_lower ho0 (below_size (KL HB))); replace HB := am (below_step (KL HB) hb); (try clear hb); (try clear ho0); obtain ⟨Ao11, co11, eo11⟩ := Kd.R_slice HO104.out; subst eo11) | ((with_reducible refine gate_callee (f := 5) rfl ?_); refine goesL_ (some 35) rfl rfl Tryz.func5 (by kernel_rfl) rfl #[.slice Ao11 t101.length co11, .int .i64 t102] rfl MT ?_; (with_reducible refine (impl_WaysTo.calls kj2 (fun k_ => some k_ = (.slice Ao11 t101.length co11 : Value).ownBlock) _ _ t101 t102 t105 t108 _ ?side1 A7.out).mono ?_); (case side1 => exact Kd.R_V (Kd.R_tight rfl (HO104.out))); rintro e w12 ⟨v106, rfl, ho0, hb⟩; refine ⟨_, rfl, ?_⟩; replace HO104 := am (Kd.R_below (KR HO104) hb); have HO107 := am (Kd.R_lower (Kd.R_mono (ok' := fun k_ => True) ho0 (fun _ hk_ => trivial)) (below_size (KL HB))); replace HB := am (below_step (KL HB) hb); (try clear hb); (try clear ho0)) | ((with_reducible refine gate_callee (f := 6) rfl ?_); refine goesL_ (some 41) rfl rfl Tryz.func6 (by kernel_rfl) rfl #[.slice Ao11 t101.length co11, .int .i64 t102] rfl MT ?_; (with_reducible refine (spec_WaysTo.calls kj2 _ _ t101 t102 t109 t110 _ ?side1 ?side2 A8.out).mono ?_); (case side1 => exact KC (Kd.R_reads' HO104.out).2.2); (case side2 => exact (Kd.R_reads' HO104.out).2.1); rintro e w13 ⟨v111, rfl, ho0, hb⟩; refine ⟨_, rfl, ?_⟩; replace HO104 := am (Kd.R_below (KR HO104) hb); have HO112 := am (Kd.R_lower (Kd.R_new' ho0 (Kd.R_lt (KR HO107))) (below_size (KL HB))); replace HO107 := am (Kd.R_elder' (KR HO107) (Kd.R_base ho0) hb); replace HB := am (below_step (KL HB) hb); (try clear hb); (try clear ho0)))
    (try simp only [Act.put, List.setIfInBounds_toArray, List.set_cons_zero, List.set_cons_succ])
    go_cut [56] (fun v56 wc => ∃ (kq : Nat) (x56_8 : Bool), v56 = .bool x56_8 ∧ Aside0 (laws_FnWaysTo.j1 kq l1 t101 t102 t105 t108 t109 t110 x56_8 = some r) ∧ Aside0 (kq ≤ kj2) ∧ Aside0 (Kd.R k34 34 wc w.heap.size (fun _ => True) (.slice Ao11 t101.length co11) t101) ∧ Aside0 (Kd.R k32 32 wc w.heap.size (fun k_ => some k_ ≠ (v111 : Value).ownBlock) v106 t105) ∧ Aside0 (Kd.R k32 32 wc w.heap.size (fun k_ => some k_ ≠ (v106 : Value).ownBlock) v111 t109) ∧ Aside0 (Below w.heap.size w wc))
    case first =>
     have H := HC9.out
     clear HC9
     by_cases c14 : (t108 != t110) = true
     ·rw [if_pos c14] at H
      have c14b0 : (t108 != t110) = true := c14
      (try (have c14b1 : decide (t108 = t110) = false := by simpa using c14))
      (try (have c14b2 : (t108 == t110) = false := by simpa using c14))
      (try (have c14b3 : ¬ (t108 = t110) := by simpa using c14))
      clear c14
      (first | rw [c14b0] | (simp only [i64_w, i32_w]; rw [c14b0]) | skip)
      have H' := Aside0.mk H
      clear H
      go_wp2
      go_meet
      case rel => exact ⟨_, (true), (by first | rfl | (simp; done) | (simp [*]; done)), H', ⟨by have := HJ2.out; first | omega | exact Nat.le_refl _⟩, ⟨KR HO104⟩, ⟨by (with_reducible repeat (first | apply Kd.R_alloc | apply Kd.R_drewN | apply Kd.R_drew)); exact Kd.R_mono HO107.out (fun _ hk => hk.2)⟩, ⟨by (with_reducible repeat (first | apply Kd.R_alloc | apply Kd.R_drewN | apply Kd.R_drew)); exact Kd.R_mono HO112.out (fun _ hk => hk.2)⟩, ⟨KL HB⟩⟩
     ·rw [if_neg c14] at H
      have c14b0 : (t108 != t110) = false := by simpa using c14
      (try (have c14b1 : decide (t108 = t110) = true := by simpa using c14))
      (try (have c14b2 : (t108 == t110) = true := by simpa using c14))
      clear c14
      (first | rw [c14b0] | (simp only [i64_w, i32_w]; rw [c14b0]) | skip)
      replace H := Option.bind_eq_some_iff.mp H
      obtain ⟨t113, A150, H⟩ := H
      replace H : (if t113 = true then (laws_FnWaysTo.j1 kj2 l1 t101 t102 t105 t108 t109 t110 (!t108)) else (laws_FnWaysTo.j1 kj2 l1 t101 t102 t105 t108 t109 t110 true)) = some r := H
      have A15 := Aside0.mk A150
      clear A150
      by_cases c16 : t113 = true
      ·subst c16
       have H1 : (laws_FnWaysTo.j1 kj2 l1 t101 t102 t105 t108 t109 t110 (!t108)) = some r := by rw [if_pos rfl] at H; exact H
       clear H
       have H := H1
       clear H1
       have H' := Aside0.mk H
       clear H
       obtain ⟨Ao17, co17, eo17⟩ := Kd.R_slice HO107.out
       subst eo17
       obtain ⟨Ao18, co18, eo18⟩ := Kd.R_slice HO112.out
       subst eo18
       go_wp2_with (first | (go_at_call 7; (with_reducible refine (laws_ovBlocks.calls kj2 _ _ t105 _ _ t109 true _ ?side1 ?side2 ?side3 ?side4 A15.out).mono ?_); (case side1 => exact KC (Kd.R_reads' HO107.out).2.2); (case side2 => exact (Kd.R_reads' HO107.out).2.1); (case side3 => exact KC (Kd.R_reads' HO112.out).2.2); (case side4 => exact (Kd.R_reads' HO112.out).2.1); rintro e w' ⟨rfl, ⟨nd, rfl⟩⟩))
       go_meet
       case rel => exact ⟨_, (!t108), (by first | rfl | (simp; done) | (simp [*]; done)), H', ⟨by have := HJ2.out; first | omega | exact Nat.le_refl _⟩, ⟨KR HO104⟩, ⟨by (with_reducible repeat (first | apply Kd.R_alloc | apply Kd.R_drewN | apply Kd.R_drew)); exact Kd.R_mono HO107.out (fun _ hk => hk.2)⟩, ⟨by (with_reducible repeat (first | apply Kd.R_alloc | apply Kd.R_drewN | apply Kd.R_drew)); exact Kd.R_mono HO112.out (fun _ hk => hk.2)⟩, ⟨KL HB⟩⟩
      ·replace c16 := Bool.eq_false_iff.mpr c16
       subst c16
       have H1 : (laws_FnWaysTo.j1 kj2 l1 t101 t102 t105 t108 t109 t110 true) = some r := by rw [if_neg (show ¬ (false = true) by decide)] at H; exact H
       clear H
       have H := H1
       clear H1
       have H' := Aside0.mk H
       clear H
       obtain ⟨Ao19, co19, eo19⟩ := Kd.R_slice HO107.out
       subst eo19
       obtain ⟨Ao20, co20, eo20⟩ := Kd.R_slice HO112.out
       subst eo20
       go_wp2_with (first | (go_at_call 7; (with_reducible refine (laws_ovBlocks.calls kj2 _ _ t105 _ _ t109 false _ ?side1 ?side2 ?side3 ?side4 A15.out).mono ?_); (case side1 => exact KC (Kd.R_reads' HO107.out).2.2); (case side2 => exact (Kd.R_reads' HO107.out).2.1); (case side3 => exact KC (Kd.R_reads' HO112.out).2.2); (case side4 => exact (Kd.R_reads' HO112.out).2.1); rintro e w' ⟨rfl, ⟨nd, rfl⟩⟩))
       go_meet
       case rel => exact ⟨_, (true), (by first | rfl | (simp; done) | (simp [*]; done)), H', ⟨by have := HJ2.out; first | omega | exact Nat.le_refl _⟩, ⟨KR HO104⟩, ⟨by (with_reducible repeat (first | apply Kd.R_alloc | apply Kd.R_drewN | apply Kd.R_drew)); exact Kd.R_mono HO107.out (fun _ hk => hk.2)⟩, ⟨by (with_reducible repeat (first | apply Kd.R_alloc | apply Kd.R_drewN | apply Kd.R_drew)); exact Kd.R_mono HO112.out (fun _ hk => hk.2)⟩, ⟨KL HB⟩⟩
    case rest =>
     clear HC9
     try clear c1
     try clear p2
     try clear c3
     try clear c4
     try clear c4b0
     try clear c4b1
     try clear c5
     try clear c6
     try clear c14
     try clear c14b0
     try clear c14b1
     try clear c14b2
     try clear c16
     try clear p2
     obtain ⟨kq, x56_8, rfl, HA, HJ8, HO_5, HO_7, HO_9, HB⟩ := hcut
     cases kq with
     | zero => exact absurd HA.out (by simp [laws_FnWaysTo.j1])
     | succ kj8 =>
      have H := HA.out
      clear HA
      simp only [laws_FnWaysTo.j1] at H
      by_cases c21 : x56_8 = true
      ·subst c21
       have H1 : (if (t108 == t110) = true then ((laws_ovBlocks.f kj8 t105 t109).bind fun t114 => (some t114)) else (some false)) = some r := by rw [if_pos rfl] at H; exact H
       clear H
       have H := H1
       clear H1
       by_cases c22 : (t108 == t110) = true
       ·rw [if_pos c22] at H
        have c22b0 : (t108 == t110) = true := c22
        (try (have c22b1 : decide (t108 = t110) = true := by simpa using c22))
        (try (have c22b2 : (t108 == t110) = true := by simpa using c22))
        clear c22
        replace H := Option.bind_eq_some_iff.mp H
        obtain ⟨t114, A230, H⟩ := H
        replace H : (some t114) = some r := H
        have A23 := Aside0.mk A230
        clear A230
        obtain rfl := Option.some.inj H
        obtain ⟨Ao24, co24, eo24⟩ := Kd.R_slice HO_7.out
        subst eo24
        obtain ⟨Ao25, co25, eo25⟩ := Kd.R_slice HO_9.out
        subst eo25
        go_wp2_with (first | (go_at_call 7; (with_reducible refine (laws_ovBlocks.calls kj8 _ _ t105 _ _ t109 t114 _ ?side1 ?side2 ?side3 ?side4 A23.out).mono ?_); (case side1 => exact KC (Kd.R_reads' HO_7.out).2.2); (case side2 => exact (Kd.R_reads' HO_7.out).2.1); (case side3 => exact KC (Kd.R_reads' HO_9.out).2.2); (case side4 => exact (Kd.R_reads' HO_9.out).2.1); rintro e w' ⟨rfl, ⟨nd, rfl⟩⟩))
        go_ret
        exact ⟨ER, KL HB⟩
       ·rw [if_neg c22] at H
        have c22b0 : (t108 == t110) = false := by simpa using c22
        (try (have c22b1 : decide (t108 = t110) = false := by simpa using c22))
        (try (have c22b2 : (t108 == t110) = false := by simpa using c22))
        (try (have c22b3 : ¬ (t108 = t110) := by simpa using c22))
        clear c22
        exact absurd ((Option.some.inj H).trans HR_.out) (by decide)
      ·replace c21 := Bool.eq_false_iff.mpr c21
       subst c21
       have H1 : ((spec_DrawWaysLead.f kj8 l1).bind fun bt115 => (laws_FnWaysTo.l0 kj8 t101 t102 t105 bt115.2 0 true (-1))) = some r := by rw [if_neg (show ¬ (false = true) by decide)] at H; exact H
       clear H
       have H := H1
       clear H1
       replace H := Option.bind_eq_some_iff.mp H
       obtain ⟨⟨t115, t116⟩, A260, H⟩ := H
       replace H : (laws_FnWaysTo.l0 kj8 t101 t102 t105 t116 0 true (-1)) = some r := H
       have A26 := Aside0.mk A260
       clear A260
       have H' := Aside0.mk H
       clear H
       go_wp2_with (first | ((with_reducible refine gate_callee (f := 8) rfl ?_); refine goesL_ (some 67) rfl rfl Tryz.func8 (by kernel_rfl) rfl #[.slice A1 l1.length c1] rfl MT ?_; (with_reducible refine (spec_DrawWaysLead.calls kj8 _ _ l1 t115 t116 _ ?side1 ?side2 A26.out).mono ?_); (case side1 => exact KD HR1 HB); (case side2 => exact HC1.out); rintro e w27 ⟨v117, rfl, ho0, hb⟩; refine ⟨_, rfl, ?_⟩; replace HO_7 := am (Kd.R_below (KR HO_7) hb); replace HO_9 := am (Kd.R_below (KR HO_9) hb); have HO118 := am (Kd.R_lower (Kd.R_new' ho0 (Kd.R_lt (KR HO_5))) (below_size (KL HB))); replace HO_5 := am (Kd.R_elder' (KR HO_5) (Kd.R_base ho0) hb); replace HB := am (below_step (KL HB) hb); (try clear hb); (try clear ho0)))
       go_loopg [13, 14, 15] kj8 (fun kq v13 v14 v15 w' => ∃ (x13_3 : Int) (x14_3 : Bool) (x15_3 : Int), v13 = .int .i64 x13_3 ∧ v14 = .bool x14_3 ∧ v15 = .int .i64 x15_3 ∧ Aside0 (laws_FnWaysTo.l0 kq t101 t102 t105 t116 x13_3 x14_3 x15_3 = some r) ∧ Aside0 (kq ≤ kj8) ∧ Aside0 (Kd.R k34 34 w' w.heap.size (fun _ => True) (.slice Ao11 t101.length co11) t101) ∧ Aside0 (Kd.R k32 32 w' w.heap.size (fun _ => True) v106 t105) ∧ Aside0 (Below w.heap.size w w'))
       case atStart => exact ⟨(0), (true), ((-1)), (by first | rfl | (simp; done) | (simp [*]; done)), (by first | rfl | (simp; done) | (simp [*]; done)), (by first | rfl | (simp; done) | (simp [*]; done)), H', ⟨Nat.le_refl _⟩, ⟨by (with_reducible repeat (first | apply Kd.R_alloc | apply Kd.R_drewN | apply Kd.R_drew)); exact Kd.R_mono HO_5.out (fun _ hk => trivial)⟩, ⟨by (with_reducible repeat (first | apply Kd.R_alloc | apply Kd.R_drewN | apply Kd.R_drew)); exact Kd.R_mono HO_7.out (fun _ hk => trivial)⟩, ⟨KL HB⟩⟩
       case round =>
        clear H'
        try clear c1
        try clear c2
        try clear p2
        try clear c3
        try clear c4
        try clear c4b0
        try clear c4b1
        try clear c5
        try clear c6
        try clear c8
        try clear c14
        try clear c14b0
        try clear c14b1
        try clear c14b2
        try clear c16
        try clear c21
        try clear c22
        try clear c22b0
        try clear c22b1
        try clear c22b2
        try clear p2
        obtain ⟨x13_3, x14_3, x15_3, rfl, rfl, rfl, HA, HK3, HO_5, HO_7, HB⟩ := hrel
        cases gk with
        | zero => exact absurd HA.out (by simp [laws_FnWaysTo.l0])
        | succ k3 =>
         have H := HA.out
         clear HA
         simp only [laws_FnWaysTo.l0] at H
         by_cases c28 : x15_3 ≤ 2
         ·rw [if_pos c28] at H
          have c28b0 : decide (x15_3 ≤ 2) = true := decide_eq_true c28
          clear c28
          replace H := Option.bind_eq_some_iff.mp H
          obtain ⟨⟨t119, t122⟩, A290, H⟩ := H
          replace H : (if x14_3 = true then ((impl_SetSize.f k3 t119).bind fun t123 => (laws_FnWaysTo.l0 k3 t101 t102 t105 t116 (wrap64 (x13_3 + t123)) t122 (wrap64 (x15_3 + 1)))) else ((impl_SetSize.f k3 t119).bind fun t124 => (laws_FnWaysTo.l0 k3 t101 t102 t105 t116 (wrap64 (x13_3 + t124)) false (wrap64 (x15_3 + 1))))) = some r := H
          have A29 := Aside0.mk A290
          clear A290
          by_cases c30 : x14_3 = true
          ·subst c30
           have H1 : ((impl_SetSize.f k3 t119).bind fun t123 => (laws_FnWaysTo.l0 k3 t101 t102 t105 t116 (wrap64 (x13_3 + t123)) t122 (wrap64 (x15_3 + 1)))) = some r := by rw [if_pos rfl] at H; exact H
           clear H
           have H := H1
           clear H1
           replace H := Option.bind_eq_some_iff.mp H
           obtain ⟨t123, A310, H⟩ := H
           replace H : (laws_FnWaysTo.l0 k3 t101 t102 t105 t116 (wrap64 (x13_3 + t123)) t122 (wrap64 (x15_3 + 1))) = some r := H
           have A31 := Aside0.mk A310
           clear A310
           have H' := Aside0.mk H
           clear H
           go_wp2_with (first | ((with_reducible refine gate_callee (f := 5) rfl ?_); refine goesL_ (some 77) rfl rfl Tryz.func5 (by kernel_rfl) rfl #[.slice Ao11 t101.length co11, .int .i64 x15_3] rfl MT ?_; (with_reducible refine (impl_WaysTo.calls k3 (fun k_ => some k_ = (.slice Ao11 t101.length co11 : Value).ownBlock) _ _ t101 x15_3 t119 t122 _ ?side1 A29.out).mono ?_); (case side1 => exact Kd.R_V (Kd.R_tight rfl (Kd.R_apart' (HO_5.out) (Kd.R_typed HO_7.out) (by decide)))); rintro e w32 ⟨v120, rfl, ho0, hb⟩; refine ⟨_, rfl, ?_⟩; replace HO_5 := am (Kd.R_below (KR HO_5) hb); have HO121 := am (Kd.R_lower (Kd.R_new' (Kd.R_mono (ok' := fun k_ => True) ho0 (fun _ hk_ => trivial)) (Kd.R_lt (KR HO_7))) (below_size (KL HB))); replace HO_7 := am (Kd.R_elder' (KR HO_7) (Kd.R_base ho0) hb); replace HB := am (below_step (KL HB) hb); (try clear hb); (try clear ho0); obtain ⟨Ao33, co33, eo33⟩ := Kd.R_slice HO121.out; subst eo33) | ((with_reducible refine gate_callee (f := 9) rfl ?_); refine goesL_ (some 86) rfl rfl Tryz.func9 (by kernel_rfl) rfl #[.slice Ao33 t119.length co33] rfl MT ?_; (with_reducible refine (impl_SetSize.calls k3 _ _ t119 t123 _ ?side1 ?side2 A31.out).mono ?_); (case side1 => exact KC (Kd.R_reads' HO121.out).2.2); (case side2 => exact (Kd.R_reads' HO121.out).2.1); rintro e w34 ⟨rfl, hb⟩; refine ⟨_, rfl, ?_⟩; replace HO_5 := am (Kd.R_below (KR HO_5) hb); replace HO_7 := am (Kd.R_below (KR HO_7) hb); replace HO121 := am (Kd.R_below (KR HO121) hb); replace HB := am (below_step (KL HB) hb); (try clear hb)))
           go_roundg k3
           case measure => have := HJ2.out; have := HJ8.out; have := HK3.out; omega
           case rel => exact ⟨(wrap64 (x13_3 + t123)), (t122), (wrap64 (x15_3 + 1)), (by first | rfl | (simp; done) | (simp [*]; done)), (by first | rfl | (simp; done) | (simp [*]; done)), (by first | rfl | (simp; done) | (simp [*]; done)), H', ⟨by have := HJ2.out; have := HJ8.out; have := HK3.out; omega⟩, ⟨KR HO_5⟩, ⟨by (with_reducible repeat (first | apply Kd.R_alloc | apply Kd.R_drewN | apply Kd.R_drew)); exact Kd.R_mono HO_7.out (fun _ hk => trivial)⟩, ⟨KL HB⟩⟩
          ·replace c30 := Bool.eq_false_iff.mpr c30
           subst c30
           have H1 : ((impl_SetSize.f k3 t119).bind fun t124 => (laws_FnWaysTo.l0 k3 t101 t102 t105 t116 (wrap64 (x13_3 + t124)) false (wrap64 (x15_3 + 1)))) = some r := by rw [if_neg (show ¬ (false = true) by decide)] at H; exact H
           clear H
           have H := H1
           clear H1
           replace H := Option.bind_eq_some_iff.mp H
           obtain ⟨t124, A350, H⟩ := H
           replace H : (laws_FnWaysTo.l0 k3 t101 t102 t105 t116 (wrap64 (x13_3 + t124)) false (wrap64 (x15_3 + 1))) = some r := H
           have A35 := Aside0.mk A350
           clear A350
           have H' := Aside0.mk H
           clear H
           go_wp2_with (first | ((with_reducible refine gate_callee (f := 5) rfl ?_); refine goesL_ (some 77) rfl rfl Tryz.func5 (by kernel_rfl) rfl #[.slice Ao11 t101.length co11, .int .i64 x15_3] rfl MT ?_; (with_reducible refine (impl_WaysTo.calls k3 (fun k_ => some k_ = (.slice Ao11 t101.length co11 : Value).ownBlock) _ _ t101 x15_3 t119 t122 _ ?side1 A29.out).mono ?_); (case side1 => exact Kd.R_V (Kd.R_tight rfl (Kd.R_apart' (HO_5.out) (Kd.R_typed HO_7.out) (by decide)))); rintro e w36 ⟨v120, rfl, ho0, hb⟩; refine ⟨_, rfl, ?_⟩; replace HO_5 := am (Kd.R_below (KR HO_5) hb); have HO121 := am (Kd.R_lower (Kd.R_new' (Kd.R_mono (ok' := fun k_ => True) ho0 (fun _ hk_ => trivial)) (Kd.R_lt (KR HO_7))) (below_size (KL HB))); replace HO_7 := am (Kd.R_elder' (KR HO_7) (Kd.R_base ho0) hb); replace HB := am (below_step (KL HB) hb); (try clear hb); (try clear ho0); obtain ⟨Ao37, co37, eo37⟩ := Kd.R_slice HO121.out; subst eo37) | ((with_reducible refine gate_callee (f := 9) rfl ?_); refine goesL_ (some 86) rfl rfl Tryz.func9 (by kernel_rfl) rfl #[.slice Ao37 t119.length co37] rfl MT ?_; (with_reducible refine (impl_SetSize.calls k3 _ _ t119 t124 _ ?side1 ?side2 A35.out).mono ?_); (case side1 => exact KC (Kd.R_reads' HO121.out).2.2); (case side2 => exact (Kd.R_reads' HO121.out).2.1); rintro e w38 ⟨rfl, hb⟩; refine ⟨_, rfl, ?_⟩; replace HO_5 := am (Kd.R_below (KR HO_5) hb); replace HO_7 := am (Kd.R_below (KR HO_7) hb); replace HO121 := am (Kd.R_below (KR HO121) hb); replace HB := am (below_step (KL HB) hb); (try clear hb)))
           go_roundg k3
           case measure => have := HJ2.out; have := HJ8.out; have := HK3.out; omega
           case rel => exact ⟨(wrap64 (x13_3 + t124)), (false), (wrap64 (x15_3 + 1)), (by first | rfl | (simp; done) | (simp [*]; done)), (by first | rfl | (simp; done) | (simp [*]; done)), (by first | rfl | (simp; done) | (simp [*]; done)), H', ⟨by have := HJ2.out; have := HJ8.out; have := HK3.out; omega⟩, ⟨KR HO_5⟩, ⟨by (with_reducible repeat (first | apply Kd.R_alloc | apply Kd.R_drewN | apply Kd.R_drew)); exact Kd.R_mono HO_7.out (fun _ hk => trivial)⟩, ⟨KL HB⟩⟩
         ·rw [if_neg c28] at H
          have c28b0 : decide (x15_3 ≤ 2) = false := decide_eq_false c28
          clear c28
          have H' := Aside0.mk H
          clear H
          go_wp2
          go_loopg [14, 18] k3 (fun kq v14 v18 w' => ∃ (x14_4 : Bool) (x18_4 : Int), v14 = .bool x14_4 ∧ v18 = .int .i64 x18_4 ∧ Aside0 (laws_FnWaysTo.l1 kq t101 t102 t105 t116 x13_3 x14_4 x18_4 = some r) ∧ Aside0 (kq ≤ k3) ∧ Aside0 (Kd.R k34 34 w' w.heap.size (fun _ => True) (.slice Ao11 t101.length co11) t101) ∧ Aside0 (Kd.R k32 32 w' w.heap.size (fun _ => True) v106 t105) ∧ Aside0 (Below w.heap.size w w'))
          case atStart => exact ⟨(x14_3), (0), (by first | rfl | (simp; done) | (simp [*]; done)), (by first | rfl | (simp; done) | (simp [*]; done)), H', ⟨Nat.le_refl _⟩, ⟨KR HO_5⟩, ⟨KR HO_7⟩, ⟨KL HB⟩⟩
          case round =>
           clear H'
           try clear c1
           try clear c2
           try clear p2
           try clear c3
           try clear c4
           try clear c4b0
           try clear c4b1
           try clear c5
           try clear c6
           try clear p6
           try clear c8
           try clear c9
           try clear c14
           try clear c14b0
           try clear c14b1
           try clear c14b2
           try clear c16
           try clear c21
           try clear c22
           try clear c22b0
           try clear c22b1
           try clear c22b2
           try clear c28
           try clear c28b0
           try clear c30
           try clear p2
           obtain ⟨x14_4, x18_4, rfl, rfl, HA, HK4, HO_5, HO_7, HB⟩ := hrel
           cases gk with
           | zero => exact absurd HA.out (by simp [laws_FnWaysTo.l1])
           | succ k4 =>
            have H := HA.out
            clear HA
            simp only [laws_FnWaysTo.l1] at H
            by_cases c39 : x18_4 < (t101.length : Int)
            ·rw [if_pos c39] at H
             have c39b0 : decide (x18_4 < (t101.length : Int)) = true := decide_eq_true c39
             clear c39
             by_cases c40 : x14_4 = true
             ·subst c40
              have H1 : (if 0 ≤ x18_4 then (laws_FnWaysTo.l1 k4 t101 t102 t105 t116 x13_3 (decide (((rd_T34 t101 x18_4).f1) ≤ 2)) (wrap64 (x18_4 + 1))) else (none)) = some r := by rw [if_pos rfl] at H; exact H
              clear H
              have H := H1
              clear H1
              by_cases c41 : 0 ≤ x18_4
              ·rw [if_pos c41] at H
               have c41b0 : decide (0 ≤ x18_4) = true := decide_eq_true c41
               clear c41
               have H' := Aside0.mk H
               clear H
               have p125 : 0 ≤ (x18_4 : Int) := OD
               have q125 : x18_4 < (t101.length : Int) := OD
               obtain ⟨ad125, e125, hx125_0, hx125_1, hx125_2⟩ := at_T34 (Kd.R_reads' HO_5.out).2.2 x18_4 p125 q125
               cases e125
               replace p125 := eq_true p125
               replace q125 := eq_true q125
               go_wp2
               go_roundg k4
               case measure => have := HJ2.out; have := HJ8.out; have := HK3.out; have := HK4.out; omega
               case rel => exact ⟨(decide (((rd_T34 t101 x18_4).f1) ≤ 2)), (wrap64 (x18_4 + 1)), (by first | rfl | (simp; done) | (simp [*]; done)), (by first | rfl | (simp; done) | (simp [*]; done)), H', ⟨by have := HJ2.out; have := HJ8.out; have := HK3.out; have := HK4.out; omega⟩, ⟨KR HO_5⟩, ⟨KR HO_7⟩, ⟨KL HB⟩⟩
              ·rw [if_neg c41] at H
               exact absurd H (by simp)
             ·replace c40 := Bool.eq_false_iff.mpr c40
              subst c40
              have H1 : (laws_FnWaysTo.l1 k4 t101 t102 t105 t116 x13_3 false (wrap64 (x18_4 + 1))) = some r := by rw [if_neg (show ¬ (false = true) by decide)] at H; exact H
              clear H
              have H := H1
              clear H1
              have H' := Aside0.mk H
              clear H
              go_wp2
              go_roundg k4
              case measure => have := HJ2.out; have := HJ8.out; have := HK3.out; have := HK4.out; omega
              case rel => exact ⟨(false), (wrap64 (x18_4 + 1)), (by first | rfl | (simp; done) | (simp [*]; done)), (by first | rfl | (simp; done) | (simp [*]; done)), H', ⟨by have := HJ2.out; have := HJ8.out; have := HK3.out; have := HK4.out; omega⟩, ⟨KR HO_5⟩, ⟨KR HO_7⟩, ⟨KL HB⟩⟩
            ·rw [if_neg c39] at H
             have c39b0 : decide (x18_4 < (t101.length : Int)) = false := decide_eq_false c39
             clear c39
             replace H := Option.bind_eq_some_iff.mp H
             obtain ⟨t126, A420, H⟩ := H
             replace H : (if t126 = true then ((impl_SetHas.f k4 t105 t116).bind fun t127 => (if t116 ≥ 0 then (if t116 ≤ 4294967295 then ((impl_WaysLead.f k4 t101 t116).bind fun t128 => (if (t127 == (t128 == t102)) = true then (if x14_4 = true then (some (x13_3 == 4294967296)) else (some true)) else (some false))) else (if (t127 == false) = true then (if x14_4 = true then (some (x13_3 == 4294967296)) else (some true)) else (some false))) else (if (t127 == false) = true then (if x14_4 = true then (some (x13_3 == 4294967296)) else (some true)) else (some false)))) else (some false)) = some r := H
             have A42 := Aside0.mk A420
             clear A420
             by_cases c43 : t126 = true
             ·subst c43
              have H1 : ((impl_SetHas.f k4 t105 t116).bind fun t127 => (if t116 ≥ 0 then (if t116 ≤ 4294967295 then ((impl_WaysLead.f k4 t101 t116).bind fun t128 => (if (t127 == (t128 == t102)) = true then (if x14_4 = true then (some (x13_3 == 4294967296)) else (some true)) else (some false))) else (if (t127 == false) = true then (if x14_4 = true then (some (x13_3 == 4294967296)) else (some true)) else (some false))) else (if (t127 == false) = true then (if x14_4 = true then (some (x13_3 == 4294967296)) else (some true)) else (some false)))) = some r := by rw [if_pos rfl] at H; exact H
              clear H
              have H := H1
              clear H1
              replace H := Option.bind_eq_some_iff.mp H
              obtain ⟨t127, A440, H⟩ := H
              replace H : (if t116 ≥ 0 then (if t116 ≤ 4294967295 then ((impl_WaysLead.f k4 t101 t116).bind fun t128 => (if (t127 == (t128 == t102)) = true then (if x14_4 = true then (some (x13_3 == 4294967296)) else (some true)) else (some false))) else (if (t127 == false) = true then (if x14_4 = true then (some (x13_3 == 4294967296)) else (some true)) else (some false))) else (if (t127 == false) = true then (if x14_4 = true then (some (x13_3 == 4294967296)) else (some true)) else (some false))) = some r := H
              have A44 := Aside0.mk A440
              clear A440
              by_cases c45 : t116 ≥ 0
              ·rw [if_pos c45] at H
               have c45b0 : decide (0 ≤ t116) = true := decide_eq_true c45
               clear c45
               by_cases c46 : t116 ≤ 4294967295
               ·rw [if_pos c46] at H
                have c46b0 : decide (t116 ≤ 4294967295) = true := decide_eq_true c46
                clear c46
                replace H := Option.bind_eq_some_iff.mp H
                obtain ⟨t128, A470, H⟩ := H
                replace H : (if (t127 == (t128 == t102)) = true then (if x14_4 = true then (some (x13_3 == 4294967296)) else (some true)) else (some false)) = some r := H
                have A47 := Aside0.mk A470
                clear A470
                by_cases c48 : (t127 == (t128 == t102)) = true
                ·rw [if_pos c48] at H
                 have c48b0 : (t127 == (t128 == t102)) = true := c48
                 (try (have c48b1 : decide (t127 = (t128 == t102)) = true := by simpa using c48))
                 (try (have c48b2 : (t127 == (t128 == t102)) = true := by simpa using c48))
                 clear c48
                 by_cases c49 : x14_4 = true
                 ·subst c49
                  have H1 : (some (x13_3 == 4294967296)) = some r := by rw [if_pos rfl] at H; exact H
                  clear H
                  have H := H1
                  clear H1
                  obtain rfl := Option.some.inj H
                  obtain ⟨Ao50, co50, eo50⟩ := Kd.R_slice HO_7.out
                  subst eo50
                  go_wp2_with (first | ((with_reducible refine gate_callee (f := 10) rfl ?_); refine goesL_ (some 104) rfl rfl Tryz.func10 (by kernel_rfl) rfl #[.slice Ao50 t105.length co50] rfl MT ?_; (with_reducible refine (impl_SetOk.calls k4 _ _ t105 true _ ?side1 ?side2 A42.out).mono ?_); (case side1 => exact KC (Kd.R_reads' HO_7.out).2.2); (case side2 => exact (Kd.R_reads' HO_7.out).2.1); rintro e w51 ⟨rfl, hb⟩; refine ⟨_, rfl, ?_⟩; replace HO_5 := am (Kd.R_below (KR HO_5) hb); replace HO_7 := am (Kd.R_below (KR HO_7) hb); replace HB := am (below_step (KL HB) hb); (try clear hb)) | (go_at_call 11; (with_reducible refine (impl_SetHas.calls k4 _ _ t105 t116 t127 _ ?side1 ?side2 A44.out).mono ?_); (case side1 => exact KC (Kd.R_reads' HO_7.out).2.2); (case side2 => exact (Kd.R_reads' HO_7.out).2.1); rintro e w52 ⟨rfl, hb⟩; replace HO_5 := am (Kd.R_below (KR HO_5) hb); replace HO_7 := am (Kd.R_below (KR HO_7) hb); replace HB := am (below_step (KL HB) hb); (try clear hb)) | (go_at_call 12; (with_reducible refine (impl_WaysLead.calls k4 _ _ t101 t116 t128 _ ?side1 ?side2 A47.out).mono ?_); (case side1 => exact KC (Kd.R_reads' HO_5.out).2.2); (case side2 => exact (Kd.R_reads' HO_5.out).2.1); rintro e w53 ⟨rfl, hb⟩; replace HO_5 := am (Kd.R_below (KR HO_5) hb); replace HO_7 := am (Kd.R_below (KR HO_7) hb); replace HB := am (below_step (KL HB) hb); (try clear hb)))
                  go_ret
                  exact ⟨ER, KL HB⟩
                 ·replace c49 := Bool.eq_false_iff.mpr c49
                  subst c49
                  have H1 : (some true) = some r := by rw [if_neg (show ¬ (false = true) by decide)] at H; exact H
                  clear H
                  have H := H1
                  clear H1
                  obtain rfl := Option.some.inj H
                  obtain ⟨Ao54, co54, eo54⟩ := Kd.R_slice HO_7.out
                  subst eo54
                  go_wp2_with (first | ((with_reducible refine gate_callee (f := 10) rfl ?_); refine goesL_ (some 104) rfl rfl Tryz.func10 (by kernel_rfl) rfl #[.slice Ao54 t105.length co54] rfl MT ?_; (with_reducible refine (impl_SetOk.calls k4 _ _ t105 true _ ?side1 ?side2 A42.out).mono ?_); (case side1 => exact KC (Kd.R_reads' HO_7.out).2.2); (case side2 => exact (Kd.R_reads' HO_7.out).2.1); rintro e w55 ⟨rfl, hb⟩; refine ⟨_, rfl, ?_⟩; replace HO_5 := am (Kd.R_below (KR HO_5) hb); replace HO_7 := am (Kd.R_below (KR HO_7) hb); replace HB := am (below_step (KL HB) hb); (try clear hb)) | (go_at_call 11; (with_reducible refine (impl_SetHas.calls k4 _ _ t105 t116 t127 _ ?side1 ?side2 A44.out).mono ?_); (case side1 => exact KC (Kd.R_reads' HO_7.out).2.2); (case side2 => exact (Kd.R_reads' HO_7.out).2.1); rintro e w56 ⟨rfl, hb⟩; replace HO_5 := am (Kd.R_below (KR HO_5) hb); replace HO_7 := am (Kd.R_below (KR HO_7) hb); replace HB := am (below_step (KL HB) hb); (try clear hb)) | (go_at_call 12; (with_reducible refine (impl_WaysLead.calls k4 _ _ t101 t116 t128 _ ?side1 ?side2 A47.out).mono ?_); (case side1 => exact KC (Kd.R_reads' HO_5.out).2.2); (case side2 => exact (Kd.R_reads' HO_5.out).2.1); rintro e w57 ⟨rfl, hb⟩; replace HO_5 := am (Kd.R_below (KR HO_5) hb); replace HO_7 := am (Kd.R_below (KR HO_7) hb); replace HB := am (below_step (KL HB) hb); (try clear hb)))
                  go_ret
                  exact ⟨ER, KL HB⟩
                ·rw [if_neg c48] at H
                 have c48b0 : (t127 == (t128 == t102)) = false := by simpa using c48
                 (try (have c48b1 : decide (t127 = (t128 == t102)) = false := by simpa using c48))
                 (try (have c48b2 : (t127 == (t128 == t102)) = false := by simpa using c48))
                 (try (have c48b3 : ¬ (t127 = (t128 == t102)) := by simpa using c48))
                 clear c48
                 exact absurd ((Option.some.inj H).trans HR_.out) (by decide)
               ·rw [if_neg c46] at H
                have c46b0 : decide (t116 ≤ 4294967295) = false := decide_eq_false c46
                clear c46
                by_cases c58 : (t127 == false) = true
                ·rw [if_pos c58] at H
                 have c58b0 : (t127 == false) = true := c58
                 (try (have c58b1 : decide (t127 = false) = true := by simpa using c58))
                 (try (have c58b2 : (t127 == false) = true := by simpa using c58))
                 clear c58
                 by_cases c59 : x14_4 = true
                 ·subst c59
                  have H1 : (some (x13_3 == 4294967296)) = some r := by rw [if_pos rfl] at H; exact H
                  clear H
                  have H := H1
                  clear H1
                  obtain rfl := Option.some.inj H
                  obtain ⟨Ao60, co60, eo60⟩ := Kd.R_slice HO_7.out
                  subst eo60
                  go_wp2_with (first | ((with_reducible refine gate_callee (f := 10) rfl ?_); refine goesL_ (some 104) rfl rfl Tryz.func10 (by kernel_rfl) rfl #[.slice Ao60 t105.length co60] rfl MT ?_; (with_reducible refine (impl_SetOk.calls k4 _ _ t105 true _ ?side1 ?side2 A42.out).mono ?_); (case side1 => exact KC (Kd.R_reads' HO_7.out).2.2); (case side2 => exact (Kd.R_reads' HO_7.out).2.1); rintro e w61 ⟨rfl, hb⟩; refine ⟨_, rfl, ?_⟩; replace HO_5 := am (Kd.R_below (KR HO_5) hb); replace HO_7 := am (Kd.R_below (KR HO_7) hb); replace HB := am (below_step (KL HB) hb); (try clear hb)) | (go_at_call 11; (with_reducible refine (impl_SetHas.calls k4 _ _ t105 t116 t127 _ ?side1 ?side2 A44.out).mono ?_); (case side1 => exact KC (Kd.R_reads' HO_7.out).2.2); (case side2 => exact (Kd.R_reads' HO_7.out).2.1); rintro e w62 ⟨rfl, hb⟩; replace HO_5 := am (Kd.R_below (KR HO_5) hb); replace HO_7 := am (Kd.R_below (KR HO_7) hb); replace HB := am (below_step (KL HB) hb); (try clear hb)))
                  go_ret
                  exact ⟨ER, KL HB⟩
                 ·replace c59 := Bool.eq_false_iff.mpr c59
                  subst c59
                  have H1 : (some true) = some r := by rw [if_neg (show ¬ (false = true) by decide)] at H; exact H
                  clear H
                  have H := H1
                  clear H1
                  obtain rfl := Option.some.inj H
                  obtain ⟨Ao63, co63, eo63⟩ := Kd.R_slice HO_7.out
                  subst eo63
                  go_wp2_with (first | ((with_reducible refine gate_callee (f := 10) rfl ?_); refine goesL_ (some 104) rfl rfl Tryz.func10 (by kernel_rfl) rfl #[.slice Ao63 t105.length co63] rfl MT ?_; (with_reducible refine (impl_SetOk.calls k4 _ _ t105 true _ ?side1 ?side2 A42.out).mono ?_); (case side1 => exact KC (Kd.R_reads' HO_7.out).2.2); (case side2 => exact (Kd.R_reads' HO_7.out).2.1); rintro e w64 ⟨rfl, hb⟩; refine ⟨_, rfl, ?_⟩; replace HO_5 := am (Kd.R_below (KR HO_5) hb); replace HO_7 := am (Kd.R_below (KR HO_7) hb); replace HB := am (below_step (KL HB) hb); (try clear hb)) | (go_at_call 11; (with_reducible refine (impl_SetHas.calls k4 _ _ t105 t116 t127 _ ?side1 ?side2 A44.out).mono ?_); (case side1 => exact KC (Kd.R_reads' HO_7.out).2.2); (case side2 => exact (Kd.R_reads' HO_7.out).2.1); rintro e w65 ⟨rfl, hb⟩; replace HO_5 := am (Kd.R_below (KR HO_5) hb); replace HO_7 := am (Kd.R_below (KR HO_7) hb); replace HB := am (below_step (KL HB) hb); (try clear hb)))
                  go_ret
                  exact ⟨ER, KL HB⟩
                ·rw [if_neg c58] at H
                 have c58b0 : (t127 == false) = false := by simpa using c58
                 (try (have c58b1 : decide (t127 = false) = false := by simpa using c58))
                 (try (have c58b2 : (t127 == false) = false := by simpa using c58))
                 (try (have c58b3 : ¬ (t127 = false) := by simpa using c58))
                 clear c58
                 exact absurd ((Option.some.inj H).trans HR_.out) (by decide)
              ·rw [if_neg c45] at H
               have c45b0 : decide (0 ≤ t116) = false := decide_eq_false c45
               clear c45
               by_cases c66 : (t127 == false) = true
               ·rw [if_pos c66] at H
                have c66b0 : (t127 == false) = true := c66
                (try (have c66b1 : decide (t127 = false) = true := by simpa using c66))
                (try (have c66b2 : (t127 == false) = true := by simpa using c66))
                clear c66
                by_cases c67 : x14_4 = true
                ·subst c67
                 have H1 : (some (x13_3 == 4294967296)) = some r := by rw [if_pos rfl] at H; exact H
                 clear H
                 have H := H1
                 clear H1
                 obtain rfl := Option.some.inj H
                 obtain ⟨Ao68, co68, eo68⟩ := Kd.R_slice HO_7.out
                 subst eo68
                 go_wp2_with (first | ((with_reducible refine gate_callee (f := 10) rfl ?_); refine goesL_ (some 104) rfl rfl Tryz.func10 (by kernel_rfl) rfl #[.slice Ao68 t105.length co68] rfl MT ?_; (with_reducible refine (impl_SetOk.calls k4 _ _ t105 true _ ?side1 ?side2 A42.out).mono ?_); (case side1 => exact KC (Kd.R_reads' HO_7.out).2.2); (case side2 => exact (Kd.R_reads' HO_7.out).2.1); rintro e w69 ⟨rfl, hb⟩; refine ⟨_, rfl, ?_⟩; replace HO_5 := am (Kd.R_below (KR HO_5) hb); replace HO_7 := am (Kd.R_below (KR HO_7) hb); replace HB := am (below_step (KL HB) hb); (try clear hb)) | (go_at_call 11; (with_reducible refine (impl_SetHas.calls k4 _ _ t105 t116 t127 _ ?side1 ?side2 A44.out).mono ?_); (case side1 => exact KC (Kd.R_reads' HO_7.out).2.2); (case side2 => exact (Kd.R_reads' HO_7.out).2.1); rintro e w70 ⟨rfl, hb⟩; replace HO_5 := am (Kd.R_below (KR HO_5) hb); replace HO_7 := am (Kd.R_below (KR HO_7) hb); replace HB := am (below_step (KL HB) hb); (try clear hb)))
                 go_ret
                 exact ⟨ER, KL HB⟩
                ·replace c67 := Bool.eq_false_iff.mpr c67
                 subst c67
                 have H1 : (some true) = some r := by rw [if_neg (show ¬ (false = true) by decide)] at H; exact H
                 clear H
                 have H := H1
                 clear H1
                 obtain rfl := Option.some.inj H
                 obtain ⟨Ao71, co71, eo71⟩ := Kd.R_slice HO_7.out
                 subst eo71
                 go_wp2_with (first | ((with_reducible refine gate_callee (f := 10) rfl ?_); refine goesL_ (some 104) rfl rfl Tryz.func10 (by kernel_rfl) rfl #[.slice Ao71 t105.length co71] rfl MT ?_; (with_reducible refine (impl_SetOk.calls k4 _ _ t105 true _ ?side1 ?side2 A42.out).mono ?_); (case side1 => exact KC (Kd.R_reads' HO_7.out).2.2); (case side2 => exact (Kd.R_reads' HO_7.out).2.1); rintro e w72 ⟨rfl, hb⟩; refine ⟨_, rfl, ?_⟩; replace HO_5 := am (Kd.R_below (KR HO_5) hb); replace HO_7 := am (Kd.R_below (KR HO_7) hb); replace HB := am (below_step (KL HB) hb); (try clear hb)) | (go_at_call 11; (with_reducible refine (impl_SetHas.calls k4 _ _ t105 t116 t127 _ ?side1 ?side2 A44.out).mono ?_); (case side1 => exact KC (Kd.R_reads' HO_7.out).2.2); (case side2 => exact (Kd.R_reads' HO_7.out).2.1); rintro e w73 ⟨rfl, hb⟩; replace HO_5 := am (Kd.R_below (KR HO_5) hb); replace HO_7 := am (Kd.R_below (KR HO_7) hb); replace HB := am (below_step (KL HB) hb); (try clear hb)))
                 go_ret
                 exact ⟨ER, KL HB⟩
               ·rw [if_neg c66] at H
                have c66b0 : (t127 == false) = false := by simpa using c66
                (try (have c66b1 : decide (t127 = false) = false := by simpa using c66))
                (try (have c66b2 : (t127 == false) = false := by simpa using c66))
                (try (have c66b3 : ¬ (t127 = false) := by simpa using c66))
                clear c66
                exact absurd ((Option.some.inj H).trans HR_.out) (by decide)
             ·replace c43 := Bool.eq_false_iff.mpr c43
              subst c43
              have H1 : (some false) = some r := by rw [if_neg (show ¬ (false = true) by decide)] at H; exact H
              clear H
              have H := H1
              clear H1
              exact absurd ((Option.some.inj H).trans HR_.out) (by decide)
/-- THE ONE PURE STATEMENT of laws_FnWaysTo: yours. -/
def laws_FnWaysTo.Pure : Prop := ∀ (l0 : List Int) (l1 : List Int), l0.length ≤ maxLen → l0.length * 1 ≤ 140737488351232 → (∀ x ∈ l0, (Lit.int .u8 x).wf = true) → l1.length ≤ maxLen → l1.length * 1 ≤ 140737488351232 → (∀ x ∈ l1, (Lit.int .u8 x).wf = true) → ∃ k, laws_FnWaysTo.f k l0 l1 = some true
theorem laws_FnWaysTo.walk (P : laws_FnWaysTo.Pure) (a0 : Option Addr) (len0 cap0 : Nat) (z0 : List Int) (a1 : Option Addr) (len1 cap1 : Nat) (z1 : List Int) (w : World) (w0 : (a0 = none ∧ len0 = 0 ∧ cap0 = 0 ∧ z0 = []) ∨ ∃ x, a0 = some x ∧ len0 ≤ cap0 ∧ cap0 ≤ maxLen ∧ z0.length = cap0 ∧ (∀ i, i < z0.length → w.cell? (x.add i) = some (.int .u8 (z0.getD i 0))) ∧ ∀ n ∈ z0, (Lit.int .u8 n).wf = true) (y0 : len0 * 1 ≤ 140737488351232) (w1 : (a1 = none ∧ len1 = 0 ∧ cap1 = 0 ∧ z1 = []) ∨ ∃ x, a1 = some x ∧ len1 ≤ cap1 ∧ cap1 ≤ maxLen ∧ z1.length = cap1 ∧ (∀ i, i < z1.length → w.cell? (x.add i) = some (.int .u8 (z1.getD i 0))) ∧ ∀ n ∈ z1, (Lit.int .u8 n).wf = true) (y1 : len1 * 1 ≤ 140737488351232) :
  Calls Tryz.prog 3 #[.slice a0 len0 cap0, .slice a1 len1 cap1] w fun e w' => e = .returned (.bool true) ∧ Below w.heap.size w w' := by
 obtain ⟨l0, rfl, hr0, hm0, hw0, hc0⟩ := ReadsInt.ofRowC w0
 obtain ⟨l1, rfl, hr1, hm1, hw1, hc1⟩ := ReadsInt.ofRowC w1
 obtain ⟨k, h⟩ := P l0 l1 hm0 y0 hw0 hm1 y1 hw1
 refine (laws_FnWaysTo.calls k _ _ l0 _ _ l1 true w (Kd.C_of_reads (d := (0 : Int)) (h1 := fun _ => rfl) hr0) hc0 (Kd.C_of_reads (d := (0 : Int)) (h1 := fun _ => rfl) hr1) hc1 rfl h).mono ?_
 rintro e w' ⟨rfl, hd⟩
 exact ⟨rfl, hd⟩
end Go.Proofs.YtmanlcakdcoekaaGreat.PAll
end
