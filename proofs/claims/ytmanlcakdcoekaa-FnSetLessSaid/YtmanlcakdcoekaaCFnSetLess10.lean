/- Contracts of the functions that the statement reaches, printed by a program out of the translation and joined with the plain laws. -/
import Derived.Test.YtmanlcakdcoekaaCFnSetLess3
import Derived.Test.YtmanlcakdcoekaaCFnSetLess4
import Derived.Test.YtmanlcakdcoekaaCFnSetLess5
import Derived.Test.YtmanlcakdcoekaaCFnSetLess8
import Derived.Test.YtmanlcakdcoekaaCFnSetLess9
section
namespace Go.Proofs.Ytmanlcakdcoekaa.PAll
open Go.RowKit Go.Proofs.YtmanlcakdcoekaaW.PrintWords Go.Proofs.YtmanlcakdcoekaaW.PrintLast Go.Proofs.YtmanlcakdcoekaaW.PrintMore
attribute [local go_sem] max2_int min2_int max_two min_two max_three min_three max_four min_four   -- for this text's walks alone
set_option linter.unusedVariables false
set_option linter.unusedSimpArgs false
mutual
def laws_FnSetLess.j0 : Nat → List Int → List Int → Bool → Option (Bool)
 | 0, _, _, _ => none
 | k + 1, x0, x1, x24 => if x24 = true then (some true) else ((spec_DrawSetLess.f k x0).bind fun bt101 => ((impl_SetLess.f k bt101.1 bt101.2).bind fun bt107 => ((spec_SetLess.f k bt101.1 bt101.2).bind fun bt111 => (if (bt107.2 != bt111.2) = true then (laws_FnSetLess.j1 k x1 bt101.1 bt101.2 bt107.1 bt107.2 bt111.1 bt111.2 true) else ((laws_ovBlocks.f k bt107.1 bt111.1).bind fun t115 => (if t115 = true then (laws_FnSetLess.j1 k x1 bt101.1 bt101.2 bt107.1 bt107.2 bt111.1 bt111.2 (!bt107.2)) else (laws_FnSetLess.j1 k x1 bt101.1 bt101.2 bt107.1 bt107.2 bt111.1 bt111.2 true)))))))
def laws_FnSetLess.j1 : Nat → List Int → List (S40) → List (S40) → List (S40) → Bool → List (S40) → Bool → Bool → Option (Bool)
 | 0, _, _, _, _, _, _, _, _ => none
 | k + 1, x1, x5, x6, x7, x8, x9, x10, x54 => if x54 = true then (if (x8 == x10) = true then ((laws_ovBlocks.f k x7 x9).bind fun t116 => (some t116)) else (some false)) else ((spec_DrawSetHas.f k x1).bind fun bt117 => ((impl_SetBoth.f k x7 x6).bind fun bt121 => ((impl_SetLess.f k x5 x5).bind fun bt125 => ((impl_SetHas.f k x7 bt117.2).bind fun t129 => ((impl_SetHas.f k x5 bt117.2).bind fun t130 => (if t130 = true then ((impl_SetHas.f k x6 bt117.2).bind fun t131 => (if (t129 == (!t131)) = true then (if bt121.2 = true then (if (bt121.1.length : Int) = 0 then (if bt125.2 = true then (some ((bt125.1.length : Int) == 0)) else (some false)) else (some false)) else (if bt125.2 = true then (some ((bt125.1.length : Int) == 0)) else (some false))) else (some false))) else (if (t129 == false) = true then (if bt121.2 = true then (if (bt121.1.length : Int) = 0 then (if bt125.2 = true then (some ((bt125.1.length : Int) == 0)) else (some false)) else (some false)) else (if bt125.2 = true then (some ((bt125.1.length : Int) == 0)) else (some false))) else (some false))))))))
end
def laws_FnSetLess.f (k : Nat) (l0 : List Int) (l1 : List Int) : Option (Bool) := if (l0.length : Int) > 1048576 then (laws_FnSetLess.j0 k l0 l1 true) else (laws_FnSetLess.j0 k l0 l1 (decide ((l1.length : Int) > 1048576)))
set_option maxHeartbeats 8000000 in
set_option maxRecDepth 100000 in
theorem laws_FnSetLess.calls (k : Nat) (A0 : Option Addr) (c0 : Nat) (l0 : List Int) (A1 : Option Addr) (c1 : Nat) (l1 : List Int) (r : Bool) (w : World) (hr0 : Kd.C (Kd.int .u8) w A0 l0.length l0) (hc0 : l0.length ≤ c0) (hr1 : Kd.C (Kd.int .u8) w A1 l1.length l1) (hc1 : l1.length ≤ c1) (hr0_ : r = true) (h : laws_FnSetLess.f k l0 l1 = some r) :
  Calls Try.prog 7 #[.slice A0 l0.length c0, .slice A1 l1.length c1] w fun e w' => e = .returned (.bool r) ∧ Below w.heap.size w w' := by
 have HR0 := Aside0.mk hr0
 have HC0 := Aside0.mk hc0
 clear hr0 hc0
 have HR1 := Aside0.mk hr1
 have HC1 := Aside0.mk hc1
 clear hr1 hc1
 have HB := am (Below.refl w.heap.size w)
 have H : (if (l0.length : Int) > 1048576 then (laws_FnSetLess.j0 k l0 l1 true) else (laws_FnSetLess.j0 k l0 l1 (decide ((l1.length : Int) > 1048576)))) = some r := h
 clear h
 have HR_ := Aside0.mk hr0_
 clear hr0_
 have HC3 := Aside0.mk H
 clear H
 go_enter Try.func7, Try.ntmps7
 go_upto_region 1 with (fail)
 go_cut [24] (fun v24 wc => ∃ (kq : Nat) (x24_2 : Bool), v24 = .bool x24_2 ∧ Aside0 (laws_FnSetLess.j0 kq l0 l1 x24_2 = some r) ∧ Aside0 (kq ≤ k) ∧ Aside0 (Below w.heap.size w wc))
 case first =>
  have H := HC3.out
  clear HC3
  by_cases c4 : (l0.length : Int) > 1048576
  ·rw [if_pos c4] at H
   have c4b0 : decide (1048576 < (l0.length : Int)) = true := decide_eq_true c4
   have c4b1 : decide (1048576 < l0.length) = true := decide_eq_true (by omega)
   clear c4
   (first | rw [c4b0] | (simp only [i64_w, i32_w]; rw [c4b0]) | skip)
   have H' := Aside0.mk H
   clear H
   go_wp2
   go_meet
   case rel => exact ⟨_, (true), (by first | rfl | (simp; done) | (simp [*]; done)), H', ⟨by first | omega | exact Nat.le_refl _⟩, ⟨KL HB⟩⟩
  ·rw [if_neg c4] at H
   have c4b0 : decide (1048576 < (l0.length : Int)) = false := decide_eq_false c4
   have c4b1 : decide (1048576 < l0.length) = false := decide_eq_false (by omega)
   clear c4
   (first | rw [c4b0] | (simp only [i64_w, i32_w]; rw [c4b0]) | skip)
   have H' := Aside0.mk H
   clear H
   go_wp2
   go_meet
   case rel => exact ⟨_, (decide ((l1.length : Int) > 1048576)), (by first | rfl | (simp; done) | (simp [*]; done)), H', ⟨by first | omega | exact Nat.le_refl _⟩, ⟨KL HB⟩⟩
 case rest =>
  clear HC3
  try clear c1
  try clear p2
  try clear c4
  try clear c4b0
  try clear c4b1
  obtain ⟨kq, x24_2, rfl, HA, HJ2, HB⟩ := hcut
  cases kq with
  | zero => exact absurd HA.out (by simp [laws_FnSetLess.j0])
  | succ kj2 =>
   have H := HA.out
   clear HA
   simp only [laws_FnSetLess.j0] at H
   by_cases c5 : x24_2 = true
   ·subst c5
    have H1 : (some true) = some r := by rw [if_pos rfl] at H; exact H
    clear H
    have H := H1
    clear H1
    obtain rfl := Option.some.inj H
    go_wp2
    go_ret
    exact ⟨ER, KL HB⟩
   ·replace c5 := Bool.eq_false_iff.mpr c5
    subst c5
    have H1 : ((spec_DrawSetLess.f kj2 l0).bind fun bt101 => ((impl_SetLess.f kj2 bt101.1 bt101.2).bind fun bt107 => ((spec_SetLess.f kj2 bt101.1 bt101.2).bind fun bt111 => (if (bt107.2 != bt111.2) = true then (laws_FnSetLess.j1 kj2 l1 bt101.1 bt101.2 bt107.1 bt107.2 bt111.1 bt111.2 true) else ((laws_ovBlocks.f kj2 bt107.1 bt111.1).bind fun t115 => (if t115 = true then (laws_FnSetLess.j1 kj2 l1 bt101.1 bt101.2 bt107.1 bt107.2 bt111.1 bt111.2 (!bt107.2)) else (laws_FnSetLess.j1 kj2 l1 bt101.1 bt101.2 bt107.1 bt107.2 bt111.1 bt111.2 true))))))) = some r := by rw [if_neg (show ¬ (false = true) by decide)] at H; exact H
    clear H
    have H := H1
    clear H1
    replace H := Option.bind_eq_some_iff.mp H
    obtain ⟨⟨t101, t102⟩, A60, H⟩ := H
    replace H : ((impl_SetLess.f kj2 t101 t102).bind fun bt107 => ((spec_SetLess.f kj2 t101 t102).bind fun bt111 => (if (bt107.2 != bt111.2) = true then (laws_FnSetLess.j1 kj2 l1 t101 t102 bt107.1 bt107.2 bt111.1 bt111.2 true) else ((laws_ovBlocks.f kj2 bt107.1 bt111.1).bind fun t115 => (if t115 = true then (laws_FnSetLess.j1 kj2 l1 t101 t102 bt107.1 bt107.2 bt111.1 bt111.2 (!bt107.2)) else (laws_FnSetLess.j1 kj2 l1 t101 t102 bt107.1 bt107.2 bt111.1 bt111.2 true)))))) = some r := H
    have A6 := Aside0.mk A60
    clear A60
    replace H := Option.bind_eq_some_iff.mp H
    obtain ⟨⟨t107, t108⟩, A70, H⟩ := H
    replace H : ((spec_SetLess.f kj2 t101 t102).bind fun bt111 => (if (t108 != bt111.2) = true then (laws_FnSetLess.j1 kj2 l1 t101 t102 t107 t108 bt111.1 bt111.2 true) else ((laws_ovBlocks.f kj2 t107 bt111.1).bind fun t115 => (if t115 = true then (laws_FnSetLess.j1 kj2 l1 t101 t102 t107 t108 bt111.1 bt111.2 (!t108)) else (laws_FnSetLess.j1 kj2 l1 t101 t102 t107 t108 bt111.1 bt111.2 true))))) = some r := H
    have A7 := Aside0.mk A70
    clear A70
    replace H := Option.bind_eq_some_iff.mp H
    obtain ⟨⟨t111, t112⟩, A80, H⟩ := H
    replace H : (if (t108 != t112) = true then (laws_FnSetLess.j1 kj2 l1 t101 t102 t107 t108 t111 t112 true) else ((laws_ovBlocks.f kj2 t107 t111).bind fun t115 => (if t115 = true then (laws_FnSetLess.j1 kj2 l1 t101 t102 t107 t108 t111 t112 (!t108)) else (laws_FnSetLess.j1 kj2 l1 t101 t102 t107 t108 t111 t112 true)))) = some r := H
    have A8 := Aside0.mk A80
    clear A80
    have HC9 := Aside0.mk H
    clear H
    go_upto_region 6 with (first | ((with_reducible refine gate_callee (f := 30) rfl ?_); refine goesL_ (some 27) rfl rfl Try.func30 (by kernel_rfl) rfl #[.slice A0 l0.length c0] rfl MT ?_; (with_reducible refine (spec_DrawSetLess.calls kj2 _ _ l0 t101 t102 _ ?side1 ?side2 A6.out).mono ?_); (case side1 => exact KD HR0 HB); (case side2 => exact HC0.out); rintro e w10 ⟨v103, v105, rfl, ho0, ho1, hb⟩; refine ⟨_, rfl, ?_⟩; have HO104 := am (Kd.R_lower ho0 (below_size (KL HB))); have HO106 := am (Kd.R_lower ho1 (below_size (KL HB))); replace HB := am (below_step (KL HB) hb); (try clear hb); (try clear ho0); (try clear ho1); obtain ⟨Ao11, co11, eo11⟩ := Kd.R_slice HO104.out; subst eo11; obtain ⟨Ao12, co12, eo12⟩ := Kd.R_slice HO106.out; subst eo12) | ((with_reducible refine gate_callee (f := 31) rfl ?_); refine goesL_ (some 33) rfl rfl Try.func31 (by kernel_rfl) rfl #[.slice Ao11 t101.length co11, .slice Ao12 t102.length co12] rfl MT ?_; (with_reducible refine (impl_SetLess.calls kj2 _ _ t101 _ _ t102 t107 t108 _ ?side1 ?side2 ?side3 ?side4 A7.out).mono ?_); (case side1 => exact KC (Kd.R_reads' HO104.out).2.2); (case side2 => exact (Kd.R_reads' HO104.out).2.1); (case side3 => exact KC (Kd.R_reads' HO106.out).2.2); (case side4 => exact (Kd.R_reads' HO106.out).2.1); rintro e w13 ⟨v109, rfl, ho0, hb⟩; refine ⟨_, rfl, ?_⟩; have HO110 := am (Kd.R_lower (Kd.R_new' (Kd.R_new' ho0 (Kd.R_lt (KR HO104))) (Kd.R_lt (KR HO106))) (below_size (KL HB))); replace HO104 := am (Kd.R_elder' (KR HO104) (Kd.R_base ho0) hb); replace HO106 := am (Kd.R_elder' (KR HO106) (Kd.R_base ho0) hb); replace HB := am (below_step (KL HB) hb); (try clear hb); (try clear ho0)) | ((with_reducible refine gate_callee (f := 32) rfl ?_); refine goesL_ (some 39) rfl rfl Try.func32 (by kernel_rfl) rfl #[.slice Ao11 t101.length co11, .slice Ao12 t102.length co12] rfl MT ?_; (with_reducible refine (spec_SetLess.calls kj2 _ _ t101 _ _ t102 t111 t112 _ ?side1 ?side2 ?side3 ?side4 A8.out).mono ?_); (case side1 => exact KC (Kd.R_reads' HO104.out).2.2); (case side2 => exact (Kd.R_reads' HO104.out).2.1); (case side3 => exact KC (Kd.R_reads' HO106.out).2.2); (case side4 => exact (Kd.R_reads' HO106.out).2.1); rintro e w14 ⟨v113, rfl, ho0, hb⟩; refine ⟨_, rfl, ?_⟩; have HO114 := am (Kd.R_lower (Kd.R_new' (Kd.R_new' (Kd.R_new' ho0 (Kd.R_lt (KR HO104))) (Kd.R_lt (KR HO106))) (Kd.R_lt (KR HO110))) (below_size (KL HB))); replace HO104 := am (Kd.R_elder' (KR HO104) (Kd.R_base ho0) hb); replace HO106 := am (Kd.R_elder' (KR HO106) (Kd.R_base ho0) hb); replace HO110 := am (Kd.R_elder' (KR HO110) (Kd.R_base ho0) hb); replace HB := am (below_step (KL HB) hb); (try clear hb); (try clear ho0)))
    (try simp only [Act.put, List.setIfInBounds_toArray, List.set_cons_zero, List.set_cons_succ])
    go_cut [54] (fun v54 wc => ∃ (kq : Nat) (x54_8 : Bool), v54 = .bool x54_8 ∧ Aside0 (laws_FnSetLess.j1 kq l1 t101 t102 t107 t108 t111 t112 x54_8 = some r) ∧ Aside0 (kq ≤ kj2) ∧ Aside0 (Kd.R k40 40 wc w.heap.size (fun k_ => some k_ ≠ ((.slice Ao12 t102.length co12) : Value).ownBlock ∧ some k_ ≠ (v109 : Value).ownBlock ∧ some k_ ≠ (v113 : Value).ownBlock) (.slice Ao11 t101.length co11) t101) ∧ Aside0 (Kd.R k40 40 wc w.heap.size (fun k_ => some k_ ≠ ((.slice Ao11 t101.length co11) : Value).ownBlock ∧ some k_ ≠ (v109 : Value).ownBlock ∧ some k_ ≠ (v113 : Value).ownBlock) (.slice Ao12 t102.length co12) t102) ∧ Aside0 (Kd.R k40 40 wc w.heap.size (fun k_ => some k_ ≠ ((.slice Ao11 t101.length co11) : Value).ownBlock ∧ some k_ ≠ ((.slice Ao12 t102.length co12) : Value).ownBlock ∧ some k_ ≠ (v113 : Value).ownBlock) v109 t107) ∧ Aside0 (Kd.R k40 40 wc w.heap.size (fun k_ => some k_ ≠ ((.slice Ao11 t101.length co11) : Value).ownBlock ∧ some k_ ≠ ((.slice Ao12 t102.length co12) : Value).ownBlock ∧ some k_ ≠ (v109 : Value).ownBlock) v113 t111) ∧ Aside0 (Below w.heap.size w wc))
    case first =>
     have H := HC9.out
     clear HC9
     by_cases c15 : (t108 != t112) = true
     ·rw [if_pos c15] at H
      have c15b0 : (t108 != t112) = true := c15
      (try (have c15b1 : decide (t108 = t112) = false := by simpa using c15))
      (try (have c15b2 : (t108 == t112) = false := by simpa using c15))
      (try (have c15b3 : ¬ (t108 = t112) := by simpa using c15))
      clear c15
      (first | rw [c15b0] | (simp only [i64_w, i32_w]; rw [c15b0]) | skip)
      have H' := Aside0.mk H
      clear H
      go_wp2
      go_meet
      case rel => exact ⟨_, (true), (by first | rfl | (simp; done) | (simp [*]; done)), H', ⟨by have := HJ2.out; first | omega | exact Nat.le_refl _⟩, ⟨by (with_reducible repeat (first | apply Kd.R_alloc | apply Kd.R_drewN | apply Kd.R_drew)); exact Kd.R_mono HO104.out (fun _ hk => ⟨hk.1.1, ⟨hk.1.2, hk.2⟩⟩)⟩, ⟨by (with_reducible repeat (first | apply Kd.R_alloc | apply Kd.R_drewN | apply Kd.R_drew)); exact Kd.R_mono HO106.out (fun _ hk => ⟨hk.1.1, ⟨hk.1.2, hk.2⟩⟩)⟩, ⟨by (with_reducible repeat (first | apply Kd.R_alloc | apply Kd.R_drewN | apply Kd.R_drew)); exact Kd.R_mono HO110.out (fun _ hk => ⟨hk.1.1.2, ⟨hk.1.2, hk.2⟩⟩)⟩, ⟨by (with_reducible repeat (first | apply Kd.R_alloc | apply Kd.R_drewN | apply Kd.R_drew)); exact Kd.R_mono HO114.out (fun _ hk => ⟨hk.1.1.2, ⟨hk.1.2, hk.2⟩⟩)⟩, ⟨KL HB⟩⟩
     ·rw [if_neg c15] at H
      have c15b0 : (t108 != t112) = false := by simpa using c15
      (try (have c15b1 : decide (t108 = t112) = true := by simpa using c15))
      (try (have c15b2 : (t108 == t112) = true := by simpa using c15))
      clear c15
      (first | rw [c15b0] | (simp only [i64_w, i32_w]; rw [c15b0]) | skip)
      replace H := Option.bind_eq_some_iff.mp H
      obtain ⟨t115, A160, H⟩ := H
      replace H : (if t115 = true then (laws_FnSetLess.j1 kj2 l1 t101 t102 t107 t108 t111 t112 (!t108)) else (laws_FnSetLess.j1 kj2 l1 t101 t102 t107 t108 t111 t112 true)) = some r := H
      have A16 := Aside0.mk A160
      clear A160
      by_cases c17 : t115 = true
      ·subst c17
       have H1 : (laws_FnSetLess.j1 kj2 l1 t101 t102 t107 t108 t111 t112 (!t108)) = some r := by rw [if_pos rfl] at H; exact H
       clear H
       have H := H1
       clear H1
       have H' := Aside0.mk H
       clear H
       obtain ⟨Ao18, co18, eo18⟩ := Kd.R_slice HO110.out
       subst eo18
       obtain ⟨Ao19, co19, eo19⟩ := Kd.R_slice HO114.out
       subst eo19
       go_wp2_with (first | (go_at_call 11; (with_reducible refine (laws_ovBlocks.calls kj2 _ _ t107 _ _ t111 true _ ?side1 ?side2 ?side3 ?side4 A16.out).mono ?_); (case side1 => exact KC (Kd.R_reads' HO110.out).2.2); (case side2 => exact (Kd.R_reads' HO110.out).2.1); (case side3 => exact KC (Kd.R_reads' HO114.out).2.2); (case side4 => exact (Kd.R_reads' HO114.out).2.1); rintro e w' ⟨rfl, ⟨nd, rfl⟩⟩))
       go_meet
       case rel => exact ⟨_, (!t108), (by first | rfl | (simp; done) | (simp [*]; done)), H', ⟨by have := HJ2.out; first | omega | exact Nat.le_refl _⟩, ⟨by (with_reducible repeat (first | apply Kd.R_alloc | apply Kd.R_drewN | apply Kd.R_drew)); exact Kd.R_mono HO104.out (fun _ hk => ⟨hk.1.1, ⟨hk.1.2, hk.2⟩⟩)⟩, ⟨by (with_reducible repeat (first | apply Kd.R_alloc | apply Kd.R_drewN | apply Kd.R_drew)); exact Kd.R_mono HO106.out (fun _ hk => ⟨hk.1.1, ⟨hk.1.2, hk.2⟩⟩)⟩, ⟨by (with_reducible repeat (first | apply Kd.R_alloc | apply Kd.R_drewN | apply Kd.R_drew)); exact Kd.R_mono HO110.out (fun _ hk => ⟨hk.1.1.2, ⟨hk.1.2, hk.2⟩⟩)⟩, ⟨by (with_reducible repeat (first | apply Kd.R_alloc | apply Kd.R_drewN | apply Kd.R_drew)); exact Kd.R_mono HO114.out (fun _ hk => ⟨hk.1.1.2, ⟨hk.1.2, hk.2⟩⟩)⟩, ⟨KL HB⟩⟩
      ·replace c17 := Bool.eq_false_iff.mpr c17
       subst c17
       have H1 : (laws_FnSetLess.j1 kj2 l1 t101 t102 t107 t108 t111 t112 true) = some r := by rw [if_neg (show ¬ (false = true) by decide)] at H; exact H
       clear H
       have H := H1
       clear H1
       have H' := Aside0.mk H
       clear H
       obtain ⟨Ao20, co20, eo20⟩ := Kd.R_slice HO110.out
       subst eo20
       obtain ⟨Ao21, co21, eo21⟩ := Kd.R_slice HO114.out
       subst eo21
       go_wp2_with (first | (go_at_call 11; (with_reducible refine (laws_ovBlocks.calls kj2 _ _ t107 _ _ t111 false _ ?side1 ?side2 ?side3 ?side4 A16.out).mono ?_); (case side1 => exact KC (Kd.R_reads' HO110.out).2.2); (case side2 => exact (Kd.R_reads' HO110.out).2.1); (case side3 => exact KC (Kd.R_reads' HO114.out).2.2); (case side4 => exact (Kd.R_reads' HO114.out).2.1); rintro e w' ⟨rfl, ⟨nd, rfl⟩⟩))
       go_meet
       case rel => exact ⟨_, (true), (by first | rfl | (simp; done) | (simp [*]; done)), H', ⟨by have := HJ2.out; first | omega | exact Nat.le_refl _⟩, ⟨by (with_reducible repeat (first | apply Kd.R_alloc | apply Kd.R_drewN | apply Kd.R_drew)); exact Kd.R_mono HO104.out (fun _ hk => ⟨hk.1.1, ⟨hk.1.2, hk.2⟩⟩)⟩, ⟨by (with_reducible repeat (first | apply Kd.R_alloc | apply Kd.R_drewN | apply Kd.R_drew)); exact Kd.R_mono HO106.out (fun _ hk => ⟨hk.1.1, ⟨hk.1.2, hk.2⟩⟩)⟩, ⟨by (with_reducible repeat (first | apply Kd.R_alloc | apply Kd.R_drewN | apply Kd.R_drew)); exact Kd.R_mono HO110.out (fun _ hk => ⟨hk.1.1.2, ⟨hk.1.2, hk.2⟩⟩)⟩, ⟨by (with_reducible repeat (first | apply Kd.R_alloc | apply Kd.R_drewN | apply Kd.R_drew)); exact Kd.R_mono HO114.out (fun _ hk => ⟨hk.1.1.2, ⟨hk.1.2, hk.2⟩⟩)⟩, ⟨KL HB⟩⟩
    case rest =>
     clear HC9
     try clear c1
     try clear p2
     try clear c3
     try clear c4
     try clear c4b0
     try clear c4b1
     try clear c5
     try clear c7
     try clear c15
     try clear c15b0
     try clear c15b1
     try clear c15b2
     try clear c17
     try clear p2
     obtain ⟨kq, x54_8, rfl, HA, HJ8, HO_5, HO_6, HO_7, HO_9, HB⟩ := hcut
     cases kq with
     | zero => exact absurd HA.out (by simp [laws_FnSetLess.j1])
     | succ kj8 =>
      have H := HA.out
      clear HA
      simp only [laws_FnSetLess.j1] at H
      by_cases c22 : x54_8 = true
      ·subst c22
       have H1 : (if (t108 == t112) = true then ((laws_ovBlocks.f kj8 t107 t111).bind fun t116 => (some t116)) else (some false)) = some r := by rw [if_pos rfl] at H; exact H
       clear H
       have H := H1
       clear H1
       by_cases c23 : (t108 == t112) = true
       ·rw [if_pos c23] at H
        have c23b0 : (t108 == t112) = true := c23
        (try (have c23b1 : decide (t108 = t112) = true := by simpa using c23))
        (try (have c23b2 : (t108 == t112) = true := by simpa using c23))
        clear c23
        replace H := Option.bind_eq_some_iff.mp H
        obtain ⟨t116, A240, H⟩ := H
        replace H : (some t116) = some r := H
        have A24 := Aside0.mk A240
        clear A240
        obtain rfl := Option.some.inj H
        obtain ⟨Ao25, co25, eo25⟩ := Kd.R_slice HO_7.out
        subst eo25
        obtain ⟨Ao26, co26, eo26⟩ := Kd.R_slice HO_9.out
        subst eo26
        go_wp2_with (first | (go_at_call 11; (with_reducible refine (laws_ovBlocks.calls kj8 _ _ t107 _ _ t111 t116 _ ?side1 ?side2 ?side3 ?side4 A24.out).mono ?_); (case side1 => exact KC (Kd.R_reads' HO_7.out).2.2); (case side2 => exact (Kd.R_reads' HO_7.out).2.1); (case side3 => exact KC (Kd.R_reads' HO_9.out).2.2); (case side4 => exact (Kd.R_reads' HO_9.out).2.1); rintro e w' ⟨rfl, ⟨nd, rfl⟩⟩))
        go_ret
        exact ⟨ER, KL HB⟩
       ·rw [if_neg c23] at H
        have c23b0 : (t108 == t112) = false := by simpa using c23
        (try (have c23b1 : decide (t108 = t112) = false := by simpa using c23))
        (try (have c23b2 : (t108 == t112) = false := by simpa using c23))
        (try (have c23b3 : ¬ (t108 = t112) := by simpa using c23))
        clear c23
        exact absurd ((Option.some.inj H).trans HR_.out) (by decide)
      ·replace c22 := Bool.eq_false_iff.mpr c22
       subst c22
       have H1 : ((spec_DrawSetHas.f kj8 l1).bind fun bt117 => ((impl_SetBoth.f kj8 t107 t102).bind fun bt121 => ((impl_SetLess.f kj8 t101 t101).bind fun bt125 => ((impl_SetHas.f kj8 t107 bt117.2).bind fun t129 => ((impl_SetHas.f kj8 t101 bt117.2).bind fun t130 => (if t130 = true then ((impl_SetHas.f kj8 t102 bt117.2).bind fun t131 => (if (t129 == (!t131)) = true then (if bt121.2 = true then (if (bt121.1.length : Int) = 0 then (if bt125.2 = true then (some ((bt125.1.length : Int) == 0)) else (some false)) else (some false)) else (if bt125.2 = true then (some ((bt125.1.length : Int) == 0)) else (some false))) else (some false))) else (if (t129 == false) = true then (if bt121.2 = true then (if (bt121.1.length : Int) = 0 then (if bt125.2 = true then (some ((bt125.1.length : Int) == 0)) else (some false)) else (some false)) else (if bt125.2 = true then (some ((bt125.1.length : Int) == 0)) else (some false))) else (some false)))))))) = some r := by rw [if_neg (show ¬ (false = true) by decide)] at H; exact H
       clear H
       have H := H1
       clear H1
       replace H := Option.bind_eq_some_iff.mp H
       obtain ⟨⟨t117, t118⟩, A270, H⟩ := H
       replace H : ((impl_SetBoth.f kj8 t107 t102).bind fun bt121 => ((impl_SetLess.f kj8 t101 t101).bind fun bt125 => ((impl_SetHas.f kj8 t107 t118).bind fun t129 => ((impl_SetHas.f kj8 t101 t118).bind fun t130 => (if t130 = true then ((impl_SetHas.f kj8 t102 t118).bind fun t131 => (if (t129 == (!t131)) = true then (if bt121.2 = true then (if (bt121.1.length : Int) = 0 then (if bt125.2 = true then (some ((bt125.1.length : Int) == 0)) else (some false)) else (some false)) else (if bt125.2 = true then (some ((bt125.1.length : Int) == 0)) else (some false))) else (some false))) else (if (t129 == false) = true then (if bt121.2 = true then (if (bt121.1.length : Int) = 0 then (if bt125.2 = true then (some ((bt125.1.length : Int) == 0)) else (some false)) else (some false)) else (if bt125.2 = true then (some ((bt125.1.length : Int) == 0)) else (some false))) else (some false))))))) = some r := H
       have A27 := Aside0.mk A270
       clear A270
       replace H := Option.bind_eq_some_iff.mp H
       obtain ⟨⟨t121, t122⟩, A280, H⟩ := H
       replace H : ((impl_SetLess.f kj8 t101 t101).bind fun bt125 => ((impl_SetHas.f kj8 t107 t118).bind fun t129 => ((impl_SetHas.f kj8 t101 t118).bind fun t130 => (if t130 = true then ((impl_SetHas.f kj8 t102 t118).bind fun t131 => (if (t129 == (!t131)) = true then (if t122 = true then (if (t121.length : Int) = 0 then (if bt125.2 = true then (some ((bt125.1.length : Int) == 0)) else (some false)) else (some false)) else (if bt125.2 = true then (some ((bt125.1.length : Int) == 0)) else (some false))) else (some false))) else (if (t129 == false) = true then (if t122 = true then (if (t121.length : Int) = 0 then (if bt125.2 = true then (some ((bt125.1.length : Int) == 0)) else (some false)) else (some false)) else (if bt125.2 = true then (some ((bt125.1.length : Int) == 0)) else (some false))) else (some false)))))) = some r := H
       have A28 := Aside0.mk A280
       clear A280
       replace H := Option.bind_eq_some_iff.mp H
       obtain ⟨⟨t125, t126⟩, A290, H⟩ := H
       replace H : ((impl_SetHas.f kj8 t107 t118).bind fun t129 => ((impl_SetHas.f kj8 t101 t118).bind fun t130 => (if t130 = true then ((impl_SetHas.f kj8 t102 t118).bind fun t131 => (if (t129 == (!t131)) = true then (if t122 = true then (if (t121.length : Int) = 0 then (if t126 = true then (some ((t125.length : Int) == 0)) else (some false)) else (some false)) else (if t126 = true then (some ((t125.length : Int) == 0)) else (some false))) else (some false))) else (if (t129 == false) = true then (if t122 = true then (if (t121.length : Int) = 0 then (if t126 = true then (some ((t125.length : Int) == 0)) else (some false)) else (some false)) else (if t126 = true then (some ((t125.length : Int) == 0)) else (some false))) else (some false))))) = some r := H
       have A29 := Aside0.mk A290
       clear A290
       replace H := Option.bind_eq_some_iff.mp H
       obtain ⟨t129, A300, H⟩ := H
       replace H : ((impl_SetHas.f kj8 t101 t118).bind fun t130 => (if t130 = true then ((impl_SetHas.f kj8 t102 t118).bind fun t131 => (if (t129 == (!t131)) = true then (if t122 = true then (if (t121.length : Int) = 0 then (if t126 = true then (some ((t125.length : Int) == 0)) else (some false)) else (some false)) else (if t126 = true then (some ((t125.length : Int) == 0)) else (some false))) else (some false))) else (if (t129 == false) = true then (if t122 = true then (if (t121.length : Int) = 0 then (if t126 = true then (some ((t125.length : Int) == 0)) else (some false)) else (some false)) else (if t126 = true then (some ((t125.length : Int) == 0)) else (some false))) else (some false)))) = some r := H
       have A30 := Aside0.mk A300
       clear A300
       replace H := Option.bind_eq_some_iff.mp H
       obtain ⟨t130, A310, H⟩ := H
       replace H : (if t130 = true then ((impl_SetHas.f kj8 t102 t118).bind fun t131 => (if (t129 == (!t131)) = true then (if t122 = true then (if (t121.length : Int) = 0 then (if t126 = true then (some ((t125.length : Int) == 0)) else (some false)) else (some false)) else (if t126 = true then (some ((t125.length : Int) == 0)) else (some false))) else (some false))) else (if (t129 == false) = true then (if t122 = true then (if (t121.length : Int) = 0 then (if t126 = true then (some ((t125.length : Int) == 0)) else (some false)) else (some false)) else (if t126 = true then (some ((t125.length : Int) == 0)) else (some false))) else (some false))) = some r := H
       have A31 := Aside0.mk A310
       clear A310
       by_cases c32 : t130 = true
       ·subst c32
        have H1 : ((impl_SetHas.f kj8 t102 t118).bind fun t131 => (if (t129 == (!t131)) = true then (if t122 = true then (if (t121.length : Int) = 0 then (if t126 = true then (some ((t125.length : Int) == 0)) else (some false)) else (some false)) else (if t126 = true then (some ((t125.length : Int) == 0)) else (some false))) else (some false))) = some r := by rw [if_pos rfl] at H; exact H
        clear H
        have H := H1
        clear H1
        replace H := Option.bind_eq_some_iff.mp H
        obtain ⟨t131, A330, H⟩ := H
        replace H : (if (t129 == (!t131)) = true then (if t122 = true then (if (t121.length : Int) = 0 then (if t126 = true then (some ((t125.length : Int) == 0)) else (some false)) else (some false)) else (if t126 = true then (some ((t125.length : Int) == 0)) else (some false))) else (some false)) = some r := H
        have A33 := Aside0.mk A330
        clear A330
        by_cases c34 : (t129 == (!t131)) = true
        ·rw [if_pos c34] at H
         have c34b0 : (t129 == (!t131)) = true := c34
         (try (have c34b1 : decide (t129 = (!t131)) = true := by simpa using c34))
         (try (have c34b2 : (t129 == (!t131)) = true := by simpa using c34))
         clear c34
         by_cases c35 : t122 = true
         ·subst c35
          have H1 : (if (t121.length : Int) = 0 then (if t126 = true then (some ((t125.length : Int) == 0)) else (some false)) else (some false)) = some r := by rw [if_pos rfl] at H; exact H
          clear H
          have H := H1
          clear H1
          by_cases c36 : (t121.length : Int) = 0
          ·rw [if_pos c36] at H
           have c36b0 : ((t121.length : Int) == 0) = true := beq_iff_eq.mpr c36
           have c36b1 : ((t121.length : Int) != 0) = false := bne_eq_false_iff_eq.mpr c36
           clear c36
           by_cases c37 : t126 = true
           ·subst c37
            have H1 : (some ((t125.length : Int) == 0)) = some r := by rw [if_pos rfl] at H; exact H
            clear H
            have H := H1
            clear H1
            obtain rfl := Option.some.inj H
            go_wp2_with (first | ((with_reducible refine gate_callee (f := 26) rfl ?_); refine goesL_ (some 65) rfl rfl Try.func26 (by kernel_rfl) rfl #[.slice A1 l1.length c1] rfl MT ?_; (with_reducible refine (spec_DrawSetHas.calls kj8 _ _ l1 t117 t118 _ ?side1 ?side2 A27.out).mono ?_); (case side1 => exact KD HR1 HB); (case side2 => exact HC1.out); rintro e w38 ⟨v119, rfl, ho0, hb⟩; refine ⟨_, rfl, ?_⟩; have HO120 := am (Kd.R_lower (Kd.R_new' (Kd.R_new' (Kd.R_new' (Kd.R_new' ho0 (Kd.R_lt (KR HO_5))) (Kd.R_lt (KR HO_6))) (Kd.R_lt (KR HO_7))) (Kd.R_lt (KR HO_9))) (below_size (KL HB))); replace HO_5 := am (Kd.R_elder' (KR HO_5) (Kd.R_base ho0) hb); replace HO_6 := am (Kd.R_elder' (KR HO_6) (Kd.R_base ho0) hb); replace HO_7 := am (Kd.R_elder' (KR HO_7) (Kd.R_base ho0) hb); replace HO_9 := am (Kd.R_elder' (KR HO_9) (Kd.R_base ho0) hb); replace HB := am (below_step (KL HB) hb); (try clear hb); (try clear ho0); obtain ⟨Ao39, co39, eo39⟩ := Kd.R_slice HO_7.out; subst eo39) | ((with_reducible refine gate_callee (f := 33) rfl ?_); refine goesL_ (some 71) rfl rfl Try.func33 (by kernel_rfl) rfl #[.slice Ao39 t107.length co39, .slice Ao12 t102.length co12] rfl MT ?_; (with_reducible refine (impl_SetBoth.calls kj8 _ _ t107 _ _ t102 t121 true _ ?side1 ?side2 ?side3 ?side4 A28.out).mono ?_); (case side1 => exact KC (Kd.R_reads' HO_7.out).2.2); (case side2 => exact (Kd.R_reads' HO_7.out).2.1); (case side3 => exact KC (Kd.R_reads' HO_6.out).2.2); (case side4 => exact (Kd.R_reads' HO_6.out).2.1); rintro e w40 ⟨v123, rfl, ho0, hb⟩; refine ⟨_, rfl, ?_⟩; have HO124 := am (Kd.R_lower (Kd.R_new' (Kd.R_new' (Kd.R_new' (Kd.R_new' (Kd.R_new' ho0 (Kd.R_lt (KR HO_5))) (Kd.R_lt (KR HO_6))) (Kd.R_lt (KR HO_7))) (Kd.R_lt (KR HO_9))) (Kd.R_lt (KR HO120))) (below_size (KL HB))); replace HO_5 := am (Kd.R_elder' (KR HO_5) (Kd.R_base ho0) hb); replace HO_6 := am (Kd.R_elder' (KR HO_6) (Kd.R_base ho0) hb); replace HO_7 := am (Kd.R_elder' (KR HO_7) (Kd.R_base ho0) hb); replace HO_9 := am (Kd.R_elder' (KR HO_9) (Kd.R_base ho0) hb); replace HO120 := am (Kd.R_elder' (KR HO120) (Kd.R_base ho0) hb); replace HB := am (below_step (KL HB) hb); (try clear hb); (try clear ho0)) | ((with_reducible refine gate_callee (f := 31) rfl ?_); refine goesL_ (some 77) rfl rfl Try.func31 (by kernel_rfl) rfl #[.slice Ao11 t101.length co11, .slice Ao11 t101.length co11] rfl MT ?_; (with_reducible refine (impl_SetLess.calls kj8 _ _ t101 _ _ t101 t125 true _ ?side1 ?side2 ?side3 ?side4 A29.out).mono ?_); (case side1 => exact KC (Kd.R_reads' HO_5.out).2.2); (case side2 => exact (Kd.R_reads' HO_5.out).2.1); (case side3 => exact KC (Kd.R_reads' HO_5.out).2.2); (case side4 => exact (Kd.R_reads' HO_5.out).2.1); rintro e w41 ⟨v127, rfl, ho0, hb⟩; refine ⟨_, rfl, ?_⟩; have HO128 := am (Kd.R_lower (Kd.R_new' (Kd.R_new' (Kd.R_new' (Kd.R_new' (Kd.R_new' (Kd.R_new' ho0 (Kd.R_lt (KR HO_5))) (Kd.R_lt (KR HO_6))) (Kd.R_lt (KR HO_7))) (Kd.R_lt (KR HO_9))) (Kd.R_lt (KR HO120))) (Kd.R_lt (KR HO124))) (below_size (KL HB))); replace HO_5 := am (Kd.R_elder' (KR HO_5) (Kd.R_base ho0) hb); replace HO_6 := am (Kd.R_elder' (KR HO_6) (Kd.R_base ho0) hb); replace HO_7 := am (Kd.R_elder' (KR HO_7) (Kd.R_base ho0) hb); replace HO_9 := am (Kd.R_elder' (KR HO_9) (Kd.R_base ho0) hb); replace HO120 := am (Kd.R_elder' (KR HO120) (Kd.R_base ho0) hb); replace HO124 := am (Kd.R_elder' (KR HO124) (Kd.R_base ho0) hb); replace HB := am (below_step (KL HB) hb); (try clear hb); (try clear ho0)) | ((with_reducible refine gate_callee (f := 15) rfl ?_); refine goesL_ (some 82) rfl rfl Try.func15 (by kernel_rfl) rfl #[.slice Ao39 t107.length co39, .int .i64 t118] rfl MT ?_; (with_reducible refine (impl_SetHas.calls kj8 _ _ t107 t118 t129 _ ?side1 ?side2 A30.out).mono ?_); (case side1 => exact KC (Kd.R_reads' HO_7.out).2.2); (case side2 => exact (Kd.R_reads' HO_7.out).2.1); rintro e w42 ⟨rfl, hb⟩; refine ⟨_, rfl, ?_⟩; replace HO_5 := am (Kd.R_below (KR HO_5) hb); replace HO_6 := am (Kd.R_below (KR HO_6) hb); replace HO_7 := am (Kd.R_below (KR HO_7) hb); replace HO_9 := am (Kd.R_below (KR HO_9) hb); replace HO120 := am (Kd.R_below (KR HO120) hb); replace HO124 := am (Kd.R_below (KR HO124) hb); replace HO128 := am (Kd.R_below (KR HO128) hb); replace HB := am (below_step (KL HB) hb); (try clear hb)) | ((with_reducible refine gate_callee (f := 15) rfl ?_); refine goesL_ (some 85) rfl rfl Try.func15 (by kernel_rfl) rfl #[.slice Ao11 t101.length co11, .int .i64 t118] rfl MT ?_; (with_reducible refine (impl_SetHas.calls kj8 _ _ t101 t118 true _ ?side1 ?side2 A31.out).mono ?_); (case side1 => exact KC (Kd.R_reads' HO_5.out).2.2); (case side2 => exact (Kd.R_reads' HO_5.out).2.1); rintro e w43 ⟨rfl, hb⟩; refine ⟨_, rfl, ?_⟩; replace HO_5 := am (Kd.R_below (KR HO_5) hb); replace HO_6 := am (Kd.R_below (KR HO_6) hb); replace HO_7 := am (Kd.R_below (KR HO_7) hb); replace HO_9 := am (Kd.R_below (KR HO_9) hb); replace HO120 := am (Kd.R_below (KR HO120) hb); replace HO124 := am (Kd.R_below (KR HO124) hb); replace HO128 := am (Kd.R_below (KR HO128) hb); replace HB := am (below_step (KL HB) hb); (try clear hb)) | (go_at_call 15; (with_reducible refine (impl_SetHas.calls kj8 _ _ t102 t118 t131 _ ?side1 ?side2 A33.out).mono ?_); (case side1 => exact KC (Kd.R_reads' HO_6.out).2.2); (case side2 => exact (Kd.R_reads' HO_6.out).2.1); rintro e w44 ⟨rfl, hb⟩; replace HO_5 := am (Kd.R_below (KR HO_5) hb); replace HO_6 := am (Kd.R_below (KR HO_6) hb); replace HO_7 := am (Kd.R_below (KR HO_7) hb); replace HO_9 := am (Kd.R_below (KR HO_9) hb); replace HO120 := am (Kd.R_below (KR HO120) hb); replace HO124 := am (Kd.R_below (KR HO124) hb); replace HO128 := am (Kd.R_below (KR HO128) hb); replace HB := am (below_step (KL HB) hb); (try clear hb); obtain ⟨Ao45, co45, eo45⟩ := Kd.R_slice HO124.out; subst eo45; obtain ⟨Ao46, co46, eo46⟩ := Kd.R_slice HO128.out; subst eo46))
            go_ret
            exact ⟨ER, KL HB⟩
           ·replace c37 := Bool.eq_false_iff.mpr c37
            subst c37
            have H1 : (some false) = some r := by rw [if_neg (show ¬ (false = true) by decide)] at H; exact H
            clear H
            have H := H1
            clear H1
            exact absurd ((Option.some.inj H).trans HR_.out) (by decide)
          ·rw [if_neg c36] at H
           have c36b0 : ((t121.length : Int) == 0) = false := beq_eq_false_iff_ne.mpr c36
           have c36b1 : ((t121.length : Int) != 0) = true := bne_iff_ne.mpr c36
           have c36b2 : ¬ (t121 = []) := fun h_ => c36 (by rw [h_]; rfl)
           exact absurd ((Option.some.inj H).trans HR_.out) (by decide)
         ·replace c35 := Bool.eq_false_iff.mpr c35
          subst c35
          have H1 : (if t126 = true then (some ((t125.length : Int) == 0)) else (some false)) = some r := by rw [if_neg (show ¬ (false = true) by decide)] at H; exact H
          clear H
          have H := H1
          clear H1
          by_cases c47 : t126 = true
          ·subst c47
           have H1 : (some ((t125.length : Int) == 0)) = some r := by rw [if_pos rfl] at H; exact H
           clear H
           have H := H1
           clear H1
           obtain rfl := Option.some.inj H
           go_wp2_with (first | ((with_reducible refine gate_callee (f := 26) rfl ?_); refine goesL_ (some 65) rfl rfl Try.func26 (by kernel_rfl) rfl #[.slice A1 l1.length c1] rfl MT ?_; (with_reducible refine (spec_DrawSetHas.calls kj8 _ _ l1 t117 t118 _ ?side1 ?side2 A27.out).mono ?_); (case side1 => exact KD HR1 HB); (case side2 => exact HC1.out); rintro e w48 ⟨v119, rfl, ho0, hb⟩; refine ⟨_, rfl, ?_⟩; have HO120 := am (Kd.R_lower (Kd.R_new' (Kd.R_new' (Kd.R_new' (Kd.R_new' ho0 (Kd.R_lt (KR HO_5))) (Kd.R_lt (KR HO_6))) (Kd.R_lt (KR HO_7))) (Kd.R_lt (KR HO_9))) (below_size (KL HB))); replace HO_5 := am (Kd.R_elder' (KR HO_5) (Kd.R_base ho0) hb); replace HO_6 := am (Kd.R_elder' (KR HO_6) (Kd.R_base ho0) hb); replace HO_7 := am (Kd.R_elder' (KR HO_7) (Kd.R_base ho0) hb); replace HO_9 := am (Kd.R_elder' (KR HO_9) (Kd.R_base ho0) hb); replace HB := am (below_step (KL HB) hb); (try clear hb); (try clear ho0); obtain ⟨Ao49, co49, eo49⟩ := Kd.R_slice HO_7.out; subst eo49) | ((with_reducible refine gate_callee (f := 33) rfl ?_); refine goesL_ (some 71) rfl rfl Try.func33 (by kernel_rfl) rfl #[.slice Ao49 t107.length co49, .slice Ao12 t102.length co12] rfl MT ?_; (with_reducible refine (impl_SetBoth.calls kj8 _ _ t107 _ _ t102 t121 false _ ?side1 ?side2 ?side3 ?side4 A28.out).mono ?_); (case side1 => exact KC (Kd.R_reads' HO_7.out).2.2); (case side2 => exact (Kd.R_reads' HO_7.out).2.1); (case side3 => exact KC (Kd.R_reads' HO_6.out).2.2); (case side4 => exact (Kd.R_reads' HO_6.out).2.1); rintro e w50 ⟨v123, rfl, ho0, hb⟩; refine ⟨_, rfl, ?_⟩; have HO124 := am (Kd.R_lower (Kd.R_new' (Kd.R_new' (Kd.R_new' (Kd.R_new' (Kd.R_new' ho0 (Kd.R_lt (KR HO_5))) (Kd.R_lt (KR HO_6))) (Kd.R_lt (KR HO_7))) (Kd.R_lt (KR HO_9))) (Kd.R_lt (KR HO120))) (below_size (KL HB))); replace HO_5 := am (Kd.R_elder' (KR HO_5) (Kd.R_base ho0) hb); replace HO_6 := am (Kd.R_elder' (KR HO_6) (Kd.R_base ho0) hb); replace HO_7 := am (Kd.R_elder' (KR HO_7) (Kd.R_base ho0) hb); replace HO_9 := am (Kd.R_elder' (KR HO_9) (Kd.R_base ho0) hb); replace HO120 := am (Kd.R_elder' (KR HO120) (Kd.R_base ho0) hb); replace HB := am (below_step (KL HB) hb); (try clear hb); (try clear ho0)) | ((with_reducible refine gate_callee (f := 31) rfl ?_); refine goesL_ (some 77) rfl rfl Try.func31 (by kernel_rfl) rfl #[.slice Ao11 t101.length co11, .slice Ao11 t101.length co11] rfl MT ?_; (with_reducible refine (impl_SetLess.calls kj8 _ _ t101 _ _ t101 t125 true _ ?side1 ?side2 ?side3 ?side4 A29.out).mono ?_); (case side1 => exact KC (Kd.R_reads' HO_5.out).2.2); (case side2 => exact (Kd.R_reads' HO_5.out).2.1); (case side3 => exact KC (Kd.R_reads' HO_5.out).2.2); (case side4 => exact (Kd.R_reads' HO_5.out).2.1); rintro e w51 ⟨v127, rfl, ho0, hb⟩; refine ⟨_, rfl, ?_⟩; have HO128 := am (Kd.R_lower (Kd.R_new' (Kd.R_new' (Kd.R_new' (Kd.R_new' (Kd.R_new' (Kd.R_new' ho0 (Kd.R_lt (KR HO_5))) (Kd.R_lt (KR HO_6))) (Kd.R_lt (KR HO_7))) (Kd.R_lt (KR HO_9))) (Kd.R_lt (KR HO120))) (Kd.R_lt (KR HO124))) (below_size (KL HB))); replace HO_5 := am (Kd.R_elder' (KR HO_5) (Kd.R_base ho0) hb); replace HO_6 := am (Kd.R_elder' (KR HO_6) (Kd.R_base ho0) hb); replace HO_7 := am (Kd.R_elder' (KR HO_7) (Kd.R_base ho0) hb); replace HO_9 := am (Kd.R_elder' (KR HO_9) (Kd.R_base ho0) hb); replace HO120 := am (Kd.R_elder' (KR HO120) (Kd.R_base ho0) hb); replace HO124 := am (Kd.R_elder' (KR HO124) (Kd.R_base ho0) hb); replace HB := am (below_step (KL HB) hb); (try clear hb); (try clear ho0)) | ((with_reducible refine gate_callee (f := 15) rfl ?_); refine goesL_ (some 82) rfl rfl Try.func15 (by kernel_rfl) rfl #[.slice Ao49 t107.length co49, .int .i64 t118] rfl MT ?_; (with_reducible refine (impl_SetHas.calls kj8 _ _ t107 t118 t129 _ ?side1 ?side2 A30.out).mono ?_); (case side1 => exact KC (Kd.R_reads' HO_7.out).2.2); (case side2 => exact (Kd.R_reads' HO_7.out).2.1); rintro e w52 ⟨rfl, hb⟩; refine ⟨_, rfl, ?_⟩; replace HO_5 := am (Kd.R_below (KR HO_5) hb); replace HO_6 := am (Kd.R_below (KR HO_6) hb); replace HO_7 := am (Kd.R_below (KR HO_7) hb); replace HO_9 := am (Kd.R_below (KR HO_9) hb); replace HO120 := am (Kd.R_below (KR HO120) hb); replace HO124 := am (Kd.R_below (KR HO124) hb); replace HO128 := am (Kd.R_below (KR HO128) hb); replace HB := am (below_step (KL HB) hb); (try clear hb)) | ((with_reducible refine gate_callee (f := 15) rfl ?_); refine goesL_ (some 85) rfl rfl Try.func15 (by kernel_rfl) rfl #[.slice Ao11 t101.length co11, .int .i64 t118] rfl MT ?_; (with_reducible refine (impl_SetHas.calls kj8 _ _ t101 t118 true _ ?side1 ?side2 A31.out).mono ?_); (case side1 => exact KC (Kd.R_reads' HO_5.out).2.2); (case side2 => exact (Kd.R_reads' HO_5.out).2.1); rintro e w53 ⟨rfl, hb⟩; refine ⟨_, rfl, ?_⟩; replace HO_5 := am (Kd.R_below (KR HO_5) hb); replace HO_6 := am (Kd.R_below (KR HO_6) hb); replace HO_7 := am (Kd.R_below (KR HO_7) hb); replace HO_9 := am (Kd.R_below (KR HO_9) hb); replace HO120 := am (Kd.R_below (KR HO120) hb); replace HO124 := am (Kd.R_below (KR HO124) hb); replace HO128 := am (Kd.R_below (KR HO128) hb); replace HB := am (below_step (KL HB) hb); (try clear hb)) | (go_at_call 15; (with_reducible refine (impl_SetHas.calls kj8 _ _ t102 t118 t131 _ ?side1 ?side2 A33.out).mono ?_); (case side1 => exact KC (Kd.R_reads' HO_6.out).2.2); (case side2 => exact (Kd.R_reads' HO_6.out).2.1); rintro e w54 ⟨rfl, hb⟩; replace HO_5 := am (Kd.R_below (KR HO_5) hb); replace HO_6 := am (Kd.R_below (KR HO_6) hb); replace HO_7 := am (Kd.R_below (KR HO_7) hb); replace HO_9 := am (Kd.R_below (KR HO_9) hb); replace HO120 := am (Kd.R_below (KR HO120) hb); replace HO124 := am (Kd.R_below (KR HO124) hb); replace HO128 := am (Kd.R_below (KR HO128) hb); replace HB := am (below_step (KL HB) hb); (try clear hb); obtain ⟨Ao55, co55, eo55⟩ := Kd.R_slice HO128.out; subst eo55))
           go_ret
           exact ⟨ER, KL HB⟩
          ·replace c47 := Bool.eq_false_iff.mpr c47
           subst c47
           have H1 : (some false) = some r := by rw [if_neg (show ¬ (false = true) by decide)] at H; exact H
           clear H
           have H := H1
           clear H1
           exact absurd ((Option.some.inj H).trans HR_.out) (by decide)
        ·rw [if_neg c34] at H
         have c34b0 : (t129 == (!t131)) = false := by simpa using c34
         (try (have c34b1 : decide (t129 = (!t131)) = false := by simpa using c34))
         (try (have c34b2 : (t129 == (!t131)) = false := by simpa using c34))
         (try (have c34b3 : ¬ (t129 = (!t131)) := by simpa using c34))
         clear c34
         exact absurd ((Option.some.inj H).trans HR_.out) (by decide)
       ·replace c32 := Bool.eq_false_iff.mpr c32
        subst c32
        have H1 : (if (t129 == false) = true then (if t122 = true then (if (t121.length : Int) = 0 then (if t126 = true then (some ((t125.length : Int) == 0)) else (some false)) else (some false)) else (if t126 = true then (some ((t125.length : Int) == 0)) else (some false))) else (some false)) = some r := by rw [if_neg (show ¬ (false = true) by decide)] at H; exact H
        clear H
        have H := H1
        clear H1
        by_cases c56 : (t129 == false) = true
        ·rw [if_pos c56] at H
         have c56b0 : (t129 == false) = true := c56
         (try (have c56b1 : decide (t129 = false) = true := by simpa using c56))
         (try (have c56b2 : (t129 == false) = true := by simpa using c56))
         clear c56
         by_cases c57 : t122 = true
         ·subst c57
          have H1 : (if (t121.length : Int) = 0 then (if t126 = true then (some ((t125.length : Int) == 0)) else (some false)) else (some false)) = some r := by rw [if_pos rfl] at H; exact H
          clear H
          have H := H1
          clear H1
          by_cases c58 : (t121.length : Int) = 0
          ·rw [if_pos c58] at H
           have c58b0 : ((t121.length : Int) == 0) = true := beq_iff_eq.mpr c58
           have c58b1 : ((t121.length : Int) != 0) = false := bne_eq_false_iff_eq.mpr c58
           clear c58
           by_cases c59 : t126 = true
           ·subst c59
            have H1 : (some ((t125.length : Int) == 0)) = some r := by rw [if_pos rfl] at H; exact H
            clear H
            have H := H1
            clear H1
            obtain rfl := Option.some.inj H
            go_wp2_with (first | ((with_reducible refine gate_callee (f := 26) rfl ?_); refine goesL_ (some 65) rfl rfl Try.func26 (by kernel_rfl) rfl #[.slice A1 l1.length c1] rfl MT ?_; (with_reducible refine (spec_DrawSetHas.calls kj8 _ _ l1 t117 t118 _ ?side1 ?side2 A27.out).mono ?_); (case side1 => exact KD HR1 HB); (case side2 => exact HC1.out); rintro e w60 ⟨v119, rfl, ho0, hb⟩; refine ⟨_, rfl, ?_⟩; have HO120 := am (Kd.R_lower (Kd.R_new' (Kd.R_new' (Kd.R_new' (Kd.R_new' ho0 (Kd.R_lt (KR HO_5))) (Kd.R_lt (KR HO_6))) (Kd.R_lt (KR HO_7))) (Kd.R_lt (KR HO_9))) (below_size (KL HB))); replace HO_5 := am (Kd.R_elder' (KR HO_5) (Kd.R_base ho0) hb); replace HO_6 := am (Kd.R_elder' (KR HO_6) (Kd.R_base ho0) hb); replace HO_7 := am (Kd.R_elder' (KR HO_7) (Kd.R_base ho0) hb); replace HO_9 := am (Kd.R_elder' (KR HO_9) (Kd.R_base ho0) hb); replace HB := am (below_step (KL HB) hb); (try clear hb); (try clear ho0); obtain ⟨Ao61, co61, eo61⟩ := Kd.R_slice HO_7.out; subst eo61) | ((with_reducible refine gate_callee (f := 33) rfl ?_); refine goesL_ (some 71) rfl rfl Try.func33 (by kernel_rfl) rfl #[.slice Ao61 t107.length co61, .slice Ao12 t102.length co12] rfl MT ?_; (with_reducible refine (impl_SetBoth.calls kj8 _ _ t107 _ _ t102 t121 true _ ?side1 ?side2 ?side3 ?side4 A28.out).mono ?_); (case side1 => exact KC (Kd.R_reads' HO_7.out).2.2); (case side2 => exact (Kd.R_reads' HO_7.out).2.1); (case side3 => exact KC (Kd.R_reads' HO_6.out).2.2); (case side4 => exact (Kd.R_reads' HO_6.out).2.1); rintro e w62 ⟨v123, rfl, ho0, hb⟩; refine ⟨_, rfl, ?_⟩; have HO124 := am (Kd.R_lower (Kd.R_new' (Kd.R_new' (Kd.R_new' (Kd.R_new' (Kd.R_new' ho0 (Kd.R_lt (KR HO_5))) (Kd.R_lt (KR HO_6))) (Kd.R_lt (KR HO_7))) (Kd.R_lt (KR HO_9))) (Kd.R_lt (KR HO120))) (below_size (KL HB))); replace HO_5 := am (Kd.R_elder' (KR HO_5) (Kd.R_base ho0) hb); replace HO_6 := am (Kd.R_elder' (KR HO_6) (Kd.R_base ho0) hb); replace HO_7 := am (Kd.R_elder' (KR HO_7) (Kd.R_base ho0) hb); replace HO_9 := am (Kd.R_elder' (KR HO_9) (Kd.R_base ho0) hb); replace HO120 := am (Kd.R_elder' (KR HO120) (Kd.R_base ho0) hb); replace HB := am (below_step (KL HB) hb); (try clear hb); (try clear ho0)) | ((with_reducible refine gate_callee (f := 31) rfl ?_); refine goesL_ (some 77) rfl rfl Try.func31 (by kernel_rfl) rfl #[.slice Ao11 t101.length co11, .slice Ao11 t101.length co11] rfl MT ?_; (with_reducible refine (impl_SetLess.calls kj8 _ _ t101 _ _ t101 t125 true _ ?side1 ?side2 ?side3 ?side4 A29.out).mono ?_); (case side1 => exact KC (Kd.R_reads' HO_5.out).2.2); (case side2 => exact (Kd.R_reads' HO_5.out).2.1); (case side3 => exact KC (Kd.R_reads' HO_5.out).2.2); (case side4 => exact (Kd.R_reads' HO_5.out).2.1); rintro e w63 ⟨v127, rfl, ho0, hb⟩; refine ⟨_, rfl, ?_⟩; have HO128 := am (Kd.R_lower (Kd.R_new' (Kd.R_new' (Kd.R_new' (Kd.R_new' (Kd.R_new' (Kd.R_new' ho0 (Kd.R_lt (KR HO_5))) (Kd.R_lt (KR HO_6))) (Kd.R_lt (KR HO_7))) (Kd.R_lt (KR HO_9))) (Kd.R_lt (KR HO120))) (Kd.R_lt (KR HO124))) (below_size (KL HB))); replace HO_5 := am (Kd.R_elder' (KR HO_5) (Kd.R_base ho0) hb); replace HO_6 := am (Kd.R_elder' (KR HO_6) (Kd.R_base ho0) hb); replace HO_7 := am (Kd.R_elder' (KR HO_7) (Kd.R_base ho0) hb); replace HO_9 := am (Kd.R_elder' (KR HO_9) (Kd.R_base ho0) hb); replace HO120 := am (Kd.R_elder' (KR HO120) (Kd.R_base ho0) hb); replace HO124 := am (Kd.R_elder' (KR HO124) (Kd.R_base ho0) hb); replace HB := am (below_step (KL HB) hb); (try clear hb); (try clear ho0)) | ((with_reducible refine gate_callee (f := 15) rfl ?_); refine goesL_ (some 82) rfl rfl Try.func15 (by kernel_rfl) rfl #[.slice Ao61 t107.length co61, .int .i64 t118] rfl MT ?_; (with_reducible refine (impl_SetHas.calls kj8 _ _ t107 t118 t129 _ ?side1 ?side2 A30.out).mono ?_); (case side1 => exact KC (Kd.R_reads' HO_7.out).2.2); (case side2 => exact (Kd.R_reads' HO_7.out).2.1); rintro e w64 ⟨rfl, hb⟩; refine ⟨_, rfl, ?_⟩; replace HO_5 := am (Kd.R_below (KR HO_5) hb); replace HO_6 := am (Kd.R_below (KR HO_6) hb); replace HO_7 := am (Kd.R_below (KR HO_7) hb); replace HO_9 := am (Kd.R_below (KR HO_9) hb); replace HO120 := am (Kd.R_below (KR HO120) hb); replace HO124 := am (Kd.R_below (KR HO124) hb); replace HO128 := am (Kd.R_below (KR HO128) hb); replace HB := am (below_step (KL HB) hb); (try clear hb)) | ((with_reducible refine gate_callee (f := 15) rfl ?_); refine goesL_ (some 85) rfl rfl Try.func15 (by kernel_rfl) rfl #[.slice Ao11 t101.length co11, .int .i64 t118] rfl MT ?_; (with_reducible refine (impl_SetHas.calls kj8 _ _ t101 t118 false _ ?side1 ?side2 A31.out).mono ?_); (case side1 => exact KC (Kd.R_reads' HO_5.out).2.2); (case side2 => exact (Kd.R_reads' HO_5.out).2.1); rintro e w65 ⟨rfl, hb⟩; refine ⟨_, rfl, ?_⟩; replace HO_5 := am (Kd.R_below (KR HO_5) hb); replace HO_6 := am (Kd.R_below (KR HO_6) hb); replace HO_7 := am (Kd.R_below (KR HO_7) hb); replace HO_9 := am (Kd.R_below (KR HO_9) hb); replace HO120 := am (Kd.R_below (KR HO120) hb); replace HO124 := am (Kd.R_below (KR HO124) hb); replace HO128 := am (Kd.R_below (KR HO128) hb); replace HB := am (below_step (KL HB) hb); (try clear hb); obtain ⟨Ao66, co66, eo66⟩ := Kd.R_slice HO124.out; subst eo66; obtain ⟨Ao67, co67, eo67⟩ := Kd.R_slice HO128.out; subst eo67))
            go_ret
            exact ⟨ER, KL HB⟩
           ·replace c59 := Bool.eq_false_iff.mpr c59
            subst c59
            have H1 : (some false) = some r := by rw [if_neg (show ¬ (false = true) by decide)] at H; exact H
            clear H
            have H := H1
            clear H1
            exact absurd ((Option.some.inj H).trans HR_.out) (by decide)
          ·rw [if_neg c58] at H
           have c58b0 : ((t121.length : Int) == 0) = false := beq_eq_false_iff_ne.mpr c58
           have c58b1 : ((t121.length : Int) != 0) = true := bne_iff_ne.mpr c58
           have c58b2 : ¬ (t121 = []) := fun h_ => c58 (by rw [h_]; rfl)
           exact absurd ((Option.some.inj H).trans HR_.out) (by decide)
         ·replace c57 := Bool.eq_false_iff.mpr c57
          subst c57
          have H1 : (if t126 = true then (some ((t125.length : Int) == 0)) else (some false)) = some r := by rw [if_neg (show ¬ (false = true) by decide)] at H; exact H
          clear H
          have H := H1
          clear H1
          by_cases c68 : t126 = true
          ·subst c68
           have H1 : (some ((t125.length : Int) == 0)) = some r := by rw [if_pos rfl] at H; exact H
           clear H
           have H := H1
           clear H1
           obtain rfl := Option.some.inj H
           go_wp2_with (first | ((with_reducible refine gate_callee (f := 26) rfl ?_); refine goesL_ (some 65) rfl rfl Try.func26 (by kernel_rfl) rfl #[.slice A1 l1.length c1] rfl MT ?_; (with_reducible refine (spec_DrawSetHas.calls kj8 _ _ l1 t117 t118 _ ?side1 ?side2 A27.out).mono ?_); (case side1 => exact KD HR1 HB); (case side2 => exact HC1.out); rintro e w69 ⟨v119, rfl, ho0, hb⟩; refine ⟨_, rfl, ?_⟩; have HO120 := am (Kd.R_lower (Kd.R_new' (Kd.R_new' (Kd.R_new' (Kd.R_new' ho0 (Kd.R_lt (KR HO_5))) (Kd.R_lt (KR HO_6))) (Kd.R_lt (KR HO_7))) (Kd.R_lt (KR HO_9))) (below_size (KL HB))); replace HO_5 := am (Kd.R_elder' (KR HO_5) (Kd.R_base ho0) hb); replace HO_6 := am (Kd.R_elder' (KR HO_6) (Kd.R_base ho0) hb); replace HO_7 := am (Kd.R_elder' (KR HO_7) (Kd.R_base ho0) hb); replace HO_9 := am (Kd.R_elder' (KR HO_9) (Kd.R_base ho0) hb); replace HB := am (below_step (KL HB) hb); (try clear hb); (try clear ho0); obtain ⟨Ao70, co70, eo70⟩ := Kd.R_slice HO_7.out; subst eo70) | ((with_reducible refine gate_callee (f := 33) rfl ?_); refine goesL_ (some 71) rfl rfl Try.func33 (by kernel_rfl) rfl #[.slice Ao70 t107.length co70, .slice Ao12 t102.length co12] rfl MT ?_; (with_reducible refine (impl_SetBoth.calls kj8 _ _ t107 _ _ t102 t121 false _ ?side1 ?side2 ?side3 ?side4 A28.out).mono ?_); (case side1 => exact KC (Kd.R_reads' HO_7.out).2.2); (case side2 => exact (Kd.R_reads' HO_7.out).2.1); (case side3 => exact KC (Kd.R_reads' HO_6.out).2.2); (case side4 => exact (Kd.R_reads' HO_6.out).2.1); rintro e w71 ⟨v123, rfl, ho0, hb⟩; refine ⟨_, rfl, ?_⟩; have HO124 := am (Kd.R_lower (Kd.R_new' (Kd.R_new' (Kd.R_new' (Kd.R_new' (Kd.R_new' ho0 (Kd.R_lt (KR HO_5))) (Kd.R_lt (KR HO_6))) (Kd.R_lt (KR HO_7))) (Kd.R_lt (KR HO_9))) (Kd.R_lt (KR HO120))) (below_size (KL HB))); replace HO_5 := am (Kd.R_elder' (KR HO_5) (Kd.R_base ho0) hb); replace HO_6 := am (Kd.R_elder' (KR HO_6) (Kd.R_base ho0) hb); replace HO_7 := am (Kd.R_elder' (KR HO_7) (Kd.R_base ho0) hb); replace HO_9 := am (Kd.R_elder' (KR HO_9) (Kd.R_base ho0) hb); replace HO120 := am (Kd.R_elder' (KR HO120) (Kd.R_base ho0) hb); replace HB := am (below_step (KL HB) hb); (try clear hb); (try clear ho0)) | ((with_reducible refine gate_callee (f := 31) rfl ?_); refine goesL_ (some 77) rfl rfl Try.func31 (by kernel_rfl) rfl #[.slice Ao11 t101.length co11, .slice Ao11 t101.length co11] rfl MT ?_; (with_reducible refine (impl_SetLess.calls kj8 _ _ t101 _ _ t101 t125 true _ ?side1 ?side2 ?side3 ?side4 A29.out).mono ?_); (case side1 => exact KC (Kd.R_reads' HO_5.out).2.2); (case side2 => exact (Kd.R_reads' HO_5.out).2.1); (case side3 => exact KC (Kd.R_reads' HO_5.out).2.2); (case side4 => exact (Kd.R_reads' HO_5.out).2.1); rintro e w72 ⟨v127, rfl, ho0, hb⟩; refine ⟨_, rfl, ?_⟩; have HO128 := am (Kd.R_lower (Kd.R_new' (Kd.R_new' (Kd.R_new' (Kd.R_new' (Kd.R_new' (Kd.R_new' ho0 (Kd.R_lt (KR HO_5))) (Kd.R_lt (KR HO_6))) (Kd.R_lt (KR HO_7))) (Kd.R_lt (KR HO_9))) (Kd.R_lt (KR HO120))) (Kd.R_lt (KR HO124))) (below_size (KL HB))); replace HO_5 := am (Kd.R_elder' (KR HO_5) (Kd.R_base ho0) hb); replace HO_6 := am (Kd.R_elder' (KR HO_6) (Kd.R_base ho0) hb); replace HO_7 := am (Kd.R_elder' (KR HO_7) (Kd.R_base ho0) hb); replace HO_9 := am (Kd.R_elder' (KR HO_9) (Kd.R_base ho0) hb); replace HO120 := am (Kd.R_elder' (KR HO120) (Kd.R_base ho0) hb); replace HO124 := am (Kd.R_elder' (KR HO124) (Kd.R_base ho0) hb); replace HB := am (below_step (KL HB) hb); (try clear hb); (try clear ho0)) | ((with_reducible refine gate_callee (f := 15) rfl ?_); refine goesL_ (some 82) rfl rfl Try.func15 (by kernel_rfl) rfl #[.slice Ao70 t107.length co70, .int .i64 t118] rfl MT ?_; (with_reducible refine (impl_SetHas.calls kj8 _ _ t107 t118 t129 _ ?side1 ?side2 A30.out).mono ?_); (case side1 => exact KC (Kd.R_reads' HO_7.out).2.2); (case side2 => exact (Kd.R_reads' HO_7.out).2.1); rintro e w73 ⟨rfl, hb⟩; refine ⟨_, rfl, ?_⟩; replace HO_5 := am (Kd.R_below (KR HO_5) hb); replace HO_6 := am (Kd.R_below (KR HO_6) hb); replace HO_7 := am (Kd.R_below (KR HO_7) hb); replace HO_9 := am (Kd.R_below (KR HO_9) hb); replace HO120 := am (Kd.R_below (KR HO120) hb); replace HO124 := am (Kd.R_below (KR HO124) hb); replace HO128 := am (Kd.R_below (KR HO128) hb); replace HB := am (below_step (KL HB) hb); (try clear hb)) | ((with_reducible refine gate_callee (f := 15) rfl ?_); refine goesL_ (some 85) rfl rfl Try.func15 (by kernel_rfl) rfl #[.slice Ao11 t101.length co11, .int .i64 t118] rfl MT ?_; (with_reducible refine (impl_SetHas.calls kj8 _ _ t101 t118 false _ ?side1 ?side2 A31.out).mono ?_); (case side1 => exact KC (Kd.R_reads' HO_5.out).2.2); (case side2 => exact (Kd.R_reads' HO_5.out).2.1); rintro e w74 ⟨rfl, hb⟩; refine ⟨_, rfl, ?_⟩; replace HO_5 := am (Kd.R_below (KR HO_5) hb); replace HO_6 := am (Kd.R_below (KR HO_6) hb); replace HO_7 := am (Kd.R_below (KR HO_7) hb); replace HO_9 := am (Kd.R_below (KR HO_9) hb); replace HO120 := am (Kd.R_below (KR HO120) hb); replace HO124 := am (Kd.R_below (KR HO124) hb); replace HO128 := am (Kd.R_below (KR HO128) hb); replace HB := am (below_step (KL HB) hb); (try clear hb); obtain ⟨Ao75, co75, eo75⟩ := Kd.R_slice HO128.out; subst eo75))
           go_ret
           exact ⟨ER, KL HB⟩
          ·replace c68 := Bool.eq_false_iff.mpr c68
           subst c68
           have H1 : (some false) = some r := by rw [if_neg (show ¬ (false = true) by decide)] at H; exact H
           clear H
           have H := H1
           clear H1
           exact absurd ((Option.some.inj H).trans HR_.out) (by decide)
        ·rw [if_neg c56] at H
         have c56b0 : (t129 == false) = false := by simpa using c56
         (try (have c56b1 : decide (t129 = false) = false := by simpa using c56))
         (try (have c56b2 : (t129 == false) = false := by simpa using c56))
         (try (have c56b3 : ¬ (t129 = false) := by simpa using c56))
         clear c56
         exact absurd ((Option.some.inj H).trans HR_.out) (by decide)
/-- THE ONE PURE STATEMENT of laws_FnSetLess: yours. -/
def laws_FnSetLess.Pure : Prop := ∀ (l0 : List Int) (l1 : List Int), l0.length ≤ maxLen → l0.length * 1 ≤ 140737488351232 → (∀ x ∈ l0, (Lit.int .u8 x).wf = true) → l1.length ≤ maxLen → l1.length * 1 ≤ 140737488351232 → (∀ x ∈ l1, (Lit.int .u8 x).wf = true) → ∃ k, laws_FnSetLess.f k l0 l1 = some true
theorem laws_FnSetLess.walk (P : laws_FnSetLess.Pure) (a0 : Option Addr) (len0 cap0 : Nat) (z0 : List Int) (a1 : Option Addr) (len1 cap1 : Nat) (z1 : List Int) (w : World) (w0 : (a0 = none ∧ len0 = 0 ∧ cap0 = 0 ∧ z0 = []) ∨ ∃ x, a0 = some x ∧ len0 ≤ cap0 ∧ cap0 ≤ maxLen ∧ z0.length = cap0 ∧ (∀ i, i < z0.length → w.cell? (x.add i) = some (.int .u8 (z0.getD i 0))) ∧ ∀ n ∈ z0, (Lit.int .u8 n).wf = true) (y0 : len0 * 1 ≤ 140737488351232) (w1 : (a1 = none ∧ len1 = 0 ∧ cap1 = 0 ∧ z1 = []) ∨ ∃ x, a1 = some x ∧ len1 ≤ cap1 ∧ cap1 ≤ maxLen ∧ z1.length = cap1 ∧ (∀ i, i < z1.length → w.cell? (x.add i) = some (.int .u8 (z1.getD i 0))) ∧ ∀ n ∈ z1, (Lit.int .u8 n).wf = true) (y1 : len1 * 1 ≤ 140737488351232) :
  Calls Try.prog 7 #[.slice a0 len0 cap0, .slice a1 len1 cap1] w fun e w' => e = .returned (.bool true) ∧ Below w.heap.size w w' := by
 obtain ⟨l0, rfl, hr0, hm0, hw0, hc0⟩ := ReadsInt.ofRowC w0
 obtain ⟨l1, rfl, hr1, hm1, hw1, hc1⟩ := ReadsInt.ofRowC w1
 obtain ⟨k, h⟩ := P l0 l1 hm0 y0 hw0 hm1 y1 hw1
 refine (laws_FnSetLess.calls k _ _ l0 _ _ l1 true w (Kd.C_of_reads (d := (0 : Int)) (h1 := fun _ => rfl) hr0) hc0 (Kd.C_of_reads (d := (0 : Int)) (h1 := fun _ => rfl) hr1) hc1 rfl h).mono ?_
 rintro e w' ⟨rfl, hd⟩
 exact ⟨rfl, hd⟩
end Go.Proofs.Ytmanlcakdcoekaa.PAll
end
