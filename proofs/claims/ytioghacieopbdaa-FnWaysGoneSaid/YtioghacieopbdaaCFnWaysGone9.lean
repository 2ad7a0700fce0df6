/- Contracts of the functions that the statement reaches, printed by a program out of the translation and joined with the plain laws. -/
import Derived.Test.YtioghacieopbdaaCFnWaysGone3
import Derived.Test.YtioghacieopbdaaCFnWaysGone4
import Derived.Test.YtioghacieopbdaaCFnWaysGone5
import Derived.Test.YtioghacieopbdaaCFnWaysGone6
import Derived.Test.YtioghacieopbdaaCFnWaysGone7
import Derived.Test.YtioghacieopbdaaCFnWaysGone8
section
namespace Go.Proofs.Ytioghacieopbdaa.PAll
open Go.RowKit Go.Proofs.YtioghacieopbdaaW.PrintWords Go.Proofs.YtioghacieopbdaaW.PrintLast Go.Proofs.YtioghacieopbdaaW.PrintMore
attribute [local go_sem] max2_int min2_int max_two min_two max_three min_three max_four min_four   -- for this text's walks alone
set_option linter.unusedVariables false
set_option linter.unusedSimpArgs false
mutual
def laws_FnWaysGone.j0 : Nat → List Int → List Int → Bool → Option (Bool)
 | 0, _, _, _ => none
 | k + 1, x0, x1, x22 => if x22 = true then (some true) else ((spec_DrawWaysGone.f k x0).bind fun bt101 => ((impl_WaysGone.f k bt101.1 bt101.2.1 bt101.2.2).bind fun bt107 => ((spec_WaysGone.f k bt101.1 bt101.2.1 bt101.2.2).bind fun bt111 => (if (bt107.2 != bt111.2) = true then (laws_FnWaysGone.j1 k x1 bt101.1 bt107.1 bt107.2 bt111.1 bt111.2 true bt101.2.1 bt101.2.2) else ((laws_ovWays.f k bt107.1 bt111.1).bind fun t115 => (if t115 = true then (laws_FnWaysGone.j1 k x1 bt101.1 bt107.1 bt107.2 bt111.1 bt111.2 (!bt107.2) bt101.2.1 bt101.2.2) else (laws_FnWaysGone.j1 k x1 bt101.1 bt107.1 bt107.2 bt111.1 bt111.2 true bt101.2.1 bt101.2.2)))))))
def laws_FnWaysGone.j1 : Nat → List Int → List (S86) → List (S86) → Bool → List (S86) → Bool → Bool → Int → Int → Option (Bool)
 | 0, _, _, _, _, _, _, _, _, _ => none
 | k + 1, x1, x5, x7, x8, x9, x10, x52, x107000, x107001 => if x52 = true then (if (x8 == x10) = true then ((laws_ovWays.f k x7 x9).bind fun t116 => (if t116 = true then (if x8 = true then (some true) else ((spec_WaysOk.f k x5).bind fun t117 => (if t117 = true then ((laws_ovWays.f k x7 x5).bind fun t118 => (some t118)) else (some true)))) else (some false))) else (some false)) else ((spec_DrawWaysLead.f k x1).bind fun bt119 => ((impl_WaysGone.f k x7 x107000 x107001).bind fun bt123 => ((impl_WaysOk.f k x7).bind fun t127 => (if t127 = true then (if bt123.2 = true then (some false) else (if (wrap64 ((x7.length : Int) + 1)) = (x5.length : Int) then ((impl_BlockHas.f x107000 x107001 bt119.2).bind fun t128 => (if t128 = true then (some true) else ((impl_WaysLead.f k x7 bt119.2).bind fun t129 => ((impl_WaysLead.f k x5 bt119.2).bind fun t130 => (some (t129 == t130)))))) else (some false))) else (some false)))))
end
def laws_FnWaysGone.f (k : Nat) (l0 : List Int) (l1 : List Int) : Option (Bool) := if (l0.length : Int) > 1048576 then (laws_FnWaysGone.j0 k l0 l1 true) else (laws_FnWaysGone.j0 k l0 l1 (decide ((l1.length : Int) > 1048576)))
set_option maxHeartbeats 8000000 in
set_option maxRecDepth 100000 in
theorem laws_FnWaysGone.calls (k : Nat) (A0 : Option Addr) (c0 : Nat) (l0 : List Int) (A1 : Option Addr) (c1 : Nat) (l1 : List Int) (r : Bool) (w : World) (hr0 : Kd.C (Kd.int .u8) w A0 l0.length l0) (hc0 : l0.length ≤ c0) (hr1 : Kd.C (Kd.int .u8) w A1 l1.length l1) (hc1 : l1.length ≤ c1) (hr0_ : r = true) (h : laws_FnWaysGone.f k l0 l1 = some r) :
  Calls Try.prog 13 #[.slice A0 l0.length c0, .slice A1 l1.length c1] w fun e w' => e = .returned (.bool r) ∧ Below w.heap.size w w' := by
 have hu32 := Try.underlying32
 have HR0 := Aside0.mk hr0
 have HC0 := Aside0.mk hc0
 clear hr0 hc0
 have HR1 := Aside0.mk hr1
 have HC1 := Aside0.mk hc1
 clear hr1 hc1
 have HB := am (Below.refl w.heap.size w)
 have H : (if (l0.length : Int) > 1048576 then (laws_FnWaysGone.j0 k l0 l1 true) else (laws_FnWaysGone.j0 k l0 l1 (decide ((l1.length : Int) > 1048576)))) = some r := h
 clear h
 have HR_ := Aside0.mk hr0_
 clear hr0_
 have HC3 := Aside0.mk H
 clear H
 go_enter Try.func13, Try.ntmps13
 go_upto_region 1 with (fail)
 go_cut [22] (fun v22 wc => ∃ (kq : Nat) (x22_2 : Bool), v22 = .bool x22_2 ∧ Aside0 (laws_FnWaysGone.j0 kq l0 l1 x22_2 = some r) ∧ Aside0 (kq ≤ k) ∧ Aside0 (Below w.heap.size w wc))
 case first =>
  have H := HC3.out
  clear HC3
  by_cases c4 : (l0.length : Int) > 1048576
  ·rw [if_pos c4] at H
   have c4b0 : decide (1048576 < (l0.length : Int)) = true := decide_eq_true c4
   have c4b1 : decide (1048576 < l0.length) = true := decide_eq_true (by omega)
   clear c4
   (first | rw [c4b0] | (simp only [i64_w, i32_w]; rw [c4b0]) | skip)
   have H' := Aside0.mk H
   clear H
   go_wp2
   go_meet
   case rel => exact ⟨_, (true), (by first | rfl | (simp; done) | (simp [*]; done)), H', ⟨by first | omega | exact Nat.le_refl _⟩, ⟨KL HB⟩⟩
  ·rw [if_neg c4] at H
   have c4b0 : decide (1048576 < (l0.length : Int)) = false := decide_eq_false c4
   have c4b1 : decide (1048576 < l0.length) = false := decide_eq_false (by omega)
   clear c4
   (first | rw [c4b0] | (simp only [i64_w, i32_w]; rw [c4b0]) | skip)
   have H' := Aside0.mk H
   clear H
   go_wp2
   go_meet
   case rel => exact ⟨_, (decide ((l1.length : Int) > 1048576)), (by first | rfl | (simp; done) | (simp [*]; done)), H', ⟨by first | omega | exact Nat.le_refl _⟩, ⟨KL HB⟩⟩
 case rest =>
  clear HC3
  try clear c1
  try clear p2
  try clear c4
  try clear c4b0
  try clear c4b1
  obtain ⟨kq, x22_2, rfl, HA, HJ2, HB⟩ := hcut
  cases kq with
  | zero => exact absurd HA.out (by simp [laws_FnWaysGone.j0])
  | succ kj2 =>
   have H := HA.out
   clear HA
   simp only [laws_FnWaysGone.j0] at H
   by_cases c5 : x22_2 = true
   ·subst c5
    have H1 : (some true) = some r := by rw [if_pos rfl] at H; exact H
    clear H
    have H := H1
    clear H1
    obtain rfl := Option.some.inj H
    go_wp2
    go_ret
    exact ⟨ER, KL HB⟩
   ·replace c5 := Bool.eq_false_iff.mpr c5
    subst c5
    have H1 : ((spec_DrawWaysGone.f kj2 l0).bind fun bt101 => ((impl_WaysGone.f kj2 bt101.1 bt101.2.1 bt101.2.2).bind fun bt107 => ((spec_WaysGone.f kj2 bt101.1 bt101.2.1 bt101.2.2).bind fun bt111 => (if (bt107.2 != bt111.2) = true then (laws_FnWaysGone.j1 kj2 l1 bt101.1 bt107.1 bt107.2 bt111.1 bt111.2 true bt101.2.1 bt101.2.2) else ((laws_ovWays.f kj2 bt107.1 bt111.1).bind fun t115 => (if t115 = true then (laws_FnWaysGone.j1 kj2 l1 bt101.1 bt107.1 bt107.2 bt111.1 bt111.2 (!bt107.2) bt101.2.1 bt101.2.2) else (laws_FnWaysGone.j1 kj2 l1 bt101.1 bt107.1 bt107.2 bt111.1 bt111.2 true bt101.2.1 bt101.2.2))))))) = some r := by rw [if_neg (show ¬ (false = true) by decide)] at H; exact H
    clear H
    have H := H1
    clear H1
    replace H := Option.bind_eq_some_iff.mp H
    obtain ⟨⟨t101, t104, t105⟩, A60, H⟩ := H
    replace H : ((impl_WaysGone.f kj2 t101 t104 t105).bind fun bt107 => ((spec_WaysGone.f kj2 t101 t104 t105).bind fun bt111 => (if (bt107.2 != bt111.2) = true then (laws_FnWaysGone.j1 kj2 l1 t101 bt107.1 bt107.2 bt111.1 bt111.2 true t104 t105) else ((laws_ovWays.f kj2 bt107.1 bt111.1).bind fun t115 => (if t115 = true then (laws_FnWaysGone.j1 kj2 l1 t101 bt107.1 bt107.2 bt111.1 bt111.2 (!bt107.2) t104 t105) else (laws_FnWaysGone.j1 kj2 l1 t101 bt107.1 bt107.2 bt111.1 bt111.2 true t104 t105)))))) = some r := H
    have A6 := Aside0.mk A60
    clear A60
    replace H := Option.bind_eq_some_iff.mp H
    obtain ⟨⟨t107, t110⟩, A70, H⟩ := H
    replace H : ((spec_WaysGone.f kj2 t101 t104 t105).bind fun bt111 => (if (t110 != bt111.2) = true then (laws_FnWaysGone.j1 kj2 l1 t101 t107 t110 bt111.1 bt111.2 true t104 t105) else ((laws_ovWays.f kj2 t107 bt111.1).bind fun t115 => (if t115 = true then (laws_FnWaysGone.j1 kj2 l1 t101 t107 t110 bt111.1 bt111.2 (!t110) t104 t105) else (laws_FnWaysGone.j1 kj2 l1 t101 t107 t110 bt111.1 bt111.2 true t104 t105))))) = some r := H
    have A7 := Aside0.mk A70
    clear A70
    replace H := Option.bind_eq_some_iff.mp H
    obtain ⟨⟨t111, t114⟩, A80, H⟩ := H
    replace H : (if (t110 != t114) = true then (laws_FnWaysGone.j1 kj2 l1 t101 t107 t110 t111 t114 true t104 t105) else ((laws_ovWays.f kj2 t107 t111).bind fun t115 => (if t115 = true then (laws_FnWaysGone.j1 kj2 l1 t101 t107 t110 t111 t114 (!t110) t104 t105) else (laws_FnWaysGone.j1 kj2 l1 t101 t107 t110 t111 t114 true t104 t105)))) = some r := H
    have A8 := Aside0.mk A80
    clear A80
    have HC9 := Aside0.mk H
    clear H
    go_upto_region 6 with (first | ((with_reducible refine gate_callee (f := 64) rfl ?_); refine goesL_ (some 25) rfl rfl Try.func64 (by kernel_rfl) rfl #[.slice A0 l0.length c0] rfl MT ?_; (with_reducible refine (spec_DrawWaysGone.calls kj2 _ _ l0 t101 t104 t105 _ ?side1 ?side2 A6.out).mono ?_); (case side1 => exact KC (Kd.C_below HR0.out HB.out)); (case side2 => exact HC0.out); rintro e w10 ⟨v102, rfl, ho0, hb⟩; refine ⟨_, rfl, ?_⟩; have HO103 := am (Kd.R_lower ho0 (below_size (KL HB))); replace HB := am (below_step (KL HB) hb); (try clear hb); (try clear hb2); (try clear hk); (try clear hi); (try clear ho0)) | ((with_reducible refine gate_dst (N := 6) rfl ?_); (try (refine gate_guard (by rfl) ?_; dsimp only)); refine box_event rfl (N := 6) rfl (cs := #[.int .i64 0, .int .i64 0]) (t := 32) BX ?_; intro gb106 hg w11 hbox hb; replace HO103 := am (Kd.R_below (KR HO103) hb); have BK106 := am (hbox); have GW106 := am (GH HB hg); have GE106 := GW106; replace HB := am (below_step (KL HB) hb); clear hb hbox hg; obtain ⟨hcz12_0, hcz12_1, hfz12_0⟩ := y2 w11 BK106.out; obtain ⟨Ao13, co13, eo13⟩ := Kd.R_slice HO103.out; subst eo13) | ((with_reducible refine gate_callee (f := 65) rfl ?_); refine goesL_ (some 31) rfl rfl Try.func65 (by kernel_rfl) rfl #[.slice Ao13 t101.length co13, .agg #[.int .i64 t104, .int .i64 t105]] rfl MT ?_; (with_reducible refine (impl_WaysGone.calls kj2 _ _ t101 t104 t105 t107 t110 _ ?side1 ?side2 A7.out).mono ?_); (case side1 => refine (Kd.R_reads' (e := 86) (base := w.heap.size) (ok := fun k_ => True) (n := t101.length) (c := co13) ?_).2.2; exact (by (with_reducible repeat (first | apply Kd.R_alloc | apply Kd.R_drewN | apply Kd.R_drew)); exact (Kd.R_mono (Kd.R_far (p := ⟨gb106, 1, none⟩) (Kd.R_far (p := ⟨gb106, 0, none⟩) (Kd.R_types HO103.out BK106.out (by decide)) (fun _ hk => hk.2) (.int .i64 t104)) (fun _ hk => hk.2) (.int .i64 t105)) (fun _ h_ => h_.1)))); (case side2 => exact (Kd.R_reads' HO103.out).2.1); rintro e w14 ⟨v108, rfl, ho0, hb⟩; refine ⟨_, rfl, ?_⟩; have HO109 := am (Kd.R_lower (Kd.R_new' ho0 (Kd.R_lt (by (with_reducible repeat (first | apply Kd.R_alloc | apply Kd.R_drewN | apply Kd.R_drew)); exact (Kd.R_mono (Kd.R_far (p := ⟨gb106, 1, none⟩) (Kd.R_far (p := ⟨gb106, 0, none⟩) (Kd.R_types HO103.out BK106.out (by decide)) (fun _ hk => hk.2) (.int .i64 t104)) (fun _ hk => hk.2) (.int .i64 t105)) (fun _ h_ => h_.1))))) (below_size (K1 HB GE106.out))); replace HO103 := am (Kd.R_elder' (by (with_reducible repeat (first | apply Kd.R_alloc | apply Kd.R_drewN | apply Kd.R_drew)); exact (Kd.R_mono (Kd.R_far (p := ⟨gb106, 1, none⟩) (Kd.R_far (p := ⟨gb106, 0, none⟩) (Kd.R_types HO103.out BK106.out (by decide)) (fun _ hk => hk.2) (.int .i64 t104)) (fun _ hk => hk.2) (.int .i64 t105)) (fun _ h_ => h_.1))) (Kd.R_base ho0) hb); replace BK106 := am (blk_below (g := gb106) (o := .cells #[.int .i64 t104, .int .i64 t105] 32 (0, 0)) (by (with_reducible repeat (first | refine blk_drewN ?_ _ | refine blk_drew ?_ | refine blk_alloc ?_ _)); refine blk_put (cs := #[.int .i64 t104, .int .i64 0]) ?_ 1 _ rfl; (with_reducible repeat (first | refine blk_drewN ?_ _ | refine blk_drew ?_ | refine blk_alloc ?_ _)); refine blk_put (cs := #[.int .i64 0, .int .i64 0]) ?_ 0 _ rfl; (with_reducible repeat (first | refine blk_drewN ?_ _ | refine blk_drew ?_ | refine blk_alloc ?_ _)); exact BK106.out) hb); replace HB := am (below_step (K1 HB GE106.out) hb); (try clear hb); (try clear hb2); (try clear hk); (try clear hi); (try clear ho0); obtain ⟨hcz15_0, hcz15_1, hfz15_0⟩ := y2 w14 BK106.out) | ((with_reducible refine gate_callee (f := 66) rfl ?_); refine goesL_ (some 37) rfl rfl Try.func66 (by kernel_rfl) rfl #[.slice Ao13 t101.length co13, .agg #[.int .i64 t104, .int .i64 t105]] rfl MT ?_; (with_reducible refine (spec_WaysGone.calls kj2 _ _ t101 t104 t105 t111 t114 _ ?side1 ?side2 A8.out).mono ?_); (case side1 => exact KC (Kd.R_reads' HO103.out).2.2); (case side2 => exact (Kd.R_reads' HO103.out).2.1); rintro e w16 ⟨v112, rfl, ho0, hb⟩; refine ⟨_, rfl, ?_⟩; have HO113 := am (Kd.R_lower (Kd.R_new' (Kd.R_new' ho0 (Kd.R_lt (KR HO103))) (Kd.R_lt (KR HO109))) (below_size (K1 HB GE106.out))); replace HO103 := am (Kd.R_elder' (KR HO103) (Kd.R_base ho0) hb); replace HO109 := am (Kd.R_elder' (KR HO109) (Kd.R_base ho0) hb); replace BK106 := am (BB BK106 hb); replace HB := am (below_step (K1 HB GE106.out) hb); (try clear hb); (try clear hb2); (try clear hk); (try clear hi); (try clear ho0)))
    (try simp only [Act.put, List.setIfInBounds_toArray, List.set_cons_zero, List.set_cons_succ])
    go_cut [52] (fun v52 wc => ∃ (kq : Nat) (x52_8 : Bool), v52 = .bool x52_8 ∧ Aside0 (laws_FnWaysGone.j1 kq l1 t101 t107 t110 t111 t114 x52_8 t104 t105 = some r) ∧ Aside0 (kq ≤ kj2) ∧ Aside0 (Kd.R k86 86 wc w.heap.size (fun k_ => some k_ ≠ (v108 : Value).ownBlock ∧ some k_ ≠ (v112 : Value).ownBlock) (.slice Ao13 t101.length co13) t101) ∧ Aside0 (Kd.R k86 86 wc w.heap.size (fun k_ => some k_ ≠ ((.slice Ao13 t101.length co13) : Value).ownBlock ∧ some k_ ≠ (v112 : Value).ownBlock) v108 t107) ∧ Aside0 (Kd.R k86 86 wc w.heap.size (fun k_ => some k_ ≠ ((.slice Ao13 t101.length co13) : Value).ownBlock ∧ some k_ ≠ (v108 : Value).ownBlock) v112 t111) ∧ Aside0 (wc.heap[gb106]? = some (.cells #[.int .i64 t104, .int .i64 t105] 32 (0, 0))) ∧ Aside0 (Below w.heap.size w wc))
    case first =>
     have H := HC9.out
     clear HC9
     by_cases c17 : (t110 != t114) = true
     ·rw [if_pos c17] at H
      have c17b0 : (t110 != t114) = true := c17
      (try (have c17b1 : decide (t110 = t114) = false := by simpa using c17))
      (try (have c17b2 : (t110 == t114) = false := by simpa using c17))
      (try (have c17b3 : ¬ (t110 = t114) := by simpa using c17))
      clear c17
      (first | rw [c17b0] | (simp only [i64_w, i32_w]; rw [c17b0]) | skip)
      have H' := Aside0.mk H
      clear H
      go_wp2
      go_meet
      case rel => exact ⟨_, (true), (by first | rfl | (simp; done) | (simp [*]; done)), H', ⟨by have := HJ2.out; first | omega | exact Nat.le_refl _⟩, ⟨by (with_reducible repeat (first | apply Kd.R_alloc | apply Kd.R_drewN | apply Kd.R_drew)); exact Kd.R_mono HO103.out (fun _ hk => ⟨hk.1.2, hk.2⟩)⟩, ⟨by (with_reducible repeat (first | apply Kd.R_alloc | apply Kd.R_drewN | apply Kd.R_drew)); exact Kd.R_mono HO109.out (fun _ hk => ⟨hk.1.2, hk.2⟩)⟩, ⟨by (with_reducible repeat (first | apply Kd.R_alloc | apply Kd.R_drewN | apply Kd.R_drew)); exact Kd.R_mono HO113.out (fun _ hk => ⟨hk.1.2, hk.2⟩)⟩, ⟨KB BK106⟩, ⟨K1 HB GE106.out⟩⟩
     ·rw [if_neg c17] at H
      have c17b0 : (t110 != t114) = false := by simpa using c17
      (try (have c17b1 : decide (t110 = t114) = true := by simpa using c17))
      (try (have c17b2 : (t110 == t114) = true := by simpa using c17))
      clear c17
      (first | rw [c17b0] | (simp only [i64_w, i32_w]; rw [c17b0]) | skip)
      replace H := Option.bind_eq_some_iff.mp H
      obtain ⟨t115, A180, H⟩ := H
      replace H : (if t115 = true then (laws_FnWaysGone.j1 kj2 l1 t101 t107 t110 t111 t114 (!t110) t104 t105) else (laws_FnWaysGone.j1 kj2 l1 t101 t107 t110 t111 t114 true t104 t105)) = some r := H
      have A18 := Aside0.mk A180
      clear A180
      by_cases c19 : t115 = true
      ·subst c19
       have H1 : (laws_FnWaysGone.j1 kj2 l1 t101 t107 t110 t111 t114 (!t110) t104 t105) = some r := by rw [if_pos rfl] at H; exact H
       clear H
       have H := H1
       clear H1
       have H' := Aside0.mk H
       clear H
       obtain ⟨Ao20, co20, eo20⟩ := Kd.R_slice HO109.out
       subst eo20
       obtain ⟨Ao21, co21, eo21⟩ := Kd.R_slice HO113.out
       subst eo21
       go_wp2_with (first | (go_at_call 61; (with_reducible refine (laws_ovWays.calls kj2 _ _ t107 _ _ t111 true _ ?side1 ?side2 ?side3 ?side4 A18.out).mono ?_); (case side1 => exact KC (Kd.R_reads' HO109.out).2.2); (case side2 => exact (Kd.R_reads' HO109.out).2.1); (case side3 => exact KC (Kd.R_reads' HO113.out).2.2); (case side4 => exact (Kd.R_reads' HO113.out).2.1); rintro e w' ⟨rfl, ⟨nd, rfl⟩⟩))
       go_meet
       case rel => exact ⟨_, (!t110), (by first | rfl | (simp; done) | (simp [*]; done)), H', ⟨by have := HJ2.out; first | omega | exact Nat.le_refl _⟩, ⟨by (with_reducible repeat (first | apply Kd.R_alloc | apply Kd.R_drewN | apply Kd.R_drew)); exact Kd.R_mono HO103.out (fun _ hk => ⟨hk.1.2, hk.2⟩)⟩, ⟨by (with_reducible repeat (first | apply Kd.R_alloc | apply Kd.R_drewN | apply Kd.R_drew)); exact Kd.R_mono HO109.out (fun _ hk => ⟨hk.1.2, hk.2⟩)⟩, ⟨by (with_reducible repeat (first | apply Kd.R_alloc | apply Kd.R_drewN | apply Kd.R_drew)); exact Kd.R_mono HO113.out (fun _ hk => ⟨hk.1.2, hk.2⟩)⟩, ⟨KB BK106⟩, ⟨K1 HB GE106.out⟩⟩
      ·replace c19 := Bool.eq_false_iff.mpr c19
       subst c19
       have H1 : (laws_FnWaysGone.j1 kj2 l1 t101 t107 t110 t111 t114 true t104 t105) = some r := by rw [if_neg (show ¬ (false = true) by decide)] at H; exact H
       clear H
       have H := H1
       clear H1
       have H' := Aside0.mk H
       clear H
       obtain ⟨Ao22, co22, eo22⟩ := Kd.R_slice HO109.out
       subst eo22
       obtain ⟨Ao23, co23, eo23⟩ := Kd.R_slice HO113.out
       subst eo23
       go_wp2_with (first | (go_at_call 61; (with_reducible refine (laws_ovWays.calls kj2 _ _ t107 _ _ t111 false _ ?side1 ?side2 ?side3 ?side4 A18.out).mono ?_); (case side1 => exact KC (Kd.R_reads' HO109.out).2.2); (case side2 => exact (Kd.R_reads' HO109.out).2.1); (case side3 => exact KC (Kd.R_reads' HO113.out).2.2); (case side4 => exact (Kd.R_reads' HO113.out).2.1); rintro e w' ⟨rfl, ⟨nd, rfl⟩⟩))
       go_meet
       case rel => exact ⟨_, (true), (by first | rfl | (simp; done) | (simp [*]; done)), H', ⟨by have := HJ2.out; first | omega | exact Nat.le_refl _⟩, ⟨by (with_reducible repeat (first | apply Kd.R_alloc | apply Kd.R_drewN | apply Kd.R_drew)); exact Kd.R_mono HO103.out (fun _ hk => ⟨hk.1.2, hk.2⟩)⟩, ⟨by (with_reducible repeat (first | apply Kd.R_alloc | apply Kd.R_drewN | apply Kd.R_drew)); exact Kd.R_mono HO109.out (fun _ hk => ⟨hk.1.2, hk.2⟩)⟩, ⟨by (with_reducible repeat (first | apply Kd.R_alloc | apply Kd.R_drewN | apply Kd.R_drew)); exact Kd.R_mono HO113.out (fun _ hk => ⟨hk.1.2, hk.2⟩)⟩, ⟨KB BK106⟩, ⟨K1 HB GE106.out⟩⟩
    case rest =>
     clear HC9
     try clear c1
     try clear p2
     try clear c4
     try clear c4b0
     try clear c4b1
     try clear c5
     try clear c6
     try clear c13
     try clear c17
     try clear c17b0
     try clear c17b1
     try clear c17b2
     try clear c19
     try clear hcz12_0
     try clear hcz12_1
     try clear hcz15_0
     try clear hcz15_1
     try clear hfz12_0
     try clear hfz15_0
     try clear p2
     obtain ⟨kq, x52_8, rfl, HA, HJ8, HO_5, HO_7, HO_9, BK106, HB⟩ := hcut
     cases kq with
     | zero => exact absurd HA.out (by simp [laws_FnWaysGone.j1])
     | succ kj8 =>
      have H := HA.out
      clear HA
      simp only [laws_FnWaysGone.j1] at H
      by_cases c24 : x52_8 = true
      ·subst c24
       have H1 : (if (t110 == t114) = true then ((laws_ovWays.f kj8 t107 t111).bind fun t116 => (if t116 = true then (if t110 = true then (some true) else ((spec_WaysOk.f kj8 t101).bind fun t117 => (if t117 = true then ((laws_ovWays.f kj8 t107 t101).bind fun t118 => (some t118)) else (some true)))) else (some false))) else (some false)) = some r := by rw [if_pos rfl] at H; exact H
       clear H
       have H := H1
       clear H1
       by_cases c25 : (t110 == t114) = true
       ·rw [if_pos c25] at H
        have c25b0 : (t110 == t114) = true := c25
        (try (have c25b1 : decide (t110 = t114) = true := by simpa using c25))
        (try (have c25b2 : (t110 == t114) = true := by simpa using c25))
        clear c25
        replace H := Option.bind_eq_some_iff.mp H
        obtain ⟨t116, A260, H⟩ := H
        replace H : (if t116 = true then (if t110 = true then (some true) else ((spec_WaysOk.f kj8 t101).bind fun t117 => (if t117 = true then ((laws_ovWays.f kj8 t107 t101).bind fun t118 => (some t118)) else (some true)))) else (some false)) = some r := H
        have A26 := Aside0.mk A260
        clear A260
        by_cases c27 : t116 = true
        ·subst c27
         have H1 : (if t110 = true then (some true) else ((spec_WaysOk.f kj8 t101).bind fun t117 => (if t117 = true then ((laws_ovWays.f kj8 t107 t101).bind fun t118 => (some t118)) else (some true)))) = some r := by rw [if_pos rfl] at H; exact H
         clear H
         have H := H1
         clear H1
         by_cases c28 : t110 = true
         ·subst c28
          have H1 : (some true) = some r := by rw [if_pos rfl] at H; exact H
          clear H
          have H := H1
          clear H1
          obtain rfl := Option.some.inj H
          obtain ⟨Ao29, co29, eo29⟩ := Kd.R_slice HO_7.out
          subst eo29
          obtain ⟨Ao30, co30, eo30⟩ := Kd.R_slice HO_9.out
          subst eo30
          go_wp2_with (first | (go_at_call 61; (with_reducible refine (laws_ovWays.calls kj8 _ _ t107 _ _ t111 true _ ?side1 ?side2 ?side3 ?side4 A26.out).mono ?_); (case side1 => exact KC (Kd.R_reads' HO_7.out).2.2); (case side2 => exact (Kd.R_reads' HO_7.out).2.1); (case side3 => exact KC (Kd.R_reads' HO_9.out).2.2); (case side4 => exact (Kd.R_reads' HO_9.out).2.1); rintro e w' ⟨rfl, ⟨nd, rfl⟩⟩))
          go_ret
          exact ⟨ER, K1 HB GE106.out⟩
         ·replace c28 := Bool.eq_false_iff.mpr c28
          subst c28
          have H1 : ((spec_WaysOk.f kj8 t101).bind fun t117 => (if t117 = true then ((laws_ovWays.f kj8 t107 t101).bind fun t118 => (some t118)) else (some true))) = some r := by rw [if_neg (show ¬ (false = true) by decide)] at H; exact H
          clear H
          have H := H1
          clear H1
          replace H := Option.bind_eq_some_iff.mp H
          obtain ⟨t117, A310, H⟩ := H
          replace H : (if t117 = true then ((laws_ovWays.f kj8 t107 t101).bind fun t118 => (some t118)) else (some true)) = some r := H
          have A31 := Aside0.mk A310
          clear A310
          by_cases c32 : t117 = true
          ·subst c32
           have H1 : ((laws_ovWays.f kj8 t107 t101).bind fun t118 => (some t118)) = some r := by rw [if_pos rfl] at H; exact H
           clear H
           have H := H1
           clear H1
           replace H := Option.bind_eq_some_iff.mp H
           obtain ⟨t118, A330, H⟩ := H
           replace H : (some t118) = some r := H
           have A33 := Aside0.mk A330
           clear A330
           obtain rfl := Option.some.inj H
           obtain ⟨Ao34, co34, eo34⟩ := Kd.R_slice HO_7.out
           subst eo34
           obtain ⟨Ao35, co35, eo35⟩ := Kd.R_slice HO_9.out
           subst eo35
           go_wp2_with (first | (go_at_call 61; (with_reducible refine (laws_ovWays.calls kj8 _ _ t107 _ _ t111 true _ ?side1 ?side2 ?side3 ?side4 A26.out).mono ?_); (case side1 => exact KC (Kd.R_reads' HO_7.out).2.2); (case side2 => exact (Kd.R_reads' HO_7.out).2.1); (case side3 => exact KC (Kd.R_reads' HO_9.out).2.2); (case side4 => exact (Kd.R_reads' HO_9.out).2.1); clear A26; rintro e w' ⟨rfl, ⟨nd, rfl⟩⟩) | (go_at_call 58; (with_reducible refine (spec_WaysOk.calls kj8 _ _ t101 true _ ?side1 ?side2 A31.out).mono ?_); (case side1 => exact KC (Kd.R_reads' HO_5.out).2.2); (case side2 => exact (Kd.R_reads' HO_5.out).2.1); rintro e w36 ⟨rfl, hb⟩; replace HO_5 := am (Kd.R_below (KR HO_5) hb); replace HO_7 := am (Kd.R_below (KR HO_7) hb); replace HO_9 := am (Kd.R_below (KR HO_9) hb); replace BK106 := am (BB BK106 hb); replace HB := am (below_step (K1 HB GE106.out) hb); (try clear hb); (try clear hb2); (try clear hk); (try clear hi)) | (go_at_call 61; (with_reducible refine (laws_ovWays.calls kj8 _ _ t107 _ _ t101 t118 _ ?side1 ?side2 ?side3 ?side4 A33.out).mono ?_); (case side1 => exact KC (Kd.R_reads' HO_7.out).2.2); (case side2 => exact (Kd.R_reads' HO_7.out).2.1); (case side3 => exact KC (Kd.R_reads' HO_5.out).2.2); (case side4 => exact (Kd.R_reads' HO_5.out).2.1); rintro e w' ⟨rfl, ⟨nd, rfl⟩⟩))
           go_ret
           exact ⟨ER, K1 HB GE106.out⟩
          ·replace c32 := Bool.eq_false_iff.mpr c32
           subst c32
           have H1 : (some true) = some r := by rw [if_neg (show ¬ (false = true) by decide)] at H; exact H
           clear H
           have H := H1
           clear H1
           obtain rfl := Option.some.inj H
           obtain ⟨Ao37, co37, eo37⟩ := Kd.R_slice HO_7.out
           subst eo37
           obtain ⟨Ao38, co38, eo38⟩ := Kd.R_slice HO_9.out
           subst eo38
           go_wp2_with (first | (go_at_call 61; (with_reducible refine (laws_ovWays.calls kj8 _ _ t107 _ _ t111 true _ ?side1 ?side2 ?side3 ?side4 A26.out).mono ?_); (case side1 => exact KC (Kd.R_reads' HO_7.out).2.2); (case side2 => exact (Kd.R_reads' HO_7.out).2.1); (case side3 => exact KC (Kd.R_reads' HO_9.out).2.2); (case side4 => exact (Kd.R_reads' HO_9.out).2.1); rintro e w' ⟨rfl, ⟨nd, rfl⟩⟩) | (go_at_call 58; (with_reducible refine (spec_WaysOk.calls kj8 _ _ t101 false _ ?side1 ?side2 A31.out).mono ?_); (case side1 => exact KC (Kd.R_reads' HO_5.out).2.2); (case side2 => exact (Kd.R_reads' HO_5.out).2.1); rintro e w39 ⟨rfl, hb⟩; replace HO_5 := am (Kd.R_below (KR HO_5) hb); replace HO_7 := am (Kd.R_below (KR HO_7) hb); replace HO_9 := am (Kd.R_below (KR HO_9) hb); replace BK106 := am (BB BK106 hb); replace HB := am (below_step (K1 HB GE106.out) hb); (try clear hb); (try clear hb2); (try clear hk); (try clear hi)))
           go_ret
           exact ⟨ER, K1 HB GE106.out⟩
        ·replace c27 := Bool.eq_false_iff.mpr c27
         subst c27
         have H1 : (some false) = some r := by rw [if_neg (show ¬ (false = true) by decide)] at H; exact H
         clear H
         have H := H1
         clear H1
         exact absurd ((Option.some.inj H).trans HR_.out) (by decide)
       ·rw [if_neg c25] at H
        have c25b0 : (t110 == t114) = false := by simpa using c25
        (try (have c25b1 : decide (t110 = t114) = false := by simpa using c25))
        (try (have c25b2 : (t110 == t114) = false := by simpa using c25))
        (try (have c25b3 : ¬ (t110 = t114) := by simpa using c25))
        clear c25
        exact absurd ((Option.some.inj H).trans HR_.out) (by decide)
      ·replace c24 := Bool.eq_false_iff.mpr c24
       subst c24
       have H1 : ((spec_DrawWaysLead.f kj8 l1).bind fun bt119 => ((impl_WaysGone.f kj8 t107 t104 t105).bind fun bt123 => ((impl_WaysOk.f kj8 t107).bind fun t127 => (if t127 = true then (if bt123.2 = true then (some false) else (if (wrap64 ((t107.length : Int) + 1)) = (t101.length : Int) then ((impl_BlockHas.f t104 t105 bt119.2).bind fun t128 => (if t128 = true then (some true) else ((impl_WaysLead.f kj8 t107 bt119.2).bind fun t129 => ((impl_WaysLead.f kj8 t101 bt119.2).bind fun t130 => (some (t129 == t130)))))) else (some false))) else (some false))))) = some r := by rw [if_neg (show ¬ (false = true) by decide)] at H; exact H
       clear H
       have H := H1
       clear H1
       replace H := Option.bind_eq_some_iff.mp H
       obtain ⟨⟨t119, t120⟩, A400, H⟩ := H
       replace H : ((impl_WaysGone.f kj8 t107 t104 t105).bind fun bt123 => ((impl_WaysOk.f kj8 t107).bind fun t127 => (if t127 = true then (if bt123.2 = true then (some false) else (if (wrap64 ((t107.length : Int) + 1)) = (t101.length : Int) then ((impl_BlockHas.f t104 t105 t120).bind fun t128 => (if t128 = true then (some true) else ((impl_WaysLead.f kj8 t107 t120).bind fun t129 => ((impl_WaysLead.f kj8 t101 t120).bind fun t130 => (some (t129 == t130)))))) else (some false))) else (some false)))) = some r := H
       have A40 := Aside0.mk A400
       clear A400
       replace H := Option.bind_eq_some_iff.mp H
       obtain ⟨⟨t123, t126⟩, A410, H⟩ := H
       replace H : ((impl_WaysOk.f kj8 t107).bind fun t127 => (if t127 = true then (if t126 = true then (some false) else (if (wrap64 ((t107.length : Int) + 1)) = (t101.length : Int) then ((impl_BlockHas.f t104 t105 t120).bind fun t128 => (if t128 = true then (some true) else ((impl_WaysLead.f kj8 t107 t120).bind fun t129 => ((impl_WaysLead.f kj8 t101 t120).bind fun t130 => (some (t129 == t130)))))) else (some false))) else (some false))) = some r := H
       have A41 := Aside0.mk A410
       clear A410
       replace H := Option.bind_eq_some_iff.mp H
       obtain ⟨t127, A420, H⟩ := H
       replace H : (if t127 = true then (if t126 = true then (some false) else (if (wrap64 ((t107.length : Int) + 1)) = (t101.length : Int) then ((impl_BlockHas.f t104 t105 t120).bind fun t128 => (if t128 = true then (some true) else ((impl_WaysLead.f kj8 t107 t120).bind fun t129 => ((impl_WaysLead.f kj8 t101 t120).bind fun t130 => (some (t129 == t130)))))) else (some false))) else (some false)) = some r := H
       have A42 := Aside0.mk A420
       clear A420
       by_cases c43 : t127 = true
       ·subst c43
        have H1 : (if t126 = true then (some false) else (if (wrap64 ((t107.length : Int) + 1)) = (t101.length : Int) then ((impl_BlockHas.f t104 t105 t120).bind fun t128 => (if t128 = true then (some true) else ((impl_WaysLead.f kj8 t107 t120).bind fun t129 => ((impl_WaysLead.f kj8 t101 t120).bind fun t130 => (some (t129 == t130)))))) else (some false))) = some r := by rw [if_pos rfl] at H; exact H
        clear H
        have H := H1
        clear H1
        by_cases c44 : t126 = true
        ·subst c44
         have H1 : (some false) = some r := by rw [if_pos rfl] at H; exact H
         clear H
         have H := H1
         clear H1
         exact absurd ((Option.some.inj H).trans HR_.out) (by decide)
        ·replace c44 := Bool.eq_false_iff.mpr c44
         subst c44
         have H1 : (if (wrap64 ((t107.length : Int) + 1)) = (t101.length : Int) then ((impl_BlockHas.f t104 t105 t120).bind fun t128 => (if t128 = true then (some true) else ((impl_WaysLead.f kj8 t107 t120).bind fun t129 => ((impl_WaysLead.f kj8 t101 t120).bind fun t130 => (some (t129 == t130)))))) else (some false)) = some r := by rw [if_neg (show ¬ (false = true) by decide)] at H; exact H
         clear H
         have H := H1
         clear H1
         by_cases c45 : (wrap64 ((t107.length : Int) + 1)) = (t101.length : Int)
         ·rw [if_pos c45] at H
          have c45b0 : ((wrap64 ((t107.length : Int) + 1)) == (t101.length : Int)) = true := beq_iff_eq.mpr c45
          have c45b1 : ((wrap64 ((t107.length : Int) + 1)) != (t101.length : Int)) = false := bne_eq_false_iff_eq.mpr c45
          clear c45
          replace H := Option.bind_eq_some_iff.mp H
          obtain ⟨t128, A460, H⟩ := H
          replace H : (if t128 = true then (some true) else ((impl_WaysLead.f kj8 t107 t120).bind fun t129 => ((impl_WaysLead.f kj8 t101 t120).bind fun t130 => (some (t129 == t130))))) = some r := H
          have A46 := Aside0.mk A460
          clear A460
          by_cases c47 : t128 = true
          ·subst c47
           have H1 : (some true) = some r := by rw [if_pos rfl] at H; exact H
           clear H
           have H := H1
           clear H1
           obtain rfl := Option.some.inj H
           go_wp2_with (first | ((with_reducible refine gate_callee (f := 55) rfl ?_); refine goesL_ (some 76) rfl rfl Try.func55 (by kernel_rfl) rfl #[.slice A1 l1.length c1] rfl MT ?_; (with_reducible refine (spec_DrawWaysLead.calls kj8 _ _ l1 t119 t120 _ ?side1 ?side2 A40.out).mono ?_); (case side1 => exact KC (Kd.C_below HR1.out HB.out)); (case side2 => exact HC1.out); rintro e w48 ⟨v121, rfl, ho0, hb⟩; refine ⟨_, rfl, ?_⟩; have HO122 := am (Kd.R_lower (Kd.R_new' (Kd.R_new' (Kd.R_new' ho0 (Kd.R_lt (KR HO_5))) (Kd.R_lt (KR HO_7))) (Kd.R_lt (KR HO_9))) (below_size (K1 HB GE106.out))); replace HO_5 := am (Kd.R_elder' (KR HO_5) (Kd.R_base ho0) hb); replace HO_7 := am (Kd.R_elder' (KR HO_7) (Kd.R_base ho0) hb); replace HO_9 := am (Kd.R_elder' (KR HO_9) (Kd.R_base ho0) hb); replace BK106 := am (BB BK106 hb); replace HB := am (below_step (K1 HB GE106.out) hb); (try clear hb); (try clear hb2); (try clear hk); (try clear hi); (try clear ho0); obtain ⟨hcz49_0, hcz49_1, hfz49_0⟩ := y2 w48 BK106.out; obtain ⟨Ao50, co50, eo50⟩ := Kd.R_slice HO_7.out; subst eo50) | ((with_reducible refine gate_callee (f := 65) rfl ?_); refine goesL_ (some 82) rfl rfl Try.func65 (by kernel_rfl) rfl #[.slice Ao50 t107.length co50, .agg #[.int .i64 t104, .int .i64 t105]] rfl MT ?_; (with_reducible refine (impl_WaysGone.calls kj8 _ _ t107 t104 t105 t123 false _ ?side1 ?side2 A41.out).mono ?_); (case side1 => exact KC (Kd.R_reads' HO_7.out).2.2); (case side2 => exact (Kd.R_reads' HO_7.out).2.1); rintro e w51 ⟨v124, rfl, ho0, hb⟩; refine ⟨_, rfl, ?_⟩; have HO125 := am (Kd.R_lower (Kd.R_new' (Kd.R_new' (Kd.R_new' (Kd.R_new' ho0 (Kd.R_lt (KR HO_5))) (Kd.R_lt (KR HO_7))) (Kd.R_lt (KR HO_9))) (Kd.R_lt (KR HO122))) (below_size (K1 HB GE106.out))); replace HO_5 := am (Kd.R_elder' (KR HO_5) (Kd.R_base ho0) hb); replace HO_7 := am (Kd.R_elder' (KR HO_7) (Kd.R_base ho0) hb); replace HO_9 := am (Kd.R_elder' (KR HO_9) (Kd.R_base ho0) hb); replace HO122 := am (Kd.R_elder' (KR HO122) (Kd.R_base ho0) hb); replace BK106 := am (BB BK106 hb); replace HB := am (below_step (K1 HB GE106.out) hb); (try clear hb); (try clear hb2); (try clear hk); (try clear hi); (try clear ho0)) | ((with_reducible refine gate_callee (f := 63) rfl ?_); refine goesL_ (some 86) rfl rfl Try.func63 (by kernel_rfl) rfl #[.slice Ao50 t107.length co50] rfl MT ?_; (with_reducible refine (impl_WaysOk.calls kj8 _ _ t107 true _ ?side1 ?side2 A42.out).mono ?_); (case side1 => exact KC (Kd.R_reads' HO_7.out).2.2); (case side2 => exact (Kd.R_reads' HO_7.out).2.1); rintro e w52 ⟨rfl, hb⟩; refine ⟨_, rfl, ?_⟩; replace HO_5 := am (Kd.R_below (KR HO_5) hb); replace HO_7 := am (Kd.R_below (KR HO_7) hb); replace HO_9 := am (Kd.R_below (KR HO_9) hb); replace HO122 := am (Kd.R_below (KR HO122) hb); replace HO125 := am (Kd.R_below (KR HO125) hb); replace BK106 := am (BB BK106 hb); replace HB := am (below_step (K1 HB GE106.out) hb); (try clear hb); (try clear hb2); (try clear hk); (try clear hi); obtain ⟨hcz53_0, hcz53_1, hfz53_0⟩ := y2 w52 BK106.out) | (go_at_call 59; (with_reducible refine (impl_BlockHas.calls t104 t105 t120 true _ A46.out).mono ?_); rintro e w54 ⟨rfl, hb⟩; replace HO_5 := am (Kd.R_below (KR HO_5) hb); replace HO_7 := am (Kd.R_below (KR HO_7) hb); replace HO_9 := am (Kd.R_below (KR HO_9) hb); replace HO122 := am (Kd.R_below (KR HO122) hb); replace HO125 := am (Kd.R_below (KR HO125) hb); replace BK106 := am (BB BK106 hb); replace HB := am (below_step (K1 HB GE106.out) hb); (try clear hb); (try clear hb2); (try clear hk); (try clear hi)))
           go_ret
           exact ⟨ER, K1 HB GE106.out⟩
          ·replace c47 := Bool.eq_false_iff.mpr c47
           subst c47
           have H1 : ((impl_WaysLead.f kj8 t107 t120).bind fun t129 => ((impl_WaysLead.f kj8 t101 t120).bind fun t130 => (some (t129 == t130)))) = some r := by rw [if_neg (show ¬ (false = true) by decide)] at H; exact H
           clear H
           have H := H1
           clear H1
           replace H := Option.bind_eq_some_iff.mp H
           obtain ⟨t129, A550, H⟩ := H
           replace H : ((impl_WaysLead.f kj8 t101 t120).bind fun t130 => (some (t129 == t130))) = some r := H
           have A55 := Aside0.mk A550
           clear A550
           replace H := Option.bind_eq_some_iff.mp H
           obtain ⟨t130, A560, H⟩ := H
           replace H : (some (t129 == t130)) = some r := H
           have A56 := Aside0.mk A560
           clear A560
           obtain rfl := Option.some.inj H
           go_wp2_with (first | ((with_reducible refine gate_callee (f := 55) rfl ?_); refine goesL_ (some 76) rfl rfl Try.func55 (by kernel_rfl) rfl #[.slice A1 l1.length c1] rfl MT ?_; (with_reducible refine (spec_DrawWaysLead.calls kj8 _ _ l1 t119 t120 _ ?side1 ?side2 A40.out).mono ?_); (case side1 => exact KC (Kd.C_below HR1.out HB.out)); (case side2 => exact HC1.out); rintro e w57 ⟨v121, rfl, ho0, hb⟩; refine ⟨_, rfl, ?_⟩; have HO122 := am (Kd.R_lower (Kd.R_new' (Kd.R_new' (Kd.R_new' ho0 (Kd.R_lt (KR HO_5))) (Kd.R_lt (KR HO_7))) (Kd.R_lt (KR HO_9))) (below_size (K1 HB GE106.out))); replace HO_5 := am (Kd.R_elder' (KR HO_5) (Kd.R_base ho0) hb); replace HO_7 := am (Kd.R_elder' (KR HO_7) (Kd.R_base ho0) hb); replace HO_9 := am (Kd.R_elder' (KR HO_9) (Kd.R_base ho0) hb); replace BK106 := am (BB BK106 hb); replace HB := am (below_step (K1 HB GE106.out) hb); (try clear hb); (try clear hb2); (try clear hk); (try clear hi); (try clear ho0); obtain ⟨hcz58_0, hcz58_1, hfz58_0⟩ := y2 w57 BK106.out; obtain ⟨Ao59, co59, eo59⟩ := Kd.R_slice HO_7.out; subst eo59) | ((with_reducible refine gate_callee (f := 65) rfl ?_); refine goesL_ (some 82) rfl rfl Try.func65 (by kernel_rfl) rfl #[.slice Ao59 t107.length co59, .agg #[.int .i64 t104, .int .i64 t105]] rfl MT ?_; (with_reducible refine (impl_WaysGone.calls kj8 _ _ t107 t104 t105 t123 false _ ?side1 ?side2 A41.out).mono ?_); (case side1 => exact KC (Kd.R_reads' HO_7.out).2.2); (case side2 => exact (Kd.R_reads' HO_7.out).2.1); rintro e w60 ⟨v124, rfl, ho0, hb⟩; refine ⟨_, rfl, ?_⟩; have HO125 := am (Kd.R_lower (Kd.R_new' (Kd.R_new' (Kd.R_new' (Kd.R_new' ho0 (Kd.R_lt (KR HO_5))) (Kd.R_lt (KR HO_7))) (Kd.R_lt (KR HO_9))) (Kd.R_lt (KR HO122))) (below_size (K1 HB GE106.out))); replace HO_5 := am (Kd.R_elder' (KR HO_5) (Kd.R_base ho0) hb); replace HO_7 := am (Kd.R_elder' (KR HO_7) (Kd.R_base ho0) hb); replace HO_9 := am (Kd.R_elder' (KR HO_9) (Kd.R_base ho0) hb); replace HO122 := am (Kd.R_elder' (KR HO122) (Kd.R_base ho0) hb); replace BK106 := am (BB BK106 hb); replace HB := am (below_step (K1 HB GE106.out) hb); (try clear hb); (try clear hb2); (try clear hk); (try clear hi); (try clear ho0)) | ((with_reducible refine gate_callee (f := 63) rfl ?_); refine goesL_ (some 86) rfl rfl Try.func63 (by kernel_rfl) rfl #[.slice Ao59 t107.length co59] rfl MT ?_; (with_reducible refine (impl_WaysOk.calls kj8 _ _ t107 true _ ?side1 ?side2 A42.out).mono ?_); (case side1 => exact KC (Kd.R_reads' HO_7.out).2.2); (case side2 => exact (Kd.R_reads' HO_7.out).2.1); rintro e w61 ⟨rfl, hb⟩; refine ⟨_, rfl, ?_⟩; replace HO_5 := am (Kd.R_below (KR HO_5) hb); replace HO_7 := am (Kd.R_below (KR HO_7) hb); replace HO_9 := am (Kd.R_below (KR HO_9) hb); replace HO122 := am (Kd.R_below (KR HO122) hb); replace HO125 := am (Kd.R_below (KR HO125) hb); replace BK106 := am (BB BK106 hb); replace HB := am (below_step (K1 HB GE106.out) hb); (try clear hb); (try clear hb2); (try clear hk); (try clear hi); obtain ⟨hcz62_0, hcz62_1, hfz62_0⟩ := y2 w61 BK106.out) | (go_at_call 59; (with_reducible refine (impl_BlockHas.calls t104 t105 t120 false _ A46.out).mono ?_); rintro e w63 ⟨rfl, hb⟩; replace HO_5 := am (Kd.R_below (KR HO_5) hb); replace HO_7 := am (Kd.R_below (KR HO_7) hb); replace HO_9 := am (Kd.R_below (KR HO_9) hb); replace HO122 := am (Kd.R_below (KR HO122) hb); replace HO125 := am (Kd.R_below (KR HO125) hb); replace BK106 := am (BB BK106 hb); replace HB := am (below_step (K1 HB GE106.out) hb); (try clear hb); (try clear hb2); (try clear hk); (try clear hi)) | (go_at_call 56; (with_reducible refine (impl_WaysLead.calls kj8 _ _ t107 t120 t129 _ ?side1 ?side2 A55.out).mono ?_); (case side1 => exact KC (Kd.R_reads' HO_7.out).2.2); (case side2 => exact (Kd.R_reads' HO_7.out).2.1); clear A55; rintro e w64 ⟨rfl, hb⟩; replace HO_5 := am (Kd.R_below (KR HO_5) hb); replace HO_7 := am (Kd.R_below (KR HO_7) hb); replace HO_9 := am (Kd.R_below (KR HO_9) hb); replace HO122 := am (Kd.R_below (KR HO122) hb); replace HO125 := am (Kd.R_below (KR HO125) hb); replace BK106 := am (BB BK106 hb); replace HB := am (below_step (K1 HB GE106.out) hb); (try clear hb); (try clear hb2); (try clear hk); (try clear hi)) | (go_at_call 56; (with_reducible refine (impl_WaysLead.calls kj8 _ _ t101 t120 t130 _ ?side1 ?side2 A56.out).mono ?_); (case side1 => exact KC (Kd.R_reads' HO_5.out).2.2); (case side2 => exact (Kd.R_reads' HO_5.out).2.1); rintro e w65 ⟨rfl, hb⟩; replace HO_5 := am (Kd.R_below (KR HO_5) hb); replace HO_7 := am (Kd.R_below (KR HO_7) hb); replace HO_9 := am (Kd.R_below (KR HO_9) hb); replace HO122 := am (Kd.R_below (KR HO122) hb); replace HO125 := am (Kd.R_below (KR HO125) hb); replace BK106 := am (BB BK106 hb); replace HB := am (below_step (K1 HB GE106.out) hb); (try clear hb); (try clear hb2); (try clear hk); (try clear hi)))
           go_ret
           exact ⟨ER, K1 HB GE106.out⟩
         ·rw [if_neg c45] at H
          have c45b0 : ((wrap64 ((t107.length : Int) + 1)) == (t101.length : Int)) = false := beq_eq_false_iff_ne.mpr c45
          have c45b1 : ((wrap64 ((t107.length : Int) + 1)) != (t101.length : Int)) = true := bne_iff_ne.mpr c45
          exact absurd ((Option.some.inj H).trans HR_.out) (by decide)
       ·replace c43 := Bool.eq_false_iff.mpr c43
        subst c43
        have H1 : (some false) = some r := by rw [if_neg (show ¬ (false = true) by decide)] at H; exact H
        clear H
        have H := H1
        clear H1
        exact absurd ((Option.some.inj H).trans HR_.out) (by decide)
/-- THE ONE PURE STATEMENT of laws_FnWaysGone: yours. -/
def laws_FnWaysGone.Pure : Prop := ∀ (l0 : List Int) (l1 : List Int), l0.length ≤ maxLen → l0.length * 1 ≤ 140737488351232 → (∀ x ∈ l0, (Lit.int .u8 x).wf = true) → l1.length ≤ maxLen → l1.length * 1 ≤ 140737488351232 → (∀ x ∈ l1, (Lit.int .u8 x).wf = true) → ∃ k, laws_FnWaysGone.f k l0 l1 = some true
theorem laws_FnWaysGone.walk (P : laws_FnWaysGone.Pure) (a0 : Option Addr) (len0 cap0 : Nat) (z0 : List Int) (a1 : Option Addr) (len1 cap1 : Nat) (z1 : List Int) (w : World) (w0 : (a0 = none ∧ len0 = 0 ∧ cap0 = 0 ∧ z0 = []) ∨ ∃ x, a0 = some x ∧ len0 ≤ cap0 ∧ cap0 ≤ maxLen ∧ z0.length = cap0 ∧ (∀ i, i < z0.length → w.cell? (x.add i) = some (.int .u8 (z0.getD i 0))) ∧ ∀ n ∈ z0, (Lit.int .u8 n).wf = true) (y0 : len0 * 1 ≤ 140737488351232) (w1 : (a1 = none ∧ len1 = 0 ∧ cap1 = 0 ∧ z1 = []) ∨ ∃ x, a1 = some x ∧ len1 ≤ cap1 ∧ cap1 ≤ maxLen ∧ z1.length = cap1 ∧ (∀ i, i < z1.length → w.cell? (x.add i) = some (.int .u8 (z1.getD i 0))) ∧ ∀ n ∈ z1, (Lit.int .u8 n).wf = true) (y1 : len1 * 1 ≤ 140737488351232) :
  Calls Try.prog 13 #[.slice a0 len0 cap0, .slice a1 len1 cap1] w fun e w' => e = .returned (.bool true) ∧ Below w.heap.size w w' := by
 obtain ⟨l0, rfl, hr0, hm0, hw0, hc0⟩ := ReadsInt.ofRowC w0
 obtain ⟨l1, rfl, hr1, hm1, hw1, hc1⟩ := ReadsInt.ofRowC w1
 obtain ⟨k, h⟩ := P l0 l1 hm0 y0 hw0 hm1 y1 hw1
 refine (laws_FnWaysGone.calls k _ _ l0 _ _ l1 true w (Kd.C_of_reads (d := (0 : Int)) (h1 := fun _ => rfl) hr0) hc0 (Kd.C_of_reads (d := (0 : Int)) (h1 := fun _ => rfl) hr1) hc1 rfl h).mono ?_
 rintro e w' ⟨rfl, hd⟩
 exact ⟨rfl, hd⟩
end Go.Proofs.Ytioghacieopbdaa.PAll
end
