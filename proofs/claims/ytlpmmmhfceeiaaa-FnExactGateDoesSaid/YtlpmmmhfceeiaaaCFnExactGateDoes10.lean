/- Contracts of the functions that the statement reaches, printed by a program out of the translation and joined with the plain laws. -/
import Derived.Test.YtlpmmmhfceeiaaaCFnExactGateDoes3
import Derived.Test.YtlpmmmhfceeiaaaCFnExactGateDoes4
import Derived.Test.YtlpmmmhfceeiaaaCFnExactGateDoes5
import Derived.Test.YtlpmmmhfceeiaaaCFnExactGateDoes6
import Derived.Test.YtlpmmmhfceeiaaaCFnExactGateDoes7
import Derived.Test.YtlpmmmhfceeiaaaCFnExactGateDoes8
import Derived.Test.YtlpmmmhfceeiaaaCFnExactGateDoes9
section
namespace Go.Proofs.Ytlpmmmhfceeiaaa.PAll
open Go.RowKit Go.Proofs.YtlpmmmhfceeiaaaW.PrintWords Go.Proofs.YtlpmmmhfceeiaaaW.PrintLast Go.Proofs.YtlpmmmhfceeiaaaW.PrintMore
attribute [local go_sem] max2_int min2_int max_two min_two max_three min_three max_four min_four   -- for this text's walks alone
set_option linter.unusedVariables false
set_option linter.unusedSimpArgs false
def impl_GateOk.j0 : Nat → Bool → Int → List (S141) → Int → List (S136) → List (S95) → List (S95) → Option (Bool)
 | 0, _, _, _, _, _, _, _ => none
 | k + 1, x32, x102000, x102001, x102002, x102003, x102004, x102005 => if x32 = true then (some false) else ((impl_ascending_tunOf.f k x102004 x102000).bind fun t104 => (if t104 = true then ((impl_ascending_spiOf.f k x102005 x102000).bind fun t105 => (some t105)) else (some false)))
def impl_GateOk.f (k : Nat) (a0_0 : Int) (l0_1 : List (S141)) (a0_2 : Int) (l0_3 : List (S136)) (l0_4 : List (S95)) (l0_5 : List (S95)) : Option (Bool) := (impl_in.f a0_0 0 1000000).bind fun t102 => (if t102 = true then (if a0_2 = 4 then ((impl_CacheOk.f k l0_1 a0_2 l0_3).bind fun t103 => (if t103 = true then (if (l0_4.length : Int) > 4 then (impl_GateOk.j0 k true a0_0 l0_1 a0_2 l0_3 l0_4 l0_5) else (impl_GateOk.j0 k (decide ((l0_5.length : Int) > 6)) a0_0 l0_1 a0_2 l0_3 l0_4 l0_5)) else (impl_GateOk.j0 k true a0_0 l0_1 a0_2 l0_3 l0_4 l0_5))) else (impl_GateOk.j0 k true a0_0 l0_1 a0_2 l0_3 l0_4 l0_5)) else (impl_GateOk.j0 k true a0_0 l0_1 a0_2 l0_3 l0_4 l0_5))
set_option maxHeartbeats 8000000 in
set_option maxRecDepth 100000 in
theorem impl_GateOk.calls (k : Nat) (a0_0 : Int) (A0_1 : Option Addr) (c0_1 : Nat) (l0_1 : List (S141)) (a0_2 : Int) (A0_3 : Option Addr) (c0_3 : Nat) (l0_3 : List (S136)) (A0_4 : Option Addr) (c0_4 : Nat) (l0_4 : List (S95)) (A0_5 : Option Addr) (c0_5 : Nat) (l0_5 : List (S95)) (r : Bool) (w : World) (hr0_1 : Kd.C k141 w A0_1 l0_1.length l0_1) (hc0_1 : l0_1.length ≤ c0_1) (hr0_3 : Kd.C k136 w A0_3 l0_3.length l0_3) (hc0_3 : l0_3.length ≤ c0_3) (hr0_4 : Kd.C k95 w A0_4 l0_4.length l0_4) (hc0_4 : l0_4.length ≤ c0_4) (hr0_5 : Kd.C k95 w A0_5 l0_5.length l0_5) (hc0_5 : l0_5.length ≤ c0_5) (h : impl_GateOk.f k a0_0 l0_1 a0_2 l0_3 l0_4 l0_5 = some r) :
  Calls Try.prog 32 #[.agg #[.int .i64 a0_0, .slice A0_1 l0_1.length c0_1, .int .i64 a0_2, .slice A0_3 l0_3.length c0_3, .slice A0_4 l0_4.length c0_4, .slice A0_5 l0_5.length c0_5]] w fun e w' => e = .returned (.bool r) ∧ Below w.heap.size w w' := by
 have hu57 := Try.underlying57
 have hu54 := Try.underlying54
 have HR0_1 := Aside0.mk hr0_1
 have HC0_1 := Aside0.mk hc0_1
 clear hr0_1 hc0_1
 have HR0_3 := Aside0.mk hr0_3
 have HC0_3 := Aside0.mk hc0_3
 clear hr0_3 hc0_3
 have HR0_4 := Aside0.mk hr0_4
 have HC0_4 := Aside0.mk hc0_4
 clear hr0_4 hc0_4
 have HR0_5 := Aside0.mk hr0_5
 have HC0_5 := Aside0.mk hc0_5
 clear hr0_5 hc0_5
 have HB := am (Below.refl w.heap.size w)
 have H : ((impl_in.f a0_0 0 1000000).bind fun t102 => (if t102 = true then (if a0_2 = 4 then ((impl_CacheOk.f k l0_1 a0_2 l0_3).bind fun t103 => (if t103 = true then (if (l0_4.length : Int) > 4 then (impl_GateOk.j0 k true a0_0 l0_1 a0_2 l0_3 l0_4 l0_5) else (impl_GateOk.j0 k (decide ((l0_5.length : Int) > 6)) a0_0 l0_1 a0_2 l0_3 l0_4 l0_5)) else (impl_GateOk.j0 k true a0_0 l0_1 a0_2 l0_3 l0_4 l0_5))) else (impl_GateOk.j0 k true a0_0 l0_1 a0_2 l0_3 l0_4 l0_5)) else (impl_GateOk.j0 k true a0_0 l0_1 a0_2 l0_3 l0_4 l0_5))) = some r := h
 clear h
 have HC2 := Aside0.mk H
 clear H
 go_enter Try.func32, Try.ntmps32
 go_upto_region 1 with (first | ((with_reducible refine gate_dst (N := 1) rfl ?_); (try (refine gate_guard (by rfl) ?_; dsimp only)); refine box_event rfl (N := 1) rfl (cs := #[.int .i64 a0_0, .slice A0_1 l0_1.length c0_1, .int .i64 a0_2, .slice A0_3 l0_3.length c0_3, .slice A0_4 l0_4.length c0_4, .slice A0_5 l0_5.length c0_5]) (t := 57) BX ?_; intro gb101 hg w3 hbox hb; have BK101 := am (hbox); have GW101 := am (GH HB hg); have GE101 := GW101; replace HB := am (below_step (KL HB) hb); clear hb hbox hg))
 (try simp only [Act.put, List.setIfInBounds_toArray, List.set_cons_zero, List.set_cons_succ])
 go_cut [32] (fun v32 wc => ∃ (kq : Nat) (x32_1 : Bool), v32 = .bool x32_1 ∧ Aside0 (impl_GateOk.j0 kq x32_1 a0_0 l0_1 a0_2 l0_3 l0_4 l0_5 = some r) ∧ Aside0 (kq ≤ k) ∧ Aside0 (wc.heap[gb101]? = some (.cells #[.int .i64 a0_0, (.slice A0_1 l0_1.length c0_1), .int .i64 a0_2, (.slice A0_3 l0_3.length c0_3), (.slice A0_4 l0_4.length c0_4), (.slice A0_5 l0_5.length c0_5)] 57 (0, 0))) ∧ Aside0 (Below w.heap.size w wc))
 case first =>
  have H := HC2.out
  clear HC2
  replace H := Option.bind_eq_some_iff.mp H
  obtain ⟨t102, A40, H⟩ := H
  replace H : (if t102 = true then (if a0_2 = 4 then ((impl_CacheOk.f k l0_1 a0_2 l0_3).bind fun t103 => (if t103 = true then (if (l0_4.length : Int) > 4 then (impl_GateOk.j0 k true a0_0 l0_1 a0_2 l0_3 l0_4 l0_5) else (impl_GateOk.j0 k (decide ((l0_5.length : Int) > 6)) a0_0 l0_1 a0_2 l0_3 l0_4 l0_5)) else (impl_GateOk.j0 k true a0_0 l0_1 a0_2 l0_3 l0_4 l0_5))) else (impl_GateOk.j0 k true a0_0 l0_1 a0_2 l0_3 l0_4 l0_5)) else (impl_GateOk.j0 k true a0_0 l0_1 a0_2 l0_3 l0_4 l0_5)) = some r := H
  have A4 := Aside0.mk A40
  clear A40
  by_cases c5 : t102 = true
  ·subst c5
   have H1 : (if a0_2 = 4 then ((impl_CacheOk.f k l0_1 a0_2 l0_3).bind fun t103 => (if t103 = true then (if (l0_4.length : Int) > 4 then (impl_GateOk.j0 k true a0_0 l0_1 a0_2 l0_3 l0_4 l0_5) else (impl_GateOk.j0 k (decide ((l0_5.length : Int) > 6)) a0_0 l0_1 a0_2 l0_3 l0_4 l0_5)) else (impl_GateOk.j0 k true a0_0 l0_1 a0_2 l0_3 l0_4 l0_5))) else (impl_GateOk.j0 k true a0_0 l0_1 a0_2 l0_3 l0_4 l0_5)) = some r := by rw [if_pos rfl] at H; exact H
   clear H
   have H := H1
   clear H1
   by_cases c6 : a0_2 = 4
   ·rw [if_pos c6] at H
    have c6b0 : (a0_2 == 4) = true := beq_iff_eq.mpr c6
    have c6b1 : (a0_2 != 4) = false := bne_eq_false_iff_eq.mpr c6
    clear c6
    (first | rw [c6b0] | (simp only [i64_w, i32_w]; rw [c6b0]) | skip)
    replace H := Option.bind_eq_some_iff.mp H
    obtain ⟨t103, A70, H⟩ := H
    replace H : (if t103 = true then (if (l0_4.length : Int) > 4 then (impl_GateOk.j0 k true a0_0 l0_1 a0_2 l0_3 l0_4 l0_5) else (impl_GateOk.j0 k (decide ((l0_5.length : Int) > 6)) a0_0 l0_1 a0_2 l0_3 l0_4 l0_5)) else (impl_GateOk.j0 k true a0_0 l0_1 a0_2 l0_3 l0_4 l0_5)) = some r := H
    have A7 := Aside0.mk A70
    clear A70
    by_cases c8 : t103 = true
    ·subst c8
     have H1 : (if (l0_4.length : Int) > 4 then (impl_GateOk.j0 k true a0_0 l0_1 a0_2 l0_3 l0_4 l0_5) else (impl_GateOk.j0 k (decide ((l0_5.length : Int) > 6)) a0_0 l0_1 a0_2 l0_3 l0_4 l0_5)) = some r := by rw [if_pos rfl] at H; exact H
     clear H
     have H := H1
     clear H1
     by_cases c9 : (l0_4.length : Int) > 4
     ·rw [if_pos c9] at H
      have c9b0 : decide (4 < (l0_4.length : Int)) = true := decide_eq_true c9
      have c9b1 : decide (4 < l0_4.length) = true := decide_eq_true (by omega)
      clear c9
      have H' := Aside0.mk H
      clear H
      obtain ⟨hcz10_0, hcz10_1, hcz10_2, hcz10_3, hcz10_4, hcz10_5, hfz10_0⟩ := y6 w3 BK101.out
      go_wp2_with (first | ((with_reducible refine gate_callee (f := 49) rfl ?_); refine goesL_ (some 5) rfl rfl Try.func49 (by kernel_rfl) rfl #[.int .i64 a0_0, .int .i64 0, .int .i64 1000000] rfl MT ?_; (with_reducible refine (impl_in.calls a0_0 0 1000000 true _ A4.out).mono ?_); rintro e w' ⟨rfl, ⟨nd, rfl⟩⟩; refine ⟨_, rfl, ?_⟩) | (go_at_call 65; (with_reducible refine (impl_CacheOk.calls k _ _ l0_1 a0_2 _ _ l0_3 true _ ?side1 ?side2 ?side3 ?side4 A7.out).mono ?_); (case side1 => repeat (first | exact (Kd.C_below HR0_1.out (K1 HB GE101.out)) | (with_reducible refine Kd.C_alloc ?_ _) | (with_reducible refine Kd.C_drewN ?_ _) | (with_reducible refine Kd.C_drew ?_))); (case side2 => exact HC0_1.out); (case side3 => repeat (first | exact (Kd.C_below HR0_3.out (K1 HB GE101.out)) | (with_reducible refine Kd.C_alloc ?_ _) | (with_reducible refine Kd.C_drewN ?_ _) | (with_reducible refine Kd.C_drew ?_))); (case side4 => exact HC0_3.out); rintro e w11 ⟨rfl, hb⟩; replace BK101 := am (BB BK101 hb); replace HB := am (below_step (K1 HB GE101.out) hb); (try clear hb); obtain ⟨hcz12_0, hcz12_1, hcz12_2, hcz12_3, hcz12_4, hcz12_5, hfz12_0⟩ := y6 w11 BK101.out))
      go_meet
      case rel => exact ⟨_, (true), (by first | rfl | (simp; done) | (simp [*]; done)), H', ⟨by first | omega | exact Nat.le_refl _⟩, ⟨KB BK101⟩, ⟨K1 HB GE101.out⟩⟩
     ·rw [if_neg c9] at H
      have c9b0 : decide (4 < (l0_4.length : Int)) = false := decide_eq_false c9
      have c9b1 : decide (4 < l0_4.length) = false := decide_eq_false (by omega)
      clear c9
      have H' := Aside0.mk H
      clear H
      obtain ⟨hcz13_0, hcz13_1, hcz13_2, hcz13_3, hcz13_4, hcz13_5, hfz13_0⟩ := y6 w3 BK101.out
      go_wp2_with (first | ((with_reducible refine gate_callee (f := 49) rfl ?_); refine goesL_ (some 5) rfl rfl Try.func49 (by kernel_rfl) rfl #[.int .i64 a0_0, .int .i64 0, .int .i64 1000000] rfl MT ?_; (with_reducible refine (impl_in.calls a0_0 0 1000000 true _ A4.out).mono ?_); rintro e w' ⟨rfl, ⟨nd, rfl⟩⟩; refine ⟨_, rfl, ?_⟩) | (go_at_call 65; (with_reducible refine (impl_CacheOk.calls k _ _ l0_1 a0_2 _ _ l0_3 true _ ?side1 ?side2 ?side3 ?side4 A7.out).mono ?_); (case side1 => repeat (first | exact (Kd.C_below HR0_1.out (K1 HB GE101.out)) | (with_reducible refine Kd.C_alloc ?_ _) | (with_reducible refine Kd.C_drewN ?_ _) | (with_reducible refine Kd.C_drew ?_))); (case side2 => exact HC0_1.out); (case side3 => repeat (first | exact (Kd.C_below HR0_3.out (K1 HB GE101.out)) | (with_reducible refine Kd.C_alloc ?_ _) | (with_reducible refine Kd.C_drewN ?_ _) | (with_reducible refine Kd.C_drew ?_))); (case side4 => exact HC0_3.out); rintro e w14 ⟨rfl, hb⟩; replace BK101 := am (BB BK101 hb); replace HB := am (below_step (K1 HB GE101.out) hb); (try clear hb); obtain ⟨hcz15_0, hcz15_1, hcz15_2, hcz15_3, hcz15_4, hcz15_5, hfz15_0⟩ := y6 w14 BK101.out))
      go_meet
      case rel => exact ⟨_, (decide ((l0_5.length : Int) > 6)), (by first | rfl | (simp; done) | (simp [*]; done)), H', ⟨by first | omega | exact Nat.le_refl _⟩, ⟨KB BK101⟩, ⟨K1 HB GE101.out⟩⟩
    ·replace c8 := Bool.eq_false_iff.mpr c8
     subst c8
     have H1 : (impl_GateOk.j0 k true a0_0 l0_1 a0_2 l0_3 l0_4 l0_5) = some r := by rw [if_neg (show ¬ (false = true) by decide)] at H; exact H
     clear H
     have H := H1
     clear H1
     have H' := Aside0.mk H
     clear H
     obtain ⟨hcz16_0, hcz16_1, hcz16_2, hcz16_3, hcz16_4, hcz16_5, hfz16_0⟩ := y6 w3 BK101.out
     go_wp2_with (first | ((with_reducible refine gate_callee (f := 49) rfl ?_); refine goesL_ (some 5) rfl rfl Try.func49 (by kernel_rfl) rfl #[.int .i64 a0_0, .int .i64 0, .int .i64 1000000] rfl MT ?_; (with_reducible refine (impl_in.calls a0_0 0 1000000 true _ A4.out).mono ?_); rintro e w' ⟨rfl, ⟨nd, rfl⟩⟩; refine ⟨_, rfl, ?_⟩) | (go_at_call 65; (with_reducible refine (impl_CacheOk.calls k _ _ l0_1 a0_2 _ _ l0_3 false _ ?side1 ?side2 ?side3 ?side4 A7.out).mono ?_); (case side1 => repeat (first | exact (Kd.C_below HR0_1.out (K1 HB GE101.out)) | (with_reducible refine Kd.C_alloc ?_ _) | (with_reducible refine Kd.C_drewN ?_ _) | (with_reducible refine Kd.C_drew ?_))); (case side2 => exact HC0_1.out); (case side3 => repeat (first | exact (Kd.C_below HR0_3.out (K1 HB GE101.out)) | (with_reducible refine Kd.C_alloc ?_ _) | (with_reducible refine Kd.C_drewN ?_ _) | (with_reducible refine Kd.C_drew ?_))); (case side4 => exact HC0_3.out); rintro e w17 ⟨rfl, hb⟩; replace BK101 := am (BB BK101 hb); replace HB := am (below_step (K1 HB GE101.out) hb); (try clear hb)))
     go_meet
     case rel => exact ⟨_, (true), (by first | rfl | (simp; done) | (simp [*]; done)), H', ⟨by first | omega | exact Nat.le_refl _⟩, ⟨KB BK101⟩, ⟨K1 HB GE101.out⟩⟩
   ·rw [if_neg c6] at H
    have c6b0 : (a0_2 == 4) = false := beq_eq_false_iff_ne.mpr c6
    have c6b1 : (a0_2 != 4) = true := bne_iff_ne.mpr c6
    (first | rw [c6b0] | (simp only [i64_w, i32_w]; rw [c6b0]) | skip)
    have H' := Aside0.mk H
    clear H
    obtain ⟨hcz18_0, hcz18_1, hcz18_2, hcz18_3, hcz18_4, hcz18_5, hfz18_0⟩ := y6 w3 BK101.out
    go_wp2_with (first | ((with_reducible refine gate_callee (f := 49) rfl ?_); refine goesL_ (some 5) rfl rfl Try.func49 (by kernel_rfl) rfl #[.int .i64 a0_0, .int .i64 0, .int .i64 1000000] rfl MT ?_; (with_reducible refine (impl_in.calls a0_0 0 1000000 true _ A4.out).mono ?_); rintro e w' ⟨rfl, ⟨nd, rfl⟩⟩; refine ⟨_, rfl, ?_⟩))
    go_meet
    case rel => exact ⟨_, (true), (by first | rfl | (simp; done) | (simp [*]; done)), H', ⟨by first | omega | exact Nat.le_refl _⟩, ⟨KB BK101⟩, ⟨K1 HB GE101.out⟩⟩
  ·replace c5 := Bool.eq_false_iff.mpr c5
   subst c5
   have H1 : (impl_GateOk.j0 k true a0_0 l0_1 a0_2 l0_3 l0_4 l0_5) = some r := by rw [if_neg (show ¬ (false = true) by decide)] at H; exact H
   clear H
   have H := H1
   clear H1
   have H' := Aside0.mk H
   clear H
   obtain ⟨hcz19_0, hcz19_1, hcz19_2, hcz19_3, hcz19_4, hcz19_5, hfz19_0⟩ := y6 w3 BK101.out
   go_wp2_with (first | ((with_reducible refine gate_callee (f := 49) rfl ?_); refine goesL_ (some 5) rfl rfl Try.func49 (by kernel_rfl) rfl #[.int .i64 a0_0, .int .i64 0, .int .i64 1000000] rfl MT ?_; (with_reducible refine (impl_in.calls a0_0 0 1000000 false _ A4.out).mono ?_); rintro e w' ⟨rfl, ⟨nd, rfl⟩⟩; refine ⟨_, rfl, ?_⟩))
   go_meet
   case rel => exact ⟨_, (true), (by first | rfl | (simp; done) | (simp [*]; done)), H', ⟨by first | omega | exact Nat.le_refl _⟩, ⟨KB BK101⟩, ⟨K1 HB GE101.out⟩⟩
 case rest =>
  clear HC2
  try clear p2
  try clear c3
  try clear c4
  try clear c5
  try clear c6
  try clear c6b0
  try clear c6b1
  try clear c8
  try clear c9
  try clear c9b0
  try clear c9b1
  try clear hcz10_0 hcz10_1 hcz10_2 hcz10_3 hcz10_4 hcz10_5 hfz10_0
  try clear hcz12_0 hcz12_1 hcz12_2 hcz12_3 hcz12_4 hcz12_5 hfz12_0
  try clear hcz13_0 hcz13_1 hcz13_2 hcz13_3 hcz13_4 hcz13_5 hfz13_0
  try clear hcz15_0 hcz15_1 hcz15_2 hcz15_3 hcz15_4 hcz15_5 hfz15_0
  try clear hcz16_0 hcz16_1 hcz16_2 hcz16_3 hcz16_4 hcz16_5 hfz16_0
  try clear hcz18_0 hcz18_1 hcz18_2 hcz18_3 hcz18_4 hcz18_5 hfz18_0
  try clear hcz19_0 hcz19_1 hcz19_2 hcz19_3 hcz19_4 hcz19_5 hfz19_0
  obtain ⟨kq, x32_1, rfl, HA, HJ1, BK101, HB⟩ := hcut
  cases kq with
  | zero => exact absurd HA.out (by simp [impl_GateOk.j0])
  | succ kj1 =>
   have H := HA.out
   clear HA
   simp only [impl_GateOk.j0] at H
   by_cases c20 : x32_1 = true
   ·subst c20
    have H1 : (some false) = some r := by rw [if_pos rfl] at H; exact H
    clear H
    have H := H1
    clear H1
    obtain rfl := Option.some.inj H
    go_wp2
    go_ret
    exact ⟨ER, K1 HB GE101.out⟩
   ·replace c20 := Bool.eq_false_iff.mpr c20
    subst c20
    have H1 : ((impl_ascending_tunOf.f kj1 l0_4 a0_0).bind fun t104 => (if t104 = true then ((impl_ascending_spiOf.f kj1 l0_5 a0_0).bind fun t105 => (some t105)) else (some false))) = some r := by rw [if_neg (show ¬ (false = true) by decide)] at H; exact H
    clear H
    have H := H1
    clear H1
    replace H := Option.bind_eq_some_iff.mp H
    obtain ⟨t104, A210, H⟩ := H
    replace H : (if t104 = true then ((impl_ascending_spiOf.f kj1 l0_5 a0_0).bind fun t105 => (some t105)) else (some false)) = some r := H
    have A21 := Aside0.mk A210
    clear A210
    by_cases c22 : t104 = true
    ·subst c22
     have H1 : ((impl_ascending_spiOf.f kj1 l0_5 a0_0).bind fun t105 => (some t105)) = some r := by rw [if_pos rfl] at H; exact H
     clear H
     have H := H1
     clear H1
     replace H := Option.bind_eq_some_iff.mp H
     obtain ⟨t105, A230, H⟩ := H
     replace H : (some t105) = some r := H
     have A23 := Aside0.mk A230
     clear A230
     obtain rfl := Option.some.inj H
     obtain ⟨hcz24_0, hcz24_1, hcz24_2, hcz24_3, hcz24_4, hcz24_5, hfz24_0⟩ := y6 wc BK101.out
     go_wp2_with (first | ((with_reducible refine gate_callee (f := 66) rfl ?_); refine goesL_ (some 37) rfl rfl Try.func66 (by kernel_rfl) rfl #[.slice A0_4 l0_4.length c0_4, .int .i64 a0_0, .func (.func 67) #[] #[]] rfl MT ?_; (with_reducible refine (impl_ascending_tunOf.calls kj1 _ _ l0_4 a0_0  true _ ?side1 ?side2 A21.out).mono ?_); (case side1 => exact KD HR0_4 HB); (case side2 => exact HC0_4.out); rintro e w25 ⟨rfl, hb⟩; refine ⟨_, rfl, ?_⟩; replace BK101 := am (BB BK101 hb); replace HB := am (below_step (K1 HB GE101.out) hb); (try clear hb); obtain ⟨hcz26_0, hcz26_1, hcz26_2, hcz26_3, hcz26_4, hcz26_5, hfz26_0⟩ := y6 w25 BK101.out) | (go_at_call 66; (with_reducible refine (impl_ascending_spiOf.calls kj1 _ _ l0_5 a0_0  t105 _ ?side1 ?side2 A23.out).mono ?_); (case side1 => exact KD HR0_5 HB); (case side2 => exact HC0_5.out); rintro e w27 ⟨rfl, hb⟩; replace BK101 := am (BB BK101 hb); replace HB := am (below_step (K1 HB GE101.out) hb); (try clear hb)))
     go_ret
     exact ⟨ER, K1 HB GE101.out⟩
    ·replace c22 := Bool.eq_false_iff.mpr c22
     subst c22
     have H1 : (some false) = some r := by rw [if_neg (show ¬ (false = true) by decide)] at H; exact H
     clear H
     have H := H1
     clear H1
     obtain rfl := Option.some.inj H
     obtain ⟨hcz28_0, hcz28_1, hcz28_2, hcz28_3, hcz28_4, hcz28_5, hfz28_0⟩ := y6 wc BK101.out
     go_wp2_with (first | ((with_reducible refine gate_callee (f := 66) rfl ?_); refine goesL_ (some 37) rfl rfl Try.func66 (by kernel_rfl) rfl #[.slice A0_4 l0_4.length c0_4, .int .i64 a0_0, .func (.func 67) #[] #[]] rfl MT ?_; (with_reducible refine (impl_ascending_tunOf.calls kj1 _ _ l0_4 a0_0  false _ ?side1 ?side2 A21.out).mono ?_); (case side1 => exact KD HR0_4 HB); (case side2 => exact HC0_4.out); rintro e w29 ⟨rfl, hb⟩; refine ⟨_, rfl, ?_⟩; replace BK101 := am (BB BK101 hb); replace HB := am (below_step (K1 HB GE101.out) hb); (try clear hb)))
     go_ret
     exact ⟨ER, K1 HB GE101.out⟩
def impl_GateDoes.j0 : Nat → Bool → Int → List (S141) → Int → List (S136) → List (S95) → List (S95) → Int → Int → Int → ByteArray → Option (Int × Int)
 | 0, _, _, _, _, _, _, _, _, _, _, _ => none
 | k + 1, x14, x102000, x102001, x102002, x102003, x102004, x102005, x103000, x103001, x103002, x103003 => if x14 = true then (some (0, 0)) else ((impl_Packet_call.f x103000 x103001 x103002 x103003).bind fun bt105 => ((impl_first.f x102001 bt105.1 bt105.2.1 bt105.2.2).bind fun t108 => ((impl_act.f x102001 t108).bind fun bt109 => (some (bt109.1, bt109.2)))))
def impl_GateDoes.f (k : Nat) (a0_0 : Int) (l0_1 : List (S141)) (a0_2 : Int) (l0_3 : List (S136)) (l0_4 : List (S95)) (l0_5 : List (S95)) (a1_0 : Int) (a1_1 : Int) (a1_2 : Int) (a1_3 : ByteArray) : Option (Int × Int) := (impl_GateOk.f k a0_0 l0_1 a0_2 l0_3 l0_4 l0_5).bind fun t103 => (if t103 = true then ((impl_PacketOk.f a1_0 a1_1 a1_2 a1_3).bind fun t104 => (impl_GateDoes.j0 k (!t104) a0_0 l0_1 a0_2 l0_3 l0_4 l0_5 a1_0 a1_1 a1_2 a1_3)) else (impl_GateDoes.j0 k true a0_0 l0_1 a0_2 l0_3 l0_4 l0_5 a1_0 a1_1 a1_2 a1_3))
def impl_GateDoes.T3 : Bool × List (List Nat × List Nat) := (true, [([], []), ([0], [0]), ([], []), ([2], [2]), ([], []), ([4], [4]), ([3, 5, 5], [3, 5]), ([1, 6, 6], [1, 6]), ([], []), ([8, 7, 7, 0, 1, 2, 3, 4, 5, 6, 7, 8], [7, 8])])
def impl_GateDoes.B3 : List Nat := [0, 1, 0, 4, 0, 16, 60, 127, 0, 511]
theorem impl_GateDoes.tab3 : rtab .any (opsOf Try.f37 3) = impl_GateDoes.T3 := by kernel_rfl
theorem impl_GateDoes.bits3 : waitsOk impl_GateDoes.T3.2 impl_GateDoes.B3 = true := by kernel_rfl
set_option maxHeartbeats 8000000 in
set_option maxRecDepth 100000 in
theorem impl_GateDoes.calls (k : Nat) (a0_0 : Int) (A0_1 : Option Addr) (c0_1 : Nat) (l0_1 : List (S141)) (a0_2 : Int) (A0_3 : Option Addr) (c0_3 : Nat) (l0_3 : List (S136)) (A0_4 : Option Addr) (c0_4 : Nat) (l0_4 : List (S95)) (A0_5 : Option Addr) (c0_5 : Nat) (l0_5 : List (S95)) (a1_0 : Int) (a1_1 : Int) (a1_2 : Int) (a1_3 : ByteArray) (r1 : Int) (r2 : Int) (w : World) (hr0_1 : Kd.C k141 w A0_1 l0_1.length l0_1) (hc0_1 : l0_1.length ≤ c0_1) (hr0_3 : Kd.C k136 w A0_3 l0_3.length l0_3) (hc0_3 : l0_3.length ≤ c0_3) (hr0_4 : Kd.C k95 w A0_4 l0_4.length l0_4) (hc0_4 : l0_4.length ≤ c0_4) (hr0_5 : Kd.C k95 w A0_5 l0_5.length l0_5) (hc0_5 : l0_5.length ≤ c0_5) (h : impl_GateDoes.f k a0_0 l0_1 a0_2 l0_3 l0_4 l0_5 a1_0 a1_1 a1_2 a1_3 = some (r1, r2)) :
  Calls Try.prog 37 #[.agg #[.int .i64 a0_0, .slice A0_1 l0_1.length c0_1, .int .i64 a0_2, .slice A0_3 l0_3.length c0_3, .slice A0_4 l0_4.length c0_4, .slice A0_5 l0_5.length c0_5], .agg #[.int .i64 a1_0, .int .i64 a1_1, .int .i64 a1_2, .string a1_3]] w fun e w' => e = .returned (.tuple #[.int .i64 r1, .int .i64 r2]) ∧ Below w.heap.size w w' := by
 have hu57 := Try.underlying57
 have hu66 := Try.underlying66
 have hu110 := Try.underlying110
 have HR0_1 := Aside0.mk hr0_1
 have HC0_1 := Aside0.mk hc0_1
 clear hr0_1 hc0_1
 have HR0_3 := Aside0.mk hr0_3
 have HC0_3 := Aside0.mk hc0_3
 clear hr0_3 hc0_3
 have HR0_4 := Aside0.mk hr0_4
 have HC0_4 := Aside0.mk hc0_4
 clear hr0_4 hc0_4
 have HR0_5 := Aside0.mk hr0_5
 have HC0_5 := Aside0.mk hc0_5
 clear hr0_5 hc0_5
 have HB := am (Below.refl w.heap.size w)
 have H : ((impl_GateOk.f k a0_0 l0_1 a0_2 l0_3 l0_4 l0_5).bind fun t103 => (if t103 = true then ((impl_PacketOk.f a1_0 a1_1 a1_2 a1_3).bind fun t104 => (impl_GateDoes.j0 k (!t104) a0_0 l0_1 a0_2 l0_3 l0_4 l0_5 a1_0 a1_1 a1_2 a1_3)) else (impl_GateDoes.j0 k true a0_0 l0_1 a0_2 l0_3 l0_4 l0_5 a1_0 a1_1 a1_2 a1_3))) = some (r1, r2) := h
 clear h
 have HC3 := Aside0.mk H
 clear H
 go_enter Try.func37, Try.ntmps37
 go_upto_region 1 with (first | ((with_reducible refine gate_dst (N := 2) rfl ?_); refine box_event rfl (N := 2) rfl (cs := #[.int .i64 a0_0, .slice A0_1 l0_1.length c0_1, .int .i64 a0_2, .slice A0_3 l0_3.length c0_3, .slice A0_4 l0_4.length c0_4, .slice A0_5 l0_5.length c0_5]) (t := 57) BX ?_; intro gb101 hg w4 hbox hb; have BK101 := am (hbox); have GW101 := am (GH HB hg); have GE101 := GW101; replace HB := am (below_step (KL HB) hb); clear hb hbox hg) | ((with_reducible refine gate_dst (N := 3) rfl ?_); refine box_event rfl (N := 3) rfl (cs := #[.int .i64 a1_0, .int .i64 a1_1, .int .i64 a1_2, .string a1_3]) (t := 66) BX ?_; intro gb102 hg w5 hbox hb; have BK102 := am (hbox); have GW102 := am (GH1 HB GE101.out hg); have GE102 := GW102; replace HB := am (below_step (K1 HB GE101.out) hb); have NB101_102 := am (NL BK101 hg); have NB102_101 := am (NG BK101 hg); replace BK101 := am (BB BK101 hb); clear hb hbox hg))
 (try simp only [Act.put, List.setIfInBounds_toArray, List.set_cons_zero, List.set_cons_succ])
 go_cut [14] (fun v14 wc => ∃ (kq : Nat) (x14_2 : Bool), v14 = .bool x14_2 ∧ Aside0 (impl_GateDoes.j0 kq x14_2 a0_0 l0_1 a0_2 l0_3 l0_4 l0_5 a1_0 a1_1 a1_2 a1_3 = some (r1, r2)) ∧ Aside0 (kq ≤ k) ∧ Aside0 (wc.heap[gb101]? = some (.cells #[.int .i64 a0_0, (.slice A0_1 l0_1.length c0_1), .int .i64 a0_2, (.slice A0_3 l0_3.length c0_3), (.slice A0_4 l0_4.length c0_4), (.slice A0_5 l0_5.length c0_5)] 57 (0, 0))) ∧ Aside0 (wc.heap[gb102]? = some (.cells #[.int .i64 a1_0, .int .i64 a1_1, .int .i64 a1_2, .string a1_3] 66 (0, 0))) ∧ Aside0 (Below w.heap.size w wc))
 case first =>
  have H := HC3.out
  clear HC3
  replace H := Option.bind_eq_some_iff.mp H
  obtain ⟨t103, A60, H⟩ := H
  replace H : (if t103 = true then ((impl_PacketOk.f a1_0 a1_1 a1_2 a1_3).bind fun t104 => (impl_GateDoes.j0 k (!t104) a0_0 l0_1 a0_2 l0_3 l0_4 l0_5 a1_0 a1_1 a1_2 a1_3)) else (impl_GateDoes.j0 k true a0_0 l0_1 a0_2 l0_3 l0_4 l0_5 a1_0 a1_1 a1_2 a1_3)) = some (r1, r2) := H
  have A6 := Aside0.mk A60
  clear A60
  by_cases c7 : t103 = true
  ·subst c7
   have H1 : ((impl_PacketOk.f a1_0 a1_1 a1_2 a1_3).bind fun t104 => (impl_GateDoes.j0 k (!t104) a0_0 l0_1 a0_2 l0_3 l0_4 l0_5 a1_0 a1_1 a1_2 a1_3)) = some (r1, r2) := by rw [if_pos rfl] at H; exact H
   clear H
   have H := H1
   clear H1
   replace H := Option.bind_eq_some_iff.mp H
   obtain ⟨t104, A80, H⟩ := H
   replace H : (impl_GateDoes.j0 k (!t104) a0_0 l0_1 a0_2 l0_3 l0_4 l0_5 a1_0 a1_1 a1_2 a1_3) = some (r1, r2) := H
   have A8 := Aside0.mk A80
   clear A80
   have H' := Aside0.mk H
   clear H
   have hnb9 := NB101_102.out
   have hnc9 := NB102_101.out
   obtain ⟨hcz10_0, hcz10_1, hcz10_2, hcz10_3, hcz10_4, hcz10_5, hfz10_0⟩ := y6 w5 BK101.out
   go_wp2_with (first | ((with_reducible refine gate_callee (f := 32) rfl ?_); refine goesL_ (some 8) rfl rfl Try.func32 (by kernel_rfl) rfl #[.agg #[.int .i64 a0_0, .slice A0_1 l0_1.length c0_1, .int .i64 a0_2, .slice A0_3 l0_3.length c0_3, .slice A0_4 l0_4.length c0_4, .slice A0_5 l0_5.length c0_5]] rfl MT ?_; (with_reducible refine (impl_GateOk.calls k a0_0 _ _ l0_1 a0_2 _ _ l0_3 _ _ l0_4 _ _ l0_5 true _ ?side1 ?side2 ?side3 ?side4 ?side5 ?side6 ?side7 ?side8 A6.out).mono ?_); (case side1 => exact KD HR0_1 HB); (case side2 => exact HC0_1.out); (case side3 => exact KD HR0_3 HB); (case side4 => exact HC0_3.out); (case side5 => exact KD HR0_4 HB); (case side6 => exact HC0_4.out); (case side7 => exact KD HR0_5 HB); (case side8 => exact HC0_5.out); rintro e w11 ⟨rfl, hb⟩; refine ⟨_, rfl, ?_⟩; replace BK101 := am (BB BK101 hb); replace BK102 := am (BB BK102 hb); replace HB := am (below_step (K2 HB GE101.out GE102.out) hb); (try clear hb); obtain ⟨hcz12_0, hcz12_1, hcz12_2, hcz12_3, hfz12_0⟩ := y4 w11 BK102.out) | (go_at_call 75; (with_reducible refine (impl_PacketOk.calls a1_0 a1_1 a1_2 a1_3 t104 _ A8.out).mono ?_); rintro e w13 ⟨rfl, hb⟩; replace BK101 := am (BB BK101 hb); replace BK102 := am (BB BK102 hb); replace HB := am (below_step (K2 HB GE101.out GE102.out) hb); (try clear hb)))
   go_meet
   case rel => exact ⟨_, (!t104), (by first | rfl | (simp; done) | (simp [*]; done)), H', ⟨by first | omega | exact Nat.le_refl _⟩, ⟨KB BK101⟩, ⟨KB BK102⟩, ⟨K2 HB GE101.out GE102.out⟩⟩
  ·replace c7 := Bool.eq_false_iff.mpr c7
   subst c7
   have H1 : (impl_GateDoes.j0 k true a0_0 l0_1 a0_2 l0_3 l0_4 l0_5 a1_0 a1_1 a1_2 a1_3) = some (r1, r2) := by rw [if_neg (show ¬ (false = true) by decide)] at H; exact H
   clear H
   have H := H1
   clear H1
   have H' := Aside0.mk H
   clear H
   have hnb14 := NB101_102.out
   have hnc14 := NB102_101.out
   obtain ⟨hcz15_0, hcz15_1, hcz15_2, hcz15_3, hcz15_4, hcz15_5, hfz15_0⟩ := y6 w5 BK101.out
   go_wp2_with (first | ((with_reducible refine gate_callee (f := 32) rfl ?_); refine goesL_ (some 8) rfl rfl Try.func32 (by kernel_rfl) rfl #[.agg #[.int .i64 a0_0, .slice A0_1 l0_1.length c0_1, .int .i64 a0_2, .slice A0_3 l0_3.length c0_3, .slice A0_4 l0_4.length c0_4, .slice A0_5 l0_5.length c0_5]] rfl MT ?_; (with_reducible refine (impl_GateOk.calls k a0_0 _ _ l0_1 a0_2 _ _ l0_3 _ _ l0_4 _ _ l0_5 false _ ?side1 ?side2 ?side3 ?side4 ?side5 ?side6 ?side7 ?side8 A6.out).mono ?_); (case side1 => exact KD HR0_1 HB); (case side2 => exact HC0_1.out); (case side3 => exact KD HR0_3 HB); (case side4 => exact HC0_3.out); (case side5 => exact KD HR0_4 HB); (case side6 => exact HC0_4.out); (case side7 => exact KD HR0_5 HB); (case side8 => exact HC0_5.out); rintro e w16 ⟨rfl, hb⟩; refine ⟨_, rfl, ?_⟩; replace BK101 := am (BB BK101 hb); replace BK102 := am (BB BK102 hb); replace HB := am (below_step (K2 HB GE101.out GE102.out) hb); (try clear hb)))
   go_meet
   case rel => exact ⟨_, (true), (by first | rfl | (simp; done) | (simp [*]; done)), H', ⟨by first | omega | exact Nat.le_refl _⟩, ⟨KB BK101⟩, ⟨KB BK102⟩, ⟨K2 HB GE101.out GE102.out⟩⟩
 case rest =>
  clear HC3
  try clear c1
  try clear p2
  try clear c3
  try clear c7
  try clear c9
  try clear c14
  try clear hcz10_0 hcz10_1 hcz10_2 hcz10_3 hcz10_4 hcz10_5 hfz10_0
  try clear hcz12_0 hcz12_1 hcz12_2 hcz12_3 hfz12_0
  try clear hcz15_0 hcz15_1 hcz15_2 hcz15_3 hcz15_4 hcz15_5 hfz15_0
  obtain ⟨kq, x14_2, rfl, HA, HJ2, BK101, BK102, HB⟩ := hcut
  cases kq with
  | zero => exact absurd HA.out (by simp [impl_GateDoes.j0])
  | succ kj2 =>
   have H := HA.out
   clear HA
   simp only [impl_GateDoes.j0] at H
   by_cases c17 : x14_2 = true
   ·subst c17
    have H1 : (some (0, 0)) = some (r1, r2) := by rw [if_pos rfl] at H; exact H
    clear H
    have H := H1
    clear H1
    simp only [Option.some.injEq, Prod.mk.injEq] at H
    obtain ⟨rfl, rfl⟩ := H
    go_wp2
    go_ret2
    exact ⟨ER, K2 HB GE101.out GE102.out⟩
   ·replace c17 := Bool.eq_false_iff.mpr c17
    subst c17
    have H1 : ((impl_Packet_call.f a1_0 a1_1 a1_2 a1_3).bind fun bt105 => ((impl_first.f l0_1 bt105.1 bt105.2.1 bt105.2.2).bind fun t108 => ((impl_act.f l0_1 t108).bind fun bt109 => (some (bt109.1, bt109.2))))) = some (r1, r2) := by rw [if_neg (show ¬ (false = true) by decide)] at H; exact H
    clear H
    have H := H1
    clear H1
    replace H := Option.bind_eq_some_iff.mp H
    obtain ⟨⟨t105, t106, t107⟩, A180, H⟩ := H
    replace H : ((impl_first.f l0_1 t105 t106 t107).bind fun t108 => ((impl_act.f l0_1 t108).bind fun bt109 => (some (bt109.1, bt109.2)))) = some (r1, r2) := H
    have A18 := Aside0.mk A180
    clear A180
    replace H := Option.bind_eq_some_iff.mp H
    obtain ⟨t108, A190, H⟩ := H
    replace H : ((impl_act.f l0_1 t108).bind fun bt109 => (some (bt109.1, bt109.2))) = some (r1, r2) := H
    have A19 := Aside0.mk A190
    clear A190
    replace H := Option.bind_eq_some_iff.mp H
    obtain ⟨⟨t109, t110⟩, A200, H⟩ := H
    replace H : (some (t109, t110)) = some (r1, r2) := H
    have A20 := Aside0.mk A200
    clear A200
    simp only [Option.some.injEq, Prod.mk.injEq] at H
    obtain ⟨rfl, rfl⟩ := H
    try go_wp2
    replace BK101 := am (blk_drew BK101.out)
    replace BK102 := am (blk_drew BK102.out)
    replace HB := am (below_drew1 HB.out)
    refine start_ (n := 10) (S := fun w' => ce6 w' gb101 (.int .i64 a0_0) (.slice A0_1 l0_1.length c0_1) (.int .i64 a0_2) (.slice A0_3 l0_3.length c0_3) (.slice A0_4 l0_4.length c0_4) (.slice A0_5 l0_5.length c0_5) (de4 w' gb102 (.int .i64 a1_0) (.int .i64 a1_1) (.int .i64 a1_2) (.string a1_3))) (ds := []) (tf 0 10) (by kernel_rfl) rfl rfl ⟨z0 _ BK101.out, z1 _ BK101.out, z2 _ BK101.out, z3 _ BK101.out, z4 _ BK101.out, z5 _ BK101.out, z0 _ BK102.out, z1 _ BK102.out, z2 _ BK102.out, z3 _ BK102.out⟩ (fun hHeld => ?_); refine with_tabW impl_GateDoes.tab3 impl_GateDoes.bits3 (fun HT_ HW_ => ?_)
    generalize wc.drew = w21 at BK101 BK102 HB hHeld ⊢
    refine pv HT_ 0 15 (tf 1 9) ?_
    refine pv HT_ 2 17 (tr [1, 1, 1, 7]) ?_
    refine tk 1 (some 16) (tf 3 7) (take_ofW HT_.out HW_.out (by kernel_rfl)) hHeld ?_
    refine tk 3 (some 18) (tf 4 6) (take_ofW HT_.out HW_.out (by kernel_rfl)) hHeld ?_
    refine tk 4 (some 19) (tf 5 5) (take_ofW HT_.out HW_.out (by kernel_rfl)) hHeld ?_
    refine join_ (σ := Nat) 1 (tf 9 1) (fun s_ => [(20, .agg #[.int .i64 t105, .int .i64 t106, .int .i64 t107]), (21, .int .i64 t108), (22, .agg #[.int .i64 t109, .int .i64 t110]), (6, .pointer (some ⟨s_, 0, none⟩))]) (fun s_ w' => (w'.cell? ⟨gb101, 0, none⟩ = some (.int .i64 a0_0) ∧ w'.cell? ⟨gb101, 1, none⟩ = some (.slice A0_1 l0_1.length c0_1) ∧ w'.cell? ⟨gb101, 2, none⟩ = some (.int .i64 a0_2) ∧ w'.cell? ⟨gb101, 3, none⟩ = some (.slice A0_3 l0_3.length c0_3) ∧ w'.cell? ⟨gb101, 4, none⟩ = some (.slice A0_4 l0_4.length c0_4) ∧ w'.cell? ⟨gb101, 5, none⟩ = some (.slice A0_5 l0_5.length c0_5) ∧ w'.cell? ⟨gb102, 0, none⟩ = some (.int .i64 a1_0) ∧ w'.cell? ⟨gb102, 1, none⟩ = some (.int .i64 a1_1) ∧ w'.cell? ⟨gb102, 2, none⟩ = some (.int .i64 a1_2) ∧ w'.cell? ⟨gb102, 3, none⟩ = some (.string a1_3)) ∧ (w'.heap[gb101]? = some (.cells #[.int .i64 a0_0, .slice A0_1 l0_1.length c0_1, .int .i64 a0_2, .slice A0_3 l0_3.length c0_3, .slice A0_4 l0_4.length c0_4, .slice A0_5 l0_5.length c0_5] 57 (0, 0))) ∧ (w'.heap[gb102]? = some (.cells #[.int .i64 a1_0, .int .i64 a1_1, .int .i64 a1_2, .string a1_3] 66 (0, 0))) ∧ (w'.heap[s_]? = some (.cells #[.int .i64 0, .int .i64 0] 110 (0, 0))) ∧ (w.heap.size ≤ s_) ∧ (w.heap.size ≤ s_) ∧ (gb101 ≠ s_) ∧ (s_ ≠ gb101) ∧ (gb102 ≠ s_) ∧ (s_ ≠ gb102) ∧ (Below w.heap.size w w')) ?_ ?_
    rotate_left
    ·intro hCont
     refine two_ (i := 5) (j := 8) (Ni := some 20) (Nj := some 6) (tf 6 4) (tr [5, 3, 1, 1]) rfl rfl rfl rfl (two_of HT_.out (by kernel_rfl)) (by decide) (by decide) (fun K hK => ?_) (fun K hK => ?_)
     ·skip
      refine goes_ Try.func78 (by kernel_rfl) rfl #[.agg #[.int .i64 a1_0, .int .i64 a1_1, .int .i64 a1_2, .string a1_3]] (by rfl) rfl rfl MT ?_
      with_reducible refine (impl_Packet_call.calls a1_0 a1_1 a1_2 a1_3 t105 t106 t107 _ A18.out).mono ?_
      rintro e w22 ⟨rfl, hb⟩
      refine ⟨_, rfl, ?_⟩
      replace BK101 := am (BB BK101 hb)
      replace BK102 := am (BB BK102 hb)
      replace HB := am (below_step (K2 HB GE101.out GE102.out) hb)
      (try clear hb)
      (try clear hb2)
      (try clear hk)
      (try clear hi)
      refine hK.out _ _ ⟨z0 _ BK101.out, z1 _ BK101.out, z2 _ BK101.out, z3 _ BK101.out, z4 _ BK101.out, z5 _ BK101.out, z0 _ BK102.out, z1 _ BK102.out, z2 _ BK102.out, z3 _ BK102.out⟩ (fun hHeld => ?_)
      clear hK K
      refine norm_ (a' := ?_) ?_ ?_
      rotate_left
      ·show Act.put _ (some 20) _ = _
       simp only [Act.put, List.setIfInBounds_toArray, List.set_cons_zero, List.set_cons_succ, i64_w, i32_w]
       rfl
      refine two_ (i := 6) (j := 8) (Ni := some 21) (Nj := some 6) (tf 7 3) (tr [6, 2, 1, 1]) rfl rfl rfl rfl (two_of HT_.out (by kernel_rfl)) (by decide) (by decide) (fun K hK => ?_) (fun K hK => ?_)
      ·skip
       refine goes_ Try.func77 (by kernel_rfl) rfl #[.slice A0_1 l0_1.length c0_1, .agg #[.int .i64 t105, .int .i64 t106, .int .i64 t107]] (by rfl) rfl rfl MT ?_
       with_reducible refine (impl_first.calls _ _ l0_1 t105 t106 t107 t108 _ ?side1 ?side2 A19.out).mono ?_
       (case side1 => exact KD HR0_1 HB)
       (case side2 => exact HC0_1.out)
       rintro e w23 ⟨rfl, hb⟩
       refine ⟨_, rfl, ?_⟩
       replace BK101 := am (BB BK101 hb)
       replace BK102 := am (BB BK102 hb)
       replace HB := am (below_step (K2 HB GE101.out GE102.out) hb)
       (try clear hb)
       (try clear hb2)
       (try clear hk)
       (try clear hi)
       refine hK.out _ _ ⟨z0 _ BK101.out, z1 _ BK101.out, z2 _ BK101.out, z3 _ BK101.out, z4 _ BK101.out, z5 _ BK101.out, z0 _ BK102.out, z1 _ BK102.out, z2 _ BK102.out, z3 _ BK102.out⟩ (fun hHeld => ?_)
       clear hK K
       refine norm_ (a' := ?_) ?_ ?_
       rotate_left
       ·show Act.put _ (some 21) _ = _
        simp only [Act.put, List.setIfInBounds_toArray, List.set_cons_zero, List.set_cons_succ, i64_w, i32_w]
        rfl
       refine two_ (i := 7) (j := 8) (Ni := some 22) (Nj := some 6) (tf 8 2) (tr [7, 1, 1, 1]) rfl rfl rfl rfl (two_of HT_.out (by kernel_rfl)) (by decide) (by decide) (fun K hK => ?_) (fun K hK => ?_)
       ·skip
        refine goes_ Try.func76 (by kernel_rfl) rfl #[.slice A0_1 l0_1.length c0_1, .int .i64 t108] (by rfl) rfl rfl MT ?_
        with_reducible refine (impl_act.calls _ _ l0_1 t108 t109 t110 _ ?side1 ?side2 A20.out).mono ?_
        (case side1 => exact KD HR0_1 HB)
        (case side2 => exact HC0_1.out)
        rintro e w24 ⟨rfl, hb⟩
        refine ⟨_, rfl, ?_⟩
        replace BK101 := am (BB BK101 hb)
        replace BK102 := am (BB BK102 hb)
        replace HB := am (below_step (K2 HB GE101.out GE102.out) hb)
        (try clear hb)
        (try clear hb2)
        (try clear hk)
        (try clear hi)
        refine hK.out _ _ ⟨z0 _ BK101.out, z1 _ BK101.out, z2 _ BK101.out, z3 _ BK101.out, z4 _ BK101.out, z5 _ BK101.out, z0 _ BK102.out, z1 _ BK102.out, z2 _ BK102.out, z3 _ BK102.out⟩ (fun hHeld => ?_)
        clear hK K
        refine norm_ (a' := ?_) ?_ ?_
        rotate_left
        ·show Act.put _ (some 22) _ = _
         simp only [Act.put, List.setIfInBounds_toArray, List.set_cons_zero, List.set_cons_succ, i64_w, i32_w]
         rfl
        refine one_ (i := 8) (N := some 6) (tf 9 1) rfl rfl (one_of HT_.out (by kernel_rfl)) (by decide) (fun K hK => ?_)
        refine box_step rfl (N := 6) rfl (cs := #[.int .i64 0, .int .i64 0]) (t := 110) BX ?_
        intro gb111 hg w25 hbox hb
        have BK111 := am (hbox)
        have GW111 := am (GH2 HB GE101.out GE102.out hg)
        have GE111 := GW111
        replace HB := am (below_step (K2 HB GE101.out GE102.out) hb)
        have NB101_111 := am (NL BK101 hg)
        have NB111_101 := am (NG BK101 hg)
        replace BK101 := am (BB BK101 hb)
        have NB102_111 := am (NL BK102 hg)
        have NB111_102 := am (NG BK102 hg)
        replace BK102 := am (BB BK102 hb)
        clear hb hbox hg
        refine hK.out _ _ ⟨z0 _ BK101.out, z1 _ BK101.out, z2 _ BK101.out, z3 _ BK101.out, z4 _ BK101.out, z5 _ BK101.out, z0 _ BK102.out, z1 _ BK102.out, z2 _ BK102.out, z3 _ BK102.out⟩ (fun hHeld => ?_)
        clear hK K
        refine norm_ (a' := ?_) ?_ ?_
        rotate_left
        ·show Act.put _ (some 6) _ = _
         simp only [Act.put, List.setIfInBounds_toArray, List.set_cons_zero, List.set_cons_succ, i64_w, i32_w]
         rfl
        exact norm_ (by simp only [putAll, Act.put, List.setIfInBounds_toArray, List.set_cons_zero, List.set_cons_succ]) (hCont (gb111) _ ⟨hHeld, (KB BK101), (KB BK102), (KB BK111), GW111.out, GE111.out, NB101_111.out, NB111_101.out, NB102_111.out, NB111_102.out, (K3 HB GE101.out GE102.out GE111.out)⟩)
       ·skip
        refine box_step rfl (N := 6) rfl (cs := #[.int .i64 0, .int .i64 0]) (t := 110) BX ?_
        intro gb111 hg w24 hbox hb
        have BK111 := am (hbox)
        have GW111 := am (GH2 HB GE101.out GE102.out hg)
        have GE111 := GW111
        replace HB := am (below_step (K2 HB GE101.out GE102.out) hb)
        have NB101_111 := am (NL BK101 hg)
        have NB111_101 := am (NG BK101 hg)
        replace BK101 := am (BB BK101 hb)
        have NB102_111 := am (NL BK102 hg)
        have NB111_102 := am (NG BK102 hg)
        replace BK102 := am (BB BK102 hb)
        clear hb hbox hg
        refine hK.out _ _ ⟨z0 _ BK101.out, z1 _ BK101.out, z2 _ BK101.out, z3 _ BK101.out, z4 _ BK101.out, z5 _ BK101.out, z0 _ BK102.out, z1 _ BK102.out, z2 _ BK102.out, z3 _ BK102.out⟩ (fun hHeld => ?_)
        clear hK K
        refine norm_ (a' := ?_) ?_ ?_
        rotate_left
        ·show Act.put _ (some 6) _ = _
         simp only [Act.put, List.setIfInBounds_toArray, List.set_cons_zero, List.set_cons_succ, i64_w, i32_w]
         rfl
        refine one_ (i := 7) (N := some 22) (tf 9 1) rfl rfl (one_of HT_.out (by kernel_rfl)) (by decide) (fun K hK => ?_)
        refine goes_ Try.func76 (by kernel_rfl) rfl #[.slice A0_1 l0_1.length c0_1, .int .i64 t108] (by rfl) rfl rfl MT ?_
        with_reducible refine (impl_act.calls _ _ l0_1 t108 t109 t110 _ ?side1 ?side2 A20.out).mono ?_
        (case side1 => exact KD HR0_1 HB)
        (case side2 => exact HC0_1.out)
        rintro e w25 ⟨rfl, hb⟩
        refine ⟨_, rfl, ?_⟩
        replace BK101 := am (BB BK101 hb)
        replace BK102 := am (BB BK102 hb)
        replace BK111 := am (BB BK111 hb)
        replace HB := am (below_step (K3 HB GE101.out GE102.out GE111.out) hb)
        (try clear hb)
        (try clear hb2)
        (try clear hk)
        (try clear hi)
        refine hK.out _ _ ⟨z0 _ BK101.out, z1 _ BK101.out, z2 _ BK101.out, z3 _ BK101.out, z4 _ BK101.out, z5 _ BK101.out, z0 _ BK102.out, z1 _ BK102.out, z2 _ BK102.out, z3 _ BK102.out⟩ (fun hHeld => ?_)
        clear hK K
        refine norm_ (a' := ?_) ?_ ?_
        rotate_left
        ·show Act.put _ (some 22) _ = _
         simp only [Act.put, List.setIfInBounds_toArray, List.set_cons_zero, List.set_cons_succ, i64_w, i32_w]
         rfl
        exact norm_ (by simp only [putAll, Act.put, List.setIfInBounds_toArray, List.set_cons_zero, List.set_cons_succ]) (hCont (gb111) _ ⟨hHeld, (KB BK101), (KB BK102), (KB BK111), GW111.out, GE111.out, NB101_111.out, NB111_101.out, NB102_111.out, NB111_102.out, (K3 HB GE101.out GE102.out GE111.out)⟩)
      ·skip
       refine box_step rfl (N := 6) rfl (cs := #[.int .i64 0, .int .i64 0]) (t := 110) BX ?_
       intro gb111 hg w23 hbox hb
       have BK111 := am (hbox)
       have GW111 := am (GH2 HB GE101.out GE102.out hg)
       have GE111 := GW111
       replace HB := am (below_step (K2 HB GE101.out GE102.out) hb)
       have NB101_111 := am (NL BK101 hg)
       have NB111_101 := am (NG BK101 hg)
       replace BK101 := am (BB BK101 hb)
       have NB102_111 := am (NL BK102 hg)
       have NB111_102 := am (NG BK102 hg)
       replace BK102 := am (BB BK102 hb)
       clear hb hbox hg
       refine hK.out _ _ ⟨z0 _ BK101.out, z1 _ BK101.out, z2 _ BK101.out, z3 _ BK101.out, z4 _ BK101.out, z5 _ BK101.out, z0 _ BK102.out, z1 _ BK102.out, z2 _ BK102.out, z3 _ BK102.out⟩ (fun hHeld => ?_)
       clear hK K
       refine norm_ (a' := ?_) ?_ ?_
       rotate_left
       ·show Act.put _ (some 6) _ = _
        simp only [Act.put, List.setIfInBounds_toArray, List.set_cons_zero, List.set_cons_succ, i64_w, i32_w]
        rfl
       refine one_ (i := 6) (N := some 21) (tr [7, 1, 1, 1]) rfl rfl (one_of HT_.out (by kernel_rfl)) (by decide) (fun K hK => ?_)
       refine goes_ Try.func77 (by kernel_rfl) rfl #[.slice A0_1 l0_1.length c0_1, .agg #[.int .i64 t105, .int .i64 t106, .int .i64 t107]] (by rfl) rfl rfl MT ?_
       with_reducible refine (impl_first.calls _ _ l0_1 t105 t106 t107 t108 _ ?side1 ?side2 A19.out).mono ?_
       (case side1 => exact KD HR0_1 HB)
       (case side2 => exact HC0_1.out)
       rintro e w24 ⟨rfl, hb⟩
       refine ⟨_, rfl, ?_⟩
       replace BK101 := am (BB BK101 hb)
       replace BK102 := am (BB BK102 hb)
       replace BK111 := am (BB BK111 hb)
       replace HB := am (below_step (K3 HB GE101.out GE102.out GE111.out) hb)
       (try clear hb)
       (try clear hb2)
       (try clear hk)
       (try clear hi)
       refine hK.out _ _ ⟨z0 _ BK101.out, z1 _ BK101.out, z2 _ BK101.out, z3 _ BK101.out, z4 _ BK101.out, z5 _ BK101.out, z0 _ BK102.out, z1 _ BK102.out, z2 _ BK102.out, z3 _ BK102.out⟩ (fun hHeld => ?_)
       clear hK K
       refine norm_ (a' := ?_) ?_ ?_
       rotate_left
       ·show Act.put _ (some 21) _ = _
        simp only [Act.put, List.setIfInBounds_toArray, List.set_cons_zero, List.set_cons_succ, i64_w, i32_w]
        rfl
       refine one_ (i := 7) (N := some 22) (tf 9 1) rfl rfl (one_of HT_.out (by kernel_rfl)) (by decide) (fun K hK => ?_)
       refine goes_ Try.func76 (by kernel_rfl) rfl #[.slice A0_1 l0_1.length c0_1, .int .i64 t108] (by rfl) rfl rfl MT ?_
       with_reducible refine (impl_act.calls _ _ l0_1 t108 t109 t110 _ ?side1 ?side2 A20.out).mono ?_
       (case side1 => exact KD HR0_1 HB)
       (case side2 => exact HC0_1.out)
       rintro e w25 ⟨rfl, hb⟩
       refine ⟨_, rfl, ?_⟩
       replace BK101 := am (BB BK101 hb)
       replace BK102 := am (BB BK102 hb)
       replace BK111 := am (BB BK111 hb)
       replace HB := am (below_step (K3 HB GE101.out GE102.out GE111.out) hb)
       (try clear hb)
       (try clear hb2)
       (try clear hk)
       (try clear hi)
       refine hK.out _ _ ⟨z0 _ BK101.out, z1 _ BK101.out, z2 _ BK101.out, z3 _ BK101.out, z4 _ BK101.out, z5 _ BK101.out, z0 _ BK102.out, z1 _ BK102.out, z2 _ BK102.out, z3 _ BK102.out⟩ (fun hHeld => ?_)
       clear hK K
       refine norm_ (a' := ?_) ?_ ?_
       rotate_left
       ·show Act.put _ (some 22) _ = _
        simp only [Act.put, List.setIfInBounds_toArray, List.set_cons_zero, List.set_cons_succ, i64_w, i32_w]
        rfl
       exact norm_ (by simp only [putAll, Act.put, List.setIfInBounds_toArray, List.set_cons_zero, List.set_cons_succ]) (hCont (gb111) _ ⟨hHeld, (KB BK101), (KB BK102), (KB BK111), GW111.out, GE111.out, NB101_111.out, NB111_101.out, NB102_111.out, NB111_102.out, (K3 HB GE101.out GE102.out GE111.out)⟩)
     ·skip
      refine box_step rfl (N := 6) rfl (cs := #[.int .i64 0, .int .i64 0]) (t := 110) BX ?_
      intro gb111 hg w22 hbox hb
      have BK111 := am (hbox)
      have GW111 := am (GH2 HB GE101.out GE102.out hg)
      have GE111 := GW111
      replace HB := am (below_step (K2 HB GE101.out GE102.out) hb)
      have NB101_111 := am (NL BK101 hg)
      have NB111_101 := am (NG BK101 hg)
      replace BK101 := am (BB BK101 hb)
      have NB102_111 := am (NL BK102 hg)
      have NB111_102 := am (NG BK102 hg)
      replace BK102 := am (BB BK102 hb)
      clear hb hbox hg
      refine hK.out _ _ ⟨z0 _ BK101.out, z1 _ BK101.out, z2 _ BK101.out, z3 _ BK101.out, z4 _ BK101.out, z5 _ BK101.out, z0 _ BK102.out, z1 _ BK102.out, z2 _ BK102.out, z3 _ BK102.out⟩ (fun hHeld => ?_)
      clear hK K
      refine norm_ (a' := ?_) ?_ ?_
      rotate_left
      ·show Act.put _ (some 6) _ = _
       simp only [Act.put, List.setIfInBounds_toArray, List.set_cons_zero, List.set_cons_succ, i64_w, i32_w]
       rfl
      refine one_ (i := 5) (N := some 20) (tr [6, 2, 1, 1]) rfl rfl (one_of HT_.out (by kernel_rfl)) (by decide) (fun K hK => ?_)
      refine goes_ Try.func78 (by kernel_rfl) rfl #[.agg #[.int .i64 a1_0, .int .i64 a1_1, .int .i64 a1_2, .string a1_3]] (by rfl) rfl rfl MT ?_
      with_reducible refine (impl_Packet_call.calls a1_0 a1_1 a1_2 a1_3 t105 t106 t107 _ A18.out).mono ?_
      rintro e w23 ⟨rfl, hb⟩
      refine ⟨_, rfl, ?_⟩
      replace BK101 := am (BB BK101 hb)
      replace BK102 := am (BB BK102 hb)
      replace BK111 := am (BB BK111 hb)
      replace HB := am (below_step (K3 HB GE101.out GE102.out GE111.out) hb)
      (try clear hb)
      (try clear hb2)
      (try clear hk)
      (try clear hi)
      refine hK.out _ _ ⟨z0 _ BK101.out, z1 _ BK101.out, z2 _ BK101.out, z3 _ BK101.out, z4 _ BK101.out, z5 _ BK101.out, z0 _ BK102.out, z1 _ BK102.out, z2 _ BK102.out, z3 _ BK102.out⟩ (fun hHeld => ?_)
      clear hK K
      refine norm_ (a' := ?_) ?_ ?_
      rotate_left
      ·show Act.put _ (some 20) _ = _
       simp only [Act.put, List.setIfInBounds_toArray, List.set_cons_zero, List.set_cons_succ, i64_w, i32_w]
       rfl
      refine one_ (i := 6) (N := some 21) (tr [7, 1, 1, 1]) rfl rfl (one_of HT_.out (by kernel_rfl)) (by decide) (fun K hK => ?_)
      refine goes_ Try.func77 (by kernel_rfl) rfl #[.slice A0_1 l0_1.length c0_1, .agg #[.int .i64 t105, .int .i64 t106, .int .i64 t107]] (by rfl) rfl rfl MT ?_
      with_reducible refine (impl_first.calls _ _ l0_1 t105 t106 t107 t108 _ ?side1 ?side2 A19.out).mono ?_
      (case side1 => exact KD HR0_1 HB)
      (case side2 => exact HC0_1.out)
      rintro e w24 ⟨rfl, hb⟩
      refine ⟨_, rfl, ?_⟩
      replace BK101 := am (BB BK101 hb)
      replace BK102 := am (BB BK102 hb)
      replace BK111 := am (BB BK111 hb)
      replace HB := am (below_step (K3 HB GE101.out GE102.out GE111.out) hb)
      (try clear hb)
      (try clear hb2)
      (try clear hk)
      (try clear hi)
      refine hK.out _ _ ⟨z0 _ BK101.out, z1 _ BK101.out, z2 _ BK101.out, z3 _ BK101.out, z4 _ BK101.out, z5 _ BK101.out, z0 _ BK102.out, z1 _ BK102.out, z2 _ BK102.out, z3 _ BK102.out⟩ (fun hHeld => ?_)
      clear hK K
      refine norm_ (a' := ?_) ?_ ?_
      rotate_left
      ·show Act.put _ (some 21) _ = _
       simp only [Act.put, List.setIfInBounds_toArray, List.set_cons_zero, List.set_cons_succ, i64_w, i32_w]
       rfl
      refine one_ (i := 7) (N := some 22) (tf 9 1) rfl rfl (one_of HT_.out (by kernel_rfl)) (by decide) (fun K hK => ?_)
      refine goes_ Try.func76 (by kernel_rfl) rfl #[.slice A0_1 l0_1.length c0_1, .int .i64 t108] (by rfl) rfl rfl MT ?_
      with_reducible refine (impl_act.calls _ _ l0_1 t108 t109 t110 _ ?side1 ?side2 A20.out).mono ?_
      (case side1 => exact KD HR0_1 HB)
      (case side2 => exact HC0_1.out)
      rintro e w25 ⟨rfl, hb⟩
      refine ⟨_, rfl, ?_⟩
      replace BK101 := am (BB BK101 hb)
      replace BK102 := am (BB BK102 hb)
      replace BK111 := am (BB BK111 hb)
      replace HB := am (below_step (K3 HB GE101.out GE102.out GE111.out) hb)
      (try clear hb)
      (try clear hb2)
      (try clear hk)
      (try clear hi)
      refine hK.out _ _ ⟨z0 _ BK101.out, z1 _ BK101.out, z2 _ BK101.out, z3 _ BK101.out, z4 _ BK101.out, z5 _ BK101.out, z0 _ BK102.out, z1 _ BK102.out, z2 _ BK102.out, z3 _ BK102.out⟩ (fun hHeld => ?_)
      clear hK K
      refine norm_ (a' := ?_) ?_ ?_
      rotate_left
      ·show Act.put _ (some 22) _ = _
       simp only [Act.put, List.setIfInBounds_toArray, List.set_cons_zero, List.set_cons_succ, i64_w, i32_w]
       rfl
      exact norm_ (by simp only [putAll, Act.put, List.setIfInBounds_toArray, List.set_cons_zero, List.set_cons_succ]) (hCont (gb111) _ ⟨hHeld, (KB BK101), (KB BK102), (KB BK111), GW111.out, GE111.out, NB101_111.out, NB111_101.out, NB102_111.out, NB111_102.out, (K3 HB GE101.out GE102.out GE111.out)⟩)
    rintro gb111 w26 ⟨hS_, h0_, h1_, h2_, h3_, h4_, h5_, h6_, h7_, h8_, h9_⟩
    replace BK101 : Aside0 (bk w26 gb101 #[.int .i64 a0_0, .slice A0_1 l0_1.length c0_1, .int .i64 a0_2, .slice A0_3 l0_3.length c0_3, .slice A0_4 l0_4.length c0_4, .slice A0_5 l0_5.length c0_5] 57) := ⟨h0_⟩
    replace BK102 : Aside0 (bk w26 gb102 #[.int .i64 a1_0, .int .i64 a1_1, .int .i64 a1_2, .string a1_3] 66) := ⟨h1_⟩
    have BK111 : Aside0 (bk w26 gb111 #[.int .i64 0, .int .i64 0] 110) := ⟨h2_⟩
    have GW111 : Aside0 (w.heap.size ≤ gb111) := ⟨h3_⟩
    have GE111 : Aside0 (w.heap.size ≤ gb111) := ⟨h4_⟩
    have NB101_111 : Aside0 (gb101 ≠ gb111) := ⟨h5_⟩
    have NB111_101 : Aside0 (gb111 ≠ gb101) := ⟨h6_⟩
    have NB102_111 : Aside0 (gb102 ≠ gb111) := ⟨h7_⟩
    have NB111_102 : Aside0 (gb111 ≠ gb102) := ⟨h8_⟩
    replace HB : Aside0 (Below w.heap.size w w26) := ⟨h9_⟩
    clear h0_ h1_ h2_ h3_ h4_ h5_ h6_ h7_ h8_ h9_
    have hHeld : ce6 w26 gb101 (.int .i64 a0_0) (.slice A0_1 l0_1.length c0_1) (.int .i64 a0_2) (.slice A0_3 l0_3.length c0_3) (.slice A0_4 l0_4.length c0_4) (.slice A0_5 l0_5.length c0_5) (de4 w26 gb102 (.int .i64 a1_0) (.int .i64 a1_1) (.int .i64 a1_2) (.string a1_3)) := hS_
    refine norm_ (a' := ?_) ?_ ?_
    rotate_left
    ·simp only [putAll, Act.put, List.setIfInBounds_toArray, List.set_cons_zero, List.set_cons_succ]
     rfl
    refine one_ (i := 9) (N := none) (tf 10 0) rfl rfl (one_of HT_.out (by kernel_rfl)) (by decide) (fun K hK => ?_)
    have hs27 : w26.cell? ⟨gb111, 0, none⟩ = some (.int .i64 0) := z0 _ BK111.out
    have hfs27 := blk_frozen BK111.out 0
    have hns27_0 := NB101_111.out
    have hns27_1 := NB102_111.out
    have hms27_0 := NB111_101.out
    have hms27_1 := NB111_102.out
    have hs28 : w26.cell? ⟨gb111, 1, none⟩ = some (.int .i64 0) := z1 _ BK111.out
    have hfs28 := blk_frozen BK111.out 1
    have hns28_0 := NB101_111.out
    have hns28_1 := NB102_111.out
    have hms28_0 := NB111_101.out
    have hms28_1 := NB111_102.out
    refine skip_ (w1 := ?_) (by rfl) rfl ?_ ?_
    rotate_left
    ·go_simp
     rfl
    refine hK.out _ _ ⟨((cell_far (p := ⟨gb111, _, none⟩) NB101_111.out _).trans (((cell_far (p := ⟨gb111, _, none⟩) NB101_111.out _).trans (hHeld.1)))), ((cell_far (p := ⟨gb111, _, none⟩) NB101_111.out _).trans (((cell_far (p := ⟨gb111, _, none⟩) NB101_111.out _).trans (hHeld.2.1)))), ((cell_far (p := ⟨gb111, _, none⟩) NB101_111.out _).trans (((cell_far (p := ⟨gb111, _, none⟩) NB101_111.out _).trans (hHeld.2.2.1)))), ((cell_far (p := ⟨gb111, _, none⟩) NB101_111.out _).trans (((cell_far (p := ⟨gb111, _, none⟩) NB101_111.out _).trans (hHeld.2.2.2.1)))), ((cell_far (p := ⟨gb111, _, none⟩) NB101_111.out _).trans (((cell_far (p := ⟨gb111, _, none⟩) NB101_111.out _).trans (hHeld.2.2.2.2.1)))), ((cell_far (p := ⟨gb111, _, none⟩) NB101_111.out _).trans (((cell_far (p := ⟨gb111, _, none⟩) NB101_111.out _).trans (hHeld.2.2.2.2.2.1)))), ((cell_far (p := ⟨gb111, _, none⟩) NB102_111.out _).trans (((cell_far (p := ⟨gb111, _, none⟩) NB102_111.out _).trans (hHeld.2.2.2.2.2.2.1)))), ((cell_far (p := ⟨gb111, _, none⟩) NB102_111.out _).trans (((cell_far (p := ⟨gb111, _, none⟩) NB102_111.out _).trans (hHeld.2.2.2.2.2.2.2.1)))), ((cell_far (p := ⟨gb111, _, none⟩) NB102_111.out _).trans (((cell_far (p := ⟨gb111, _, none⟩) NB102_111.out _).trans (hHeld.2.2.2.2.2.2.2.2.1)))), ((cell_far (p := ⟨gb111, _, none⟩) NB102_111.out _).trans (((cell_far (p := ⟨gb111, _, none⟩) NB102_111.out _).trans (hHeld.2.2.2.2.2.2.2.2.2))))⟩ (fun hHeld => ?_)
    clear hK K
    refine done_ (done_of HT_.out (by kernel_rfl)) ?_
    try go_wp2
    generalize hq_ : ((w26.setCell ⟨gb111, 0, none⟩ (.int .i64 t109)).setCell ⟨gb111, 1, none⟩ (.int .i64 t110)) = w29
    have n0_ : Aside0 (w29.heap[gb101]? = some (.cells #[.int .i64 a0_0, .slice A0_1 l0_1.length c0_1, .int .i64 a0_2, .slice A0_3 l0_3.length c0_3, .slice A0_4 l0_4.length c0_4, .slice A0_5 l0_5.length c0_5] 57 (0, 0))) := ⟨by rw [← hq_]; (with_reducible repeat (first | refine blk_drewN ?_ _ | refine blk_drew ?_ | refine blk_alloc ?_ _)); refine blk_far ?_ NB101_111.out _; (with_reducible repeat (first | refine blk_drewN ?_ _ | refine blk_drew ?_ | refine blk_alloc ?_ _)); refine blk_far ?_ NB101_111.out _; (with_reducible repeat (first | refine blk_drewN ?_ _ | refine blk_drew ?_ | refine blk_alloc ?_ _)); exact BK101.out⟩
    have n1_ : Aside0 (w29.heap[gb102]? = some (.cells #[.int .i64 a1_0, .int .i64 a1_1, .int .i64 a1_2, .string a1_3] 66 (0, 0))) := ⟨by rw [← hq_]; (with_reducible repeat (first | refine blk_drewN ?_ _ | refine blk_drew ?_ | refine blk_alloc ?_ _)); refine blk_far ?_ NB102_111.out _; (with_reducible repeat (first | refine blk_drewN ?_ _ | refine blk_drew ?_ | refine blk_alloc ?_ _)); refine blk_far ?_ NB102_111.out _; (with_reducible repeat (first | refine blk_drewN ?_ _ | refine blk_drew ?_ | refine blk_alloc ?_ _)); exact BK102.out⟩
    have n2_ : Aside0 (w29.heap[gb111]? = some (.cells #[.int .i64 t109, .int .i64 t110] 110 (0, 0))) := ⟨by rw [← hq_]; exact P2 BK111⟩
    have n3_ : Aside0 (Below w.heap.size w w29) := ⟨by rw [← hq_]; exact K3 HB GE101.out GE102.out GE111.out⟩
    clear hq_
    (try clear BK101)
    (try clear BK102)
    (try clear BK111)
    (try clear HB)
    have BK101 := n0_
    have BK102 := n1_
    have BK111 := n2_
    have HB := n3_
    clear n0_ n1_ n2_ n3_
    replace BK101 := am (blk_drew BK101.out)
    replace BK102 := am (blk_drew BK102.out)
    replace BK111 := am (blk_drew BK111.out)
    replace HB := am (below_drew1 HB.out)
    refine start_ (n := 6) (S := fun w' => de2 w' gb111 (.int .i64 t109) (.int .i64 t110)) (ds := []) (tf 0 6) (by kernel_rfl) rfl rfl ⟨z0 _ BK111.out, z1 _ BK111.out⟩ (fun hHeld => ?_)
    generalize w29.drew = w30 at BK101 BK102 BK111 HB hHeld ⊢
    refine pure_ (i := 0) (N := some 23) (v := ?_) (a' := ?_) (tf 1 5) rfl rfl (by kernel_rfl) (fun _ _ _ h => h) (Or.inl ⟨by rfl, ?_⟩) ?_ ?_; rotate_left; (· intro w'; go_simp; with_reducible rfl); rotate_left; (· simp only [Act.put, List.setIfInBounds_toArray, List.set_cons_zero, List.set_cons_succ, i64_w, i32_w]; rfl)
    refine pure_ (i := 2) (N := some 25) (v := ?_) (a' := ?_) (tr [1, 1, 1, 3]) rfl rfl (by kernel_rfl) (fun _ _ _ h => h) (Or.inl ⟨by rfl, ?_⟩) ?_ ?_; rotate_left; (· intro w'; go_simp; with_reducible rfl); rotate_left; (· simp only [Act.put, List.setIfInBounds_toArray, List.set_cons_zero, List.set_cons_succ, i64_w, i32_w]; rfl)
    refine take_ (i := 1) (N := some 24) (v := ?_) (a' := ?_) (tf 3 3) rfl rfl (by kernel_rfl) (fun _ _ _ h => h) (Or.inl ⟨by rfl, ?_⟩) hHeld ?_ ?_
    rotate_left
    ·rintro w' ⟨s0, s1⟩
     go_simp
     with_reducible rfl
    rotate_left
    ·simp only [Act.put, List.setIfInBounds_toArray, List.set_cons_zero, List.set_cons_succ, i64_w, i32_w]
     rfl
    refine pure_ (i := 4) (N := some 4) (v := ?_) (a' := ?_) (tr [3, 1, 1, 1]) rfl rfl (by kernel_rfl) (fun _ _ _ h => h) (Or.inl ⟨by rfl, ?_⟩) ?_ ?_; rotate_left; (· intro w'; go_simp; with_reducible rfl); rotate_left; (· simp only [Act.put, List.setIfInBounds_toArray, List.set_cons_zero, List.set_cons_succ, i64_w, i32_w]; rfl)
    refine take_ (i := 3) (N := some 26) (v := ?_) (a' := ?_) (tf 5 1) rfl rfl (by kernel_rfl) (fun _ _ _ h => h) (Or.inl ⟨by rfl, ?_⟩) hHeld ?_ ?_
    rotate_left
    ·rintro w' ⟨s0, s1⟩
     go_simp
     with_reducible rfl
    rotate_left
    ·simp only [Act.put, List.setIfInBounds_toArray, List.set_cons_zero, List.set_cons_succ, i64_w, i32_w]
     rfl
    refine pure_ (i := 5) (N := some 5) (v := ?_) (a' := ?_) (tf 6 0) rfl rfl (by kernel_rfl) (fun _ _ _ h => h) (Or.inl ⟨by rfl, ?_⟩) ?_ ?_; rotate_left; (· intro w'; go_simp; with_reducible rfl); rotate_left; (· simp only [Act.put, List.setIfInBounds_toArray, List.set_cons_zero, List.set_cons_succ, i64_w, i32_w]; rfl)
    refine done_ (by kernel_rfl) ?_
    try go_wp2
    go_ret2
    exact ⟨ER, K3 HB GE101.out GE102.out GE111.out⟩
def laws_FnExactGateDoes.j0 : Nat → Bool → Int → List (S145) → Int → List (S170) → List (S132) → List (S132) → Int → List (S141) → Int → List (S136) → List (S95) → List (S95) → Option (Bool)
 | 0, _, _, _, _, _, _, _, _, _, _, _, _, _ => none
 | k + 1, x45, x102000, x102001, x102002, x102003, x102004, x102005, x140000, x140001, x140002, x140003, x140004, x140005 => if x45 = true then (some false) else ((laws_toGate.f k x102000 x102001 x102002 x102003 x102004 x102005).bind fun bt146 => ((laws_eqGate.f k x140000 x140001 x140002 x140003 x140004 x140005 bt146.1 bt146.2.1 bt146.2.2.1 bt146.2.2.2.1 bt146.2.2.2.2.1 bt146.2.2.2.2.2).bind fun t160 => (if t160 = true then (some true) else (some false))))
def laws_FnExactGateDoes.f (k : Nat) (a0_0 : Int) (l0_1 : List (S145)) (a0_2 : Int) (l0_3 : List (S170)) (l0_4 : List (S132)) (l0_5 : List (S132)) (a1_0 : Int) (a1_1 : Int) (a1_2 : Int) (a1_3 : ByteArray) : Option (Bool) := (laws_szGate.f k a0_0 l0_1 a0_2 l0_3 l0_4 l0_5 1048576).bind fun t103 => (if t103 < 0 then (some true) else ((laws_szPacket.f a1_0 a1_1 a1_2 a1_3 t103).bind fun t104 => (if t104 < 0 then (some true) else ((laws_toGate.f k a0_0 l0_1 a0_2 l0_3 l0_4 l0_5).bind fun bt105 => ((laws_toPacket.f a1_0 a1_1 a1_2 a1_3).bind fun bt119 => ((spec_GateDoes.f k bt105.1 bt105.2.1 bt105.2.2.1 bt105.2.2.2.1 bt105.2.2.2.2.1 bt105.2.2.2.2.2 bt119.1 bt119.2.1 bt119.2.2.1 bt119.2.2.2).bind fun bt123 => ((laws_toGate.f k a0_0 l0_1 a0_2 l0_3 l0_4 l0_5).bind fun bt125 => ((laws_toPacket.f a1_0 a1_1 a1_2 a1_3).bind fun bt140 => ((impl_GateDoes.f k bt125.1 bt125.2.1 bt125.2.2.1 bt125.2.2.2.1 bt125.2.2.2.2.1 bt125.2.2.2.2.2 bt140.1 bt140.2.1 bt140.2.2.1 bt140.2.2.2).bind fun bt144 => (if bt144.1 = bt123.1 then (laws_FnExactGateDoes.j0 k (bt144.2 != bt123.2) a0_0 l0_1 a0_2 l0_3 l0_4 l0_5 bt125.1 bt125.2.1 bt125.2.2.1 bt125.2.2.2.1 bt125.2.2.2.2.1 bt125.2.2.2.2.2) else (laws_FnExactGateDoes.j0 k true a0_0 l0_1 a0_2 l0_3 l0_4 l0_5 bt125.1 bt125.2.1 bt125.2.2.1 bt125.2.2.2.1 bt125.2.2.2.2.1 bt125.2.2.2.2.2)))))))))))
def laws_FnExactGateDoes.T8 : Bool × List (List Nat × List Nat) := (true, [([], []), ([0], [0]), ([], []), ([2, 1], [2]), ([1, 3, 3], [1, 3]), ([4], [4]), ([5], [5]), ([5], [5]), ([6, 4, 0, 1, 2, 3, 4, 5, 6], [6]), ([7, 8, 0, 1, 2, 3, 4, 5, 6, 7, 8], [7])])
def laws_FnExactGateDoes.B8 : List Nat := [0, 1, 0, 7, 15, 31, 63, 63, 127, 511]
theorem laws_FnExactGateDoes.tab8 : rtab .any (opsOf Try.f8 8) = laws_FnExactGateDoes.T8 := by kernel_rfl
theorem laws_FnExactGateDoes.bits8 : waitsOk laws_FnExactGateDoes.T8.2 laws_FnExactGateDoes.B8 = true := by kernel_rfl
def laws_FnExactGateDoes.T10 : Bool × List (List Nat × List Nat) := (true, [([], []), ([], []), ([1], [1]), ([0, 2, 2], [0, 2]), ([3], [3]), ([4], [4]), ([4], [4]), ([5, 3, 0, 1, 2, 3, 4, 5], [5]), ([6, 7, 0, 1, 2, 3, 4, 5, 6, 7], [6])])
def laws_FnExactGateDoes.B10 : List Nat := [0, 0, 2, 7, 15, 31, 31, 63, 255]
theorem laws_FnExactGateDoes.tab10 : rtab .any (opsOf Try.f8 10) = laws_FnExactGateDoes.T10 := by kernel_rfl
theorem laws_FnExactGateDoes.bits10 : waitsOk laws_FnExactGateDoes.T10.2 laws_FnExactGateDoes.B10 = true := by kernel_rfl
set_option maxHeartbeats 8000000 in
set_option maxRecDepth 100000 in
theorem laws_FnExactGateDoes.calls (k : Nat) (a0_0 : Int) (A0_1 : Option Addr) (c0_1 : Nat) (l0_1 : List (S145)) (a0_2 : Int) (A0_3 : Option Addr) (c0_3 : Nat) (l0_3 : List (S170)) (A0_4 : Option Addr) (c0_4 : Nat) (l0_4 : List (S132)) (A0_5 : Option Addr) (c0_5 : Nat) (l0_5 : List (S132)) (a1_0 : Int) (a1_1 : Int) (a1_2 : Int) (a1_3 : ByteArray) (r : Bool) (w : World) (hr0_1 : Kd.C k145 w A0_1 l0_1.length l0_1) (hc0_1 : l0_1.length ≤ c0_1) (hr0_3 : Kd.C k170 w A0_3 l0_3.length l0_3) (hc0_3 : l0_3.length ≤ c0_3) (hr0_4 : Kd.C k132 w A0_4 l0_4.length l0_4) (hc0_4 : l0_4.length ≤ c0_4) (hr0_5 : Kd.C k132 w A0_5 l0_5.length l0_5) (hc0_5 : l0_5.length ≤ c0_5) (hr0_ : r = true) (h : laws_FnExactGateDoes.f k a0_0 l0_1 a0_2 l0_3 l0_4 l0_5 a1_0 a1_1 a1_2 a1_3 = some r) :
  Calls Try.prog 8 #[.agg #[.int .i64 a0_0, .slice A0_1 l0_1.length c0_1, .int .i64 a0_2, .slice A0_3 l0_3.length c0_3, .slice A0_4 l0_4.length c0_4, .slice A0_5 l0_5.length c0_5], .agg #[.int .i64 a1_0, .int .i64 a1_1, .int .i64 a1_2, .string a1_3]] w fun e w' => e = .returned (.bool r) ∧ Below w.heap.size w w' := by
 have hu48 := Try.underlying48
 have hu62 := Try.underlying62
 have hu57 := Try.underlying57
 have HR0_1 := Aside0.mk hr0_1
 have HC0_1 := Aside0.mk hc0_1
 clear hr0_1 hc0_1
 have HR0_3 := Aside0.mk hr0_3
 have HC0_3 := Aside0.mk hc0_3
 clear hr0_3 hc0_3
 have HR0_4 := Aside0.mk hr0_4
 have HC0_4 := Aside0.mk hc0_4
 clear hr0_4 hc0_4
 have HR0_5 := Aside0.mk hr0_5
 have HC0_5 := Aside0.mk hc0_5
 clear hr0_5 hc0_5
 have HB := am (Below.refl w.heap.size w)
 have H : ((laws_szGate.f k a0_0 l0_1 a0_2 l0_3 l0_4 l0_5 1048576).bind fun t103 => (if t103 < 0 then (some true) else ((laws_szPacket.f a1_0 a1_1 a1_2 a1_3 t103).bind fun t104 => (if t104 < 0 then (some true) else ((laws_toGate.f k a0_0 l0_1 a0_2 l0_3 l0_4 l0_5).bind fun bt105 => ((laws_toPacket.f a1_0 a1_1 a1_2 a1_3).bind fun bt119 => ((spec_GateDoes.f k bt105.1 bt105.2.1 bt105.2.2.1 bt105.2.2.2.1 bt105.2.2.2.2.1 bt105.2.2.2.2.2 bt119.1 bt119.2.1 bt119.2.2.1 bt119.2.2.2).bind fun bt123 => ((laws_toGate.f k a0_0 l0_1 a0_2 l0_3 l0_4 l0_5).bind fun bt125 => ((laws_toPacket.f a1_0 a1_1 a1_2 a1_3).bind fun bt140 => ((impl_GateDoes.f k bt125.1 bt125.2.1 bt125.2.2.1 bt125.2.2.2.1 bt125.2.2.2.2.1 bt125.2.2.2.2.2 bt140.1 bt140.2.1 bt140.2.2.1 bt140.2.2.2).bind fun bt144 => (if bt144.1 = bt123.1 then (laws_FnExactGateDoes.j0 k (bt144.2 != bt123.2) a0_0 l0_1 a0_2 l0_3 l0_4 l0_5 bt125.1 bt125.2.1 bt125.2.2.1 bt125.2.2.2.1 bt125.2.2.2.2.1 bt125.2.2.2.2.2) else (laws_FnExactGateDoes.j0 k true a0_0 l0_1 a0_2 l0_3 l0_4 l0_5 bt125.1 bt125.2.1 bt125.2.2.1 bt125.2.2.2.1 bt125.2.2.2.2.1 bt125.2.2.2.2.2)))))))))))) = some r := h
 clear h
 have HR_ := Aside0.mk hr0_
 clear hr0_
 replace H := Option.bind_eq_some_iff.mp H
 obtain ⟨t103, A30, H⟩ := H
 replace H : (if t103 < 0 then (some true) else ((laws_szPacket.f a1_0 a1_1 a1_2 a1_3 t103).bind fun t104 => (if t104 < 0 then (some true) else ((laws_toGate.f k a0_0 l0_1 a0_2 l0_3 l0_4 l0_5).bind fun bt105 => ((laws_toPacket.f a1_0 a1_1 a1_2 a1_3).bind fun bt119 => ((spec_GateDoes.f k bt105.1 bt105.2.1 bt105.2.2.1 bt105.2.2.2.1 bt105.2.2.2.2.1 bt105.2.2.2.2.2 bt119.1 bt119.2.1 bt119.2.2.1 bt119.2.2.2).bind fun bt123 => ((laws_toGate.f k a0_0 l0_1 a0_2 l0_3 l0_4 l0_5).bind fun bt125 => ((laws_toPacket.f a1_0 a1_1 a1_2 a1_3).bind fun bt140 => ((impl_GateDoes.f k bt125.1 bt125.2.1 bt125.2.2.1 bt125.2.2.2.1 bt125.2.2.2.2.1 bt125.2.2.2.2.2 bt140.1 bt140.2.1 bt140.2.2.1 bt140.2.2.2).bind fun bt144 => (if bt144.1 = bt123.1 then (laws_FnExactGateDoes.j0 k (bt144.2 != bt123.2) a0_0 l0_1 a0_2 l0_3 l0_4 l0_5 bt125.1 bt125.2.1 bt125.2.2.1 bt125.2.2.2.1 bt125.2.2.2.2.1 bt125.2.2.2.2.2) else (laws_FnExactGateDoes.j0 k true a0_0 l0_1 a0_2 l0_3 l0_4 l0_5 bt125.1 bt125.2.1 bt125.2.2.1 bt125.2.2.2.1 bt125.2.2.2.2.1 bt125.2.2.2.2.2))))))))))) = some r := H
 have A3 := Aside0.mk A30
 clear A30
 by_cases c4 : t103 < 0
 ·rw [if_pos c4] at H
  have c4b0 : decide (t103 < 0) = true := decide_eq_true c4
  clear c4
  obtain rfl := Option.some.inj H
  go_enter Try.func8, Try.ntmps8
  go_wp2_with (first | ((with_reducible refine gate_dst (N := 2) rfl ?_); refine box_event rfl (N := 2) rfl (cs := #[.int .i64 a0_0, .slice A0_1 l0_1.length c0_1, .int .i64 a0_2, .slice A0_3 l0_3.length c0_3, .slice A0_4 l0_4.length c0_4, .slice A0_5 l0_5.length c0_5]) (t := 48) BX ?_; intro gb101 hg w5 hbox hb; have BK101 := am (hbox); have GW101 := am (GH HB hg); have GE101 := GW101; replace HB := am (below_step (KL HB) hb); clear hb hbox hg) | ((with_reducible refine gate_dst (N := 3) rfl ?_); refine box_event rfl (N := 3) rfl (cs := #[.int .i64 a1_0, .int .i64 a1_1, .int .i64 a1_2, .string a1_3]) (t := 62) BX ?_; intro gb102 hg w6 hbox hb; have BK102 := am (hbox); have GW102 := am (GH1 HB GE101.out hg); have GE102 := GW102; replace HB := am (below_step (K1 HB GE101.out) hb); have NB101_102 := am (NL BK101 hg); have NB102_101 := am (NG BK101 hg); replace BK101 := am (BB BK101 hb); clear hb hbox hg; have hnb7 := NB101_102.out; have hnc7 := NB102_101.out; obtain ⟨hcz8_0, hcz8_1, hcz8_2, hcz8_3, hcz8_4, hcz8_5, hfz8_0⟩ := y6 w6 BK101.out) | ((with_reducible refine gate_callee (f := 29) rfl ?_); refine goesL_ (some 13) rfl rfl Try.func29 (by kernel_rfl) rfl #[.agg #[.int .i64 a0_0, .slice A0_1 l0_1.length c0_1, .int .i64 a0_2, .slice A0_3 l0_3.length c0_3, .slice A0_4 l0_4.length c0_4, .slice A0_5 l0_5.length c0_5], .int .i64 1048576] rfl MT ?_; (with_reducible refine (laws_szGate.calls k a0_0 _ _ l0_1 a0_2 _ _ l0_3 _ _ l0_4 _ _ l0_5 1048576 t103 _ ?side1 ?side2 ?side3 ?side4 ?side5 ?side6 ?side7 ?side8 A3.out).mono ?_); (case side1 => exact KD HR0_1 HB); (case side2 => exact HC0_1.out); (case side3 => exact KD HR0_3 HB); (case side4 => exact HC0_3.out); (case side5 => exact KD HR0_4 HB); (case side6 => exact HC0_4.out); (case side7 => exact KD HR0_5 HB); (case side8 => exact HC0_5.out); rintro e w9 ⟨rfl, hb⟩; refine ⟨_, rfl, ?_⟩; replace BK101 := am (BB BK101 hb); replace BK102 := am (BB BK102 hb); replace HB := am (below_step (K2 HB GE101.out GE102.out) hb); (try clear hb)))
  go_ret
  exact ⟨ER, K2 HB GE101.out GE102.out⟩
 ·rw [if_neg c4] at H
  have c4b0 : decide (t103 < 0) = false := decide_eq_false c4
  clear c4
  replace H := Option.bind_eq_some_iff.mp H
  obtain ⟨t104, A100, H⟩ := H
  replace H : (if t104 < 0 then (some true) else ((laws_toGate.f k a0_0 l0_1 a0_2 l0_3 l0_4 l0_5).bind fun bt105 => ((laws_toPacket.f a1_0 a1_1 a1_2 a1_3).bind fun bt119 => ((spec_GateDoes.f k bt105.1 bt105.2.1 bt105.2.2.1 bt105.2.2.2.1 bt105.2.2.2.2.1 bt105.2.2.2.2.2 bt119.1 bt119.2.1 bt119.2.2.1 bt119.2.2.2).bind fun bt123 => ((laws_toGate.f k a0_0 l0_1 a0_2 l0_3 l0_4 l0_5).bind fun bt125 => ((laws_toPacket.f a1_0 a1_1 a1_2 a1_3).bind fun bt140 => ((impl_GateDoes.f k bt125.1 bt125.2.1 bt125.2.2.1 bt125.2.2.2.1 bt125.2.2.2.2.1 bt125.2.2.2.2.2 bt140.1 bt140.2.1 bt140.2.2.1 bt140.2.2.2).bind fun bt144 => (if bt144.1 = bt123.1 then (laws_FnExactGateDoes.j0 k (bt144.2 != bt123.2) a0_0 l0_1 a0_2 l0_3 l0_4 l0_5 bt125.1 bt125.2.1 bt125.2.2.1 bt125.2.2.2.1 bt125.2.2.2.2.1 bt125.2.2.2.2.2) else (laws_FnExactGateDoes.j0 k true a0_0 l0_1 a0_2 l0_3 l0_4 l0_5 bt125.1 bt125.2.1 bt125.2.2.1 bt125.2.2.2.1 bt125.2.2.2.2.1 bt125.2.2.2.2.2))))))))) = some r := H
  have A10 := Aside0.mk A100
  clear A100
  by_cases c11 : t104 < 0
  ·rw [if_pos c11] at H
   have c11b0 : decide (t104 < 0) = true := decide_eq_true c11
   clear c11
   obtain rfl := Option.some.inj H
   go_enter Try.func8, Try.ntmps8
   go_wp2_with (first | ((with_reducible refine gate_dst (N := 2) rfl ?_); refine box_event rfl (N := 2) rfl (cs := #[.int .i64 a0_0, .slice A0_1 l0_1.length c0_1, .int .i64 a0_2, .slice A0_3 l0_3.length c0_3, .slice A0_4 l0_4.length c0_4, .slice A0_5 l0_5.length c0_5]) (t := 48) BX ?_; intro gb101 hg w12 hbox hb; have BK101 := am (hbox); have GW101 := am (GH HB hg); have GE101 := GW101; replace HB := am (below_step (KL HB) hb); clear hb hbox hg) | ((with_reducible refine gate_dst (N := 3) rfl ?_); refine box_event rfl (N := 3) rfl (cs := #[.int .i64 a1_0, .int .i64 a1_1, .int .i64 a1_2, .string a1_3]) (t := 62) BX ?_; intro gb102 hg w13 hbox hb; have BK102 := am (hbox); have GW102 := am (GH1 HB GE101.out hg); have GE102 := GW102; replace HB := am (below_step (K1 HB GE101.out) hb); have NB101_102 := am (NL BK101 hg); have NB102_101 := am (NG BK101 hg); replace BK101 := am (BB BK101 hb); clear hb hbox hg; have hnb14 := NB101_102.out; have hnc14 := NB102_101.out; obtain ⟨hcz15_0, hcz15_1, hcz15_2, hcz15_3, hcz15_4, hcz15_5, hfz15_0⟩ := y6 w13 BK101.out) | ((with_reducible refine gate_callee (f := 29) rfl ?_); refine goesL_ (some 13) rfl rfl Try.func29 (by kernel_rfl) rfl #[.agg #[.int .i64 a0_0, .slice A0_1 l0_1.length c0_1, .int .i64 a0_2, .slice A0_3 l0_3.length c0_3, .slice A0_4 l0_4.length c0_4, .slice A0_5 l0_5.length c0_5], .int .i64 1048576] rfl MT ?_; (with_reducible refine (laws_szGate.calls k a0_0 _ _ l0_1 a0_2 _ _ l0_3 _ _ l0_4 _ _ l0_5 1048576 t103 _ ?side1 ?side2 ?side3 ?side4 ?side5 ?side6 ?side7 ?side8 A3.out).mono ?_); (case side1 => exact KD HR0_1 HB); (case side2 => exact HC0_1.out); (case side3 => exact KD HR0_3 HB); (case side4 => exact HC0_3.out); (case side5 => exact KD HR0_4 HB); (case side6 => exact HC0_4.out); (case side7 => exact KD HR0_5 HB); (case side8 => exact HC0_5.out); rintro e w16 ⟨rfl, hb⟩; refine ⟨_, rfl, ?_⟩; replace BK101 := am (BB BK101 hb); replace BK102 := am (BB BK102 hb); replace HB := am (below_step (K2 HB GE101.out GE102.out) hb); (try clear hb); obtain ⟨hcz17_0, hcz17_1, hcz17_2, hcz17_3, hfz17_0⟩ := y4 w16 BK102.out) | ((with_reducible refine gate_callee (f := 34) rfl ?_); refine goesL_ (some 18) rfl rfl Try.func34 (by kernel_rfl) rfl #[.agg #[.int .i64 a1_0, .int .i64 a1_1, .int .i64 a1_2, .string a1_3], .int .i64 t103] rfl MT ?_; (with_reducible refine (laws_szPacket.calls a1_0 a1_1 a1_2 a1_3 t103 t104 _ A10.out).mono ?_); rintro e w18 ⟨rfl, hb⟩; refine ⟨_, rfl, ?_⟩; replace BK101 := am (BB BK101 hb); replace BK102 := am (BB BK102 hb); replace HB := am (below_step (K2 HB GE101.out GE102.out) hb); (try clear hb)))
   go_ret
   exact ⟨ER, K2 HB GE101.out GE102.out⟩
  ·rw [if_neg c11] at H
   have c11b0 : decide (t104 < 0) = false := decide_eq_false c11
   clear c11
   replace H := Option.bind_eq_some_iff.mp H
   obtain ⟨⟨t105, t106, t109, t110, t113, t116⟩, A190, H⟩ := H
   replace H : ((laws_toPacket.f a1_0 a1_1 a1_2 a1_3).bind fun bt119 => ((spec_GateDoes.f k t105 t106 t109 t110 t113 t116 bt119.1 bt119.2.1 bt119.2.2.1 bt119.2.2.2).bind fun bt123 => ((laws_toGate.f k a0_0 l0_1 a0_2 l0_3 l0_4 l0_5).bind fun bt125 => ((laws_toPacket.f a1_0 a1_1 a1_2 a1_3).bind fun bt140 => ((impl_GateDoes.f k bt125.1 bt125.2.1 bt125.2.2.1 bt125.2.2.2.1 bt125.2.2.2.2.1 bt125.2.2.2.2.2 bt140.1 bt140.2.1 bt140.2.2.1 bt140.2.2.2).bind fun bt144 => (if bt144.1 = bt123.1 then (laws_FnExactGateDoes.j0 k (bt144.2 != bt123.2) a0_0 l0_1 a0_2 l0_3 l0_4 l0_5 bt125.1 bt125.2.1 bt125.2.2.1 bt125.2.2.2.1 bt125.2.2.2.2.1 bt125.2.2.2.2.2) else (laws_FnExactGateDoes.j0 k true a0_0 l0_1 a0_2 l0_3 l0_4 l0_5 bt125.1 bt125.2.1 bt125.2.2.1 bt125.2.2.2.1 bt125.2.2.2.2.1 bt125.2.2.2.2.2))))))) = some r := H
   have A19 := Aside0.mk A190
   clear A190
   replace H := Option.bind_eq_some_iff.mp H
   obtain ⟨⟨t119, t120, t121, t122⟩, A200, H⟩ := H
   replace H : ((spec_GateDoes.f k t105 t106 t109 t110 t113 t116 t119 t120 t121 t122).bind fun bt123 => ((laws_toGate.f k a0_0 l0_1 a0_2 l0_3 l0_4 l0_5).bind fun bt125 => ((laws_toPacket.f a1_0 a1_1 a1_2 a1_3).bind fun bt140 => ((impl_GateDoes.f k bt125.1 bt125.2.1 bt125.2.2.1 bt125.2.2.2.1 bt125.2.2.2.2.1 bt125.2.2.2.2.2 bt140.1 bt140.2.1 bt140.2.2.1 bt140.2.2.2).bind fun bt144 => (if bt144.1 = bt123.1 then (laws_FnExactGateDoes.j0 k (bt144.2 != bt123.2) a0_0 l0_1 a0_2 l0_3 l0_4 l0_5 bt125.1 bt125.2.1 bt125.2.2.1 bt125.2.2.2.1 bt125.2.2.2.2.1 bt125.2.2.2.2.2) else (laws_FnExactGateDoes.j0 k true a0_0 l0_1 a0_2 l0_3 l0_4 l0_5 bt125.1 bt125.2.1 bt125.2.2.1 bt125.2.2.2.1 bt125.2.2.2.2.1 bt125.2.2.2.2.2)))))) = some r := H
   have A20 := Aside0.mk A200
   clear A200
   replace H := Option.bind_eq_some_iff.mp H
   obtain ⟨⟨t123, t124⟩, A210, H⟩ := H
   replace H : ((laws_toGate.f k a0_0 l0_1 a0_2 l0_3 l0_4 l0_5).bind fun bt125 => ((laws_toPacket.f a1_0 a1_1 a1_2 a1_3).bind fun bt140 => ((impl_GateDoes.f k bt125.1 bt125.2.1 bt125.2.2.1 bt125.2.2.2.1 bt125.2.2.2.2.1 bt125.2.2.2.2.2 bt140.1 bt140.2.1 bt140.2.2.1 bt140.2.2.2).bind fun bt144 => (if bt144.1 = t123 then (laws_FnExactGateDoes.j0 k (bt144.2 != t124) a0_0 l0_1 a0_2 l0_3 l0_4 l0_5 bt125.1 bt125.2.1 bt125.2.2.1 bt125.2.2.2.1 bt125.2.2.2.2.1 bt125.2.2.2.2.2) else (laws_FnExactGateDoes.j0 k true a0_0 l0_1 a0_2 l0_3 l0_4 l0_5 bt125.1 bt125.2.1 bt125.2.2.1 bt125.2.2.2.1 bt125.2.2.2.2.1 bt125.2.2.2.2.2))))) = some r := H
   have A21 := Aside0.mk A210
   clear A210
   replace H := Option.bind_eq_some_iff.mp H
   obtain ⟨⟨t125, t126, t129, t130, t133, t136⟩, A220, H⟩ := H
   replace H : ((laws_toPacket.f a1_0 a1_1 a1_2 a1_3).bind fun bt140 => ((impl_GateDoes.f k t125 t126 t129 t130 t133 t136 bt140.1 bt140.2.1 bt140.2.2.1 bt140.2.2.2).bind fun bt144 => (if bt144.1 = t123 then (laws_FnExactGateDoes.j0 k (bt144.2 != t124) a0_0 l0_1 a0_2 l0_3 l0_4 l0_5 t125 t126 t129 t130 t133 t136) else (laws_FnExactGateDoes.j0 k true a0_0 l0_1 a0_2 l0_3 l0_4 l0_5 t125 t126 t129 t130 t133 t136)))) = some r := H
   have A22 := Aside0.mk A220
   clear A220
   replace H := Option.bind_eq_some_iff.mp H
   obtain ⟨⟨t140, t141, t142, t143⟩, A230, H⟩ := H
   replace H : ((impl_GateDoes.f k t125 t126 t129 t130 t133 t136 t140 t141 t142 t143).bind fun bt144 => (if bt144.1 = t123 then (laws_FnExactGateDoes.j0 k (bt144.2 != t124) a0_0 l0_1 a0_2 l0_3 l0_4 l0_5 t125 t126 t129 t130 t133 t136) else (laws_FnExactGateDoes.j0 k true a0_0 l0_1 a0_2 l0_3 l0_4 l0_5 t125 t126 t129 t130 t133 t136))) = some r := H
   have A23 := Aside0.mk A230
   clear A230
   replace H := Option.bind_eq_some_iff.mp H
   obtain ⟨⟨t144, t145⟩, A240, H⟩ := H
   replace H : (if t144 = t123 then (laws_FnExactGateDoes.j0 k (t145 != t124) a0_0 l0_1 a0_2 l0_3 l0_4 l0_5 t125 t126 t129 t130 t133 t136) else (laws_FnExactGateDoes.j0 k true a0_0 l0_1 a0_2 l0_3 l0_4 l0_5 t125 t126 t129 t130 t133 t136)) = some r := H
   have A24 := Aside0.mk A240
   clear A240
   have HC25 := Aside0.mk H
   clear H
   go_enter Try.func8, Try.ntmps8
   try go_wp2_with (first | ((with_reducible refine gate_dst (N := 2) rfl ?_); refine box_event rfl (N := 2) rfl (cs := #[.int .i64 a0_0, .slice A0_1 l0_1.length c0_1, .int .i64 a0_2, .slice A0_3 l0_3.length c0_3, .slice A0_4 l0_4.length c0_4, .slice A0_5 l0_5.length c0_5]) (t := 48) BX ?_; intro gb101 hg w26 hbox hb; have BK101 := am (hbox); have GW101 := am (GH HB hg); have GE101 := GW101; replace HB := am (below_step (KL HB) hb); clear hb hbox hg) | ((with_reducible refine gate_dst (N := 3) rfl ?_); refine box_event rfl (N := 3) rfl (cs := #[.int .i64 a1_0, .int .i64 a1_1, .int .i64 a1_2, .string a1_3]) (t := 62) BX ?_; intro gb102 hg w27 hbox hb; have BK102 := am (hbox); have GW102 := am (GH1 HB GE101.out hg); have GE102 := GW102; replace HB := am (below_step (K1 HB GE101.out) hb); have NB101_102 := am (NL BK101 hg); have NB102_101 := am (NG BK101 hg); replace BK101 := am (BB BK101 hb); clear hb hbox hg; have hnb28 := NB101_102.out; have hnc28 := NB102_101.out; obtain ⟨hcz29_0, hcz29_1, hcz29_2, hcz29_3, hcz29_4, hcz29_5, hfz29_0⟩ := y6 w27 BK101.out) | ((with_reducible refine gate_callee (f := 29) rfl ?_); refine goesL_ (some 13) rfl rfl Try.func29 (by kernel_rfl) rfl #[.agg #[.int .i64 a0_0, .slice A0_1 l0_1.length c0_1, .int .i64 a0_2, .slice A0_3 l0_3.length c0_3, .slice A0_4 l0_4.length c0_4, .slice A0_5 l0_5.length c0_5], .int .i64 1048576] rfl MT ?_; (with_reducible refine (laws_szGate.calls k a0_0 _ _ l0_1 a0_2 _ _ l0_3 _ _ l0_4 _ _ l0_5 1048576 t103 _ ?side1 ?side2 ?side3 ?side4 ?side5 ?side6 ?side7 ?side8 A3.out).mono ?_); (case side1 => exact KD HR0_1 HB); (case side2 => exact HC0_1.out); (case side3 => exact KD HR0_3 HB); (case side4 => exact HC0_3.out); (case side5 => exact KD HR0_4 HB); (case side6 => exact HC0_4.out); (case side7 => exact KD HR0_5 HB); (case side8 => exact HC0_5.out); rintro e w30 ⟨rfl, hb⟩; refine ⟨_, rfl, ?_⟩; replace BK101 := am (BB BK101 hb); replace BK102 := am (BB BK102 hb); replace HB := am (below_step (K2 HB GE101.out GE102.out) hb); (try clear hb); obtain ⟨hcz31_0, hcz31_1, hcz31_2, hcz31_3, hfz31_0⟩ := y4 w30 BK102.out) | ((with_reducible refine gate_callee (f := 34) rfl ?_); refine goesL_ (some 18) rfl rfl Try.func34 (by kernel_rfl) rfl #[.agg #[.int .i64 a1_0, .int .i64 a1_1, .int .i64 a1_2, .string a1_3], .int .i64 t103] rfl MT ?_; (with_reducible refine (laws_szPacket.calls a1_0 a1_1 a1_2 a1_3 t103 t104 _ A10.out).mono ?_); rintro e w32 ⟨rfl, hb⟩; refine ⟨_, rfl, ?_⟩; replace BK101 := am (BB BK101 hb); replace BK102 := am (BB BK102 hb); replace HB := am (below_step (K2 HB GE101.out GE102.out) hb); (try clear hb)))
   replace BK101 := am (blk_drew BK101.out)
   replace BK102 := am (blk_drew BK102.out)
   replace HB := am (below_drew1 HB.out)
   refine start_ (n := 10) (S := fun w' => ce6 w' gb101 (.int .i64 a0_0) (.slice A0_1 l0_1.length c0_1) (.int .i64 a0_2) (.slice A0_3 l0_3.length c0_3) (.slice A0_4 l0_4.length c0_4) (.slice A0_5 l0_5.length c0_5) (de4 w' gb102 (.int .i64 a1_0) (.int .i64 a1_1) (.int .i64 a1_2) (.string a1_3))) (ds := []) (tf 0 10) (by kernel_rfl) rfl rfl ⟨z0 _ BK101.out, z1 _ BK101.out, z2 _ BK101.out, z3 _ BK101.out, z4 _ BK101.out, z5 _ BK101.out, z0 _ BK102.out, z1 _ BK102.out, z2 _ BK102.out, z3 _ BK102.out⟩ (fun hHeld => ?_); refine with_tabW laws_FnExactGateDoes.tab8 laws_FnExactGateDoes.bits8 (fun HT_ HW_ => ?_)
   generalize w32.drew = w33 at BK101 BK102 HB hHeld ⊢
   refine tk 0 (some 22) (tf 1 9) (take_ofW HT_.out HW_.out (by kernel_rfl)) hHeld ?_
   refine tk 2 (some 24) (tr [1, 1, 1, 7]) (take_ofW HT_.out HW_.out (by kernel_rfl)) hHeld ?_
   refine one_ (i := 1) (N := some 23) (tf 3 7) rfl rfl (one_of HT_.out (by kernel_rfl)) (by decide) (fun K hK => ?_)
   refine goes_ Try.func31 (by kernel_rfl) rfl #[.agg #[.int .i64 a0_0, .slice A0_1 l0_1.length c0_1, .int .i64 a0_2, .slice A0_3 l0_3.length c0_3, .slice A0_4 l0_4.length c0_4, .slice A0_5 l0_5.length c0_5]] (by rfl) rfl rfl MT ?_
   with_reducible refine (laws_toGate.calls k a0_0 _ _ l0_1 a0_2 _ _ l0_3 _ _ l0_4 _ _ l0_5 t105 t106 t109 t110 t113 t116 _ ?side1 ?side2 ?side3 ?side4 ?side5 ?side6 ?side7 ?side8 A19.out).mono ?_
   (case side1 => exact KD HR0_1 HB)
   (case side2 => exact HC0_1.out)
   (case side3 => exact KD HR0_3 HB)
   (case side4 => exact HC0_3.out)
   (case side5 => exact KD HR0_4 HB)
   (case side6 => exact HC0_4.out)
   (case side7 => exact KD HR0_5 HB)
   (case side8 => exact HC0_5.out)
   rintro e w34 ⟨v107, v111, v114, v117, rfl, ho0, ho1, ho2, ho3, hb⟩
   refine ⟨_, rfl, ?_⟩
   have HO108 := am (Kd.R_lower ho0 (below_size (K2 HB GE101.out GE102.out)))
   have HO112 := am (Kd.R_lower ho1 (below_size (K2 HB GE101.out GE102.out)))
   have HO115 := am (Kd.S_lower ho2 (below_size (K2 HB GE101.out GE102.out)))
   have HO118 := am (Kd.S_lower ho3 (below_size (K2 HB GE101.out GE102.out)))
   replace BK101 := am (BB BK101 hb)
   replace BK102 := am (BB BK102 hb)
   replace HB := am (below_step (K2 HB GE101.out GE102.out) hb)
   (try clear hb)
   (try clear hb2)
   (try clear hk)
   (try clear hi)
   (try clear ho0)
   (try clear ho1)
   (try clear ho2)
   (try clear ho3)
   refine hK.out _ _ ⟨z0 _ BK101.out, z1 _ BK101.out, z2 _ BK101.out, z3 _ BK101.out, z4 _ BK101.out, z5 _ BK101.out, z0 _ BK102.out, z1 _ BK102.out, z2 _ BK102.out, z3 _ BK102.out⟩ (fun hHeld => ?_)
   clear hK K
   refine norm_ (a' := ?_) ?_ ?_
   rotate_left
   ·show Act.put _ (some 23) _ = _
    simp only [Act.put, List.setIfInBounds_toArray, List.set_cons_zero, List.set_cons_succ, i64_w, i32_w]
    rfl
   refine one_ (i := 3) (N := some 25) (tf 4 6) rfl rfl (one_of HT_.out (by kernel_rfl)) (by decide) (fun K hK => ?_)
   refine goes_ Try.func36 (by kernel_rfl) rfl #[.agg #[.int .i64 a1_0, .int .i64 a1_1, .int .i64 a1_2, .string a1_3]] (by rfl) rfl rfl MT ?_
   with_reducible refine (laws_toPacket.calls a1_0 a1_1 a1_2 a1_3 t119 t120 t121 t122 _ A20.out).mono ?_
   rintro e w35 ⟨rfl, hb⟩
   refine ⟨_, rfl, ?_⟩
   replace HO108 := am (Kd.R_below (KR HO108) hb)
   replace HO112 := am (Kd.R_below (KR HO112) hb)
   replace HO115 := am (Kd.S_below (by (with_reducible repeat (first | apply Kd.S_alloc | apply Kd.S_drewN | apply Kd.S_drew)); exact HO115.out) hb)
   replace HO118 := am (Kd.S_below (by (with_reducible repeat (first | apply Kd.S_alloc | apply Kd.S_drewN | apply Kd.S_drew)); exact HO118.out) hb)
   replace BK101 := am (BB BK101 hb)
   replace BK102 := am (BB BK102 hb)
   replace HB := am (below_step (K2 HB GE101.out GE102.out) hb)
   (try clear hb)
   (try clear hb2)
   (try clear hk)
   (try clear hi)
   obtain ⟨Ao36, co36, eo36⟩ := Kd.R_slice HO108.out
   (first | subst eo36 | (injection eo36 with f1_ f2_ f3_; have f4_ := f1_.symm; have f5_ := f3_.symm; clear f1_ f2_ f3_; subst f4_; subst f5_))
   obtain ⟨Ao37, co37, eo37⟩ := Kd.R_slice HO112.out
   (first | subst eo37 | (injection eo37 with f1_ f2_ f3_; have f4_ := f1_.symm; have f5_ := f3_.symm; clear f1_ f2_ f3_; subst f4_; subst f5_))
   obtain ⟨Ao38, co38, eo38⟩ := Kd.S_slice HO115.out
   (first | subst eo38 | (injection eo38 with f1_ f2_ f3_; have f4_ := f1_.symm; have f5_ := f3_.symm; clear f1_ f2_ f3_; subst f4_; subst f5_))
   obtain ⟨Ao39, co39, eo39⟩ := Kd.S_slice HO118.out
   (first | subst eo39 | (injection eo39 with f1_ f2_ f3_; have f4_ := f1_.symm; have f5_ := f3_.symm; clear f1_ f2_ f3_; subst f4_; subst f5_))
   refine hK.out _ _ ⟨z0 _ BK101.out, z1 _ BK101.out, z2 _ BK101.out, z3 _ BK101.out, z4 _ BK101.out, z5 _ BK101.out, z0 _ BK102.out, z1 _ BK102.out, z2 _ BK102.out, z3 _ BK102.out⟩ (fun hHeld => ?_)
   clear hK K
   refine norm_ (a' := ?_) ?_ ?_
   rotate_left
   ·show Act.put _ (some 25) _ = _
    simp only [Act.put, List.setIfInBounds_toArray, List.set_cons_zero, List.set_cons_succ, i64_w, i32_w]
    rfl
   refine one_ (i := 4) (N := some 26) (tf 5 5) rfl rfl (one_of HT_.out (by kernel_rfl)) (by decide) (fun K hK => ?_)
   refine goes_ Try.func35 (by kernel_rfl) rfl #[.agg #[.int .i64 t105, .slice Ao36 t106.length co36, .int .i64 t109, .slice Ao37 t110.length co37, .slice Ao38 t113.length co38, .slice Ao39 t116.length co39], .agg #[.int .i64 t119, .int .i64 t120, .int .i64 t121, .string t122]] (by rfl) rfl rfl MT ?_
   with_reducible refine (spec_GateDoes.calls k t105 _ _ t106 t109 _ _ t110 _ _ t113 _ _ t116 t119 t120 t121 t122 t123 t124 _ ?side1 ?side2 ?side3 ?side4 ?side5 ?side6 ?side7 ?side8 A21.out).mono ?_
   (case side1 => exact KC (Kd.R_reads' HO108.out).2.2)
   (case side2 => exact (Kd.R_reads' HO108.out).2.1)
   (case side3 => exact KC (Kd.R_reads' HO112.out).2.2)
   (case side4 => exact (Kd.R_reads' HO112.out).2.1)
   (case side5 => exact KC (Kd.S_reads' HO115.out).2.2)
   (case side6 => exact (Kd.S_reads' HO115.out).2.1)
   (case side7 => exact KC (Kd.S_reads' HO118.out).2.2)
   (case side8 => exact (Kd.S_reads' HO118.out).2.1)
   rintro e w40 ⟨rfl, hb⟩
   refine ⟨_, rfl, ?_⟩
   replace HO108 := am (Kd.R_below (KR HO108) hb)
   replace HO112 := am (Kd.R_below (KR HO112) hb)
   replace HO115 := am (Kd.S_below (by (with_reducible repeat (first | apply Kd.S_alloc | apply Kd.S_drewN | apply Kd.S_drew)); exact HO115.out) hb)
   replace HO118 := am (Kd.S_below (by (with_reducible repeat (first | apply Kd.S_alloc | apply Kd.S_drewN | apply Kd.S_drew)); exact HO118.out) hb)
   replace BK101 := am (BB BK101 hb)
   replace BK102 := am (BB BK102 hb)
   replace HB := am (below_step (K2 HB GE101.out GE102.out) hb)
   (try clear hb)
   (try clear hb2)
   (try clear hk)
   (try clear hi)
   refine hK.out _ _ ⟨z0 _ BK101.out, z1 _ BK101.out, z2 _ BK101.out, z3 _ BK101.out, z4 _ BK101.out, z5 _ BK101.out, z0 _ BK102.out, z1 _ BK102.out, z2 _ BK102.out, z3 _ BK102.out⟩ (fun hHeld => ?_)
   clear hK K
   refine norm_ (a' := ?_) ?_ ?_
   rotate_left
   ·show Act.put _ (some 26) _ = _
    simp only [Act.put, List.setIfInBounds_toArray, List.set_cons_zero, List.set_cons_succ, i64_w, i32_w]
    rfl
   refine pv HT_ 5 21 (tf 6 4) ?_
   refine pv HT_ 6 27 (tf 7 3) ?_
   refine pv HT_ 7 28 (tf 8 2) ?_
   refine pv HT_ 8 6 (tf 9 1) ?_
   refine pv HT_ 9 7 (tf 10 0) ?_
   refine done_ (done_of HT_.out (by kernel_rfl)) ?_
   obtain ⟨hcz41_0, hcz41_1, hcz41_2, hcz41_3, hcz41_4, hcz41_5, hfz41_0⟩ := y6 w40 BK101.out
   try go_wp2_with (first | ((with_reducible refine gate_callee (f := 31) rfl ?_); refine goesL_ (some 30) rfl rfl Try.func31 (by kernel_rfl) rfl #[.agg #[.int .i64 a0_0, .slice A0_1 l0_1.length c0_1, .int .i64 a0_2, .slice A0_3 l0_3.length c0_3, .slice A0_4 l0_4.length c0_4, .slice A0_5 l0_5.length c0_5]] rfl MT ?_; (with_reducible refine (laws_toGate.calls k a0_0 _ _ l0_1 a0_2 _ _ l0_3 _ _ l0_4 _ _ l0_5 t125 t126 t129 t130 t133 t136 _ ?side1 ?side2 ?side3 ?side4 ?side5 ?side6 ?side7 ?side8 A22.out).mono ?_); (case side1 => exact KD HR0_1 HB); (case side2 => exact HC0_1.out); (case side3 => exact KD HR0_3 HB); (case side4 => exact HC0_3.out); (case side5 => exact KD HR0_4 HB); (case side6 => exact HC0_4.out); (case side7 => exact KD HR0_5 HB); (case side8 => exact HC0_5.out); rintro e w42 ⟨v127, v131, v134, v137, rfl, ho0, ho1, ho2, ho3, hb⟩; refine ⟨_, rfl, ?_⟩; have HO128 := am (Kd.R_lower (Kd.R_new' ho0 (Kd.R_lt (KR HO108))) (below_size (K2 HB GE101.out GE102.out))); replace HO108 := am (Kd.R_elder' (KR HO108) (Kd.R_base ho0) hb); have HO132 := am (Kd.R_lower (Kd.R_new' ho1 (Kd.R_lt (KR HO112))) (below_size (K2 HB GE101.out GE102.out))); replace HO112 := am (Kd.R_elder' (KR HO112) (Kd.R_base ho1) hb); have HO135 := am (Kd.S_lower (Kd.S_new' (Kd.S_new' ho2 (Kd.S_lt (by (with_reducible repeat (first | apply Kd.S_alloc | apply Kd.S_drewN | apply Kd.S_drew)); exact HO115.out))) (Kd.S_lt (by (with_reducible repeat (first | apply Kd.S_alloc | apply Kd.S_drewN | apply Kd.S_drew)); exact HO118.out))) (below_size (K2 HB GE101.out GE102.out))); have HO138 := am (Kd.S_lower (Kd.S_new' (Kd.S_new' ho3 (Kd.S_lt (by (with_reducible repeat (first | apply Kd.S_alloc | apply Kd.S_drewN | apply Kd.S_drew)); exact HO115.out))) (Kd.S_lt (by (with_reducible repeat (first | apply Kd.S_alloc | apply Kd.S_drewN | apply Kd.S_drew)); exact HO118.out))) (below_size (K2 HB GE101.out GE102.out))); replace HO115 := am (Kd.S_mono (Kd.S_told (Kd.S_told (Kd.S_old (by (with_reducible repeat (first | apply Kd.S_alloc | apply Kd.S_drewN | apply Kd.S_drew)); exact HO115.out) hb) (Kd.S_base ho2)) (Kd.S_base ho3)) (fun _ h_ => h_.1)); replace HO118 := am (Kd.S_mono (Kd.S_told (Kd.S_told (Kd.S_old (by (with_reducible repeat (first | apply Kd.S_alloc | apply Kd.S_drewN | apply Kd.S_drew)); exact HO118.out) hb) (Kd.S_base ho2)) (Kd.S_base ho3)) (fun _ h_ => h_.1)); replace BK101 := am (BB BK101 hb); replace BK102 := am (BB BK102 hb); replace HB := am (below_step (K2 HB GE101.out GE102.out) hb); (try clear hb); (try clear hb2); (try clear hk); (try clear hi); (try clear ho0); (try clear ho1); (try clear ho2); (try clear ho3)) | ((with_reducible refine gate_dst (N := 8) rfl ?_); refine box_event rfl (N := 8) rfl (cs := #[.int .i64 0, .slice none 0 0, .int .i64 0, .slice none 0 0, .slice none 0 0, .slice none 0 0]) (t := 57) BX ?_; intro gb139 hg w43 hbox hb; replace HO108 := am (Kd.R_below (KR HO108) hb); replace HO112 := am (Kd.R_below (KR HO112) hb); replace HO115 := am (Kd.S_below (by (with_reducible repeat (first | apply Kd.S_alloc | apply Kd.S_drewN | apply Kd.S_drew)); exact HO115.out) hb); replace HO118 := am (Kd.S_below (by (with_reducible repeat (first | apply Kd.S_alloc | apply Kd.S_drewN | apply Kd.S_drew)); exact HO118.out) hb); replace HO128 := am (Kd.R_below (KR HO128) hb); replace HO132 := am (Kd.R_below (KR HO132) hb); replace HO135 := am (Kd.S_below (by (with_reducible repeat (first | apply Kd.S_alloc | apply Kd.S_drewN | apply Kd.S_drew)); exact HO135.out) hb); replace HO138 := am (Kd.S_below (by (with_reducible repeat (first | apply Kd.S_alloc | apply Kd.S_drewN | apply Kd.S_drew)); exact HO138.out) hb); have BK139 := am (hbox); have GW139 := am (GH2 HB GE101.out GE102.out hg); have GE139 := GW139; replace HB := am (below_step (K2 HB GE101.out GE102.out) hb); have NB101_139 := am (NL BK101 hg); have NB139_101 := am (NG BK101 hg); replace BK101 := am (BB BK101 hb); have NB102_139 := am (NL BK102 hg); have NB139_102 := am (NG BK102 hg); replace BK102 := am (BB BK102 hb); clear hb hbox hg; have hnb44 := NB139_101.out; have hnc44 := NB101_139.out; have hnb45 := NB139_102.out; have hnc45 := NB102_139.out; obtain ⟨hcz46_0, hcz46_1, hcz46_2, hcz46_3, hcz46_4, hcz46_5, hfz46_0⟩ := y6 w43 BK139.out; obtain ⟨Ao47, co47, eo47⟩ := Kd.R_slice HO128.out; subst eo47; obtain ⟨Ao48, co48, eo48⟩ := Kd.R_slice HO132.out; subst eo48; obtain ⟨Ao49, co49, eo49⟩ := Kd.S_slice HO135.out; subst eo49; obtain ⟨Ao50, co50, eo50⟩ := Kd.S_slice HO138.out; subst eo50))
   generalize hq_ : ((((((w43.setCell ⟨gb139, 0, none⟩ (.int .i64 t125)).setCell ⟨gb139, 1, none⟩ (.slice Ao47 t126.length co47)).setCell ⟨gb139, 2, none⟩ (.int .i64 t129)).setCell ⟨gb139, 3, none⟩ (.slice Ao48 t130.length co48)).setCell ⟨gb139, 4, none⟩ (.slice Ao49 t133.length co49)).setCell ⟨gb139, 5, none⟩ (.slice Ao50 t136.length co50)) = w51
   have n0_ : Aside0 (Kd.R k141 141 w51 w.heap.size (fun k_ => some k_ ≠ (.slice Ao47 t126.length co47 : Value).ownBlock) (.slice Ao36 t106.length co36) t106) := ⟨by rw [← hq_]; (with_reducible repeat (first | apply Kd.R_alloc | apply Kd.R_drewN | apply Kd.R_drew)); exact Kd.R_mono (Kd.R_far (p := ⟨gb139, 5, none⟩) (Kd.R_far (p := ⟨gb139, 4, none⟩) (Kd.R_far (p := ⟨gb139, 3, none⟩) (Kd.R_far (p := ⟨gb139, 2, none⟩) (Kd.R_far (p := ⟨gb139, 1, none⟩) (Kd.R_far (p := ⟨gb139, 0, none⟩) (Kd.R_types HO108.out BK139.out (by decide)) (fun _ hk => hk.2) (.int .i64 t125)) (fun _ hk => hk.2) (.slice Ao47 t126.length co47)) (fun _ hk => hk.2) (.int .i64 t129)) (fun _ hk => hk.2) (.slice Ao48 t130.length co48)) (fun _ hk => hk.2) (.slice Ao49 t133.length co49)) (fun _ hk => hk.2) (.slice Ao50 t136.length co50)) (fun _ hk => hk.1.2)⟩
   have n1_ : Aside0 (Kd.R k136 136 w51 w.heap.size (fun k_ => some k_ ≠ (.slice Ao48 t130.length co48 : Value).ownBlock) (.slice Ao37 t110.length co37) t110) := ⟨by rw [← hq_]; (with_reducible repeat (first | apply Kd.R_alloc | apply Kd.R_drewN | apply Kd.R_drew)); exact Kd.R_mono (Kd.R_far (p := ⟨gb139, 5, none⟩) (Kd.R_far (p := ⟨gb139, 4, none⟩) (Kd.R_far (p := ⟨gb139, 3, none⟩) (Kd.R_far (p := ⟨gb139, 2, none⟩) (Kd.R_far (p := ⟨gb139, 1, none⟩) (Kd.R_far (p := ⟨gb139, 0, none⟩) (Kd.R_types HO112.out BK139.out (by decide)) (fun _ hk => hk.2) (.int .i64 t125)) (fun _ hk => hk.2) (.slice Ao47 t126.length co47)) (fun _ hk => hk.2) (.int .i64 t129)) (fun _ hk => hk.2) (.slice Ao48 t130.length co48)) (fun _ hk => hk.2) (.slice Ao49 t133.length co49)) (fun _ hk => hk.2) (.slice Ao50 t136.length co50)) (fun _ hk => hk.1.2)⟩
   have n2_ : Aside0 (Kd.S k95 95 w51 w.heap.size (fun k_ => some k_ ≠ (.slice Ao39 t116.length co39 : Value).ownBlock ∧ some k_ ≠ (.slice Ao49 t133.length co49 : Value).ownBlock ∧ some k_ ≠ (.slice Ao50 t136.length co50 : Value).ownBlock) (.slice Ao38 t113.length co38) t113) := ⟨by rw [← hq_]; (with_reducible repeat (first | apply Kd.S_alloc | apply Kd.S_drewN | apply Kd.S_drew)); exact Kd.S_mono (Kd.S_far (p := ⟨gb139, 5, none⟩) (Kd.S_far (p := ⟨gb139, 4, none⟩) (Kd.S_far (p := ⟨gb139, 3, none⟩) (Kd.S_far (p := ⟨gb139, 2, none⟩) (Kd.S_far (p := ⟨gb139, 1, none⟩) (Kd.S_far (p := ⟨gb139, 0, none⟩) (Kd.S_types HO115.out BK139.out (by decide)) (fun _ hk => hk.2) (.int .i64 t125)) (fun _ hk => hk.2) (.slice Ao47 t126.length co47)) (fun _ hk => hk.2) (.int .i64 t129)) (fun _ hk => hk.2) (.slice Ao48 t130.length co48)) (fun _ hk => hk.2) (.slice Ao49 t133.length co49)) (fun _ hk => hk.2) (.slice Ao50 t136.length co50)) (fun _ hk => ⟨hk.1.1.1, ⟨hk.1.1.2, hk.1.2⟩⟩)⟩
   have n3_ : Aside0 (Kd.S k95 95 w51 w.heap.size (fun k_ => some k_ ≠ (.slice Ao38 t113.length co38 : Value).ownBlock ∧ some k_ ≠ (.slice Ao49 t133.length co49 : Value).ownBlock ∧ some k_ ≠ (.slice Ao50 t136.length co50 : Value).ownBlock) (.slice Ao39 t116.length co39) t116) := ⟨by rw [← hq_]; (with_reducible repeat (first | apply Kd.S_alloc | apply Kd.S_drewN | apply Kd.S_drew)); exact Kd.S_mono (Kd.S_far (p := ⟨gb139, 5, none⟩) (Kd.S_far (p := ⟨gb139, 4, none⟩) (Kd.S_far (p := ⟨gb139, 3, none⟩) (Kd.S_far (p := ⟨gb139, 2, none⟩) (Kd.S_far (p := ⟨gb139, 1, none⟩) (Kd.S_far (p := ⟨gb139, 0, none⟩) (Kd.S_types HO118.out BK139.out (by decide)) (fun _ hk => hk.2) (.int .i64 t125)) (fun _ hk => hk.2) (.slice Ao47 t126.length co47)) (fun _ hk => hk.2) (.int .i64 t129)) (fun _ hk => hk.2) (.slice Ao48 t130.length co48)) (fun _ hk => hk.2) (.slice Ao49 t133.length co49)) (fun _ hk => hk.2) (.slice Ao50 t136.length co50)) (fun _ hk => ⟨hk.1.1.1, ⟨hk.1.1.2, hk.1.2⟩⟩)⟩
   have n4_ : Aside0 (Kd.R k141 141 w51 w.heap.size (fun k_ => some k_ ≠ (.slice Ao36 t106.length co36 : Value).ownBlock) (.slice Ao47 t126.length co47) t126) := ⟨by rw [← hq_]; (with_reducible repeat (first | apply Kd.R_alloc | apply Kd.R_drewN | apply Kd.R_drew)); exact Kd.R_mono (Kd.R_far (p := ⟨gb139, 5, none⟩) (Kd.R_far (p := ⟨gb139, 4, none⟩) (Kd.R_far (p := ⟨gb139, 3, none⟩) (Kd.R_far (p := ⟨gb139, 2, none⟩) (Kd.R_far (p := ⟨gb139, 1, none⟩) (Kd.R_far (p := ⟨gb139, 0, none⟩) (Kd.R_types HO128.out BK139.out (by decide)) (fun _ hk => hk.2) (.int .i64 t125)) (fun _ hk => hk.2) (.slice Ao47 t126.length co47)) (fun _ hk => hk.2) (.int .i64 t129)) (fun _ hk => hk.2) (.slice Ao48 t130.length co48)) (fun _ hk => hk.2) (.slice Ao49 t133.length co49)) (fun _ hk => hk.2) (.slice Ao50 t136.length co50)) (fun _ hk => hk.1.2)⟩
   have n5_ : Aside0 (Kd.R k136 136 w51 w.heap.size (fun k_ => some k_ ≠ (.slice Ao37 t110.length co37 : Value).ownBlock) (.slice Ao48 t130.length co48) t130) := ⟨by rw [← hq_]; (with_reducible repeat (first | apply Kd.R_alloc | apply Kd.R_drewN | apply Kd.R_drew)); exact Kd.R_mono (Kd.R_far (p := ⟨gb139, 5, none⟩) (Kd.R_far (p := ⟨gb139, 4, none⟩) (Kd.R_far (p := ⟨gb139, 3, none⟩) (Kd.R_far (p := ⟨gb139, 2, none⟩) (Kd.R_far (p := ⟨gb139, 1, none⟩) (Kd.R_far (p := ⟨gb139, 0, none⟩) (Kd.R_types HO132.out BK139.out (by decide)) (fun _ hk => hk.2) (.int .i64 t125)) (fun _ hk => hk.2) (.slice Ao47 t126.length co47)) (fun _ hk => hk.2) (.int .i64 t129)) (fun _ hk => hk.2) (.slice Ao48 t130.length co48)) (fun _ hk => hk.2) (.slice Ao49 t133.length co49)) (fun _ hk => hk.2) (.slice Ao50 t136.length co50)) (fun _ hk => hk.1.2)⟩
   have n6_ : Aside0 (Kd.S k95 95 w51 w.heap.size (fun k_ => some k_ ≠ (.slice Ao38 t113.length co38 : Value).ownBlock ∧ some k_ ≠ (.slice Ao39 t116.length co39 : Value).ownBlock ∧ some k_ ≠ (.slice Ao50 t136.length co50 : Value).ownBlock) (.slice Ao49 t133.length co49) t133) := ⟨by rw [← hq_]; (with_reducible repeat (first | apply Kd.S_alloc | apply Kd.S_drewN | apply Kd.S_drew)); exact Kd.S_mono (Kd.S_far (p := ⟨gb139, 5, none⟩) (Kd.S_far (p := ⟨gb139, 4, none⟩) (Kd.S_far (p := ⟨gb139, 3, none⟩) (Kd.S_far (p := ⟨gb139, 2, none⟩) (Kd.S_far (p := ⟨gb139, 1, none⟩) (Kd.S_far (p := ⟨gb139, 0, none⟩) (Kd.S_types HO135.out BK139.out (by decide)) (fun _ hk => hk.2) (.int .i64 t125)) (fun _ hk => hk.2) (.slice Ao47 t126.length co47)) (fun _ hk => hk.2) (.int .i64 t129)) (fun _ hk => hk.2) (.slice Ao48 t130.length co48)) (fun _ hk => hk.2) (.slice Ao49 t133.length co49)) (fun _ hk => hk.2) (.slice Ao50 t136.length co50)) (fun _ hk => ⟨hk.1.1.2, ⟨hk.1.2, hk.1.1.1⟩⟩)⟩
   have n7_ : Aside0 (Kd.S k95 95 w51 w.heap.size (fun k_ => some k_ ≠ (.slice Ao38 t113.length co38 : Value).ownBlock ∧ some k_ ≠ (.slice Ao39 t116.length co39 : Value).ownBlock ∧ some k_ ≠ (.slice Ao49 t133.length co49 : Value).ownBlock) (.slice Ao50 t136.length co50) t136) := ⟨by rw [← hq_]; (with_reducible repeat (first | apply Kd.S_alloc | apply Kd.S_drewN | apply Kd.S_drew)); exact Kd.S_mono (Kd.S_far (p := ⟨gb139, 5, none⟩) (Kd.S_far (p := ⟨gb139, 4, none⟩) (Kd.S_far (p := ⟨gb139, 3, none⟩) (Kd.S_far (p := ⟨gb139, 2, none⟩) (Kd.S_far (p := ⟨gb139, 1, none⟩) (Kd.S_far (p := ⟨gb139, 0, none⟩) (Kd.S_types HO138.out BK139.out (by decide)) (fun _ hk => hk.2) (.int .i64 t125)) (fun _ hk => hk.2) (.slice Ao47 t126.length co47)) (fun _ hk => hk.2) (.int .i64 t129)) (fun _ hk => hk.2) (.slice Ao48 t130.length co48)) (fun _ hk => hk.2) (.slice Ao49 t133.length co49)) (fun _ hk => hk.2) (.slice Ao50 t136.length co50)) (fun _ hk => ⟨hk.1.1.2, ⟨hk.1.2, hk.1.1.1⟩⟩)⟩
   have n8_ : Aside0 (w51.heap[gb101]? = some (.cells #[.int .i64 a0_0, .slice A0_1 l0_1.length c0_1, .int .i64 a0_2, .slice A0_3 l0_3.length c0_3, .slice A0_4 l0_4.length c0_4, .slice A0_5 l0_5.length c0_5] 48 (0, 0))) := ⟨by rw [← hq_]; (with_reducible repeat (first | refine blk_drewN ?_ _ | refine blk_drew ?_ | refine blk_alloc ?_ _)); refine blk_far ?_ NB101_139.out _; (with_reducible repeat (first | refine blk_drewN ?_ _ | refine blk_drew ?_ | refine blk_alloc ?_ _)); refine blk_far ?_ NB101_139.out _; (with_reducible repeat (first | refine blk_drewN ?_ _ | refine blk_drew ?_ | refine blk_alloc ?_ _)); refine blk_far ?_ NB101_139.out _; (with_reducible repeat (first | refine blk_drewN ?_ _ | refine blk_drew ?_ | refine blk_alloc ?_ _)); refine blk_far ?_ NB101_139.out _; (with_reducible repeat (first | refine blk_drewN ?_ _ | refine blk_drew ?_ | refine blk_alloc ?_ _)); refine blk_far ?_ NB101_139.out _; (with_reducible repeat (first | refine blk_drewN ?_ _ | refine blk_drew ?_ | refine blk_alloc ?_ _)); refine blk_far ?_ NB101_139.out _; (with_reducible repeat (first | refine blk_drewN ?_ _ | refine blk_drew ?_ | refine blk_alloc ?_ _)); exact BK101.out⟩
   have n9_ : Aside0 (w51.heap[gb102]? = some (.cells #[.int .i64 a1_0, .int .i64 a1_1, .int .i64 a1_2, .string a1_3] 62 (0, 0))) := ⟨by rw [← hq_]; (with_reducible repeat (first | refine blk_drewN ?_ _ | refine blk_drew ?_ | refine blk_alloc ?_ _)); refine blk_far ?_ NB102_139.out _; (with_reducible repeat (first | refine blk_drewN ?_ _ | refine blk_drew ?_ | refine blk_alloc ?_ _)); refine blk_far ?_ NB102_139.out _; (with_reducible repeat (first | refine blk_drewN ?_ _ | refine blk_drew ?_ | refine blk_alloc ?_ _)); refine blk_far ?_ NB102_139.out _; (with_reducible repeat (first | refine blk_drewN ?_ _ | refine blk_drew ?_ | refine blk_alloc ?_ _)); refine blk_far ?_ NB102_139.out _; (with_reducible repeat (first | refine blk_drewN ?_ _ | refine blk_drew ?_ | refine blk_alloc ?_ _)); refine blk_far ?_ NB102_139.out _; (with_reducible repeat (first | refine blk_drewN ?_ _ | refine blk_drew ?_ | refine blk_alloc ?_ _)); refine blk_far ?_ NB102_139.out _; (with_reducible repeat (first | refine blk_drewN ?_ _ | refine blk_drew ?_ | refine blk_alloc ?_ _)); exact BK102.out⟩
   have n10_ : Aside0 (w51.heap[gb139]? = some (.cells #[.int .i64 t125, .slice Ao47 t126.length co47, .int .i64 t129, .slice Ao48 t130.length co48, .slice Ao49 t133.length co49, .slice Ao50 t136.length co50] 57 (0, 0))) := ⟨by rw [← hq_]; exact P6 BK139⟩
   have n11_ : Aside0 (Below w.heap.size w w51) := ⟨by rw [← hq_]; exact K3 HB GE101.out GE102.out GE139.out⟩
   clear hq_
   (try clear HO108)
   (try clear HO112)
   (try clear HO115)
   (try clear HO118)
   (try clear HO128)
   (try clear HO132)
   (try clear HO135)
   (try clear HO138)
   (try clear BK101)
   (try clear BK102)
   (try clear BK139)
   (try clear HB)
   have HO108 := n0_
   have HO112 := n1_
   have HO115 := n2_
   have HO118 := n3_
   have HO128 := n4_
   have HO132 := n5_
   have HO135 := n6_
   have HO138 := n7_
   have BK101 := n8_
   have BK102 := n9_
   have BK139 := n10_
   have HB := n11_
   clear n0_ n1_ n2_ n3_ n4_ n5_ n6_ n7_ n8_ n9_ n10_ n11_
   replace HO108 := am (Kd.R_drew HO108.out)
   replace HO112 := am (Kd.R_drew HO112.out)
   replace HO115 := am (Kd.S_drew HO115.out)
   replace HO118 := am (Kd.S_drew HO118.out)
   replace HO128 := am (Kd.R_drew HO128.out)
   replace HO132 := am (Kd.R_drew HO132.out)
   replace HO135 := am (Kd.S_drew HO135.out)
   replace HO138 := am (Kd.S_drew HO138.out)
   replace BK101 := am (blk_drew BK101.out)
   replace BK102 := am (blk_drew BK102.out)
   replace BK139 := am (blk_drew BK139.out)
   replace HB := am (below_drew1 HB.out)
   refine start_ (n := 9) (S := fun w' => ce6 w' gb139 (.int .i64 t125) (.slice Ao47 t126.length co47) (.int .i64 t129) (.slice Ao48 t130.length co48) (.slice Ao49 t133.length co49) (.slice Ao50 t136.length co50) (de4 w' gb102 (.int .i64 a1_0) (.int .i64 a1_1) (.int .i64 a1_2) (.string a1_3))) (ds := []) (tf 0 9) (by kernel_rfl) rfl rfl ⟨z0 _ BK139.out, z1 _ BK139.out, z2 _ BK139.out, z3 _ BK139.out, z4 _ BK139.out, z5 _ BK139.out, z0 _ BK102.out, z1 _ BK102.out, z2 _ BK102.out, z3 _ BK102.out⟩ (fun hHeld => ?_); refine with_tabW laws_FnExactGateDoes.tab10 laws_FnExactGateDoes.bits10 (fun HT_ HW_ => ?_)
   generalize w51.drew = w52 at HO108 HO112 HO115 HO118 HO128 HO132 HO135 HO138 BK101 BK102 BK139 HB hHeld ⊢
   refine tk 0 (some 32) (tf 1 8) (take_ofW HT_.out HW_.out (by kernel_rfl)) hHeld ?_
   refine tk 1 (some 33) (tf 2 7) (take_ofW HT_.out HW_.out (by kernel_rfl)) hHeld ?_
   refine one_ (i := 2) (N := some 34) (tf 3 6) rfl rfl (one_of HT_.out (by kernel_rfl)) (by decide) (fun K hK => ?_)
   refine goes_ Try.func36 (by kernel_rfl) rfl #[.agg #[.int .i64 a1_0, .int .i64 a1_1, .int .i64 a1_2, .string a1_3]] (by rfl) rfl rfl MT ?_
   with_reducible refine (laws_toPacket.calls a1_0 a1_1 a1_2 a1_3 t140 t141 t142 t143 _ A23.out).mono ?_
   rintro e w53 ⟨rfl, hb⟩
   refine ⟨_, rfl, ?_⟩
   replace HO108 := am (Kd.R_below (KR HO108) hb)
   replace HO112 := am (Kd.R_below (KR HO112) hb)
   replace HO115 := am (Kd.S_below (by (with_reducible repeat (first | apply Kd.S_alloc | apply Kd.S_drewN | apply Kd.S_drew)); exact HO115.out) hb)
   replace HO118 := am (Kd.S_below (by (with_reducible repeat (first | apply Kd.S_alloc | apply Kd.S_drewN | apply Kd.S_drew)); exact HO118.out) hb)
   replace HO128 := am (Kd.R_below (KR HO128) hb)
   replace HO132 := am (Kd.R_below (KR HO132) hb)
   replace HO135 := am (Kd.S_below (by (with_reducible repeat (first | apply Kd.S_alloc | apply Kd.S_drewN | apply Kd.S_drew)); exact HO135.out) hb)
   replace HO138 := am (Kd.S_below (by (with_reducible repeat (first | apply Kd.S_alloc | apply Kd.S_drewN | apply Kd.S_drew)); exact HO138.out) hb)
   replace BK101 := am (BB BK101 hb)
   replace BK102 := am (BB BK102 hb)
   replace BK139 := am (BB BK139 hb)
   replace HB := am (below_step (K3 HB GE101.out GE102.out GE139.out) hb)
   (try clear hb)
   (try clear hb2)
   (try clear hk)
   (try clear hi)
   refine hK.out _ _ ⟨z0 _ BK139.out, z1 _ BK139.out, z2 _ BK139.out, z3 _ BK139.out, z4 _ BK139.out, z5 _ BK139.out, z0 _ BK102.out, z1 _ BK102.out, z2 _ BK102.out, z3 _ BK102.out⟩ (fun hHeld => ?_)
   clear hK K
   refine norm_ (a' := ?_) ?_ ?_
   rotate_left
   ·show Act.put _ (some 34) _ = _
    simp only [Act.put, List.setIfInBounds_toArray, List.set_cons_zero, List.set_cons_succ, i64_w, i32_w]
    rfl
   refine one_ (i := 3) (N := some 35) (tf 4 5) rfl rfl (one_of HT_.out (by kernel_rfl)) (by decide) (fun K hK => ?_)
   refine goes_ Try.func37 (by kernel_rfl) rfl #[.agg #[.int .i64 t125, .slice Ao47 t126.length co47, .int .i64 t129, .slice Ao48 t130.length co48, .slice Ao49 t133.length co49, .slice Ao50 t136.length co50], .agg #[.int .i64 t140, .int .i64 t141, .int .i64 t142, .string t143]] (by rfl) rfl rfl MT ?_
   with_reducible refine (impl_GateDoes.calls k t125 _ _ t126 t129 _ _ t130 _ _ t133 _ _ t136 t140 t141 t142 t143 t144 t145 _ ?side1 ?side2 ?side3 ?side4 ?side5 ?side6 ?side7 ?side8 A24.out).mono ?_
   (case side1 => exact KC (Kd.R_reads' HO128.out).2.2)
   (case side2 => exact (Kd.R_reads' HO128.out).2.1)
   (case side3 => exact KC (Kd.R_reads' HO132.out).2.2)
   (case side4 => exact (Kd.R_reads' HO132.out).2.1)
   (case side5 => exact KC (Kd.S_reads' HO135.out).2.2)
   (case side6 => exact (Kd.S_reads' HO135.out).2.1)
   (case side7 => exact KC (Kd.S_reads' HO138.out).2.2)
   (case side8 => exact (Kd.S_reads' HO138.out).2.1)
   rintro e w54 ⟨rfl, hb⟩
   refine ⟨_, rfl, ?_⟩
   replace HO108 := am (Kd.R_below (KR HO108) hb)
   replace HO112 := am (Kd.R_below (KR HO112) hb)
   replace HO115 := am (Kd.S_below (by (with_reducible repeat (first | apply Kd.S_alloc | apply Kd.S_drewN | apply Kd.S_drew)); exact HO115.out) hb)
   replace HO118 := am (Kd.S_below (by (with_reducible repeat (first | apply Kd.S_alloc | apply Kd.S_drewN | apply Kd.S_drew)); exact HO118.out) hb)
   replace HO128 := am (Kd.R_below (KR HO128) hb)
   replace HO132 := am (Kd.R_below (KR HO132) hb)
   replace HO135 := am (Kd.S_below (by (with_reducible repeat (first | apply Kd.S_alloc | apply Kd.S_drewN | apply Kd.S_drew)); exact HO135.out) hb)
   replace HO138 := am (Kd.S_below (by (with_reducible repeat (first | apply Kd.S_alloc | apply Kd.S_drewN | apply Kd.S_drew)); exact HO138.out) hb)
   replace BK101 := am (BB BK101 hb)
   replace BK102 := am (BB BK102 hb)
   replace BK139 := am (BB BK139 hb)
   replace HB := am (below_step (K3 HB GE101.out GE102.out GE139.out) hb)
   (try clear hb)
   (try clear hb2)
   (try clear hk)
   (try clear hi)
   refine hK.out _ _ ⟨z0 _ BK139.out, z1 _ BK139.out, z2 _ BK139.out, z3 _ BK139.out, z4 _ BK139.out, z5 _ BK139.out, z0 _ BK102.out, z1 _ BK102.out, z2 _ BK102.out, z3 _ BK102.out⟩ (fun hHeld => ?_)
   clear hK K
   refine norm_ (a' := ?_) ?_ ?_
   rotate_left
   ·show Act.put _ (some 35) _ = _
    simp only [Act.put, List.setIfInBounds_toArray, List.set_cons_zero, List.set_cons_succ, i64_w, i32_w]
    rfl
   refine pv HT_ 4 31 (tf 5 4) ?_
   refine pv HT_ 5 36 (tf 6 3) ?_
   refine pv HT_ 6 37 (tf 7 2) ?_
   refine pv HT_ 7 9 (tf 8 1) ?_
   refine pv HT_ 8 10 (tf 9 0) ?_
   refine done_ (done_of HT_.out (by kernel_rfl)) ?_
   go_upto_region 11 with (fail)
   go_cut [45] (fun v45 wc => ∃ (kq : Nat) (x45_24 : Bool), v45 = .bool x45_24 ∧ Aside0 (laws_FnExactGateDoes.j0 kq x45_24 a0_0 l0_1 a0_2 l0_3 l0_4 l0_5 t125 t126 t129 t130 t133 t136 = some r) ∧ Aside0 (kq ≤ k) ∧ Aside0 (Kd.R k141 141 wc w.heap.size (fun _ => True) (.slice Ao47 t126.length co47) t126) ∧ Aside0 (Kd.R k136 136 wc w.heap.size (fun _ => True) (.slice Ao48 t130.length co48) t130) ∧ Aside0 (Kd.S k95 95 wc w.heap.size (fun k_ => some k_ ≠ ((.slice Ao50 t136.length co50) : Value).ownBlock) (.slice Ao49 t133.length co49) t133) ∧ Aside0 (Kd.S k95 95 wc w.heap.size (fun k_ => some k_ ≠ ((.slice Ao49 t133.length co49) : Value).ownBlock) (.slice Ao50 t136.length co50) t136) ∧ Aside0 (wc.heap[gb101]? = some (.cells #[.int .i64 a0_0, (.slice A0_1 l0_1.length c0_1), .int .i64 a0_2, (.slice A0_3 l0_3.length c0_3), (.slice A0_4 l0_4.length c0_4), (.slice A0_5 l0_5.length c0_5)] 48 (0, 0))) ∧ Aside0 (wc.heap[gb102]? = some (.cells #[.int .i64 a1_0, .int .i64 a1_1, .int .i64 a1_2, .string a1_3] 62 (0, 0))) ∧ Aside0 (wc.heap[gb139]? = some (.cells #[.int .i64 t125, (.slice Ao47 t126.length co47), .int .i64 t129, (.slice Ao48 t130.length co48), (.slice Ao49 t133.length co49), (.slice Ao50 t136.length co50)] 57 (0, 0))) ∧ Aside0 (Below w.heap.size w wc))
   case first =>
    have H := HC25.out
    clear HC25
    by_cases c55 : t144 = t123
    ·rw [if_pos c55] at H
     have c55b0 : (t144 == t123) = true := beq_iff_eq.mpr c55
     have c55b1 : (t144 != t123) = false := bne_eq_false_iff_eq.mpr c55
     clear c55
     (first | rw [c55b0] | (simp only [i64_w, i32_w]; rw [c55b0]) | skip)
     have H' := Aside0.mk H
     clear H
     go_wp2
     go_meet
     case rel => exact ⟨_, ((t145 != t124)), (by first | rfl | (simp; done) | (simp [*]; done)), H', ⟨by first | omega | exact Nat.le_refl _⟩, ⟨by (with_reducible repeat (first | apply Kd.R_alloc | apply Kd.R_drewN | apply Kd.R_drew)); exact Kd.R_mono HO128.out (fun _ hk => trivial)⟩, ⟨by (with_reducible repeat (first | apply Kd.R_alloc | apply Kd.R_drewN | apply Kd.R_drew)); exact Kd.R_mono HO132.out (fun _ hk => trivial)⟩, ⟨by (with_reducible repeat (first | apply Kd.S_alloc | apply Kd.S_drewN | apply Kd.S_drew)); exact Kd.S_mono HO135.out (fun _ hk => hk.2.2)⟩, ⟨by (with_reducible repeat (first | apply Kd.S_alloc | apply Kd.S_drewN | apply Kd.S_drew)); exact Kd.S_mono HO138.out (fun _ hk => hk.2.2)⟩, ⟨KB BK101⟩, ⟨KB BK102⟩, ⟨KB BK139⟩, ⟨K3 HB GE101.out GE102.out GE139.out⟩⟩
    ·rw [if_neg c55] at H
     have c55b0 : (t144 == t123) = false := beq_eq_false_iff_ne.mpr c55
     have c55b1 : (t144 != t123) = true := bne_iff_ne.mpr c55
     (first | rw [c55b0] | (simp only [i64_w, i32_w]; rw [c55b0]) | skip)
     have H' := Aside0.mk H
     clear H
     go_wp2
     go_meet
     case rel => exact ⟨_, (true), (by first | rfl | (simp; done) | (simp [*]; done)), H', ⟨by first | omega | exact Nat.le_refl _⟩, ⟨by (with_reducible repeat (first | apply Kd.R_alloc | apply Kd.R_drewN | apply Kd.R_drew)); exact Kd.R_mono HO128.out (fun _ hk => trivial)⟩, ⟨by (with_reducible repeat (first | apply Kd.R_alloc | apply Kd.R_drewN | apply Kd.R_drew)); exact Kd.R_mono HO132.out (fun _ hk => trivial)⟩, ⟨by (with_reducible repeat (first | apply Kd.S_alloc | apply Kd.S_drewN | apply Kd.S_drew)); exact Kd.S_mono HO135.out (fun _ hk => hk.2.2)⟩, ⟨by (with_reducible repeat (first | apply Kd.S_alloc | apply Kd.S_drewN | apply Kd.S_drew)); exact Kd.S_mono HO138.out (fun _ hk => hk.2.2)⟩, ⟨KB BK101⟩, ⟨KB BK102⟩, ⟨KB BK139⟩, ⟨K3 HB GE101.out GE102.out GE139.out⟩⟩
   case rest =>
    clear HC25
    try clear c1
    try clear c2
    try clear p2
    try clear c3
    try clear c4
    try clear c4b0
    try clear c5
    try clear c7
    try clear c8
    try clear c11
    try clear c11b0
    try clear c14
    try clear c28
    try clear c29
    try clear c31
    try clear c34
    try clear c35
    try clear c36
    try clear c37
    try clear c44
    try clear c45
    try clear c55
    try clear c55b0
    try clear c55b1
    try clear hcz15_0 hcz15_1 hcz15_2 hcz15_3 hcz15_4 hcz15_5 hfz15_0
    try clear hcz17_0 hcz17_1 hcz17_2 hcz17_3 hfz17_0
    try clear hcz29_0 hcz29_1 hcz29_2 hcz29_3 hcz29_4 hcz29_5 hfz29_0
    try clear hcz31_0 hcz31_1 hcz31_2 hcz31_3 hfz31_0
    try clear hcz41_0 hcz41_1 hcz41_2 hcz41_3 hcz41_4 hcz41_5 hfz41_0
    try clear hcz46_0 hcz46_1 hcz46_2 hcz46_3 hcz46_4 hcz46_5 hfz46_0
    try clear hcz8_0 hcz8_1 hcz8_2 hcz8_3 hcz8_4 hcz8_5 hfz8_0
    obtain ⟨kq, x45_24, rfl, HA, HJ24, HO_140001, HO_140003, HO_140004, HO_140005, BK101, BK102, BK139, HB⟩ := hcut
    cases kq with
    | zero => exact absurd HA.out (by simp [laws_FnExactGateDoes.j0])
    | succ kj24 =>
     have H := HA.out
     clear HA
     simp only [laws_FnExactGateDoes.j0] at H
     by_cases c56 : x45_24 = true
     ·subst c56
      have H1 : (some false) = some r := by rw [if_pos rfl] at H; exact H
      clear H
      have H := H1
      clear H1
      exact absurd ((Option.some.inj H).trans HR_.out) (by decide)
     ·replace c56 := Bool.eq_false_iff.mpr c56
      subst c56
      have H1 : ((laws_toGate.f kj24 a0_0 l0_1 a0_2 l0_3 l0_4 l0_5).bind fun bt146 => ((laws_eqGate.f kj24 t125 t126 t129 t130 t133 t136 bt146.1 bt146.2.1 bt146.2.2.1 bt146.2.2.2.1 bt146.2.2.2.2.1 bt146.2.2.2.2.2).bind fun t160 => (if t160 = true then (some true) else (some false)))) = some r := by rw [if_neg (show ¬ (false = true) by decide)] at H; exact H
      clear H
      have H := H1
      clear H1
      replace H := Option.bind_eq_some_iff.mp H
      obtain ⟨⟨t146, t147, t150, t151, t154, t157⟩, A570, H⟩ := H
      replace H : ((laws_eqGate.f kj24 t125 t126 t129 t130 t133 t136 t146 t147 t150 t151 t154 t157).bind fun t160 => (if t160 = true then (some true) else (some false))) = some r := H
      have A57 := Aside0.mk A570
      clear A570
      replace H := Option.bind_eq_some_iff.mp H
      obtain ⟨t160, A580, H⟩ := H
      replace H : (if t160 = true then (some true) else (some false)) = some r := H
      have A58 := Aside0.mk A580
      clear A580
      by_cases c59 : t160 = true
      ·subst c59
       have H1 : (some true) = some r := by rw [if_pos rfl] at H; exact H
       clear H
       have H := H1
       clear H1
       obtain rfl := Option.some.inj H
       try go_wp2
       replace HO_140001 := am (Kd.R_drew HO_140001.out)
       replace HO_140003 := am (Kd.R_drew HO_140003.out)
       replace HO_140004 := am (Kd.S_drew HO_140004.out)
       replace HO_140005 := am (Kd.S_drew HO_140005.out)
       replace BK101 := am (blk_drew BK101.out)
       replace BK102 := am (blk_drew BK102.out)
       replace BK139 := am (blk_drew BK139.out)
       replace HB := am (below_drew1 HB.out)
       refine start_ (n := 5) (S := fun w' => ce6 w' gb139 (.int .i64 t125) (.slice Ao47 t126.length co47) (.int .i64 t129) (.slice Ao48 t130.length co48) (.slice Ao49 t133.length co49) (.slice Ao50 t136.length co50) (de6 w' gb101 (.int .i64 a0_0) (.slice A0_1 l0_1.length c0_1) (.int .i64 a0_2) (.slice A0_3 l0_3.length c0_3) (.slice A0_4 l0_4.length c0_4) (.slice A0_5 l0_5.length c0_5))) (ds := []) (tf 0 5) (by kernel_rfl) rfl rfl ⟨z0 _ BK139.out, z1 _ BK139.out, z2 _ BK139.out, z3 _ BK139.out, z4 _ BK139.out, z5 _ BK139.out, z0 _ BK101.out, z1 _ BK101.out, z2 _ BK101.out, z3 _ BK101.out, z4 _ BK101.out, z5 _ BK101.out⟩ (fun hHeld => ?_)
       generalize wc.drew = w60 at HO_140001 HO_140003 HO_140004 HO_140005 BK101 BK102 BK139 HB hHeld ⊢
       refine take_ (i := 0) (N := some 46) (v := ?_) (a' := ?_) (tf 1 4) rfl rfl (by kernel_rfl) (fun _ _ _ h => h) (Or.inl ⟨by rfl, ?_⟩) hHeld ?_ ?_
       rotate_left
       ·rintro w' ⟨s0, s1, s2, s3, s4, s5, s6, s7, s8, s9, s10, s11⟩
        go_simp
        with_reducible rfl
       rotate_left
       ·simp only [Act.put, List.setIfInBounds_toArray, List.set_cons_zero, List.set_cons_succ, i64_w, i32_w]
        rfl
       refine take_ (i := 1) (N := some 47) (v := ?_) (a' := ?_) (tf 2 3) rfl rfl (by kernel_rfl) (fun _ _ _ h => h) (Or.inl ⟨by rfl, ?_⟩) hHeld ?_ ?_
       rotate_left
       ·rintro w' ⟨s0, s1, s2, s3, s4, s5, s6, s7, s8, s9, s10, s11⟩
        go_simp
        with_reducible rfl
       rotate_left
       ·simp only [Act.put, List.setIfInBounds_toArray, List.set_cons_zero, List.set_cons_succ, i64_w, i32_w]
        rfl
       refine one_ (i := 2) (N := some 48) (tf 3 2) rfl rfl (by kernel_rfl) (by decide) (fun K hK => ?_)
       refine goes_ Try.func31 (by kernel_rfl) rfl #[.agg #[.int .i64 a0_0, .slice A0_1 l0_1.length c0_1, .int .i64 a0_2, .slice A0_3 l0_3.length c0_3, .slice A0_4 l0_4.length c0_4, .slice A0_5 l0_5.length c0_5]] (by rfl) rfl rfl MT ?_
       with_reducible refine (laws_toGate.calls kj24 a0_0 _ _ l0_1 a0_2 _ _ l0_3 _ _ l0_4 _ _ l0_5 t146 t147 t150 t151 t154 t157 _ ?side1 ?side2 ?side3 ?side4 ?side5 ?side6 ?side7 ?side8 A57.out).mono ?_
       (case side1 => exact KD HR0_1 HB)
       (case side2 => exact HC0_1.out)
       (case side3 => exact KD HR0_3 HB)
       (case side4 => exact HC0_3.out)
       (case side5 => exact KD HR0_4 HB)
       (case side6 => exact HC0_4.out)
       (case side7 => exact KD HR0_5 HB)
       (case side8 => exact HC0_5.out)
       rintro e w61 ⟨v148, v152, v155, v158, rfl, ho0, ho1, ho2, ho3, hb⟩
       refine ⟨_, rfl, ?_⟩
       have HO149 := am (Kd.R_lower (Kd.R_new' ho0 (Kd.R_lt (KR HO_140001))) (below_size (K3 HB GE101.out GE102.out GE139.out)))
       replace HO_140001 := am (Kd.R_elder' (KR HO_140001) (Kd.R_base ho0) hb)
       have HO153 := am (Kd.R_lower (Kd.R_new' ho1 (Kd.R_lt (KR HO_140003))) (below_size (K3 HB GE101.out GE102.out GE139.out)))
       replace HO_140003 := am (Kd.R_elder' (KR HO_140003) (Kd.R_base ho1) hb)
       have HO156 := am (Kd.S_lower (Kd.S_new' (Kd.S_new' ho2 (Kd.S_lt (by (with_reducible repeat (first | apply Kd.S_alloc | apply Kd.S_drewN | apply Kd.S_drew)); exact HO_140004.out))) (Kd.S_lt (by (with_reducible repeat (first | apply Kd.S_alloc | apply Kd.S_drewN | apply Kd.S_drew)); exact HO_140005.out))) (below_size (K3 HB GE101.out GE102.out GE139.out)))
       have HO159 := am (Kd.S_lower (Kd.S_new' (Kd.S_new' ho3 (Kd.S_lt (by (with_reducible repeat (first | apply Kd.S_alloc | apply Kd.S_drewN | apply Kd.S_drew)); exact HO_140004.out))) (Kd.S_lt (by (with_reducible repeat (first | apply Kd.S_alloc | apply Kd.S_drewN | apply Kd.S_drew)); exact HO_140005.out))) (below_size (K3 HB GE101.out GE102.out GE139.out)))
       replace HO_140004 := am (Kd.S_mono (Kd.S_told (Kd.S_told (Kd.S_old (by (with_reducible repeat (first | apply Kd.S_alloc | apply Kd.S_drewN | apply Kd.S_drew)); exact HO_140004.out) hb) (Kd.S_base ho2)) (Kd.S_base ho3)) (fun _ h_ => h_.1))
       replace HO_140005 := am (Kd.S_mono (Kd.S_told (Kd.S_told (Kd.S_old (by (with_reducible repeat (first | apply Kd.S_alloc | apply Kd.S_drewN | apply Kd.S_drew)); exact HO_140005.out) hb) (Kd.S_base ho2)) (Kd.S_base ho3)) (fun _ h_ => h_.1))
       replace BK101 := am (BB BK101 hb)
       replace BK102 := am (BB BK102 hb)
       replace BK139 := am (BB BK139 hb)
       replace HB := am (below_step (K3 HB GE101.out GE102.out GE139.out) hb)
       (try clear hb)
       (try clear hb2)
       (try clear hk)
       (try clear hi)
       (try clear ho0)
       (try clear ho1)
       (try clear ho2)
       (try clear ho3)
       obtain ⟨Ao62, co62, eo62⟩ := Kd.R_slice HO149.out
       (first | subst eo62 | (injection eo62 with f1_ f2_ f3_; have f4_ := f1_.symm; have f5_ := f3_.symm; clear f1_ f2_ f3_; subst f4_; subst f5_))
       obtain ⟨Ao63, co63, eo63⟩ := Kd.R_slice HO153.out
       (first | subst eo63 | (injection eo63 with f1_ f2_ f3_; have f4_ := f1_.symm; have f5_ := f3_.symm; clear f1_ f2_ f3_; subst f4_; subst f5_))
       obtain ⟨Ao64, co64, eo64⟩ := Kd.S_slice HO156.out
       (first | subst eo64 | (injection eo64 with f1_ f2_ f3_; have f4_ := f1_.symm; have f5_ := f3_.symm; clear f1_ f2_ f3_; subst f4_; subst f5_))
       obtain ⟨Ao65, co65, eo65⟩ := Kd.S_slice HO159.out
       (first | subst eo65 | (injection eo65 with f1_ f2_ f3_; have f4_ := f1_.symm; have f5_ := f3_.symm; clear f1_ f2_ f3_; subst f4_; subst f5_))
       refine hK.out _ _ ⟨z0 _ BK139.out, z1 _ BK139.out, z2 _ BK139.out, z3 _ BK139.out, z4 _ BK139.out, z5 _ BK139.out, z0 _ BK101.out, z1 _ BK101.out, z2 _ BK101.out, z3 _ BK101.out, z4 _ BK101.out, z5 _ BK101.out⟩ (fun hHeld => ?_)
       clear hK K
       refine norm_ (a' := ?_) ?_ ?_
       rotate_left
       ·show Act.put _ (some 48) _ = _
        simp only [Act.put, List.setIfInBounds_toArray, List.set_cons_zero, List.set_cons_succ, i64_w, i32_w]
        rfl
       refine one_ (i := 3) (N := some 49) (tf 4 1) rfl rfl (by kernel_rfl) (by decide) (fun K hK => ?_)
       refine goes_ Try.func33 (by kernel_rfl) rfl #[.agg #[.int .i64 t125, .slice Ao47 t126.length co47, .int .i64 t129, .slice Ao48 t130.length co48, .slice Ao49 t133.length co49, .slice Ao50 t136.length co50], .agg #[.int .i64 t146, .slice Ao62 t147.length co62, .int .i64 t150, .slice Ao63 t151.length co63, .slice Ao64 t154.length co64, .slice Ao65 t157.length co65]] (by rfl) rfl rfl MT ?_
       with_reducible refine (laws_eqGate.calls kj24 t125 _ _ t126 t129 _ _ t130 _ _ t133 _ _ t136 t146 _ _ t147 t150 _ _ t151 _ _ t154 _ _ t157 true _ ?side1 ?side2 ?side3 ?side4 ?side5 ?side6 ?side7 ?side8 ?side9 ?side10 ?side11 ?side12 ?side13 ?side14 ?side15 ?side16 A58.out).mono ?_
       (case side1 => exact KC (Kd.R_reads' HO_140001.out).2.2)
       (case side2 => exact (Kd.R_reads' HO_140001.out).2.1)
       (case side3 => exact KC (Kd.R_reads' HO_140003.out).2.2)
       (case side4 => exact (Kd.R_reads' HO_140003.out).2.1)
       (case side5 => exact KC (Kd.S_reads' HO_140004.out).2.2)
       (case side6 => exact (Kd.S_reads' HO_140004.out).2.1)
       (case side7 => exact KC (Kd.S_reads' HO_140005.out).2.2)
       (case side8 => exact (Kd.S_reads' HO_140005.out).2.1)
       (case side9 => exact KC (Kd.R_reads' HO149.out).2.2)
       (case side10 => exact (Kd.R_reads' HO149.out).2.1)
       (case side11 => exact KC (Kd.R_reads' HO153.out).2.2)
       (case side12 => exact (Kd.R_reads' HO153.out).2.1)
       (case side13 => exact KC (Kd.S_reads' HO156.out).2.2)
       (case side14 => exact (Kd.S_reads' HO156.out).2.1)
       (case side15 => exact KC (Kd.S_reads' HO159.out).2.2)
       (case side16 => exact (Kd.S_reads' HO159.out).2.1)
       rintro e w66 ⟨rfl, hb⟩
       refine ⟨_, rfl, ?_⟩
       replace HO_140001 := am (Kd.R_below (KR HO_140001) hb)
       replace HO_140003 := am (Kd.R_below (KR HO_140003) hb)
       replace HO_140004 := am (Kd.S_below (by (with_reducible repeat (first | apply Kd.S_alloc | apply Kd.S_drewN | apply Kd.S_drew)); exact HO_140004.out) hb)
       replace HO_140005 := am (Kd.S_below (by (with_reducible repeat (first | apply Kd.S_alloc | apply Kd.S_drewN | apply Kd.S_drew)); exact HO_140005.out) hb)
       replace HO149 := am (Kd.R_below (KR HO149) hb)
       replace HO153 := am (Kd.R_below (KR HO153) hb)
       replace HO156 := am (Kd.S_below (by (with_reducible repeat (first | apply Kd.S_alloc | apply Kd.S_drewN | apply Kd.S_drew)); exact HO156.out) hb)
       replace HO159 := am (Kd.S_below (by (with_reducible repeat (first | apply Kd.S_alloc | apply Kd.S_drewN | apply Kd.S_drew)); exact HO159.out) hb)
       replace BK101 := am (BB BK101 hb)
       replace BK102 := am (BB BK102 hb)
       replace BK139 := am (BB BK139 hb)
       replace HB := am (below_step (K3 HB GE101.out GE102.out GE139.out) hb)
       (try clear hb)
       (try clear hb2)
       (try clear hk)
       (try clear hi)
       refine hK.out _ _ ⟨z0 _ BK139.out, z1 _ BK139.out, z2 _ BK139.out, z3 _ BK139.out, z4 _ BK139.out, z5 _ BK139.out, z0 _ BK101.out, z1 _ BK101.out, z2 _ BK101.out, z3 _ BK101.out, z4 _ BK101.out, z5 _ BK101.out⟩ (fun hHeld => ?_)
       clear hK K
       refine norm_ (a' := ?_) ?_ ?_
       rotate_left
       ·show Act.put _ (some 49) _ = _
        simp only [Act.put, List.setIfInBounds_toArray, List.set_cons_zero, List.set_cons_succ, i64_w, i32_w]
        rfl
       refine pure_ (i := 4) (N := some 50) (v := ?_) (a' := ?_) (tf 5 0) rfl rfl (by kernel_rfl) (fun _ _ _ h => h) (Or.inl ⟨by rfl, ?_⟩) ?_ ?_; rotate_left; (· intro w'; go_simp; with_reducible rfl); rotate_left; (· simp only [Act.put, List.setIfInBounds_toArray, List.set_cons_zero, List.set_cons_succ, i64_w, i32_w]; rfl)
       refine done_ (by kernel_rfl) ?_
       try go_wp2
       go_ret
       exact ⟨ER, K3 HB GE101.out GE102.out GE139.out⟩
      ·replace c59 := Bool.eq_false_iff.mpr c59
       subst c59
       have H1 : (some false) = some r := by rw [if_neg (show ¬ (false = true) by decide)] at H; exact H
       clear H
       have H := H1
       clear H1
       exact absurd ((Option.some.inj H).trans HR_.out) (by decide)
def laws_FnExactGateDoes.Pure : Prop := ∀ (a0_0 : Int) (l0_1 : List (S145)) (a0_2 : Int) (l0_3 : List (S170)) (l0_4 : List (S132)) (l0_5 : List (S132)) (a1_0 : Int) (a1_1 : Int) (a1_2 : Int) (a1_3 : ByteArray), ((Lit.int .i64 a0_0).wf = true) → ((l0_1.length ≤ maxLen ∧ ∀ x_ ∈ l0_1, wfT145 x_)) → ((Lit.int .i64 a0_2).wf = true) → ((l0_3.length ≤ maxLen ∧ ∀ x_ ∈ l0_3, wfT170 x_)) → ((l0_4.length ≤ maxLen ∧ ∀ x_ ∈ l0_4, wfT132 x_)) → ((l0_5.length ≤ maxLen ∧ ∀ x_ ∈ l0_5, wfT132 x_)) → ((Lit.int .i64 a1_0).wf = true) → ((Lit.int .i64 a1_1).wf = true) → ((Lit.int .i64 a1_2).wf = true) → (a1_3.size ≤ maxLen) → ∃ k, laws_FnExactGateDoes.f k a0_0 l0_1 a0_2 l0_3 l0_4 l0_5 a1_0 a1_1 a1_2 a1_3 = some true
theorem laws_FnExactGateDoes.walk (P : laws_FnExactGateDoes.Pure) (a0_0 : Int) (A0_1 : Option Addr) (c0_1 : Nat) (l0_1 : List (S145)) (a0_2 : Int) (A0_3 : Option Addr) (c0_3 : Nat) (l0_3 : List (S170)) (A0_4 : Option Addr) (c0_4 : Nat) (l0_4 : List (S132)) (A0_5 : Option Addr) (c0_5 : Nat) (l0_5 : List (S132)) (a1_0 : Int) (a1_1 : Int) (a1_2 : Int) (a1_3 : ByteArray) (w : World) (hr0_1 : Kd.C k145 w A0_1 l0_1.length l0_1) (hc0_1 : l0_1.length ≤ c0_1) (hr0_3 : Kd.C k170 w A0_3 l0_3.length l0_3) (hc0_3 : l0_3.length ≤ c0_3) (hr0_4 : Kd.C k132 w A0_4 l0_4.length l0_4) (hc0_4 : l0_4.length ≤ c0_4) (hr0_5 : Kd.C k132 w A0_5 l0_5.length l0_5) (hc0_5 : l0_5.length ≤ c0_5) (q0_ : (Lit.int .i64 a0_0).wf = true) (q1_ : (l0_1.length ≤ maxLen ∧ ∀ x_ ∈ l0_1, wfT145 x_)) (q2_ : (Lit.int .i64 a0_2).wf = true) (q3_ : (l0_3.length ≤ maxLen ∧ ∀ x_ ∈ l0_3, wfT170 x_)) (q4_ : (l0_4.length ≤ maxLen ∧ ∀ x_ ∈ l0_4, wfT132 x_)) (q5_ : (l0_5.length ≤ maxLen ∧ ∀ x_ ∈ l0_5, wfT132 x_)) (q6_ : (Lit.int .i64 a1_0).wf = true) (q7_ : (Lit.int .i64 a1_1).wf = true) (q8_ : (Lit.int .i64 a1_2).wf = true) (q9_ : a1_3.size ≤ maxLen) :
  Calls Try.prog 8 #[.agg #[.int .i64 a0_0, .slice A0_1 l0_1.length c0_1, .int .i64 a0_2, .slice A0_3 l0_3.length c0_3, .slice A0_4 l0_4.length c0_4, .slice A0_5 l0_5.length c0_5], .agg #[.int .i64 a1_0, .int .i64 a1_1, .int .i64 a1_2, .string a1_3]] w fun e w' => e = .returned (.bool true) ∧ Below w.heap.size w w' := by
 obtain ⟨k, h⟩ := P a0_0 l0_1 a0_2 l0_3 l0_4 l0_5 a1_0 a1_1 a1_2 a1_3 q0_ q1_ q2_ q3_ q4_ q5_ q6_ q7_ q8_ q9_
 refine (laws_FnExactGateDoes.calls k a0_0 A0_1 c0_1 l0_1 a0_2 A0_3 c0_3 l0_3 A0_4 c0_4 l0_4 A0_5 c0_5 l0_5 a1_0 a1_1 a1_2 a1_3 true w hr0_1 hc0_1 hr0_3 hc0_3 hr0_4 hc0_4 hr0_5 hc0_5 rfl h).mono ?_
 rintro e w' ⟨rfl, hd⟩
 exact ⟨rfl, hd⟩
end Go.Proofs.Ytlpmmmhfceeiaaa.PAll
end
