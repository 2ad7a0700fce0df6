/- Contracts of the functions that the statement reaches, printed by a program out of the translation and joined with the plain laws. -/
import Derived.Test.YtlpmmmhfceeiaaaCFnExactGateOk3
import Derived.Test.YtlpmmmhfceeiaaaCFnExactGateOk4
import Derived.Test.YtlpmmmhfceeiaaaCFnExactGateOk8
section
namespace Go.Proofs.Ytlpmmmhfceeiaaa.PAll
open Go.RowKit Go.Proofs.YtlpmmmhfceeiaaaW.PrintWords Go.Proofs.YtlpmmmhfceeiaaaW.PrintLast Go.Proofs.YtlpmmmhfceeiaaaW.PrintMore
attribute [local go_sem] max2_int min2_int max_two min_two max_three min_three max_four min_four   -- for this text's walks alone
set_option linter.unusedVariables false
set_option linter.unusedSimpArgs false
def laws_eqCache.f (k : Nat) (a0_0 : Int) (l0_1 : List (S136)) (a1_0 : Int) (l1_1 : List (S136)) : Option (Bool) := if a0_0 = a1_0 then ((laws_eqSeenS.f k l0_1 l1_1).bind fun t103 => (if t103 = true then (some true) else (some false))) else (some false)
set_option maxHeartbeats 8000000 in
set_option maxRecDepth 100000 in
theorem laws_eqCache.calls (k : Nat) (a0_0 : Int) (A0_1 : Option Addr) (c0_1 : Nat) (l0_1 : List (S136)) (a1_0 : Int) (A1_1 : Option Addr) (c1_1 : Nat) (l1_1 : List (S136)) (r : Bool) (w : World) (hr0_1 : Kd.C k136 w A0_1 l0_1.length l0_1) (hc0_1 : l0_1.length ≤ c0_1) (hr1_1 : Kd.C k136 w A1_1 l1_1.length l1_1) (hc1_1 : l1_1.length ≤ c1_1) (h : laws_eqCache.f k a0_0 l0_1 a1_0 l1_1 = some r) :
  Calls Try.prog 70 #[.agg #[.int .i64 a0_0, .slice A0_1 l0_1.length c0_1], .agg #[.int .i64 a1_0, .slice A1_1 l1_1.length c1_1]] w fun e w' => e = .returned (.bool r) ∧ Below w.heap.size w w' := by
 have hu54 := Try.underlying54
 have HR0_1 := Aside0.mk hr0_1
 have HC0_1 := Aside0.mk hc0_1
 clear hr0_1 hc0_1
 have HR1_1 := Aside0.mk hr1_1
 have HC1_1 := Aside0.mk hc1_1
 clear hr1_1 hc1_1
 have HB := am (Below.refl w.heap.size w)
 have H : (if a0_0 = a1_0 then ((laws_eqSeenS.f k l0_1 l1_1).bind fun t103 => (if t103 = true then (some true) else (some false))) else (some false)) = some r := h
 clear h
 by_cases c3 : a0_0 = a1_0
 ·rw [if_pos c3] at H
  have c3b0 : (a0_0 == a1_0) = true := beq_iff_eq.mpr c3
  have c3b1 : (a0_0 != a1_0) = false := bne_eq_false_iff_eq.mpr c3
  clear c3
  replace H := Option.bind_eq_some_iff.mp H
  obtain ⟨t103, A40, H⟩ := H
  replace H : (if t103 = true then (some true) else (some false)) = some r := H
  have A4 := Aside0.mk A40
  clear A40
  by_cases c5 : t103 = true
  ·subst c5
   have H1 : (some true) = some r := by rw [if_pos rfl] at H; exact H
   clear H
   have H := H1
   clear H1
   obtain rfl := Option.some.inj H
   go_enter Try.func70, Try.ntmps70
   go_wp2_with (first | ((with_reducible refine gate_dst (N := 2) rfl ?_); refine box_event rfl (N := 2) rfl (cs := #[.int .i64 a0_0, .slice A0_1 l0_1.length c0_1]) (t := 54) BX ?_; intro gb101 hg w6 hbox hb; have BK101 := am (hbox); have GW101 := am (GH HB hg); have GE101 := GW101; replace HB := am (below_step (KL HB) hb); clear hb hbox hg) | ((with_reducible refine gate_dst (N := 3) rfl ?_); refine box_event rfl (N := 3) rfl (cs := #[.int .i64 a1_0, .slice A1_1 l1_1.length c1_1]) (t := 54) BX ?_; intro gb102 hg w7 hbox hb; have BK102 := am (hbox); have GW102 := am (GH1 HB GE101.out hg); have GE102 := GW102; replace HB := am (below_step (K1 HB GE101.out) hb); have NB101_102 := am (NL BK101 hg); have NB102_101 := am (NG BK101 hg); replace BK101 := am (BB BK101 hb); clear hb hbox hg; have hnb8 := NB101_102.out; have hnc8 := NB102_101.out; obtain ⟨hcz9_0, hcz9_1, hfz9_0⟩ := y2 w7 BK101.out; obtain ⟨hcz10_0, hcz10_1, hfz10_0⟩ := y2 w7 BK102.out) | ((with_reducible refine gate_callee (f := 113) rfl ?_); refine goesL_ (some 14) rfl rfl Try.func113 (by kernel_rfl) rfl #[.slice A0_1 l0_1.length c0_1, .slice A1_1 l1_1.length c1_1] rfl MT ?_; (with_reducible refine (laws_eqSeenS.calls k _ _ l0_1 _ _ l1_1 true _ ?side1 ?side2 ?side3 ?side4 A4.out).mono ?_); (case side1 => exact KD HR0_1 HB); (case side2 => exact HC0_1.out); (case side3 => exact KD HR1_1 HB); (case side4 => exact HC1_1.out); rintro e w11 ⟨rfl, hb⟩; refine ⟨_, rfl, ?_⟩; replace BK101 := am (BB BK101 hb); replace BK102 := am (BB BK102 hb); replace HB := am (below_step (K2 HB GE101.out GE102.out) hb); (try clear hb); (try clear hb2); (try clear hk); (try clear hi)))
   go_ret
   exact ⟨ER, K2 HB GE101.out GE102.out⟩
  ·replace c5 := Bool.eq_false_iff.mpr c5
   subst c5
   have H1 : (some false) = some r := by rw [if_neg (show ¬ (false = true) by decide)] at H; exact H
   clear H
   have H := H1
   clear H1
   obtain rfl := Option.some.inj H
   go_enter Try.func70, Try.ntmps70
   go_wp2_with (first | ((with_reducible refine gate_dst (N := 2) rfl ?_); refine box_event rfl (N := 2) rfl (cs := #[.int .i64 a0_0, .slice A0_1 l0_1.length c0_1]) (t := 54) BX ?_; intro gb101 hg w12 hbox hb; have BK101 := am (hbox); have GW101 := am (GH HB hg); have GE101 := GW101; replace HB := am (below_step (KL HB) hb); clear hb hbox hg) | ((with_reducible refine gate_dst (N := 3) rfl ?_); refine box_event rfl (N := 3) rfl (cs := #[.int .i64 a1_0, .slice A1_1 l1_1.length c1_1]) (t := 54) BX ?_; intro gb102 hg w13 hbox hb; have BK102 := am (hbox); have GW102 := am (GH1 HB GE101.out hg); have GE102 := GW102; replace HB := am (below_step (K1 HB GE101.out) hb); have NB101_102 := am (NL BK101 hg); have NB102_101 := am (NG BK101 hg); replace BK101 := am (BB BK101 hb); clear hb hbox hg; have hnb14 := NB101_102.out; have hnc14 := NB102_101.out; obtain ⟨hcz15_0, hcz15_1, hfz15_0⟩ := y2 w13 BK101.out; obtain ⟨hcz16_0, hcz16_1, hfz16_0⟩ := y2 w13 BK102.out) | ((with_reducible refine gate_callee (f := 113) rfl ?_); refine goesL_ (some 14) rfl rfl Try.func113 (by kernel_rfl) rfl #[.slice A0_1 l0_1.length c0_1, .slice A1_1 l1_1.length c1_1] rfl MT ?_; (with_reducible refine (laws_eqSeenS.calls k _ _ l0_1 _ _ l1_1 false _ ?side1 ?side2 ?side3 ?side4 A4.out).mono ?_); (case side1 => exact KD HR0_1 HB); (case side2 => exact HC0_1.out); (case side3 => exact KD HR1_1 HB); (case side4 => exact HC1_1.out); rintro e w17 ⟨rfl, hb⟩; refine ⟨_, rfl, ?_⟩; replace BK101 := am (BB BK101 hb); replace BK102 := am (BB BK102 hb); replace HB := am (below_step (K2 HB GE101.out GE102.out) hb); (try clear hb); (try clear hb2); (try clear hk); (try clear hi)))
   go_ret
   exact ⟨ER, K2 HB GE101.out GE102.out⟩
 ·rw [if_neg c3] at H
  have c3b0 : (a0_0 == a1_0) = false := beq_eq_false_iff_ne.mpr c3
  have c3b1 : (a0_0 != a1_0) = true := bne_iff_ne.mpr c3
  obtain rfl := Option.some.inj H
  go_enter Try.func70, Try.ntmps70
  go_wp2_with (first | ((with_reducible refine gate_dst (N := 2) rfl ?_); refine box_event rfl (N := 2) rfl (cs := #[.int .i64 a0_0, .slice A0_1 l0_1.length c0_1]) (t := 54) BX ?_; intro gb101 hg w18 hbox hb; have BK101 := am (hbox); have GW101 := am (GH HB hg); have GE101 := GW101; replace HB := am (below_step (KL HB) hb); clear hb hbox hg) | ((with_reducible refine gate_dst (N := 3) rfl ?_); refine box_event rfl (N := 3) rfl (cs := #[.int .i64 a1_0, .slice A1_1 l1_1.length c1_1]) (t := 54) BX ?_; intro gb102 hg w19 hbox hb; have BK102 := am (hbox); have GW102 := am (GH1 HB GE101.out hg); have GE102 := GW102; replace HB := am (below_step (K1 HB GE101.out) hb); have NB101_102 := am (NL BK101 hg); have NB102_101 := am (NG BK101 hg); replace BK101 := am (BB BK101 hb); clear hb hbox hg; have hnb20 := NB101_102.out; have hnc20 := NB102_101.out; obtain ⟨hcz21_0, hcz21_1, hfz21_0⟩ := y2 w19 BK101.out; obtain ⟨hcz22_0, hcz22_1, hfz22_0⟩ := y2 w19 BK102.out))
  go_ret
  exact ⟨ER, K2 HB GE101.out GE102.out⟩
def laws_eqIntS.l0 : Nat → List Int → List Int → Int → Option (Bool)
 | 0, _, _, _ => none
 | k + 1, x0, x1, x5 => if x5 < (x0.length : Int) then (if 0 ≤ x5 then (if x5 < (x1.length : Int) then (if (rd x0 x5) = (rd x1 x5) then (laws_eqIntS.l0 k x0 x1 (wrap64 (x5 + 1))) else (some false)) else (none)) else (none)) else (some true)
def laws_eqIntS.f (k : Nat) (l0 : List Int) (l1 : List Int) : Option (Bool) := if (l0.length : Int) = (l1.length : Int) then (laws_eqIntS.l0 k l0 l1 0) else (some false)
set_option maxHeartbeats 8000000 in
set_option maxRecDepth 100000 in
theorem laws_eqIntS.calls (k : Nat) (A0 : Option Addr) (c0 : Nat) (l0 : List Int) (A1 : Option Addr) (c1 : Nat) (l1 : List Int) (r : Bool) (w : World) (hr0 : Kd.C (Kd.int .i64) w A0 l0.length l0) (hc0 : l0.length ≤ c0) (hr1 : Kd.C (Kd.int .i64) w A1 l1.length l1) (hc1 : l1.length ≤ c1) (h : laws_eqIntS.f k l0 l1 = some r) :
  Calls Try.prog 13 #[.slice A0 l0.length c0, .slice A1 l1.length c1] w fun e w' => e = .returned (.bool r) ∧ Drawn0 w w' := by
 have HR0 := Aside0.mk hr0
 have HC0 := Aside0.mk hc0
 clear hr0 hc0
 have HR1 := Aside0.mk hr1
 have HC1 := Aside0.mk hc1
 clear hr1 hc1
 have H : (if (l0.length : Int) = (l1.length : Int) then (laws_eqIntS.l0 k l0 l1 0) else (some false)) = some r := h
 clear h
 by_cases c3 : (l0.length : Int) = (l1.length : Int)
 ·rw [if_pos c3] at H
  have c3b0 : ((l0.length : Int) == (l1.length : Int)) = true := beq_iff_eq.mpr c3
  have c3b1 : ((l0.length : Int) != (l1.length : Int)) = false := bne_eq_false_iff_eq.mpr c3
  have c3b2 : (l0.length == l1.length) = true := by first | simpa using c3 | (simp at c3 ⊢; omega)
  clear c3
  have H' := Aside0.mk H
  clear H
  go_enter Try.func13, Try.ntmps13
  go_wp2
  repeat (go_quiet (fail); try go_wp2)
  go_loopg [5] k (fun kq v5 w' => ∃ (x5_1 : Int), v5 = .int .i64 x5_1 ∧ Aside0 (laws_eqIntS.l0 kq l0 l1 x5_1 = some r) ∧ Aside0 (kq ≤ k) ∧ Drawn0 w w')
  case atStart => exact ⟨(0), (by first | rfl | (simp; done) | (simp [*]; done)), H', ⟨Nat.le_refl _⟩, by repeat (first | exact Drawn0.refl _ | apply Drawn0.step)⟩
  case round =>
   clear H'
   try clear c1
   try clear p2
   try clear c3
   try clear c3b0
   try clear c3b1
   try clear c3b2
   obtain ⟨x5_1, rfl, HA, HK1, ⟨m1, rfl⟩⟩ := hrel
   cases gk with
   | zero => exact absurd HA.out (by simp [laws_eqIntS.l0])
   | succ k1 =>
    have H := HA.out
    clear HA
    simp only [laws_eqIntS.l0] at H
    by_cases c4 : x5_1 < (l0.length : Int)
    ·rw [if_pos c4] at H
     have c4b0 : decide (x5_1 < (l0.length : Int)) = true := decide_eq_true c4
     clear c4
     by_cases c5 : 0 ≤ x5_1
     ·rw [if_pos c5] at H
      have c5b0 : decide (0 ≤ x5_1) = true := decide_eq_true c5
      clear c5
      by_cases c6 : x5_1 < (l1.length : Int)
      ·rw [if_pos c6] at H
       have c6b0 : decide (x5_1 < (l1.length : Int)) = true := decide_eq_true c6
       clear c6
       by_cases c7 : (rd l0 x5_1) = (rd l1 x5_1)
       ·rw [if_pos c7] at H
        have c7b0 : ((rd l0 x5_1) == (rd l1 x5_1)) = true := beq_iff_eq.mpr c7
        have c7b1 : ((rd l0 x5_1) != (rd l1 x5_1)) = false := bne_eq_false_iff_eq.mpr c7
        clear c7
        have H' := Aside0.mk H
        clear H
        have p101 : 0 ≤ (x5_1 : Int) := OD
        have q101 : x5_1 < (l0.length : Int) := OD
        obtain ⟨ad101, e101, hx101_0⟩ := Kd.at_int HR0.out x5_1 p101 q101
        cases e101
        replace p101 := eq_true p101
        replace q101 := eq_true q101
        have p102 : 0 ≤ (x5_1 : Int) := OD
        have q102 : x5_1 < (l1.length : Int) := OD
        obtain ⟨ad102, e102, hx102_0⟩ := Kd.at_int HR1.out x5_1 p102 q102
        cases e102
        replace p102 := eq_true p102
        replace q102 := eq_true q102
        go_wp2
        repeat (go_quiet (fail); try go_wp2)
        go_roundg k1
        case measure => have := HK1.out; omega
        case rel => exact ⟨(wrap64 (x5_1 + 1)), (by first | rfl | (simp; done) | (simp [*]; done)), H', ⟨by have := HK1.out; omega⟩, by repeat (first | exact Drawn0.refl _ | apply Drawn0.step)⟩
       ·rw [if_neg c7] at H
        have c7b0 : ((rd l0 x5_1) == (rd l1 x5_1)) = false := beq_eq_false_iff_ne.mpr c7
        have c7b1 : ((rd l0 x5_1) != (rd l1 x5_1)) = true := bne_iff_ne.mpr c7
        obtain rfl := Option.some.inj H
        have p101 : 0 ≤ (x5_1 : Int) := OD
        have q101 : x5_1 < (l0.length : Int) := OD
        obtain ⟨ad101, e101, hx101_0⟩ := Kd.at_int HR0.out x5_1 p101 q101
        cases e101
        replace p101 := eq_true p101
        replace q101 := eq_true q101
        have p102 : 0 ≤ (x5_1 : Int) := OD
        have q102 : x5_1 < (l1.length : Int) := OD
        obtain ⟨ad102, e102, hx102_0⟩ := Kd.at_int HR1.out x5_1 p102 q102
        cases e102
        replace p102 := eq_true p102
        replace q102 := eq_true q102
        go_wp2
        repeat (go_quiet (fail); try go_wp2)
        go_ret
        exact ⟨by first | rfl | (simp; done) | (simp [*]; done), by repeat (first | exact Drawn0.refl _ | apply Drawn0.step)⟩
      ·rw [if_neg c6] at H
       exact absurd H (by simp)
     ·rw [if_neg c5] at H
      exact absurd H (by simp)
    ·rw [if_neg c4] at H
     have c4b0 : decide (x5_1 < (l0.length : Int)) = false := decide_eq_false c4
     clear c4
     obtain rfl := Option.some.inj H
     go_wp2
     repeat (go_quiet (fail); try go_wp2)
     go_ret
     exact ⟨by first | rfl | (simp; done) | (simp [*]; done), by repeat (first | exact Drawn0.refl _ | apply Drawn0.step)⟩
 ·rw [if_neg c3] at H
  have c3b0 : ((l0.length : Int) == (l1.length : Int)) = false := beq_eq_false_iff_ne.mpr c3
  have c3b1 : ((l0.length : Int) != (l1.length : Int)) = true := bne_iff_ne.mpr c3
  have c3b2 : (l0.length == l1.length) = false := by first | simpa using c3 | (simp at c3 ⊢; omega)
  obtain rfl := Option.some.inj H
  go_enter Try.func13, Try.ntmps13
  go_wp2
  repeat (go_quiet (fail); try go_wp2)
  go_ret
  exact ⟨by first | rfl | (simp; done) | (simp [*]; done), by repeat (first | exact Drawn0.refl _ | apply Drawn0.step)⟩
def laws_eqWindow.f (k : Nat) (a0_0 : Int) (l0_1 : List Int) (a1_0 : Int) (l1_1 : List Int) : Option (Bool) := if a0_0 = a1_0 then ((laws_eqIntS.f k l0_1 l1_1).bind fun t103 => (if t103 = true then (some true) else (some false))) else (some false)
set_option maxHeartbeats 8000000 in
set_option maxRecDepth 100000 in
theorem laws_eqWindow.calls (k : Nat) (a0_0 : Int) (A0_1 : Option Addr) (c0_1 : Nat) (l0_1 : List Int) (a1_0 : Int) (A1_1 : Option Addr) (c1_1 : Nat) (l1_1 : List Int) (r : Bool) (w : World) (hr0_1 : Kd.C (Kd.int .i64) w A0_1 l0_1.length l0_1) (hc0_1 : l0_1.length ≤ c0_1) (hr1_1 : Kd.C (Kd.int .i64) w A1_1 l1_1.length l1_1) (hc1_1 : l1_1.length ≤ c1_1) (h : laws_eqWindow.f k a0_0 l0_1 a1_0 l1_1 = some r) :
  Calls Try.prog 26 #[.agg #[.int .i64 a0_0, .slice A0_1 l0_1.length c0_1], .agg #[.int .i64 a1_0, .slice A1_1 l1_1.length c1_1]] w fun e w' => e = .returned (.bool r) ∧ Below w.heap.size w w' := by
 have hu31 := Try.underlying31
 have HR0_1 := Aside0.mk hr0_1
 have HC0_1 := Aside0.mk hc0_1
 clear hr0_1 hc0_1
 have HR1_1 := Aside0.mk hr1_1
 have HC1_1 := Aside0.mk hc1_1
 clear hr1_1 hc1_1
 have HB := am (Below.refl w.heap.size w)
 have H : (if a0_0 = a1_0 then ((laws_eqIntS.f k l0_1 l1_1).bind fun t103 => (if t103 = true then (some true) else (some false))) else (some false)) = some r := h
 clear h
 by_cases c3 : a0_0 = a1_0
 ·rw [if_pos c3] at H
  have c3b0 : (a0_0 == a1_0) = true := beq_iff_eq.mpr c3
  have c3b1 : (a0_0 != a1_0) = false := bne_eq_false_iff_eq.mpr c3
  clear c3
  replace H := Option.bind_eq_some_iff.mp H
  obtain ⟨t103, A40, H⟩ := H
  replace H : (if t103 = true then (some true) else (some false)) = some r := H
  have A4 := Aside0.mk A40
  clear A40
  by_cases c5 : t103 = true
  ·subst c5
   have H1 : (some true) = some r := by rw [if_pos rfl] at H; exact H
   clear H
   have H := H1
   clear H1
   obtain rfl := Option.some.inj H
   go_enter Try.func26, Try.ntmps26
   go_wp2_with (first | ((with_reducible refine gate_dst (N := 2) rfl ?_); refine box_event rfl (N := 2) rfl (cs := #[.int .i64 a0_0, .slice A0_1 l0_1.length c0_1]) (t := 31) BX ?_; intro gb101 hg w6 hbox hb; have BK101 := am (hbox); have GW101 := am (GH HB hg); have GE101 := GW101; replace HB := am (below_step (KL HB) hb); clear hb hbox hg) | ((with_reducible refine gate_dst (N := 3) rfl ?_); refine box_event rfl (N := 3) rfl (cs := #[.int .i64 a1_0, .slice A1_1 l1_1.length c1_1]) (t := 31) BX ?_; intro gb102 hg w7 hbox hb; have BK102 := am (hbox); have GW102 := am (GH1 HB GE101.out hg); have GE102 := GW102; replace HB := am (below_step (K1 HB GE101.out) hb); have NB101_102 := am (NL BK101 hg); have NB102_101 := am (NG BK101 hg); replace BK101 := am (BB BK101 hb); clear hb hbox hg; have hnb8 := NB101_102.out; have hnc8 := NB102_101.out; obtain ⟨hcz9_0, hcz9_1, hfz9_0⟩ := y2 w7 BK101.out; obtain ⟨hcz10_0, hcz10_1, hfz10_0⟩ := y2 w7 BK102.out) | ((with_reducible refine gate_callee (f := 13) rfl ?_); refine goesL_ (some 14) rfl rfl Try.func13 (by kernel_rfl) rfl #[.slice A0_1 l0_1.length c0_1, .slice A1_1 l1_1.length c1_1] rfl MT ?_; (with_reducible refine (laws_eqIntS.calls k _ _ l0_1 _ _ l1_1 true _ ?side1 ?side2 ?side3 ?side4 A4.out).mono ?_); (case side1 => exact KD HR0_1 HB); (case side2 => exact HC0_1.out); (case side3 => exact KD HR1_1 HB); (case side4 => exact HC1_1.out); rintro e w' ⟨rfl, ⟨nd, rfl⟩⟩; refine ⟨_, rfl, ?_⟩))
   go_ret
   exact ⟨ER, K2 HB GE101.out GE102.out⟩
  ·replace c5 := Bool.eq_false_iff.mpr c5
   subst c5
   have H1 : (some false) = some r := by rw [if_neg (show ¬ (false = true) by decide)] at H; exact H
   clear H
   have H := H1
   clear H1
   obtain rfl := Option.some.inj H
   go_enter Try.func26, Try.ntmps26
   go_wp2_with (first | ((with_reducible refine gate_dst (N := 2) rfl ?_); refine box_event rfl (N := 2) rfl (cs := #[.int .i64 a0_0, .slice A0_1 l0_1.length c0_1]) (t := 31) BX ?_; intro gb101 hg w11 hbox hb; have BK101 := am (hbox); have GW101 := am (GH HB hg); have GE101 := GW101; replace HB := am (below_step (KL HB) hb); clear hb hbox hg) | ((with_reducible refine gate_dst (N := 3) rfl ?_); refine box_event rfl (N := 3) rfl (cs := #[.int .i64 a1_0, .slice A1_1 l1_1.length c1_1]) (t := 31) BX ?_; intro gb102 hg w12 hbox hb; have BK102 := am (hbox); have GW102 := am (GH1 HB GE101.out hg); have GE102 := GW102; replace HB := am (below_step (K1 HB GE101.out) hb); have NB101_102 := am (NL BK101 hg); have NB102_101 := am (NG BK101 hg); replace BK101 := am (BB BK101 hb); clear hb hbox hg; have hnb13 := NB101_102.out; have hnc13 := NB102_101.out; obtain ⟨hcz14_0, hcz14_1, hfz14_0⟩ := y2 w12 BK101.out; obtain ⟨hcz15_0, hcz15_1, hfz15_0⟩ := y2 w12 BK102.out) | ((with_reducible refine gate_callee (f := 13) rfl ?_); refine goesL_ (some 14) rfl rfl Try.func13 (by kernel_rfl) rfl #[.slice A0_1 l0_1.length c0_1, .slice A1_1 l1_1.length c1_1] rfl MT ?_; (with_reducible refine (laws_eqIntS.calls k _ _ l0_1 _ _ l1_1 false _ ?side1 ?side2 ?side3 ?side4 A4.out).mono ?_); (case side1 => exact KD HR0_1 HB); (case side2 => exact HC0_1.out); (case side3 => exact KD HR1_1 HB); (case side4 => exact HC1_1.out); rintro e w' ⟨rfl, ⟨nd, rfl⟩⟩; refine ⟨_, rfl, ?_⟩))
   go_ret
   exact ⟨ER, K2 HB GE101.out GE102.out⟩
 ·rw [if_neg c3] at H
  have c3b0 : (a0_0 == a1_0) = false := beq_eq_false_iff_ne.mpr c3
  have c3b1 : (a0_0 != a1_0) = true := bne_iff_ne.mpr c3
  obtain rfl := Option.some.inj H
  go_enter Try.func26, Try.ntmps26
  go_wp2_with (first | ((with_reducible refine gate_dst (N := 2) rfl ?_); refine box_event rfl (N := 2) rfl (cs := #[.int .i64 a0_0, .slice A0_1 l0_1.length c0_1]) (t := 31) BX ?_; intro gb101 hg w16 hbox hb; have BK101 := am (hbox); have GW101 := am (GH HB hg); have GE101 := GW101; replace HB := am (below_step (KL HB) hb); clear hb hbox hg) | ((with_reducible refine gate_dst (N := 3) rfl ?_); refine box_event rfl (N := 3) rfl (cs := #[.int .i64 a1_0, .slice A1_1 l1_1.length c1_1]) (t := 31) BX ?_; intro gb102 hg w17 hbox hb; have BK102 := am (hbox); have GW102 := am (GH1 HB GE101.out hg); have GE102 := GW102; replace HB := am (below_step (K1 HB GE101.out) hb); have NB101_102 := am (NL BK101 hg); have NB102_101 := am (NG BK101 hg); replace BK101 := am (BB BK101 hb); clear hb hbox hg; have hnb18 := NB101_102.out; have hnc18 := NB102_101.out; obtain ⟨hcz19_0, hcz19_1, hfz19_0⟩ := y2 w17 BK101.out; obtain ⟨hcz20_0, hcz20_1, hfz20_0⟩ := y2 w17 BK102.out))
  go_ret
  exact ⟨ER, K2 HB GE101.out GE102.out⟩
def laws_eqSa.f (k : Nat) (a0_0 : Int) (a0_1 : Int) (a0_2 : ByteArray) (a0_3 : ByteArray) (a0_4 : Int) (a0_5 : Int) (a0_6 : Int) (a0_7 : Int) (a0_8 : Int) (a0_9 : Int) (l0_10 : List Int) (a1_0 : Int) (a1_1 : Int) (a1_2 : ByteArray) (a1_3 : ByteArray) (a1_4 : Int) (a1_5 : Int) (a1_6 : Int) (a1_7 : Int) (a1_8 : Int) (a1_9 : Int) (l1_10 : List Int) : Option (Bool) := if a0_0 = a1_0 then (if a0_1 = a1_1 then (if a0_2.toList = a1_2.toList then (if a0_3.toList = a1_3.toList then (if a0_4 = a1_4 then (if a0_5 = a1_5 then (if a0_6 = a1_6 then (if a0_7 = a1_7 then (if a0_8 = a1_8 then ((laws_eqWindow.f k a0_9 l0_10 a1_9 l1_10).bind fun t103 => (if t103 = true then (some true) else (some false))) else (some false)) else (some false)) else (some false)) else (some false)) else (some false)) else (some false)) else (some false)) else (some false)) else (some false)
set_option maxHeartbeats 8000000 in
set_option maxRecDepth 100000 in
theorem laws_eqSa.calls (k : Nat) (a0_0 : Int) (a0_1 : Int) (a0_2 : ByteArray) (a0_3 : ByteArray) (a0_4 : Int) (a0_5 : Int) (a0_6 : Int) (a0_7 : Int) (a0_8 : Int) (a0_9 : Int) (A0_10 : Option Addr) (c0_10 : Nat) (l0_10 : List Int) (a1_0 : Int) (a1_1 : Int) (a1_2 : ByteArray) (a1_3 : ByteArray) (a1_4 : Int) (a1_5 : Int) (a1_6 : Int) (a1_7 : Int) (a1_8 : Int) (a1_9 : Int) (A1_10 : Option Addr) (c1_10 : Nat) (l1_10 : List Int) (r : Bool) (w : World) (hr0_10 : Kd.C (Kd.int .i64) w A0_10 l0_10.length l0_10) (hc0_10 : l0_10.length ≤ c0_10) (hr1_10 : Kd.C (Kd.int .i64) w A1_10 l1_10.length l1_10) (hc1_10 : l1_10.length ≤ c1_10) (h : laws_eqSa.f k a0_0 a0_1 a0_2 a0_3 a0_4 a0_5 a0_6 a0_7 a0_8 a0_9 l0_10 a1_0 a1_1 a1_2 a1_3 a1_4 a1_5 a1_6 a1_7 a1_8 a1_9 l1_10 = some r) :
  Calls Try.prog 114 #[.agg #[.int .i64 a0_0, .int .i64 a0_1, .string a0_2, .string a0_3, .int .i64 a0_4, .int .i64 a0_5, .int .i64 a0_6, .int .i64 a0_7, .int .i64 a0_8, .int .i64 a0_9, .slice A0_10 l0_10.length c0_10], .agg #[.int .i64 a1_0, .int .i64 a1_1, .string a1_2, .string a1_3, .int .i64 a1_4, .int .i64 a1_5, .int .i64 a1_6, .int .i64 a1_7, .int .i64 a1_8, .int .i64 a1_9, .slice A1_10 l1_10.length c1_10]] w fun e w' => e = .returned (.bool r) ∧ Below w.heap.size w w' := by
 have hu95 := Try.underlying95
 have hu31 := Try.underlying31
 have HR0_10 := Aside0.mk hr0_10
 have HC0_10 := Aside0.mk hc0_10
 clear hr0_10 hc0_10
 have HR1_10 := Aside0.mk hr1_10
 have HC1_10 := Aside0.mk hc1_10
 clear hr1_10 hc1_10
 have HB := am (Below.refl w.heap.size w)
 have H : (if a0_0 = a1_0 then (if a0_1 = a1_1 then (if a0_2.toList = a1_2.toList then (if a0_3.toList = a1_3.toList then (if a0_4 = a1_4 then (if a0_5 = a1_5 then (if a0_6 = a1_6 then (if a0_7 = a1_7 then (if a0_8 = a1_8 then ((laws_eqWindow.f k a0_9 l0_10 a1_9 l1_10).bind fun t103 => (if t103 = true then (some true) else (some false))) else (some false)) else (some false)) else (some false)) else (some false)) else (some false)) else (some false)) else (some false)) else (some false)) else (some false)) = some r := h
 clear h
 by_cases c3 : a0_0 = a1_0
 ·rw [if_pos c3] at H
  have c3b0 : (a0_0 == a1_0) = true := beq_iff_eq.mpr c3
  have c3b1 : (a0_0 != a1_0) = false := bne_eq_false_iff_eq.mpr c3
  clear c3
  by_cases c4 : a0_1 = a1_1
  ·rw [if_pos c4] at H
   have c4b0 : (a0_1 == a1_1) = true := beq_iff_eq.mpr c4
   have c4b1 : (a0_1 != a1_1) = false := bne_eq_false_iff_eq.mpr c4
   clear c4
   by_cases c5 : a0_2.toList = a1_2.toList
   ·rw [if_pos c5] at H
    have c5b0 : (a0_2.toList == a1_2.toList) = true := beq_iff_eq.mpr c5
    have c5b1 : (a0_2.toList != a1_2.toList) = false := bne_eq_false_iff_eq.mpr c5
    clear c5
    by_cases c6 : a0_3.toList = a1_3.toList
    ·rw [if_pos c6] at H
     have c6b0 : (a0_3.toList == a1_3.toList) = true := beq_iff_eq.mpr c6
     have c6b1 : (a0_3.toList != a1_3.toList) = false := bne_eq_false_iff_eq.mpr c6
     clear c6
     by_cases c7 : a0_4 = a1_4
     ·rw [if_pos c7] at H
      have c7b0 : (a0_4 == a1_4) = true := beq_iff_eq.mpr c7
      have c7b1 : (a0_4 != a1_4) = false := bne_eq_false_iff_eq.mpr c7
      clear c7
      by_cases c8 : a0_5 = a1_5
      ·rw [if_pos c8] at H
       have c8b0 : (a0_5 == a1_5) = true := beq_iff_eq.mpr c8
       have c8b1 : (a0_5 != a1_5) = false := bne_eq_false_iff_eq.mpr c8
       clear c8
       by_cases c9 : a0_6 = a1_6
       ·rw [if_pos c9] at H
        have c9b0 : (a0_6 == a1_6) = true := beq_iff_eq.mpr c9
        have c9b1 : (a0_6 != a1_6) = false := bne_eq_false_iff_eq.mpr c9
        clear c9
        by_cases c10 : a0_7 = a1_7
        ·rw [if_pos c10] at H
         have c10b0 : (a0_7 == a1_7) = true := beq_iff_eq.mpr c10
         have c10b1 : (a0_7 != a1_7) = false := bne_eq_false_iff_eq.mpr c10
         clear c10
         by_cases c11 : a0_8 = a1_8
         ·rw [if_pos c11] at H
          have c11b0 : (a0_8 == a1_8) = true := beq_iff_eq.mpr c11
          have c11b1 : (a0_8 != a1_8) = false := bne_eq_false_iff_eq.mpr c11
          clear c11
          replace H := Option.bind_eq_some_iff.mp H
          obtain ⟨t103, A120, H⟩ := H
          replace H : (if t103 = true then (some true) else (some false)) = some r := H
          have A12 := Aside0.mk A120
          clear A120
          by_cases c13 : t103 = true
          ·subst c13
           have H1 : (some true) = some r := by rw [if_pos rfl] at H; exact H
           clear H
           have H := H1
           clear H1
           obtain rfl := Option.some.inj H
           go_enter Try.func114, Try.ntmps114
           go_wp2_with (first | ((with_reducible refine gate_dst (N := 2) rfl ?_); refine box_event rfl (N := 2) rfl (cs := #[.int .i64 a0_0, .int .i64 a0_1, .string a0_2, .string a0_3, .int .i64 a0_4, .int .i64 a0_5, .int .i64 a0_6, .int .i64 a0_7, .int .i64 a0_8, .int .i64 a0_9, .slice A0_10 l0_10.length c0_10]) (t := 95) BX ?_; intro gb101 hg w14 hbox hb; have BK101 := am (hbox); have GW101 := am (GH HB hg); have GE101 := GW101; replace HB := am (below_step (KL HB) hb); clear hb hbox hg) | ((with_reducible refine gate_dst (N := 3) rfl ?_); refine box_event rfl (N := 3) rfl (cs := #[.int .i64 a1_0, .int .i64 a1_1, .string a1_2, .string a1_3, .int .i64 a1_4, .int .i64 a1_5, .int .i64 a1_6, .int .i64 a1_7, .int .i64 a1_8, .int .i64 a1_9, .slice A1_10 l1_10.length c1_10]) (t := 95) BX ?_; intro gb102 hg w15 hbox hb; have BK102 := am (hbox); have GW102 := am (GH1 HB GE101.out hg); have GE102 := GW102; replace HB := am (below_step (K1 HB GE101.out) hb); have NB101_102 := am (NL BK101 hg); have NB102_101 := am (NG BK101 hg); replace BK101 := am (BB BK101 hb); clear hb hbox hg; have hnb16 := NB101_102.out; have hnc16 := NB102_101.out; obtain ⟨hcz17_0, hcz17_1, hcz17_2, hcz17_3, hcz17_4, hcz17_5, hcz17_6, hcz17_7, hcz17_8, hcz17_9, hcz17_10, hfz17_0⟩ := y11 w15 BK101.out; obtain ⟨hcz18_0, hcz18_1, hcz18_2, hcz18_3, hcz18_4, hcz18_5, hcz18_6, hcz18_7, hcz18_8, hcz18_9, hcz18_10, hfz18_0⟩ := y11 w15 BK102.out) | ((with_reducible refine gate_callee (f := 26) rfl ?_); refine goesL_ (some 54) rfl rfl Try.func26 (by kernel_rfl) rfl #[.agg #[.int .i64 a0_9, .slice A0_10 l0_10.length c0_10], .agg #[.int .i64 a1_9, .slice A1_10 l1_10.length c1_10]] rfl MT ?_; (with_reducible refine (laws_eqWindow.calls k a0_9 _ _ l0_10 a1_9 _ _ l1_10 true _ ?side1 ?side2 ?side3 ?side4 A12.out).mono ?_); (case side1 => exact KD HR0_10 HB); (case side2 => exact HC0_10.out); (case side3 => exact KD HR1_10 HB); (case side4 => exact HC1_10.out); rintro e w19 ⟨rfl, hb⟩; refine ⟨_, rfl, ?_⟩; replace BK101 := am (BB BK101 hb); replace BK102 := am (BB BK102 hb); replace HB := am (below_step (K2 HB GE101.out GE102.out) hb); (try clear hb); (try clear hb2); (try clear hk); (try clear hi)))
           go_ret
           exact ⟨ER, K2 HB GE101.out GE102.out⟩
          ·replace c13 := Bool.eq_false_iff.mpr c13
           subst c13
           have H1 : (some false) = some r := by rw [if_neg (show ¬ (false = true) by decide)] at H; exact H
           clear H
           have H := H1
           clear H1
           obtain rfl := Option.some.inj H
           go_enter Try.func114, Try.ntmps114
           go_wp2_with (first | ((with_reducible refine gate_dst (N := 2) rfl ?_); refine box_event rfl (N := 2) rfl (cs := #[.int .i64 a0_0, .int .i64 a0_1, .string a0_2, .string a0_3, .int .i64 a0_4, .int .i64 a0_5, .int .i64 a0_6, .int .i64 a0_7, .int .i64 a0_8, .int .i64 a0_9, .slice A0_10 l0_10.length c0_10]) (t := 95) BX ?_; intro gb101 hg w20 hbox hb; have BK101 := am (hbox); have GW101 := am (GH HB hg); have GE101 := GW101; replace HB := am (below_step (KL HB) hb); clear hb hbox hg) | ((with_reducible refine gate_dst (N := 3) rfl ?_); refine box_event rfl (N := 3) rfl (cs := #[.int .i64 a1_0, .int .i64 a1_1, .string a1_2, .string a1_3, .int .i64 a1_4, .int .i64 a1_5, .int .i64 a1_6, .int .i64 a1_7, .int .i64 a1_8, .int .i64 a1_9, .slice A1_10 l1_10.length c1_10]) (t := 95) BX ?_; intro gb102 hg w21 hbox hb; have BK102 := am (hbox); have GW102 := am (GH1 HB GE101.out hg); have GE102 := GW102; replace HB := am (below_step (K1 HB GE101.out) hb); have NB101_102 := am (NL BK101 hg); have NB102_101 := am (NG BK101 hg); replace BK101 := am (BB BK101 hb); clear hb hbox hg; have hnb22 := NB101_102.out; have hnc22 := NB102_101.out; obtain ⟨hcz23_0, hcz23_1, hcz23_2, hcz23_3, hcz23_4, hcz23_5, hcz23_6, hcz23_7, hcz23_8, hcz23_9, hcz23_10, hfz23_0⟩ := y11 w21 BK101.out; obtain ⟨hcz24_0, hcz24_1, hcz24_2, hcz24_3, hcz24_4, hcz24_5, hcz24_6, hcz24_7, hcz24_8, hcz24_9, hcz24_10, hfz24_0⟩ := y11 w21 BK102.out) | ((with_reducible refine gate_callee (f := 26) rfl ?_); refine goesL_ (some 54) rfl rfl Try.func26 (by kernel_rfl) rfl #[.agg #[.int .i64 a0_9, .slice A0_10 l0_10.length c0_10], .agg #[.int .i64 a1_9, .slice A1_10 l1_10.length c1_10]] rfl MT ?_; (with_reducible refine (laws_eqWindow.calls k a0_9 _ _ l0_10 a1_9 _ _ l1_10 false _ ?side1 ?side2 ?side3 ?side4 A12.out).mono ?_); (case side1 => exact KD HR0_10 HB); (case side2 => exact HC0_10.out); (case side3 => exact KD HR1_10 HB); (case side4 => exact HC1_10.out); rintro e w25 ⟨rfl, hb⟩; refine ⟨_, rfl, ?_⟩; replace BK101 := am (BB BK101 hb); replace BK102 := am (BB BK102 hb); replace HB := am (below_step (K2 HB GE101.out GE102.out) hb); (try clear hb); (try clear hb2); (try clear hk); (try clear hi)))
           go_ret
           exact ⟨ER, K2 HB GE101.out GE102.out⟩
         ·rw [if_neg c11] at H
          have c11b0 : (a0_8 == a1_8) = false := beq_eq_false_iff_ne.mpr c11
          have c11b1 : (a0_8 != a1_8) = true := bne_iff_ne.mpr c11
          obtain rfl := Option.some.inj H
          go_enter Try.func114, Try.ntmps114
          go_wp2_with (first | ((with_reducible refine gate_dst (N := 2) rfl ?_); refine box_event rfl (N := 2) rfl (cs := #[.int .i64 a0_0, .int .i64 a0_1, .string a0_2, .string a0_3, .int .i64 a0_4, .int .i64 a0_5, .int .i64 a0_6, .int .i64 a0_7, .int .i64 a0_8, .int .i64 a0_9, .slice A0_10 l0_10.length c0_10]) (t := 95) BX ?_; intro gb101 hg w26 hbox hb; have BK101 := am (hbox); have GW101 := am (GH HB hg); have GE101 := GW101; replace HB := am (below_step (KL HB) hb); clear hb hbox hg) | ((with_reducible refine gate_dst (N := 3) rfl ?_); refine box_event rfl (N := 3) rfl (cs := #[.int .i64 a1_0, .int .i64 a1_1, .string a1_2, .string a1_3, .int .i64 a1_4, .int .i64 a1_5, .int .i64 a1_6, .int .i64 a1_7, .int .i64 a1_8, .int .i64 a1_9, .slice A1_10 l1_10.length c1_10]) (t := 95) BX ?_; intro gb102 hg w27 hbox hb; have BK102 := am (hbox); have GW102 := am (GH1 HB GE101.out hg); have GE102 := GW102; replace HB := am (below_step (K1 HB GE101.out) hb); have NB101_102 := am (NL BK101 hg); have NB102_101 := am (NG BK101 hg); replace BK101 := am (BB BK101 hb); clear hb hbox hg; have hnb28 := NB101_102.out; have hnc28 := NB102_101.out; obtain ⟨hcz29_0, hcz29_1, hcz29_2, hcz29_3, hcz29_4, hcz29_5, hcz29_6, hcz29_7, hcz29_8, hcz29_9, hcz29_10, hfz29_0⟩ := y11 w27 BK101.out; obtain ⟨hcz30_0, hcz30_1, hcz30_2, hcz30_3, hcz30_4, hcz30_5, hcz30_6, hcz30_7, hcz30_8, hcz30_9, hcz30_10, hfz30_0⟩ := y11 w27 BK102.out))
          go_ret
          exact ⟨ER, K2 HB GE101.out GE102.out⟩
        ·rw [if_neg c10] at H
         have c10b0 : (a0_7 == a1_7) = false := beq_eq_false_iff_ne.mpr c10
         have c10b1 : (a0_7 != a1_7) = true := bne_iff_ne.mpr c10
         obtain rfl := Option.some.inj H
         go_enter Try.func114, Try.ntmps114
         go_wp2_with (first | ((with_reducible refine gate_dst (N := 2) rfl ?_); refine box_event rfl (N := 2) rfl (cs := #[.int .i64 a0_0, .int .i64 a0_1, .string a0_2, .string a0_3, .int .i64 a0_4, .int .i64 a0_5, .int .i64 a0_6, .int .i64 a0_7, .int .i64 a0_8, .int .i64 a0_9, .slice A0_10 l0_10.length c0_10]) (t := 95) BX ?_; intro gb101 hg w31 hbox hb; have BK101 := am (hbox); have GW101 := am (GH HB hg); have GE101 := GW101; replace HB := am (below_step (KL HB) hb); clear hb hbox hg) | ((with_reducible refine gate_dst (N := 3) rfl ?_); refine box_event rfl (N := 3) rfl (cs := #[.int .i64 a1_0, .int .i64 a1_1, .string a1_2, .string a1_3, .int .i64 a1_4, .int .i64 a1_5, .int .i64 a1_6, .int .i64 a1_7, .int .i64 a1_8, .int .i64 a1_9, .slice A1_10 l1_10.length c1_10]) (t := 95) BX ?_; intro gb102 hg w32 hbox hb; have BK102 := am (hbox); have GW102 := am (GH1 HB GE101.out hg); have GE102 := GW102; replace HB := am (below_step (K1 HB GE101.out) hb); have NB101_102 := am (NL BK101 hg); have NB102_101 := am (NG BK101 hg); replace BK101 := am (BB BK101 hb); clear hb hbox hg; have hnb33 := NB101_102.out; have hnc33 := NB102_101.out; obtain ⟨hcz34_0, hcz34_1, hcz34_2, hcz34_3, hcz34_4, hcz34_5, hcz34_6, hcz34_7, hcz34_8, hcz34_9, hcz34_10, hfz34_0⟩ := y11 w32 BK101.out; obtain ⟨hcz35_0, hcz35_1, hcz35_2, hcz35_3, hcz35_4, hcz35_5, hcz35_6, hcz35_7, hcz35_8, hcz35_9, hcz35_10, hfz35_0⟩ := y11 w32 BK102.out))
         go_ret
         exact ⟨ER, K2 HB GE101.out GE102.out⟩
       ·rw [if_neg c9] at H
        have c9b0 : (a0_6 == a1_6) = false := beq_eq_false_iff_ne.mpr c9
        have c9b1 : (a0_6 != a1_6) = true := bne_iff_ne.mpr c9
        obtain rfl := Option.some.inj H
        go_enter Try.func114, Try.ntmps114
        go_wp2_with (first | ((with_reducible refine gate_dst (N := 2) rfl ?_); refine box_event rfl (N := 2) rfl (cs := #[.int .i64 a0_0, .int .i64 a0_1, .string a0_2, .string a0_3, .int .i64 a0_4, .int .i64 a0_5, .int .i64 a0_6, .int .i64 a0_7, .int .i64 a0_8, .int .i64 a0_9, .slice A0_10 l0_10.length c0_10]) (t := 95) BX ?_; intro gb101 hg w36 hbox hb; have BK101 := am (hbox); have GW101 := am (GH HB hg); have GE101 := GW101; replace HB := am (below_step (KL HB) hb); clear hb hbox hg) | ((with_reducible refine gate_dst (N := 3) rfl ?_); refine box_event rfl (N := 3) rfl (cs := #[.int .i64 a1_0, .int .i64 a1_1, .string a1_2, .string a1_3, .int .i64 a1_4, .int .i64 a1_5, .int .i64 a1_6, .int .i64 a1_7, .int .i64 a1_8, .int .i64 a1_9, .slice A1_10 l1_10.length c1_10]) (t := 95) BX ?_; intro gb102 hg w37 hbox hb; have BK102 := am (hbox); have GW102 := am (GH1 HB GE101.out hg); have GE102 := GW102; replace HB := am (below_step (K1 HB GE101.out) hb); have NB101_102 := am (NL BK101 hg); have NB102_101 := am (NG BK101 hg); replace BK101 := am (BB BK101 hb); clear hb hbox hg; have hnb38 := NB101_102.out; have hnc38 := NB102_101.out; obtain ⟨hcz39_0, hcz39_1, hcz39_2, hcz39_3, hcz39_4, hcz39_5, hcz39_6, hcz39_7, hcz39_8, hcz39_9, hcz39_10, hfz39_0⟩ := y11 w37 BK101.out; obtain ⟨hcz40_0, hcz40_1, hcz40_2, hcz40_3, hcz40_4, hcz40_5, hcz40_6, hcz40_7, hcz40_8, hcz40_9, hcz40_10, hfz40_0⟩ := y11 w37 BK102.out))
        go_ret
        exact ⟨ER, K2 HB GE101.out GE102.out⟩
      ·rw [if_neg c8] at H
       have c8b0 : (a0_5 == a1_5) = false := beq_eq_false_iff_ne.mpr c8
       have c8b1 : (a0_5 != a1_5) = true := bne_iff_ne.mpr c8
       obtain rfl := Option.some.inj H
       go_enter Try.func114, Try.ntmps114
       go_wp2_with (first | ((with_reducible refine gate_dst (N := 2) rfl ?_); refine box_event rfl (N := 2) rfl (cs := #[.int .i64 a0_0, .int .i64 a0_1, .string a0_2, .string a0_3, .int .i64 a0_4, .int .i64 a0_5, .int .i64 a0_6, .int .i64 a0_7, .int .i64 a0_8, .int .i64 a0_9, .slice A0_10 l0_10.length c0_10]) (t := 95) BX ?_; intro gb101 hg w41 hbox hb; have BK101 := am (hbox); have GW101 := am (GH HB hg); have GE101 := GW101; replace HB := am (below_step (KL HB) hb); clear hb hbox hg) | ((with_reducible refine gate_dst (N := 3) rfl ?_); refine box_event rfl (N := 3) rfl (cs := #[.int .i64 a1_0, .int .i64 a1_1, .string a1_2, .string a1_3, .int .i64 a1_4, .int .i64 a1_5, .int .i64 a1_6, .int .i64 a1_7, .int .i64 a1_8, .int .i64 a1_9, .slice A1_10 l1_10.length c1_10]) (t := 95) BX ?_; intro gb102 hg w42 hbox hb; have BK102 := am (hbox); have GW102 := am (GH1 HB GE101.out hg); have GE102 := GW102; replace HB := am (below_step (K1 HB GE101.out) hb); have NB101_102 := am (NL BK101 hg); have NB102_101 := am (NG BK101 hg); replace BK101 := am (BB BK101 hb); clear hb hbox hg; have hnb43 := NB101_102.out; have hnc43 := NB102_101.out; obtain ⟨hcz44_0, hcz44_1, hcz44_2, hcz44_3, hcz44_4, hcz44_5, hcz44_6, hcz44_7, hcz44_8, hcz44_9, hcz44_10, hfz44_0⟩ := y11 w42 BK101.out; obtain ⟨hcz45_0, hcz45_1, hcz45_2, hcz45_3, hcz45_4, hcz45_5, hcz45_6, hcz45_7, hcz45_8, hcz45_9, hcz45_10, hfz45_0⟩ := y11 w42 BK102.out))
       go_ret
       exact ⟨ER, K2 HB GE101.out GE102.out⟩
     ·rw [if_neg c7] at H
      have c7b0 : (a0_4 == a1_4) = false := beq_eq_false_iff_ne.mpr c7
      have c7b1 : (a0_4 != a1_4) = true := bne_iff_ne.mpr c7
      obtain rfl := Option.some.inj H
      go_enter Try.func114, Try.ntmps114
      go_wp2_with (first | ((with_reducible refine gate_dst (N := 2) rfl ?_); refine box_event rfl (N := 2) rfl (cs := #[.int .i64 a0_0, .int .i64 a0_1, .string a0_2, .string a0_3, .int .i64 a0_4, .int .i64 a0_5, .int .i64 a0_6, .int .i64 a0_7, .int .i64 a0_8, .int .i64 a0_9, .slice A0_10 l0_10.length c0_10]) (t := 95) BX ?_; intro gb101 hg w46 hbox hb; have BK101 := am (hbox); have GW101 := am (GH HB hg); have GE101 := GW101; replace HB := am (below_step (KL HB) hb); clear hb hbox hg) | ((with_reducible refine gate_dst (N := 3) rfl ?_); refine box_event rfl (N := 3) rfl (cs := #[.int .i64 a1_0, .int .i64 a1_1, .string a1_2, .string a1_3, .int .i64 a1_4, .int .i64 a1_5, .int .i64 a1_6, .int .i64 a1_7, .int .i64 a1_8, .int .i64 a1_9, .slice A1_10 l1_10.length c1_10]) (t := 95) BX ?_; intro gb102 hg w47 hbox hb; have BK102 := am (hbox); have GW102 := am (GH1 HB GE101.out hg); have GE102 := GW102; replace HB := am (below_step (K1 HB GE101.out) hb); have NB101_102 := am (NL BK101 hg); have NB102_101 := am (NG BK101 hg); replace BK101 := am (BB BK101 hb); clear hb hbox hg; have hnb48 := NB101_102.out; have hnc48 := NB102_101.out; obtain ⟨hcz49_0, hcz49_1, hcz49_2, hcz49_3, hcz49_4, hcz49_5, hcz49_6, hcz49_7, hcz49_8, hcz49_9, hcz49_10, hfz49_0⟩ := y11 w47 BK101.out; obtain ⟨hcz50_0, hcz50_1, hcz50_2, hcz50_3, hcz50_4, hcz50_5, hcz50_6, hcz50_7, hcz50_8, hcz50_9, hcz50_10, hfz50_0⟩ := y11 w47 BK102.out))
      go_ret
      exact ⟨ER, K2 HB GE101.out GE102.out⟩
    ·rw [if_neg c6] at H
     have c6b0 : (a0_3.toList == a1_3.toList) = false := beq_eq_false_iff_ne.mpr c6
     have c6b1 : (a0_3.toList != a1_3.toList) = true := bne_iff_ne.mpr c6
     obtain rfl := Option.some.inj H
     go_enter Try.func114, Try.ntmps114
     go_wp2_with (first | ((with_reducible refine gate_dst (N := 2) rfl ?_); refine box_event rfl (N := 2) rfl (cs := #[.int .i64 a0_0, .int .i64 a0_1, .string a0_2, .string a0_3, .int .i64 a0_4, .int .i64 a0_5, .int .i64 a0_6, .int .i64 a0_7, .int .i64 a0_8, .int .i64 a0_9, .slice A0_10 l0_10.length c0_10]) (t := 95) BX ?_; intro gb101 hg w51 hbox hb; have BK101 := am (hbox); have GW101 := am (GH HB hg); have GE101 := GW101; replace HB := am (below_step (KL HB) hb); clear hb hbox hg) | ((with_reducible refine gate_dst (N := 3) rfl ?_); refine box_event rfl (N := 3) rfl (cs := #[.int .i64 a1_0, .int .i64 a1_1, .string a1_2, .string a1_3, .int .i64 a1_4, .int .i64 a1_5, .int .i64 a1_6, .int .i64 a1_7, .int .i64 a1_8, .int .i64 a1_9, .slice A1_10 l1_10.length c1_10]) (t := 95) BX ?_; intro gb102 hg w52 hbox hb; have BK102 := am (hbox); have GW102 := am (GH1 HB GE101.out hg); have GE102 := GW102; replace HB := am (below_step (K1 HB GE101.out) hb); have NB101_102 := am (NL BK101 hg); have NB102_101 := am (NG BK101 hg); replace BK101 := am (BB BK101 hb); clear hb hbox hg; have hnb53 := NB101_102.out; have hnc53 := NB102_101.out; obtain ⟨hcz54_0, hcz54_1, hcz54_2, hcz54_3, hcz54_4, hcz54_5, hcz54_6, hcz54_7, hcz54_8, hcz54_9, hcz54_10, hfz54_0⟩ := y11 w52 BK101.out; obtain ⟨hcz55_0, hcz55_1, hcz55_2, hcz55_3, hcz55_4, hcz55_5, hcz55_6, hcz55_7, hcz55_8, hcz55_9, hcz55_10, hfz55_0⟩ := y11 w52 BK102.out))
     go_ret
     exact ⟨ER, K2 HB GE101.out GE102.out⟩
   ·rw [if_neg c5] at H
    have c5b0 : (a0_2.toList == a1_2.toList) = false := beq_eq_false_iff_ne.mpr c5
    have c5b1 : (a0_2.toList != a1_2.toList) = true := bne_iff_ne.mpr c5
    obtain rfl := Option.some.inj H
    go_enter Try.func114, Try.ntmps114
    go_wp2_with (first | ((with_reducible refine gate_dst (N := 2) rfl ?_); refine box_event rfl (N := 2) rfl (cs := #[.int .i64 a0_0, .int .i64 a0_1, .string a0_2, .string a0_3, .int .i64 a0_4, .int .i64 a0_5, .int .i64 a0_6, .int .i64 a0_7, .int .i64 a0_8, .int .i64 a0_9, .slice A0_10 l0_10.length c0_10]) (t := 95) BX ?_; intro gb101 hg w56 hbox hb; have BK101 := am (hbox); have GW101 := am (GH HB hg); have GE101 := GW101; replace HB := am (below_step (KL HB) hb); clear hb hbox hg) | ((with_reducible refine gate_dst (N := 3) rfl ?_); refine box_event rfl (N := 3) rfl (cs := #[.int .i64 a1_0, .int .i64 a1_1, .string a1_2, .string a1_3, .int .i64 a1_4, .int .i64 a1_5, .int .i64 a1_6, .int .i64 a1_7, .int .i64 a1_8, .int .i64 a1_9, .slice A1_10 l1_10.length c1_10]) (t := 95) BX ?_; intro gb102 hg w57 hbox hb; have BK102 := am (hbox); have GW102 := am (GH1 HB GE101.out hg); have GE102 := GW102; replace HB := am (below_step (K1 HB GE101.out) hb); have NB101_102 := am (NL BK101 hg); have NB102_101 := am (NG BK101 hg); replace BK101 := am (BB BK101 hb); clear hb hbox hg; have hnb58 := NB101_102.out; have hnc58 := NB102_101.out; obtain ⟨hcz59_0, hcz59_1, hcz59_2, hcz59_3, hcz59_4, hcz59_5, hcz59_6, hcz59_7, hcz59_8, hcz59_9, hcz59_10, hfz59_0⟩ := y11 w57 BK101.out; obtain ⟨hcz60_0, hcz60_1, hcz60_2, hcz60_3, hcz60_4, hcz60_5, hcz60_6, hcz60_7, hcz60_8, hcz60_9, hcz60_10, hfz60_0⟩ := y11 w57 BK102.out))
    go_ret
    exact ⟨ER, K2 HB GE101.out GE102.out⟩
  ·rw [if_neg c4] at H
   have c4b0 : (a0_1 == a1_1) = false := beq_eq_false_iff_ne.mpr c4
   have c4b1 : (a0_1 != a1_1) = true := bne_iff_ne.mpr c4
   obtain rfl := Option.some.inj H
   go_enter Try.func114, Try.ntmps114
   go_wp2_with (first | ((with_reducible refine gate_dst (N := 2) rfl ?_); refine box_event rfl (N := 2) rfl (cs := #[.int .i64 a0_0, .int .i64 a0_1, .string a0_2, .string a0_3, .int .i64 a0_4, .int .i64 a0_5, .int .i64 a0_6, .int .i64 a0_7, .int .i64 a0_8, .int .i64 a0_9, .slice A0_10 l0_10.length c0_10]) (t := 95) BX ?_; intro gb101 hg w61 hbox hb; have BK101 := am (hbox); have GW101 := am (GH HB hg); have GE101 := GW101; replace HB := am (below_step (KL HB) hb); clear hb hbox hg) | ((with_reducible refine gate_dst (N := 3) rfl ?_); refine box_event rfl (N := 3) rfl (cs := #[.int .i64 a1_0, .int .i64 a1_1, .string a1_2, .string a1_3, .int .i64 a1_4, .int .i64 a1_5, .int .i64 a1_6, .int .i64 a1_7, .int .i64 a1_8, .int .i64 a1_9, .slice A1_10 l1_10.length c1_10]) (t := 95) BX ?_; intro gb102 hg w62 hbox hb; have BK102 := am (hbox); have GW102 := am (GH1 HB GE101.out hg); have GE102 := GW102; replace HB := am (below_step (K1 HB GE101.out) hb); have NB101_102 := am (NL BK101 hg); have NB102_101 := am (NG BK101 hg); replace BK101 := am (BB BK101 hb); clear hb hbox hg; have hnb63 := NB101_102.out; have hnc63 := NB102_101.out; obtain ⟨hcz64_0, hcz64_1, hcz64_2, hcz64_3, hcz64_4, hcz64_5, hcz64_6, hcz64_7, hcz64_8, hcz64_9, hcz64_10, hfz64_0⟩ := y11 w62 BK101.out; obtain ⟨hcz65_0, hcz65_1, hcz65_2, hcz65_3, hcz65_4, hcz65_5, hcz65_6, hcz65_7, hcz65_8, hcz65_9, hcz65_10, hfz65_0⟩ := y11 w62 BK102.out))
   go_ret
   exact ⟨ER, K2 HB GE101.out GE102.out⟩
 ·rw [if_neg c3] at H
  have c3b0 : (a0_0 == a1_0) = false := beq_eq_false_iff_ne.mpr c3
  have c3b1 : (a0_0 != a1_0) = true := bne_iff_ne.mpr c3
  obtain rfl := Option.some.inj H
  go_enter Try.func114, Try.ntmps114
  go_wp2_with (first | ((with_reducible refine gate_dst (N := 2) rfl ?_); refine box_event rfl (N := 2) rfl (cs := #[.int .i64 a0_0, .int .i64 a0_1, .string a0_2, .string a0_3, .int .i64 a0_4, .int .i64 a0_5, .int .i64 a0_6, .int .i64 a0_7, .int .i64 a0_8, .int .i64 a0_9, .slice A0_10 l0_10.length c0_10]) (t := 95) BX ?_; intro gb101 hg w66 hbox hb; have BK101 := am (hbox); have GW101 := am (GH HB hg); have GE101 := GW101; replace HB := am (below_step (KL HB) hb); clear hb hbox hg) | ((with_reducible refine gate_dst (N := 3) rfl ?_); refine box_event rfl (N := 3) rfl (cs := #[.int .i64 a1_0, .int .i64 a1_1, .string a1_2, .string a1_3, .int .i64 a1_4, .int .i64 a1_5, .int .i64 a1_6, .int .i64 a1_7, .int .i64 a1_8, .int .i64 a1_9, .slice A1_10 l1_10.length c1_10]) (t := 95) BX ?_; intro gb102 hg w67 hbox hb; have BK102 := am (hbox); have GW102 := am (GH1 HB GE101.out hg); have GE102 := GW102; replace HB := am (below_step (K1 HB GE101.out) hb); have NB101_102 := am (NL BK101 hg); have NB102_101 := am (NG BK101 hg); replace BK101 := am (BB BK101 hb); clear hb hbox hg; have hnb68 := NB101_102.out; have hnc68 := NB102_101.out; obtain ⟨hcz69_0, hcz69_1, hcz69_2, hcz69_3, hcz69_4, hcz69_5, hcz69_6, hcz69_7, hcz69_8, hcz69_9, hcz69_10, hfz69_0⟩ := y11 w67 BK101.out; obtain ⟨hcz70_0, hcz70_1, hcz70_2, hcz70_3, hcz70_4, hcz70_5, hcz70_6, hcz70_7, hcz70_8, hcz70_9, hcz70_10, hfz70_0⟩ := y11 w67 BK102.out))
  go_ret
  exact ⟨ER, K2 HB GE101.out GE102.out⟩
def laws_eqSaS.l0 : Nat → List (S95) → List (S95) → Int → Option (Bool)
 | 0, _, _, _ => none
 | k + 1, x0, x1, x5 => if x5 < (x0.length : Int) then (if 0 ≤ x5 then (if x5 < (x1.length : Int) then ((laws_eqSa.f k ((rd_T95 x0 x5).f0) ((rd_T95 x0 x5).f1) ((rd_T95 x0 x5).f2) ((rd_T95 x0 x5).f3) ((rd_T95 x0 x5).f4) ((rd_T95 x0 x5).f5) ((rd_T95 x0 x5).f6) ((rd_T95 x0 x5).f7) ((rd_T95 x0 x5).f8) ((rd_T95 x0 x5).f9.f0) ((rd_T95 x0 x5).f9.f1) ((rd_T95 x1 x5).f0) ((rd_T95 x1 x5).f1) ((rd_T95 x1 x5).f2) ((rd_T95 x1 x5).f3) ((rd_T95 x1 x5).f4) ((rd_T95 x1 x5).f5) ((rd_T95 x1 x5).f6) ((rd_T95 x1 x5).f7) ((rd_T95 x1 x5).f8) ((rd_T95 x1 x5).f9.f0) ((rd_T95 x1 x5).f9.f1)).bind fun t103 => (if t103 = true then (laws_eqSaS.l0 k x0 x1 (wrap64 (x5 + 1))) else (some false))) else (none)) else (none)) else (some true)
def laws_eqSaS.f (k : Nat) (l0 : List (S95)) (l1 : List (S95)) : Option (Bool) := if (l0.length : Int) = (l1.length : Int) then (laws_eqSaS.l0 k l0 l1 0) else (some false)
def laws_eqSaS.T6 : Bool × List (List Nat × List Nat) := (true, [([], []), ([], []), ([0, 1], [0, 1]), ([2], [2]), ([], []), ([], []), ([4, 5], [4, 5]), ([6], [6]), ([3, 7], [3, 7]), ([8], [8])])
def laws_eqSaS.B6 : List Nat := [0, 0, 3, 7, 0, 0, 48, 112, 255, 511]
theorem laws_eqSaS.tab6 : rtab .any (opsOf Try.f71 6) = laws_eqSaS.T6 := by kernel_rfl
theorem laws_eqSaS.bits6 : waitsOk laws_eqSaS.T6.2 laws_eqSaS.B6 = true := by kernel_rfl
set_option maxHeartbeats 8000000 in
set_option maxRecDepth 100000 in
theorem laws_eqSaS.calls (k : Nat) (A0 : Option Addr) (c0 : Nat) (l0 : List (S95)) (A1 : Option Addr) (c1 : Nat) (l1 : List (S95)) (r : Bool) (w : World) (hr0 : Kd.C k95 w A0 l0.length l0) (hc0 : l0.length ≤ c0) (hr1 : Kd.C k95 w A1 l1.length l1) (hc1 : l1.length ≤ c1) (h : laws_eqSaS.f k l0 l1 = some r) :
  Calls Try.prog 71 #[.slice A0 l0.length c0, .slice A1 l1.length c1] w fun e w' => e = .returned (.bool r) ∧ Below w.heap.size w w' := by
 have hu95 := Try.underlying95
 have HR0 := Aside0.mk hr0
 have HC0 := Aside0.mk hc0
 clear hr0 hc0
 have HR1 := Aside0.mk hr1
 have HC1 := Aside0.mk hc1
 clear hr1 hc1
 have HB := am (Below.refl w.heap.size w)
 have H : (if (l0.length : Int) = (l1.length : Int) then (laws_eqSaS.l0 k l0 l1 0) else (some false)) = some r := h
 clear h
 by_cases c3 : (l0.length : Int) = (l1.length : Int)
 ·rw [if_pos c3] at H
  have c3b0 : ((l0.length : Int) == (l1.length : Int)) = true := beq_iff_eq.mpr c3
  have c3b1 : ((l0.length : Int) != (l1.length : Int)) = false := bne_eq_false_iff_eq.mpr c3
  have c3b2 : (l0.length == l1.length) = true := by first | simpa using c3 | (simp at c3 ⊢; omega)
  clear c3
  have H' := Aside0.mk H
  clear H
  go_enter Try.func71, Try.ntmps71
  go_wp2
  go_loopg [5] k (fun kq v5 w' => ∃ (x5_1 : Int), v5 = .int .i64 x5_1 ∧ Aside0 (laws_eqSaS.l0 kq l0 l1 x5_1 = some r) ∧ Aside0 (kq ≤ k) ∧ Aside0 (Below w.heap.size w w'))
  case atStart => exact ⟨(0), (by first | rfl | (simp; done) | (simp [*]; done)), H', ⟨Nat.le_refl _⟩, ⟨KL HB⟩⟩
  case round =>
   clear H'
   try clear c1
   try clear p2
   try clear c3
   try clear c3b0
   try clear c3b1
   try clear c3b2
   obtain ⟨x5_1, rfl, HA, HK1, HB⟩ := hrel
   cases gk with
   | zero => exact absurd HA.out (by simp [laws_eqSaS.l0])
   | succ k1 =>
    have H := HA.out
    clear HA
    simp only [laws_eqSaS.l0] at H
    by_cases c4 : x5_1 < (l0.length : Int)
    ·rw [if_pos c4] at H
     have c4b0 : decide (x5_1 < (l0.length : Int)) = true := decide_eq_true c4
     clear c4
     by_cases c5 : 0 ≤ x5_1
     ·rw [if_pos c5] at H
      have c5b0 : decide (0 ≤ x5_1) = true := decide_eq_true c5
      clear c5
      by_cases c6 : x5_1 < (l1.length : Int)
      ·rw [if_pos c6] at H
       have c6b0 : decide (x5_1 < (l1.length : Int)) = true := decide_eq_true c6
       clear c6
       replace H := Option.bind_eq_some_iff.mp H
       obtain ⟨t103, A70, H⟩ := H
       replace H : (if t103 = true then (laws_eqSaS.l0 k1 l0 l1 (wrap64 (x5_1 + 1))) else (some false)) = some r := H
       have A7 := Aside0.mk A70
       clear A70
       by_cases c8 : t103 = true
       ·subst c8
        have H1 : (laws_eqSaS.l0 k1 l0 l1 (wrap64 (x5_1 + 1))) = some r := by rw [if_pos rfl] at H; exact H
        clear H
        have H := H1
        clear H1
        have H' := Aside0.mk H
        clear H
        try go_wp2
        replace HB := am (below_drew1 HB.out)
        have p101 : 0 ≤ (x5_1 : Int) := OD
        have q101 : x5_1 < (l0.length : Int) := OD
        obtain ⟨ad101, A101_10, c101_10, e101, hx101_0, hx101_1, hx101_2, hx101_3, hx101_4, hx101_5, hx101_6, hx101_7, hx101_8, hx101_9, hx101_10, hl101_10, hi101_10⟩ := at_T95 HR0.out x5_1 p101 q101
        have hw101_10 := hx101_10
        have hw101_9 := hx101_9
        have hw101_8 := hx101_8
        have hw101_7 := hx101_7
        have hw101_6 := hx101_6
        have hw101_5 := hx101_5
        have hw101_4 := hx101_4
        have hw101_3 := hx101_3
        have hw101_2 := hx101_2
        have hw101_1 := hx101_1
        have hw101_0 := hx101_0
        cases e101
        replace hx101_0 := CX HB.out hx101_0
        replace hx101_1 := CX HB.out hx101_1
        replace hx101_2 := CX HB.out hx101_2
        replace hx101_3 := CX HB.out hx101_3
        replace hx101_4 := CX HB.out hx101_4
        replace hx101_5 := CX HB.out hx101_5
        replace hx101_6 := CX HB.out hx101_6
        replace hx101_7 := CX HB.out hx101_7
        replace hx101_8 := CX HB.out hx101_8
        replace hx101_9 := CX HB.out hx101_9
        replace hx101_10 := CX HB.out hx101_10
        have HR101_10 := Aside0.mk hi101_10
        have HC101_10 := Aside0.mk hl101_10
        clear hi101_10 hl101_10
        replace p101 := eq_true p101
        replace q101 := eq_true q101
        have p102 : 0 ≤ (x5_1 : Int) := OD
        have q102 : x5_1 < (l1.length : Int) := OD
        obtain ⟨ad102, A102_10, c102_10, e102, hx102_0, hx102_1, hx102_2, hx102_3, hx102_4, hx102_5, hx102_6, hx102_7, hx102_8, hx102_9, hx102_10, hl102_10, hi102_10⟩ := at_T95 HR1.out x5_1 p102 q102
        have hw102_10 := hx102_10
        have hw102_9 := hx102_9
        have hw102_8 := hx102_8
        have hw102_7 := hx102_7
        have hw102_6 := hx102_6
        have hw102_5 := hx102_5
        have hw102_4 := hx102_4
        have hw102_3 := hx102_3
        have hw102_2 := hx102_2
        have hw102_1 := hx102_1
        have hw102_0 := hx102_0
        cases e102
        replace hx102_0 := CX HB.out hx102_0
        replace hx102_1 := CX HB.out hx102_1
        replace hx102_2 := CX HB.out hx102_2
        replace hx102_3 := CX HB.out hx102_3
        replace hx102_4 := CX HB.out hx102_4
        replace hx102_5 := CX HB.out hx102_5
        replace hx102_6 := CX HB.out hx102_6
        replace hx102_7 := CX HB.out hx102_7
        replace hx102_8 := CX HB.out hx102_8
        replace hx102_9 := CX HB.out hx102_9
        replace hx102_10 := CX HB.out hx102_10
        have HR102_10 := Aside0.mk hi102_10
        have HC102_10 := Aside0.mk hl102_10
        clear hi102_10 hl102_10
        replace p102 := eq_true p102
        replace q102 := eq_true q102
        refine start_ (n := 10) (S := fun w' => w'.cell? (ad101.add ((x5_1).toNat * 11)) = some (.int .i64 ((rd_T95 l0 x5_1).f0)) ∧ w'.cell? ⟨(ad101.add ((x5_1).toNat * 11)).block, (ad101.add ((x5_1).toNat * 11)).off + 1, none⟩ = some (.int .i64 ((rd_T95 l0 x5_1).f1)) ∧ w'.cell? ⟨(ad101.add ((x5_1).toNat * 11)).block, (ad101.add ((x5_1).toNat * 11)).off + 2, none⟩ = some (.string ((rd_T95 l0 x5_1).f2)) ∧ w'.cell? ⟨(ad101.add ((x5_1).toNat * 11)).block, (ad101.add ((x5_1).toNat * 11)).off + 3, none⟩ = some (.string ((rd_T95 l0 x5_1).f3)) ∧ w'.cell? ⟨(ad101.add ((x5_1).toNat * 11)).block, (ad101.add ((x5_1).toNat * 11)).off + 4, none⟩ = some (.int .i64 ((rd_T95 l0 x5_1).f4)) ∧ w'.cell? ⟨(ad101.add ((x5_1).toNat * 11)).block, (ad101.add ((x5_1).toNat * 11)).off + 5, none⟩ = some (.int .i64 ((rd_T95 l0 x5_1).f5)) ∧ w'.cell? ⟨(ad101.add ((x5_1).toNat * 11)).block, (ad101.add ((x5_1).toNat * 11)).off + 6, none⟩ = some (.int .i64 ((rd_T95 l0 x5_1).f6)) ∧ w'.cell? ⟨(ad101.add ((x5_1).toNat * 11)).block, (ad101.add ((x5_1).toNat * 11)).off + 7, none⟩ = some (.int .i64 ((rd_T95 l0 x5_1).f7)) ∧ w'.cell? ⟨(ad101.add ((x5_1).toNat * 11)).block, (ad101.add ((x5_1).toNat * 11)).off + 8, none⟩ = some (.int .i64 ((rd_T95 l0 x5_1).f8)) ∧ w'.cell? ⟨(ad101.add ((x5_1).toNat * 11)).block, (ad101.add ((x5_1).toNat * 11)).off + 9, none⟩ = some (.int .i64 ((rd_T95 l0 x5_1).f9.f0)) ∧ w'.cell? ⟨(ad101.add ((x5_1).toNat * 11)).block, (ad101.add ((x5_1).toNat * 11)).off + 10, none⟩ = some (.slice A101_10 ((rd_T95 l0 x5_1).f9.f1).length c101_10) ∧ w'.cell? (ad102.add ((x5_1).toNat * 11)) = some (.int .i64 ((rd_T95 l1 x5_1).f0)) ∧ w'.cell? ⟨(ad102.add ((x5_1).toNat * 11)).block, (ad102.add ((x5_1).toNat * 11)).off + 1, none⟩ = some (.int .i64 ((rd_T95 l1 x5_1).f1)) ∧ w'.cell? ⟨(ad102.add ((x5_1).toNat * 11)).block, (ad102.add ((x5_1).toNat * 11)).off + 2, none⟩ = some (.string ((rd_T95 l1 x5_1).f2)) ∧ w'.cell? ⟨(ad102.add ((x5_1).toNat * 11)).block, (ad102.add ((x5_1).toNat * 11)).off + 3, none⟩ = some (.string ((rd_T95 l1 x5_1).f3)) ∧ w'.cell? ⟨(ad102.add ((x5_1).toNat * 11)).block, (ad102.add ((x5_1).toNat * 11)).off + 4, none⟩ = some (.int .i64 ((rd_T95 l1 x5_1).f4)) ∧ w'.cell? ⟨(ad102.add ((x5_1).toNat * 11)).block, (ad102.add ((x5_1).toNat * 11)).off + 5, none⟩ = some (.int .i64 ((rd_T95 l1 x5_1).f5)) ∧ w'.cell? ⟨(ad102.add ((x5_1).toNat * 11)).block, (ad102.add ((x5_1).toNat * 11)).off + 6, none⟩ = some (.int .i64 ((rd_T95 l1 x5_1).f6)) ∧ w'.cell? ⟨(ad102.add ((x5_1).toNat * 11)).block, (ad102.add ((x5_1).toNat * 11)).off + 7, none⟩ = some (.int .i64 ((rd_T95 l1 x5_1).f7)) ∧ w'.cell? ⟨(ad102.add ((x5_1).toNat * 11)).block, (ad102.add ((x5_1).toNat * 11)).off + 8, none⟩ = some (.int .i64 ((rd_T95 l1 x5_1).f8)) ∧ w'.cell? ⟨(ad102.add ((x5_1).toNat * 11)).block, (ad102.add ((x5_1).toNat * 11)).off + 9, none⟩ = some (.int .i64 ((rd_T95 l1 x5_1).f9.f0)) ∧ w'.cell? ⟨(ad102.add ((x5_1).toNat * 11)).block, (ad102.add ((x5_1).toNat * 11)).off + 10, none⟩ = some (.slice A102_10 ((rd_T95 l1 x5_1).f9.f1).length c102_10)) (ds := []) (tf 0 10) (by kernel_rfl) rfl rfl ⟨(CY HB.out hw101_0), (CY HB.out hw101_1), (CY HB.out hw101_2), (CY HB.out hw101_3), (CY HB.out hw101_4), (CY HB.out hw101_5), (CY HB.out hw101_6), (CY HB.out hw101_7), (CY HB.out hw101_8), (CY HB.out hw101_9), (CY HB.out hw101_10), (CY HB.out hw102_0), (CY HB.out hw102_1), (CY HB.out hw102_2), (CY HB.out hw102_3), (CY HB.out hw102_4), (CY HB.out hw102_5), (CY HB.out hw102_6), (CY HB.out hw102_7), (CY HB.out hw102_8), (CY HB.out hw102_9), (CY HB.out hw102_10)⟩ (fun hHeld => ?_); refine with_tabW laws_eqSaS.tab6 laws_eqSaS.bits6 (fun HT_ HW_ => ?_)
        generalize wr.drew = w9 at HB HR101_10 HR102_10 hx101_0 hx101_1 hx101_10 hx101_2 hx101_3 hx101_4 hx101_5 hx101_6 hx101_7 hx101_8 hx101_9 hx102_0 hx102_1 hx102_10 hx102_2 hx102_3 hx102_4 hx102_5 hx102_6 hx102_7 hx102_8 hx102_9 hHeld ⊢
        refine pv HT_ 0 17 (tf 1 9) ?_
        refine pv HT_ 1 18 (tf 2 8) ?_
        refine pv HT_ 2 19 (tf 3 7) ?_
        refine pv HT_ 4 21 (tr [3, 1, 1, 5]) ?_
        refine pv HT_ 5 22 (tr [3, 1, 2, 4]) ?_
        refine pv HT_ 6 23 (tr [3, 1, 3, 3]) ?_
        refine tk 3 (some 20) (tf 7 3) (take_ofW HT_.out HW_.out (by kernel_rfl)) hHeld ?_
        refine tk 7 (some 24) (tf 8 2) (take_ofW HT_.out HW_.out (by kernel_rfl)) hHeld ?_
        refine one_ (i := 8) (N := some 25) (tf 9 1) rfl rfl (one_of HT_.out (by kernel_rfl)) (by decide) (fun K hK => ?_)
        refine goes_ Try.func114 (by kernel_rfl) rfl #[.agg #[.int .i64 ((rd_T95 l0 x5_1).f0), .int .i64 ((rd_T95 l0 x5_1).f1), .string ((rd_T95 l0 x5_1).f2), .string ((rd_T95 l0 x5_1).f3), .int .i64 ((rd_T95 l0 x5_1).f4), .int .i64 ((rd_T95 l0 x5_1).f5), .int .i64 ((rd_T95 l0 x5_1).f6), .int .i64 ((rd_T95 l0 x5_1).f7), .int .i64 ((rd_T95 l0 x5_1).f8), .int .i64 ((rd_T95 l0 x5_1).f9.f0), .slice A101_10 ((rd_T95 l0 x5_1).f9.f1).length c101_10], .agg #[.int .i64 ((rd_T95 l1 x5_1).f0), .int .i64 ((rd_T95 l1 x5_1).f1), .string ((rd_T95 l1 x5_1).f2), .string ((rd_T95 l1 x5_1).f3), .int .i64 ((rd_T95 l1 x5_1).f4), .int .i64 ((rd_T95 l1 x5_1).f5), .int .i64 ((rd_T95 l1 x5_1).f6), .int .i64 ((rd_T95 l1 x5_1).f7), .int .i64 ((rd_T95 l1 x5_1).f8), .int .i64 ((rd_T95 l1 x5_1).f9.f0), .slice A102_10 ((rd_T95 l1 x5_1).f9.f1).length c102_10]] (by rfl) rfl rfl MT ?_
        with_reducible refine (laws_eqSa.calls k1 ((rd_T95 l0 x5_1).f0) ((rd_T95 l0 x5_1).f1) ((rd_T95 l0 x5_1).f2) ((rd_T95 l0 x5_1).f3) ((rd_T95 l0 x5_1).f4) ((rd_T95 l0 x5_1).f5) ((rd_T95 l0 x5_1).f6) ((rd_T95 l0 x5_1).f7) ((rd_T95 l0 x5_1).f8) ((rd_T95 l0 x5_1).f9.f0) _ _ ((rd_T95 l0 x5_1).f9.f1) ((rd_T95 l1 x5_1).f0) ((rd_T95 l1 x5_1).f1) ((rd_T95 l1 x5_1).f2) ((rd_T95 l1 x5_1).f3) ((rd_T95 l1 x5_1).f4) ((rd_T95 l1 x5_1).f5) ((rd_T95 l1 x5_1).f6) ((rd_T95 l1 x5_1).f7) ((rd_T95 l1 x5_1).f8) ((rd_T95 l1 x5_1).f9.f0) _ _ ((rd_T95 l1 x5_1).f9.f1) true _ ?side1 ?side2 ?side3 ?side4 A7.out).mono ?_
        (case side1 => exact KD HR101_10 HB)
        (case side2 => exact HC101_10.out)
        (case side3 => exact KD HR102_10 HB)
        (case side4 => exact HC102_10.out)
        rintro e w10 ⟨rfl, hb⟩
        refine ⟨_, rfl, ?_⟩
        replace HB := am (below_step (KL HB) hb)
        (try clear hb)
        (try clear hb2)
        (try clear hk)
        (try clear hi)
        refine hK.out _ _ ⟨(CY HB.out hw101_0), (CY HB.out hw101_1), (CY HB.out hw101_2), (CY HB.out hw101_3), (CY HB.out hw101_4), (CY HB.out hw101_5), (CY HB.out hw101_6), (CY HB.out hw101_7), (CY HB.out hw101_8), (CY HB.out hw101_9), (CY HB.out hw101_10), (CY HB.out hw102_0), (CY HB.out hw102_1), (CY HB.out hw102_2), (CY HB.out hw102_3), (CY HB.out hw102_4), (CY HB.out hw102_5), (CY HB.out hw102_6), (CY HB.out hw102_7), (CY HB.out hw102_8), (CY HB.out hw102_9), (CY HB.out hw102_10)⟩ (fun hHeld => ?_)
        clear hK K
        refine norm_ (a' := ?_) ?_ ?_
        rotate_left
        ·show Act.put _ (some 25) _ = _
         simp only [Act.put, List.setIfInBounds_toArray, List.set_cons_zero, List.set_cons_succ, i64_w, i32_w]
         rfl
        refine pv HT_ 9 26 (tf 10 0) ?_
        refine done_ (done_of HT_.out (by kernel_rfl)) ?_
        try go_wp2
        go_roundg k1
        case measure => have := HK1.out; omega
        case rel => exact ⟨(wrap64 (x5_1 + 1)), (by first | rfl | (simp; done) | (simp [*]; done)), H', ⟨by have := HK1.out; omega⟩, ⟨KL HB⟩⟩
       ·replace c8 := Bool.eq_false_iff.mpr c8
        subst c8
        have H1 : (some false) = some r := by rw [if_neg (show ¬ (false = true) by decide)] at H; exact H
        clear H
        have H := H1
        clear H1
        obtain rfl := Option.some.inj H
        try go_wp2
        replace HB := am (below_drew1 HB.out)
        have p101 : 0 ≤ (x5_1 : Int) := OD
        have q101 : x5_1 < (l0.length : Int) := OD
        obtain ⟨ad101, A101_10, c101_10, e101, hx101_0, hx101_1, hx101_2, hx101_3, hx101_4, hx101_5, hx101_6, hx101_7, hx101_8, hx101_9, hx101_10, hl101_10, hi101_10⟩ := at_T95 HR0.out x5_1 p101 q101
        have hw101_10 := hx101_10
        have hw101_9 := hx101_9
        have hw101_8 := hx101_8
        have hw101_7 := hx101_7
        have hw101_6 := hx101_6
        have hw101_5 := hx101_5
        have hw101_4 := hx101_4
        have hw101_3 := hx101_3
        have hw101_2 := hx101_2
        have hw101_1 := hx101_1
        have hw101_0 := hx101_0
        cases e101
        replace hx101_0 := CX HB.out hx101_0
        replace hx101_1 := CX HB.out hx101_1
        replace hx101_2 := CX HB.out hx101_2
        replace hx101_3 := CX HB.out hx101_3
        replace hx101_4 := CX HB.out hx101_4
        replace hx101_5 := CX HB.out hx101_5
        replace hx101_6 := CX HB.out hx101_6
        replace hx101_7 := CX HB.out hx101_7
        replace hx101_8 := CX HB.out hx101_8
        replace hx101_9 := CX HB.out hx101_9
        replace hx101_10 := CX HB.out hx101_10
        have HR101_10 := Aside0.mk hi101_10
        have HC101_10 := Aside0.mk hl101_10
        clear hi101_10 hl101_10
        replace p101 := eq_true p101
        replace q101 := eq_true q101
        have p102 : 0 ≤ (x5_1 : Int) := OD
        have q102 : x5_1 < (l1.length : Int) := OD
        obtain ⟨ad102, A102_10, c102_10, e102, hx102_0, hx102_1, hx102_2, hx102_3, hx102_4, hx102_5, hx102_6, hx102_7, hx102_8, hx102_9, hx102_10, hl102_10, hi102_10⟩ := at_T95 HR1.out x5_1 p102 q102
        have hw102_10 := hx102_10
        have hw102_9 := hx102_9
        have hw102_8 := hx102_8
        have hw102_7 := hx102_7
        have hw102_6 := hx102_6
        have hw102_5 := hx102_5
        have hw102_4 := hx102_4
        have hw102_3 := hx102_3
        have hw102_2 := hx102_2
        have hw102_1 := hx102_1
        have hw102_0 := hx102_0
        cases e102
        replace hx102_0 := CX HB.out hx102_0
        replace hx102_1 := CX HB.out hx102_1
        replace hx102_2 := CX HB.out hx102_2
        replace hx102_3 := CX HB.out hx102_3
        replace hx102_4 := CX HB.out hx102_4
        replace hx102_5 := CX HB.out hx102_5
        replace hx102_6 := CX HB.out hx102_6
        replace hx102_7 := CX HB.out hx102_7
        replace hx102_8 := CX HB.out hx102_8
        replace hx102_9 := CX HB.out hx102_9
        replace hx102_10 := CX HB.out hx102_10
        have HR102_10 := Aside0.mk hi102_10
        have HC102_10 := Aside0.mk hl102_10
        clear hi102_10 hl102_10
        replace p102 := eq_true p102
        replace q102 := eq_true q102
        refine start_ (n := 10) (S := fun w' => w'.cell? (ad101.add ((x5_1).toNat * 11)) = some (.int .i64 ((rd_T95 l0 x5_1).f0)) ∧ w'.cell? ⟨(ad101.add ((x5_1).toNat * 11)).block, (ad101.add ((x5_1).toNat * 11)).off + 1, none⟩ = some (.int .i64 ((rd_T95 l0 x5_1).f1)) ∧ w'.cell? ⟨(ad101.add ((x5_1).toNat * 11)).block, (ad101.add ((x5_1).toNat * 11)).off + 2, none⟩ = some (.string ((rd_T95 l0 x5_1).f2)) ∧ w'.cell? ⟨(ad101.add ((x5_1).toNat * 11)).block, (ad101.add ((x5_1).toNat * 11)).off + 3, none⟩ = some (.string ((rd_T95 l0 x5_1).f3)) ∧ w'.cell? ⟨(ad101.add ((x5_1).toNat * 11)).block, (ad101.add ((x5_1).toNat * 11)).off + 4, none⟩ = some (.int .i64 ((rd_T95 l0 x5_1).f4)) ∧ w'.cell? ⟨(ad101.add ((x5_1).toNat * 11)).block, (ad101.add ((x5_1).toNat * 11)).off + 5, none⟩ = some (.int .i64 ((rd_T95 l0 x5_1).f5)) ∧ w'.cell? ⟨(ad101.add ((x5_1).toNat * 11)).block, (ad101.add ((x5_1).toNat * 11)).off + 6, none⟩ = some (.int .i64 ((rd_T95 l0 x5_1).f6)) ∧ w'.cell? ⟨(ad101.add ((x5_1).toNat * 11)).block, (ad101.add ((x5_1).toNat * 11)).off + 7, none⟩ = some (.int .i64 ((rd_T95 l0 x5_1).f7)) ∧ w'.cell? ⟨(ad101.add ((x5_1).toNat * 11)).block, (ad101.add ((x5_1).toNat * 11)).off + 8, none⟩ = some (.int .i64 ((rd_T95 l0 x5_1).f8)) ∧ w'.cell? ⟨(ad101.add ((x5_1).toNat * 11)).block, (ad101.add ((x5_1).toNat * 11)).off + 9, none⟩ = some (.int .i64 ((rd_T95 l0 x5_1).f9.f0)) ∧ w'.cell? ⟨(ad101.add ((x5_1).toNat * 11)).block, (ad101.add ((x5_1).toNat * 11)).off + 10, none⟩ = some (.slice A101_10 ((rd_T95 l0 x5_1).f9.f1).length c101_10) ∧ w'.cell? (ad102.add ((x5_1).toNat * 11)) = some (.int .i64 ((rd_T95 l1 x5_1).f0)) ∧ w'.cell? ⟨(ad102.add ((x5_1).toNat * 11)).block, (ad102.add ((x5_1).toNat * 11)).off + 1, none⟩ = some (.int .i64 ((rd_T95 l1 x5_1).f1)) ∧ w'.cell? ⟨(ad102.add ((x5_1).toNat * 11)).block, (ad102.add ((x5_1).toNat * 11)).off + 2, none⟩ = some (.string ((rd_T95 l1 x5_1).f2)) ∧ w'.cell? ⟨(ad102.add ((x5_1).toNat * 11)).block, (ad102.add ((x5_1).toNat * 11)).off + 3, none⟩ = some (.string ((rd_T95 l1 x5_1).f3)) ∧ w'.cell? ⟨(ad102.add ((x5_1).toNat * 11)).block, (ad102.add ((x5_1).toNat * 11)).off + 4, none⟩ = some (.int .i64 ((rd_T95 l1 x5_1).f4)) ∧ w'.cell? ⟨(ad102.add ((x5_1).toNat * 11)).block, (ad102.add ((x5_1).toNat * 11)).off + 5, none⟩ = some (.int .i64 ((rd_T95 l1 x5_1).f5)) ∧ w'.cell? ⟨(ad102.add ((x5_1).toNat * 11)).block, (ad102.add ((x5_1).toNat * 11)).off + 6, none⟩ = some (.int .i64 ((rd_T95 l1 x5_1).f6)) ∧ w'.cell? ⟨(ad102.add ((x5_1).toNat * 11)).block, (ad102.add ((x5_1).toNat * 11)).off + 7, none⟩ = some (.int .i64 ((rd_T95 l1 x5_1).f7)) ∧ w'.cell? ⟨(ad102.add ((x5_1).toNat * 11)).block, (ad102.add ((x5_1).toNat * 11)).off + 8, none⟩ = some (.int .i64 ((rd_T95 l1 x5_1).f8)) ∧ w'.cell? ⟨(ad102.add ((x5_1).toNat * 11)).block, (ad102.add ((x5_1).toNat * 11)).off + 9, none⟩ = some (.int .i64 ((rd_T95 l1 x5_1).f9.f0)) ∧ w'.cell? ⟨(ad102.add ((x5_1).toNat * 11)).block, (ad102.add ((x5_1).toNat * 11)).off + 10, none⟩ = some (.slice A102_10 ((rd_T95 l1 x5_1).f9.f1).length c102_10)) (ds := []) (tf 0 10) (by kernel_rfl) rfl rfl ⟨(CY HB.out hw101_0), (CY HB.out hw101_1), (CY HB.out hw101_2), (CY HB.out hw101_3), (CY HB.out hw101_4), (CY HB.out hw101_5), (CY HB.out hw101_6), (CY HB.out hw101_7), (CY HB.out hw101_8), (CY HB.out hw101_9), (CY HB.out hw101_10), (CY HB.out hw102_0), (CY HB.out hw102_1), (CY HB.out hw102_2), (CY HB.out hw102_3), (CY HB.out hw102_4), (CY HB.out hw102_5), (CY HB.out hw102_6), (CY HB.out hw102_7), (CY HB.out hw102_8), (CY HB.out hw102_9), (CY HB.out hw102_10)⟩ (fun hHeld => ?_); refine with_tabW laws_eqSaS.tab6 laws_eqSaS.bits6 (fun HT_ HW_ => ?_)
        generalize wr.drew = w11 at HB HR101_10 HR102_10 hx101_0 hx101_1 hx101_10 hx101_2 hx101_3 hx101_4 hx101_5 hx101_6 hx101_7 hx101_8 hx101_9 hx102_0 hx102_1 hx102_10 hx102_2 hx102_3 hx102_4 hx102_5 hx102_6 hx102_7 hx102_8 hx102_9 hHeld ⊢
        refine pv HT_ 0 17 (tf 1 9) ?_
        refine pv HT_ 1 18 (tf 2 8) ?_
        refine pv HT_ 2 19 (tf 3 7) ?_
        refine pv HT_ 4 21 (tr [3, 1, 1, 5]) ?_
        refine pv HT_ 5 22 (tr [3, 1, 2, 4]) ?_
        refine pv HT_ 6 23 (tr [3, 1, 3, 3]) ?_
        refine tk 3 (some 20) (tf 7 3) (take_ofW HT_.out HW_.out (by kernel_rfl)) hHeld ?_
        refine tk 7 (some 24) (tf 8 2) (take_ofW HT_.out HW_.out (by kernel_rfl)) hHeld ?_
        refine one_ (i := 8) (N := some 25) (tf 9 1) rfl rfl (one_of HT_.out (by kernel_rfl)) (by decide) (fun K hK => ?_)
        refine goes_ Try.func114 (by kernel_rfl) rfl #[.agg #[.int .i64 ((rd_T95 l0 x5_1).f0), .int .i64 ((rd_T95 l0 x5_1).f1), .string ((rd_T95 l0 x5_1).f2), .string ((rd_T95 l0 x5_1).f3), .int .i64 ((rd_T95 l0 x5_1).f4), .int .i64 ((rd_T95 l0 x5_1).f5), .int .i64 ((rd_T95 l0 x5_1).f6), .int .i64 ((rd_T95 l0 x5_1).f7), .int .i64 ((rd_T95 l0 x5_1).f8), .int .i64 ((rd_T95 l0 x5_1).f9.f0), .slice A101_10 ((rd_T95 l0 x5_1).f9.f1).length c101_10], .agg #[.int .i64 ((rd_T95 l1 x5_1).f0), .int .i64 ((rd_T95 l1 x5_1).f1), .string ((rd_T95 l1 x5_1).f2), .string ((rd_T95 l1 x5_1).f3), .int .i64 ((rd_T95 l1 x5_1).f4), .int .i64 ((rd_T95 l1 x5_1).f5), .int .i64 ((rd_T95 l1 x5_1).f6), .int .i64 ((rd_T95 l1 x5_1).f7), .int .i64 ((rd_T95 l1 x5_1).f8), .int .i64 ((rd_T95 l1 x5_1).f9.f0), .slice A102_10 ((rd_T95 l1 x5_1).f9.f1).length c102_10]] (by rfl) rfl rfl MT ?_
        with_reducible refine (laws_eqSa.calls k1 ((rd_T95 l0 x5_1).f0) ((rd_T95 l0 x5_1).f1) ((rd_T95 l0 x5_1).f2) ((rd_T95 l0 x5_1).f3) ((rd_T95 l0 x5_1).f4) ((rd_T95 l0 x5_1).f5) ((rd_T95 l0 x5_1).f6) ((rd_T95 l0 x5_1).f7) ((rd_T95 l0 x5_1).f8) ((rd_T95 l0 x5_1).f9.f0) _ _ ((rd_T95 l0 x5_1).f9.f1) ((rd_T95 l1 x5_1).f0) ((rd_T95 l1 x5_1).f1) ((rd_T95 l1 x5_1).f2) ((rd_T95 l1 x5_1).f3) ((rd_T95 l1 x5_1).f4) ((rd_T95 l1 x5_1).f5) ((rd_T95 l1 x5_1).f6) ((rd_T95 l1 x5_1).f7) ((rd_T95 l1 x5_1).f8) ((rd_T95 l1 x5_1).f9.f0) _ _ ((rd_T95 l1 x5_1).f9.f1) false _ ?side1 ?side2 ?side3 ?side4 A7.out).mono ?_
        (case side1 => exact KD HR101_10 HB)
        (case side2 => exact HC101_10.out)
        (case side3 => exact KD HR102_10 HB)
        (case side4 => exact HC102_10.out)
        rintro e w12 ⟨rfl, hb⟩
        refine ⟨_, rfl, ?_⟩
        replace HB := am (below_step (KL HB) hb)
        (try clear hb)
        (try clear hb2)
        (try clear hk)
        (try clear hi)
        refine hK.out _ _ ⟨(CY HB.out hw101_0), (CY HB.out hw101_1), (CY HB.out hw101_2), (CY HB.out hw101_3), (CY HB.out hw101_4), (CY HB.out hw101_5), (CY HB.out hw101_6), (CY HB.out hw101_7), (CY HB.out hw101_8), (CY HB.out hw101_9), (CY HB.out hw101_10), (CY HB.out hw102_0), (CY HB.out hw102_1), (CY HB.out hw102_2), (CY HB.out hw102_3), (CY HB.out hw102_4), (CY HB.out hw102_5), (CY HB.out hw102_6), (CY HB.out hw102_7), (CY HB.out hw102_8), (CY HB.out hw102_9), (CY HB.out hw102_10)⟩ (fun hHeld => ?_)
        clear hK K
        refine norm_ (a' := ?_) ?_ ?_
        rotate_left
        ·show Act.put _ (some 25) _ = _
         simp only [Act.put, List.setIfInBounds_toArray, List.set_cons_zero, List.set_cons_succ, i64_w, i32_w]
         rfl
        refine pv HT_ 9 26 (tf 10 0) ?_
        refine done_ (done_of HT_.out (by kernel_rfl)) ?_
        try go_wp2
        go_ret
        exact ⟨ER, KL HB⟩
      ·rw [if_neg c6] at H
       exact absurd H (by simp)
     ·rw [if_neg c5] at H
      exact absurd H (by simp)
    ·rw [if_neg c4] at H
     have c4b0 : decide (x5_1 < (l0.length : Int)) = false := decide_eq_false c4
     clear c4
     obtain rfl := Option.some.inj H
     go_wp2
     go_ret
     exact ⟨ER, KL HB⟩
 ·rw [if_neg c3] at H
  have c3b0 : ((l0.length : Int) == (l1.length : Int)) = false := beq_eq_false_iff_ne.mpr c3
  have c3b1 : ((l0.length : Int) != (l1.length : Int)) = true := bne_iff_ne.mpr c3
  have c3b2 : (l0.length == l1.length) = false := by first | simpa using c3 | (simp at c3 ⊢; omega)
  obtain rfl := Option.some.inj H
  go_enter Try.func71, Try.ntmps71
  go_wp2
  go_ret
  exact ⟨ER, KL HB⟩
def laws_eqGate.f (k : Nat) (a0_0 : Int) (l0_1 : List (S141)) (a0_2 : Int) (l0_3 : List (S136)) (l0_4 : List (S95)) (l0_5 : List (S95)) (a1_0 : Int) (l1_1 : List (S141)) (a1_2 : Int) (l1_3 : List (S136)) (l1_4 : List (S95)) (l1_5 : List (S95)) : Option (Bool) := if a0_0 = a1_0 then ((laws_eqRuleS.f k l0_1 l1_1).bind fun t103 => (if t103 = true then ((laws_eqCache.f k a0_2 l0_3 a1_2 l1_3).bind fun t104 => (if t104 = true then ((laws_eqSaS.f k l0_4 l1_4).bind fun t105 => (if t105 = true then ((laws_eqSaS.f k l0_5 l1_5).bind fun t106 => (if t106 = true then (some true) else (some false))) else (some false))) else (some false))) else (some false))) else (some false)
set_option maxHeartbeats 8000000 in
set_option maxRecDepth 100000 in
theorem laws_eqGate.calls (k : Nat) (a0_0 : Int) (A0_1 : Option Addr) (c0_1 : Nat) (l0_1 : List (S141)) (a0_2 : Int) (A0_3 : Option Addr) (c0_3 : Nat) (l0_3 : List (S136)) (A0_4 : Option Addr) (c0_4 : Nat) (l0_4 : List (S95)) (A0_5 : Option Addr) (c0_5 : Nat) (l0_5 : List (S95)) (a1_0 : Int) (A1_1 : Option Addr) (c1_1 : Nat) (l1_1 : List (S141)) (a1_2 : Int) (A1_3 : Option Addr) (c1_3 : Nat) (l1_3 : List (S136)) (A1_4 : Option Addr) (c1_4 : Nat) (l1_4 : List (S95)) (A1_5 : Option Addr) (c1_5 : Nat) (l1_5 : List (S95)) (r : Bool) (w : World) (hr0_1 : Kd.C k141 w A0_1 l0_1.length l0_1) (hc0_1 : l0_1.length ≤ c0_1) (hr0_3 : Kd.C k136 w A0_3 l0_3.length l0_3) (hc0_3 : l0_3.length ≤ c0_3) (hr0_4 : Kd.C k95 w A0_4 l0_4.length l0_4) (hc0_4 : l0_4.length ≤ c0_4) (hr0_5 : Kd.C k95 w A0_5 l0_5.length l0_5) (hc0_5 : l0_5.length ≤ c0_5) (hr1_1 : Kd.C k141 w A1_1 l1_1.length l1_1) (hc1_1 : l1_1.length ≤ c1_1) (hr1_3 : Kd.C k136 w A1_3 l1_3.length l1_3) (hc1_3 : l1_3.length ≤ c1_3) (hr1_4 : Kd.C k95 w A1_4 l1_4.length l1_4) (hc1_4 : l1_4.length ≤ c1_4) (hr1_5 : Kd.C k95 w A1_5 l1_5.length l1_5) (hc1_5 : l1_5.length ≤ c1_5) (h : laws_eqGate.f k a0_0 l0_1 a0_2 l0_3 l0_4 l0_5 a1_0 l1_1 a1_2 l1_3 l1_4 l1_5 = some r) :
  Calls Try.prog 33 #[.agg #[.int .i64 a0_0, .slice A0_1 l0_1.length c0_1, .int .i64 a0_2, .slice A0_3 l0_3.length c0_3, .slice A0_4 l0_4.length c0_4, .slice A0_5 l0_5.length c0_5], .agg #[.int .i64 a1_0, .slice A1_1 l1_1.length c1_1, .int .i64 a1_2, .slice A1_3 l1_3.length c1_3, .slice A1_4 l1_4.length c1_4, .slice A1_5 l1_5.length c1_5]] w fun e w' => e = .returned (.bool r) ∧ Below w.heap.size w w' := by
 have hu57 := Try.underlying57
 have hu54 := Try.underlying54
 have HR0_1 := Aside0.mk hr0_1
 have HC0_1 := Aside0.mk hc0_1
 clear hr0_1 hc0_1
 have HR0_3 := Aside0.mk hr0_3
 have HC0_3 := Aside0.mk hc0_3
 clear hr0_3 hc0_3
 have HR0_4 := Aside0.mk hr0_4
 have HC0_4 := Aside0.mk hc0_4
 clear hr0_4 hc0_4
 have HR0_5 := Aside0.mk hr0_5
 have HC0_5 := Aside0.mk hc0_5
 clear hr0_5 hc0_5
 have HR1_1 := Aside0.mk hr1_1
 have HC1_1 := Aside0.mk hc1_1
 clear hr1_1 hc1_1
 have HR1_3 := Aside0.mk hr1_3
 have HC1_3 := Aside0.mk hc1_3
 clear hr1_3 hc1_3
 have HR1_4 := Aside0.mk hr1_4
 have HC1_4 := Aside0.mk hc1_4
 clear hr1_4 hc1_4
 have HR1_5 := Aside0.mk hr1_5
 have HC1_5 := Aside0.mk hc1_5
 clear hr1_5 hc1_5
 have HB := am (Below.refl w.heap.size w)
 have H : (if a0_0 = a1_0 then ((laws_eqRuleS.f k l0_1 l1_1).bind fun t103 => (if t103 = true then ((laws_eqCache.f k a0_2 l0_3 a1_2 l1_3).bind fun t104 => (if t104 = true then ((laws_eqSaS.f k l0_4 l1_4).bind fun t105 => (if t105 = true then ((laws_eqSaS.f k l0_5 l1_5).bind fun t106 => (if t106 = true then (some true) else (some false))) else (some false))) else (some false))) else (some false))) else (some false)) = some r := h
 clear h
 by_cases c3 : a0_0 = a1_0
 ·rw [if_pos c3] at H
  have c3b0 : (a0_0 == a1_0) = true := beq_iff_eq.mpr c3
  have c3b1 : (a0_0 != a1_0) = false := bne_eq_false_iff_eq.mpr c3
  clear c3
  replace H := Option.bind_eq_some_iff.mp H
  obtain ⟨t103, A40, H⟩ := H
  replace H : (if t103 = true then ((laws_eqCache.f k a0_2 l0_3 a1_2 l1_3).bind fun t104 => (if t104 = true then ((laws_eqSaS.f k l0_4 l1_4).bind fun t105 => (if t105 = true then ((laws_eqSaS.f k l0_5 l1_5).bind fun t106 => (if t106 = true then (some true) else (some false))) else (some false))) else (some false))) else (some false)) = some r := H
  have A4 := Aside0.mk A40
  clear A40
  by_cases c5 : t103 = true
  ·subst c5
   have H1 : ((laws_eqCache.f k a0_2 l0_3 a1_2 l1_3).bind fun t104 => (if t104 = true then ((laws_eqSaS.f k l0_4 l1_4).bind fun t105 => (if t105 = true then ((laws_eqSaS.f k l0_5 l1_5).bind fun t106 => (if t106 = true then (some true) else (some false))) else (some false))) else (some false))) = some r := by rw [if_pos rfl] at H; exact H
   clear H
   have H := H1
   clear H1
   replace H := Option.bind_eq_some_iff.mp H
   obtain ⟨t104, A60, H⟩ := H
   replace H : (if t104 = true then ((laws_eqSaS.f k l0_4 l1_4).bind fun t105 => (if t105 = true then ((laws_eqSaS.f k l0_5 l1_5).bind fun t106 => (if t106 = true then (some true) else (some false))) else (some false))) else (some false)) = some r := H
   have A6 := Aside0.mk A60
   clear A60
   by_cases c7 : t104 = true
   ·subst c7
    have H1 : ((laws_eqSaS.f k l0_4 l1_4).bind fun t105 => (if t105 = true then ((laws_eqSaS.f k l0_5 l1_5).bind fun t106 => (if t106 = true then (some true) else (some false))) else (some false))) = some r := by rw [if_pos rfl] at H; exact H
    clear H
    have H := H1
    clear H1
    replace H := Option.bind_eq_some_iff.mp H
    obtain ⟨t105, A80, H⟩ := H
    replace H : (if t105 = true then ((laws_eqSaS.f k l0_5 l1_5).bind fun t106 => (if t106 = true then (some true) else (some false))) else (some false)) = some r := H
    have A8 := Aside0.mk A80
    clear A80
    by_cases c9 : t105 = true
    ·subst c9
     have H1 : ((laws_eqSaS.f k l0_5 l1_5).bind fun t106 => (if t106 = true then (some true) else (some false))) = some r := by rw [if_pos rfl] at H; exact H
     clear H
     have H := H1
     clear H1
     replace H := Option.bind_eq_some_iff.mp H
     obtain ⟨t106, A100, H⟩ := H
     replace H : (if t106 = true then (some true) else (some false)) = some r := H
     have A10 := Aside0.mk A100
     clear A100
     by_cases c11 : t106 = true
     ·subst c11
      have H1 : (some true) = some r := by rw [if_pos rfl] at H; exact H
      clear H
      have H := H1
      clear H1
      obtain rfl := Option.some.inj H
      go_enter Try.func33, Try.ntmps33
      go_wp2_with (first | ((with_reducible refine gate_dst (N := 2) rfl ?_); refine box_event rfl (N := 2) rfl (cs := #[.int .i64 a0_0, .slice A0_1 l0_1.length c0_1, .int .i64 a0_2, .slice A0_3 l0_3.length c0_3, .slice A0_4 l0_4.length c0_4, .slice A0_5 l0_5.length c0_5]) (t := 57) BX ?_; intro gb101 hg w12 hbox hb; have BK101 := am (hbox); have GW101 := am (GH HB hg); have GE101 := GW101; replace HB := am (below_step (KL HB) hb); clear hb hbox hg) | ((with_reducible refine gate_dst (N := 3) rfl ?_); refine box_event rfl (N := 3) rfl (cs := #[.int .i64 a1_0, .slice A1_1 l1_1.length c1_1, .int .i64 a1_2, .slice A1_3 l1_3.length c1_3, .slice A1_4 l1_4.length c1_4, .slice A1_5 l1_5.length c1_5]) (t := 57) BX ?_; intro gb102 hg w13 hbox hb; have BK102 := am (hbox); have GW102 := am (GH1 HB GE101.out hg); have GE102 := GW102; replace HB := am (below_step (K1 HB GE101.out) hb); have NB101_102 := am (NL BK101 hg); have NB102_101 := am (NG BK101 hg); replace BK101 := am (BB BK101 hb); clear hb hbox hg; have hnb14 := NB101_102.out; have hnc14 := NB102_101.out; obtain ⟨hcz15_0, hcz15_1, hcz15_2, hcz15_3, hcz15_4, hcz15_5, hfz15_0⟩ := y6 w13 BK101.out; obtain ⟨hcz16_0, hcz16_1, hcz16_2, hcz16_3, hcz16_4, hcz16_5, hfz16_0⟩ := y6 w13 BK102.out) | ((with_reducible refine gate_callee (f := 69) rfl ?_); refine goesL_ (some 14) rfl rfl Try.func69 (by kernel_rfl) rfl #[.slice A0_1 l0_1.length c0_1, .slice A1_1 l1_1.length c1_1] rfl MT ?_; (with_reducible refine (laws_eqRuleS.calls k _ _ l0_1 _ _ l1_1 true _ ?side1 ?side2 ?side3 ?side4 A4.out).mono ?_); (case side1 => exact KD HR0_1 HB); (case side2 => exact HC0_1.out); (case side3 => exact KD HR1_1 HB); (case side4 => exact HC1_1.out); rintro e w17 ⟨rfl, hb⟩; refine ⟨_, rfl, ?_⟩; replace BK101 := am (BB BK101 hb); replace BK102 := am (BB BK102 hb); replace HB := am (below_step (K2 HB GE101.out GE102.out) hb); (try clear hb); (try clear hb2); (try clear hk); (try clear hi); obtain ⟨hcz18_0, hcz18_1, hcz18_2, hcz18_3, hcz18_4, hcz18_5, hfz18_0⟩ := y6 w17 BK101.out; obtain ⟨hcz19_0, hcz19_1, hcz19_2, hcz19_3, hcz19_4, hcz19_5, hfz19_0⟩ := y6 w17 BK102.out) | ((with_reducible refine gate_callee (f := 70) rfl ?_); refine goesL_ (some 20) rfl rfl Try.func70 (by kernel_rfl) rfl #[.agg #[.int .i64 a0_2, .slice A0_3 l0_3.length c0_3], .agg #[.int .i64 a1_2, .slice A1_3 l1_3.length c1_3]] rfl MT ?_; (with_reducible refine (laws_eqCache.calls k a0_2 _ _ l0_3 a1_2 _ _ l1_3 true _ ?side1 ?side2 ?side3 ?side4 A6.out).mono ?_); (case side1 => exact KD HR0_3 HB); (case side2 => exact HC0_3.out); (case side3 => exact KD HR1_3 HB); (case side4 => exact HC1_3.out); rintro e w20 ⟨rfl, hb⟩; refine ⟨_, rfl, ?_⟩; replace BK101 := am (BB BK101 hb); replace BK102 := am (BB BK102 hb); replace HB := am (below_step (K2 HB GE101.out GE102.out) hb); (try clear hb); (try clear hb2); (try clear hk); (try clear hi); obtain ⟨hcz21_0, hcz21_1, hcz21_2, hcz21_3, hcz21_4, hcz21_5, hfz21_0⟩ := y6 w20 BK101.out; obtain ⟨hcz22_0, hcz22_1, hcz22_2, hcz22_3, hcz22_4, hcz22_5, hfz22_0⟩ := y6 w20 BK102.out) | ((with_reducible refine gate_callee (f := 71) rfl ?_); refine goesL_ (some 26) rfl rfl Try.func71 (by kernel_rfl) rfl #[.slice A0_4 l0_4.length c0_4, .slice A1_4 l1_4.length c1_4] rfl MT ?_; (with_reducible refine (laws_eqSaS.calls k _ _ l0_4 _ _ l1_4 true _ ?side1 ?side2 ?side3 ?side4 A8.out).mono ?_); (case side1 => exact KD HR0_4 HB); (case side2 => exact HC0_4.out); (case side3 => exact KD HR1_4 HB); (case side4 => exact HC1_4.out); rintro e w23 ⟨rfl, hb⟩; refine ⟨_, rfl, ?_⟩; replace BK101 := am (BB BK101 hb); replace BK102 := am (BB BK102 hb); replace HB := am (below_step (K2 HB GE101.out GE102.out) hb); (try clear hb); (try clear hb2); (try clear hk); (try clear hi); obtain ⟨hcz24_0, hcz24_1, hcz24_2, hcz24_3, hcz24_4, hcz24_5, hfz24_0⟩ := y6 w23 BK101.out; obtain ⟨hcz25_0, hcz25_1, hcz25_2, hcz25_3, hcz25_4, hcz25_5, hfz25_0⟩ := y6 w23 BK102.out) | ((with_reducible refine gate_callee (f := 71) rfl ?_); refine goesL_ (some 32) rfl rfl Try.func71 (by kernel_rfl) rfl #[.slice A0_5 l0_5.length c0_5, .slice A1_5 l1_5.length c1_5] rfl MT ?_; (with_reducible refine (laws_eqSaS.calls k _ _ l0_5 _ _ l1_5 true _ ?side1 ?side2 ?side3 ?side4 A10.out).mono ?_); (case side1 => exact KD HR0_5 HB); (case side2 => exact HC0_5.out); (case side3 => exact KD HR1_5 HB); (case side4 => exact HC1_5.out); rintro e w26 ⟨rfl, hb⟩; refine ⟨_, rfl, ?_⟩; replace BK101 := am (BB BK101 hb); replace BK102 := am (BB BK102 hb); replace HB := am (below_step (K2 HB GE101.out GE102.out) hb); (try clear hb); (try clear hb2); (try clear hk); (try clear hi)))
      go_ret
      exact ⟨ER, K2 HB GE101.out GE102.out⟩
     ·replace c11 := Bool.eq_false_iff.mpr c11
      subst c11
      have H1 : (some false) = some r := by rw [if_neg (show ¬ (false = true) by decide)] at H; exact H
      clear H
      have H := H1
      clear H1
      obtain rfl := Option.some.inj H
      go_enter Try.func33, Try.ntmps33
      go_wp2_with (first | ((with_reducible refine gate_dst (N := 2) rfl ?_); refine box_event rfl (N := 2) rfl (cs := #[.int .i64 a0_0, .slice A0_1 l0_1.length c0_1, .int .i64 a0_2, .slice A0_3 l0_3.length c0_3, .slice A0_4 l0_4.length c0_4, .slice A0_5 l0_5.length c0_5]) (t := 57) BX ?_; intro gb101 hg w27 hbox hb; have BK101 := am (hbox); have GW101 := am (GH HB hg); have GE101 := GW101; replace HB := am (below_step (KL HB) hb); clear hb hbox hg) | ((with_reducible refine gate_dst (N := 3) rfl ?_); refine box_event rfl (N := 3) rfl (cs := #[.int .i64 a1_0, .slice A1_1 l1_1.length c1_1, .int .i64 a1_2, .slice A1_3 l1_3.length c1_3, .slice A1_4 l1_4.length c1_4, .slice A1_5 l1_5.length c1_5]) (t := 57) BX ?_; intro gb102 hg w28 hbox hb; have BK102 := am (hbox); have GW102 := am (GH1 HB GE101.out hg); have GE102 := GW102; replace HB := am (below_step (K1 HB GE101.out) hb); have NB101_102 := am (NL BK101 hg); have NB102_101 := am (NG BK101 hg); replace BK101 := am (BB BK101 hb); clear hb hbox hg; have hnb29 := NB101_102.out; have hnc29 := NB102_101.out; obtain ⟨hcz30_0, hcz30_1, hcz30_2, hcz30_3, hcz30_4, hcz30_5, hfz30_0⟩ := y6 w28 BK101.out; obtain ⟨hcz31_0, hcz31_1, hcz31_2, hcz31_3, hcz31_4, hcz31_5, hfz31_0⟩ := y6 w28 BK102.out) | ((with_reducible refine gate_callee (f := 69) rfl ?_); refine goesL_ (some 14) rfl rfl Try.func69 (by kernel_rfl) rfl #[.slice A0_1 l0_1.length c0_1, .slice A1_1 l1_1.length c1_1] rfl MT ?_; (with_reducible refine (laws_eqRuleS.calls k _ _ l0_1 _ _ l1_1 true _ ?side1 ?side2 ?side3 ?side4 A4.out).mono ?_); (case side1 => exact KD HR0_1 HB); (case side2 => exact HC0_1.out); (case side3 => exact KD HR1_1 HB); (case side4 => exact HC1_1.out); rintro e w32 ⟨rfl, hb⟩; refine ⟨_, rfl, ?_⟩; replace BK101 := am (BB BK101 hb); replace BK102 := am (BB BK102 hb); replace HB := am (below_step (K2 HB GE101.out GE102.out) hb); (try clear hb); (try clear hb2); (try clear hk); (try clear hi); obtain ⟨hcz33_0, hcz33_1, hcz33_2, hcz33_3, hcz33_4, hcz33_5, hfz33_0⟩ := y6 w32 BK101.out; obtain ⟨hcz34_0, hcz34_1, hcz34_2, hcz34_3, hcz34_4, hcz34_5, hfz34_0⟩ := y6 w32 BK102.out) | ((with_reducible refine gate_callee (f := 70) rfl ?_); refine goesL_ (some 20) rfl rfl Try.func70 (by kernel_rfl) rfl #[.agg #[.int .i64 a0_2, .slice A0_3 l0_3.length c0_3], .agg #[.int .i64 a1_2, .slice A1_3 l1_3.length c1_3]] rfl MT ?_; (with_reducible refine (laws_eqCache.calls k a0_2 _ _ l0_3 a1_2 _ _ l1_3 true _ ?side1 ?side2 ?side3 ?side4 A6.out).mono ?_); (case side1 => exact KD HR0_3 HB); (case side2 => exact HC0_3.out); (case side3 => exact KD HR1_3 HB); (case side4 => exact HC1_3.out); rintro e w35 ⟨rfl, hb⟩; refine ⟨_, rfl, ?_⟩; replace BK101 := am (BB BK101 hb); replace BK102 := am (BB BK102 hb); replace HB := am (below_step (K2 HB GE101.out GE102.out) hb); (try clear hb); (try clear hb2); (try clear hk); (try clear hi); obtain ⟨hcz36_0, hcz36_1, hcz36_2, hcz36_3, hcz36_4, hcz36_5, hfz36_0⟩ := y6 w35 BK101.out; obtain ⟨hcz37_0, hcz37_1, hcz37_2, hcz37_3, hcz37_4, hcz37_5, hfz37_0⟩ := y6 w35 BK102.out) | ((with_reducible refine gate_callee (f := 71) rfl ?_); refine goesL_ (some 26) rfl rfl Try.func71 (by kernel_rfl) rfl #[.slice A0_4 l0_4.length c0_4, .slice A1_4 l1_4.length c1_4] rfl MT ?_; (with_reducible refine (laws_eqSaS.calls k _ _ l0_4 _ _ l1_4 true _ ?side1 ?side2 ?side3 ?side4 A8.out).mono ?_); (case side1 => exact KD HR0_4 HB); (case side2 => exact HC0_4.out); (case side3 => exact KD HR1_4 HB); (case side4 => exact HC1_4.out); rintro e w38 ⟨rfl, hb⟩; refine ⟨_, rfl, ?_⟩; replace BK101 := am (BB BK101 hb); replace BK102 := am (BB BK102 hb); replace HB := am (below_step (K2 HB GE101.out GE102.out) hb); (try clear hb); (try clear hb2); (try clear hk); (try clear hi); obtain ⟨hcz39_0, hcz39_1, hcz39_2, hcz39_3, hcz39_4, hcz39_5, hfz39_0⟩ := y6 w38 BK101.out; obtain ⟨hcz40_0, hcz40_1, hcz40_2, hcz40_3, hcz40_4, hcz40_5, hfz40_0⟩ := y6 w38 BK102.out) | ((with_reducible refine gate_callee (f := 71) rfl ?_); refine goesL_ (some 32) rfl rfl Try.func71 (by kernel_rfl) rfl #[.slice A0_5 l0_5.length c0_5, .slice A1_5 l1_5.length c1_5] rfl MT ?_; (with_reducible refine (laws_eqSaS.calls k _ _ l0_5 _ _ l1_5 false _ ?side1 ?side2 ?side3 ?side4 A10.out).mono ?_); (case side1 => exact KD HR0_5 HB); (case side2 => exact HC0_5.out); (case side3 => exact KD HR1_5 HB); (case side4 => exact HC1_5.out); rintro e w41 ⟨rfl, hb⟩; refine ⟨_, rfl, ?_⟩; replace BK101 := am (BB BK101 hb); replace BK102 := am (BB BK102 hb); replace HB := am (below_step (K2 HB GE101.out GE102.out) hb); (try clear hb); (try clear hb2); (try clear hk); (try clear hi)))
      go_ret
      exact ⟨ER, K2 HB GE101.out GE102.out⟩
    ·replace c9 := Bool.eq_false_iff.mpr c9
     subst c9
     have H1 : (some false) = some r := by rw [if_neg (show ¬ (false = true) by decide)] at H; exact H
     clear H
     have H := H1
     clear H1
     obtain rfl := Option.some.inj H
     go_enter Try.func33, Try.ntmps33
     go_wp2_with (first | ((with_reducible refine gate_dst (N := 2) rfl ?_); refine box_event rfl (N := 2) rfl (cs := #[.int .i64 a0_0, .slice A0_1 l0_1.length c0_1, .int .i64 a0_2, .slice A0_3 l0_3.length c0_3, .slice A0_4 l0_4.length c0_4, .slice A0_5 l0_5.length c0_5]) (t := 57) BX ?_; intro gb101 hg w42 hbox hb; have BK101 := am (hbox); have GW101 := am (GH HB hg); have GE101 := GW101; replace HB := am (below_step (KL HB) hb); clear hb hbox hg) | ((with_reducible refine gate_dst (N := 3) rfl ?_); refine box_event rfl (N := 3) rfl (cs := #[.int .i64 a1_0, .slice A1_1 l1_1.length c1_1, .int .i64 a1_2, .slice A1_3 l1_3.length c1_3, .slice A1_4 l1_4.length c1_4, .slice A1_5 l1_5.length c1_5]) (t := 57) BX ?_; intro gb102 hg w43 hbox hb; have BK102 := am (hbox); have GW102 := am (GH1 HB GE101.out hg); have GE102 := GW102; replace HB := am (below_step (K1 HB GE101.out) hb); have NB101_102 := am (NL BK101 hg); have NB102_101 := am (NG BK101 hg); replace BK101 := am (BB BK101 hb); clear hb hbox hg; have hnb44 := NB101_102.out; have hnc44 := NB102_101.out; obtain ⟨hcz45_0, hcz45_1, hcz45_2, hcz45_3, hcz45_4, hcz45_5, hfz45_0⟩ := y6 w43 BK101.out; obtain ⟨hcz46_0, hcz46_1, hcz46_2, hcz46_3, hcz46_4, hcz46_5, hfz46_0⟩ := y6 w43 BK102.out) | ((with_reducible refine gate_callee (f := 69) rfl ?_); refine goesL_ (some 14) rfl rfl Try.func69 (by kernel_rfl) rfl #[.slice A0_1 l0_1.length c0_1, .slice A1_1 l1_1.length c1_1] rfl MT ?_; (with_reducible refine (laws_eqRuleS.calls k _ _ l0_1 _ _ l1_1 true _ ?side1 ?side2 ?side3 ?side4 A4.out).mono ?_); (case side1 => exact KD HR0_1 HB); (case side2 => exact HC0_1.out); (case side3 => exact KD HR1_1 HB); (case side4 => exact HC1_1.out); rintro e w47 ⟨rfl, hb⟩; refine ⟨_, rfl, ?_⟩; replace BK101 := am (BB BK101 hb); replace BK102 := am (BB BK102 hb); replace HB := am (below_step (K2 HB GE101.out GE102.out) hb); (try clear hb); (try clear hb2); (try clear hk); (try clear hi); obtain ⟨hcz48_0, hcz48_1, hcz48_2, hcz48_3, hcz48_4, hcz48_5, hfz48_0⟩ := y6 w47 BK101.out; obtain ⟨hcz49_0, hcz49_1, hcz49_2, hcz49_3, hcz49_4, hcz49_5, hfz49_0⟩ := y6 w47 BK102.out) | ((with_reducible refine gate_callee (f := 70) rfl ?_); refine goesL_ (some 20) rfl rfl Try.func70 (by kernel_rfl) rfl #[.agg #[.int .i64 a0_2, .slice A0_3 l0_3.length c0_3], .agg #[.int .i64 a1_2, .slice A1_3 l1_3.length c1_3]] rfl MT ?_; (with_reducible refine (laws_eqCache.calls k a0_2 _ _ l0_3 a1_2 _ _ l1_3 true _ ?side1 ?side2 ?side3 ?side4 A6.out).mono ?_); (case side1 => exact KD HR0_3 HB); (case side2 => exact HC0_3.out); (case side3 => exact KD HR1_3 HB); (case side4 => exact HC1_3.out); rintro e w50 ⟨rfl, hb⟩; refine ⟨_, rfl, ?_⟩; replace BK101 := am (BB BK101 hb); replace BK102 := am (BB BK102 hb); replace HB := am (below_step (K2 HB GE101.out GE102.out) hb); (try clear hb); (try clear hb2); (try clear hk); (try clear hi); obtain ⟨hcz51_0, hcz51_1, hcz51_2, hcz51_3, hcz51_4, hcz51_5, hfz51_0⟩ := y6 w50 BK101.out; obtain ⟨hcz52_0, hcz52_1, hcz52_2, hcz52_3, hcz52_4, hcz52_5, hfz52_0⟩ := y6 w50 BK102.out) | ((with_reducible refine gate_callee (f := 71) rfl ?_); refine goesL_ (some 26) rfl rfl Try.func71 (by kernel_rfl) rfl #[.slice A0_4 l0_4.length c0_4, .slice A1_4 l1_4.length c1_4] rfl MT ?_; (with_reducible refine (laws_eqSaS.calls k _ _ l0_4 _ _ l1_4 false _ ?side1 ?side2 ?side3 ?side4 A8.out).mono ?_); (case side1 => exact KD HR0_4 HB); (case side2 => exact HC0_4.out); (case side3 => exact KD HR1_4 HB); (case side4 => exact HC1_4.out); rintro e w53 ⟨rfl, hb⟩; refine ⟨_, rfl, ?_⟩; replace BK101 := am (BB BK101 hb); replace BK102 := am (BB BK102 hb); replace HB := am (below_step (K2 HB GE101.out GE102.out) hb); (try clear hb); (try clear hb2); (try clear hk); (try clear hi)))
     go_ret
     exact ⟨ER, K2 HB GE101.out GE102.out⟩
   ·replace c7 := Bool.eq_false_iff.mpr c7
    subst c7
    have H1 : (some false) = some r := by rw [if_neg (show ¬ (false = true) by decide)] at H; exact H
    clear H
    have H := H1
    clear H1
    obtain rfl := Option.some.inj H
    go_enter Try.func33, Try.ntmps33
    go_wp2_with (first | ((with_reducible refine gate_dst (N := 2) rfl ?_); refine box_event rfl (N := 2) rfl (cs := #[.int .i64 a0_0, .slice A0_1 l0_1.length c0_1, .int .i64 a0_2, .slice A0_3 l0_3.length c0_3, .slice A0_4 l0_4.length c0_4, .slice A0_5 l0_5.length c0_5]) (t := 57) BX ?_; intro gb101 hg w54 hbox hb; have BK101 := am (hbox); have GW101 := am (GH HB hg); have GE101 := GW101; replace HB := am (below_step (KL HB) hb); clear hb hbox hg) | ((with_reducible refine gate_dst (N := 3) rfl ?_); refine box_event rfl (N := 3) rfl (cs := #[.int .i64 a1_0, .slice A1_1 l1_1.length c1_1, .int .i64 a1_2, .slice A1_3 l1_3.length c1_3, .slice A1_4 l1_4.length c1_4, .slice A1_5 l1_5.length c1_5]) (t := 57) BX ?_; intro gb102 hg w55 hbox hb; have BK102 := am (hbox); have GW102 := am (GH1 HB GE101.out hg); have GE102 := GW102; replace HB := am (below_step (K1 HB GE101.out) hb); have NB101_102 := am (NL BK101 hg); have NB102_101 := am (NG BK101 hg); replace BK101 := am (BB BK101 hb); clear hb hbox hg; have hnb56 := NB101_102.out; have hnc56 := NB102_101.out; obtain ⟨hcz57_0, hcz57_1, hcz57_2, hcz57_3, hcz57_4, hcz57_5, hfz57_0⟩ := y6 w55 BK101.out; obtain ⟨hcz58_0, hcz58_1, hcz58_2, hcz58_3, hcz58_4, hcz58_5, hfz58_0⟩ := y6 w55 BK102.out) | ((with_reducible refine gate_callee (f := 69) rfl ?_); refine goesL_ (some 14) rfl rfl Try.func69 (by kernel_rfl) rfl #[.slice A0_1 l0_1.length c0_1, .slice A1_1 l1_1.length c1_1] rfl MT ?_; (with_reducible refine (laws_eqRuleS.calls k _ _ l0_1 _ _ l1_1 true _ ?side1 ?side2 ?side3 ?side4 A4.out).mono ?_); (case side1 => exact KD HR0_1 HB); (case side2 => exact HC0_1.out); (case side3 => exact KD HR1_1 HB); (case side4 => exact HC1_1.out); rintro e w59 ⟨rfl, hb⟩; refine ⟨_, rfl, ?_⟩; replace BK101 := am (BB BK101 hb); replace BK102 := am (BB BK102 hb); replace HB := am (below_step (K2 HB GE101.out GE102.out) hb); (try clear hb); (try clear hb2); (try clear hk); (try clear hi); obtain ⟨hcz60_0, hcz60_1, hcz60_2, hcz60_3, hcz60_4, hcz60_5, hfz60_0⟩ := y6 w59 BK101.out; obtain ⟨hcz61_0, hcz61_1, hcz61_2, hcz61_3, hcz61_4, hcz61_5, hfz61_0⟩ := y6 w59 BK102.out) | ((with_reducible refine gate_callee (f := 70) rfl ?_); refine goesL_ (some 20) rfl rfl Try.func70 (by kernel_rfl) rfl #[.agg #[.int .i64 a0_2, .slice A0_3 l0_3.length c0_3], .agg #[.int .i64 a1_2, .slice A1_3 l1_3.length c1_3]] rfl MT ?_; (with_reducible refine (laws_eqCache.calls k a0_2 _ _ l0_3 a1_2 _ _ l1_3 false _ ?side1 ?side2 ?side3 ?side4 A6.out).mono ?_); (case side1 => exact KD HR0_3 HB); (case side2 => exact HC0_3.out); (case side3 => exact KD HR1_3 HB); (case side4 => exact HC1_3.out); rintro e w62 ⟨rfl, hb⟩; refine ⟨_, rfl, ?_⟩; replace BK101 := am (BB BK101 hb); replace BK102 := am (BB BK102 hb); replace HB := am (below_step (K2 HB GE101.out GE102.out) hb); (try clear hb); (try clear hb2); (try clear hk); (try clear hi)))
    go_ret
    exact ⟨ER, K2 HB GE101.out GE102.out⟩
  ·replace c5 := Bool.eq_false_iff.mpr c5
   subst c5
   have H1 : (some false) = some r := by rw [if_neg (show ¬ (false = true) by decide)] at H; exact H
   clear H
   have H := H1
   clear H1
   obtain rfl := Option.some.inj H
   go_enter Try.func33, Try.ntmps33
   go_wp2_with (first | ((with_reducible refine gate_dst (N := 2) rfl ?_); refine box_event rfl (N := 2) rfl (cs := #[.int .i64 a0_0, .slice A0_1 l0_1.length c0_1, .int .i64 a0_2, .slice A0_3 l0_3.length c0_3, .slice A0_4 l0_4.length c0_4, .slice A0_5 l0_5.length c0_5]) (t := 57) BX ?_; intro gb101 hg w63 hbox hb; have BK101 := am (hbox); have GW101 := am (GH HB hg); have GE101 := GW101; replace HB := am (below_step (KL HB) hb); clear hb hbox hg) | ((with_reducible refine gate_dst (N := 3) rfl ?_); refine box_event rfl (N := 3) rfl (cs := #[.int .i64 a1_0, .slice A1_1 l1_1.length c1_1, .int .i64 a1_2, .slice A1_3 l1_3.length c1_3, .slice A1_4 l1_4.length c1_4, .slice A1_5 l1_5.length c1_5]) (t := 57) BX ?_; intro gb102 hg w64 hbox hb; have BK102 := am (hbox); have GW102 := am (GH1 HB GE101.out hg); have GE102 := GW102; replace HB := am (below_step (K1 HB GE101.out) hb); have NB101_102 := am (NL BK101 hg); have NB102_101 := am (NG BK101 hg); replace BK101 := am (BB BK101 hb); clear hb hbox hg; have hnb65 := NB101_102.out; have hnc65 := NB102_101.out; obtain ⟨hcz66_0, hcz66_1, hcz66_2, hcz66_3, hcz66_4, hcz66_5, hfz66_0⟩ := y6 w64 BK101.out; obtain ⟨hcz67_0, hcz67_1, hcz67_2, hcz67_3, hcz67_4, hcz67_5, hfz67_0⟩ := y6 w64 BK102.out) | ((with_reducible refine gate_callee (f := 69) rfl ?_); refine goesL_ (some 14) rfl rfl Try.func69 (by kernel_rfl) rfl #[.slice A0_1 l0_1.length c0_1, .slice A1_1 l1_1.length c1_1] rfl MT ?_; (with_reducible refine (laws_eqRuleS.calls k _ _ l0_1 _ _ l1_1 false _ ?side1 ?side2 ?side3 ?side4 A4.out).mono ?_); (case side1 => exact KD HR0_1 HB); (case side2 => exact HC0_1.out); (case side3 => exact KD HR1_1 HB); (case side4 => exact HC1_1.out); rintro e w68 ⟨rfl, hb⟩; refine ⟨_, rfl, ?_⟩; replace BK101 := am (BB BK101 hb); replace BK102 := am (BB BK102 hb); replace HB := am (below_step (K2 HB GE101.out GE102.out) hb); (try clear hb); (try clear hb2); (try clear hk); (try clear hi)))
   go_ret
   exact ⟨ER, K2 HB GE101.out GE102.out⟩
 ·rw [if_neg c3] at H
  have c3b0 : (a0_0 == a1_0) = false := beq_eq_false_iff_ne.mpr c3
  have c3b1 : (a0_0 != a1_0) = true := bne_iff_ne.mpr c3
  obtain rfl := Option.some.inj H
  go_enter Try.func33, Try.ntmps33
  go_wp2_with (first | ((with_reducible refine gate_dst (N := 2) rfl ?_); refine box_event rfl (N := 2) rfl (cs := #[.int .i64 a0_0, .slice A0_1 l0_1.length c0_1, .int .i64 a0_2, .slice A0_3 l0_3.length c0_3, .slice A0_4 l0_4.length c0_4, .slice A0_5 l0_5.length c0_5]) (t := 57) BX ?_; intro gb101 hg w69 hbox hb; have BK101 := am (hbox); have GW101 := am (GH HB hg); have GE101 := GW101; replace HB := am (below_step (KL HB) hb); clear hb hbox hg) | ((with_reducible refine gate_dst (N := 3) rfl ?_); refine box_event rfl (N := 3) rfl (cs := #[.int .i64 a1_0, .slice A1_1 l1_1.length c1_1, .int .i64 a1_2, .slice A1_3 l1_3.length c1_3, .slice A1_4 l1_4.length c1_4, .slice A1_5 l1_5.length c1_5]) (t := 57) BX ?_; intro gb102 hg w70 hbox hb; have BK102 := am (hbox); have GW102 := am (GH1 HB GE101.out hg); have GE102 := GW102; replace HB := am (below_step (K1 HB GE101.out) hb); have NB101_102 := am (NL BK101 hg); have NB102_101 := am (NG BK101 hg); replace BK101 := am (BB BK101 hb); clear hb hbox hg; have hnb71 := NB101_102.out; have hnc71 := NB102_101.out; obtain ⟨hcz72_0, hcz72_1, hcz72_2, hcz72_3, hcz72_4, hcz72_5, hfz72_0⟩ := y6 w70 BK101.out; obtain ⟨hcz73_0, hcz73_1, hcz73_2, hcz73_3, hcz73_4, hcz73_5, hfz73_0⟩ := y6 w70 BK102.out))
  go_ret
  exact ⟨ER, K2 HB GE101.out GE102.out⟩
end Go.Proofs.Ytlpmmmhfceeiaaa.PAll
end
