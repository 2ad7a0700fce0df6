/- Contracts of the functions that the statement reaches, printed by a program out of the translation and joined with the plain laws. -/
import Derived.Test.YtlpmmmhfceeiaaaCFnExactGateDoes3
import Derived.Test.YtlpmmmhfceeiaaaCFnExactGateDoes4
import Derived.Test.YtlpmmmhfceeiaaaCFnExactGateDoes5
section
namespace Go.Proofs.Ytlpmmmhfceeiaaa.PAll
open Go.RowKit Go.Proofs.YtlpmmmhfceeiaaaW.PrintWords Go.Proofs.YtlpmmmhfceeiaaaW.PrintLast Go.Proofs.YtlpmmmhfceeiaaaW.PrintMore
attribute [local go_sem] max2_int min2_int max_two min_two max_three min_three max_four min_four   -- for this text's walks alone
set_option linter.unusedVariables false
set_option linter.unusedSimpArgs false
def laws_eqSa.f (k : Nat) (a0_0 : Int) (a0_1 : Int) (a0_2 : ByteArray) (a0_3 : ByteArray) (a0_4 : Int) (a0_5 : Int) (a0_6 : Int) (a0_7 : Int) (a0_8 : Int) (a0_9 : Int) (l0_10 : List Int) (a1_0 : Int) (a1_1 : Int) (a1_2 : ByteArray) (a1_3 : ByteArray) (a1_4 : Int) (a1_5 : Int) (a1_6 : Int) (a1_7 : Int) (a1_8 : Int) (a1_9 : Int) (l1_10 : List Int) : Option (Bool) := if a0_0 = a1_0 then (if a0_1 = a1_1 then (if a0_2.toList = a1_2.toList then (if a0_3.toList = a1_3.toList then (if a0_4 = a1_4 then (if a0_5 = a1_5 then (if a0_6 = a1_6 then (if a0_7 = a1_7 then (if a0_8 = a1_8 then ((laws_eqWindow.f k a0_9 l0_10 a1_9 l1_10).bind fun t103 => (if t103 = true then (some true) else (some false))) else (some false)) else (some false)) else (some false)) else (some false)) else (some false)) else (some false)) else (some false)) else (some false)) else (some false)
set_option maxHeartbeats 8000000 in
set_option maxRecDepth 100000 in
theorem laws_eqSa.calls (k : Nat) (a0_0 : Int) (a0_1 : Int) (a0_2 : ByteArray) (a0_3 : ByteArray) (a0_4 : Int) (a0_5 : Int) (a0_6 : Int) (a0_7 : Int) (a0_8 : Int) (a0_9 : Int) (A0_10 : Option Addr) (c0_10 : Nat) (l0_10 : List Int) (a1_0 : Int) (a1_1 : Int) (a1_2 : ByteArray) (a1_3 : ByteArray) (a1_4 : Int) (a1_5 : Int) (a1_6 : Int) (a1_7 : Int) (a1_8 : Int) (a1_9 : Int) (A1_10 : Option Addr) (c1_10 : Nat) (l1_10 : List Int) (r : Bool) (w : World) (hr0_10 : Kd.C (Kd.int .i64) w A0_10 l0_10.length l0_10) (hc0_10 : l0_10.length ≤ c0_10) (hr1_10 : Kd.C (Kd.int .i64) w A1_10 l1_10.length l1_10) (hc1_10 : l1_10.length ≤ c1_10) (h : laws_eqSa.f k a0_0 a0_1 a0_2 a0_3 a0_4 a0_5 a0_6 a0_7 a0_8 a0_9 l0_10 a1_0 a1_1 a1_2 a1_3 a1_4 a1_5 a1_6 a1_7 a1_8 a1_9 l1_10 = some r) :
  Calls Try.prog 114 #[.agg #[.int .i64 a0_0, .int .i64 a0_1, .string a0_2, .string a0_3, .int .i64 a0_4, .int .i64 a0_5, .int .i64 a0_6, .int .i64 a0_7, .int .i64 a0_8, .int .i64 a0_9, .slice A0_10 l0_10.length c0_10], .agg #[.int .i64 a1_0, .int .i64 a1_1, .string a1_2, .string a1_3, .int .i64 a1_4, .int .i64 a1_5, .int .i64 a1_6, .int .i64 a1_7, .int .i64 a1_8, .int .i64 a1_9, .slice A1_10 l1_10.length c1_10]] w fun e w' => e = .returned (.bool r) ∧ Below w.heap.size w w' := by
 have hu95 := Try.underlying95
 have hu31 := Try.underlying31
 have HR0_10 := Aside0.mk hr0_10
 have HC0_10 := Aside0.mk hc0_10
 clear hr0_10 hc0_10
 have HR1_10 := Aside0.mk hr1_10
 have HC1_10 := Aside0.mk hc1_10
 clear hr1_10 hc1_10
 have HB := am (Below.refl w.heap.size w)
 have H : (if a0_0 = a1_0 then (if a0_1 = a1_1 then (if a0_2.toList = a1_2.toList then (if a0_3.toList = a1_3.toList then (if a0_4 = a1_4 then (if a0_5 = a1_5 then (if a0_6 = a1_6 then (if a0_7 = a1_7 then (if a0_8 = a1_8 then ((laws_eqWindow.f k a0_9 l0_10 a1_9 l1_10).bind fun t103 => (if t103 = true then (some true) else (some false))) else (some false)) else (some false)) else (some false)) else (some false)) else (some false)) else (some false)) else (some false)) else (some false)) else (some false)) = some r := h
 clear h
 by_cases c3 : a0_0 = a1_0
 ·rw [if_pos c3] at H
  have c3b0 : (a0_0 == a1_0) = true := beq_iff_eq.mpr c3
  have c3b1 : (a0_0 != a1_0) = false := bne_eq_false_iff_eq.mpr c3
  clear c3
  by_cases c4 : a0_1 = a1_1
  ·rw [if_pos c4] at H
   have c4b0 : (a0_1 == a1_1) = true := beq_iff_eq.mpr c4
   have c4b1 : (a0_1 != a1_1) = false := bne_eq_false_iff_eq.mpr c4
   clear c4
   by_cases c5 : a0_2.toList = a1_2.toList
   ·rw [if_pos c5] at H
    have c5b0 : (a0_2.toList == a1_2.toList) = true := beq_iff_eq.mpr c5
    have c5b1 : (a0_2.toList != a1_2.toList) = false := bne_eq_false_iff_eq.mpr c5
    clear c5
    by_cases c6 : a0_3.toList = a1_3.toList
    ·rw [if_pos c6] at H
     have c6b0 : (a0_3.toList == a1_3.toList) = true := beq_iff_eq.mpr c6
     have c6b1 : (a0_3.toList != a1_3.toList) = false := bne_eq_false_iff_eq.mpr c6
     clear c6
     by_cases c7 : a0_4 = a1_4
     ·rw [if_pos c7] at H
      have c7b0 : (a0_4 == a1_4) = true := beq_iff_eq.mpr c7
      have c7b1 : (a0_4 != a1_4) = false := bne_eq_false_iff_eq.mpr c7
      clear c7
      by_cases c8 : a0_5 = a1_5
      ·rw [if_pos c8] at H
       have c8b0 : (a0_5 == a1_5) = true := beq_iff_eq.mpr c8
       have c8b1 : (a0_5 != a1_5) = false := bne_eq_false_iff_eq.mpr c8
       clear c8
       by_cases c9 : a0_6 = a1_6
       ·rw [if_pos c9] at H
        have c9b0 : (a0_6 == a1_6) = true := beq_iff_eq.mpr c9
        have c9b1 : (a0_6 != a1_6) = false := bne_eq_false_iff_eq.mpr c9
        clear c9
        by_cases c10 : a0_7 = a1_7
        ·rw [if_pos c10] at H
         have c10b0 : (a0_7 == a1_7) = true := beq_iff_eq.mpr c10
         have c10b1 : (a0_7 != a1_7) = false := bne_eq_false_iff_eq.mpr c10
         clear c10
         by_cases c11 : a0_8 = a1_8
         ·rw [if_pos c11] at H
          have c11b0 : (a0_8 == a1_8) = true := beq_iff_eq.mpr c11
          have c11b1 : (a0_8 != a1_8) = false := bne_eq_false_iff_eq.mpr c11
          clear c11
          replace H := Option.bind_eq_some_iff.mp H
          obtain ⟨t103, A120, H⟩ := H
          replace H : (if t103 = true then (some true) else (some false)) = some r := H
          have A12 := Aside0.mk A120
          clear A120
          by_cases c13 : t103 = true
          ·subst c13
           have H1 : (some true) = some r := by rw [if_pos rfl] at H; exact H
           clear H
           have H := H1
           clear H1
           obtain rfl := Option.some.inj H
           go_enter Try.func114, Try.ntmps114
           go_wp2_with (first | ((with_reducible refine gate_dst (N := 2) rfl ?_); refine box_event rfl (N := 2) rfl (cs := #[.int .i64 a0_0, .int .i64 a0_1, .string a0_2, .string a0_3, .int .i64 a0_4, .int .i64 a0_5, .int .i64 a0_6, .int .i64 a0_7, .int .i64 a0_8, .int .i64 a0_9, .slice A0_10 l0_10.length c0_10]) (t := 95) BX ?_; intro gb101 hg w14 hbox hb; have BK101 := am (hbox); have GW101 := am (GH HB hg); have GE101 := GW101; replace HB := am (below_step (KL HB) hb); clear hb hbox hg) | ((with_reducible refine gate_dst (N := 3) rfl ?_); refine box_event rfl (N := 3) rfl (cs := #[.int .i64 a1_0, .int .i64 a1_1, .string a1_2, .string a1_3, .int .i64 a1_4, .int .i64 a1_5, .int .i64 a1_6, .int .i64 a1_7, .int .i64 a1_8, .int .i64 a1_9, .slice A1_10 l1_10.length c1_10]) (t := 95) BX ?_; intro gb102 hg w15 hbox hb; have BK102 := am (hbox); have GW102 := am (GH1 HB GE101.out hg); have GE102 := GW102; replace HB := am (below_step (K1 HB GE101.out) hb); have NB101_102 := am (NL BK101 hg); have NB102_101 := am (NG BK101 hg); replace BK101 := am (BB BK101 hb); clear hb hbox hg; have hnb16 := NB101_102.out; have hnc16 := NB102_101.out; obtain ⟨hcz17_0, hcz17_1, hcz17_2, hcz17_3, hcz17_4, hcz17_5, hcz17_6, hcz17_7, hcz17_8, hcz17_9, hcz17_10, hfz17_0⟩ := y11 w15 BK101.out; obtain ⟨hcz18_0, hcz18_1, hcz18_2, hcz18_3, hcz18_4, hcz18_5, hcz18_6, hcz18_7, hcz18_8, hcz18_9, hcz18_10, hfz18_0⟩ := y11 w15 BK102.out) | ((with_reducible refine gate_callee (f := 26) rfl ?_); refine goesL_ (some 54) rfl rfl Try.func26 (by kernel_rfl) rfl #[.agg #[.int .i64 a0_9, .slice A0_10 l0_10.length c0_10], .agg #[.int .i64 a1_9, .slice A1_10 l1_10.length c1_10]] rfl MT ?_; (with_reducible refine (laws_eqWindow.calls k a0_9 _ _ l0_10 a1_9 _ _ l1_10 true _ ?side1 ?side2 ?side3 ?side4 A12.out).mono ?_); (case side1 => exact KD HR0_10 HB); (case side2 => exact HC0_10.out); (case side3 => exact KD HR1_10 HB); (case side4 => exact HC1_10.out); rintro e w19 ⟨rfl, hb⟩; refine ⟨_, rfl, ?_⟩; replace BK101 := am (BB BK101 hb); replace BK102 := am (BB BK102 hb); replace HB := am (below_step (K2 HB GE101.out GE102.out) hb); (try clear hb)))
           go_ret
           exact ⟨ER, K2 HB GE101.out GE102.out⟩
          ·replace c13 := Bool.eq_false_iff.mpr c13
           subst c13
           have H1 : (some false) = some r := by rw [if_neg (show ¬ (false = true) by decide)] at H; exact H
           clear H
           have H := H1
           clear H1
           obtain rfl := Option.some.inj H
           go_enter Try.func114, Try.ntmps114
           go_wp2_with (first | ((with_reducible refine gate_dst (N := 2) rfl ?_); refine box_event rfl (N := 2) rfl (cs := #[.int .i64 a0_0, .int .i64 a0_1, .string a0_2, .string a0_3, .int .i64 a0_4, .int .i64 a0_5, .int .i64 a0_6, .int .i64 a0_7, .int .i64 a0_8, .int .i64 a0_9, .slice A0_10 l0_10.length c0_10]) (t := 95) BX ?_; intro gb101 hg w20 hbox hb; have BK101 := am (hbox); have GW101 := am (GH HB hg); have GE101 := GW101; replace HB := am (below_step (KL HB) hb); clear hb hbox hg) | ((with_reducible refine gate_dst (N := 3) rfl ?_); refine box_event rfl (N := 3) rfl (cs := #[.int .i64 a1_0, .int .i64 a1_1, .string a1_2, .string a1_3, .int .i64 a1_4, .int .i64 a1_5, .int .i64 a1_6, .int .i64 a1_7, .int .i64 a1_8, .int .i64 a1_9, .slice A1_10 l1_10.length c1_10]) (t := 95) BX ?_; intro gb102 hg w21 hbox hb; have BK102 := am (hbox); have GW102 := am (GH1 HB GE101.out hg); have GE102 := GW102; replace HB := am (below_step (K1 HB GE101.out) hb); have NB101_102 := am (NL BK101 hg); have NB102_101 := am (NG BK101 hg); replace BK101 := am (BB BK101 hb); clear hb hbox hg; have hnb22 := NB101_102.out; have hnc22 := NB102_101.out; obtain ⟨hcz23_0, hcz23_1, hcz23_2, hcz23_3, hcz23_4, hcz23_5, hcz23_6, hcz23_7, hcz23_8, hcz23_9, hcz23_10, hfz23_0⟩ := y11 w21 BK101.out; obtain ⟨hcz24_0, hcz24_1, hcz24_2, hcz24_3, hcz24_4, hcz24_5, hcz24_6, hcz24_7, hcz24_8, hcz24_9, hcz24_10, hfz24_0⟩ := y11 w21 BK102.out) | ((with_reducible refine gate_callee (f := 26) rfl ?_); refine goesL_ (some 54) rfl rfl Try.func26 (by kernel_rfl) rfl #[.agg #[.int .i64 a0_9, .slice A0_10 l0_10.length c0_10], .agg #[.int .i64 a1_9, .slice A1_10 l1_10.length c1_10]] rfl MT ?_; (with_reducible refine (laws_eqWindow.calls k a0_9 _ _ l0_10 a1_9 _ _ l1_10 false _ ?side1 ?side2 ?side3 ?side4 A12.out).mono ?_); (case side1 => exact KD HR0_10 HB); (case side2 => exact HC0_10.out); (case side3 => exact KD HR1_10 HB); (case side4 => exact HC1_10.out); rintro e w25 ⟨rfl, hb⟩; refine ⟨_, rfl, ?_⟩; replace BK101 := am (BB BK101 hb); replace BK102 := am (BB BK102 hb); replace HB := am (below_step (K2 HB GE101.out GE102.out) hb); (try clear hb)))
           go_ret
           exact ⟨ER, K2 HB GE101.out GE102.out⟩
         ·rw [if_neg c11] at H
          have c11b0 : (a0_8 == a1_8) = false := beq_eq_false_iff_ne.mpr c11
          have c11b1 : (a0_8 != a1_8) = true := bne_iff_ne.mpr c11
          obtain rfl := Option.some.inj H
          go_enter Try.func114, Try.ntmps114
          go_wp2_with (first | ((with_reducible refine gate_dst (N := 2) rfl ?_); refine box_event rfl (N := 2) rfl (cs := #[.int .i64 a0_0, .int .i64 a0_1, .string a0_2, .string a0_3, .int .i64 a0_4, .int .i64 a0_5, .int .i64 a0_6, .int .i64 a0_7, .int .i64 a0_8, .int .i64 a0_9, .slice A0_10 l0_10.length c0_10]) (t := 95) BX ?_; intro gb101 hg w26 hbox hb; have BK101 := am (hbox); have GW101 := am (GH HB hg); have GE101 := GW101; replace HB := am (below_step (KL HB) hb); clear hb hbox hg) | ((with_reducible refine gate_dst (N := 3) rfl ?_); refine box_event rfl (N := 3) rfl (cs := #[.int .i64 a1_0, .int .i64 a1_1, .string a1_2, .string a1_3, .int .i64 a1_4, .int .i64 a1_5, .int .i64 a1_6, .int .i64 a1_7, .int .i64 a1_8, .int .i64 a1_9, .slice A1_10 l1_10.length c1_10]) (t := 95) BX ?_; intro gb102 hg w27 hbox hb; have BK102 := am (hbox); have GW102 := am (GH1 HB GE101.out hg); have GE102 := GW102; replace HB := am (below_step (K1 HB GE101.out) hb); have NB101_102 := am (NL BK101 hg); have NB102_101 := am (NG BK101 hg); replace BK101 := am (BB BK101 hb); clear hb hbox hg; have hnb28 := NB101_102.out; have hnc28 := NB102_101.out; obtain ⟨hcz29_0, hcz29_1, hcz29_2, hcz29_3, hcz29_4, hcz29_5, hcz29_6, hcz29_7, hcz29_8, hcz29_9, hcz29_10, hfz29_0⟩ := y11 w27 BK101.out; obtain ⟨hcz30_0, hcz30_1, hcz30_2, hcz30_3, hcz30_4, hcz30_5, hcz30_6, hcz30_7, hcz30_8, hcz30_9, hcz30_10, hfz30_0⟩ := y11 w27 BK102.out))
          go_ret
          exact ⟨ER, K2 HB GE101.out GE102.out⟩
        ·rw [if_neg c10] at H
         have c10b0 : (a0_7 == a1_7) = false := beq_eq_false_iff_ne.mpr c10
         have c10b1 : (a0_7 != a1_7) = true := bne_iff_ne.mpr c10
         obtain rfl := Option.some.inj H
         go_enter Try.func114, Try.ntmps114
         go_wp2_with (first | ((with_reducible refine gate_dst (N := 2) rfl ?_); refine box_event rfl (N := 2) rfl (cs := #[.int .i64 a0_0, .int .i64 a0_1, .string a0_2, .string a0_3, .int .i64 a0_4, .int .i64 a0_5, .int .i64 a0_6, .int .i64 a0_7, .int .i64 a0_8, .int .i64 a0_9, .slice A0_10 l0_10.length c0_10]) (t := 95) BX ?_; intro gb101 hg w31 hbox hb; have BK101 := am (hbox); have GW101 := am (GH HB hg); have GE101 := GW101; replace HB := am (below_step (KL HB) hb); clear hb hbox hg) | ((with_reducible refine gate_dst (N := 3) rfl ?_); refine box_event rfl (N := 3) rfl (cs := #[.int .i64 a1_0, .int .i64 a1_1, .string a1_2, .string a1_3, .int .i64 a1_4, .int .i64 a1_5, .int .i64 a1_6, .int .i64 a1_7, .int .i64 a1_8, .int .i64 a1_9, .slice A1_10 l1_10.length c1_10]) (t := 95) BX ?_; intro gb102 hg w32 hbox hb; have BK102 := am (hbox); have GW102 := am (GH1 HB GE101.out hg); have GE102 := GW102; replace HB := am (below_step (K1 HB GE101.out) hb); have NB101_102 := am (NL BK101 hg); have NB102_101 := am (NG BK101 hg); replace BK101 := am (BB BK101 hb); clear hb hbox hg; have hnb33 := NB101_102.out; have hnc33 := NB102_101.out; obtain ⟨hcz34_0, hcz34_1, hcz34_2, hcz34_3, hcz34_4, hcz34_5, hcz34_6, hcz34_7, hcz34_8, hcz34_9, hcz34_10, hfz34_0⟩ := y11 w32 BK101.out; obtain ⟨hcz35_0, hcz35_1, hcz35_2, hcz35_3, hcz35_4, hcz35_5, hcz35_6, hcz35_7, hcz35_8, hcz35_9, hcz35_10, hfz35_0⟩ := y11 w32 BK102.out))
         go_ret
         exact ⟨ER, K2 HB GE101.out GE102.out⟩
       ·rw [if_neg c9] at H
        have c9b0 : (a0_6 == a1_6) = false := beq_eq_false_iff_ne.mpr c9
        have c9b1 : (a0_6 != a1_6) = true := bne_iff_ne.mpr c9
        obtain rfl := Option.some.inj H
        go_enter Try.func114, Try.ntmps114
        go_wp2_with (first | ((with_reducible refine gate_dst (N := 2) rfl ?_); refine box_event rfl (N := 2) rfl (cs := #[.int .i64 a0_0, .int .i64 a0_1, .string a0_2, .string a0_3, .int .i64 a0_4, .int .i64 a0_5, .int .i64 a0_6, .int .i64 a0_7, .int .i64 a0_8, .int .i64 a0_9, .slice A0_10 l0_10.length c0_10]) (t := 95) BX ?_; intro gb101 hg w36 hbox hb; have BK101 := am (hbox); have GW101 := am (GH HB hg); have GE101 := GW101; replace HB := am (below_step (KL HB) hb); clear hb hbox hg) | ((with_reducible refine gate_dst (N := 3) rfl ?_); refine box_event rfl (N := 3) rfl (cs := #[.int .i64 a1_0, .int .i64 a1_1, .string a1_2, .string a1_3, .int .i64 a1_4, .int .i64 a1_5, .int .i64 a1_6, .int .i64 a1_7, .int .i64 a1_8, .int .i64 a1_9, .slice A1_10 l1_10.length c1_10]) (t := 95) BX ?_; intro gb102 hg w37 hbox hb; have BK102 := am (hbox); have GW102 := am (GH1 HB GE101.out hg); have GE102 := GW102; replace HB := am (below_step (K1 HB GE101.out) hb); have NB101_102 := am (NL BK101 hg); have NB102_101 := am (NG BK101 hg); replace BK101 := am (BB BK101 hb); clear hb hbox hg; have hnb38 := NB101_102.out; have hnc38 := NB102_101.out; obtain ⟨hcz39_0, hcz39_1, hcz39_2, hcz39_3, hcz39_4, hcz39_5, hcz39_6, hcz39_7, hcz39_8, hcz39_9, hcz39_10, hfz39_0⟩ := y11 w37 BK101.out; obtain ⟨hcz40_0, hcz40_1, hcz40_2, hcz40_3, hcz40_4, hcz40_5, hcz40_6, hcz40_7, hcz40_8, hcz40_9, hcz40_10, hfz40_0⟩ := y11 w37 BK102.out))
        go_ret
        exact ⟨ER, K2 HB GE101.out GE102.out⟩
      ·rw [if_neg c8] at H
       have c8b0 : (a0_5 == a1_5) = false := beq_eq_false_iff_ne.mpr c8
       have c8b1 : (a0_5 != a1_5) = true := bne_iff_ne.mpr c8
       obtain rfl := Option.some.inj H
       go_enter Try.func114, Try.ntmps114
       go_wp2_with (first | ((with_reducible refine gate_dst (N := 2) rfl ?_); refine box_event rfl (N := 2) rfl (cs := #[.int .i64 a0_0, .int .i64 a0_1, .string a0_2, .string a0_3, .int .i64 a0_4, .int .i64 a0_5, .int .i64 a0_6, .int .i64 a0_7, .int .i64 a0_8, .int .i64 a0_9, .slice A0_10 l0_10.length c0_10]) (t := 95) BX ?_; intro gb101 hg w41 hbox hb; have BK101 := am (hbox); have GW101 := am (GH HB hg); have GE101 := GW101; replace HB := am (below_step (KL HB) hb); clear hb hbox hg) | ((with_reducible refine gate_dst (N := 3) rfl ?_); refine box_event rfl (N := 3) rfl (cs := #[.int .i64 a1_0, .int .i64 a1_1, .string a1_2, .string a1_3, .int .i64 a1_4, .int .i64 a1_5, .int .i64 a1_6, .int .i64 a1_7, .int .i64 a1_8, .int .i64 a1_9, .slice A1_10 l1_10.length c1_10]) (t := 95) BX ?_; intro gb102 hg w42 hbox hb; have BK102 := am (hbox); have GW102 := am (GH1 HB GE101.out hg); have GE102 := GW102; replace HB := am (below_step (K1 HB GE101.out) hb); have NB101_102 := am (NL BK101 hg); have NB102_101 := am (NG BK101 hg); replace BK101 := am (BB BK101 hb); clear hb hbox hg; have hnb43 := NB101_102.out; have hnc43 := NB102_101.out; obtain ⟨hcz44_0, hcz44_1, hcz44_2, hcz44_3, hcz44_4, hcz44_5, hcz44_6, hcz44_7, hcz44_8, hcz44_9, hcz44_10, hfz44_0⟩ := y11 w42 BK101.out; obtain ⟨hcz45_0, hcz45_1, hcz45_2, hcz45_3, hcz45_4, hcz45_5, hcz45_6, hcz45_7, hcz45_8, hcz45_9, hcz45_10, hfz45_0⟩ := y11 w42 BK102.out))
       go_ret
       exact ⟨ER, K2 HB GE101.out GE102.out⟩
     ·rw [if_neg c7] at H
      have c7b0 : (a0_4 == a1_4) = false := beq_eq_false_iff_ne.mpr c7
      have c7b1 : (a0_4 != a1_4) = true := bne_iff_ne.mpr c7
      obtain rfl := Option.some.inj H
      go_enter Try.func114, Try.ntmps114
      go_wp2_with (first | ((with_reducible refine gate_dst (N := 2) rfl ?_); refine box_event rfl (N := 2) rfl (cs := #[.int .i64 a0_0, .int .i64 a0_1, .string a0_2, .string a0_3, .int .i64 a0_4, .int .i64 a0_5, .int .i64 a0_6, .int .i64 a0_7, .int .i64 a0_8, .int .i64 a0_9, .slice A0_10 l0_10.length c0_10]) (t := 95) BX ?_; intro gb101 hg w46 hbox hb; have BK101 := am (hbox); have GW101 := am (GH HB hg); have GE101 := GW101; replace HB := am (below_step (KL HB) hb); clear hb hbox hg) | ((with_reducible refine gate_dst (N := 3) rfl ?_); refine box_event rfl (N := 3) rfl (cs := #[.int .i64 a1_0, .int .i64 a1_1, .string a1_2, .string a1_3, .int .i64 a1_4, .int .i64 a1_5, .int .i64 a1_6, .int .i64 a1_7, .int .i64 a1_8, .int .i64 a1_9, .slice A1_10 l1_10.length c1_10]) (t := 95) BX ?_; intro gb102 hg w47 hbox hb; have BK102 := am (hbox); have GW102 := am (GH1 HB GE101.out hg); have GE102 := GW102; replace HB := am (below_step (K1 HB GE101.out) hb); have NB101_102 := am (NL BK101 hg); have NB102_101 := am (NG BK101 hg); replace BK101 := am (BB BK101 hb); clear hb hbox hg; have hnb48 := NB101_102.out; have hnc48 := NB102_101.out; obtain ⟨hcz49_0, hcz49_1, hcz49_2, hcz49_3, hcz49_4, hcz49_5, hcz49_6, hcz49_7, hcz49_8, hcz49_9, hcz49_10, hfz49_0⟩ := y11 w47 BK101.out; obtain ⟨hcz50_0, hcz50_1, hcz50_2, hcz50_3, hcz50_4, hcz50_5, hcz50_6, hcz50_7, hcz50_8, hcz50_9, hcz50_10, hfz50_0⟩ := y11 w47 BK102.out))
      go_ret
      exact ⟨ER, K2 HB GE101.out GE102.out⟩
    ·rw [if_neg c6] at H
     have c6b0 : (a0_3.toList == a1_3.toList) = false := beq_eq_false_iff_ne.mpr c6
     have c6b1 : (a0_3.toList != a1_3.toList) = true := bne_iff_ne.mpr c6
     obtain rfl := Option.some.inj H
     go_enter Try.func114, Try.ntmps114
     go_wp2_with (first | ((with_reducible refine gate_dst (N := 2) rfl ?_); refine box_event rfl (N := 2) rfl (cs := #[.int .i64 a0_0, .int .i64 a0_1, .string a0_2, .string a0_3, .int .i64 a0_4, .int .i64 a0_5, .int .i64 a0_6, .int .i64 a0_7, .int .i64 a0_8, .int .i64 a0_9, .slice A0_10 l0_10.length c0_10]) (t := 95) BX ?_; intro gb101 hg w51 hbox hb; have BK101 := am (hbox); have GW101 := am (GH HB hg); have GE101 := GW101; replace HB := am (below_step (KL HB) hb); clear hb hbox hg) | ((with_reducible refine gate_dst (N := 3) rfl ?_); refine box_event rfl (N := 3) rfl (cs := #[.int .i64 a1_0, .int .i64 a1_1, .string a1_2, .string a1_3, .int .i64 a1_4, .int .i64 a1_5, .int .i64 a1_6, .int .i64 a1_7, .int .i64 a1_8, .int .i64 a1_9, .slice A1_10 l1_10.length c1_10]) (t := 95) BX ?_; intro gb102 hg w52 hbox hb; have BK102 := am (hbox); have GW102 := am (GH1 HB GE101.out hg); have GE102 := GW102; replace HB := am (below_step (K1 HB GE101.out) hb); have NB101_102 := am (NL BK101 hg); have NB102_101 := am (NG BK101 hg); replace BK101 := am (BB BK101 hb); clear hb hbox hg; have hnb53 := NB101_102.out; have hnc53 := NB102_101.out; obtain ⟨hcz54_0, hcz54_1, hcz54_2, hcz54_3, hcz54_4, hcz54_5, hcz54_6, hcz54_7, hcz54_8, hcz54_9, hcz54_10, hfz54_0⟩ := y11 w52 BK101.out; obtain ⟨hcz55_0, hcz55_1, hcz55_2, hcz55_3, hcz55_4, hcz55_5, hcz55_6, hcz55_7, hcz55_8, hcz55_9, hcz55_10, hfz55_0⟩ := y11 w52 BK102.out))
     go_ret
     exact ⟨ER, K2 HB GE101.out GE102.out⟩
   ·rw [if_neg c5] at H
    have c5b0 : (a0_2.toList == a1_2.toList) = false := beq_eq_false_iff_ne.mpr c5
    have c5b1 : (a0_2.toList != a1_2.toList) = true := bne_iff_ne.mpr c5
    obtain rfl := Option.some.inj H
    go_enter Try.func114, Try.ntmps114
    go_wp2_with (first | ((with_reducible refine gate_dst (N := 2) rfl ?_); refine box_event rfl (N := 2) rfl (cs := #[.int .i64 a0_0, .int .i64 a0_1, .string a0_2, .string a0_3, .int .i64 a0_4, .int .i64 a0_5, .int .i64 a0_6, .int .i64 a0_7, .int .i64 a0_8, .int .i64 a0_9, .slice A0_10 l0_10.length c0_10]) (t := 95) BX ?_; intro gb101 hg w56 hbox hb; have BK101 := am (hbox); have GW101 := am (GH HB hg); have GE101 := GW101; replace HB := am (below_step (KL HB) hb); clear hb hbox hg) | ((with_reducible refine gate_dst (N := 3) rfl ?_); refine box_event rfl (N := 3) rfl (cs := #[.int .i64 a1_0, .int .i64 a1_1, .string a1_2, .string a1_3, .int .i64 a1_4, .int .i64 a1_5, .int .i64 a1_6, .int .i64 a1_7, .int .i64 a1_8, .int .i64 a1_9, .slice A1_10 l1_10.length c1_10]) (t := 95) BX ?_; intro gb102 hg w57 hbox hb; have BK102 := am (hbox); have GW102 := am (GH1 HB GE101.out hg); have GE102 := GW102; replace HB := am (below_step (K1 HB GE101.out) hb); have NB101_102 := am (NL BK101 hg); have NB102_101 := am (NG BK101 hg); replace BK101 := am (BB BK101 hb); clear hb hbox hg; have hnb58 := NB101_102.out; have hnc58 := NB102_101.out; obtain ⟨hcz59_0, hcz59_1, hcz59_2, hcz59_3, hcz59_4, hcz59_5, hcz59_6, hcz59_7, hcz59_8, hcz59_9, hcz59_10, hfz59_0⟩ := y11 w57 BK101.out; obtain ⟨hcz60_0, hcz60_1, hcz60_2, hcz60_3, hcz60_4, hcz60_5, hcz60_6, hcz60_7, hcz60_8, hcz60_9, hcz60_10, hfz60_0⟩ := y11 w57 BK102.out))
    go_ret
    exact ⟨ER, K2 HB GE101.out GE102.out⟩
  ·rw [if_neg c4] at H
   have c4b0 : (a0_1 == a1_1) = false := beq_eq_false_iff_ne.mpr c4
   have c4b1 : (a0_1 != a1_1) = true := bne_iff_ne.mpr c4
   obtain rfl := Option.some.inj H
   go_enter Try.func114, Try.ntmps114
   go_wp2_with (first | ((with_reducible refine gate_dst (N := 2) rfl ?_); refine box_event rfl (N := 2) rfl (cs := #[.int .i64 a0_0, .int .i64 a0_1, .string a0_2, .string a0_3, .int .i64 a0_4, .int .i64 a0_5, .int .i64 a0_6, .int .i64 a0_7, .int .i64 a0_8, .int .i64 a0_9, .slice A0_10 l0_10.length c0_10]) (t := 95) BX ?_; intro gb101 hg w61 hbox hb; have BK101 := am (hbox); have GW101 := am (GH HB hg); have GE101 := GW101; replace HB := am (below_step (KL HB) hb); clear hb hbox hg) | ((with_reducible refine gate_dst (N := 3) rfl ?_); refine box_event rfl (N := 3) rfl (cs := #[.int .i64 a1_0, .int .i64 a1_1, .string a1_2, .string a1_3, .int .i64 a1_4, .int .i64 a1_5, .int .i64 a1_6, .int .i64 a1_7, .int .i64 a1_8, .int .i64 a1_9, .slice A1_10 l1_10.length c1_10]) (t := 95) BX ?_; intro gb102 hg w62 hbox hb; have BK102 := am (hbox); have GW102 := am (GH1 HB GE101.out hg); have GE102 := GW102; replace HB := am (below_step (K1 HB GE101.out) hb); have NB101_102 := am (NL BK101 hg); have NB102_101 := am (NG BK101 hg); replace BK101 := am (BB BK101 hb); clear hb hbox hg; have hnb63 := NB101_102.out; have hnc63 := NB102_101.out; obtain ⟨hcz64_0, hcz64_1, hcz64_2, hcz64_3, hcz64_4, hcz64_5, hcz64_6, hcz64_7, hcz64_8, hcz64_9, hcz64_10, hfz64_0⟩ := y11 w62 BK101.out; obtain ⟨hcz65_0, hcz65_1, hcz65_2, hcz65_3, hcz65_4, hcz65_5, hcz65_6, hcz65_7, hcz65_8, hcz65_9, hcz65_10, hfz65_0⟩ := y11 w62 BK102.out))
   go_ret
   exact ⟨ER, K2 HB GE101.out GE102.out⟩
 ·rw [if_neg c3] at H
  have c3b0 : (a0_0 == a1_0) = false := beq_eq_false_iff_ne.mpr c3
  have c3b1 : (a0_0 != a1_0) = true := bne_iff_ne.mpr c3
  obtain rfl := Option.some.inj H
  go_enter Try.func114, Try.ntmps114
  go_wp2_with (first | ((with_reducible refine gate_dst (N := 2) rfl ?_); refine box_event rfl (N := 2) rfl (cs := #[.int .i64 a0_0, .int .i64 a0_1, .string a0_2, .string a0_3, .int .i64 a0_4, .int .i64 a0_5, .int .i64 a0_6, .int .i64 a0_7, .int .i64 a0_8, .int .i64 a0_9, .slice A0_10 l0_10.length c0_10]) (t := 95) BX ?_; intro gb101 hg w66 hbox hb; have BK101 := am (hbox); have GW101 := am (GH HB hg); have GE101 := GW101; replace HB := am (below_step (KL HB) hb); clear hb hbox hg) | ((with_reducible refine gate_dst (N := 3) rfl ?_); refine box_event rfl (N := 3) rfl (cs := #[.int .i64 a1_0, .int .i64 a1_1, .string a1_2, .string a1_3, .int .i64 a1_4, .int .i64 a1_5, .int .i64 a1_6, .int .i64 a1_7, .int .i64 a1_8, .int .i64 a1_9, .slice A1_10 l1_10.length c1_10]) (t := 95) BX ?_; intro gb102 hg w67 hbox hb; have BK102 := am (hbox); have GW102 := am (GH1 HB GE101.out hg); have GE102 := GW102; replace HB := am (below_step (K1 HB GE101.out) hb); have NB101_102 := am (NL BK101 hg); have NB102_101 := am (NG BK101 hg); replace BK101 := am (BB BK101 hb); clear hb hbox hg; have hnb68 := NB101_102.out; have hnc68 := NB102_101.out; obtain ⟨hcz69_0, hcz69_1, hcz69_2, hcz69_3, hcz69_4, hcz69_5, hcz69_6, hcz69_7, hcz69_8, hcz69_9, hcz69_10, hfz69_0⟩ := y11 w67 BK101.out; obtain ⟨hcz70_0, hcz70_1, hcz70_2, hcz70_3, hcz70_4, hcz70_5, hcz70_6, hcz70_7, hcz70_8, hcz70_9, hcz70_10, hfz70_0⟩ := y11 w67 BK102.out))
  go_ret
  exact ⟨ER, K2 HB GE101.out GE102.out⟩
def laws_eqSaS.l0 : Nat → List (S95) → List (S95) → Int → Option (Bool)
 | 0, _, _, _ => none
 | k + 1, x0, x1, x5 => if x5 < (x0.length : Int) then (if 0 ≤ x5 then (if x5 < (x1.length : Int) then ((laws_eqSa.f k ((rd_T95 x0 x5).f0) ((rd_T95 x0 x5).f1) ((rd_T95 x0 x5).f2) ((rd_T95 x0 x5).f3) ((rd_T95 x0 x5).f4) ((rd_T95 x0 x5).f5) ((rd_T95 x0 x5).f6) ((rd_T95 x0 x5).f7) ((rd_T95 x0 x5).f8) ((rd_T95 x0 x5).f9.f0) ((rd_T95 x0 x5).f9.f1) ((rd_T95 x1 x5).f0) ((rd_T95 x1 x5).f1) ((rd_T95 x1 x5).f2) ((rd_T95 x1 x5).f3) ((rd_T95 x1 x5).f4) ((rd_T95 x1 x5).f5) ((rd_T95 x1 x5).f6) ((rd_T95 x1 x5).f7) ((rd_T95 x1 x5).f8) ((rd_T95 x1 x5).f9.f0) ((rd_T95 x1 x5).f9.f1)).bind fun t103 => (if t103 = true then (laws_eqSaS.l0 k x0 x1 (wrap64 (x5 + 1))) else (some false))) else (none)) else (none)) else (some true)
def laws_eqSaS.f (k : Nat) (l0 : List (S95)) (l1 : List (S95)) : Option (Bool) := if (l0.length : Int) = (l1.length : Int) then (laws_eqSaS.l0 k l0 l1 0) else (some false)
def laws_eqSaS.T6 : Bool × List (List Nat × List Nat) := (true, [([], []), ([], []), ([0, 1], [0, 1]), ([2], [2]), ([], []), ([], []), ([4, 5], [4, 5]), ([6], [6]), ([3, 7], [3, 7]), ([8], [8])])
def laws_eqSaS.B6 : List Nat := [0, 0, 3, 7, 0, 0, 48, 112, 255, 511]
theorem laws_eqSaS.tab6 : rtab .any (opsOf Try.f71 6) = laws_eqSaS.T6 := by kernel_rfl
theorem laws_eqSaS.bits6 : waitsOk laws_eqSaS.T6.2 laws_eqSaS.B6 = true := by kernel_rfl
set_option maxHeartbeats 8000000 in
set_option maxRecDepth 100000 in
theorem laws_eqSaS.calls (k : Nat) (A0 : Option Addr) (c0 : Nat) (l0 : List (S95)) (A1 : Option Addr) (c1 : Nat) (l1 : List (S95)) (r : Bool) (w : World) (hr0 : Kd.C k95 w A0 l0.length l0) (hc0 : l0.length ≤ c0) (hr1 : Kd.C k95 w A1 l1.length l1) (hc1 : l1.length ≤ c1) (h : laws_eqSaS.f k l0 l1 = some r) :
  Calls Try.prog 71 #[.slice A0 l0.length c0, .slice A1 l1.length c1] w fun e w' => e = .returned (.bool r) ∧ Below w.heap.size w w' := by
 have hu95 := Try.underlying95
 have HR0 := Aside0.mk hr0
 have HC0 := Aside0.mk hc0
 clear hr0 hc0
 have HR1 := Aside0.mk hr1
 have HC1 := Aside0.mk hc1
 clear hr1 hc1
 have HB := am (Below.refl w.heap.size w)
 have H : (if (l0.length : Int) = (l1.length : Int) then (laws_eqSaS.l0 k l0 l1 0) else (some false)) = some r := h
 clear h
 by_cases c3 : (l0.length : Int) = (l1.length : Int)
 ·rw [if_pos c3] at H
  have c3b0 : ((l0.length : Int) == (l1.length : Int)) = true := beq_iff_eq.mpr c3
  have c3b1 : ((l0.length : Int) != (l1.length : Int)) = false := bne_eq_false_iff_eq.mpr c3
  have c3b2 : (l0.length == l1.length) = true := by first | simpa using c3 | (simp at c3 ⊢; omega)
  clear c3
  have H' := Aside0.mk H
  clear H
  go_enter Try.func71, Try.ntmps71
  go_wp2
  go_loopg [5] k (fun kq v5 w' => ∃ (x5_1 : Int), v5 = .int .i64 x5_1 ∧ Aside0 (laws_eqSaS.l0 kq l0 l1 x5_1 = some r) ∧ Aside0 (kq ≤ k) ∧ Aside0 (Below w.heap.size w w'))
  case atStart => exact ⟨(0), (by first | rfl | (simp; done) | (simp [*]; done)), H', ⟨Nat.le_refl _⟩, ⟨KL HB⟩⟩
  case round =>
   clear H'
   try clear c1
   try clear p2
   try clear c3
   try clear c3b0
   try clear c3b1
   try clear c3b2
   obtain ⟨x5_1, rfl, HA, HK1, HB⟩ := hrel
   cases gk with
   | zero => exact absurd HA.out (by simp [laws_eqSaS.l0])
   | succ k1 =>
    have H := HA.out
    clear HA
    simp only [laws_eqSaS.l0] at H
    by_cases c4 : x5_1 < (l0.length : Int)
    ·rw [if_pos c4] at H
     have c4b0 : decide (x5_1 < (l0.length : Int)) = true := decide_eq_true c4
     clear c4
     by_cases c5 : 0 ≤ x5_1
     ·rw [if_pos c5] at H
      have c5b0 : decide (0 ≤ x5_1) = true := decide_eq_true c5
      clear c5
      by_cases c6 : x5_1 < (l1.length : Int)
      ·rw [if_pos c6] at H
       have c6b0 : decide (x5_1 < (l1.length : Int)) = true := decide_eq_true c6
       clear c6
       replace H := Option.bind_eq_some_iff.mp H
       obtain ⟨t103, A70, H⟩ := H
       replace H : (if t103 = true then (laws_eqSaS.l0 k1 l0 l1 (wrap64 (x5_1 + 1))) else (some false)) = some r := H
       have A7 := Aside0.mk A70
       clear A70
       by_cases c8 : t103 = true
       ·subst c8
        have H1 : (laws_eqSaS.l0 k1 l0 l1 (wrap64 (x5_1 + 1))) = some r := by rw [if_pos rfl] at H; exact H
        clear H
        have H := H1
        clear H1
        have H' := Aside0.mk H
        clear H
        try go_wp2
        replace HB := am (below_drew1 HB.out)
        have p101 : 0 ≤ (x5_1 : Int) := OD
        have q101 : x5_1 < (l0.length : Int) := OD
        obtain ⟨ad101, A101_10, c101_10, e101, hx101_0, hx101_1, hx101_2, hx101_3, hx101_4, hx101_5, hx101_6, hx101_7, hx101_8, hx101_9, hx101_10, hl101_10, hi101_10⟩ := at_T95 HR0.out x5_1 p101 q101
        have hw101_10 := hx101_10
        have hw101_9 := hx101_9
        have hw101_8 := hx101_8
        have hw101_7 := hx101_7
        have hw101_6 := hx101_6
        have hw101_5 := hx101_5
        have hw101_4 := hx101_4
        have hw101_3 := hx101_3
        have hw101_2 := hx101_2
        have hw101_1 := hx101_1
        have hw101_0 := hx101_0
        cases e101
        replace hx101_0 := CX HB.out hx101_0
        replace hx101_1 := CX HB.out hx101_1
        replace hx101_2 := CX HB.out hx101_2
        replace hx101_3 := CX HB.out hx101_3
        replace hx101_4 := CX HB.out hx101_4
        replace hx101_5 := CX HB.out hx101_5
        replace hx101_6 := CX HB.out hx101_6
        replace hx101_7 := CX HB.out hx101_7
        replace hx101_8 := CX HB.out hx101_8
        replace hx101_9 := CX HB.out hx101_9
        replace hx101_10 := CX HB.out hx101_10
        have HR101_10 := Aside0.mk hi101_10
        have HC101_10 := Aside0.mk hl101_10
        clear hi101_10 hl101_10
        replace p101 := eq_true p101
        replace q101 := eq_true q101
        have p102 : 0 ≤ (x5_1 : Int) := OD
        have q102 : x5_1 < (l1.length : Int) := OD
        obtain ⟨ad102, A102_10, c102_10, e102, hx102_0, hx102_1, hx102_2, hx102_3, hx102_4, hx102_5, hx102_6, hx102_7, hx102_8, hx102_9, hx102_10, hl102_10, hi102_10⟩ := at_T95 HR1.out x5_1 p102 q102
        have hw102_10 := hx102_10
        have hw102_9 := hx102_9
        have hw102_8 := hx102_8
        have hw102_7 := hx102_7
        have hw102_6 := hx102_6
        have hw102_5 := hx102_5
        have hw102_4 := hx102_4
        have hw102_3 := hx102_3
        have hw102_2 := hx102_2
        have hw102_1 := hx102_1
        have hw102_0 := hx102_0
        cases e102
        replace hx102_0 := CX HB.out hx102_0
        replace hx102_1 := CX HB.out hx102_1
        replace hx102_2 := CX HB.out hx102_2
        replace hx102_3 := CX HB.out hx102_3
        replace hx102_4 := CX HB.out hx102_4
        replace hx102_5 := CX HB.out hx102_5
        replace hx102_6 := CX HB.out hx102_6
        replace hx102_7 := CX HB.out hx102_7
        replace hx102_8 := CX HB.out hx102_8
        replace hx102_9 := CX HB.out hx102_9
        replace hx102_10 := CX HB.out hx102_10
        have HR102_10 := Aside0.mk hi102_10
        have HC102_10 := Aside0.mk hl102_10
        clear hi102_10 hl102_10
        replace p102 := eq_true p102
        replace q102 := eq_true q102
        refine start_ (n := 10) (S := fun w' => w'.cell? (ad101.add ((x5_1).toNat * 11)) = some (.int .i64 ((rd_T95 l0 x5_1).f0)) ∧ w'.cell? ⟨(ad101.add ((x5_1).toNat * 11)).block, (ad101.add ((x5_1).toNat * 11)).off + 1, none⟩ = some (.int .i64 ((rd_T95 l0 x5_1).f1)) ∧ w'.cell? ⟨(ad101.add ((x5_1).toNat * 11)).block, (ad101.add ((x5_1).toNat * 11)).off + 2, none⟩ = some (.string ((rd_T95 l0 x5_1).f2)) ∧ w'.cell? ⟨(ad101.add ((x5_1).toNat * 11)).block, (ad101.add ((x5_1).toNat * 11)).off + 3, none⟩ = some (.string ((rd_T95 l0 x5_1).f3)) ∧ w'.cell? ⟨(ad101.add ((x5_1).toNat * 11)).block, (ad101.add ((x5_1).toNat * 11)).off + 4, none⟩ = some (.int .i64 ((rd_T95 l0 x5_1).f4)) ∧ w'.cell? ⟨(ad101.add ((x5_1).toNat * 11)).block, (ad101.add ((x5_1).toNat * 11)).off + 5, none⟩ = some (.int .i64 ((rd_T95 l0 x5_1).f5)) ∧ w'.cell? ⟨(ad101.add ((x5_1).toNat * 11)).block, (ad101.add ((x5_1).toNat * 11)).off + 6, none⟩ = some (.int .i64 ((rd_T95 l0 x5_1).f6)) ∧ w'.cell? ⟨(ad101.add ((x5_1).toNat * 11)).block, (ad101.add ((x5_1).toNat * 11)).off + 7, none⟩ = some (.int .i64 ((rd_T95 l0 x5_1).f7)) ∧ w'.cell? ⟨(ad101.add ((x5_1).toNat * 11)).block, (ad101.add ((x5_1).toNat * 11)).off + 8, none⟩ = some (.int .i64 ((rd_T95 l0 x5_1).f8)) ∧ w'.cell? ⟨(ad101.add ((x5_1).toNat * 11)).block, (ad101.add ((x5_1).toNat * 11)).off + 9, none⟩ = some (.int .i64 ((rd_T95 l0 x5_1).f9.f0)) ∧ w'.cell? ⟨(ad101.add ((x5_1).toNat * 11)).block, (ad101.add ((x5_1).toNat * 11)).off + 10, none⟩ = some (.slice A101_10 ((rd_T95 l0 x5_1).f9.f1).length c101_10) ∧ w'.cell? (ad102.add ((x5_1).toNat * 11)) = some (.int .i64 ((rd_T95 l1 x5_1).f0)) ∧ w'.cell? ⟨(ad102.add ((x5_1).toNat * 11)).block, (ad102.add ((x5_1).toNat * 11)).off + 1, none⟩ = some (.int .i64 ((rd_T95 l1 x5_1).f1)) ∧ w'.cell? ⟨(ad102.add ((x5_1).toNat * 11)).block, (ad102.add ((x5_1).toNat * 11)).off + 2, none⟩ = some (.string ((rd_T95 l1 x5_1).f2)) ∧ w'.cell? ⟨(ad102.add ((x5_1).toNat * 11)).block, (ad102.add ((x5_1).toNat * 11)).off + 3, none⟩ = some (.string ((rd_T95 l1 x5_1).f3)) ∧ w'.cell? ⟨(ad102.add ((x5_1).toNat * 11)).block, (ad102.add ((x5_1).toNat * 11)).off + 4, none⟩ = some (.int .i64 ((rd_T95 l1 x5_1).f4)) ∧ w'.cell? ⟨(ad102.add ((x5_1).toNat * 11)).block, (ad102.add ((x5_1).toNat * 11)).off + 5, none⟩ = some (.int .i64 ((rd_T95 l1 x5_1).f5)) ∧ w'.cell? ⟨(ad102.add ((x5_1).toNat * 11)).block, (ad102.add ((x5_1).toNat * 11)).off + 6, none⟩ = some (.int .i64 ((rd_T95 l1 x5_1).f6)) ∧ w'.cell? ⟨(ad102.add ((x5_1).toNat * 11)).block, (ad102.add ((x5_1).toNat * 11)).off + 7, none⟩ = some (.int .i64 ((rd_T95 l1 x5_1).f7)) ∧ w'.cell? ⟨(ad102.add ((x5_1).toNat * 11)).block, (ad102.add ((x5_1).toNat * 11)).off + 8, none⟩ = some (.int .i64 ((rd_T95 l1 x5_1).f8)) ∧ w'.cell? ⟨(ad102.add ((x5_1).toNat * 11)).block, (ad102.add ((x5_1).toNat * 11)).off + 9, none⟩ = some (.int .i64 ((rd_T95 l1 x5_1).f9.f0)) ∧ w'.cell? ⟨(ad102.add ((x5_1).toNat * 11)).block, (ad102.add ((x5_1).toNat * 11)).off + 10, none⟩ = some (.slice A102_10 ((rd_T95 l1 x5_1).f9.f1).length c102_10)) (ds := []) (tf 0 10) (by kernel_rfl) rfl rfl ⟨(CY HB.out hw101_0), (CY HB.out hw101_1), (CY HB.out hw101_2), (CY HB.out hw101_3), (CY HB.out hw101_4), (CY HB.out hw101_5), (CY HB.out hw101_6), (CY HB.out hw101_7), (CY HB.out hw101_8), (CY HB.out hw101_9), (CY HB.out hw101_10), (CY HB.out hw102_0), (CY HB.out hw102_1), (CY HB.out hw102_2), (CY HB.out hw102_3), (CY HB.out hw102_4), (CY HB.out hw102_5), (CY HB.out hw102_6), (CY HB.out hw102_7), (CY HB.out hw102_8), (CY HB.out hw102_9), (CY HB.out hw102_10)⟩ (fun hHeld => ?_); refine with_tabW laws_eqSaS.tab6 laws_eqSaS.bits6 (fun HT_ HW_ => ?_)
        generalize wr.drew = w9 at HB HR101_10 HR102_10 hx101_0 hx101_1 hx101_10 hx101_2 hx101_3 hx101_4 hx101_5 hx101_6 hx101_7 hx101_8 hx101_9 hx102_0 hx102_1 hx102_10 hx102_2 hx102_3 hx102_4 hx102_5 hx102_6 hx102_7 hx102_8 hx102_9 hHeld ⊢
        refine pv HT_ 0 17 (tf 1 9) ?_
        refine pv HT_ 1 18 (tf 2 8) ?_
        refine pv HT_ 2 19 (tf 3 7) ?_
        refine pv HT_ 4 21 (tr [3, 1, 1, 5]) ?_
        refine pv HT_ 5 22 (tr [3, 1, 2, 4]) ?_
        refine pv HT_ 6 23 (tr [3, 1, 3, 3]) ?_
        refine tk 3 (some 20) (tf 7 3) (take_ofW HT_.out HW_.out (by kernel_rfl)) hHeld ?_
        refine tk 7 (some 24) (tf 8 2) (take_ofW HT_.out HW_.out (by kernel_rfl)) hHeld ?_
        refine one_ (i := 8) (N := some 25) (tf 9 1) rfl rfl (one_of HT_.out (by kernel_rfl)) (by decide) (fun K hK => ?_)
        refine goes_ Try.func114 (by kernel_rfl) rfl #[.agg #[.int .i64 ((rd_T95 l0 x5_1).f0), .int .i64 ((rd_T95 l0 x5_1).f1), .string ((rd_T95 l0 x5_1).f2), .string ((rd_T95 l0 x5_1).f3), .int .i64 ((rd_T95 l0 x5_1).f4), .int .i64 ((rd_T95 l0 x5_1).f5), .int .i64 ((rd_T95 l0 x5_1).f6), .int .i64 ((rd_T95 l0 x5_1).f7), .int .i64 ((rd_T95 l0 x5_1).f8), .int .i64 ((rd_T95 l0 x5_1).f9.f0), .slice A101_10 ((rd_T95 l0 x5_1).f9.f1).length c101_10], .agg #[.int .i64 ((rd_T95 l1 x5_1).f0), .int .i64 ((rd_T95 l1 x5_1).f1), .string ((rd_T95 l1 x5_1).f2), .string ((rd_T95 l1 x5_1).f3), .int .i64 ((rd_T95 l1 x5_1).f4), .int .i64 ((rd_T95 l1 x5_1).f5), .int .i64 ((rd_T95 l1 x5_1).f6), .int .i64 ((rd_T95 l1 x5_1).f7), .int .i64 ((rd_T95 l1 x5_1).f8), .int .i64 ((rd_T95 l1 x5_1).f9.f0), .slice A102_10 ((rd_T95 l1 x5_1).f9.f1).length c102_10]] (by rfl) rfl rfl MT ?_
        with_reducible refine (laws_eqSa.calls k1 ((rd_T95 l0 x5_1).f0) ((rd_T95 l0 x5_1).f1) ((rd_T95 l0 x5_1).f2) ((rd_T95 l0 x5_1).f3) ((rd_T95 l0 x5_1).f4) ((rd_T95 l0 x5_1).f5) ((rd_T95 l0 x5_1).f6) ((rd_T95 l0 x5_1).f7) ((rd_T95 l0 x5_1).f8) ((rd_T95 l0 x5_1).f9.f0) _ _ ((rd_T95 l0 x5_1).f9.f1) ((rd_T95 l1 x5_1).f0) ((rd_T95 l1 x5_1).f1) ((rd_T95 l1 x5_1).f2) ((rd_T95 l1 x5_1).f3) ((rd_T95 l1 x5_1).f4) ((rd_T95 l1 x5_1).f5) ((rd_T95 l1 x5_1).f6) ((rd_T95 l1 x5_1).f7) ((rd_T95 l1 x5_1).f8) ((rd_T95 l1 x5_1).f9.f0) _ _ ((rd_T95 l1 x5_1).f9.f1) true _ ?side1 ?side2 ?side3 ?side4 A7.out).mono ?_
        (case side1 => exact KD HR101_10 HB)
        (case side2 => exact HC101_10.out)
        (case side3 => exact KD HR102_10 HB)
        (case side4 => exact HC102_10.out)
        rintro e w10 ⟨rfl, hb⟩
        refine ⟨_, rfl, ?_⟩
        replace HB := am (below_step (KL HB) hb)
        (try clear hb)
        (try clear hb2)
        (try clear hk)
        (try clear hi)
        refine hK.out _ _ ⟨(CY HB.out hw101_0), (CY HB.out hw101_1), (CY HB.out hw101_2), (CY HB.out hw101_3), (CY HB.out hw101_4), (CY HB.out hw101_5), (CY HB.out hw101_6), (CY HB.out hw101_7), (CY HB.out hw101_8), (CY HB.out hw101_9), (CY HB.out hw101_10), (CY HB.out hw102_0), (CY HB.out hw102_1), (CY HB.out hw102_2), (CY HB.out hw102_3), (CY HB.out hw102_4), (CY HB.out hw102_5), (CY HB.out hw102_6), (CY HB.out hw102_7), (CY HB.out hw102_8), (CY HB.out hw102_9), (CY HB.out hw102_10)⟩ (fun hHeld => ?_)
        clear hK K
        refine norm_ (a' := ?_) ?_ ?_
        rotate_left
        ·show Act.put _ (some 25) _ = _
         simp only [Act.put, List.setIfInBounds_toArray, List.set_cons_zero, List.set_cons_succ, i64_w, i32_w]
         rfl
        refine pv HT_ 9 26 (tf 10 0) ?_
        refine done_ (done_of HT_.out (by kernel_rfl)) ?_
        try go_wp2
        go_roundg k1
        case measure => have := HK1.out; omega
        case rel => exact ⟨(wrap64 (x5_1 + 1)), (by first | rfl | (simp; done) | (simp [*]; done)), H', ⟨by have := HK1.out; omega⟩, ⟨KL HB⟩⟩
       ·replace c8 := Bool.eq_false_iff.mpr c8
        subst c8
        have H1 : (some false) = some r := by rw [if_neg (show ¬ (false = true) by decide)] at H; exact H
        clear H
        have H := H1
        clear H1
        obtain rfl := Option.some.inj H
        try go_wp2
        replace HB := am (below_drew1 HB.out)
        have p101 : 0 ≤ (x5_1 : Int) := OD
        have q101 : x5_1 < (l0.length : Int) := OD
        obtain ⟨ad101, A101_10, c101_10, e101, hx101_0, hx101_1, hx101_2, hx101_3, hx101_4, hx101_5, hx101_6, hx101_7, hx101_8, hx101_9, hx101_10, hl101_10, hi101_10⟩ := at_T95 HR0.out x5_1 p101 q101
        have hw101_10 := hx101_10
        have hw101_9 := hx101_9
        have hw101_8 := hx101_8
        have hw101_7 := hx101_7
        have hw101_6 := hx101_6
        have hw101_5 := hx101_5
        have hw101_4 := hx101_4
        have hw101_3 := hx101_3
        have hw101_2 := hx101_2
        have hw101_1 := hx101_1
        have hw101_0 := hx101_0
        cases e101
        replace hx101_0 := CX HB.out hx101_0
        replace hx101_1 := CX HB.out hx101_1
        replace hx101_2 := CX HB.out hx101_2
        replace hx101_3 := CX HB.out hx101_3
        replace hx101_4 := CX HB.out hx101_4
        replace hx101_5 := CX HB.out hx101_5
        replace hx101_6 := CX HB.out hx101_6
        replace hx101_7 := CX HB.out hx101_7
        replace hx101_8 := CX HB.out hx101_8
        replace hx101_9 := CX HB.out hx101_9
        replace hx101_10 := CX HB.out hx101_10
        have HR101_10 := Aside0.mk hi101_10
        have HC101_10 := Aside0.mk hl101_10
        clear hi101_10 hl101_10
        replace p101 := eq_true p101
        replace q101 := eq_true q101
        have p102 : 0 ≤ (x5_1 : Int) := OD
        have q102 : x5_1 < (l1.length : Int) := OD
        obtain ⟨ad102, A102_10, c102_10, e102, hx102_0, hx102_1, hx102_2, hx102_3, hx102_4, hx102_5, hx102_6, hx102_7, hx102_8, hx102_9, hx102_10, hl102_10, hi102_10⟩ := at_T95 HR1.out x5_1 p102 q102
        have hw102_10 := hx102_10
        have hw102_9 := hx102_9
        have hw102_8 := hx102_8
        have hw102_7 := hx102_7
        have hw102_6 := hx102_6
        have hw102_5 := hx102_5
        have hw102_4 := hx102_4
        have hw102_3 := hx102_3
        have hw102_2 := hx102_2
        have hw102_1 := hx102_1
        have hw102_0 := hx102_0
        cases e102
        replace hx102_0 := CX HB.out hx102_0
        replace hx102_1 := CX HB.out hx102_1
        replace hx102_2 := CX HB.out hx102_2
        replace hx102_3 := CX HB.out hx102_3
        replace hx102_4 := CX HB.out hx102_4
        replace hx102_5 := CX HB.out hx102_5
        replace hx102_6 := CX HB.out hx102_6
        replace hx102_7 := CX HB.out hx102_7
        replace hx102_8 := CX HB.out hx102_8
        replace hx102_9 := CX HB.out hx102_9
        replace hx102_10 := CX HB.out hx102_10
        have HR102_10 := Aside0.mk hi102_10
        have HC102_10 := Aside0.mk hl102_10
        clear hi102_10 hl102_10
        replace p102 := eq_true p102
        replace q102 := eq_true q102
        refine start_ (n := 10) (S := fun w' => w'.cell? (ad101.add ((x5_1).toNat * 11)) = some (.int .i64 ((rd_T95 l0 x5_1).f0)) ∧ w'.cell? ⟨(ad101.add ((x5_1).toNat * 11)).block, (ad101.add ((x5_1).toNat * 11)).off + 1, none⟩ = some (.int .i64 ((rd_T95 l0 x5_1).f1)) ∧ w'.cell? ⟨(ad101.add ((x5_1).toNat * 11)).block, (ad101.add ((x5_1).toNat * 11)).off + 2, none⟩ = some (.string ((rd_T95 l0 x5_1).f2)) ∧ w'.cell? ⟨(ad101.add ((x5_1).toNat * 11)).block, (ad101.add ((x5_1).toNat * 11)).off + 3, none⟩ = some (.string ((rd_T95 l0 x5_1).f3)) ∧ w'.cell? ⟨(ad101.add ((x5_1).toNat * 11)).block, (ad101.add ((x5_1).toNat * 11)).off + 4, none⟩ = some (.int .i64 ((rd_T95 l0 x5_1).f4)) ∧ w'.cell? ⟨(ad101.add ((x5_1).toNat * 11)).block, (ad101.add ((x5_1).toNat * 11)).off + 5, none⟩ = some (.int .i64 ((rd_T95 l0 x5_1).f5)) ∧ w'.cell? ⟨(ad101.add ((x5_1).toNat * 11)).block, (ad101.add ((x5_1).toNat * 11)).off + 6, none⟩ = some (.int .i64 ((rd_T95 l0 x5_1).f6)) ∧ w'.cell? ⟨(ad101.add ((x5_1).toNat * 11)).block, (ad101.add ((x5_1).toNat * 11)).off + 7, none⟩ = some (.int .i64 ((rd_T95 l0 x5_1).f7)) ∧ w'.cell? ⟨(ad101.add ((x5_1).toNat * 11)).block, (ad101.add ((x5_1).toNat * 11)).off + 8, none⟩ = some (.int .i64 ((rd_T95 l0 x5_1).f8)) ∧ w'.cell? ⟨(ad101.add ((x5_1).toNat * 11)).block, (ad101.add ((x5_1).toNat * 11)).off + 9, none⟩ = some (.int .i64 ((rd_T95 l0 x5_1).f9.f0)) ∧ w'.cell? ⟨(ad101.add ((x5_1).toNat * 11)).block, (ad101.add ((x5_1).toNat * 11)).off + 10, none⟩ = some (.slice A101_10 ((rd_T95 l0 x5_1).f9.f1).length c101_10) ∧ w'.cell? (ad102.add ((x5_1).toNat * 11)) = some (.int .i64 ((rd_T95 l1 x5_1).f0)) ∧ w'.cell? ⟨(ad102.add ((x5_1).toNat * 11)).block, (ad102.add ((x5_1).toNat * 11)).off + 1, none⟩ = some (.int .i64 ((rd_T95 l1 x5_1).f1)) ∧ w'.cell? ⟨(ad102.add ((x5_1).toNat * 11)).block, (ad102.add ((x5_1).toNat * 11)).off + 2, none⟩ = some (.string ((rd_T95 l1 x5_1).f2)) ∧ w'.cell? ⟨(ad102.add ((x5_1).toNat * 11)).block, (ad102.add ((x5_1).toNat * 11)).off + 3, none⟩ = some (.string ((rd_T95 l1 x5_1).f3)) ∧ w'.cell? ⟨(ad102.add ((x5_1).toNat * 11)).block, (ad102.add ((x5_1).toNat * 11)).off + 4, none⟩ = some (.int .i64 ((rd_T95 l1 x5_1).f4)) ∧ w'.cell? ⟨(ad102.add ((x5_1).toNat * 11)).block, (ad102.add ((x5_1).toNat * 11)).off + 5, none⟩ = some (.int .i64 ((rd_T95 l1 x5_1).f5)) ∧ w'.cell? ⟨(ad102.add ((x5_1).toNat * 11)).block, (ad102.add ((x5_1).toNat * 11)).off + 6, none⟩ = some (.int .i64 ((rd_T95 l1 x5_1).f6)) ∧ w'.cell? ⟨(ad102.add ((x5_1).toNat * 11)).block, (ad102.add ((x5_1).toNat * 11)).off + 7, none⟩ = some (.int .i64 ((rd_T95 l1 x5_1).f7)) ∧ w'.cell? ⟨(ad102.add ((x5_1).toNat * 11)).block, (ad102.add ((x5_1).toNat * 11)).off + 8, none⟩ = some (.int .i64 ((rd_T95 l1 x5_1).f8)) ∧ w'.cell? ⟨(ad102.add ((x5_1).toNat * 11)).block, (ad102.add ((x5_1).toNat * 11)).off + 9, none⟩ = some (.int .i64 ((rd_T95 l1 x5_1).f9.f0)) ∧ w'.cell? ⟨(ad102.add ((x5_1).toNat * 11)).block, (ad102.add ((x5_1).toNat * 11)).off + 10, none⟩ = some (.slice A102_10 ((rd_T95 l1 x5_1).f9.f1).length c102_10)) (ds := []) (tf 0 10) (by kernel_rfl) rfl rfl ⟨(CY HB.out hw101_0), (CY HB.out hw101_1), (CY HB.out hw101_2), (CY HB.out hw101_3), (CY HB.out hw101_4), (CY HB.out hw101_5), (CY HB.out hw101_6), (CY HB.out hw101_7), (CY HB.out hw101_8), (CY HB.out hw101_9), (CY HB.out hw101_10), (CY HB.out hw102_0), (CY HB.out hw102_1), (CY HB.out hw102_2), (CY HB.out hw102_3), (CY HB.out hw102_4), (CY HB.out hw102_5), (CY HB.out hw102_6), (CY HB.out hw102_7), (CY HB.out hw102_8), (CY HB.out hw102_9), (CY HB.out hw102_10)⟩ (fun hHeld => ?_); refine with_tabW laws_eqSaS.tab6 laws_eqSaS.bits6 (fun HT_ HW_ => ?_)
        generalize wr.drew = w11 at HB HR101_10 HR102_10 hx101_0 hx101_1 hx101_10 hx101_2 hx101_3 hx101_4 hx101_5 hx101_6 hx101_7 hx101_8 hx101_9 hx102_0 hx102_1 hx102_10 hx102_2 hx102_3 hx102_4 hx102_5 hx102_6 hx102_7 hx102_8 hx102_9 hHeld ⊢
        refine pv HT_ 0 17 (tf 1 9) ?_
        refine pv HT_ 1 18 (tf 2 8) ?_
        refine pv HT_ 2 19 (tf 3 7) ?_
        refine pv HT_ 4 21 (tr [3, 1, 1, 5]) ?_
        refine pv HT_ 5 22 (tr [3, 1, 2, 4]) ?_
        refine pv HT_ 6 23 (tr [3, 1, 3, 3]) ?_
        refine tk 3 (some 20) (tf 7 3) (take_ofW HT_.out HW_.out (by kernel_rfl)) hHeld ?_
        refine tk 7 (some 24) (tf 8 2) (take_ofW HT_.out HW_.out (by kernel_rfl)) hHeld ?_
        refine one_ (i := 8) (N := some 25) (tf 9 1) rfl rfl (one_of HT_.out (by kernel_rfl)) (by decide) (fun K hK => ?_)
        refine goes_ Try.func114 (by kernel_rfl) rfl #[.agg #[.int .i64 ((rd_T95 l0 x5_1).f0), .int .i64 ((rd_T95 l0 x5_1).f1), .string ((rd_T95 l0 x5_1).f2), .string ((rd_T95 l0 x5_1).f3), .int .i64 ((rd_T95 l0 x5_1).f4), .int .i64 ((rd_T95 l0 x5_1).f5), .int .i64 ((rd_T95 l0 x5_1).f6), .int .i64 ((rd_T95 l0 x5_1).f7), .int .i64 ((rd_T95 l0 x5_1).f8), .int .i64 ((rd_T95 l0 x5_1).f9.f0), .slice A101_10 ((rd_T95 l0 x5_1).f9.f1).length c101_10], .agg #[.int .i64 ((rd_T95 l1 x5_1).f0), .int .i64 ((rd_T95 l1 x5_1).f1), .string ((rd_T95 l1 x5_1).f2), .string ((rd_T95 l1 x5_1).f3), .int .i64 ((rd_T95 l1 x5_1).f4), .int .i64 ((rd_T95 l1 x5_1).f5), .int .i64 ((rd_T95 l1 x5_1).f6), .int .i64 ((rd_T95 l1 x5_1).f7), .int .i64 ((rd_T95 l1 x5_1).f8), .int .i64 ((rd_T95 l1 x5_1).f9.f0), .slice A102_10 ((rd_T95 l1 x5_1).f9.f1).length c102_10]] (by rfl) rfl rfl MT ?_
        with_reducible refine (laws_eqSa.calls k1 ((rd_T95 l0 x5_1).f0) ((rd_T95 l0 x5_1).f1) ((rd_T95 l0 x5_1).f2) ((rd_T95 l0 x5_1).f3) ((rd_T95 l0 x5_1).f4) ((rd_T95 l0 x5_1).f5) ((rd_T95 l0 x5_1).f6) ((rd_T95 l0 x5_1).f7) ((rd_T95 l0 x5_1).f8) ((rd_T95 l0 x5_1).f9.f0) _ _ ((rd_T95 l0 x5_1).f9.f1) ((rd_T95 l1 x5_1).f0) ((rd_T95 l1 x5_1).f1) ((rd_T95 l1 x5_1).f2) ((rd_T95 l1 x5_1).f3) ((rd_T95 l1 x5_1).f4) ((rd_T95 l1 x5_1).f5) ((rd_T95 l1 x5_1).f6) ((rd_T95 l1 x5_1).f7) ((rd_T95 l1 x5_1).f8) ((rd_T95 l1 x5_1).f9.f0) _ _ ((rd_T95 l1 x5_1).f9.f1) false _ ?side1 ?side2 ?side3 ?side4 A7.out).mono ?_
        (case side1 => exact KD HR101_10 HB)
        (case side2 => exact HC101_10.out)
        (case side3 => exact KD HR102_10 HB)
        (case side4 => exact HC102_10.out)
        rintro e w12 ⟨rfl, hb⟩
        refine ⟨_, rfl, ?_⟩
        replace HB := am (below_step (KL HB) hb)
        (try clear hb)
        (try clear hb2)
        (try clear hk)
        (try clear hi)
        refine hK.out _ _ ⟨(CY HB.out hw101_0), (CY HB.out hw101_1), (CY HB.out hw101_2), (CY HB.out hw101_3), (CY HB.out hw101_4), (CY HB.out hw101_5), (CY HB.out hw101_6), (CY HB.out hw101_7), (CY HB.out hw101_8), (CY HB.out hw101_9), (CY HB.out hw101_10), (CY HB.out hw102_0), (CY HB.out hw102_1), (CY HB.out hw102_2), (CY HB.out hw102_3), (CY HB.out hw102_4), (CY HB.out hw102_5), (CY HB.out hw102_6), (CY HB.out hw102_7), (CY HB.out hw102_8), (CY HB.out hw102_9), (CY HB.out hw102_10)⟩ (fun hHeld => ?_)
        clear hK K
        refine norm_ (a' := ?_) ?_ ?_
        rotate_left
        ·show Act.put _ (some 25) _ = _
         simp only [Act.put, List.setIfInBounds_toArray, List.set_cons_zero, List.set_cons_succ, i64_w, i32_w]
         rfl
        refine pv HT_ 9 26 (tf 10 0) ?_
        refine done_ (done_of HT_.out (by kernel_rfl)) ?_
        try go_wp2
        go_ret
        exact ⟨ER, KL HB⟩
      ·rw [if_neg c6] at H
       exact absurd H (by simp)
     ·rw [if_neg c5] at H
      exact absurd H (by simp)
    ·rw [if_neg c4] at H
     have c4b0 : decide (x5_1 < (l0.length : Int)) = false := decide_eq_false c4
     clear c4
     obtain rfl := Option.some.inj H
     go_wp2
     go_ret
     exact ⟨ER, KL HB⟩
 ·rw [if_neg c3] at H
  have c3b0 : ((l0.length : Int) == (l1.length : Int)) = false := beq_eq_false_iff_ne.mpr c3
  have c3b1 : ((l0.length : Int) != (l1.length : Int)) = true := bne_iff_ne.mpr c3
  have c3b2 : (l0.length == l1.length) = false := by first | simpa using c3 | (simp at c3 ⊢; omega)
  obtain rfl := Option.some.inj H
  go_enter Try.func71, Try.ntmps71
  go_wp2
  go_ret
  exact ⟨ER, KL HB⟩
def laws_eqGate.f (k : Nat) (a0_0 : Int) (l0_1 : List (S141)) (a0_2 : Int) (l0_3 : List (S136)) (l0_4 : List (S95)) (l0_5 : List (S95)) (a1_0 : Int) (l1_1 : List (S141)) (a1_2 : Int) (l1_3 : List (S136)) (l1_4 : List (S95)) (l1_5 : List (S95)) : Option (Bool) := if a0_0 = a1_0 then ((laws_eqRuleS.f k l0_1 l1_1).bind fun t103 => (if t103 = true then ((laws_eqCache.f k a0_2 l0_3 a1_2 l1_3).bind fun t104 => (if t104 = true then ((laws_eqSaS.f k l0_4 l1_4).bind fun t105 => (if t105 = true then ((laws_eqSaS.f k l0_5 l1_5).bind fun t106 => (if t106 = true then (some true) else (some false))) else (some false))) else (some false))) else (some false))) else (some false)
set_option maxHeartbeats 8000000 in
set_option maxRecDepth 100000 in
theorem laws_eqGate.calls (k : Nat) (a0_0 : Int) (A0_1 : Option Addr) (c0_1 : Nat) (l0_1 : List (S141)) (a0_2 : Int) (A0_3 : Option Addr) (c0_3 : Nat) (l0_3 : List (S136)) (A0_4 : Option Addr) (c0_4 : Nat) (l0_4 : List (S95)) (A0_5 : Option Addr) (c0_5 : Nat) (l0_5 : List (S95)) (a1_0 : Int) (A1_1 : Option Addr) (c1_1 : Nat) (l1_1 : List (S141)) (a1_2 : Int) (A1_3 : Option Addr) (c1_3 : Nat) (l1_3 : List (S136)) (A1_4 : Option Addr) (c1_4 : Nat) (l1_4 : List (S95)) (A1_5 : Option Addr) (c1_5 : Nat) (l1_5 : List (S95)) (r : Bool) (w : World) (hr0_1 : Kd.C k141 w A0_1 l0_1.length l0_1) (hc0_1 : l0_1.length ≤ c0_1) (hr0_3 : Kd.C k136 w A0_3 l0_3.length l0_3) (hc0_3 : l0_3.length ≤ c0_3) (hr0_4 : Kd.C k95 w A0_4 l0_4.length l0_4) (hc0_4 : l0_4.length ≤ c0_4) (hr0_5 : Kd.C k95 w A0_5 l0_5.length l0_5) (hc0_5 : l0_5.length ≤ c0_5) (hr1_1 : Kd.C k141 w A1_1 l1_1.length l1_1) (hc1_1 : l1_1.length ≤ c1_1) (hr1_3 : Kd.C k136 w A1_3 l1_3.length l1_3) (hc1_3 : l1_3.length ≤ c1_3) (hr1_4 : Kd.C k95 w A1_4 l1_4.length l1_4) (hc1_4 : l1_4.length ≤ c1_4) (hr1_5 : Kd.C k95 w A1_5 l1_5.length l1_5) (hc1_5 : l1_5.length ≤ c1_5) (h : laws_eqGate.f k a0_0 l0_1 a0_2 l0_3 l0_4 l0_5 a1_0 l1_1 a1_2 l1_3 l1_4 l1_5 = some r) :
  Calls Try.prog 33 #[.agg #[.int .i64 a0_0, .slice A0_1 l0_1.length c0_1, .int .i64 a0_2, .slice A0_3 l0_3.length c0_3, .slice A0_4 l0_4.length c0_4, .slice A0_5 l0_5.length c0_5], .agg #[.int .i64 a1_0, .slice A1_1 l1_1.length c1_1, .int .i64 a1_2, .slice A1_3 l1_3.length c1_3, .slice A1_4 l1_4.length c1_4, .slice A1_5 l1_5.length c1_5]] w fun e w' => e = .returned (.bool r) ∧ Below w.heap.size w w' := by
 have hu57 := Try.underlying57
 have hu54 := Try.underlying54
 have HR0_1 := Aside0.mk hr0_1
 have HC0_1 := Aside0.mk hc0_1
 clear hr0_1 hc0_1
 have HR0_3 := Aside0.mk hr0_3
 have HC0_3 := Aside0.mk hc0_3
 clear hr0_3 hc0_3
 have HR0_4 := Aside0.mk hr0_4
 have HC0_4 := Aside0.mk hc0_4
 clear hr0_4 hc0_4
 have HR0_5 := Aside0.mk hr0_5
 have HC0_5 := Aside0.mk hc0_5
 clear hr0_5 hc0_5
 have HR1_1 := Aside0.mk hr1_1
 have HC1_1 := Aside0.mk hc1_1
 clear hr1_1 hc1_1
 have HR1_3 := Aside0.mk hr1_3
 have HC1_3 := Aside0.mk hc1_3
 clear hr1_3 hc1_3
 have HR1_4 := Aside0.mk hr1_4
 have HC1_4 := Aside0.mk hc1_4
 clear hr1_4 hc1_4
 have HR1_5 := Aside0.mk hr1_5
 have HC1_5 := Aside0.mk hc1_5
 clear hr1_5 hc1_5
 have HB := am (Below.refl w.heap.size w)
 have H : (if a0_0 = a1_0 then ((laws_eqRuleS.f k l0_1 l1_1).bind fun t103 => (if t103 = true then ((laws_eqCache.f k a0_2 l0_3 a1_2 l1_3).bind fun t104 => (if t104 = true then ((laws_eqSaS.f k l0_4 l1_4).bind fun t105 => (if t105 = true then ((laws_eqSaS.f k l0_5 l1_5).bind fun t106 => (if t106 = true then (some true) else (some false))) else (some false))) else (some false))) else (some false))) else (some false)) = some r := h
 clear h
 by_cases c3 : a0_0 = a1_0
 ·rw [if_pos c3] at H
  have c3b0 : (a0_0 == a1_0) = true := beq_iff_eq.mpr c3
  have c3b1 : (a0_0 != a1_0) = false := bne_eq_false_iff_eq.mpr c3
  clear c3
  replace H := Option.bind_eq_some_iff.mp H
  obtain ⟨t103, A40, H⟩ := H
  replace H : (if t103 = true then ((laws_eqCache.f k a0_2 l0_3 a1_2 l1_3).bind fun t104 => (if t104 = true then ((laws_eqSaS.f k l0_4 l1_4).bind fun t105 => (if t105 = true then ((laws_eqSaS.f k l0_5 l1_5).bind fun t106 => (if t106 = true then (some true) else (some false))) else (some false))) else (some false))) else (some false)) = some r := H
  have A4 := Aside0.mk A40
  clear A40
  by_cases c5 : t103 = true
  ·subst c5
   have H1 : ((laws_eqCache.f k a0_2 l0_3 a1_2 l1_3).bind fun t104 => (if t104 = true then ((laws_eqSaS.f k l0_4 l1_4).bind fun t105 => (if t105 = true then ((laws_eqSaS.f k l0_5 l1_5).bind fun t106 => (if t106 = true then (some true) else (some false))) else (some false))) else (some false))) = some r := by rw [if_pos rfl] at H; exact H
   clear H
   have H := H1
   clear H1
   replace H := Option.bind_eq_some_iff.mp H
   obtain ⟨t104, A60, H⟩ := H
   replace H : (if t104 = true then ((laws_eqSaS.f k l0_4 l1_4).bind fun t105 => (if t105 = true then ((laws_eqSaS.f k l0_5 l1_5).bind fun t106 => (if t106 = true then (some true) else (some false))) else (some false))) else (some false)) = some r := H
   have A6 := Aside0.mk A60
   clear A60
   by_cases c7 : t104 = true
   ·subst c7
    have H1 : ((laws_eqSaS.f k l0_4 l1_4).bind fun t105 => (if t105 = true then ((laws_eqSaS.f k l0_5 l1_5).bind fun t106 => (if t106 = true then (some true) else (some false))) else (some false))) = some r := by rw [if_pos rfl] at H; exact H
    clear H
    have H := H1
    clear H1
    replace H := Option.bind_eq_some_iff.mp H
    obtain ⟨t105, A80, H⟩ := H
    replace H : (if t105 = true then ((laws_eqSaS.f k l0_5 l1_5).bind fun t106 => (if t106 = true then (some true) else (some false))) else (some false)) = some r := H
    have A8 := Aside0.mk A80
    clear A80
    by_cases c9 : t105 = true
    ·subst c9
     have H1 : ((laws_eqSaS.f k l0_5 l1_5).bind fun t106 => (if t106 = true then (some true) else (some false))) = some r := by rw [if_pos rfl] at H; exact H
     clear H
     have H := H1
     clear H1
     replace H := Option.bind_eq_some_iff.mp H
     obtain ⟨t106, A100, H⟩ := H
     replace H : (if t106 = true then (some true) else (some false)) = some r := H
     have A10 := Aside0.mk A100
     clear A100
     by_cases c11 : t106 = true
     ·subst c11
      have H1 : (some true) = some r := by rw [if_pos rfl] at H; exact H
      clear H
      have H := H1
      clear H1
      obtain rfl := Option.some.inj H
      go_enter Try.func33, Try.ntmps33
      go_wp2_with (first | ((with_reducible refine gate_dst (N := 2) rfl ?_); refine box_event rfl (N := 2) rfl (cs := #[.int .i64 a0_0, .slice A0_1 l0_1.length c0_1, .int .i64 a0_2, .slice A0_3 l0_3.length c0_3, .slice A0_4 l0_4.length c0_4, .slice A0_5 l0_5.length c0_5]) (t := 57) BX ?_; intro gb101 hg w12 hbox hb; have BK101 := am (hbox); have GW101 := am (GH HB hg); have GE101 := GW101; replace HB := am (below_step (KL HB) hb); clear hb hbox hg) | ((with_reducible refine gate_dst (N := 3) rfl ?_); refine box_event rfl (N := 3) rfl (cs := #[.int .i64 a1_0, .slice A1_1 l1_1.length c1_1, .int .i64 a1_2, .slice A1_3 l1_3.length c1_3, .slice A1_4 l1_4.length c1_4, .slice A1_5 l1_5.length c1_5]) (t := 57) BX ?_; intro gb102 hg w13 hbox hb; have BK102 := am (hbox); have GW102 := am (GH1 HB GE101.out hg); have GE102 := GW102; replace HB := am (below_step (K1 HB GE101.out) hb); have NB101_102 := am (NL BK101 hg); have NB102_101 := am (NG BK101 hg); replace BK101 := am (BB BK101 hb); clear hb hbox hg; have hnb14 := NB101_102.out; have hnc14 := NB102_101.out; obtain ⟨hcz15_0, hcz15_1, hcz15_2, hcz15_3, hcz15_4, hcz15_5, hfz15_0⟩ := y6 w13 BK101.out; obtain ⟨hcz16_0, hcz16_1, hcz16_2, hcz16_3, hcz16_4, hcz16_5, hfz16_0⟩ := y6 w13 BK102.out) | ((with_reducible refine gate_callee (f := 69) rfl ?_); refine goesL_ (some 14) rfl rfl Try.func69 (by kernel_rfl) rfl #[.slice A0_1 l0_1.length c0_1, .slice A1_1 l1_1.length c1_1] rfl MT ?_; (with_reducible refine (laws_eqRuleS.calls k _ _ l0_1 _ _ l1_1 true _ ?side1 ?side2 ?side3 ?side4 A4.out).mono ?_); (case side1 => exact KD HR0_1 HB); (case side2 => exact HC0_1.out); (case side3 => exact KD HR1_1 HB); (case side4 => exact HC1_1.out); rintro e w17 ⟨rfl, hb⟩; refine ⟨_, rfl, ?_⟩; replace BK101 := am (BB BK101 hb); replace BK102 := am (BB BK102 hb); replace HB := am (below_step (K2 HB GE101.out GE102.out) hb); (try clear hb); obtain ⟨hcz18_0, hcz18_1, hcz18_2, hcz18_3, hcz18_4, hcz18_5, hfz18_0⟩ := y6 w17 BK101.out; obtain ⟨hcz19_0, hcz19_1, hcz19_2, hcz19_3, hcz19_4, hcz19_5, hfz19_0⟩ := y6 w17 BK102.out) | ((with_reducible refine gate_callee (f := 70) rfl ?_); refine goesL_ (some 20) rfl rfl Try.func70 (by kernel_rfl) rfl #[.agg #[.int .i64 a0_2, .slice A0_3 l0_3.length c0_3], .agg #[.int .i64 a1_2, .slice A1_3 l1_3.length c1_3]] rfl MT ?_; (with_reducible refine (laws_eqCache.calls k a0_2 _ _ l0_3 a1_2 _ _ l1_3 true _ ?side1 ?side2 ?side3 ?side4 A6.out).mono ?_); (case side1 => exact KD HR0_3 HB); (case side2 => exact HC0_3.out); (case side3 => exact KD HR1_3 HB); (case side4 => exact HC1_3.out); rintro e w20 ⟨rfl, hb⟩; refine ⟨_, rfl, ?_⟩; replace BK101 := am (BB BK101 hb); replace BK102 := am (BB BK102 hb); replace HB := am (below_step (K2 HB GE101.out GE102.out) hb); (try clear hb); obtain ⟨hcz21_0, hcz21_1, hcz21_2, hcz21_3, hcz21_4, hcz21_5, hfz21_0⟩ := y6 w20 BK101.out; obtain ⟨hcz22_0, hcz22_1, hcz22_2, hcz22_3, hcz22_4, hcz22_5, hfz22_0⟩ := y6 w20 BK102.out) | ((with_reducible refine gate_callee (f := 71) rfl ?_); refine goesL_ (some 26) rfl rfl Try.func71 (by kernel_rfl) rfl #[.slice A0_4 l0_4.length c0_4, .slice A1_4 l1_4.length c1_4] rfl MT ?_; (with_reducible refine (laws_eqSaS.calls k _ _ l0_4 _ _ l1_4 true _ ?side1 ?side2 ?side3 ?side4 A8.out).mono ?_); (case side1 => exact KD HR0_4 HB); (case side2 => exact HC0_4.out); (case side3 => exact KD HR1_4 HB); (case side4 => exact HC1_4.out); rintro e w23 ⟨rfl, hb⟩; refine ⟨_, rfl, ?_⟩; replace BK101 := am (BB BK101 hb); replace BK102 := am (BB BK102 hb); replace HB := am (below_step (K2 HB GE101.out GE102.out) hb); (try clear hb); obtain ⟨hcz24_0, hcz24_1, hcz24_2, hcz24_3, hcz24_4, hcz24_5, hfz24_0⟩ := y6 w23 BK101.out; obtain ⟨hcz25_0, hcz25_1, hcz25_2, hcz25_3, hcz25_4, hcz25_5, hfz25_0⟩ := y6 w23 BK102.out) | ((with_reducible refine gate_callee (f := 71) rfl ?_); refine goesL_ (some 32) rfl rfl Try.func71 (by kernel_rfl) rfl #[.slice A0_5 l0_5.length c0_5, .slice A1_5 l1_5.length c1_5] rfl MT ?_; (with_reducible refine (laws_eqSaS.calls k _ _ l0_5 _ _ l1_5 true _ ?side1 ?side2 ?side3 ?side4 A10.out).mono ?_); (case side1 => exact KD HR0_5 HB); (case side2 => exact HC0_5.out); (case side3 => exact KD HR1_5 HB); (case side4 => exact HC1_5.out); rintro e w26 ⟨rfl, hb⟩; refine ⟨_, rfl, ?_⟩; replace BK101 := am (BB BK101 hb); replace BK102 := am (BB BK102 hb); replace HB := am (below_step (K2 HB GE101.out GE102.out) hb); (try clear hb)))
      go_ret
      exact ⟨ER, K2 HB GE101.out GE102.out⟩
     ·replace c11 := Bool.eq_false_iff.mpr c11
      subst c11
      have H1 : (some false) = some r := by rw [if_neg (show ¬ (false = true) by decide)] at H; exact H
      clear H
      have H := H1
      clear H1
      obtain rfl := Option.some.inj H
      go_enter Try.func33, Try.ntmps33
      go_wp2_with (first | ((with_reducible refine gate_dst (N := 2) rfl ?_); refine box_event rfl (N := 2) rfl (cs := #[.int .i64 a0_0, .slice A0_1 l0_1.length c0_1, .int .i64 a0_2, .slice A0_3 l0_3.length c0_3, .slice A0_4 l0_4.length c0_4, .slice A0_5 l0_5.length c0_5]) (t := 57) BX ?_; intro gb101 hg w27 hbox hb; have BK101 := am (hbox); have GW101 := am (GH HB hg); have GE101 := GW101; replace HB := am (below_step (KL HB) hb); clear hb hbox hg) | ((with_reducible refine gate_dst (N := 3) rfl ?_); refine box_event rfl (N := 3) rfl (cs := #[.int .i64 a1_0, .slice A1_1 l1_1.length c1_1, .int .i64 a1_2, .slice A1_3 l1_3.length c1_3, .slice A1_4 l1_4.length c1_4, .slice A1_5 l1_5.length c1_5]) (t := 57) BX ?_; intro gb102 hg w28 hbox hb; have BK102 := am (hbox); have GW102 := am (GH1 HB GE101.out hg); have GE102 := GW102; replace HB := am (below_step (K1 HB GE101.out) hb); have NB101_102 := am (NL BK101 hg); have NB102_101 := am (NG BK101 hg); replace BK101 := am (BB BK101 hb); clear hb hbox hg; have hnb29 := NB101_102.out; have hnc29 := NB102_101.out; obtain ⟨hcz30_0, hcz30_1, hcz30_2, hcz30_3, hcz30_4, hcz30_5, hfz30_0⟩ := y6 w28 BK101.out; obtain ⟨hcz31_0, hcz31_1, hcz31_2, hcz31_3, hcz31_4, hcz31_5, hfz31_0⟩ := y6 w28 BK102.out) | ((with_reducible refine gate_callee (f := 69) rfl ?_); refine goesL_ (some 14) rfl rfl Try.func69 (by kernel_rfl) rfl #[.slice A0_1 l0_1.length c0_1, .slice A1_1 l1_1.length c1_1] rfl MT ?_; (with_reducible refine (laws_eqRuleS.calls k _ _ l0_1 _ _ l1_1 true _ ?side1 ?side2 ?side3 ?side4 A4.out).mono ?_); (case side1 => exact KD HR0_1 HB); (case side2 => exact HC0_1.out); (case side3 => exact KD HR1_1 HB); (case side4 => exact HC1_1.out); rintro e w32 ⟨rfl, hb⟩; refine ⟨_, rfl, ?_⟩; replace BK101 := am (BB BK101 hb); replace BK102 := am (BB BK102 hb); replace HB := am (below_step (K2 HB GE101.out GE102.out) hb); (try clear hb); obtain ⟨hcz33_0, hcz33_1, hcz33_2, hcz33_3, hcz33_4, hcz33_5, hfz33_0⟩ := y6 w32 BK101.out; obtain ⟨hcz34_0, hcz34_1, hcz34_2, hcz34_3, hcz34_4, hcz34_5, hfz34_0⟩ := y6 w32 BK102.out) | ((with_reducible refine gate_callee (f := 70) rfl ?_); refine goesL_ (some 20) rfl rfl Try.func70 (by kernel_rfl) rfl #[.agg #[.int .i64 a0_2, .slice A0_3 l0_3.length c0_3], .agg #[.int .i64 a1_2, .slice A1_3 l1_3.length c1_3]] rfl MT ?_; (with_reducible refine (laws_eqCache.calls k a0_2 _ _ l0_3 a1_2 _ _ l1_3 true _ ?side1 ?side2 ?side3 ?side4 A6.out).mono ?_); (case side1 => exact KD HR0_3 HB); (case side2 => exact HC0_3.out); (case side3 => exact KD HR1_3 HB); (case side4 => exact HC1_3.out); rintro e w35 ⟨rfl, hb⟩; refine ⟨_, rfl, ?_⟩; replace BK101 := am (BB BK101 hb); replace BK102 := am (BB BK102 hb); replace HB := am (below_step (K2 HB GE101.out GE102.out) hb); (try clear hb); obtain ⟨hcz36_0, hcz36_1, hcz36_2, hcz36_3, hcz36_4, hcz36_5, hfz36_0⟩ := y6 w35 BK101.out; obtain ⟨hcz37_0, hcz37_1, hcz37_2, hcz37_3, hcz37_4, hcz37_5, hfz37_0⟩ := y6 w35 BK102.out) | ((with_reducible refine gate_callee (f := 71) rfl ?_); refine goesL_ (some 26) rfl rfl Try.func71 (by kernel_rfl) rfl #[.slice A0_4 l0_4.length c0_4, .slice A1_4 l1_4.length c1_4] rfl MT ?_; (with_reducible refine (laws_eqSaS.calls k _ _ l0_4 _ _ l1_4 true _ ?side1 ?side2 ?side3 ?side4 A8.out).mono ?_); (case side1 => exact KD HR0_4 HB); (case side2 => exact HC0_4.out); (case side3 => exact KD HR1_4 HB); (case side4 => exact HC1_4.out); rintro e w38 ⟨rfl, hb⟩; refine ⟨_, rfl, ?_⟩; replace BK101 := am (BB BK101 hb); replace BK102 := am (BB BK102 hb); replace HB := am (below_step (K2 HB GE101.out GE102.out) hb); (try clear hb); obtain ⟨hcz39_0, hcz39_1, hcz39_2, hcz39_3, hcz39_4, hcz39_5, hfz39_0⟩ := y6 w38 BK101.out; obtain ⟨hcz40_0, hcz40_1, hcz40_2, hcz40_3, hcz40_4, hcz40_5, hfz40_0⟩ := y6 w38 BK102.out) | ((with_reducible refine gate_callee (f := 71) rfl ?_); refine goesL_ (some 32) rfl rfl Try.func71 (by kernel_rfl) rfl #[.slice A0_5 l0_5.length c0_5, .slice A1_5 l1_5.length c1_5] rfl MT ?_; (with_reducible refine (laws_eqSaS.calls k _ _ l0_5 _ _ l1_5 false _ ?side1 ?side2 ?side3 ?side4 A10.out).mono ?_); (case side1 => exact KD HR0_5 HB); (case side2 => exact HC0_5.out); (case side3 => exact KD HR1_5 HB); (case side4 => exact HC1_5.out); rintro e w41 ⟨rfl, hb⟩; refine ⟨_, rfl, ?_⟩; replace BK101 := am (BB BK101 hb); replace BK102 := am (BB BK102 hb); replace HB := am (below_step (K2 HB GE101.out GE102.out) hb); (try clear hb)))
      go_ret
      exact ⟨ER, K2 HB GE101.out GE102.out⟩
    ·replace c9 := Bool.eq_false_iff.mpr c9
     subst c9
     have H1 : (some false) = some r := by rw [if_neg (show ¬ (false = true) by decide)] at H; exact H
     clear H
     have H := H1
     clear H1
     obtain rfl := Option.some.inj H
     go_enter Try.func33, Try.ntmps33
     go_wp2_with (first | ((with_reducible refine gate_dst (N := 2) rfl ?_); refine box_event rfl (N := 2) rfl (cs := #[.int .i64 a0_0, .slice A0_1 l0_1.length c0_1, .int .i64 a0_2, .slice A0_3 l0_3.length c0_3, .slice A0_4 l0_4.length c0_4, .slice A0_5 l0_5.length c0_5]) (t := 57) BX ?_; intro gb101 hg w42 hbox hb; have BK101 := am (hbox); have GW101 := am (GH HB hg); have GE101 := GW101; replace HB := am (below_step (KL HB) hb); clear hb hbox hg) | ((with_reducible refine gate_dst (N := 3) rfl ?_); refine box_event rfl (N := 3) rfl (cs := #[.int .i64 a1_0, .slice A1_1 l1_1.length c1_1, .int .i64 a1_2, .slice A1_3 l1_3.length c1_3, .slice A1_4 l1_4.length c1_4, .slice A1_5 l1_5.length c1_5]) (t := 57) BX ?_; intro gb102 hg w43 hbox hb; have BK102 := am (hbox); have GW102 := am (GH1 HB GE101.out hg); have GE102 := GW102; replace HB := am (below_step (K1 HB GE101.out) hb); have NB101_102 := am (NL BK101 hg); have NB102_101 := am (NG BK101 hg); replace BK101 := am (BB BK101 hb); clear hb hbox hg; have hnb44 := NB101_102.out; have hnc44 := NB102_101.out; obtain ⟨hcz45_0, hcz45_1, hcz45_2, hcz45_3, hcz45_4, hcz45_5, hfz45_0⟩ := y6 w43 BK101.out; obtain ⟨hcz46_0, hcz46_1, hcz46_2, hcz46_3, hcz46_4, hcz46_5, hfz46_0⟩ := y6 w43 BK102.out) | ((with_reducible refine gate_callee (f := 69) rfl ?_); refine goesL_ (some 14) rfl rfl Try.func69 (by kernel_rfl) rfl #[.slice A0_1 l0_1.length c0_1, .slice A1_1 l1_1.length c1_1] rfl MT ?_; (with_reducible refine (laws_eqRuleS.calls k _ _ l0_1 _ _ l1_1 true _ ?side1 ?side2 ?side3 ?side4 A4.out).mono ?_); (case side1 => exact KD HR0_1 HB); (case side2 => exact HC0_1.out); (case side3 => exact KD HR1_1 HB); (case side4 => exact HC1_1.out); rintro e w47 ⟨rfl, hb⟩; refine ⟨_, rfl, ?_⟩; replace BK101 := am (BB BK101 hb); replace BK102 := am (BB BK102 hb); replace HB := am (below_step (K2 HB GE101.out GE102.out) hb); (try clear hb); obtain ⟨hcz48_0, hcz48_1, hcz48_2, hcz48_3, hcz48_4, hcz48_5, hfz48_0⟩ := y6 w47 BK101.out; obtain ⟨hcz49_0, hcz49_1, hcz49_2, hcz49_3, hcz49_4, hcz49_5, hfz49_0⟩ := y6 w47 BK102.out) | ((with_reducible refine gate_callee (f := 70) rfl ?_); refine goesL_ (some 20) rfl rfl Try.func70 (by kernel_rfl) rfl #[.agg #[.int .i64 a0_2, .slice A0_3 l0_3.length c0_3], .agg #[.int .i64 a1_2, .slice A1_3 l1_3.length c1_3]] rfl MT ?_; (with_reducible refine (laws_eqCache.calls k a0_2 _ _ l0_3 a1_2 _ _ l1_3 true _ ?side1 ?side2 ?side3 ?side4 A6.out).mono ?_); (case side1 => exact KD HR0_3 HB); (case side2 => exact HC0_3.out); (case side3 => exact KD HR1_3 HB); (case side4 => exact HC1_3.out); rintro e w50 ⟨rfl, hb⟩; refine ⟨_, rfl, ?_⟩; replace BK101 := am (BB BK101 hb); replace BK102 := am (BB BK102 hb); replace HB := am (below_step (K2 HB GE101.out GE102.out) hb); (try clear hb); obtain ⟨hcz51_0, hcz51_1, hcz51_2, hcz51_3, hcz51_4, hcz51_5, hfz51_0⟩ := y6 w50 BK101.out; obtain ⟨hcz52_0, hcz52_1, hcz52_2, hcz52_3, hcz52_4, hcz52_5, hfz52_0⟩ := y6 w50 BK102.out) | ((with_reducible refine gate_callee (f := 71) rfl ?_); refine goesL_ (some 26) rfl rfl Try.func71 (by kernel_rfl) rfl #[.slice A0_4 l0_4.length c0_4, .slice A1_4 l1_4.length c1_4] rfl MT ?_; (with_reducible refine (laws_eqSaS.calls k _ _ l0_4 _ _ l1_4 false _ ?side1 ?side2 ?side3 ?side4 A8.out).mono ?_); (case side1 => exact KD HR0_4 HB); (case side2 => exact HC0_4.out); (case side3 => exact KD HR1_4 HB); (case side4 => exact HC1_4.out); rintro e w53 ⟨rfl, hb⟩; refine ⟨_, rfl, ?_⟩; replace BK101 := am (BB BK101 hb); replace BK102 := am (BB BK102 hb); replace HB := am (below_step (K2 HB GE101.out GE102.out) hb); (try clear hb)))
     go_ret
     exact ⟨ER, K2 HB GE101.out GE102.out⟩
   ·replace c7 := Bool.eq_false_iff.mpr c7
    subst c7
    have H1 : (some false) = some r := by rw [if_neg (show ¬ (false = true) by decide)] at H; exact H
    clear H
    have H := H1
    clear H1
    obtain rfl := Option.some.inj H
    go_enter Try.func33, Try.ntmps33
    go_wp2_with (first | ((with_reducible refine gate_dst (N := 2) rfl ?_); refine box_event rfl (N := 2) rfl (cs := #[.int .i64 a0_0, .slice A0_1 l0_1.length c0_1, .int .i64 a0_2, .slice A0_3 l0_3.length c0_3, .slice A0_4 l0_4.length c0_4, .slice A0_5 l0_5.length c0_5]) (t := 57) BX ?_; intro gb101 hg w54 hbox hb; have BK101 := am (hbox); have GW101 := am (GH HB hg); have GE101 := GW101; replace HB := am (below_step (KL HB) hb); clear hb hbox hg) | ((with_reducible refine gate_dst (N := 3) rfl ?_); refine box_event rfl (N := 3) rfl (cs := #[.int .i64 a1_0, .slice A1_1 l1_1.length c1_1, .int .i64 a1_2, .slice A1_3 l1_3.length c1_3, .slice A1_4 l1_4.length c1_4, .slice A1_5 l1_5.length c1_5]) (t := 57) BX ?_; intro gb102 hg w55 hbox hb; have BK102 := am (hbox); have GW102 := am (GH1 HB GE101.out hg); have GE102 := GW102; replace HB := am (below_step (K1 HB GE101.out) hb); have NB101_102 := am (NL BK101 hg); have NB102_101 := am (NG BK101 hg); replace BK101 := am (BB BK101 hb); clear hb hbox hg; have hnb56 := NB101_102.out; have hnc56 := NB102_101.out; obtain ⟨hcz57_0, hcz57_1, hcz57_2, hcz57_3, hcz57_4, hcz57_5, hfz57_0⟩ := y6 w55 BK101.out; obtain ⟨hcz58_0, hcz58_1, hcz58_2, hcz58_3, hcz58_4, hcz58_5, hfz58_0⟩ := y6 w55 BK102.out) | ((with_reducible refine gate_callee (f := 69) rfl ?_); refine goesL_ (some 14) rfl rfl Try.func69 (by kernel_rfl) rfl #[.slice A0_1 l0_1.length c0_1, .slice A1_1 l1_1.length c1_1] rfl MT ?_; (with_reducible refine (laws_eqRuleS.calls k _ _ l0_1 _ _ l1_1 true _ ?side1 ?side2 ?side3 ?side4 A4.out).mono ?_); (case side1 => exact KD HR0_1 HB); (case side2 => exact HC0_1.out); (case side3 => exact KD HR1_1 HB); (case side4 => exact HC1_1.out); rintro e w59 ⟨rfl, hb⟩; refine ⟨_, rfl, ?_⟩; replace BK101 := am (BB BK101 hb); replace BK102 := am (BB BK102 hb); replace HB := am (below_step (K2 HB GE101.out GE102.out) hb); (try clear hb); obtain ⟨hcz60_0, hcz60_1, hcz60_2, hcz60_3, hcz60_4, hcz60_5, hfz60_0⟩ := y6 w59 BK101.out; obtain ⟨hcz61_0, hcz61_1, hcz61_2, hcz61_3, hcz61_4, hcz61_5, hfz61_0⟩ := y6 w59 BK102.out) | ((with_reducible refine gate_callee (f := 70) rfl ?_); refine goesL_ (some 20) rfl rfl Try.func70 (by kernel_rfl) rfl #[.agg #[.int .i64 a0_2, .slice A0_3 l0_3.length c0_3], .agg #[.int .i64 a1_2, .slice A1_3 l1_3.length c1_3]] rfl MT ?_; (with_reducible refine (laws_eqCache.calls k a0_2 _ _ l0_3 a1_2 _ _ l1_3 false _ ?side1 ?side2 ?side3 ?side4 A6.out).mono ?_); (case side1 => exact KD HR0_3 HB); (case side2 => exact HC0_3.out); (case side3 => exact KD HR1_3 HB); (case side4 => exact HC1_3.out); rintro e w62 ⟨rfl, hb⟩; refine ⟨_, rfl, ?_⟩; replace BK101 := am (BB BK101 hb); replace BK102 := am (BB BK102 hb); replace HB := am (below_step (K2 HB GE101.out GE102.out) hb); (try clear hb)))
    go_ret
    exact ⟨ER, K2 HB GE101.out GE102.out⟩
  ·replace c5 := Bool.eq_false_iff.mpr c5
   subst c5
   have H1 : (some false) = some r := by rw [if_neg (show ¬ (false = true) by decide)] at H; exact H
   clear H
   have H := H1
   clear H1
   obtain rfl := Option.some.inj H
   go_enter Try.func33, Try.ntmps33
   go_wp2_with (first | ((with_reducible refine gate_dst (N := 2) rfl ?_); refine box_event rfl (N := 2) rfl (cs := #[.int .i64 a0_0, .slice A0_1 l0_1.length c0_1, .int .i64 a0_2, .slice A0_3 l0_3.length c0_3, .slice A0_4 l0_4.length c0_4, .slice A0_5 l0_5.length c0_5]) (t := 57) BX ?_; intro gb101 hg w63 hbox hb; have BK101 := am (hbox); have GW101 := am (GH HB hg); have GE101 := GW101; replace HB := am (below_step (KL HB) hb); clear hb hbox hg) | ((with_reducible refine gate_dst (N := 3) rfl ?_); refine box_event rfl (N := 3) rfl (cs := #[.int .i64 a1_0, .slice A1_1 l1_1.length c1_1, .int .i64 a1_2, .slice A1_3 l1_3.length c1_3, .slice A1_4 l1_4.length c1_4, .slice A1_5 l1_5.length c1_5]) (t := 57) BX ?_; intro gb102 hg w64 hbox hb; have BK102 := am (hbox); have GW102 := am (GH1 HB GE101.out hg); have GE102 := GW102; replace HB := am (below_step (K1 HB GE101.out) hb); have NB101_102 := am (NL BK101 hg); have NB102_101 := am (NG BK101 hg); replace BK101 := am (BB BK101 hb); clear hb hbox hg; have hnb65 := NB101_102.out; have hnc65 := NB102_101.out; obtain ⟨hcz66_0, hcz66_1, hcz66_2, hcz66_3, hcz66_4, hcz66_5, hfz66_0⟩ := y6 w64 BK101.out; obtain ⟨hcz67_0, hcz67_1, hcz67_2, hcz67_3, hcz67_4, hcz67_5, hfz67_0⟩ := y6 w64 BK102.out) | ((with_reducible refine gate_callee (f := 69) rfl ?_); refine goesL_ (some 14) rfl rfl Try.func69 (by kernel_rfl) rfl #[.slice A0_1 l0_1.length c0_1, .slice A1_1 l1_1.length c1_1] rfl MT ?_; (with_reducible refine (laws_eqRuleS.calls k _ _ l0_1 _ _ l1_1 false _ ?side1 ?side2 ?side3 ?side4 A4.out).mono ?_); (case side1 => exact KD HR0_1 HB); (case side2 => exact HC0_1.out); (case side3 => exact KD HR1_1 HB); (case side4 => exact HC1_1.out); rintro e w68 ⟨rfl, hb⟩; refine ⟨_, rfl, ?_⟩; replace BK101 := am (BB BK101 hb); replace BK102 := am (BB BK102 hb); replace HB := am (below_step (K2 HB GE101.out GE102.out) hb); (try clear hb)))
   go_ret
   exact ⟨ER, K2 HB GE101.out GE102.out⟩
 ·rw [if_neg c3] at H
  have c3b0 : (a0_0 == a1_0) = false := beq_eq_false_iff_ne.mpr c3
  have c3b1 : (a0_0 != a1_0) = true := bne_iff_ne.mpr c3
  obtain rfl := Option.some.inj H
  go_enter Try.func33, Try.ntmps33
  go_wp2_with (first | ((with_reducible refine gate_dst (N := 2) rfl ?_); refine box_event rfl (N := 2) rfl (cs := #[.int .i64 a0_0, .slice A0_1 l0_1.length c0_1, .int .i64 a0_2, .slice A0_3 l0_3.length c0_3, .slice A0_4 l0_4.length c0_4, .slice A0_5 l0_5.length c0_5]) (t := 57) BX ?_; intro gb101 hg w69 hbox hb; have BK101 := am (hbox); have GW101 := am (GH HB hg); have GE101 := GW101; replace HB := am (below_step (KL HB) hb); clear hb hbox hg) | ((with_reducible refine gate_dst (N := 3) rfl ?_); refine box_event rfl (N := 3) rfl (cs := #[.int .i64 a1_0, .slice A1_1 l1_1.length c1_1, .int .i64 a1_2, .slice A1_3 l1_3.length c1_3, .slice A1_4 l1_4.length c1_4, .slice A1_5 l1_5.length c1_5]) (t := 57) BX ?_; intro gb102 hg w70 hbox hb; have BK102 := am (hbox); have GW102 := am (GH1 HB GE101.out hg); have GE102 := GW102; replace HB := am (below_step (K1 HB GE101.out) hb); have NB101_102 := am (NL BK101 hg); have NB102_101 := am (NG BK101 hg); replace BK101 := am (BB BK101 hb); clear hb hbox hg; have hnb71 := NB101_102.out; have hnc71 := NB102_101.out; obtain ⟨hcz72_0, hcz72_1, hcz72_2, hcz72_3, hcz72_4, hcz72_5, hfz72_0⟩ := y6 w70 BK101.out; obtain ⟨hcz73_0, hcz73_1, hcz73_2, hcz73_3, hcz73_4, hcz73_5, hfz73_0⟩ := y6 w70 BK102.out))
  go_ret
  exact ⟨ER, K2 HB GE101.out GE102.out⟩
def spec_BlockOk.f (k : Nat) (a0_0 : Int) (a0_1 : Int) : Option (Bool) := (spec_l1Addr.f a0_0).bind fun t102 => (if t102 = true then ((spec_l1In.f a0_1 0 32).bind fun t103 => (if t103 = true then ((spec_l1Size.f k a0_1).bind fun t104 => (if t104 = 0 then (none) else (some ((Int.tmod a0_0 t104) == 0)))) else (some false))) else (some false))
set_option maxHeartbeats 8000000 in
set_option maxRecDepth 100000 in
theorem spec_BlockOk.calls (k : Nat) (a0_0 : Int) (a0_1 : Int) (r : Bool) (w : World) (h : spec_BlockOk.f k a0_0 a0_1 = some r) :
  Calls Try.prog 147 #[.agg #[.int .i64 a0_0, .int .i64 a0_1]] w fun e w' => e = .returned (.bool r) ∧ Below w.heap.size w w' := by
 have hu139 := Try.underlying139
 have HB := am (Below.refl w.heap.size w)
 have H : ((spec_l1Addr.f a0_0).bind fun t102 => (if t102 = true then ((spec_l1In.f a0_1 0 32).bind fun t103 => (if t103 = true then ((spec_l1Size.f k a0_1).bind fun t104 => (if t104 = 0 then (none) else (some ((Int.tmod a0_0 t104) == 0)))) else (some false))) else (some false))) = some r := h
 clear h
 replace H := Option.bind_eq_some_iff.mp H
 obtain ⟨t102, A20, H⟩ := H
 replace H : (if t102 = true then ((spec_l1In.f a0_1 0 32).bind fun t103 => (if t103 = true then ((spec_l1Size.f k a0_1).bind fun t104 => (if t104 = 0 then (none) else (some ((Int.tmod a0_0 t104) == 0)))) else (some false))) else (some false)) = some r := H
 have A2 := Aside0.mk A20
 clear A20
 by_cases c3 : t102 = true
 ·subst c3
  have H1 : ((spec_l1In.f a0_1 0 32).bind fun t103 => (if t103 = true then ((spec_l1Size.f k a0_1).bind fun t104 => (if t104 = 0 then (none) else (some ((Int.tmod a0_0 t104) == 0)))) else (some false))) = some r := by rw [if_pos rfl] at H; exact H
  clear H
  have H := H1
  clear H1
  replace H := Option.bind_eq_some_iff.mp H
  obtain ⟨t103, A40, H⟩ := H
  replace H : (if t103 = true then ((spec_l1Size.f k a0_1).bind fun t104 => (if t104 = 0 then (none) else (some ((Int.tmod a0_0 t104) == 0)))) else (some false)) = some r := H
  have A4 := Aside0.mk A40
  clear A40
  by_cases c5 : t103 = true
  ·subst c5
   have H1 : ((spec_l1Size.f k a0_1).bind fun t104 => (if t104 = 0 then (none) else (some ((Int.tmod a0_0 t104) == 0)))) = some r := by rw [if_pos rfl] at H; exact H
   clear H
   have H := H1
   clear H1
   replace H := Option.bind_eq_some_iff.mp H
   obtain ⟨t104, A60, H⟩ := H
   replace H : (if t104 = 0 then (none) else (some ((Int.tmod a0_0 t104) == 0))) = some r := H
   have A6 := Aside0.mk A60
   clear A60
   by_cases c7 : t104 = 0
   ·rw [if_pos c7] at H
    exact absurd H (by simp)
   ·rw [if_neg c7] at H
    have c7b0 : (t104 == 0) = false := beq_eq_false_iff_ne.mpr c7
    have c7b1 : (t104 != 0) = true := bne_iff_ne.mpr c7
    obtain rfl := Option.some.inj H
    go_enter Try.func147, Try.ntmps147
    go_wp2_with (first | ((with_reducible refine gate_dst (N := 1) rfl ?_); refine box_event rfl (N := 1) rfl (cs := #[.int .i64 a0_0, .int .i64 a0_1]) (t := 139) BX ?_; intro gb101 hg w8 hbox hb; have BK101 := am (hbox); have GW101 := am (GH HB hg); have GE101 := GW101; replace HB := am (below_step (KL HB) hb); clear hb hbox hg; obtain ⟨hcz9_0, hcz9_1, hfz9_0⟩ := y2 w8 BK101.out) | (go_at_call 130; (with_reducible refine (spec_l1Addr.calls a0_0 true _ A2.out).mono ?_); rintro e w' ⟨rfl, ⟨nd, rfl⟩⟩; (try first | exact ⟨rfl, _, World.drewN_drewN _ _ _⟩ | exact ⟨rfl, _, Eq.trans (World.drewN_drewN _ _ _) (congrArg (World.drewN _) (Nat.add_assoc _ _ _))⟩)) | (go_at_call 59; (with_reducible refine (spec_l1In.calls a0_1 0 32 true _ A4.out).mono ?_); rintro e w' ⟨rfl, ⟨nd, rfl⟩⟩; (try first | exact ⟨rfl, _, World.drewN_drewN _ _ _⟩ | exact ⟨rfl, _, Eq.trans (World.drewN_drewN _ _ _) (congrArg (World.drewN _) (Nat.add_assoc _ _ _))⟩)) | (go_at_call 153; (with_reducible refine (spec_l1Size.calls k a0_1 t104 _ A6.out).mono ?_); rintro e w' ⟨rfl, ⟨nd, rfl⟩⟩; (try first | exact ⟨rfl, _, World.drewN_drewN _ _ _⟩ | exact ⟨rfl, _, Eq.trans (World.drewN_drewN _ _ _) (congrArg (World.drewN _) (Nat.add_assoc _ _ _))⟩)))
    repeat (go_quiet (first | ((with_reducible refine gate_dst (N := 1) rfl ?_); refine box_event rfl (N := 1) rfl (cs := #[.int .i64 a0_0, .int .i64 a0_1]) (t := 139) BX ?_; intro gb101 hg w8 hbox hb; have BK101 := am (hbox); have GW101 := am (GH HB hg); have GE101 := GW101; replace HB := am (below_step (KL HB) hb); clear hb hbox hg; obtain ⟨hcz9_0, hcz9_1, hfz9_0⟩ := y2 w8 BK101.out) | (go_at_call 130; (with_reducible refine (spec_l1Addr.calls a0_0 true _ A2.out).mono ?_); rintro e w' ⟨rfl, ⟨nd, rfl⟩⟩; (try first | exact ⟨rfl, _, World.drewN_drewN _ _ _⟩ | exact ⟨rfl, _, Eq.trans (World.drewN_drewN _ _ _) (congrArg (World.drewN _) (Nat.add_assoc _ _ _))⟩)) | (go_at_call 59; (with_reducible refine (spec_l1In.calls a0_1 0 32 true _ A4.out).mono ?_); rintro e w' ⟨rfl, ⟨nd, rfl⟩⟩; (try first | exact ⟨rfl, _, World.drewN_drewN _ _ _⟩ | exact ⟨rfl, _, Eq.trans (World.drewN_drewN _ _ _) (congrArg (World.drewN _) (Nat.add_assoc _ _ _))⟩)) | (go_at_call 153; (with_reducible refine (spec_l1Size.calls k a0_1 t104 _ A6.out).mono ?_); rintro e w' ⟨rfl, ⟨nd, rfl⟩⟩; (try first | exact ⟨rfl, _, World.drewN_drewN _ _ _⟩ | exact ⟨rfl, _, Eq.trans (World.drewN_drewN _ _ _) (congrArg (World.drewN _) (Nat.add_assoc _ _ _))⟩))); try go_wp2_with (first | ((with_reducible refine gate_dst (N := 1) rfl ?_); refine box_event rfl (N := 1) rfl (cs := #[.int .i64 a0_0, .int .i64 a0_1]) (t := 139) BX ?_; intro gb101 hg w8 hbox hb; have BK101 := am (hbox); have GW101 := am (GH HB hg); have GE101 := GW101; replace HB := am (below_step (KL HB) hb); clear hb hbox hg; obtain ⟨hcz9_0, hcz9_1, hfz9_0⟩ := y2 w8 BK101.out) | (go_at_call 130; (with_reducible refine (spec_l1Addr.calls a0_0 true _ A2.out).mono ?_); rintro e w' ⟨rfl, ⟨nd, rfl⟩⟩; (try first | exact ⟨rfl, _, World.drewN_drewN _ _ _⟩ | exact ⟨rfl, _, Eq.trans (World.drewN_drewN _ _ _) (congrArg (World.drewN _) (Nat.add_assoc _ _ _))⟩)) | (go_at_call 59; (with_reducible refine (spec_l1In.calls a0_1 0 32 true _ A4.out).mono ?_); rintro e w' ⟨rfl, ⟨nd, rfl⟩⟩; (try first | exact ⟨rfl, _, World.drewN_drewN _ _ _⟩ | exact ⟨rfl, _, Eq.trans (World.drewN_drewN _ _ _) (congrArg (World.drewN _) (Nat.add_assoc _ _ _))⟩)) | (go_at_call 153; (with_reducible refine (spec_l1Size.calls k a0_1 t104 _ A6.out).mono ?_); rintro e w' ⟨rfl, ⟨nd, rfl⟩⟩; (try first | exact ⟨rfl, _, World.drewN_drewN _ _ _⟩ | exact ⟨rfl, _, Eq.trans (World.drewN_drewN _ _ _) (congrArg (World.drewN _) (Nat.add_assoc _ _ _))⟩))))
    go_ret
    exact ⟨ER, K1 HB GE101.out⟩
  ·replace c5 := Bool.eq_false_iff.mpr c5
   subst c5
   have H1 : (some false) = some r := by rw [if_neg (show ¬ (false = true) by decide)] at H; exact H
   clear H
   have H := H1
   clear H1
   obtain rfl := Option.some.inj H
   go_enter Try.func147, Try.ntmps147
   go_wp2_with (first | ((with_reducible refine gate_dst (N := 1) rfl ?_); refine box_event rfl (N := 1) rfl (cs := #[.int .i64 a0_0, .int .i64 a0_1]) (t := 139) BX ?_; intro gb101 hg w10 hbox hb; have BK101 := am (hbox); have GW101 := am (GH HB hg); have GE101 := GW101; replace HB := am (below_step (KL HB) hb); clear hb hbox hg; obtain ⟨hcz11_0, hcz11_1, hfz11_0⟩ := y2 w10 BK101.out) | (go_at_call 130; (with_reducible refine (spec_l1Addr.calls a0_0 true _ A2.out).mono ?_); rintro e w' ⟨rfl, ⟨nd, rfl⟩⟩; (try first | exact ⟨rfl, _, World.drewN_drewN _ _ _⟩ | exact ⟨rfl, _, Eq.trans (World.drewN_drewN _ _ _) (congrArg (World.drewN _) (Nat.add_assoc _ _ _))⟩)) | (go_at_call 59; (with_reducible refine (spec_l1In.calls a0_1 0 32 false _ A4.out).mono ?_); rintro e w' ⟨rfl, ⟨nd, rfl⟩⟩; (try first | exact ⟨rfl, _, World.drewN_drewN _ _ _⟩ | exact ⟨rfl, _, Eq.trans (World.drewN_drewN _ _ _) (congrArg (World.drewN _) (Nat.add_assoc _ _ _))⟩)))
   repeat (go_quiet (first | ((with_reducible refine gate_dst (N := 1) rfl ?_); refine box_event rfl (N := 1) rfl (cs := #[.int .i64 a0_0, .int .i64 a0_1]) (t := 139) BX ?_; intro gb101 hg w10 hbox hb; have BK101 := am (hbox); have GW101 := am (GH HB hg); have GE101 := GW101; replace HB := am (below_step (KL HB) hb); clear hb hbox hg; obtain ⟨hcz11_0, hcz11_1, hfz11_0⟩ := y2 w10 BK101.out) | (go_at_call 130; (with_reducible refine (spec_l1Addr.calls a0_0 true _ A2.out).mono ?_); rintro e w' ⟨rfl, ⟨nd, rfl⟩⟩; (try first | exact ⟨rfl, _, World.drewN_drewN _ _ _⟩ | exact ⟨rfl, _, Eq.trans (World.drewN_drewN _ _ _) (congrArg (World.drewN _) (Nat.add_assoc _ _ _))⟩)) | (go_at_call 59; (with_reducible refine (spec_l1In.calls a0_1 0 32 false _ A4.out).mono ?_); rintro e w' ⟨rfl, ⟨nd, rfl⟩⟩; (try first | exact ⟨rfl, _, World.drewN_drewN _ _ _⟩ | exact ⟨rfl, _, Eq.trans (World.drewN_drewN _ _ _) (congrArg (World.drewN _) (Nat.add_assoc _ _ _))⟩))); try go_wp2_with (first | ((with_reducible refine gate_dst (N := 1) rfl ?_); refine box_event rfl (N := 1) rfl (cs := #[.int .i64 a0_0, .int .i64 a0_1]) (t := 139) BX ?_; intro gb101 hg w10 hbox hb; have BK101 := am (hbox); have GW101 := am (GH HB hg); have GE101 := GW101; replace HB := am (below_step (KL HB) hb); clear hb hbox hg; obtain ⟨hcz11_0, hcz11_1, hfz11_0⟩ := y2 w10 BK101.out) | (go_at_call 130; (with_reducible refine (spec_l1Addr.calls a0_0 true _ A2.out).mono ?_); rintro e w' ⟨rfl, ⟨nd, rfl⟩⟩; (try first | exact ⟨rfl, _, World.drewN_drewN _ _ _⟩ | exact ⟨rfl, _, Eq.trans (World.drewN_drewN _ _ _) (congrArg (World.drewN _) (Nat.add_assoc _ _ _))⟩)) | (go_at_call 59; (with_reducible refine (spec_l1In.calls a0_1 0 32 false _ A4.out).mono ?_); rintro e w' ⟨rfl, ⟨nd, rfl⟩⟩; (try first | exact ⟨rfl, _, World.drewN_drewN _ _ _⟩ | exact ⟨rfl, _, Eq.trans (World.drewN_drewN _ _ _) (congrArg (World.drewN _) (Nat.add_assoc _ _ _))⟩))))
   go_ret
   exact ⟨ER, K1 HB GE101.out⟩
 ·replace c3 := Bool.eq_false_iff.mpr c3
  subst c3
  have H1 : (some false) = some r := by rw [if_neg (show ¬ (false = true) by decide)] at H; exact H
  clear H
  have H := H1
  clear H1
  obtain rfl := Option.some.inj H
  go_enter Try.func147, Try.ntmps147
  go_wp2_with (first | ((with_reducible refine gate_dst (N := 1) rfl ?_); refine box_event rfl (N := 1) rfl (cs := #[.int .i64 a0_0, .int .i64 a0_1]) (t := 139) BX ?_; intro gb101 hg w12 hbox hb; have BK101 := am (hbox); have GW101 := am (GH HB hg); have GE101 := GW101; replace HB := am (below_step (KL HB) hb); clear hb hbox hg; obtain ⟨hcz13_0, hcz13_1, hfz13_0⟩ := y2 w12 BK101.out) | (go_at_call 130; (with_reducible refine (spec_l1Addr.calls a0_0 false _ A2.out).mono ?_); rintro e w' ⟨rfl, ⟨nd, rfl⟩⟩; (try first | exact ⟨rfl, _, World.drewN_drewN _ _ _⟩ | exact ⟨rfl, _, Eq.trans (World.drewN_drewN _ _ _) (congrArg (World.drewN _) (Nat.add_assoc _ _ _))⟩)))
  repeat (go_quiet (first | ((with_reducible refine gate_dst (N := 1) rfl ?_); refine box_event rfl (N := 1) rfl (cs := #[.int .i64 a0_0, .int .i64 a0_1]) (t := 139) BX ?_; intro gb101 hg w12 hbox hb; have BK101 := am (hbox); have GW101 := am (GH HB hg); have GE101 := GW101; replace HB := am (below_step (KL HB) hb); clear hb hbox hg; obtain ⟨hcz13_0, hcz13_1, hfz13_0⟩ := y2 w12 BK101.out) | (go_at_call 130; (with_reducible refine (spec_l1Addr.calls a0_0 false _ A2.out).mono ?_); rintro e w' ⟨rfl, ⟨nd, rfl⟩⟩; (try first | exact ⟨rfl, _, World.drewN_drewN _ _ _⟩ | exact ⟨rfl, _, Eq.trans (World.drewN_drewN _ _ _) (congrArg (World.drewN _) (Nat.add_assoc _ _ _))⟩))); try go_wp2_with (first | ((with_reducible refine gate_dst (N := 1) rfl ?_); refine box_event rfl (N := 1) rfl (cs := #[.int .i64 a0_0, .int .i64 a0_1]) (t := 139) BX ?_; intro gb101 hg w12 hbox hb; have BK101 := am (hbox); have GW101 := am (GH HB hg); have GE101 := GW101; replace HB := am (below_step (KL HB) hb); clear hb hbox hg; obtain ⟨hcz13_0, hcz13_1, hfz13_0⟩ := y2 w12 BK101.out) | (go_at_call 130; (with_reducible refine (spec_l1Addr.calls a0_0 false _ A2.out).mono ?_); rintro e w' ⟨rfl, ⟨nd, rfl⟩⟩; (try first | exact ⟨rfl, _, World.drewN_drewN _ _ _⟩ | exact ⟨rfl, _, Eq.trans (World.drewN_drewN _ _ _) (congrArg (World.drewN _) (Nat.add_assoc _ _ _))⟩))))
  go_ret
  exact ⟨ER, K1 HB GE101.out⟩
def spec_l4Ok.j0 : Nat → Bool → Int → Int → Int → Int → Int → Int → Int → Int → Option (Bool)
 | 0, _, _, _, _, _, _, _, _, _ => none
 | k + 1, x31, x102000, x102001, x102002, x102003, x102004, x102005, x102006, x102007 => if x31 = true then (some false) else (if x102000 = 2 then ((spec_l1In.f x102001 0 3).bind fun t106 => (some t106)) else (some (x102001 == 0)))
def spec_l4Ok.f (k : Nat) (a0_0 : Int) (a0_1 : Int) (a0_2 : Int) (a0_3 : Int) (a0_4 : Int) (a0_5 : Int) (a0_6 : Int) (a0_7 : Int) : Option (Bool) := (spec_BlockOk.f k a0_2 a0_3).bind fun t102 => (if t102 = true then ((spec_BlockOk.f k a0_4 a0_5).bind fun t103 => (if t103 = true then ((spec_l1In.f a0_6 0 a0_7).bind fun t104 => (if t104 = true then (if a0_7 > 65535 then (spec_l4Ok.j0 k true a0_0 a0_1 a0_2 a0_3 a0_4 a0_5 a0_6 a0_7) else ((spec_l1In.f a0_0 0 2).bind fun t105 => (spec_l4Ok.j0 k (!t105) a0_0 a0_1 a0_2 a0_3 a0_4 a0_5 a0_6 a0_7))) else (spec_l4Ok.j0 k true a0_0 a0_1 a0_2 a0_3 a0_4 a0_5 a0_6 a0_7))) else (spec_l4Ok.j0 k true a0_0 a0_1 a0_2 a0_3 a0_4 a0_5 a0_6 a0_7))) else (spec_l4Ok.j0 k true a0_0 a0_1 a0_2 a0_3 a0_4 a0_5 a0_6 a0_7))
set_option maxHeartbeats 8000000 in
set_option maxRecDepth 100000 in
theorem spec_l4Ok.calls (k : Nat) (a0_0 : Int) (a0_1 : Int) (a0_2 : Int) (a0_3 : Int) (a0_4 : Int) (a0_5 : Int) (a0_6 : Int) (a0_7 : Int) (r : Bool) (w : World) (h : spec_l4Ok.f k a0_0 a0_1 a0_2 a0_3 a0_4 a0_5 a0_6 a0_7 = some r) :
  Calls Try.prog 129 #[.agg #[.int .i64 a0_0, .int .i64 a0_1, .int .i64 a0_2, .int .i64 a0_3, .int .i64 a0_4, .int .i64 a0_5, .int .i64 a0_6, .int .i64 a0_7]] w fun e w' => e = .returned (.bool r) ∧ Below w.heap.size w w' := by
 have hu141 := Try.underlying141
 have hu139 := Try.underlying139
 have HB := am (Below.refl w.heap.size w)
 have H : ((spec_BlockOk.f k a0_2 a0_3).bind fun t102 => (if t102 = true then ((spec_BlockOk.f k a0_4 a0_5).bind fun t103 => (if t103 = true then ((spec_l1In.f a0_6 0 a0_7).bind fun t104 => (if t104 = true then (if a0_7 > 65535 then (spec_l4Ok.j0 k true a0_0 a0_1 a0_2 a0_3 a0_4 a0_5 a0_6 a0_7) else ((spec_l1In.f a0_0 0 2).bind fun t105 => (spec_l4Ok.j0 k (!t105) a0_0 a0_1 a0_2 a0_3 a0_4 a0_5 a0_6 a0_7))) else (spec_l4Ok.j0 k true a0_0 a0_1 a0_2 a0_3 a0_4 a0_5 a0_6 a0_7))) else (spec_l4Ok.j0 k true a0_0 a0_1 a0_2 a0_3 a0_4 a0_5 a0_6 a0_7))) else (spec_l4Ok.j0 k true a0_0 a0_1 a0_2 a0_3 a0_4 a0_5 a0_6 a0_7))) = some r := h
 clear h
 have HC2 := Aside0.mk H
 clear H
 go_enter Try.func129, Try.ntmps129
 go_upto_region 1 with (first | ((with_reducible refine gate_dst (N := 1) rfl ?_); refine box_event rfl (N := 1) rfl (cs := #[.int .i64 a0_0, .int .i64 a0_1, .int .i64 a0_2, .int .i64 a0_3, .int .i64 a0_4, .int .i64 a0_5, .int .i64 a0_6, .int .i64 a0_7]) (t := 141) BX ?_; intro gb101 hg w3 hbox hb; have BK101 := am (hbox); have GW101 := am (GH HB hg); have GE101 := GW101; replace HB := am (below_step (KL HB) hb); clear hb hbox hg))
 (try simp only [Act.put, List.setIfInBounds_toArray, List.set_cons_zero, List.set_cons_succ])
 go_cut [31] (fun v31 wc => ∃ (kq : Nat) (x31_1 : Bool), v31 = .bool x31_1 ∧ Aside0 (spec_l4Ok.j0 kq x31_1 a0_0 a0_1 a0_2 a0_3 a0_4 a0_5 a0_6 a0_7 = some r) ∧ Aside0 (kq ≤ k) ∧ Aside0 (wc.heap[gb101]? = some (.cells #[.int .i64 a0_0, .int .i64 a0_1, .int .i64 a0_2, .int .i64 a0_3, .int .i64 a0_4, .int .i64 a0_5, .int .i64 a0_6, .int .i64 a0_7] 141 (0, 0))) ∧ Aside0 (Below w.heap.size w wc))
 case first =>
  have H := HC2.out
  clear HC2
  replace H := Option.bind_eq_some_iff.mp H
  obtain ⟨t102, A40, H⟩ := H
  replace H : (if t102 = true then ((spec_BlockOk.f k a0_4 a0_5).bind fun t103 => (if t103 = true then ((spec_l1In.f a0_6 0 a0_7).bind fun t104 => (if t104 = true then (if a0_7 > 65535 then (spec_l4Ok.j0 k true a0_0 a0_1 a0_2 a0_3 a0_4 a0_5 a0_6 a0_7) else ((spec_l1In.f a0_0 0 2).bind fun t105 => (spec_l4Ok.j0 k (!t105) a0_0 a0_1 a0_2 a0_3 a0_4 a0_5 a0_6 a0_7))) else (spec_l4Ok.j0 k true a0_0 a0_1 a0_2 a0_3 a0_4 a0_5 a0_6 a0_7))) else (spec_l4Ok.j0 k true a0_0 a0_1 a0_2 a0_3 a0_4 a0_5 a0_6 a0_7))) else (spec_l4Ok.j0 k true a0_0 a0_1 a0_2 a0_3 a0_4 a0_5 a0_6 a0_7)) = some r := H
  have A4 := Aside0.mk A40
  clear A40
  by_cases c5 : t102 = true
  ·subst c5
   have H1 : ((spec_BlockOk.f k a0_4 a0_5).bind fun t103 => (if t103 = true then ((spec_l1In.f a0_6 0 a0_7).bind fun t104 => (if t104 = true then (if a0_7 > 65535 then (spec_l4Ok.j0 k true a0_0 a0_1 a0_2 a0_3 a0_4 a0_5 a0_6 a0_7) else ((spec_l1In.f a0_0 0 2).bind fun t105 => (spec_l4Ok.j0 k (!t105) a0_0 a0_1 a0_2 a0_3 a0_4 a0_5 a0_6 a0_7))) else (spec_l4Ok.j0 k true a0_0 a0_1 a0_2 a0_3 a0_4 a0_5 a0_6 a0_7))) else (spec_l4Ok.j0 k true a0_0 a0_1 a0_2 a0_3 a0_4 a0_5 a0_6 a0_7))) = some r := by rw [if_pos rfl] at H; exact H
   clear H
   have H := H1
   clear H1
   replace H := Option.bind_eq_some_iff.mp H
   obtain ⟨t103, A60, H⟩ := H
   replace H : (if t103 = true then ((spec_l1In.f a0_6 0 a0_7).bind fun t104 => (if t104 = true then (if a0_7 > 65535 then (spec_l4Ok.j0 k true a0_0 a0_1 a0_2 a0_3 a0_4 a0_5 a0_6 a0_7) else ((spec_l1In.f a0_0 0 2).bind fun t105 => (spec_l4Ok.j0 k (!t105) a0_0 a0_1 a0_2 a0_3 a0_4 a0_5 a0_6 a0_7))) else (spec_l4Ok.j0 k true a0_0 a0_1 a0_2 a0_3 a0_4 a0_5 a0_6 a0_7))) else (spec_l4Ok.j0 k true a0_0 a0_1 a0_2 a0_3 a0_4 a0_5 a0_6 a0_7)) = some r := H
   have A6 := Aside0.mk A60
   clear A60
   by_cases c7 : t103 = true
   ·subst c7
    have H1 : ((spec_l1In.f a0_6 0 a0_7).bind fun t104 => (if t104 = true then (if a0_7 > 65535 then (spec_l4Ok.j0 k true a0_0 a0_1 a0_2 a0_3 a0_4 a0_5 a0_6 a0_7) else ((spec_l1In.f a0_0 0 2).bind fun t105 => (spec_l4Ok.j0 k (!t105) a0_0 a0_1 a0_2 a0_3 a0_4 a0_5 a0_6 a0_7))) else (spec_l4Ok.j0 k true a0_0 a0_1 a0_2 a0_3 a0_4 a0_5 a0_6 a0_7))) = some r := by rw [if_pos rfl] at H; exact H
    clear H
    have H := H1
    clear H1
    replace H := Option.bind_eq_some_iff.mp H
    obtain ⟨t104, A80, H⟩ := H
    replace H : (if t104 = true then (if a0_7 > 65535 then (spec_l4Ok.j0 k true a0_0 a0_1 a0_2 a0_3 a0_4 a0_5 a0_6 a0_7) else ((spec_l1In.f a0_0 0 2).bind fun t105 => (spec_l4Ok.j0 k (!t105) a0_0 a0_1 a0_2 a0_3 a0_4 a0_5 a0_6 a0_7))) else (spec_l4Ok.j0 k true a0_0 a0_1 a0_2 a0_3 a0_4 a0_5 a0_6 a0_7)) = some r := H
    have A8 := Aside0.mk A80
    clear A80
    by_cases c9 : t104 = true
    ·subst c9
     have H1 : (if a0_7 > 65535 then (spec_l4Ok.j0 k true a0_0 a0_1 a0_2 a0_3 a0_4 a0_5 a0_6 a0_7) else ((spec_l1In.f a0_0 0 2).bind fun t105 => (spec_l4Ok.j0 k (!t105) a0_0 a0_1 a0_2 a0_3 a0_4 a0_5 a0_6 a0_7))) = some r := by rw [if_pos rfl] at H; exact H
     clear H
     have H := H1
     clear H1
     by_cases c10 : a0_7 > 65535
     ·rw [if_pos c10] at H
      have c10b0 : decide (65535 < a0_7) = true := decide_eq_true c10
      clear c10
      (first | rw [c10b0] | (simp only [i64_w, i32_w]; rw [c10b0]) | skip)
      have H' := Aside0.mk H
      clear H
      obtain ⟨hcz11_0, hcz11_1, hcz11_2, hcz11_3, hcz11_4, hcz11_5, hcz11_6, hcz11_7, hfz11_0⟩ := y8 w3 BK101.out
      go_wp2_with (first | ((with_reducible refine gate_callee (f := 147) rfl ?_); refine goesL_ (some 5) rfl rfl Try.func147 (by kernel_rfl) rfl #[.agg #[.int .i64 a0_2, .int .i64 a0_3]] rfl MT ?_; (with_reducible refine (spec_BlockOk.calls k a0_2 a0_3 true _ A4.out).mono ?_); rintro e w12 ⟨rfl, hb⟩; refine ⟨_, rfl, ?_⟩; replace BK101 := am (BB BK101 hb); replace HB := am (below_step (K1 HB GE101.out) hb); (try clear hb); obtain ⟨hcz13_0, hcz13_1, hcz13_2, hcz13_3, hcz13_4, hcz13_5, hcz13_6, hcz13_7, hfz13_0⟩ := y8 w12 BK101.out) | (go_at_call 147; (with_reducible refine (spec_BlockOk.calls k a0_4 a0_5 true _ A6.out).mono ?_); rintro e w14 ⟨rfl, hb⟩; replace BK101 := am (BB BK101 hb); replace HB := am (below_step (K1 HB GE101.out) hb); (try clear hb); obtain ⟨hcz15_0, hcz15_1, hcz15_2, hcz15_3, hcz15_4, hcz15_5, hcz15_6, hcz15_7, hfz15_0⟩ := y8 w14 BK101.out) | (go_at_call 59; (with_reducible refine (spec_l1In.calls a0_6 0 a0_7 true _ A8.out).mono ?_); rintro e w' ⟨rfl, ⟨nd, rfl⟩⟩))
      go_meet
      case rel => exact ⟨_, (true), (by first | rfl | (simp; done) | (simp [*]; done)), H', ⟨by first | omega | exact Nat.le_refl _⟩, ⟨KB BK101⟩, ⟨K1 HB GE101.out⟩⟩
     ·rw [if_neg c10] at H
      have c10b0 : decide (65535 < a0_7) = false := decide_eq_false c10
      clear c10
      (first | rw [c10b0] | (simp only [i64_w, i32_w]; rw [c10b0]) | skip)
      replace H := Option.bind_eq_some_iff.mp H
      obtain ⟨t105, A160, H⟩ := H
      replace H : (spec_l4Ok.j0 k (!t105) a0_0 a0_1 a0_2 a0_3 a0_4 a0_5 a0_6 a0_7) = some r := H
      have A16 := Aside0.mk A160
      clear A160
      have H' := Aside0.mk H
      clear H
      obtain ⟨hcz17_0, hcz17_1, hcz17_2, hcz17_3, hcz17_4, hcz17_5, hcz17_6, hcz17_7, hfz17_0⟩ := y8 w3 BK101.out
      go_wp2_with (first | ((with_reducible refine gate_callee (f := 147) rfl ?_); refine goesL_ (some 5) rfl rfl Try.func147 (by kernel_rfl) rfl #[.agg #[.int .i64 a0_2, .int .i64 a0_3]] rfl MT ?_; (with_reducible refine (spec_BlockOk.calls k a0_2 a0_3 true _ A4.out).mono ?_); rintro e w18 ⟨rfl, hb⟩; refine ⟨_, rfl, ?_⟩; replace BK101 := am (BB BK101 hb); replace HB := am (below_step (K1 HB GE101.out) hb); (try clear hb); obtain ⟨hcz19_0, hcz19_1, hcz19_2, hcz19_3, hcz19_4, hcz19_5, hcz19_6, hcz19_7, hfz19_0⟩ := y8 w18 BK101.out) | (go_at_call 147; (with_reducible refine (spec_BlockOk.calls k a0_4 a0_5 true _ A6.out).mono ?_); rintro e w20 ⟨rfl, hb⟩; replace BK101 := am (BB BK101 hb); replace HB := am (below_step (K1 HB GE101.out) hb); (try clear hb); obtain ⟨hcz21_0, hcz21_1, hcz21_2, hcz21_3, hcz21_4, hcz21_5, hcz21_6, hcz21_7, hfz21_0⟩ := y8 w20 BK101.out) | (go_at_call 59; (with_reducible refine (spec_l1In.calls a0_6 0 a0_7 true _ A8.out).mono ?_); rintro e w' ⟨rfl, ⟨nd, rfl⟩⟩) | (go_at_call 59; (with_reducible refine (spec_l1In.calls a0_0 0 2 t105 _ A16.out).mono ?_); rintro e w' ⟨rfl, ⟨nd, rfl⟩⟩))
      go_meet
      case rel => exact ⟨_, (!t105), (by first | rfl | (simp; done) | (simp [*]; done)), H', ⟨by first | omega | exact Nat.le_refl _⟩, ⟨KB BK101⟩, ⟨K1 HB GE101.out⟩⟩
    ·replace c9 := Bool.eq_false_iff.mpr c9
     subst c9
     have H1 : (spec_l4Ok.j0 k true a0_0 a0_1 a0_2 a0_3 a0_4 a0_5 a0_6 a0_7) = some r := by rw [if_neg (show ¬ (false = true) by decide)] at H; exact H
     clear H
     have H := H1
     clear H1
     have H' := Aside0.mk H
     clear H
     obtain ⟨hcz22_0, hcz22_1, hcz22_2, hcz22_3, hcz22_4, hcz22_5, hcz22_6, hcz22_7, hfz22_0⟩ := y8 w3 BK101.out
     go_wp2_with (first | ((with_reducible refine gate_callee (f := 147) rfl ?_); refine goesL_ (some 5) rfl rfl Try.func147 (by kernel_rfl) rfl #[.agg #[.int .i64 a0_2, .int .i64 a0_3]] rfl MT ?_; (with_reducible refine (spec_BlockOk.calls k a0_2 a0_3 true _ A4.out).mono ?_); rintro e w23 ⟨rfl, hb⟩; refine ⟨_, rfl, ?_⟩; replace BK101 := am (BB BK101 hb); replace HB := am (below_step (K1 HB GE101.out) hb); (try clear hb); obtain ⟨hcz24_0, hcz24_1, hcz24_2, hcz24_3, hcz24_4, hcz24_5, hcz24_6, hcz24_7, hfz24_0⟩ := y8 w23 BK101.out) | (go_at_call 147; (with_reducible refine (spec_BlockOk.calls k a0_4 a0_5 true _ A6.out).mono ?_); rintro e w25 ⟨rfl, hb⟩; replace BK101 := am (BB BK101 hb); replace HB := am (below_step (K1 HB GE101.out) hb); (try clear hb); obtain ⟨hcz26_0, hcz26_1, hcz26_2, hcz26_3, hcz26_4, hcz26_5, hcz26_6, hcz26_7, hfz26_0⟩ := y8 w25 BK101.out) | (go_at_call 59; (with_reducible refine (spec_l1In.calls a0_6 0 a0_7 false _ A8.out).mono ?_); rintro e w' ⟨rfl, ⟨nd, rfl⟩⟩))
     go_meet
     case rel => exact ⟨_, (true), (by first | rfl | (simp; done) | (simp [*]; done)), H', ⟨by first | omega | exact Nat.le_refl _⟩, ⟨KB BK101⟩, ⟨K1 HB GE101.out⟩⟩
   ·replace c7 := Bool.eq_false_iff.mpr c7
    subst c7
    have H1 : (spec_l4Ok.j0 k true a0_0 a0_1 a0_2 a0_3 a0_4 a0_5 a0_6 a0_7) = some r := by rw [if_neg (show ¬ (false = true) by decide)] at H; exact H
    clear H
    have H := H1
    clear H1
    have H' := Aside0.mk H
    clear H
    obtain ⟨hcz27_0, hcz27_1, hcz27_2, hcz27_3, hcz27_4, hcz27_5, hcz27_6, hcz27_7, hfz27_0⟩ := y8 w3 BK101.out
    go_wp2_with (first | ((with_reducible refine gate_callee (f := 147) rfl ?_); refine goesL_ (some 5) rfl rfl Try.func147 (by kernel_rfl) rfl #[.agg #[.int .i64 a0_2, .int .i64 a0_3]] rfl MT ?_; (with_reducible refine (spec_BlockOk.calls k a0_2 a0_3 true _ A4.out).mono ?_); rintro e w28 ⟨rfl, hb⟩; refine ⟨_, rfl, ?_⟩; replace BK101 := am (BB BK101 hb); replace HB := am (below_step (K1 HB GE101.out) hb); (try clear hb); obtain ⟨hcz29_0, hcz29_1, hcz29_2, hcz29_3, hcz29_4, hcz29_5, hcz29_6, hcz29_7, hfz29_0⟩ := y8 w28 BK101.out) | (go_at_call 147; (with_reducible refine (spec_BlockOk.calls k a0_4 a0_5 false _ A6.out).mono ?_); rintro e w30 ⟨rfl, hb⟩; replace BK101 := am (BB BK101 hb); replace HB := am (below_step (K1 HB GE101.out) hb); (try clear hb)))
    go_meet
    case rel => exact ⟨_, (true), (by first | rfl | (simp; done) | (simp [*]; done)), H', ⟨by first | omega | exact Nat.le_refl _⟩, ⟨KB BK101⟩, ⟨K1 HB GE101.out⟩⟩
  ·replace c5 := Bool.eq_false_iff.mpr c5
   subst c5
   have H1 : (spec_l4Ok.j0 k true a0_0 a0_1 a0_2 a0_3 a0_4 a0_5 a0_6 a0_7) = some r := by rw [if_neg (show ¬ (false = true) by decide)] at H; exact H
   clear H
   have H := H1
   clear H1
   have H' := Aside0.mk H
   clear H
   obtain ⟨hcz31_0, hcz31_1, hcz31_2, hcz31_3, hcz31_4, hcz31_5, hcz31_6, hcz31_7, hfz31_0⟩ := y8 w3 BK101.out
   go_wp2_with (first | ((with_reducible refine gate_callee (f := 147) rfl ?_); refine goesL_ (some 5) rfl rfl Try.func147 (by kernel_rfl) rfl #[.agg #[.int .i64 a0_2, .int .i64 a0_3]] rfl MT ?_; (with_reducible refine (spec_BlockOk.calls k a0_2 a0_3 false _ A4.out).mono ?_); rintro e w32 ⟨rfl, hb⟩; refine ⟨_, rfl, ?_⟩; replace BK101 := am (BB BK101 hb); replace HB := am (below_step (K1 HB GE101.out) hb); (try clear hb)))
   go_meet
   case rel => exact ⟨_, (true), (by first | rfl | (simp; done) | (simp [*]; done)), H', ⟨by first | omega | exact Nat.le_refl _⟩, ⟨KB BK101⟩, ⟨K1 HB GE101.out⟩⟩
 case rest =>
  clear HC2
  try clear c1
  try clear p2
  try clear c5
  try clear c7
  try clear c9
  try clear c10
  try clear c10b0
  try clear c12
  try clear c14
  try clear hcz11_0 hcz11_1 hcz11_2 hcz11_3 hcz11_4 hcz11_5 hcz11_6 hcz11_7 hfz11_0
  try clear hcz13_0 hcz13_1 hcz13_2 hcz13_3 hcz13_4 hcz13_5 hcz13_6 hcz13_7 hfz13_0
  try clear hcz15_0 hcz15_1 hcz15_2 hcz15_3 hcz15_4 hcz15_5 hcz15_6 hcz15_7 hfz15_0
  try clear hcz17_0 hcz17_1 hcz17_2 hcz17_3 hcz17_4 hcz17_5 hcz17_6 hcz17_7 hfz17_0
  try clear hcz19_0 hcz19_1 hcz19_2 hcz19_3 hcz19_4 hcz19_5 hcz19_6 hcz19_7 hfz19_0
  try clear hcz21_0 hcz21_1 hcz21_2 hcz21_3 hcz21_4 hcz21_5 hcz21_6 hcz21_7 hfz21_0
  try clear hcz22_0 hcz22_1 hcz22_2 hcz22_3 hcz22_4 hcz22_5 hcz22_6 hcz22_7 hfz22_0
  try clear hcz24_0 hcz24_1 hcz24_2 hcz24_3 hcz24_4 hcz24_5 hcz24_6 hcz24_7 hfz24_0
  try clear hcz26_0 hcz26_1 hcz26_2 hcz26_3 hcz26_4 hcz26_5 hcz26_6 hcz26_7 hfz26_0
  try clear hcz27_0 hcz27_1 hcz27_2 hcz27_3 hcz27_4 hcz27_5 hcz27_6 hcz27_7 hfz27_0
  try clear hcz29_0 hcz29_1 hcz29_2 hcz29_3 hcz29_4 hcz29_5 hcz29_6 hcz29_7 hfz29_0
  try clear hcz31_0 hcz31_1 hcz31_2 hcz31_3 hcz31_4 hcz31_5 hcz31_6 hcz31_7 hfz31_0
  obtain ⟨kq, x31_1, rfl, HA, HJ1, BK101, HB⟩ := hcut
  cases kq with
  | zero => exact absurd HA.out (by simp [spec_l4Ok.j0])
  | succ kj1 =>
   have H := HA.out
   clear HA
   simp only [spec_l4Ok.j0] at H
   by_cases c33 : x31_1 = true
   ·subst c33
    have H1 : (some false) = some r := by rw [if_pos rfl] at H; exact H
    clear H
    have H := H1
    clear H1
    obtain rfl := Option.some.inj H
    go_wp2
    go_ret
    exact ⟨ER, K1 HB GE101.out⟩
   ·replace c33 := Bool.eq_false_iff.mpr c33
    subst c33
    have H1 : (if a0_0 = 2 then ((spec_l1In.f a0_1 0 3).bind fun t106 => (some t106)) else (some (a0_1 == 0))) = some r := by rw [if_neg (show ¬ (false = true) by decide)] at H; exact H
    clear H
    have H := H1
    clear H1
    by_cases c34 : a0_0 = 2
    ·rw [if_pos c34] at H
     have c34b0 : (a0_0 == 2) = true := beq_iff_eq.mpr c34
     have c34b1 : (a0_0 != 2) = false := bne_eq_false_iff_eq.mpr c34
     clear c34
     replace H := Option.bind_eq_some_iff.mp H
     obtain ⟨t106, A350, H⟩ := H
     replace H : (some t106) = some r := H
     have A35 := Aside0.mk A350
     clear A350
     obtain rfl := Option.some.inj H
     obtain ⟨hcz36_0, hcz36_1, hcz36_2, hcz36_3, hcz36_4, hcz36_5, hcz36_6, hcz36_7, hfz36_0⟩ := y8 wc BK101.out
     go_wp2_with (first | ((with_reducible refine gate_callee (f := 59) rfl ?_); refine goesL_ (some 37) rfl rfl Try.func59 (by kernel_rfl) rfl #[.int .i64 a0_1, .int .i64 0, .int .i64 3] rfl MT ?_; (with_reducible refine (spec_l1In.calls a0_1 0 3 t106 _ A35.out).mono ?_); rintro e w' ⟨rfl, ⟨nd, rfl⟩⟩; refine ⟨_, rfl, ?_⟩))
     go_ret
     exact ⟨ER, K1 HB GE101.out⟩
    ·rw [if_neg c34] at H
     have c34b0 : (a0_0 == 2) = false := beq_eq_false_iff_ne.mpr c34
     have c34b1 : (a0_0 != 2) = true := bne_iff_ne.mpr c34
     obtain rfl := Option.some.inj H
     obtain ⟨hcz37_0, hcz37_1, hcz37_2, hcz37_3, hcz37_4, hcz37_5, hcz37_6, hcz37_7, hfz37_0⟩ := y8 wc BK101.out
     go_wp2
     go_ret
     exact ⟨ER, K1 HB GE101.out⟩
def spec_RulesOk.l0 : Nat → List (S141) → Int → Option (Bool)
 | 0, _, _ => none
 | k + 1, x0, x3 => if x3 < (x0.length : Int) then (if 0 ≤ x3 then ((spec_l4Ok.f k ((rd_T141 x0 x3).f0) ((rd_T141 x0 x3).f1) ((rd_T141 x0 x3).f2.f0) ((rd_T141 x0 x3).f2.f1) ((rd_T141 x0 x3).f3.f0) ((rd_T141 x0 x3).f3.f1) ((rd_T141 x0 x3).f4) ((rd_T141 x0 x3).f5)).bind fun t102 => (if t102 = true then (spec_RulesOk.l0 k x0 (wrap64 (x3 + 1))) else (some false))) else (none)) else (some (decide ((x0.length : Int) ≤ 8)))
def spec_RulesOk.f (k : Nat) (l0 : List (S141)) : Option (Bool) := spec_RulesOk.l0 k l0 0
set_option maxHeartbeats 8000000 in
set_option maxRecDepth 100000 in
theorem spec_RulesOk.calls (k : Nat) (A0 : Option Addr) (c0 : Nat) (l0 : List (S141)) (r : Bool) (w : World) (hr0 : Kd.C k141 w A0 l0.length l0) (hc0 : l0.length ≤ c0) (h : spec_RulesOk.f k l0 = some r) :
  Calls Try.prog 100 #[.slice A0 l0.length c0] w fun e w' => e = .returned (.bool r) ∧ Below w.heap.size w w' := by
 have hu141 := Try.underlying141
 have HR0 := Aside0.mk hr0
 have HC0 := Aside0.mk hc0
 clear hr0 hc0
 have HB := am (Below.refl w.heap.size w)
 have H : (spec_RulesOk.l0 k l0 0) = some r := h
 clear h
 have H' := Aside0.mk H
 clear H
 go_enter Try.func100, Try.ntmps100
 go_wp2
 go_loopg [3] k (fun kq v3 w' => ∃ (x3_1 : Int), v3 = .int .i64 x3_1 ∧ Aside0 (spec_RulesOk.l0 kq l0 x3_1 = some r) ∧ Aside0 (kq ≤ k) ∧ Aside0 (Below w.heap.size w w'))
 case atStart => exact ⟨(0), (by first | rfl | (simp; done) | (simp [*]; done)), H', ⟨Nat.le_refl _⟩, ⟨KL HB⟩⟩
 case round =>
  clear H'
  try clear c1
  obtain ⟨x3_1, rfl, HA, HK1, HB⟩ := hrel
  cases gk with
  | zero => exact absurd HA.out (by simp [spec_RulesOk.l0])
  | succ k1 =>
   have H := HA.out
   clear HA
   simp only [spec_RulesOk.l0] at H
   by_cases c2 : x3_1 < (l0.length : Int)
   ·rw [if_pos c2] at H
    have c2b0 : decide (x3_1 < (l0.length : Int)) = true := decide_eq_true c2
    clear c2
    by_cases c3 : 0 ≤ x3_1
    ·rw [if_pos c3] at H
     have c3b0 : decide (0 ≤ x3_1) = true := decide_eq_true c3
     clear c3
     replace H := Option.bind_eq_some_iff.mp H
     obtain ⟨t102, A40, H⟩ := H
     replace H : (if t102 = true then (spec_RulesOk.l0 k1 l0 (wrap64 (x3_1 + 1))) else (some false)) = some r := H
     have A4 := Aside0.mk A40
     clear A40
     by_cases c5 : t102 = true
     ·subst c5
      have H1 : (spec_RulesOk.l0 k1 l0 (wrap64 (x3_1 + 1))) = some r := by rw [if_pos rfl] at H; exact H
      clear H
      have H := H1
      clear H1
      have H' := Aside0.mk H
      clear H
      have p101 : 0 ≤ (x3_1 : Int) := OD
      have q101 : x3_1 < (l0.length : Int) := OD
      obtain ⟨ad101, e101, hx101_0, hx101_1, hx101_2, hx101_3, hx101_4, hx101_5, hx101_6, hx101_7⟩ := at_T141 HR0.out x3_1 p101 q101
      cases e101
      replace hx101_0 := CX HB.out hx101_0
      replace hx101_1 := CX HB.out hx101_1
      replace hx101_2 := CX HB.out hx101_2
      replace hx101_3 := CX HB.out hx101_3
      replace hx101_4 := CX HB.out hx101_4
      replace hx101_5 := CX HB.out hx101_5
      replace hx101_6 := CX HB.out hx101_6
      replace hx101_7 := CX HB.out hx101_7
      replace p101 := eq_true p101
      replace q101 := eq_true q101
      go_wp2_with (first | ((with_reducible refine gate_callee (f := 129) rfl ?_); refine goesL_ (some 14) rfl rfl Try.func129 (by kernel_rfl) rfl #[.agg #[.int .i64 ((rd_T141 l0 x3_1).f0), .int .i64 ((rd_T141 l0 x3_1).f1), .int .i64 ((rd_T141 l0 x3_1).f2.f0), .int .i64 ((rd_T141 l0 x3_1).f2.f1), .int .i64 ((rd_T141 l0 x3_1).f3.f0), .int .i64 ((rd_T141 l0 x3_1).f3.f1), .int .i64 ((rd_T141 l0 x3_1).f4), .int .i64 ((rd_T141 l0 x3_1).f5)]] rfl MT ?_; (with_reducible refine (spec_l4Ok.calls k1 ((rd_T141 l0 x3_1).f0) ((rd_T141 l0 x3_1).f1) ((rd_T141 l0 x3_1).f2.f0) ((rd_T141 l0 x3_1).f2.f1) ((rd_T141 l0 x3_1).f3.f0) ((rd_T141 l0 x3_1).f3.f1) ((rd_T141 l0 x3_1).f4) ((rd_T141 l0 x3_1).f5) true _ A4.out).mono ?_); rintro e w6 ⟨rfl, hb⟩; refine ⟨_, rfl, ?_⟩; replace HB := am (below_step (KL HB) hb); (try clear hb)))
      go_roundg k1
      case measure => have := HK1.out; omega
      case rel => exact ⟨(wrap64 (x3_1 + 1)), (by first | rfl | (simp; done) | (simp [*]; done)), H', ⟨by have := HK1.out; omega⟩, ⟨KL HB⟩⟩
     ·replace c5 := Bool.eq_false_iff.mpr c5
      subst c5
      have H1 : (some false) = some r := by rw [if_neg (show ¬ (false = true) by decide)] at H; exact H
      clear H
      have H := H1
      clear H1
      obtain rfl := Option.some.inj H
      have p101 : 0 ≤ (x3_1 : Int) := OD
      have q101 : x3_1 < (l0.length : Int) := OD
      obtain ⟨ad101, e101, hx101_0, hx101_1, hx101_2, hx101_3, hx101_4, hx101_5, hx101_6, hx101_7⟩ := at_T141 HR0.out x3_1 p101 q101
      cases e101
      replace hx101_0 := CX HB.out hx101_0
      replace hx101_1 := CX HB.out hx101_1
      replace hx101_2 := CX HB.out hx101_2
      replace hx101_3 := CX HB.out hx101_3
      replace hx101_4 := CX HB.out hx101_4
      replace hx101_5 := CX HB.out hx101_5
      replace hx101_6 := CX HB.out hx101_6
      replace hx101_7 := CX HB.out hx101_7
      replace p101 := eq_true p101
      replace q101 := eq_true q101
      go_wp2_with (first | ((with_reducible refine gate_callee (f := 129) rfl ?_); refine goesL_ (some 14) rfl rfl Try.func129 (by kernel_rfl) rfl #[.agg #[.int .i64 ((rd_T141 l0 x3_1).f0), .int .i64 ((rd_T141 l0 x3_1).f1), .int .i64 ((rd_T141 l0 x3_1).f2.f0), .int .i64 ((rd_T141 l0 x3_1).f2.f1), .int .i64 ((rd_T141 l0 x3_1).f3.f0), .int .i64 ((rd_T141 l0 x3_1).f3.f1), .int .i64 ((rd_T141 l0 x3_1).f4), .int .i64 ((rd_T141 l0 x3_1).f5)]] rfl MT ?_; (with_reducible refine (spec_l4Ok.calls k1 ((rd_T141 l0 x3_1).f0) ((rd_T141 l0 x3_1).f1) ((rd_T141 l0 x3_1).f2.f0) ((rd_T141 l0 x3_1).f2.f1) ((rd_T141 l0 x3_1).f3.f0) ((rd_T141 l0 x3_1).f3.f1) ((rd_T141 l0 x3_1).f4) ((rd_T141 l0 x3_1).f5) false _ A4.out).mono ?_); rintro e w7 ⟨rfl, hb⟩; refine ⟨_, rfl, ?_⟩; replace HB := am (below_step (KL HB) hb); (try clear hb)))
      go_ret
      exact ⟨ER, KL HB⟩
    ·rw [if_neg c3] at H
     exact absurd H (by simp)
   ·rw [if_neg c2] at H
    have c2b0 : decide (x3_1 < (l0.length : Int)) = false := decide_eq_false c2
    clear c2
    obtain rfl := Option.some.inj H
    go_wp2
    go_ret
    exact ⟨ER, KL HB⟩
def spec_l4Call.f (a0_0 : Int) (a0_1 : Int) (a0_2 : Int) : Option (Bool) := (spec_l1Addr.f a0_0).bind fun t102 => (if t102 = true then ((spec_l1Addr.f a0_1).bind fun t103 => (if t103 = true then ((spec_l1In.f a0_2 0 65535).bind fun t104 => (some t104)) else (some false))) else (some false))
set_option maxHeartbeats 8000000 in
set_option maxRecDepth 100000 in
theorem spec_l4Call.calls (a0_0 : Int) (a0_1 : Int) (a0_2 : Int) (r : Bool) (w : World) (h : spec_l4Call.f a0_0 a0_1 a0_2 = some r) :
  Calls Try.prog 101 #[.agg #[.int .i64 a0_0, .int .i64 a0_1, .int .i64 a0_2]] w fun e w' => e = .returned (.bool r) ∧ Below w.heap.size w w' := by
 have hu107 := Try.underlying107
 have HB := am (Below.refl w.heap.size w)
 have H : ((spec_l1Addr.f a0_0).bind fun t102 => (if t102 = true then ((spec_l1Addr.f a0_1).bind fun t103 => (if t103 = true then ((spec_l1In.f a0_2 0 65535).bind fun t104 => (some t104)) else (some false))) else (some false))) = some r := h
 clear h
 replace H := Option.bind_eq_some_iff.mp H
 obtain ⟨t102, A20, H⟩ := H
 replace H : (if t102 = true then ((spec_l1Addr.f a0_1).bind fun t103 => (if t103 = true then ((spec_l1In.f a0_2 0 65535).bind fun t104 => (some t104)) else (some false))) else (some false)) = some r := H
 have A2 := Aside0.mk A20
 clear A20
 by_cases c3 : t102 = true
 ·subst c3
  have H1 : ((spec_l1Addr.f a0_1).bind fun t103 => (if t103 = true then ((spec_l1In.f a0_2 0 65535).bind fun t104 => (some t104)) else (some false))) = some r := by rw [if_pos rfl] at H; exact H
  clear H
  have H := H1
  clear H1
  replace H := Option.bind_eq_some_iff.mp H
  obtain ⟨t103, A40, H⟩ := H
  replace H : (if t103 = true then ((spec_l1In.f a0_2 0 65535).bind fun t104 => (some t104)) else (some false)) = some r := H
  have A4 := Aside0.mk A40
  clear A40
  by_cases c5 : t103 = true
  ·subst c5
   have H1 : ((spec_l1In.f a0_2 0 65535).bind fun t104 => (some t104)) = some r := by rw [if_pos rfl] at H; exact H
   clear H
   have H := H1
   clear H1
   replace H := Option.bind_eq_some_iff.mp H
   obtain ⟨t104, A60, H⟩ := H
   replace H : (some t104) = some r := H
   have A6 := Aside0.mk A60
   clear A60
   obtain rfl := Option.some.inj H
   go_enter Try.func101, Try.ntmps101
   go_wp2_with (first | ((with_reducible refine gate_dst (N := 1) rfl ?_); refine box_event rfl (N := 1) rfl (cs := #[.int .i64 a0_0, .int .i64 a0_1, .int .i64 a0_2]) (t := 107) BX ?_; intro gb101 hg w7 hbox hb; have BK101 := am (hbox); have GW101 := am (GH HB hg); have GE101 := GW101; replace HB := am (below_step (KL HB) hb); clear hb hbox hg; obtain ⟨hcz8_0, hcz8_1, hcz8_2, hfz8_0⟩ := y3 w7 BK101.out) | ((with_reducible refine gate_callee (f := 130) rfl ?_); refine goesL_ (some 5) rfl rfl Try.func130 (by kernel_rfl) rfl #[.int .i64 a0_0] rfl MT ?_; (with_reducible refine (spec_l1Addr.calls a0_0 true _ A2.out).mono ?_); rintro e w' ⟨rfl, ⟨nd, rfl⟩⟩; refine ⟨_, rfl, ?_⟩) | (go_at_call 130; (with_reducible refine (spec_l1Addr.calls a0_1 true _ A4.out).mono ?_); rintro e w' ⟨rfl, ⟨nd, rfl⟩⟩) | (go_at_call 59; (with_reducible refine (spec_l1In.calls a0_2 0 65535 t104 _ A6.out).mono ?_); rintro e w' ⟨rfl, ⟨nd, rfl⟩⟩))
   go_ret
   exact ⟨ER, K1 HB GE101.out⟩
  ·replace c5 := Bool.eq_false_iff.mpr c5
   subst c5
   have H1 : (some false) = some r := by rw [if_neg (show ¬ (false = true) by decide)] at H; exact H
   clear H
   have H := H1
   clear H1
   obtain rfl := Option.some.inj H
   go_enter Try.func101, Try.ntmps101
   go_wp2_with (first | ((with_reducible refine gate_dst (N := 1) rfl ?_); refine box_event rfl (N := 1) rfl (cs := #[.int .i64 a0_0, .int .i64 a0_1, .int .i64 a0_2]) (t := 107) BX ?_; intro gb101 hg w9 hbox hb; have BK101 := am (hbox); have GW101 := am (GH HB hg); have GE101 := GW101; replace HB := am (below_step (KL HB) hb); clear hb hbox hg; obtain ⟨hcz10_0, hcz10_1, hcz10_2, hfz10_0⟩ := y3 w9 BK101.out) | ((with_reducible refine gate_callee (f := 130) rfl ?_); refine goesL_ (some 5) rfl rfl Try.func130 (by kernel_rfl) rfl #[.int .i64 a0_0] rfl MT ?_; (with_reducible refine (spec_l1Addr.calls a0_0 true _ A2.out).mono ?_); rintro e w' ⟨rfl, ⟨nd, rfl⟩⟩; refine ⟨_, rfl, ?_⟩) | (go_at_call 130; (with_reducible refine (spec_l1Addr.calls a0_1 false _ A4.out).mono ?_); rintro e w' ⟨rfl, ⟨nd, rfl⟩⟩))
   go_ret
   exact ⟨ER, K1 HB GE101.out⟩
 ·replace c3 := Bool.eq_false_iff.mpr c3
  subst c3
  have H1 : (some false) = some r := by rw [if_neg (show ¬ (false = true) by decide)] at H; exact H
  clear H
  have H := H1
  clear H1
  obtain rfl := Option.some.inj H
  go_enter Try.func101, Try.ntmps101
  go_wp2_with (first | ((with_reducible refine gate_dst (N := 1) rfl ?_); refine box_event rfl (N := 1) rfl (cs := #[.int .i64 a0_0, .int .i64 a0_1, .int .i64 a0_2]) (t := 107) BX ?_; intro gb101 hg w11 hbox hb; have BK101 := am (hbox); have GW101 := am (GH HB hg); have GE101 := GW101; replace HB := am (below_step (KL HB) hb); clear hb hbox hg; obtain ⟨hcz12_0, hcz12_1, hcz12_2, hfz12_0⟩ := y3 w11 BK101.out) | ((with_reducible refine gate_callee (f := 130) rfl ?_); refine goesL_ (some 5) rfl rfl Try.func130 (by kernel_rfl) rfl #[.int .i64 a0_0] rfl MT ?_; (with_reducible refine (spec_l1Addr.calls a0_0 false _ A2.out).mono ?_); rintro e w' ⟨rfl, ⟨nd, rfl⟩⟩; refine ⟨_, rfl, ?_⟩))
  go_ret
  exact ⟨ER, K1 HB GE101.out⟩
def spec_l1Last.f (k : Nat) (a0_0 : Int) (a0_1 : Int) : Option (Int) := (spec_l1Size.f k a0_1).bind fun t102 => (some (wrap64 ((wrap64 (a0_0 + t102)) - 1)))
set_option maxHeartbeats 8000000 in
set_option maxRecDepth 100000 in
theorem spec_l1Last.calls (k : Nat) (a0_0 : Int) (a0_1 : Int) (r : Int) (w : World) (h : spec_l1Last.f k a0_0 a0_1 = some r) :
  Calls Try.prog 148 #[.agg #[.int .i64 a0_0, .int .i64 a0_1]] w fun e w' => e = .returned (.int .i64 r) ∧ Below w.heap.size w w' := by
 have hu139 := Try.underlying139
 have HB := am (Below.refl w.heap.size w)
 have H : ((spec_l1Size.f k a0_1).bind fun t102 => (some (wrap64 ((wrap64 (a0_0 + t102)) - 1)))) = some r := h
 clear h
 replace H := Option.bind_eq_some_iff.mp H
 obtain ⟨t102, A20, H⟩ := H
 replace H : (some (wrap64 ((wrap64 (a0_0 + t102)) - 1))) = some r := H
 have A2 := Aside0.mk A20
 clear A20
 obtain rfl := Option.some.inj H
 go_enter Try.func148, Try.ntmps148
 go_wp2_with (first | ((with_reducible refine gate_dst (N := 1) rfl ?_); refine box_event rfl (N := 1) rfl (cs := #[.int .i64 a0_0, .int .i64 a0_1]) (t := 139) BX ?_; intro gb101 hg w3 hbox hb; have BK101 := am (hbox); have GW101 := am (GH HB hg); have GE101 := GW101; replace HB := am (below_step (KL HB) hb); clear hb hbox hg; obtain ⟨hcz4_0, hcz4_1, hfz4_0⟩ := y2 w3 BK101.out) | (go_at_call 153; (with_reducible refine (spec_l1Size.calls k a0_1 t102 _ A2.out).mono ?_); rintro e w' ⟨rfl, ⟨nd, rfl⟩⟩; (try first | exact ⟨rfl, _, World.drewN_drewN _ _ _⟩ | exact ⟨rfl, _, Eq.trans (World.drewN_drewN _ _ _) (congrArg (World.drewN _) (Nat.add_assoc _ _ _))⟩)))
 repeat (go_quiet (first | ((with_reducible refine gate_dst (N := 1) rfl ?_); refine box_event rfl (N := 1) rfl (cs := #[.int .i64 a0_0, .int .i64 a0_1]) (t := 139) BX ?_; intro gb101 hg w3 hbox hb; have BK101 := am (hbox); have GW101 := am (GH HB hg); have GE101 := GW101; replace HB := am (below_step (KL HB) hb); clear hb hbox hg; obtain ⟨hcz4_0, hcz4_1, hfz4_0⟩ := y2 w3 BK101.out) | (go_at_call 153; (with_reducible refine (spec_l1Size.calls k a0_1 t102 _ A2.out).mono ?_); rintro e w' ⟨rfl, ⟨nd, rfl⟩⟩; (try first | exact ⟨rfl, _, World.drewN_drewN _ _ _⟩ | exact ⟨rfl, _, Eq.trans (World.drewN_drewN _ _ _) (congrArg (World.drewN _) (Nat.add_assoc _ _ _))⟩))); try go_wp2_with (first | ((with_reducible refine gate_dst (N := 1) rfl ?_); refine box_event rfl (N := 1) rfl (cs := #[.int .i64 a0_0, .int .i64 a0_1]) (t := 139) BX ?_; intro gb101 hg w3 hbox hb; have BK101 := am (hbox); have GW101 := am (GH HB hg); have GE101 := GW101; replace HB := am (below_step (KL HB) hb); clear hb hbox hg; obtain ⟨hcz4_0, hcz4_1, hfz4_0⟩ := y2 w3 BK101.out) | (go_at_call 153; (with_reducible refine (spec_l1Size.calls k a0_1 t102 _ A2.out).mono ?_); rintro e w' ⟨rfl, ⟨nd, rfl⟩⟩; (try first | exact ⟨rfl, _, World.drewN_drewN _ _ _⟩ | exact ⟨rfl, _, Eq.trans (World.drewN_drewN _ _ _) (congrArg (World.drewN _) (Nat.add_assoc _ _ _))⟩))))
 go_ret
 exact ⟨ER, K1 HB GE101.out⟩
def spec_l4About.f (k : Nat) (a0_0 : Int) (a0_1 : Int) (a0_2 : Int) (a0_3 : Int) (a0_4 : Int) (a0_5 : Int) (a0_6 : Int) (a0_7 : Int) (a1_0 : Int) (a1_1 : Int) (a1_2 : Int) : Option (Bool) := (spec_l1Last.f k a0_2 a0_3).bind fun t103 => ((spec_l1In.f a1_0 a0_2 t103).bind fun t104 => (if t104 = true then ((spec_l1Last.f k a0_4 a0_5).bind fun t105 => ((spec_l1In.f a1_1 a0_4 t105).bind fun t106 => (if t106 = true then ((spec_l1In.f a1_2 a0_6 a0_7).bind fun t107 => (some t107)) else (some false)))) else (some false)))
def spec_l4About.T1 : Bool × List (List Nat × List Nat) := (true, [([], []), ([0], [0]), ([], []), ([2], [2]), ([3], [3]), ([], []), ([5], [5]), ([6], [6]), ([1, 4, 7, 7], [1, 4, 7]), ([8, 8], [8]), ([9], [9]), ([10, 9], [9, 10]), ([9], [9]), ([12, 9], [9, 12]), ([13, 9], [9, 13]), ([9], [9]), ([15, 9], [9, 15]), ([16, 9, 9], [9, 16]), ([11, 14, 17, 17, 9], [9, 11, 14, 17]), ([9, 18], [9, 18]), ([19, 18], [19]), ([20], [20]), ([21, 20], [20, 21]), ([20], [20]), ([23, 20], [20, 23]), ([20], [20]), ([25, 20], [20, 25]), ([22, 24, 26, 20, 20], [20, 22, 24, 26]), ([20, 27], [20, 27]), ([28, 27, 0, 1, 2, 3, 4, 5, 6, 7, 8, 9, 10, 11, 12, 13, 14, 15, 16, 17, 18, 19, 20, 21, 22, 23, 24, 25, 26, 27, 28], [28])])
def spec_l4About.B1 : List Nat := [0, 1, 0, 4, 12, 0, 32, 96, 255, 511, 1023, 2047, 1023, 5119, 13311, 1023, 33791, 99327, 262143, 524287, 1048575, 2097151, 4194303, 2097151, 10485759, 2097151, 35651583, 134217727, 268435455, 536870911]
theorem spec_l4About.tab1 : rtab .any (opsOf Try.f131 1) = spec_l4About.T1 := by kernel_rfl
theorem spec_l4About.bits1 : waitsOk spec_l4About.T1.2 spec_l4About.B1 = true := by kernel_rfl
set_option maxHeartbeats 8000000 in
set_option maxRecDepth 100000 in
theorem spec_l4About.calls (k : Nat) (a0_0 : Int) (a0_1 : Int) (a0_2 : Int) (a0_3 : Int) (a0_4 : Int) (a0_5 : Int) (a0_6 : Int) (a0_7 : Int) (a1_0 : Int) (a1_1 : Int) (a1_2 : Int) (r : Bool) (w : World) (h : spec_l4About.f k a0_0 a0_1 a0_2 a0_3 a0_4 a0_5 a0_6 a0_7 a1_0 a1_1 a1_2 = some r) :
  Calls Try.prog 131 #[.agg #[.int .i64 a0_0, .int .i64 a0_1, .int .i64 a0_2, .int .i64 a0_3, .int .i64 a0_4, .int .i64 a0_5, .int .i64 a0_6, .int .i64 a0_7], .agg #[.int .i64 a1_0, .int .i64 a1_1, .int .i64 a1_2]] w fun e w' => e = .returned (.bool r) ∧ Below w.heap.size w w' := by
 have hu141 := Try.underlying141
 have hu107 := Try.underlying107
 have hu139 := Try.underlying139
 have HB := am (Below.refl w.heap.size w)
 have H : ((spec_l1Last.f k a0_2 a0_3).bind fun t103 => ((spec_l1In.f a1_0 a0_2 t103).bind fun t104 => (if t104 = true then ((spec_l1Last.f k a0_4 a0_5).bind fun t105 => ((spec_l1In.f a1_1 a0_4 t105).bind fun t106 => (if t106 = true then ((spec_l1In.f a1_2 a0_6 a0_7).bind fun t107 => (some t107)) else (some false)))) else (some false)))) = some r := h
 clear h
 replace H := Option.bind_eq_some_iff.mp H
 obtain ⟨t103, A30, H⟩ := H
 replace H : ((spec_l1In.f a1_0 a0_2 t103).bind fun t104 => (if t104 = true then ((spec_l1Last.f k a0_4 a0_5).bind fun t105 => ((spec_l1In.f a1_1 a0_4 t105).bind fun t106 => (if t106 = true then ((spec_l1In.f a1_2 a0_6 a0_7).bind fun t107 => (some t107)) else (some false)))) else (some false))) = some r := H
 have A3 := Aside0.mk A30
 clear A30
 replace H := Option.bind_eq_some_iff.mp H
 obtain ⟨t104, A40, H⟩ := H
 replace H : (if t104 = true then ((spec_l1Last.f k a0_4 a0_5).bind fun t105 => ((spec_l1In.f a1_1 a0_4 t105).bind fun t106 => (if t106 = true then ((spec_l1In.f a1_2 a0_6 a0_7).bind fun t107 => (some t107)) else (some false)))) else (some false)) = some r := H
 have A4 := Aside0.mk A40
 clear A40
 by_cases c5 : t104 = true
 ·subst c5
  have H1 : ((spec_l1Last.f k a0_4 a0_5).bind fun t105 => ((spec_l1In.f a1_1 a0_4 t105).bind fun t106 => (if t106 = true then ((spec_l1In.f a1_2 a0_6 a0_7).bind fun t107 => (some t107)) else (some false)))) = some r := by rw [if_pos rfl] at H; exact H
  clear H
  have H := H1
  clear H1
  replace H := Option.bind_eq_some_iff.mp H
  obtain ⟨t105, A60, H⟩ := H
  replace H : ((spec_l1In.f a1_1 a0_4 t105).bind fun t106 => (if t106 = true then ((spec_l1In.f a1_2 a0_6 a0_7).bind fun t107 => (some t107)) else (some false))) = some r := H
  have A6 := Aside0.mk A60
  clear A60
  replace H := Option.bind_eq_some_iff.mp H
  obtain ⟨t106, A70, H⟩ := H
  replace H : (if t106 = true then ((spec_l1In.f a1_2 a0_6 a0_7).bind fun t107 => (some t107)) else (some false)) = some r := H
  have A7 := Aside0.mk A70
  clear A70
  by_cases c8 : t106 = true
  ·subst c8
   have H1 : ((spec_l1In.f a1_2 a0_6 a0_7).bind fun t107 => (some t107)) = some r := by rw [if_pos rfl] at H; exact H
   clear H
   have H := H1
   clear H1
   replace H := Option.bind_eq_some_iff.mp H
   obtain ⟨t107, A90, H⟩ := H
   replace H : (some t107) = some r := H
   have A9 := Aside0.mk A90
   clear A90
   obtain rfl := Option.some.inj H
   go_enter Try.func131, Try.ntmps131
   try go_wp2_with (first | ((with_reducible refine gate_dst (N := 2) rfl ?_); refine box_event rfl (N := 2) rfl (cs := #[.int .i64 a0_0, .int .i64 a0_1, .int .i64 a0_2, .int .i64 a0_3, .int .i64 a0_4, .int .i64 a0_5, .int .i64 a0_6, .int .i64 a0_7]) (t := 141) BX ?_; intro gb101 hg w10 hbox hb; have BK101 := am (hbox); have GW101 := am (GH HB hg); have GE101 := GW101; replace HB := am (below_step (KL HB) hb); clear hb hbox hg) | ((with_reducible refine gate_dst (N := 3) rfl ?_); refine box_event rfl (N := 3) rfl (cs := #[.int .i64 a1_0, .int .i64 a1_1, .int .i64 a1_2]) (t := 107) BX ?_; intro gb102 hg w11 hbox hb; have BK102 := am (hbox); have GW102 := am (GH1 HB GE101.out hg); have GE102 := GW102; replace HB := am (below_step (K1 HB GE101.out) hb); have NB101_102 := am (NL BK101 hg); have NB102_101 := am (NG BK101 hg); replace BK101 := am (BB BK101 hb); clear hb hbox hg))
   replace BK101 := am (blk_drew BK101.out)
   replace BK102 := am (blk_drew BK102.out)
   replace HB := am (below_drew1 HB.out)
   refine start_ (n := 30) (S := fun w' => ce3 w' gb102 (.int .i64 a1_0) (.int .i64 a1_1) (.int .i64 a1_2) (de8 w' gb101 (.int .i64 a0_0) (.int .i64 a0_1) (.int .i64 a0_2) (.int .i64 a0_3) (.int .i64 a0_4) (.int .i64 a0_5) (.int .i64 a0_6) (.int .i64 a0_7))) (ds := []) (tf 0 30) (by kernel_rfl) rfl rfl ⟨z0 _ BK102.out, z1 _ BK102.out, z2 _ BK102.out, z0 _ BK101.out, z1 _ BK101.out, z2 _ BK101.out, z3 _ BK101.out, z4 _ BK101.out, z5 _ BK101.out, z6 _ BK101.out, z7 _ BK101.out⟩ (fun hHeld => ?_); refine with_tabW spec_l4About.tab1 spec_l4About.bits1 (fun HT_ HW_ => ?_)
   generalize w11.drew = w12 at BK101 BK102 HB hHeld ⊢
   refine pv HT_ 0 5 (tf 1 29) ?_
   refine pv HT_ 2 7 (tr [1, 1, 1, 27]) ?_
   refine pv HT_ 3 8 (tr [1, 1, 2, 26]) ?_
   refine pv HT_ 5 10 (tr [1, 1, 2, 1, 1, 24]) ?_
   refine tk 1 (some 6) (tr [4, 1, 1, 24]) (take_ofW HT_.out HW_.out (by kernel_rfl)) hHeld ?_
   refine tk 4 (some 9) (tf 6 24) (take_ofW HT_.out HW_.out (by kernel_rfl)) hHeld ?_
   refine tk 6 (some 11) (tf 7 23) (take_ofW HT_.out HW_.out (by kernel_rfl)) hHeld ?_
   refine one_ (i := 7) (N := some 12) (tf 8 22) rfl rfl (one_of HT_.out (by kernel_rfl)) (by decide) (fun K hK => ?_)
   refine goes_ Try.func148 (by kernel_rfl) rfl #[.agg #[.int .i64 a0_2, .int .i64 a0_3]] (by rfl) rfl rfl MT ?_
   with_reducible refine (spec_l1Last.calls k a0_2 a0_3 t103 _ A3.out).mono ?_
   rintro e w13 ⟨rfl, hb⟩
   refine ⟨_, rfl, ?_⟩
   replace BK101 := am (BB BK101 hb)
   replace BK102 := am (BB BK102 hb)
   replace HB := am (below_step (K2 HB GE101.out GE102.out) hb)
   (try clear hb)
   (try clear hb2)
   (try clear hk)
   (try clear hi)
   refine hK.out _ _ ⟨z0 _ BK102.out, z1 _ BK102.out, z2 _ BK102.out, z0 _ BK101.out, z1 _ BK101.out, z2 _ BK101.out, z3 _ BK101.out, z4 _ BK101.out, z5 _ BK101.out, z6 _ BK101.out, z7 _ BK101.out⟩ (fun hHeld => ?_)
   clear hK K
   refine norm_ (a' := ?_) ?_ ?_
   rotate_left
   ·show Act.put _ (some 12) _ = _
    simp only [Act.put, List.setIfInBounds_toArray, List.set_cons_zero, List.set_cons_succ, i64_w, i32_w]
    rfl
   refine one_ (i := 8) (N := some 13) (tf 9 21) rfl rfl (one_of HT_.out (by kernel_rfl)) (by decide) (fun K hK => ?_)
   refine goes_ Try.func59 (by kernel_rfl) rfl #[.int .i64 a1_0, .int .i64 a0_2, .int .i64 t103] (by rfl) rfl rfl MT ?_
   with_reducible refine (spec_l1In.calls a1_0 a0_2 t103 true _ A4.out).mono ?_
   rintro e w' ⟨rfl, ⟨nd, rfl⟩⟩
   refine ⟨_, rfl, ?_⟩
   refine hK.out _ _ ⟨z0 _ BK102.out, z1 _ BK102.out, z2 _ BK102.out, z0 _ BK101.out, z1 _ BK101.out, z2 _ BK101.out, z3 _ BK101.out, z4 _ BK101.out, z5 _ BK101.out, z6 _ BK101.out, z7 _ BK101.out⟩ (fun hHeld => ?_)
   clear hK K
   refine norm_ (a' := ?_) ?_ ?_
   rotate_left
   ·show Act.put _ (some 13) _ = _
    simp only [Act.put, List.setIfInBounds_toArray, List.set_cons_zero, List.set_cons_succ, i64_w, i32_w]
    rfl
   refine pv HT_ 9 14 (tf 10 20) ?_
   refine pv HT_ 10 15 (tf 11 19) ?_
   refine pv HT_ 12 17 (tr [11, 1, 1, 17]) ?_
   refine pv HT_ 13 18 (tr [11, 1, 2, 16]) ?_
   refine pv HT_ 15 20 (tr [11, 1, 2, 1, 1, 14]) ?_
   refine tk 11 (some 16) (tr [14, 1, 1, 14]) (take_ofW HT_.out HW_.out (by kernel_rfl)) hHeld ?_
   refine tk 14 (some 19) (tf 16 14) (take_ofW HT_.out HW_.out (by kernel_rfl)) hHeld ?_
   refine tk 16 (some 21) (tf 17 13) (take_ofW HT_.out HW_.out (by kernel_rfl)) hHeld ?_
   refine one_ (i := 17) (N := some 22) (tf 18 12) rfl rfl (one_of HT_.out (by kernel_rfl)) (by decide) (fun K hK => ?_)
   refine goes_ Try.func148 (by kernel_rfl) rfl #[.agg #[.int .i64 a0_4, .int .i64 a0_5]] (by rfl) rfl rfl MT ?_
   with_reducible refine (spec_l1Last.calls k a0_4 a0_5 t105 _ A6.out).mono ?_
   rintro e w14 ⟨rfl, hb⟩
   refine ⟨_, rfl, ?_⟩
   replace BK101 := am (BB BK101 hb)
   replace BK102 := am (BB BK102 hb)
   replace HB := am (below_step (K2 HB GE101.out GE102.out) hb)
   (try clear hb)
   (try clear hb2)
   (try clear hk)
   (try clear hi)
   refine hK.out _ _ ⟨z0 _ BK102.out, z1 _ BK102.out, z2 _ BK102.out, z0 _ BK101.out, z1 _ BK101.out, z2 _ BK101.out, z3 _ BK101.out, z4 _ BK101.out, z5 _ BK101.out, z6 _ BK101.out, z7 _ BK101.out⟩ (fun hHeld => ?_)
   clear hK K
   refine norm_ (a' := ?_) ?_ ?_
   rotate_left
   ·show Act.put _ (some 22) _ = _
    simp only [Act.put, List.setIfInBounds_toArray, List.set_cons_zero, List.set_cons_succ, i64_w, i32_w]
    rfl
   refine one_ (i := 18) (N := some 23) (tf 19 11) rfl rfl (one_of HT_.out (by kernel_rfl)) (by decide) (fun K hK => ?_)
   refine goes_ Try.func59 (by kernel_rfl) rfl #[.int .i64 a1_1, .int .i64 a0_4, .int .i64 t105] (by rfl) rfl rfl MT ?_
   with_reducible refine (spec_l1In.calls a1_1 a0_4 t105 true _ A7.out).mono ?_
   rintro e w' ⟨rfl, ⟨nd, rfl⟩⟩
   refine ⟨_, rfl, ?_⟩
   refine hK.out _ _ ⟨z0 _ BK102.out, z1 _ BK102.out, z2 _ BK102.out, z0 _ BK101.out, z1 _ BK101.out, z2 _ BK101.out, z3 _ BK101.out, z4 _ BK101.out, z5 _ BK101.out, z6 _ BK101.out, z7 _ BK101.out⟩ (fun hHeld => ?_)
   clear hK K
   refine norm_ (a' := ?_) ?_ ?_
   rotate_left
   ·show Act.put _ (some 23) _ = _
    simp only [Act.put, List.setIfInBounds_toArray, List.set_cons_zero, List.set_cons_succ, i64_w, i32_w]
    rfl
   refine pv HT_ 19 24 (tf 20 10) ?_
   refine pv HT_ 20 25 (tf 21 9) ?_
   refine pv HT_ 21 26 (tf 22 8) ?_
   refine pv HT_ 23 28 (tr [22, 1, 1, 6]) ?_
   refine pv HT_ 25 30 (tr [22, 1, 1, 1, 1, 4]) ?_
   refine tk 22 (some 27) (tr [24, 1, 1, 4]) (take_ofW HT_.out HW_.out (by kernel_rfl)) hHeld ?_
   refine tk 24 (some 29) (tf 26 4) (take_ofW HT_.out HW_.out (by kernel_rfl)) hHeld ?_
   refine tk 26 (some 31) (tf 27 3) (take_ofW HT_.out HW_.out (by kernel_rfl)) hHeld ?_
   refine one_ (i := 27) (N := some 32) (tf 28 2) rfl rfl (one_of HT_.out (by kernel_rfl)) (by decide) (fun K hK => ?_)
   refine goes_ Try.func59 (by kernel_rfl) rfl #[.int .i64 a1_2, .int .i64 a0_6, .int .i64 a0_7] (by rfl) rfl rfl MT ?_
   with_reducible refine (spec_l1In.calls a1_2 a0_6 a0_7 t107 _ A9.out).mono ?_
   rintro e w' ⟨rfl, ⟨nd, rfl⟩⟩
   refine ⟨_, rfl, ?_⟩
   refine hK.out _ _ ⟨z0 _ BK102.out, z1 _ BK102.out, z2 _ BK102.out, z0 _ BK101.out, z1 _ BK101.out, z2 _ BK101.out, z3 _ BK101.out, z4 _ BK101.out, z5 _ BK101.out, z6 _ BK101.out, z7 _ BK101.out⟩ (fun hHeld => ?_)
   clear hK K
   refine norm_ (a' := ?_) ?_ ?_
   rotate_left
   ·show Act.put _ (some 32) _ = _
    simp only [Act.put, List.setIfInBounds_toArray, List.set_cons_zero, List.set_cons_succ, i64_w, i32_w]
    rfl
   refine pv HT_ 28 33 (tf 29 1) ?_
   refine pv HT_ 29 4 (tf 30 0) ?_
   refine done_ (done_of HT_.out (by kernel_rfl)) ?_
   try go_wp2
   go_ret
   exact ⟨ER, K2 HB GE101.out GE102.out⟩
  ·replace c8 := Bool.eq_false_iff.mpr c8
   subst c8
   have H1 : (some false) = some r := by rw [if_neg (show ¬ (false = true) by decide)] at H; exact H
   clear H
   have H := H1
   clear H1
   obtain rfl := Option.some.inj H
   go_enter Try.func131, Try.ntmps131
   try go_wp2_with (first | ((with_reducible refine gate_dst (N := 2) rfl ?_); refine box_event rfl (N := 2) rfl (cs := #[.int .i64 a0_0, .int .i64 a0_1, .int .i64 a0_2, .int .i64 a0_3, .int .i64 a0_4, .int .i64 a0_5, .int .i64 a0_6, .int .i64 a0_7]) (t := 141) BX ?_; intro gb101 hg w15 hbox hb; have BK101 := am (hbox); have GW101 := am (GH HB hg); have GE101 := GW101; replace HB := am (below_step (KL HB) hb); clear hb hbox hg) | ((with_reducible refine gate_dst (N := 3) rfl ?_); refine box_event rfl (N := 3) rfl (cs := #[.int .i64 a1_0, .int .i64 a1_1, .int .i64 a1_2]) (t := 107) BX ?_; intro gb102 hg w16 hbox hb; have BK102 := am (hbox); have GW102 := am (GH1 HB GE101.out hg); have GE102 := GW102; replace HB := am (below_step (K1 HB GE101.out) hb); have NB101_102 := am (NL BK101 hg); have NB102_101 := am (NG BK101 hg); replace BK101 := am (BB BK101 hb); clear hb hbox hg))
   replace BK101 := am (blk_drew BK101.out)
   replace BK102 := am (blk_drew BK102.out)
   replace HB := am (below_drew1 HB.out)
   refine start_ (n := 30) (S := fun w' => ce3 w' gb102 (.int .i64 a1_0) (.int .i64 a1_1) (.int .i64 a1_2) (de8 w' gb101 (.int .i64 a0_0) (.int .i64 a0_1) (.int .i64 a0_2) (.int .i64 a0_3) (.int .i64 a0_4) (.int .i64 a0_5) (.int .i64 a0_6) (.int .i64 a0_7))) (ds := []) (tf 0 30) (by kernel_rfl) rfl rfl ⟨z0 _ BK102.out, z1 _ BK102.out, z2 _ BK102.out, z0 _ BK101.out, z1 _ BK101.out, z2 _ BK101.out, z3 _ BK101.out, z4 _ BK101.out, z5 _ BK101.out, z6 _ BK101.out, z7 _ BK101.out⟩ (fun hHeld => ?_); refine with_tabW spec_l4About.tab1 spec_l4About.bits1 (fun HT_ HW_ => ?_)
   generalize w16.drew = w17 at BK101 BK102 HB hHeld ⊢
   refine pv HT_ 0 5 (tf 1 29) ?_
   refine pv HT_ 2 7 (tr [1, 1, 1, 27]) ?_
   refine pv HT_ 3 8 (tr [1, 1, 2, 26]) ?_
   refine pv HT_ 5 10 (tr [1, 1, 2, 1, 1, 24]) ?_
   refine tk 1 (some 6) (tr [4, 1, 1, 24]) (take_ofW HT_.out HW_.out (by kernel_rfl)) hHeld ?_
   refine tk 4 (some 9) (tf 6 24) (take_ofW HT_.out HW_.out (by kernel_rfl)) hHeld ?_
   refine tk 6 (some 11) (tf 7 23) (take_ofW HT_.out HW_.out (by kernel_rfl)) hHeld ?_
   refine one_ (i := 7) (N := some 12) (tf 8 22) rfl rfl (one_of HT_.out (by kernel_rfl)) (by decide) (fun K hK => ?_)
   refine goes_ Try.func148 (by kernel_rfl) rfl #[.agg #[.int .i64 a0_2, .int .i64 a0_3]] (by rfl) rfl rfl MT ?_
   with_reducible refine (spec_l1Last.calls k a0_2 a0_3 t103 _ A3.out).mono ?_
   rintro e w18 ⟨rfl, hb⟩
   refine ⟨_, rfl, ?_⟩
   replace BK101 := am (BB BK101 hb)
   replace BK102 := am (BB BK102 hb)
   replace HB := am (below_step (K2 HB GE101.out GE102.out) hb)
   (try clear hb)
   (try clear hb2)
   (try clear hk)
   (try clear hi)
   refine hK.out _ _ ⟨z0 _ BK102.out, z1 _ BK102.out, z2 _ BK102.out, z0 _ BK101.out, z1 _ BK101.out, z2 _ BK101.out, z3 _ BK101.out, z4 _ BK101.out, z5 _ BK101.out, z6 _ BK101.out, z7 _ BK101.out⟩ (fun hHeld => ?_)
   clear hK K
   refine norm_ (a' := ?_) ?_ ?_
   rotate_left
   ·show Act.put _ (some 12) _ = _
    simp only [Act.put, List.setIfInBounds_toArray, List.set_cons_zero, List.set_cons_succ, i64_w, i32_w]
    rfl
   refine one_ (i := 8) (N := some 13) (tf 9 21) rfl rfl (one_of HT_.out (by kernel_rfl)) (by decide) (fun K hK => ?_)
   refine goes_ Try.func59 (by kernel_rfl) rfl #[.int .i64 a1_0, .int .i64 a0_2, .int .i64 t103] (by rfl) rfl rfl MT ?_
   with_reducible refine (spec_l1In.calls a1_0 a0_2 t103 true _ A4.out).mono ?_
   rintro e w' ⟨rfl, ⟨nd, rfl⟩⟩
   refine ⟨_, rfl, ?_⟩
   refine hK.out _ _ ⟨z0 _ BK102.out, z1 _ BK102.out, z2 _ BK102.out, z0 _ BK101.out, z1 _ BK101.out, z2 _ BK101.out, z3 _ BK101.out, z4 _ BK101.out, z5 _ BK101.out, z6 _ BK101.out, z7 _ BK101.out⟩ (fun hHeld => ?_)
   clear hK K
   refine norm_ (a' := ?_) ?_ ?_
   rotate_left
   ·show Act.put _ (some 13) _ = _
    simp only [Act.put, List.setIfInBounds_toArray, List.set_cons_zero, List.set_cons_succ, i64_w, i32_w]
    rfl
   refine pv HT_ 9 14 (tf 10 20) ?_
   refine pv HT_ 10 15 (tf 11 19) ?_
   refine pv HT_ 12 17 (tr [11, 1, 1, 17]) ?_
   refine pv HT_ 13 18 (tr [11, 1, 2, 16]) ?_
   refine pv HT_ 15 20 (tr [11, 1, 2, 1, 1, 14]) ?_
   refine tk 11 (some 16) (tr [14, 1, 1, 14]) (take_ofW HT_.out HW_.out (by kernel_rfl)) hHeld ?_
   refine tk 14 (some 19) (tf 16 14) (take_ofW HT_.out HW_.out (by kernel_rfl)) hHeld ?_
   refine tk 16 (some 21) (tf 17 13) (take_ofW HT_.out HW_.out (by kernel_rfl)) hHeld ?_
   refine one_ (i := 17) (N := some 22) (tf 18 12) rfl rfl (one_of HT_.out (by kernel_rfl)) (by decide) (fun K hK => ?_)
   refine goes_ Try.func148 (by kernel_rfl) rfl #[.agg #[.int .i64 a0_4, .int .i64 a0_5]] (by rfl) rfl rfl MT ?_
   with_reducible refine (spec_l1Last.calls k a0_4 a0_5 t105 _ A6.out).mono ?_
   rintro e w19 ⟨rfl, hb⟩
   refine ⟨_, rfl, ?_⟩
   replace BK101 := am (BB BK101 hb)
   replace BK102 := am (BB BK102 hb)
   replace HB := am (below_step (K2 HB GE101.out GE102.out) hb)
   (try clear hb)
   (try clear hb2)
   (try clear hk)
   (try clear hi)
   refine hK.out _ _ ⟨z0 _ BK102.out, z1 _ BK102.out, z2 _ BK102.out, z0 _ BK101.out, z1 _ BK101.out, z2 _ BK101.out, z3 _ BK101.out, z4 _ BK101.out, z5 _ BK101.out, z6 _ BK101.out, z7 _ BK101.out⟩ (fun hHeld => ?_)
   clear hK K
   refine norm_ (a' := ?_) ?_ ?_
   rotate_left
   ·show Act.put _ (some 22) _ = _
    simp only [Act.put, List.setIfInBounds_toArray, List.set_cons_zero, List.set_cons_succ, i64_w, i32_w]
    rfl
   refine one_ (i := 18) (N := some 23) (tf 19 11) rfl rfl (one_of HT_.out (by kernel_rfl)) (by decide) (fun K hK => ?_)
   refine goes_ Try.func59 (by kernel_rfl) rfl #[.int .i64 a1_1, .int .i64 a0_4, .int .i64 t105] (by rfl) rfl rfl MT ?_
   with_reducible refine (spec_l1In.calls a1_1 a0_4 t105 false _ A7.out).mono ?_
   rintro e w' ⟨rfl, ⟨nd, rfl⟩⟩
   refine ⟨_, rfl, ?_⟩
   refine hK.out _ _ ⟨z0 _ BK102.out, z1 _ BK102.out, z2 _ BK102.out, z0 _ BK101.out, z1 _ BK101.out, z2 _ BK101.out, z3 _ BK101.out, z4 _ BK101.out, z5 _ BK101.out, z6 _ BK101.out, z7 _ BK101.out⟩ (fun hHeld => ?_)
   clear hK K
   refine norm_ (a' := ?_) ?_ ?_
   rotate_left
   ·show Act.put _ (some 23) _ = _
    simp only [Act.put, List.setIfInBounds_toArray, List.set_cons_zero, List.set_cons_succ, i64_w, i32_w]
    rfl
   refine pv HT_ 19 24 (tf 20 10) ?_
   refine pv HT_ 20 25 (tf 21 9) ?_
   refine pw HT_ 21 26 (tf 22 8) ?_
   refine pw HT_ 22 27 (tf 23 7) ?_
   refine pw HT_ 23 28 (tf 24 6) ?_
   refine pw HT_ 24 29 (tf 25 5) ?_
   refine pw HT_ 25 30 (tf 26 4) ?_
   refine pw HT_ 26 31 (tf 27 3) ?_
   refine pw HT_ 27 32 (tf 28 2) ?_
   refine pv HT_ 28 33 (tf 29 1) ?_
   refine pv HT_ 29 4 (tf 30 0) ?_
   refine done_ (done_of HT_.out (by kernel_rfl)) ?_
   try go_wp2
   go_ret
   exact ⟨ER, K2 HB GE101.out GE102.out⟩
 ·replace c5 := Bool.eq_false_iff.mpr c5
  subst c5
  have H1 : (some false) = some r := by rw [if_neg (show ¬ (false = true) by decide)] at H; exact H
  clear H
  have H := H1
  clear H1
  obtain rfl := Option.some.inj H
  go_enter Try.func131, Try.ntmps131
  try go_wp2_with (first | ((with_reducible refine gate_dst (N := 2) rfl ?_); refine box_event rfl (N := 2) rfl (cs := #[.int .i64 a0_0, .int .i64 a0_1, .int .i64 a0_2, .int .i64 a0_3, .int .i64 a0_4, .int .i64 a0_5, .int .i64 a0_6, .int .i64 a0_7]) (t := 141) BX ?_; intro gb101 hg w20 hbox hb; have BK101 := am (hbox); have GW101 := am (GH HB hg); have GE101 := GW101; replace HB := am (below_step (KL HB) hb); clear hb hbox hg) | ((with_reducible refine gate_dst (N := 3) rfl ?_); refine box_event rfl (N := 3) rfl (cs := #[.int .i64 a1_0, .int .i64 a1_1, .int .i64 a1_2]) (t := 107) BX ?_; intro gb102 hg w21 hbox hb; have BK102 := am (hbox); have GW102 := am (GH1 HB GE101.out hg); have GE102 := GW102; replace HB := am (below_step (K1 HB GE101.out) hb); have NB101_102 := am (NL BK101 hg); have NB102_101 := am (NG BK101 hg); replace BK101 := am (BB BK101 hb); clear hb hbox hg))
  replace BK101 := am (blk_drew BK101.out)
  replace BK102 := am (blk_drew BK102.out)
  replace HB := am (below_drew1 HB.out)
  refine start_ (n := 30) (S := fun w' => ce3 w' gb102 (.int .i64 a1_0) (.int .i64 a1_1) (.int .i64 a1_2) (de8 w' gb101 (.int .i64 a0_0) (.int .i64 a0_1) (.int .i64 a0_2) (.int .i64 a0_3) (.int .i64 a0_4) (.int .i64 a0_5) (.int .i64 a0_6) (.int .i64 a0_7))) (ds := []) (tf 0 30) (by kernel_rfl) rfl rfl ⟨z0 _ BK102.out, z1 _ BK102.out, z2 _ BK102.out, z0 _ BK101.out, z1 _ BK101.out, z2 _ BK101.out, z3 _ BK101.out, z4 _ BK101.out, z5 _ BK101.out, z6 _ BK101.out, z7 _ BK101.out⟩ (fun hHeld => ?_); refine with_tabW spec_l4About.tab1 spec_l4About.bits1 (fun HT_ HW_ => ?_)
  generalize w21.drew = w22 at BK101 BK102 HB hHeld ⊢
  refine pv HT_ 0 5 (tf 1 29) ?_
  refine pv HT_ 2 7 (tr [1, 1, 1, 27]) ?_
  refine pv HT_ 3 8 (tr [1, 1, 2, 26]) ?_
  refine pv HT_ 5 10 (tr [1, 1, 2, 1, 1, 24]) ?_
  refine tk 1 (some 6) (tr [4, 1, 1, 24]) (take_ofW HT_.out HW_.out (by kernel_rfl)) hHeld ?_
  refine tk 4 (some 9) (tf 6 24) (take_ofW HT_.out HW_.out (by kernel_rfl)) hHeld ?_
  refine tk 6 (some 11) (tf 7 23) (take_ofW HT_.out HW_.out (by kernel_rfl)) hHeld ?_
  refine one_ (i := 7) (N := some 12) (tf 8 22) rfl rfl (one_of HT_.out (by kernel_rfl)) (by decide) (fun K hK => ?_)
  refine goes_ Try.func148 (by kernel_rfl) rfl #[.agg #[.int .i64 a0_2, .int .i64 a0_3]] (by rfl) rfl rfl MT ?_
  with_reducible refine (spec_l1Last.calls k a0_2 a0_3 t103 _ A3.out).mono ?_
  rintro e w23 ⟨rfl, hb⟩
  refine ⟨_, rfl, ?_⟩
  replace BK101 := am (BB BK101 hb)
  replace BK102 := am (BB BK102 hb)
  replace HB := am (below_step (K2 HB GE101.out GE102.out) hb)
  (try clear hb)
  (try clear hb2)
  (try clear hk)
  (try clear hi)
  refine hK.out _ _ ⟨z0 _ BK102.out, z1 _ BK102.out, z2 _ BK102.out, z0 _ BK101.out, z1 _ BK101.out, z2 _ BK101.out, z3 _ BK101.out, z4 _ BK101.out, z5 _ BK101.out, z6 _ BK101.out, z7 _ BK101.out⟩ (fun hHeld => ?_)
  clear hK K
  refine norm_ (a' := ?_) ?_ ?_
  rotate_left
  ·show Act.put _ (some 12) _ = _
   simp only [Act.put, List.setIfInBounds_toArray, List.set_cons_zero, List.set_cons_succ, i64_w, i32_w]
   rfl
  refine one_ (i := 8) (N := some 13) (tf 9 21) rfl rfl (one_of HT_.out (by kernel_rfl)) (by decide) (fun K hK => ?_)
  refine goes_ Try.func59 (by kernel_rfl) rfl #[.int .i64 a1_0, .int .i64 a0_2, .int .i64 t103] (by rfl) rfl rfl MT ?_
  with_reducible refine (spec_l1In.calls a1_0 a0_2 t103 false _ A4.out).mono ?_
  rintro e w' ⟨rfl, ⟨nd, rfl⟩⟩
  refine ⟨_, rfl, ?_⟩
  refine hK.out _ _ ⟨z0 _ BK102.out, z1 _ BK102.out, z2 _ BK102.out, z0 _ BK101.out, z1 _ BK101.out, z2 _ BK101.out, z3 _ BK101.out, z4 _ BK101.out, z5 _ BK101.out, z6 _ BK101.out, z7 _ BK101.out⟩ (fun hHeld => ?_)
  clear hK K
  refine norm_ (a' := ?_) ?_ ?_
  rotate_left
  ·show Act.put _ (some 13) _ = _
   simp only [Act.put, List.setIfInBounds_toArray, List.set_cons_zero, List.set_cons_succ, i64_w, i32_w]
   rfl
  refine pv HT_ 9 14 (tf 10 20) ?_
  refine pw HT_ 10 15 (tf 11 19) ?_
  refine pw HT_ 11 16 (tf 12 18) ?_
  refine pw HT_ 12 17 (tf 13 17) ?_
  refine pw HT_ 13 18 (tf 14 16) ?_
  refine pw HT_ 14 19 (tf 15 15) ?_
  refine pw HT_ 15 20 (tf 16 14) ?_
  refine pw HT_ 16 21 (tf 17 13) ?_
  refine pw HT_ 17 22 (tf 18 12) ?_
  refine pw HT_ 18 23 (tf 19 11) ?_
  refine pv HT_ 19 24 (tf 20 10) ?_
  refine pv HT_ 20 25 (tf 21 9) ?_
  refine pw HT_ 21 26 (tf 22 8) ?_
  refine pw HT_ 22 27 (tf 23 7) ?_
  refine pw HT_ 23 28 (tf 24 6) ?_
  refine pw HT_ 24 29 (tf 25 5) ?_
  refine pw HT_ 25 30 (tf 26 4) ?_
  refine pw HT_ 26 31 (tf 27 3) ?_
  refine pw HT_ 27 32 (tf 28 2) ?_
  refine pv HT_ 28 33 (tf 29 1) ?_
  refine pv HT_ 29 4 (tf 30 0) ?_
  refine done_ (done_of HT_.out (by kernel_rfl)) ?_
  try go_wp2
  go_ret
  exact ⟨ER, K2 HB GE101.out GE102.out⟩
def spec_l4First.l0 : Nat → List (S141) → Int → Int → Int → Int → Option (Int)
 | 0, _, _, _, _, _ => none
 | k + 1, x0, x5, x102000, x102001, x102002 => if x5 < (x0.length : Int) then (if 0 ≤ x5 then ((spec_l4About.f k ((rd_T141 x0 x5).f0) ((rd_T141 x0 x5).f1) ((rd_T141 x0 x5).f2.f0) ((rd_T141 x0 x5).f2.f1) ((rd_T141 x0 x5).f3.f0) ((rd_T141 x0 x5).f3.f1) ((rd_T141 x0 x5).f4) ((rd_T141 x0 x5).f5) x102000 x102001 x102002).bind fun t103 => (if t103 = true then (some x5) else (spec_l4First.l0 k x0 (wrap64 (x5 + 1)) x102000 x102001 x102002))) else (none)) else (some (-1))
def spec_l4First.f (k : Nat) (l0 : List (S141)) (a1_0 : Int) (a1_1 : Int) (a1_2 : Int) : Option (Int) := spec_l4First.l0 k l0 0 a1_0 a1_1 a1_2
set_option maxHeartbeats 8000000 in
set_option maxRecDepth 100000 in
theorem spec_l4First.calls (k : Nat) (A0 : Option Addr) (c0 : Nat) (l0 : List (S141)) (a1_0 : Int) (a1_1 : Int) (a1_2 : Int) (r : Int) (w : World) (hr0 : Kd.C k141 w A0 l0.length l0) (hc0 : l0.length ≤ c0) (h : spec_l4First.f k l0 a1_0 a1_1 a1_2 = some r) :
  Calls Try.prog 102 #[.slice A0 l0.length c0, .agg #[.int .i64 a1_0, .int .i64 a1_1, .int .i64 a1_2]] w fun e w' => e = .returned (.int .i64 r) ∧ Below w.heap.size w w' := by
 have hu107 := Try.underlying107
 have hu141 := Try.underlying141
 have HR0 := Aside0.mk hr0
 have HC0 := Aside0.mk hc0
 clear hr0 hc0
 have HB := am (Below.refl w.heap.size w)
 have H : (spec_l4First.l0 k l0 0 a1_0 a1_1 a1_2) = some r := h
 clear h
 have H' := Aside0.mk H
 clear H
 go_enter Try.func102, Try.ntmps102
 go_wp2_with (first | ((with_reducible refine gate_dst (N := 3) rfl ?_); refine box_event rfl (N := 3) rfl (cs := #[.int .i64 a1_0, .int .i64 a1_1, .int .i64 a1_2]) (t := 107) BX ?_; intro gb101 hg w3 hbox hb; have BK101 := am (hbox); have GW101 := am (GH HB hg); have GE101 := GW101; replace HB := am (below_step (KL HB) hb); clear hb hbox hg))
 go_loopg [5] k (fun kq v5 w' => ∃ (x5_1 : Int), v5 = .int .i64 x5_1 ∧ Aside0 (spec_l4First.l0 kq l0 x5_1 a1_0 a1_1 a1_2 = some r) ∧ Aside0 (kq ≤ k) ∧ Aside0 (w'.heap[gb101]? = some (.cells #[.int .i64 a1_0, .int .i64 a1_1, .int .i64 a1_2] 107 (0, 0))) ∧ Aside0 (Below w.heap.size w w'))
 case atStart => exact ⟨(0), (by first | rfl | (simp; done) | (simp [*]; done)), H', ⟨Nat.le_refl _⟩, ⟨KB BK101⟩, ⟨K1 HB GE101.out⟩⟩
 case round =>
  clear H'
  try clear c1
  try clear p2
  obtain ⟨x5_1, rfl, HA, HK1, BK101, HB⟩ := hrel
  cases gk with
  | zero => exact absurd HA.out (by simp [spec_l4First.l0])
  | succ k1 =>
   have H := HA.out
   clear HA
   simp only [spec_l4First.l0] at H
   by_cases c4 : x5_1 < (l0.length : Int)
   ·rw [if_pos c4] at H
    have c4b0 : decide (x5_1 < (l0.length : Int)) = true := decide_eq_true c4
    clear c4
    by_cases c5 : 0 ≤ x5_1
    ·rw [if_pos c5] at H
     have c5b0 : decide (0 ≤ x5_1) = true := decide_eq_true c5
     clear c5
     replace H := Option.bind_eq_some_iff.mp H
     obtain ⟨t103, A60, H⟩ := H
     replace H : (if t103 = true then (some x5_1) else (spec_l4First.l0 k1 l0 (wrap64 (x5_1 + 1)) a1_0 a1_1 a1_2)) = some r := H
     have A6 := Aside0.mk A60
     clear A60
     by_cases c7 : t103 = true
     ·subst c7
      have H1 : (some x5_1) = some r := by rw [if_pos rfl] at H; exact H
      clear H
      have H := H1
      clear H1
      obtain rfl := Option.some.inj H
      try go_wp2
      replace BK101 := am (blk_drew BK101.out)
      replace HB := am (below_drew1 HB.out)
      have p102 : 0 ≤ (x5_1 : Int) := OD
      have q102 : x5_1 < (l0.length : Int) := OD
      obtain ⟨ad102, e102, hx102_0, hx102_1, hx102_2, hx102_3, hx102_4, hx102_5, hx102_6, hx102_7⟩ := at_T141 HR0.out x5_1 p102 q102
      have hw102_7 := hx102_7
      have hw102_6 := hx102_6
      have hw102_5 := hx102_5
      have hw102_4 := hx102_4
      have hw102_3 := hx102_3
      have hw102_2 := hx102_2
      have hw102_1 := hx102_1
      have hw102_0 := hx102_0
      cases e102
      replace hx102_0 := CX HB.out hx102_0
      replace hx102_1 := CX HB.out hx102_1
      replace hx102_2 := CX HB.out hx102_2
      replace hx102_3 := CX HB.out hx102_3
      replace hx102_4 := CX HB.out hx102_4
      replace hx102_5 := CX HB.out hx102_5
      replace hx102_6 := CX HB.out hx102_6
      replace hx102_7 := CX HB.out hx102_7
      replace p102 := eq_true p102
      replace q102 := eq_true q102
      refine start_ (n := 6) (S := fun w' => ce3 w' gb101 (.int .i64 a1_0) (.int .i64 a1_1) (.int .i64 a1_2) (w'.cell? (ad102.add ((x5_1).toNat * 8)) = some (.int .i64 ((rd_T141 l0 x5_1).f0)) ∧ w'.cell? ⟨(ad102.add ((x5_1).toNat * 8)).block, (ad102.add ((x5_1).toNat * 8)).off + 1, none⟩ = some (.int .i64 ((rd_T141 l0 x5_1).f1)) ∧ w'.cell? ⟨(ad102.add ((x5_1).toNat * 8)).block, (ad102.add ((x5_1).toNat * 8)).off + 2, none⟩ = some (.int .i64 ((rd_T141 l0 x5_1).f2.f0)) ∧ w'.cell? ⟨(ad102.add ((x5_1).toNat * 8)).block, (ad102.add ((x5_1).toNat * 8)).off + 3, none⟩ = some (.int .i64 ((rd_T141 l0 x5_1).f2.f1)) ∧ w'.cell? ⟨(ad102.add ((x5_1).toNat * 8)).block, (ad102.add ((x5_1).toNat * 8)).off + 4, none⟩ = some (.int .i64 ((rd_T141 l0 x5_1).f3.f0)) ∧ w'.cell? ⟨(ad102.add ((x5_1).toNat * 8)).block, (ad102.add ((x5_1).toNat * 8)).off + 5, none⟩ = some (.int .i64 ((rd_T141 l0 x5_1).f3.f1)) ∧ w'.cell? ⟨(ad102.add ((x5_1).toNat * 8)).block, (ad102.add ((x5_1).toNat * 8)).off + 6, none⟩ = some (.int .i64 ((rd_T141 l0 x5_1).f4)) ∧ w'.cell? ⟨(ad102.add ((x5_1).toNat * 8)).block, (ad102.add ((x5_1).toNat * 8)).off + 7, none⟩ = some (.int .i64 ((rd_T141 l0 x5_1).f5)))) (ds := []) (tf 0 6) (by kernel_rfl) rfl rfl ⟨z0 _ BK101.out, z1 _ BK101.out, z2 _ BK101.out, (CY HB.out hw102_0), (CY HB.out hw102_1), (CY HB.out hw102_2), (CY HB.out hw102_3), (CY HB.out hw102_4), (CY HB.out hw102_5), (CY HB.out hw102_6), (CY HB.out hw102_7)⟩ (fun hHeld => ?_)
      generalize wr.drew = w8 at BK101 HB hx102_0 hx102_1 hx102_2 hx102_3 hx102_4 hx102_5 hx102_6 hx102_7 hHeld ⊢
      refine pure_ (i := 0) (N := some 12) (v := ?_) (a' := ?_) (tf 1 5) rfl rfl (by kernel_rfl) (fun _ _ _ h => h) (Or.inl ⟨by rfl, ?_⟩) ?_ ?_; rotate_left; (· intro w'; go_simp; with_reducible rfl); rotate_left; (· simp only [Act.put, List.setIfInBounds_toArray, List.set_cons_zero, List.set_cons_succ, i64_w, i32_w]; rfl)
      refine pure_ (i := 1) (N := some 13) (v := ?_) (a' := ?_) (tf 2 4) rfl rfl (by kernel_rfl) (fun _ _ _ h => h) (Or.inl ⟨by rfl, ?_⟩) ?_ ?_; rotate_left; (· intro w'; go_simp; with_reducible rfl); rotate_left; (· simp only [Act.put, List.setIfInBounds_toArray, List.set_cons_zero, List.set_cons_succ, i64_w, i32_w]; rfl)
      refine pure_ (i := 2) (N := some 14) (v := ?_) (a' := ?_) (tf 3 3) rfl rfl (by kernel_rfl) (fun _ _ _ h => h) (Or.inl ⟨by rfl, ?_⟩) ?_ ?_; rotate_left; (· intro w'; go_simp; with_reducible rfl); rotate_left; (· simp only [Act.put, List.setIfInBounds_toArray, List.set_cons_zero, List.set_cons_succ, i64_w, i32_w]; rfl)
      refine take_ (i := 3) (N := some 15) (v := ?_) (a' := ?_) (tf 4 2) rfl rfl (by kernel_rfl) (fun _ _ _ h => h) (Or.inl ⟨by rfl, ?_⟩) hHeld ?_ ?_
      rotate_left
      ·rintro w' ⟨s0, s1, s2, s3, s4, s5, s6, s7, s8, s9, s10⟩
       go_simp
       with_reducible rfl
      rotate_left
      ·simp only [Act.put, List.setIfInBounds_toArray, List.set_cons_zero, List.set_cons_succ, i64_w, i32_w]
       rfl
      refine take_ (i := 4) (N := some 16) (v := ?_) (a' := ?_) (tf 5 1) rfl rfl (by kernel_rfl) (fun _ _ _ h => h) (Or.inl ⟨by rfl, ?_⟩) hHeld ?_ ?_
      rotate_left
      ·rintro w' ⟨s0, s1, s2, s3, s4, s5, s6, s7, s8, s9, s10⟩
       go_simp
       with_reducible rfl
      rotate_left
      ·simp only [Act.put, List.setIfInBounds_toArray, List.set_cons_zero, List.set_cons_succ, i64_w, i32_w]
       rfl
      refine one_ (i := 5) (N := some 17) (tf 6 0) rfl rfl (by kernel_rfl) (by decide) (fun K hK => ?_)
      refine goes_ Try.func131 (by kernel_rfl) rfl #[.agg #[.int .i64 ((rd_T141 l0 x5_1).f0), .int .i64 ((rd_T141 l0 x5_1).f1), .int .i64 ((rd_T141 l0 x5_1).f2.f0), .int .i64 ((rd_T141 l0 x5_1).f2.f1), .int .i64 ((rd_T141 l0 x5_1).f3.f0), .int .i64 ((rd_T141 l0 x5_1).f3.f1), .int .i64 ((rd_T141 l0 x5_1).f4), .int .i64 ((rd_T141 l0 x5_1).f5)], .agg #[.int .i64 a1_0, .int .i64 a1_1, .int .i64 a1_2]] (by rfl) rfl rfl MT ?_
      with_reducible refine (spec_l4About.calls k1 ((rd_T141 l0 x5_1).f0) ((rd_T141 l0 x5_1).f1) ((rd_T141 l0 x5_1).f2.f0) ((rd_T141 l0 x5_1).f2.f1) ((rd_T141 l0 x5_1).f3.f0) ((rd_T141 l0 x5_1).f3.f1) ((rd_T141 l0 x5_1).f4) ((rd_T141 l0 x5_1).f5) a1_0 a1_1 a1_2 true _ A6.out).mono ?_
      rintro e w9 ⟨rfl, hb⟩
      refine ⟨_, rfl, ?_⟩
      replace BK101 := am (BB BK101 hb)
      replace HB := am (below_step (K1 HB GE101.out) hb)
      (try clear hb)
      (try clear hb2)
      (try clear hk)
      (try clear hi)
      refine hK.out _ _ ⟨z0 _ BK101.out, z1 _ BK101.out, z2 _ BK101.out, (CY HB.out hw102_0), (CY HB.out hw102_1), (CY HB.out hw102_2), (CY HB.out hw102_3), (CY HB.out hw102_4), (CY HB.out hw102_5), (CY HB.out hw102_6), (CY HB.out hw102_7)⟩ (fun hHeld => ?_)
      clear hK K
      refine norm_ (a' := ?_) ?_ ?_
      rotate_left
      ·show Act.put _ (some 17) _ = _
       simp only [Act.put, List.setIfInBounds_toArray, List.set_cons_zero, List.set_cons_succ, i64_w, i32_w]
       rfl
      refine done_ (by kernel_rfl) ?_
      try go_wp2
      go_ret
      exact ⟨ER, K1 HB GE101.out⟩
     ·replace c7 := Bool.eq_false_iff.mpr c7
      subst c7
      have H1 : (spec_l4First.l0 k1 l0 (wrap64 (x5_1 + 1)) a1_0 a1_1 a1_2) = some r := by rw [if_neg (show ¬ (false = true) by decide)] at H; exact H
      clear H
      have H := H1
      clear H1
      have H' := Aside0.mk H
      clear H
      try go_wp2
      replace BK101 := am (blk_drew BK101.out)
      replace HB := am (below_drew1 HB.out)
      have p102 : 0 ≤ (x5_1 : Int) := OD
      have q102 : x5_1 < (l0.length : Int) := OD
      obtain ⟨ad102, e102, hx102_0, hx102_1, hx102_2, hx102_3, hx102_4, hx102_5, hx102_6, hx102_7⟩ := at_T141 HR0.out x5_1 p102 q102
      have hw102_7 := hx102_7
      have hw102_6 := hx102_6
      have hw102_5 := hx102_5
      have hw102_4 := hx102_4
      have hw102_3 := hx102_3
      have hw102_2 := hx102_2
      have hw102_1 := hx102_1
      have hw102_0 := hx102_0
      cases e102
      replace hx102_0 := CX HB.out hx102_0
      replace hx102_1 := CX HB.out hx102_1
      replace hx102_2 := CX HB.out hx102_2
      replace hx102_3 := CX HB.out hx102_3
      replace hx102_4 := CX HB.out hx102_4
      replace hx102_5 := CX HB.out hx102_5
      replace hx102_6 := CX HB.out hx102_6
      replace hx102_7 := CX HB.out hx102_7
      replace p102 := eq_true p102
      replace q102 := eq_true q102
      refine start_ (n := 6) (S := fun w' => ce3 w' gb101 (.int .i64 a1_0) (.int .i64 a1_1) (.int .i64 a1_2) (w'.cell? (ad102.add ((x5_1).toNat * 8)) = some (.int .i64 ((rd_T141 l0 x5_1).f0)) ∧ w'.cell? ⟨(ad102.add ((x5_1).toNat * 8)).block, (ad102.add ((x5_1).toNat * 8)).off + 1, none⟩ = some (.int .i64 ((rd_T141 l0 x5_1).f1)) ∧ w'.cell? ⟨(ad102.add ((x5_1).toNat * 8)).block, (ad102.add ((x5_1).toNat * 8)).off + 2, none⟩ = some (.int .i64 ((rd_T141 l0 x5_1).f2.f0)) ∧ w'.cell? ⟨(ad102.add ((x5_1).toNat * 8)).block, (ad102.add ((x5_1).toNat * 8)).off + 3, none⟩ = some (.int .i64 ((rd_T141 l0 x5_1).f2.f1)) ∧ w'.cell? ⟨(ad102.add ((x5_1).toNat * 8)).block, (ad102.add ((x5_1).toNat * 8)).off + 4, none⟩ = some (.int .i64 ((rd_T141 l0 x5_1).f3.f0)) ∧ w'.cell? ⟨(ad102.add ((x5_1).toNat * 8)).block, (ad102.add ((x5_1).toNat * 8)).off + 5, none⟩ = some (.int .i64 ((rd_T141 l0 x5_1).f3.f1)) ∧ w'.cell? ⟨(ad102.add ((x5_1).toNat * 8)).block, (ad102.add ((x5_1).toNat * 8)).off + 6, none⟩ = some (.int .i64 ((rd_T141 l0 x5_1).f4)) ∧ w'.cell? ⟨(ad102.add ((x5_1).toNat * 8)).block, (ad102.add ((x5_1).toNat * 8)).off + 7, none⟩ = some (.int .i64 ((rd_T141 l0 x5_1).f5)))) (ds := []) (tf 0 6) (by kernel_rfl) rfl rfl ⟨z0 _ BK101.out, z1 _ BK101.out, z2 _ BK101.out, (CY HB.out hw102_0), (CY HB.out hw102_1), (CY HB.out hw102_2), (CY HB.out hw102_3), (CY HB.out hw102_4), (CY HB.out hw102_5), (CY HB.out hw102_6), (CY HB.out hw102_7)⟩ (fun hHeld => ?_)
      generalize wr.drew = w10 at BK101 HB hx102_0 hx102_1 hx102_2 hx102_3 hx102_4 hx102_5 hx102_6 hx102_7 hHeld ⊢
      refine pure_ (i := 0) (N := some 12) (v := ?_) (a' := ?_) (tf 1 5) rfl rfl (by kernel_rfl) (fun _ _ _ h => h) (Or.inl ⟨by rfl, ?_⟩) ?_ ?_; rotate_left; (· intro w'; go_simp; with_reducible rfl); rotate_left; (· simp only [Act.put, List.setIfInBounds_toArray, List.set_cons_zero, List.set_cons_succ, i64_w, i32_w]; rfl)
      refine pure_ (i := 1) (N := some 13) (v := ?_) (a' := ?_) (tf 2 4) rfl rfl (by kernel_rfl) (fun _ _ _ h => h) (Or.inl ⟨by rfl, ?_⟩) ?_ ?_; rotate_left; (· intro w'; go_simp; with_reducible rfl); rotate_left; (· simp only [Act.put, List.setIfInBounds_toArray, List.set_cons_zero, List.set_cons_succ, i64_w, i32_w]; rfl)
      refine pure_ (i := 2) (N := some 14) (v := ?_) (a' := ?_) (tf 3 3) rfl rfl (by kernel_rfl) (fun _ _ _ h => h) (Or.inl ⟨by rfl, ?_⟩) ?_ ?_; rotate_left; (· intro w'; go_simp; with_reducible rfl); rotate_left; (· simp only [Act.put, List.setIfInBounds_toArray, List.set_cons_zero, List.set_cons_succ, i64_w, i32_w]; rfl)
      refine take_ (i := 3) (N := some 15) (v := ?_) (a' := ?_) (tf 4 2) rfl rfl (by kernel_rfl) (fun _ _ _ h => h) (Or.inl ⟨by rfl, ?_⟩) hHeld ?_ ?_
      rotate_left
      ·rintro w' ⟨s0, s1, s2, s3, s4, s5, s6, s7, s8, s9, s10⟩
       go_simp
       with_reducible rfl
      rotate_left
      ·simp only [Act.put, List.setIfInBounds_toArray, List.set_cons_zero, List.set_cons_succ, i64_w, i32_w]
       rfl
      refine take_ (i := 4) (N := some 16) (v := ?_) (a' := ?_) (tf 5 1) rfl rfl (by kernel_rfl) (fun _ _ _ h => h) (Or.inl ⟨by rfl, ?_⟩) hHeld ?_ ?_
      rotate_left
      ·rintro w' ⟨s0, s1, s2, s3, s4, s5, s6, s7, s8, s9, s10⟩
       go_simp
       with_reducible rfl
      rotate_left
      ·simp only [Act.put, List.setIfInBounds_toArray, List.set_cons_zero, List.set_cons_succ, i64_w, i32_w]
       rfl
      refine one_ (i := 5) (N := some 17) (tf 6 0) rfl rfl (by kernel_rfl) (by decide) (fun K hK => ?_)
      refine goes_ Try.func131 (by kernel_rfl) rfl #[.agg #[.int .i64 ((rd_T141 l0 x5_1).f0), .int .i64 ((rd_T141 l0 x5_1).f1), .int .i64 ((rd_T141 l0 x5_1).f2.f0), .int .i64 ((rd_T141 l0 x5_1).f2.f1), .int .i64 ((rd_T141 l0 x5_1).f3.f0), .int .i64 ((rd_T141 l0 x5_1).f3.f1), .int .i64 ((rd_T141 l0 x5_1).f4), .int .i64 ((rd_T141 l0 x5_1).f5)], .agg #[.int .i64 a1_0, .int .i64 a1_1, .int .i64 a1_2]] (by rfl) rfl rfl MT ?_
      with_reducible refine (spec_l4About.calls k1 ((rd_T141 l0 x5_1).f0) ((rd_T141 l0 x5_1).f1) ((rd_T141 l0 x5_1).f2.f0) ((rd_T141 l0 x5_1).f2.f1) ((rd_T141 l0 x5_1).f3.f0) ((rd_T141 l0 x5_1).f3.f1) ((rd_T141 l0 x5_1).f4) ((rd_T141 l0 x5_1).f5) a1_0 a1_1 a1_2 false _ A6.out).mono ?_
      rintro e w11 ⟨rfl, hb⟩
      refine ⟨_, rfl, ?_⟩
      replace BK101 := am (BB BK101 hb)
      replace HB := am (below_step (K1 HB GE101.out) hb)
      (try clear hb)
      (try clear hb2)
      (try clear hk)
      (try clear hi)
      refine hK.out _ _ ⟨z0 _ BK101.out, z1 _ BK101.out, z2 _ BK101.out, (CY HB.out hw102_0), (CY HB.out hw102_1), (CY HB.out hw102_2), (CY HB.out hw102_3), (CY HB.out hw102_4), (CY HB.out hw102_5), (CY HB.out hw102_6), (CY HB.out hw102_7)⟩ (fun hHeld => ?_)
      clear hK K
      refine norm_ (a' := ?_) ?_ ?_
      rotate_left
      ·show Act.put _ (some 17) _ = _
       simp only [Act.put, List.setIfInBounds_toArray, List.set_cons_zero, List.set_cons_succ, i64_w, i32_w]
       rfl
      refine done_ (by kernel_rfl) ?_
      try go_wp2
      go_roundg k1
      case measure => have := HK1.out; omega
      case rel => exact ⟨(wrap64 (x5_1 + 1)), (by first | rfl | (simp; done) | (simp [*]; done)), H', ⟨by have := HK1.out; omega⟩, ⟨KB BK101⟩, ⟨K1 HB GE101.out⟩⟩
    ·rw [if_neg c5] at H
     exact absurd H (by simp)
   ·rw [if_neg c4] at H
    have c4b0 : decide (x5_1 < (l0.length : Int)) = false := decide_eq_false c4
    clear c4
    obtain rfl := Option.some.inj H
    go_wp2
    go_ret
    exact ⟨ER, K1 HB GE101.out⟩
end Go.Proofs.Ytlpmmmhfceeiaaa.PAll
end
section
namespace Go.Proofs.Ytlpmmmhfceeiaaa.PAll
open Go.RowKit Go.Proofs.YtlpmmmhfceeiaaaW.PrintWords Go.Proofs.YtlpmmmhfceeiaaaW.PrintLast Go.Proofs.YtlpmmmhfceeiaaaW.PrintMore
attribute [local go_sem] max2_int min2_int max_two min_two max_three min_three max_four min_four   -- for this text's walks alone
set_option linter.unusedVariables false
set_option linter.unusedSimpArgs false
attribute [local go_sem high] eqA107
mutual
def spec_CacheOk.j0 : Nat → List (S141) → Bool → Int → List (S136) → Option (Bool)
 | 0, _, _, _, _ => none
 | k + 1, x0, x23, x102000, x102001 => if x23 = true then (some false) else (spec_CacheOk.l0 k x0 0 x102000 x102001)
def spec_CacheOk.l0 : Nat → List (S141) → Int → Int → List (S136) → Option (Bool)
 | 0, _, _, _, _ => none
 | k + 1, x0, x5, x102000, x102001 => if x5 < (x102001.length : Int) then (if 0 ≤ x5 then ((spec_l4Call.f ((rd_T136 x102001 x5).f0.f0) ((rd_T136 x102001 x5).f0.f1) ((rd_T136 x102001 x5).f0.f2)).bind fun t105 => (if t105 = true then ((spec_l4First.f k x0 ((rd_T136 x102001 x5).f0.f0) ((rd_T136 x102001 x5).f0.f1) ((rd_T136 x102001 x5).f0.f2)).bind fun t108 => (spec_CacheOk.j2 k x0 x5 (((rd_T136 x102001 x5).f1) != t108) x102000 x102001)) else (spec_CacheOk.j2 k x0 x5 true x102000 x102001))) else (none)) else (some true)
def spec_CacheOk.j2 : Nat → List (S141) → Int → Bool → Int → List (S136) → Option (Bool)
 | 0, _, _, _, _, _ => none
 | k + 1, x0, x5, x55, x102000, x102001 => if x55 = true then (some false) else (spec_CacheOk.l1 k x0 x5 0 x102000 x102001)
def spec_CacheOk.l1 : Nat → List (S141) → Int → Int → Int → List (S136) → Option (Bool)
 | 0, _, _, _, _, _ => none
 | k + 1, x0, x5, x6, x102000, x102001 => if x6 < x5 then (if 0 ≤ x6 then (if x6 < (x102001.length : Int) then (if 0 ≤ x5 then (if x5 < (x102001.length : Int) then (if (((rd_T136 x102001 x6).f0.f0) == ((rd_T136 x102001 x5).f0.f0) && (((rd_T136 x102001 x6).f0.f1) == ((rd_T136 x102001 x5).f0.f1) && (((rd_T136 x102001 x6).f0.f2) == ((rd_T136 x102001 x5).f0.f2)))) = true then (some false) else (spec_CacheOk.l1 k x0 x5 (wrap64 (x6 + 1)) x102000 x102001)) else (none)) else (none)) else (none)) else (none)) else (spec_CacheOk.l0 k x0 (wrap64 (x5 + 1)) x102000 x102001)
end
def spec_CacheOk.f (k : Nat) (l0 : List (S141)) (a1_0 : Int) (l1_1 : List (S136)) : Option (Bool) := (spec_RulesOk.f k l0).bind fun t102 => (if t102 = true then ((spec_l1In.f a1_0 0 16).bind fun t103 => (if t103 = true then (spec_CacheOk.j0 k l0 (decide ((l1_1.length : Int) > a1_0)) a1_0 l1_1) else (spec_CacheOk.j0 k l0 true a1_0 l1_1))) else (spec_CacheOk.j0 k l0 true a1_0 l1_1))
def spec_CacheOk.T6 : Bool × List (List Nat × List Nat) := (true, [([], []), ([0], [0]), ([], []), ([1, 2], [1, 2]), ([3], [3]), ([4], [4]), ([5], [5]), ([6], [6]), ([7, 6], [7]), ([8], [8]), ([9, 8], [8, 9]), ([8], [8]), ([10, 11, 8], [8, 10, 11]), ([12, 8], [8, 12]), ([13, 8], [8, 13]), ([8], [8]), ([8], [8]), ([16, 8], [8, 16]), ([8], [8]), ([17, 18, 8], [8, 17, 18]), ([19, 8], [8, 19]), ([20, 8], [8, 20]), ([15, 21, 8, 8], [8, 15, 21]), ([14, 22, 8], [8, 14, 22]), ([8, 23], [8, 23])])
def spec_CacheOk.B6 : List Nat := [0, 1, 0, 7, 15, 31, 63, 127, 255, 511, 1023, 511, 4095, 8191, 16383, 511, 511, 66047, 511, 459263, 983551, 2032127, 4162047, 8388607, 16777215]
theorem spec_CacheOk.tab6 : rtab .any (opsOf Try.f60 6) = spec_CacheOk.T6 := by kernel_rfl
theorem spec_CacheOk.bits6 : waitsOk spec_CacheOk.T6.2 spec_CacheOk.B6 = true := by kernel_rfl
def spec_CacheOk.T11 : Bool × List (List Nat × List Nat) := (true, [([], []), ([0], [0]), ([], []), ([1, 2], [1, 2]), ([3], [3]), ([4], [4]), ([], []), ([6], [6]), ([], []), ([7, 8], [7, 8]), ([9], [9]), ([10], [10]), ([5, 11], [5, 11])])
def spec_CacheOk.B11 : List Nat := [0, 1, 0, 7, 15, 31, 0, 64, 0, 448, 960, 1984, 4095]
theorem spec_CacheOk.tab11 : rtab .any (opsOf Try.f60 11) = spec_CacheOk.T11 := by kernel_rfl
theorem spec_CacheOk.bits11 : waitsOk spec_CacheOk.T11.2 spec_CacheOk.B11 = true := by kernel_rfl
set_option maxHeartbeats 8000000 in
set_option maxRecDepth 100000 in
theorem spec_CacheOk.calls (k : Nat) (A0 : Option Addr) (c0 : Nat) (l0 : List (S141)) (a1_0 : Int) (A1_1 : Option Addr) (c1_1 : Nat) (l1_1 : List (S136)) (r : Bool) (w : World) (hr0 : Kd.C k141 w A0 l0.length l0) (hc0 : l0.length ≤ c0) (hr1_1 : Kd.C k136 w A1_1 l1_1.length l1_1) (hc1_1 : l1_1.length ≤ c1_1) (h : spec_CacheOk.f k l0 a1_0 l1_1 = some r) :
  Calls Try.prog 60 #[.slice A0 l0.length c0, .agg #[.int .i64 a1_0, .slice A1_1 l1_1.length c1_1]] w fun e w' => e = .returned (.bool r) ∧ Below w.heap.size w w' := by
 have hu54 := Try.underlying54
 have hu107 := Try.underlying107
 have HR0 := Aside0.mk hr0
 have HC0 := Aside0.mk hc0
 clear hr0 hc0
 have HR1_1 := Aside0.mk hr1_1
 have HC1_1 := Aside0.mk hc1_1
 clear hr1_1 hc1_1
 have HB := am (Below.refl w.heap.size w)
 have H : ((spec_RulesOk.f k l0).bind fun t102 => (if t102 = true then ((spec_l1In.f a1_0 0 16).bind fun t103 => (if t103 = true then (spec_CacheOk.j0 k l0 (decide ((l1_1.length : Int) > a1_0)) a1_0 l1_1) else (spec_CacheOk.j0 k l0 true a1_0 l1_1))) else (spec_CacheOk.j0 k l0 true a1_0 l1_1))) = some r := h
 clear h
 have HC3 := Aside0.mk H
 clear H
 go_enter Try.func60, Try.ntmps60
 go_upto_region 1 with (first | ((with_reducible refine gate_dst (N := 3) rfl ?_); (try (refine gate_guard (by rfl) ?_; dsimp only)); refine box_event rfl (N := 3) rfl (cs := #[.int .i64 a1_0, .slice A1_1 l1_1.length c1_1]) (t := 54) BX ?_; intro gb101 hg w4 hbox hb; have BK101 := am (hbox); have GW101 := am (GH HB hg); have GE101 := GW101; replace HB := am (below_step (KL HB) hb); clear hb hbox hg))
 (try simp only [Act.put, List.setIfInBounds_toArray, List.set_cons_zero, List.set_cons_succ])
 go_cut [23] (fun v23 wc => ∃ (kq : Nat) (x23_2 : Bool), v23 = .bool x23_2 ∧ Aside0 (spec_CacheOk.j0 kq l0 x23_2 a1_0 l1_1 = some r) ∧ Aside0 (kq ≤ k) ∧ Aside0 (wc.heap[gb101]? = some (.cells #[.int .i64 a1_0, (.slice A1_1 l1_1.length c1_1)] 54 (0, 0))) ∧ Aside0 (Below w.heap.size w wc))
 case first =>
  have H := HC3.out
  clear HC3
  replace H := Option.bind_eq_some_iff.mp H
  obtain ⟨t102, A50, H⟩ := H
  replace H : (if t102 = true then ((spec_l1In.f a1_0 0 16).bind fun t103 => (if t103 = true then (spec_CacheOk.j0 k l0 (decide ((l1_1.length : Int) > a1_0)) a1_0 l1_1) else (spec_CacheOk.j0 k l0 true a1_0 l1_1))) else (spec_CacheOk.j0 k l0 true a1_0 l1_1)) = some r := H
  have A5 := Aside0.mk A50
  clear A50
  by_cases c6 : t102 = true
  ·subst c6
   have H1 : ((spec_l1In.f a1_0 0 16).bind fun t103 => (if t103 = true then (spec_CacheOk.j0 k l0 (decide ((l1_1.length : Int) > a1_0)) a1_0 l1_1) else (spec_CacheOk.j0 k l0 true a1_0 l1_1))) = some r := by rw [if_pos rfl] at H; exact H
   clear H
   have H := H1
   clear H1
   replace H := Option.bind_eq_some_iff.mp H
   obtain ⟨t103, A70, H⟩ := H
   replace H : (if t103 = true then (spec_CacheOk.j0 k l0 (decide ((l1_1.length : Int) > a1_0)) a1_0 l1_1) else (spec_CacheOk.j0 k l0 true a1_0 l1_1)) = some r := H
   have A7 := Aside0.mk A70
   clear A70
   by_cases c8 : t103 = true
   ·subst c8
    have H1 : (spec_CacheOk.j0 k l0 (decide ((l1_1.length : Int) > a1_0)) a1_0 l1_1) = some r := by rw [if_pos rfl] at H; exact H
    clear H
    have H := H1
    clear H1
    have H' := Aside0.mk H
    clear H
    go_wp2_with (first | ((with_reducible refine gate_callee (f := 100) rfl ?_); refine goesL_ (some 8) rfl rfl Try.func100 (by kernel_rfl) rfl #[.slice A0 l0.length c0] rfl MT ?_; (with_reducible refine (spec_RulesOk.calls k _ _ l0 true _ ?side1 ?side2 A5.out).mono ?_); (case side1 => exact KD HR0 HB); (case side2 => exact HC0.out); rintro e w9 ⟨rfl, hb⟩; refine ⟨_, rfl, ?_⟩; replace BK101 := am (BB BK101 hb); replace HB := am (below_step (K1 HB GE101.out) hb); (try clear hb); obtain ⟨hcz10_0, hcz10_1, hfz10_0⟩ := y2 w9 BK101.out) | (go_at_call 59; (with_reducible refine (spec_l1In.calls a1_0 0 16 true _ A7.out).mono ?_); rintro e w' ⟨rfl, ⟨nd, rfl⟩⟩))
    go_meet
    case rel => exact ⟨_, (decide ((l1_1.length : Int) > a1_0)), (by first | rfl | (simp; done) | (simp [*]; done)), H', ⟨by first | omega | exact Nat.le_refl _⟩, ⟨KB BK101⟩, ⟨K1 HB GE101.out⟩⟩
   ·replace c8 := Bool.eq_false_iff.mpr c8
    subst c8
    have H1 : (spec_CacheOk.j0 k l0 true a1_0 l1_1) = some r := by rw [if_neg (show ¬ (false = true) by decide)] at H; exact H
    clear H
    have H := H1
    clear H1
    have H' := Aside0.mk H
    clear H
    go_wp2_with (first | ((with_reducible refine gate_callee (f := 100) rfl ?_); refine goesL_ (some 8) rfl rfl Try.func100 (by kernel_rfl) rfl #[.slice A0 l0.length c0] rfl MT ?_; (with_reducible refine (spec_RulesOk.calls k _ _ l0 true _ ?side1 ?side2 A5.out).mono ?_); (case side1 => exact KD HR0 HB); (case side2 => exact HC0.out); rintro e w11 ⟨rfl, hb⟩; refine ⟨_, rfl, ?_⟩; replace BK101 := am (BB BK101 hb); replace HB := am (below_step (K1 HB GE101.out) hb); (try clear hb); obtain ⟨hcz12_0, hcz12_1, hfz12_0⟩ := y2 w11 BK101.out) | (go_at_call 59; (with_reducible refine (spec_l1In.calls a1_0 0 16 false _ A7.out).mono ?_); rintro e w' ⟨rfl, ⟨nd, rfl⟩⟩))
    go_meet
    case rel => exact ⟨_, (true), (by first | rfl | (simp; done) | (simp [*]; done)), H', ⟨by first | omega | exact Nat.le_refl _⟩, ⟨KB BK101⟩, ⟨K1 HB GE101.out⟩⟩
  ·replace c6 := Bool.eq_false_iff.mpr c6
   subst c6
   have H1 : (spec_CacheOk.j0 k l0 true a1_0 l1_1) = some r := by rw [if_neg (show ¬ (false = true) by decide)] at H; exact H
   clear H
   have H := H1
   clear H1
   have H' := Aside0.mk H
   clear H
   go_wp2_with (first | ((with_reducible refine gate_callee (f := 100) rfl ?_); refine goesL_ (some 8) rfl rfl Try.func100 (by kernel_rfl) rfl #[.slice A0 l0.length c0] rfl MT ?_; (with_reducible refine (spec_RulesOk.calls k _ _ l0 false _ ?side1 ?side2 A5.out).mono ?_); (case side1 => exact KD HR0 HB); (case side2 => exact HC0.out); rintro e w13 ⟨rfl, hb⟩; refine ⟨_, rfl, ?_⟩; replace BK101 := am (BB BK101 hb); replace HB := am (below_step (K1 HB GE101.out) hb); (try clear hb)))
   go_meet
   case rel => exact ⟨_, (true), (by first | rfl | (simp; done) | (simp [*]; done)), H', ⟨by first | omega | exact Nat.le_refl _⟩, ⟨KB BK101⟩, ⟨K1 HB GE101.out⟩⟩
 case rest =>
  clear HC3
  try clear c1
  try clear p2
  try clear c6
  try clear c8
  try clear c10
  try clear hcz10_0 hcz10_1 hfz10_0
  try clear hcz12_0 hcz12_1 hfz12_0
  obtain ⟨kq, x23_2, rfl, HA, HJ2, BK101, HB⟩ := hcut
  cases kq with
  | zero => exact absurd HA.out (by simp [spec_CacheOk.j0])
  | succ kj2 =>
   have H := HA.out
   clear HA
   simp only [spec_CacheOk.j0] at H
   by_cases c14 : x23_2 = true
   ·subst c14
    have H1 : (some false) = some r := by rw [if_pos rfl] at H; exact H
    clear H
    have H := H1
    clear H1
    obtain rfl := Option.some.inj H
    go_wp2
    go_ret
    exact ⟨ER, K1 HB GE101.out⟩
   ·replace c14 := Bool.eq_false_iff.mpr c14
    subst c14
    have H1 : (spec_CacheOk.l0 kj2 l0 0 a1_0 l1_1) = some r := by rw [if_neg (show ¬ (false = true) by decide)] at H; exact H
    clear H
    have H := H1
    clear H1
    have H' := Aside0.mk H
    clear H
    go_wp2
    go_loopg [5] kj2 (fun kq v5 w' => ∃ (x5_2 : Int), v5 = .int .i64 x5_2 ∧ Aside0 (spec_CacheOk.l0 kq l0 x5_2 a1_0 l1_1 = some r) ∧ Aside0 (kq ≤ kj2) ∧ Aside0 (w'.heap[gb101]? = some (.cells #[.int .i64 a1_0, (.slice A1_1 l1_1.length c1_1)] 54 (0, 0))) ∧ Aside0 (Below w.heap.size w w'))
    case atStart => exact ⟨(0), (by first | rfl | (simp; done) | (simp [*]; done)), H', ⟨Nat.le_refl _⟩, ⟨KB BK101⟩, ⟨K1 HB GE101.out⟩⟩
    case round =>
     clear H'
     try clear c1
     try clear p2
     try clear c6
     try clear c8
     try clear c10
     try clear c14
     try clear hcz10_0 hcz10_1 hfz10_0
     try clear hcz12_0 hcz12_1 hfz12_0
     try clear p2
     obtain ⟨x5_2, rfl, HA, HK2, BK101, HB⟩ := hrel
     cases gk with
     | zero => exact absurd HA.out (by simp [spec_CacheOk.l0])
     | succ k2 =>
      have H := HA.out
      clear HA
      simp only [spec_CacheOk.l0] at H
      by_cases c15 : x5_2 < (l1_1.length : Int)
      ·rw [if_pos c15] at H
       have c15b0 : decide (x5_2 < (l1_1.length : Int)) = true := decide_eq_true c15
       clear c15
       have HC16 := Aside0.mk H
       clear H
       obtain ⟨hcz17_0, hcz17_1, hfz17_0⟩ := y2 wr BK101.out
       go_upto_region 6 with (fail)
       go_cut [55] (fun v55 wc => ∃ (kq : Nat) (x55_15 : Bool), v55 = .bool x55_15 ∧ Aside0 (spec_CacheOk.j2 kq l0 x5_2 x55_15 a1_0 l1_1 = some r) ∧ Aside0 (kq ≤ k2) ∧ Aside0 (wc.heap[gb101]? = some (.cells #[.int .i64 a1_0, (.slice A1_1 l1_1.length c1_1)] 54 (0, 0))) ∧ Aside0 (Below w.heap.size w wc))
       case first =>
        have H := HC16.out
        clear HC16
        by_cases c18 : 0 ≤ x5_2
        ·rw [if_pos c18] at H
         have c18b0 : decide (0 ≤ x5_2) = true := decide_eq_true c18
         clear c18
         (first | rw [c18b0] | (simp only [i64_w, i32_w]; rw [c18b0]) | skip)
         replace H := Option.bind_eq_some_iff.mp H
         obtain ⟨t105, A190, H⟩ := H
         replace H : (if t105 = true then ((spec_l4First.f k2 l0 ((rd_T136 l1_1 x5_2).f0.f0) ((rd_T136 l1_1 x5_2).f0.f1) ((rd_T136 l1_1 x5_2).f0.f2)).bind fun t108 => (spec_CacheOk.j2 k2 l0 x5_2 (((rd_T136 l1_1 x5_2).f1) != t108) a1_0 l1_1)) else (spec_CacheOk.j2 k2 l0 x5_2 true a1_0 l1_1)) = some r := H
         have A19 := Aside0.mk A190
         clear A190
         by_cases c20 : t105 = true
         ·subst c20
          have H1 : ((spec_l4First.f k2 l0 ((rd_T136 l1_1 x5_2).f0.f0) ((rd_T136 l1_1 x5_2).f0.f1) ((rd_T136 l1_1 x5_2).f0.f2)).bind fun t108 => (spec_CacheOk.j2 k2 l0 x5_2 (((rd_T136 l1_1 x5_2).f1) != t108) a1_0 l1_1)) = some r := by rw [if_pos rfl] at H; exact H
          clear H
          have H := H1
          clear H1
          replace H := Option.bind_eq_some_iff.mp H
          obtain ⟨t108, A210, H⟩ := H
          replace H : (spec_CacheOk.j2 k2 l0 x5_2 (((rd_T136 l1_1 x5_2).f1) != t108) a1_0 l1_1) = some r := H
          have A21 := Aside0.mk A210
          clear A210
          have H' := Aside0.mk H
          clear H
          try go_wp2
          replace BK101 := am (blk_drew BK101.out)
          replace HB := am (below_drew1 HB.out)
          have p104 : 0 ≤ (x5_2 : Int) := OD
          have q104 : x5_2 < (l1_1.length : Int) := OD
          obtain ⟨ad104, e104, hx104_0, hx104_1, hx104_2, hx104_3⟩ := at_T136 HR1_1.out x5_2 p104 q104
          have hw104_3 := hx104_3
          have hw104_2 := hx104_2
          have hw104_1 := hx104_1
          have hw104_0 := hx104_0
          cases e104
          replace hx104_0 := CX HB.out hx104_0
          replace hx104_1 := CX HB.out hx104_1
          replace hx104_2 := CX HB.out hx104_2
          replace hx104_3 := CX HB.out hx104_3
          replace p104 := eq_true p104
          replace q104 := eq_true q104
          have p106 : 0 ≤ (x5_2 : Int) := OD
          have q106 : x5_2 < (l1_1.length : Int) := OD
          obtain ⟨ad106, e106, hx106_0, hx106_1, hx106_2, hx106_3⟩ := at_T136 HR1_1.out x5_2 p106 q106
          have hw106_3 := hx106_3
          have hw106_2 := hx106_2
          have hw106_1 := hx106_1
          have hw106_0 := hx106_0
          obtain rfl : ad104 = ad106 := (by injection e106)
          replace hx106_0 := CX HB.out hx106_0
          replace hx106_1 := CX HB.out hx106_1
          replace hx106_2 := CX HB.out hx106_2
          replace hx106_3 := CX HB.out hx106_3
          replace p106 := eq_true p106
          replace q106 := eq_true q106
          have p107 : 0 ≤ (x5_2 : Int) := OD
          have q107 : x5_2 < (l1_1.length : Int) := OD
          obtain ⟨ad107, e107, hx107_0, hx107_1, hx107_2, hx107_3⟩ := at_T136 HR1_1.out x5_2 p107 q107
          have hw107_3 := hx107_3
          have hw107_2 := hx107_2
          have hw107_1 := hx107_1
          have hw107_0 := hx107_0
          obtain rfl : ad104 = ad107 := (by injection e107)
          replace hx107_0 := CX HB.out hx107_0
          replace hx107_1 := CX HB.out hx107_1
          replace hx107_2 := CX HB.out hx107_2
          replace hx107_3 := CX HB.out hx107_3
          replace p107 := eq_true p107
          replace q107 := eq_true q107
          refine start_ (n := 25) (S := fun w' => ce2 w' gb101 (.int .i64 a1_0) (.slice (some ad104) l1_1.length c1_1) (w'.cell? (ad104.add ((x5_2).toNat * 4)) = some (.int .i64 ((rd_T136 l1_1 x5_2).f0.f0)) ∧ w'.cell? ⟨(ad104.add ((x5_2).toNat * 4)).block, (ad104.add ((x5_2).toNat * 4)).off + 1, none⟩ = some (.int .i64 ((rd_T136 l1_1 x5_2).f0.f1)) ∧ w'.cell? ⟨(ad104.add ((x5_2).toNat * 4)).block, (ad104.add ((x5_2).toNat * 4)).off + 2, none⟩ = some (.int .i64 ((rd_T136 l1_1 x5_2).f0.f2)) ∧ w'.cell? ⟨(ad104.add ((x5_2).toNat * 4)).block, (ad104.add ((x5_2).toNat * 4)).off + 3, none⟩ = some (.int .i64 ((rd_T136 l1_1 x5_2).f1)) ∧ w'.cell? (ad104.add ((x5_2).toNat * 4)) = some (.int .i64 ((rd_T136 l1_1 x5_2).f0.f0)) ∧ w'.cell? ⟨(ad104.add ((x5_2).toNat * 4)).block, (ad104.add ((x5_2).toNat * 4)).off + 1, none⟩ = some (.int .i64 ((rd_T136 l1_1 x5_2).f0.f1)) ∧ w'.cell? ⟨(ad104.add ((x5_2).toNat * 4)).block, (ad104.add ((x5_2).toNat * 4)).off + 2, none⟩ = some (.int .i64 ((rd_T136 l1_1 x5_2).f0.f2)) ∧ w'.cell? ⟨(ad104.add ((x5_2).toNat * 4)).block, (ad104.add ((x5_2).toNat * 4)).off + 3, none⟩ = some (.int .i64 ((rd_T136 l1_1 x5_2).f1)) ∧ w'.cell? (ad104.add ((x5_2).toNat * 4)) = some (.int .i64 ((rd_T136 l1_1 x5_2).f0.f0)) ∧ w'.cell? ⟨(ad104.add ((x5_2).toNat * 4)).block, (ad104.add ((x5_2).toNat * 4)).off + 1, none⟩ = some (.int .i64 ((rd_T136 l1_1 x5_2).f0.f1)) ∧ w'.cell? ⟨(ad104.add ((x5_2).toNat * 4)).block, (ad104.add ((x5_2).toNat * 4)).off + 2, none⟩ = some (.int .i64 ((rd_T136 l1_1 x5_2).f0.f2)) ∧ w'.cell? ⟨(ad104.add ((x5_2).toNat * 4)).block, (ad104.add ((x5_2).toNat * 4)).off + 3, none⟩ = some (.int .i64 ((rd_T136 l1_1 x5_2).f1)))) (ds := []) (tf 0 25) (by kernel_rfl) rfl rfl ⟨z0 _ BK101.out, z1 _ BK101.out, (CY HB.out hw104_0), (CY HB.out hw104_1), (CY HB.out hw104_2), (CY HB.out hw104_3), (CY HB.out hw106_0), (CY HB.out hw106_1), (CY HB.out hw106_2), (CY HB.out hw106_3), (CY HB.out hw107_0), (CY HB.out hw107_1), (CY HB.out hw107_2), (CY HB.out hw107_3)⟩ (fun hHeld => ?_); refine with_tabW spec_CacheOk.tab6 spec_CacheOk.bits6 (fun HT_ HW_ => ?_)
          generalize wr.drew = w22 at BK101 HB hx104_0 hx104_1 hx104_2 hx104_3 hx106_0 hx106_1 hx106_2 hx106_3 hx107_0 hx107_1 hx107_2 hx107_3 hHeld ⊢
          refine pv HT_ 0 31 (tf 1 24) ?_
          refine pv HT_ 2 33 (tr [1, 1, 1, 22]) ?_
          refine tk 1 (some 32) (tf 3 22) (take_ofW HT_.out HW_.out (by kernel_rfl)) hHeld ?_
          refine pv HT_ 3 34 (tf 4 21) ?_
          refine pv HT_ 4 35 (tf 5 20) ?_
          refine tk 5 (some 36) (tf 6 19) (take_ofW HT_.out HW_.out (by kernel_rfl)) hHeld ?_
          refine one_ (i := 6) (N := some 37) (tf 7 18) rfl rfl (one_of HT_.out (by kernel_rfl)) (by decide) (fun K hK => ?_)
          refine goes_ Try.func101 (by kernel_rfl) rfl #[.agg #[.int .i64 ((rd_T136 l1_1 x5_2).f0.f0), .int .i64 ((rd_T136 l1_1 x5_2).f0.f1), .int .i64 ((rd_T136 l1_1 x5_2).f0.f2)]] (by rfl) rfl rfl MT ?_
          with_reducible refine (spec_l4Call.calls ((rd_T136 l1_1 x5_2).f0.f0) ((rd_T136 l1_1 x5_2).f0.f1) ((rd_T136 l1_1 x5_2).f0.f2) true _ A19.out).mono ?_
          rintro e w23 ⟨rfl, hb⟩
          refine ⟨_, rfl, ?_⟩
          replace BK101 := am (BB BK101 hb)
          replace HB := am (below_step (K1 HB GE101.out) hb)
          (try clear hb)
          (try clear hb2)
          (try clear hk)
          (try clear hi)
          refine hK.out _ _ ⟨z0 _ BK101.out, z1 _ BK101.out, (CY HB.out hw104_0), (CY HB.out hw104_1), (CY HB.out hw104_2), (CY HB.out hw104_3), (CY HB.out hw106_0), (CY HB.out hw106_1), (CY HB.out hw106_2), (CY HB.out hw106_3), (CY HB.out hw107_0), (CY HB.out hw107_1), (CY HB.out hw107_2), (CY HB.out hw107_3)⟩ (fun hHeld => ?_)
          clear hK K
          refine norm_ (a' := ?_) ?_ ?_
          rotate_left
          ·show Act.put _ (some 37) _ = _
           simp only [Act.put, List.setIfInBounds_toArray, List.set_cons_zero, List.set_cons_succ, i64_w, i32_w]
           rfl
          refine pv HT_ 7 38 (tf 8 17) ?_
          refine pv HT_ 8 39 (tf 9 16) ?_
          refine pv HT_ 9 40 (tf 10 15) ?_
          refine pv HT_ 11 42 (tr [10, 1, 1, 13]) ?_
          refine pv HT_ 15 46 (tr [10, 1, 1, 3, 1, 9]) ?_
          refine pv HT_ 16 47 (tr [10, 1, 1, 3, 2, 8]) ?_
          refine pv HT_ 18 49 (tr [10, 1, 1, 3, 2, 1, 1, 6]) ?_
          refine tk 10 (some 41) (tr [12, 3, 2, 1, 1, 6]) (take_ofW HT_.out HW_.out (by kernel_rfl)) hHeld ?_
          refine pv HT_ 12 43 (tr [13, 2, 2, 1, 1, 6]) ?_
          refine pv HT_ 13 44 (tr [14, 1, 2, 1, 1, 6]) ?_
          refine tk 14 (some 45) (tr [17, 1, 1, 6]) (take_ofW HT_.out HW_.out (by kernel_rfl)) hHeld ?_
          refine tk 17 (some 48) (tf 19 6) (take_ofW HT_.out HW_.out (by kernel_rfl)) hHeld ?_
          refine pv HT_ 19 50 (tf 20 5) ?_
          refine pv HT_ 20 51 (tf 21 4) ?_
          refine tk 21 (some 52) (tf 22 3) (take_ofW HT_.out HW_.out (by kernel_rfl)) hHeld ?_
          refine one_ (i := 22) (N := some 53) (tf 23 2) rfl rfl (one_of HT_.out (by kernel_rfl)) (by decide) (fun K hK => ?_)
          refine goes_ Try.func102 (by kernel_rfl) rfl #[.slice A0 l0.length c0, .agg #[.int .i64 ((rd_T136 l1_1 x5_2).f0.f0), .int .i64 ((rd_T136 l1_1 x5_2).f0.f1), .int .i64 ((rd_T136 l1_1 x5_2).f0.f2)]] (by rfl) rfl rfl MT ?_
          with_reducible refine (spec_l4First.calls k2 _ _ l0 ((rd_T136 l1_1 x5_2).f0.f0) ((rd_T136 l1_1 x5_2).f0.f1) ((rd_T136 l1_1 x5_2).f0.f2) t108 _ ?side1 ?side2 A21.out).mono ?_
          (case side1 => exact KD HR0 HB)
          (case side2 => exact HC0.out)
          rintro e w24 ⟨rfl, hb⟩
          refine ⟨_, rfl, ?_⟩
          replace BK101 := am (BB BK101 hb)
          replace HB := am (below_step (K1 HB GE101.out) hb)
          (try clear hb)
          (try clear hb2)
          (try clear hk)
          (try clear hi)
          refine hK.out _ _ ⟨z0 _ BK101.out, z1 _ BK101.out, (CY HB.out hw104_0), (CY HB.out hw104_1), (CY HB.out hw104_2), (CY HB.out hw104_3), (CY HB.out hw106_0), (CY HB.out hw106_1), (CY HB.out hw106_2), (CY HB.out hw106_3), (CY HB.out hw107_0), (CY HB.out hw107_1), (CY HB.out hw107_2), (CY HB.out hw107_3)⟩ (fun hHeld => ?_)
          clear hK K
          refine norm_ (a' := ?_) ?_ ?_
          rotate_left
          ·show Act.put _ (some 53) _ = _
           simp only [Act.put, List.setIfInBounds_toArray, List.set_cons_zero, List.set_cons_succ, i64_w, i32_w]
           rfl
          refine pv HT_ 23 54 (tf 24 1) ?_
          refine pv HT_ 24 55 (tf 25 0) ?_
          refine done_ (done_of HT_.out (by kernel_rfl)) ?_
          try go_wp2
          go_meet
          case rel => exact ⟨_, ((((rd_T136 l1_1 x5_2).f1) != t108)), (by first | rfl | (simp; done) | (simp [*]; done)), H', ⟨by have := HJ2.out; have := HK2.out; first | omega | exact Nat.le_refl _⟩, ⟨KB BK101⟩, ⟨K1 HB GE101.out⟩⟩
         ·replace c20 := Bool.eq_false_iff.mpr c20
          subst c20
          have H1 : (spec_CacheOk.j2 k2 l0 x5_2 true a1_0 l1_1) = some r := by rw [if_neg (show ¬ (false = true) by decide)] at H; exact H
          clear H
          have H := H1
          clear H1
          have H' := Aside0.mk H
          clear H
          try go_wp2
          replace BK101 := am (blk_drew BK101.out)
          replace HB := am (below_drew1 HB.out)
          have p104 : 0 ≤ (x5_2 : Int) := OD
          have q104 : x5_2 < (l1_1.length : Int) := OD
          obtain ⟨ad104, e104, hx104_0, hx104_1, hx104_2, hx104_3⟩ := at_T136 HR1_1.out x5_2 p104 q104
          have hw104_3 := hx104_3
          have hw104_2 := hx104_2
          have hw104_1 := hx104_1
          have hw104_0 := hx104_0
          cases e104
          replace hx104_0 := CX HB.out hx104_0
          replace hx104_1 := CX HB.out hx104_1
          replace hx104_2 := CX HB.out hx104_2
          replace hx104_3 := CX HB.out hx104_3
          replace p104 := eq_true p104
          replace q104 := eq_true q104
          refine start_ (n := 25) (S := fun w' => ce2 w' gb101 (.int .i64 a1_0) (.slice (some ad104) l1_1.length c1_1) (w'.cell? (ad104.add ((x5_2).toNat * 4)) = some (.int .i64 ((rd_T136 l1_1 x5_2).f0.f0)) ∧ w'.cell? ⟨(ad104.add ((x5_2).toNat * 4)).block, (ad104.add ((x5_2).toNat * 4)).off + 1, none⟩ = some (.int .i64 ((rd_T136 l1_1 x5_2).f0.f1)) ∧ w'.cell? ⟨(ad104.add ((x5_2).toNat * 4)).block, (ad104.add ((x5_2).toNat * 4)).off + 2, none⟩ = some (.int .i64 ((rd_T136 l1_1 x5_2).f0.f2)) ∧ w'.cell? ⟨(ad104.add ((x5_2).toNat * 4)).block, (ad104.add ((x5_2).toNat * 4)).off + 3, none⟩ = some (.int .i64 ((rd_T136 l1_1 x5_2).f1)))) (ds := []) (tf 0 25) (by kernel_rfl) rfl rfl ⟨z0 _ BK101.out, z1 _ BK101.out, (CY HB.out hw104_0), (CY HB.out hw104_1), (CY HB.out hw104_2), (CY HB.out hw104_3)⟩ (fun hHeld => ?_); refine with_tabW spec_CacheOk.tab6 spec_CacheOk.bits6 (fun HT_ HW_ => ?_)
          generalize wr.drew = w25 at BK101 HB hx104_0 hx104_1 hx104_2 hx104_3 hHeld ⊢
          refine pv HT_ 0 31 (tf 1 24) ?_
          refine pv HT_ 2 33 (tr [1, 1, 1, 22]) ?_
          refine tk 1 (some 32) (tf 3 22) (take_ofW HT_.out HW_.out (by kernel_rfl)) hHeld ?_
          refine pv HT_ 3 34 (tf 4 21) ?_
          refine pv HT_ 4 35 (tf 5 20) ?_
          refine tk 5 (some 36) (tf 6 19) (take_ofW HT_.out HW_.out (by kernel_rfl)) hHeld ?_
          refine one_ (i := 6) (N := some 37) (tf 7 18) rfl rfl (one_of HT_.out (by kernel_rfl)) (by decide) (fun K hK => ?_)
          refine goes_ Try.func101 (by kernel_rfl) rfl #[.agg #[.int .i64 ((rd_T136 l1_1 x5_2).f0.f0), .int .i64 ((rd_T136 l1_1 x5_2).f0.f1), .int .i64 ((rd_T136 l1_1 x5_2).f0.f2)]] (by rfl) rfl rfl MT ?_
          with_reducible refine (spec_l4Call.calls ((rd_T136 l1_1 x5_2).f0.f0) ((rd_T136 l1_1 x5_2).f0.f1) ((rd_T136 l1_1 x5_2).f0.f2) false _ A19.out).mono ?_
          rintro e w26 ⟨rfl, hb⟩
          refine ⟨_, rfl, ?_⟩
          replace BK101 := am (BB BK101 hb)
          replace HB := am (below_step (K1 HB GE101.out) hb)
          (try clear hb)
          (try clear hb2)
          (try clear hk)
          (try clear hi)
          refine hK.out _ _ ⟨z0 _ BK101.out, z1 _ BK101.out, (CY HB.out hw104_0), (CY HB.out hw104_1), (CY HB.out hw104_2), (CY HB.out hw104_3)⟩ (fun hHeld => ?_)
          clear hK K
          refine norm_ (a' := ?_) ?_ ?_
          rotate_left
          ·show Act.put _ (some 37) _ = _
           simp only [Act.put, List.setIfInBounds_toArray, List.set_cons_zero, List.set_cons_succ, i64_w, i32_w]
           rfl
          refine pv HT_ 7 38 (tf 8 17) ?_
          refine pv HT_ 8 39 (tf 9 16) ?_
          refine pw HT_ 9 40 (tf 10 15) ?_
          refine pw HT_ 10 41 (tf 11 14) ?_
          refine pw HT_ 11 42 (tf 12 13) ?_
          refine pw HT_ 12 43 (tf 13 12) ?_
          refine pw HT_ 13 44 (tf 14 11) ?_
          refine pw HT_ 14 45 (tf 15 10) ?_
          refine pw HT_ 15 46 (tf 16 9) ?_
          refine pw HT_ 16 47 (tf 17 8) ?_
          refine pw HT_ 17 48 (tf 18 7) ?_
          refine pw HT_ 18 49 (tf 19 6) ?_
          refine pw HT_ 19 50 (tf 20 5) ?_
          refine pw HT_ 20 51 (tf 21 4) ?_
          refine pw HT_ 21 52 (tf 22 3) ?_
          refine pw HT_ 22 53 (tf 23 2) ?_
          refine pw HT_ 23 54 (tf 24 1) ?_
          refine pv HT_ 24 55 (tf 25 0) ?_
          refine done_ (done_of HT_.out (by kernel_rfl)) ?_
          try go_wp2
          go_meet
          case rel => exact ⟨_, (true), (by first | rfl | (simp; done) | (simp [*]; done)), H', ⟨by have := HJ2.out; have := HK2.out; first | omega | exact Nat.le_refl _⟩, ⟨KB BK101⟩, ⟨K1 HB GE101.out⟩⟩
        ·rw [if_neg c18] at H
         exact absurd H (by simp)
       case rest =>
        clear HC16
        try clear c1
        try clear p1
        try clear q1
        try clear hx1
        try clear c2
        try clear p2
        try clear c6
        try clear c8
        try clear c10
        try clear p10
        try clear q10
        try clear hx10
        try clear c14
        try clear c15
        try clear c15b0
        try clear c18
        try clear c18b0
        try clear c20
        try clear hcz10_0 hcz10_1 hfz10_0
        try clear hcz12_0 hcz12_1 hfz12_0
        try clear hcz17_0 hcz17_1 hfz17_0
        try clear hx104_0
        try clear hx104_1
        try clear hx104_2
        try clear hx104_3
        try clear hx106_0
        try clear hx106_1
        try clear hx106_2
        try clear hx106_3
        try clear hx107_0
        try clear hx107_1
        try clear hx107_2
        try clear hx107_3
        try clear p104
        try clear p106
        try clear p107
        try clear p2
        try clear q104
        try clear q106
        try clear q107
        obtain ⟨kq, x55_15, rfl, HA, HJ15, BK101, HB⟩ := hcut
        cases kq with
        | zero => exact absurd HA.out (by simp [spec_CacheOk.j2])
        | succ kj15 =>
         have H := HA.out
         clear HA
         simp only [spec_CacheOk.j2] at H
         by_cases c27 : x55_15 = true
         ·subst c27
          have H1 : (some false) = some r := by rw [if_pos rfl] at H; exact H
          clear H
          have H := H1
          clear H1
          obtain rfl := Option.some.inj H
          go_wp2
          go_ret
          exact ⟨ER, K1 HB GE101.out⟩
         ·replace c27 := Bool.eq_false_iff.mpr c27
          subst c27
          have H1 : (spec_CacheOk.l1 kj15 l0 x5_2 0 a1_0 l1_1) = some r := by rw [if_neg (show ¬ (false = true) by decide)] at H; exact H
          clear H
          have H := H1
          clear H1
          have H' := Aside0.mk H
          clear H
          go_wp2
          go_loopg [6] kj15 (fun kq v6 w' => ∃ (x6_4 : Int), v6 = .int .i64 x6_4 ∧ Aside0 (spec_CacheOk.l1 kq l0 x5_2 x6_4 a1_0 l1_1 = some r) ∧ Aside0 (kq ≤ kj15) ∧ Aside0 (w'.heap[gb101]? = some (.cells #[.int .i64 a1_0, (.slice A1_1 l1_1.length c1_1)] 54 (0, 0))) ∧ Aside0 (Below w.heap.size w w'))
          case atStart => exact ⟨(0), (by first | rfl | (simp; done) | (simp [*]; done)), H', ⟨Nat.le_refl _⟩, ⟨KB BK101⟩, ⟨K1 HB GE101.out⟩⟩
          case round =>
           clear H'
           try clear c1
           try clear p1
           try clear q1
           try clear hx1
           try clear c2
           try clear p2
           try clear c6
           try clear c8
           try clear c10
           try clear p10
           try clear q10
           try clear hx10
           try clear c14
           try clear c15
           try clear c15b0
           try clear c18
           try clear c18b0
           try clear c20
           try clear c27
           try clear hcz10_0 hcz10_1 hfz10_0
           try clear hcz12_0 hcz12_1 hfz12_0
           try clear hcz17_0 hcz17_1 hfz17_0
           try clear hx104_0
           try clear hx104_1
           try clear hx104_2
           try clear hx104_3
           try clear hx106_0
           try clear hx106_1
           try clear hx106_2
           try clear hx106_3
           try clear hx107_0
           try clear hx107_1
           try clear hx107_2
           try clear hx107_3
           try clear p1
           try clear p10
           try clear p104
           try clear p106
           try clear p107
           try clear p2
           try clear q1
           try clear q10
           try clear q104
           try clear q106
           try clear q107
           obtain ⟨x6_4, rfl, HA, HK4, BK101, HB⟩ := hrel
           cases gk with
           | zero => exact absurd HA.out (by simp [spec_CacheOk.l1])
           | succ k4 =>
            have H := HA.out
            clear HA
            simp only [spec_CacheOk.l1] at H
            by_cases c28 : x6_4 < x5_2
            ·rw [if_pos c28] at H
             have c28b0 : decide (x6_4 < x5_2) = true := decide_eq_true c28
             clear c28
             by_cases c29 : 0 ≤ x6_4
             ·rw [if_pos c29] at H
              have c29b0 : decide (0 ≤ x6_4) = true := decide_eq_true c29
              clear c29
              by_cases c30 : x6_4 < (l1_1.length : Int)
              ·rw [if_pos c30] at H
               have c30b0 : decide (x6_4 < (l1_1.length : Int)) = true := decide_eq_true c30
               clear c30
               by_cases c31 : 0 ≤ x5_2
               ·rw [if_pos c31] at H
                have c31b0 : decide (0 ≤ x5_2) = true := decide_eq_true c31
                clear c31
                by_cases c32 : x5_2 < (l1_1.length : Int)
                ·rw [if_pos c32] at H
                 have c32b0 : decide (x5_2 < (l1_1.length : Int)) = true := decide_eq_true c32
                 clear c32
                 by_cases c33 : (((rd_T136 l1_1 x6_4).f0.f0) == ((rd_T136 l1_1 x5_2).f0.f0) && (((rd_T136 l1_1 x6_4).f0.f1) == ((rd_T136 l1_1 x5_2).f0.f1) && (((rd_T136 l1_1 x6_4).f0.f2) == ((rd_T136 l1_1 x5_2).f0.f2)))) = true
                 ·rw [if_pos c33] at H
                  have c33b0 : (((rd_T136 l1_1 x6_4).f0.f0) == ((rd_T136 l1_1 x5_2).f0.f0) && (((rd_T136 l1_1 x6_4).f0.f1) == ((rd_T136 l1_1 x5_2).f0.f1) && (((rd_T136 l1_1 x6_4).f0.f2) == ((rd_T136 l1_1 x5_2).f0.f2)))) = true := c33
                  (try (have c33b1 : decide (((rd_T136 l1_1 x6_4).f0.f0) = ((rd_T136 l1_1 x5_2).f0.f0) && (((rd_T136 l1_1 x6_4).f0.f1) == ((rd_T136 l1_1 x5_2).f0.f1) && (((rd_T136 l1_1 x6_4).f0.f2) == ((rd_T136 l1_1 x5_2).f0.f2)))) = true := by simpa using c33))
                  (try (have c33b2 : (((rd_T136 l1_1 x6_4).f0.f0) == ((rd_T136 l1_1 x5_2).f0.f0) && (((rd_T136 l1_1 x6_4).f0.f1) == ((rd_T136 l1_1 x5_2).f0.f1) && (((rd_T136 l1_1 x6_4).f0.f2) == ((rd_T136 l1_1 x5_2).f0.f2)))) = true := by simpa using c33))
                  clear c33
                  obtain rfl := Option.some.inj H
                  try go_wp2
                  replace BK101 := am (blk_drew BK101.out)
                  replace HB := am (below_drew1 HB.out)
                  have p109 : 0 ≤ (x6_4 : Int) := OD
                  have q109 : x6_4 < (l1_1.length : Int) := OD
                  obtain ⟨ad109, e109, hx109_0, hx109_1, hx109_2, hx109_3⟩ := at_T136 HR1_1.out x6_4 p109 q109
                  have hw109_3 := hx109_3
                  have hw109_2 := hx109_2
                  have hw109_1 := hx109_1
                  have hw109_0 := hx109_0
                  cases e109
                  replace hx109_0 := CX HB.out hx109_0
                  replace hx109_1 := CX HB.out hx109_1
                  replace hx109_2 := CX HB.out hx109_2
                  replace hx109_3 := CX HB.out hx109_3
                  replace p109 := eq_true p109
                  replace q109 := eq_true q109
                  have p110 : 0 ≤ (x5_2 : Int) := OD
                  have q110 : x5_2 < (l1_1.length : Int) := OD
                  obtain ⟨ad110, e110, hx110_0, hx110_1, hx110_2, hx110_3⟩ := at_T136 HR1_1.out x5_2 p110 q110
                  have hw110_3 := hx110_3
                  have hw110_2 := hx110_2
                  have hw110_1 := hx110_1
                  have hw110_0 := hx110_0
                  obtain rfl : ad109 = ad110 := (by injection e110)
                  replace hx110_0 := CX HB.out hx110_0
                  replace hx110_1 := CX HB.out hx110_1
                  replace hx110_2 := CX HB.out hx110_2
                  replace hx110_3 := CX HB.out hx110_3
                  replace p110 := eq_true p110
                  replace q110 := eq_true q110
                  refine start_ (n := 13) (S := fun w' => ce2 w' gb101 (.int .i64 a1_0) (.slice (some ad109) l1_1.length c1_1) (w'.cell? (ad109.add ((x6_4).toNat * 4)) = some (.int .i64 ((rd_T136 l1_1 x6_4).f0.f0)) ∧ w'.cell? ⟨(ad109.add ((x6_4).toNat * 4)).block, (ad109.add ((x6_4).toNat * 4)).off + 1, none⟩ = some (.int .i64 ((rd_T136 l1_1 x6_4).f0.f1)) ∧ w'.cell? ⟨(ad109.add ((x6_4).toNat * 4)).block, (ad109.add ((x6_4).toNat * 4)).off + 2, none⟩ = some (.int .i64 ((rd_T136 l1_1 x6_4).f0.f2)) ∧ w'.cell? ⟨(ad109.add ((x6_4).toNat * 4)).block, (ad109.add ((x6_4).toNat * 4)).off + 3, none⟩ = some (.int .i64 ((rd_T136 l1_1 x6_4).f1)) ∧ w'.cell? (ad109.add ((x5_2).toNat * 4)) = some (.int .i64 ((rd_T136 l1_1 x5_2).f0.f0)) ∧ w'.cell? ⟨(ad109.add ((x5_2).toNat * 4)).block, (ad109.add ((x5_2).toNat * 4)).off + 1, none⟩ = some (.int .i64 ((rd_T136 l1_1 x5_2).f0.f1)) ∧ w'.cell? ⟨(ad109.add ((x5_2).toNat * 4)).block, (ad109.add ((x5_2).toNat * 4)).off + 2, none⟩ = some (.int .i64 ((rd_T136 l1_1 x5_2).f0.f2)) ∧ w'.cell? ⟨(ad109.add ((x5_2).toNat * 4)).block, (ad109.add ((x5_2).toNat * 4)).off + 3, none⟩ = some (.int .i64 ((rd_T136 l1_1 x5_2).f1)))) (ds := []) (tf 0 13) (by kernel_rfl) rfl rfl ⟨z0 _ BK101.out, z1 _ BK101.out, (CY HB.out hw109_0), (CY HB.out hw109_1), (CY HB.out hw109_2), (CY HB.out hw109_3), (CY HB.out hw110_0), (CY HB.out hw110_1), (CY HB.out hw110_2), (CY HB.out hw110_3)⟩ (fun hHeld => ?_); refine with_tabW spec_CacheOk.tab11 spec_CacheOk.bits11 (fun HT_ HW_ => ?_)
                  generalize wr.drew = w34 at BK101 HB hx109_0 hx109_1 hx109_2 hx109_3 hx110_0 hx110_1 hx110_2 hx110_3 hHeld ⊢
                  refine pv HT_ 0 61 (tf 1 12) ?_
                  refine pv HT_ 2 63 (tr [1, 1, 1, 10]) ?_
                  refine pv HT_ 6 67 (tr [1, 1, 1, 3, 1, 6]) ?_
                  refine pv HT_ 8 69 (tr [1, 1, 1, 3, 1, 1, 1, 4]) ?_
                  refine tk 1 (some 62) (tr [3, 3, 1, 1, 1, 4]) (take_ofW HT_.out HW_.out (by kernel_rfl)) hHeld ?_
                  refine pv HT_ 3 64 (tr [4, 2, 1, 1, 1, 4]) ?_
                  refine pv HT_ 4 65 (tr [5, 1, 1, 1, 1, 4]) ?_
                  refine tk 5 (some 66) (tr [7, 1, 1, 4]) (take_ofW HT_.out HW_.out (by kernel_rfl)) hHeld ?_
                  refine tk 7 (some 68) (tf 9 4) (take_ofW HT_.out HW_.out (by kernel_rfl)) hHeld ?_
                  refine pv HT_ 9 70 (tf 10 3) ?_
                  refine pv HT_ 10 71 (tf 11 2) ?_
                  refine tk 11 (some 72) (tf 12 1) (take_ofW HT_.out HW_.out (by kernel_rfl)) hHeld ?_
                  refine pv HT_ 12 73 (tf 13 0) ?_
                  refine done_ (done_of HT_.out (by kernel_rfl)) ?_
                  try go_wp2
                  go_ret
                  exact ⟨ER, K1 HB GE101.out⟩
                 ·rw [if_neg c33] at H
                  have c33b0 : (((rd_T136 l1_1 x6_4).f0.f0) == ((rd_T136 l1_1 x5_2).f0.f0) && (((rd_T136 l1_1 x6_4).f0.f1) == ((rd_T136 l1_1 x5_2).f0.f1) && (((rd_T136 l1_1 x6_4).f0.f2) == ((rd_T136 l1_1 x5_2).f0.f2)))) = false := by simpa using c33
                  (try (have c33b1 : decide (((rd_T136 l1_1 x6_4).f0.f0) = ((rd_T136 l1_1 x5_2).f0.f0) && (((rd_T136 l1_1 x6_4).f0.f1) == ((rd_T136 l1_1 x5_2).f0.f1) && (((rd_T136 l1_1 x6_4).f0.f2) == ((rd_T136 l1_1 x5_2).f0.f2)))) = false := by simpa using c33))
                  (try (have c33b2 : (((rd_T136 l1_1 x6_4).f0.f0) == ((rd_T136 l1_1 x5_2).f0.f0) && (((rd_T136 l1_1 x6_4).f0.f1) == ((rd_T136 l1_1 x5_2).f0.f1) && (((rd_T136 l1_1 x6_4).f0.f2) == ((rd_T136 l1_1 x5_2).f0.f2)))) = false := by simpa using c33))
                  (try (have c33b3 : ¬ (((rd_T136 l1_1 x6_4).f0.f0) = ((rd_T136 l1_1 x5_2).f0.f0) && (((rd_T136 l1_1 x6_4).f0.f1) == ((rd_T136 l1_1 x5_2).f0.f1) && (((rd_T136 l1_1 x6_4).f0.f2) == ((rd_T136 l1_1 x5_2).f0.f2)))) := by simpa using c33))
                  clear c33
                  have H' := Aside0.mk H
                  clear H
                  try go_wp2
                  replace BK101 := am (blk_drew BK101.out)
                  replace HB := am (below_drew1 HB.out)
                  have p109 : 0 ≤ (x6_4 : Int) := OD
                  have q109 : x6_4 < (l1_1.length : Int) := OD
                  obtain ⟨ad109, e109, hx109_0, hx109_1, hx109_2, hx109_3⟩ := at_T136 HR1_1.out x6_4 p109 q109
                  have hw109_3 := hx109_3
                  have hw109_2 := hx109_2
                  have hw109_1 := hx109_1
                  have hw109_0 := hx109_0
                  cases e109
                  replace hx109_0 := CX HB.out hx109_0
                  replace hx109_1 := CX HB.out hx109_1
                  replace hx109_2 := CX HB.out hx109_2
                  replace hx109_3 := CX HB.out hx109_3
                  replace p109 := eq_true p109
                  replace q109 := eq_true q109
                  have p110 : 0 ≤ (x5_2 : Int) := OD
                  have q110 : x5_2 < (l1_1.length : Int) := OD
                  obtain ⟨ad110, e110, hx110_0, hx110_1, hx110_2, hx110_3⟩ := at_T136 HR1_1.out x5_2 p110 q110
                  have hw110_3 := hx110_3
                  have hw110_2 := hx110_2
                  have hw110_1 := hx110_1
                  have hw110_0 := hx110_0
                  obtain rfl : ad109 = ad110 := (by injection e110)
                  replace hx110_0 := CX HB.out hx110_0
                  replace hx110_1 := CX HB.out hx110_1
                  replace hx110_2 := CX HB.out hx110_2
                  replace hx110_3 := CX HB.out hx110_3
                  replace p110 := eq_true p110
                  replace q110 := eq_true q110
                  refine start_ (n := 13) (S := fun w' => ce2 w' gb101 (.int .i64 a1_0) (.slice (some ad109) l1_1.length c1_1) (w'.cell? (ad109.add ((x6_4).toNat * 4)) = some (.int .i64 ((rd_T136 l1_1 x6_4).f0.f0)) ∧ w'.cell? ⟨(ad109.add ((x6_4).toNat * 4)).block, (ad109.add ((x6_4).toNat * 4)).off + 1, none⟩ = some (.int .i64 ((rd_T136 l1_1 x6_4).f0.f1)) ∧ w'.cell? ⟨(ad109.add ((x6_4).toNat * 4)).block, (ad109.add ((x6_4).toNat * 4)).off + 2, none⟩ = some (.int .i64 ((rd_T136 l1_1 x6_4).f0.f2)) ∧ w'.cell? ⟨(ad109.add ((x6_4).toNat * 4)).block, (ad109.add ((x6_4).toNat * 4)).off + 3, none⟩ = some (.int .i64 ((rd_T136 l1_1 x6_4).f1)) ∧ w'.cell? (ad109.add ((x5_2).toNat * 4)) = some (.int .i64 ((rd_T136 l1_1 x5_2).f0.f0)) ∧ w'.cell? ⟨(ad109.add ((x5_2).toNat * 4)).block, (ad109.add ((x5_2).toNat * 4)).off + 1, none⟩ = some (.int .i64 ((rd_T136 l1_1 x5_2).f0.f1)) ∧ w'.cell? ⟨(ad109.add ((x5_2).toNat * 4)).block, (ad109.add ((x5_2).toNat * 4)).off + 2, none⟩ = some (.int .i64 ((rd_T136 l1_1 x5_2).f0.f2)) ∧ w'.cell? ⟨(ad109.add ((x5_2).toNat * 4)).block, (ad109.add ((x5_2).toNat * 4)).off + 3, none⟩ = some (.int .i64 ((rd_T136 l1_1 x5_2).f1)))) (ds := []) (tf 0 13) (by kernel_rfl) rfl rfl ⟨z0 _ BK101.out, z1 _ BK101.out, (CY HB.out hw109_0), (CY HB.out hw109_1), (CY HB.out hw109_2), (CY HB.out hw109_3), (CY HB.out hw110_0), (CY HB.out hw110_1), (CY HB.out hw110_2), (CY HB.out hw110_3)⟩ (fun hHeld => ?_); refine with_tabW spec_CacheOk.tab11 spec_CacheOk.bits11 (fun HT_ HW_ => ?_)
                  generalize wr.drew = w35 at BK101 HB hx109_0 hx109_1 hx109_2 hx109_3 hx110_0 hx110_1 hx110_2 hx110_3 hHeld ⊢
                  refine pv HT_ 0 61 (tf 1 12) ?_
                  refine pv HT_ 2 63 (tr [1, 1, 1, 10]) ?_
                  refine pv HT_ 6 67 (tr [1, 1, 1, 3, 1, 6]) ?_
                  refine pv HT_ 8 69 (tr [1, 1, 1, 3, 1, 1, 1, 4]) ?_
                  refine tk 1 (some 62) (tr [3, 3, 1, 1, 1, 4]) (take_ofW HT_.out HW_.out (by kernel_rfl)) hHeld ?_
                  refine pv HT_ 3 64 (tr [4, 2, 1, 1, 1, 4]) ?_
                  refine pv HT_ 4 65 (tr [5, 1, 1, 1, 1, 4]) ?_
                  refine tk 5 (some 66) (tr [7, 1, 1, 4]) (take_ofW HT_.out HW_.out (by kernel_rfl)) hHeld ?_
                  refine tk 7 (some 68) (tf 9 4) (take_ofW HT_.out HW_.out (by kernel_rfl)) hHeld ?_
                  refine pv HT_ 9 70 (tf 10 3) ?_
                  refine pv HT_ 10 71 (tf 11 2) ?_
                  refine tk 11 (some 72) (tf 12 1) (take_ofW HT_.out HW_.out (by kernel_rfl)) hHeld ?_
                  refine pv HT_ 12 73 (tf 13 0) ?_
                  refine done_ (done_of HT_.out (by kernel_rfl)) ?_
                  try go_wp2
                  go_roundg k4
                  case measure => have := HJ2.out; have := HK2.out; have := HJ15.out; have := HK4.out; omega
                  case rel => exact ⟨(wrap64 (x6_4 + 1)), (by first | rfl | (simp; done) | (simp [*]; done)), H', ⟨by have := HJ2.out; have := HK2.out; have := HJ15.out; have := HK4.out; omega⟩, ⟨KB BK101⟩, ⟨K1 HB GE101.out⟩⟩
                ·rw [if_neg c32] at H
                 exact absurd H (by simp)
               ·rw [if_neg c31] at H
                exact absurd H (by simp)
              ·rw [if_neg c30] at H
               exact absurd H (by simp)
             ·rw [if_neg c29] at H
              exact absurd H (by simp)
            ·rw [if_neg c28] at H
             have c28b0 : decide (x6_4 < x5_2) = false := decide_eq_false c28
             clear c28
             have H' := Aside0.mk H
             clear H
             go_wp2
             go_roundg k4
             case measure => have := HJ2.out; have := HK2.out; have := HJ15.out; have := HK4.out; omega
             case rel => exact ⟨(wrap64 (x5_2 + 1)), (by first | rfl | (simp; done) | (simp [*]; done)), H', ⟨by have := HJ2.out; have := HK2.out; have := HJ15.out; have := HK4.out; omega⟩, ⟨KB BK101⟩, ⟨K1 HB GE101.out⟩⟩
      ·rw [if_neg c15] at H
       have c15b0 : decide (x5_2 < (l1_1.length : Int)) = false := decide_eq_false c15
       clear c15
       obtain rfl := Option.some.inj H
       obtain ⟨hcz36_0, hcz36_1, hfz36_0⟩ := y2 wr BK101.out
       go_wp2
       go_ret
       exact ⟨ER, K1 HB GE101.out⟩
end Go.Proofs.Ytlpmmmhfceeiaaa.PAll
end
section
namespace Go.Proofs.Ytlpmmmhfceeiaaa.PAll
open Go.RowKit Go.Proofs.YtlpmmmhfceeiaaaW.PrintWords Go.Proofs.YtlpmmmhfceeiaaaW.PrintLast Go.Proofs.YtlpmmmhfceeiaaaW.PrintMore
attribute [local go_sem] max2_int min2_int max_two min_two max_three min_three max_four min_four   -- for this text's walks alone
set_option linter.unusedVariables false
set_option linter.unusedSimpArgs false
def spec_WindowOk.l0 : Nat → Int → Int → Int → List Int → Option (Bool)
 | 0, _, _, _, _ => none
 | k + 1, x3, x4, x102000, x102001 => if x4 < x3 then (if 0 ≤ x4 then (if x4 < (x102001.length : Int) then (if (rd x102001 x4) ≤ (wrap64 (x102000 - 16)) then (some false) else (if (rd x102001 x4) < 1 then (some false) else (if x4 > 0 then (if 0 ≤ (wrap64 (x4 - 1)) then (if (wrap64 (x4 - 1)) < (x102001.length : Int) then (if (rd x102001 (wrap64 (x4 - 1))) ≥ (rd x102001 x4) then (some false) else (spec_WindowOk.l0 k x3 (wrap64 (x4 + 1)) x102000 x102001)) else (none)) else (none)) else (spec_WindowOk.l0 k x3 (wrap64 (x4 + 1)) x102000 x102001)))) else (none)) else (none)) else (if 0 ≤ (wrap64 (x3 - 1)) then (if (wrap64 (x3 - 1)) < (x102001.length : Int) then (if (rd x102001 (wrap64 (x3 - 1))) = x102000 then (some (decide (x102000 ≤ 1000000))) else (some false)) else (none)) else (none))
def spec_WindowOk.f (k : Nat) (a0_0 : Int) (l0_1 : List Int) : Option (Bool) := if (l0_1.length : Int) = 0 then (some (a0_0 == 0)) else (spec_WindowOk.l0 k (l0_1.length : Int) 0 a0_0 l0_1)
set_option maxHeartbeats 8000000 in
set_option maxRecDepth 100000 in
theorem spec_WindowOk.calls (k : Nat) (a0_0 : Int) (A0_1 : Option Addr) (c0_1 : Nat) (l0_1 : List Int) (r : Bool) (w : World) (hr0_1 : Kd.C (Kd.int .i64) w A0_1 l0_1.length l0_1) (hc0_1 : l0_1.length ≤ c0_1) (h : spec_WindowOk.f k a0_0 l0_1 = some r) :
  Calls Try.prog 23 #[.agg #[.int .i64 a0_0, .slice A0_1 l0_1.length c0_1]] w fun e w' => e = .returned (.bool r) ∧ Below w.heap.size w w' := by
 have hu31 := Try.underlying31
 have HR0_1 := Aside0.mk hr0_1
 have HC0_1 := Aside0.mk hc0_1
 clear hr0_1 hc0_1
 have HB := am (Below.refl w.heap.size w)
 have H : (if (l0_1.length : Int) = 0 then (some (a0_0 == 0)) else (spec_WindowOk.l0 k (l0_1.length : Int) 0 a0_0 l0_1)) = some r := h
 clear h
 by_cases c2 : (l0_1.length : Int) = 0
 ·rw [if_pos c2] at H
  have c2b0 : ((l0_1.length : Int) == 0) = true := beq_iff_eq.mpr c2
  have c2b1 : ((l0_1.length : Int) != 0) = false := bne_eq_false_iff_eq.mpr c2
  clear c2
  obtain rfl := Option.some.inj H
  go_enter Try.func23, Try.ntmps23
  go_wp2_with (first | ((with_reducible refine gate_dst (N := 1) rfl ?_); refine box_event rfl (N := 1) rfl (cs := #[.int .i64 a0_0, .slice A0_1 l0_1.length c0_1]) (t := 31) BX ?_; intro gb101 hg w3 hbox hb; have BK101 := am (hbox); have GW101 := am (GH HB hg); have GE101 := GW101; replace HB := am (below_step (KL HB) hb); clear hb hbox hg; obtain ⟨hcz4_0, hcz4_1, hfz4_0⟩ := y2 w3 BK101.out))
  repeat (go_quiet (first | ((with_reducible refine gate_dst (N := 1) rfl ?_); refine box_event rfl (N := 1) rfl (cs := #[.int .i64 a0_0, .slice A0_1 l0_1.length c0_1]) (t := 31) BX ?_; intro gb101 hg w3 hbox hb; have BK101 := am (hbox); have GW101 := am (GH HB hg); have GE101 := GW101; replace HB := am (below_step (KL HB) hb); clear hb hbox hg; obtain ⟨hcz4_0, hcz4_1, hfz4_0⟩ := y2 w3 BK101.out)); try go_wp2_with (first | ((with_reducible refine gate_dst (N := 1) rfl ?_); refine box_event rfl (N := 1) rfl (cs := #[.int .i64 a0_0, .slice A0_1 l0_1.length c0_1]) (t := 31) BX ?_; intro gb101 hg w3 hbox hb; have BK101 := am (hbox); have GW101 := am (GH HB hg); have GE101 := GW101; replace HB := am (below_step (KL HB) hb); clear hb hbox hg; obtain ⟨hcz4_0, hcz4_1, hfz4_0⟩ := y2 w3 BK101.out)))
  go_ret
  exact ⟨ER, K1 HB GE101.out⟩
 ·rw [if_neg c2] at H
  have c2b0 : ((l0_1.length : Int) == 0) = false := beq_eq_false_iff_ne.mpr c2
  have c2b1 : ((l0_1.length : Int) != 0) = true := bne_iff_ne.mpr c2
  have c2b2 : ¬ (l0_1 = []) := fun h_ => c2 (by rw [h_]; rfl)
  have H' := Aside0.mk H
  clear H
  go_enter Try.func23, Try.ntmps23
  go_wp2_with (first | ((with_reducible refine gate_dst (N := 1) rfl ?_); refine box_event rfl (N := 1) rfl (cs := #[.int .i64 a0_0, .slice A0_1 l0_1.length c0_1]) (t := 31) BX ?_; intro gb101 hg w5 hbox hb; have BK101 := am (hbox); have GW101 := am (GH HB hg); have GE101 := GW101; replace HB := am (below_step (KL HB) hb); clear hb hbox hg; obtain ⟨hcz6_0, hcz6_1, hfz6_0⟩ := y2 w5 BK101.out))
  repeat (go_quiet (first | ((with_reducible refine gate_dst (N := 1) rfl ?_); refine box_event rfl (N := 1) rfl (cs := #[.int .i64 a0_0, .slice A0_1 l0_1.length c0_1]) (t := 31) BX ?_; intro gb101 hg w5 hbox hb; have BK101 := am (hbox); have GW101 := am (GH HB hg); have GE101 := GW101; replace HB := am (below_step (KL HB) hb); clear hb hbox hg; obtain ⟨hcz6_0, hcz6_1, hfz6_0⟩ := y2 w5 BK101.out)); try go_wp2_with (first | ((with_reducible refine gate_dst (N := 1) rfl ?_); refine box_event rfl (N := 1) rfl (cs := #[.int .i64 a0_0, .slice A0_1 l0_1.length c0_1]) (t := 31) BX ?_; intro gb101 hg w5 hbox hb; have BK101 := am (hbox); have GW101 := am (GH HB hg); have GE101 := GW101; replace HB := am (below_step (KL HB) hb); clear hb hbox hg; obtain ⟨hcz6_0, hcz6_1, hfz6_0⟩ := y2 w5 BK101.out)))
  go_loopg [4] k (fun kq v4 w' => ∃ (x4_1 : Int), v4 = .int .i64 x4_1 ∧ Aside0 (spec_WindowOk.l0 kq (l0_1.length : Int) x4_1 a0_0 l0_1 = some r) ∧ Aside0 (kq ≤ k) ∧ Aside0 (w'.heap[gb101]? = some (.cells #[.int .i64 a0_0, (.slice A0_1 l0_1.length c0_1)] 31 (0, 0))) ∧ Aside0 (Below w.heap.size w w'))
  case atStart => exact ⟨(0), (by first | rfl | (simp; done) | (simp [*]; done)), H', ⟨Nat.le_refl _⟩, ⟨KB BK101⟩, ⟨K1 HB GE101.out⟩⟩
  case round =>
   clear H'
   try clear c2
   try clear c2b0
   try clear c2b1
   try clear c2b2
   try clear p2
   try clear hcz4_0 hcz4_1 hfz4_0
   try clear hcz6_0 hcz6_1 hfz6_0
   obtain ⟨x4_1, rfl, HA, HK1, BK101, HB⟩ := hrel
   cases gk with
   | zero => exact absurd HA.out (by simp [spec_WindowOk.l0])
   | succ k1 =>
    have H := HA.out
    clear HA
    simp only [spec_WindowOk.l0] at H
    by_cases c7 : x4_1 < (l0_1.length : Int)
    ·rw [if_pos c7] at H
     have c7b0 : decide (x4_1 < (l0_1.length : Int)) = true := decide_eq_true c7
     clear c7
     by_cases c8 : 0 ≤ x4_1
     ·rw [if_pos c8] at H
      have c8b0 : decide (0 ≤ x4_1) = true := decide_eq_true c8
      clear c8
      by_cases c9 : x4_1 < (l0_1.length : Int)
      ·rw [if_pos c9] at H
       have c9b0 : decide (x4_1 < (l0_1.length : Int)) = true := decide_eq_true c9
       clear c9
       by_cases c10 : (rd l0_1 x4_1) ≤ (wrap64 (a0_0 - 16))
       ·rw [if_pos c10] at H
        have c10b0 : decide ((rd l0_1 x4_1) ≤ (wrap64 (a0_0 - 16))) = true := decide_eq_true c10
        clear c10
        obtain rfl := Option.some.inj H
        obtain ⟨hcz11_0, hcz11_1, hfz11_0⟩ := y2 wr BK101.out
        have p102 : 0 ≤ (x4_1 : Int) := OD
        have q102 : x4_1 < (l0_1.length : Int) := OD
        obtain ⟨ad102, e102, hx102_0⟩ := Kd.at_int HR0_1.out x4_1 p102 q102
        cases e102
        replace hx102_0 := CX HB.out hx102_0
        replace p102 := eq_true p102
        replace q102 := eq_true q102
        go_wp2
        repeat (go_quiet (fail); try go_wp2)
        go_ret
        exact ⟨ER, K1 HB GE101.out⟩
       ·rw [if_neg c10] at H
        have c10b0 : decide ((rd l0_1 x4_1) ≤ (wrap64 (a0_0 - 16))) = false := decide_eq_false c10
        clear c10
        by_cases c12 : (rd l0_1 x4_1) < 1
        ·rw [if_pos c12] at H
         have c12b0 : decide ((rd l0_1 x4_1) < 1) = true := decide_eq_true c12
         clear c12
         obtain rfl := Option.some.inj H
         obtain ⟨hcz13_0, hcz13_1, hfz13_0⟩ := y2 wr BK101.out
         have p102 : 0 ≤ (x4_1 : Int) := OD
         have q102 : x4_1 < (l0_1.length : Int) := OD
         obtain ⟨ad102, e102, hx102_0⟩ := Kd.at_int HR0_1.out x4_1 p102 q102
         cases e102
         replace hx102_0 := CX HB.out hx102_0
         replace p102 := eq_true p102
         replace q102 := eq_true q102
         have p103 : 0 ≤ (x4_1 : Int) := OD
         have q103 : x4_1 < (l0_1.length : Int) := OD
         obtain ⟨ad103, e103, hx103_0⟩ := Kd.at_int HR0_1.out x4_1 p103 q103
         obtain rfl : ad102 = ad103 := (by injection e103)
         replace hx103_0 := CX HB.out hx103_0
         replace p103 := eq_true p103
         replace q103 := eq_true q103
         go_wp2
         repeat (go_quiet (fail); try go_wp2)
         go_ret
         exact ⟨ER, K1 HB GE101.out⟩
        ·rw [if_neg c12] at H
         have c12b0 : decide ((rd l0_1 x4_1) < 1) = false := decide_eq_false c12
         clear c12
         by_cases c14 : x4_1 > 0
         ·rw [if_pos c14] at H
          have c14b0 : decide (0 < x4_1) = true := decide_eq_true c14
          clear c14
          obtain ⟨ji15, hji15⟩ : ∃ j_ : Int, (wrap64 (x4_1 - 1)) = j_ := ⟨_, rfl⟩
          replace H : (if 0 ≤ (ji15) then (if (ji15) < (l0_1.length : Int) then (if (rd l0_1 (ji15)) ≥ (rd l0_1 x4_1) then (some false) else (spec_WindowOk.l0 k1 (l0_1.length : Int) (wrap64 (x4_1 + 1)) a0_0 l0_1)) else (none)) else (none)) = some r := by first | (rw [hji15] at H; exact H) | (simp only [hji15] at H ⊢; exact H)
          have hji15w : (IntKind.i64.wrap (x4_1 - 1)) = ji15 := (i64_w _).trans hji15
          by_cases c16 : 0 ≤ (ji15)
          ·rw [if_pos c16] at H
           have c16b0 : decide (0 ≤ (ji15)) = true := decide_eq_true c16
           clear c16
           by_cases c17 : (ji15) < (l0_1.length : Int)
           ·rw [if_pos c17] at H
            have c17b0 : decide ((ji15) < (l0_1.length : Int)) = true := decide_eq_true c17
            clear c17
            by_cases c18 : (rd l0_1 (ji15)) ≥ (rd l0_1 x4_1)
            ·rw [if_pos c18] at H
             have c18b0 : decide ((rd l0_1 x4_1) ≤ (rd l0_1 (ji15))) = true := decide_eq_true c18
             clear c18
             obtain rfl := Option.some.inj H
             obtain ⟨hcz19_0, hcz19_1, hfz19_0⟩ := y2 wr BK101.out
             have p102 : 0 ≤ (x4_1 : Int) := OD
             have q102 : x4_1 < (l0_1.length : Int) := OD
             obtain ⟨ad102, e102, hx102_0⟩ := Kd.at_int HR0_1.out x4_1 p102 q102
             cases e102
             replace hx102_0 := CX HB.out hx102_0
             replace p102 := eq_true p102
             replace q102 := eq_true q102
             have p103 : 0 ≤ (x4_1 : Int) := OD
             have q103 : x4_1 < (l0_1.length : Int) := OD
             obtain ⟨ad103, e103, hx103_0⟩ := Kd.at_int HR0_1.out x4_1 p103 q103
             obtain rfl : ad102 = ad103 := (by injection e103)
             replace hx103_0 := CX HB.out hx103_0
             replace p103 := eq_true p103
             replace q103 := eq_true q103
             have p104 : 0 ≤ ((ji15) : Int) := OD
             have q104 : (ji15) < (l0_1.length : Int) := OD
             obtain ⟨ad104, e104, hx104_0⟩ := Kd.at_int HR0_1.out (ji15) p104 q104
             obtain rfl : ad102 = ad104 := (by injection e104)
             replace hx104_0 := CX HB.out hx104_0
             replace p104 := eq_true p104
             replace q104 := eq_true q104
             have p105 : 0 ≤ (x4_1 : Int) := OD
             have q105 : x4_1 < (l0_1.length : Int) := OD
             obtain ⟨ad105, e105, hx105_0⟩ := Kd.at_int HR0_1.out x4_1 p105 q105
             obtain rfl : ad102 = ad105 := (by injection e105)
             replace hx105_0 := CX HB.out hx105_0
             replace p105 := eq_true p105
             replace q105 := eq_true q105
             go_wp2
             repeat (go_quiet (fail); try go_wp2)
             go_ret
             exact ⟨by first | rfl | (simp [errW_none, errW_some] <;> rfl) | (simp only [← hji15]; first | rfl | (simp [errW_none, errW_some] <;> rfl)) | (simp [*, errW_none, errW_some] <;> rfl), K1 HB GE101.out⟩
            ·rw [if_neg c18] at H
             have c18b0 : decide ((rd l0_1 x4_1) ≤ (rd l0_1 (ji15))) = false := decide_eq_false c18
             clear c18
             have H' := Aside0.mk H
             clear H
             obtain ⟨hcz20_0, hcz20_1, hfz20_0⟩ := y2 wr BK101.out
             have p102 : 0 ≤ (x4_1 : Int) := OD
             have q102 : x4_1 < (l0_1.length : Int) := OD
             obtain ⟨ad102, e102, hx102_0⟩ := Kd.at_int HR0_1.out x4_1 p102 q102
             cases e102
             replace hx102_0 := CX HB.out hx102_0
             replace p102 := eq_true p102
             replace q102 := eq_true q102
             have p103 : 0 ≤ (x4_1 : Int) := OD
             have q103 : x4_1 < (l0_1.length : Int) := OD
             obtain ⟨ad103, e103, hx103_0⟩ := Kd.at_int HR0_1.out x4_1 p103 q103
             obtain rfl : ad102 = ad103 := (by injection e103)
             replace hx103_0 := CX HB.out hx103_0
             replace p103 := eq_true p103
             replace q103 := eq_true q103
             have p104 : 0 ≤ ((ji15) : Int) := OD
             have q104 : (ji15) < (l0_1.length : Int) := OD
             obtain ⟨ad104, e104, hx104_0⟩ := Kd.at_int HR0_1.out (ji15) p104 q104
             obtain rfl : ad102 = ad104 := (by injection e104)
             replace hx104_0 := CX HB.out hx104_0
             replace p104 := eq_true p104
             replace q104 := eq_true q104
             have p105 : 0 ≤ (x4_1 : Int) := OD
             have q105 : x4_1 < (l0_1.length : Int) := OD
             obtain ⟨ad105, e105, hx105_0⟩ := Kd.at_int HR0_1.out x4_1 p105 q105
             obtain rfl : ad102 = ad105 := (by injection e105)
             replace hx105_0 := CX HB.out hx105_0
             replace p105 := eq_true p105
             replace q105 := eq_true q105
             go_wp2
             repeat (go_quiet (fail); try go_wp2)
             go_roundg k1
             case measure => have := HK1.out; omega
             case rel => exact ⟨(wrap64 (x4_1 + 1)), (by first | rfl | (simp; done) | (simp [*]; done)), H', ⟨by have := HK1.out; omega⟩, ⟨KB BK101⟩, ⟨K1 HB GE101.out⟩⟩
           ·rw [if_neg c17] at H
            exact absurd H (by simp)
          ·rw [if_neg c16] at H
           exact absurd H (by simp)
         ·rw [if_neg c14] at H
          have c14b0 : decide (0 < x4_1) = false := decide_eq_false c14
          clear c14
          have H' := Aside0.mk H
          clear H
          obtain ⟨hcz21_0, hcz21_1, hfz21_0⟩ := y2 wr BK101.out
          have p102 : 0 ≤ (x4_1 : Int) := OD
          have q102 : x4_1 < (l0_1.length : Int) := OD
          obtain ⟨ad102, e102, hx102_0⟩ := Kd.at_int HR0_1.out x4_1 p102 q102
          cases e102
          replace hx102_0 := CX HB.out hx102_0
          replace p102 := eq_true p102
          replace q102 := eq_true q102
          have p103 : 0 ≤ (x4_1 : Int) := OD
          have q103 : x4_1 < (l0_1.length : Int) := OD
          obtain ⟨ad103, e103, hx103_0⟩ := Kd.at_int HR0_1.out x4_1 p103 q103
          obtain rfl : ad102 = ad103 := (by injection e103)
          replace hx103_0 := CX HB.out hx103_0
          replace p103 := eq_true p103
          replace q103 := eq_true q103
          go_wp2
          repeat (go_quiet (fail); try go_wp2)
          go_roundg k1
          case measure => have := HK1.out; omega
          case rel => exact ⟨(wrap64 (x4_1 + 1)), (by first | rfl | (simp; done) | (simp [*]; done)), H', ⟨by have := HK1.out; omega⟩, ⟨KB BK101⟩, ⟨K1 HB GE101.out⟩⟩
      ·rw [if_neg c9] at H
       exact absurd H (by simp)
     ·rw [if_neg c8] at H
      exact absurd H (by simp)
    ·rw [if_neg c7] at H
     have c7b0 : decide (x4_1 < (l0_1.length : Int)) = false := decide_eq_false c7
     clear c7
     obtain ⟨ji22, hji22⟩ : ∃ j_ : Int, (wrap64 ((l0_1.length : Int) - 1)) = j_ := ⟨_, rfl⟩
     replace H : (if 0 ≤ (ji22) then (if (ji22) < (l0_1.length : Int) then (if (rd l0_1 (ji22)) = a0_0 then (some (decide (a0_0 ≤ 1000000))) else (some false)) else (none)) else (none)) = some r := by first | (rw [hji22] at H; exact H) | (simp only [hji22] at H ⊢; exact H)
     have hji22w : (IntKind.i64.wrap ((l0_1.length : Int) - 1)) = ji22 := (i64_w _).trans hji22
     by_cases c23 : 0 ≤ (ji22)
     ·rw [if_pos c23] at H
      have c23b0 : decide (0 ≤ (ji22)) = true := decide_eq_true c23
      clear c23
      by_cases c24 : (ji22) < (l0_1.length : Int)
      ·rw [if_pos c24] at H
       have c24b0 : decide ((ji22) < (l0_1.length : Int)) = true := decide_eq_true c24
       clear c24
       by_cases c25 : (rd l0_1 (ji22)) = a0_0
       ·rw [if_pos c25] at H
        have c25b0 : ((rd l0_1 (ji22)) == a0_0) = true := beq_iff_eq.mpr c25
        have c25b1 : ((rd l0_1 (ji22)) != a0_0) = false := bne_eq_false_iff_eq.mpr c25
        clear c25
        obtain rfl := Option.some.inj H
        obtain ⟨hcz26_0, hcz26_1, hfz26_0⟩ := y2 wr BK101.out
        have p106 : 0 ≤ ((ji22) : Int) := OD
        have q106 : (ji22) < (l0_1.length : Int) := OD
        obtain ⟨ad106, e106, hx106_0⟩ := Kd.at_int HR0_1.out (ji22) p106 q106
        cases e106
        replace hx106_0 := CX HB.out hx106_0
        replace p106 := eq_true p106
        replace q106 := eq_true q106
        go_wp2
        repeat (go_quiet (fail); try go_wp2)
        go_ret
        exact ⟨by first | rfl | (simp [errW_none, errW_some] <;> rfl) | (simp only [← hji22]; first | rfl | (simp [errW_none, errW_some] <;> rfl)) | (simp [*, errW_none, errW_some] <;> rfl), K1 HB GE101.out⟩
       ·rw [if_neg c25] at H
        have c25b0 : ((rd l0_1 (ji22)) == a0_0) = false := beq_eq_false_iff_ne.mpr c25
        have c25b1 : ((rd l0_1 (ji22)) != a0_0) = true := bne_iff_ne.mpr c25
        obtain rfl := Option.some.inj H
        obtain ⟨hcz27_0, hcz27_1, hfz27_0⟩ := y2 wr BK101.out
        have p106 : 0 ≤ ((ji22) : Int) := OD
        have q106 : (ji22) < (l0_1.length : Int) := OD
        obtain ⟨ad106, e106, hx106_0⟩ := Kd.at_int HR0_1.out (ji22) p106 q106
        cases e106
        replace hx106_0 := CX HB.out hx106_0
        replace p106 := eq_true p106
        replace q106 := eq_true q106
        go_wp2
        repeat (go_quiet (fail); try go_wp2)
        go_ret
        exact ⟨by first | rfl | (simp [errW_none, errW_some] <;> rfl) | (simp only [← hji22]; first | rfl | (simp [errW_none, errW_some] <;> rfl)) | (simp [*, errW_none, errW_some] <;> rfl), K1 HB GE101.out⟩
      ·rw [if_neg c24] at H
       exact absurd H (by simp)
     ·rw [if_neg c23] at H
      exact absurd H (by simp)
def spec_SaOk.f (k : Nat) (a0_0 : Int) (a0_1 : Int) (a0_2 : ByteArray) (a0_3 : ByteArray) (a0_4 : Int) (a0_5 : Int) (a0_6 : Int) (a0_7 : Int) (a0_8 : Int) (a0_9 : Int) (l0_10 : List Int) : Option (Bool) := (spec_l1In.f a0_0 1 999).bind fun t102 => (if t102 = true then ((spec_l1In.f a0_1 0 3).bind fun t103 => (if t103 = true then ((spec_l8Keys.f a0_2 a0_3).bind fun t104 => (if t104 = true then ((spec_l1In.f a0_4 0 1000000).bind fun t105 => (if t105 = true then ((spec_l1In.f a0_5 1 a0_6).bind fun t106 => (if t106 = true then ((spec_l1In.f a0_6 1 1000000).bind fun t107 => (if t107 = true then ((spec_l1In.f a0_7 1 1000000).bind fun t108 => (if t108 = true then ((spec_l1In.f a0_8 0 a0_6).bind fun t109 => (if t109 = true then ((spec_WindowOk.f k a0_9 l0_10).bind fun t110 => (some t110)) else (some false))) else (some false))) else (some false))) else (some false))) else (some false))) else (some false))) else (some false))) else (some false))
set_option maxHeartbeats 8000000 in
set_option maxRecDepth 100000 in
theorem spec_SaOk.calls (k : Nat) (a0_0 : Int) (a0_1 : Int) (a0_2 : ByteArray) (a0_3 : ByteArray) (a0_4 : Int) (a0_5 : Int) (a0_6 : Int) (a0_7 : Int) (a0_8 : Int) (a0_9 : Int) (A0_10 : Option Addr) (c0_10 : Nat) (l0_10 : List Int) (r : Bool) (w : World) (hr0_10 : Kd.C (Kd.int .i64) w A0_10 l0_10.length l0_10) (hc0_10 : l0_10.length ≤ c0_10) (h : spec_SaOk.f k a0_0 a0_1 a0_2 a0_3 a0_4 a0_5 a0_6 a0_7 a0_8 a0_9 l0_10 = some r) :
  Calls Try.prog 61 #[.agg #[.int .i64 a0_0, .int .i64 a0_1, .string a0_2, .string a0_3, .int .i64 a0_4, .int .i64 a0_5, .int .i64 a0_6, .int .i64 a0_7, .int .i64 a0_8, .int .i64 a0_9, .slice A0_10 l0_10.length c0_10]] w fun e w' => e = .returned (.bool r) ∧ Below w.heap.size w w' := by
 have hu95 := Try.underlying95
 have hu31 := Try.underlying31
 have HR0_10 := Aside0.mk hr0_10
 have HC0_10 := Aside0.mk hc0_10
 clear hr0_10 hc0_10
 have HB := am (Below.refl w.heap.size w)
 have H : ((spec_l1In.f a0_0 1 999).bind fun t102 => (if t102 = true then ((spec_l1In.f a0_1 0 3).bind fun t103 => (if t103 = true then ((spec_l8Keys.f a0_2 a0_3).bind fun t104 => (if t104 = true then ((spec_l1In.f a0_4 0 1000000).bind fun t105 => (if t105 = true then ((spec_l1In.f a0_5 1 a0_6).bind fun t106 => (if t106 = true then ((spec_l1In.f a0_6 1 1000000).bind fun t107 => (if t107 = true then ((spec_l1In.f a0_7 1 1000000).bind fun t108 => (if t108 = true then ((spec_l1In.f a0_8 0 a0_6).bind fun t109 => (if t109 = true then ((spec_WindowOk.f k a0_9 l0_10).bind fun t110 => (some t110)) else (some false))) else (some false))) else (some false))) else (some false))) else (some false))) else (some false))) else (some false))) else (some false))) = some r := h
 clear h
 replace H := Option.bind_eq_some_iff.mp H
 obtain ⟨t102, A20, H⟩ := H
 replace H : (if t102 = true then ((spec_l1In.f a0_1 0 3).bind fun t103 => (if t103 = true then ((spec_l8Keys.f a0_2 a0_3).bind fun t104 => (if t104 = true then ((spec_l1In.f a0_4 0 1000000).bind fun t105 => (if t105 = true then ((spec_l1In.f a0_5 1 a0_6).bind fun t106 => (if t106 = true then ((spec_l1In.f a0_6 1 1000000).bind fun t107 => (if t107 = true then ((spec_l1In.f a0_7 1 1000000).bind fun t108 => (if t108 = true then ((spec_l1In.f a0_8 0 a0_6).bind fun t109 => (if t109 = true then ((spec_WindowOk.f k a0_9 l0_10).bind fun t110 => (some t110)) else (some false))) else (some false))) else (some false))) else (some false))) else (some false))) else (some false))) else (some false))) else (some false)) = some r := H
 have A2 := Aside0.mk A20
 clear A20
 by_cases c3 : t102 = true
 ·subst c3
  have H1 : ((spec_l1In.f a0_1 0 3).bind fun t103 => (if t103 = true then ((spec_l8Keys.f a0_2 a0_3).bind fun t104 => (if t104 = true then ((spec_l1In.f a0_4 0 1000000).bind fun t105 => (if t105 = true then ((spec_l1In.f a0_5 1 a0_6).bind fun t106 => (if t106 = true then ((spec_l1In.f a0_6 1 1000000).bind fun t107 => (if t107 = true then ((spec_l1In.f a0_7 1 1000000).bind fun t108 => (if t108 = true then ((spec_l1In.f a0_8 0 a0_6).bind fun t109 => (if t109 = true then ((spec_WindowOk.f k a0_9 l0_10).bind fun t110 => (some t110)) else (some false))) else (some false))) else (some false))) else (some false))) else (some false))) else (some false))) else (some false))) = some r := by rw [if_pos rfl] at H; exact H
  clear H
  have H := H1
  clear H1
  replace H := Option.bind_eq_some_iff.mp H
  obtain ⟨t103, A40, H⟩ := H
  replace H : (if t103 = true then ((spec_l8Keys.f a0_2 a0_3).bind fun t104 => (if t104 = true then ((spec_l1In.f a0_4 0 1000000).bind fun t105 => (if t105 = true then ((spec_l1In.f a0_5 1 a0_6).bind fun t106 => (if t106 = true then ((spec_l1In.f a0_6 1 1000000).bind fun t107 => (if t107 = true then ((spec_l1In.f a0_7 1 1000000).bind fun t108 => (if t108 = true then ((spec_l1In.f a0_8 0 a0_6).bind fun t109 => (if t109 = true then ((spec_WindowOk.f k a0_9 l0_10).bind fun t110 => (some t110)) else (some false))) else (some false))) else (some false))) else (some false))) else (some false))) else (some false))) else (some false)) = some r := H
  have A4 := Aside0.mk A40
  clear A40
  by_cases c5 : t103 = true
  ·subst c5
   have H1 : ((spec_l8Keys.f a0_2 a0_3).bind fun t104 => (if t104 = true then ((spec_l1In.f a0_4 0 1000000).bind fun t105 => (if t105 = true then ((spec_l1In.f a0_5 1 a0_6).bind fun t106 => (if t106 = true then ((spec_l1In.f a0_6 1 1000000).bind fun t107 => (if t107 = true then ((spec_l1In.f a0_7 1 1000000).bind fun t108 => (if t108 = true then ((spec_l1In.f a0_8 0 a0_6).bind fun t109 => (if t109 = true then ((spec_WindowOk.f k a0_9 l0_10).bind fun t110 => (some t110)) else (some false))) else (some false))) else (some false))) else (some false))) else (some false))) else (some false))) = some r := by rw [if_pos rfl] at H; exact H
   clear H
   have H := H1
   clear H1
   replace H := Option.bind_eq_some_iff.mp H
   obtain ⟨t104, A60, H⟩ := H
   replace H : (if t104 = true then ((spec_l1In.f a0_4 0 1000000).bind fun t105 => (if t105 = true then ((spec_l1In.f a0_5 1 a0_6).bind fun t106 => (if t106 = true then ((spec_l1In.f a0_6 1 1000000).bind fun t107 => (if t107 = true then ((spec_l1In.f a0_7 1 1000000).bind fun t108 => (if t108 = true then ((spec_l1In.f a0_8 0 a0_6).bind fun t109 => (if t109 = true then ((spec_WindowOk.f k a0_9 l0_10).bind fun t110 => (some t110)) else (some false))) else (some false))) else (some false))) else (some false))) else (some false))) else (some false)) = some r := H
   have A6 := Aside0.mk A60
   clear A60
   by_cases c7 : t104 = true
   ·subst c7
    have H1 : ((spec_l1In.f a0_4 0 1000000).bind fun t105 => (if t105 = true then ((spec_l1In.f a0_5 1 a0_6).bind fun t106 => (if t106 = true then ((spec_l1In.f a0_6 1 1000000).bind fun t107 => (if t107 = true then ((spec_l1In.f a0_7 1 1000000).bind fun t108 => (if t108 = true then ((spec_l1In.f a0_8 0 a0_6).bind fun t109 => (if t109 = true then ((spec_WindowOk.f k a0_9 l0_10).bind fun t110 => (some t110)) else (some false))) else (some false))) else (some false))) else (some false))) else (some false))) = some r := by rw [if_pos rfl] at H; exact H
    clear H
    have H := H1
    clear H1
    replace H := Option.bind_eq_some_iff.mp H
    obtain ⟨t105, A80, H⟩ := H
    replace H : (if t105 = true then ((spec_l1In.f a0_5 1 a0_6).bind fun t106 => (if t106 = true then ((spec_l1In.f a0_6 1 1000000).bind fun t107 => (if t107 = true then ((spec_l1In.f a0_7 1 1000000).bind fun t108 => (if t108 = true then ((spec_l1In.f a0_8 0 a0_6).bind fun t109 => (if t109 = true then ((spec_WindowOk.f k a0_9 l0_10).bind fun t110 => (some t110)) else (some false))) else (some false))) else (some false))) else (some false))) else (some false)) = some r := H
    have A8 := Aside0.mk A80
    clear A80
    by_cases c9 : t105 = true
    ·subst c9
     have H1 : ((spec_l1In.f a0_5 1 a0_6).bind fun t106 => (if t106 = true then ((spec_l1In.f a0_6 1 1000000).bind fun t107 => (if t107 = true then ((spec_l1In.f a0_7 1 1000000).bind fun t108 => (if t108 = true then ((spec_l1In.f a0_8 0 a0_6).bind fun t109 => (if t109 = true then ((spec_WindowOk.f k a0_9 l0_10).bind fun t110 => (some t110)) else (some false))) else (some false))) else (some false))) else (some false))) = some r := by rw [if_pos rfl] at H; exact H
     clear H
     have H := H1
     clear H1
     replace H := Option.bind_eq_some_iff.mp H
     obtain ⟨t106, A100, H⟩ := H
     replace H : (if t106 = true then ((spec_l1In.f a0_6 1 1000000).bind fun t107 => (if t107 = true then ((spec_l1In.f a0_7 1 1000000).bind fun t108 => (if t108 = true then ((spec_l1In.f a0_8 0 a0_6).bind fun t109 => (if t109 = true then ((spec_WindowOk.f k a0_9 l0_10).bind fun t110 => (some t110)) else (some false))) else (some false))) else (some false))) else (some false)) = some r := H
     have A10 := Aside0.mk A100
     clear A100
     by_cases c11 : t106 = true
     ·subst c11
      have H1 : ((spec_l1In.f a0_6 1 1000000).bind fun t107 => (if t107 = true then ((spec_l1In.f a0_7 1 1000000).bind fun t108 => (if t108 = true then ((spec_l1In.f a0_8 0 a0_6).bind fun t109 => (if t109 = true then ((spec_WindowOk.f k a0_9 l0_10).bind fun t110 => (some t110)) else (some false))) else (some false))) else (some false))) = some r := by rw [if_pos rfl] at H; exact H
      clear H
      have H := H1
      clear H1
      replace H := Option.bind_eq_some_iff.mp H
      obtain ⟨t107, A120, H⟩ := H
      replace H : (if t107 = true then ((spec_l1In.f a0_7 1 1000000).bind fun t108 => (if t108 = true then ((spec_l1In.f a0_8 0 a0_6).bind fun t109 => (if t109 = true then ((spec_WindowOk.f k a0_9 l0_10).bind fun t110 => (some t110)) else (some false))) else (some false))) else (some false)) = some r := H
      have A12 := Aside0.mk A120
      clear A120
      by_cases c13 : t107 = true
      ·subst c13
       have H1 : ((spec_l1In.f a0_7 1 1000000).bind fun t108 => (if t108 = true then ((spec_l1In.f a0_8 0 a0_6).bind fun t109 => (if t109 = true then ((spec_WindowOk.f k a0_9 l0_10).bind fun t110 => (some t110)) else (some false))) else (some false))) = some r := by rw [if_pos rfl] at H; exact H
       clear H
       have H := H1
       clear H1
       replace H := Option.bind_eq_some_iff.mp H
       obtain ⟨t108, A140, H⟩ := H
       replace H : (if t108 = true then ((spec_l1In.f a0_8 0 a0_6).bind fun t109 => (if t109 = true then ((spec_WindowOk.f k a0_9 l0_10).bind fun t110 => (some t110)) else (some false))) else (some false)) = some r := H
       have A14 := Aside0.mk A140
       clear A140
       by_cases c15 : t108 = true
       ·subst c15
        have H1 : ((spec_l1In.f a0_8 0 a0_6).bind fun t109 => (if t109 = true then ((spec_WindowOk.f k a0_9 l0_10).bind fun t110 => (some t110)) else (some false))) = some r := by rw [if_pos rfl] at H; exact H
        clear H
        have H := H1
        clear H1
        replace H := Option.bind_eq_some_iff.mp H
        obtain ⟨t109, A160, H⟩ := H
        replace H : (if t109 = true then ((spec_WindowOk.f k a0_9 l0_10).bind fun t110 => (some t110)) else (some false)) = some r := H
        have A16 := Aside0.mk A160
        clear A160
        by_cases c17 : t109 = true
        ·subst c17
         have H1 : ((spec_WindowOk.f k a0_9 l0_10).bind fun t110 => (some t110)) = some r := by rw [if_pos rfl] at H; exact H
         clear H
         have H := H1
         clear H1
         replace H := Option.bind_eq_some_iff.mp H
         obtain ⟨t110, A180, H⟩ := H
         replace H : (some t110) = some r := H
         have A18 := Aside0.mk A180
         clear A180
         obtain rfl := Option.some.inj H
         go_enter Try.func61, Try.ntmps61
         go_wp2_with (first | ((with_reducible refine gate_dst (N := 1) rfl ?_); refine box_event rfl (N := 1) rfl (cs := #[.int .i64 a0_0, .int .i64 a0_1, .string a0_2, .string a0_3, .int .i64 a0_4, .int .i64 a0_5, .int .i64 a0_6, .int .i64 a0_7, .int .i64 a0_8, .int .i64 a0_9, .slice A0_10 l0_10.length c0_10]) (t := 95) BX ?_; intro gb101 hg w19 hbox hb; have BK101 := am (hbox); have GW101 := am (GH HB hg); have GE101 := GW101; replace HB := am (below_step (KL HB) hb); clear hb hbox hg; obtain ⟨hcz20_0, hcz20_1, hcz20_2, hcz20_3, hcz20_4, hcz20_5, hcz20_6, hcz20_7, hcz20_8, hcz20_9, hcz20_10, hfz20_0⟩ := y11 w19 BK101.out) | ((with_reducible refine gate_callee (f := 59) rfl ?_); refine goesL_ (some 5) rfl rfl Try.func59 (by kernel_rfl) rfl #[.int .i64 a0_0, .int .i64 1, .int .i64 999] rfl MT ?_; (with_reducible refine (spec_l1In.calls a0_0 1 999 true _ A2.out).mono ?_); rintro e w' ⟨rfl, ⟨nd, rfl⟩⟩; refine ⟨_, rfl, ?_⟩) | (go_at_call 59; (with_reducible refine (spec_l1In.calls a0_1 0 3 true _ A4.out).mono ?_); rintro e w' ⟨rfl, ⟨nd, rfl⟩⟩) | (go_at_call 103; (with_reducible refine (spec_l8Keys.calls a0_2 a0_3 true _ A6.out).mono ?_); rintro e w' ⟨rfl, ⟨nd, rfl⟩⟩) | (go_at_call 59; (with_reducible refine (spec_l1In.calls a0_4 0 1000000 true _ A8.out).mono ?_); rintro e w' ⟨rfl, ⟨nd, rfl⟩⟩) | (go_at_call 59; (with_reducible refine (spec_l1In.calls a0_5 1 a0_6 true _ A10.out).mono ?_); rintro e w' ⟨rfl, ⟨nd, rfl⟩⟩) | (go_at_call 59; (with_reducible refine (spec_l1In.calls a0_6 1 1000000 true _ A12.out).mono ?_); rintro e w' ⟨rfl, ⟨nd, rfl⟩⟩) | (go_at_call 59; (with_reducible refine (spec_l1In.calls a0_7 1 1000000 true _ A14.out).mono ?_); rintro e w' ⟨rfl, ⟨nd, rfl⟩⟩) | (go_at_call 59; (with_reducible refine (spec_l1In.calls a0_8 0 a0_6 true _ A16.out).mono ?_); rintro e w' ⟨rfl, ⟨nd, rfl⟩⟩) | (go_at_call 23; (with_reducible refine (spec_WindowOk.calls k a0_9 _ _ l0_10 t110 _ ?side1 ?side2 A18.out).mono ?_); (case side1 => repeat (first | exact (Kd.C_below HR0_10.out (K1 HB GE101.out)) | (with_reducible refine Kd.C_alloc ?_ _) | (with_reducible refine Kd.C_drewN ?_ _) | (with_reducible refine Kd.C_drew ?_))); (case side2 => exact HC0_10.out); rintro e w21 ⟨rfl, hb⟩; replace BK101 := am (BB BK101 hb); replace HB := am (below_step (K1 HB GE101.out) hb); (try clear hb)))
         go_ret
         exact ⟨ER, K1 HB GE101.out⟩
        ·replace c17 := Bool.eq_false_iff.mpr c17
         subst c17
         have H1 : (some false) = some r := by rw [if_neg (show ¬ (false = true) by decide)] at H; exact H
         clear H
         have H := H1
         clear H1
         obtain rfl := Option.some.inj H
         go_enter Try.func61, Try.ntmps61
         go_wp2_with (first | ((with_reducible refine gate_dst (N := 1) rfl ?_); refine box_event rfl (N := 1) rfl (cs := #[.int .i64 a0_0, .int .i64 a0_1, .string a0_2, .string a0_3, .int .i64 a0_4, .int .i64 a0_5, .int .i64 a0_6, .int .i64 a0_7, .int .i64 a0_8, .int .i64 a0_9, .slice A0_10 l0_10.length c0_10]) (t := 95) BX ?_; intro gb101 hg w22 hbox hb; have BK101 := am (hbox); have GW101 := am (GH HB hg); have GE101 := GW101; replace HB := am (below_step (KL HB) hb); clear hb hbox hg; obtain ⟨hcz23_0, hcz23_1, hcz23_2, hcz23_3, hcz23_4, hcz23_5, hcz23_6, hcz23_7, hcz23_8, hcz23_9, hcz23_10, hfz23_0⟩ := y11 w22 BK101.out) | ((with_reducible refine gate_callee (f := 59) rfl ?_); refine goesL_ (some 5) rfl rfl Try.func59 (by kernel_rfl) rfl #[.int .i64 a0_0, .int .i64 1, .int .i64 999] rfl MT ?_; (with_reducible refine (spec_l1In.calls a0_0 1 999 true _ A2.out).mono ?_); rintro e w' ⟨rfl, ⟨nd, rfl⟩⟩; refine ⟨_, rfl, ?_⟩) | (go_at_call 59; (with_reducible refine (spec_l1In.calls a0_1 0 3 true _ A4.out).mono ?_); rintro e w' ⟨rfl, ⟨nd, rfl⟩⟩) | (go_at_call 103; (with_reducible refine (spec_l8Keys.calls a0_2 a0_3 true _ A6.out).mono ?_); rintro e w' ⟨rfl, ⟨nd, rfl⟩⟩) | (go_at_call 59; (with_reducible refine (spec_l1In.calls a0_4 0 1000000 true _ A8.out).mono ?_); rintro e w' ⟨rfl, ⟨nd, rfl⟩⟩) | (go_at_call 59; (with_reducible refine (spec_l1In.calls a0_5 1 a0_6 true _ A10.out).mono ?_); rintro e w' ⟨rfl, ⟨nd, rfl⟩⟩) | (go_at_call 59; (with_reducible refine (spec_l1In.calls a0_6 1 1000000 true _ A12.out).mono ?_); rintro e w' ⟨rfl, ⟨nd, rfl⟩⟩) | (go_at_call 59; (with_reducible refine (spec_l1In.calls a0_7 1 1000000 true _ A14.out).mono ?_); rintro e w' ⟨rfl, ⟨nd, rfl⟩⟩) | (go_at_call 59; (with_reducible refine (spec_l1In.calls a0_8 0 a0_6 false _ A16.out).mono ?_); rintro e w' ⟨rfl, ⟨nd, rfl⟩⟩))
         go_ret
         exact ⟨ER, K1 HB GE101.out⟩
       ·replace c15 := Bool.eq_false_iff.mpr c15
        subst c15
        have H1 : (some false) = some r := by rw [if_neg (show ¬ (false = true) by decide)] at H; exact H
        clear H
        have H := H1
        clear H1
        obtain rfl := Option.some.inj H
        go_enter Try.func61, Try.ntmps61
        go_wp2_with (first | ((with_reducible refine gate_dst (N := 1) rfl ?_); refine box_event rfl (N := 1) rfl (cs := #[.int .i64 a0_0, .int .i64 a0_1, .string a0_2, .string a0_3, .int .i64 a0_4, .int .i64 a0_5, .int .i64 a0_6, .int .i64 a0_7, .int .i64 a0_8, .int .i64 a0_9, .slice A0_10 l0_10.length c0_10]) (t := 95) BX ?_; intro gb101 hg w24 hbox hb; have BK101 := am (hbox); have GW101 := am (GH HB hg); have GE101 := GW101; replace HB := am (below_step (KL HB) hb); clear hb hbox hg; obtain ⟨hcz25_0, hcz25_1, hcz25_2, hcz25_3, hcz25_4, hcz25_5, hcz25_6, hcz25_7, hcz25_8, hcz25_9, hcz25_10, hfz25_0⟩ := y11 w24 BK101.out) | ((with_reducible refine gate_callee (f := 59) rfl ?_); refine goesL_ (some 5) rfl rfl Try.func59 (by kernel_rfl) rfl #[.int .i64 a0_0, .int .i64 1, .int .i64 999] rfl MT ?_; (with_reducible refine (spec_l1In.calls a0_0 1 999 true _ A2.out).mono ?_); rintro e w' ⟨rfl, ⟨nd, rfl⟩⟩; refine ⟨_, rfl, ?_⟩) | (go_at_call 59; (with_reducible refine (spec_l1In.calls a0_1 0 3 true _ A4.out).mono ?_); rintro e w' ⟨rfl, ⟨nd, rfl⟩⟩) | (go_at_call 103; (with_reducible refine (spec_l8Keys.calls a0_2 a0_3 true _ A6.out).mono ?_); rintro e w' ⟨rfl, ⟨nd, rfl⟩⟩) | (go_at_call 59; (with_reducible refine (spec_l1In.calls a0_4 0 1000000 true _ A8.out).mono ?_); rintro e w' ⟨rfl, ⟨nd, rfl⟩⟩) | (go_at_call 59; (with_reducible refine (spec_l1In.calls a0_5 1 a0_6 true _ A10.out).mono ?_); rintro e w' ⟨rfl, ⟨nd, rfl⟩⟩) | (go_at_call 59; (with_reducible refine (spec_l1In.calls a0_6 1 1000000 true _ A12.out).mono ?_); rintro e w' ⟨rfl, ⟨nd, rfl⟩⟩) | (go_at_call 59; (with_reducible refine (spec_l1In.calls a0_7 1 1000000 false _ A14.out).mono ?_); rintro e w' ⟨rfl, ⟨nd, rfl⟩⟩))
        go_ret
        exact ⟨ER, K1 HB GE101.out⟩
      ·replace c13 := Bool.eq_false_iff.mpr c13
       subst c13
       have H1 : (some false) = some r := by rw [if_neg (show ¬ (false = true) by decide)] at H; exact H
       clear H
       have H := H1
       clear H1
       obtain rfl := Option.some.inj H
       go_enter Try.func61, Try.ntmps61
       go_wp2_with (first | ((with_reducible refine gate_dst (N := 1) rfl ?_); refine box_event rfl (N := 1) rfl (cs := #[.int .i64 a0_0, .int .i64 a0_1, .string a0_2, .string a0_3, .int .i64 a0_4, .int .i64 a0_5, .int .i64 a0_6, .int .i64 a0_7, .int .i64 a0_8, .int .i64 a0_9, .slice A0_10 l0_10.length c0_10]) (t := 95) BX ?_; intro gb101 hg w26 hbox hb; have BK101 := am (hbox); have GW101 := am (GH HB hg); have GE101 := GW101; replace HB := am (below_step (KL HB) hb); clear hb hbox hg; obtain ⟨hcz27_0, hcz27_1, hcz27_2, hcz27_3, hcz27_4, hcz27_5, hcz27_6, hcz27_7, hcz27_8, hcz27_9, hcz27_10, hfz27_0⟩ := y11 w26 BK101.out) | ((with_reducible refine gate_callee (f := 59) rfl ?_); refine goesL_ (some 5) rfl rfl Try.func59 (by kernel_rfl) rfl #[.int .i64 a0_0, .int .i64 1, .int .i64 999] rfl MT ?_; (with_reducible refine (spec_l1In.calls a0_0 1 999 true _ A2.out).mono ?_); rintro e w' ⟨rfl, ⟨nd, rfl⟩⟩; refine ⟨_, rfl, ?_⟩) | (go_at_call 59; (with_reducible refine (spec_l1In.calls a0_1 0 3 true _ A4.out).mono ?_); rintro e w' ⟨rfl, ⟨nd, rfl⟩⟩) | (go_at_call 103; (with_reducible refine (spec_l8Keys.calls a0_2 a0_3 true _ A6.out).mono ?_); rintro e w' ⟨rfl, ⟨nd, rfl⟩⟩) | (go_at_call 59; (with_reducible refine (spec_l1In.calls a0_4 0 1000000 true _ A8.out).mono ?_); rintro e w' ⟨rfl, ⟨nd, rfl⟩⟩) | (go_at_call 59; (with_reducible refine (spec_l1In.calls a0_5 1 a0_6 true _ A10.out).mono ?_); rintro e w' ⟨rfl, ⟨nd, rfl⟩⟩) | (go_at_call 59; (with_reducible refine (spec_l1In.calls a0_6 1 1000000 false _ A12.out).mono ?_); rintro e w' ⟨rfl, ⟨nd, rfl⟩⟩))
       go_ret
       exact ⟨ER, K1 HB GE101.out⟩
     ·replace c11 := Bool.eq_false_iff.mpr c11
      subst c11
      have H1 : (some false) = some r := by rw [if_neg (show ¬ (false = true) by decide)] at H; exact H
      clear H
      have H := H1
      clear H1
      obtain rfl := Option.some.inj H
      go_enter Try.func61, Try.ntmps61
      go_wp2_with (first | ((with_reducible refine gate_dst (N := 1) rfl ?_); refine box_event rfl (N := 1) rfl (cs := #[.int .i64 a0_0, .int .i64 a0_1, .string a0_2, .string a0_3, .int .i64 a0_4, .int .i64 a0_5, .int .i64 a0_6, .int .i64 a0_7, .int .i64 a0_8, .int .i64 a0_9, .slice A0_10 l0_10.length c0_10]) (t := 95) BX ?_; intro gb101 hg w28 hbox hb; have BK101 := am (hbox); have GW101 := am (GH HB hg); have GE101 := GW101; replace HB := am (below_step (KL HB) hb); clear hb hbox hg; obtain ⟨hcz29_0, hcz29_1, hcz29_2, hcz29_3, hcz29_4, hcz29_5, hcz29_6, hcz29_7, hcz29_8, hcz29_9, hcz29_10, hfz29_0⟩ := y11 w28 BK101.out) | ((with_reducible refine gate_callee (f := 59) rfl ?_); refine goesL_ (some 5) rfl rfl Try.func59 (by kernel_rfl) rfl #[.int .i64 a0_0, .int .i64 1, .int .i64 999] rfl MT ?_; (with_reducible refine (spec_l1In.calls a0_0 1 999 true _ A2.out).mono ?_); rintro e w' ⟨rfl, ⟨nd, rfl⟩⟩; refine ⟨_, rfl, ?_⟩) | (go_at_call 59; (with_reducible refine (spec_l1In.calls a0_1 0 3 true _ A4.out).mono ?_); rintro e w' ⟨rfl, ⟨nd, rfl⟩⟩) | (go_at_call 103; (with_reducible refine (spec_l8Keys.calls a0_2 a0_3 true _ A6.out).mono ?_); rintro e w' ⟨rfl, ⟨nd, rfl⟩⟩) | (go_at_call 59; (with_reducible refine (spec_l1In.calls a0_4 0 1000000 true _ A8.out).mono ?_); rintro e w' ⟨rfl, ⟨nd, rfl⟩⟩) | (go_at_call 59; (with_reducible refine (spec_l1In.calls a0_5 1 a0_6 false _ A10.out).mono ?_); rintro e w' ⟨rfl, ⟨nd, rfl⟩⟩))
      go_ret
      exact ⟨ER, K1 HB GE101.out⟩
    ·replace c9 := Bool.eq_false_iff.mpr c9
     subst c9
     have H1 : (some false) = some r := by rw [if_neg (show ¬ (false = true) by decide)] at H; exact H
     clear H
     have H := H1
     clear H1
     obtain rfl := Option.some.inj H
     go_enter Try.func61, Try.ntmps61
     go_wp2_with (first | ((with_reducible refine gate_dst (N := 1) rfl ?_); refine box_event rfl (N := 1) rfl (cs := #[.int .i64 a0_0, .int .i64 a0_1, .string a0_2, .string a0_3, .int .i64 a0_4, .int .i64 a0_5, .int .i64 a0_6, .int .i64 a0_7, .int .i64 a0_8, .int .i64 a0_9, .slice A0_10 l0_10.length c0_10]) (t := 95) BX ?_; intro gb101 hg w30 hbox hb; have BK101 := am (hbox); have GW101 := am (GH HB hg); have GE101 := GW101; replace HB := am (below_step (KL HB) hb); clear hb hbox hg; obtain ⟨hcz31_0, hcz31_1, hcz31_2, hcz31_3, hcz31_4, hcz31_5, hcz31_6, hcz31_7, hcz31_8, hcz31_9, hcz31_10, hfz31_0⟩ := y11 w30 BK101.out) | ((with_reducible refine gate_callee (f := 59) rfl ?_); refine goesL_ (some 5) rfl rfl Try.func59 (by kernel_rfl) rfl #[.int .i64 a0_0, .int .i64 1, .int .i64 999] rfl MT ?_; (with_reducible refine (spec_l1In.calls a0_0 1 999 true _ A2.out).mono ?_); rintro e w' ⟨rfl, ⟨nd, rfl⟩⟩; refine ⟨_, rfl, ?_⟩) | (go_at_call 59; (with_reducible refine (spec_l1In.calls a0_1 0 3 true _ A4.out).mono ?_); rintro e w' ⟨rfl, ⟨nd, rfl⟩⟩) | (go_at_call 103; (with_reducible refine (spec_l8Keys.calls a0_2 a0_3 true _ A6.out).mono ?_); rintro e w' ⟨rfl, ⟨nd, rfl⟩⟩) | (go_at_call 59; (with_reducible refine (spec_l1In.calls a0_4 0 1000000 false _ A8.out).mono ?_); rintro e w' ⟨rfl, ⟨nd, rfl⟩⟩))
     go_ret
     exact ⟨ER, K1 HB GE101.out⟩
   ·replace c7 := Bool.eq_false_iff.mpr c7
    subst c7
    have H1 : (some false) = some r := by rw [if_neg (show ¬ (false = true) by decide)] at H; exact H
    clear H
    have H := H1
    clear H1
    obtain rfl := Option.some.inj H
    go_enter Try.func61, Try.ntmps61
    go_wp2_with (first | ((with_reducible refine gate_dst (N := 1) rfl ?_); refine box_event rfl (N := 1) rfl (cs := #[.int .i64 a0_0, .int .i64 a0_1, .string a0_2, .string a0_3, .int .i64 a0_4, .int .i64 a0_5, .int .i64 a0_6, .int .i64 a0_7, .int .i64 a0_8, .int .i64 a0_9, .slice A0_10 l0_10.length c0_10]) (t := 95) BX ?_; intro gb101 hg w32 hbox hb; have BK101 := am (hbox); have GW101 := am (GH HB hg); have GE101 := GW101; replace HB := am (below_step (KL HB) hb); clear hb hbox hg; obtain ⟨hcz33_0, hcz33_1, hcz33_2, hcz33_3, hcz33_4, hcz33_5, hcz33_6, hcz33_7, hcz33_8, hcz33_9, hcz33_10, hfz33_0⟩ := y11 w32 BK101.out) | ((with_reducible refine gate_callee (f := 59) rfl ?_); refine goesL_ (some 5) rfl rfl Try.func59 (by kernel_rfl) rfl #[.int .i64 a0_0, .int .i64 1, .int .i64 999] rfl MT ?_; (with_reducible refine (spec_l1In.calls a0_0 1 999 true _ A2.out).mono ?_); rintro e w' ⟨rfl, ⟨nd, rfl⟩⟩; refine ⟨_, rfl, ?_⟩) | (go_at_call 59; (with_reducible refine (spec_l1In.calls a0_1 0 3 true _ A4.out).mono ?_); rintro e w' ⟨rfl, ⟨nd, rfl⟩⟩) | (go_at_call 103; (with_reducible refine (spec_l8Keys.calls a0_2 a0_3 false _ A6.out).mono ?_); rintro e w' ⟨rfl, ⟨nd, rfl⟩⟩))
    go_ret
    exact ⟨ER, K1 HB GE101.out⟩
  ·replace c5 := Bool.eq_false_iff.mpr c5
   subst c5
   have H1 : (some false) = some r := by rw [if_neg (show ¬ (false = true) by decide)] at H; exact H
   clear H
   have H := H1
   clear H1
   obtain rfl := Option.some.inj H
   go_enter Try.func61, Try.ntmps61
   go_wp2_with (first | ((with_reducible refine gate_dst (N := 1) rfl ?_); refine box_event rfl (N := 1) rfl (cs := #[.int .i64 a0_0, .int .i64 a0_1, .string a0_2, .string a0_3, .int .i64 a0_4, .int .i64 a0_5, .int .i64 a0_6, .int .i64 a0_7, .int .i64 a0_8, .int .i64 a0_9, .slice A0_10 l0_10.length c0_10]) (t := 95) BX ?_; intro gb101 hg w34 hbox hb; have BK101 := am (hbox); have GW101 := am (GH HB hg); have GE101 := GW101; replace HB := am (below_step (KL HB) hb); clear hb hbox hg; obtain ⟨hcz35_0, hcz35_1, hcz35_2, hcz35_3, hcz35_4, hcz35_5, hcz35_6, hcz35_7, hcz35_8, hcz35_9, hcz35_10, hfz35_0⟩ := y11 w34 BK101.out) | ((with_reducible refine gate_callee (f := 59) rfl ?_); refine goesL_ (some 5) rfl rfl Try.func59 (by kernel_rfl) rfl #[.int .i64 a0_0, .int .i64 1, .int .i64 999] rfl MT ?_; (with_reducible refine (spec_l1In.calls a0_0 1 999 true _ A2.out).mono ?_); rintro e w' ⟨rfl, ⟨nd, rfl⟩⟩; refine ⟨_, rfl, ?_⟩) | (go_at_call 59; (with_reducible refine (spec_l1In.calls a0_1 0 3 false _ A4.out).mono ?_); rintro e w' ⟨rfl, ⟨nd, rfl⟩⟩))
   go_ret
   exact ⟨ER, K1 HB GE101.out⟩
 ·replace c3 := Bool.eq_false_iff.mpr c3
  subst c3
  have H1 : (some false) = some r := by rw [if_neg (show ¬ (false = true) by decide)] at H; exact H
  clear H
  have H := H1
  clear H1
  obtain rfl := Option.some.inj H
  go_enter Try.func61, Try.ntmps61
  go_wp2_with (first | ((with_reducible refine gate_dst (N := 1) rfl ?_); refine box_event rfl (N := 1) rfl (cs := #[.int .i64 a0_0, .int .i64 a0_1, .string a0_2, .string a0_3, .int .i64 a0_4, .int .i64 a0_5, .int .i64 a0_6, .int .i64 a0_7, .int .i64 a0_8, .int .i64 a0_9, .slice A0_10 l0_10.length c0_10]) (t := 95) BX ?_; intro gb101 hg w36 hbox hb; have BK101 := am (hbox); have GW101 := am (GH HB hg); have GE101 := GW101; replace HB := am (below_step (KL HB) hb); clear hb hbox hg; obtain ⟨hcz37_0, hcz37_1, hcz37_2, hcz37_3, hcz37_4, hcz37_5, hcz37_6, hcz37_7, hcz37_8, hcz37_9, hcz37_10, hfz37_0⟩ := y11 w36 BK101.out) | ((with_reducible refine gate_callee (f := 59) rfl ?_); refine goesL_ (some 5) rfl rfl Try.func59 (by kernel_rfl) rfl #[.int .i64 a0_0, .int .i64 1, .int .i64 999] rfl MT ?_; (with_reducible refine (spec_l1In.calls a0_0 1 999 false _ A2.out).mono ?_); rintro e w' ⟨rfl, ⟨nd, rfl⟩⟩; refine ⟨_, rfl, ?_⟩))
  go_ret
  exact ⟨ER, K1 HB GE101.out⟩
def spec_PacketOk.f (a0_0 : Int) (a0_1 : Int) (a0_2 : Int) (a0_3 : ByteArray) : Option (Bool) := (spec_l4Call.f a0_0 a0_1 a0_2).bind fun t102 => (if t102 = true then (some (decide ((a0_3.size : Int) ≤ 40))) else (some false))
set_option maxHeartbeats 8000000 in
set_option maxRecDepth 100000 in
theorem spec_PacketOk.calls (a0_0 : Int) (a0_1 : Int) (a0_2 : Int) (a0_3 : ByteArray) (r : Bool) (w : World) (h : spec_PacketOk.f a0_0 a0_1 a0_2 a0_3 = some r) :
  Calls Try.prog 72 #[.agg #[.int .i64 a0_0, .int .i64 a0_1, .int .i64 a0_2, .string a0_3]] w fun e w' => e = .returned (.bool r) ∧ Below w.heap.size w w' := by
 have hu66 := Try.underlying66
 have hu107 := Try.underlying107
 have HB := am (Below.refl w.heap.size w)
 have H : ((spec_l4Call.f a0_0 a0_1 a0_2).bind fun t102 => (if t102 = true then (some (decide ((a0_3.size : Int) ≤ 40))) else (some false))) = some r := h
 clear h
 replace H := Option.bind_eq_some_iff.mp H
 obtain ⟨t102, A20, H⟩ := H
 replace H : (if t102 = true then (some (decide ((a0_3.size : Int) ≤ 40))) else (some false)) = some r := H
 have A2 := Aside0.mk A20
 clear A20
 by_cases c3 : t102 = true
 ·subst c3
  have H1 : (some (decide ((a0_3.size : Int) ≤ 40))) = some r := by rw [if_pos rfl] at H; exact H
  clear H
  have H := H1
  clear H1
  obtain rfl := Option.some.inj H
  go_enter Try.func72, Try.ntmps72
  go_wp2_with (first | ((with_reducible refine gate_dst (N := 1) rfl ?_); (try (refine gate_guard (by rfl) ?_; dsimp only)); refine box_event rfl (N := 1) rfl (cs := #[.int .i64 a0_0, .int .i64 a0_1, .int .i64 a0_2, .string a0_3]) (t := 66) BX ?_; intro gb101 hg w4 hbox hb; have BK101 := am (hbox); have GW101 := am (GH HB hg); have GE101 := GW101; replace HB := am (below_step (KL HB) hb); clear hb hbox hg; obtain ⟨hcz5_0, hcz5_1, hcz5_2, hcz5_3, hfz5_0⟩ := y4 w4 BK101.out) | ((with_reducible refine gate_callee (f := 101) rfl ?_); refine goesL_ (some 10) rfl rfl Try.func101 (by kernel_rfl) rfl #[.agg #[.int .i64 a0_0, .int .i64 a0_1, .int .i64 a0_2]] rfl MT ?_; (with_reducible refine (spec_l4Call.calls a0_0 a0_1 a0_2 true _ A2.out).mono ?_); rintro e w6 ⟨rfl, hb⟩; refine ⟨_, rfl, ?_⟩; replace BK101 := am (BB BK101 hb); replace HB := am (below_step (K1 HB GE101.out) hb); (try clear hb); obtain ⟨hcz7_0, hcz7_1, hcz7_2, hcz7_3, hfz7_0⟩ := y4 w6 BK101.out))
  go_ret
  exact ⟨ER, K1 HB GE101.out⟩
 ·replace c3 := Bool.eq_false_iff.mpr c3
  subst c3
  have H1 : (some false) = some r := by rw [if_neg (show ¬ (false = true) by decide)] at H; exact H
  clear H
  have H := H1
  clear H1
  obtain rfl := Option.some.inj H
  go_enter Try.func72, Try.ntmps72
  go_wp2_with (first | ((with_reducible refine gate_dst (N := 1) rfl ?_); (try (refine gate_guard (by rfl) ?_; dsimp only)); refine box_event rfl (N := 1) rfl (cs := #[.int .i64 a0_0, .int .i64 a0_1, .int .i64 a0_2, .string a0_3]) (t := 66) BX ?_; intro gb101 hg w8 hbox hb; have BK101 := am (hbox); have GW101 := am (GH HB hg); have GE101 := GW101; replace HB := am (below_step (KL HB) hb); clear hb hbox hg; obtain ⟨hcz9_0, hcz9_1, hcz9_2, hcz9_3, hfz9_0⟩ := y4 w8 BK101.out) | ((with_reducible refine gate_callee (f := 101) rfl ?_); refine goesL_ (some 10) rfl rfl Try.func101 (by kernel_rfl) rfl #[.agg #[.int .i64 a0_0, .int .i64 a0_1, .int .i64 a0_2]] rfl MT ?_; (with_reducible refine (spec_l4Call.calls a0_0 a0_1 a0_2 false _ A2.out).mono ?_); rintro e w10 ⟨rfl, hb⟩; refine ⟨_, rfl, ?_⟩; replace BK101 := am (BB BK101 hb); replace HB := am (below_step (K1 HB GE101.out) hb); (try clear hb)))
  go_ret
  exact ⟨ER, K1 HB GE101.out⟩
def spec_l4Does.f (k : Nat) (l0 : List (S141)) (a1_0 : Int) (a1_1 : Int) (a1_2 : Int) : Option (Int × Int) := (spec_l4First.f k l0 a1_0 a1_1 a1_2).bind fun t102 => (if t102 < 0 then (some (0, 0)) else (if 0 ≤ t102 then (if t102 < (l0.length : Int) then (some ((rd_T141 l0 t102).f0, (rd_T141 l0 t102).f1)) else (none)) else (none)))
set_option maxHeartbeats 8000000 in
set_option maxRecDepth 100000 in
theorem spec_l4Does.calls (k : Nat) (A0 : Option Addr) (c0 : Nat) (l0 : List (S141)) (a1_0 : Int) (a1_1 : Int) (a1_2 : Int) (r1 : Int) (r2 : Int) (w : World) (hr0 : Kd.C k141 w A0 l0.length l0) (hc0 : l0.length ≤ c0) (h : spec_l4Does.f k l0 a1_0 a1_1 a1_2 = some (r1, r2)) :
  Calls Try.prog 73 #[.slice A0 l0.length c0, .agg #[.int .i64 a1_0, .int .i64 a1_1, .int .i64 a1_2]] w fun e w' => e = .returned (.tuple #[.int .i64 r1, .int .i64 r2]) ∧ Below w.heap.size w w' := by
 have hu107 := Try.underlying107
 have HR0 := Aside0.mk hr0
 have HC0 := Aside0.mk hc0
 clear hr0 hc0
 have HB := am (Below.refl w.heap.size w)
 have H : ((spec_l4First.f k l0 a1_0 a1_1 a1_2).bind fun t102 => (if t102 < 0 then (some (0, 0)) else (if 0 ≤ t102 then (if t102 < (l0.length : Int) then (some ((rd_T141 l0 t102).f0, (rd_T141 l0 t102).f1)) else (none)) else (none)))) = some (r1, r2) := h
 clear h
 replace H := Option.bind_eq_some_iff.mp H
 obtain ⟨t102, A30, H⟩ := H
 replace H : (if t102 < 0 then (some (0, 0)) else (if 0 ≤ t102 then (if t102 < (l0.length : Int) then (some ((rd_T141 l0 t102).f0, (rd_T141 l0 t102).f1)) else (none)) else (none))) = some (r1, r2) := H
 have A3 := Aside0.mk A30
 clear A30
 by_cases c4 : t102 < 0
 ·rw [if_pos c4] at H
  have c4b0 : decide (t102 < 0) = true := decide_eq_true c4
  clear c4
  simp only [Option.some.injEq, Prod.mk.injEq] at H
  obtain ⟨rfl, rfl⟩ := H
  go_enter Try.func73, Try.ntmps73
  go_wp2_with (first | ((with_reducible refine gate_dst (N := 3) rfl ?_); refine box_event rfl (N := 3) rfl (cs := #[.int .i64 a1_0, .int .i64 a1_1, .int .i64 a1_2]) (t := 107) BX ?_; intro gb101 hg w5 hbox hb; have BK101 := am (hbox); have GW101 := am (GH HB hg); have GE101 := GW101; replace HB := am (below_step (KL HB) hb); clear hb hbox hg; obtain ⟨hcz6_0, hcz6_1, hcz6_2, hfz6_0⟩ := y3 w5 BK101.out) | (go_at_call 102; (with_reducible refine (spec_l4First.calls k _ _ l0 a1_0 a1_1 a1_2 t102 _ ?side1 ?side2 A3.out).mono ?_); (case side1 => exact KD HR0 HB); (case side2 => exact HC0.out); rintro e w7 ⟨rfl, hb⟩; replace BK101 := am (BB BK101 hb); replace HB := am (below_step (K1 HB GE101.out) hb); (try clear hb)))
  repeat (go_quiet (first | ((with_reducible refine gate_dst (N := 3) rfl ?_); refine box_event rfl (N := 3) rfl (cs := #[.int .i64 a1_0, .int .i64 a1_1, .int .i64 a1_2]) (t := 107) BX ?_; intro gb101 hg w5 hbox hb; have BK101 := am (hbox); have GW101 := am (GH HB hg); have GE101 := GW101; replace HB := am (below_step (KL HB) hb); clear hb hbox hg; obtain ⟨hcz6_0, hcz6_1, hcz6_2, hfz6_0⟩ := y3 w5 BK101.out) | (go_at_call 102; (with_reducible refine (spec_l4First.calls k _ _ l0 a1_0 a1_1 a1_2 t102 _ ?side1 ?side2 A3.out).mono ?_); (case side1 => exact KD HR0 HB); (case side2 => exact HC0.out); rintro e w7 ⟨rfl, hb⟩; replace BK101 := am (BB BK101 hb); replace HB := am (below_step (K1 HB GE101.out) hb); (try clear hb))); try go_wp2_with (first | ((with_reducible refine gate_dst (N := 3) rfl ?_); refine box_event rfl (N := 3) rfl (cs := #[.int .i64 a1_0, .int .i64 a1_1, .int .i64 a1_2]) (t := 107) BX ?_; intro gb101 hg w5 hbox hb; have BK101 := am (hbox); have GW101 := am (GH HB hg); have GE101 := GW101; replace HB := am (below_step (KL HB) hb); clear hb hbox hg; obtain ⟨hcz6_0, hcz6_1, hcz6_2, hfz6_0⟩ := y3 w5 BK101.out) | (go_at_call 102; (with_reducible refine (spec_l4First.calls k _ _ l0 a1_0 a1_1 a1_2 t102 _ ?side1 ?side2 A3.out).mono ?_); (case side1 => exact KD HR0 HB); (case side2 => exact HC0.out); rintro e w7 ⟨rfl, hb⟩; replace BK101 := am (BB BK101 hb); replace HB := am (below_step (K1 HB GE101.out) hb); (try clear hb))))
  go_ret2
  exact ⟨ER, K1 HB GE101.out⟩
 ·rw [if_neg c4] at H
  have c4b0 : decide (t102 < 0) = false := decide_eq_false c4
  clear c4
  by_cases c8 : 0 ≤ t102
  ·rw [if_pos c8] at H
   have c8b0 : decide (0 ≤ t102) = true := decide_eq_true c8
   clear c8
   by_cases c9 : t102 < (l0.length : Int)
   ·rw [if_pos c9] at H
    have c9b0 : decide (t102 < (l0.length : Int)) = true := decide_eq_true c9
    clear c9
    simp only [Option.some.injEq, Prod.mk.injEq] at H
    obtain ⟨rfl, rfl⟩ := H
    go_enter Try.func73, Try.ntmps73
    go_wp2_with (first | ((with_reducible refine gate_dst (N := 3) rfl ?_); refine box_event rfl (N := 3) rfl (cs := #[.int .i64 a1_0, .int .i64 a1_1, .int .i64 a1_2]) (t := 107) BX ?_; intro gb101 hg w10 hbox hb; have BK101 := am (hbox); have GW101 := am (GH HB hg); have GE101 := GW101; replace HB := am (below_step (KL HB) hb); clear hb hbox hg; obtain ⟨hcz11_0, hcz11_1, hcz11_2, hfz11_0⟩ := y3 w10 BK101.out) | (go_at_call 102; (with_reducible refine (spec_l4First.calls k _ _ l0 a1_0 a1_1 a1_2 t102 _ ?side1 ?side2 A3.out).mono ?_); (case side1 => exact KD HR0 HB); (case side2 => exact HC0.out); rintro e w12 ⟨rfl, hb⟩; replace BK101 := am (BB BK101 hb); replace HB := am (below_step (K1 HB GE101.out) hb); (try clear hb); have p103 : 0 ≤ (t102 : Int) := OD; have q103 : t102 < (l0.length : Int) := OD; obtain ⟨ad103, e103, hx103_0, hx103_1, hx103_2, hx103_3, hx103_4, hx103_5, hx103_6, hx103_7⟩ := at_T141 HR0.out t102 p103 q103; cases e103; replace hx103_0 := CX HB.out hx103_0; replace hx103_1 := CX HB.out hx103_1; replace hx103_2 := CX HB.out hx103_2; replace hx103_3 := CX HB.out hx103_3; replace hx103_4 := CX HB.out hx103_4; replace hx103_5 := CX HB.out hx103_5; replace hx103_6 := CX HB.out hx103_6; replace hx103_7 := CX HB.out hx103_7; replace p103 := eq_true p103; replace q103 := eq_true q103; have p104 : 0 ≤ (t102 : Int) := OD; have q104 : t102 < (l0.length : Int) := OD; obtain ⟨ad104, e104, hx104_0, hx104_1, hx104_2, hx104_3, hx104_4, hx104_5, hx104_6, hx104_7⟩ := at_T141 HR0.out t102 p104 q104; obtain rfl : ad103 = ad104 := (by injection e104); replace hx104_0 := CX HB.out hx104_0; replace hx104_1 := CX HB.out hx104_1; replace hx104_2 := CX HB.out hx104_2; replace hx104_3 := CX HB.out hx104_3; replace hx104_4 := CX HB.out hx104_4; replace hx104_5 := CX HB.out hx104_5; replace hx104_6 := CX HB.out hx104_6; replace hx104_7 := CX HB.out hx104_7; replace p104 := eq_true p104; replace q104 := eq_true q104))
    repeat (go_quiet (first | ((with_reducible refine gate_dst (N := 3) rfl ?_); refine box_event rfl (N := 3) rfl (cs := #[.int .i64 a1_0, .int .i64 a1_1, .int .i64 a1_2]) (t := 107) BX ?_; intro gb101 hg w10 hbox hb; have BK101 := am (hbox); have GW101 := am (GH HB hg); have GE101 := GW101; replace HB := am (below_step (KL HB) hb); clear hb hbox hg; obtain ⟨hcz11_0, hcz11_1, hcz11_2, hfz11_0⟩ := y3 w10 BK101.out) | (go_at_call 102; (with_reducible refine (spec_l4First.calls k _ _ l0 a1_0 a1_1 a1_2 t102 _ ?side1 ?side2 A3.out).mono ?_); (case side1 => exact KD HR0 HB); (case side2 => exact HC0.out); rintro e w12 ⟨rfl, hb⟩; replace BK101 := am (BB BK101 hb); replace HB := am (below_step (K1 HB GE101.out) hb); (try clear hb); have p103 : 0 ≤ (t102 : Int) := OD; have q103 : t102 < (l0.length : Int) := OD; obtain ⟨ad103, e103, hx103_0, hx103_1, hx103_2, hx103_3, hx103_4, hx103_5, hx103_6, hx103_7⟩ := at_T141 HR0.out t102 p103 q103; cases e103; replace hx103_0 := CX HB.out hx103_0; replace hx103_1 := CX HB.out hx103_1; replace hx103_2 := CX HB.out hx103_2; replace hx103_3 := CX HB.out hx103_3; replace hx103_4 := CX HB.out hx103_4; replace hx103_5 := CX HB.out hx103_5; replace hx103_6 := CX HB.out hx103_6; replace hx103_7 := CX HB.out hx103_7; replace p103 := eq_true p103; replace q103 := eq_true q103; have p104 : 0 ≤ (t102 : Int) := OD; have q104 : t102 < (l0.length : Int) := OD; obtain ⟨ad104, e104, hx104_0, hx104_1, hx104_2, hx104_3, hx104_4, hx104_5, hx104_6, hx104_7⟩ := at_T141 HR0.out t102 p104 q104; obtain rfl : ad103 = ad104 := (by injection e104); replace hx104_0 := CX HB.out hx104_0; replace hx104_1 := CX HB.out hx104_1; replace hx104_2 := CX HB.out hx104_2; replace hx104_3 := CX HB.out hx104_3; replace hx104_4 := CX HB.out hx104_4; replace hx104_5 := CX HB.out hx104_5; replace hx104_6 := CX HB.out hx104_6; replace hx104_7 := CX HB.out hx104_7; replace p104 := eq_true p104; replace q104 := eq_true q104)); try go_wp2_with (first | ((with_reducible refine gate_dst (N := 3) rfl ?_); refine box_event rfl (N := 3) rfl (cs := #[.int .i64 a1_0, .int .i64 a1_1, .int .i64 a1_2]) (t := 107) BX ?_; intro gb101 hg w10 hbox hb; have BK101 := am (hbox); have GW101 := am (GH HB hg); have GE101 := GW101; replace HB := am (below_step (KL HB) hb); clear hb hbox hg; obtain ⟨hcz11_0, hcz11_1, hcz11_2, hfz11_0⟩ := y3 w10 BK101.out) | (go_at_call 102; (with_reducible refine (spec_l4First.calls k _ _ l0 a1_0 a1_1 a1_2 t102 _ ?side1 ?side2 A3.out).mono ?_); (case side1 => exact KD HR0 HB); (case side2 => exact HC0.out); rintro e w12 ⟨rfl, hb⟩; replace BK101 := am (BB BK101 hb); replace HB := am (below_step (K1 HB GE101.out) hb); (try clear hb); have p103 : 0 ≤ (t102 : Int) := OD; have q103 : t102 < (l0.length : Int) := OD; obtain ⟨ad103, e103, hx103_0, hx103_1, hx103_2, hx103_3, hx103_4, hx103_5, hx103_6, hx103_7⟩ := at_T141 HR0.out t102 p103 q103; cases e103; replace hx103_0 := CX HB.out hx103_0; replace hx103_1 := CX HB.out hx103_1; replace hx103_2 := CX HB.out hx103_2; replace hx103_3 := CX HB.out hx103_3; replace hx103_4 := CX HB.out hx103_4; replace hx103_5 := CX HB.out hx103_5; replace hx103_6 := CX HB.out hx103_6; replace hx103_7 := CX HB.out hx103_7; replace p103 := eq_true p103; replace q103 := eq_true q103; have p104 : 0 ≤ (t102 : Int) := OD; have q104 : t102 < (l0.length : Int) := OD; obtain ⟨ad104, e104, hx104_0, hx104_1, hx104_2, hx104_3, hx104_4, hx104_5, hx104_6, hx104_7⟩ := at_T141 HR0.out t102 p104 q104; obtain rfl : ad103 = ad104 := (by injection e104); replace hx104_0 := CX HB.out hx104_0; replace hx104_1 := CX HB.out hx104_1; replace hx104_2 := CX HB.out hx104_2; replace hx104_3 := CX HB.out hx104_3; replace hx104_4 := CX HB.out hx104_4; replace hx104_5 := CX HB.out hx104_5; replace hx104_6 := CX HB.out hx104_6; replace hx104_7 := CX HB.out hx104_7; replace p104 := eq_true p104; replace q104 := eq_true q104)))
    go_ret2
    exact ⟨ER, K1 HB GE101.out⟩
   ·rw [if_neg c9] at H
    exact absurd H (by simp)
  ·rw [if_neg c8] at H
   exact absurd H (by simp)
def spec_l10Call.f (a0_0 : Int) (a0_1 : Int) (a0_2 : Int) (a0_3 : ByteArray) : Option (Int × Int × Int) := some (a0_0, a0_1, a0_2)
set_option maxHeartbeats 8000000 in
set_option maxRecDepth 100000 in
theorem spec_l10Call.calls (a0_0 : Int) (a0_1 : Int) (a0_2 : Int) (a0_3 : ByteArray) (r1 : Int) (r2 : Int) (r3 : Int) (w : World) (h : spec_l10Call.f a0_0 a0_1 a0_2 a0_3 = some (r1, r2, r3)) :
  Calls Try.prog 74 #[.agg #[.int .i64 a0_0, .int .i64 a0_1, .int .i64 a0_2, .string a0_3]] w fun e w' => e = .returned (.agg #[.int .i64 r1, .int .i64 r2, .int .i64 r3]) ∧ Below w.heap.size w w' := by
 have hu66 := Try.underlying66
 have hu107 := Try.underlying107
 have HB := am (Below.refl w.heap.size w)
 have H : (some (a0_0, a0_1, a0_2)) = some (r1, r2, r3) := h
 clear h
 simp only [Option.some.injEq, Prod.mk.injEq] at H
 obtain ⟨rfl, rfl, rfl⟩ := H
 go_enter Try.func74, Try.ntmps74
 go_wp2_with (first | ((with_reducible refine gate_dst (N := 1) rfl ?_); refine box_event rfl (N := 1) rfl (cs := #[.int .i64 a0_0, .int .i64 a0_1, .int .i64 a0_2, .string a0_3]) (t := 66) BX ?_; intro gb101 hg w2 hbox hb; have BK101 := am (hbox); have GW101 := am (GH HB hg); have GE101 := GW101; replace HB := am (below_step (KL HB) hb); clear hb hbox hg) | ((with_reducible refine gate_dst (N := 2) rfl ?_); refine box_event rfl (N := 2) rfl (cs := #[.int .i64 0, .int .i64 0, .int .i64 0]) (t := 107) BX ?_; intro gb102 hg w3 hbox hb; have BK102 := am (hbox); have GW102 := am (GH1 HB GE101.out hg); have GE102 := GW102; replace HB := am (below_step (K1 HB GE101.out) hb); have NB101_102 := am (NL BK101 hg); have NB102_101 := am (NG BK101 hg); replace BK101 := am (BB BK101 hb); clear hb hbox hg; have hnb4 := NB101_102.out; have hnc4 := NB102_101.out; obtain ⟨hcz5_0, hcz5_1, hcz5_2, hcz5_3, hfz5_0⟩ := y4 w3 BK101.out; obtain ⟨hcz6_0, hcz6_1, hcz6_2, hfz6_0⟩ := y3 w3 BK102.out))
 refine bodyPost_ret (results_cell_row rfl _ _ gb102 107 #[.int .i64 a0_0, .int .i64 a0_1, .int .i64 a0_2] (0, 0) _ rfl (by (with_reducible repeat (first | refine blk_drewN ?_ _ | refine blk_drew ?_ | refine blk_alloc ?_ _)); refine blk_put (cs := #[.int .i64 a0_0, .int .i64 a0_1, .int .i64 0]) ?_ 2 _ rfl; (with_reducible repeat (first | refine blk_drewN ?_ _ | refine blk_drew ?_ | refine blk_alloc ?_ _)); refine blk_put (cs := #[.int .i64 a0_0, .int .i64 0, .int .i64 0]) ?_ 1 _ rfl; (with_reducible repeat (first | refine blk_drewN ?_ _ | refine blk_drew ?_ | refine blk_alloc ?_ _)); refine blk_put (cs := #[.int .i64 0, .int .i64 0, .int .i64 0]) ?_ 0 _ rfl; (with_reducible repeat (first | refine blk_drewN ?_ _ | refine blk_drew ?_ | refine blk_alloc ?_ _)); exact BK102.out) Try.underlying107 rfl (by kernel_rfl)) rfl ?_
 exact ⟨ER, K2 HB GE101.out GE102.out⟩
def laws_toPacket.f (a0_0 : Int) (a0_1 : Int) (a0_2 : Int) (a0_3 : ByteArray) : Option (Int × Int × Int × ByteArray) := some (a0_0, a0_1, a0_2, a0_3)
set_option maxHeartbeats 8000000 in
set_option maxRecDepth 100000 in
theorem laws_toPacket.calls (a0_0 : Int) (a0_1 : Int) (a0_2 : Int) (a0_3 : ByteArray) (r1 : Int) (r2 : Int) (r3 : Int) (r4 : ByteArray) (w : World) (h : laws_toPacket.f a0_0 a0_1 a0_2 a0_3 = some (r1, r2, r3, r4)) :
  Calls Try.prog 36 #[.agg #[.int .i64 a0_0, .int .i64 a0_1, .int .i64 a0_2, .string a0_3]] w fun e w' => e = .returned (.agg #[.int .i64 r1, .int .i64 r2, .int .i64 r3, .string r4]) ∧ Below w.heap.size w w' := by
 have hu62 := Try.underlying62
 have hu66 := Try.underlying66
 have HB := am (Below.refl w.heap.size w)
 have H : (some (a0_0, a0_1, a0_2, a0_3)) = some (r1, r2, r3, r4) := h
 clear h
 simp only [Option.some.injEq, Prod.mk.injEq] at H
 obtain ⟨rfl, rfl, rfl, rfl⟩ := H
 go_enter Try.func36, Try.ntmps36
 go_wp2_with (first | ((with_reducible refine gate_dst (N := 1) rfl ?_); refine box_event rfl (N := 1) rfl (cs := #[.int .i64 a0_0, .int .i64 a0_1, .int .i64 a0_2, .string a0_3]) (t := 62) BX ?_; intro gb101 hg w2 hbox hb; have BK101 := am (hbox); have GW101 := am (GH HB hg); have GE101 := GW101; replace HB := am (below_step (KL HB) hb); clear hb hbox hg) | ((with_reducible refine gate_dst (N := 2) rfl ?_); refine box_event rfl (N := 2) rfl (cs := #[.int .i64 0, .int .i64 0, .int .i64 0, .string (⟨#[]⟩ : ByteArray)]) (t := 66) BX ?_; intro gb102 hg w3 hbox hb; have BK102 := am (hbox); have GW102 := am (GH1 HB GE101.out hg); have GE102 := GW102; replace HB := am (below_step (K1 HB GE101.out) hb); have NB101_102 := am (NL BK101 hg); have NB102_101 := am (NG BK101 hg); replace BK101 := am (BB BK101 hb); clear hb hbox hg) | ((with_reducible refine gate_dst (N := 3) rfl ?_); refine box_event rfl (N := 3) rfl (cs := #[.int .i64 0, .int .i64 0, .int .i64 0, .string (⟨#[]⟩ : ByteArray)]) (t := 66) BX ?_; intro gb103 hg w4 hbox hb; have BK103 := am (hbox); have GW103 := am (GH2 HB GE101.out GE102.out hg); have GE103 := GW103; replace HB := am (below_step (K2 HB GE101.out GE102.out) hb); have NB101_103 := am (NL BK101 hg); have NB103_101 := am (NG BK101 hg); replace BK101 := am (BB BK101 hb); have NB102_103 := am (NL BK102 hg); have NB103_102 := am (NG BK102 hg); replace BK102 := am (BB BK102 hb); clear hb hbox hg; have hnb5 := NB101_102.out; have hnc5 := NB102_101.out; have hnb6 := NB101_103.out; have hnc6 := NB103_101.out; obtain ⟨hcz7_0, hcz7_1, hcz7_2, hcz7_3, hfz7_0⟩ := y4 w4 BK101.out; have hnb8 := NB103_102.out; have hnc8 := NB102_103.out; obtain ⟨hcz9_0, hcz9_1, hcz9_2, hcz9_3, hfz9_0⟩ := y4 w4 BK103.out; obtain ⟨hcz10_0, hcz10_1, hcz10_2, hcz10_3, hfz10_0⟩ := y4 w4 BK102.out))
 refine bodyPost_ret (results_cell_row rfl _ _ gb102 66 #[.int .i64 a0_0, .int .i64 a0_1, .int .i64 a0_2, .string a0_3] (0, 0) _ rfl (by (with_reducible repeat (first | refine blk_drewN ?_ _ | refine blk_drew ?_ | refine blk_alloc ?_ _)); refine blk_put (cs := #[.int .i64 a0_0, .int .i64 a0_1, .int .i64 a0_2, .string (⟨#[]⟩ : ByteArray)]) ?_ 3 _ rfl; (with_reducible repeat (first | refine blk_drewN ?_ _ | refine blk_drew ?_ | refine blk_alloc ?_ _)); refine blk_put (cs := #[.int .i64 a0_0, .int .i64 a0_1, .int .i64 0, .string (⟨#[]⟩ : ByteArray)]) ?_ 2 _ rfl; (with_reducible repeat (first | refine blk_drewN ?_ _ | refine blk_drew ?_ | refine blk_alloc ?_ _)); refine blk_put (cs := #[.int .i64 a0_0, .int .i64 0, .int .i64 0, .string (⟨#[]⟩ : ByteArray)]) ?_ 1 _ rfl; (with_reducible repeat (first | refine blk_drewN ?_ _ | refine blk_drew ?_ | refine blk_alloc ?_ _)); refine blk_put (cs := #[.int .i64 0, .int .i64 0, .int .i64 0, .string (⟨#[]⟩ : ByteArray)]) ?_ 0 _ rfl; (with_reducible repeat (first | refine blk_drewN ?_ _ | refine blk_drew ?_ | refine blk_alloc ?_ _)); refine blk_far ?_ NB102_103.out _; (with_reducible repeat (first | refine blk_drewN ?_ _ | refine blk_drew ?_ | refine blk_alloc ?_ _)); refine blk_far ?_ NB102_103.out _; (with_reducible repeat (first | refine blk_drewN ?_ _ | refine blk_drew ?_ | refine blk_alloc ?_ _)); refine blk_far ?_ NB102_103.out _; (with_reducible repeat (first | refine blk_drewN ?_ _ | refine blk_drew ?_ | refine blk_alloc ?_ _)); refine blk_far ?_ NB102_103.out _; (with_reducible repeat (first | refine blk_drewN ?_ _ | refine blk_drew ?_ | refine blk_alloc ?_ _)); exact BK102.out) Try.underlying66 rfl (by kernel_rfl)) rfl ?_
 exact ⟨ER, K3 HB GE101.out GE102.out GE103.out⟩
end Go.Proofs.Ytlpmmmhfceeiaaa.PAll
end
