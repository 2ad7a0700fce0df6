/- Contracts of the functions that the statement reaches, printed by a program out of the translation and joined with the plain laws. -/
import Derived.Test.YtlpmmmhfceeiaaaCFnExactGateOk3
import Derived.Test.YtlpmmmhfceeiaaaCFnExactGateOk4
import Derived.Test.YtlpmmmhfceeiaaaCFnExactGateOk6
section
namespace Go.Proofs.Ytlpmmmhfceeiaaa.PAll
open Go.RowKit Go.Proofs.YtlpmmmhfceeiaaaW.PrintWords Go.Proofs.YtlpmmmhfceeiaaaW.PrintLast Go.Proofs.YtlpmmmhfceeiaaaW.PrintMore
attribute [local go_sem] max2_int min2_int max_two min_two max_three min_three max_four min_four   -- for this text's walks alone
set_option linter.unusedVariables false
set_option linter.unusedSimpArgs false
def impl_Rule_matches.f (a0_0 : Int) (a0_1 : Int) (a0_2 : Int) (a0_3 : Int) (a0_4 : Int) (a0_5 : Int) (a0_6 : Int) (a0_7 : Int) (a1_0 : Int) (a1_1 : Int) (a1_2 : Int) : Option (Bool) := (impl_Block_has.f a0_2 a0_3 a1_0).bind fun t103 => (if t103 = true then ((impl_Block_has.f a0_4 a0_5 a1_1).bind fun t104 => (if t104 = true then ((impl_in.f a1_2 a0_6 a0_7).bind fun t105 => (some t105)) else (some false))) else (some false))
set_option maxHeartbeats 8000000 in
set_option maxRecDepth 100000 in
theorem impl_Rule_matches.calls (a0_0 : Int) (a0_1 : Int) (a0_2 : Int) (a0_3 : Int) (a0_4 : Int) (a0_5 : Int) (a0_6 : Int) (a0_7 : Int) (a1_0 : Int) (a1_1 : Int) (a1_2 : Int) (r : Bool) (w : World) (h : impl_Rule_matches.f a0_0 a0_1 a0_2 a0_3 a0_4 a0_5 a0_6 a0_7 a1_0 a1_1 a1_2 = some r) :
  Calls Try.prog 117 #[.agg #[.int .i64 a0_0, .int .i64 a0_1, .int .i64 a0_2, .int .i64 a0_3, .int .i64 a0_4, .int .i64 a0_5, .int .i64 a0_6, .int .i64 a0_7], .agg #[.int .i64 a1_0, .int .i64 a1_1, .int .i64 a1_2]] w fun e w' => e = .returned (.bool r) ∧ Below w.heap.size w w' := by
 have hu141 := Try.underlying141
 have hu107 := Try.underlying107
 have hu139 := Try.underlying139
 have HB := am (Below.refl w.heap.size w)
 have H : ((impl_Block_has.f a0_2 a0_3 a1_0).bind fun t103 => (if t103 = true then ((impl_Block_has.f a0_4 a0_5 a1_1).bind fun t104 => (if t104 = true then ((impl_in.f a1_2 a0_6 a0_7).bind fun t105 => (some t105)) else (some false))) else (some false))) = some r := h
 clear h
 replace H := Option.bind_eq_some_iff.mp H
 obtain ⟨t103, A30, H⟩ := H
 replace H : (if t103 = true then ((impl_Block_has.f a0_4 a0_5 a1_1).bind fun t104 => (if t104 = true then ((impl_in.f a1_2 a0_6 a0_7).bind fun t105 => (some t105)) else (some false))) else (some false)) = some r := H
 have A3 := Aside0.mk A30
 clear A30
 by_cases c4 : t103 = true
 ·subst c4
  have H1 : ((impl_Block_has.f a0_4 a0_5 a1_1).bind fun t104 => (if t104 = true then ((impl_in.f a1_2 a0_6 a0_7).bind fun t105 => (some t105)) else (some false))) = some r := by rw [if_pos rfl] at H; exact H
  clear H
  have H := H1
  clear H1
  replace H := Option.bind_eq_some_iff.mp H
  obtain ⟨t104, A50, H⟩ := H
  replace H : (if t104 = true then ((impl_in.f a1_2 a0_6 a0_7).bind fun t105 => (some t105)) else (some false)) = some r := H
  have A5 := Aside0.mk A50
  clear A50
  by_cases c6 : t104 = true
  ·subst c6
   have H1 : ((impl_in.f a1_2 a0_6 a0_7).bind fun t105 => (some t105)) = some r := by rw [if_pos rfl] at H; exact H
   clear H
   have H := H1
   clear H1
   replace H := Option.bind_eq_some_iff.mp H
   obtain ⟨t105, A70, H⟩ := H
   replace H : (some t105) = some r := H
   have A7 := Aside0.mk A70
   clear A70
   obtain rfl := Option.some.inj H
   go_enter Try.func117, Try.ntmps117
   go_wp2_with (first | ((with_reducible refine gate_dst (N := 2) rfl ?_); refine box_event rfl (N := 2) rfl (cs := #[.int .i64 a0_0, .int .i64 a0_1, .int .i64 a0_2, .int .i64 a0_3, .int .i64 a0_4, .int .i64 a0_5, .int .i64 a0_6, .int .i64 a0_7]) (t := 141) BX ?_; intro gb101 hg w8 hbox hb; have BK101 := am (hbox); have GW101 := am (GH HB hg); have GE101 := GW101; replace HB := am (below_step (KL HB) hb); clear hb hbox hg) | ((with_reducible refine gate_dst (N := 3) rfl ?_); refine box_event rfl (N := 3) rfl (cs := #[.int .i64 a1_0, .int .i64 a1_1, .int .i64 a1_2]) (t := 107) BX ?_; intro gb102 hg w9 hbox hb; have BK102 := am (hbox); have GW102 := am (GH1 HB GE101.out hg); have GE102 := GW102; replace HB := am (below_step (K1 HB GE101.out) hb); have NB101_102 := am (NL BK101 hg); have NB102_101 := am (NG BK101 hg); replace BK101 := am (BB BK101 hb); clear hb hbox hg; have hnb10 := NB101_102.out; have hnc10 := NB102_101.out; obtain ⟨hcz11_0, hcz11_1, hcz11_2, hcz11_3, hcz11_4, hcz11_5, hcz11_6, hcz11_7, hfz11_0⟩ := y8 w9 BK101.out; obtain ⟨hcz12_0, hcz12_1, hcz12_2, hfz12_0⟩ := y3 w9 BK102.out) | ((with_reducible refine gate_callee (f := 142) rfl ?_); refine goesL_ (some 9) rfl rfl Try.func142 (by kernel_rfl) rfl #[.agg #[.int .i64 a0_2, .int .i64 a0_3], .int .i64 a1_0] rfl MT ?_; (with_reducible refine (impl_Block_has.calls a0_2 a0_3 a1_0 true _ A3.out).mono ?_); rintro e w13 ⟨rfl, hb⟩; refine ⟨_, rfl, ?_⟩; replace BK101 := am (BB BK101 hb); replace BK102 := am (BB BK102 hb); replace HB := am (below_step (K2 HB GE101.out GE102.out) hb); (try clear hb); (try clear hb2); (try clear hk); (try clear hi); obtain ⟨hcz14_0, hcz14_1, hcz14_2, hcz14_3, hcz14_4, hcz14_5, hcz14_6, hcz14_7, hfz14_0⟩ := y8 w13 BK101.out; obtain ⟨hcz15_0, hcz15_1, hcz15_2, hfz15_0⟩ := y3 w13 BK102.out) | (go_at_call 142; (with_reducible refine (impl_Block_has.calls a0_4 a0_5 a1_1 true _ A5.out).mono ?_); rintro e w16 ⟨rfl, hb⟩; replace BK101 := am (BB BK101 hb); replace BK102 := am (BB BK102 hb); replace HB := am (below_step (K2 HB GE101.out GE102.out) hb); (try clear hb); (try clear hb2); (try clear hk); (try clear hi); obtain ⟨hcz17_0, hcz17_1, hcz17_2, hfz17_0⟩ := y3 w16 BK102.out; obtain ⟨hcz18_0, hcz18_1, hcz18_2, hcz18_3, hcz18_4, hcz18_5, hcz18_6, hcz18_7, hfz18_0⟩ := y8 w16 BK101.out) | (go_at_call 49; (with_reducible refine (impl_in.calls a1_2 a0_6 a0_7 t105 _ A7.out).mono ?_); rintro e w' ⟨rfl, ⟨nd, rfl⟩⟩))
   go_ret
   exact ⟨ER, K2 HB GE101.out GE102.out⟩
  ·replace c6 := Bool.eq_false_iff.mpr c6
   subst c6
   have H1 : (some false) = some r := by rw [if_neg (show ¬ (false = true) by decide)] at H; exact H
   clear H
   have H := H1
   clear H1
   obtain rfl := Option.some.inj H
   go_enter Try.func117, Try.ntmps117
   go_wp2_with (first | ((with_reducible refine gate_dst (N := 2) rfl ?_); refine box_event rfl (N := 2) rfl (cs := #[.int .i64 a0_0, .int .i64 a0_1, .int .i64 a0_2, .int .i64 a0_3, .int .i64 a0_4, .int .i64 a0_5, .int .i64 a0_6, .int .i64 a0_7]) (t := 141) BX ?_; intro gb101 hg w19 hbox hb; have BK101 := am (hbox); have GW101 := am (GH HB hg); have GE101 := GW101; replace HB := am (below_step (KL HB) hb); clear hb hbox hg) | ((with_reducible refine gate_dst (N := 3) rfl ?_); refine box_event rfl (N := 3) rfl (cs := #[.int .i64 a1_0, .int .i64 a1_1, .int .i64 a1_2]) (t := 107) BX ?_; intro gb102 hg w20 hbox hb; have BK102 := am (hbox); have GW102 := am (GH1 HB GE101.out hg); have GE102 := GW102; replace HB := am (below_step (K1 HB GE101.out) hb); have NB101_102 := am (NL BK101 hg); have NB102_101 := am (NG BK101 hg); replace BK101 := am (BB BK101 hb); clear hb hbox hg; have hnb21 := NB101_102.out; have hnc21 := NB102_101.out; obtain ⟨hcz22_0, hcz22_1, hcz22_2, hcz22_3, hcz22_4, hcz22_5, hcz22_6, hcz22_7, hfz22_0⟩ := y8 w20 BK101.out; obtain ⟨hcz23_0, hcz23_1, hcz23_2, hfz23_0⟩ := y3 w20 BK102.out) | ((with_reducible refine gate_callee (f := 142) rfl ?_); refine goesL_ (some 9) rfl rfl Try.func142 (by kernel_rfl) rfl #[.agg #[.int .i64 a0_2, .int .i64 a0_3], .int .i64 a1_0] rfl MT ?_; (with_reducible refine (impl_Block_has.calls a0_2 a0_3 a1_0 true _ A3.out).mono ?_); rintro e w24 ⟨rfl, hb⟩; refine ⟨_, rfl, ?_⟩; replace BK101 := am (BB BK101 hb); replace BK102 := am (BB BK102 hb); replace HB := am (below_step (K2 HB GE101.out GE102.out) hb); (try clear hb); (try clear hb2); (try clear hk); (try clear hi); obtain ⟨hcz25_0, hcz25_1, hcz25_2, hcz25_3, hcz25_4, hcz25_5, hcz25_6, hcz25_7, hfz25_0⟩ := y8 w24 BK101.out; obtain ⟨hcz26_0, hcz26_1, hcz26_2, hfz26_0⟩ := y3 w24 BK102.out) | (go_at_call 142; (with_reducible refine (impl_Block_has.calls a0_4 a0_5 a1_1 false _ A5.out).mono ?_); rintro e w27 ⟨rfl, hb⟩; replace BK101 := am (BB BK101 hb); replace BK102 := am (BB BK102 hb); replace HB := am (below_step (K2 HB GE101.out GE102.out) hb); (try clear hb); (try clear hb2); (try clear hk); (try clear hi)))
   go_ret
   exact ⟨ER, K2 HB GE101.out GE102.out⟩
 ·replace c4 := Bool.eq_false_iff.mpr c4
  subst c4
  have H1 : (some false) = some r := by rw [if_neg (show ¬ (false = true) by decide)] at H; exact H
  clear H
  have H := H1
  clear H1
  obtain rfl := Option.some.inj H
  go_enter Try.func117, Try.ntmps117
  go_wp2_with (first | ((with_reducible refine gate_dst (N := 2) rfl ?_); refine box_event rfl (N := 2) rfl (cs := #[.int .i64 a0_0, .int .i64 a0_1, .int .i64 a0_2, .int .i64 a0_3, .int .i64 a0_4, .int .i64 a0_5, .int .i64 a0_6, .int .i64 a0_7]) (t := 141) BX ?_; intro gb101 hg w28 hbox hb; have BK101 := am (hbox); have GW101 := am (GH HB hg); have GE101 := GW101; replace HB := am (below_step (KL HB) hb); clear hb hbox hg) | ((with_reducible refine gate_dst (N := 3) rfl ?_); refine box_event rfl (N := 3) rfl (cs := #[.int .i64 a1_0, .int .i64 a1_1, .int .i64 a1_2]) (t := 107) BX ?_; intro gb102 hg w29 hbox hb; have BK102 := am (hbox); have GW102 := am (GH1 HB GE101.out hg); have GE102 := GW102; replace HB := am (below_step (K1 HB GE101.out) hb); have NB101_102 := am (NL BK101 hg); have NB102_101 := am (NG BK101 hg); replace BK101 := am (BB BK101 hb); clear hb hbox hg; have hnb30 := NB101_102.out; have hnc30 := NB102_101.out; obtain ⟨hcz31_0, hcz31_1, hcz31_2, hcz31_3, hcz31_4, hcz31_5, hcz31_6, hcz31_7, hfz31_0⟩ := y8 w29 BK101.out; obtain ⟨hcz32_0, hcz32_1, hcz32_2, hfz32_0⟩ := y3 w29 BK102.out) | ((with_reducible refine gate_callee (f := 142) rfl ?_); refine goesL_ (some 9) rfl rfl Try.func142 (by kernel_rfl) rfl #[.agg #[.int .i64 a0_2, .int .i64 a0_3], .int .i64 a1_0] rfl MT ?_; (with_reducible refine (impl_Block_has.calls a0_2 a0_3 a1_0 false _ A3.out).mono ?_); rintro e w33 ⟨rfl, hb⟩; refine ⟨_, rfl, ?_⟩; replace BK101 := am (BB BK101 hb); replace BK102 := am (BB BK102 hb); replace HB := am (below_step (K2 HB GE101.out GE102.out) hb); (try clear hb); (try clear hb2); (try clear hk); (try clear hi)))
  go_ret
  exact ⟨ER, K2 HB GE101.out GE102.out⟩
def impl_WindowOk.l0 : Nat → List Int → Int → Int → Int → List Int → Option (Bool)
 | 0, _, _, _, _, _ => none
 | k + 1, x13, x14, x15, x102000, x102001 => if x15 < x14 then (if 0 ≤ x15 then (if x15 < (x13.length : Int) then (if (rd x13 x15) < 1 then (some false) else (if (rd x13 x15) ≤ (wrap64 (x102000 - 16)) then (some false) else (if x15 > 0 then (if 0 ≤ (wrap64 (x15 - 1)) then (if (wrap64 (x15 - 1)) < (x102001.length : Int) then (if (rd x13 x15) ≤ (rd x102001 (wrap64 (x15 - 1))) then (some false) else (impl_WindowOk.l0 k x13 x14 (wrap64 (x15 + 1)) x102000 x102001)) else (none)) else (none)) else (impl_WindowOk.l0 k x13 x14 (wrap64 (x15 + 1)) x102000 x102001)))) else (none)) else (none)) else (if 0 ≤ (wrap64 ((x102001.length : Int) - 1)) then (if (wrap64 ((x102001.length : Int) - 1)) < (x102001.length : Int) then (if (rd x102001 (wrap64 ((x102001.length : Int) - 1))) = x102000 then (some (decide (x102000 ≤ 1000000))) else (some false)) else (none)) else (none))
def impl_WindowOk.f (k : Nat) (a0_0 : Int) (l0_1 : List Int) : Option (Bool) := if (l0_1.length : Int) = 0 then (some (a0_0 == 0)) else (impl_WindowOk.l0 k l0_1 (l0_1.length : Int) 0 a0_0 l0_1)
set_option maxHeartbeats 8000000 in
set_option maxRecDepth 100000 in
theorem impl_WindowOk.calls (k : Nat) (a0_0 : Int) (A0_1 : Option Addr) (c0_1 : Nat) (l0_1 : List Int) (r : Bool) (w : World) (hr0_1 : Kd.C (Kd.int .i64) w A0_1 l0_1.length l0_1) (hc0_1 : l0_1.length ≤ c0_1) (h : impl_WindowOk.f k a0_0 l0_1 = some r) :
  Calls Try.prog 22 #[.agg #[.int .i64 a0_0, .slice A0_1 l0_1.length c0_1]] w fun e w' => e = .returned (.bool r) ∧ Below w.heap.size w w' := by
 have hu31 := Try.underlying31
 have HR0_1 := Aside0.mk hr0_1
 have HC0_1 := Aside0.mk hc0_1
 clear hr0_1 hc0_1
 have HB := am (Below.refl w.heap.size w)
 have H : (if (l0_1.length : Int) = 0 then (some (a0_0 == 0)) else (impl_WindowOk.l0 k l0_1 (l0_1.length : Int) 0 a0_0 l0_1)) = some r := h
 clear h
 by_cases c2 : (l0_1.length : Int) = 0
 ·rw [if_pos c2] at H
  have c2b0 : ((l0_1.length : Int) == 0) = true := beq_iff_eq.mpr c2
  have c2b1 : ((l0_1.length : Int) != 0) = false := bne_eq_false_iff_eq.mpr c2
  clear c2
  obtain rfl := Option.some.inj H
  go_enter Try.func22, Try.ntmps22
  go_wp2_with (first | ((with_reducible refine gate_dst (N := 1) rfl ?_); refine box_event rfl (N := 1) rfl (cs := #[.int .i64 a0_0, .slice A0_1 l0_1.length c0_1]) (t := 31) BX ?_; intro gb101 hg w3 hbox hb; have BK101 := am (hbox); have GW101 := am (GH HB hg); have GE101 := GW101; replace HB := am (below_step (KL HB) hb); clear hb hbox hg; obtain ⟨hcz4_0, hcz4_1, hfz4_0⟩ := y2 w3 BK101.out))
  repeat (go_quiet (first | ((with_reducible refine gate_dst (N := 1) rfl ?_); refine box_event rfl (N := 1) rfl (cs := #[.int .i64 a0_0, .slice A0_1 l0_1.length c0_1]) (t := 31) BX ?_; intro gb101 hg w3 hbox hb; have BK101 := am (hbox); have GW101 := am (GH HB hg); have GE101 := GW101; replace HB := am (below_step (KL HB) hb); clear hb hbox hg; obtain ⟨hcz4_0, hcz4_1, hfz4_0⟩ := y2 w3 BK101.out)); try go_wp2_with (first | ((with_reducible refine gate_dst (N := 1) rfl ?_); refine box_event rfl (N := 1) rfl (cs := #[.int .i64 a0_0, .slice A0_1 l0_1.length c0_1]) (t := 31) BX ?_; intro gb101 hg w3 hbox hb; have BK101 := am (hbox); have GW101 := am (GH HB hg); have GE101 := GW101; replace HB := am (below_step (KL HB) hb); clear hb hbox hg; obtain ⟨hcz4_0, hcz4_1, hfz4_0⟩ := y2 w3 BK101.out)))
  go_ret
  exact ⟨ER, K1 HB GE101.out⟩
 ·rw [if_neg c2] at H
  have c2b0 : ((l0_1.length : Int) == 0) = false := beq_eq_false_iff_ne.mpr c2
  have c2b1 : ((l0_1.length : Int) != 0) = true := bne_iff_ne.mpr c2
  have c2b2 : ¬ (l0_1 = []) := fun h_ => c2 (by rw [h_]; rfl)
  have H' := Aside0.mk H
  clear H
  go_enter Try.func22, Try.ntmps22
  go_wp2_with (first | ((with_reducible refine gate_dst (N := 1) rfl ?_); refine box_event rfl (N := 1) rfl (cs := #[.int .i64 a0_0, .slice A0_1 l0_1.length c0_1]) (t := 31) BX ?_; intro gb101 hg w5 hbox hb; have BK101 := am (hbox); have GW101 := am (GH HB hg); have GE101 := GW101; replace HB := am (below_step (KL HB) hb); clear hb hbox hg; obtain ⟨hcz6_0, hcz6_1, hfz6_0⟩ := y2 w5 BK101.out))
  repeat (go_quiet (first | ((with_reducible refine gate_dst (N := 1) rfl ?_); refine box_event rfl (N := 1) rfl (cs := #[.int .i64 a0_0, .slice A0_1 l0_1.length c0_1]) (t := 31) BX ?_; intro gb101 hg w5 hbox hb; have BK101 := am (hbox); have GW101 := am (GH HB hg); have GE101 := GW101; replace HB := am (below_step (KL HB) hb); clear hb hbox hg; obtain ⟨hcz6_0, hcz6_1, hfz6_0⟩ := y2 w5 BK101.out)); try go_wp2_with (first | ((with_reducible refine gate_dst (N := 1) rfl ?_); refine box_event rfl (N := 1) rfl (cs := #[.int .i64 a0_0, .slice A0_1 l0_1.length c0_1]) (t := 31) BX ?_; intro gb101 hg w5 hbox hb; have BK101 := am (hbox); have GW101 := am (GH HB hg); have GE101 := GW101; replace HB := am (below_step (KL HB) hb); clear hb hbox hg; obtain ⟨hcz6_0, hcz6_1, hfz6_0⟩ := y2 w5 BK101.out)))
  go_loopg [15] k (fun kq v15 w' => ∃ (x15_1 : Int), v15 = .int .i64 x15_1 ∧ Aside0 (impl_WindowOk.l0 kq l0_1 (l0_1.length : Int) x15_1 a0_0 l0_1 = some r) ∧ Aside0 (kq ≤ k) ∧ Aside0 (w'.heap[gb101]? = some (.cells #[.int .i64 a0_0, (.slice A0_1 l0_1.length c0_1)] 31 (0, 0))) ∧ Aside0 (Below w.heap.size w w'))
  case atStart => exact ⟨(0), (by first | rfl | (simp; done) | (simp [*]; done)), H', ⟨Nat.le_refl _⟩, ⟨KB BK101⟩, ⟨K1 HB GE101.out⟩⟩
  case round =>
   clear H'
   try clear c2
   try clear c2b0
   try clear c2b1
   try clear c2b2
   try clear p2
   try clear hcz4_0
   try clear hcz4_1
   try clear hcz6_0
   try clear hcz6_1
   try clear hfz4_0
   try clear hfz6_0
   obtain ⟨x15_1, rfl, HA, HK1, BK101, HB⟩ := hrel
   cases gk with
   | zero => exact absurd HA.out (by simp [impl_WindowOk.l0])
   | succ k1 =>
    have H := HA.out
    clear HA
    simp only [impl_WindowOk.l0] at H
    by_cases c7 : x15_1 < (l0_1.length : Int)
    ·rw [if_pos c7] at H
     have c7b0 : decide (x15_1 < (l0_1.length : Int)) = true := decide_eq_true c7
     clear c7
     by_cases c8 : 0 ≤ x15_1
     ·rw [if_pos c8] at H
      have c8b0 : decide (0 ≤ x15_1) = true := decide_eq_true c8
      clear c8
      by_cases c9 : x15_1 < (l0_1.length : Int)
      ·rw [if_pos c9] at H
       have c9b0 : decide (x15_1 < (l0_1.length : Int)) = true := decide_eq_true c9
       clear c9
       by_cases c10 : (rd l0_1 x15_1) < 1
       ·rw [if_pos c10] at H
        have c10b0 : decide ((rd l0_1 x15_1) < 1) = true := decide_eq_true c10
        clear c10
        obtain rfl := Option.some.inj H
        have p102 : 0 ≤ (x15_1 : Int) := OD
        have q102 : x15_1 < (l0_1.length : Int) := OD
        obtain ⟨ad102, e102, hx102_0⟩ := Kd.at_int HR0_1.out x15_1 p102 q102
        cases e102
        replace hx102_0 := CX HB.out hx102_0
        replace p102 := eq_true p102
        replace q102 := eq_true q102
        go_wp2
        repeat (go_quiet (fail); try go_wp2)
        go_ret
        exact ⟨ER, K1 HB GE101.out⟩
       ·rw [if_neg c10] at H
        have c10b0 : decide ((rd l0_1 x15_1) < 1) = false := decide_eq_false c10
        clear c10
        by_cases c11 : (rd l0_1 x15_1) ≤ (wrap64 (a0_0 - 16))
        ·rw [if_pos c11] at H
         have c11b0 : decide ((rd l0_1 x15_1) ≤ (wrap64 (a0_0 - 16))) = true := decide_eq_true c11
         clear c11
         obtain rfl := Option.some.inj H
         have p102 : 0 ≤ (x15_1 : Int) := OD
         have q102 : x15_1 < (l0_1.length : Int) := OD
         obtain ⟨ad102, e102, hx102_0⟩ := Kd.at_int HR0_1.out x15_1 p102 q102
         cases e102
         replace hx102_0 := CX HB.out hx102_0
         replace p102 := eq_true p102
         replace q102 := eq_true q102
         obtain ⟨hcz12_0, hcz12_1, hfz12_0⟩ := y2 wr BK101.out
         go_wp2
         repeat (go_quiet (fail); try go_wp2)
         go_ret
         exact ⟨ER, K1 HB GE101.out⟩
        ·rw [if_neg c11] at H
         have c11b0 : decide ((rd l0_1 x15_1) ≤ (wrap64 (a0_0 - 16))) = false := decide_eq_false c11
         clear c11
         by_cases c13 : x15_1 > 0
         ·rw [if_pos c13] at H
          have c13b0 : decide (0 < x15_1) = true := decide_eq_true c13
          clear c13
          obtain ⟨ji14, hji14⟩ : ∃ j_ : Int, (wrap64 (x15_1 - 1)) = j_ := ⟨_, rfl⟩
          replace H : (if 0 ≤ (ji14) then (if (ji14) < (l0_1.length : Int) then (if (rd l0_1 x15_1) ≤ (rd l0_1 (ji14)) then (some false) else (impl_WindowOk.l0 k1 l0_1 (l0_1.length : Int) (wrap64 (x15_1 + 1)) a0_0 l0_1)) else (none)) else (none)) = some r := by first | (rw [hji14] at H; exact H) | (simp only [hji14] at H ⊢; exact H)
          have hji14w : (IntKind.i64.wrap (x15_1 - 1)) = ji14 := (i64_w _).trans hji14
          by_cases c15 : 0 ≤ (ji14)
          ·rw [if_pos c15] at H
           have c15b0 : decide (0 ≤ (ji14)) = true := decide_eq_true c15
           clear c15
           by_cases c16 : (ji14) < (l0_1.length : Int)
           ·rw [if_pos c16] at H
            have c16b0 : decide ((ji14) < (l0_1.length : Int)) = true := decide_eq_true c16
            clear c16
            by_cases c17 : (rd l0_1 x15_1) ≤ (rd l0_1 (ji14))
            ·rw [if_pos c17] at H
             have c17b0 : decide ((rd l0_1 x15_1) ≤ (rd l0_1 (ji14))) = true := decide_eq_true c17
             clear c17
             obtain rfl := Option.some.inj H
             have p102 : 0 ≤ (x15_1 : Int) := OD
             have q102 : x15_1 < (l0_1.length : Int) := OD
             obtain ⟨ad102, e102, hx102_0⟩ := Kd.at_int HR0_1.out x15_1 p102 q102
             cases e102
             replace hx102_0 := CX HB.out hx102_0
             replace p102 := eq_true p102
             replace q102 := eq_true q102
             obtain ⟨hcz18_0, hcz18_1, hfz18_0⟩ := y2 wr BK101.out
             have p103 : 0 ≤ ((ji14) : Int) := OD
             have q103 : (ji14) < (l0_1.length : Int) := OD
             obtain ⟨ad103, e103, hx103_0⟩ := Kd.at_int HR0_1.out (ji14) p103 q103
             obtain rfl : ad102 = ad103 := (by injection e103)
             replace hx103_0 := CX HB.out hx103_0
             replace p103 := eq_true p103
             replace q103 := eq_true q103
             go_wp2
             repeat (go_quiet (fail); try go_wp2)
             go_ret
             exact ⟨by first | rfl | (simp [errW_none, errW_some] <;> rfl) | (simp only [← hji14]; first | rfl | (simp [errW_none, errW_some] <;> rfl)) | (simp [*, errW_none, errW_some] <;> rfl), K1 HB GE101.out⟩
            ·rw [if_neg c17] at H
             have c17b0 : decide ((rd l0_1 x15_1) ≤ (rd l0_1 (ji14))) = false := decide_eq_false c17
             clear c17
             have H' := Aside0.mk H
             clear H
             have p102 : 0 ≤ (x15_1 : Int) := OD
             have q102 : x15_1 < (l0_1.length : Int) := OD
             obtain ⟨ad102, e102, hx102_0⟩ := Kd.at_int HR0_1.out x15_1 p102 q102
             cases e102
             replace hx102_0 := CX HB.out hx102_0
             replace p102 := eq_true p102
             replace q102 := eq_true q102
             obtain ⟨hcz19_0, hcz19_1, hfz19_0⟩ := y2 wr BK101.out
             have p103 : 0 ≤ ((ji14) : Int) := OD
             have q103 : (ji14) < (l0_1.length : Int) := OD
             obtain ⟨ad103, e103, hx103_0⟩ := Kd.at_int HR0_1.out (ji14) p103 q103
             obtain rfl : ad102 = ad103 := (by injection e103)
             replace hx103_0 := CX HB.out hx103_0
             replace p103 := eq_true p103
             replace q103 := eq_true q103
             go_wp2
             repeat (go_quiet (fail); try go_wp2)
             go_roundg k1
             case measure => have := HK1.out; omega
             case rel => exact ⟨(wrap64 (x15_1 + 1)), (by first | rfl | (simp; done) | (simp [*]; done)), H', ⟨by have := HK1.out; omega⟩, ⟨KB BK101⟩, ⟨K1 HB GE101.out⟩⟩
           ·rw [if_neg c16] at H
            exact absurd H (by simp)
          ·rw [if_neg c15] at H
           exact absurd H (by simp)
         ·rw [if_neg c13] at H
          have c13b0 : decide (0 < x15_1) = false := decide_eq_false c13
          clear c13
          have H' := Aside0.mk H
          clear H
          have p102 : 0 ≤ (x15_1 : Int) := OD
          have q102 : x15_1 < (l0_1.length : Int) := OD
          obtain ⟨ad102, e102, hx102_0⟩ := Kd.at_int HR0_1.out x15_1 p102 q102
          cases e102
          replace hx102_0 := CX HB.out hx102_0
          replace p102 := eq_true p102
          replace q102 := eq_true q102
          obtain ⟨hcz20_0, hcz20_1, hfz20_0⟩ := y2 wr BK101.out
          go_wp2
          repeat (go_quiet (fail); try go_wp2)
          go_roundg k1
          case measure => have := HK1.out; omega
          case rel => exact ⟨(wrap64 (x15_1 + 1)), (by first | rfl | (simp; done) | (simp [*]; done)), H', ⟨by have := HK1.out; omega⟩, ⟨KB BK101⟩, ⟨K1 HB GE101.out⟩⟩
      ·rw [if_neg c9] at H
       exact absurd H (by simp)
     ·rw [if_neg c8] at H
      exact absurd H (by simp)
    ·rw [if_neg c7] at H
     have c7b0 : decide (x15_1 < (l0_1.length : Int)) = false := decide_eq_false c7
     clear c7
     obtain ⟨ji21, hji21⟩ : ∃ j_ : Int, (wrap64 ((l0_1.length : Int) - 1)) = j_ := ⟨_, rfl⟩
     replace H : (if 0 ≤ (ji21) then (if (ji21) < (l0_1.length : Int) then (if (rd l0_1 (ji21)) = a0_0 then (some (decide (a0_0 ≤ 1000000))) else (some false)) else (none)) else (none)) = some r := by first | (rw [hji21] at H; exact H) | (simp only [hji21] at H ⊢; exact H)
     have hji21w : (IntKind.i64.wrap ((l0_1.length : Int) - 1)) = ji21 := (i64_w _).trans hji21
     by_cases c22 : 0 ≤ (ji21)
     ·rw [if_pos c22] at H
      have c22b0 : decide (0 ≤ (ji21)) = true := decide_eq_true c22
      clear c22
      by_cases c23 : (ji21) < (l0_1.length : Int)
      ·rw [if_pos c23] at H
       have c23b0 : decide ((ji21) < (l0_1.length : Int)) = true := decide_eq_true c23
       clear c23
       by_cases c24 : (rd l0_1 (ji21)) = a0_0
       ·rw [if_pos c24] at H
        have c24b0 : ((rd l0_1 (ji21)) == a0_0) = true := beq_iff_eq.mpr c24
        have c24b1 : ((rd l0_1 (ji21)) != a0_0) = false := bne_eq_false_iff_eq.mpr c24
        clear c24
        obtain rfl := Option.some.inj H
        obtain ⟨hcz25_0, hcz25_1, hfz25_0⟩ := y2 wr BK101.out
        have p104 : 0 ≤ ((ji21) : Int) := OD
        have q104 : (ji21) < (l0_1.length : Int) := OD
        obtain ⟨ad104, e104, hx104_0⟩ := Kd.at_int HR0_1.out (ji21) p104 q104
        cases e104
        replace hx104_0 := CX HB.out hx104_0
        replace p104 := eq_true p104
        replace q104 := eq_true q104
        go_wp2
        repeat (go_quiet (fail); try go_wp2)
        go_ret
        exact ⟨by first | rfl | (simp [errW_none, errW_some] <;> rfl) | (simp only [← hji21]; first | rfl | (simp [errW_none, errW_some] <;> rfl)) | (simp [*, errW_none, errW_some] <;> rfl), K1 HB GE101.out⟩
       ·rw [if_neg c24] at H
        have c24b0 : ((rd l0_1 (ji21)) == a0_0) = false := beq_eq_false_iff_ne.mpr c24
        have c24b1 : ((rd l0_1 (ji21)) != a0_0) = true := bne_iff_ne.mpr c24
        obtain rfl := Option.some.inj H
        obtain ⟨hcz26_0, hcz26_1, hfz26_0⟩ := y2 wr BK101.out
        have p104 : 0 ≤ ((ji21) : Int) := OD
        have q104 : (ji21) < (l0_1.length : Int) := OD
        obtain ⟨ad104, e104, hx104_0⟩ := Kd.at_int HR0_1.out (ji21) p104 q104
        cases e104
        replace hx104_0 := CX HB.out hx104_0
        replace p104 := eq_true p104
        replace q104 := eq_true q104
        go_wp2
        repeat (go_quiet (fail); try go_wp2)
        go_ret
        exact ⟨by first | rfl | (simp [errW_none, errW_some] <;> rfl) | (simp only [← hji21]; first | rfl | (simp [errW_none, errW_some] <;> rfl)) | (simp [*, errW_none, errW_some] <;> rfl), K1 HB GE101.out⟩
      ·rw [if_neg c23] at H
       exact absurd H (by simp)
     ·rw [if_neg c22] at H
      exact absurd H (by simp)
def impl_SaOk.j0 : Nat → Bool → Int → Int → ByteArray → ByteArray → Int → Int → Int → Int → Int → Int → List Int → Option (Bool)
 | 0, _, _, _, _, _, _, _, _, _, _, _, _ => none
 | k + 1, x3, x102000, x102001, x102002, x102003, x102004, x102005, x102006, x102007, x102008, x102009, x102010 => (impl_in.f x102004 0 1000000).bind fun t105 => (if t105 = true then ((impl_in.f x102006 1 1000000).bind fun t106 => (if t106 = true then ((impl_in.f x102005 1 x102006).bind fun t107 => (if t107 = true then ((impl_in.f x102007 1 1000000).bind fun t108 => (if x3 = true then (if t108 = true then ((impl_in.f x102008 0 x102006).bind fun t109 => (if t109 = true then ((impl_WindowOk.f k x102009 x102010).bind fun t110 => (some t110)) else (some false))) else (some false)) else (some false))) else (if x3 = true then (some false) else (some false)))) else (if x3 = true then (some false) else (some false)))) else (if x3 = true then (some false) else (some false)))
def impl_SaOk.f (k : Nat) (a0_0 : Int) (a0_1 : Int) (a0_2 : ByteArray) (a0_3 : ByteArray) (a0_4 : Int) (a0_5 : Int) (a0_6 : Int) (a0_7 : Int) (a0_8 : Int) (a0_9 : Int) (l0_10 : List Int) : Option (Bool) := (impl_in.f a0_0 1 999).bind fun t102 => (if t102 = true then ((impl_in.f a0_1 0 3).bind fun t103 => (if t103 = true then ((impl_keysOk.f a0_2 a0_3).bind fun t104 => (impl_SaOk.j0 k t104 a0_0 a0_1 a0_2 a0_3 a0_4 a0_5 a0_6 a0_7 a0_8 a0_9 l0_10)) else (impl_SaOk.j0 k false a0_0 a0_1 a0_2 a0_3 a0_4 a0_5 a0_6 a0_7 a0_8 a0_9 l0_10))) else (impl_SaOk.j0 k false a0_0 a0_1 a0_2 a0_3 a0_4 a0_5 a0_6 a0_7 a0_8 a0_9 l0_10))
set_option maxHeartbeats 8000000 in
set_option maxRecDepth 100000 in
theorem impl_SaOk.calls (k : Nat) (a0_0 : Int) (a0_1 : Int) (a0_2 : ByteArray) (a0_3 : ByteArray) (a0_4 : Int) (a0_5 : Int) (a0_6 : Int) (a0_7 : Int) (a0_8 : Int) (a0_9 : Int) (A0_10 : Option Addr) (c0_10 : Nat) (l0_10 : List Int) (r : Bool) (w : World) (hr0_10 : Kd.C (Kd.int .i64) w A0_10 l0_10.length l0_10) (hc0_10 : l0_10.length ≤ c0_10) (h : impl_SaOk.f k a0_0 a0_1 a0_2 a0_3 a0_4 a0_5 a0_6 a0_7 a0_8 a0_9 l0_10 = some r) :
  Calls Try.prog 111 #[.agg #[.int .i64 a0_0, .int .i64 a0_1, .string a0_2, .string a0_3, .int .i64 a0_4, .int .i64 a0_5, .int .i64 a0_6, .int .i64 a0_7, .int .i64 a0_8, .int .i64 a0_9, .slice A0_10 l0_10.length c0_10]] w fun e w' => e = .returned (.bool r) ∧ Below w.heap.size w w' := by
 have hu95 := Try.underlying95
 have hu31 := Try.underlying31
 have HR0_10 := Aside0.mk hr0_10
 have HC0_10 := Aside0.mk hc0_10
 clear hr0_10 hc0_10
 have HB := am (Below.refl w.heap.size w)
 have H : ((impl_in.f a0_0 1 999).bind fun t102 => (if t102 = true then ((impl_in.f a0_1 0 3).bind fun t103 => (if t103 = true then ((impl_keysOk.f a0_2 a0_3).bind fun t104 => (impl_SaOk.j0 k t104 a0_0 a0_1 a0_2 a0_3 a0_4 a0_5 a0_6 a0_7 a0_8 a0_9 l0_10)) else (impl_SaOk.j0 k false a0_0 a0_1 a0_2 a0_3 a0_4 a0_5 a0_6 a0_7 a0_8 a0_9 l0_10))) else (impl_SaOk.j0 k false a0_0 a0_1 a0_2 a0_3 a0_4 a0_5 a0_6 a0_7 a0_8 a0_9 l0_10))) = some r := h
 clear h
 have HC2 := Aside0.mk H
 clear H
 go_enter Try.func111, Try.ntmps111
 go_upto_region 1 with (first | ((with_reducible refine gate_dst (N := 1) rfl ?_); refine box_event rfl (N := 1) rfl (cs := #[.int .i64 a0_0, .int .i64 a0_1, .string a0_2, .string a0_3, .int .i64 a0_4, .int .i64 a0_5, .int .i64 a0_6, .int .i64 a0_7, .int .i64 a0_8, .int .i64 a0_9, .slice A0_10 l0_10.length c0_10]) (t := 95) BX ?_; intro gb101 hg w3 hbox hb; have BK101 := am (hbox); have GW101 := am (GH HB hg); have GE101 := GW101; replace HB := am (below_step (KL HB) hb); clear hb hbox hg))
 (try simp only [Act.put, List.setIfInBounds_toArray, List.set_cons_zero, List.set_cons_succ])
 go_cut [3] (fun v3 wc => ∃ (kq : Nat) (x3_1 : Bool), v3 = .bool x3_1 ∧ Aside0 (impl_SaOk.j0 kq x3_1 a0_0 a0_1 a0_2 a0_3 a0_4 a0_5 a0_6 a0_7 a0_8 a0_9 l0_10 = some r) ∧ Aside0 (kq ≤ k) ∧ Aside0 (wc.heap[gb101]? = some (.cells #[.int .i64 a0_0, .int .i64 a0_1, .string a0_2, .string a0_3, .int .i64 a0_4, .int .i64 a0_5, .int .i64 a0_6, .int .i64 a0_7, .int .i64 a0_8, .int .i64 a0_9, (.slice A0_10 l0_10.length c0_10)] 95 (0, 0))) ∧ Aside0 (Below w.heap.size w wc))
 case first =>
  have H := HC2.out
  clear HC2
  replace H := Option.bind_eq_some_iff.mp H
  obtain ⟨t102, A40, H⟩ := H
  replace H : (if t102 = true then ((impl_in.f a0_1 0 3).bind fun t103 => (if t103 = true then ((impl_keysOk.f a0_2 a0_3).bind fun t104 => (impl_SaOk.j0 k t104 a0_0 a0_1 a0_2 a0_3 a0_4 a0_5 a0_6 a0_7 a0_8 a0_9 l0_10)) else (impl_SaOk.j0 k false a0_0 a0_1 a0_2 a0_3 a0_4 a0_5 a0_6 a0_7 a0_8 a0_9 l0_10))) else (impl_SaOk.j0 k false a0_0 a0_1 a0_2 a0_3 a0_4 a0_5 a0_6 a0_7 a0_8 a0_9 l0_10)) = some r := H
  have A4 := Aside0.mk A40
  clear A40
  by_cases c5 : t102 = true
  ·subst c5
   have H1 : ((impl_in.f a0_1 0 3).bind fun t103 => (if t103 = true then ((impl_keysOk.f a0_2 a0_3).bind fun t104 => (impl_SaOk.j0 k t104 a0_0 a0_1 a0_2 a0_3 a0_4 a0_5 a0_6 a0_7 a0_8 a0_9 l0_10)) else (impl_SaOk.j0 k false a0_0 a0_1 a0_2 a0_3 a0_4 a0_5 a0_6 a0_7 a0_8 a0_9 l0_10))) = some r := by rw [if_pos rfl] at H; exact H
   clear H
   have H := H1
   clear H1
   replace H := Option.bind_eq_some_iff.mp H
   obtain ⟨t103, A60, H⟩ := H
   replace H : (if t103 = true then ((impl_keysOk.f a0_2 a0_3).bind fun t104 => (impl_SaOk.j0 k t104 a0_0 a0_1 a0_2 a0_3 a0_4 a0_5 a0_6 a0_7 a0_8 a0_9 l0_10)) else (impl_SaOk.j0 k false a0_0 a0_1 a0_2 a0_3 a0_4 a0_5 a0_6 a0_7 a0_8 a0_9 l0_10)) = some r := H
   have A6 := Aside0.mk A60
   clear A60
   by_cases c7 : t103 = true
   ·subst c7
    have H1 : ((impl_keysOk.f a0_2 a0_3).bind fun t104 => (impl_SaOk.j0 k t104 a0_0 a0_1 a0_2 a0_3 a0_4 a0_5 a0_6 a0_7 a0_8 a0_9 l0_10)) = some r := by rw [if_pos rfl] at H; exact H
    clear H
    have H := H1
    clear H1
    replace H := Option.bind_eq_some_iff.mp H
    obtain ⟨t104, A80, H⟩ := H
    replace H : (impl_SaOk.j0 k t104 a0_0 a0_1 a0_2 a0_3 a0_4 a0_5 a0_6 a0_7 a0_8 a0_9 l0_10) = some r := H
    have A8 := Aside0.mk A80
    clear A80
    have H' := Aside0.mk H
    clear H
    obtain ⟨hcz9_0, hcz9_1, hcz9_2, hcz9_3, hcz9_4, hcz9_5, hcz9_6, hcz9_7, hcz9_8, hcz9_9, hcz9_10, hfz9_0⟩ := y11 w3 BK101.out
    go_wp2_with (first | ((with_reducible refine gate_callee (f := 49) rfl ?_); refine goesL_ (some 7) rfl rfl Try.func49 (by kernel_rfl) rfl #[.int .i64 a0_0, .int .i64 1, .int .i64 999] rfl MT ?_; (with_reducible refine (impl_in.calls a0_0 1 999 true _ A4.out).mono ?_); rintro e w' ⟨rfl, ⟨nd, rfl⟩⟩; refine ⟨_, rfl, ?_⟩) | (go_at_call 49; (with_reducible refine (impl_in.calls a0_1 0 3 true _ A6.out).mono ?_); rintro e w' ⟨rfl, ⟨nd, rfl⟩⟩) | (go_at_call 139; (with_reducible refine (impl_keysOk.calls a0_2 a0_3 t104 _ A8.out).mono ?_); rintro e w' ⟨rfl, ⟨nd, rfl⟩⟩))
    go_meet
    case rel => exact ⟨_, (t104), (by first | rfl | (simp; done) | (simp [*]; done)), H', ⟨by first | omega | exact Nat.le_refl _⟩, ⟨KB BK101⟩, ⟨K1 HB GE101.out⟩⟩
   ·replace c7 := Bool.eq_false_iff.mpr c7
    subst c7
    have H1 : (impl_SaOk.j0 k false a0_0 a0_1 a0_2 a0_3 a0_4 a0_5 a0_6 a0_7 a0_8 a0_9 l0_10) = some r := by rw [if_neg (show ¬ (false = true) by decide)] at H; exact H
    clear H
    have H := H1
    clear H1
    have H' := Aside0.mk H
    clear H
    obtain ⟨hcz10_0, hcz10_1, hcz10_2, hcz10_3, hcz10_4, hcz10_5, hcz10_6, hcz10_7, hcz10_8, hcz10_9, hcz10_10, hfz10_0⟩ := y11 w3 BK101.out
    go_wp2_with (first | ((with_reducible refine gate_callee (f := 49) rfl ?_); refine goesL_ (some 7) rfl rfl Try.func49 (by kernel_rfl) rfl #[.int .i64 a0_0, .int .i64 1, .int .i64 999] rfl MT ?_; (with_reducible refine (impl_in.calls a0_0 1 999 true _ A4.out).mono ?_); rintro e w' ⟨rfl, ⟨nd, rfl⟩⟩; refine ⟨_, rfl, ?_⟩) | (go_at_call 49; (with_reducible refine (impl_in.calls a0_1 0 3 false _ A6.out).mono ?_); rintro e w' ⟨rfl, ⟨nd, rfl⟩⟩))
    go_meet
    case rel => exact ⟨_, (false), (by first | rfl | (simp; done) | (simp [*]; done)), H', ⟨by first | omega | exact Nat.le_refl _⟩, ⟨KB BK101⟩, ⟨K1 HB GE101.out⟩⟩
  ·replace c5 := Bool.eq_false_iff.mpr c5
   subst c5
   have H1 : (impl_SaOk.j0 k false a0_0 a0_1 a0_2 a0_3 a0_4 a0_5 a0_6 a0_7 a0_8 a0_9 l0_10) = some r := by rw [if_neg (show ¬ (false = true) by decide)] at H; exact H
   clear H
   have H := H1
   clear H1
   have H' := Aside0.mk H
   clear H
   obtain ⟨hcz11_0, hcz11_1, hcz11_2, hcz11_3, hcz11_4, hcz11_5, hcz11_6, hcz11_7, hcz11_8, hcz11_9, hcz11_10, hfz11_0⟩ := y11 w3 BK101.out
   go_wp2_with (first | ((with_reducible refine gate_callee (f := 49) rfl ?_); refine goesL_ (some 7) rfl rfl Try.func49 (by kernel_rfl) rfl #[.int .i64 a0_0, .int .i64 1, .int .i64 999] rfl MT ?_; (with_reducible refine (impl_in.calls a0_0 1 999 false _ A4.out).mono ?_); rintro e w' ⟨rfl, ⟨nd, rfl⟩⟩; refine ⟨_, rfl, ?_⟩))
   go_meet
   case rel => exact ⟨_, (false), (by first | rfl | (simp; done) | (simp [*]; done)), H', ⟨by first | omega | exact Nat.le_refl _⟩, ⟨KB BK101⟩, ⟨K1 HB GE101.out⟩⟩
 case rest =>
  clear HC2
  try clear c1
  try clear p2
  try clear c4
  try clear c5
  try clear c7
  try clear c11
  try clear hcz10_0
  try clear hcz10_1
  try clear hcz10_10
  try clear hcz10_2
  try clear hcz10_3
  try clear hcz10_4
  try clear hcz10_5
  try clear hcz10_6
  try clear hcz10_7
  try clear hcz10_8
  try clear hcz10_9
  try clear hcz11_0
  try clear hcz11_1
  try clear hcz11_10
  try clear hcz11_2
  try clear hcz11_3
  try clear hcz11_4
  try clear hcz11_5
  try clear hcz11_6
  try clear hcz11_7
  try clear hcz11_8
  try clear hcz11_9
  try clear hcz9_0
  try clear hcz9_1
  try clear hcz9_10
  try clear hcz9_2
  try clear hcz9_3
  try clear hcz9_4
  try clear hcz9_5
  try clear hcz9_6
  try clear hcz9_7
  try clear hcz9_8
  try clear hcz9_9
  try clear hfz10_0
  try clear hfz11_0
  try clear hfz9_0
  obtain ⟨kq, x3_1, rfl, HA, HJ1, BK101, HB⟩ := hcut
  cases kq with
  | zero => exact absurd HA.out (by simp [impl_SaOk.j0])
  | succ kj1 =>
   have H := HA.out
   clear HA
   simp only [impl_SaOk.j0] at H
   replace H := Option.bind_eq_some_iff.mp H
   obtain ⟨t105, A120, H⟩ := H
   replace H : (if t105 = true then ((impl_in.f a0_6 1 1000000).bind fun t106 => (if t106 = true then ((impl_in.f a0_5 1 a0_6).bind fun t107 => (if t107 = true then ((impl_in.f a0_7 1 1000000).bind fun t108 => (if x3_1 = true then (if t108 = true then ((impl_in.f a0_8 0 a0_6).bind fun t109 => (if t109 = true then ((impl_WindowOk.f kj1 a0_9 l0_10).bind fun t110 => (some t110)) else (some false))) else (some false)) else (some false))) else (if x3_1 = true then (some false) else (some false)))) else (if x3_1 = true then (some false) else (some false)))) else (if x3_1 = true then (some false) else (some false))) = some r := H
   have A12 := Aside0.mk A120
   clear A120
   by_cases c13 : t105 = true
   ·subst c13
    have H1 : ((impl_in.f a0_6 1 1000000).bind fun t106 => (if t106 = true then ((impl_in.f a0_5 1 a0_6).bind fun t107 => (if t107 = true then ((impl_in.f a0_7 1 1000000).bind fun t108 => (if x3_1 = true then (if t108 = true then ((impl_in.f a0_8 0 a0_6).bind fun t109 => (if t109 = true then ((impl_WindowOk.f kj1 a0_9 l0_10).bind fun t110 => (some t110)) else (some false))) else (some false)) else (some false))) else (if x3_1 = true then (some false) else (some false)))) else (if x3_1 = true then (some false) else (some false)))) = some r := by rw [if_pos rfl] at H; exact H
    clear H
    have H := H1
    clear H1
    replace H := Option.bind_eq_some_iff.mp H
    obtain ⟨t106, A140, H⟩ := H
    replace H : (if t106 = true then ((impl_in.f a0_5 1 a0_6).bind fun t107 => (if t107 = true then ((impl_in.f a0_7 1 1000000).bind fun t108 => (if x3_1 = true then (if t108 = true then ((impl_in.f a0_8 0 a0_6).bind fun t109 => (if t109 = true then ((impl_WindowOk.f kj1 a0_9 l0_10).bind fun t110 => (some t110)) else (some false))) else (some false)) else (some false))) else (if x3_1 = true then (some false) else (some false)))) else (if x3_1 = true then (some false) else (some false))) = some r := H
    have A14 := Aside0.mk A140
    clear A140
    by_cases c15 : t106 = true
    ·subst c15
     have H1 : ((impl_in.f a0_5 1 a0_6).bind fun t107 => (if t107 = true then ((impl_in.f a0_7 1 1000000).bind fun t108 => (if x3_1 = true then (if t108 = true then ((impl_in.f a0_8 0 a0_6).bind fun t109 => (if t109 = true then ((impl_WindowOk.f kj1 a0_9 l0_10).bind fun t110 => (some t110)) else (some false))) else (some false)) else (some false))) else (if x3_1 = true then (some false) else (some false)))) = some r := by rw [if_pos rfl] at H; exact H
     clear H
     have H := H1
     clear H1
     replace H := Option.bind_eq_some_iff.mp H
     obtain ⟨t107, A160, H⟩ := H
     replace H : (if t107 = true then ((impl_in.f a0_7 1 1000000).bind fun t108 => (if x3_1 = true then (if t108 = true then ((impl_in.f a0_8 0 a0_6).bind fun t109 => (if t109 = true then ((impl_WindowOk.f kj1 a0_9 l0_10).bind fun t110 => (some t110)) else (some false))) else (some false)) else (some false))) else (if x3_1 = true then (some false) else (some false))) = some r := H
     have A16 := Aside0.mk A160
     clear A160
     by_cases c17 : t107 = true
     ·subst c17
      have H1 : ((impl_in.f a0_7 1 1000000).bind fun t108 => (if x3_1 = true then (if t108 = true then ((impl_in.f a0_8 0 a0_6).bind fun t109 => (if t109 = true then ((impl_WindowOk.f kj1 a0_9 l0_10).bind fun t110 => (some t110)) else (some false))) else (some false)) else (some false))) = some r := by rw [if_pos rfl] at H; exact H
      clear H
      have H := H1
      clear H1
      replace H := Option.bind_eq_some_iff.mp H
      obtain ⟨t108, A180, H⟩ := H
      replace H : (if x3_1 = true then (if t108 = true then ((impl_in.f a0_8 0 a0_6).bind fun t109 => (if t109 = true then ((impl_WindowOk.f kj1 a0_9 l0_10).bind fun t110 => (some t110)) else (some false))) else (some false)) else (some false)) = some r := H
      have A18 := Aside0.mk A180
      clear A180
      by_cases c19 : x3_1 = true
      ·subst c19
       have H1 : (if t108 = true then ((impl_in.f a0_8 0 a0_6).bind fun t109 => (if t109 = true then ((impl_WindowOk.f kj1 a0_9 l0_10).bind fun t110 => (some t110)) else (some false))) else (some false)) = some r := by rw [if_pos rfl] at H; exact H
       clear H
       have H := H1
       clear H1
       by_cases c20 : t108 = true
       ·subst c20
        have H1 : ((impl_in.f a0_8 0 a0_6).bind fun t109 => (if t109 = true then ((impl_WindowOk.f kj1 a0_9 l0_10).bind fun t110 => (some t110)) else (some false))) = some r := by rw [if_pos rfl] at H; exact H
        clear H
        have H := H1
        clear H1
        replace H := Option.bind_eq_some_iff.mp H
        obtain ⟨t109, A210, H⟩ := H
        replace H : (if t109 = true then ((impl_WindowOk.f kj1 a0_9 l0_10).bind fun t110 => (some t110)) else (some false)) = some r := H
        have A21 := Aside0.mk A210
        clear A210
        by_cases c22 : t109 = true
        ·subst c22
         have H1 : ((impl_WindowOk.f kj1 a0_9 l0_10).bind fun t110 => (some t110)) = some r := by rw [if_pos rfl] at H; exact H
         clear H
         have H := H1
         clear H1
         replace H := Option.bind_eq_some_iff.mp H
         obtain ⟨t110, A230, H⟩ := H
         replace H : (some t110) = some r := H
         have A23 := Aside0.mk A230
         clear A230
         obtain rfl := Option.some.inj H
         obtain ⟨hcz24_0, hcz24_1, hcz24_2, hcz24_3, hcz24_4, hcz24_5, hcz24_6, hcz24_7, hcz24_8, hcz24_9, hcz24_10, hfz24_0⟩ := y11 wc BK101.out
         go_wp2_with (first | ((with_reducible refine gate_callee (f := 49) rfl ?_); refine goesL_ (some 22) rfl rfl Try.func49 (by kernel_rfl) rfl #[.int .i64 a0_4, .int .i64 0, .int .i64 1000000] rfl MT ?_; (with_reducible refine (impl_in.calls a0_4 0 1000000 true _ A12.out).mono ?_); rintro e w' ⟨rfl, ⟨nd, rfl⟩⟩; refine ⟨_, rfl, ?_⟩) | (go_at_call 49; (with_reducible refine (impl_in.calls a0_6 1 1000000 true _ A14.out).mono ?_); rintro e w' ⟨rfl, ⟨nd, rfl⟩⟩) | (go_at_call 49; (with_reducible refine (impl_in.calls a0_5 1 a0_6 true _ A16.out).mono ?_); rintro e w' ⟨rfl, ⟨nd, rfl⟩⟩) | (go_at_call 49; (with_reducible refine (impl_in.calls a0_7 1 1000000 true _ A18.out).mono ?_); rintro e w' ⟨rfl, ⟨nd, rfl⟩⟩) | (go_at_call 49; (with_reducible refine (impl_in.calls a0_8 0 a0_6 true _ A21.out).mono ?_); rintro e w' ⟨rfl, ⟨nd, rfl⟩⟩) | (go_at_call 22; (with_reducible refine (impl_WindowOk.calls kj1 a0_9 _ _ l0_10 t110 _ ?side1 ?side2 A23.out).mono ?_); (case side1 => repeat (first | exact (Kd.C_below HR0_10.out (K1 HB GE101.out)) | (with_reducible refine Kd.C_alloc ?_ _) | (with_reducible refine Kd.C_drewN ?_ _) | (with_reducible refine Kd.C_drew ?_))); (case side2 => exact HC0_10.out); rintro e w25 ⟨rfl, hb⟩; replace BK101 := am (BB BK101 hb); replace HB := am (below_step (K1 HB GE101.out) hb); (try clear hb); (try clear hb2); (try clear hk); (try clear hi)))
         go_ret
         exact ⟨ER, K1 HB GE101.out⟩
        ·replace c22 := Bool.eq_false_iff.mpr c22
         subst c22
         have H1 : (some false) = some r := by rw [if_neg (show ¬ (false = true) by decide)] at H; exact H
         clear H
         have H := H1
         clear H1
         obtain rfl := Option.some.inj H
         obtain ⟨hcz26_0, hcz26_1, hcz26_2, hcz26_3, hcz26_4, hcz26_5, hcz26_6, hcz26_7, hcz26_8, hcz26_9, hcz26_10, hfz26_0⟩ := y11 wc BK101.out
         go_wp2_with (first | ((with_reducible refine gate_callee (f := 49) rfl ?_); refine goesL_ (some 22) rfl rfl Try.func49 (by kernel_rfl) rfl #[.int .i64 a0_4, .int .i64 0, .int .i64 1000000] rfl MT ?_; (with_reducible refine (impl_in.calls a0_4 0 1000000 true _ A12.out).mono ?_); rintro e w' ⟨rfl, ⟨nd, rfl⟩⟩; refine ⟨_, rfl, ?_⟩) | (go_at_call 49; (with_reducible refine (impl_in.calls a0_6 1 1000000 true _ A14.out).mono ?_); rintro e w' ⟨rfl, ⟨nd, rfl⟩⟩) | (go_at_call 49; (with_reducible refine (impl_in.calls a0_5 1 a0_6 true _ A16.out).mono ?_); rintro e w' ⟨rfl, ⟨nd, rfl⟩⟩) | (go_at_call 49; (with_reducible refine (impl_in.calls a0_7 1 1000000 true _ A18.out).mono ?_); rintro e w' ⟨rfl, ⟨nd, rfl⟩⟩) | (go_at_call 49; (with_reducible refine (impl_in.calls a0_8 0 a0_6 false _ A21.out).mono ?_); rintro e w' ⟨rfl, ⟨nd, rfl⟩⟩))
         go_ret
         exact ⟨ER, K1 HB GE101.out⟩
       ·replace c20 := Bool.eq_false_iff.mpr c20
        subst c20
        have H1 : (some false) = some r := by rw [if_neg (show ¬ (false = true) by decide)] at H; exact H
        clear H
        have H := H1
        clear H1
        obtain rfl := Option.some.inj H
        obtain ⟨hcz27_0, hcz27_1, hcz27_2, hcz27_3, hcz27_4, hcz27_5, hcz27_6, hcz27_7, hcz27_8, hcz27_9, hcz27_10, hfz27_0⟩ := y11 wc BK101.out
        go_wp2_with (first | ((with_reducible refine gate_callee (f := 49) rfl ?_); refine goesL_ (some 22) rfl rfl Try.func49 (by kernel_rfl) rfl #[.int .i64 a0_4, .int .i64 0, .int .i64 1000000] rfl MT ?_; (with_reducible refine (impl_in.calls a0_4 0 1000000 true _ A12.out).mono ?_); rintro e w' ⟨rfl, ⟨nd, rfl⟩⟩; refine ⟨_, rfl, ?_⟩) | (go_at_call 49; (with_reducible refine (impl_in.calls a0_6 1 1000000 true _ A14.out).mono ?_); rintro e w' ⟨rfl, ⟨nd, rfl⟩⟩) | (go_at_call 49; (with_reducible refine (impl_in.calls a0_5 1 a0_6 true _ A16.out).mono ?_); rintro e w' ⟨rfl, ⟨nd, rfl⟩⟩) | (go_at_call 49; (with_reducible refine (impl_in.calls a0_7 1 1000000 false _ A18.out).mono ?_); rintro e w' ⟨rfl, ⟨nd, rfl⟩⟩))
        go_ret
        exact ⟨ER, K1 HB GE101.out⟩
      ·replace c19 := Bool.eq_false_iff.mpr c19
       subst c19
       have H1 : (some false) = some r := by rw [if_neg (show ¬ (false = true) by decide)] at H; exact H
       clear H
       have H := H1
       clear H1
       obtain rfl := Option.some.inj H
       obtain ⟨hcz28_0, hcz28_1, hcz28_2, hcz28_3, hcz28_4, hcz28_5, hcz28_6, hcz28_7, hcz28_8, hcz28_9, hcz28_10, hfz28_0⟩ := y11 wc BK101.out
       go_wp2_with (first | ((with_reducible refine gate_callee (f := 49) rfl ?_); refine goesL_ (some 22) rfl rfl Try.func49 (by kernel_rfl) rfl #[.int .i64 a0_4, .int .i64 0, .int .i64 1000000] rfl MT ?_; (with_reducible refine (impl_in.calls a0_4 0 1000000 true _ A12.out).mono ?_); rintro e w' ⟨rfl, ⟨nd, rfl⟩⟩; refine ⟨_, rfl, ?_⟩) | (go_at_call 49; (with_reducible refine (impl_in.calls a0_6 1 1000000 true _ A14.out).mono ?_); rintro e w' ⟨rfl, ⟨nd, rfl⟩⟩) | (go_at_call 49; (with_reducible refine (impl_in.calls a0_5 1 a0_6 true _ A16.out).mono ?_); rintro e w' ⟨rfl, ⟨nd, rfl⟩⟩) | (go_at_call 49; (with_reducible refine (impl_in.calls a0_7 1 1000000 t108 _ A18.out).mono ?_); rintro e w' ⟨rfl, ⟨nd, rfl⟩⟩))
       go_ret
       exact ⟨ER, K1 HB GE101.out⟩
     ·replace c17 := Bool.eq_false_iff.mpr c17
      subst c17
      have H1 : (if x3_1 = true then (some false) else (some false)) = some r := by rw [if_neg (show ¬ (false = true) by decide)] at H; exact H
      clear H
      have H := H1
      clear H1
      by_cases c29 : x3_1 = true
      ·subst c29
       have H1 : (some false) = some r := by rw [if_pos rfl] at H; exact H
       clear H
       have H := H1
       clear H1
       obtain rfl := Option.some.inj H
       obtain ⟨hcz30_0, hcz30_1, hcz30_2, hcz30_3, hcz30_4, hcz30_5, hcz30_6, hcz30_7, hcz30_8, hcz30_9, hcz30_10, hfz30_0⟩ := y11 wc BK101.out
       go_wp2_with (first | ((with_reducible refine gate_callee (f := 49) rfl ?_); refine goesL_ (some 22) rfl rfl Try.func49 (by kernel_rfl) rfl #[.int .i64 a0_4, .int .i64 0, .int .i64 1000000] rfl MT ?_; (with_reducible refine (impl_in.calls a0_4 0 1000000 true _ A12.out).mono ?_); rintro e w' ⟨rfl, ⟨nd, rfl⟩⟩; refine ⟨_, rfl, ?_⟩) | (go_at_call 49; (with_reducible refine (impl_in.calls a0_6 1 1000000 true _ A14.out).mono ?_); rintro e w' ⟨rfl, ⟨nd, rfl⟩⟩) | (go_at_call 49; (with_reducible refine (impl_in.calls a0_5 1 a0_6 false _ A16.out).mono ?_); rintro e w' ⟨rfl, ⟨nd, rfl⟩⟩))
       go_ret
       exact ⟨ER, K1 HB GE101.out⟩
      ·replace c29 := Bool.eq_false_iff.mpr c29
       subst c29
       have H1 : (some false) = some r := by rw [if_neg (show ¬ (false = true) by decide)] at H; exact H
       clear H
       have H := H1
       clear H1
       obtain rfl := Option.some.inj H
       obtain ⟨hcz31_0, hcz31_1, hcz31_2, hcz31_3, hcz31_4, hcz31_5, hcz31_6, hcz31_7, hcz31_8, hcz31_9, hcz31_10, hfz31_0⟩ := y11 wc BK101.out
       go_wp2_with (first | ((with_reducible refine gate_callee (f := 49) rfl ?_); refine goesL_ (some 22) rfl rfl Try.func49 (by kernel_rfl) rfl #[.int .i64 a0_4, .int .i64 0, .int .i64 1000000] rfl MT ?_; (with_reducible refine (impl_in.calls a0_4 0 1000000 true _ A12.out).mono ?_); rintro e w' ⟨rfl, ⟨nd, rfl⟩⟩; refine ⟨_, rfl, ?_⟩) | (go_at_call 49; (with_reducible refine (impl_in.calls a0_6 1 1000000 true _ A14.out).mono ?_); rintro e w' ⟨rfl, ⟨nd, rfl⟩⟩) | (go_at_call 49; (with_reducible refine (impl_in.calls a0_5 1 a0_6 false _ A16.out).mono ?_); rintro e w' ⟨rfl, ⟨nd, rfl⟩⟩))
       go_ret
       exact ⟨ER, K1 HB GE101.out⟩
    ·replace c15 := Bool.eq_false_iff.mpr c15
     subst c15
     have H1 : (if x3_1 = true then (some false) else (some false)) = some r := by rw [if_neg (show ¬ (false = true) by decide)] at H; exact H
     clear H
     have H := H1
     clear H1
     by_cases c32 : x3_1 = true
     ·subst c32
      have H1 : (some false) = some r := by rw [if_pos rfl] at H; exact H
      clear H
      have H := H1
      clear H1
      obtain rfl := Option.some.inj H
      obtain ⟨hcz33_0, hcz33_1, hcz33_2, hcz33_3, hcz33_4, hcz33_5, hcz33_6, hcz33_7, hcz33_8, hcz33_9, hcz33_10, hfz33_0⟩ := y11 wc BK101.out
      go_wp2_with (first | ((with_reducible refine gate_callee (f := 49) rfl ?_); refine goesL_ (some 22) rfl rfl Try.func49 (by kernel_rfl) rfl #[.int .i64 a0_4, .int .i64 0, .int .i64 1000000] rfl MT ?_; (with_reducible refine (impl_in.calls a0_4 0 1000000 true _ A12.out).mono ?_); rintro e w' ⟨rfl, ⟨nd, rfl⟩⟩; refine ⟨_, rfl, ?_⟩) | (go_at_call 49; (with_reducible refine (impl_in.calls a0_6 1 1000000 false _ A14.out).mono ?_); rintro e w' ⟨rfl, ⟨nd, rfl⟩⟩))
      go_ret
      exact ⟨ER, K1 HB GE101.out⟩
     ·replace c32 := Bool.eq_false_iff.mpr c32
      subst c32
      have H1 : (some false) = some r := by rw [if_neg (show ¬ (false = true) by decide)] at H; exact H
      clear H
      have H := H1
      clear H1
      obtain rfl := Option.some.inj H
      obtain ⟨hcz34_0, hcz34_1, hcz34_2, hcz34_3, hcz34_4, hcz34_5, hcz34_6, hcz34_7, hcz34_8, hcz34_9, hcz34_10, hfz34_0⟩ := y11 wc BK101.out
      go_wp2_with (first | ((with_reducible refine gate_callee (f := 49) rfl ?_); refine goesL_ (some 22) rfl rfl Try.func49 (by kernel_rfl) rfl #[.int .i64 a0_4, .int .i64 0, .int .i64 1000000] rfl MT ?_; (with_reducible refine (impl_in.calls a0_4 0 1000000 true _ A12.out).mono ?_); rintro e w' ⟨rfl, ⟨nd, rfl⟩⟩; refine ⟨_, rfl, ?_⟩) | (go_at_call 49; (with_reducible refine (impl_in.calls a0_6 1 1000000 false _ A14.out).mono ?_); rintro e w' ⟨rfl, ⟨nd, rfl⟩⟩))
      go_ret
      exact ⟨ER, K1 HB GE101.out⟩
   ·replace c13 := Bool.eq_false_iff.mpr c13
    subst c13
    have H1 : (if x3_1 = true then (some false) else (some false)) = some r := by rw [if_neg (show ¬ (false = true) by decide)] at H; exact H
    clear H
    have H := H1
    clear H1
    by_cases c35 : x3_1 = true
    ·subst c35
     have H1 : (some false) = some r := by rw [if_pos rfl] at H; exact H
     clear H
     have H := H1
     clear H1
     obtain rfl := Option.some.inj H
     obtain ⟨hcz36_0, hcz36_1, hcz36_2, hcz36_3, hcz36_4, hcz36_5, hcz36_6, hcz36_7, hcz36_8, hcz36_9, hcz36_10, hfz36_0⟩ := y11 wc BK101.out
     go_wp2_with (first | ((with_reducible refine gate_callee (f := 49) rfl ?_); refine goesL_ (some 22) rfl rfl Try.func49 (by kernel_rfl) rfl #[.int .i64 a0_4, .int .i64 0, .int .i64 1000000] rfl MT ?_; (with_reducible refine (impl_in.calls a0_4 0 1000000 false _ A12.out).mono ?_); rintro e w' ⟨rfl, ⟨nd, rfl⟩⟩; refine ⟨_, rfl, ?_⟩))
     go_ret
     exact ⟨ER, K1 HB GE101.out⟩
    ·replace c35 := Bool.eq_false_iff.mpr c35
     subst c35
     have H1 : (some false) = some r := by rw [if_neg (show ¬ (false = true) by decide)] at H; exact H
     clear H
     have H := H1
     clear H1
     obtain rfl := Option.some.inj H
     obtain ⟨hcz37_0, hcz37_1, hcz37_2, hcz37_3, hcz37_4, hcz37_5, hcz37_6, hcz37_7, hcz37_8, hcz37_9, hcz37_10, hfz37_0⟩ := y11 wc BK101.out
     go_wp2_with (first | ((with_reducible refine gate_callee (f := 49) rfl ?_); refine goesL_ (some 22) rfl rfl Try.func49 (by kernel_rfl) rfl #[.int .i64 a0_4, .int .i64 0, .int .i64 1000000] rfl MT ?_; (with_reducible refine (impl_in.calls a0_4 0 1000000 false _ A12.out).mono ?_); rintro e w' ⟨rfl, ⟨nd, rfl⟩⟩; refine ⟨_, rfl, ?_⟩))
     go_ret
     exact ⟨ER, K1 HB GE101.out⟩
def impl_tunOf.f (a0_0 : Int) (a0_1 : Int) (a0_2 : ByteArray) (a0_3 : ByteArray) (a0_4 : Int) (a0_5 : Int) (a0_6 : Int) (a0_7 : Int) (a0_8 : Int) (a0_9 : Int) (l0_10 : List Int) : Option (Int) := some a0_1
set_option maxHeartbeats 8000000 in
set_option maxRecDepth 100000 in
theorem impl_tunOf.calls (a0_0 : Int) (a0_1 : Int) (a0_2 : ByteArray) (a0_3 : ByteArray) (a0_4 : Int) (a0_5 : Int) (a0_6 : Int) (a0_7 : Int) (a0_8 : Int) (a0_9 : Int) (A0_10 : Option Addr) (c0_10 : Nat) (l0_10 : List Int) (r : Int) (w : World) (hr0_10 : Kd.C (Kd.int .i64) w A0_10 l0_10.length l0_10) (hc0_10 : l0_10.length ≤ c0_10) (h : impl_tunOf.f a0_0 a0_1 a0_2 a0_3 a0_4 a0_5 a0_6 a0_7 a0_8 a0_9 l0_10 = some r) :
  Calls Try.prog 67 #[.agg #[.int .i64 a0_0, .int .i64 a0_1, .string a0_2, .string a0_3, .int .i64 a0_4, .int .i64 a0_5, .int .i64 a0_6, .int .i64 a0_7, .int .i64 a0_8, .int .i64 a0_9, .slice A0_10 l0_10.length c0_10]] w fun e w' => e = .returned (.int .i64 r) ∧ Below w.heap.size w w' := by
 have hu95 := Try.underlying95
 have HR0_10 := Aside0.mk hr0_10
 have HC0_10 := Aside0.mk hc0_10
 clear hr0_10 hc0_10
 have HB := am (Below.refl w.heap.size w)
 have H : (some a0_1) = some r := h
 clear h
 obtain rfl := Option.some.inj H
 go_enter Try.func67, Try.ntmps67
 go_wp2_with (first | ((with_reducible refine gate_dst (N := 1) rfl ?_); refine box_event rfl (N := 1) rfl (cs := #[.int .i64 a0_0, .int .i64 a0_1, .string a0_2, .string a0_3, .int .i64 a0_4, .int .i64 a0_5, .int .i64 a0_6, .int .i64 a0_7, .int .i64 a0_8, .int .i64 a0_9, .slice A0_10 l0_10.length c0_10]) (t := 95) BX ?_; intro gb101 hg w2 hbox hb; have BK101 := am (hbox); have GW101 := am (GH HB hg); have GE101 := GW101; replace HB := am (below_step (KL HB) hb); clear hb hbox hg; obtain ⟨hcz3_0, hcz3_1, hcz3_2, hcz3_3, hcz3_4, hcz3_5, hcz3_6, hcz3_7, hcz3_8, hcz3_9, hcz3_10, hfz3_0⟩ := y11 w2 BK101.out))
 go_ret
 exact ⟨ER, K1 HB GE101.out⟩
mutual
def impl_ascending_tunOf.l0 : Nat → List (S95) → Int → List (S95) → Int → Int → Option (Bool)
 | 0, _, _, _, _, _ => none
 | k + 1, x0, x1, x9, x10, x11 => if x11 < x10 then (if 0 ≤ x11 then (if x11 < (x9.length : Int) then ((impl_SaOk.f k ((rd_T95 x9 x11).f0) ((rd_T95 x9 x11).f1) ((rd_T95 x9 x11).f2) ((rd_T95 x9 x11).f3) ((rd_T95 x9 x11).f4) ((rd_T95 x9 x11).f5) ((rd_T95 x9 x11).f6) ((rd_T95 x9 x11).f7) ((rd_T95 x9 x11).f8) ((rd_T95 x9 x11).f9.f0) ((rd_T95 x9 x11).f9.f1)).bind fun t103 => (if t103 = true then (if ((rd_T95 x9 x11).f4) > x1 then (impl_ascending_tunOf.j1 k x0 x1 x9 x10 x11 true) else (if x11 > 0 then (if 0 ≤ (wrap64 (x11 - 1)) then (if (wrap64 (x11 - 1)) < (x0.length : Int) then ((impl_tunOf.f ((rd_T95 x0 (wrap64 (x11 - 1))).f0) ((rd_T95 x0 (wrap64 (x11 - 1))).f1) ((rd_T95 x0 (wrap64 (x11 - 1))).f2) ((rd_T95 x0 (wrap64 (x11 - 1))).f3) ((rd_T95 x0 (wrap64 (x11 - 1))).f4) ((rd_T95 x0 (wrap64 (x11 - 1))).f5) ((rd_T95 x0 (wrap64 (x11 - 1))).f6) ((rd_T95 x0 (wrap64 (x11 - 1))).f7) ((rd_T95 x0 (wrap64 (x11 - 1))).f8) ((rd_T95 x0 (wrap64 (x11 - 1))).f9.f0) ((rd_T95 x0 (wrap64 (x11 - 1))).f9.f1)).bind fun t105 => ((impl_tunOf.f ((rd_T95 x9 x11).f0) ((rd_T95 x9 x11).f1) ((rd_T95 x9 x11).f2) ((rd_T95 x9 x11).f3) ((rd_T95 x9 x11).f4) ((rd_T95 x9 x11).f5) ((rd_T95 x9 x11).f6) ((rd_T95 x9 x11).f7) ((rd_T95 x9 x11).f8) ((rd_T95 x9 x11).f9.f0) ((rd_T95 x9 x11).f9.f1)).bind fun t106 => (impl_ascending_tunOf.j1 k x0 x1 x9 x10 x11 (decide (t105 ≥ t106))))) else (none)) else (none)) else (impl_ascending_tunOf.j1 k x0 x1 x9 x10 x11 false))) else (impl_ascending_tunOf.j1 k x0 x1 x9 x10 x11 true))) else (none)) else (none)) else (some true)
def impl_ascending_tunOf.j1 : Nat → List (S95) → Int → List (S95) → Int → Int → Bool → Option (Bool)
 | 0, _, _, _, _, _, _ => none
 | k + 1, x0, x1, x9, x10, x11, x41 => if x41 = true then (some false) else (impl_ascending_tunOf.l0 k x0 x1 x9 x10 (wrap64 (x11 + 1)))
end
def impl_ascending_tunOf.f (k : Nat) (l0 : List (S95)) (a1 : Int)  : Option (Bool) := impl_ascending_tunOf.l0 k l0 a1 l0 (l0.length : Int) 0
def impl_ascending_tunOf.T4 : Bool × List (List Nat × List Nat) := (true, [([], []), ([0], [0]), ([1], [1]), ([2, 1], [2]), ([3], [3]), ([4, 3], [3, 4]), ([3], [3]), ([5, 6, 3], [3, 5, 6]), ([3, 7], [3, 7]), ([8, 3], [8]), ([9], [9]), ([10, 9], [9, 10]), ([11, 9, 9], [9, 11]), ([12], [12]), ([12], [12]), ([12], [12]), ([15, 12], [12, 15]), ([14, 16, 12], [12, 14, 16]), ([17, 12], [12, 17]), ([13, 18, 12, 12], [12, 13, 18]), ([12], [12]), ([12], [12]), ([20, 21, 19, 12], [12, 20, 21]), ([19, 22, 12], [12, 19, 22]), ([12, 23, 9], [9, 12, 23]), ([9, 24], [9, 24])])
def impl_ascending_tunOf.B4 : List Nat := [0, 1, 3, 7, 15, 31, 15, 127, 255, 511, 1023, 2047, 4095, 8191, 8191, 8191, 40959, 122879, 253951, 524287, 8191, 8191, 4194303, 8388607, 16777215, 33554431]
theorem impl_ascending_tunOf.tab4 : rtab .any (opsOf Try.f66 4) = impl_ascending_tunOf.T4 := by kernel_rfl
theorem impl_ascending_tunOf.bits4 : waitsOk impl_ascending_tunOf.T4.2 impl_ascending_tunOf.B4 = true := by kernel_rfl
set_option maxHeartbeats 8000000 in
set_option maxRecDepth 100000 in
theorem impl_ascending_tunOf.calls (k : Nat) (A0 : Option Addr) (c0 : Nat) (l0 : List (S95)) (a1 : Int)  (r : Bool) (w : World) (hr0 : Kd.C k95 w A0 l0.length l0) (hc0 : l0.length ≤ c0) (h : impl_ascending_tunOf.f k l0 a1 = some r) :
  Calls Try.prog 66 #[.slice A0 l0.length c0, .int .i64 a1, .func (.func 67) #[] #[]] w fun e w' => e = .returned (.bool r) ∧ Below w.heap.size w w' := by
 have hu95 := Try.underlying95
 have HR0 := Aside0.mk hr0
 have HC0 := Aside0.mk hc0
 clear hr0 hc0
 have HB := am (Below.refl w.heap.size w)
 have H : (impl_ascending_tunOf.l0 k l0 a1 l0 (l0.length : Int) 0) = some r := h
 clear h
 have H' := Aside0.mk H
 clear H
 go_enter Try.func66, Try.ntmps66
 go_wp2
 go_loopg [11] k (fun kq v11 w' => ∃ (x11_1 : Int), v11 = .int .i64 x11_1 ∧ Aside0 (impl_ascending_tunOf.l0 kq l0 a1 l0 (l0.length : Int) x11_1 = some r) ∧ Aside0 (kq ≤ k) ∧ Aside0 (Below w.heap.size w w'))
 case atStart => exact ⟨(0), (by first | rfl | (simp; done) | (simp [*]; done)), H', ⟨Nat.le_refl _⟩, ⟨KL HB⟩⟩
 case round =>
  clear H'
  try clear p2
  obtain ⟨x11_1, rfl, HA, HK1, HB⟩ := hrel
  cases gk with
  | zero => exact absurd HA.out (by simp [impl_ascending_tunOf.l0])
  | succ k1 =>
   have H := HA.out
   clear HA
   simp only [impl_ascending_tunOf.l0] at H
   by_cases c4 : x11_1 < (l0.length : Int)
   ·rw [if_pos c4] at H
    have c4b0 : decide (x11_1 < (l0.length : Int)) = true := decide_eq_true c4
    clear c4
    by_cases c5 : 0 ≤ x11_1
    ·rw [if_pos c5] at H
     have c5b0 : decide (0 ≤ x11_1) = true := decide_eq_true c5
     clear c5
     by_cases c6 : x11_1 < (l0.length : Int)
     ·rw [if_pos c6] at H
      have c6b0 : decide (x11_1 < (l0.length : Int)) = true := decide_eq_true c6
      clear c6
      have HC7 := Aside0.mk H
      clear H
      have p101 : 0 ≤ (x11_1 : Int) := OD
      have q101 : x11_1 < (l0.length : Int) := OD
      obtain ⟨ad101, A101_10, c101_10, e101, hx101_0, hx101_1, hx101_2, hx101_3, hx101_4, hx101_5, hx101_6, hx101_7, hx101_8, hx101_9, hx101_10, hl101_10, hi101_10⟩ := at_T95 HR0.out x11_1 p101 q101
      cases e101
      replace hx101_0 := CX HB.out hx101_0
      replace hx101_1 := CX HB.out hx101_1
      replace hx101_2 := CX HB.out hx101_2
      replace hx101_3 := CX HB.out hx101_3
      replace hx101_4 := CX HB.out hx101_4
      replace hx101_5 := CX HB.out hx101_5
      replace hx101_6 := CX HB.out hx101_6
      replace hx101_7 := CX HB.out hx101_7
      replace hx101_8 := CX HB.out hx101_8
      replace hx101_9 := CX HB.out hx101_9
      replace hx101_10 := CX HB.out hx101_10
      have HR101_10 := Aside0.mk hi101_10
      have HC101_10 := Aside0.mk hl101_10
      clear hi101_10 hl101_10
      replace p101 := eq_true p101
      replace q101 := eq_true q101
      go_upto_region 4 with (first | ((with_reducible refine gate_dst (N := 8) rfl ?_); refine box_event rfl (N := 8) rfl (cs := #[.int .i64 0, .int .i64 0, .string (⟨#[]⟩ : ByteArray), .string (⟨#[]⟩ : ByteArray), .int .i64 0, .int .i64 0, .int .i64 0, .int .i64 0, .int .i64 0, .int .i64 0, .slice none 0 0]) (t := 95) BX ?_; intro gb102 hg w8 hbox hb; have BK102 := am (hbox); have GW102 := am (GH HB hg); have GE102 := GW102; replace HB := am (below_step (KL HB) hb); clear hb hbox hg; obtain ⟨hcz9_0, hcz9_1, hcz9_2, hcz9_3, hcz9_4, hcz9_5, hcz9_6, hcz9_7, hcz9_8, hcz9_9, hcz9_10, hfz9_0⟩ := y11 w8 BK102.out))
      (try simp only [Act.put, List.setIfInBounds_toArray, List.set_cons_zero, List.set_cons_succ])
      go_cut [41] (fun v41 wc => ∃ (kq : Nat) (x41_6 : Bool), v41 = .bool x41_6 ∧ Aside0 (impl_ascending_tunOf.j1 kq l0 a1 l0 (l0.length : Int) x11_1 x41_6 = some r) ∧ Aside0 (kq ≤ k1) ∧ Aside0 (wc.heap[gb102]? = some (.cells #[.int .i64 ((rd_T95 l0 x11_1).f0), .int .i64 ((rd_T95 l0 x11_1).f1), .string ((rd_T95 l0 x11_1).f2), .string ((rd_T95 l0 x11_1).f3), .int .i64 ((rd_T95 l0 x11_1).f4), .int .i64 ((rd_T95 l0 x11_1).f5), .int .i64 ((rd_T95 l0 x11_1).f6), .int .i64 ((rd_T95 l0 x11_1).f7), .int .i64 ((rd_T95 l0 x11_1).f8), .int .i64 ((rd_T95 l0 x11_1).f9.f0), (.slice A101_10 ((rd_T95 l0 x11_1).f9.f1).length c101_10)] 95 (0, 0))) ∧ Aside0 (Below w.heap.size w wc))
      case first =>
       have H := HC7.out
       clear HC7
       replace H := Option.bind_eq_some_iff.mp H
       obtain ⟨t103, A100, H⟩ := H
       replace H : (if t103 = true then (if ((rd_T95 l0 x11_1).f4) > a1 then (impl_ascending_tunOf.j1 k1 l0 a1 l0 (l0.length : Int) x11_1 true) else (if x11_1 > 0 then (if 0 ≤ (wrap64 (x11_1 - 1)) then (if (wrap64 (x11_1 - 1)) < (l0.length : Int) then ((impl_tunOf.f ((rd_T95 l0 (wrap64 (x11_1 - 1))).f0) ((rd_T95 l0 (wrap64 (x11_1 - 1))).f1) ((rd_T95 l0 (wrap64 (x11_1 - 1))).f2) ((rd_T95 l0 (wrap64 (x11_1 - 1))).f3) ((rd_T95 l0 (wrap64 (x11_1 - 1))).f4) ((rd_T95 l0 (wrap64 (x11_1 - 1))).f5) ((rd_T95 l0 (wrap64 (x11_1 - 1))).f6) ((rd_T95 l0 (wrap64 (x11_1 - 1))).f7) ((rd_T95 l0 (wrap64 (x11_1 - 1))).f8) ((rd_T95 l0 (wrap64 (x11_1 - 1))).f9.f0) ((rd_T95 l0 (wrap64 (x11_1 - 1))).f9.f1)).bind fun t105 => ((impl_tunOf.f ((rd_T95 l0 x11_1).f0) ((rd_T95 l0 x11_1).f1) ((rd_T95 l0 x11_1).f2) ((rd_T95 l0 x11_1).f3) ((rd_T95 l0 x11_1).f4) ((rd_T95 l0 x11_1).f5) ((rd_T95 l0 x11_1).f6) ((rd_T95 l0 x11_1).f7) ((rd_T95 l0 x11_1).f8) ((rd_T95 l0 x11_1).f9.f0) ((rd_T95 l0 x11_1).f9.f1)).bind fun t106 => (impl_ascending_tunOf.j1 k1 l0 a1 l0 (l0.length : Int) x11_1 (decide (t105 ≥ t106))))) else (none)) else (none)) else (impl_ascending_tunOf.j1 k1 l0 a1 l0 (l0.length : Int) x11_1 false))) else (impl_ascending_tunOf.j1 k1 l0 a1 l0 (l0.length : Int) x11_1 true)) = some r := H
       have A10 := Aside0.mk A100
       clear A100
       by_cases c11 : t103 = true
       ·subst c11
        have H1 : (if ((rd_T95 l0 x11_1).f4) > a1 then (impl_ascending_tunOf.j1 k1 l0 a1 l0 (l0.length : Int) x11_1 true) else (if x11_1 > 0 then (if 0 ≤ (wrap64 (x11_1 - 1)) then (if (wrap64 (x11_1 - 1)) < (l0.length : Int) then ((impl_tunOf.f ((rd_T95 l0 (wrap64 (x11_1 - 1))).f0) ((rd_T95 l0 (wrap64 (x11_1 - 1))).f1) ((rd_T95 l0 (wrap64 (x11_1 - 1))).f2) ((rd_T95 l0 (wrap64 (x11_1 - 1))).f3) ((rd_T95 l0 (wrap64 (x11_1 - 1))).f4) ((rd_T95 l0 (wrap64 (x11_1 - 1))).f5) ((rd_T95 l0 (wrap64 (x11_1 - 1))).f6) ((rd_T95 l0 (wrap64 (x11_1 - 1))).f7) ((rd_T95 l0 (wrap64 (x11_1 - 1))).f8) ((rd_T95 l0 (wrap64 (x11_1 - 1))).f9.f0) ((rd_T95 l0 (wrap64 (x11_1 - 1))).f9.f1)).bind fun t105 => ((impl_tunOf.f ((rd_T95 l0 x11_1).f0) ((rd_T95 l0 x11_1).f1) ((rd_T95 l0 x11_1).f2) ((rd_T95 l0 x11_1).f3) ((rd_T95 l0 x11_1).f4) ((rd_T95 l0 x11_1).f5) ((rd_T95 l0 x11_1).f6) ((rd_T95 l0 x11_1).f7) ((rd_T95 l0 x11_1).f8) ((rd_T95 l0 x11_1).f9.f0) ((rd_T95 l0 x11_1).f9.f1)).bind fun t106 => (impl_ascending_tunOf.j1 k1 l0 a1 l0 (l0.length : Int) x11_1 (decide (t105 ≥ t106))))) else (none)) else (none)) else (impl_ascending_tunOf.j1 k1 l0 a1 l0 (l0.length : Int) x11_1 false))) = some r := by rw [if_pos rfl] at H; exact H
        clear H
        have H := H1
        clear H1
        by_cases c12 : ((rd_T95 l0 x11_1).f4) > a1
        ·rw [if_pos c12] at H
         have c12b0 : decide (a1 < ((rd_T95 l0 x11_1).f4)) = true := decide_eq_true c12
         clear c12
         (first | rw [c12b0] | (simp only [i64_w, i32_w]; rw [c12b0]) | skip)
         have H' := Aside0.mk H
         clear H
         try go_wp2
         have n0_ : Aside0 ((((((((((((w8.setCell ⟨gb102, 0, none⟩ (.int .i64 ((rd_T95 l0 x11_1).f0))).setCell ⟨gb102, 1, none⟩ (.int .i64 ((rd_T95 l0 x11_1).f1))).setCell ⟨gb102, 2, none⟩ (.string ((rd_T95 l0 x11_1).f2))).setCell ⟨gb102, 3, none⟩ (.string ((rd_T95 l0 x11_1).f3))).setCell ⟨gb102, 4, none⟩ (.int .i64 ((rd_T95 l0 x11_1).f4))).setCell ⟨gb102, 5, none⟩ (.int .i64 ((rd_T95 l0 x11_1).f5))).setCell ⟨gb102, 6, none⟩ (.int .i64 ((rd_T95 l0 x11_1).f6))).setCell ⟨gb102, 7, none⟩ (.int .i64 ((rd_T95 l0 x11_1).f7))).setCell ⟨gb102, 8, none⟩ (.int .i64 ((rd_T95 l0 x11_1).f8))).setCell ⟨gb102, 9, none⟩ (.int .i64 ((rd_T95 l0 x11_1).f9.f0))).setCell ⟨gb102, 10, none⟩ (.slice A101_10 ((rd_T95 l0 x11_1).f9.f1).length c101_10)).heap[gb102]? = some (.cells #[.int .i64 ((rd_T95 l0 x11_1).f0), .int .i64 ((rd_T95 l0 x11_1).f1), .string ((rd_T95 l0 x11_1).f2), .string ((rd_T95 l0 x11_1).f3), .int .i64 ((rd_T95 l0 x11_1).f4), .int .i64 ((rd_T95 l0 x11_1).f5), .int .i64 ((rd_T95 l0 x11_1).f6), .int .i64 ((rd_T95 l0 x11_1).f7), .int .i64 ((rd_T95 l0 x11_1).f8), .int .i64 ((rd_T95 l0 x11_1).f9.f0), .slice A101_10 ((rd_T95 l0 x11_1).f9.f1).length c101_10] 95 (0, 0))) := ⟨by (with_reducible repeat (first | refine blk_drewN ?_ _ | refine blk_drew ?_ | refine blk_alloc ?_ _)); refine blk_put (cs := #[.int .i64 ((rd_T95 l0 x11_1).f0), .int .i64 ((rd_T95 l0 x11_1).f1), .string ((rd_T95 l0 x11_1).f2), .string ((rd_T95 l0 x11_1).f3), .int .i64 ((rd_T95 l0 x11_1).f4), .int .i64 ((rd_T95 l0 x11_1).f5), .int .i64 ((rd_T95 l0 x11_1).f6), .int .i64 ((rd_T95 l0 x11_1).f7), .int .i64 ((rd_T95 l0 x11_1).f8), .int .i64 ((rd_T95 l0 x11_1).f9.f0), .slice none 0 0]) ?_ 10 _ rfl; (with_reducible repeat (first | refine blk_drewN ?_ _ | refine blk_drew ?_ | refine blk_alloc ?_ _)); refine blk_put (cs := #[.int .i64 ((rd_T95 l0 x11_1).f0), .int .i64 ((rd_T95 l0 x11_1).f1), .string ((rd_T95 l0 x11_1).f2), .string ((rd_T95 l0 x11_1).f3), .int .i64 ((rd_T95 l0 x11_1).f4), .int .i64 ((rd_T95 l0 x11_1).f5), .int .i64 ((rd_T95 l0 x11_1).f6), .int .i64 ((rd_T95 l0 x11_1).f7), .int .i64 ((rd_T95 l0 x11_1).f8), .int .i64 0, .slice none 0 0]) ?_ 9 _ rfl; (with_reducible repeat (first | refine blk_drewN ?_ _ | refine blk_drew ?_ | refine blk_alloc ?_ _)); refine blk_put (cs := #[.int .i64 ((rd_T95 l0 x11_1).f0), .int .i64 ((rd_T95 l0 x11_1).f1), .string ((rd_T95 l0 x11_1).f2), .string ((rd_T95 l0 x11_1).f3), .int .i64 ((rd_T95 l0 x11_1).f4), .int .i64 ((rd_T95 l0 x11_1).f5), .int .i64 ((rd_T95 l0 x11_1).f6), .int .i64 ((rd_T95 l0 x11_1).f7), .int .i64 0, .int .i64 0, .slice none 0 0]) ?_ 8 _ rfl; (with_reducible repeat (first | refine blk_drewN ?_ _ | refine blk_drew ?_ | refine blk_alloc ?_ _)); refine blk_put (cs := #[.int .i64 ((rd_T95 l0 x11_1).f0), .int .i64 ((rd_T95 l0 x11_1).f1), .string ((rd_T95 l0 x11_1).f2), .string ((rd_T95 l0 x11_1).f3), .int .i64 ((rd_T95 l0 x11_1).f4), .int .i64 ((rd_T95 l0 x11_1).f5), .int .i64 ((rd_T95 l0 x11_1).f6), .int .i64 0, .int .i64 0, .int .i64 0, .slice none 0 0]) ?_ 7 _ rfl; (with_reducible repeat (first | refine blk_drewN ?_ _ | refine blk_drew ?_ | refine blk_alloc ?_ _)); refine blk_put (cs := #[.int .i64 ((rd_T95 l0 x11_1).f0), .int .i64 ((rd_T95 l0 x11_1).f1), .string ((rd_T95 l0 x11_1).f2), .string ((rd_T95 l0 x11_1).f3), .int .i64 ((rd_T95 l0 x11_1).f4), .int .i64 ((rd_T95 l0 x11_1).f5), .int .i64 0, .int .i64 0, .int .i64 0, .int .i64 0, .slice none 0 0]) ?_ 6 _ rfl; (with_reducible repeat (first | refine blk_drewN ?_ _ | refine blk_drew ?_ | refine blk_alloc ?_ _)); refine blk_put (cs := #[.int .i64 ((rd_T95 l0 x11_1).f0), .int .i64 ((rd_T95 l0 x11_1).f1), .string ((rd_T95 l0 x11_1).f2), .string ((rd_T95 l0 x11_1).f3), .int .i64 ((rd_T95 l0 x11_1).f4), .int .i64 0, .int .i64 0, .int .i64 0, .int .i64 0, .int .i64 0, .slice none 0 0]) ?_ 5 _ rfl; (with_reducible repeat (first | refine blk_drewN ?_ _ | refine blk_drew ?_ | refine blk_alloc ?_ _)); refine blk_put (cs := #[.int .i64 ((rd_T95 l0 x11_1).f0), .int .i64 ((rd_T95 l0 x11_1).f1), .string ((rd_T95 l0 x11_1).f2), .string ((rd_T95 l0 x11_1).f3), .int .i64 0, .int .i64 0, .int .i64 0, .int .i64 0, .int .i64 0, .int .i64 0, .slice none 0 0]) ?_ 4 _ rfl; (with_reducible repeat (first | refine blk_drewN ?_ _ | refine blk_drew ?_ | refine blk_alloc ?_ _)); refine blk_put (cs := #[.int .i64 ((rd_T95 l0 x11_1).f0), .int .i64 ((rd_T95 l0 x11_1).f1), .string ((rd_T95 l0 x11_1).f2), .string (⟨#[]⟩ : ByteArray), .int .i64 0, .int .i64 0, .int .i64 0, .int .i64 0, .int .i64 0, .int .i64 0, .slice none 0 0]) ?_ 3 _ rfl; (with_reducible repeat (first | refine blk_drewN ?_ _ | refine blk_drew ?_ | refine blk_alloc ?_ _)); refine blk_put (cs := #[.int .i64 ((rd_T95 l0 x11_1).f0), .int .i64 ((rd_T95 l0 x11_1).f1), .string (⟨#[]⟩ : ByteArray), .string (⟨#[]⟩ : ByteArray), .int .i64 0, .int .i64 0, .int .i64 0, .int .i64 0, .int .i64 0, .int .i64 0, .slice none 0 0]) ?_ 2 _ rfl; (with_reducible repeat (first | refine blk_drewN ?_ _ | refine blk_drew ?_ | refine blk_alloc ?_ _)); refine blk_put (cs := #[.int .i64 ((rd_T95 l0 x11_1).f0), .int .i64 0, .string (⟨#[]⟩ : ByteArray), .string (⟨#[]⟩ : ByteArray), .int .i64 0, .int .i64 0, .int .i64 0, .int .i64 0, .int .i64 0, .int .i64 0, .slice none 0 0]) ?_ 1 _ rfl; (with_reducible repeat (first | refine blk_drewN ?_ _ | refine blk_drew ?_ | refine blk_alloc ?_ _)); refine blk_put (cs := #[.int .i64 0, .int .i64 0, .string (⟨#[]⟩ : ByteArray), .string (⟨#[]⟩ : ByteArray), .int .i64 0, .int .i64 0, .int .i64 0, .int .i64 0, .int .i64 0, .int .i64 0, .slice none 0 0]) ?_ 0 _ rfl; (with_reducible repeat (first | refine blk_drewN ?_ _ | refine blk_drew ?_ | refine blk_alloc ?_ _)); exact BK102.out⟩
         have n1_ : Aside0 (Below w.heap.size w (((((((((((w8.setCell ⟨gb102, 0, none⟩ (.int .i64 ((rd_T95 l0 x11_1).f0))).setCell ⟨gb102, 1, none⟩ (.int .i64 ((rd_T95 l0 x11_1).f1))).setCell ⟨gb102, 2, none⟩ (.string ((rd_T95 l0 x11_1).f2))).setCell ⟨gb102, 3, none⟩ (.string ((rd_T95 l0 x11_1).f3))).setCell ⟨gb102, 4, none⟩ (.int .i64 ((rd_T95 l0 x11_1).f4))).setCell ⟨gb102, 5, none⟩ (.int .i64 ((rd_T95 l0 x11_1).f5))).setCell ⟨gb102, 6, none⟩ (.int .i64 ((rd_T95 l0 x11_1).f6))).setCell ⟨gb102, 7, none⟩ (.int .i64 ((rd_T95 l0 x11_1).f7))).setCell ⟨gb102, 8, none⟩ (.int .i64 ((rd_T95 l0 x11_1).f8))).setCell ⟨gb102, 9, none⟩ (.int .i64 ((rd_T95 l0 x11_1).f9.f0))).setCell ⟨gb102, 10, none⟩ (.slice A101_10 ((rd_T95 l0 x11_1).f9.f1).length c101_10))) := ⟨K1 HB GE102.out⟩
         (try clear BK102)
         (try clear HB)
         generalize (((((((((((w8.setCell ⟨gb102, 0, none⟩ (.int .i64 ((rd_T95 l0 x11_1).f0))).setCell ⟨gb102, 1, none⟩ (.int .i64 ((rd_T95 l0 x11_1).f1))).setCell ⟨gb102, 2, none⟩ (.string ((rd_T95 l0 x11_1).f2))).setCell ⟨gb102, 3, none⟩ (.string ((rd_T95 l0 x11_1).f3))).setCell ⟨gb102, 4, none⟩ (.int .i64 ((rd_T95 l0 x11_1).f4))).setCell ⟨gb102, 5, none⟩ (.int .i64 ((rd_T95 l0 x11_1).f5))).setCell ⟨gb102, 6, none⟩ (.int .i64 ((rd_T95 l0 x11_1).f6))).setCell ⟨gb102, 7, none⟩ (.int .i64 ((rd_T95 l0 x11_1).f7))).setCell ⟨gb102, 8, none⟩ (.int .i64 ((rd_T95 l0 x11_1).f8))).setCell ⟨gb102, 9, none⟩ (.int .i64 ((rd_T95 l0 x11_1).f9.f0))).setCell ⟨gb102, 10, none⟩ (.slice A101_10 ((rd_T95 l0 x11_1).f9.f1).length c101_10)) = w13 at n0_ n1_ ⊢
         have BK102 := n0_
         have HB := n1_
         clear n0_ n1_
         replace BK102 := am (blk_drew BK102.out)
         replace HB := am (below_drew1 HB.out)
         refine start_ (n := 26) (S := fun w' => de11 w' gb102 (.int .i64 ((rd_T95 l0 x11_1).f0)) (.int .i64 ((rd_T95 l0 x11_1).f1)) (.string ((rd_T95 l0 x11_1).f2)) (.string ((rd_T95 l0 x11_1).f3)) (.int .i64 ((rd_T95 l0 x11_1).f4)) (.int .i64 ((rd_T95 l0 x11_1).f5)) (.int .i64 ((rd_T95 l0 x11_1).f6)) (.int .i64 ((rd_T95 l0 x11_1).f7)) (.int .i64 ((rd_T95 l0 x11_1).f8)) (.int .i64 ((rd_T95 l0 x11_1).f9.f0)) (.slice A101_10 ((rd_T95 l0 x11_1).f9.f1).length c101_10)) (ds := []) (tf 0 26) (by kernel_rfl) rfl rfl ⟨z0 _ BK102.out, z1 _ BK102.out, z2 _ BK102.out, z3 _ BK102.out, z4 _ BK102.out, z5 _ BK102.out, z6 _ BK102.out, z7 _ BK102.out, z8 _ BK102.out, z9 _ BK102.out, z10 _ BK102.out⟩ (fun hHeld => ?_); refine with_tabW impl_ascending_tunOf.tab4 impl_ascending_tunOf.bits4 (fun HT_ HW_ => ?_)
         generalize w13.drew = w14 at BK102 HB hHeld ⊢
         refine tk 0 (some 16) (tf 1 25) (take_ofW HT_.out HW_.out (by kernel_rfl)) hHeld ?_
         refine one_ (i := 1) (N := some 17) (tf 2 24) rfl rfl (one_of HT_.out (by kernel_rfl)) (by decide) (fun K hK => ?_)
         refine goes_ Try.func111 (by kernel_rfl) rfl #[.agg #[.int .i64 ((rd_T95 l0 x11_1).f0), .int .i64 ((rd_T95 l0 x11_1).f1), .string ((rd_T95 l0 x11_1).f2), .string ((rd_T95 l0 x11_1).f3), .int .i64 ((rd_T95 l0 x11_1).f4), .int .i64 ((rd_T95 l0 x11_1).f5), .int .i64 ((rd_T95 l0 x11_1).f6), .int .i64 ((rd_T95 l0 x11_1).f7), .int .i64 ((rd_T95 l0 x11_1).f8), .int .i64 ((rd_T95 l0 x11_1).f9.f0), .slice A101_10 ((rd_T95 l0 x11_1).f9.f1).length c101_10]] (by rfl) rfl rfl MT ?_
         with_reducible refine (impl_SaOk.calls k1 ((rd_T95 l0 x11_1).f0) ((rd_T95 l0 x11_1).f1) ((rd_T95 l0 x11_1).f2) ((rd_T95 l0 x11_1).f3) ((rd_T95 l0 x11_1).f4) ((rd_T95 l0 x11_1).f5) ((rd_T95 l0 x11_1).f6) ((rd_T95 l0 x11_1).f7) ((rd_T95 l0 x11_1).f8) ((rd_T95 l0 x11_1).f9.f0) _ _ ((rd_T95 l0 x11_1).f9.f1) true _ ?side1 ?side2 A10.out).mono ?_
         (case side1 => exact KD HR101_10 HB)
         (case side2 => exact HC101_10.out)
         rintro e w15 ⟨rfl, hb⟩
         refine ⟨_, rfl, ?_⟩
         replace BK102 := am (BB BK102 hb)
         replace HB := am (below_step (K1 HB GE102.out) hb)
         (try clear hb)
         (try clear hb2)
         (try clear hk)
         (try clear hi)
         refine hK.out _ _ ⟨z0 _ BK102.out, z1 _ BK102.out, z2 _ BK102.out, z3 _ BK102.out, z4 _ BK102.out, z5 _ BK102.out, z6 _ BK102.out, z7 _ BK102.out, z8 _ BK102.out, z9 _ BK102.out, z10 _ BK102.out⟩ (fun hHeld => ?_)
         clear hK K
         refine norm_ (a' := ?_) ?_ ?_
         rotate_left
         ·show Act.put _ (some 17) _ = _
          simp only [Act.put, List.setIfInBounds_toArray, List.set_cons_zero, List.set_cons_succ, i64_w, i32_w]
          rfl
         refine pv HT_ 2 18 (tf 3 23) ?_
         refine pv HT_ 3 19 (tf 4 22) ?_
         refine pv HT_ 4 20 (tf 5 21) ?_
         refine pv HT_ 6 22 (tr [5, 1, 1, 19]) ?_
         refine tk 5 (some 21) (tf 7 19) (take_ofW HT_.out HW_.out (by kernel_rfl)) hHeld ?_
         refine pv HT_ 7 23 (tf 8 18) ?_
         refine pv HT_ 8 24 (tf 9 17) ?_
         refine pv HT_ 9 25 (tf 10 16) ?_
         refine pw HT_ 10 26 (tf 11 15) ?_
         refine pw HT_ 11 27 (tf 12 14) ?_
         refine pw HT_ 12 28 (tf 13 13) ?_
         refine pw HT_ 13 29 (tf 14 12) ?_
         refine pw HT_ 14 30 (tf 15 11) ?_
         refine pw HT_ 15 31 (tf 16 10) ?_
         refine pw HT_ 16 32 (tf 17 9) ?_
         refine pw HT_ 17 33 (tf 18 8) ?_
         refine pw HT_ 18 34 (tf 19 7) ?_
         refine pw HT_ 19 35 (tf 20 6) ?_
         refine pw HT_ 20 36 (tf 21 5) ?_
         refine pw HT_ 21 37 (tf 22 4) ?_
         refine pw HT_ 22 38 (tf 23 3) ?_
         refine pw HT_ 23 39 (tf 24 2) ?_
         refine pw HT_ 24 40 (tf 25 1) ?_
         refine pv HT_ 25 41 (tf 26 0) ?_
         refine done_ (done_of HT_.out (by kernel_rfl)) ?_
         try go_wp2
         go_meet
         case rel => exact ⟨_, (true), (by first | rfl | (simp; done) | (simp [*]; done)), H', ⟨by have := HK1.out; first | omega | exact Nat.le_refl _⟩, ⟨KB BK102⟩, ⟨K1 HB GE102.out⟩⟩
        ·rw [if_neg c12] at H
         have c12b0 : decide (a1 < ((rd_T95 l0 x11_1).f4)) = false := decide_eq_false c12
         clear c12
         (first | rw [c12b0] | (simp only [i64_w, i32_w]; rw [c12b0]) | skip)
         by_cases c16 : x11_1 > 0
         ·rw [if_pos c16] at H
          have c16b0 : decide (0 < x11_1) = true := decide_eq_true c16
          clear c16
          obtain ⟨ji17, hji17⟩ : ∃ j_ : Int, (wrap64 (x11_1 - 1)) = j_ := ⟨_, rfl⟩
          replace H : (if 0 ≤ (ji17) then (if (ji17) < (l0.length : Int) then ((impl_tunOf.f ((rd_T95 l0 (ji17)).f0) ((rd_T95 l0 (ji17)).f1) ((rd_T95 l0 (ji17)).f2) ((rd_T95 l0 (ji17)).f3) ((rd_T95 l0 (ji17)).f4) ((rd_T95 l0 (ji17)).f5) ((rd_T95 l0 (ji17)).f6) ((rd_T95 l0 (ji17)).f7) ((rd_T95 l0 (ji17)).f8) ((rd_T95 l0 (ji17)).f9.f0) ((rd_T95 l0 (ji17)).f9.f1)).bind fun t105 => ((impl_tunOf.f ((rd_T95 l0 x11_1).f0) ((rd_T95 l0 x11_1).f1) ((rd_T95 l0 x11_1).f2) ((rd_T95 l0 x11_1).f3) ((rd_T95 l0 x11_1).f4) ((rd_T95 l0 x11_1).f5) ((rd_T95 l0 x11_1).f6) ((rd_T95 l0 x11_1).f7) ((rd_T95 l0 x11_1).f8) ((rd_T95 l0 x11_1).f9.f0) ((rd_T95 l0 x11_1).f9.f1)).bind fun t106 => (impl_ascending_tunOf.j1 k1 l0 a1 l0 (l0.length : Int) x11_1 (decide (t105 ≥ t106))))) else (none)) else (none)) = some r := by first | (rw [hji17] at H; exact H) | (simp only [hji17] at H ⊢; exact H)
          (try rw [hji17] at A10)
          have hji17w : (IntKind.i64.wrap (x11_1 - 1)) = ji17 := (i64_w _).trans hji17
          by_cases c18 : 0 ≤ (ji17)
          ·rw [if_pos c18] at H
           have c18b0 : decide (0 ≤ (ji17)) = true := decide_eq_true c18
           clear c18
           by_cases c19 : (ji17) < (l0.length : Int)
           ·rw [if_pos c19] at H
            have c19b0 : decide ((ji17) < (l0.length : Int)) = true := decide_eq_true c19
            clear c19
            replace H := Option.bind_eq_some_iff.mp H
            obtain ⟨t105, A200, H⟩ := H
            replace H : ((impl_tunOf.f ((rd_T95 l0 x11_1).f0) ((rd_T95 l0 x11_1).f1) ((rd_T95 l0 x11_1).f2) ((rd_T95 l0 x11_1).f3) ((rd_T95 l0 x11_1).f4) ((rd_T95 l0 x11_1).f5) ((rd_T95 l0 x11_1).f6) ((rd_T95 l0 x11_1).f7) ((rd_T95 l0 x11_1).f8) ((rd_T95 l0 x11_1).f9.f0) ((rd_T95 l0 x11_1).f9.f1)).bind fun t106 => (impl_ascending_tunOf.j1 k1 l0 a1 l0 (l0.length : Int) x11_1 (decide (t105 ≥ t106)))) = some r := H
            have A20 := Aside0.mk A200
            clear A200
            replace H := Option.bind_eq_some_iff.mp H
            obtain ⟨t106, A210, H⟩ := H
            replace H : (impl_ascending_tunOf.j1 k1 l0 a1 l0 (l0.length : Int) x11_1 (decide (t105 ≥ t106))) = some r := H
            have A21 := Aside0.mk A210
            clear A210
            have H' := Aside0.mk H
            clear H
            try go_wp2
            have n0_ : Aside0 ((((((((((((w8.setCell ⟨gb102, 0, none⟩ (.int .i64 ((rd_T95 l0 x11_1).f0))).setCell ⟨gb102, 1, none⟩ (.int .i64 ((rd_T95 l0 x11_1).f1))).setCell ⟨gb102, 2, none⟩ (.string ((rd_T95 l0 x11_1).f2))).setCell ⟨gb102, 3, none⟩ (.string ((rd_T95 l0 x11_1).f3))).setCell ⟨gb102, 4, none⟩ (.int .i64 ((rd_T95 l0 x11_1).f4))).setCell ⟨gb102, 5, none⟩ (.int .i64 ((rd_T95 l0 x11_1).f5))).setCell ⟨gb102, 6, none⟩ (.int .i64 ((rd_T95 l0 x11_1).f6))).setCell ⟨gb102, 7, none⟩ (.int .i64 ((rd_T95 l0 x11_1).f7))).setCell ⟨gb102, 8, none⟩ (.int .i64 ((rd_T95 l0 x11_1).f8))).setCell ⟨gb102, 9, none⟩ (.int .i64 ((rd_T95 l0 x11_1).f9.f0))).setCell ⟨gb102, 10, none⟩ (.slice A101_10 ((rd_T95 l0 x11_1).f9.f1).length c101_10)).heap[gb102]? = some (.cells #[.int .i64 ((rd_T95 l0 x11_1).f0), .int .i64 ((rd_T95 l0 x11_1).f1), .string ((rd_T95 l0 x11_1).f2), .string ((rd_T95 l0 x11_1).f3), .int .i64 ((rd_T95 l0 x11_1).f4), .int .i64 ((rd_T95 l0 x11_1).f5), .int .i64 ((rd_T95 l0 x11_1).f6), .int .i64 ((rd_T95 l0 x11_1).f7), .int .i64 ((rd_T95 l0 x11_1).f8), .int .i64 ((rd_T95 l0 x11_1).f9.f0), .slice A101_10 ((rd_T95 l0 x11_1).f9.f1).length c101_10] 95 (0, 0))) := ⟨by (with_reducible repeat (first | refine blk_drewN ?_ _ | refine blk_drew ?_ | refine blk_alloc ?_ _)); refine blk_put (cs := #[.int .i64 ((rd_T95 l0 x11_1).f0), .int .i64 ((rd_T95 l0 x11_1).f1), .string ((rd_T95 l0 x11_1).f2), .string ((rd_T95 l0 x11_1).f3), .int .i64 ((rd_T95 l0 x11_1).f4), .int .i64 ((rd_T95 l0 x11_1).f5), .int .i64 ((rd_T95 l0 x11_1).f6), .int .i64 ((rd_T95 l0 x11_1).f7), .int .i64 ((rd_T95 l0 x11_1).f8), .int .i64 ((rd_T95 l0 x11_1).f9.f0), .slice none 0 0]) ?_ 10 _ rfl; (with_reducible repeat (first | refine blk_drewN ?_ _ | refine blk_drew ?_ | refine blk_alloc ?_ _)); refine blk_put (cs := #[.int .i64 ((rd_T95 l0 x11_1).f0), .int .i64 ((rd_T95 l0 x11_1).f1), .string ((rd_T95 l0 x11_1).f2), .string ((rd_T95 l0 x11_1).f3), .int .i64 ((rd_T95 l0 x11_1).f4), .int .i64 ((rd_T95 l0 x11_1).f5), .int .i64 ((rd_T95 l0 x11_1).f6), .int .i64 ((rd_T95 l0 x11_1).f7), .int .i64 ((rd_T95 l0 x11_1).f8), .int .i64 0, .slice none 0 0]) ?_ 9 _ rfl; (with_reducible repeat (first | refine blk_drewN ?_ _ | refine blk_drew ?_ | refine blk_alloc ?_ _)); refine blk_put (cs := #[.int .i64 ((rd_T95 l0 x11_1).f0), .int .i64 ((rd_T95 l0 x11_1).f1), .string ((rd_T95 l0 x11_1).f2), .string ((rd_T95 l0 x11_1).f3), .int .i64 ((rd_T95 l0 x11_1).f4), .int .i64 ((rd_T95 l0 x11_1).f5), .int .i64 ((rd_T95 l0 x11_1).f6), .int .i64 ((rd_T95 l0 x11_1).f7), .int .i64 0, .int .i64 0, .slice none 0 0]) ?_ 8 _ rfl; (with_reducible repeat (first | refine blk_drewN ?_ _ | refine blk_drew ?_ | refine blk_alloc ?_ _)); refine blk_put (cs := #[.int .i64 ((rd_T95 l0 x11_1).f0), .int .i64 ((rd_T95 l0 x11_1).f1), .string ((rd_T95 l0 x11_1).f2), .string ((rd_T95 l0 x11_1).f3), .int .i64 ((rd_T95 l0 x11_1).f4), .int .i64 ((rd_T95 l0 x11_1).f5), .int .i64 ((rd_T95 l0 x11_1).f6), .int .i64 0, .int .i64 0, .int .i64 0, .slice none 0 0]) ?_ 7 _ rfl; (with_reducible repeat (first | refine blk_drewN ?_ _ | refine blk_drew ?_ | refine blk_alloc ?_ _)); refine blk_put (cs := #[.int .i64 ((rd_T95 l0 x11_1).f0), .int .i64 ((rd_T95 l0 x11_1).f1), .string ((rd_T95 l0 x11_1).f2), .string ((rd_T95 l0 x11_1).f3), .int .i64 ((rd_T95 l0 x11_1).f4), .int .i64 ((rd_T95 l0 x11_1).f5), .int .i64 0, .int .i64 0, .int .i64 0, .int .i64 0, .slice none 0 0]) ?_ 6 _ rfl; (with_reducible repeat (first | refine blk_drewN ?_ _ | refine blk_drew ?_ | refine blk_alloc ?_ _)); refine blk_put (cs := #[.int .i64 ((rd_T95 l0 x11_1).f0), .int .i64 ((rd_T95 l0 x11_1).f1), .string ((rd_T95 l0 x11_1).f2), .string ((rd_T95 l0 x11_1).f3), .int .i64 ((rd_T95 l0 x11_1).f4), .int .i64 0, .int .i64 0, .int .i64 0, .int .i64 0, .int .i64 0, .slice none 0 0]) ?_ 5 _ rfl; (with_reducible repeat (first | refine blk_drewN ?_ _ | refine blk_drew ?_ | refine blk_alloc ?_ _)); refine blk_put (cs := #[.int .i64 ((rd_T95 l0 x11_1).f0), .int .i64 ((rd_T95 l0 x11_1).f1), .string ((rd_T95 l0 x11_1).f2), .string ((rd_T95 l0 x11_1).f3), .int .i64 0, .int .i64 0, .int .i64 0, .int .i64 0, .int .i64 0, .int .i64 0, .slice none 0 0]) ?_ 4 _ rfl; (with_reducible repeat (first | refine blk_drewN ?_ _ | refine blk_drew ?_ | refine blk_alloc ?_ _)); refine blk_put (cs := #[.int .i64 ((rd_T95 l0 x11_1).f0), .int .i64 ((rd_T95 l0 x11_1).f1), .string ((rd_T95 l0 x11_1).f2), .string (⟨#[]⟩ : ByteArray), .int .i64 0, .int .i64 0, .int .i64 0, .int .i64 0, .int .i64 0, .int .i64 0, .slice none 0 0]) ?_ 3 _ rfl; (with_reducible repeat (first | refine blk_drewN ?_ _ | refine blk_drew ?_ | refine blk_alloc ?_ _)); refine blk_put (cs := #[.int .i64 ((rd_T95 l0 x11_1).f0), .int .i64 ((rd_T95 l0 x11_1).f1), .string (⟨#[]⟩ : ByteArray), .string (⟨#[]⟩ : ByteArray), .int .i64 0, .int .i64 0, .int .i64 0, .int .i64 0, .int .i64 0, .int .i64 0, .slice none 0 0]) ?_ 2 _ rfl; (with_reducible repeat (first | refine blk_drewN ?_ _ | refine blk_drew ?_ | refine blk_alloc ?_ _)); refine blk_put (cs := #[.int .i64 ((rd_T95 l0 x11_1).f0), .int .i64 0, .string (⟨#[]⟩ : ByteArray), .string (⟨#[]⟩ : ByteArray), .int .i64 0, .int .i64 0, .int .i64 0, .int .i64 0, .int .i64 0, .int .i64 0, .slice none 0 0]) ?_ 1 _ rfl; (with_reducible repeat (first | refine blk_drewN ?_ _ | refine blk_drew ?_ | refine blk_alloc ?_ _)); refine blk_put (cs := #[.int .i64 0, .int .i64 0, .string (⟨#[]⟩ : ByteArray), .string (⟨#[]⟩ : ByteArray), .int .i64 0, .int .i64 0, .int .i64 0, .int .i64 0, .int .i64 0, .int .i64 0, .slice none 0 0]) ?_ 0 _ rfl; (with_reducible repeat (first | refine blk_drewN ?_ _ | refine blk_drew ?_ | refine blk_alloc ?_ _)); exact BK102.out⟩
            have n1_ : Aside0 (Below w.heap.size w (((((((((((w8.setCell ⟨gb102, 0, none⟩ (.int .i64 ((rd_T95 l0 x11_1).f0))).setCell ⟨gb102, 1, none⟩ (.int .i64 ((rd_T95 l0 x11_1).f1))).setCell ⟨gb102, 2, none⟩ (.string ((rd_T95 l0 x11_1).f2))).setCell ⟨gb102, 3, none⟩ (.string ((rd_T95 l0 x11_1).f3))).setCell ⟨gb102, 4, none⟩ (.int .i64 ((rd_T95 l0 x11_1).f4))).setCell ⟨gb102, 5, none⟩ (.int .i64 ((rd_T95 l0 x11_1).f5))).setCell ⟨gb102, 6, none⟩ (.int .i64 ((rd_T95 l0 x11_1).f6))).setCell ⟨gb102, 7, none⟩ (.int .i64 ((rd_T95 l0 x11_1).f7))).setCell ⟨gb102, 8, none⟩ (.int .i64 ((rd_T95 l0 x11_1).f8))).setCell ⟨gb102, 9, none⟩ (.int .i64 ((rd_T95 l0 x11_1).f9.f0))).setCell ⟨gb102, 10, none⟩ (.slice A101_10 ((rd_T95 l0 x11_1).f9.f1).length c101_10))) := ⟨K1 HB GE102.out⟩
            (try clear BK102)
            (try clear HB)
            generalize (((((((((((w8.setCell ⟨gb102, 0, none⟩ (.int .i64 ((rd_T95 l0 x11_1).f0))).setCell ⟨gb102, 1, none⟩ (.int .i64 ((rd_T95 l0 x11_1).f1))).setCell ⟨gb102, 2, none⟩ (.string ((rd_T95 l0 x11_1).f2))).setCell ⟨gb102, 3, none⟩ (.string ((rd_T95 l0 x11_1).f3))).setCell ⟨gb102, 4, none⟩ (.int .i64 ((rd_T95 l0 x11_1).f4))).setCell ⟨gb102, 5, none⟩ (.int .i64 ((rd_T95 l0 x11_1).f5))).setCell ⟨gb102, 6, none⟩ (.int .i64 ((rd_T95 l0 x11_1).f6))).setCell ⟨gb102, 7, none⟩ (.int .i64 ((rd_T95 l0 x11_1).f7))).setCell ⟨gb102, 8, none⟩ (.int .i64 ((rd_T95 l0 x11_1).f8))).setCell ⟨gb102, 9, none⟩ (.int .i64 ((rd_T95 l0 x11_1).f9.f0))).setCell ⟨gb102, 10, none⟩ (.slice A101_10 ((rd_T95 l0 x11_1).f9.f1).length c101_10)) = w22 at n0_ n1_ ⊢
            have BK102 := n0_
            have HB := n1_
            clear n0_ n1_
            replace BK102 := am (blk_drew BK102.out)
            replace HB := am (below_drew1 HB.out)
            have p104 : 0 ≤ ((ji17) : Int) := OD
            have q104 : (ji17) < (l0.length : Int) := OD
            obtain ⟨ad104, A104_10, c104_10, e104, hx104_0, hx104_1, hx104_2, hx104_3, hx104_4, hx104_5, hx104_6, hx104_7, hx104_8, hx104_9, hx104_10, hl104_10, hi104_10⟩ := at_T95 HR0.out (ji17) p104 q104
            have hw104_10 := hx104_10
            have hw104_9 := hx104_9
            have hw104_8 := hx104_8
            have hw104_7 := hx104_7
            have hw104_6 := hx104_6
            have hw104_5 := hx104_5
            have hw104_4 := hx104_4
            have hw104_3 := hx104_3
            have hw104_2 := hx104_2
            have hw104_1 := hx104_1
            have hw104_0 := hx104_0
            obtain rfl : ad101 = ad104 := (by injection e104)
            replace hx104_0 := CX HB.out hx104_0
            replace hx104_1 := CX HB.out hx104_1
            replace hx104_2 := CX HB.out hx104_2
            replace hx104_3 := CX HB.out hx104_3
            replace hx104_4 := CX HB.out hx104_4
            replace hx104_5 := CX HB.out hx104_5
            replace hx104_6 := CX HB.out hx104_6
            replace hx104_7 := CX HB.out hx104_7
            replace hx104_8 := CX HB.out hx104_8
            replace hx104_9 := CX HB.out hx104_9
            replace hx104_10 := CX HB.out hx104_10
            have HR104_10 := Aside0.mk hi104_10
            have HC104_10 := Aside0.mk hl104_10
            clear hi104_10 hl104_10
            replace p104 := eq_true p104
            replace q104 := eq_true q104
            refine start_ (n := 26) (S := fun w' => ce11 w' gb102 (.int .i64 ((rd_T95 l0 x11_1).f0)) (.int .i64 ((rd_T95 l0 x11_1).f1)) (.string ((rd_T95 l0 x11_1).f2)) (.string ((rd_T95 l0 x11_1).f3)) (.int .i64 ((rd_T95 l0 x11_1).f4)) (.int .i64 ((rd_T95 l0 x11_1).f5)) (.int .i64 ((rd_T95 l0 x11_1).f6)) (.int .i64 ((rd_T95 l0 x11_1).f7)) (.int .i64 ((rd_T95 l0 x11_1).f8)) (.int .i64 ((rd_T95 l0 x11_1).f9.f0)) (.slice A101_10 ((rd_T95 l0 x11_1).f9.f1).length c101_10) (w'.cell? (ad101.add (((ji17)).toNat * 11)) = some (.int .i64 ((rd_T95 l0 (ji17)).f0)) ∧ w'.cell? ⟨(ad101.add (((ji17)).toNat * 11)).block, (ad101.add (((ji17)).toNat * 11)).off + 1, none⟩ = some (.int .i64 ((rd_T95 l0 (ji17)).f1)) ∧ w'.cell? ⟨(ad101.add (((ji17)).toNat * 11)).block, (ad101.add (((ji17)).toNat * 11)).off + 2, none⟩ = some (.string ((rd_T95 l0 (ji17)).f2)) ∧ w'.cell? ⟨(ad101.add (((ji17)).toNat * 11)).block, (ad101.add (((ji17)).toNat * 11)).off + 3, none⟩ = some (.string ((rd_T95 l0 (ji17)).f3)) ∧ w'.cell? ⟨(ad101.add (((ji17)).toNat * 11)).block, (ad101.add (((ji17)).toNat * 11)).off + 4, none⟩ = some (.int .i64 ((rd_T95 l0 (ji17)).f4)) ∧ w'.cell? ⟨(ad101.add (((ji17)).toNat * 11)).block, (ad101.add (((ji17)).toNat * 11)).off + 5, none⟩ = some (.int .i64 ((rd_T95 l0 (ji17)).f5)) ∧ w'.cell? ⟨(ad101.add (((ji17)).toNat * 11)).block, (ad101.add (((ji17)).toNat * 11)).off + 6, none⟩ = some (.int .i64 ((rd_T95 l0 (ji17)).f6)) ∧ w'.cell? ⟨(ad101.add (((ji17)).toNat * 11)).block, (ad101.add (((ji17)).toNat * 11)).off + 7, none⟩ = some (.int .i64 ((rd_T95 l0 (ji17)).f7)) ∧ w'.cell? ⟨(ad101.add (((ji17)).toNat * 11)).block, (ad101.add (((ji17)).toNat * 11)).off + 8, none⟩ = some (.int .i64 ((rd_T95 l0 (ji17)).f8)) ∧ w'.cell? ⟨(ad101.add (((ji17)).toNat * 11)).block, (ad101.add (((ji17)).toNat * 11)).off + 9, none⟩ = some (.int .i64 ((rd_T95 l0 (ji17)).f9.f0)) ∧ w'.cell? ⟨(ad101.add (((ji17)).toNat * 11)).block, (ad101.add (((ji17)).toNat * 11)).off + 10, none⟩ = some (.slice A104_10 ((rd_T95 l0 (ji17)).f9.f1).length c104_10))) (ds := []) (tf 0 26) (by kernel_rfl) rfl rfl ⟨z0 _ BK102.out, z1 _ BK102.out, z2 _ BK102.out, z3 _ BK102.out, z4 _ BK102.out, z5 _ BK102.out, z6 _ BK102.out, z7 _ BK102.out, z8 _ BK102.out, z9 _ BK102.out, z10 _ BK102.out, (CY HB.out hw104_0), (CY HB.out hw104_1), (CY HB.out hw104_2), (CY HB.out hw104_3), (CY HB.out hw104_4), (CY HB.out hw104_5), (CY HB.out hw104_6), (CY HB.out hw104_7), (CY HB.out hw104_8), (CY HB.out hw104_9), (CY HB.out hw104_10)⟩ (fun hHeld => ?_); refine with_tabW impl_ascending_tunOf.tab4 impl_ascending_tunOf.bits4 (fun HT_ HW_ => ?_)
            generalize w22.drew = w23 at BK102 HB HR104_10 hx104_0 hx104_1 hx104_10 hx104_2 hx104_3 hx104_4 hx104_5 hx104_6 hx104_7 hx104_8 hx104_9 hHeld ⊢
            refine tk 0 (some 16) (tf 1 25) (take_ofW HT_.out HW_.out (by kernel_rfl)) hHeld ?_
            refine one_ (i := 1) (N := some 17) (tf 2 24) rfl rfl (one_of HT_.out (by kernel_rfl)) (by decide) (fun K hK => ?_)
            refine goes_ Try.func111 (by kernel_rfl) rfl #[.agg #[.int .i64 ((rd_T95 l0 x11_1).f0), .int .i64 ((rd_T95 l0 x11_1).f1), .string ((rd_T95 l0 x11_1).f2), .string ((rd_T95 l0 x11_1).f3), .int .i64 ((rd_T95 l0 x11_1).f4), .int .i64 ((rd_T95 l0 x11_1).f5), .int .i64 ((rd_T95 l0 x11_1).f6), .int .i64 ((rd_T95 l0 x11_1).f7), .int .i64 ((rd_T95 l0 x11_1).f8), .int .i64 ((rd_T95 l0 x11_1).f9.f0), .slice A101_10 ((rd_T95 l0 x11_1).f9.f1).length c101_10]] (by rfl) rfl rfl MT ?_
            with_reducible refine (impl_SaOk.calls k1 ((rd_T95 l0 x11_1).f0) ((rd_T95 l0 x11_1).f1) ((rd_T95 l0 x11_1).f2) ((rd_T95 l0 x11_1).f3) ((rd_T95 l0 x11_1).f4) ((rd_T95 l0 x11_1).f5) ((rd_T95 l0 x11_1).f6) ((rd_T95 l0 x11_1).f7) ((rd_T95 l0 x11_1).f8) ((rd_T95 l0 x11_1).f9.f0) _ _ ((rd_T95 l0 x11_1).f9.f1) true _ ?side1 ?side2 A10.out).mono ?_
            (case side1 => exact KD HR101_10 HB)
            (case side2 => exact HC101_10.out)
            rintro e w24 ⟨rfl, hb⟩
            refine ⟨_, rfl, ?_⟩
            replace BK102 := am (BB BK102 hb)
            replace HB := am (below_step (K1 HB GE102.out) hb)
            (try clear hb)
            (try clear hb2)
            (try clear hk)
            (try clear hi)
            refine hK.out _ _ ⟨z0 _ BK102.out, z1 _ BK102.out, z2 _ BK102.out, z3 _ BK102.out, z4 _ BK102.out, z5 _ BK102.out, z6 _ BK102.out, z7 _ BK102.out, z8 _ BK102.out, z9 _ BK102.out, z10 _ BK102.out, (CY HB.out hw104_0), (CY HB.out hw104_1), (CY HB.out hw104_2), (CY HB.out hw104_3), (CY HB.out hw104_4), (CY HB.out hw104_5), (CY HB.out hw104_6), (CY HB.out hw104_7), (CY HB.out hw104_8), (CY HB.out hw104_9), (CY HB.out hw104_10)⟩ (fun hHeld => ?_)
            clear hK K
            refine norm_ (a' := ?_) ?_ ?_
            rotate_left
            ·show Act.put _ (some 17) _ = _
             simp only [Act.put, List.setIfInBounds_toArray, List.set_cons_zero, List.set_cons_succ, i64_w, i32_w]
             rfl
            refine pv HT_ 2 18 (tf 3 23) ?_
            refine pv HT_ 3 19 (tf 4 22) ?_
            refine pv HT_ 4 20 (tf 5 21) ?_
            refine pv HT_ 6 22 (tr [5, 1, 1, 19]) ?_
            refine tk 5 (some 21) (tf 7 19) (take_ofW HT_.out HW_.out (by kernel_rfl)) hHeld ?_
            refine pv HT_ 7 23 (tf 8 18) ?_
            refine pv HT_ 8 24 (tf 9 17) ?_
            refine pv HT_ 9 25 (tf 10 16) ?_
            refine pv HT_ 10 26 (tf 11 15) ?_
            refine pv HT_ 11 27 (tf 12 14) ?_
            refine pv HT_ 12 28 (tf 13 13) ?_
            refine pv HT_ 13 29 (tf 14 12) ?_
            refine pv HT_ 14 30 (tf 15 11) ?_
            refine pv HT_ 15 31 (tf 16 10) ?_
            refine pv HT_ 16 32 (tf 17 9) ?_
            refine pv HT_ 17 33 (tf 18 8) ?_
            refine pv HT_ 20 36 (tr [18, 2, 1, 5]) ?_
            refine tk 18 (some 34) (tr [19, 1, 1, 5]) (take_ofW HT_.out HW_.out (by kernel_rfl)) hHeld ?_
            refine tk 21 (some 37) (tr [19, 1, 2, 4]) (take_ofW HT_.out HW_.out (by kernel_rfl)) hHeld ?_
            refine one_ (i := 19) (N := some 35) (tf 22 4) rfl rfl (one_of HT_.out (by kernel_rfl)) (by decide) (fun K hK => ?_)
            refine goesW_ Try.func67 (by kernel_rfl) rfl #[.agg #[.int .i64 ((rd_T95 l0 (ji17)).f0), .int .i64 ((rd_T95 l0 (ji17)).f1), .string ((rd_T95 l0 (ji17)).f2), .string ((rd_T95 l0 (ji17)).f3), .int .i64 ((rd_T95 l0 (ji17)).f4), .int .i64 ((rd_T95 l0 (ji17)).f5), .int .i64 ((rd_T95 l0 (ji17)).f6), .int .i64 ((rd_T95 l0 (ji17)).f7), .int .i64 ((rd_T95 l0 (ji17)).f8), .int .i64 ((rd_T95 l0 (ji17)).f9.f0), .slice A104_10 ((rd_T95 l0 (ji17)).f9.f1).length c104_10]] (by rfl) rfl rfl (by first | rfl | (simp [Act.eval, Act.put]; done)) (by (try simp only [List.map_toArray, List.map_cons, List.map_nil]); first | done | (simp only [hji17]; rfl) | rfl | (simp only [List.length_drop, List.length_take]; rfl)) ?_
            with_reducible refine (impl_tunOf.calls ((rd_T95 l0 (ji17)).f0) ((rd_T95 l0 (ji17)).f1) ((rd_T95 l0 (ji17)).f2) ((rd_T95 l0 (ji17)).f3) ((rd_T95 l0 (ji17)).f4) ((rd_T95 l0 (ji17)).f5) ((rd_T95 l0 (ji17)).f6) ((rd_T95 l0 (ji17)).f7) ((rd_T95 l0 (ji17)).f8) ((rd_T95 l0 (ji17)).f9.f0) _ _ ((rd_T95 l0 (ji17)).f9.f1) t105 _ ?side1 ?side2 A20.out).mono ?_
            (case side1 => exact KD HR104_10 HB)
            (case side2 => exact HC104_10.out)
            rintro e w25 ⟨rfl, hb⟩
            refine ⟨_, rfl, ?_⟩
            replace BK102 := am (BB BK102 hb)
            replace HB := am (below_step (K1 HB GE102.out) hb)
            (try clear hb)
            (try clear hb2)
            (try clear hk)
            (try clear hi)
            refine hK.out _ _ ⟨z0 _ BK102.out, z1 _ BK102.out, z2 _ BK102.out, z3 _ BK102.out, z4 _ BK102.out, z5 _ BK102.out, z6 _ BK102.out, z7 _ BK102.out, z8 _ BK102.out, z9 _ BK102.out, z10 _ BK102.out, (CY HB.out hw104_0), (CY HB.out hw104_1), (CY HB.out hw104_2), (CY HB.out hw104_3), (CY HB.out hw104_4), (CY HB.out hw104_5), (CY HB.out hw104_6), (CY HB.out hw104_7), (CY HB.out hw104_8), (CY HB.out hw104_9), (CY HB.out hw104_10)⟩ (fun hHeld => ?_)
            clear hK K
            refine norm_ (a' := ?_) ?_ ?_
            rotate_left
            ·show Act.put _ (some 35) _ = _
             simp only [Act.put, List.setIfInBounds_toArray, List.set_cons_zero, List.set_cons_succ, i64_w, i32_w]
             rfl
            refine one_ (i := 22) (N := some 38) (tf 23 3) rfl rfl (one_of HT_.out (by kernel_rfl)) (by decide) (fun K hK => ?_)
            refine goesW_ Try.func67 (by kernel_rfl) rfl #[.agg #[.int .i64 ((rd_T95 l0 x11_1).f0), .int .i64 ((rd_T95 l0 x11_1).f1), .string ((rd_T95 l0 x11_1).f2), .string ((rd_T95 l0 x11_1).f3), .int .i64 ((rd_T95 l0 x11_1).f4), .int .i64 ((rd_T95 l0 x11_1).f5), .int .i64 ((rd_T95 l0 x11_1).f6), .int .i64 ((rd_T95 l0 x11_1).f7), .int .i64 ((rd_T95 l0 x11_1).f8), .int .i64 ((rd_T95 l0 x11_1).f9.f0), .slice A101_10 ((rd_T95 l0 x11_1).f9.f1).length c101_10]] (by rfl) rfl rfl (by first | rfl | (simp [Act.eval, Act.put]; done)) MT ?_
            with_reducible refine (impl_tunOf.calls ((rd_T95 l0 x11_1).f0) ((rd_T95 l0 x11_1).f1) ((rd_T95 l0 x11_1).f2) ((rd_T95 l0 x11_1).f3) ((rd_T95 l0 x11_1).f4) ((rd_T95 l0 x11_1).f5) ((rd_T95 l0 x11_1).f6) ((rd_T95 l0 x11_1).f7) ((rd_T95 l0 x11_1).f8) ((rd_T95 l0 x11_1).f9.f0) _ _ ((rd_T95 l0 x11_1).f9.f1) t106 _ ?side1 ?side2 A21.out).mono ?_
            (case side1 => exact KD HR101_10 HB)
            (case side2 => exact HC101_10.out)
            rintro e w26 ⟨rfl, hb⟩
            refine ⟨_, rfl, ?_⟩
            replace BK102 := am (BB BK102 hb)
            replace HB := am (below_step (K1 HB GE102.out) hb)
            (try clear hb)
            (try clear hb2)
            (try clear hk)
            (try clear hi)
            refine hK.out _ _ ⟨z0 _ BK102.out, z1 _ BK102.out, z2 _ BK102.out, z3 _ BK102.out, z4 _ BK102.out, z5 _ BK102.out, z6 _ BK102.out, z7 _ BK102.out, z8 _ BK102.out, z9 _ BK102.out, z10 _ BK102.out, (CY HB.out hw104_0), (CY HB.out hw104_1), (CY HB.out hw104_2), (CY HB.out hw104_3), (CY HB.out hw104_4), (CY HB.out hw104_5), (CY HB.out hw104_6), (CY HB.out hw104_7), (CY HB.out hw104_8), (CY HB.out hw104_9), (CY HB.out hw104_10)⟩ (fun hHeld => ?_)
            clear hK K
            refine norm_ (a' := ?_) ?_ ?_
            rotate_left
            ·show Act.put _ (some 38) _ = _
             simp only [Act.put, List.setIfInBounds_toArray, List.set_cons_zero, List.set_cons_succ, i64_w, i32_w]
             rfl
            refine pv HT_ 23 39 (tf 24 2) ?_
            refine pv HT_ 24 40 (tf 25 1) ?_
            refine pv HT_ 25 41 (tf 26 0) ?_
            refine done_ (done_of HT_.out (by kernel_rfl)) ?_
            try go_wp2
            go_meet
            case rel => exact ⟨_, (decide (t105 ≥ t106)), (by first | rfl | (simp; done) | (simp [*]; done)), H', ⟨by have := HK1.out; first | omega | exact Nat.le_refl _⟩, ⟨KB BK102⟩, ⟨K1 HB GE102.out⟩⟩
           ·rw [if_neg c19] at H
            exact absurd H (by simp)
          ·rw [if_neg c18] at H
           exact absurd H (by simp)
         ·rw [if_neg c16] at H
          have c16b0 : decide (0 < x11_1) = false := decide_eq_false c16
          clear c16
          have H' := Aside0.mk H
          clear H
          try go_wp2
          have n0_ : Aside0 ((((((((((((w8.setCell ⟨gb102, 0, none⟩ (.int .i64 ((rd_T95 l0 x11_1).f0))).setCell ⟨gb102, 1, none⟩ (.int .i64 ((rd_T95 l0 x11_1).f1))).setCell ⟨gb102, 2, none⟩ (.string ((rd_T95 l0 x11_1).f2))).setCell ⟨gb102, 3, none⟩ (.string ((rd_T95 l0 x11_1).f3))).setCell ⟨gb102, 4, none⟩ (.int .i64 ((rd_T95 l0 x11_1).f4))).setCell ⟨gb102, 5, none⟩ (.int .i64 ((rd_T95 l0 x11_1).f5))).setCell ⟨gb102, 6, none⟩ (.int .i64 ((rd_T95 l0 x11_1).f6))).setCell ⟨gb102, 7, none⟩ (.int .i64 ((rd_T95 l0 x11_1).f7))).setCell ⟨gb102, 8, none⟩ (.int .i64 ((rd_T95 l0 x11_1).f8))).setCell ⟨gb102, 9, none⟩ (.int .i64 ((rd_T95 l0 x11_1).f9.f0))).setCell ⟨gb102, 10, none⟩ (.slice A101_10 ((rd_T95 l0 x11_1).f9.f1).length c101_10)).heap[gb102]? = some (.cells #[.int .i64 ((rd_T95 l0 x11_1).f0), .int .i64 ((rd_T95 l0 x11_1).f1), .string ((rd_T95 l0 x11_1).f2), .string ((rd_T95 l0 x11_1).f3), .int .i64 ((rd_T95 l0 x11_1).f4), .int .i64 ((rd_T95 l0 x11_1).f5), .int .i64 ((rd_T95 l0 x11_1).f6), .int .i64 ((rd_T95 l0 x11_1).f7), .int .i64 ((rd_T95 l0 x11_1).f8), .int .i64 ((rd_T95 l0 x11_1).f9.f0), .slice A101_10 ((rd_T95 l0 x11_1).f9.f1).length c101_10] 95 (0, 0))) := ⟨by (with_reducible repeat (first | refine blk_drewN ?_ _ | refine blk_drew ?_ | refine blk_alloc ?_ _)); refine blk_put (cs := #[.int .i64 ((rd_T95 l0 x11_1).f0), .int .i64 ((rd_T95 l0 x11_1).f1), .string ((rd_T95 l0 x11_1).f2), .string ((rd_T95 l0 x11_1).f3), .int .i64 ((rd_T95 l0 x11_1).f4), .int .i64 ((rd_T95 l0 x11_1).f5), .int .i64 ((rd_T95 l0 x11_1).f6), .int .i64 ((rd_T95 l0 x11_1).f7), .int .i64 ((rd_T95 l0 x11_1).f8), .int .i64 ((rd_T95 l0 x11_1).f9.f0), .slice none 0 0]) ?_ 10 _ rfl; (with_reducible repeat (first | refine blk_drewN ?_ _ | refine blk_drew ?_ | refine blk_alloc ?_ _)); refine blk_put (cs := #[.int .i64 ((rd_T95 l0 x11_1).f0), .int .i64 ((rd_T95 l0 x11_1).f1), .string ((rd_T95 l0 x11_1).f2), .string ((rd_T95 l0 x11_1).f3), .int .i64 ((rd_T95 l0 x11_1).f4), .int .i64 ((rd_T95 l0 x11_1).f5), .int .i64 ((rd_T95 l0 x11_1).f6), .int .i64 ((rd_T95 l0 x11_1).f7), .int .i64 ((rd_T95 l0 x11_1).f8), .int .i64 0, .slice none 0 0]) ?_ 9 _ rfl; (with_reducible repeat (first | refine blk_drewN ?_ _ | refine blk_drew ?_ | refine blk_alloc ?_ _)); refine blk_put (cs := #[.int .i64 ((rd_T95 l0 x11_1).f0), .int .i64 ((rd_T95 l0 x11_1).f1), .string ((rd_T95 l0 x11_1).f2), .string ((rd_T95 l0 x11_1).f3), .int .i64 ((rd_T95 l0 x11_1).f4), .int .i64 ((rd_T95 l0 x11_1).f5), .int .i64 ((rd_T95 l0 x11_1).f6), .int .i64 ((rd_T95 l0 x11_1).f7), .int .i64 0, .int .i64 0, .slice none 0 0]) ?_ 8 _ rfl; (with_reducible repeat (first | refine blk_drewN ?_ _ | refine blk_drew ?_ | refine blk_alloc ?_ _)); refine blk_put (cs := #[.int .i64 ((rd_T95 l0 x11_1).f0), .int .i64 ((rd_T95 l0 x11_1).f1), .string ((rd_T95 l0 x11_1).f2), .string ((rd_T95 l0 x11_1).f3), .int .i64 ((rd_T95 l0 x11_1).f4), .int .i64 ((rd_T95 l0 x11_1).f5), .int .i64 ((rd_T95 l0 x11_1).f6), .int .i64 0, .int .i64 0, .int .i64 0, .slice none 0 0]) ?_ 7 _ rfl; (with_reducible repeat (first | refine blk_drewN ?_ _ | refine blk_drew ?_ | refine blk_alloc ?_ _)); refine blk_put (cs := #[.int .i64 ((rd_T95 l0 x11_1).f0), .int .i64 ((rd_T95 l0 x11_1).f1), .string ((rd_T95 l0 x11_1).f2), .string ((rd_T95 l0 x11_1).f3), .int .i64 ((rd_T95 l0 x11_1).f4), .int .i64 ((rd_T95 l0 x11_1).f5), .int .i64 0, .int .i64 0, .int .i64 0, .int .i64 0, .slice none 0 0]) ?_ 6 _ rfl; (with_reducible repeat (first | refine blk_drewN ?_ _ | refine blk_drew ?_ | refine blk_alloc ?_ _)); refine blk_put (cs := #[.int .i64 ((rd_T95 l0 x11_1).f0), .int .i64 ((rd_T95 l0 x11_1).f1), .string ((rd_T95 l0 x11_1).f2), .string ((rd_T95 l0 x11_1).f3), .int .i64 ((rd_T95 l0 x11_1).f4), .int .i64 0, .int .i64 0, .int .i64 0, .int .i64 0, .int .i64 0, .slice none 0 0]) ?_ 5 _ rfl; (with_reducible repeat (first | refine blk_drewN ?_ _ | refine blk_drew ?_ | refine blk_alloc ?_ _)); refine blk_put (cs := #[.int .i64 ((rd_T95 l0 x11_1).f0), .int .i64 ((rd_T95 l0 x11_1).f1), .string ((rd_T95 l0 x11_1).f2), .string ((rd_T95 l0 x11_1).f3), .int .i64 0, .int .i64 0, .int .i64 0, .int .i64 0, .int .i64 0, .int .i64 0, .slice none 0 0]) ?_ 4 _ rfl; (with_reducible repeat (first | refine blk_drewN ?_ _ | refine blk_drew ?_ | refine blk_alloc ?_ _)); refine blk_put (cs := #[.int .i64 ((rd_T95 l0 x11_1).f0), .int .i64 ((rd_T95 l0 x11_1).f1), .string ((rd_T95 l0 x11_1).f2), .string (⟨#[]⟩ : ByteArray), .int .i64 0, .int .i64 0, .int .i64 0, .int .i64 0, .int .i64 0, .int .i64 0, .slice none 0 0]) ?_ 3 _ rfl; (with_reducible repeat (first | refine blk_drewN ?_ _ | refine blk_drew ?_ | refine blk_alloc ?_ _)); refine blk_put (cs := #[.int .i64 ((rd_T95 l0 x11_1).f0), .int .i64 ((rd_T95 l0 x11_1).f1), .string (⟨#[]⟩ : ByteArray), .string (⟨#[]⟩ : ByteArray), .int .i64 0, .int .i64 0, .int .i64 0, .int .i64 0, .int .i64 0, .int .i64 0, .slice none 0 0]) ?_ 2 _ rfl; (with_reducible repeat (first | refine blk_drewN ?_ _ | refine blk_drew ?_ | refine blk_alloc ?_ _)); refine blk_put (cs := #[.int .i64 ((rd_T95 l0 x11_1).f0), .int .i64 0, .string (⟨#[]⟩ : ByteArray), .string (⟨#[]⟩ : ByteArray), .int .i64 0, .int .i64 0, .int .i64 0, .int .i64 0, .int .i64 0, .int .i64 0, .slice none 0 0]) ?_ 1 _ rfl; (with_reducible repeat (first | refine blk_drewN ?_ _ | refine blk_drew ?_ | refine blk_alloc ?_ _)); refine blk_put (cs := #[.int .i64 0, .int .i64 0, .string (⟨#[]⟩ : ByteArray), .string (⟨#[]⟩ : ByteArray), .int .i64 0, .int .i64 0, .int .i64 0, .int .i64 0, .int .i64 0, .int .i64 0, .slice none 0 0]) ?_ 0 _ rfl; (with_reducible repeat (first | refine blk_drewN ?_ _ | refine blk_drew ?_ | refine blk_alloc ?_ _)); exact BK102.out⟩
          have n1_ : Aside0 (Below w.heap.size w (((((((((((w8.setCell ⟨gb102, 0, none⟩ (.int .i64 ((rd_T95 l0 x11_1).f0))).setCell ⟨gb102, 1, none⟩ (.int .i64 ((rd_T95 l0 x11_1).f1))).setCell ⟨gb102, 2, none⟩ (.string ((rd_T95 l0 x11_1).f2))).setCell ⟨gb102, 3, none⟩ (.string ((rd_T95 l0 x11_1).f3))).setCell ⟨gb102, 4, none⟩ (.int .i64 ((rd_T95 l0 x11_1).f4))).setCell ⟨gb102, 5, none⟩ (.int .i64 ((rd_T95 l0 x11_1).f5))).setCell ⟨gb102, 6, none⟩ (.int .i64 ((rd_T95 l0 x11_1).f6))).setCell ⟨gb102, 7, none⟩ (.int .i64 ((rd_T95 l0 x11_1).f7))).setCell ⟨gb102, 8, none⟩ (.int .i64 ((rd_T95 l0 x11_1).f8))).setCell ⟨gb102, 9, none⟩ (.int .i64 ((rd_T95 l0 x11_1).f9.f0))).setCell ⟨gb102, 10, none⟩ (.slice A101_10 ((rd_T95 l0 x11_1).f9.f1).length c101_10))) := ⟨K1 HB GE102.out⟩
          (try clear BK102)
          (try clear HB)
          generalize (((((((((((w8.setCell ⟨gb102, 0, none⟩ (.int .i64 ((rd_T95 l0 x11_1).f0))).setCell ⟨gb102, 1, none⟩ (.int .i64 ((rd_T95 l0 x11_1).f1))).setCell ⟨gb102, 2, none⟩ (.string ((rd_T95 l0 x11_1).f2))).setCell ⟨gb102, 3, none⟩ (.string ((rd_T95 l0 x11_1).f3))).setCell ⟨gb102, 4, none⟩ (.int .i64 ((rd_T95 l0 x11_1).f4))).setCell ⟨gb102, 5, none⟩ (.int .i64 ((rd_T95 l0 x11_1).f5))).setCell ⟨gb102, 6, none⟩ (.int .i64 ((rd_T95 l0 x11_1).f6))).setCell ⟨gb102, 7, none⟩ (.int .i64 ((rd_T95 l0 x11_1).f7))).setCell ⟨gb102, 8, none⟩ (.int .i64 ((rd_T95 l0 x11_1).f8))).setCell ⟨gb102, 9, none⟩ (.int .i64 ((rd_T95 l0 x11_1).f9.f0))).setCell ⟨gb102, 10, none⟩ (.slice A101_10 ((rd_T95 l0 x11_1).f9.f1).length c101_10)) = w27 at n0_ n1_ ⊢
          have BK102 := n0_
          have HB := n1_
          clear n0_ n1_
          replace BK102 := am (blk_drew BK102.out)
          replace HB := am (below_drew1 HB.out)
          refine start_ (n := 26) (S := fun w' => de11 w' gb102 (.int .i64 ((rd_T95 l0 x11_1).f0)) (.int .i64 ((rd_T95 l0 x11_1).f1)) (.string ((rd_T95 l0 x11_1).f2)) (.string ((rd_T95 l0 x11_1).f3)) (.int .i64 ((rd_T95 l0 x11_1).f4)) (.int .i64 ((rd_T95 l0 x11_1).f5)) (.int .i64 ((rd_T95 l0 x11_1).f6)) (.int .i64 ((rd_T95 l0 x11_1).f7)) (.int .i64 ((rd_T95 l0 x11_1).f8)) (.int .i64 ((rd_T95 l0 x11_1).f9.f0)) (.slice A101_10 ((rd_T95 l0 x11_1).f9.f1).length c101_10)) (ds := []) (tf 0 26) (by kernel_rfl) rfl rfl ⟨z0 _ BK102.out, z1 _ BK102.out, z2 _ BK102.out, z3 _ BK102.out, z4 _ BK102.out, z5 _ BK102.out, z6 _ BK102.out, z7 _ BK102.out, z8 _ BK102.out, z9 _ BK102.out, z10 _ BK102.out⟩ (fun hHeld => ?_); refine with_tabW impl_ascending_tunOf.tab4 impl_ascending_tunOf.bits4 (fun HT_ HW_ => ?_)
          generalize w27.drew = w28 at BK102 HB hHeld ⊢
          refine tk 0 (some 16) (tf 1 25) (take_ofW HT_.out HW_.out (by kernel_rfl)) hHeld ?_
          refine one_ (i := 1) (N := some 17) (tf 2 24) rfl rfl (one_of HT_.out (by kernel_rfl)) (by decide) (fun K hK => ?_)
          refine goes_ Try.func111 (by kernel_rfl) rfl #[.agg #[.int .i64 ((rd_T95 l0 x11_1).f0), .int .i64 ((rd_T95 l0 x11_1).f1), .string ((rd_T95 l0 x11_1).f2), .string ((rd_T95 l0 x11_1).f3), .int .i64 ((rd_T95 l0 x11_1).f4), .int .i64 ((rd_T95 l0 x11_1).f5), .int .i64 ((rd_T95 l0 x11_1).f6), .int .i64 ((rd_T95 l0 x11_1).f7), .int .i64 ((rd_T95 l0 x11_1).f8), .int .i64 ((rd_T95 l0 x11_1).f9.f0), .slice A101_10 ((rd_T95 l0 x11_1).f9.f1).length c101_10]] (by rfl) rfl rfl MT ?_
          with_reducible refine (impl_SaOk.calls k1 ((rd_T95 l0 x11_1).f0) ((rd_T95 l0 x11_1).f1) ((rd_T95 l0 x11_1).f2) ((rd_T95 l0 x11_1).f3) ((rd_T95 l0 x11_1).f4) ((rd_T95 l0 x11_1).f5) ((rd_T95 l0 x11_1).f6) ((rd_T95 l0 x11_1).f7) ((rd_T95 l0 x11_1).f8) ((rd_T95 l0 x11_1).f9.f0) _ _ ((rd_T95 l0 x11_1).f9.f1) true _ ?side1 ?side2 A10.out).mono ?_
          (case side1 => exact KD HR101_10 HB)
          (case side2 => exact HC101_10.out)
          rintro e w29 ⟨rfl, hb⟩
          refine ⟨_, rfl, ?_⟩
          replace BK102 := am (BB BK102 hb)
          replace HB := am (below_step (K1 HB GE102.out) hb)
          (try clear hb)
          (try clear hb2)
          (try clear hk)
          (try clear hi)
          refine hK.out _ _ ⟨z0 _ BK102.out, z1 _ BK102.out, z2 _ BK102.out, z3 _ BK102.out, z4 _ BK102.out, z5 _ BK102.out, z6 _ BK102.out, z7 _ BK102.out, z8 _ BK102.out, z9 _ BK102.out, z10 _ BK102.out⟩ (fun hHeld => ?_)
          clear hK K
          refine norm_ (a' := ?_) ?_ ?_
          rotate_left
          ·show Act.put _ (some 17) _ = _
           simp only [Act.put, List.setIfInBounds_toArray, List.set_cons_zero, List.set_cons_succ, i64_w, i32_w]
           rfl
          refine pv HT_ 2 18 (tf 3 23) ?_
          refine pv HT_ 3 19 (tf 4 22) ?_
          refine pv HT_ 4 20 (tf 5 21) ?_
          refine pv HT_ 6 22 (tr [5, 1, 1, 19]) ?_
          refine tk 5 (some 21) (tf 7 19) (take_ofW HT_.out HW_.out (by kernel_rfl)) hHeld ?_
          refine pv HT_ 7 23 (tf 8 18) ?_
          refine pv HT_ 8 24 (tf 9 17) ?_
          refine pv HT_ 9 25 (tf 10 16) ?_
          refine pv HT_ 10 26 (tf 11 15) ?_
          refine pv HT_ 11 27 (tf 12 14) ?_
          refine pv HT_ 12 28 (tf 13 13) ?_
          refine pw HT_ 13 29 (tf 14 12) ?_
          refine pw HT_ 14 30 (tf 15 11) ?_
          refine pw HT_ 15 31 (tf 16 10) ?_
          refine pw HT_ 16 32 (tf 17 9) ?_
          refine pw HT_ 17 33 (tf 18 8) ?_
          refine pw HT_ 18 34 (tf 19 7) ?_
          refine pw HT_ 19 35 (tf 20 6) ?_
          refine pw HT_ 20 36 (tf 21 5) ?_
          refine pw HT_ 21 37 (tf 22 4) ?_
          refine pw HT_ 22 38 (tf 23 3) ?_
          refine pw HT_ 23 39 (tf 24 2) ?_
          refine pv HT_ 24 40 (tf 25 1) ?_
          refine pv HT_ 25 41 (tf 26 0) ?_
          refine done_ (done_of HT_.out (by kernel_rfl)) ?_
          try go_wp2
          go_meet
          case rel => exact ⟨_, (false), (by first | rfl | (simp; done) | (simp [*]; done)), H', ⟨by have := HK1.out; first | omega | exact Nat.le_refl _⟩, ⟨KB BK102⟩, ⟨K1 HB GE102.out⟩⟩
       ·replace c11 := Bool.eq_false_iff.mpr c11
        subst c11
        have H1 : (impl_ascending_tunOf.j1 k1 l0 a1 l0 (l0.length : Int) x11_1 true) = some r := by rw [if_neg (show ¬ (false = true) by decide)] at H; exact H
        clear H
        have H := H1
        clear H1
        have H' := Aside0.mk H
        clear H
        try go_wp2
        have n0_ : Aside0 ((((((((((((w8.setCell ⟨gb102, 0, none⟩ (.int .i64 ((rd_T95 l0 x11_1).f0))).setCell ⟨gb102, 1, none⟩ (.int .i64 ((rd_T95 l0 x11_1).f1))).setCell ⟨gb102, 2, none⟩ (.string ((rd_T95 l0 x11_1).f2))).setCell ⟨gb102, 3, none⟩ (.string ((rd_T95 l0 x11_1).f3))).setCell ⟨gb102, 4, none⟩ (.int .i64 ((rd_T95 l0 x11_1).f4))).setCell ⟨gb102, 5, none⟩ (.int .i64 ((rd_T95 l0 x11_1).f5))).setCell ⟨gb102, 6, none⟩ (.int .i64 ((rd_T95 l0 x11_1).f6))).setCell ⟨gb102, 7, none⟩ (.int .i64 ((rd_T95 l0 x11_1).f7))).setCell ⟨gb102, 8, none⟩ (.int .i64 ((rd_T95 l0 x11_1).f8))).setCell ⟨gb102, 9, none⟩ (.int .i64 ((rd_T95 l0 x11_1).f9.f0))).setCell ⟨gb102, 10, none⟩ (.slice A101_10 ((rd_T95 l0 x11_1).f9.f1).length c101_10)).heap[gb102]? = some (.cells #[.int .i64 ((rd_T95 l0 x11_1).f0), .int .i64 ((rd_T95 l0 x11_1).f1), .string ((rd_T95 l0 x11_1).f2), .string ((rd_T95 l0 x11_1).f3), .int .i64 ((rd_T95 l0 x11_1).f4), .int .i64 ((rd_T95 l0 x11_1).f5), .int .i64 ((rd_T95 l0 x11_1).f6), .int .i64 ((rd_T95 l0 x11_1).f7), .int .i64 ((rd_T95 l0 x11_1).f8), .int .i64 ((rd_T95 l0 x11_1).f9.f0), .slice A101_10 ((rd_T95 l0 x11_1).f9.f1).length c101_10] 95 (0, 0))) := ⟨by (with_reducible repeat (first | refine blk_drewN ?_ _ | refine blk_drew ?_ | refine blk_alloc ?_ _)); refine blk_put (cs := #[.int .i64 ((rd_T95 l0 x11_1).f0), .int .i64 ((rd_T95 l0 x11_1).f1), .string ((rd_T95 l0 x11_1).f2), .string ((rd_T95 l0 x11_1).f3), .int .i64 ((rd_T95 l0 x11_1).f4), .int .i64 ((rd_T95 l0 x11_1).f5), .int .i64 ((rd_T95 l0 x11_1).f6), .int .i64 ((rd_T95 l0 x11_1).f7), .int .i64 ((rd_T95 l0 x11_1).f8), .int .i64 ((rd_T95 l0 x11_1).f9.f0), .slice none 0 0]) ?_ 10 _ rfl; (with_reducible repeat (first | refine blk_drewN ?_ _ | refine blk_drew ?_ | refine blk_alloc ?_ _)); refine blk_put (cs := #[.int .i64 ((rd_T95 l0 x11_1).f0), .int .i64 ((rd_T95 l0 x11_1).f1), .string ((rd_T95 l0 x11_1).f2), .string ((rd_T95 l0 x11_1).f3), .int .i64 ((rd_T95 l0 x11_1).f4), .int .i64 ((rd_T95 l0 x11_1).f5), .int .i64 ((rd_T95 l0 x11_1).f6), .int .i64 ((rd_T95 l0 x11_1).f7), .int .i64 ((rd_T95 l0 x11_1).f8), .int .i64 0, .slice none 0 0]) ?_ 9 _ rfl; (with_reducible repeat (first | refine blk_drewN ?_ _ | refine blk_drew ?_ | refine blk_alloc ?_ _)); refine blk_put (cs := #[.int .i64 ((rd_T95 l0 x11_1).f0), .int .i64 ((rd_T95 l0 x11_1).f1), .string ((rd_T95 l0 x11_1).f2), .string ((rd_T95 l0 x11_1).f3), .int .i64 ((rd_T95 l0 x11_1).f4), .int .i64 ((rd_T95 l0 x11_1).f5), .int .i64 ((rd_T95 l0 x11_1).f6), .int .i64 ((rd_T95 l0 x11_1).f7), .int .i64 0, .int .i64 0, .slice none 0 0]) ?_ 8 _ rfl; (with_reducible repeat (first | refine blk_drewN ?_ _ | refine blk_drew ?_ | refine blk_alloc ?_ _)); refine blk_put (cs := #[.int .i64 ((rd_T95 l0 x11_1).f0), .int .i64 ((rd_T95 l0 x11_1).f1), .string ((rd_T95 l0 x11_1).f2), .string ((rd_T95 l0 x11_1).f3), .int .i64 ((rd_T95 l0 x11_1).f4), .int .i64 ((rd_T95 l0 x11_1).f5), .int .i64 ((rd_T95 l0 x11_1).f6), .int .i64 0, .int .i64 0, .int .i64 0, .slice none 0 0]) ?_ 7 _ rfl; (with_reducible repeat (first | refine blk_drewN ?_ _ | refine blk_drew ?_ | refine blk_alloc ?_ _)); refine blk_put (cs := #[.int .i64 ((rd_T95 l0 x11_1).f0), .int .i64 ((rd_T95 l0 x11_1).f1), .string ((rd_T95 l0 x11_1).f2), .string ((rd_T95 l0 x11_1).f3), .int .i64 ((rd_T95 l0 x11_1).f4), .int .i64 ((rd_T95 l0 x11_1).f5), .int .i64 0, .int .i64 0, .int .i64 0, .int .i64 0, .slice none 0 0]) ?_ 6 _ rfl; (with_reducible repeat (first | refine blk_drewN ?_ _ | refine blk_drew ?_ | refine blk_alloc ?_ _)); refine blk_put (cs := #[.int .i64 ((rd_T95 l0 x11_1).f0), .int .i64 ((rd_T95 l0 x11_1).f1), .string ((rd_T95 l0 x11_1).f2), .string ((rd_T95 l0 x11_1).f3), .int .i64 ((rd_T95 l0 x11_1).f4), .int .i64 0, .int .i64 0, .int .i64 0, .int .i64 0, .int .i64 0, .slice none 0 0]) ?_ 5 _ rfl; (with_reducible repeat (first | refine blk_drewN ?_ _ | refine blk_drew ?_ | refine blk_alloc ?_ _)); refine blk_put (cs := #[.int .i64 ((rd_T95 l0 x11_1).f0), .int .i64 ((rd_T95 l0 x11_1).f1), .string ((rd_T95 l0 x11_1).f2), .string ((rd_T95 l0 x11_1).f3), .int .i64 0, .int .i64 0, .int .i64 0, .int .i64 0, .int .i64 0, .int .i64 0, .slice none 0 0]) ?_ 4 _ rfl; (with_reducible repeat (first | refine blk_drewN ?_ _ | refine blk_drew ?_ | refine blk_alloc ?_ _)); refine blk_put (cs := #[.int .i64 ((rd_T95 l0 x11_1).f0), .int .i64 ((rd_T95 l0 x11_1).f1), .string ((rd_T95 l0 x11_1).f2), .string (⟨#[]⟩ : ByteArray), .int .i64 0, .int .i64 0, .int .i64 0, .int .i64 0, .int .i64 0, .int .i64 0, .slice none 0 0]) ?_ 3 _ rfl; (with_reducible repeat (first | refine blk_drewN ?_ _ | refine blk_drew ?_ | refine blk_alloc ?_ _)); refine blk_put (cs := #[.int .i64 ((rd_T95 l0 x11_1).f0), .int .i64 ((rd_T95 l0 x11_1).f1), .string (⟨#[]⟩ : ByteArray), .string (⟨#[]⟩ : ByteArray), .int .i64 0, .int .i64 0, .int .i64 0, .int .i64 0, .int .i64 0, .int .i64 0, .slice none 0 0]) ?_ 2 _ rfl; (with_reducible repeat (first | refine blk_drewN ?_ _ | refine blk_drew ?_ | refine blk_alloc ?_ _)); refine blk_put (cs := #[.int .i64 ((rd_T95 l0 x11_1).f0), .int .i64 0, .string (⟨#[]⟩ : ByteArray), .string (⟨#[]⟩ : ByteArray), .int .i64 0, .int .i64 0, .int .i64 0, .int .i64 0, .int .i64 0, .int .i64 0, .slice none 0 0]) ?_ 1 _ rfl; (with_reducible repeat (first | refine blk_drewN ?_ _ | refine blk_drew ?_ | refine blk_alloc ?_ _)); refine blk_put (cs := #[.int .i64 0, .int .i64 0, .string (⟨#[]⟩ : ByteArray), .string (⟨#[]⟩ : ByteArray), .int .i64 0, .int .i64 0, .int .i64 0, .int .i64 0, .int .i64 0, .int .i64 0, .slice none 0 0]) ?_ 0 _ rfl; (with_reducible repeat (first | refine blk_drewN ?_ _ | refine blk_drew ?_ | refine blk_alloc ?_ _)); exact BK102.out⟩
        have n1_ : Aside0 (Below w.heap.size w (((((((((((w8.setCell ⟨gb102, 0, none⟩ (.int .i64 ((rd_T95 l0 x11_1).f0))).setCell ⟨gb102, 1, none⟩ (.int .i64 ((rd_T95 l0 x11_1).f1))).setCell ⟨gb102, 2, none⟩ (.string ((rd_T95 l0 x11_1).f2))).setCell ⟨gb102, 3, none⟩ (.string ((rd_T95 l0 x11_1).f3))).setCell ⟨gb102, 4, none⟩ (.int .i64 ((rd_T95 l0 x11_1).f4))).setCell ⟨gb102, 5, none⟩ (.int .i64 ((rd_T95 l0 x11_1).f5))).setCell ⟨gb102, 6, none⟩ (.int .i64 ((rd_T95 l0 x11_1).f6))).setCell ⟨gb102, 7, none⟩ (.int .i64 ((rd_T95 l0 x11_1).f7))).setCell ⟨gb102, 8, none⟩ (.int .i64 ((rd_T95 l0 x11_1).f8))).setCell ⟨gb102, 9, none⟩ (.int .i64 ((rd_T95 l0 x11_1).f9.f0))).setCell ⟨gb102, 10, none⟩ (.slice A101_10 ((rd_T95 l0 x11_1).f9.f1).length c101_10))) := ⟨K1 HB GE102.out⟩
        (try clear BK102)
        (try clear HB)
        generalize (((((((((((w8.setCell ⟨gb102, 0, none⟩ (.int .i64 ((rd_T95 l0 x11_1).f0))).setCell ⟨gb102, 1, none⟩ (.int .i64 ((rd_T95 l0 x11_1).f1))).setCell ⟨gb102, 2, none⟩ (.string ((rd_T95 l0 x11_1).f2))).setCell ⟨gb102, 3, none⟩ (.string ((rd_T95 l0 x11_1).f3))).setCell ⟨gb102, 4, none⟩ (.int .i64 ((rd_T95 l0 x11_1).f4))).setCell ⟨gb102, 5, none⟩ (.int .i64 ((rd_T95 l0 x11_1).f5))).setCell ⟨gb102, 6, none⟩ (.int .i64 ((rd_T95 l0 x11_1).f6))).setCell ⟨gb102, 7, none⟩ (.int .i64 ((rd_T95 l0 x11_1).f7))).setCell ⟨gb102, 8, none⟩ (.int .i64 ((rd_T95 l0 x11_1).f8))).setCell ⟨gb102, 9, none⟩ (.int .i64 ((rd_T95 l0 x11_1).f9.f0))).setCell ⟨gb102, 10, none⟩ (.slice A101_10 ((rd_T95 l0 x11_1).f9.f1).length c101_10)) = w30 at n0_ n1_ ⊢
        have BK102 := n0_
        have HB := n1_
        clear n0_ n1_
        replace BK102 := am (blk_drew BK102.out)
        replace HB := am (below_drew1 HB.out)
        refine start_ (n := 26) (S := fun w' => de11 w' gb102 (.int .i64 ((rd_T95 l0 x11_1).f0)) (.int .i64 ((rd_T95 l0 x11_1).f1)) (.string ((rd_T95 l0 x11_1).f2)) (.string ((rd_T95 l0 x11_1).f3)) (.int .i64 ((rd_T95 l0 x11_1).f4)) (.int .i64 ((rd_T95 l0 x11_1).f5)) (.int .i64 ((rd_T95 l0 x11_1).f6)) (.int .i64 ((rd_T95 l0 x11_1).f7)) (.int .i64 ((rd_T95 l0 x11_1).f8)) (.int .i64 ((rd_T95 l0 x11_1).f9.f0)) (.slice A101_10 ((rd_T95 l0 x11_1).f9.f1).length c101_10)) (ds := []) (tf 0 26) (by kernel_rfl) rfl rfl ⟨z0 _ BK102.out, z1 _ BK102.out, z2 _ BK102.out, z3 _ BK102.out, z4 _ BK102.out, z5 _ BK102.out, z6 _ BK102.out, z7 _ BK102.out, z8 _ BK102.out, z9 _ BK102.out, z10 _ BK102.out⟩ (fun hHeld => ?_); refine with_tabW impl_ascending_tunOf.tab4 impl_ascending_tunOf.bits4 (fun HT_ HW_ => ?_)
        generalize w30.drew = w31 at BK102 HB hHeld ⊢
        refine tk 0 (some 16) (tf 1 25) (take_ofW HT_.out HW_.out (by kernel_rfl)) hHeld ?_
        refine one_ (i := 1) (N := some 17) (tf 2 24) rfl rfl (one_of HT_.out (by kernel_rfl)) (by decide) (fun K hK => ?_)
        refine goes_ Try.func111 (by kernel_rfl) rfl #[.agg #[.int .i64 ((rd_T95 l0 x11_1).f0), .int .i64 ((rd_T95 l0 x11_1).f1), .string ((rd_T95 l0 x11_1).f2), .string ((rd_T95 l0 x11_1).f3), .int .i64 ((rd_T95 l0 x11_1).f4), .int .i64 ((rd_T95 l0 x11_1).f5), .int .i64 ((rd_T95 l0 x11_1).f6), .int .i64 ((rd_T95 l0 x11_1).f7), .int .i64 ((rd_T95 l0 x11_1).f8), .int .i64 ((rd_T95 l0 x11_1).f9.f0), .slice A101_10 ((rd_T95 l0 x11_1).f9.f1).length c101_10]] (by rfl) rfl rfl MT ?_
        with_reducible refine (impl_SaOk.calls k1 ((rd_T95 l0 x11_1).f0) ((rd_T95 l0 x11_1).f1) ((rd_T95 l0 x11_1).f2) ((rd_T95 l0 x11_1).f3) ((rd_T95 l0 x11_1).f4) ((rd_T95 l0 x11_1).f5) ((rd_T95 l0 x11_1).f6) ((rd_T95 l0 x11_1).f7) ((rd_T95 l0 x11_1).f8) ((rd_T95 l0 x11_1).f9.f0) _ _ ((rd_T95 l0 x11_1).f9.f1) false _ ?side1 ?side2 A10.out).mono ?_
        (case side1 => exact KD HR101_10 HB)
        (case side2 => exact HC101_10.out)
        rintro e w32 ⟨rfl, hb⟩
        refine ⟨_, rfl, ?_⟩
        replace BK102 := am (BB BK102 hb)
        replace HB := am (below_step (K1 HB GE102.out) hb)
        (try clear hb)
        (try clear hb2)
        (try clear hk)
        (try clear hi)
        refine hK.out _ _ ⟨z0 _ BK102.out, z1 _ BK102.out, z2 _ BK102.out, z3 _ BK102.out, z4 _ BK102.out, z5 _ BK102.out, z6 _ BK102.out, z7 _ BK102.out, z8 _ BK102.out, z9 _ BK102.out, z10 _ BK102.out⟩ (fun hHeld => ?_)
        clear hK K
        refine norm_ (a' := ?_) ?_ ?_
        rotate_left
        ·show Act.put _ (some 17) _ = _
         simp only [Act.put, List.setIfInBounds_toArray, List.set_cons_zero, List.set_cons_succ, i64_w, i32_w]
         rfl
        refine pv HT_ 2 18 (tf 3 23) ?_
        refine pv HT_ 3 19 (tf 4 22) ?_
        refine pw HT_ 4 20 (tf 5 21) ?_
        refine pw HT_ 5 21 (tf 6 20) ?_
        refine pw HT_ 6 22 (tf 7 19) ?_
        refine pw HT_ 7 23 (tf 8 18) ?_
        refine pv HT_ 8 24 (tf 9 17) ?_
        refine pv HT_ 9 25 (tf 10 16) ?_
        refine pw HT_ 10 26 (tf 11 15) ?_
        refine pw HT_ 11 27 (tf 12 14) ?_
        refine pw HT_ 12 28 (tf 13 13) ?_
        refine pw HT_ 13 29 (tf 14 12) ?_
        refine pw HT_ 14 30 (tf 15 11) ?_
        refine pw HT_ 15 31 (tf 16 10) ?_
        refine pw HT_ 16 32 (tf 17 9) ?_
        refine pw HT_ 17 33 (tf 18 8) ?_
        refine pw HT_ 18 34 (tf 19 7) ?_
        refine pw HT_ 19 35 (tf 20 6) ?_
        refine pw HT_ 20 36 (tf 21 5) ?_
        refine pw HT_ 21 37 (tf 22 4) ?_
        refine pw HT_ 22 38 (tf 23 3) ?_
        refine pw HT_ 23 39 (tf 24 2) ?_
        refine pw HT_ 24 40 (tf 25 1) ?_
        refine pv HT_ 25 41 (tf 26 0) ?_
        refine done_ (done_of HT_.out (by kernel_rfl)) ?_
        try go_wp2
        go_meet
        case rel => exact ⟨_, (true), (by first | rfl | (simp; done) | (simp [*]; done)), H', ⟨by have := HK1.out; first | omega | exact Nat.le_refl _⟩, ⟨KB BK102⟩, ⟨K1 HB GE102.out⟩⟩
      case rest =>
       clear HC7
       try clear c1
       try clear p2
       try clear c6
       try clear c10
       try clear c11
       try clear c16
       try clear c16b0
       try clear c18
       try clear c19
       obtain ⟨kq, x41_6, rfl, HA, HJ6, BK102, HB⟩ := hcut
       cases kq with
       | zero => exact absurd HA.out (by simp [impl_ascending_tunOf.j1])
       | succ kj6 =>
        have H := HA.out
        clear HA
        simp only [impl_ascending_tunOf.j1] at H
        by_cases c33 : x41_6 = true
        ·subst c33
         have H1 : (some false) = some r := by rw [if_pos rfl] at H; exact H
         clear H
         have H := H1
         clear H1
         obtain rfl := Option.some.inj H
         go_wp2
         go_ret
         exact ⟨ER, K1 HB GE102.out⟩
        ·replace c33 := Bool.eq_false_iff.mpr c33
         subst c33
         have H1 : (impl_ascending_tunOf.l0 kj6 l0 a1 l0 (l0.length : Int) (wrap64 (x11_1 + 1))) = some r := by rw [if_neg (show ¬ (false = true) by decide)] at H; exact H
         clear H
         have H := H1
         clear H1
         have H' := Aside0.mk H
         clear H
         go_wp2
         go_roundg kj6
         case measure => have := HK1.out; have := HJ6.out; omega
         case rel => exact ⟨(wrap64 (x11_1 + 1)), (by first | rfl | (simp; done) | (simp [*]; done)), H', ⟨by have := HK1.out; have := HJ6.out; omega⟩, ⟨K1 HB GE102.out⟩⟩
     ·rw [if_neg c6] at H
      exact absurd H (by simp)
    ·rw [if_neg c5] at H
     exact absurd H (by simp)
   ·rw [if_neg c4] at H
    have c4b0 : decide (x11_1 < (l0.length : Int)) = false := decide_eq_false c4
    clear c4
    obtain rfl := Option.some.inj H
    go_wp2
    go_ret
    exact ⟨ER, KL HB⟩
def impl_spiOf.f (a0_0 : Int) (a0_1 : Int) (a0_2 : ByteArray) (a0_3 : ByteArray) (a0_4 : Int) (a0_5 : Int) (a0_6 : Int) (a0_7 : Int) (a0_8 : Int) (a0_9 : Int) (l0_10 : List Int) : Option (Int) := some a0_0
set_option maxHeartbeats 8000000 in
set_option maxRecDepth 100000 in
theorem impl_spiOf.calls (a0_0 : Int) (a0_1 : Int) (a0_2 : ByteArray) (a0_3 : ByteArray) (a0_4 : Int) (a0_5 : Int) (a0_6 : Int) (a0_7 : Int) (a0_8 : Int) (a0_9 : Int) (A0_10 : Option Addr) (c0_10 : Nat) (l0_10 : List Int) (r : Int) (w : World) (hr0_10 : Kd.C (Kd.int .i64) w A0_10 l0_10.length l0_10) (hc0_10 : l0_10.length ≤ c0_10) (h : impl_spiOf.f a0_0 a0_1 a0_2 a0_3 a0_4 a0_5 a0_6 a0_7 a0_8 a0_9 l0_10 = some r) :
  Calls Try.prog 68 #[.agg #[.int .i64 a0_0, .int .i64 a0_1, .string a0_2, .string a0_3, .int .i64 a0_4, .int .i64 a0_5, .int .i64 a0_6, .int .i64 a0_7, .int .i64 a0_8, .int .i64 a0_9, .slice A0_10 l0_10.length c0_10]] w fun e w' => e = .returned (.int .i64 r) ∧ Below w.heap.size w w' := by
 have hu95 := Try.underlying95
 have HR0_10 := Aside0.mk hr0_10
 have HC0_10 := Aside0.mk hc0_10
 clear hr0_10 hc0_10
 have HB := am (Below.refl w.heap.size w)
 have H : (some a0_0) = some r := h
 clear h
 obtain rfl := Option.some.inj H
 go_enter Try.func68, Try.ntmps68
 go_wp2_with (first | ((with_reducible refine gate_dst (N := 1) rfl ?_); refine box_event rfl (N := 1) rfl (cs := #[.int .i64 a0_0, .int .i64 a0_1, .string a0_2, .string a0_3, .int .i64 a0_4, .int .i64 a0_5, .int .i64 a0_6, .int .i64 a0_7, .int .i64 a0_8, .int .i64 a0_9, .slice A0_10 l0_10.length c0_10]) (t := 95) BX ?_; intro gb101 hg w2 hbox hb; have BK101 := am (hbox); have GW101 := am (GH HB hg); have GE101 := GW101; replace HB := am (below_step (KL HB) hb); clear hb hbox hg; obtain ⟨hcz3_0, hcz3_1, hcz3_2, hcz3_3, hcz3_4, hcz3_5, hcz3_6, hcz3_7, hcz3_8, hcz3_9, hcz3_10, hfz3_0⟩ := y11 w2 BK101.out))
 go_ret
 exact ⟨ER, K1 HB GE101.out⟩
mutual
def impl_ascending_spiOf.l0 : Nat → List (S95) → Int → List (S95) → Int → Int → Option (Bool)
 | 0, _, _, _, _, _ => none
 | k + 1, x0, x1, x9, x10, x11 => if x11 < x10 then (if 0 ≤ x11 then (if x11 < (x9.length : Int) then ((impl_SaOk.f k ((rd_T95 x9 x11).f0) ((rd_T95 x9 x11).f1) ((rd_T95 x9 x11).f2) ((rd_T95 x9 x11).f3) ((rd_T95 x9 x11).f4) ((rd_T95 x9 x11).f5) ((rd_T95 x9 x11).f6) ((rd_T95 x9 x11).f7) ((rd_T95 x9 x11).f8) ((rd_T95 x9 x11).f9.f0) ((rd_T95 x9 x11).f9.f1)).bind fun t103 => (if t103 = true then (if ((rd_T95 x9 x11).f4) > x1 then (impl_ascending_spiOf.j1 k x0 x1 x9 x10 x11 true) else (if x11 > 0 then (if 0 ≤ (wrap64 (x11 - 1)) then (if (wrap64 (x11 - 1)) < (x0.length : Int) then ((impl_spiOf.f ((rd_T95 x0 (wrap64 (x11 - 1))).f0) ((rd_T95 x0 (wrap64 (x11 - 1))).f1) ((rd_T95 x0 (wrap64 (x11 - 1))).f2) ((rd_T95 x0 (wrap64 (x11 - 1))).f3) ((rd_T95 x0 (wrap64 (x11 - 1))).f4) ((rd_T95 x0 (wrap64 (x11 - 1))).f5) ((rd_T95 x0 (wrap64 (x11 - 1))).f6) ((rd_T95 x0 (wrap64 (x11 - 1))).f7) ((rd_T95 x0 (wrap64 (x11 - 1))).f8) ((rd_T95 x0 (wrap64 (x11 - 1))).f9.f0) ((rd_T95 x0 (wrap64 (x11 - 1))).f9.f1)).bind fun t105 => ((impl_spiOf.f ((rd_T95 x9 x11).f0) ((rd_T95 x9 x11).f1) ((rd_T95 x9 x11).f2) ((rd_T95 x9 x11).f3) ((rd_T95 x9 x11).f4) ((rd_T95 x9 x11).f5) ((rd_T95 x9 x11).f6) ((rd_T95 x9 x11).f7) ((rd_T95 x9 x11).f8) ((rd_T95 x9 x11).f9.f0) ((rd_T95 x9 x11).f9.f1)).bind fun t106 => (impl_ascending_spiOf.j1 k x0 x1 x9 x10 x11 (decide (t105 ≥ t106))))) else (none)) else (none)) else (impl_ascending_spiOf.j1 k x0 x1 x9 x10 x11 false))) else (impl_ascending_spiOf.j1 k x0 x1 x9 x10 x11 true))) else (none)) else (none)) else (some true)
def impl_ascending_spiOf.j1 : Nat → List (S95) → Int → List (S95) → Int → Int → Bool → Option (Bool)
 | 0, _, _, _, _, _, _ => none
 | k + 1, x0, x1, x9, x10, x11, x41 => if x41 = true then (some false) else (impl_ascending_spiOf.l0 k x0 x1 x9 x10 (wrap64 (x11 + 1)))
end
def impl_ascending_spiOf.f (k : Nat) (l0 : List (S95)) (a1 : Int)  : Option (Bool) := impl_ascending_spiOf.l0 k l0 a1 l0 (l0.length : Int) 0
def impl_ascending_spiOf.T4 : Bool × List (List Nat × List Nat) := (true, [([], []), ([0], [0]), ([1], [1]), ([2, 1], [2]), ([3], [3]), ([4, 3], [3, 4]), ([3], [3]), ([5, 6, 3], [3, 5, 6]), ([3, 7], [3, 7]), ([8, 3], [8]), ([9], [9]), ([10, 9], [9, 10]), ([11, 9, 9], [9, 11]), ([12], [12]), ([12], [12]), ([12], [12]), ([15, 12], [12, 15]), ([14, 16, 12], [12, 14, 16]), ([17, 12], [12, 17]), ([13, 18, 12, 12], [12, 13, 18]), ([12], [12]), ([12], [12]), ([20, 21, 19, 12], [12, 20, 21]), ([19, 22, 12], [12, 19, 22]), ([12, 23, 9], [9, 12, 23]), ([9, 24], [9, 24])])
def impl_ascending_spiOf.B4 : List Nat := [0, 1, 3, 7, 15, 31, 15, 127, 255, 511, 1023, 2047, 4095, 8191, 8191, 8191, 40959, 122879, 253951, 524287, 8191, 8191, 4194303, 8388607, 16777215, 33554431]
theorem impl_ascending_spiOf.tab4 : rtab .any (opsOf Try.f66 4) = impl_ascending_spiOf.T4 := by kernel_rfl
theorem impl_ascending_spiOf.bits4 : waitsOk impl_ascending_spiOf.T4.2 impl_ascending_spiOf.B4 = true := by kernel_rfl
set_option maxHeartbeats 8000000 in
set_option maxRecDepth 100000 in
theorem impl_ascending_spiOf.calls (k : Nat) (A0 : Option Addr) (c0 : Nat) (l0 : List (S95)) (a1 : Int)  (r : Bool) (w : World) (hr0 : Kd.C k95 w A0 l0.length l0) (hc0 : l0.length ≤ c0) (h : impl_ascending_spiOf.f k l0 a1 = some r) :
  Calls Try.prog 66 #[.slice A0 l0.length c0, .int .i64 a1, .func (.func 68) #[] #[]] w fun e w' => e = .returned (.bool r) ∧ Below w.heap.size w w' := by
 have hu95 := Try.underlying95
 have HR0 := Aside0.mk hr0
 have HC0 := Aside0.mk hc0
 clear hr0 hc0
 have HB := am (Below.refl w.heap.size w)
 have H : (impl_ascending_spiOf.l0 k l0 a1 l0 (l0.length : Int) 0) = some r := h
 clear h
 have H' := Aside0.mk H
 clear H
 go_enter Try.func66, Try.ntmps66
 go_wp2
 go_loopg [11] k (fun kq v11 w' => ∃ (x11_1 : Int), v11 = .int .i64 x11_1 ∧ Aside0 (impl_ascending_spiOf.l0 kq l0 a1 l0 (l0.length : Int) x11_1 = some r) ∧ Aside0 (kq ≤ k) ∧ Aside0 (Below w.heap.size w w'))
 case atStart => exact ⟨(0), (by first | rfl | (simp; done) | (simp [*]; done)), H', ⟨Nat.le_refl _⟩, ⟨KL HB⟩⟩
 case round =>
  clear H'
  try clear p2
  obtain ⟨x11_1, rfl, HA, HK1, HB⟩ := hrel
  cases gk with
  | zero => exact absurd HA.out (by simp [impl_ascending_spiOf.l0])
  | succ k1 =>
   have H := HA.out
   clear HA
   simp only [impl_ascending_spiOf.l0] at H
   by_cases c4 : x11_1 < (l0.length : Int)
   ·rw [if_pos c4] at H
    have c4b0 : decide (x11_1 < (l0.length : Int)) = true := decide_eq_true c4
    clear c4
    by_cases c5 : 0 ≤ x11_1
    ·rw [if_pos c5] at H
     have c5b0 : decide (0 ≤ x11_1) = true := decide_eq_true c5
     clear c5
     by_cases c6 : x11_1 < (l0.length : Int)
     ·rw [if_pos c6] at H
      have c6b0 : decide (x11_1 < (l0.length : Int)) = true := decide_eq_true c6
      clear c6
      have HC7 := Aside0.mk H
      clear H
      have p101 : 0 ≤ (x11_1 : Int) := OD
      have q101 : x11_1 < (l0.length : Int) := OD
      obtain ⟨ad101, A101_10, c101_10, e101, hx101_0, hx101_1, hx101_2, hx101_3, hx101_4, hx101_5, hx101_6, hx101_7, hx101_8, hx101_9, hx101_10, hl101_10, hi101_10⟩ := at_T95 HR0.out x11_1 p101 q101
      cases e101
      replace hx101_0 := CX HB.out hx101_0
      replace hx101_1 := CX HB.out hx101_1
      replace hx101_2 := CX HB.out hx101_2
      replace hx101_3 := CX HB.out hx101_3
      replace hx101_4 := CX HB.out hx101_4
      replace hx101_5 := CX HB.out hx101_5
      replace hx101_6 := CX HB.out hx101_6
      replace hx101_7 := CX HB.out hx101_7
      replace hx101_8 := CX HB.out hx101_8
      replace hx101_9 := CX HB.out hx101_9
      replace hx101_10 := CX HB.out hx101_10
      have HR101_10 := Aside0.mk hi101_10
      have HC101_10 := Aside0.mk hl101_10
      clear hi101_10 hl101_10
      replace p101 := eq_true p101
      replace q101 := eq_true q101
      go_upto_region 4 with (first | ((with_reducible refine gate_dst (N := 8) rfl ?_); refine box_event rfl (N := 8) rfl (cs := #[.int .i64 0, .int .i64 0, .string (⟨#[]⟩ : ByteArray), .string (⟨#[]⟩ : ByteArray), .int .i64 0, .int .i64 0, .int .i64 0, .int .i64 0, .int .i64 0, .int .i64 0, .slice none 0 0]) (t := 95) BX ?_; intro gb102 hg w8 hbox hb; have BK102 := am (hbox); have GW102 := am (GH HB hg); have GE102 := GW102; replace HB := am (below_step (KL HB) hb); clear hb hbox hg; obtain ⟨hcz9_0, hcz9_1, hcz9_2, hcz9_3, hcz9_4, hcz9_5, hcz9_6, hcz9_7, hcz9_8, hcz9_9, hcz9_10, hfz9_0⟩ := y11 w8 BK102.out))
      (try simp only [Act.put, List.setIfInBounds_toArray, List.set_cons_zero, List.set_cons_succ])
      go_cut [41] (fun v41 wc => ∃ (kq : Nat) (x41_6 : Bool), v41 = .bool x41_6 ∧ Aside0 (impl_ascending_spiOf.j1 kq l0 a1 l0 (l0.length : Int) x11_1 x41_6 = some r) ∧ Aside0 (kq ≤ k1) ∧ Aside0 (wc.heap[gb102]? = some (.cells #[.int .i64 ((rd_T95 l0 x11_1).f0), .int .i64 ((rd_T95 l0 x11_1).f1), .string ((rd_T95 l0 x11_1).f2), .string ((rd_T95 l0 x11_1).f3), .int .i64 ((rd_T95 l0 x11_1).f4), .int .i64 ((rd_T95 l0 x11_1).f5), .int .i64 ((rd_T95 l0 x11_1).f6), .int .i64 ((rd_T95 l0 x11_1).f7), .int .i64 ((rd_T95 l0 x11_1).f8), .int .i64 ((rd_T95 l0 x11_1).f9.f0), (.slice A101_10 ((rd_T95 l0 x11_1).f9.f1).length c101_10)] 95 (0, 0))) ∧ Aside0 (Below w.heap.size w wc))
      case first =>
       have H := HC7.out
       clear HC7
       replace H := Option.bind_eq_some_iff.mp H
       obtain ⟨t103, A100, H⟩ := H
       replace H : (if t103 = true then (if ((rd_T95 l0 x11_1).f4) > a1 then (impl_ascending_spiOf.j1 k1 l0 a1 l0 (l0.length : Int) x11_1 true) else (if x11_1 > 0 then (if 0 ≤ (wrap64 (x11_1 - 1)) then (if (wrap64 (x11_1 - 1)) < (l0.length : Int) then ((impl_spiOf.f ((rd_T95 l0 (wrap64 (x11_1 - 1))).f0) ((rd_T95 l0 (wrap64 (x11_1 - 1))).f1) ((rd_T95 l0 (wrap64 (x11_1 - 1))).f2) ((rd_T95 l0 (wrap64 (x11_1 - 1))).f3) ((rd_T95 l0 (wrap64 (x11_1 - 1))).f4) ((rd_T95 l0 (wrap64 (x11_1 - 1))).f5) ((rd_T95 l0 (wrap64 (x11_1 - 1))).f6) ((rd_T95 l0 (wrap64 (x11_1 - 1))).f7) ((rd_T95 l0 (wrap64 (x11_1 - 1))).f8) ((rd_T95 l0 (wrap64 (x11_1 - 1))).f9.f0) ((rd_T95 l0 (wrap64 (x11_1 - 1))).f9.f1)).bind fun t105 => ((impl_spiOf.f ((rd_T95 l0 x11_1).f0) ((rd_T95 l0 x11_1).f1) ((rd_T95 l0 x11_1).f2) ((rd_T95 l0 x11_1).f3) ((rd_T95 l0 x11_1).f4) ((rd_T95 l0 x11_1).f5) ((rd_T95 l0 x11_1).f6) ((rd_T95 l0 x11_1).f7) ((rd_T95 l0 x11_1).f8) ((rd_T95 l0 x11_1).f9.f0) ((rd_T95 l0 x11_1).f9.f1)).bind fun t106 => (impl_ascending_spiOf.j1 k1 l0 a1 l0 (l0.length : Int) x11_1 (decide (t105 ≥ t106))))) else (none)) else (none)) else (impl_ascending_spiOf.j1 k1 l0 a1 l0 (l0.length : Int) x11_1 false))) else (impl_ascending_spiOf.j1 k1 l0 a1 l0 (l0.length : Int) x11_1 true)) = some r := H
       have A10 := Aside0.mk A100
       clear A100
       by_cases c11 : t103 = true
       ·subst c11
        have H1 : (if ((rd_T95 l0 x11_1).f4) > a1 then (impl_ascending_spiOf.j1 k1 l0 a1 l0 (l0.length : Int) x11_1 true) else (if x11_1 > 0 then (if 0 ≤ (wrap64 (x11_1 - 1)) then (if (wrap64 (x11_1 - 1)) < (l0.length : Int) then ((impl_spiOf.f ((rd_T95 l0 (wrap64 (x11_1 - 1))).f0) ((rd_T95 l0 (wrap64 (x11_1 - 1))).f1) ((rd_T95 l0 (wrap64 (x11_1 - 1))).f2) ((rd_T95 l0 (wrap64 (x11_1 - 1))).f3) ((rd_T95 l0 (wrap64 (x11_1 - 1))).f4) ((rd_T95 l0 (wrap64 (x11_1 - 1))).f5) ((rd_T95 l0 (wrap64 (x11_1 - 1))).f6) ((rd_T95 l0 (wrap64 (x11_1 - 1))).f7) ((rd_T95 l0 (wrap64 (x11_1 - 1))).f8) ((rd_T95 l0 (wrap64 (x11_1 - 1))).f9.f0) ((rd_T95 l0 (wrap64 (x11_1 - 1))).f9.f1)).bind fun t105 => ((impl_spiOf.f ((rd_T95 l0 x11_1).f0) ((rd_T95 l0 x11_1).f1) ((rd_T95 l0 x11_1).f2) ((rd_T95 l0 x11_1).f3) ((rd_T95 l0 x11_1).f4) ((rd_T95 l0 x11_1).f5) ((rd_T95 l0 x11_1).f6) ((rd_T95 l0 x11_1).f7) ((rd_T95 l0 x11_1).f8) ((rd_T95 l0 x11_1).f9.f0) ((rd_T95 l0 x11_1).f9.f1)).bind fun t106 => (impl_ascending_spiOf.j1 k1 l0 a1 l0 (l0.length : Int) x11_1 (decide (t105 ≥ t106))))) else (none)) else (none)) else (impl_ascending_spiOf.j1 k1 l0 a1 l0 (l0.length : Int) x11_1 false))) = some r := by rw [if_pos rfl] at H; exact H
        clear H
        have H := H1
        clear H1
        by_cases c12 : ((rd_T95 l0 x11_1).f4) > a1
        ·rw [if_pos c12] at H
         have c12b0 : decide (a1 < ((rd_T95 l0 x11_1).f4)) = true := decide_eq_true c12
         clear c12
         (first | rw [c12b0] | (simp only [i64_w, i32_w]; rw [c12b0]) | skip)
         have H' := Aside0.mk H
         clear H
         try go_wp2
         have n0_ : Aside0 ((((((((((((w8.setCell ⟨gb102, 0, none⟩ (.int .i64 ((rd_T95 l0 x11_1).f0))).setCell ⟨gb102, 1, none⟩ (.int .i64 ((rd_T95 l0 x11_1).f1))).setCell ⟨gb102, 2, none⟩ (.string ((rd_T95 l0 x11_1).f2))).setCell ⟨gb102, 3, none⟩ (.string ((rd_T95 l0 x11_1).f3))).setCell ⟨gb102, 4, none⟩ (.int .i64 ((rd_T95 l0 x11_1).f4))).setCell ⟨gb102, 5, none⟩ (.int .i64 ((rd_T95 l0 x11_1).f5))).setCell ⟨gb102, 6, none⟩ (.int .i64 ((rd_T95 l0 x11_1).f6))).setCell ⟨gb102, 7, none⟩ (.int .i64 ((rd_T95 l0 x11_1).f7))).setCell ⟨gb102, 8, none⟩ (.int .i64 ((rd_T95 l0 x11_1).f8))).setCell ⟨gb102, 9, none⟩ (.int .i64 ((rd_T95 l0 x11_1).f9.f0))).setCell ⟨gb102, 10, none⟩ (.slice A101_10 ((rd_T95 l0 x11_1).f9.f1).length c101_10)).heap[gb102]? = some (.cells #[.int .i64 ((rd_T95 l0 x11_1).f0), .int .i64 ((rd_T95 l0 x11_1).f1), .string ((rd_T95 l0 x11_1).f2), .string ((rd_T95 l0 x11_1).f3), .int .i64 ((rd_T95 l0 x11_1).f4), .int .i64 ((rd_T95 l0 x11_1).f5), .int .i64 ((rd_T95 l0 x11_1).f6), .int .i64 ((rd_T95 l0 x11_1).f7), .int .i64 ((rd_T95 l0 x11_1).f8), .int .i64 ((rd_T95 l0 x11_1).f9.f0), .slice A101_10 ((rd_T95 l0 x11_1).f9.f1).length c101_10] 95 (0, 0))) := ⟨by (with_reducible repeat (first | refine blk_drewN ?_ _ | refine blk_drew ?_ | refine blk_alloc ?_ _)); refine blk_put (cs := #[.int .i64 ((rd_T95 l0 x11_1).f0), .int .i64 ((rd_T95 l0 x11_1).f1), .string ((rd_T95 l0 x11_1).f2), .string ((rd_T95 l0 x11_1).f3), .int .i64 ((rd_T95 l0 x11_1).f4), .int .i64 ((rd_T95 l0 x11_1).f5), .int .i64 ((rd_T95 l0 x11_1).f6), .int .i64 ((rd_T95 l0 x11_1).f7), .int .i64 ((rd_T95 l0 x11_1).f8), .int .i64 ((rd_T95 l0 x11_1).f9.f0), .slice none 0 0]) ?_ 10 _ rfl; (with_reducible repeat (first | refine blk_drewN ?_ _ | refine blk_drew ?_ | refine blk_alloc ?_ _)); refine blk_put (cs := #[.int .i64 ((rd_T95 l0 x11_1).f0), .int .i64 ((rd_T95 l0 x11_1).f1), .string ((rd_T95 l0 x11_1).f2), .string ((rd_T95 l0 x11_1).f3), .int .i64 ((rd_T95 l0 x11_1).f4), .int .i64 ((rd_T95 l0 x11_1).f5), .int .i64 ((rd_T95 l0 x11_1).f6), .int .i64 ((rd_T95 l0 x11_1).f7), .int .i64 ((rd_T95 l0 x11_1).f8), .int .i64 0, .slice none 0 0]) ?_ 9 _ rfl; (with_reducible repeat (first | refine blk_drewN ?_ _ | refine blk_drew ?_ | refine blk_alloc ?_ _)); refine blk_put (cs := #[.int .i64 ((rd_T95 l0 x11_1).f0), .int .i64 ((rd_T95 l0 x11_1).f1), .string ((rd_T95 l0 x11_1).f2), .string ((rd_T95 l0 x11_1).f3), .int .i64 ((rd_T95 l0 x11_1).f4), .int .i64 ((rd_T95 l0 x11_1).f5), .int .i64 ((rd_T95 l0 x11_1).f6), .int .i64 ((rd_T95 l0 x11_1).f7), .int .i64 0, .int .i64 0, .slice none 0 0]) ?_ 8 _ rfl; (with_reducible repeat (first | refine blk_drewN ?_ _ | refine blk_drew ?_ | refine blk_alloc ?_ _)); refine blk_put (cs := #[.int .i64 ((rd_T95 l0 x11_1).f0), .int .i64 ((rd_T95 l0 x11_1).f1), .string ((rd_T95 l0 x11_1).f2), .string ((rd_T95 l0 x11_1).f3), .int .i64 ((rd_T95 l0 x11_1).f4), .int .i64 ((rd_T95 l0 x11_1).f5), .int .i64 ((rd_T95 l0 x11_1).f6), .int .i64 0, .int .i64 0, .int .i64 0, .slice none 0 0]) ?_ 7 _ rfl; (with_reducible repeat (first | refine blk_drewN ?_ _ | refine blk_drew ?_ | refine blk_alloc ?_ _)); refine blk_put (cs := #[.int .i64 ((rd_T95 l0 x11_1).f0), .int .i64 ((rd_T95 l0 x11_1).f1), .string ((rd_T95 l0 x11_1).f2), .string ((rd_T95 l0 x11_1).f3), .int .i64 ((rd_T95 l0 x11_1).f4), .int .i64 ((rd_T95 l0 x11_1).f5), .int .i64 0, .int .i64 0, .int .i64 0, .int .i64 0, .slice none 0 0]) ?_ 6 _ rfl; (with_reducible repeat (first | refine blk_drewN ?_ _ | refine blk_drew ?_ | refine blk_alloc ?_ _)); refine blk_put (cs := #[.int .i64 ((rd_T95 l0 x11_1).f0), .int .i64 ((rd_T95 l0 x11_1).f1), .string ((rd_T95 l0 x11_1).f2), .string ((rd_T95 l0 x11_1).f3), .int .i64 ((rd_T95 l0 x11_1).f4), .int .i64 0, .int .i64 0, .int .i64 0, .int .i64 0, .int .i64 0, .slice none 0 0]) ?_ 5 _ rfl; (with_reducible repeat (first | refine blk_drewN ?_ _ | refine blk_drew ?_ | refine blk_alloc ?_ _)); refine blk_put (cs := #[.int .i64 ((rd_T95 l0 x11_1).f0), .int .i64 ((rd_T95 l0 x11_1).f1), .string ((rd_T95 l0 x11_1).f2), .string ((rd_T95 l0 x11_1).f3), .int .i64 0, .int .i64 0, .int .i64 0, .int .i64 0, .int .i64 0, .int .i64 0, .slice none 0 0]) ?_ 4 _ rfl; (with_reducible repeat (first | refine blk_drewN ?_ _ | refine blk_drew ?_ | refine blk_alloc ?_ _)); refine blk_put (cs := #[.int .i64 ((rd_T95 l0 x11_1).f0), .int .i64 ((rd_T95 l0 x11_1).f1), .string ((rd_T95 l0 x11_1).f2), .string (⟨#[]⟩ : ByteArray), .int .i64 0, .int .i64 0, .int .i64 0, .int .i64 0, .int .i64 0, .int .i64 0, .slice none 0 0]) ?_ 3 _ rfl; (with_reducible repeat (first | refine blk_drewN ?_ _ | refine blk_drew ?_ | refine blk_alloc ?_ _)); refine blk_put (cs := #[.int .i64 ((rd_T95 l0 x11_1).f0), .int .i64 ((rd_T95 l0 x11_1).f1), .string (⟨#[]⟩ : ByteArray), .string (⟨#[]⟩ : ByteArray), .int .i64 0, .int .i64 0, .int .i64 0, .int .i64 0, .int .i64 0, .int .i64 0, .slice none 0 0]) ?_ 2 _ rfl; (with_reducible repeat (first | refine blk_drewN ?_ _ | refine blk_drew ?_ | refine blk_alloc ?_ _)); refine blk_put (cs := #[.int .i64 ((rd_T95 l0 x11_1).f0), .int .i64 0, .string (⟨#[]⟩ : ByteArray), .string (⟨#[]⟩ : ByteArray), .int .i64 0, .int .i64 0, .int .i64 0, .int .i64 0, .int .i64 0, .int .i64 0, .slice none 0 0]) ?_ 1 _ rfl; (with_reducible repeat (first | refine blk_drewN ?_ _ | refine blk_drew ?_ | refine blk_alloc ?_ _)); refine blk_put (cs := #[.int .i64 0, .int .i64 0, .string (⟨#[]⟩ : ByteArray), .string (⟨#[]⟩ : ByteArray), .int .i64 0, .int .i64 0, .int .i64 0, .int .i64 0, .int .i64 0, .int .i64 0, .slice none 0 0]) ?_ 0 _ rfl; (with_reducible repeat (first | refine blk_drewN ?_ _ | refine blk_drew ?_ | refine blk_alloc ?_ _)); exact BK102.out⟩
         have n1_ : Aside0 (Below w.heap.size w (((((((((((w8.setCell ⟨gb102, 0, none⟩ (.int .i64 ((rd_T95 l0 x11_1).f0))).setCell ⟨gb102, 1, none⟩ (.int .i64 ((rd_T95 l0 x11_1).f1))).setCell ⟨gb102, 2, none⟩ (.string ((rd_T95 l0 x11_1).f2))).setCell ⟨gb102, 3, none⟩ (.string ((rd_T95 l0 x11_1).f3))).setCell ⟨gb102, 4, none⟩ (.int .i64 ((rd_T95 l0 x11_1).f4))).setCell ⟨gb102, 5, none⟩ (.int .i64 ((rd_T95 l0 x11_1).f5))).setCell ⟨gb102, 6, none⟩ (.int .i64 ((rd_T95 l0 x11_1).f6))).setCell ⟨gb102, 7, none⟩ (.int .i64 ((rd_T95 l0 x11_1).f7))).setCell ⟨gb102, 8, none⟩ (.int .i64 ((rd_T95 l0 x11_1).f8))).setCell ⟨gb102, 9, none⟩ (.int .i64 ((rd_T95 l0 x11_1).f9.f0))).setCell ⟨gb102, 10, none⟩ (.slice A101_10 ((rd_T95 l0 x11_1).f9.f1).length c101_10))) := ⟨K1 HB GE102.out⟩
         (try clear BK102)
         (try clear HB)
         generalize (((((((((((w8.setCell ⟨gb102, 0, none⟩ (.int .i64 ((rd_T95 l0 x11_1).f0))).setCell ⟨gb102, 1, none⟩ (.int .i64 ((rd_T95 l0 x11_1).f1))).setCell ⟨gb102, 2, none⟩ (.string ((rd_T95 l0 x11_1).f2))).setCell ⟨gb102, 3, none⟩ (.string ((rd_T95 l0 x11_1).f3))).setCell ⟨gb102, 4, none⟩ (.int .i64 ((rd_T95 l0 x11_1).f4))).setCell ⟨gb102, 5, none⟩ (.int .i64 ((rd_T95 l0 x11_1).f5))).setCell ⟨gb102, 6, none⟩ (.int .i64 ((rd_T95 l0 x11_1).f6))).setCell ⟨gb102, 7, none⟩ (.int .i64 ((rd_T95 l0 x11_1).f7))).setCell ⟨gb102, 8, none⟩ (.int .i64 ((rd_T95 l0 x11_1).f8))).setCell ⟨gb102, 9, none⟩ (.int .i64 ((rd_T95 l0 x11_1).f9.f0))).setCell ⟨gb102, 10, none⟩ (.slice A101_10 ((rd_T95 l0 x11_1).f9.f1).length c101_10)) = w13 at n0_ n1_ ⊢
         have BK102 := n0_
         have HB := n1_
         clear n0_ n1_
         replace BK102 := am (blk_drew BK102.out)
         replace HB := am (below_drew1 HB.out)
         refine start_ (n := 26) (S := fun w' => de11 w' gb102 (.int .i64 ((rd_T95 l0 x11_1).f0)) (.int .i64 ((rd_T95 l0 x11_1).f1)) (.string ((rd_T95 l0 x11_1).f2)) (.string ((rd_T95 l0 x11_1).f3)) (.int .i64 ((rd_T95 l0 x11_1).f4)) (.int .i64 ((rd_T95 l0 x11_1).f5)) (.int .i64 ((rd_T95 l0 x11_1).f6)) (.int .i64 ((rd_T95 l0 x11_1).f7)) (.int .i64 ((rd_T95 l0 x11_1).f8)) (.int .i64 ((rd_T95 l0 x11_1).f9.f0)) (.slice A101_10 ((rd_T95 l0 x11_1).f9.f1).length c101_10)) (ds := []) (tf 0 26) (by kernel_rfl) rfl rfl ⟨z0 _ BK102.out, z1 _ BK102.out, z2 _ BK102.out, z3 _ BK102.out, z4 _ BK102.out, z5 _ BK102.out, z6 _ BK102.out, z7 _ BK102.out, z8 _ BK102.out, z9 _ BK102.out, z10 _ BK102.out⟩ (fun hHeld => ?_); refine with_tabW impl_ascending_spiOf.tab4 impl_ascending_spiOf.bits4 (fun HT_ HW_ => ?_)
         generalize w13.drew = w14 at BK102 HB hHeld ⊢
         refine tk 0 (some 16) (tf 1 25) (take_ofW HT_.out HW_.out (by kernel_rfl)) hHeld ?_
         refine one_ (i := 1) (N := some 17) (tf 2 24) rfl rfl (one_of HT_.out (by kernel_rfl)) (by decide) (fun K hK => ?_)
         refine goes_ Try.func111 (by kernel_rfl) rfl #[.agg #[.int .i64 ((rd_T95 l0 x11_1).f0), .int .i64 ((rd_T95 l0 x11_1).f1), .string ((rd_T95 l0 x11_1).f2), .string ((rd_T95 l0 x11_1).f3), .int .i64 ((rd_T95 l0 x11_1).f4), .int .i64 ((rd_T95 l0 x11_1).f5), .int .i64 ((rd_T95 l0 x11_1).f6), .int .i64 ((rd_T95 l0 x11_1).f7), .int .i64 ((rd_T95 l0 x11_1).f8), .int .i64 ((rd_T95 l0 x11_1).f9.f0), .slice A101_10 ((rd_T95 l0 x11_1).f9.f1).length c101_10]] (by rfl) rfl rfl MT ?_
         with_reducible refine (impl_SaOk.calls k1 ((rd_T95 l0 x11_1).f0) ((rd_T95 l0 x11_1).f1) ((rd_T95 l0 x11_1).f2) ((rd_T95 l0 x11_1).f3) ((rd_T95 l0 x11_1).f4) ((rd_T95 l0 x11_1).f5) ((rd_T95 l0 x11_1).f6) ((rd_T95 l0 x11_1).f7) ((rd_T95 l0 x11_1).f8) ((rd_T95 l0 x11_1).f9.f0) _ _ ((rd_T95 l0 x11_1).f9.f1) true _ ?side1 ?side2 A10.out).mono ?_
         (case side1 => exact KD HR101_10 HB)
         (case side2 => exact HC101_10.out)
         rintro e w15 ⟨rfl, hb⟩
         refine ⟨_, rfl, ?_⟩
         replace BK102 := am (BB BK102 hb)
         replace HB := am (below_step (K1 HB GE102.out) hb)
         (try clear hb)
         (try clear hb2)
         (try clear hk)
         (try clear hi)
         refine hK.out _ _ ⟨z0 _ BK102.out, z1 _ BK102.out, z2 _ BK102.out, z3 _ BK102.out, z4 _ BK102.out, z5 _ BK102.out, z6 _ BK102.out, z7 _ BK102.out, z8 _ BK102.out, z9 _ BK102.out, z10 _ BK102.out⟩ (fun hHeld => ?_)
         clear hK K
         refine norm_ (a' := ?_) ?_ ?_
         rotate_left
         ·show Act.put _ (some 17) _ = _
          simp only [Act.put, List.setIfInBounds_toArray, List.set_cons_zero, List.set_cons_succ, i64_w, i32_w]
          rfl
         refine pv HT_ 2 18 (tf 3 23) ?_
         refine pv HT_ 3 19 (tf 4 22) ?_
         refine pv HT_ 4 20 (tf 5 21) ?_
         refine pv HT_ 6 22 (tr [5, 1, 1, 19]) ?_
         refine tk 5 (some 21) (tf 7 19) (take_ofW HT_.out HW_.out (by kernel_rfl)) hHeld ?_
         refine pv HT_ 7 23 (tf 8 18) ?_
         refine pv HT_ 8 24 (tf 9 17) ?_
         refine pv HT_ 9 25 (tf 10 16) ?_
         refine pw HT_ 10 26 (tf 11 15) ?_
         refine pw HT_ 11 27 (tf 12 14) ?_
         refine pw HT_ 12 28 (tf 13 13) ?_
         refine pw HT_ 13 29 (tf 14 12) ?_
         refine pw HT_ 14 30 (tf 15 11) ?_
         refine pw HT_ 15 31 (tf 16 10) ?_
         refine pw HT_ 16 32 (tf 17 9) ?_
         refine pw HT_ 17 33 (tf 18 8) ?_
         refine pw HT_ 18 34 (tf 19 7) ?_
         refine pw HT_ 19 35 (tf 20 6) ?_
         refine pw HT_ 20 36 (tf 21 5) ?_
         refine pw HT_ 21 37 (tf 22 4) ?_
         refine pw HT_ 22 38 (tf 23 3) ?_
         refine pw HT_ 23 39 (tf 24 2) ?_
         refine pw HT_ 24 40 (tf 25 1) ?_
         refine pv HT_ 25 41 (tf 26 0) ?_
         refine done_ (done_of HT_.out (by kernel_rfl)) ?_
         try go_wp2
         go_meet
         case rel => exact ⟨_, (true), (by first | rfl | (simp; done) | (simp [*]; done)), H', ⟨by have := HK1.out; first | omega | exact Nat.le_refl _⟩, ⟨KB BK102⟩, ⟨K1 HB GE102.out⟩⟩
        ·rw [if_neg c12] at H
         have c12b0 : decide (a1 < ((rd_T95 l0 x11_1).f4)) = false := decide_eq_false c12
         clear c12
         (first | rw [c12b0] | (simp only [i64_w, i32_w]; rw [c12b0]) | skip)
         by_cases c16 : x11_1 > 0
         ·rw [if_pos c16] at H
          have c16b0 : decide (0 < x11_1) = true := decide_eq_true c16
          clear c16
          obtain ⟨ji17, hji17⟩ : ∃ j_ : Int, (wrap64 (x11_1 - 1)) = j_ := ⟨_, rfl⟩
          replace H : (if 0 ≤ (ji17) then (if (ji17) < (l0.length : Int) then ((impl_spiOf.f ((rd_T95 l0 (ji17)).f0) ((rd_T95 l0 (ji17)).f1) ((rd_T95 l0 (ji17)).f2) ((rd_T95 l0 (ji17)).f3) ((rd_T95 l0 (ji17)).f4) ((rd_T95 l0 (ji17)).f5) ((rd_T95 l0 (ji17)).f6) ((rd_T95 l0 (ji17)).f7) ((rd_T95 l0 (ji17)).f8) ((rd_T95 l0 (ji17)).f9.f0) ((rd_T95 l0 (ji17)).f9.f1)).bind fun t105 => ((impl_spiOf.f ((rd_T95 l0 x11_1).f0) ((rd_T95 l0 x11_1).f1) ((rd_T95 l0 x11_1).f2) ((rd_T95 l0 x11_1).f3) ((rd_T95 l0 x11_1).f4) ((rd_T95 l0 x11_1).f5) ((rd_T95 l0 x11_1).f6) ((rd_T95 l0 x11_1).f7) ((rd_T95 l0 x11_1).f8) ((rd_T95 l0 x11_1).f9.f0) ((rd_T95 l0 x11_1).f9.f1)).bind fun t106 => (impl_ascending_spiOf.j1 k1 l0 a1 l0 (l0.length : Int) x11_1 (decide (t105 ≥ t106))))) else (none)) else (none)) = some r := by first | (rw [hji17] at H; exact H) | (simp only [hji17] at H ⊢; exact H)
          (try rw [hji17] at A10)
          have hji17w : (IntKind.i64.wrap (x11_1 - 1)) = ji17 := (i64_w _).trans hji17
          by_cases c18 : 0 ≤ (ji17)
          ·rw [if_pos c18] at H
           have c18b0 : decide (0 ≤ (ji17)) = true := decide_eq_true c18
           clear c18
           by_cases c19 : (ji17) < (l0.length : Int)
           ·rw [if_pos c19] at H
            have c19b0 : decide ((ji17) < (l0.length : Int)) = true := decide_eq_true c19
            clear c19
            replace H := Option.bind_eq_some_iff.mp H
            obtain ⟨t105, A200, H⟩ := H
            replace H : ((impl_spiOf.f ((rd_T95 l0 x11_1).f0) ((rd_T95 l0 x11_1).f1) ((rd_T95 l0 x11_1).f2) ((rd_T95 l0 x11_1).f3) ((rd_T95 l0 x11_1).f4) ((rd_T95 l0 x11_1).f5) ((rd_T95 l0 x11_1).f6) ((rd_T95 l0 x11_1).f7) ((rd_T95 l0 x11_1).f8) ((rd_T95 l0 x11_1).f9.f0) ((rd_T95 l0 x11_1).f9.f1)).bind fun t106 => (impl_ascending_spiOf.j1 k1 l0 a1 l0 (l0.length : Int) x11_1 (decide (t105 ≥ t106)))) = some r := H
            have A20 := Aside0.mk A200
            clear A200
            replace H := Option.bind_eq_some_iff.mp H
            obtain ⟨t106, A210, H⟩ := H
            replace H : (impl_ascending_spiOf.j1 k1 l0 a1 l0 (l0.length : Int) x11_1 (decide (t105 ≥ t106))) = some r := H
            have A21 := Aside0.mk A210
            clear A210
            have H' := Aside0.mk H
            clear H
            try go_wp2
            have n0_ : Aside0 ((((((((((((w8.setCell ⟨gb102, 0, none⟩ (.int .i64 ((rd_T95 l0 x11_1).f0))).setCell ⟨gb102, 1, none⟩ (.int .i64 ((rd_T95 l0 x11_1).f1))).setCell ⟨gb102, 2, none⟩ (.string ((rd_T95 l0 x11_1).f2))).setCell ⟨gb102, 3, none⟩ (.string ((rd_T95 l0 x11_1).f3))).setCell ⟨gb102, 4, none⟩ (.int .i64 ((rd_T95 l0 x11_1).f4))).setCell ⟨gb102, 5, none⟩ (.int .i64 ((rd_T95 l0 x11_1).f5))).setCell ⟨gb102, 6, none⟩ (.int .i64 ((rd_T95 l0 x11_1).f6))).setCell ⟨gb102, 7, none⟩ (.int .i64 ((rd_T95 l0 x11_1).f7))).setCell ⟨gb102, 8, none⟩ (.int .i64 ((rd_T95 l0 x11_1).f8))).setCell ⟨gb102, 9, none⟩ (.int .i64 ((rd_T95 l0 x11_1).f9.f0))).setCell ⟨gb102, 10, none⟩ (.slice A101_10 ((rd_T95 l0 x11_1).f9.f1).length c101_10)).heap[gb102]? = some (.cells #[.int .i64 ((rd_T95 l0 x11_1).f0), .int .i64 ((rd_T95 l0 x11_1).f1), .string ((rd_T95 l0 x11_1).f2), .string ((rd_T95 l0 x11_1).f3), .int .i64 ((rd_T95 l0 x11_1).f4), .int .i64 ((rd_T95 l0 x11_1).f5), .int .i64 ((rd_T95 l0 x11_1).f6), .int .i64 ((rd_T95 l0 x11_1).f7), .int .i64 ((rd_T95 l0 x11_1).f8), .int .i64 ((rd_T95 l0 x11_1).f9.f0), .slice A101_10 ((rd_T95 l0 x11_1).f9.f1).length c101_10] 95 (0, 0))) := ⟨by (with_reducible repeat (first | refine blk_drewN ?_ _ | refine blk_drew ?_ | refine blk_alloc ?_ _)); refine blk_put (cs := #[.int .i64 ((rd_T95 l0 x11_1).f0), .int .i64 ((rd_T95 l0 x11_1).f1), .string ((rd_T95 l0 x11_1).f2), .string ((rd_T95 l0 x11_1).f3), .int .i64 ((rd_T95 l0 x11_1).f4), .int .i64 ((rd_T95 l0 x11_1).f5), .int .i64 ((rd_T95 l0 x11_1).f6), .int .i64 ((rd_T95 l0 x11_1).f7), .int .i64 ((rd_T95 l0 x11_1).f8), .int .i64 ((rd_T95 l0 x11_1).f9.f0), .slice none 0 0]) ?_ 10 _ rfl; (with_reducible repeat (first | refine blk_drewN ?_ _ | refine blk_drew ?_ | refine blk_alloc ?_ _)); refine blk_put (cs := #[.int .i64 ((rd_T95 l0 x11_1).f0), .int .i64 ((rd_T95 l0 x11_1).f1), .string ((rd_T95 l0 x11_1).f2), .string ((rd_T95 l0 x11_1).f3), .int .i64 ((rd_T95 l0 x11_1).f4), .int .i64 ((rd_T95 l0 x11_1).f5), .int .i64 ((rd_T95 l0 x11_1).f6), .int .i64 ((rd_T95 l0 x11_1).f7), .int .i64 ((rd_T95 l0 x11_1).f8), .int .i64 0, .slice none 0 0]) ?_ 9 _ rfl; (with_reducible repeat (first | refine blk_drewN ?_ _ | refine blk_drew ?_ | refine blk_alloc ?_ _)); refine blk_put (cs := #[.int .i64 ((rd_T95 l0 x11_1).f0), .int .i64 ((rd_T95 l0 x11_1).f1), .string ((rd_T95 l0 x11_1).f2), .string ((rd_T95 l0 x11_1).f3), .int .i64 ((rd_T95 l0 x11_1).f4), .int .i64 ((rd_T95 l0 x11_1).f5), .int .i64 ((rd_T95 l0 x11_1).f6), .int .i64 ((rd_T95 l0 x11_1).f7), .int .i64 0, .int .i64 0, .slice none 0 0]) ?_ 8 _ rfl; (with_reducible repeat (first | refine blk_drewN ?_ _ | refine blk_drew ?_ | refine blk_alloc ?_ _)); refine blk_put (cs := #[.int .i64 ((rd_T95 l0 x11_1).f0), .int .i64 ((rd_T95 l0 x11_1).f1), .string ((rd_T95 l0 x11_1).f2), .string ((rd_T95 l0 x11_1).f3), .int .i64 ((rd_T95 l0 x11_1).f4), .int .i64 ((rd_T95 l0 x11_1).f5), .int .i64 ((rd_T95 l0 x11_1).f6), .int .i64 0, .int .i64 0, .int .i64 0, .slice none 0 0]) ?_ 7 _ rfl; (with_reducible repeat (first | refine blk_drewN ?_ _ | refine blk_drew ?_ | refine blk_alloc ?_ _)); refine blk_put (cs := #[.int .i64 ((rd_T95 l0 x11_1).f0), .int .i64 ((rd_T95 l0 x11_1).f1), .string ((rd_T95 l0 x11_1).f2), .string ((rd_T95 l0 x11_1).f3), .int .i64 ((rd_T95 l0 x11_1).f4), .int .i64 ((rd_T95 l0 x11_1).f5), .int .i64 0, .int .i64 0, .int .i64 0, .int .i64 0, .slice none 0 0]) ?_ 6 _ rfl; (with_reducible repeat (first | refine blk_drewN ?_ _ | refine blk_drew ?_ | refine blk_alloc ?_ _)); refine blk_put (cs := #[.int .i64 ((rd_T95 l0 x11_1).f0), .int .i64 ((rd_T95 l0 x11_1).f1), .string ((rd_T95 l0 x11_1).f2), .string ((rd_T95 l0 x11_1).f3), .int .i64 ((rd_T95 l0 x11_1).f4), .int .i64 0, .int .i64 0, .int .i64 0, .int .i64 0, .int .i64 0, .slice none 0 0]) ?_ 5 _ rfl; (with_reducible repeat (first | refine blk_drewN ?_ _ | refine blk_drew ?_ | refine blk_alloc ?_ _)); refine blk_put (cs := #[.int .i64 ((rd_T95 l0 x11_1).f0), .int .i64 ((rd_T95 l0 x11_1).f1), .string ((rd_T95 l0 x11_1).f2), .string ((rd_T95 l0 x11_1).f3), .int .i64 0, .int .i64 0, .int .i64 0, .int .i64 0, .int .i64 0, .int .i64 0, .slice none 0 0]) ?_ 4 _ rfl; (with_reducible repeat (first | refine blk_drewN ?_ _ | refine blk_drew ?_ | refine blk_alloc ?_ _)); refine blk_put (cs := #[.int .i64 ((rd_T95 l0 x11_1).f0), .int .i64 ((rd_T95 l0 x11_1).f1), .string ((rd_T95 l0 x11_1).f2), .string (⟨#[]⟩ : ByteArray), .int .i64 0, .int .i64 0, .int .i64 0, .int .i64 0, .int .i64 0, .int .i64 0, .slice none 0 0]) ?_ 3 _ rfl; (with_reducible repeat (first | refine blk_drewN ?_ _ | refine blk_drew ?_ | refine blk_alloc ?_ _)); refine blk_put (cs := #[.int .i64 ((rd_T95 l0 x11_1).f0), .int .i64 ((rd_T95 l0 x11_1).f1), .string (⟨#[]⟩ : ByteArray), .string (⟨#[]⟩ : ByteArray), .int .i64 0, .int .i64 0, .int .i64 0, .int .i64 0, .int .i64 0, .int .i64 0, .slice none 0 0]) ?_ 2 _ rfl; (with_reducible repeat (first | refine blk_drewN ?_ _ | refine blk_drew ?_ | refine blk_alloc ?_ _)); refine blk_put (cs := #[.int .i64 ((rd_T95 l0 x11_1).f0), .int .i64 0, .string (⟨#[]⟩ : ByteArray), .string (⟨#[]⟩ : ByteArray), .int .i64 0, .int .i64 0, .int .i64 0, .int .i64 0, .int .i64 0, .int .i64 0, .slice none 0 0]) ?_ 1 _ rfl; (with_reducible repeat (first | refine blk_drewN ?_ _ | refine blk_drew ?_ | refine blk_alloc ?_ _)); refine blk_put (cs := #[.int .i64 0, .int .i64 0, .string (⟨#[]⟩ : ByteArray), .string (⟨#[]⟩ : ByteArray), .int .i64 0, .int .i64 0, .int .i64 0, .int .i64 0, .int .i64 0, .int .i64 0, .slice none 0 0]) ?_ 0 _ rfl; (with_reducible repeat (first | refine blk_drewN ?_ _ | refine blk_drew ?_ | refine blk_alloc ?_ _)); exact BK102.out⟩
            have n1_ : Aside0 (Below w.heap.size w (((((((((((w8.setCell ⟨gb102, 0, none⟩ (.int .i64 ((rd_T95 l0 x11_1).f0))).setCell ⟨gb102, 1, none⟩ (.int .i64 ((rd_T95 l0 x11_1).f1))).setCell ⟨gb102, 2, none⟩ (.string ((rd_T95 l0 x11_1).f2))).setCell ⟨gb102, 3, none⟩ (.string ((rd_T95 l0 x11_1).f3))).setCell ⟨gb102, 4, none⟩ (.int .i64 ((rd_T95 l0 x11_1).f4))).setCell ⟨gb102, 5, none⟩ (.int .i64 ((rd_T95 l0 x11_1).f5))).setCell ⟨gb102, 6, none⟩ (.int .i64 ((rd_T95 l0 x11_1).f6))).setCell ⟨gb102, 7, none⟩ (.int .i64 ((rd_T95 l0 x11_1).f7))).setCell ⟨gb102, 8, none⟩ (.int .i64 ((rd_T95 l0 x11_1).f8))).setCell ⟨gb102, 9, none⟩ (.int .i64 ((rd_T95 l0 x11_1).f9.f0))).setCell ⟨gb102, 10, none⟩ (.slice A101_10 ((rd_T95 l0 x11_1).f9.f1).length c101_10))) := ⟨K1 HB GE102.out⟩
            (try clear BK102)
            (try clear HB)
            generalize (((((((((((w8.setCell ⟨gb102, 0, none⟩ (.int .i64 ((rd_T95 l0 x11_1).f0))).setCell ⟨gb102, 1, none⟩ (.int .i64 ((rd_T95 l0 x11_1).f1))).setCell ⟨gb102, 2, none⟩ (.string ((rd_T95 l0 x11_1).f2))).setCell ⟨gb102, 3, none⟩ (.string ((rd_T95 l0 x11_1).f3))).setCell ⟨gb102, 4, none⟩ (.int .i64 ((rd_T95 l0 x11_1).f4))).setCell ⟨gb102, 5, none⟩ (.int .i64 ((rd_T95 l0 x11_1).f5))).setCell ⟨gb102, 6, none⟩ (.int .i64 ((rd_T95 l0 x11_1).f6))).setCell ⟨gb102, 7, none⟩ (.int .i64 ((rd_T95 l0 x11_1).f7))).setCell ⟨gb102, 8, none⟩ (.int .i64 ((rd_T95 l0 x11_1).f8))).setCell ⟨gb102, 9, none⟩ (.int .i64 ((rd_T95 l0 x11_1).f9.f0))).setCell ⟨gb102, 10, none⟩ (.slice A101_10 ((rd_T95 l0 x11_1).f9.f1).length c101_10)) = w22 at n0_ n1_ ⊢
            have BK102 := n0_
            have HB := n1_
            clear n0_ n1_
            replace BK102 := am (blk_drew BK102.out)
            replace HB := am (below_drew1 HB.out)
            have p104 : 0 ≤ ((ji17) : Int) := OD
            have q104 : (ji17) < (l0.length : Int) := OD
            obtain ⟨ad104, A104_10, c104_10, e104, hx104_0, hx104_1, hx104_2, hx104_3, hx104_4, hx104_5, hx104_6, hx104_7, hx104_8, hx104_9, hx104_10, hl104_10, hi104_10⟩ := at_T95 HR0.out (ji17) p104 q104
            have hw104_10 := hx104_10
            have hw104_9 := hx104_9
            have hw104_8 := hx104_8
            have hw104_7 := hx104_7
            have hw104_6 := hx104_6
            have hw104_5 := hx104_5
            have hw104_4 := hx104_4
            have hw104_3 := hx104_3
            have hw104_2 := hx104_2
            have hw104_1 := hx104_1
            have hw104_0 := hx104_0
            obtain rfl : ad101 = ad104 := (by injection e104)
            replace hx104_0 := CX HB.out hx104_0
            replace hx104_1 := CX HB.out hx104_1
            replace hx104_2 := CX HB.out hx104_2
            replace hx104_3 := CX HB.out hx104_3
            replace hx104_4 := CX HB.out hx104_4
            replace hx104_5 := CX HB.out hx104_5
            replace hx104_6 := CX HB.out hx104_6
            replace hx104_7 := CX HB.out hx104_7
            replace hx104_8 := CX HB.out hx104_8
            replace hx104_9 := CX HB.out hx104_9
            replace hx104_10 := CX HB.out hx104_10
            have HR104_10 := Aside0.mk hi104_10
            have HC104_10 := Aside0.mk hl104_10
            clear hi104_10 hl104_10
            replace p104 := eq_true p104
            replace q104 := eq_true q104
            refine start_ (n := 26) (S := fun w' => ce11 w' gb102 (.int .i64 ((rd_T95 l0 x11_1).f0)) (.int .i64 ((rd_T95 l0 x11_1).f1)) (.string ((rd_T95 l0 x11_1).f2)) (.string ((rd_T95 l0 x11_1).f3)) (.int .i64 ((rd_T95 l0 x11_1).f4)) (.int .i64 ((rd_T95 l0 x11_1).f5)) (.int .i64 ((rd_T95 l0 x11_1).f6)) (.int .i64 ((rd_T95 l0 x11_1).f7)) (.int .i64 ((rd_T95 l0 x11_1).f8)) (.int .i64 ((rd_T95 l0 x11_1).f9.f0)) (.slice A101_10 ((rd_T95 l0 x11_1).f9.f1).length c101_10) (w'.cell? (ad101.add (((ji17)).toNat * 11)) = some (.int .i64 ((rd_T95 l0 (ji17)).f0)) ∧ w'.cell? ⟨(ad101.add (((ji17)).toNat * 11)).block, (ad101.add (((ji17)).toNat * 11)).off + 1, none⟩ = some (.int .i64 ((rd_T95 l0 (ji17)).f1)) ∧ w'.cell? ⟨(ad101.add (((ji17)).toNat * 11)).block, (ad101.add (((ji17)).toNat * 11)).off + 2, none⟩ = some (.string ((rd_T95 l0 (ji17)).f2)) ∧ w'.cell? ⟨(ad101.add (((ji17)).toNat * 11)).block, (ad101.add (((ji17)).toNat * 11)).off + 3, none⟩ = some (.string ((rd_T95 l0 (ji17)).f3)) ∧ w'.cell? ⟨(ad101.add (((ji17)).toNat * 11)).block, (ad101.add (((ji17)).toNat * 11)).off + 4, none⟩ = some (.int .i64 ((rd_T95 l0 (ji17)).f4)) ∧ w'.cell? ⟨(ad101.add (((ji17)).toNat * 11)).block, (ad101.add (((ji17)).toNat * 11)).off + 5, none⟩ = some (.int .i64 ((rd_T95 l0 (ji17)).f5)) ∧ w'.cell? ⟨(ad101.add (((ji17)).toNat * 11)).block, (ad101.add (((ji17)).toNat * 11)).off + 6, none⟩ = some (.int .i64 ((rd_T95 l0 (ji17)).f6)) ∧ w'.cell? ⟨(ad101.add (((ji17)).toNat * 11)).block, (ad101.add (((ji17)).toNat * 11)).off + 7, none⟩ = some (.int .i64 ((rd_T95 l0 (ji17)).f7)) ∧ w'.cell? ⟨(ad101.add (((ji17)).toNat * 11)).block, (ad101.add (((ji17)).toNat * 11)).off + 8, none⟩ = some (.int .i64 ((rd_T95 l0 (ji17)).f8)) ∧ w'.cell? ⟨(ad101.add (((ji17)).toNat * 11)).block, (ad101.add (((ji17)).toNat * 11)).off + 9, none⟩ = some (.int .i64 ((rd_T95 l0 (ji17)).f9.f0)) ∧ w'.cell? ⟨(ad101.add (((ji17)).toNat * 11)).block, (ad101.add (((ji17)).toNat * 11)).off + 10, none⟩ = some (.slice A104_10 ((rd_T95 l0 (ji17)).f9.f1).length c104_10))) (ds := []) (tf 0 26) (by kernel_rfl) rfl rfl ⟨z0 _ BK102.out, z1 _ BK102.out, z2 _ BK102.out, z3 _ BK102.out, z4 _ BK102.out, z5 _ BK102.out, z6 _ BK102.out, z7 _ BK102.out, z8 _ BK102.out, z9 _ BK102.out, z10 _ BK102.out, (CY HB.out hw104_0), (CY HB.out hw104_1), (CY HB.out hw104_2), (CY HB.out hw104_3), (CY HB.out hw104_4), (CY HB.out hw104_5), (CY HB.out hw104_6), (CY HB.out hw104_7), (CY HB.out hw104_8), (CY HB.out hw104_9), (CY HB.out hw104_10)⟩ (fun hHeld => ?_); refine with_tabW impl_ascending_spiOf.tab4 impl_ascending_spiOf.bits4 (fun HT_ HW_ => ?_)
            generalize w22.drew = w23 at BK102 HB HR104_10 hx104_0 hx104_1 hx104_10 hx104_2 hx104_3 hx104_4 hx104_5 hx104_6 hx104_7 hx104_8 hx104_9 hHeld ⊢
            refine tk 0 (some 16) (tf 1 25) (take_ofW HT_.out HW_.out (by kernel_rfl)) hHeld ?_
            refine one_ (i := 1) (N := some 17) (tf 2 24) rfl rfl (one_of HT_.out (by kernel_rfl)) (by decide) (fun K hK => ?_)
            refine goes_ Try.func111 (by kernel_rfl) rfl #[.agg #[.int .i64 ((rd_T95 l0 x11_1).f0), .int .i64 ((rd_T95 l0 x11_1).f1), .string ((rd_T95 l0 x11_1).f2), .string ((rd_T95 l0 x11_1).f3), .int .i64 ((rd_T95 l0 x11_1).f4), .int .i64 ((rd_T95 l0 x11_1).f5), .int .i64 ((rd_T95 l0 x11_1).f6), .int .i64 ((rd_T95 l0 x11_1).f7), .int .i64 ((rd_T95 l0 x11_1).f8), .int .i64 ((rd_T95 l0 x11_1).f9.f0), .slice A101_10 ((rd_T95 l0 x11_1).f9.f1).length c101_10]] (by rfl) rfl rfl MT ?_
            with_reducible refine (impl_SaOk.calls k1 ((rd_T95 l0 x11_1).f0) ((rd_T95 l0 x11_1).f1) ((rd_T95 l0 x11_1).f2) ((rd_T95 l0 x11_1).f3) ((rd_T95 l0 x11_1).f4) ((rd_T95 l0 x11_1).f5) ((rd_T95 l0 x11_1).f6) ((rd_T95 l0 x11_1).f7) ((rd_T95 l0 x11_1).f8) ((rd_T95 l0 x11_1).f9.f0) _ _ ((rd_T95 l0 x11_1).f9.f1) true _ ?side1 ?side2 A10.out).mono ?_
            (case side1 => exact KD HR101_10 HB)
            (case side2 => exact HC101_10.out)
            rintro e w24 ⟨rfl, hb⟩
            refine ⟨_, rfl, ?_⟩
            replace BK102 := am (BB BK102 hb)
            replace HB := am (below_step (K1 HB GE102.out) hb)
            (try clear hb)
            (try clear hb2)
            (try clear hk)
            (try clear hi)
            refine hK.out _ _ ⟨z0 _ BK102.out, z1 _ BK102.out, z2 _ BK102.out, z3 _ BK102.out, z4 _ BK102.out, z5 _ BK102.out, z6 _ BK102.out, z7 _ BK102.out, z8 _ BK102.out, z9 _ BK102.out, z10 _ BK102.out, (CY HB.out hw104_0), (CY HB.out hw104_1), (CY HB.out hw104_2), (CY HB.out hw104_3), (CY HB.out hw104_4), (CY HB.out hw104_5), (CY HB.out hw104_6), (CY HB.out hw104_7), (CY HB.out hw104_8), (CY HB.out hw104_9), (CY HB.out hw104_10)⟩ (fun hHeld => ?_)
            clear hK K
            refine norm_ (a' := ?_) ?_ ?_
            rotate_left
            ·show Act.put _ (some 17) _ = _
             simp only [Act.put, List.setIfInBounds_toArray, List.set_cons_zero, List.set_cons_succ, i64_w, i32_w]
             rfl
            refine pv HT_ 2 18 (tf 3 23) ?_
            refine pv HT_ 3 19 (tf 4 22) ?_
            refine pv HT_ 4 20 (tf 5 21) ?_
            refine pv HT_ 6 22 (tr [5, 1, 1, 19]) ?_
            refine tk 5 (some 21) (tf 7 19) (take_ofW HT_.out HW_.out (by kernel_rfl)) hHeld ?_
            refine pv HT_ 7 23 (tf 8 18) ?_
            refine pv HT_ 8 24 (tf 9 17) ?_
            refine pv HT_ 9 25 (tf 10 16) ?_
            refine pv HT_ 10 26 (tf 11 15) ?_
            refine pv HT_ 11 27 (tf 12 14) ?_
            refine pv HT_ 12 28 (tf 13 13) ?_
            refine pv HT_ 13 29 (tf 14 12) ?_
            refine pv HT_ 14 30 (tf 15 11) ?_
            refine pv HT_ 15 31 (tf 16 10) ?_
            refine pv HT_ 16 32 (tf 17 9) ?_
            refine pv HT_ 17 33 (tf 18 8) ?_
            refine pv HT_ 20 36 (tr [18, 2, 1, 5]) ?_
            refine tk 18 (some 34) (tr [19, 1, 1, 5]) (take_ofW HT_.out HW_.out (by kernel_rfl)) hHeld ?_
            refine tk 21 (some 37) (tr [19, 1, 2, 4]) (take_ofW HT_.out HW_.out (by kernel_rfl)) hHeld ?_
            refine one_ (i := 19) (N := some 35) (tf 22 4) rfl rfl (one_of HT_.out (by kernel_rfl)) (by decide) (fun K hK => ?_)
            refine goesW_ Try.func68 (by kernel_rfl) rfl #[.agg #[.int .i64 ((rd_T95 l0 (ji17)).f0), .int .i64 ((rd_T95 l0 (ji17)).f1), .string ((rd_T95 l0 (ji17)).f2), .string ((rd_T95 l0 (ji17)).f3), .int .i64 ((rd_T95 l0 (ji17)).f4), .int .i64 ((rd_T95 l0 (ji17)).f5), .int .i64 ((rd_T95 l0 (ji17)).f6), .int .i64 ((rd_T95 l0 (ji17)).f7), .int .i64 ((rd_T95 l0 (ji17)).f8), .int .i64 ((rd_T95 l0 (ji17)).f9.f0), .slice A104_10 ((rd_T95 l0 (ji17)).f9.f1).length c104_10]] (by rfl) rfl rfl (by first | rfl | (simp [Act.eval, Act.put]; done)) (by (try simp only [List.map_toArray, List.map_cons, List.map_nil]); first | done | (simp only [hji17]; rfl) | rfl | (simp only [List.length_drop, List.length_take]; rfl)) ?_
            with_reducible refine (impl_spiOf.calls ((rd_T95 l0 (ji17)).f0) ((rd_T95 l0 (ji17)).f1) ((rd_T95 l0 (ji17)).f2) ((rd_T95 l0 (ji17)).f3) ((rd_T95 l0 (ji17)).f4) ((rd_T95 l0 (ji17)).f5) ((rd_T95 l0 (ji17)).f6) ((rd_T95 l0 (ji17)).f7) ((rd_T95 l0 (ji17)).f8) ((rd_T95 l0 (ji17)).f9.f0) _ _ ((rd_T95 l0 (ji17)).f9.f1) t105 _ ?side1 ?side2 A20.out).mono ?_
            (case side1 => exact KD HR104_10 HB)
            (case side2 => exact HC104_10.out)
            rintro e w25 ⟨rfl, hb⟩
            refine ⟨_, rfl, ?_⟩
            replace BK102 := am (BB BK102 hb)
            replace HB := am (below_step (K1 HB GE102.out) hb)
            (try clear hb)
            (try clear hb2)
            (try clear hk)
            (try clear hi)
            refine hK.out _ _ ⟨z0 _ BK102.out, z1 _ BK102.out, z2 _ BK102.out, z3 _ BK102.out, z4 _ BK102.out, z5 _ BK102.out, z6 _ BK102.out, z7 _ BK102.out, z8 _ BK102.out, z9 _ BK102.out, z10 _ BK102.out, (CY HB.out hw104_0), (CY HB.out hw104_1), (CY HB.out hw104_2), (CY HB.out hw104_3), (CY HB.out hw104_4), (CY HB.out hw104_5), (CY HB.out hw104_6), (CY HB.out hw104_7), (CY HB.out hw104_8), (CY HB.out hw104_9), (CY HB.out hw104_10)⟩ (fun hHeld => ?_)
            clear hK K
            refine norm_ (a' := ?_) ?_ ?_
            rotate_left
            ·show Act.put _ (some 35) _ = _
             simp only [Act.put, List.setIfInBounds_toArray, List.set_cons_zero, List.set_cons_succ, i64_w, i32_w]
             rfl
            refine one_ (i := 22) (N := some 38) (tf 23 3) rfl rfl (one_of HT_.out (by kernel_rfl)) (by decide) (fun K hK => ?_)
            refine goesW_ Try.func68 (by kernel_rfl) rfl #[.agg #[.int .i64 ((rd_T95 l0 x11_1).f0), .int .i64 ((rd_T95 l0 x11_1).f1), .string ((rd_T95 l0 x11_1).f2), .string ((rd_T95 l0 x11_1).f3), .int .i64 ((rd_T95 l0 x11_1).f4), .int .i64 ((rd_T95 l0 x11_1).f5), .int .i64 ((rd_T95 l0 x11_1).f6), .int .i64 ((rd_T95 l0 x11_1).f7), .int .i64 ((rd_T95 l0 x11_1).f8), .int .i64 ((rd_T95 l0 x11_1).f9.f0), .slice A101_10 ((rd_T95 l0 x11_1).f9.f1).length c101_10]] (by rfl) rfl rfl (by first | rfl | (simp [Act.eval, Act.put]; done)) MT ?_
            with_reducible refine (impl_spiOf.calls ((rd_T95 l0 x11_1).f0) ((rd_T95 l0 x11_1).f1) ((rd_T95 l0 x11_1).f2) ((rd_T95 l0 x11_1).f3) ((rd_T95 l0 x11_1).f4) ((rd_T95 l0 x11_1).f5) ((rd_T95 l0 x11_1).f6) ((rd_T95 l0 x11_1).f7) ((rd_T95 l0 x11_1).f8) ((rd_T95 l0 x11_1).f9.f0) _ _ ((rd_T95 l0 x11_1).f9.f1) t106 _ ?side1 ?side2 A21.out).mono ?_
            (case side1 => exact KD HR101_10 HB)
            (case side2 => exact HC101_10.out)
            rintro e w26 ⟨rfl, hb⟩
            refine ⟨_, rfl, ?_⟩
            replace BK102 := am (BB BK102 hb)
            replace HB := am (below_step (K1 HB GE102.out) hb)
            (try clear hb)
            (try clear hb2)
            (try clear hk)
            (try clear hi)
            refine hK.out _ _ ⟨z0 _ BK102.out, z1 _ BK102.out, z2 _ BK102.out, z3 _ BK102.out, z4 _ BK102.out, z5 _ BK102.out, z6 _ BK102.out, z7 _ BK102.out, z8 _ BK102.out, z9 _ BK102.out, z10 _ BK102.out, (CY HB.out hw104_0), (CY HB.out hw104_1), (CY HB.out hw104_2), (CY HB.out hw104_3), (CY HB.out hw104_4), (CY HB.out hw104_5), (CY HB.out hw104_6), (CY HB.out hw104_7), (CY HB.out hw104_8), (CY HB.out hw104_9), (CY HB.out hw104_10)⟩ (fun hHeld => ?_)
            clear hK K
            refine norm_ (a' := ?_) ?_ ?_
            rotate_left
            ·show Act.put _ (some 38) _ = _
             simp only [Act.put, List.setIfInBounds_toArray, List.set_cons_zero, List.set_cons_succ, i64_w, i32_w]
             rfl
            refine pv HT_ 23 39 (tf 24 2) ?_
            refine pv HT_ 24 40 (tf 25 1) ?_
            refine pv HT_ 25 41 (tf 26 0) ?_
            refine done_ (done_of HT_.out (by kernel_rfl)) ?_
            try go_wp2
            go_meet
            case rel => exact ⟨_, (decide (t105 ≥ t106)), (by first | rfl | (simp; done) | (simp [*]; done)), H', ⟨by have := HK1.out; first | omega | exact Nat.le_refl _⟩, ⟨KB BK102⟩, ⟨K1 HB GE102.out⟩⟩
           ·rw [if_neg c19] at H
            exact absurd H (by simp)
          ·rw [if_neg c18] at H
           exact absurd H (by simp)
         ·rw [if_neg c16] at H
          have c16b0 : decide (0 < x11_1) = false := decide_eq_false c16
          clear c16
          have H' := Aside0.mk H
          clear H
          try go_wp2
          have n0_ : Aside0 ((((((((((((w8.setCell ⟨gb102, 0, none⟩ (.int .i64 ((rd_T95 l0 x11_1).f0))).setCell ⟨gb102, 1, none⟩ (.int .i64 ((rd_T95 l0 x11_1).f1))).setCell ⟨gb102, 2, none⟩ (.string ((rd_T95 l0 x11_1).f2))).setCell ⟨gb102, 3, none⟩ (.string ((rd_T95 l0 x11_1).f3))).setCell ⟨gb102, 4, none⟩ (.int .i64 ((rd_T95 l0 x11_1).f4))).setCell ⟨gb102, 5, none⟩ (.int .i64 ((rd_T95 l0 x11_1).f5))).setCell ⟨gb102, 6, none⟩ (.int .i64 ((rd_T95 l0 x11_1).f6))).setCell ⟨gb102, 7, none⟩ (.int .i64 ((rd_T95 l0 x11_1).f7))).setCell ⟨gb102, 8, none⟩ (.int .i64 ((rd_T95 l0 x11_1).f8))).setCell ⟨gb102, 9, none⟩ (.int .i64 ((rd_T95 l0 x11_1).f9.f0))).setCell ⟨gb102, 10, none⟩ (.slice A101_10 ((rd_T95 l0 x11_1).f9.f1).length c101_10)).heap[gb102]? = some (.cells #[.int .i64 ((rd_T95 l0 x11_1).f0), .int .i64 ((rd_T95 l0 x11_1).f1), .string ((rd_T95 l0 x11_1).f2), .string ((rd_T95 l0 x11_1).f3), .int .i64 ((rd_T95 l0 x11_1).f4), .int .i64 ((rd_T95 l0 x11_1).f5), .int .i64 ((rd_T95 l0 x11_1).f6), .int .i64 ((rd_T95 l0 x11_1).f7), .int .i64 ((rd_T95 l0 x11_1).f8), .int .i64 ((rd_T95 l0 x11_1).f9.f0), .slice A101_10 ((rd_T95 l0 x11_1).f9.f1).length c101_10] 95 (0, 0))) := ⟨by (with_reducible repeat (first | refine blk_drewN ?_ _ | refine blk_drew ?_ | refine blk_alloc ?_ _)); refine blk_put (cs := #[.int .i64 ((rd_T95 l0 x11_1).f0), .int .i64 ((rd_T95 l0 x11_1).f1), .string ((rd_T95 l0 x11_1).f2), .string ((rd_T95 l0 x11_1).f3), .int .i64 ((rd_T95 l0 x11_1).f4), .int .i64 ((rd_T95 l0 x11_1).f5), .int .i64 ((rd_T95 l0 x11_1).f6), .int .i64 ((rd_T95 l0 x11_1).f7), .int .i64 ((rd_T95 l0 x11_1).f8), .int .i64 ((rd_T95 l0 x11_1).f9.f0), .slice none 0 0]) ?_ 10 _ rfl; (with_reducible repeat (first | refine blk_drewN ?_ _ | refine blk_drew ?_ | refine blk_alloc ?_ _)); refine blk_put (cs := #[.int .i64 ((rd_T95 l0 x11_1).f0), .int .i64 ((rd_T95 l0 x11_1).f1), .string ((rd_T95 l0 x11_1).f2), .string ((rd_T95 l0 x11_1).f3), .int .i64 ((rd_T95 l0 x11_1).f4), .int .i64 ((rd_T95 l0 x11_1).f5), .int .i64 ((rd_T95 l0 x11_1).f6), .int .i64 ((rd_T95 l0 x11_1).f7), .int .i64 ((rd_T95 l0 x11_1).f8), .int .i64 0, .slice none 0 0]) ?_ 9 _ rfl; (with_reducible repeat (first | refine blk_drewN ?_ _ | refine blk_drew ?_ | refine blk_alloc ?_ _)); refine blk_put (cs := #[.int .i64 ((rd_T95 l0 x11_1).f0), .int .i64 ((rd_T95 l0 x11_1).f1), .string ((rd_T95 l0 x11_1).f2), .string ((rd_T95 l0 x11_1).f3), .int .i64 ((rd_T95 l0 x11_1).f4), .int .i64 ((rd_T95 l0 x11_1).f5), .int .i64 ((rd_T95 l0 x11_1).f6), .int .i64 ((rd_T95 l0 x11_1).f7), .int .i64 0, .int .i64 0, .slice none 0 0]) ?_ 8 _ rfl; (with_reducible repeat (first | refine blk_drewN ?_ _ | refine blk_drew ?_ | refine blk_alloc ?_ _)); refine blk_put (cs := #[.int .i64 ((rd_T95 l0 x11_1).f0), .int .i64 ((rd_T95 l0 x11_1).f1), .string ((rd_T95 l0 x11_1).f2), .string ((rd_T95 l0 x11_1).f3), .int .i64 ((rd_T95 l0 x11_1).f4), .int .i64 ((rd_T95 l0 x11_1).f5), .int .i64 ((rd_T95 l0 x11_1).f6), .int .i64 0, .int .i64 0, .int .i64 0, .slice none 0 0]) ?_ 7 _ rfl; (with_reducible repeat (first | refine blk_drewN ?_ _ | refine blk_drew ?_ | refine blk_alloc ?_ _)); refine blk_put (cs := #[.int .i64 ((rd_T95 l0 x11_1).f0), .int .i64 ((rd_T95 l0 x11_1).f1), .string ((rd_T95 l0 x11_1).f2), .string ((rd_T95 l0 x11_1).f3), .int .i64 ((rd_T95 l0 x11_1).f4), .int .i64 ((rd_T95 l0 x11_1).f5), .int .i64 0, .int .i64 0, .int .i64 0, .int .i64 0, .slice none 0 0]) ?_ 6 _ rfl; (with_reducible repeat (first | refine blk_drewN ?_ _ | refine blk_drew ?_ | refine blk_alloc ?_ _)); refine blk_put (cs := #[.int .i64 ((rd_T95 l0 x11_1).f0), .int .i64 ((rd_T95 l0 x11_1).f1), .string ((rd_T95 l0 x11_1).f2), .string ((rd_T95 l0 x11_1).f3), .int .i64 ((rd_T95 l0 x11_1).f4), .int .i64 0, .int .i64 0, .int .i64 0, .int .i64 0, .int .i64 0, .slice none 0 0]) ?_ 5 _ rfl; (with_reducible repeat (first | refine blk_drewN ?_ _ | refine blk_drew ?_ | refine blk_alloc ?_ _)); refine blk_put (cs := #[.int .i64 ((rd_T95 l0 x11_1).f0), .int .i64 ((rd_T95 l0 x11_1).f1), .string ((rd_T95 l0 x11_1).f2), .string ((rd_T95 l0 x11_1).f3), .int .i64 0, .int .i64 0, .int .i64 0, .int .i64 0, .int .i64 0, .int .i64 0, .slice none 0 0]) ?_ 4 _ rfl; (with_reducible repeat (first | refine blk_drewN ?_ _ | refine blk_drew ?_ | refine blk_alloc ?_ _)); refine blk_put (cs := #[.int .i64 ((rd_T95 l0 x11_1).f0), .int .i64 ((rd_T95 l0 x11_1).f1), .string ((rd_T95 l0 x11_1).f2), .string (⟨#[]⟩ : ByteArray), .int .i64 0, .int .i64 0, .int .i64 0, .int .i64 0, .int .i64 0, .int .i64 0, .slice none 0 0]) ?_ 3 _ rfl; (with_reducible repeat (first | refine blk_drewN ?_ _ | refine blk_drew ?_ | refine blk_alloc ?_ _)); refine blk_put (cs := #[.int .i64 ((rd_T95 l0 x11_1).f0), .int .i64 ((rd_T95 l0 x11_1).f1), .string (⟨#[]⟩ : ByteArray), .string (⟨#[]⟩ : ByteArray), .int .i64 0, .int .i64 0, .int .i64 0, .int .i64 0, .int .i64 0, .int .i64 0, .slice none 0 0]) ?_ 2 _ rfl; (with_reducible repeat (first | refine blk_drewN ?_ _ | refine blk_drew ?_ | refine blk_alloc ?_ _)); refine blk_put (cs := #[.int .i64 ((rd_T95 l0 x11_1).f0), .int .i64 0, .string (⟨#[]⟩ : ByteArray), .string (⟨#[]⟩ : ByteArray), .int .i64 0, .int .i64 0, .int .i64 0, .int .i64 0, .int .i64 0, .int .i64 0, .slice none 0 0]) ?_ 1 _ rfl; (with_reducible repeat (first | refine blk_drewN ?_ _ | refine blk_drew ?_ | refine blk_alloc ?_ _)); refine blk_put (cs := #[.int .i64 0, .int .i64 0, .string (⟨#[]⟩ : ByteArray), .string (⟨#[]⟩ : ByteArray), .int .i64 0, .int .i64 0, .int .i64 0, .int .i64 0, .int .i64 0, .int .i64 0, .slice none 0 0]) ?_ 0 _ rfl; (with_reducible repeat (first | refine blk_drewN ?_ _ | refine blk_drew ?_ | refine blk_alloc ?_ _)); exact BK102.out⟩
          have n1_ : Aside0 (Below w.heap.size w (((((((((((w8.setCell ⟨gb102, 0, none⟩ (.int .i64 ((rd_T95 l0 x11_1).f0))).setCell ⟨gb102, 1, none⟩ (.int .i64 ((rd_T95 l0 x11_1).f1))).setCell ⟨gb102, 2, none⟩ (.string ((rd_T95 l0 x11_1).f2))).setCell ⟨gb102, 3, none⟩ (.string ((rd_T95 l0 x11_1).f3))).setCell ⟨gb102, 4, none⟩ (.int .i64 ((rd_T95 l0 x11_1).f4))).setCell ⟨gb102, 5, none⟩ (.int .i64 ((rd_T95 l0 x11_1).f5))).setCell ⟨gb102, 6, none⟩ (.int .i64 ((rd_T95 l0 x11_1).f6))).setCell ⟨gb102, 7, none⟩ (.int .i64 ((rd_T95 l0 x11_1).f7))).setCell ⟨gb102, 8, none⟩ (.int .i64 ((rd_T95 l0 x11_1).f8))).setCell ⟨gb102, 9, none⟩ (.int .i64 ((rd_T95 l0 x11_1).f9.f0))).setCell ⟨gb102, 10, none⟩ (.slice A101_10 ((rd_T95 l0 x11_1).f9.f1).length c101_10))) := ⟨K1 HB GE102.out⟩
          (try clear BK102)
          (try clear HB)
          generalize (((((((((((w8.setCell ⟨gb102, 0, none⟩ (.int .i64 ((rd_T95 l0 x11_1).f0))).setCell ⟨gb102, 1, none⟩ (.int .i64 ((rd_T95 l0 x11_1).f1))).setCell ⟨gb102, 2, none⟩ (.string ((rd_T95 l0 x11_1).f2))).setCell ⟨gb102, 3, none⟩ (.string ((rd_T95 l0 x11_1).f3))).setCell ⟨gb102, 4, none⟩ (.int .i64 ((rd_T95 l0 x11_1).f4))).setCell ⟨gb102, 5, none⟩ (.int .i64 ((rd_T95 l0 x11_1).f5))).setCell ⟨gb102, 6, none⟩ (.int .i64 ((rd_T95 l0 x11_1).f6))).setCell ⟨gb102, 7, none⟩ (.int .i64 ((rd_T95 l0 x11_1).f7))).setCell ⟨gb102, 8, none⟩ (.int .i64 ((rd_T95 l0 x11_1).f8))).setCell ⟨gb102, 9, none⟩ (.int .i64 ((rd_T95 l0 x11_1).f9.f0))).setCell ⟨gb102, 10, none⟩ (.slice A101_10 ((rd_T95 l0 x11_1).f9.f1).length c101_10)) = w27 at n0_ n1_ ⊢
          have BK102 := n0_
          have HB := n1_
          clear n0_ n1_
          replace BK102 := am (blk_drew BK102.out)
          replace HB := am (below_drew1 HB.out)
          refine start_ (n := 26) (S := fun w' => de11 w' gb102 (.int .i64 ((rd_T95 l0 x11_1).f0)) (.int .i64 ((rd_T95 l0 x11_1).f1)) (.string ((rd_T95 l0 x11_1).f2)) (.string ((rd_T95 l0 x11_1).f3)) (.int .i64 ((rd_T95 l0 x11_1).f4)) (.int .i64 ((rd_T95 l0 x11_1).f5)) (.int .i64 ((rd_T95 l0 x11_1).f6)) (.int .i64 ((rd_T95 l0 x11_1).f7)) (.int .i64 ((rd_T95 l0 x11_1).f8)) (.int .i64 ((rd_T95 l0 x11_1).f9.f0)) (.slice A101_10 ((rd_T95 l0 x11_1).f9.f1).length c101_10)) (ds := []) (tf 0 26) (by kernel_rfl) rfl rfl ⟨z0 _ BK102.out, z1 _ BK102.out, z2 _ BK102.out, z3 _ BK102.out, z4 _ BK102.out, z5 _ BK102.out, z6 _ BK102.out, z7 _ BK102.out, z8 _ BK102.out, z9 _ BK102.out, z10 _ BK102.out⟩ (fun hHeld => ?_); refine with_tabW impl_ascending_spiOf.tab4 impl_ascending_spiOf.bits4 (fun HT_ HW_ => ?_)
          generalize w27.drew = w28 at BK102 HB hHeld ⊢
          refine tk 0 (some 16) (tf 1 25) (take_ofW HT_.out HW_.out (by kernel_rfl)) hHeld ?_
          refine one_ (i := 1) (N := some 17) (tf 2 24) rfl rfl (one_of HT_.out (by kernel_rfl)) (by decide) (fun K hK => ?_)
          refine goes_ Try.func111 (by kernel_rfl) rfl #[.agg #[.int .i64 ((rd_T95 l0 x11_1).f0), .int .i64 ((rd_T95 l0 x11_1).f1), .string ((rd_T95 l0 x11_1).f2), .string ((rd_T95 l0 x11_1).f3), .int .i64 ((rd_T95 l0 x11_1).f4), .int .i64 ((rd_T95 l0 x11_1).f5), .int .i64 ((rd_T95 l0 x11_1).f6), .int .i64 ((rd_T95 l0 x11_1).f7), .int .i64 ((rd_T95 l0 x11_1).f8), .int .i64 ((rd_T95 l0 x11_1).f9.f0), .slice A101_10 ((rd_T95 l0 x11_1).f9.f1).length c101_10]] (by rfl) rfl rfl MT ?_
          with_reducible refine (impl_SaOk.calls k1 ((rd_T95 l0 x11_1).f0) ((rd_T95 l0 x11_1).f1) ((rd_T95 l0 x11_1).f2) ((rd_T95 l0 x11_1).f3) ((rd_T95 l0 x11_1).f4) ((rd_T95 l0 x11_1).f5) ((rd_T95 l0 x11_1).f6) ((rd_T95 l0 x11_1).f7) ((rd_T95 l0 x11_1).f8) ((rd_T95 l0 x11_1).f9.f0) _ _ ((rd_T95 l0 x11_1).f9.f1) true _ ?side1 ?side2 A10.out).mono ?_
          (case side1 => exact KD HR101_10 HB)
          (case side2 => exact HC101_10.out)
          rintro e w29 ⟨rfl, hb⟩
          refine ⟨_, rfl, ?_⟩
          replace BK102 := am (BB BK102 hb)
          replace HB := am (below_step (K1 HB GE102.out) hb)
          (try clear hb)
          (try clear hb2)
          (try clear hk)
          (try clear hi)
          refine hK.out _ _ ⟨z0 _ BK102.out, z1 _ BK102.out, z2 _ BK102.out, z3 _ BK102.out, z4 _ BK102.out, z5 _ BK102.out, z6 _ BK102.out, z7 _ BK102.out, z8 _ BK102.out, z9 _ BK102.out, z10 _ BK102.out⟩ (fun hHeld => ?_)
          clear hK K
          refine norm_ (a' := ?_) ?_ ?_
          rotate_left
          ·show Act.put _ (some 17) _ = _
           simp only [Act.put, List.setIfInBounds_toArray, List.set_cons_zero, List.set_cons_succ, i64_w, i32_w]
           rfl
          refine pv HT_ 2 18 (tf 3 23) ?_
          refine pv HT_ 3 19 (tf 4 22) ?_
          refine pv HT_ 4 20 (tf 5 21) ?_
          refine pv HT_ 6 22 (tr [5, 1, 1, 19]) ?_
          refine tk 5 (some 21) (tf 7 19) (take_ofW HT_.out HW_.out (by kernel_rfl)) hHeld ?_
          refine pv HT_ 7 23 (tf 8 18) ?_
          refine pv HT_ 8 24 (tf 9 17) ?_
          refine pv HT_ 9 25 (tf 10 16) ?_
          refine pv HT_ 10 26 (tf 11 15) ?_
          refine pv HT_ 11 27 (tf 12 14) ?_
          refine pv HT_ 12 28 (tf 13 13) ?_
          refine pw HT_ 13 29 (tf 14 12) ?_
          refine pw HT_ 14 30 (tf 15 11) ?_
          refine pw HT_ 15 31 (tf 16 10) ?_
          refine pw HT_ 16 32 (tf 17 9) ?_
          refine pw HT_ 17 33 (tf 18 8) ?_
          refine pw HT_ 18 34 (tf 19 7) ?_
          refine pw HT_ 19 35 (tf 20 6) ?_
          refine pw HT_ 20 36 (tf 21 5) ?_
          refine pw HT_ 21 37 (tf 22 4) ?_
          refine pw HT_ 22 38 (tf 23 3) ?_
          refine pw HT_ 23 39 (tf 24 2) ?_
          refine pv HT_ 24 40 (tf 25 1) ?_
          refine pv HT_ 25 41 (tf 26 0) ?_
          refine done_ (done_of HT_.out (by kernel_rfl)) ?_
          try go_wp2
          go_meet
          case rel => exact ⟨_, (false), (by first | rfl | (simp; done) | (simp [*]; done)), H', ⟨by have := HK1.out; first | omega | exact Nat.le_refl _⟩, ⟨KB BK102⟩, ⟨K1 HB GE102.out⟩⟩
       ·replace c11 := Bool.eq_false_iff.mpr c11
        subst c11
        have H1 : (impl_ascending_spiOf.j1 k1 l0 a1 l0 (l0.length : Int) x11_1 true) = some r := by rw [if_neg (show ¬ (false = true) by decide)] at H; exact H
        clear H
        have H := H1
        clear H1
        have H' := Aside0.mk H
        clear H
        try go_wp2
        have n0_ : Aside0 ((((((((((((w8.setCell ⟨gb102, 0, none⟩ (.int .i64 ((rd_T95 l0 x11_1).f0))).setCell ⟨gb102, 1, none⟩ (.int .i64 ((rd_T95 l0 x11_1).f1))).setCell ⟨gb102, 2, none⟩ (.string ((rd_T95 l0 x11_1).f2))).setCell ⟨gb102, 3, none⟩ (.string ((rd_T95 l0 x11_1).f3))).setCell ⟨gb102, 4, none⟩ (.int .i64 ((rd_T95 l0 x11_1).f4))).setCell ⟨gb102, 5, none⟩ (.int .i64 ((rd_T95 l0 x11_1).f5))).setCell ⟨gb102, 6, none⟩ (.int .i64 ((rd_T95 l0 x11_1).f6))).setCell ⟨gb102, 7, none⟩ (.int .i64 ((rd_T95 l0 x11_1).f7))).setCell ⟨gb102, 8, none⟩ (.int .i64 ((rd_T95 l0 x11_1).f8))).setCell ⟨gb102, 9, none⟩ (.int .i64 ((rd_T95 l0 x11_1).f9.f0))).setCell ⟨gb102, 10, none⟩ (.slice A101_10 ((rd_T95 l0 x11_1).f9.f1).length c101_10)).heap[gb102]? = some (.cells #[.int .i64 ((rd_T95 l0 x11_1).f0), .int .i64 ((rd_T95 l0 x11_1).f1), .string ((rd_T95 l0 x11_1).f2), .string ((rd_T95 l0 x11_1).f3), .int .i64 ((rd_T95 l0 x11_1).f4), .int .i64 ((rd_T95 l0 x11_1).f5), .int .i64 ((rd_T95 l0 x11_1).f6), .int .i64 ((rd_T95 l0 x11_1).f7), .int .i64 ((rd_T95 l0 x11_1).f8), .int .i64 ((rd_T95 l0 x11_1).f9.f0), .slice A101_10 ((rd_T95 l0 x11_1).f9.f1).length c101_10] 95 (0, 0))) := ⟨by (with_reducible repeat (first | refine blk_drewN ?_ _ | refine blk_drew ?_ | refine blk_alloc ?_ _)); refine blk_put (cs := #[.int .i64 ((rd_T95 l0 x11_1).f0), .int .i64 ((rd_T95 l0 x11_1).f1), .string ((rd_T95 l0 x11_1).f2), .string ((rd_T95 l0 x11_1).f3), .int .i64 ((rd_T95 l0 x11_1).f4), .int .i64 ((rd_T95 l0 x11_1).f5), .int .i64 ((rd_T95 l0 x11_1).f6), .int .i64 ((rd_T95 l0 x11_1).f7), .int .i64 ((rd_T95 l0 x11_1).f8), .int .i64 ((rd_T95 l0 x11_1).f9.f0), .slice none 0 0]) ?_ 10 _ rfl; (with_reducible repeat (first | refine blk_drewN ?_ _ | refine blk_drew ?_ | refine blk_alloc ?_ _)); refine blk_put (cs := #[.int .i64 ((rd_T95 l0 x11_1).f0), .int .i64 ((rd_T95 l0 x11_1).f1), .string ((rd_T95 l0 x11_1).f2), .string ((rd_T95 l0 x11_1).f3), .int .i64 ((rd_T95 l0 x11_1).f4), .int .i64 ((rd_T95 l0 x11_1).f5), .int .i64 ((rd_T95 l0 x11_1).f6), .int .i64 ((rd_T95 l0 x11_1).f7), .int .i64 ((rd_T95 l0 x11_1).f8), .int .i64 0, .slice none 0 0]) ?_ 9 _ rfl; (with_reducible repeat (first | refine blk_drewN ?_ _ | refine blk_drew ?_ | refine blk_alloc ?_ _)); refine blk_put (cs := #[.int .i64 ((rd_T95 l0 x11_1).f0), .int .i64 ((rd_T95 l0 x11_1).f1), .string ((rd_T95 l0 x11_1).f2), .string ((rd_T95 l0 x11_1).f3), .int .i64 ((rd_T95 l0 x11_1).f4), .int .i64 ((rd_T95 l0 x11_1).f5), .int .i64 ((rd_T95 l0 x11_1).f6), .int .i64 ((rd_T95 l0 x11_1).f7), .int .i64 0, .int .i64 0, .slice none 0 0]) ?_ 8 _ rfl; (with_reducible repeat (first | refine blk_drewN ?_ _ | refine blk_drew ?_ | refine blk_alloc ?_ _)); refine blk_put (cs := #[.int .i64 ((rd_T95 l0 x11_1).f0), .int .i64 ((rd_T95 l0 x11_1).f1), .string ((rd_T95 l0 x11_1).f2), .string ((rd_T95 l0 x11_1).f3), .int .i64 ((rd_T95 l0 x11_1).f4), .int .i64 ((rd_T95 l0 x11_1).f5), .int .i64 ((rd_T95 l0 x11_1).f6), .int .i64 0, .int .i64 0, .int .i64 0, .slice none 0 0]) ?_ 7 _ rfl; (with_reducible repeat (first | refine blk_drewN ?_ _ | refine blk_drew ?_ | refine blk_alloc ?_ _)); refine blk_put (cs := #[.int .i64 ((rd_T95 l0 x11_1).f0), .int .i64 ((rd_T95 l0 x11_1).f1), .string ((rd_T95 l0 x11_1).f2), .string ((rd_T95 l0 x11_1).f3), .int .i64 ((rd_T95 l0 x11_1).f4), .int .i64 ((rd_T95 l0 x11_1).f5), .int .i64 0, .int .i64 0, .int .i64 0, .int .i64 0, .slice none 0 0]) ?_ 6 _ rfl; (with_reducible repeat (first | refine blk_drewN ?_ _ | refine blk_drew ?_ | refine blk_alloc ?_ _)); refine blk_put (cs := #[.int .i64 ((rd_T95 l0 x11_1).f0), .int .i64 ((rd_T95 l0 x11_1).f1), .string ((rd_T95 l0 x11_1).f2), .string ((rd_T95 l0 x11_1).f3), .int .i64 ((rd_T95 l0 x11_1).f4), .int .i64 0, .int .i64 0, .int .i64 0, .int .i64 0, .int .i64 0, .slice none 0 0]) ?_ 5 _ rfl; (with_reducible repeat (first | refine blk_drewN ?_ _ | refine blk_drew ?_ | refine blk_alloc ?_ _)); refine blk_put (cs := #[.int .i64 ((rd_T95 l0 x11_1).f0), .int .i64 ((rd_T95 l0 x11_1).f1), .string ((rd_T95 l0 x11_1).f2), .string ((rd_T95 l0 x11_1).f3), .int .i64 0, .int .i64 0, .int .i64 0, .int .i64 0, .int .i64 0, .int .i64 0, .slice none 0 0]) ?_ 4 _ rfl; (with_reducible repeat (first | refine blk_drewN ?_ _ | refine blk_drew ?_ | refine blk_alloc ?_ _)); refine blk_put (cs := #[.int .i64 ((rd_T95 l0 x11_1).f0), .int .i64 ((rd_T95 l0 x11_1).f1), .string ((rd_T95 l0 x11_1).f2), .string (⟨#[]⟩ : ByteArray), .int .i64 0, .int .i64 0, .int .i64 0, .int .i64 0, .int .i64 0, .int .i64 0, .slice none 0 0]) ?_ 3 _ rfl; (with_reducible repeat (first | refine blk_drewN ?_ _ | refine blk_drew ?_ | refine blk_alloc ?_ _)); refine blk_put (cs := #[.int .i64 ((rd_T95 l0 x11_1).f0), .int .i64 ((rd_T95 l0 x11_1).f1), .string (⟨#[]⟩ : ByteArray), .string (⟨#[]⟩ : ByteArray), .int .i64 0, .int .i64 0, .int .i64 0, .int .i64 0, .int .i64 0, .int .i64 0, .slice none 0 0]) ?_ 2 _ rfl; (with_reducible repeat (first | refine blk_drewN ?_ _ | refine blk_drew ?_ | refine blk_alloc ?_ _)); refine blk_put (cs := #[.int .i64 ((rd_T95 l0 x11_1).f0), .int .i64 0, .string (⟨#[]⟩ : ByteArray), .string (⟨#[]⟩ : ByteArray), .int .i64 0, .int .i64 0, .int .i64 0, .int .i64 0, .int .i64 0, .int .i64 0, .slice none 0 0]) ?_ 1 _ rfl; (with_reducible repeat (first | refine blk_drewN ?_ _ | refine blk_drew ?_ | refine blk_alloc ?_ _)); refine blk_put (cs := #[.int .i64 0, .int .i64 0, .string (⟨#[]⟩ : ByteArray), .string (⟨#[]⟩ : ByteArray), .int .i64 0, .int .i64 0, .int .i64 0, .int .i64 0, .int .i64 0, .int .i64 0, .slice none 0 0]) ?_ 0 _ rfl; (with_reducible repeat (first | refine blk_drewN ?_ _ | refine blk_drew ?_ | refine blk_alloc ?_ _)); exact BK102.out⟩
        have n1_ : Aside0 (Below w.heap.size w (((((((((((w8.setCell ⟨gb102, 0, none⟩ (.int .i64 ((rd_T95 l0 x11_1).f0))).setCell ⟨gb102, 1, none⟩ (.int .i64 ((rd_T95 l0 x11_1).f1))).setCell ⟨gb102, 2, none⟩ (.string ((rd_T95 l0 x11_1).f2))).setCell ⟨gb102, 3, none⟩ (.string ((rd_T95 l0 x11_1).f3))).setCell ⟨gb102, 4, none⟩ (.int .i64 ((rd_T95 l0 x11_1).f4))).setCell ⟨gb102, 5, none⟩ (.int .i64 ((rd_T95 l0 x11_1).f5))).setCell ⟨gb102, 6, none⟩ (.int .i64 ((rd_T95 l0 x11_1).f6))).setCell ⟨gb102, 7, none⟩ (.int .i64 ((rd_T95 l0 x11_1).f7))).setCell ⟨gb102, 8, none⟩ (.int .i64 ((rd_T95 l0 x11_1).f8))).setCell ⟨gb102, 9, none⟩ (.int .i64 ((rd_T95 l0 x11_1).f9.f0))).setCell ⟨gb102, 10, none⟩ (.slice A101_10 ((rd_T95 l0 x11_1).f9.f1).length c101_10))) := ⟨K1 HB GE102.out⟩
        (try clear BK102)
        (try clear HB)
        generalize (((((((((((w8.setCell ⟨gb102, 0, none⟩ (.int .i64 ((rd_T95 l0 x11_1).f0))).setCell ⟨gb102, 1, none⟩ (.int .i64 ((rd_T95 l0 x11_1).f1))).setCell ⟨gb102, 2, none⟩ (.string ((rd_T95 l0 x11_1).f2))).setCell ⟨gb102, 3, none⟩ (.string ((rd_T95 l0 x11_1).f3))).setCell ⟨gb102, 4, none⟩ (.int .i64 ((rd_T95 l0 x11_1).f4))).setCell ⟨gb102, 5, none⟩ (.int .i64 ((rd_T95 l0 x11_1).f5))).setCell ⟨gb102, 6, none⟩ (.int .i64 ((rd_T95 l0 x11_1).f6))).setCell ⟨gb102, 7, none⟩ (.int .i64 ((rd_T95 l0 x11_1).f7))).setCell ⟨gb102, 8, none⟩ (.int .i64 ((rd_T95 l0 x11_1).f8))).setCell ⟨gb102, 9, none⟩ (.int .i64 ((rd_T95 l0 x11_1).f9.f0))).setCell ⟨gb102, 10, none⟩ (.slice A101_10 ((rd_T95 l0 x11_1).f9.f1).length c101_10)) = w30 at n0_ n1_ ⊢
        have BK102 := n0_
        have HB := n1_
        clear n0_ n1_
        replace BK102 := am (blk_drew BK102.out)
        replace HB := am (below_drew1 HB.out)
        refine start_ (n := 26) (S := fun w' => de11 w' gb102 (.int .i64 ((rd_T95 l0 x11_1).f0)) (.int .i64 ((rd_T95 l0 x11_1).f1)) (.string ((rd_T95 l0 x11_1).f2)) (.string ((rd_T95 l0 x11_1).f3)) (.int .i64 ((rd_T95 l0 x11_1).f4)) (.int .i64 ((rd_T95 l0 x11_1).f5)) (.int .i64 ((rd_T95 l0 x11_1).f6)) (.int .i64 ((rd_T95 l0 x11_1).f7)) (.int .i64 ((rd_T95 l0 x11_1).f8)) (.int .i64 ((rd_T95 l0 x11_1).f9.f0)) (.slice A101_10 ((rd_T95 l0 x11_1).f9.f1).length c101_10)) (ds := []) (tf 0 26) (by kernel_rfl) rfl rfl ⟨z0 _ BK102.out, z1 _ BK102.out, z2 _ BK102.out, z3 _ BK102.out, z4 _ BK102.out, z5 _ BK102.out, z6 _ BK102.out, z7 _ BK102.out, z8 _ BK102.out, z9 _ BK102.out, z10 _ BK102.out⟩ (fun hHeld => ?_); refine with_tabW impl_ascending_spiOf.tab4 impl_ascending_spiOf.bits4 (fun HT_ HW_ => ?_)
        generalize w30.drew = w31 at BK102 HB hHeld ⊢
        refine tk 0 (some 16) (tf 1 25) (take_ofW HT_.out HW_.out (by kernel_rfl)) hHeld ?_
        refine one_ (i := 1) (N := some 17) (tf 2 24) rfl rfl (one_of HT_.out (by kernel_rfl)) (by decide) (fun K hK => ?_)
        refine goes_ Try.func111 (by kernel_rfl) rfl #[.agg #[.int .i64 ((rd_T95 l0 x11_1).f0), .int .i64 ((rd_T95 l0 x11_1).f1), .string ((rd_T95 l0 x11_1).f2), .string ((rd_T95 l0 x11_1).f3), .int .i64 ((rd_T95 l0 x11_1).f4), .int .i64 ((rd_T95 l0 x11_1).f5), .int .i64 ((rd_T95 l0 x11_1).f6), .int .i64 ((rd_T95 l0 x11_1).f7), .int .i64 ((rd_T95 l0 x11_1).f8), .int .i64 ((rd_T95 l0 x11_1).f9.f0), .slice A101_10 ((rd_T95 l0 x11_1).f9.f1).length c101_10]] (by rfl) rfl rfl MT ?_
        with_reducible refine (impl_SaOk.calls k1 ((rd_T95 l0 x11_1).f0) ((rd_T95 l0 x11_1).f1) ((rd_T95 l0 x11_1).f2) ((rd_T95 l0 x11_1).f3) ((rd_T95 l0 x11_1).f4) ((rd_T95 l0 x11_1).f5) ((rd_T95 l0 x11_1).f6) ((rd_T95 l0 x11_1).f7) ((rd_T95 l0 x11_1).f8) ((rd_T95 l0 x11_1).f9.f0) _ _ ((rd_T95 l0 x11_1).f9.f1) false _ ?side1 ?side2 A10.out).mono ?_
        (case side1 => exact KD HR101_10 HB)
        (case side2 => exact HC101_10.out)
        rintro e w32 ⟨rfl, hb⟩
        refine ⟨_, rfl, ?_⟩
        replace BK102 := am (BB BK102 hb)
        replace HB := am (below_step (K1 HB GE102.out) hb)
        (try clear hb)
        (try clear hb2)
        (try clear hk)
        (try clear hi)
        refine hK.out _ _ ⟨z0 _ BK102.out, z1 _ BK102.out, z2 _ BK102.out, z3 _ BK102.out, z4 _ BK102.out, z5 _ BK102.out, z6 _ BK102.out, z7 _ BK102.out, z8 _ BK102.out, z9 _ BK102.out, z10 _ BK102.out⟩ (fun hHeld => ?_)
        clear hK K
        refine norm_ (a' := ?_) ?_ ?_
        rotate_left
        ·show Act.put _ (some 17) _ = _
         simp only [Act.put, List.setIfInBounds_toArray, List.set_cons_zero, List.set_cons_succ, i64_w, i32_w]
         rfl
        refine pv HT_ 2 18 (tf 3 23) ?_
        refine pv HT_ 3 19 (tf 4 22) ?_
        refine pw HT_ 4 20 (tf 5 21) ?_
        refine pw HT_ 5 21 (tf 6 20) ?_
        refine pw HT_ 6 22 (tf 7 19) ?_
        refine pw HT_ 7 23 (tf 8 18) ?_
        refine pv HT_ 8 24 (tf 9 17) ?_
        refine pv HT_ 9 25 (tf 10 16) ?_
        refine pw HT_ 10 26 (tf 11 15) ?_
        refine pw HT_ 11 27 (tf 12 14) ?_
        refine pw HT_ 12 28 (tf 13 13) ?_
        refine pw HT_ 13 29 (tf 14 12) ?_
        refine pw HT_ 14 30 (tf 15 11) ?_
        refine pw HT_ 15 31 (tf 16 10) ?_
        refine pw HT_ 16 32 (tf 17 9) ?_
        refine pw HT_ 17 33 (tf 18 8) ?_
        refine pw HT_ 18 34 (tf 19 7) ?_
        refine pw HT_ 19 35 (tf 20 6) ?_
        refine pw HT_ 20 36 (tf 21 5) ?_
        refine pw HT_ 21 37 (tf 22 4) ?_
        refine pw HT_ 22 38 (tf 23 3) ?_
        refine pw HT_ 23 39 (tf 24 2) ?_
        refine pw HT_ 24 40 (tf 25 1) ?_
        refine pv HT_ 25 41 (tf 26 0) ?_
        refine done_ (done_of HT_.out (by kernel_rfl)) ?_
        try go_wp2
        go_meet
        case rel => exact ⟨_, (true), (by first | rfl | (simp; done) | (simp [*]; done)), H', ⟨by have := HK1.out; first | omega | exact Nat.le_refl _⟩, ⟨KB BK102⟩, ⟨K1 HB GE102.out⟩⟩
      case rest =>
       clear HC7
       try clear c1
       try clear p2
       try clear c6
       try clear c10
       try clear c11
       try clear c16
       try clear c16b0
       try clear c18
       try clear c19
       obtain ⟨kq, x41_6, rfl, HA, HJ6, BK102, HB⟩ := hcut
       cases kq with
       | zero => exact absurd HA.out (by simp [impl_ascending_spiOf.j1])
       | succ kj6 =>
        have H := HA.out
        clear HA
        simp only [impl_ascending_spiOf.j1] at H
        by_cases c33 : x41_6 = true
        ·subst c33
         have H1 : (some false) = some r := by rw [if_pos rfl] at H; exact H
         clear H
         have H := H1
         clear H1
         obtain rfl := Option.some.inj H
         go_wp2
         go_ret
         exact ⟨ER, K1 HB GE102.out⟩
        ·replace c33 := Bool.eq_false_iff.mpr c33
         subst c33
         have H1 : (impl_ascending_spiOf.l0 kj6 l0 a1 l0 (l0.length : Int) (wrap64 (x11_1 + 1))) = some r := by rw [if_neg (show ¬ (false = true) by decide)] at H; exact H
         clear H
         have H := H1
         clear H1
         have H' := Aside0.mk H
         clear H
         go_wp2
         go_roundg kj6
         case measure => have := HK1.out; have := HJ6.out; omega
         case rel => exact ⟨(wrap64 (x11_1 + 1)), (by first | rfl | (simp; done) | (simp [*]; done)), H', ⟨by have := HK1.out; have := HJ6.out; omega⟩, ⟨K1 HB GE102.out⟩⟩
     ·rw [if_neg c6] at H
      exact absurd H (by simp)
    ·rw [if_neg c5] at H
     exact absurd H (by simp)
   ·rw [if_neg c4] at H
    have c4b0 : decide (x11_1 < (l0.length : Int)) = false := decide_eq_false c4
    clear c4
    obtain rfl := Option.some.inj H
    go_wp2
    go_ret
    exact ⟨ER, KL HB⟩
def laws_eqBlock.f (a0_0 : Int) (a0_1 : Int) (a1_0 : Int) (a1_1 : Int) : Option (Bool) := if a0_0 = a1_0 then (if a0_1 = a1_1 then (some true) else (some false)) else (some false)
set_option maxHeartbeats 8000000 in
set_option maxRecDepth 100000 in
theorem laws_eqBlock.calls (a0_0 : Int) (a0_1 : Int) (a1_0 : Int) (a1_1 : Int) (r : Bool) (w : World) (h : laws_eqBlock.f a0_0 a0_1 a1_0 a1_1 = some r) :
  Calls Try.prog 140 #[.agg #[.int .i64 a0_0, .int .i64 a0_1], .agg #[.int .i64 a1_0, .int .i64 a1_1]] w fun e w' => e = .returned (.bool r) ∧ Below w.heap.size w w' := by
 have hu139 := Try.underlying139
 have HB := am (Below.refl w.heap.size w)
 have H : (if a0_0 = a1_0 then (if a0_1 = a1_1 then (some true) else (some false)) else (some false)) = some r := h
 clear h
 by_cases c3 : a0_0 = a1_0
 ·rw [if_pos c3] at H
  have c3b0 : (a0_0 == a1_0) = true := beq_iff_eq.mpr c3
  have c3b1 : (a0_0 != a1_0) = false := bne_eq_false_iff_eq.mpr c3
  clear c3
  by_cases c4 : a0_1 = a1_1
  ·rw [if_pos c4] at H
   have c4b0 : (a0_1 == a1_1) = true := beq_iff_eq.mpr c4
   have c4b1 : (a0_1 != a1_1) = false := bne_eq_false_iff_eq.mpr c4
   clear c4
   obtain rfl := Option.some.inj H
   go_enter Try.func140, Try.ntmps140
   go_wp2_with (first | ((with_reducible refine gate_dst (N := 2) rfl ?_); refine box_event rfl (N := 2) rfl (cs := #[.int .i64 a0_0, .int .i64 a0_1]) (t := 139) BX ?_; intro gb101 hg w5 hbox hb; have BK101 := am (hbox); have GW101 := am (GH HB hg); have GE101 := GW101; replace HB := am (below_step (KL HB) hb); clear hb hbox hg) | ((with_reducible refine gate_dst (N := 3) rfl ?_); refine box_event rfl (N := 3) rfl (cs := #[.int .i64 a1_0, .int .i64 a1_1]) (t := 139) BX ?_; intro gb102 hg w6 hbox hb; have BK102 := am (hbox); have GW102 := am (GH1 HB GE101.out hg); have GE102 := GW102; replace HB := am (below_step (K1 HB GE101.out) hb); have NB101_102 := am (NL BK101 hg); have NB102_101 := am (NG BK101 hg); replace BK101 := am (BB BK101 hb); clear hb hbox hg; have hnb7 := NB101_102.out; have hnc7 := NB102_101.out; obtain ⟨hcz8_0, hcz8_1, hfz8_0⟩ := y2 w6 BK101.out; obtain ⟨hcz9_0, hcz9_1, hfz9_0⟩ := y2 w6 BK102.out))
   go_ret
   exact ⟨ER, K2 HB GE101.out GE102.out⟩
  ·rw [if_neg c4] at H
   have c4b0 : (a0_1 == a1_1) = false := beq_eq_false_iff_ne.mpr c4
   have c4b1 : (a0_1 != a1_1) = true := bne_iff_ne.mpr c4
   obtain rfl := Option.some.inj H
   go_enter Try.func140, Try.ntmps140
   go_wp2_with (first | ((with_reducible refine gate_dst (N := 2) rfl ?_); refine box_event rfl (N := 2) rfl (cs := #[.int .i64 a0_0, .int .i64 a0_1]) (t := 139) BX ?_; intro gb101 hg w10 hbox hb; have BK101 := am (hbox); have GW101 := am (GH HB hg); have GE101 := GW101; replace HB := am (below_step (KL HB) hb); clear hb hbox hg) | ((with_reducible refine gate_dst (N := 3) rfl ?_); refine box_event rfl (N := 3) rfl (cs := #[.int .i64 a1_0, .int .i64 a1_1]) (t := 139) BX ?_; intro gb102 hg w11 hbox hb; have BK102 := am (hbox); have GW102 := am (GH1 HB GE101.out hg); have GE102 := GW102; replace HB := am (below_step (K1 HB GE101.out) hb); have NB101_102 := am (NL BK101 hg); have NB102_101 := am (NG BK101 hg); replace BK101 := am (BB BK101 hb); clear hb hbox hg; have hnb12 := NB101_102.out; have hnc12 := NB102_101.out; obtain ⟨hcz13_0, hcz13_1, hfz13_0⟩ := y2 w11 BK101.out; obtain ⟨hcz14_0, hcz14_1, hfz14_0⟩ := y2 w11 BK102.out))
   go_ret
   exact ⟨ER, K2 HB GE101.out GE102.out⟩
 ·rw [if_neg c3] at H
  have c3b0 : (a0_0 == a1_0) = false := beq_eq_false_iff_ne.mpr c3
  have c3b1 : (a0_0 != a1_0) = true := bne_iff_ne.mpr c3
  obtain rfl := Option.some.inj H
  go_enter Try.func140, Try.ntmps140
  go_wp2_with (first | ((with_reducible refine gate_dst (N := 2) rfl ?_); refine box_event rfl (N := 2) rfl (cs := #[.int .i64 a0_0, .int .i64 a0_1]) (t := 139) BX ?_; intro gb101 hg w15 hbox hb; have BK101 := am (hbox); have GW101 := am (GH HB hg); have GE101 := GW101; replace HB := am (below_step (KL HB) hb); clear hb hbox hg) | ((with_reducible refine gate_dst (N := 3) rfl ?_); refine box_event rfl (N := 3) rfl (cs := #[.int .i64 a1_0, .int .i64 a1_1]) (t := 139) BX ?_; intro gb102 hg w16 hbox hb; have BK102 := am (hbox); have GW102 := am (GH1 HB GE101.out hg); have GE102 := GW102; replace HB := am (below_step (K1 HB GE101.out) hb); have NB101_102 := am (NL BK101 hg); have NB102_101 := am (NG BK101 hg); replace BK101 := am (BB BK101 hb); clear hb hbox hg; have hnb17 := NB101_102.out; have hnc17 := NB102_101.out; obtain ⟨hcz18_0, hcz18_1, hfz18_0⟩ := y2 w16 BK101.out; obtain ⟨hcz19_0, hcz19_1, hfz19_0⟩ := y2 w16 BK102.out))
  go_ret
  exact ⟨ER, K2 HB GE101.out GE102.out⟩
def laws_eqRule.f (a0_0 : Int) (a0_1 : Int) (a0_2 : Int) (a0_3 : Int) (a0_4 : Int) (a0_5 : Int) (a0_6 : Int) (a0_7 : Int) (a1_0 : Int) (a1_1 : Int) (a1_2 : Int) (a1_3 : Int) (a1_4 : Int) (a1_5 : Int) (a1_6 : Int) (a1_7 : Int) : Option (Bool) := if a0_0 = a1_0 then (if a0_1 = a1_1 then ((laws_eqBlock.f a0_2 a0_3 a1_2 a1_3).bind fun t103 => (if t103 = true then ((laws_eqBlock.f a0_4 a0_5 a1_4 a1_5).bind fun t104 => (if t104 = true then (if a0_6 = a1_6 then (if a0_7 = a1_7 then (some true) else (some false)) else (some false)) else (some false))) else (some false))) else (some false)) else (some false)
set_option maxHeartbeats 8000000 in
set_option maxRecDepth 100000 in
theorem laws_eqRule.calls (a0_0 : Int) (a0_1 : Int) (a0_2 : Int) (a0_3 : Int) (a0_4 : Int) (a0_5 : Int) (a0_6 : Int) (a0_7 : Int) (a1_0 : Int) (a1_1 : Int) (a1_2 : Int) (a1_3 : Int) (a1_4 : Int) (a1_5 : Int) (a1_6 : Int) (a1_7 : Int) (r : Bool) (w : World) (h : laws_eqRule.f a0_0 a0_1 a0_2 a0_3 a0_4 a0_5 a0_6 a0_7 a1_0 a1_1 a1_2 a1_3 a1_4 a1_5 a1_6 a1_7 = some r) :
  Calls Try.prog 112 #[.agg #[.int .i64 a0_0, .int .i64 a0_1, .int .i64 a0_2, .int .i64 a0_3, .int .i64 a0_4, .int .i64 a0_5, .int .i64 a0_6, .int .i64 a0_7], .agg #[.int .i64 a1_0, .int .i64 a1_1, .int .i64 a1_2, .int .i64 a1_3, .int .i64 a1_4, .int .i64 a1_5, .int .i64 a1_6, .int .i64 a1_7]] w fun e w' => e = .returned (.bool r) ∧ Below w.heap.size w w' := by
 have hu141 := Try.underlying141
 have hu139 := Try.underlying139
 have HB := am (Below.refl w.heap.size w)
 have H : (if a0_0 = a1_0 then (if a0_1 = a1_1 then ((laws_eqBlock.f a0_2 a0_3 a1_2 a1_3).bind fun t103 => (if t103 = true then ((laws_eqBlock.f a0_4 a0_5 a1_4 a1_5).bind fun t104 => (if t104 = true then (if a0_6 = a1_6 then (if a0_7 = a1_7 then (some true) else (some false)) else (some false)) else (some false))) else (some false))) else (some false)) else (some false)) = some r := h
 clear h
 by_cases c3 : a0_0 = a1_0
 ·rw [if_pos c3] at H
  have c3b0 : (a0_0 == a1_0) = true := beq_iff_eq.mpr c3
  have c3b1 : (a0_0 != a1_0) = false := bne_eq_false_iff_eq.mpr c3
  clear c3
  by_cases c4 : a0_1 = a1_1
  ·rw [if_pos c4] at H
   have c4b0 : (a0_1 == a1_1) = true := beq_iff_eq.mpr c4
   have c4b1 : (a0_1 != a1_1) = false := bne_eq_false_iff_eq.mpr c4
   clear c4
   replace H := Option.bind_eq_some_iff.mp H
   obtain ⟨t103, A50, H⟩ := H
   replace H : (if t103 = true then ((laws_eqBlock.f a0_4 a0_5 a1_4 a1_5).bind fun t104 => (if t104 = true then (if a0_6 = a1_6 then (if a0_7 = a1_7 then (some true) else (some false)) else (some false)) else (some false))) else (some false)) = some r := H
   have A5 := Aside0.mk A50
   clear A50
   by_cases c6 : t103 = true
   ·subst c6
    have H1 : ((laws_eqBlock.f a0_4 a0_5 a1_4 a1_5).bind fun t104 => (if t104 = true then (if a0_6 = a1_6 then (if a0_7 = a1_7 then (some true) else (some false)) else (some false)) else (some false))) = some r := by rw [if_pos rfl] at H; exact H
    clear H
    have H := H1
    clear H1
    replace H := Option.bind_eq_some_iff.mp H
    obtain ⟨t104, A70, H⟩ := H
    replace H : (if t104 = true then (if a0_6 = a1_6 then (if a0_7 = a1_7 then (some true) else (some false)) else (some false)) else (some false)) = some r := H
    have A7 := Aside0.mk A70
    clear A70
    by_cases c8 : t104 = true
    ·subst c8
     have H1 : (if a0_6 = a1_6 then (if a0_7 = a1_7 then (some true) else (some false)) else (some false)) = some r := by rw [if_pos rfl] at H; exact H
     clear H
     have H := H1
     clear H1
     by_cases c9 : a0_6 = a1_6
     ·rw [if_pos c9] at H
      have c9b0 : (a0_6 == a1_6) = true := beq_iff_eq.mpr c9
      have c9b1 : (a0_6 != a1_6) = false := bne_eq_false_iff_eq.mpr c9
      clear c9
      by_cases c10 : a0_7 = a1_7
      ·rw [if_pos c10] at H
       have c10b0 : (a0_7 == a1_7) = true := beq_iff_eq.mpr c10
       have c10b1 : (a0_7 != a1_7) = false := bne_eq_false_iff_eq.mpr c10
       clear c10
       obtain rfl := Option.some.inj H
       go_enter Try.func112, Try.ntmps112
       go_wp2_with (first | ((with_reducible refine gate_dst (N := 2) rfl ?_); refine box_event rfl (N := 2) rfl (cs := #[.int .i64 a0_0, .int .i64 a0_1, .int .i64 a0_2, .int .i64 a0_3, .int .i64 a0_4, .int .i64 a0_5, .int .i64 a0_6, .int .i64 a0_7]) (t := 141) BX ?_; intro gb101 hg w11 hbox hb; have BK101 := am (hbox); have GW101 := am (GH HB hg); have GE101 := GW101; replace HB := am (below_step (KL HB) hb); clear hb hbox hg) | ((with_reducible refine gate_dst (N := 3) rfl ?_); refine box_event rfl (N := 3) rfl (cs := #[.int .i64 a1_0, .int .i64 a1_1, .int .i64 a1_2, .int .i64 a1_3, .int .i64 a1_4, .int .i64 a1_5, .int .i64 a1_6, .int .i64 a1_7]) (t := 141) BX ?_; intro gb102 hg w12 hbox hb; have BK102 := am (hbox); have GW102 := am (GH1 HB GE101.out hg); have GE102 := GW102; replace HB := am (below_step (K1 HB GE101.out) hb); have NB101_102 := am (NL BK101 hg); have NB102_101 := am (NG BK101 hg); replace BK101 := am (BB BK101 hb); clear hb hbox hg; have hnb13 := NB101_102.out; have hnc13 := NB102_101.out; obtain ⟨hcz14_0, hcz14_1, hcz14_2, hcz14_3, hcz14_4, hcz14_5, hcz14_6, hcz14_7, hfz14_0⟩ := y8 w12 BK101.out; obtain ⟨hcz15_0, hcz15_1, hcz15_2, hcz15_3, hcz15_4, hcz15_5, hcz15_6, hcz15_7, hfz15_0⟩ := y8 w12 BK102.out) | ((with_reducible refine gate_callee (f := 140) rfl ?_); refine goesL_ (some 19) rfl rfl Try.func140 (by kernel_rfl) rfl #[.agg #[.int .i64 a0_2, .int .i64 a0_3], .agg #[.int .i64 a1_2, .int .i64 a1_3]] rfl MT ?_; (with_reducible refine (laws_eqBlock.calls a0_2 a0_3 a1_2 a1_3 true _ A5.out).mono ?_); rintro e w16 ⟨rfl, hb⟩; refine ⟨_, rfl, ?_⟩; replace BK101 := am (BB BK101 hb); replace BK102 := am (BB BK102 hb); replace HB := am (below_step (K2 HB GE101.out GE102.out) hb); (try clear hb); (try clear hb2); (try clear hk); (try clear hi); obtain ⟨hcz17_0, hcz17_1, hcz17_2, hcz17_3, hcz17_4, hcz17_5, hcz17_6, hcz17_7, hfz17_0⟩ := y8 w16 BK101.out; obtain ⟨hcz18_0, hcz18_1, hcz18_2, hcz18_3, hcz18_4, hcz18_5, hcz18_6, hcz18_7, hfz18_0⟩ := y8 w16 BK102.out) | ((with_reducible refine gate_callee (f := 140) rfl ?_); refine goesL_ (some 25) rfl rfl Try.func140 (by kernel_rfl) rfl #[.agg #[.int .i64 a0_4, .int .i64 a0_5], .agg #[.int .i64 a1_4, .int .i64 a1_5]] rfl MT ?_; (with_reducible refine (laws_eqBlock.calls a0_4 a0_5 a1_4 a1_5 true _ A7.out).mono ?_); rintro e w19 ⟨rfl, hb⟩; refine ⟨_, rfl, ?_⟩; replace BK101 := am (BB BK101 hb); replace BK102 := am (BB BK102 hb); replace HB := am (below_step (K2 HB GE101.out GE102.out) hb); (try clear hb); (try clear hb2); (try clear hk); (try clear hi); obtain ⟨hcz20_0, hcz20_1, hcz20_2, hcz20_3, hcz20_4, hcz20_5, hcz20_6, hcz20_7, hfz20_0⟩ := y8 w19 BK101.out; obtain ⟨hcz21_0, hcz21_1, hcz21_2, hcz21_3, hcz21_4, hcz21_5, hcz21_6, hcz21_7, hfz21_0⟩ := y8 w19 BK102.out))
       go_ret
       exact ⟨ER, K2 HB GE101.out GE102.out⟩
      ·rw [if_neg c10] at H
       have c10b0 : (a0_7 == a1_7) = false := beq_eq_false_iff_ne.mpr c10
       have c10b1 : (a0_7 != a1_7) = true := bne_iff_ne.mpr c10
       obtain rfl := Option.some.inj H
       go_enter Try.func112, Try.ntmps112
       go_wp2_with (first | ((with_reducible refine gate_dst (N := 2) rfl ?_); refine box_event rfl (N := 2) rfl (cs := #[.int .i64 a0_0, .int .i64 a0_1, .int .i64 a0_2, .int .i64 a0_3, .int .i64 a0_4, .int .i64 a0_5, .int .i64 a0_6, .int .i64 a0_7]) (t := 141) BX ?_; intro gb101 hg w22 hbox hb; have BK101 := am (hbox); have GW101 := am (GH HB hg); have GE101 := GW101; replace HB := am (below_step (KL HB) hb); clear hb hbox hg) | ((with_reducible refine gate_dst (N := 3) rfl ?_); refine box_event rfl (N := 3) rfl (cs := #[.int .i64 a1_0, .int .i64 a1_1, .int .i64 a1_2, .int .i64 a1_3, .int .i64 a1_4, .int .i64 a1_5, .int .i64 a1_6, .int .i64 a1_7]) (t := 141) BX ?_; intro gb102 hg w23 hbox hb; have BK102 := am (hbox); have GW102 := am (GH1 HB GE101.out hg); have GE102 := GW102; replace HB := am (below_step (K1 HB GE101.out) hb); have NB101_102 := am (NL BK101 hg); have NB102_101 := am (NG BK101 hg); replace BK101 := am (BB BK101 hb); clear hb hbox hg; have hnb24 := NB101_102.out; have hnc24 := NB102_101.out; obtain ⟨hcz25_0, hcz25_1, hcz25_2, hcz25_3, hcz25_4, hcz25_5, hcz25_6, hcz25_7, hfz25_0⟩ := y8 w23 BK101.out; obtain ⟨hcz26_0, hcz26_1, hcz26_2, hcz26_3, hcz26_4, hcz26_5, hcz26_6, hcz26_7, hfz26_0⟩ := y8 w23 BK102.out) | ((with_reducible refine gate_callee (f := 140) rfl ?_); refine goesL_ (some 19) rfl rfl Try.func140 (by kernel_rfl) rfl #[.agg #[.int .i64 a0_2, .int .i64 a0_3], .agg #[.int .i64 a1_2, .int .i64 a1_3]] rfl MT ?_; (with_reducible refine (laws_eqBlock.calls a0_2 a0_3 a1_2 a1_3 true _ A5.out).mono ?_); rintro e w27 ⟨rfl, hb⟩; refine ⟨_, rfl, ?_⟩; replace BK101 := am (BB BK101 hb); replace BK102 := am (BB BK102 hb); replace HB := am (below_step (K2 HB GE101.out GE102.out) hb); (try clear hb); (try clear hb2); (try clear hk); (try clear hi); obtain ⟨hcz28_0, hcz28_1, hcz28_2, hcz28_3, hcz28_4, hcz28_5, hcz28_6, hcz28_7, hfz28_0⟩ := y8 w27 BK101.out; obtain ⟨hcz29_0, hcz29_1, hcz29_2, hcz29_3, hcz29_4, hcz29_5, hcz29_6, hcz29_7, hfz29_0⟩ := y8 w27 BK102.out) | ((with_reducible refine gate_callee (f := 140) rfl ?_); refine goesL_ (some 25) rfl rfl Try.func140 (by kernel_rfl) rfl #[.agg #[.int .i64 a0_4, .int .i64 a0_5], .agg #[.int .i64 a1_4, .int .i64 a1_5]] rfl MT ?_; (with_reducible refine (laws_eqBlock.calls a0_4 a0_5 a1_4 a1_5 true _ A7.out).mono ?_); rintro e w30 ⟨rfl, hb⟩; refine ⟨_, rfl, ?_⟩; replace BK101 := am (BB BK101 hb); replace BK102 := am (BB BK102 hb); replace HB := am (below_step (K2 HB GE101.out GE102.out) hb); (try clear hb); (try clear hb2); (try clear hk); (try clear hi); obtain ⟨hcz31_0, hcz31_1, hcz31_2, hcz31_3, hcz31_4, hcz31_5, hcz31_6, hcz31_7, hfz31_0⟩ := y8 w30 BK101.out; obtain ⟨hcz32_0, hcz32_1, hcz32_2, hcz32_3, hcz32_4, hcz32_5, hcz32_6, hcz32_7, hfz32_0⟩ := y8 w30 BK102.out))
       go_ret
       exact ⟨ER, K2 HB GE101.out GE102.out⟩
     ·rw [if_neg c9] at H
      have c9b0 : (a0_6 == a1_6) = false := beq_eq_false_iff_ne.mpr c9
      have c9b1 : (a0_6 != a1_6) = true := bne_iff_ne.mpr c9
      obtain rfl := Option.some.inj H
      go_enter Try.func112, Try.ntmps112
      go_wp2_with (first | ((with_reducible refine gate_dst (N := 2) rfl ?_); refine box_event rfl (N := 2) rfl (cs := #[.int .i64 a0_0, .int .i64 a0_1, .int .i64 a0_2, .int .i64 a0_3, .int .i64 a0_4, .int .i64 a0_5, .int .i64 a0_6, .int .i64 a0_7]) (t := 141) BX ?_; intro gb101 hg w33 hbox hb; have BK101 := am (hbox); have GW101 := am (GH HB hg); have GE101 := GW101; replace HB := am (below_step (KL HB) hb); clear hb hbox hg) | ((with_reducible refine gate_dst (N := 3) rfl ?_); refine box_event rfl (N := 3) rfl (cs := #[.int .i64 a1_0, .int .i64 a1_1, .int .i64 a1_2, .int .i64 a1_3, .int .i64 a1_4, .int .i64 a1_5, .int .i64 a1_6, .int .i64 a1_7]) (t := 141) BX ?_; intro gb102 hg w34 hbox hb; have BK102 := am (hbox); have GW102 := am (GH1 HB GE101.out hg); have GE102 := GW102; replace HB := am (below_step (K1 HB GE101.out) hb); have NB101_102 := am (NL BK101 hg); have NB102_101 := am (NG BK101 hg); replace BK101 := am (BB BK101 hb); clear hb hbox hg; have hnb35 := NB101_102.out; have hnc35 := NB102_101.out; obtain ⟨hcz36_0, hcz36_1, hcz36_2, hcz36_3, hcz36_4, hcz36_5, hcz36_6, hcz36_7, hfz36_0⟩ := y8 w34 BK101.out; obtain ⟨hcz37_0, hcz37_1, hcz37_2, hcz37_3, hcz37_4, hcz37_5, hcz37_6, hcz37_7, hfz37_0⟩ := y8 w34 BK102.out) | ((with_reducible refine gate_callee (f := 140) rfl ?_); refine goesL_ (some 19) rfl rfl Try.func140 (by kernel_rfl) rfl #[.agg #[.int .i64 a0_2, .int .i64 a0_3], .agg #[.int .i64 a1_2, .int .i64 a1_3]] rfl MT ?_; (with_reducible refine (laws_eqBlock.calls a0_2 a0_3 a1_2 a1_3 true _ A5.out).mono ?_); rintro e w38 ⟨rfl, hb⟩; refine ⟨_, rfl, ?_⟩; replace BK101 := am (BB BK101 hb); replace BK102 := am (BB BK102 hb); replace HB := am (below_step (K2 HB GE101.out GE102.out) hb); (try clear hb); (try clear hb2); (try clear hk); (try clear hi); obtain ⟨hcz39_0, hcz39_1, hcz39_2, hcz39_3, hcz39_4, hcz39_5, hcz39_6, hcz39_7, hfz39_0⟩ := y8 w38 BK101.out; obtain ⟨hcz40_0, hcz40_1, hcz40_2, hcz40_3, hcz40_4, hcz40_5, hcz40_6, hcz40_7, hfz40_0⟩ := y8 w38 BK102.out) | ((with_reducible refine gate_callee (f := 140) rfl ?_); refine goesL_ (some 25) rfl rfl Try.func140 (by kernel_rfl) rfl #[.agg #[.int .i64 a0_4, .int .i64 a0_5], .agg #[.int .i64 a1_4, .int .i64 a1_5]] rfl MT ?_; (with_reducible refine (laws_eqBlock.calls a0_4 a0_5 a1_4 a1_5 true _ A7.out).mono ?_); rintro e w41 ⟨rfl, hb⟩; refine ⟨_, rfl, ?_⟩; replace BK101 := am (BB BK101 hb); replace BK102 := am (BB BK102 hb); replace HB := am (below_step (K2 HB GE101.out GE102.out) hb); (try clear hb); (try clear hb2); (try clear hk); (try clear hi); obtain ⟨hcz42_0, hcz42_1, hcz42_2, hcz42_3, hcz42_4, hcz42_5, hcz42_6, hcz42_7, hfz42_0⟩ := y8 w41 BK101.out; obtain ⟨hcz43_0, hcz43_1, hcz43_2, hcz43_3, hcz43_4, hcz43_5, hcz43_6, hcz43_7, hfz43_0⟩ := y8 w41 BK102.out))
      go_ret
      exact ⟨ER, K2 HB GE101.out GE102.out⟩
    ·replace c8 := Bool.eq_false_iff.mpr c8
     subst c8
     have H1 : (some false) = some r := by rw [if_neg (show ¬ (false = true) by decide)] at H; exact H
     clear H
     have H := H1
     clear H1
     obtain rfl := Option.some.inj H
     go_enter Try.func112, Try.ntmps112
     go_wp2_with (first | ((with_reducible refine gate_dst (N := 2) rfl ?_); refine box_event rfl (N := 2) rfl (cs := #[.int .i64 a0_0, .int .i64 a0_1, .int .i64 a0_2, .int .i64 a0_3, .int .i64 a0_4, .int .i64 a0_5, .int .i64 a0_6, .int .i64 a0_7]) (t := 141) BX ?_; intro gb101 hg w44 hbox hb; have BK101 := am (hbox); have GW101 := am (GH HB hg); have GE101 := GW101; replace HB := am (below_step (KL HB) hb); clear hb hbox hg) | ((with_reducible refine gate_dst (N := 3) rfl ?_); refine box_event rfl (N := 3) rfl (cs := #[.int .i64 a1_0, .int .i64 a1_1, .int .i64 a1_2, .int .i64 a1_3, .int .i64 a1_4, .int .i64 a1_5, .int .i64 a1_6, .int .i64 a1_7]) (t := 141) BX ?_; intro gb102 hg w45 hbox hb; have BK102 := am (hbox); have GW102 := am (GH1 HB GE101.out hg); have GE102 := GW102; replace HB := am (below_step (K1 HB GE101.out) hb); have NB101_102 := am (NL BK101 hg); have NB102_101 := am (NG BK101 hg); replace BK101 := am (BB BK101 hb); clear hb hbox hg; have hnb46 := NB101_102.out; have hnc46 := NB102_101.out; obtain ⟨hcz47_0, hcz47_1, hcz47_2, hcz47_3, hcz47_4, hcz47_5, hcz47_6, hcz47_7, hfz47_0⟩ := y8 w45 BK101.out; obtain ⟨hcz48_0, hcz48_1, hcz48_2, hcz48_3, hcz48_4, hcz48_5, hcz48_6, hcz48_7, hfz48_0⟩ := y8 w45 BK102.out) | ((with_reducible refine gate_callee (f := 140) rfl ?_); refine goesL_ (some 19) rfl rfl Try.func140 (by kernel_rfl) rfl #[.agg #[.int .i64 a0_2, .int .i64 a0_3], .agg #[.int .i64 a1_2, .int .i64 a1_3]] rfl MT ?_; (with_reducible refine (laws_eqBlock.calls a0_2 a0_3 a1_2 a1_3 true _ A5.out).mono ?_); rintro e w49 ⟨rfl, hb⟩; refine ⟨_, rfl, ?_⟩; replace BK101 := am (BB BK101 hb); replace BK102 := am (BB BK102 hb); replace HB := am (below_step (K2 HB GE101.out GE102.out) hb); (try clear hb); (try clear hb2); (try clear hk); (try clear hi); obtain ⟨hcz50_0, hcz50_1, hcz50_2, hcz50_3, hcz50_4, hcz50_5, hcz50_6, hcz50_7, hfz50_0⟩ := y8 w49 BK101.out; obtain ⟨hcz51_0, hcz51_1, hcz51_2, hcz51_3, hcz51_4, hcz51_5, hcz51_6, hcz51_7, hfz51_0⟩ := y8 w49 BK102.out) | ((with_reducible refine gate_callee (f := 140) rfl ?_); refine goesL_ (some 25) rfl rfl Try.func140 (by kernel_rfl) rfl #[.agg #[.int .i64 a0_4, .int .i64 a0_5], .agg #[.int .i64 a1_4, .int .i64 a1_5]] rfl MT ?_; (with_reducible refine (laws_eqBlock.calls a0_4 a0_5 a1_4 a1_5 false _ A7.out).mono ?_); rintro e w52 ⟨rfl, hb⟩; refine ⟨_, rfl, ?_⟩; replace BK101 := am (BB BK101 hb); replace BK102 := am (BB BK102 hb); replace HB := am (below_step (K2 HB GE101.out GE102.out) hb); (try clear hb); (try clear hb2); (try clear hk); (try clear hi)))
     go_ret
     exact ⟨ER, K2 HB GE101.out GE102.out⟩
   ·replace c6 := Bool.eq_false_iff.mpr c6
    subst c6
    have H1 : (some false) = some r := by rw [if_neg (show ¬ (false = true) by decide)] at H; exact H
    clear H
    have H := H1
    clear H1
    obtain rfl := Option.some.inj H
    go_enter Try.func112, Try.ntmps112
    go_wp2_with (first | ((with_reducible refine gate_dst (N := 2) rfl ?_); refine box_event rfl (N := 2) rfl (cs := #[.int .i64 a0_0, .int .i64 a0_1, .int .i64 a0_2, .int .i64 a0_3, .int .i64 a0_4, .int .i64 a0_5, .int .i64 a0_6, .int .i64 a0_7]) (t := 141) BX ?_; intro gb101 hg w53 hbox hb; have BK101 := am (hbox); have GW101 := am (GH HB hg); have GE101 := GW101; replace HB := am (below_step (KL HB) hb); clear hb hbox hg) | ((with_reducible refine gate_dst (N := 3) rfl ?_); refine box_event rfl (N := 3) rfl (cs := #[.int .i64 a1_0, .int .i64 a1_1, .int .i64 a1_2, .int .i64 a1_3, .int .i64 a1_4, .int .i64 a1_5, .int .i64 a1_6, .int .i64 a1_7]) (t := 141) BX ?_; intro gb102 hg w54 hbox hb; have BK102 := am (hbox); have GW102 := am (GH1 HB GE101.out hg); have GE102 := GW102; replace HB := am (below_step (K1 HB GE101.out) hb); have NB101_102 := am (NL BK101 hg); have NB102_101 := am (NG BK101 hg); replace BK101 := am (BB BK101 hb); clear hb hbox hg; have hnb55 := NB101_102.out; have hnc55 := NB102_101.out; obtain ⟨hcz56_0, hcz56_1, hcz56_2, hcz56_3, hcz56_4, hcz56_5, hcz56_6, hcz56_7, hfz56_0⟩ := y8 w54 BK101.out; obtain ⟨hcz57_0, hcz57_1, hcz57_2, hcz57_3, hcz57_4, hcz57_5, hcz57_6, hcz57_7, hfz57_0⟩ := y8 w54 BK102.out) | ((with_reducible refine gate_callee (f := 140) rfl ?_); refine goesL_ (some 19) rfl rfl Try.func140 (by kernel_rfl) rfl #[.agg #[.int .i64 a0_2, .int .i64 a0_3], .agg #[.int .i64 a1_2, .int .i64 a1_3]] rfl MT ?_; (with_reducible refine (laws_eqBlock.calls a0_2 a0_3 a1_2 a1_3 false _ A5.out).mono ?_); rintro e w58 ⟨rfl, hb⟩; refine ⟨_, rfl, ?_⟩; replace BK101 := am (BB BK101 hb); replace BK102 := am (BB BK102 hb); replace HB := am (below_step (K2 HB GE101.out GE102.out) hb); (try clear hb); (try clear hb2); (try clear hk); (try clear hi)))
    go_ret
    exact ⟨ER, K2 HB GE101.out GE102.out⟩
  ·rw [if_neg c4] at H
   have c4b0 : (a0_1 == a1_1) = false := beq_eq_false_iff_ne.mpr c4
   have c4b1 : (a0_1 != a1_1) = true := bne_iff_ne.mpr c4
   obtain rfl := Option.some.inj H
   go_enter Try.func112, Try.ntmps112
   go_wp2_with (first | ((with_reducible refine gate_dst (N := 2) rfl ?_); refine box_event rfl (N := 2) rfl (cs := #[.int .i64 a0_0, .int .i64 a0_1, .int .i64 a0_2, .int .i64 a0_3, .int .i64 a0_4, .int .i64 a0_5, .int .i64 a0_6, .int .i64 a0_7]) (t := 141) BX ?_; intro gb101 hg w59 hbox hb; have BK101 := am (hbox); have GW101 := am (GH HB hg); have GE101 := GW101; replace HB := am (below_step (KL HB) hb); clear hb hbox hg) | ((with_reducible refine gate_dst (N := 3) rfl ?_); refine box_event rfl (N := 3) rfl (cs := #[.int .i64 a1_0, .int .i64 a1_1, .int .i64 a1_2, .int .i64 a1_3, .int .i64 a1_4, .int .i64 a1_5, .int .i64 a1_6, .int .i64 a1_7]) (t := 141) BX ?_; intro gb102 hg w60 hbox hb; have BK102 := am (hbox); have GW102 := am (GH1 HB GE101.out hg); have GE102 := GW102; replace HB := am (below_step (K1 HB GE101.out) hb); have NB101_102 := am (NL BK101 hg); have NB102_101 := am (NG BK101 hg); replace BK101 := am (BB BK101 hb); clear hb hbox hg; have hnb61 := NB101_102.out; have hnc61 := NB102_101.out; obtain ⟨hcz62_0, hcz62_1, hcz62_2, hcz62_3, hcz62_4, hcz62_5, hcz62_6, hcz62_7, hfz62_0⟩ := y8 w60 BK101.out; obtain ⟨hcz63_0, hcz63_1, hcz63_2, hcz63_3, hcz63_4, hcz63_5, hcz63_6, hcz63_7, hfz63_0⟩ := y8 w60 BK102.out))
   go_ret
   exact ⟨ER, K2 HB GE101.out GE102.out⟩
 ·rw [if_neg c3] at H
  have c3b0 : (a0_0 == a1_0) = false := beq_eq_false_iff_ne.mpr c3
  have c3b1 : (a0_0 != a1_0) = true := bne_iff_ne.mpr c3
  obtain rfl := Option.some.inj H
  go_enter Try.func112, Try.ntmps112
  go_wp2_with (first | ((with_reducible refine gate_dst (N := 2) rfl ?_); refine box_event rfl (N := 2) rfl (cs := #[.int .i64 a0_0, .int .i64 a0_1, .int .i64 a0_2, .int .i64 a0_3, .int .i64 a0_4, .int .i64 a0_5, .int .i64 a0_6, .int .i64 a0_7]) (t := 141) BX ?_; intro gb101 hg w64 hbox hb; have BK101 := am (hbox); have GW101 := am (GH HB hg); have GE101 := GW101; replace HB := am (below_step (KL HB) hb); clear hb hbox hg) | ((with_reducible refine gate_dst (N := 3) rfl ?_); refine box_event rfl (N := 3) rfl (cs := #[.int .i64 a1_0, .int .i64 a1_1, .int .i64 a1_2, .int .i64 a1_3, .int .i64 a1_4, .int .i64 a1_5, .int .i64 a1_6, .int .i64 a1_7]) (t := 141) BX ?_; intro gb102 hg w65 hbox hb; have BK102 := am (hbox); have GW102 := am (GH1 HB GE101.out hg); have GE102 := GW102; replace HB := am (below_step (K1 HB GE101.out) hb); have NB101_102 := am (NL BK101 hg); have NB102_101 := am (NG BK101 hg); replace BK101 := am (BB BK101 hb); clear hb hbox hg; have hnb66 := NB101_102.out; have hnc66 := NB102_101.out; obtain ⟨hcz67_0, hcz67_1, hcz67_2, hcz67_3, hcz67_4, hcz67_5, hcz67_6, hcz67_7, hfz67_0⟩ := y8 w65 BK101.out; obtain ⟨hcz68_0, hcz68_1, hcz68_2, hcz68_3, hcz68_4, hcz68_5, hcz68_6, hcz68_7, hfz68_0⟩ := y8 w65 BK102.out))
  go_ret
  exact ⟨ER, K2 HB GE101.out GE102.out⟩
def laws_eqRuleS.l0 : Nat → List (S141) → List (S141) → Int → Option (Bool)
 | 0, _, _, _ => none
 | k + 1, x0, x1, x5 => if x5 < (x0.length : Int) then (if 0 ≤ x5 then (if x5 < (x1.length : Int) then ((laws_eqRule.f ((rd_T141 x0 x5).f0) ((rd_T141 x0 x5).f1) ((rd_T141 x0 x5).f2.f0) ((rd_T141 x0 x5).f2.f1) ((rd_T141 x0 x5).f3.f0) ((rd_T141 x0 x5).f3.f1) ((rd_T141 x0 x5).f4) ((rd_T141 x0 x5).f5) ((rd_T141 x1 x5).f0) ((rd_T141 x1 x5).f1) ((rd_T141 x1 x5).f2.f0) ((rd_T141 x1 x5).f2.f1) ((rd_T141 x1 x5).f3.f0) ((rd_T141 x1 x5).f3.f1) ((rd_T141 x1 x5).f4) ((rd_T141 x1 x5).f5)).bind fun t103 => (if t103 = true then (laws_eqRuleS.l0 k x0 x1 (wrap64 (x5 + 1))) else (some false))) else (none)) else (none)) else (some true)
def laws_eqRuleS.f (k : Nat) (l0 : List (S141)) (l1 : List (S141)) : Option (Bool) := if (l0.length : Int) = (l1.length : Int) then (laws_eqRuleS.l0 k l0 l1 0) else (some false)
def laws_eqRuleS.T6 : Bool × List (List Nat × List Nat) := (true, [([], []), ([], []), ([0, 1], [0, 1]), ([2], [2]), ([], []), ([], []), ([4, 5], [4, 5]), ([6], [6]), ([3, 7], [3, 7]), ([8], [8])])
def laws_eqRuleS.B6 : List Nat := [0, 0, 3, 7, 0, 0, 48, 112, 255, 511]
theorem laws_eqRuleS.tab6 : rtab .any (opsOf Try.f69 6) = laws_eqRuleS.T6 := by kernel_rfl
theorem laws_eqRuleS.bits6 : waitsOk laws_eqRuleS.T6.2 laws_eqRuleS.B6 = true := by kernel_rfl
set_option maxHeartbeats 8000000 in
set_option maxRecDepth 100000 in
theorem laws_eqRuleS.calls (k : Nat) (A0 : Option Addr) (c0 : Nat) (l0 : List (S141)) (A1 : Option Addr) (c1 : Nat) (l1 : List (S141)) (r : Bool) (w : World) (hr0 : Kd.C k141 w A0 l0.length l0) (hc0 : l0.length ≤ c0) (hr1 : Kd.C k141 w A1 l1.length l1) (hc1 : l1.length ≤ c1) (h : laws_eqRuleS.f k l0 l1 = some r) :
  Calls Try.prog 69 #[.slice A0 l0.length c0, .slice A1 l1.length c1] w fun e w' => e = .returned (.bool r) ∧ Below w.heap.size w w' := by
 have hu141 := Try.underlying141
 have HR0 := Aside0.mk hr0
 have HC0 := Aside0.mk hc0
 clear hr0 hc0
 have HR1 := Aside0.mk hr1
 have HC1 := Aside0.mk hc1
 clear hr1 hc1
 have HB := am (Below.refl w.heap.size w)
 have H : (if (l0.length : Int) = (l1.length : Int) then (laws_eqRuleS.l0 k l0 l1 0) else (some false)) = some r := h
 clear h
 by_cases c3 : (l0.length : Int) = (l1.length : Int)
 ·rw [if_pos c3] at H
  have c3b0 : ((l0.length : Int) == (l1.length : Int)) = true := beq_iff_eq.mpr c3
  have c3b1 : ((l0.length : Int) != (l1.length : Int)) = false := bne_eq_false_iff_eq.mpr c3
  have c3b2 : (l0.length == l1.length) = true := by first | simpa using c3 | (simp at c3 ⊢; omega)
  clear c3
  have H' := Aside0.mk H
  clear H
  go_enter Try.func69, Try.ntmps69
  go_wp2
  go_loopg [5] k (fun kq v5 w' => ∃ (x5_1 : Int), v5 = .int .i64 x5_1 ∧ Aside0 (laws_eqRuleS.l0 kq l0 l1 x5_1 = some r) ∧ Aside0 (kq ≤ k) ∧ Aside0 (Below w.heap.size w w'))
  case atStart => exact ⟨(0), (by first | rfl | (simp; done) | (simp [*]; done)), H', ⟨Nat.le_refl _⟩, ⟨KL HB⟩⟩
  case round =>
   clear H'
   try clear c1
   try clear p2
   try clear c3
   try clear c3b0
   try clear c3b1
   try clear c3b2
   obtain ⟨x5_1, rfl, HA, HK1, HB⟩ := hrel
   cases gk with
   | zero => exact absurd HA.out (by simp [laws_eqRuleS.l0])
   | succ k1 =>
    have H := HA.out
    clear HA
    simp only [laws_eqRuleS.l0] at H
    by_cases c4 : x5_1 < (l0.length : Int)
    ·rw [if_pos c4] at H
     have c4b0 : decide (x5_1 < (l0.length : Int)) = true := decide_eq_true c4
     clear c4
     by_cases c5 : 0 ≤ x5_1
     ·rw [if_pos c5] at H
      have c5b0 : decide (0 ≤ x5_1) = true := decide_eq_true c5
      clear c5
      by_cases c6 : x5_1 < (l1.length : Int)
      ·rw [if_pos c6] at H
       have c6b0 : decide (x5_1 < (l1.length : Int)) = true := decide_eq_true c6
       clear c6
       replace H := Option.bind_eq_some_iff.mp H
       obtain ⟨t103, A70, H⟩ := H
       replace H : (if t103 = true then (laws_eqRuleS.l0 k1 l0 l1 (wrap64 (x5_1 + 1))) else (some false)) = some r := H
       have A7 := Aside0.mk A70
       clear A70
       by_cases c8 : t103 = true
       ·subst c8
        have H1 : (laws_eqRuleS.l0 k1 l0 l1 (wrap64 (x5_1 + 1))) = some r := by rw [if_pos rfl] at H; exact H
        clear H
        have H := H1
        clear H1
        have H' := Aside0.mk H
        clear H
        try go_wp2
        replace HB := am (below_drew1 HB.out)
        have p101 : 0 ≤ (x5_1 : Int) := OD
        have q101 : x5_1 < (l0.length : Int) := OD
        obtain ⟨ad101, e101, hx101_0, hx101_1, hx101_2, hx101_3, hx101_4, hx101_5, hx101_6, hx101_7⟩ := at_T141 HR0.out x5_1 p101 q101
        have hw101_7 := hx101_7
        have hw101_6 := hx101_6
        have hw101_5 := hx101_5
        have hw101_4 := hx101_4
        have hw101_3 := hx101_3
        have hw101_2 := hx101_2
        have hw101_1 := hx101_1
        have hw101_0 := hx101_0
        cases e101
        replace hx101_0 := CX HB.out hx101_0
        replace hx101_1 := CX HB.out hx101_1
        replace hx101_2 := CX HB.out hx101_2
        replace hx101_3 := CX HB.out hx101_3
        replace hx101_4 := CX HB.out hx101_4
        replace hx101_5 := CX HB.out hx101_5
        replace hx101_6 := CX HB.out hx101_6
        replace hx101_7 := CX HB.out hx101_7
        replace p101 := eq_true p101
        replace q101 := eq_true q101
        have p102 : 0 ≤ (x5_1 : Int) := OD
        have q102 : x5_1 < (l1.length : Int) := OD
        obtain ⟨ad102, e102, hx102_0, hx102_1, hx102_2, hx102_3, hx102_4, hx102_5, hx102_6, hx102_7⟩ := at_T141 HR1.out x5_1 p102 q102
        have hw102_7 := hx102_7
        have hw102_6 := hx102_6
        have hw102_5 := hx102_5
        have hw102_4 := hx102_4
        have hw102_3 := hx102_3
        have hw102_2 := hx102_2
        have hw102_1 := hx102_1
        have hw102_0 := hx102_0
        cases e102
        replace hx102_0 := CX HB.out hx102_0
        replace hx102_1 := CX HB.out hx102_1
        replace hx102_2 := CX HB.out hx102_2
        replace hx102_3 := CX HB.out hx102_3
        replace hx102_4 := CX HB.out hx102_4
        replace hx102_5 := CX HB.out hx102_5
        replace hx102_6 := CX HB.out hx102_6
        replace hx102_7 := CX HB.out hx102_7
        replace p102 := eq_true p102
        replace q102 := eq_true q102
        refine start_ (n := 10) (S := fun w' => w'.cell? (ad101.add ((x5_1).toNat * 8)) = some (.int .i64 ((rd_T141 l0 x5_1).f0)) ∧ w'.cell? ⟨(ad101.add ((x5_1).toNat * 8)).block, (ad101.add ((x5_1).toNat * 8)).off + 1, none⟩ = some (.int .i64 ((rd_T141 l0 x5_1).f1)) ∧ w'.cell? ⟨(ad101.add ((x5_1).toNat * 8)).block, (ad101.add ((x5_1).toNat * 8)).off + 2, none⟩ = some (.int .i64 ((rd_T141 l0 x5_1).f2.f0)) ∧ w'.cell? ⟨(ad101.add ((x5_1).toNat * 8)).block, (ad101.add ((x5_1).toNat * 8)).off + 3, none⟩ = some (.int .i64 ((rd_T141 l0 x5_1).f2.f1)) ∧ w'.cell? ⟨(ad101.add ((x5_1).toNat * 8)).block, (ad101.add ((x5_1).toNat * 8)).off + 4, none⟩ = some (.int .i64 ((rd_T141 l0 x5_1).f3.f0)) ∧ w'.cell? ⟨(ad101.add ((x5_1).toNat * 8)).block, (ad101.add ((x5_1).toNat * 8)).off + 5, none⟩ = some (.int .i64 ((rd_T141 l0 x5_1).f3.f1)) ∧ w'.cell? ⟨(ad101.add ((x5_1).toNat * 8)).block, (ad101.add ((x5_1).toNat * 8)).off + 6, none⟩ = some (.int .i64 ((rd_T141 l0 x5_1).f4)) ∧ w'.cell? ⟨(ad101.add ((x5_1).toNat * 8)).block, (ad101.add ((x5_1).toNat * 8)).off + 7, none⟩ = some (.int .i64 ((rd_T141 l0 x5_1).f5)) ∧ w'.cell? (ad102.add ((x5_1).toNat * 8)) = some (.int .i64 ((rd_T141 l1 x5_1).f0)) ∧ w'.cell? ⟨(ad102.add ((x5_1).toNat * 8)).block, (ad102.add ((x5_1).toNat * 8)).off + 1, none⟩ = some (.int .i64 ((rd_T141 l1 x5_1).f1)) ∧ w'.cell? ⟨(ad102.add ((x5_1).toNat * 8)).block, (ad102.add ((x5_1).toNat * 8)).off + 2, none⟩ = some (.int .i64 ((rd_T141 l1 x5_1).f2.f0)) ∧ w'.cell? ⟨(ad102.add ((x5_1).toNat * 8)).block, (ad102.add ((x5_1).toNat * 8)).off + 3, none⟩ = some (.int .i64 ((rd_T141 l1 x5_1).f2.f1)) ∧ w'.cell? ⟨(ad102.add ((x5_1).toNat * 8)).block, (ad102.add ((x5_1).toNat * 8)).off + 4, none⟩ = some (.int .i64 ((rd_T141 l1 x5_1).f3.f0)) ∧ w'.cell? ⟨(ad102.add ((x5_1).toNat * 8)).block, (ad102.add ((x5_1).toNat * 8)).off + 5, none⟩ = some (.int .i64 ((rd_T141 l1 x5_1).f3.f1)) ∧ w'.cell? ⟨(ad102.add ((x5_1).toNat * 8)).block, (ad102.add ((x5_1).toNat * 8)).off + 6, none⟩ = some (.int .i64 ((rd_T141 l1 x5_1).f4)) ∧ w'.cell? ⟨(ad102.add ((x5_1).toNat * 8)).block, (ad102.add ((x5_1).toNat * 8)).off + 7, none⟩ = some (.int .i64 ((rd_T141 l1 x5_1).f5))) (ds := []) (tf 0 10) (by kernel_rfl) rfl rfl ⟨(CY HB.out hw101_0), (CY HB.out hw101_1), (CY HB.out hw101_2), (CY HB.out hw101_3), (CY HB.out hw101_4), (CY HB.out hw101_5), (CY HB.out hw101_6), (CY HB.out hw101_7), (CY HB.out hw102_0), (CY HB.out hw102_1), (CY HB.out hw102_2), (CY HB.out hw102_3), (CY HB.out hw102_4), (CY HB.out hw102_5), (CY HB.out hw102_6), (CY HB.out hw102_7)⟩ (fun hHeld => ?_); refine with_tabW laws_eqRuleS.tab6 laws_eqRuleS.bits6 (fun HT_ HW_ => ?_)
        generalize wr.drew = w9 at HB hx101_0 hx101_1 hx101_2 hx101_3 hx101_4 hx101_5 hx101_6 hx101_7 hx102_0 hx102_1 hx102_2 hx102_3 hx102_4 hx102_5 hx102_6 hx102_7 hHeld ⊢
        refine pv HT_ 0 17 (tf 1 9) ?_
        refine pv HT_ 1 18 (tf 2 8) ?_
        refine pv HT_ 2 19 (tf 3 7) ?_
        refine pv HT_ 4 21 (tr [3, 1, 1, 5]) ?_
        refine pv HT_ 5 22 (tr [3, 1, 2, 4]) ?_
        refine pv HT_ 6 23 (tr [3, 1, 3, 3]) ?_
        refine tk 3 (some 20) (tf 7 3) (take_ofW HT_.out HW_.out (by kernel_rfl)) hHeld ?_
        refine tk 7 (some 24) (tf 8 2) (take_ofW HT_.out HW_.out (by kernel_rfl)) hHeld ?_
        refine one_ (i := 8) (N := some 25) (tf 9 1) rfl rfl (one_of HT_.out (by kernel_rfl)) (by decide) (fun K hK => ?_)
        refine goes_ Try.func112 (by kernel_rfl) rfl #[.agg #[.int .i64 ((rd_T141 l0 x5_1).f0), .int .i64 ((rd_T141 l0 x5_1).f1), .int .i64 ((rd_T141 l0 x5_1).f2.f0), .int .i64 ((rd_T141 l0 x5_1).f2.f1), .int .i64 ((rd_T141 l0 x5_1).f3.f0), .int .i64 ((rd_T141 l0 x5_1).f3.f1), .int .i64 ((rd_T141 l0 x5_1).f4), .int .i64 ((rd_T141 l0 x5_1).f5)], .agg #[.int .i64 ((rd_T141 l1 x5_1).f0), .int .i64 ((rd_T141 l1 x5_1).f1), .int .i64 ((rd_T141 l1 x5_1).f2.f0), .int .i64 ((rd_T141 l1 x5_1).f2.f1), .int .i64 ((rd_T141 l1 x5_1).f3.f0), .int .i64 ((rd_T141 l1 x5_1).f3.f1), .int .i64 ((rd_T141 l1 x5_1).f4), .int .i64 ((rd_T141 l1 x5_1).f5)]] (by rfl) rfl rfl MT ?_
        with_reducible refine (laws_eqRule.calls ((rd_T141 l0 x5_1).f0) ((rd_T141 l0 x5_1).f1) ((rd_T141 l0 x5_1).f2.f0) ((rd_T141 l0 x5_1).f2.f1) ((rd_T141 l0 x5_1).f3.f0) ((rd_T141 l0 x5_1).f3.f1) ((rd_T141 l0 x5_1).f4) ((rd_T141 l0 x5_1).f5) ((rd_T141 l1 x5_1).f0) ((rd_T141 l1 x5_1).f1) ((rd_T141 l1 x5_1).f2.f0) ((rd_T141 l1 x5_1).f2.f1) ((rd_T141 l1 x5_1).f3.f0) ((rd_T141 l1 x5_1).f3.f1) ((rd_T141 l1 x5_1).f4) ((rd_T141 l1 x5_1).f5) true _ A7.out).mono ?_
        rintro e w10 ⟨rfl, hb⟩
        refine ⟨_, rfl, ?_⟩
        replace HB := am (below_step (KL HB) hb)
        (try clear hb)
        (try clear hb2)
        (try clear hk)
        (try clear hi)
        refine hK.out _ _ ⟨(CY HB.out hw101_0), (CY HB.out hw101_1), (CY HB.out hw101_2), (CY HB.out hw101_3), (CY HB.out hw101_4), (CY HB.out hw101_5), (CY HB.out hw101_6), (CY HB.out hw101_7), (CY HB.out hw102_0), (CY HB.out hw102_1), (CY HB.out hw102_2), (CY HB.out hw102_3), (CY HB.out hw102_4), (CY HB.out hw102_5), (CY HB.out hw102_6), (CY HB.out hw102_7)⟩ (fun hHeld => ?_)
        clear hK K
        refine norm_ (a' := ?_) ?_ ?_
        rotate_left
        ·show Act.put _ (some 25) _ = _
         simp only [Act.put, List.setIfInBounds_toArray, List.set_cons_zero, List.set_cons_succ, i64_w, i32_w]
         rfl
        refine pv HT_ 9 26 (tf 10 0) ?_
        refine done_ (done_of HT_.out (by kernel_rfl)) ?_
        try go_wp2
        go_roundg k1
        case measure => have := HK1.out; omega
        case rel => exact ⟨(wrap64 (x5_1 + 1)), (by first | rfl | (simp; done) | (simp [*]; done)), H', ⟨by have := HK1.out; omega⟩, ⟨KL HB⟩⟩
       ·replace c8 := Bool.eq_false_iff.mpr c8
        subst c8
        have H1 : (some false) = some r := by rw [if_neg (show ¬ (false = true) by decide)] at H; exact H
        clear H
        have H := H1
        clear H1
        obtain rfl := Option.some.inj H
        try go_wp2
        replace HB := am (below_drew1 HB.out)
        have p101 : 0 ≤ (x5_1 : Int) := OD
        have q101 : x5_1 < (l0.length : Int) := OD
        obtain ⟨ad101, e101, hx101_0, hx101_1, hx101_2, hx101_3, hx101_4, hx101_5, hx101_6, hx101_7⟩ := at_T141 HR0.out x5_1 p101 q101
        have hw101_7 := hx101_7
        have hw101_6 := hx101_6
        have hw101_5 := hx101_5
        have hw101_4 := hx101_4
        have hw101_3 := hx101_3
        have hw101_2 := hx101_2
        have hw101_1 := hx101_1
        have hw101_0 := hx101_0
        cases e101
        replace hx101_0 := CX HB.out hx101_0
        replace hx101_1 := CX HB.out hx101_1
        replace hx101_2 := CX HB.out hx101_2
        replace hx101_3 := CX HB.out hx101_3
        replace hx101_4 := CX HB.out hx101_4
        replace hx101_5 := CX HB.out hx101_5
        replace hx101_6 := CX HB.out hx101_6
        replace hx101_7 := CX HB.out hx101_7
        replace p101 := eq_true p101
        replace q101 := eq_true q101
        have p102 : 0 ≤ (x5_1 : Int) := OD
        have q102 : x5_1 < (l1.length : Int) := OD
        obtain ⟨ad102, e102, hx102_0, hx102_1, hx102_2, hx102_3, hx102_4, hx102_5, hx102_6, hx102_7⟩ := at_T141 HR1.out x5_1 p102 q102
        have hw102_7 := hx102_7
        have hw102_6 := hx102_6
        have hw102_5 := hx102_5
        have hw102_4 := hx102_4
        have hw102_3 := hx102_3
        have hw102_2 := hx102_2
        have hw102_1 := hx102_1
        have hw102_0 := hx102_0
        cases e102
        replace hx102_0 := CX HB.out hx102_0
        replace hx102_1 := CX HB.out hx102_1
        replace hx102_2 := CX HB.out hx102_2
        replace hx102_3 := CX HB.out hx102_3
        replace hx102_4 := CX HB.out hx102_4
        replace hx102_5 := CX HB.out hx102_5
        replace hx102_6 := CX HB.out hx102_6
        replace hx102_7 := CX HB.out hx102_7
        replace p102 := eq_true p102
        replace q102 := eq_true q102
        refine start_ (n := 10) (S := fun w' => w'.cell? (ad101.add ((x5_1).toNat * 8)) = some (.int .i64 ((rd_T141 l0 x5_1).f0)) ∧ w'.cell? ⟨(ad101.add ((x5_1).toNat * 8)).block, (ad101.add ((x5_1).toNat * 8)).off + 1, none⟩ = some (.int .i64 ((rd_T141 l0 x5_1).f1)) ∧ w'.cell? ⟨(ad101.add ((x5_1).toNat * 8)).block, (ad101.add ((x5_1).toNat * 8)).off + 2, none⟩ = some (.int .i64 ((rd_T141 l0 x5_1).f2.f0)) ∧ w'.cell? ⟨(ad101.add ((x5_1).toNat * 8)).block, (ad101.add ((x5_1).toNat * 8)).off + 3, none⟩ = some (.int .i64 ((rd_T141 l0 x5_1).f2.f1)) ∧ w'.cell? ⟨(ad101.add ((x5_1).toNat * 8)).block, (ad101.add ((x5_1).toNat * 8)).off + 4, none⟩ = some (.int .i64 ((rd_T141 l0 x5_1).f3.f0)) ∧ w'.cell? ⟨(ad101.add ((x5_1).toNat * 8)).block, (ad101.add ((x5_1).toNat * 8)).off + 5, none⟩ = some (.int .i64 ((rd_T141 l0 x5_1).f3.f1)) ∧ w'.cell? ⟨(ad101.add ((x5_1).toNat * 8)).block, (ad101.add ((x5_1).toNat * 8)).off + 6, none⟩ = some (.int .i64 ((rd_T141 l0 x5_1).f4)) ∧ w'.cell? ⟨(ad101.add ((x5_1).toNat * 8)).block, (ad101.add ((x5_1).toNat * 8)).off + 7, none⟩ = some (.int .i64 ((rd_T141 l0 x5_1).f5)) ∧ w'.cell? (ad102.add ((x5_1).toNat * 8)) = some (.int .i64 ((rd_T141 l1 x5_1).f0)) ∧ w'.cell? ⟨(ad102.add ((x5_1).toNat * 8)).block, (ad102.add ((x5_1).toNat * 8)).off + 1, none⟩ = some (.int .i64 ((rd_T141 l1 x5_1).f1)) ∧ w'.cell? ⟨(ad102.add ((x5_1).toNat * 8)).block, (ad102.add ((x5_1).toNat * 8)).off + 2, none⟩ = some (.int .i64 ((rd_T141 l1 x5_1).f2.f0)) ∧ w'.cell? ⟨(ad102.add ((x5_1).toNat * 8)).block, (ad102.add ((x5_1).toNat * 8)).off + 3, none⟩ = some (.int .i64 ((rd_T141 l1 x5_1).f2.f1)) ∧ w'.cell? ⟨(ad102.add ((x5_1).toNat * 8)).block, (ad102.add ((x5_1).toNat * 8)).off + 4, none⟩ = some (.int .i64 ((rd_T141 l1 x5_1).f3.f0)) ∧ w'.cell? ⟨(ad102.add ((x5_1).toNat * 8)).block, (ad102.add ((x5_1).toNat * 8)).off + 5, none⟩ = some (.int .i64 ((rd_T141 l1 x5_1).f3.f1)) ∧ w'.cell? ⟨(ad102.add ((x5_1).toNat * 8)).block, (ad102.add ((x5_1).toNat * 8)).off + 6, none⟩ = some (.int .i64 ((rd_T141 l1 x5_1).f4)) ∧ w'.cell? ⟨(ad102.add ((x5_1).toNat * 8)).block, (ad102.add ((x5_1).toNat * 8)).off + 7, none⟩ = some (.int .i64 ((rd_T141 l1 x5_1).f5))) (ds := []) (tf 0 10) (by kernel_rfl) rfl rfl ⟨(CY HB.out hw101_0), (CY HB.out hw101_1), (CY HB.out hw101_2), (CY HB.out hw101_3), (CY HB.out hw101_4), (CY HB.out hw101_5), (CY HB.out hw101_6), (CY HB.out hw101_7), (CY HB.out hw102_0), (CY HB.out hw102_1), (CY HB.out hw102_2), (CY HB.out hw102_3), (CY HB.out hw102_4), (CY HB.out hw102_5), (CY HB.out hw102_6), (CY HB.out hw102_7)⟩ (fun hHeld => ?_); refine with_tabW laws_eqRuleS.tab6 laws_eqRuleS.bits6 (fun HT_ HW_ => ?_)
        generalize wr.drew = w11 at HB hx101_0 hx101_1 hx101_2 hx101_3 hx101_4 hx101_5 hx101_6 hx101_7 hx102_0 hx102_1 hx102_2 hx102_3 hx102_4 hx102_5 hx102_6 hx102_7 hHeld ⊢
        refine pv HT_ 0 17 (tf 1 9) ?_
        refine pv HT_ 1 18 (tf 2 8) ?_
        refine pv HT_ 2 19 (tf 3 7) ?_
        refine pv HT_ 4 21 (tr [3, 1, 1, 5]) ?_
        refine pv HT_ 5 22 (tr [3, 1, 2, 4]) ?_
        refine pv HT_ 6 23 (tr [3, 1, 3, 3]) ?_
        refine tk 3 (some 20) (tf 7 3) (take_ofW HT_.out HW_.out (by kernel_rfl)) hHeld ?_
        refine tk 7 (some 24) (tf 8 2) (take_ofW HT_.out HW_.out (by kernel_rfl)) hHeld ?_
        refine one_ (i := 8) (N := some 25) (tf 9 1) rfl rfl (one_of HT_.out (by kernel_rfl)) (by decide) (fun K hK => ?_)
        refine goes_ Try.func112 (by kernel_rfl) rfl #[.agg #[.int .i64 ((rd_T141 l0 x5_1).f0), .int .i64 ((rd_T141 l0 x5_1).f1), .int .i64 ((rd_T141 l0 x5_1).f2.f0), .int .i64 ((rd_T141 l0 x5_1).f2.f1), .int .i64 ((rd_T141 l0 x5_1).f3.f0), .int .i64 ((rd_T141 l0 x5_1).f3.f1), .int .i64 ((rd_T141 l0 x5_1).f4), .int .i64 ((rd_T141 l0 x5_1).f5)], .agg #[.int .i64 ((rd_T141 l1 x5_1).f0), .int .i64 ((rd_T141 l1 x5_1).f1), .int .i64 ((rd_T141 l1 x5_1).f2.f0), .int .i64 ((rd_T141 l1 x5_1).f2.f1), .int .i64 ((rd_T141 l1 x5_1).f3.f0), .int .i64 ((rd_T141 l1 x5_1).f3.f1), .int .i64 ((rd_T141 l1 x5_1).f4), .int .i64 ((rd_T141 l1 x5_1).f5)]] (by rfl) rfl rfl MT ?_
        with_reducible refine (laws_eqRule.calls ((rd_T141 l0 x5_1).f0) ((rd_T141 l0 x5_1).f1) ((rd_T141 l0 x5_1).f2.f0) ((rd_T141 l0 x5_1).f2.f1) ((rd_T141 l0 x5_1).f3.f0) ((rd_T141 l0 x5_1).f3.f1) ((rd_T141 l0 x5_1).f4) ((rd_T141 l0 x5_1).f5) ((rd_T141 l1 x5_1).f0) ((rd_T141 l1 x5_1).f1) ((rd_T141 l1 x5_1).f2.f0) ((rd_T141 l1 x5_1).f2.f1) ((rd_T141 l1 x5_1).f3.f0) ((rd_T141 l1 x5_1).f3.f1) ((rd_T141 l1 x5_1).f4) ((rd_T141 l1 x5_1).f5) false _ A7.out).mono ?_
        rintro e w12 ⟨rfl, hb⟩
        refine ⟨_, rfl, ?_⟩
        replace HB := am (below_step (KL HB) hb)
        (try clear hb)
        (try clear hb2)
        (try clear hk)
        (try clear hi)
        refine hK.out _ _ ⟨(CY HB.out hw101_0), (CY HB.out hw101_1), (CY HB.out hw101_2), (CY HB.out hw101_3), (CY HB.out hw101_4), (CY HB.out hw101_5), (CY HB.out hw101_6), (CY HB.out hw101_7), (CY HB.out hw102_0), (CY HB.out hw102_1), (CY HB.out hw102_2), (CY HB.out hw102_3), (CY HB.out hw102_4), (CY HB.out hw102_5), (CY HB.out hw102_6), (CY HB.out hw102_7)⟩ (fun hHeld => ?_)
        clear hK K
        refine norm_ (a' := ?_) ?_ ?_
        rotate_left
        ·show Act.put _ (some 25) _ = _
         simp only [Act.put, List.setIfInBounds_toArray, List.set_cons_zero, List.set_cons_succ, i64_w, i32_w]
         rfl
        refine pv HT_ 9 26 (tf 10 0) ?_
        refine done_ (done_of HT_.out (by kernel_rfl)) ?_
        try go_wp2
        go_ret
        exact ⟨ER, KL HB⟩
      ·rw [if_neg c6] at H
       exact absurd H (by simp)
     ·rw [if_neg c5] at H
      exact absurd H (by simp)
    ·rw [if_neg c4] at H
     have c4b0 : decide (x5_1 < (l0.length : Int)) = false := decide_eq_false c4
     clear c4
     obtain rfl := Option.some.inj H
     go_wp2
     go_ret
     exact ⟨ER, KL HB⟩
 ·rw [if_neg c3] at H
  have c3b0 : ((l0.length : Int) == (l1.length : Int)) = false := beq_eq_false_iff_ne.mpr c3
  have c3b1 : ((l0.length : Int) != (l1.length : Int)) = true := bne_iff_ne.mpr c3
  have c3b2 : (l0.length == l1.length) = false := by first | simpa using c3 | (simp at c3 ⊢; omega)
  obtain rfl := Option.some.inj H
  go_enter Try.func69, Try.ntmps69
  go_wp2
  go_ret
  exact ⟨ER, KL HB⟩
def laws_eqCall.f (a0_0 : Int) (a0_1 : Int) (a0_2 : Int) (a1_0 : Int) (a1_1 : Int) (a1_2 : Int) : Option (Bool) := if a0_0 = a1_0 then (if a0_1 = a1_1 then (if a0_2 = a1_2 then (some true) else (some false)) else (some false)) else (some false)
set_option maxHeartbeats 8000000 in
set_option maxRecDepth 100000 in
theorem laws_eqCall.calls (a0_0 : Int) (a0_1 : Int) (a0_2 : Int) (a1_0 : Int) (a1_1 : Int) (a1_2 : Int) (r : Bool) (w : World) (h : laws_eqCall.f a0_0 a0_1 a0_2 a1_0 a1_1 a1_2 = some r) :
  Calls Try.prog 151 #[.agg #[.int .i64 a0_0, .int .i64 a0_1, .int .i64 a0_2], .agg #[.int .i64 a1_0, .int .i64 a1_1, .int .i64 a1_2]] w fun e w' => e = .returned (.bool r) ∧ Below w.heap.size w w' := by
 have hu107 := Try.underlying107
 have HB := am (Below.refl w.heap.size w)
 have H : (if a0_0 = a1_0 then (if a0_1 = a1_1 then (if a0_2 = a1_2 then (some true) else (some false)) else (some false)) else (some false)) = some r := h
 clear h
 by_cases c3 : a0_0 = a1_0
 ·rw [if_pos c3] at H
  have c3b0 : (a0_0 == a1_0) = true := beq_iff_eq.mpr c3
  have c3b1 : (a0_0 != a1_0) = false := bne_eq_false_iff_eq.mpr c3
  clear c3
  by_cases c4 : a0_1 = a1_1
  ·rw [if_pos c4] at H
   have c4b0 : (a0_1 == a1_1) = true := beq_iff_eq.mpr c4
   have c4b1 : (a0_1 != a1_1) = false := bne_eq_false_iff_eq.mpr c4
   clear c4
   by_cases c5 : a0_2 = a1_2
   ·rw [if_pos c5] at H
    have c5b0 : (a0_2 == a1_2) = true := beq_iff_eq.mpr c5
    have c5b1 : (a0_2 != a1_2) = false := bne_eq_false_iff_eq.mpr c5
    clear c5
    obtain rfl := Option.some.inj H
    go_enter Try.func151, Try.ntmps151
    go_wp2_with (first | ((with_reducible refine gate_dst (N := 2) rfl ?_); refine box_event rfl (N := 2) rfl (cs := #[.int .i64 a0_0, .int .i64 a0_1, .int .i64 a0_2]) (t := 107) BX ?_; intro gb101 hg w6 hbox hb; have BK101 := am (hbox); have GW101 := am (GH HB hg); have GE101 := GW101; replace HB := am (below_step (KL HB) hb); clear hb hbox hg) | ((with_reducible refine gate_dst (N := 3) rfl ?_); refine box_event rfl (N := 3) rfl (cs := #[.int .i64 a1_0, .int .i64 a1_1, .int .i64 a1_2]) (t := 107) BX ?_; intro gb102 hg w7 hbox hb; have BK102 := am (hbox); have GW102 := am (GH1 HB GE101.out hg); have GE102 := GW102; replace HB := am (below_step (K1 HB GE101.out) hb); have NB101_102 := am (NL BK101 hg); have NB102_101 := am (NG BK101 hg); replace BK101 := am (BB BK101 hb); clear hb hbox hg; have hnb8 := NB101_102.out; have hnc8 := NB102_101.out; obtain ⟨hcz9_0, hcz9_1, hcz9_2, hfz9_0⟩ := y3 w7 BK101.out; obtain ⟨hcz10_0, hcz10_1, hcz10_2, hfz10_0⟩ := y3 w7 BK102.out))
    go_ret
    exact ⟨ER, K2 HB GE101.out GE102.out⟩
   ·rw [if_neg c5] at H
    have c5b0 : (a0_2 == a1_2) = false := beq_eq_false_iff_ne.mpr c5
    have c5b1 : (a0_2 != a1_2) = true := bne_iff_ne.mpr c5
    obtain rfl := Option.some.inj H
    go_enter Try.func151, Try.ntmps151
    go_wp2_with (first | ((with_reducible refine gate_dst (N := 2) rfl ?_); refine box_event rfl (N := 2) rfl (cs := #[.int .i64 a0_0, .int .i64 a0_1, .int .i64 a0_2]) (t := 107) BX ?_; intro gb101 hg w11 hbox hb; have BK101 := am (hbox); have GW101 := am (GH HB hg); have GE101 := GW101; replace HB := am (below_step (KL HB) hb); clear hb hbox hg) | ((with_reducible refine gate_dst (N := 3) rfl ?_); refine box_event rfl (N := 3) rfl (cs := #[.int .i64 a1_0, .int .i64 a1_1, .int .i64 a1_2]) (t := 107) BX ?_; intro gb102 hg w12 hbox hb; have BK102 := am (hbox); have GW102 := am (GH1 HB GE101.out hg); have GE102 := GW102; replace HB := am (below_step (K1 HB GE101.out) hb); have NB101_102 := am (NL BK101 hg); have NB102_101 := am (NG BK101 hg); replace BK101 := am (BB BK101 hb); clear hb hbox hg; have hnb13 := NB101_102.out; have hnc13 := NB102_101.out; obtain ⟨hcz14_0, hcz14_1, hcz14_2, hfz14_0⟩ := y3 w12 BK101.out; obtain ⟨hcz15_0, hcz15_1, hcz15_2, hfz15_0⟩ := y3 w12 BK102.out))
    go_ret
    exact ⟨ER, K2 HB GE101.out GE102.out⟩
  ·rw [if_neg c4] at H
   have c4b0 : (a0_1 == a1_1) = false := beq_eq_false_iff_ne.mpr c4
   have c4b1 : (a0_1 != a1_1) = true := bne_iff_ne.mpr c4
   obtain rfl := Option.some.inj H
   go_enter Try.func151, Try.ntmps151
   go_wp2_with (first | ((with_reducible refine gate_dst (N := 2) rfl ?_); refine box_event rfl (N := 2) rfl (cs := #[.int .i64 a0_0, .int .i64 a0_1, .int .i64 a0_2]) (t := 107) BX ?_; intro gb101 hg w16 hbox hb; have BK101 := am (hbox); have GW101 := am (GH HB hg); have GE101 := GW101; replace HB := am (below_step (KL HB) hb); clear hb hbox hg) | ((with_reducible refine gate_dst (N := 3) rfl ?_); refine box_event rfl (N := 3) rfl (cs := #[.int .i64 a1_0, .int .i64 a1_1, .int .i64 a1_2]) (t := 107) BX ?_; intro gb102 hg w17 hbox hb; have BK102 := am (hbox); have GW102 := am (GH1 HB GE101.out hg); have GE102 := GW102; replace HB := am (below_step (K1 HB GE101.out) hb); have NB101_102 := am (NL BK101 hg); have NB102_101 := am (NG BK101 hg); replace BK101 := am (BB BK101 hb); clear hb hbox hg; have hnb18 := NB101_102.out; have hnc18 := NB102_101.out; obtain ⟨hcz19_0, hcz19_1, hcz19_2, hfz19_0⟩ := y3 w17 BK101.out; obtain ⟨hcz20_0, hcz20_1, hcz20_2, hfz20_0⟩ := y3 w17 BK102.out))
   go_ret
   exact ⟨ER, K2 HB GE101.out GE102.out⟩
 ·rw [if_neg c3] at H
  have c3b0 : (a0_0 == a1_0) = false := beq_eq_false_iff_ne.mpr c3
  have c3b1 : (a0_0 != a1_0) = true := bne_iff_ne.mpr c3
  obtain rfl := Option.some.inj H
  go_enter Try.func151, Try.ntmps151
  go_wp2_with (first | ((with_reducible refine gate_dst (N := 2) rfl ?_); refine box_event rfl (N := 2) rfl (cs := #[.int .i64 a0_0, .int .i64 a0_1, .int .i64 a0_2]) (t := 107) BX ?_; intro gb101 hg w21 hbox hb; have BK101 := am (hbox); have GW101 := am (GH HB hg); have GE101 := GW101; replace HB := am (below_step (KL HB) hb); clear hb hbox hg) | ((with_reducible refine gate_dst (N := 3) rfl ?_); refine box_event rfl (N := 3) rfl (cs := #[.int .i64 a1_0, .int .i64 a1_1, .int .i64 a1_2]) (t := 107) BX ?_; intro gb102 hg w22 hbox hb; have BK102 := am (hbox); have GW102 := am (GH1 HB GE101.out hg); have GE102 := GW102; replace HB := am (below_step (K1 HB GE101.out) hb); have NB101_102 := am (NL BK101 hg); have NB102_101 := am (NG BK101 hg); replace BK101 := am (BB BK101 hb); clear hb hbox hg; have hnb23 := NB101_102.out; have hnc23 := NB102_101.out; obtain ⟨hcz24_0, hcz24_1, hcz24_2, hfz24_0⟩ := y3 w22 BK101.out; obtain ⟨hcz25_0, hcz25_1, hcz25_2, hfz25_0⟩ := y3 w22 BK102.out))
  go_ret
  exact ⟨ER, K2 HB GE101.out GE102.out⟩
def laws_eqSeen.f (a0_0 : Int) (a0_1 : Int) (a0_2 : Int) (a0_3 : Int) (a1_0 : Int) (a1_1 : Int) (a1_2 : Int) (a1_3 : Int) : Option (Bool) := (laws_eqCall.f a0_0 a0_1 a0_2 a1_0 a1_1 a1_2).bind fun t103 => (if t103 = true then (if a0_3 = a1_3 then (some true) else (some false)) else (some false))
set_option maxHeartbeats 8000000 in
set_option maxRecDepth 100000 in
theorem laws_eqSeen.calls (a0_0 : Int) (a0_1 : Int) (a0_2 : Int) (a0_3 : Int) (a1_0 : Int) (a1_1 : Int) (a1_2 : Int) (a1_3 : Int) (r : Bool) (w : World) (h : laws_eqSeen.f a0_0 a0_1 a0_2 a0_3 a1_0 a1_1 a1_2 a1_3 = some r) :
  Calls Try.prog 141 #[.agg #[.int .i64 a0_0, .int .i64 a0_1, .int .i64 a0_2, .int .i64 a0_3], .agg #[.int .i64 a1_0, .int .i64 a1_1, .int .i64 a1_2, .int .i64 a1_3]] w fun e w' => e = .returned (.bool r) ∧ Below w.heap.size w w' := by
 have hu136 := Try.underlying136
 have hu107 := Try.underlying107
 have HB := am (Below.refl w.heap.size w)
 have H : ((laws_eqCall.f a0_0 a0_1 a0_2 a1_0 a1_1 a1_2).bind fun t103 => (if t103 = true then (if a0_3 = a1_3 then (some true) else (some false)) else (some false))) = some r := h
 clear h
 replace H := Option.bind_eq_some_iff.mp H
 obtain ⟨t103, A30, H⟩ := H
 replace H : (if t103 = true then (if a0_3 = a1_3 then (some true) else (some false)) else (some false)) = some r := H
 have A3 := Aside0.mk A30
 clear A30
 by_cases c4 : t103 = true
 ·subst c4
  have H1 : (if a0_3 = a1_3 then (some true) else (some false)) = some r := by rw [if_pos rfl] at H; exact H
  clear H
  have H := H1
  clear H1
  by_cases c5 : a0_3 = a1_3
  ·rw [if_pos c5] at H
   have c5b0 : (a0_3 == a1_3) = true := beq_iff_eq.mpr c5
   have c5b1 : (a0_3 != a1_3) = false := bne_eq_false_iff_eq.mpr c5
   clear c5
   obtain rfl := Option.some.inj H
   go_enter Try.func141, Try.ntmps141
   go_wp2_with (first | ((with_reducible refine gate_dst (N := 2) rfl ?_); refine box_event rfl (N := 2) rfl (cs := #[.int .i64 a0_0, .int .i64 a0_1, .int .i64 a0_2, .int .i64 a0_3]) (t := 136) BX ?_; intro gb101 hg w6 hbox hb; have BK101 := am (hbox); have GW101 := am (GH HB hg); have GE101 := GW101; replace HB := am (below_step (KL HB) hb); clear hb hbox hg) | ((with_reducible refine gate_dst (N := 3) rfl ?_); refine box_event rfl (N := 3) rfl (cs := #[.int .i64 a1_0, .int .i64 a1_1, .int .i64 a1_2, .int .i64 a1_3]) (t := 136) BX ?_; intro gb102 hg w7 hbox hb; have BK102 := am (hbox); have GW102 := am (GH1 HB GE101.out hg); have GE102 := GW102; replace HB := am (below_step (K1 HB GE101.out) hb); have NB101_102 := am (NL BK101 hg); have NB102_101 := am (NG BK101 hg); replace BK101 := am (BB BK101 hb); clear hb hbox hg; have hnb8 := NB101_102.out; have hnc8 := NB102_101.out; obtain ⟨hcz9_0, hcz9_1, hcz9_2, hcz9_3, hfz9_0⟩ := y4 w7 BK101.out; obtain ⟨hcz10_0, hcz10_1, hcz10_2, hcz10_3, hfz10_0⟩ := y4 w7 BK102.out) | ((with_reducible refine gate_callee (f := 151) rfl ?_); refine goesL_ (some 9) rfl rfl Try.func151 (by kernel_rfl) rfl #[.agg #[.int .i64 a0_0, .int .i64 a0_1, .int .i64 a0_2], .agg #[.int .i64 a1_0, .int .i64 a1_1, .int .i64 a1_2]] rfl MT ?_; (with_reducible refine (laws_eqCall.calls a0_0 a0_1 a0_2 a1_0 a1_1 a1_2 true _ A3.out).mono ?_); rintro e w11 ⟨rfl, hb⟩; refine ⟨_, rfl, ?_⟩; replace BK101 := am (BB BK101 hb); replace BK102 := am (BB BK102 hb); replace HB := am (below_step (K2 HB GE101.out GE102.out) hb); (try clear hb); (try clear hb2); (try clear hk); (try clear hi); obtain ⟨hcz12_0, hcz12_1, hcz12_2, hcz12_3, hfz12_0⟩ := y4 w11 BK101.out; obtain ⟨hcz13_0, hcz13_1, hcz13_2, hcz13_3, hfz13_0⟩ := y4 w11 BK102.out))
   go_ret
   exact ⟨ER, K2 HB GE101.out GE102.out⟩
  ·rw [if_neg c5] at H
   have c5b0 : (a0_3 == a1_3) = false := beq_eq_false_iff_ne.mpr c5
   have c5b1 : (a0_3 != a1_3) = true := bne_iff_ne.mpr c5
   obtain rfl := Option.some.inj H
   go_enter Try.func141, Try.ntmps141
   go_wp2_with (first | ((with_reducible refine gate_dst (N := 2) rfl ?_); refine box_event rfl (N := 2) rfl (cs := #[.int .i64 a0_0, .int .i64 a0_1, .int .i64 a0_2, .int .i64 a0_3]) (t := 136) BX ?_; intro gb101 hg w14 hbox hb; have BK101 := am (hbox); have GW101 := am (GH HB hg); have GE101 := GW101; replace HB := am (below_step (KL HB) hb); clear hb hbox hg) | ((with_reducible refine gate_dst (N := 3) rfl ?_); refine box_event rfl (N := 3) rfl (cs := #[.int .i64 a1_0, .int .i64 a1_1, .int .i64 a1_2, .int .i64 a1_3]) (t := 136) BX ?_; intro gb102 hg w15 hbox hb; have BK102 := am (hbox); have GW102 := am (GH1 HB GE101.out hg); have GE102 := GW102; replace HB := am (below_step (K1 HB GE101.out) hb); have NB101_102 := am (NL BK101 hg); have NB102_101 := am (NG BK101 hg); replace BK101 := am (BB BK101 hb); clear hb hbox hg; have hnb16 := NB101_102.out; have hnc16 := NB102_101.out; obtain ⟨hcz17_0, hcz17_1, hcz17_2, hcz17_3, hfz17_0⟩ := y4 w15 BK101.out; obtain ⟨hcz18_0, hcz18_1, hcz18_2, hcz18_3, hfz18_0⟩ := y4 w15 BK102.out) | ((with_reducible refine gate_callee (f := 151) rfl ?_); refine goesL_ (some 9) rfl rfl Try.func151 (by kernel_rfl) rfl #[.agg #[.int .i64 a0_0, .int .i64 a0_1, .int .i64 a0_2], .agg #[.int .i64 a1_0, .int .i64 a1_1, .int .i64 a1_2]] rfl MT ?_; (with_reducible refine (laws_eqCall.calls a0_0 a0_1 a0_2 a1_0 a1_1 a1_2 true _ A3.out).mono ?_); rintro e w19 ⟨rfl, hb⟩; refine ⟨_, rfl, ?_⟩; replace BK101 := am (BB BK101 hb); replace BK102 := am (BB BK102 hb); replace HB := am (below_step (K2 HB GE101.out GE102.out) hb); (try clear hb); (try clear hb2); (try clear hk); (try clear hi); obtain ⟨hcz20_0, hcz20_1, hcz20_2, hcz20_3, hfz20_0⟩ := y4 w19 BK101.out; obtain ⟨hcz21_0, hcz21_1, hcz21_2, hcz21_3, hfz21_0⟩ := y4 w19 BK102.out))
   go_ret
   exact ⟨ER, K2 HB GE101.out GE102.out⟩
 ·replace c4 := Bool.eq_false_iff.mpr c4
  subst c4
  have H1 : (some false) = some r := by rw [if_neg (show ¬ (false = true) by decide)] at H; exact H
  clear H
  have H := H1
  clear H1
  obtain rfl := Option.some.inj H
  go_enter Try.func141, Try.ntmps141
  go_wp2_with (first | ((with_reducible refine gate_dst (N := 2) rfl ?_); refine box_event rfl (N := 2) rfl (cs := #[.int .i64 a0_0, .int .i64 a0_1, .int .i64 a0_2, .int .i64 a0_3]) (t := 136) BX ?_; intro gb101 hg w22 hbox hb; have BK101 := am (hbox); have GW101 := am (GH HB hg); have GE101 := GW101; replace HB := am (below_step (KL HB) hb); clear hb hbox hg) | ((with_reducible refine gate_dst (N := 3) rfl ?_); refine box_event rfl (N := 3) rfl (cs := #[.int .i64 a1_0, .int .i64 a1_1, .int .i64 a1_2, .int .i64 a1_3]) (t := 136) BX ?_; intro gb102 hg w23 hbox hb; have BK102 := am (hbox); have GW102 := am (GH1 HB GE101.out hg); have GE102 := GW102; replace HB := am (below_step (K1 HB GE101.out) hb); have NB101_102 := am (NL BK101 hg); have NB102_101 := am (NG BK101 hg); replace BK101 := am (BB BK101 hb); clear hb hbox hg; have hnb24 := NB101_102.out; have hnc24 := NB102_101.out; obtain ⟨hcz25_0, hcz25_1, hcz25_2, hcz25_3, hfz25_0⟩ := y4 w23 BK101.out; obtain ⟨hcz26_0, hcz26_1, hcz26_2, hcz26_3, hfz26_0⟩ := y4 w23 BK102.out) | ((with_reducible refine gate_callee (f := 151) rfl ?_); refine goesL_ (some 9) rfl rfl Try.func151 (by kernel_rfl) rfl #[.agg #[.int .i64 a0_0, .int .i64 a0_1, .int .i64 a0_2], .agg #[.int .i64 a1_0, .int .i64 a1_1, .int .i64 a1_2]] rfl MT ?_; (with_reducible refine (laws_eqCall.calls a0_0 a0_1 a0_2 a1_0 a1_1 a1_2 false _ A3.out).mono ?_); rintro e w27 ⟨rfl, hb⟩; refine ⟨_, rfl, ?_⟩; replace BK101 := am (BB BK101 hb); replace BK102 := am (BB BK102 hb); replace HB := am (below_step (K2 HB GE101.out GE102.out) hb); (try clear hb); (try clear hb2); (try clear hk); (try clear hi)))
  go_ret
  exact ⟨ER, K2 HB GE101.out GE102.out⟩
def laws_eqSeenS.l0 : Nat → List (S136) → List (S136) → Int → Option (Bool)
 | 0, _, _, _ => none
 | k + 1, x0, x1, x5 => if x5 < (x0.length : Int) then (if 0 ≤ x5 then (if x5 < (x1.length : Int) then ((laws_eqSeen.f ((rd_T136 x0 x5).f0.f0) ((rd_T136 x0 x5).f0.f1) ((rd_T136 x0 x5).f0.f2) ((rd_T136 x0 x5).f1) ((rd_T136 x1 x5).f0.f0) ((rd_T136 x1 x5).f0.f1) ((rd_T136 x1 x5).f0.f2) ((rd_T136 x1 x5).f1)).bind fun t103 => (if t103 = true then (laws_eqSeenS.l0 k x0 x1 (wrap64 (x5 + 1))) else (some false))) else (none)) else (none)) else (some true)
def laws_eqSeenS.f (k : Nat) (l0 : List (S136)) (l1 : List (S136)) : Option (Bool) := if (l0.length : Int) = (l1.length : Int) then (laws_eqSeenS.l0 k l0 l1 0) else (some false)
def laws_eqSeenS.T6 : Bool × List (List Nat × List Nat) := (true, [([], []), ([], []), ([0, 1], [0, 1]), ([2], [2]), ([], []), ([], []), ([4, 5], [4, 5]), ([6], [6]), ([3, 7], [3, 7]), ([8], [8])])
def laws_eqSeenS.B6 : List Nat := [0, 0, 3, 7, 0, 0, 48, 112, 255, 511]
theorem laws_eqSeenS.tab6 : rtab .any (opsOf Try.f113 6) = laws_eqSeenS.T6 := by kernel_rfl
theorem laws_eqSeenS.bits6 : waitsOk laws_eqSeenS.T6.2 laws_eqSeenS.B6 = true := by kernel_rfl
set_option maxHeartbeats 8000000 in
set_option maxRecDepth 100000 in
theorem laws_eqSeenS.calls (k : Nat) (A0 : Option Addr) (c0 : Nat) (l0 : List (S136)) (A1 : Option Addr) (c1 : Nat) (l1 : List (S136)) (r : Bool) (w : World) (hr0 : Kd.C k136 w A0 l0.length l0) (hc0 : l0.length ≤ c0) (hr1 : Kd.C k136 w A1 l1.length l1) (hc1 : l1.length ≤ c1) (h : laws_eqSeenS.f k l0 l1 = some r) :
  Calls Try.prog 113 #[.slice A0 l0.length c0, .slice A1 l1.length c1] w fun e w' => e = .returned (.bool r) ∧ Below w.heap.size w w' := by
 have hu136 := Try.underlying136
 have HR0 := Aside0.mk hr0
 have HC0 := Aside0.mk hc0
 clear hr0 hc0
 have HR1 := Aside0.mk hr1
 have HC1 := Aside0.mk hc1
 clear hr1 hc1
 have HB := am (Below.refl w.heap.size w)
 have H : (if (l0.length : Int) = (l1.length : Int) then (laws_eqSeenS.l0 k l0 l1 0) else (some false)) = some r := h
 clear h
 by_cases c3 : (l0.length : Int) = (l1.length : Int)
 ·rw [if_pos c3] at H
  have c3b0 : ((l0.length : Int) == (l1.length : Int)) = true := beq_iff_eq.mpr c3
  have c3b1 : ((l0.length : Int) != (l1.length : Int)) = false := bne_eq_false_iff_eq.mpr c3
  have c3b2 : (l0.length == l1.length) = true := by first | simpa using c3 | (simp at c3 ⊢; omega)
  clear c3
  have H' := Aside0.mk H
  clear H
  go_enter Try.func113, Try.ntmps113
  go_wp2
  go_loopg [5] k (fun kq v5 w' => ∃ (x5_1 : Int), v5 = .int .i64 x5_1 ∧ Aside0 (laws_eqSeenS.l0 kq l0 l1 x5_1 = some r) ∧ Aside0 (kq ≤ k) ∧ Aside0 (Below w.heap.size w w'))
  case atStart => exact ⟨(0), (by first | rfl | (simp; done) | (simp [*]; done)), H', ⟨Nat.le_refl _⟩, ⟨KL HB⟩⟩
  case round =>
   clear H'
   try clear c1
   try clear p2
   try clear c3
   try clear c3b0
   try clear c3b1
   try clear c3b2
   obtain ⟨x5_1, rfl, HA, HK1, HB⟩ := hrel
   cases gk with
   | zero => exact absurd HA.out (by simp [laws_eqSeenS.l0])
   | succ k1 =>
    have H := HA.out
    clear HA
    simp only [laws_eqSeenS.l0] at H
    by_cases c4 : x5_1 < (l0.length : Int)
    ·rw [if_pos c4] at H
     have c4b0 : decide (x5_1 < (l0.length : Int)) = true := decide_eq_true c4
     clear c4
     by_cases c5 : 0 ≤ x5_1
     ·rw [if_pos c5] at H
      have c5b0 : decide (0 ≤ x5_1) = true := decide_eq_true c5
      clear c5
      by_cases c6 : x5_1 < (l1.length : Int)
      ·rw [if_pos c6] at H
       have c6b0 : decide (x5_1 < (l1.length : Int)) = true := decide_eq_true c6
       clear c6
       replace H := Option.bind_eq_some_iff.mp H
       obtain ⟨t103, A70, H⟩ := H
       replace H : (if t103 = true then (laws_eqSeenS.l0 k1 l0 l1 (wrap64 (x5_1 + 1))) else (some false)) = some r := H
       have A7 := Aside0.mk A70
       clear A70
       by_cases c8 : t103 = true
       ·subst c8
        have H1 : (laws_eqSeenS.l0 k1 l0 l1 (wrap64 (x5_1 + 1))) = some r := by rw [if_pos rfl] at H; exact H
        clear H
        have H := H1
        clear H1
        have H' := Aside0.mk H
        clear H
        try go_wp2
        replace HB := am (below_drew1 HB.out)
        have p101 : 0 ≤ (x5_1 : Int) := OD
        have q101 : x5_1 < (l0.length : Int) := OD
        obtain ⟨ad101, e101, hx101_0, hx101_1, hx101_2, hx101_3⟩ := at_T136 HR0.out x5_1 p101 q101
        have hw101_3 := hx101_3
        have hw101_2 := hx101_2
        have hw101_1 := hx101_1
        have hw101_0 := hx101_0
        cases e101
        replace hx101_0 := CX HB.out hx101_0
        replace hx101_1 := CX HB.out hx101_1
        replace hx101_2 := CX HB.out hx101_2
        replace hx101_3 := CX HB.out hx101_3
        replace p101 := eq_true p101
        replace q101 := eq_true q101
        have p102 : 0 ≤ (x5_1 : Int) := OD
        have q102 : x5_1 < (l1.length : Int) := OD
        obtain ⟨ad102, e102, hx102_0, hx102_1, hx102_2, hx102_3⟩ := at_T136 HR1.out x5_1 p102 q102
        have hw102_3 := hx102_3
        have hw102_2 := hx102_2
        have hw102_1 := hx102_1
        have hw102_0 := hx102_0
        cases e102
        replace hx102_0 := CX HB.out hx102_0
        replace hx102_1 := CX HB.out hx102_1
        replace hx102_2 := CX HB.out hx102_2
        replace hx102_3 := CX HB.out hx102_3
        replace p102 := eq_true p102
        replace q102 := eq_true q102
        refine start_ (n := 10) (S := fun w' => w'.cell? (ad101.add ((x5_1).toNat * 4)) = some (.int .i64 ((rd_T136 l0 x5_1).f0.f0)) ∧ w'.cell? ⟨(ad101.add ((x5_1).toNat * 4)).block, (ad101.add ((x5_1).toNat * 4)).off + 1, none⟩ = some (.int .i64 ((rd_T136 l0 x5_1).f0.f1)) ∧ w'.cell? ⟨(ad101.add ((x5_1).toNat * 4)).block, (ad101.add ((x5_1).toNat * 4)).off + 2, none⟩ = some (.int .i64 ((rd_T136 l0 x5_1).f0.f2)) ∧ w'.cell? ⟨(ad101.add ((x5_1).toNat * 4)).block, (ad101.add ((x5_1).toNat * 4)).off + 3, none⟩ = some (.int .i64 ((rd_T136 l0 x5_1).f1)) ∧ w'.cell? (ad102.add ((x5_1).toNat * 4)) = some (.int .i64 ((rd_T136 l1 x5_1).f0.f0)) ∧ w'.cell? ⟨(ad102.add ((x5_1).toNat * 4)).block, (ad102.add ((x5_1).toNat * 4)).off + 1, none⟩ = some (.int .i64 ((rd_T136 l1 x5_1).f0.f1)) ∧ w'.cell? ⟨(ad102.add ((x5_1).toNat * 4)).block, (ad102.add ((x5_1).toNat * 4)).off + 2, none⟩ = some (.int .i64 ((rd_T136 l1 x5_1).f0.f2)) ∧ w'.cell? ⟨(ad102.add ((x5_1).toNat * 4)).block, (ad102.add ((x5_1).toNat * 4)).off + 3, none⟩ = some (.int .i64 ((rd_T136 l1 x5_1).f1))) (ds := []) (tf 0 10) (by kernel_rfl) rfl rfl ⟨(CY HB.out hw101_0), (CY HB.out hw101_1), (CY HB.out hw101_2), (CY HB.out hw101_3), (CY HB.out hw102_0), (CY HB.out hw102_1), (CY HB.out hw102_2), (CY HB.out hw102_3)⟩ (fun hHeld => ?_); refine with_tabW laws_eqSeenS.tab6 laws_eqSeenS.bits6 (fun HT_ HW_ => ?_)
        generalize wr.drew = w9 at HB hx101_0 hx101_1 hx101_2 hx101_3 hx102_0 hx102_1 hx102_2 hx102_3 hHeld ⊢
        refine pv HT_ 0 17 (tf 1 9) ?_
        refine pv HT_ 1 18 (tf 2 8) ?_
        refine pv HT_ 2 19 (tf 3 7) ?_
        refine pv HT_ 4 21 (tr [3, 1, 1, 5]) ?_
        refine pv HT_ 5 22 (tr [3, 1, 2, 4]) ?_
        refine pv HT_ 6 23 (tr [3, 1, 3, 3]) ?_
        refine tk 3 (some 20) (tf 7 3) (take_ofW HT_.out HW_.out (by kernel_rfl)) hHeld ?_
        refine tk 7 (some 24) (tf 8 2) (take_ofW HT_.out HW_.out (by kernel_rfl)) hHeld ?_
        refine one_ (i := 8) (N := some 25) (tf 9 1) rfl rfl (one_of HT_.out (by kernel_rfl)) (by decide) (fun K hK => ?_)
        refine goes_ Try.func141 (by kernel_rfl) rfl #[.agg #[.int .i64 ((rd_T136 l0 x5_1).f0.f0), .int .i64 ((rd_T136 l0 x5_1).f0.f1), .int .i64 ((rd_T136 l0 x5_1).f0.f2), .int .i64 ((rd_T136 l0 x5_1).f1)], .agg #[.int .i64 ((rd_T136 l1 x5_1).f0.f0), .int .i64 ((rd_T136 l1 x5_1).f0.f1), .int .i64 ((rd_T136 l1 x5_1).f0.f2), .int .i64 ((rd_T136 l1 x5_1).f1)]] (by rfl) rfl rfl MT ?_
        with_reducible refine (laws_eqSeen.calls ((rd_T136 l0 x5_1).f0.f0) ((rd_T136 l0 x5_1).f0.f1) ((rd_T136 l0 x5_1).f0.f2) ((rd_T136 l0 x5_1).f1) ((rd_T136 l1 x5_1).f0.f0) ((rd_T136 l1 x5_1).f0.f1) ((rd_T136 l1 x5_1).f0.f2) ((rd_T136 l1 x5_1).f1) true _ A7.out).mono ?_
        rintro e w10 ⟨rfl, hb⟩
        refine ⟨_, rfl, ?_⟩
        replace HB := am (below_step (KL HB) hb)
        (try clear hb)
        (try clear hb2)
        (try clear hk)
        (try clear hi)
        refine hK.out _ _ ⟨(CY HB.out hw101_0), (CY HB.out hw101_1), (CY HB.out hw101_2), (CY HB.out hw101_3), (CY HB.out hw102_0), (CY HB.out hw102_1), (CY HB.out hw102_2), (CY HB.out hw102_3)⟩ (fun hHeld => ?_)
        clear hK K
        refine norm_ (a' := ?_) ?_ ?_
        rotate_left
        ·show Act.put _ (some 25) _ = _
         simp only [Act.put, List.setIfInBounds_toArray, List.set_cons_zero, List.set_cons_succ, i64_w, i32_w]
         rfl
        refine pv HT_ 9 26 (tf 10 0) ?_
        refine done_ (done_of HT_.out (by kernel_rfl)) ?_
        try go_wp2
        go_roundg k1
        case measure => have := HK1.out; omega
        case rel => exact ⟨(wrap64 (x5_1 + 1)), (by first | rfl | (simp; done) | (simp [*]; done)), H', ⟨by have := HK1.out; omega⟩, ⟨KL HB⟩⟩
       ·replace c8 := Bool.eq_false_iff.mpr c8
        subst c8
        have H1 : (some false) = some r := by rw [if_neg (show ¬ (false = true) by decide)] at H; exact H
        clear H
        have H := H1
        clear H1
        obtain rfl := Option.some.inj H
        try go_wp2
        replace HB := am (below_drew1 HB.out)
        have p101 : 0 ≤ (x5_1 : Int) := OD
        have q101 : x5_1 < (l0.length : Int) := OD
        obtain ⟨ad101, e101, hx101_0, hx101_1, hx101_2, hx101_3⟩ := at_T136 HR0.out x5_1 p101 q101
        have hw101_3 := hx101_3
        have hw101_2 := hx101_2
        have hw101_1 := hx101_1
        have hw101_0 := hx101_0
        cases e101
        replace hx101_0 := CX HB.out hx101_0
        replace hx101_1 := CX HB.out hx101_1
        replace hx101_2 := CX HB.out hx101_2
        replace hx101_3 := CX HB.out hx101_3
        replace p101 := eq_true p101
        replace q101 := eq_true q101
        have p102 : 0 ≤ (x5_1 : Int) := OD
        have q102 : x5_1 < (l1.length : Int) := OD
        obtain ⟨ad102, e102, hx102_0, hx102_1, hx102_2, hx102_3⟩ := at_T136 HR1.out x5_1 p102 q102
        have hw102_3 := hx102_3
        have hw102_2 := hx102_2
        have hw102_1 := hx102_1
        have hw102_0 := hx102_0
        cases e102
        replace hx102_0 := CX HB.out hx102_0
        replace hx102_1 := CX HB.out hx102_1
        replace hx102_2 := CX HB.out hx102_2
        replace hx102_3 := CX HB.out hx102_3
        replace p102 := eq_true p102
        replace q102 := eq_true q102
        refine start_ (n := 10) (S := fun w' => w'.cell? (ad101.add ((x5_1).toNat * 4)) = some (.int .i64 ((rd_T136 l0 x5_1).f0.f0)) ∧ w'.cell? ⟨(ad101.add ((x5_1).toNat * 4)).block, (ad101.add ((x5_1).toNat * 4)).off + 1, none⟩ = some (.int .i64 ((rd_T136 l0 x5_1).f0.f1)) ∧ w'.cell? ⟨(ad101.add ((x5_1).toNat * 4)).block, (ad101.add ((x5_1).toNat * 4)).off + 2, none⟩ = some (.int .i64 ((rd_T136 l0 x5_1).f0.f2)) ∧ w'.cell? ⟨(ad101.add ((x5_1).toNat * 4)).block, (ad101.add ((x5_1).toNat * 4)).off + 3, none⟩ = some (.int .i64 ((rd_T136 l0 x5_1).f1)) ∧ w'.cell? (ad102.add ((x5_1).toNat * 4)) = some (.int .i64 ((rd_T136 l1 x5_1).f0.f0)) ∧ w'.cell? ⟨(ad102.add ((x5_1).toNat * 4)).block, (ad102.add ((x5_1).toNat * 4)).off + 1, none⟩ = some (.int .i64 ((rd_T136 l1 x5_1).f0.f1)) ∧ w'.cell? ⟨(ad102.add ((x5_1).toNat * 4)).block, (ad102.add ((x5_1).toNat * 4)).off + 2, none⟩ = some (.int .i64 ((rd_T136 l1 x5_1).f0.f2)) ∧ w'.cell? ⟨(ad102.add ((x5_1).toNat * 4)).block, (ad102.add ((x5_1).toNat * 4)).off + 3, none⟩ = some (.int .i64 ((rd_T136 l1 x5_1).f1))) (ds := []) (tf 0 10) (by kernel_rfl) rfl rfl ⟨(CY HB.out hw101_0), (CY HB.out hw101_1), (CY HB.out hw101_2), (CY HB.out hw101_3), (CY HB.out hw102_0), (CY HB.out hw102_1), (CY HB.out hw102_2), (CY HB.out hw102_3)⟩ (fun hHeld => ?_); refine with_tabW laws_eqSeenS.tab6 laws_eqSeenS.bits6 (fun HT_ HW_ => ?_)
        generalize wr.drew = w11 at HB hx101_0 hx101_1 hx101_2 hx101_3 hx102_0 hx102_1 hx102_2 hx102_3 hHeld ⊢
        refine pv HT_ 0 17 (tf 1 9) ?_
        refine pv HT_ 1 18 (tf 2 8) ?_
        refine pv HT_ 2 19 (tf 3 7) ?_
        refine pv HT_ 4 21 (tr [3, 1, 1, 5]) ?_
        refine pv HT_ 5 22 (tr [3, 1, 2, 4]) ?_
        refine pv HT_ 6 23 (tr [3, 1, 3, 3]) ?_
        refine tk 3 (some 20) (tf 7 3) (take_ofW HT_.out HW_.out (by kernel_rfl)) hHeld ?_
        refine tk 7 (some 24) (tf 8 2) (take_ofW HT_.out HW_.out (by kernel_rfl)) hHeld ?_
        refine one_ (i := 8) (N := some 25) (tf 9 1) rfl rfl (one_of HT_.out (by kernel_rfl)) (by decide) (fun K hK => ?_)
        refine goes_ Try.func141 (by kernel_rfl) rfl #[.agg #[.int .i64 ((rd_T136 l0 x5_1).f0.f0), .int .i64 ((rd_T136 l0 x5_1).f0.f1), .int .i64 ((rd_T136 l0 x5_1).f0.f2), .int .i64 ((rd_T136 l0 x5_1).f1)], .agg #[.int .i64 ((rd_T136 l1 x5_1).f0.f0), .int .i64 ((rd_T136 l1 x5_1).f0.f1), .int .i64 ((rd_T136 l1 x5_1).f0.f2), .int .i64 ((rd_T136 l1 x5_1).f1)]] (by rfl) rfl rfl MT ?_
        with_reducible refine (laws_eqSeen.calls ((rd_T136 l0 x5_1).f0.f0) ((rd_T136 l0 x5_1).f0.f1) ((rd_T136 l0 x5_1).f0.f2) ((rd_T136 l0 x5_1).f1) ((rd_T136 l1 x5_1).f0.f0) ((rd_T136 l1 x5_1).f0.f1) ((rd_T136 l1 x5_1).f0.f2) ((rd_T136 l1 x5_1).f1) false _ A7.out).mono ?_
        rintro e w12 ⟨rfl, hb⟩
        refine ⟨_, rfl, ?_⟩
        replace HB := am (below_step (KL HB) hb)
        (try clear hb)
        (try clear hb2)
        (try clear hk)
        (try clear hi)
        refine hK.out _ _ ⟨(CY HB.out hw101_0), (CY HB.out hw101_1), (CY HB.out hw101_2), (CY HB.out hw101_3), (CY HB.out hw102_0), (CY HB.out hw102_1), (CY HB.out hw102_2), (CY HB.out hw102_3)⟩ (fun hHeld => ?_)
        clear hK K
        refine norm_ (a' := ?_) ?_ ?_
        rotate_left
        ·show Act.put _ (some 25) _ = _
         simp only [Act.put, List.setIfInBounds_toArray, List.set_cons_zero, List.set_cons_succ, i64_w, i32_w]
         rfl
        refine pv HT_ 9 26 (tf 10 0) ?_
        refine done_ (done_of HT_.out (by kernel_rfl)) ?_
        try go_wp2
        go_ret
        exact ⟨ER, KL HB⟩
      ·rw [if_neg c6] at H
       exact absurd H (by simp)
     ·rw [if_neg c5] at H
      exact absurd H (by simp)
    ·rw [if_neg c4] at H
     have c4b0 : decide (x5_1 < (l0.length : Int)) = false := decide_eq_false c4
     clear c4
     obtain rfl := Option.some.inj H
     go_wp2
     go_ret
     exact ⟨ER, KL HB⟩
 ·rw [if_neg c3] at H
  have c3b0 : ((l0.length : Int) == (l1.length : Int)) = false := beq_eq_false_iff_ne.mpr c3
  have c3b1 : ((l0.length : Int) != (l1.length : Int)) = true := bne_iff_ne.mpr c3
  have c3b2 : (l0.length == l1.length) = false := by first | simpa using c3 | (simp at c3 ⊢; omega)
  obtain rfl := Option.some.inj H
  go_enter Try.func113, Try.ntmps113
  go_wp2
  go_ret
  exact ⟨ER, KL HB⟩
end Go.Proofs.Ytlpmmmhfceeiaaa.PAll
end
