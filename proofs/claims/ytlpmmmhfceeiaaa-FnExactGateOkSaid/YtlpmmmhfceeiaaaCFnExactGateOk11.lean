/- Contracts of the functions that the statement reaches, printed by a program out of the translation and joined with the plain laws. -/
import Derived.Test.YtlpmmmhfceeiaaaCFnExactGateOk3
import Derived.Test.YtlpmmmhfceeiaaaCFnExactGateOk4
import Derived.Test.YtlpmmmhfceeiaaaCFnExactGateOk5
import Derived.Test.YtlpmmmhfceeiaaaCFnExactGateOk6
import Derived.Test.YtlpmmmhfceeiaaaCFnExactGateOk9
import Derived.Test.YtlpmmmhfceeiaaaCFnExactGateOk10
section
namespace Go.Proofs.Ytlpmmmhfceeiaaa.PAll
open Go.RowKit Go.Proofs.YtlpmmmhfceeiaaaW.PrintWords Go.Proofs.YtlpmmmhfceeiaaaW.PrintLast Go.Proofs.YtlpmmmhfceeiaaaW.PrintMore
attribute [local go_sem] max2_int min2_int max_two min_two max_three min_three max_four min_four   -- for this text's walks alone
set_option linter.unusedVariables false
set_option linter.unusedSimpArgs false
def laws_FnExactGateOk.f (k : Nat) (a0_0 : Int) (l0_1 : List (S145)) (a0_2 : Int) (l0_3 : List (S170)) (l0_4 : List (S132)) (l0_5 : List (S132)) : Option (Bool) := (laws_szGate.f k a0_0 l0_1 a0_2 l0_3 l0_4 l0_5 1048576).bind fun t102 => (if t102 < 0 then (some true) else ((laws_toGate.f k a0_0 l0_1 a0_2 l0_3 l0_4 l0_5).bind fun bt103 => ((spec_GateOk.f k bt103.1 bt103.2.1 bt103.2.2.1 bt103.2.2.2.1 bt103.2.2.2.2.1 bt103.2.2.2.2.2).bind fun t117 => ((laws_toGate.f k a0_0 l0_1 a0_2 l0_3 l0_4 l0_5).bind fun bt118 => ((impl_GateOk.f k bt118.1 bt118.2.1 bt118.2.2.1 bt118.2.2.2.1 bt118.2.2.2.2.1 bt118.2.2.2.2.2).bind fun t133 => (if (t133 != t117) = true then (some false) else ((laws_toGate.f k a0_0 l0_1 a0_2 l0_3 l0_4 l0_5).bind fun bt134 => ((laws_eqGate.f k bt118.1 bt118.2.1 bt118.2.2.1 bt118.2.2.2.1 bt118.2.2.2.2.1 bt118.2.2.2.2.2 bt134.1 bt134.2.1 bt134.2.2.1 bt134.2.2.2.1 bt134.2.2.2.2.1 bt134.2.2.2.2.2).bind fun t148 => (if t148 = true then (some true) else (some false))))))))))
set_option maxHeartbeats 8000000 in
set_option maxRecDepth 100000 in
theorem laws_FnExactGateOk.calls (k : Nat) (a0_0 : Int) (A0_1 : Option Addr) (c0_1 : Nat) (l0_1 : List (S145)) (a0_2 : Int) (A0_3 : Option Addr) (c0_3 : Nat) (l0_3 : List (S170)) (A0_4 : Option Addr) (c0_4 : Nat) (l0_4 : List (S132)) (A0_5 : Option Addr) (c0_5 : Nat) (l0_5 : List (S132)) (r : Bool) (w : World) (hr0_1 : Kd.C k145 w A0_1 l0_1.length l0_1) (hc0_1 : l0_1.length ≤ c0_1) (hr0_3 : Kd.C k170 w A0_3 l0_3.length l0_3) (hc0_3 : l0_3.length ≤ c0_3) (hr0_4 : Kd.C k132 w A0_4 l0_4.length l0_4) (hc0_4 : l0_4.length ≤ c0_4) (hr0_5 : Kd.C k132 w A0_5 l0_5.length l0_5) (hc0_5 : l0_5.length ≤ c0_5) (hr0_ : r = true) (h : laws_FnExactGateOk.f k a0_0 l0_1 a0_2 l0_3 l0_4 l0_5 = some r) :
  Calls Try.prog 7 #[.agg #[.int .i64 a0_0, .slice A0_1 l0_1.length c0_1, .int .i64 a0_2, .slice A0_3 l0_3.length c0_3, .slice A0_4 l0_4.length c0_4, .slice A0_5 l0_5.length c0_5]] w fun e w' => e = .returned (.bool r) ∧ Below w.heap.size w w' := by
 have hu48 := Try.underlying48
 have hu57 := Try.underlying57
 have HR0_1 := Aside0.mk hr0_1
 have HC0_1 := Aside0.mk hc0_1
 clear hr0_1 hc0_1
 have HR0_3 := Aside0.mk hr0_3
 have HC0_3 := Aside0.mk hc0_3
 clear hr0_3 hc0_3
 have HR0_4 := Aside0.mk hr0_4
 have HC0_4 := Aside0.mk hc0_4
 clear hr0_4 hc0_4
 have HR0_5 := Aside0.mk hr0_5
 have HC0_5 := Aside0.mk hc0_5
 clear hr0_5 hc0_5
 have HB := am (Below.refl w.heap.size w)
 have H : ((laws_szGate.f k a0_0 l0_1 a0_2 l0_3 l0_4 l0_5 1048576).bind fun t102 => (if t102 < 0 then (some true) else ((laws_toGate.f k a0_0 l0_1 a0_2 l0_3 l0_4 l0_5).bind fun bt103 => ((spec_GateOk.f k bt103.1 bt103.2.1 bt103.2.2.1 bt103.2.2.2.1 bt103.2.2.2.2.1 bt103.2.2.2.2.2).bind fun t117 => ((laws_toGate.f k a0_0 l0_1 a0_2 l0_3 l0_4 l0_5).bind fun bt118 => ((impl_GateOk.f k bt118.1 bt118.2.1 bt118.2.2.1 bt118.2.2.2.1 bt118.2.2.2.2.1 bt118.2.2.2.2.2).bind fun t133 => (if (t133 != t117) = true then (some false) else ((laws_toGate.f k a0_0 l0_1 a0_2 l0_3 l0_4 l0_5).bind fun bt134 => ((laws_eqGate.f k bt118.1 bt118.2.1 bt118.2.2.1 bt118.2.2.2.1 bt118.2.2.2.2.1 bt118.2.2.2.2.2 bt134.1 bt134.2.1 bt134.2.2.1 bt134.2.2.2.1 bt134.2.2.2.2.1 bt134.2.2.2.2.2).bind fun t148 => (if t148 = true then (some true) else (some false))))))))))) = some r := h
 clear h
 have HR_ := Aside0.mk hr0_
 clear hr0_
 replace H := Option.bind_eq_some_iff.mp H
 obtain ⟨t102, A20, H⟩ := H
 replace H : (if t102 < 0 then (some true) else ((laws_toGate.f k a0_0 l0_1 a0_2 l0_3 l0_4 l0_5).bind fun bt103 => ((spec_GateOk.f k bt103.1 bt103.2.1 bt103.2.2.1 bt103.2.2.2.1 bt103.2.2.2.2.1 bt103.2.2.2.2.2).bind fun t117 => ((laws_toGate.f k a0_0 l0_1 a0_2 l0_3 l0_4 l0_5).bind fun bt118 => ((impl_GateOk.f k bt118.1 bt118.2.1 bt118.2.2.1 bt118.2.2.2.1 bt118.2.2.2.2.1 bt118.2.2.2.2.2).bind fun t133 => (if (t133 != t117) = true then (some false) else ((laws_toGate.f k a0_0 l0_1 a0_2 l0_3 l0_4 l0_5).bind fun bt134 => ((laws_eqGate.f k bt118.1 bt118.2.1 bt118.2.2.1 bt118.2.2.2.1 bt118.2.2.2.2.1 bt118.2.2.2.2.2 bt134.1 bt134.2.1 bt134.2.2.1 bt134.2.2.2.1 bt134.2.2.2.2.1 bt134.2.2.2.2.2).bind fun t148 => (if t148 = true then (some true) else (some false)))))))))) = some r := H
 have A2 := Aside0.mk A20
 clear A20
 by_cases c3 : t102 < 0
 ·rw [if_pos c3] at H
  have c3b0 : decide (t102 < 0) = true := decide_eq_true c3
  clear c3
  obtain rfl := Option.some.inj H
  go_enter Try.func7, Try.ntmps7
  go_wp2_with (first | ((with_reducible refine gate_dst (N := 1) rfl ?_); refine box_event rfl (N := 1) rfl (cs := #[.int .i64 a0_0, .slice A0_1 l0_1.length c0_1, .int .i64 a0_2, .slice A0_3 l0_3.length c0_3, .slice A0_4 l0_4.length c0_4, .slice A0_5 l0_5.length c0_5]) (t := 48) BX ?_; intro gb101 hg w4 hbox hb; have BK101 := am (hbox); have GW101 := am (GH HB hg); have GE101 := GW101; replace HB := am (below_step (KL HB) hb); clear hb hbox hg; obtain ⟨hcz5_0, hcz5_1, hcz5_2, hcz5_3, hcz5_4, hcz5_5, hfz5_0⟩ := y6 w4 BK101.out) | ((with_reducible refine gate_callee (f := 29) rfl ?_); refine goesL_ (some 9) rfl rfl Try.func29 (by kernel_rfl) rfl #[.agg #[.int .i64 a0_0, .slice A0_1 l0_1.length c0_1, .int .i64 a0_2, .slice A0_3 l0_3.length c0_3, .slice A0_4 l0_4.length c0_4, .slice A0_5 l0_5.length c0_5], .int .i64 1048576] rfl MT ?_; (with_reducible refine (laws_szGate.calls k a0_0 _ _ l0_1 a0_2 _ _ l0_3 _ _ l0_4 _ _ l0_5 1048576 t102 _ ?side1 ?side2 ?side3 ?side4 ?side5 ?side6 ?side7 ?side8 A2.out).mono ?_); (case side1 => exact KD HR0_1 HB); (case side2 => exact HC0_1.out); (case side3 => exact KD HR0_3 HB); (case side4 => exact HC0_3.out); (case side5 => exact KD HR0_4 HB); (case side6 => exact HC0_4.out); (case side7 => exact KD HR0_5 HB); (case side8 => exact HC0_5.out); rintro e w6 ⟨rfl, hb⟩; refine ⟨_, rfl, ?_⟩; replace BK101 := am (BB BK101 hb); replace HB := am (below_step (K1 HB GE101.out) hb); (try clear hb); (try clear hb2); (try clear hk); (try clear hi)))
  go_ret
  exact ⟨ER, K1 HB GE101.out⟩
 ·rw [if_neg c3] at H
  have c3b0 : decide (t102 < 0) = false := decide_eq_false c3
  clear c3
  replace H := Option.bind_eq_some_iff.mp H
  obtain ⟨⟨t103, t104, t107, t108, t111, t114⟩, A70, H⟩ := H
  replace H : ((spec_GateOk.f k t103 t104 t107 t108 t111 t114).bind fun t117 => ((laws_toGate.f k a0_0 l0_1 a0_2 l0_3 l0_4 l0_5).bind fun bt118 => ((impl_GateOk.f k bt118.1 bt118.2.1 bt118.2.2.1 bt118.2.2.2.1 bt118.2.2.2.2.1 bt118.2.2.2.2.2).bind fun t133 => (if (t133 != t117) = true then (some false) else ((laws_toGate.f k a0_0 l0_1 a0_2 l0_3 l0_4 l0_5).bind fun bt134 => ((laws_eqGate.f k bt118.1 bt118.2.1 bt118.2.2.1 bt118.2.2.2.1 bt118.2.2.2.2.1 bt118.2.2.2.2.2 bt134.1 bt134.2.1 bt134.2.2.1 bt134.2.2.2.1 bt134.2.2.2.2.1 bt134.2.2.2.2.2).bind fun t148 => (if t148 = true then (some true) else (some false)))))))) = some r := H
  have A7 := Aside0.mk A70
  clear A70
  replace H := Option.bind_eq_some_iff.mp H
  obtain ⟨t117, A80, H⟩ := H
  replace H : ((laws_toGate.f k a0_0 l0_1 a0_2 l0_3 l0_4 l0_5).bind fun bt118 => ((impl_GateOk.f k bt118.1 bt118.2.1 bt118.2.2.1 bt118.2.2.2.1 bt118.2.2.2.2.1 bt118.2.2.2.2.2).bind fun t133 => (if (t133 != t117) = true then (some false) else ((laws_toGate.f k a0_0 l0_1 a0_2 l0_3 l0_4 l0_5).bind fun bt134 => ((laws_eqGate.f k bt118.1 bt118.2.1 bt118.2.2.1 bt118.2.2.2.1 bt118.2.2.2.2.1 bt118.2.2.2.2.2 bt134.1 bt134.2.1 bt134.2.2.1 bt134.2.2.2.1 bt134.2.2.2.2.1 bt134.2.2.2.2.2).bind fun t148 => (if t148 = true then (some true) else (some false))))))) = some r := H
  have A8 := Aside0.mk A80
  clear A80
  replace H := Option.bind_eq_some_iff.mp H
  obtain ⟨⟨t118, t119, t122, t123, t126, t129⟩, A90, H⟩ := H
  replace H : ((impl_GateOk.f k t118 t119 t122 t123 t126 t129).bind fun t133 => (if (t133 != t117) = true then (some false) else ((laws_toGate.f k a0_0 l0_1 a0_2 l0_3 l0_4 l0_5).bind fun bt134 => ((laws_eqGate.f k t118 t119 t122 t123 t126 t129 bt134.1 bt134.2.1 bt134.2.2.1 bt134.2.2.2.1 bt134.2.2.2.2.1 bt134.2.2.2.2.2).bind fun t148 => (if t148 = true then (some true) else (some false)))))) = some r := H
  have A9 := Aside0.mk A90
  clear A90
  replace H := Option.bind_eq_some_iff.mp H
  obtain ⟨t133, A100, H⟩ := H
  replace H : (if (t133 != t117) = true then (some false) else ((laws_toGate.f k a0_0 l0_1 a0_2 l0_3 l0_4 l0_5).bind fun bt134 => ((laws_eqGate.f k t118 t119 t122 t123 t126 t129 bt134.1 bt134.2.1 bt134.2.2.1 bt134.2.2.2.1 bt134.2.2.2.2.1 bt134.2.2.2.2.2).bind fun t148 => (if t148 = true then (some true) else (some false))))) = some r := H
  have A10 := Aside0.mk A100
  clear A100
  by_cases c11 : (t133 != t117) = true
  ·rw [if_pos c11] at H
   have c11b0 : (t133 != t117) = true := c11
   (try (have c11b1 : decide (t133 = t117) = false := by simpa using c11))
   (try (have c11b2 : (t133 == t117) = false := by simpa using c11))
   (try (have c11b3 : ¬ (t133 = t117) := by simpa using c11))
   clear c11
   exact absurd ((Option.some.inj H).trans HR_.out) (by decide)
  ·rw [if_neg c11] at H
   have c11b0 : (t133 != t117) = false := by simpa using c11
   (try (have c11b1 : decide (t133 = t117) = true := by simpa using c11))
   (try (have c11b2 : (t133 == t117) = true := by simpa using c11))
   clear c11
   replace H := Option.bind_eq_some_iff.mp H
   obtain ⟨⟨t134, t135, t138, t139, t142, t145⟩, A120, H⟩ := H
   replace H : ((laws_eqGate.f k t118 t119 t122 t123 t126 t129 t134 t135 t138 t139 t142 t145).bind fun t148 => (if t148 = true then (some true) else (some false))) = some r := H
   have A12 := Aside0.mk A120
   clear A120
   replace H := Option.bind_eq_some_iff.mp H
   obtain ⟨t148, A130, H⟩ := H
   replace H : (if t148 = true then (some true) else (some false)) = some r := H
   have A13 := Aside0.mk A130
   clear A130
   by_cases c14 : t148 = true
   ·subst c14
    have H1 : (some true) = some r := by rw [if_pos rfl] at H; exact H
    clear H
    have H := H1
    clear H1
    obtain rfl := Option.some.inj H
    go_enter Try.func7, Try.ntmps7
    try go_wp2_with (first | ((with_reducible refine gate_dst (N := 1) rfl ?_); refine box_event rfl (N := 1) rfl (cs := #[.int .i64 a0_0, .slice A0_1 l0_1.length c0_1, .int .i64 a0_2, .slice A0_3 l0_3.length c0_3, .slice A0_4 l0_4.length c0_4, .slice A0_5 l0_5.length c0_5]) (t := 48) BX ?_; intro gb101 hg w15 hbox hb; have BK101 := am (hbox); have GW101 := am (GH HB hg); have GE101 := GW101; replace HB := am (below_step (KL HB) hb); clear hb hbox hg; obtain ⟨hcz16_0, hcz16_1, hcz16_2, hcz16_3, hcz16_4, hcz16_5, hfz16_0⟩ := y6 w15 BK101.out) | ((with_reducible refine gate_callee (f := 29) rfl ?_); refine goesL_ (some 9) rfl rfl Try.func29 (by kernel_rfl) rfl #[.agg #[.int .i64 a0_0, .slice A0_1 l0_1.length c0_1, .int .i64 a0_2, .slice A0_3 l0_3.length c0_3, .slice A0_4 l0_4.length c0_4, .slice A0_5 l0_5.length c0_5], .int .i64 1048576] rfl MT ?_; (with_reducible refine (laws_szGate.calls k a0_0 _ _ l0_1 a0_2 _ _ l0_3 _ _ l0_4 _ _ l0_5 1048576 t102 _ ?side1 ?side2 ?side3 ?side4 ?side5 ?side6 ?side7 ?side8 A2.out).mono ?_); (case side1 => exact KD HR0_1 HB); (case side2 => exact HC0_1.out); (case side3 => exact KD HR0_3 HB); (case side4 => exact HC0_3.out); (case side5 => exact KD HR0_4 HB); (case side6 => exact HC0_4.out); (case side7 => exact KD HR0_5 HB); (case side8 => exact HC0_5.out); rintro e w17 ⟨rfl, hb⟩; refine ⟨_, rfl, ?_⟩; replace BK101 := am (BB BK101 hb); replace HB := am (below_step (K1 HB GE101.out) hb); (try clear hb); (try clear hb2); (try clear hk); (try clear hi); obtain ⟨hcz18_0, hcz18_1, hcz18_2, hcz18_3, hcz18_4, hcz18_5, hfz18_0⟩ := y6 w17 BK101.out) | ((with_reducible refine gate_callee (f := 31) rfl ?_); refine goesL_ (some 13) rfl rfl Try.func31 (by kernel_rfl) rfl #[.agg #[.int .i64 a0_0, .slice A0_1 l0_1.length c0_1, .int .i64 a0_2, .slice A0_3 l0_3.length c0_3, .slice A0_4 l0_4.length c0_4, .slice A0_5 l0_5.length c0_5]] rfl MT ?_; (with_reducible refine (laws_toGate.calls k a0_0 _ _ l0_1 a0_2 _ _ l0_3 _ _ l0_4 _ _ l0_5 t103 t104 t107 t108 t111 t114 _ ?side1 ?side2 ?side3 ?side4 ?side5 ?side6 ?side7 ?side8 A7.out).mono ?_); (case side1 => exact KD HR0_1 HB); (case side2 => exact HC0_1.out); (case side3 => exact KD HR0_3 HB); (case side4 => exact HC0_3.out); (case side5 => exact KD HR0_4 HB); (case side6 => exact HC0_4.out); (case side7 => exact KD HR0_5 HB); (case side8 => exact HC0_5.out); rintro e w19 ⟨v105, v109, v112, v115, rfl, ho0, ho1, ho2, ho3, hb⟩; refine ⟨_, rfl, ?_⟩; have HO106 := am (Kd.R_lower ho0 (below_size (K1 HB GE101.out))); have HO110 := am (Kd.R_lower ho1 (below_size (K1 HB GE101.out))); have HO113 := am (Kd.S_lower ho2 (below_size (K1 HB GE101.out))); have HO116 := am (Kd.S_lower ho3 (below_size (K1 HB GE101.out))); replace BK101 := am (BB BK101 hb); replace HB := am (below_step (K1 HB GE101.out) hb); (try clear hb); (try clear hb2); (try clear hk); (try clear hi); (try clear ho0); (try clear ho1); (try clear ho2); (try clear ho3); obtain ⟨Ao20, co20, eo20⟩ := Kd.R_slice HO106.out; subst eo20; obtain ⟨Ao21, co21, eo21⟩ := Kd.R_slice HO110.out; subst eo21; obtain ⟨Ao22, co22, eo22⟩ := Kd.S_slice HO113.out; subst eo22; obtain ⟨Ao23, co23, eo23⟩ := Kd.S_slice HO116.out; subst eo23) | ((with_reducible refine gate_callee (f := 30) rfl ?_); refine goesL_ (some 14) rfl rfl Try.func30 (by kernel_rfl) rfl #[.agg #[.int .i64 t103, .slice Ao20 t104.length co20, .int .i64 t107, .slice Ao21 t108.length co21, .slice Ao22 t111.length co22, .slice Ao23 t114.length co23]] rfl MT ?_; (with_reducible refine (spec_GateOk.calls k t103 _ _ t104 t107 _ _ t108 _ _ t111 _ _ t114 t117 _ ?side1 ?side2 ?side3 ?side4 ?side5 ?side6 ?side7 ?side8 A8.out).mono ?_); (case side1 => exact KC (Kd.R_reads' HO106.out).2.2); (case side2 => exact (Kd.R_reads' HO106.out).2.1); (case side3 => exact KC (Kd.R_reads' HO110.out).2.2); (case side4 => exact (Kd.R_reads' HO110.out).2.1); (case side5 => exact KC (Kd.S_reads' HO113.out).2.2); (case side6 => exact (Kd.S_reads' HO113.out).2.1); (case side7 => exact KC (Kd.S_reads' HO116.out).2.2); (case side8 => exact (Kd.S_reads' HO116.out).2.1); rintro e w24 ⟨rfl, hb⟩; refine ⟨_, rfl, ?_⟩; replace HO106 := am (Kd.R_below (KR HO106) hb); replace HO110 := am (Kd.R_below (KR HO110) hb); replace HO113 := am (Kd.S_below (by (with_reducible repeat (first | apply Kd.S_alloc | apply Kd.S_drewN | apply Kd.S_drew)); exact HO113.out) hb); replace HO116 := am (Kd.S_below (by (with_reducible repeat (first | apply Kd.S_alloc | apply Kd.S_drewN | apply Kd.S_drew)); exact HO116.out) hb); replace BK101 := am (BB BK101 hb); replace HB := am (below_step (K1 HB GE101.out) hb); (try clear hb); (try clear hb2); (try clear hk); (try clear hi); obtain ⟨hcz25_0, hcz25_1, hcz25_2, hcz25_3, hcz25_4, hcz25_5, hfz25_0⟩ := y6 w24 BK101.out) | ((with_reducible refine gate_callee (f := 31) rfl ?_); refine goesL_ (some 16) rfl rfl Try.func31 (by kernel_rfl) rfl #[.agg #[.int .i64 a0_0, .slice A0_1 l0_1.length c0_1, .int .i64 a0_2, .slice A0_3 l0_3.length c0_3, .slice A0_4 l0_4.length c0_4, .slice A0_5 l0_5.length c0_5]] rfl MT ?_; (with_reducible refine (laws_toGate.calls k a0_0 _ _ l0_1 a0_2 _ _ l0_3 _ _ l0_4 _ _ l0_5 t118 t119 t122 t123 t126 t129 _ ?side1 ?side2 ?side3 ?side4 ?side5 ?side6 ?side7 ?side8 A9.out).mono ?_); (case side1 => exact KD HR0_1 HB); (case side2 => exact HC0_1.out); (case side3 => exact KD HR0_3 HB); (case side4 => exact HC0_3.out); (case side5 => exact KD HR0_4 HB); (case side6 => exact HC0_4.out); (case side7 => exact KD HR0_5 HB); (case side8 => exact HC0_5.out); rintro e w26 ⟨v120, v124, v127, v130, rfl, ho0, ho1, ho2, ho3, hb⟩; refine ⟨_, rfl, ?_⟩; have HO121 := am (Kd.R_lower (Kd.R_new' ho0 (Kd.R_lt (KR HO106))) (below_size (K1 HB GE101.out))); replace HO106 := am (Kd.R_elder' (KR HO106) (Kd.R_base ho0) hb); have HO125 := am (Kd.R_lower (Kd.R_new' ho1 (Kd.R_lt (KR HO110))) (below_size (K1 HB GE101.out))); replace HO110 := am (Kd.R_elder' (KR HO110) (Kd.R_base ho1) hb); have HO128 := am (Kd.S_lower (Kd.S_new' (Kd.S_new' ho2 (Kd.S_lt (by (with_reducible repeat (first | apply Kd.S_alloc | apply Kd.S_drewN | apply Kd.S_drew)); exact HO113.out))) (Kd.S_lt (by (with_reducible repeat (first | apply Kd.S_alloc | apply Kd.S_drewN | apply Kd.S_drew)); exact HO116.out))) (below_size (K1 HB GE101.out))); have HO131 := am (Kd.S_lower (Kd.S_new' (Kd.S_new' ho3 (Kd.S_lt (by (with_reducible repeat (first | apply Kd.S_alloc | apply Kd.S_drewN | apply Kd.S_drew)); exact HO113.out))) (Kd.S_lt (by (with_reducible repeat (first | apply Kd.S_alloc | apply Kd.S_drewN | apply Kd.S_drew)); exact HO116.out))) (below_size (K1 HB GE101.out))); replace HO113 := am (Kd.S_mono (Kd.S_told (Kd.S_told (Kd.S_old (by (with_reducible repeat (first | apply Kd.S_alloc | apply Kd.S_drewN | apply Kd.S_drew)); exact HO113.out) hb) (Kd.S_base ho2)) (Kd.S_base ho3)) (fun _ h_ => h_.1)); replace HO116 := am (Kd.S_mono (Kd.S_told (Kd.S_told (Kd.S_old (by (with_reducible repeat (first | apply Kd.S_alloc | apply Kd.S_drewN | apply Kd.S_drew)); exact HO116.out) hb) (Kd.S_base ho2)) (Kd.S_base ho3)) (fun _ h_ => h_.1)); replace BK101 := am (BB BK101 hb); replace HB := am (below_step (K1 HB GE101.out) hb); (try clear hb); (try clear hb2); (try clear hk); (try clear hi); (try clear ho0); (try clear ho1); (try clear ho2); (try clear ho3)) | ((with_reducible refine gate_dst (N := 5) rfl ?_); refine box_event rfl (N := 5) rfl (cs := #[.int .i64 0, .slice none 0 0, .int .i64 0, .slice none 0 0, .slice none 0 0, .slice none 0 0]) (t := 57) BX ?_; intro gb132 hg w27 hbox hb; replace HO106 := am (Kd.R_below (KR HO106) hb); replace HO110 := am (Kd.R_below (KR HO110) hb); replace HO113 := am (Kd.S_below (by (with_reducible repeat (first | apply Kd.S_alloc | apply Kd.S_drewN | apply Kd.S_drew)); exact HO113.out) hb); replace HO116 := am (Kd.S_below (by (with_reducible repeat (first | apply Kd.S_alloc | apply Kd.S_drewN | apply Kd.S_drew)); exact HO116.out) hb); replace HO121 := am (Kd.R_below (KR HO121) hb); replace HO125 := am (Kd.R_below (KR HO125) hb); replace HO128 := am (Kd.S_below (by (with_reducible repeat (first | apply Kd.S_alloc | apply Kd.S_drewN | apply Kd.S_drew)); exact HO128.out) hb); replace HO131 := am (Kd.S_below (by (with_reducible repeat (first | apply Kd.S_alloc | apply Kd.S_drewN | apply Kd.S_drew)); exact HO131.out) hb); have BK132 := am (hbox); have GW132 := am (GH1 HB GE101.out hg); have GE132 := GW132; replace HB := am (below_step (K1 HB GE101.out) hb); have NB101_132 := am (NL BK101 hg); have NB132_101 := am (NG BK101 hg); replace BK101 := am (BB BK101 hb); clear hb hbox hg; have hnb28 := NB132_101.out; have hnc28 := NB101_132.out; obtain ⟨hcz29_0, hcz29_1, hcz29_2, hcz29_3, hcz29_4, hcz29_5, hfz29_0⟩ := y6 w27 BK132.out; obtain ⟨Ao30, co30, eo30⟩ := Kd.R_slice HO121.out; subst eo30; obtain ⟨Ao31, co31, eo31⟩ := Kd.R_slice HO125.out; subst eo31; obtain ⟨Ao32, co32, eo32⟩ := Kd.S_slice HO128.out; subst eo32; obtain ⟨Ao33, co33, eo33⟩ := Kd.S_slice HO131.out; subst eo33) | ((with_reducible refine gate_callee (f := 32) rfl ?_); refine goesL_ (some 18) rfl rfl Try.func32 (by kernel_rfl) rfl #[.agg #[.int .i64 t118, .slice Ao30 t119.length co30, .int .i64 t122, .slice Ao31 t123.length co31, .slice Ao32 t126.length co32, .slice Ao33 t129.length co33]] rfl MT ?_; (with_reducible refine (impl_GateOk.calls k t118 _ _ t119 t122 _ _ t123 _ _ t126 _ _ t129 t133 _ ?side1 ?side2 ?side3 ?side4 ?side5 ?side6 ?side7 ?side8 A10.out).mono ?_); (case side1 => refine (Kd.R_reads' (e := 141) (base := w.heap.size) (ok := fun k_ => (True ∧ some k_ ≠ (.slice Ao20 t104.length co20 : Value).ownBlock)) (n := t119.length) (c := co30) ?_).2.2; exact (by (with_reducible repeat (first | apply Kd.R_alloc | apply Kd.R_drewN | apply Kd.R_drew)); exact (RF HO121.out BK132.out))); (case side2 => exact (Kd.R_reads' HO121.out).2.1); (case side3 => refine (Kd.R_reads' (e := 136) (base := w.heap.size) (ok := fun k_ => (True ∧ some k_ ≠ (.slice Ao21 t108.length co21 : Value).ownBlock)) (n := t123.length) (c := co31) ?_).2.2; exact (by (with_reducible repeat (first | apply Kd.R_alloc | apply Kd.R_drewN | apply Kd.R_drew)); exact (RF HO125.out BK132.out))); (case side4 => exact (Kd.R_reads' HO125.out).2.1); (case side5 => refine (Kd.S_reads' (e := 95) (base := w.heap.size) (ok := fun k_ => ((some k_ ≠ (.slice Ao33 t129.length co33 : Value).ownBlock ∧ some k_ ≠ (.slice Ao22 t111.length co22 : Value).ownBlock) ∧ some k_ ≠ (.slice Ao23 t114.length co23 : Value).ownBlock)) (n := t126.length) (c := co32) ?_).2.2; exact (by (with_reducible repeat (first | apply Kd.S_alloc | apply Kd.S_drewN | apply Kd.S_drew)); exact (SF HO128.out BK132.out))); (case side6 => exact (Kd.S_reads' HO128.out).2.1); (case side7 => refine (Kd.S_reads' (e := 95) (base := w.heap.size) (ok := fun k_ => ((some k_ ≠ (.slice Ao32 t126.length co32 : Value).ownBlock ∧ some k_ ≠ (.slice Ao22 t111.length co22 : Value).ownBlock) ∧ some k_ ≠ (.slice Ao23 t114.length co23 : Value).ownBlock)) (n := t129.length) (c := co33) ?_).2.2; exact (by (with_reducible repeat (first | apply Kd.S_alloc | apply Kd.S_drewN | apply Kd.S_drew)); exact (SF HO131.out BK132.out))); (case side8 => exact (Kd.S_reads' HO131.out).2.1); rintro e w34 ⟨rfl, hb⟩; refine ⟨_, rfl, ?_⟩; replace HO106 := am (Kd.R_below (by (with_reducible repeat (first | apply Kd.R_alloc | apply Kd.R_drewN | apply Kd.R_drew)); exact (RF HO106.out BK132.out)) hb); replace HO110 := am (Kd.R_below (by (with_reducible repeat (first | apply Kd.R_alloc | apply Kd.R_drewN | apply Kd.R_drew)); exact (RF HO110.out BK132.out)) hb); replace HO113 := am (Kd.S_below (by (with_reducible repeat (first | apply Kd.S_alloc | apply Kd.S_drewN | apply Kd.S_drew)); exact (SF HO113.out BK132.out)) hb); replace HO116 := am (Kd.S_below (by (with_reducible repeat (first | apply Kd.S_alloc | apply Kd.S_drewN | apply Kd.S_drew)); exact (SF HO116.out BK132.out)) hb); replace HO121 := am (Kd.R_below (by (with_reducible repeat (first | apply Kd.R_alloc | apply Kd.R_drewN | apply Kd.R_drew)); exact (RF HO121.out BK132.out)) hb); replace HO125 := am (Kd.R_below (by (with_reducible repeat (first | apply Kd.R_alloc | apply Kd.R_drewN | apply Kd.R_drew)); exact (RF HO125.out BK132.out)) hb); replace HO128 := am (Kd.S_below (by (with_reducible repeat (first | apply Kd.S_alloc | apply Kd.S_drewN | apply Kd.S_drew)); exact (SF HO128.out BK132.out)) hb); replace HO131 := am (Kd.S_below (by (with_reducible repeat (first | apply Kd.S_alloc | apply Kd.S_drewN | apply Kd.S_drew)); exact (SF HO131.out BK132.out)) hb); replace BK101 := am (blk_below (g := gb101) (o := .cells #[.int .i64 a0_0, .slice A0_1 l0_1.length c0_1, .int .i64 a0_2, .slice A0_3 l0_3.length c0_3, .slice A0_4 l0_4.length c0_4, .slice A0_5 l0_5.length c0_5] 48 (0, 0)) (by (with_reducible repeat (first | refine blk_drewN ?_ _ | refine blk_drew ?_ | refine blk_alloc ?_ _)); refine blk_far ?_ NB101_132.out _; (with_reducible repeat (first | refine blk_drewN ?_ _ | refine blk_drew ?_ | refine blk_alloc ?_ _)); refine blk_far ?_ NB101_132.out _; (with_reducible repeat (first | refine blk_drewN ?_ _ | refine blk_drew ?_ | refine blk_alloc ?_ _)); refine blk_far ?_ NB101_132.out _; (with_reducible repeat (first | refine blk_drewN ?_ _ | refine blk_drew ?_ | refine blk_alloc ?_ _)); refine blk_far ?_ NB101_132.out _; (with_reducible repeat (first | refine blk_drewN ?_ _ | refine blk_drew ?_ | refine blk_alloc ?_ _)); refine blk_far ?_ NB101_132.out _; (with_reducible repeat (first | refine blk_drewN ?_ _ | refine blk_drew ?_ | refine blk_alloc ?_ _)); refine blk_far ?_ NB101_132.out _; (with_reducible repeat (first | refine blk_drewN ?_ _ | refine blk_drew ?_ | refine blk_alloc ?_ _)); exact BK101.out) hb); replace BK132 := am (blk_below (g := gb132) (o := .cells #[.int .i64 t118, .slice Ao30 t119.length co30, .int .i64 t122, .slice Ao31 t123.length co31, .slice Ao32 t126.length co32, .slice Ao33 t129.length co33] 57 (0, 0)) (by (with_reducible repeat (first | refine blk_drewN ?_ _ | refine blk_drew ?_ | refine blk_alloc ?_ _)); refine blk_put (cs := #[.int .i64 t118, .slice Ao30 t119.length co30, .int .i64 t122, .slice Ao31 t123.length co31, .slice Ao32 t126.length co32, .slice none 0 0]) ?_ 5 _ rfl; (with_reducible repeat (first | refine blk_drewN ?_ _ | refine blk_drew ?_ | refine blk_alloc ?_ _)); refine blk_put (cs := #[.int .i64 t118, .slice Ao30 t119.length co30, .int .i64 t122, .slice Ao31 t123.length co31, .slice none 0 0, .slice none 0 0]) ?_ 4 _ rfl; (with_reducible repeat (first | refine blk_drewN ?_ _ | refine blk_drew ?_ | refine blk_alloc ?_ _)); refine blk_put (cs := #[.int .i64 t118, .slice Ao30 t119.length co30, .int .i64 t122, .slice none 0 0, .slice none 0 0, .slice none 0 0]) ?_ 3 _ rfl; (with_reducible repeat (first | refine blk_drewN ?_ _ | refine blk_drew ?_ | refine blk_alloc ?_ _)); refine blk_put (cs := #[.int .i64 t118, .slice Ao30 t119.length co30, .int .i64 0, .slice none 0 0, .slice none 0 0, .slice none 0 0]) ?_ 2 _ rfl; (with_reducible repeat (first | refine blk_drewN ?_ _ | refine blk_drew ?_ | refine blk_alloc ?_ _)); refine blk_put (cs := #[.int .i64 t118, .slice none 0 0, .int .i64 0, .slice none 0 0, .slice none 0 0, .slice none 0 0]) ?_ 1 _ rfl; (with_reducible repeat (first | refine blk_drewN ?_ _ | refine blk_drew ?_ | refine blk_alloc ?_ _)); refine blk_put (cs := #[.int .i64 0, .slice none 0 0, .int .i64 0, .slice none 0 0, .slice none 0 0, .slice none 0 0]) ?_ 0 _ rfl; (with_reducible repeat (first | refine blk_drewN ?_ _ | refine blk_drew ?_ | refine blk_alloc ?_ _)); exact BK132.out) hb); replace HB := am (below_step (K2 HB GE101.out GE132.out) hb); (try clear hb); (try clear hb2); (try clear hk); (try clear hi)))
    replace HO106 := am (Kd.R_drew HO106.out)
    replace HO110 := am (Kd.R_drew HO110.out)
    replace HO113 := am (Kd.S_drew HO113.out)
    replace HO116 := am (Kd.S_drew HO116.out)
    replace HO121 := am (Kd.R_drew HO121.out)
    replace HO125 := am (Kd.R_drew HO125.out)
    replace HO128 := am (Kd.S_drew HO128.out)
    replace HO131 := am (Kd.S_drew HO131.out)
    replace BK101 := am (blk_drew BK101.out)
    replace BK132 := am (blk_drew BK132.out)
    replace HB := am (below_drew1 HB.out)
    refine start_ (n := 5) (S := fun w' => ce6 w' gb132 (.int .i64 t118) (.slice Ao30 t119.length co30) (.int .i64 t122) (.slice Ao31 t123.length co31) (.slice Ao32 t126.length co32) (.slice Ao33 t129.length co33) (de6 w' gb101 (.int .i64 a0_0) (.slice A0_1 l0_1.length c0_1) (.int .i64 a0_2) (.slice A0_3 l0_3.length c0_3) (.slice A0_4 l0_4.length c0_4) (.slice A0_5 l0_5.length c0_5))) (ds := []) (tf 0 5) (by kernel_rfl) rfl rfl ⟨z0 _ BK132.out, z1 _ BK132.out, z2 _ BK132.out, z3 _ BK132.out, z4 _ BK132.out, z5 _ BK132.out, z0 _ BK101.out, z1 _ BK101.out, z2 _ BK101.out, z3 _ BK101.out, z4 _ BK101.out, z5 _ BK101.out⟩ (fun hHeld => ?_)
    generalize w34.drew = w35 at HO106 HO110 HO113 HO116 HO121 HO125 HO128 HO131 BK101 BK132 HB hHeld ⊢
    refine take_ (i := 0) (N := some 22) (v := ?_) (a' := ?_) (tf 1 4) rfl rfl (by kernel_rfl) (fun _ _ _ h => h) (Or.inl ⟨by rfl, ?_⟩) hHeld ?_ ?_
    rotate_left
    ·rintro w' ⟨s0, s1, s2, s3, s4, s5, s6, s7, s8, s9, s10, s11⟩
     go_simp
     with_reducible rfl
    rotate_left
    ·simp only [Act.put, List.setIfInBounds_toArray, List.set_cons_zero, List.set_cons_succ, i64_w, i32_w]
     rfl
    refine take_ (i := 1) (N := some 23) (v := ?_) (a' := ?_) (tf 2 3) rfl rfl (by kernel_rfl) (fun _ _ _ h => h) (Or.inl ⟨by rfl, ?_⟩) hHeld ?_ ?_
    rotate_left
    ·rintro w' ⟨s0, s1, s2, s3, s4, s5, s6, s7, s8, s9, s10, s11⟩
     go_simp
     with_reducible rfl
    rotate_left
    ·simp only [Act.put, List.setIfInBounds_toArray, List.set_cons_zero, List.set_cons_succ, i64_w, i32_w]
     rfl
    refine one_ (i := 2) (N := some 24) (tf 3 2) rfl rfl (by kernel_rfl) (by decide) (fun K hK => ?_)
    refine goes_ Try.func31 (by kernel_rfl) rfl #[.agg #[.int .i64 a0_0, .slice A0_1 l0_1.length c0_1, .int .i64 a0_2, .slice A0_3 l0_3.length c0_3, .slice A0_4 l0_4.length c0_4, .slice A0_5 l0_5.length c0_5]] (by rfl) rfl rfl MT ?_
    with_reducible refine (laws_toGate.calls k a0_0 _ _ l0_1 a0_2 _ _ l0_3 _ _ l0_4 _ _ l0_5 t134 t135 t138 t139 t142 t145 _ ?side1 ?side2 ?side3 ?side4 ?side5 ?side6 ?side7 ?side8 A12.out).mono ?_
    (case side1 => exact KD HR0_1 HB)
    (case side2 => exact HC0_1.out)
    (case side3 => exact KD HR0_3 HB)
    (case side4 => exact HC0_3.out)
    (case side5 => exact KD HR0_4 HB)
    (case side6 => exact HC0_4.out)
    (case side7 => exact KD HR0_5 HB)
    (case side8 => exact HC0_5.out)
    rintro e w36 ⟨v136, v140, v143, v146, rfl, ho0, ho1, ho2, ho3, hb⟩
    refine ⟨_, rfl, ?_⟩
    have HO137 := am (Kd.R_lower (Kd.R_new' (Kd.R_new' ho0 (Kd.R_lt (KR HO106))) (Kd.R_lt (KR HO121))) (below_size (K2 HB GE101.out GE132.out)))
    replace HO106 := am (Kd.R_elder' (KR HO106) (Kd.R_base ho0) hb)
    replace HO121 := am (Kd.R_elder' (KR HO121) (Kd.R_base ho0) hb)
    have HO141 := am (Kd.R_lower (Kd.R_new' (Kd.R_new' ho1 (Kd.R_lt (KR HO110))) (Kd.R_lt (KR HO125))) (below_size (K2 HB GE101.out GE132.out)))
    replace HO110 := am (Kd.R_elder' (KR HO110) (Kd.R_base ho1) hb)
    replace HO125 := am (Kd.R_elder' (KR HO125) (Kd.R_base ho1) hb)
    have HO144 := am (Kd.S_lower (Kd.S_new' (Kd.S_new' (Kd.S_new' (Kd.S_new' ho2 (Kd.S_lt (by (with_reducible repeat (first | apply Kd.S_alloc | apply Kd.S_drewN | apply Kd.S_drew)); exact HO113.out))) (Kd.S_lt (by (with_reducible repeat (first | apply Kd.S_alloc | apply Kd.S_drewN | apply Kd.S_drew)); exact HO116.out))) (Kd.S_lt (by (with_reducible repeat (first | apply Kd.S_alloc | apply Kd.S_drewN | apply Kd.S_drew)); exact HO128.out))) (Kd.S_lt (by (with_reducible repeat (first | apply Kd.S_alloc | apply Kd.S_drewN | apply Kd.S_drew)); exact HO131.out))) (below_size (K2 HB GE101.out GE132.out)))
    have HO147 := am (Kd.S_lower (Kd.S_new' (Kd.S_new' (Kd.S_new' (Kd.S_new' ho3 (Kd.S_lt (by (with_reducible repeat (first | apply Kd.S_alloc | apply Kd.S_drewN | apply Kd.S_drew)); exact HO113.out))) (Kd.S_lt (by (with_reducible repeat (first | apply Kd.S_alloc | apply Kd.S_drewN | apply Kd.S_drew)); exact HO116.out))) (Kd.S_lt (by (with_reducible repeat (first | apply Kd.S_alloc | apply Kd.S_drewN | apply Kd.S_drew)); exact HO128.out))) (Kd.S_lt (by (with_reducible repeat (first | apply Kd.S_alloc | apply Kd.S_drewN | apply Kd.S_drew)); exact HO131.out))) (below_size (K2 HB GE101.out GE132.out)))
    replace HO113 := am (Kd.S_mono (Kd.S_told (Kd.S_told (Kd.S_old (by (with_reducible repeat (first | apply Kd.S_alloc | apply Kd.S_drewN | apply Kd.S_drew)); exact HO113.out) hb) (Kd.S_base ho2)) (Kd.S_base ho3)) (fun _ h_ => h_.1))
    replace HO116 := am (Kd.S_mono (Kd.S_told (Kd.S_told (Kd.S_old (by (with_reducible repeat (first | apply Kd.S_alloc | apply Kd.S_drewN | apply Kd.S_drew)); exact HO116.out) hb) (Kd.S_base ho2)) (Kd.S_base ho3)) (fun _ h_ => h_.1))
    replace HO128 := am (Kd.S_mono (Kd.S_told (Kd.S_told (Kd.S_old (by (with_reducible repeat (first | apply Kd.S_alloc | apply Kd.S_drewN | apply Kd.S_drew)); exact HO128.out) hb) (Kd.S_base ho2)) (Kd.S_base ho3)) (fun _ h_ => h_.1))
    replace HO131 := am (Kd.S_mono (Kd.S_told (Kd.S_told (Kd.S_old (by (with_reducible repeat (first | apply Kd.S_alloc | apply Kd.S_drewN | apply Kd.S_drew)); exact HO131.out) hb) (Kd.S_base ho2)) (Kd.S_base ho3)) (fun _ h_ => h_.1))
    replace BK101 := am (BB BK101 hb)
    replace BK132 := am (BB BK132 hb)
    replace HB := am (below_step (K2 HB GE101.out GE132.out) hb)
    (try clear hb)
    (try clear hb2)
    (try clear hk)
    (try clear hi)
    (try clear ho0)
    (try clear ho1)
    (try clear ho2)
    (try clear ho3)
    obtain ⟨Ao37, co37, eo37⟩ := Kd.R_slice HO137.out
    (first | subst eo37 | (injection eo37 with f1_ f2_ f3_; have f4_ := f1_.symm; have f5_ := f3_.symm; clear f1_ f2_ f3_; subst f4_; subst f5_))
    obtain ⟨Ao38, co38, eo38⟩ := Kd.R_slice HO141.out
    (first | subst eo38 | (injection eo38 with f1_ f2_ f3_; have f4_ := f1_.symm; have f5_ := f3_.symm; clear f1_ f2_ f3_; subst f4_; subst f5_))
    obtain ⟨Ao39, co39, eo39⟩ := Kd.S_slice HO144.out
    (first | subst eo39 | (injection eo39 with f1_ f2_ f3_; have f4_ := f1_.symm; have f5_ := f3_.symm; clear f1_ f2_ f3_; subst f4_; subst f5_))
    obtain ⟨Ao40, co40, eo40⟩ := Kd.S_slice HO147.out
    (first | subst eo40 | (injection eo40 with f1_ f2_ f3_; have f4_ := f1_.symm; have f5_ := f3_.symm; clear f1_ f2_ f3_; subst f4_; subst f5_))
    refine hK.out _ _ ⟨z0 _ BK132.out, z1 _ BK132.out, z2 _ BK132.out, z3 _ BK132.out, z4 _ BK132.out, z5 _ BK132.out, z0 _ BK101.out, z1 _ BK101.out, z2 _ BK101.out, z3 _ BK101.out, z4 _ BK101.out, z5 _ BK101.out⟩ (fun hHeld => ?_)
    clear hK K
    refine norm_ (a' := ?_) ?_ ?_
    rotate_left
    ·show Act.put _ (some 24) _ = _
     simp only [Act.put, List.setIfInBounds_toArray, List.set_cons_zero, List.set_cons_succ, i64_w, i32_w]
     rfl
    refine one_ (i := 3) (N := some 25) (tf 4 1) rfl rfl (by kernel_rfl) (by decide) (fun K hK => ?_)
    refine goes_ Try.func33 (by kernel_rfl) rfl #[.agg #[.int .i64 t118, .slice Ao30 t119.length co30, .int .i64 t122, .slice Ao31 t123.length co31, .slice Ao32 t126.length co32, .slice Ao33 t129.length co33], .agg #[.int .i64 t134, .slice Ao37 t135.length co37, .int .i64 t138, .slice Ao38 t139.length co38, .slice Ao39 t142.length co39, .slice Ao40 t145.length co40]] (by rfl) rfl rfl MT ?_
    with_reducible refine (laws_eqGate.calls k t118 _ _ t119 t122 _ _ t123 _ _ t126 _ _ t129 t134 _ _ t135 t138 _ _ t139 _ _ t142 _ _ t145 true _ ?side1 ?side2 ?side3 ?side4 ?side5 ?side6 ?side7 ?side8 ?side9 ?side10 ?side11 ?side12 ?side13 ?side14 ?side15 ?side16 A13.out).mono ?_
    (case side1 => exact KC (Kd.R_reads' HO121.out).2.2)
    (case side2 => exact (Kd.R_reads' HO121.out).2.1)
    (case side3 => exact KC (Kd.R_reads' HO125.out).2.2)
    (case side4 => exact (Kd.R_reads' HO125.out).2.1)
    (case side5 => exact KC (Kd.S_reads' HO128.out).2.2)
    (case side6 => exact (Kd.S_reads' HO128.out).2.1)
    (case side7 => exact KC (Kd.S_reads' HO131.out).2.2)
    (case side8 => exact (Kd.S_reads' HO131.out).2.1)
    (case side9 => exact KC (Kd.R_reads' HO137.out).2.2)
    (case side10 => exact (Kd.R_reads' HO137.out).2.1)
    (case side11 => exact KC (Kd.R_reads' HO141.out).2.2)
    (case side12 => exact (Kd.R_reads' HO141.out).2.1)
    (case side13 => exact KC (Kd.S_reads' HO144.out).2.2)
    (case side14 => exact (Kd.S_reads' HO144.out).2.1)
    (case side15 => exact KC (Kd.S_reads' HO147.out).2.2)
    (case side16 => exact (Kd.S_reads' HO147.out).2.1)
    rintro e w41 ⟨rfl, hb⟩
    refine ⟨_, rfl, ?_⟩
    replace HO106 := am (Kd.R_below (KR HO106) hb)
    replace HO110 := am (Kd.R_below (KR HO110) hb)
    replace HO113 := am (Kd.S_below (by (with_reducible repeat (first | apply Kd.S_alloc | apply Kd.S_drewN | apply Kd.S_drew)); exact HO113.out) hb)
    replace HO116 := am (Kd.S_below (by (with_reducible repeat (first | apply Kd.S_alloc | apply Kd.S_drewN | apply Kd.S_drew)); exact HO116.out) hb)
    replace HO121 := am (Kd.R_below (KR HO121) hb)
    replace HO125 := am (Kd.R_below (KR HO125) hb)
    replace HO128 := am (Kd.S_below (by (with_reducible repeat (first | apply Kd.S_alloc | apply Kd.S_drewN | apply Kd.S_drew)); exact HO128.out) hb)
    replace HO131 := am (Kd.S_below (by (with_reducible repeat (first | apply Kd.S_alloc | apply Kd.S_drewN | apply Kd.S_drew)); exact HO131.out) hb)
    replace HO137 := am (Kd.R_below (KR HO137) hb)
    replace HO141 := am (Kd.R_below (KR HO141) hb)
    replace HO144 := am (Kd.S_below (by (with_reducible repeat (first | apply Kd.S_alloc | apply Kd.S_drewN | apply Kd.S_drew)); exact HO144.out) hb)
    replace HO147 := am (Kd.S_below (by (with_reducible repeat (first | apply Kd.S_alloc | apply Kd.S_drewN | apply Kd.S_drew)); exact HO147.out) hb)
    replace BK101 := am (BB BK101 hb)
    replace BK132 := am (BB BK132 hb)
    replace HB := am (below_step (K2 HB GE101.out GE132.out) hb)
    (try clear hb)
    (try clear hb2)
    (try clear hk)
    (try clear hi)
    refine hK.out _ _ ⟨z0 _ BK132.out, z1 _ BK132.out, z2 _ BK132.out, z3 _ BK132.out, z4 _ BK132.out, z5 _ BK132.out, z0 _ BK101.out, z1 _ BK101.out, z2 _ BK101.out, z3 _ BK101.out, z4 _ BK101.out, z5 _ BK101.out⟩ (fun hHeld => ?_)
    clear hK K
    refine norm_ (a' := ?_) ?_ ?_
    rotate_left
    ·show Act.put _ (some 25) _ = _
     simp only [Act.put, List.setIfInBounds_toArray, List.set_cons_zero, List.set_cons_succ, i64_w, i32_w]
     rfl
    refine pure_ (i := 4) (N := some 26) (v := ?_) (a' := ?_) (tf 5 0) rfl rfl (by kernel_rfl) (fun _ _ _ h => h) (Or.inl ⟨by rfl, ?_⟩) ?_ ?_; rotate_left; (· intro w'; go_simp; with_reducible rfl); rotate_left; (· simp only [Act.put, List.setIfInBounds_toArray, List.set_cons_zero, List.set_cons_succ, i64_w, i32_w]; rfl)
    refine done_ (by kernel_rfl) ?_
    try go_wp2
    go_ret
    exact ⟨ER, K2 HB GE101.out GE132.out⟩
   ·replace c14 := Bool.eq_false_iff.mpr c14
    subst c14
    have H1 : (some false) = some r := by rw [if_neg (show ¬ (false = true) by decide)] at H; exact H
    clear H
    have H := H1
    clear H1
    exact absurd ((Option.some.inj H).trans HR_.out) (by decide)
def laws_FnExactGateOk.Pure : Prop := ∀ (a0_0 : Int) (l0_1 : List (S145)) (a0_2 : Int) (l0_3 : List (S170)) (l0_4 : List (S132)) (l0_5 : List (S132)), ((Lit.int .i64 a0_0).wf = true) → ((l0_1.length ≤ maxLen ∧ ∀ x_ ∈ l0_1, wfT145 x_)) → ((Lit.int .i64 a0_2).wf = true) → ((l0_3.length ≤ maxLen ∧ ∀ x_ ∈ l0_3, wfT170 x_)) → ((l0_4.length ≤ maxLen ∧ ∀ x_ ∈ l0_4, wfT132 x_)) → ((l0_5.length ≤ maxLen ∧ ∀ x_ ∈ l0_5, wfT132 x_)) → ∃ k, laws_FnExactGateOk.f k a0_0 l0_1 a0_2 l0_3 l0_4 l0_5 = some true
theorem laws_FnExactGateOk.walk (P : laws_FnExactGateOk.Pure) (a0_0 : Int) (A0_1 : Option Addr) (c0_1 : Nat) (l0_1 : List (S145)) (a0_2 : Int) (A0_3 : Option Addr) (c0_3 : Nat) (l0_3 : List (S170)) (A0_4 : Option Addr) (c0_4 : Nat) (l0_4 : List (S132)) (A0_5 : Option Addr) (c0_5 : Nat) (l0_5 : List (S132)) (w : World) (hr0_1 : Kd.C k145 w A0_1 l0_1.length l0_1) (hc0_1 : l0_1.length ≤ c0_1) (hr0_3 : Kd.C k170 w A0_3 l0_3.length l0_3) (hc0_3 : l0_3.length ≤ c0_3) (hr0_4 : Kd.C k132 w A0_4 l0_4.length l0_4) (hc0_4 : l0_4.length ≤ c0_4) (hr0_5 : Kd.C k132 w A0_5 l0_5.length l0_5) (hc0_5 : l0_5.length ≤ c0_5) (q0_ : (Lit.int .i64 a0_0).wf = true) (q1_ : (l0_1.length ≤ maxLen ∧ ∀ x_ ∈ l0_1, wfT145 x_)) (q2_ : (Lit.int .i64 a0_2).wf = true) (q3_ : (l0_3.length ≤ maxLen ∧ ∀ x_ ∈ l0_3, wfT170 x_)) (q4_ : (l0_4.length ≤ maxLen ∧ ∀ x_ ∈ l0_4, wfT132 x_)) (q5_ : (l0_5.length ≤ maxLen ∧ ∀ x_ ∈ l0_5, wfT132 x_)) :
  Calls Try.prog 7 #[.agg #[.int .i64 a0_0, .slice A0_1 l0_1.length c0_1, .int .i64 a0_2, .slice A0_3 l0_3.length c0_3, .slice A0_4 l0_4.length c0_4, .slice A0_5 l0_5.length c0_5]] w fun e w' => e = .returned (.bool true) ∧ Below w.heap.size w w' := by
 obtain ⟨k, h⟩ := P a0_0 l0_1 a0_2 l0_3 l0_4 l0_5 q0_ q1_ q2_ q3_ q4_ q5_
 refine (laws_FnExactGateOk.calls k a0_0 A0_1 c0_1 l0_1 a0_2 A0_3 c0_3 l0_3 A0_4 c0_4 l0_4 A0_5 c0_5 l0_5 true w hr0_1 hc0_1 hr0_3 hc0_3 hr0_4 hc0_4 hr0_5 hc0_5 rfl h).mono ?_
 rintro e w' ⟨rfl, hd⟩
 exact ⟨rfl, hd⟩
end Go.Proofs.Ytlpmmmhfceeiaaa.PAll
end
