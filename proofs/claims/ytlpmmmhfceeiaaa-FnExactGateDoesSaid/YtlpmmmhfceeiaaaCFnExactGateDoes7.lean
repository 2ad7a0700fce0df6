/- Contracts of the functions that the statement reaches, printed by a program out of the translation and joined with the plain laws. -/
import Derived.Test.YtlpmmmhfceeiaaaCFnExactGateDoes3
import Derived.Test.YtlpmmmhfceeiaaaCFnExactGateDoes4
import Derived.Test.YtlpmmmhfceeiaaaCFnExactGateDoes6
section
namespace Go.Proofs.Ytlpmmmhfceeiaaa.PAll
open Go.RowKit Go.Proofs.YtlpmmmhfceeiaaaW.PrintWords Go.Proofs.YtlpmmmhfceeiaaaW.PrintLast Go.Proofs.YtlpmmmhfceeiaaaW.PrintMore
attribute [local go_sem] max2_int min2_int max_two min_two max_three min_three max_four min_four   -- for this text's walks alone
set_option linter.unusedVariables false
set_option linter.unusedSimpArgs false
mutual
def spec_GateOk.j0 : Nat → Bool → Int → List (S141) → Int → List (S136) → List (S95) → List (S95) → Option (Bool)
 | 0, _, _, _, _, _, _, _ => none
 | k + 1, x34, x102000, x102001, x102002, x102003, x102004, x102005 => if x34 = true then (some false) else (spec_GateOk.l0 k 0 x102000 x102001 x102002 x102003 x102004 x102005)
def spec_GateOk.l0 : Nat → Int → Int → List (S141) → Int → List (S136) → List (S95) → List (S95) → Option (Bool)
 | 0, _, _, _, _, _, _, _ => none
 | k + 1, x3, x102000, x102001, x102002, x102003, x102004, x102005 => if x3 < (x102004.length : Int) then (if 0 ≤ x3 then ((spec_SaOk.f k ((rd_T95 x102004 x3).f0) ((rd_T95 x102004 x3).f1) ((rd_T95 x102004 x3).f2) ((rd_T95 x102004 x3).f3) ((rd_T95 x102004 x3).f4) ((rd_T95 x102004 x3).f5) ((rd_T95 x102004 x3).f6) ((rd_T95 x102004 x3).f7) ((rd_T95 x102004 x3).f8) ((rd_T95 x102004 x3).f9.f0) ((rd_T95 x102004 x3).f9.f1)).bind fun t105 => (if t105 = true then (if ((rd_T95 x102004 x3).f4) > x102000 then (spec_GateOk.j2 k x3 true x102000 x102001 x102002 x102003 x102004 x102005) else (if x3 > 0 then (if 0 ≤ (wrap64 (x3 - 1)) then (if (wrap64 (x3 - 1)) < (x102004.length : Int) then (spec_GateOk.j2 k x3 (decide (((rd_T95 x102004 (wrap64 (x3 - 1))).f1) ≥ ((rd_T95 x102004 x3).f1))) x102000 x102001 x102002 x102003 x102004 x102005) else (none)) else (none)) else (spec_GateOk.j2 k x3 false x102000 x102001 x102002 x102003 x102004 x102005))) else (spec_GateOk.j2 k x3 true x102000 x102001 x102002 x102003 x102004 x102005))) else (none)) else (spec_GateOk.l1 k 0 x102000 x102001 x102002 x102003 x102004 x102005)
def spec_GateOk.j2 : Nat → Int → Bool → Int → List (S141) → Int → List (S136) → List (S95) → List (S95) → Option (Bool)
 | 0, _, _, _, _, _, _, _, _ => none
 | k + 1, x3, x79, x102000, x102001, x102002, x102003, x102004, x102005 => if x79 = true then (some false) else (spec_GateOk.l0 k (wrap64 (x3 + 1)) x102000 x102001 x102002 x102003 x102004 x102005)
def spec_GateOk.l1 : Nat → Int → Int → List (S141) → Int → List (S136) → List (S95) → List (S95) → Option (Bool)
 | 0, _, _, _, _, _, _, _ => none
 | k + 1, x4, x102000, x102001, x102002, x102003, x102004, x102005 => if x4 < (x102005.length : Int) then (if 0 ≤ x4 then ((spec_SaOk.f k ((rd_T95 x102005 x4).f0) ((rd_T95 x102005 x4).f1) ((rd_T95 x102005 x4).f2) ((rd_T95 x102005 x4).f3) ((rd_T95 x102005 x4).f4) ((rd_T95 x102005 x4).f5) ((rd_T95 x102005 x4).f6) ((rd_T95 x102005 x4).f7) ((rd_T95 x102005 x4).f8) ((rd_T95 x102005 x4).f9.f0) ((rd_T95 x102005 x4).f9.f1)).bind fun t110 => (if t110 = true then (if ((rd_T95 x102005 x4).f4) > x102000 then (spec_GateOk.j4 k x4 true x102000 x102001 x102002 x102003 x102004 x102005) else (if x4 > 0 then (if 0 ≤ (wrap64 (x4 - 1)) then (if (wrap64 (x4 - 1)) < (x102005.length : Int) then (spec_GateOk.j4 k x4 (decide (((rd_T95 x102005 (wrap64 (x4 - 1))).f0) ≥ ((rd_T95 x102005 x4).f0))) x102000 x102001 x102002 x102003 x102004 x102005) else (none)) else (none)) else (spec_GateOk.j4 k x4 false x102000 x102001 x102002 x102003 x102004 x102005))) else (spec_GateOk.j4 k x4 true x102000 x102001 x102002 x102003 x102004 x102005))) else (none)) else (some true)
def spec_GateOk.j4 : Nat → Int → Bool → Int → List (S141) → Int → List (S136) → List (S95) → List (S95) → Option (Bool)
 | 0, _, _, _, _, _, _, _, _ => none
 | k + 1, x4, x124, x102000, x102001, x102002, x102003, x102004, x102005 => if x124 = true then (some false) else (spec_GateOk.l1 k (wrap64 (x4 + 1)) x102000 x102001 x102002 x102003 x102004 x102005)
end
def spec_GateOk.f (k : Nat) (a0_0 : Int) (l0_1 : List (S141)) (a0_2 : Int) (l0_3 : List (S136)) (l0_4 : List (S95)) (l0_5 : List (S95)) : Option (Bool) := (spec_l1In.f a0_0 0 1000000).bind fun t102 => (if t102 = true then (if a0_2 = 4 then ((spec_CacheOk.f k l0_1 a0_2 l0_3).bind fun t103 => (if t103 = true then (if (l0_4.length : Int) > 4 then (spec_GateOk.j0 k true a0_0 l0_1 a0_2 l0_3 l0_4 l0_5) else (spec_GateOk.j0 k (decide ((l0_5.length : Int) > 6)) a0_0 l0_1 a0_2 l0_3 l0_4 l0_5)) else (spec_GateOk.j0 k true a0_0 l0_1 a0_2 l0_3 l0_4 l0_5))) else (spec_GateOk.j0 k true a0_0 l0_1 a0_2 l0_3 l0_4 l0_5)) else (spec_GateOk.j0 k true a0_0 l0_1 a0_2 l0_3 l0_4 l0_5))
def spec_GateOk.T6 : Bool × List (List Nat × List Nat) := (true, [([], []), ([0], [0]), ([], []), ([1, 2], [1, 2]), ([3], [3]), ([4], [4]), ([5], [5]), ([6, 5], [6]), ([7], [7]), ([8, 7], [7, 8]), ([7], [7]), ([9, 10, 7], [7, 9, 10]), ([11, 7], [7, 11]), ([12, 7], [7, 12]), ([7], [7]), ([14, 7], [7, 14]), ([13, 15, 7], [7, 13, 15]), ([7, 16], [7, 16]), ([17, 7], [17]), ([18], [18]), ([19, 18], [18, 19]), ([20, 18, 18], [18, 20]), ([21], [21]), ([22, 21], [21, 22]), ([21], [21]), ([24, 21], [21, 24]), ([23, 25, 21], [21, 23, 25]), ([26, 21], [21, 26]), ([27, 21], [21, 27]), ([21], [21]), ([29, 21], [21, 29]), ([21], [21]), ([30, 31, 21], [21, 30, 31]), ([32, 21], [21, 32]), ([33, 21], [21, 33]), ([28, 34, 21], [21, 28, 34]), ([21, 35, 18], [18, 21, 35]), ([18, 36], [18, 36])])
def spec_GateOk.B6 : List Nat := [0, 1, 0, 7, 15, 31, 63, 127, 255, 511, 255, 2047, 4095, 8191, 255, 16639, 65535, 131071, 262143, 524287, 1048575, 2097151, 4194303, 8388607, 4194303, 20971519, 67108863, 134217727, 268435455, 4194303, 541065215, 4194303, 3762290687, 8057257983, 16647192575, 34359738367, 68719476735, 137438953471]
theorem spec_GateOk.tab6 : rtab .any (opsOf Try.f30 6) = spec_GateOk.T6 := by kernel_rfl
theorem spec_GateOk.bits6 : waitsOk spec_GateOk.T6.2 spec_GateOk.B6 = true := by kernel_rfl
def spec_GateOk.T11 : Bool × List (List Nat × List Nat) := (true, [([], []), ([0], [0]), ([], []), ([1, 2], [1, 2]), ([3], [3]), ([4], [4]), ([5], [5]), ([6, 5], [6]), ([7], [7]), ([8, 7], [7, 8]), ([7], [7]), ([9, 10, 7], [7, 9, 10]), ([11, 7], [7, 11]), ([12, 7], [7, 12]), ([7], [7]), ([14, 7], [7, 14]), ([13, 15, 7], [7, 13, 15]), ([7, 16], [7, 16]), ([17, 7], [17]), ([18], [18]), ([19, 18], [18, 19]), ([20, 18, 18], [18, 20]), ([21], [21]), ([22, 21], [21, 22]), ([21], [21]), ([24, 21], [21, 24]), ([23, 25, 21], [21, 23, 25]), ([26, 21], [21, 26]), ([27, 21], [21, 27]), ([21], [21]), ([29, 21], [21, 29]), ([21], [21]), ([30, 31, 21], [21, 30, 31]), ([32, 21], [21, 32]), ([33, 21], [21, 33]), ([28, 34, 21], [21, 28, 34]), ([21, 35, 18], [18, 21, 35]), ([18, 36], [18, 36])])
def spec_GateOk.B11 : List Nat := [0, 1, 0, 7, 15, 31, 63, 127, 255, 511, 255, 2047, 4095, 8191, 255, 16639, 65535, 131071, 262143, 524287, 1048575, 2097151, 4194303, 8388607, 4194303, 20971519, 67108863, 134217727, 268435455, 4194303, 541065215, 4194303, 3762290687, 8057257983, 16647192575, 34359738367, 68719476735, 137438953471]
theorem spec_GateOk.tab11 : rtab .any (opsOf Try.f30 11) = spec_GateOk.T11 := by kernel_rfl
theorem spec_GateOk.bits11 : waitsOk spec_GateOk.T11.2 spec_GateOk.B11 = true := by kernel_rfl
set_option maxHeartbeats 8000000 in
set_option maxRecDepth 100000 in
theorem spec_GateOk.calls (k : Nat) (a0_0 : Int) (A0_1 : Option Addr) (c0_1 : Nat) (l0_1 : List (S141)) (a0_2 : Int) (A0_3 : Option Addr) (c0_3 : Nat) (l0_3 : List (S136)) (A0_4 : Option Addr) (c0_4 : Nat) (l0_4 : List (S95)) (A0_5 : Option Addr) (c0_5 : Nat) (l0_5 : List (S95)) (r : Bool) (w : World) (hr0_1 : Kd.C k141 w A0_1 l0_1.length l0_1) (hc0_1 : l0_1.length ≤ c0_1) (hr0_3 : Kd.C k136 w A0_3 l0_3.length l0_3) (hc0_3 : l0_3.length ≤ c0_3) (hr0_4 : Kd.C k95 w A0_4 l0_4.length l0_4) (hc0_4 : l0_4.length ≤ c0_4) (hr0_5 : Kd.C k95 w A0_5 l0_5.length l0_5) (hc0_5 : l0_5.length ≤ c0_5) (h : spec_GateOk.f k a0_0 l0_1 a0_2 l0_3 l0_4 l0_5 = some r) :
  Calls Try.prog 30 #[.agg #[.int .i64 a0_0, .slice A0_1 l0_1.length c0_1, .int .i64 a0_2, .slice A0_3 l0_3.length c0_3, .slice A0_4 l0_4.length c0_4, .slice A0_5 l0_5.length c0_5]] w fun e w' => e = .returned (.bool r) ∧ Below w.heap.size w w' := by
 have hu57 := Try.underlying57
 have hu54 := Try.underlying54
 have hu95 := Try.underlying95
 have HR0_1 := Aside0.mk hr0_1
 have HC0_1 := Aside0.mk hc0_1
 clear hr0_1 hc0_1
 have HR0_3 := Aside0.mk hr0_3
 have HC0_3 := Aside0.mk hc0_3
 clear hr0_3 hc0_3
 have HR0_4 := Aside0.mk hr0_4
 have HC0_4 := Aside0.mk hc0_4
 clear hr0_4 hc0_4
 have HR0_5 := Aside0.mk hr0_5
 have HC0_5 := Aside0.mk hc0_5
 clear hr0_5 hc0_5
 have HB := am (Below.refl w.heap.size w)
 have H : ((spec_l1In.f a0_0 0 1000000).bind fun t102 => (if t102 = true then (if a0_2 = 4 then ((spec_CacheOk.f k l0_1 a0_2 l0_3).bind fun t103 => (if t103 = true then (if (l0_4.length : Int) > 4 then (spec_GateOk.j0 k true a0_0 l0_1 a0_2 l0_3 l0_4 l0_5) else (spec_GateOk.j0 k (decide ((l0_5.length : Int) > 6)) a0_0 l0_1 a0_2 l0_3 l0_4 l0_5)) else (spec_GateOk.j0 k true a0_0 l0_1 a0_2 l0_3 l0_4 l0_5))) else (spec_GateOk.j0 k true a0_0 l0_1 a0_2 l0_3 l0_4 l0_5)) else (spec_GateOk.j0 k true a0_0 l0_1 a0_2 l0_3 l0_4 l0_5))) = some r := h
 clear h
 have HC2 := Aside0.mk H
 clear H
 go_enter Try.func30, Try.ntmps30
 go_upto_region 1 with (first | ((with_reducible refine gate_dst (N := 1) rfl ?_); (try (refine gate_guard (by rfl) ?_; dsimp only)); refine box_event rfl (N := 1) rfl (cs := #[.int .i64 a0_0, .slice A0_1 l0_1.length c0_1, .int .i64 a0_2, .slice A0_3 l0_3.length c0_3, .slice A0_4 l0_4.length c0_4, .slice A0_5 l0_5.length c0_5]) (t := 57) BX ?_; intro gb101 hg w3 hbox hb; have BK101 := am (hbox); have GW101 := am (GH HB hg); have GE101 := GW101; replace HB := am (below_step (KL HB) hb); clear hb hbox hg))
 (try simp only [Act.put, List.setIfInBounds_toArray, List.set_cons_zero, List.set_cons_succ])
 go_cut [34] (fun v34 wc => ∃ (kq : Nat) (x34_1 : Bool), v34 = .bool x34_1 ∧ Aside0 (spec_GateOk.j0 kq x34_1 a0_0 l0_1 a0_2 l0_3 l0_4 l0_5 = some r) ∧ Aside0 (kq ≤ k) ∧ Aside0 (wc.heap[gb101]? = some (.cells #[.int .i64 a0_0, (.slice A0_1 l0_1.length c0_1), .int .i64 a0_2, (.slice A0_3 l0_3.length c0_3), (.slice A0_4 l0_4.length c0_4), (.slice A0_5 l0_5.length c0_5)] 57 (0, 0))) ∧ Aside0 (Below w.heap.size w wc))
 case first =>
  have H := HC2.out
  clear HC2
  replace H := Option.bind_eq_some_iff.mp H
  obtain ⟨t102, A40, H⟩ := H
  replace H : (if t102 = true then (if a0_2 = 4 then ((spec_CacheOk.f k l0_1 a0_2 l0_3).bind fun t103 => (if t103 = true then (if (l0_4.length : Int) > 4 then (spec_GateOk.j0 k true a0_0 l0_1 a0_2 l0_3 l0_4 l0_5) else (spec_GateOk.j0 k (decide ((l0_5.length : Int) > 6)) a0_0 l0_1 a0_2 l0_3 l0_4 l0_5)) else (spec_GateOk.j0 k true a0_0 l0_1 a0_2 l0_3 l0_4 l0_5))) else (spec_GateOk.j0 k true a0_0 l0_1 a0_2 l0_3 l0_4 l0_5)) else (spec_GateOk.j0 k true a0_0 l0_1 a0_2 l0_3 l0_4 l0_5)) = some r := H
  have A4 := Aside0.mk A40
  clear A40
  by_cases c5 : t102 = true
  ·subst c5
   have H1 : (if a0_2 = 4 then ((spec_CacheOk.f k l0_1 a0_2 l0_3).bind fun t103 => (if t103 = true then (if (l0_4.length : Int) > 4 then (spec_GateOk.j0 k true a0_0 l0_1 a0_2 l0_3 l0_4 l0_5) else (spec_GateOk.j0 k (decide ((l0_5.length : Int) > 6)) a0_0 l0_1 a0_2 l0_3 l0_4 l0_5)) else (spec_GateOk.j0 k true a0_0 l0_1 a0_2 l0_3 l0_4 l0_5))) else (spec_GateOk.j0 k true a0_0 l0_1 a0_2 l0_3 l0_4 l0_5)) = some r := by rw [if_pos rfl] at H; exact H
   clear H
   have H := H1
   clear H1
   by_cases c6 : a0_2 = 4
   ·rw [if_pos c6] at H
    have c6b0 : (a0_2 == 4) = true := beq_iff_eq.mpr c6
    have c6b1 : (a0_2 != 4) = false := bne_eq_false_iff_eq.mpr c6
    clear c6
    (first | rw [c6b0] | (simp only [i64_w, i32_w]; rw [c6b0]) | skip)
    replace H := Option.bind_eq_some_iff.mp H
    obtain ⟨t103, A70, H⟩ := H
    replace H : (if t103 = true then (if (l0_4.length : Int) > 4 then (spec_GateOk.j0 k true a0_0 l0_1 a0_2 l0_3 l0_4 l0_5) else (spec_GateOk.j0 k (decide ((l0_5.length : Int) > 6)) a0_0 l0_1 a0_2 l0_3 l0_4 l0_5)) else (spec_GateOk.j0 k true a0_0 l0_1 a0_2 l0_3 l0_4 l0_5)) = some r := H
    have A7 := Aside0.mk A70
    clear A70
    by_cases c8 : t103 = true
    ·subst c8
     have H1 : (if (l0_4.length : Int) > 4 then (spec_GateOk.j0 k true a0_0 l0_1 a0_2 l0_3 l0_4 l0_5) else (spec_GateOk.j0 k (decide ((l0_5.length : Int) > 6)) a0_0 l0_1 a0_2 l0_3 l0_4 l0_5)) = some r := by rw [if_pos rfl] at H; exact H
     clear H
     have H := H1
     clear H1
     by_cases c9 : (l0_4.length : Int) > 4
     ·rw [if_pos c9] at H
      have c9b0 : decide (4 < (l0_4.length : Int)) = true := decide_eq_true c9
      have c9b1 : decide (4 < l0_4.length) = true := decide_eq_true (by omega)
      clear c9
      have H' := Aside0.mk H
      clear H
      obtain ⟨hcz10_0, hcz10_1, hcz10_2, hcz10_3, hcz10_4, hcz10_5, hfz10_0⟩ := y6 w3 BK101.out
      go_wp2_with (first | ((with_reducible refine gate_callee (f := 59) rfl ?_); refine goesL_ (some 7) rfl rfl Try.func59 (by kernel_rfl) rfl #[.int .i64 a0_0, .int .i64 0, .int .i64 1000000] rfl MT ?_; (with_reducible refine (spec_l1In.calls a0_0 0 1000000 true _ A4.out).mono ?_); rintro e w' ⟨rfl, ⟨nd, rfl⟩⟩; refine ⟨_, rfl, ?_⟩) | (go_at_call 60; (with_reducible refine (spec_CacheOk.calls k _ _ l0_1 a0_2 _ _ l0_3 true _ ?side1 ?side2 ?side3 ?side4 A7.out).mono ?_); (case side1 => repeat (first | exact (Kd.C_below HR0_1.out (K1 HB GE101.out)) | (with_reducible refine Kd.C_alloc ?_ _) | (with_reducible refine Kd.C_drewN ?_ _) | (with_reducible refine Kd.C_drew ?_))); (case side2 => exact HC0_1.out); (case side3 => repeat (first | exact (Kd.C_below HR0_3.out (K1 HB GE101.out)) | (with_reducible refine Kd.C_alloc ?_ _) | (with_reducible refine Kd.C_drewN ?_ _) | (with_reducible refine Kd.C_drew ?_))); (case side4 => exact HC0_3.out); rintro e w11 ⟨rfl, hb⟩; replace BK101 := am (BB BK101 hb); replace HB := am (below_step (K1 HB GE101.out) hb); (try clear hb); obtain ⟨hcz12_0, hcz12_1, hcz12_2, hcz12_3, hcz12_4, hcz12_5, hfz12_0⟩ := y6 w11 BK101.out))
      go_meet
      case rel => exact ⟨_, (true), (by first | rfl | (simp; done) | (simp [*]; done)), H', ⟨by first | omega | exact Nat.le_refl _⟩, ⟨KB BK101⟩, ⟨K1 HB GE101.out⟩⟩
     ·rw [if_neg c9] at H
      have c9b0 : decide (4 < (l0_4.length : Int)) = false := decide_eq_false c9
      have c9b1 : decide (4 < l0_4.length) = false := decide_eq_false (by omega)
      clear c9
      have H' := Aside0.mk H
      clear H
      obtain ⟨hcz13_0, hcz13_1, hcz13_2, hcz13_3, hcz13_4, hcz13_5, hfz13_0⟩ := y6 w3 BK101.out
      go_wp2_with (first | ((with_reducible refine gate_callee (f := 59) rfl ?_); refine goesL_ (some 7) rfl rfl Try.func59 (by kernel_rfl) rfl #[.int .i64 a0_0, .int .i64 0, .int .i64 1000000] rfl MT ?_; (with_reducible refine (spec_l1In.calls a0_0 0 1000000 true _ A4.out).mono ?_); rintro e w' ⟨rfl, ⟨nd, rfl⟩⟩; refine ⟨_, rfl, ?_⟩) | (go_at_call 60; (with_reducible refine (spec_CacheOk.calls k _ _ l0_1 a0_2 _ _ l0_3 true _ ?side1 ?side2 ?side3 ?side4 A7.out).mono ?_); (case side1 => repeat (first | exact (Kd.C_below HR0_1.out (K1 HB GE101.out)) | (with_reducible refine Kd.C_alloc ?_ _) | (with_reducible refine Kd.C_drewN ?_ _) | (with_reducible refine Kd.C_drew ?_))); (case side2 => exact HC0_1.out); (case side3 => repeat (first | exact (Kd.C_below HR0_3.out (K1 HB GE101.out)) | (with_reducible refine Kd.C_alloc ?_ _) | (with_reducible refine Kd.C_drewN ?_ _) | (with_reducible refine Kd.C_drew ?_))); (case side4 => exact HC0_3.out); rintro e w14 ⟨rfl, hb⟩; replace BK101 := am (BB BK101 hb); replace HB := am (below_step (K1 HB GE101.out) hb); (try clear hb); obtain ⟨hcz15_0, hcz15_1, hcz15_2, hcz15_3, hcz15_4, hcz15_5, hfz15_0⟩ := y6 w14 BK101.out))
      go_meet
      case rel => exact ⟨_, (decide ((l0_5.length : Int) > 6)), (by first | rfl | (simp; done) | (simp [*]; done)), H', ⟨by first | omega | exact Nat.le_refl _⟩, ⟨KB BK101⟩, ⟨K1 HB GE101.out⟩⟩
    ·replace c8 := Bool.eq_false_iff.mpr c8
     subst c8
     have H1 : (spec_GateOk.j0 k true a0_0 l0_1 a0_2 l0_3 l0_4 l0_5) = some r := by rw [if_neg (show ¬ (false = true) by decide)] at H; exact H
     clear H
     have H := H1
     clear H1
     have H' := Aside0.mk H
     clear H
     obtain ⟨hcz16_0, hcz16_1, hcz16_2, hcz16_3, hcz16_4, hcz16_5, hfz16_0⟩ := y6 w3 BK101.out
     go_wp2_with (first | ((with_reducible refine gate_callee (f := 59) rfl ?_); refine goesL_ (some 7) rfl rfl Try.func59 (by kernel_rfl) rfl #[.int .i64 a0_0, .int .i64 0, .int .i64 1000000] rfl MT ?_; (with_reducible refine (spec_l1In.calls a0_0 0 1000000 true _ A4.out).mono ?_); rintro e w' ⟨rfl, ⟨nd, rfl⟩⟩; refine ⟨_, rfl, ?_⟩) | (go_at_call 60; (with_reducible refine (spec_CacheOk.calls k _ _ l0_1 a0_2 _ _ l0_3 false _ ?side1 ?side2 ?side3 ?side4 A7.out).mono ?_); (case side1 => repeat (first | exact (Kd.C_below HR0_1.out (K1 HB GE101.out)) | (with_reducible refine Kd.C_alloc ?_ _) | (with_reducible refine Kd.C_drewN ?_ _) | (with_reducible refine Kd.C_drew ?_))); (case side2 => exact HC0_1.out); (case side3 => repeat (first | exact (Kd.C_below HR0_3.out (K1 HB GE101.out)) | (with_reducible refine Kd.C_alloc ?_ _) | (with_reducible refine Kd.C_drewN ?_ _) | (with_reducible refine Kd.C_drew ?_))); (case side4 => exact HC0_3.out); rintro e w17 ⟨rfl, hb⟩; replace BK101 := am (BB BK101 hb); replace HB := am (below_step (K1 HB GE101.out) hb); (try clear hb)))
     go_meet
     case rel => exact ⟨_, (true), (by first | rfl | (simp; done) | (simp [*]; done)), H', ⟨by first | omega | exact Nat.le_refl _⟩, ⟨KB BK101⟩, ⟨K1 HB GE101.out⟩⟩
   ·rw [if_neg c6] at H
    have c6b0 : (a0_2 == 4) = false := beq_eq_false_iff_ne.mpr c6
    have c6b1 : (a0_2 != 4) = true := bne_iff_ne.mpr c6
    (first | rw [c6b0] | (simp only [i64_w, i32_w]; rw [c6b0]) | skip)
    have H' := Aside0.mk H
    clear H
    obtain ⟨hcz18_0, hcz18_1, hcz18_2, hcz18_3, hcz18_4, hcz18_5, hfz18_0⟩ := y6 w3 BK101.out
    go_wp2_with (first | ((with_reducible refine gate_callee (f := 59) rfl ?_); refine goesL_ (some 7) rfl rfl Try.func59 (by kernel_rfl) rfl #[.int .i64 a0_0, .int .i64 0, .int .i64 1000000] rfl MT ?_; (with_reducible refine (spec_l1In.calls a0_0 0 1000000 true _ A4.out).mono ?_); rintro e w' ⟨rfl, ⟨nd, rfl⟩⟩; refine ⟨_, rfl, ?_⟩))
    go_meet
    case rel => exact ⟨_, (true), (by first | rfl | (simp; done) | (simp [*]; done)), H', ⟨by first | omega | exact Nat.le_refl _⟩, ⟨KB BK101⟩, ⟨K1 HB GE101.out⟩⟩
  ·replace c5 := Bool.eq_false_iff.mpr c5
   subst c5
   have H1 : (spec_GateOk.j0 k true a0_0 l0_1 a0_2 l0_3 l0_4 l0_5) = some r := by rw [if_neg (show ¬ (false = true) by decide)] at H; exact H
   clear H
   have H := H1
   clear H1
   have H' := Aside0.mk H
   clear H
   obtain ⟨hcz19_0, hcz19_1, hcz19_2, hcz19_3, hcz19_4, hcz19_5, hfz19_0⟩ := y6 w3 BK101.out
   go_wp2_with (first | ((with_reducible refine gate_callee (f := 59) rfl ?_); refine goesL_ (some 7) rfl rfl Try.func59 (by kernel_rfl) rfl #[.int .i64 a0_0, .int .i64 0, .int .i64 1000000] rfl MT ?_; (with_reducible refine (spec_l1In.calls a0_0 0 1000000 false _ A4.out).mono ?_); rintro e w' ⟨rfl, ⟨nd, rfl⟩⟩; refine ⟨_, rfl, ?_⟩))
   go_meet
   case rel => exact ⟨_, (true), (by first | rfl | (simp; done) | (simp [*]; done)), H', ⟨by first | omega | exact Nat.le_refl _⟩, ⟨KB BK101⟩, ⟨K1 HB GE101.out⟩⟩
 case rest =>
  clear HC2
  try clear p2
  try clear c3
  try clear c5
  try clear c6
  try clear c6b0
  try clear c6b1
  try clear c8
  try clear c9
  try clear c9b0
  try clear c9b1
  try clear hcz10_0 hcz10_1 hcz10_2 hcz10_3 hcz10_4 hcz10_5 hfz10_0
  try clear hcz12_0 hcz12_1 hcz12_2 hcz12_3 hcz12_4 hcz12_5 hfz12_0
  try clear hcz13_0 hcz13_1 hcz13_2 hcz13_3 hcz13_4 hcz13_5 hfz13_0
  try clear hcz15_0 hcz15_1 hcz15_2 hcz15_3 hcz15_4 hcz15_5 hfz15_0
  try clear hcz16_0 hcz16_1 hcz16_2 hcz16_3 hcz16_4 hcz16_5 hfz16_0
  try clear hcz18_0 hcz18_1 hcz18_2 hcz18_3 hcz18_4 hcz18_5 hfz18_0
  try clear hcz19_0 hcz19_1 hcz19_2 hcz19_3 hcz19_4 hcz19_5 hfz19_0
  obtain ⟨kq, x34_1, rfl, HA, HJ1, BK101, HB⟩ := hcut
  cases kq with
  | zero => exact absurd HA.out (by simp [spec_GateOk.j0])
  | succ kj1 =>
   have H := HA.out
   clear HA
   simp only [spec_GateOk.j0] at H
   by_cases c20 : x34_1 = true
   ·subst c20
    have H1 : (some false) = some r := by rw [if_pos rfl] at H; exact H
    clear H
    have H := H1
    clear H1
    obtain rfl := Option.some.inj H
    go_wp2
    go_ret
    exact ⟨ER, K1 HB GE101.out⟩
   ·replace c20 := Bool.eq_false_iff.mpr c20
    subst c20
    have H1 : (spec_GateOk.l0 kj1 0 a0_0 l0_1 a0_2 l0_3 l0_4 l0_5) = some r := by rw [if_neg (show ¬ (false = true) by decide)] at H; exact H
    clear H
    have H := H1
    clear H1
    have H' := Aside0.mk H
    clear H
    go_wp2
    go_loopg [3] kj1 (fun kq v3 w' => ∃ (x3_2 : Int), v3 = .int .i64 x3_2 ∧ Aside0 (spec_GateOk.l0 kq x3_2 a0_0 l0_1 a0_2 l0_3 l0_4 l0_5 = some r) ∧ Aside0 (kq ≤ kj1) ∧ Aside0 (w'.heap[gb101]? = some (.cells #[.int .i64 a0_0, (.slice A0_1 l0_1.length c0_1), .int .i64 a0_2, (.slice A0_3 l0_3.length c0_3), (.slice A0_4 l0_4.length c0_4), (.slice A0_5 l0_5.length c0_5)] 57 (0, 0))) ∧ Aside0 (Below w.heap.size w w'))
    case atStart => exact ⟨(0), (by first | rfl | (simp; done) | (simp [*]; done)), H', ⟨Nat.le_refl _⟩, ⟨KB BK101⟩, ⟨K1 HB GE101.out⟩⟩
    case round =>
     clear H'
     try clear c2
     try clear p2
     try clear c3
     try clear c5
     try clear c6
     try clear c6b0
     try clear c6b1
     try clear c8
     try clear c9
     try clear c9b0
     try clear c9b1
     try clear c20
     try clear hcz10_0 hcz10_1 hcz10_2 hcz10_3 hcz10_4 hcz10_5 hfz10_0
     try clear hcz12_0 hcz12_1 hcz12_2 hcz12_3 hcz12_4 hcz12_5 hfz12_0
     try clear hcz13_0 hcz13_1 hcz13_2 hcz13_3 hcz13_4 hcz13_5 hfz13_0
     try clear hcz15_0 hcz15_1 hcz15_2 hcz15_3 hcz15_4 hcz15_5 hfz15_0
     try clear hcz16_0 hcz16_1 hcz16_2 hcz16_3 hcz16_4 hcz16_5 hfz16_0
     try clear hcz18_0 hcz18_1 hcz18_2 hcz18_3 hcz18_4 hcz18_5 hfz18_0
     try clear hcz19_0 hcz19_1 hcz19_2 hcz19_3 hcz19_4 hcz19_5 hfz19_0
     try clear p2
     obtain ⟨x3_2, rfl, HA, HK2, BK101, HB⟩ := hrel
     cases gk with
     | zero => exact absurd HA.out (by simp [spec_GateOk.l0])
     | succ k2 =>
      have H := HA.out
      clear HA
      simp only [spec_GateOk.l0] at H
      by_cases c21 : x3_2 < (l0_4.length : Int)
      ·rw [if_pos c21] at H
       have c21b0 : decide (x3_2 < (l0_4.length : Int)) = true := decide_eq_true c21
       clear c21
       have HC22 := Aside0.mk H
       clear H
       obtain ⟨hcz23_0, hcz23_1, hcz23_2, hcz23_3, hcz23_4, hcz23_5, hfz23_0⟩ := y6 wr BK101.out
       go_upto_region 6 with (fail)
       go_cut [79] (fun v79 wc => ∃ (kq : Nat) (x79_21 : Bool), v79 = .bool x79_21 ∧ Aside0 (spec_GateOk.j2 kq x3_2 x79_21 a0_0 l0_1 a0_2 l0_3 l0_4 l0_5 = some r) ∧ Aside0 (kq ≤ k2) ∧ Aside0 (wc.heap[gb101]? = some (.cells #[.int .i64 a0_0, (.slice A0_1 l0_1.length c0_1), .int .i64 a0_2, (.slice A0_3 l0_3.length c0_3), (.slice A0_4 l0_4.length c0_4), (.slice A0_5 l0_5.length c0_5)] 57 (0, 0))) ∧ Aside0 (Below w.heap.size w wc))
       case first =>
        have H := HC22.out
        clear HC22
        by_cases c24 : 0 ≤ x3_2
        ·rw [if_pos c24] at H
         have c24b0 : decide (0 ≤ x3_2) = true := decide_eq_true c24
         clear c24
         (first | rw [c24b0] | (simp only [i64_w, i32_w]; rw [c24b0]) | skip)
         replace H := Option.bind_eq_some_iff.mp H
         obtain ⟨t105, A250, H⟩ := H
         replace H : (if t105 = true then (if ((rd_T95 l0_4 x3_2).f4) > a0_0 then (spec_GateOk.j2 k2 x3_2 true a0_0 l0_1 a0_2 l0_3 l0_4 l0_5) else (if x3_2 > 0 then (if 0 ≤ (wrap64 (x3_2 - 1)) then (if (wrap64 (x3_2 - 1)) < (l0_4.length : Int) then (spec_GateOk.j2 k2 x3_2 (decide (((rd_T95 l0_4 (wrap64 (x3_2 - 1))).f1) ≥ ((rd_T95 l0_4 x3_2).f1))) a0_0 l0_1 a0_2 l0_3 l0_4 l0_5) else (none)) else (none)) else (spec_GateOk.j2 k2 x3_2 false a0_0 l0_1 a0_2 l0_3 l0_4 l0_5))) else (spec_GateOk.j2 k2 x3_2 true a0_0 l0_1 a0_2 l0_3 l0_4 l0_5)) = some r := H
         have A25 := Aside0.mk A250
         clear A250
         by_cases c26 : t105 = true
         ·subst c26
          have H1 : (if ((rd_T95 l0_4 x3_2).f4) > a0_0 then (spec_GateOk.j2 k2 x3_2 true a0_0 l0_1 a0_2 l0_3 l0_4 l0_5) else (if x3_2 > 0 then (if 0 ≤ (wrap64 (x3_2 - 1)) then (if (wrap64 (x3_2 - 1)) < (l0_4.length : Int) then (spec_GateOk.j2 k2 x3_2 (decide (((rd_T95 l0_4 (wrap64 (x3_2 - 1))).f1) ≥ ((rd_T95 l0_4 x3_2).f1))) a0_0 l0_1 a0_2 l0_3 l0_4 l0_5) else (none)) else (none)) else (spec_GateOk.j2 k2 x3_2 false a0_0 l0_1 a0_2 l0_3 l0_4 l0_5))) = some r := by rw [if_pos rfl] at H; exact H
          clear H
          have H := H1
          clear H1
          by_cases c27 : ((rd_T95 l0_4 x3_2).f4) > a0_0
          ·rw [if_pos c27] at H
           have c27b0 : decide (a0_0 < ((rd_T95 l0_4 x3_2).f4)) = true := decide_eq_true c27
           clear c27
           have H' := Aside0.mk H
           clear H
           try go_wp2
           replace BK101 := am (blk_drew BK101.out)
           replace HB := am (below_drew1 HB.out)
           have p104 : 0 ≤ (x3_2 : Int) := OD
           have q104 : x3_2 < (l0_4.length : Int) := OD
           obtain ⟨ad104, A104_10, c104_10, e104, hx104_0, hx104_1, hx104_2, hx104_3, hx104_4, hx104_5, hx104_6, hx104_7, hx104_8, hx104_9, hx104_10, hl104_10, hi104_10⟩ := at_T95 HR0_4.out x3_2 p104 q104
           have hw104_10 := hx104_10
           have hw104_9 := hx104_9
           have hw104_8 := hx104_8
           have hw104_7 := hx104_7
           have hw104_6 := hx104_6
           have hw104_5 := hx104_5
           have hw104_4 := hx104_4
           have hw104_3 := hx104_3
           have hw104_2 := hx104_2
           have hw104_1 := hx104_1
           have hw104_0 := hx104_0
           cases e104
           replace hx104_0 := CX HB.out hx104_0
           replace hx104_1 := CX HB.out hx104_1
           replace hx104_2 := CX HB.out hx104_2
           replace hx104_3 := CX HB.out hx104_3
           replace hx104_4 := CX HB.out hx104_4
           replace hx104_5 := CX HB.out hx104_5
           replace hx104_6 := CX HB.out hx104_6
           replace hx104_7 := CX HB.out hx104_7
           replace hx104_8 := CX HB.out hx104_8
           replace hx104_9 := CX HB.out hx104_9
           replace hx104_10 := CX HB.out hx104_10
           have HR104_10 := Aside0.mk hi104_10
           have HC104_10 := Aside0.mk hl104_10
           clear hi104_10 hl104_10
           replace p104 := eq_true p104
           replace q104 := eq_true q104
           have p106 : 0 ≤ (x3_2 : Int) := OD
           have q106 : x3_2 < (l0_4.length : Int) := OD
           obtain ⟨ad106, A106_10, c106_10, e106, hx106_0, hx106_1, hx106_2, hx106_3, hx106_4, hx106_5, hx106_6, hx106_7, hx106_8, hx106_9, hx106_10, hl106_10, hi106_10⟩ := at_T95 HR0_4.out x3_2 p106 q106
           have hw106_10 := hx106_10
           have hw106_9 := hx106_9
           have hw106_8 := hx106_8
           have hw106_7 := hx106_7
           have hw106_6 := hx106_6
           have hw106_5 := hx106_5
           have hw106_4 := hx106_4
           have hw106_3 := hx106_3
           have hw106_2 := hx106_2
           have hw106_1 := hx106_1
           have hw106_0 := hx106_0
           obtain rfl : ad104 = ad106 := (by injection e106)
           replace hx106_0 := CX HB.out hx106_0
           replace hx106_1 := CX HB.out hx106_1
           replace hx106_2 := CX HB.out hx106_2
           replace hx106_3 := CX HB.out hx106_3
           replace hx106_4 := CX HB.out hx106_4
           replace hx106_5 := CX HB.out hx106_5
           replace hx106_6 := CX HB.out hx106_6
           replace hx106_7 := CX HB.out hx106_7
           replace hx106_8 := CX HB.out hx106_8
           replace hx106_9 := CX HB.out hx106_9
           replace hx106_10 := CX HB.out hx106_10
           have HR106_10 := Aside0.mk hi106_10
           have HC106_10 := Aside0.mk hl106_10
           clear hi106_10 hl106_10
           replace p106 := eq_true p106
           replace q106 := eq_true q106
           refine start_ (n := 38) (S := fun w' => ce6 w' gb101 (.int .i64 a0_0) (.slice A0_1 l0_1.length c0_1) (.int .i64 a0_2) (.slice A0_3 l0_3.length c0_3) (.slice (some ad104) l0_4.length c0_4) (.slice A0_5 l0_5.length c0_5) (w'.cell? (ad104.add ((x3_2).toNat * 11)) = some (.int .i64 ((rd_T95 l0_4 x3_2).f0)) ∧ w'.cell? ⟨(ad104.add ((x3_2).toNat * 11)).block, (ad104.add ((x3_2).toNat * 11)).off + 1, none⟩ = some (.int .i64 ((rd_T95 l0_4 x3_2).f1)) ∧ w'.cell? ⟨(ad104.add ((x3_2).toNat * 11)).block, (ad104.add ((x3_2).toNat * 11)).off + 2, none⟩ = some (.string ((rd_T95 l0_4 x3_2).f2)) ∧ w'.cell? ⟨(ad104.add ((x3_2).toNat * 11)).block, (ad104.add ((x3_2).toNat * 11)).off + 3, none⟩ = some (.string ((rd_T95 l0_4 x3_2).f3)) ∧ w'.cell? ⟨(ad104.add ((x3_2).toNat * 11)).block, (ad104.add ((x3_2).toNat * 11)).off + 4, none⟩ = some (.int .i64 ((rd_T95 l0_4 x3_2).f4)) ∧ w'.cell? ⟨(ad104.add ((x3_2).toNat * 11)).block, (ad104.add ((x3_2).toNat * 11)).off + 5, none⟩ = some (.int .i64 ((rd_T95 l0_4 x3_2).f5)) ∧ w'.cell? ⟨(ad104.add ((x3_2).toNat * 11)).block, (ad104.add ((x3_2).toNat * 11)).off + 6, none⟩ = some (.int .i64 ((rd_T95 l0_4 x3_2).f6)) ∧ w'.cell? ⟨(ad104.add ((x3_2).toNat * 11)).block, (ad104.add ((x3_2).toNat * 11)).off + 7, none⟩ = some (.int .i64 ((rd_T95 l0_4 x3_2).f7)) ∧ w'.cell? ⟨(ad104.add ((x3_2).toNat * 11)).block, (ad104.add ((x3_2).toNat * 11)).off + 8, none⟩ = some (.int .i64 ((rd_T95 l0_4 x3_2).f8)) ∧ w'.cell? ⟨(ad104.add ((x3_2).toNat * 11)).block, (ad104.add ((x3_2).toNat * 11)).off + 9, none⟩ = some (.int .i64 ((rd_T95 l0_4 x3_2).f9.f0)) ∧ w'.cell? ⟨(ad104.add ((x3_2).toNat * 11)).block, (ad104.add ((x3_2).toNat * 11)).off + 10, none⟩ = some (.slice A104_10 ((rd_T95 l0_4 x3_2).f9.f1).length c104_10) ∧ w'.cell? (ad104.add ((x3_2).toNat * 11)) = some (.int .i64 ((rd_T95 l0_4 x3_2).f0)) ∧ w'.cell? ⟨(ad104.add ((x3_2).toNat * 11)).block, (ad104.add ((x3_2).toNat * 11)).off + 1, none⟩ = some (.int .i64 ((rd_T95 l0_4 x3_2).f1)) ∧ w'.cell? ⟨(ad104.add ((x3_2).toNat * 11)).block, (ad104.add ((x3_2).toNat * 11)).off + 2, none⟩ = some (.string ((rd_T95 l0_4 x3_2).f2)) ∧ w'.cell? ⟨(ad104.add ((x3_2).toNat * 11)).block, (ad104.add ((x3_2).toNat * 11)).off + 3, none⟩ = some (.string ((rd_T95 l0_4 x3_2).f3)) ∧ w'.cell? ⟨(ad104.add ((x3_2).toNat * 11)).block, (ad104.add ((x3_2).toNat * 11)).off + 4, none⟩ = some (.int .i64 ((rd_T95 l0_4 x3_2).f4)) ∧ w'.cell? ⟨(ad104.add ((x3_2).toNat * 11)).block, (ad104.add ((x3_2).toNat * 11)).off + 5, none⟩ = some (.int .i64 ((rd_T95 l0_4 x3_2).f5)) ∧ w'.cell? ⟨(ad104.add ((x3_2).toNat * 11)).block, (ad104.add ((x3_2).toNat * 11)).off + 6, none⟩ = some (.int .i64 ((rd_T95 l0_4 x3_2).f6)) ∧ w'.cell? ⟨(ad104.add ((x3_2).toNat * 11)).block, (ad104.add ((x3_2).toNat * 11)).off + 7, none⟩ = some (.int .i64 ((rd_T95 l0_4 x3_2).f7)) ∧ w'.cell? ⟨(ad104.add ((x3_2).toNat * 11)).block, (ad104.add ((x3_2).toNat * 11)).off + 8, none⟩ = some (.int .i64 ((rd_T95 l0_4 x3_2).f8)) ∧ w'.cell? ⟨(ad104.add ((x3_2).toNat * 11)).block, (ad104.add ((x3_2).toNat * 11)).off + 9, none⟩ = some (.int .i64 ((rd_T95 l0_4 x3_2).f9.f0)) ∧ w'.cell? ⟨(ad104.add ((x3_2).toNat * 11)).block, (ad104.add ((x3_2).toNat * 11)).off + 10, none⟩ = some (.slice A106_10 ((rd_T95 l0_4 x3_2).f9.f1).length c106_10))) (ds := []) (tf 0 38) (by kernel_rfl) rfl rfl ⟨z0 _ BK101.out, z1 _ BK101.out, z2 _ BK101.out, z3 _ BK101.out, z4 _ BK101.out, z5 _ BK101.out, (CY HB.out hw104_0), (CY HB.out hw104_1), (CY HB.out hw104_2), (CY HB.out hw104_3), (CY HB.out hw104_4), (CY HB.out hw104_5), (CY HB.out hw104_6), (CY HB.out hw104_7), (CY HB.out hw104_8), (CY HB.out hw104_9), (CY HB.out hw104_10), (CY HB.out hw106_0), (CY HB.out hw106_1), (CY HB.out hw106_2), (CY HB.out hw106_3), (CY HB.out hw106_4), (CY HB.out hw106_5), (CY HB.out hw106_6), (CY HB.out hw106_7), (CY HB.out hw106_8), (CY HB.out hw106_9), (CY HB.out hw106_10)⟩ (fun hHeld => ?_); refine with_tabW spec_GateOk.tab6 spec_GateOk.bits6 (fun HT_ HW_ => ?_)
           generalize wr.drew = w28 at BK101 HB HR104_10 HR106_10 hx104_0 hx104_1 hx104_10 hx104_2 hx104_3 hx104_4 hx104_5 hx104_6 hx104_7 hx104_8 hx104_9 hx106_0 hx106_1 hx106_10 hx106_2 hx106_3 hx106_4 hx106_5 hx106_6 hx106_7 hx106_8 hx106_9 hHeld ⊢
           refine pv HT_ 0 42 (tf 1 37) ?_
           refine pv HT_ 2 44 (tr [1, 1, 1, 35]) ?_
           refine tk 1 (some 43) (tf 3 35) (take_ofW HT_.out HW_.out (by kernel_rfl)) hHeld ?_
           refine pv HT_ 3 45 (tf 4 34) ?_
           refine tk 4 (some 46) (tf 5 33) (take_ofW HT_.out HW_.out (by kernel_rfl)) hHeld ?_
           refine one_ (i := 5) (N := some 47) (tf 6 32) rfl rfl (one_of HT_.out (by kernel_rfl)) (by decide) (fun K hK => ?_)
           refine goes_ Try.func61 (by kernel_rfl) rfl #[.agg #[.int .i64 ((rd_T95 l0_4 x3_2).f0), .int .i64 ((rd_T95 l0_4 x3_2).f1), .string ((rd_T95 l0_4 x3_2).f2), .string ((rd_T95 l0_4 x3_2).f3), .int .i64 ((rd_T95 l0_4 x3_2).f4), .int .i64 ((rd_T95 l0_4 x3_2).f5), .int .i64 ((rd_T95 l0_4 x3_2).f6), .int .i64 ((rd_T95 l0_4 x3_2).f7), .int .i64 ((rd_T95 l0_4 x3_2).f8), .int .i64 ((rd_T95 l0_4 x3_2).f9.f0), .slice A104_10 ((rd_T95 l0_4 x3_2).f9.f1).length c104_10]] (by rfl) rfl rfl MT ?_
           with_reducible refine (spec_SaOk.calls k2 ((rd_T95 l0_4 x3_2).f0) ((rd_T95 l0_4 x3_2).f1) ((rd_T95 l0_4 x3_2).f2) ((rd_T95 l0_4 x3_2).f3) ((rd_T95 l0_4 x3_2).f4) ((rd_T95 l0_4 x3_2).f5) ((rd_T95 l0_4 x3_2).f6) ((rd_T95 l0_4 x3_2).f7) ((rd_T95 l0_4 x3_2).f8) ((rd_T95 l0_4 x3_2).f9.f0) _ _ ((rd_T95 l0_4 x3_2).f9.f1) true _ ?side1 ?side2 A25.out).mono ?_
           (case side1 => exact KD HR104_10 HB)
           (case side2 => exact HC104_10.out)
           rintro e w29 ⟨rfl, hb⟩
           refine ⟨_, rfl, ?_⟩
           replace BK101 := am (BB BK101 hb)
           replace HB := am (below_step (K1 HB GE101.out) hb)
           (try clear hb)
           (try clear hb2)
           (try clear hk)
           (try clear hi)
           refine hK.out _ _ ⟨z0 _ BK101.out, z1 _ BK101.out, z2 _ BK101.out, z3 _ BK101.out, z4 _ BK101.out, z5 _ BK101.out, (CY HB.out hw104_0), (CY HB.out hw104_1), (CY HB.out hw104_2), (CY HB.out hw104_3), (CY HB.out hw104_4), (CY HB.out hw104_5), (CY HB.out hw104_6), (CY HB.out hw104_7), (CY HB.out hw104_8), (CY HB.out hw104_9), (CY HB.out hw104_10), (CY HB.out hw106_0), (CY HB.out hw106_1), (CY HB.out hw106_2), (CY HB.out hw106_3), (CY HB.out hw106_4), (CY HB.out hw106_5), (CY HB.out hw106_6), (CY HB.out hw106_7), (CY HB.out hw106_8), (CY HB.out hw106_9), (CY HB.out hw106_10)⟩ (fun hHeld => ?_)
           clear hK K
           refine norm_ (a' := ?_) ?_ ?_
           rotate_left
           ·show Act.put _ (some 47) _ = _
            simp only [Act.put, List.setIfInBounds_toArray, List.set_cons_zero, List.set_cons_succ, i64_w, i32_w]
            rfl
           refine pv HT_ 6 48 (tf 7 31) ?_
           refine pv HT_ 7 49 (tf 8 30) ?_
           refine pv HT_ 8 50 (tf 9 29) ?_
           refine pv HT_ 10 52 (tr [9, 1, 1, 27]) ?_
           refine pv HT_ 14 56 (tr [9, 1, 1, 3, 1, 23]) ?_
           refine tk 9 (some 51) (tr [11, 3, 1, 23]) (take_ofW HT_.out HW_.out (by kernel_rfl)) hHeld ?_
           refine pv HT_ 11 53 (tr [12, 2, 1, 23]) ?_
           refine pv HT_ 12 54 (tr [13, 1, 1, 23]) ?_
           refine tk 13 (some 55) (tf 15 23) (take_ofW HT_.out HW_.out (by kernel_rfl)) hHeld ?_
           refine tk 15 (some 57) (tf 16 22) (take_ofW HT_.out HW_.out (by kernel_rfl)) hHeld ?_
           refine pv HT_ 16 58 (tf 17 21) ?_
           refine pv HT_ 17 59 (tf 18 20) ?_
           refine pv HT_ 18 60 (tf 19 19) ?_
           refine pw HT_ 19 61 (tf 20 18) ?_
           refine pw HT_ 20 62 (tf 21 17) ?_
           refine pw HT_ 21 63 (tf 22 16) ?_
           refine pw HT_ 22 64 (tf 23 15) ?_
           refine pw HT_ 23 65 (tf 24 14) ?_
           refine pw HT_ 24 66 (tf 25 13) ?_
           refine pw HT_ 25 67 (tf 26 12) ?_
           refine pw HT_ 26 68 (tf 27 11) ?_
           refine pw HT_ 27 69 (tf 28 10) ?_
           refine pw HT_ 28 70 (tf 29 9) ?_
           refine pw HT_ 29 71 (tf 30 8) ?_
           refine pw HT_ 30 72 (tf 31 7) ?_
           refine pw HT_ 31 73 (tf 32 6) ?_
           refine pw HT_ 32 74 (tf 33 5) ?_
           refine pw HT_ 33 75 (tf 34 4) ?_
           refine pw HT_ 34 76 (tf 35 3) ?_
           refine pw HT_ 35 77 (tf 36 2) ?_
           refine pw HT_ 36 78 (tf 37 1) ?_
           refine pv HT_ 37 79 (tf 38 0) ?_
           refine done_ (done_of HT_.out (by kernel_rfl)) ?_
           try go_wp2
           go_meet
           case rel => exact ⟨_, (true), (by first | rfl | (simp; done) | (simp [*]; done)), H', ⟨by have := HJ1.out; have := HK2.out; first | omega | exact Nat.le_refl _⟩, ⟨KB BK101⟩, ⟨K1 HB GE101.out⟩⟩
          ·rw [if_neg c27] at H
           have c27b0 : decide (a0_0 < ((rd_T95 l0_4 x3_2).f4)) = false := decide_eq_false c27
           clear c27
           by_cases c30 : x3_2 > 0
           ·rw [if_pos c30] at H
            have c30b0 : decide (0 < x3_2) = true := decide_eq_true c30
            clear c30
            obtain ⟨ji31, hji31⟩ : ∃ j_ : Int, (wrap64 (x3_2 - 1)) = j_ := ⟨_, rfl⟩
            replace H : (if 0 ≤ (ji31) then (if (ji31) < (l0_4.length : Int) then (spec_GateOk.j2 k2 x3_2 (decide (((rd_T95 l0_4 (ji31)).f1) ≥ ((rd_T95 l0_4 x3_2).f1))) a0_0 l0_1 a0_2 l0_3 l0_4 l0_5) else (none)) else (none)) = some r := by first | (rw [hji31] at H; exact H) | (simp only [hji31] at H ⊢; exact H)
            (try rw [hji31] at A25)
            have hji31w : (IntKind.i64.wrap (x3_2 - 1)) = ji31 := (i64_w _).trans hji31
            by_cases c32 : 0 ≤ (ji31)
            ·rw [if_pos c32] at H
             have c32b0 : decide (0 ≤ (ji31)) = true := decide_eq_true c32
             clear c32
             by_cases c33 : (ji31) < (l0_4.length : Int)
             ·rw [if_pos c33] at H
              have c33b0 : decide ((ji31) < (l0_4.length : Int)) = true := decide_eq_true c33
              clear c33
              have H' := Aside0.mk H
              clear H
              try go_wp2
              replace BK101 := am (blk_drew BK101.out)
              replace HB := am (below_drew1 HB.out)
              have p104 : 0 ≤ (x3_2 : Int) := OD
              have q104 : x3_2 < (l0_4.length : Int) := OD
              obtain ⟨ad104, A104_10, c104_10, e104, hx104_0, hx104_1, hx104_2, hx104_3, hx104_4, hx104_5, hx104_6, hx104_7, hx104_8, hx104_9, hx104_10, hl104_10, hi104_10⟩ := at_T95 HR0_4.out x3_2 p104 q104
              have hw104_10 := hx104_10
              have hw104_9 := hx104_9
              have hw104_8 := hx104_8
              have hw104_7 := hx104_7
              have hw104_6 := hx104_6
              have hw104_5 := hx104_5
              have hw104_4 := hx104_4
              have hw104_3 := hx104_3
              have hw104_2 := hx104_2
              have hw104_1 := hx104_1
              have hw104_0 := hx104_0
              cases e104
              replace hx104_0 := CX HB.out hx104_0
              replace hx104_1 := CX HB.out hx104_1
              replace hx104_2 := CX HB.out hx104_2
              replace hx104_3 := CX HB.out hx104_3
              replace hx104_4 := CX HB.out hx104_4
              replace hx104_5 := CX HB.out hx104_5
              replace hx104_6 := CX HB.out hx104_6
              replace hx104_7 := CX HB.out hx104_7
              replace hx104_8 := CX HB.out hx104_8
              replace hx104_9 := CX HB.out hx104_9
              replace hx104_10 := CX HB.out hx104_10
              have HR104_10 := Aside0.mk hi104_10
              have HC104_10 := Aside0.mk hl104_10
              clear hi104_10 hl104_10
              replace p104 := eq_true p104
              replace q104 := eq_true q104
              have p106 : 0 ≤ (x3_2 : Int) := OD
              have q106 : x3_2 < (l0_4.length : Int) := OD
              obtain ⟨ad106, A106_10, c106_10, e106, hx106_0, hx106_1, hx106_2, hx106_3, hx106_4, hx106_5, hx106_6, hx106_7, hx106_8, hx106_9, hx106_10, hl106_10, hi106_10⟩ := at_T95 HR0_4.out x3_2 p106 q106
              have hw106_10 := hx106_10
              have hw106_9 := hx106_9
              have hw106_8 := hx106_8
              have hw106_7 := hx106_7
              have hw106_6 := hx106_6
              have hw106_5 := hx106_5
              have hw106_4 := hx106_4
              have hw106_3 := hx106_3
              have hw106_2 := hx106_2
              have hw106_1 := hx106_1
              have hw106_0 := hx106_0
              obtain rfl : ad104 = ad106 := (by injection e106)
              replace hx106_0 := CX HB.out hx106_0
              replace hx106_1 := CX HB.out hx106_1
              replace hx106_2 := CX HB.out hx106_2
              replace hx106_3 := CX HB.out hx106_3
              replace hx106_4 := CX HB.out hx106_4
              replace hx106_5 := CX HB.out hx106_5
              replace hx106_6 := CX HB.out hx106_6
              replace hx106_7 := CX HB.out hx106_7
              replace hx106_8 := CX HB.out hx106_8
              replace hx106_9 := CX HB.out hx106_9
              replace hx106_10 := CX HB.out hx106_10
              have HR106_10 := Aside0.mk hi106_10
              have HC106_10 := Aside0.mk hl106_10
              clear hi106_10 hl106_10
              replace p106 := eq_true p106
              replace q106 := eq_true q106
              have p107 : 0 ≤ ((ji31) : Int) := OD
              have q107 : (ji31) < (l0_4.length : Int) := OD
              obtain ⟨ad107, A107_10, c107_10, e107, hx107_0, hx107_1, hx107_2, hx107_3, hx107_4, hx107_5, hx107_6, hx107_7, hx107_8, hx107_9, hx107_10, hl107_10, hi107_10⟩ := at_T95 HR0_4.out (ji31) p107 q107
              have hw107_10 := hx107_10
              have hw107_9 := hx107_9
              have hw107_8 := hx107_8
              have hw107_7 := hx107_7
              have hw107_6 := hx107_6
              have hw107_5 := hx107_5
              have hw107_4 := hx107_4
              have hw107_3 := hx107_3
              have hw107_2 := hx107_2
              have hw107_1 := hx107_1
              have hw107_0 := hx107_0
              obtain rfl : ad104 = ad107 := (by injection e107)
              replace hx107_0 := CX HB.out hx107_0
              replace hx107_1 := CX HB.out hx107_1
              replace hx107_2 := CX HB.out hx107_2
              replace hx107_3 := CX HB.out hx107_3
              replace hx107_4 := CX HB.out hx107_4
              replace hx107_5 := CX HB.out hx107_5
              replace hx107_6 := CX HB.out hx107_6
              replace hx107_7 := CX HB.out hx107_7
              replace hx107_8 := CX HB.out hx107_8
              replace hx107_9 := CX HB.out hx107_9
              replace hx107_10 := CX HB.out hx107_10
              have HR107_10 := Aside0.mk hi107_10
              have HC107_10 := Aside0.mk hl107_10
              clear hi107_10 hl107_10
              replace p107 := eq_true p107
              replace q107 := eq_true q107
              have p108 : 0 ≤ (x3_2 : Int) := OD
              have q108 : x3_2 < (l0_4.length : Int) := OD
              obtain ⟨ad108, A108_10, c108_10, e108, hx108_0, hx108_1, hx108_2, hx108_3, hx108_4, hx108_5, hx108_6, hx108_7, hx108_8, hx108_9, hx108_10, hl108_10, hi108_10⟩ := at_T95 HR0_4.out x3_2 p108 q108
              have hw108_10 := hx108_10
              have hw108_9 := hx108_9
              have hw108_8 := hx108_8
              have hw108_7 := hx108_7
              have hw108_6 := hx108_6
              have hw108_5 := hx108_5
              have hw108_4 := hx108_4
              have hw108_3 := hx108_3
              have hw108_2 := hx108_2
              have hw108_1 := hx108_1
              have hw108_0 := hx108_0
              obtain rfl : ad104 = ad108 := (by injection e108)
              replace hx108_0 := CX HB.out hx108_0
              replace hx108_1 := CX HB.out hx108_1
              replace hx108_2 := CX HB.out hx108_2
              replace hx108_3 := CX HB.out hx108_3
              replace hx108_4 := CX HB.out hx108_4
              replace hx108_5 := CX HB.out hx108_5
              replace hx108_6 := CX HB.out hx108_6
              replace hx108_7 := CX HB.out hx108_7
              replace hx108_8 := CX HB.out hx108_8
              replace hx108_9 := CX HB.out hx108_9
              replace hx108_10 := CX HB.out hx108_10
              have HR108_10 := Aside0.mk hi108_10
              have HC108_10 := Aside0.mk hl108_10
              clear hi108_10 hl108_10
              replace p108 := eq_true p108
              replace q108 := eq_true q108
              have ea_ := Option.some.inj (hx106_10.symm.trans hx108_10)
              injection ea_ with ea_ en_ ec_
              subst ea_
              subst ec_
              clear en_
              refine start_ (n := 38) (S := fun w' => ce6 w' gb101 (.int .i64 a0_0) (.slice A0_1 l0_1.length c0_1) (.int .i64 a0_2) (.slice A0_3 l0_3.length c0_3) (.slice (some ad104) l0_4.length c0_4) (.slice A0_5 l0_5.length c0_5) (w'.cell? (ad104.add ((x3_2).toNat * 11)) = some (.int .i64 ((rd_T95 l0_4 x3_2).f0)) ∧ w'.cell? ⟨(ad104.add ((x3_2).toNat * 11)).block, (ad104.add ((x3_2).toNat * 11)).off + 1, none⟩ = some (.int .i64 ((rd_T95 l0_4 x3_2).f1)) ∧ w'.cell? ⟨(ad104.add ((x3_2).toNat * 11)).block, (ad104.add ((x3_2).toNat * 11)).off + 2, none⟩ = some (.string ((rd_T95 l0_4 x3_2).f2)) ∧ w'.cell? ⟨(ad104.add ((x3_2).toNat * 11)).block, (ad104.add ((x3_2).toNat * 11)).off + 3, none⟩ = some (.string ((rd_T95 l0_4 x3_2).f3)) ∧ w'.cell? ⟨(ad104.add ((x3_2).toNat * 11)).block, (ad104.add ((x3_2).toNat * 11)).off + 4, none⟩ = some (.int .i64 ((rd_T95 l0_4 x3_2).f4)) ∧ w'.cell? ⟨(ad104.add ((x3_2).toNat * 11)).block, (ad104.add ((x3_2).toNat * 11)).off + 5, none⟩ = some (.int .i64 ((rd_T95 l0_4 x3_2).f5)) ∧ w'.cell? ⟨(ad104.add ((x3_2).toNat * 11)).block, (ad104.add ((x3_2).toNat * 11)).off + 6, none⟩ = some (.int .i64 ((rd_T95 l0_4 x3_2).f6)) ∧ w'.cell? ⟨(ad104.add ((x3_2).toNat * 11)).block, (ad104.add ((x3_2).toNat * 11)).off + 7, none⟩ = some (.int .i64 ((rd_T95 l0_4 x3_2).f7)) ∧ w'.cell? ⟨(ad104.add ((x3_2).toNat * 11)).block, (ad104.add ((x3_2).toNat * 11)).off + 8, none⟩ = some (.int .i64 ((rd_T95 l0_4 x3_2).f8)) ∧ w'.cell? ⟨(ad104.add ((x3_2).toNat * 11)).block, (ad104.add ((x3_2).toNat * 11)).off + 9, none⟩ = some (.int .i64 ((rd_T95 l0_4 x3_2).f9.f0)) ∧ w'.cell? ⟨(ad104.add ((x3_2).toNat * 11)).block, (ad104.add ((x3_2).toNat * 11)).off + 10, none⟩ = some (.slice A104_10 ((rd_T95 l0_4 x3_2).f9.f1).length c104_10) ∧ w'.cell? (ad104.add ((x3_2).toNat * 11)) = some (.int .i64 ((rd_T95 l0_4 x3_2).f0)) ∧ w'.cell? ⟨(ad104.add ((x3_2).toNat * 11)).block, (ad104.add ((x3_2).toNat * 11)).off + 1, none⟩ = some (.int .i64 ((rd_T95 l0_4 x3_2).f1)) ∧ w'.cell? ⟨(ad104.add ((x3_2).toNat * 11)).block, (ad104.add ((x3_2).toNat * 11)).off + 2, none⟩ = some (.string ((rd_T95 l0_4 x3_2).f2)) ∧ w'.cell? ⟨(ad104.add ((x3_2).toNat * 11)).block, (ad104.add ((x3_2).toNat * 11)).off + 3, none⟩ = some (.string ((rd_T95 l0_4 x3_2).f3)) ∧ w'.cell? ⟨(ad104.add ((x3_2).toNat * 11)).block, (ad104.add ((x3_2).toNat * 11)).off + 4, none⟩ = some (.int .i64 ((rd_T95 l0_4 x3_2).f4)) ∧ w'.cell? ⟨(ad104.add ((x3_2).toNat * 11)).block, (ad104.add ((x3_2).toNat * 11)).off + 5, none⟩ = some (.int .i64 ((rd_T95 l0_4 x3_2).f5)) ∧ w'.cell? ⟨(ad104.add ((x3_2).toNat * 11)).block, (ad104.add ((x3_2).toNat * 11)).off + 6, none⟩ = some (.int .i64 ((rd_T95 l0_4 x3_2).f6)) ∧ w'.cell? ⟨(ad104.add ((x3_2).toNat * 11)).block, (ad104.add ((x3_2).toNat * 11)).off + 7, none⟩ = some (.int .i64 ((rd_T95 l0_4 x3_2).f7)) ∧ w'.cell? ⟨(ad104.add ((x3_2).toNat * 11)).block, (ad104.add ((x3_2).toNat * 11)).off + 8, none⟩ = some (.int .i64 ((rd_T95 l0_4 x3_2).f8)) ∧ w'.cell? ⟨(ad104.add ((x3_2).toNat * 11)).block, (ad104.add ((x3_2).toNat * 11)).off + 9, none⟩ = some (.int .i64 ((rd_T95 l0_4 x3_2).f9.f0)) ∧ w'.cell? ⟨(ad104.add ((x3_2).toNat * 11)).block, (ad104.add ((x3_2).toNat * 11)).off + 10, none⟩ = some (.slice A106_10 ((rd_T95 l0_4 x3_2).f9.f1).length c106_10) ∧ w'.cell? (ad104.add (((ji31)).toNat * 11)) = some (.int .i64 ((rd_T95 l0_4 (ji31)).f0)) ∧ w'.cell? ⟨(ad104.add (((ji31)).toNat * 11)).block, (ad104.add (((ji31)).toNat * 11)).off + 1, none⟩ = some (.int .i64 ((rd_T95 l0_4 (ji31)).f1)) ∧ w'.cell? ⟨(ad104.add (((ji31)).toNat * 11)).block, (ad104.add (((ji31)).toNat * 11)).off + 2, none⟩ = some (.string ((rd_T95 l0_4 (ji31)).f2)) ∧ w'.cell? ⟨(ad104.add (((ji31)).toNat * 11)).block, (ad104.add (((ji31)).toNat * 11)).off + 3, none⟩ = some (.string ((rd_T95 l0_4 (ji31)).f3)) ∧ w'.cell? ⟨(ad104.add (((ji31)).toNat * 11)).block, (ad104.add (((ji31)).toNat * 11)).off + 4, none⟩ = some (.int .i64 ((rd_T95 l0_4 (ji31)).f4)) ∧ w'.cell? ⟨(ad104.add (((ji31)).toNat * 11)).block, (ad104.add (((ji31)).toNat * 11)).off + 5, none⟩ = some (.int .i64 ((rd_T95 l0_4 (ji31)).f5)) ∧ w'.cell? ⟨(ad104.add (((ji31)).toNat * 11)).block, (ad104.add (((ji31)).toNat * 11)).off + 6, none⟩ = some (.int .i64 ((rd_T95 l0_4 (ji31)).f6)) ∧ w'.cell? ⟨(ad104.add (((ji31)).toNat * 11)).block, (ad104.add (((ji31)).toNat * 11)).off + 7, none⟩ = some (.int .i64 ((rd_T95 l0_4 (ji31)).f7)) ∧ w'.cell? ⟨(ad104.add (((ji31)).toNat * 11)).block, (ad104.add (((ji31)).toNat * 11)).off + 8, none⟩ = some (.int .i64 ((rd_T95 l0_4 (ji31)).f8)) ∧ w'.cell? ⟨(ad104.add (((ji31)).toNat * 11)).block, (ad104.add (((ji31)).toNat * 11)).off + 9, none⟩ = some (.int .i64 ((rd_T95 l0_4 (ji31)).f9.f0)) ∧ w'.cell? ⟨(ad104.add (((ji31)).toNat * 11)).block, (ad104.add (((ji31)).toNat * 11)).off + 10, none⟩ = some (.slice A107_10 ((rd_T95 l0_4 (ji31)).f9.f1).length c107_10) ∧ w'.cell? (ad104.add ((x3_2).toNat * 11)) = some (.int .i64 ((rd_T95 l0_4 x3_2).f0)) ∧ w'.cell? ⟨(ad104.add ((x3_2).toNat * 11)).block, (ad104.add ((x3_2).toNat * 11)).off + 1, none⟩ = some (.int .i64 ((rd_T95 l0_4 x3_2).f1)) ∧ w'.cell? ⟨(ad104.add ((x3_2).toNat * 11)).block, (ad104.add ((x3_2).toNat * 11)).off + 2, none⟩ = some (.string ((rd_T95 l0_4 x3_2).f2)) ∧ w'.cell? ⟨(ad104.add ((x3_2).toNat * 11)).block, (ad104.add ((x3_2).toNat * 11)).off + 3, none⟩ = some (.string ((rd_T95 l0_4 x3_2).f3)) ∧ w'.cell? ⟨(ad104.add ((x3_2).toNat * 11)).block, (ad104.add ((x3_2).toNat * 11)).off + 4, none⟩ = some (.int .i64 ((rd_T95 l0_4 x3_2).f4)) ∧ w'.cell? ⟨(ad104.add ((x3_2).toNat * 11)).block, (ad104.add ((x3_2).toNat * 11)).off + 5, none⟩ = some (.int .i64 ((rd_T95 l0_4 x3_2).f5)) ∧ w'.cell? ⟨(ad104.add ((x3_2).toNat * 11)).block, (ad104.add ((x3_2).toNat * 11)).off + 6, none⟩ = some (.int .i64 ((rd_T95 l0_4 x3_2).f6)) ∧ w'.cell? ⟨(ad104.add ((x3_2).toNat * 11)).block, (ad104.add ((x3_2).toNat * 11)).off + 7, none⟩ = some (.int .i64 ((rd_T95 l0_4 x3_2).f7)) ∧ w'.cell? ⟨(ad104.add ((x3_2).toNat * 11)).block, (ad104.add ((x3_2).toNat * 11)).off + 8, none⟩ = some (.int .i64 ((rd_T95 l0_4 x3_2).f8)) ∧ w'.cell? ⟨(ad104.add ((x3_2).toNat * 11)).block, (ad104.add ((x3_2).toNat * 11)).off + 9, none⟩ = some (.int .i64 ((rd_T95 l0_4 x3_2).f9.f0)) ∧ w'.cell? ⟨(ad104.add ((x3_2).toNat * 11)).block, (ad104.add ((x3_2).toNat * 11)).off + 10, none⟩ = some (.slice A106_10 ((rd_T95 l0_4 x3_2).f9.f1).length c106_10))) (ds := []) (tf 0 38) (by kernel_rfl) rfl rfl ⟨z0 _ BK101.out, z1 _ BK101.out, z2 _ BK101.out, z3 _ BK101.out, z4 _ BK101.out, z5 _ BK101.out, (CY HB.out hw104_0), (CY HB.out hw104_1), (CY HB.out hw104_2), (CY HB.out hw104_3), (CY HB.out hw104_4), (CY HB.out hw104_5), (CY HB.out hw104_6), (CY HB.out hw104_7), (CY HB.out hw104_8), (CY HB.out hw104_9), (CY HB.out hw104_10), (CY HB.out hw106_0), (CY HB.out hw106_1), (CY HB.out hw106_2), (CY HB.out hw106_3), (CY HB.out hw106_4), (CY HB.out hw106_5), (CY HB.out hw106_6), (CY HB.out hw106_7), (CY HB.out hw106_8), (CY HB.out hw106_9), (CY HB.out hw106_10), (CY HB.out hw107_0), (CY HB.out hw107_1), (CY HB.out hw107_2), (CY HB.out hw107_3), (CY HB.out hw107_4), (CY HB.out hw107_5), (CY HB.out hw107_6), (CY HB.out hw107_7), (CY HB.out hw107_8), (CY HB.out hw107_9), (CY HB.out hw107_10), (CY HB.out hw108_0), (CY HB.out hw108_1), (CY HB.out hw108_2), (CY HB.out hw108_3), (CY HB.out hw108_4), (CY HB.out hw108_5), (CY HB.out hw108_6), (CY HB.out hw108_7), (CY HB.out hw108_8), (CY HB.out hw108_9), (CY HB.out hw108_10)⟩ (fun hHeld => ?_); refine with_tabW spec_GateOk.tab6 spec_GateOk.bits6 (fun HT_ HW_ => ?_)
              generalize wr.drew = w34 at BK101 HB HR104_10 HR106_10 HR107_10 HR108_10 hx104_0 hx104_1 hx104_10 hx104_2 hx104_3 hx104_4 hx104_5 hx104_6 hx104_7 hx104_8 hx104_9 hx106_0 hx106_1 hx106_10 hx106_2 hx106_3 hx106_4 hx106_5 hx106_6 hx106_7 hx106_8 hx106_9 hx107_0 hx107_1 hx107_10 hx107_2 hx107_3 hx107_4 hx107_5 hx107_6 hx107_7 hx107_8 hx107_9 hx108_0 hx108_1 hx108_10 hx108_2 hx108_3 hx108_4 hx108_5 hx108_6 hx108_7 hx108_8 hx108_9 hHeld ⊢
              refine pv HT_ 0 42 (tf 1 37) ?_
              refine pv HT_ 2 44 (tr [1, 1, 1, 35]) ?_
              refine tk 1 (some 43) (tf 3 35) (take_ofW HT_.out HW_.out (by kernel_rfl)) hHeld ?_
              refine pv HT_ 3 45 (tf 4 34) ?_
              refine tk 4 (some 46) (tf 5 33) (take_ofW HT_.out HW_.out (by kernel_rfl)) hHeld ?_
              refine one_ (i := 5) (N := some 47) (tf 6 32) rfl rfl (one_of HT_.out (by kernel_rfl)) (by decide) (fun K hK => ?_)
              refine goes_ Try.func61 (by kernel_rfl) rfl #[.agg #[.int .i64 ((rd_T95 l0_4 x3_2).f0), .int .i64 ((rd_T95 l0_4 x3_2).f1), .string ((rd_T95 l0_4 x3_2).f2), .string ((rd_T95 l0_4 x3_2).f3), .int .i64 ((rd_T95 l0_4 x3_2).f4), .int .i64 ((rd_T95 l0_4 x3_2).f5), .int .i64 ((rd_T95 l0_4 x3_2).f6), .int .i64 ((rd_T95 l0_4 x3_2).f7), .int .i64 ((rd_T95 l0_4 x3_2).f8), .int .i64 ((rd_T95 l0_4 x3_2).f9.f0), .slice A104_10 ((rd_T95 l0_4 x3_2).f9.f1).length c104_10]] (by rfl) rfl rfl MT ?_
              with_reducible refine (spec_SaOk.calls k2 ((rd_T95 l0_4 x3_2).f0) ((rd_T95 l0_4 x3_2).f1) ((rd_T95 l0_4 x3_2).f2) ((rd_T95 l0_4 x3_2).f3) ((rd_T95 l0_4 x3_2).f4) ((rd_T95 l0_4 x3_2).f5) ((rd_T95 l0_4 x3_2).f6) ((rd_T95 l0_4 x3_2).f7) ((rd_T95 l0_4 x3_2).f8) ((rd_T95 l0_4 x3_2).f9.f0) _ _ ((rd_T95 l0_4 x3_2).f9.f1) true _ ?side1 ?side2 A25.out).mono ?_
              (case side1 => exact KD HR104_10 HB)
              (case side2 => exact HC104_10.out)
              rintro e w35 ⟨rfl, hb⟩
              refine ⟨_, rfl, ?_⟩
              replace BK101 := am (BB BK101 hb)
              replace HB := am (below_step (K1 HB GE101.out) hb)
              (try clear hb)
              (try clear hb2)
              (try clear hk)
              (try clear hi)
              refine hK.out _ _ ⟨z0 _ BK101.out, z1 _ BK101.out, z2 _ BK101.out, z3 _ BK101.out, z4 _ BK101.out, z5 _ BK101.out, (CY HB.out hw104_0), (CY HB.out hw104_1), (CY HB.out hw104_2), (CY HB.out hw104_3), (CY HB.out hw104_4), (CY HB.out hw104_5), (CY HB.out hw104_6), (CY HB.out hw104_7), (CY HB.out hw104_8), (CY HB.out hw104_9), (CY HB.out hw104_10), (CY HB.out hw106_0), (CY HB.out hw106_1), (CY HB.out hw106_2), (CY HB.out hw106_3), (CY HB.out hw106_4), (CY HB.out hw106_5), (CY HB.out hw106_6), (CY HB.out hw106_7), (CY HB.out hw106_8), (CY HB.out hw106_9), (CY HB.out hw106_10), (CY HB.out hw107_0), (CY HB.out hw107_1), (CY HB.out hw107_2), (CY HB.out hw107_3), (CY HB.out hw107_4), (CY HB.out hw107_5), (CY HB.out hw107_6), (CY HB.out hw107_7), (CY HB.out hw107_8), (CY HB.out hw107_9), (CY HB.out hw107_10), (CY HB.out hw108_0), (CY HB.out hw108_1), (CY HB.out hw108_2), (CY HB.out hw108_3), (CY HB.out hw108_4), (CY HB.out hw108_5), (CY HB.out hw108_6), (CY HB.out hw108_7), (CY HB.out hw108_8), (CY HB.out hw108_9), (CY HB.out hw108_10)⟩ (fun hHeld => ?_)
              clear hK K
              refine norm_ (a' := ?_) ?_ ?_
              rotate_left
              ·show Act.put _ (some 47) _ = _
               simp only [Act.put, List.setIfInBounds_toArray, List.set_cons_zero, List.set_cons_succ, i64_w, i32_w]
               rfl
              refine pv HT_ 6 48 (tf 7 31) ?_
              refine pv HT_ 7 49 (tf 8 30) ?_
              refine pv HT_ 8 50 (tf 9 29) ?_
              refine pv HT_ 10 52 (tr [9, 1, 1, 27]) ?_
              refine pv HT_ 14 56 (tr [9, 1, 1, 3, 1, 23]) ?_
              refine tk 9 (some 51) (tr [11, 3, 1, 23]) (take_ofW HT_.out HW_.out (by kernel_rfl)) hHeld ?_
              refine pv HT_ 11 53 (tr [12, 2, 1, 23]) ?_
              refine pv HT_ 12 54 (tr [13, 1, 1, 23]) ?_
              refine tk 13 (some 55) (tf 15 23) (take_ofW HT_.out HW_.out (by kernel_rfl)) hHeld ?_
              refine tk 15 (some 57) (tf 16 22) (take_ofW HT_.out HW_.out (by kernel_rfl)) hHeld ?_
              refine pv HT_ 16 58 (tf 17 21) ?_
              refine pv HT_ 17 59 (tf 18 20) ?_
              refine pv HT_ 18 60 (tf 19 19) ?_
              refine pv HT_ 19 61 (tf 20 18) ?_
              refine pv HT_ 20 62 (tf 21 17) ?_
              refine pv HT_ 21 63 (tf 22 16) ?_
              refine pv HT_ 22 64 (tf 23 15) ?_
              refine pv HT_ 24 66 (tr [23, 1, 1, 13]) ?_
              refine pv HT_ 25 67 (tr [23, 1, 2, 12]) ?_
              refine pv HT_ 29 71 (tr [23, 1, 2, 3, 1, 8]) ?_
              refine pv HT_ 31 73 (tr [23, 1, 2, 3, 1, 1, 1, 6]) ?_
              refine tk 23 (some 65) (tr [26, 3, 1, 1, 1, 6]) (take_ofW HT_.out HW_.out (by kernel_rfl)) hHeld ?_
              refine pv HT_ 26 68 (tr [27, 2, 1, 1, 1, 6]) ?_
              refine pv HT_ 27 69 (tr [28, 1, 1, 1, 1, 6]) ?_
              refine tk 28 (some 70) (tr [30, 1, 1, 6]) (take_ofW HT_.out HW_.out (by kernel_rfl)) hHeld ?_
              refine tk 30 (some 72) (tf 32 6) (take_ofW HT_.out HW_.out (by kernel_rfl)) hHeld ?_
              refine pv HT_ 32 74 (tf 33 5) ?_
              refine pv HT_ 33 75 (tf 34 4) ?_
              refine tk 34 (some 76) (tf 35 3) (take_ofW HT_.out HW_.out (by kernel_rfl)) hHeld ?_
              refine pv HT_ 35 77 (tf 36 2) ?_
              refine pv HT_ 36 78 (tf 37 1) ?_
              refine pv HT_ 37 79 (tf 38 0) ?_
              refine done_ (done_of HT_.out (by kernel_rfl)) ?_
              try go_wp2
              go_meet
              case rel => exact ⟨_, (decide (((rd_T95 l0_4 (ji31)).f1) ≥ ((rd_T95 l0_4 x3_2).f1))), (by first | rfl | (simp; done) | (simp only [← hji31] <;> (first | rfl | simp)) | (simp [*]; done)), H', ⟨by have := HJ1.out; have := HK2.out; first | omega | exact Nat.le_refl _⟩, ⟨KB BK101⟩, ⟨K1 HB GE101.out⟩⟩
             ·rw [if_neg c33] at H
              exact absurd H (by simp)
            ·rw [if_neg c32] at H
             exact absurd H (by simp)
           ·rw [if_neg c30] at H
            have c30b0 : decide (0 < x3_2) = false := decide_eq_false c30
            clear c30
            have H' := Aside0.mk H
            clear H
            try go_wp2
            replace BK101 := am (blk_drew BK101.out)
            replace HB := am (below_drew1 HB.out)
            have p104 : 0 ≤ (x3_2 : Int) := OD
            have q104 : x3_2 < (l0_4.length : Int) := OD
            obtain ⟨ad104, A104_10, c104_10, e104, hx104_0, hx104_1, hx104_2, hx104_3, hx104_4, hx104_5, hx104_6, hx104_7, hx104_8, hx104_9, hx104_10, hl104_10, hi104_10⟩ := at_T95 HR0_4.out x3_2 p104 q104
            have hw104_10 := hx104_10
            have hw104_9 := hx104_9
            have hw104_8 := hx104_8
            have hw104_7 := hx104_7
            have hw104_6 := hx104_6
            have hw104_5 := hx104_5
            have hw104_4 := hx104_4
            have hw104_3 := hx104_3
            have hw104_2 := hx104_2
            have hw104_1 := hx104_1
            have hw104_0 := hx104_0
            cases e104
            replace hx104_0 := CX HB.out hx104_0
            replace hx104_1 := CX HB.out hx104_1
            replace hx104_2 := CX HB.out hx104_2
            replace hx104_3 := CX HB.out hx104_3
            replace hx104_4 := CX HB.out hx104_4
            replace hx104_5 := CX HB.out hx104_5
            replace hx104_6 := CX HB.out hx104_6
            replace hx104_7 := CX HB.out hx104_7
            replace hx104_8 := CX HB.out hx104_8
            replace hx104_9 := CX HB.out hx104_9
            replace hx104_10 := CX HB.out hx104_10
            have HR104_10 := Aside0.mk hi104_10
            have HC104_10 := Aside0.mk hl104_10
            clear hi104_10 hl104_10
            replace p104 := eq_true p104
            replace q104 := eq_true q104
            have p106 : 0 ≤ (x3_2 : Int) := OD
            have q106 : x3_2 < (l0_4.length : Int) := OD
            obtain ⟨ad106, A106_10, c106_10, e106, hx106_0, hx106_1, hx106_2, hx106_3, hx106_4, hx106_5, hx106_6, hx106_7, hx106_8, hx106_9, hx106_10, hl106_10, hi106_10⟩ := at_T95 HR0_4.out x3_2 p106 q106
            have hw106_10 := hx106_10
            have hw106_9 := hx106_9
            have hw106_8 := hx106_8
            have hw106_7 := hx106_7
            have hw106_6 := hx106_6
            have hw106_5 := hx106_5
            have hw106_4 := hx106_4
            have hw106_3 := hx106_3
            have hw106_2 := hx106_2
            have hw106_1 := hx106_1
            have hw106_0 := hx106_0
            obtain rfl : ad104 = ad106 := (by injection e106)
            replace hx106_0 := CX HB.out hx106_0
            replace hx106_1 := CX HB.out hx106_1
            replace hx106_2 := CX HB.out hx106_2
            replace hx106_3 := CX HB.out hx106_3
            replace hx106_4 := CX HB.out hx106_4
            replace hx106_5 := CX HB.out hx106_5
            replace hx106_6 := CX HB.out hx106_6
            replace hx106_7 := CX HB.out hx106_7
            replace hx106_8 := CX HB.out hx106_8
            replace hx106_9 := CX HB.out hx106_9
            replace hx106_10 := CX HB.out hx106_10
            have HR106_10 := Aside0.mk hi106_10
            have HC106_10 := Aside0.mk hl106_10
            clear hi106_10 hl106_10
            replace p106 := eq_true p106
            replace q106 := eq_true q106
            refine start_ (n := 38) (S := fun w' => ce6 w' gb101 (.int .i64 a0_0) (.slice A0_1 l0_1.length c0_1) (.int .i64 a0_2) (.slice A0_3 l0_3.length c0_3) (.slice (some ad104) l0_4.length c0_4) (.slice A0_5 l0_5.length c0_5) (w'.cell? (ad104.add ((x3_2).toNat * 11)) = some (.int .i64 ((rd_T95 l0_4 x3_2).f0)) ∧ w'.cell? ⟨(ad104.add ((x3_2).toNat * 11)).block, (ad104.add ((x3_2).toNat * 11)).off + 1, none⟩ = some (.int .i64 ((rd_T95 l0_4 x3_2).f1)) ∧ w'.cell? ⟨(ad104.add ((x3_2).toNat * 11)).block, (ad104.add ((x3_2).toNat * 11)).off + 2, none⟩ = some (.string ((rd_T95 l0_4 x3_2).f2)) ∧ w'.cell? ⟨(ad104.add ((x3_2).toNat * 11)).block, (ad104.add ((x3_2).toNat * 11)).off + 3, none⟩ = some (.string ((rd_T95 l0_4 x3_2).f3)) ∧ w'.cell? ⟨(ad104.add ((x3_2).toNat * 11)).block, (ad104.add ((x3_2).toNat * 11)).off + 4, none⟩ = some (.int .i64 ((rd_T95 l0_4 x3_2).f4)) ∧ w'.cell? ⟨(ad104.add ((x3_2).toNat * 11)).block, (ad104.add ((x3_2).toNat * 11)).off + 5, none⟩ = some (.int .i64 ((rd_T95 l0_4 x3_2).f5)) ∧ w'.cell? ⟨(ad104.add ((x3_2).toNat * 11)).block, (ad104.add ((x3_2).toNat * 11)).off + 6, none⟩ = some (.int .i64 ((rd_T95 l0_4 x3_2).f6)) ∧ w'.cell? ⟨(ad104.add ((x3_2).toNat * 11)).block, (ad104.add ((x3_2).toNat * 11)).off + 7, none⟩ = some (.int .i64 ((rd_T95 l0_4 x3_2).f7)) ∧ w'.cell? ⟨(ad104.add ((x3_2).toNat * 11)).block, (ad104.add ((x3_2).toNat * 11)).off + 8, none⟩ = some (.int .i64 ((rd_T95 l0_4 x3_2).f8)) ∧ w'.cell? ⟨(ad104.add ((x3_2).toNat * 11)).block, (ad104.add ((x3_2).toNat * 11)).off + 9, none⟩ = some (.int .i64 ((rd_T95 l0_4 x3_2).f9.f0)) ∧ w'.cell? ⟨(ad104.add ((x3_2).toNat * 11)).block, (ad104.add ((x3_2).toNat * 11)).off + 10, none⟩ = some (.slice A104_10 ((rd_T95 l0_4 x3_2).f9.f1).length c104_10) ∧ w'.cell? (ad104.add ((x3_2).toNat * 11)) = some (.int .i64 ((rd_T95 l0_4 x3_2).f0)) ∧ w'.cell? ⟨(ad104.add ((x3_2).toNat * 11)).block, (ad104.add ((x3_2).toNat * 11)).off + 1, none⟩ = some (.int .i64 ((rd_T95 l0_4 x3_2).f1)) ∧ w'.cell? ⟨(ad104.add ((x3_2).toNat * 11)).block, (ad104.add ((x3_2).toNat * 11)).off + 2, none⟩ = some (.string ((rd_T95 l0_4 x3_2).f2)) ∧ w'.cell? ⟨(ad104.add ((x3_2).toNat * 11)).block, (ad104.add ((x3_2).toNat * 11)).off + 3, none⟩ = some (.string ((rd_T95 l0_4 x3_2).f3)) ∧ w'.cell? ⟨(ad104.add ((x3_2).toNat * 11)).block, (ad104.add ((x3_2).toNat * 11)).off + 4, none⟩ = some (.int .i64 ((rd_T95 l0_4 x3_2).f4)) ∧ w'.cell? ⟨(ad104.add ((x3_2).toNat * 11)).block, (ad104.add ((x3_2).toNat * 11)).off + 5, none⟩ = some (.int .i64 ((rd_T95 l0_4 x3_2).f5)) ∧ w'.cell? ⟨(ad104.add ((x3_2).toNat * 11)).block, (ad104.add ((x3_2).toNat * 11)).off + 6, none⟩ = some (.int .i64 ((rd_T95 l0_4 x3_2).f6)) ∧ w'.cell? ⟨(ad104.add ((x3_2).toNat * 11)).block, (ad104.add ((x3_2).toNat * 11)).off + 7, none⟩ = some (.int .i64 ((rd_T95 l0_4 x3_2).f7)) ∧ w'.cell? ⟨(ad104.add ((x3_2).toNat * 11)).block, (ad104.add ((x3_2).toNat * 11)).off + 8, none⟩ = some (.int .i64 ((rd_T95 l0_4 x3_2).f8)) ∧ w'.cell? ⟨(ad104.add ((x3_2).toNat * 11)).block, (ad104.add ((x3_2).toNat * 11)).off + 9, none⟩ = some (.int .i64 ((rd_T95 l0_4 x3_2).f9.f0)) ∧ w'.cell? ⟨(ad104.add ((x3_2).toNat * 11)).block, (ad104.add ((x3_2).toNat * 11)).off + 10, none⟩ = some (.slice A106_10 ((rd_T95 l0_4 x3_2).f9.f1).length c106_10))) (ds := []) (tf 0 38) (by kernel_rfl) rfl rfl ⟨z0 _ BK101.out, z1 _ BK101.out, z2 _ BK101.out, z3 _ BK101.out, z4 _ BK101.out, z5 _ BK101.out, (CY HB.out hw104_0), (CY HB.out hw104_1), (CY HB.out hw104_2), (CY HB.out hw104_3), (CY HB.out hw104_4), (CY HB.out hw104_5), (CY HB.out hw104_6), (CY HB.out hw104_7), (CY HB.out hw104_8), (CY HB.out hw104_9), (CY HB.out hw104_10), (CY HB.out hw106_0), (CY HB.out hw106_1), (CY HB.out hw106_2), (CY HB.out hw106_3), (CY HB.out hw106_4), (CY HB.out hw106_5), (CY HB.out hw106_6), (CY HB.out hw106_7), (CY HB.out hw106_8), (CY HB.out hw106_9), (CY HB.out hw106_10)⟩ (fun hHeld => ?_); refine with_tabW spec_GateOk.tab6 spec_GateOk.bits6 (fun HT_ HW_ => ?_)
            generalize wr.drew = w36 at BK101 HB HR104_10 HR106_10 hx104_0 hx104_1 hx104_10 hx104_2 hx104_3 hx104_4 hx104_5 hx104_6 hx104_7 hx104_8 hx104_9 hx106_0 hx106_1 hx106_10 hx106_2 hx106_3 hx106_4 hx106_5 hx106_6 hx106_7 hx106_8 hx106_9 hHeld ⊢
            refine pv HT_ 0 42 (tf 1 37) ?_
            refine pv HT_ 2 44 (tr [1, 1, 1, 35]) ?_
            refine tk 1 (some 43) (tf 3 35) (take_ofW HT_.out HW_.out (by kernel_rfl)) hHeld ?_
            refine pv HT_ 3 45 (tf 4 34) ?_
            refine tk 4 (some 46) (tf 5 33) (take_ofW HT_.out HW_.out (by kernel_rfl)) hHeld ?_
            refine one_ (i := 5) (N := some 47) (tf 6 32) rfl rfl (one_of HT_.out (by kernel_rfl)) (by decide) (fun K hK => ?_)
            refine goes_ Try.func61 (by kernel_rfl) rfl #[.agg #[.int .i64 ((rd_T95 l0_4 x3_2).f0), .int .i64 ((rd_T95 l0_4 x3_2).f1), .string ((rd_T95 l0_4 x3_2).f2), .string ((rd_T95 l0_4 x3_2).f3), .int .i64 ((rd_T95 l0_4 x3_2).f4), .int .i64 ((rd_T95 l0_4 x3_2).f5), .int .i64 ((rd_T95 l0_4 x3_2).f6), .int .i64 ((rd_T95 l0_4 x3_2).f7), .int .i64 ((rd_T95 l0_4 x3_2).f8), .int .i64 ((rd_T95 l0_4 x3_2).f9.f0), .slice A104_10 ((rd_T95 l0_4 x3_2).f9.f1).length c104_10]] (by rfl) rfl rfl MT ?_
            with_reducible refine (spec_SaOk.calls k2 ((rd_T95 l0_4 x3_2).f0) ((rd_T95 l0_4 x3_2).f1) ((rd_T95 l0_4 x3_2).f2) ((rd_T95 l0_4 x3_2).f3) ((rd_T95 l0_4 x3_2).f4) ((rd_T95 l0_4 x3_2).f5) ((rd_T95 l0_4 x3_2).f6) ((rd_T95 l0_4 x3_2).f7) ((rd_T95 l0_4 x3_2).f8) ((rd_T95 l0_4 x3_2).f9.f0) _ _ ((rd_T95 l0_4 x3_2).f9.f1) true _ ?side1 ?side2 A25.out).mono ?_
            (case side1 => exact KD HR104_10 HB)
            (case side2 => exact HC104_10.out)
            rintro e w37 ⟨rfl, hb⟩
            refine ⟨_, rfl, ?_⟩
            replace BK101 := am (BB BK101 hb)
            replace HB := am (below_step (K1 HB GE101.out) hb)
            (try clear hb)
            (try clear hb2)
            (try clear hk)
            (try clear hi)
            refine hK.out _ _ ⟨z0 _ BK101.out, z1 _ BK101.out, z2 _ BK101.out, z3 _ BK101.out, z4 _ BK101.out, z5 _ BK101.out, (CY HB.out hw104_0), (CY HB.out hw104_1), (CY HB.out hw104_2), (CY HB.out hw104_3), (CY HB.out hw104_4), (CY HB.out hw104_5), (CY HB.out hw104_6), (CY HB.out hw104_7), (CY HB.out hw104_8), (CY HB.out hw104_9), (CY HB.out hw104_10), (CY HB.out hw106_0), (CY HB.out hw106_1), (CY HB.out hw106_2), (CY HB.out hw106_3), (CY HB.out hw106_4), (CY HB.out hw106_5), (CY HB.out hw106_6), (CY HB.out hw106_7), (CY HB.out hw106_8), (CY HB.out hw106_9), (CY HB.out hw106_10)⟩ (fun hHeld => ?_)
            clear hK K
            refine norm_ (a' := ?_) ?_ ?_
            rotate_left
            ·show Act.put _ (some 47) _ = _
             simp only [Act.put, List.setIfInBounds_toArray, List.set_cons_zero, List.set_cons_succ, i64_w, i32_w]
             rfl
            refine pv HT_ 6 48 (tf 7 31) ?_
            refine pv HT_ 7 49 (tf 8 30) ?_
            refine pv HT_ 8 50 (tf 9 29) ?_
            refine pv HT_ 10 52 (tr [9, 1, 1, 27]) ?_
            refine pv HT_ 14 56 (tr [9, 1, 1, 3, 1, 23]) ?_
            refine tk 9 (some 51) (tr [11, 3, 1, 23]) (take_ofW HT_.out HW_.out (by kernel_rfl)) hHeld ?_
            refine pv HT_ 11 53 (tr [12, 2, 1, 23]) ?_
            refine pv HT_ 12 54 (tr [13, 1, 1, 23]) ?_
            refine tk 13 (some 55) (tf 15 23) (take_ofW HT_.out HW_.out (by kernel_rfl)) hHeld ?_
            refine tk 15 (some 57) (tf 16 22) (take_ofW HT_.out HW_.out (by kernel_rfl)) hHeld ?_
            refine pv HT_ 16 58 (tf 17 21) ?_
            refine pv HT_ 17 59 (tf 18 20) ?_
            refine pv HT_ 18 60 (tf 19 19) ?_
            refine pv HT_ 19 61 (tf 20 18) ?_
            refine pv HT_ 20 62 (tf 21 17) ?_
            refine pv HT_ 21 63 (tf 22 16) ?_
            refine pw HT_ 22 64 (tf 23 15) ?_
            refine pw HT_ 23 65 (tf 24 14) ?_
            refine pw HT_ 24 66 (tf 25 13) ?_
            refine pw HT_ 25 67 (tf 26 12) ?_
            refine pw HT_ 26 68 (tf 27 11) ?_
            refine pw HT_ 27 69 (tf 28 10) ?_
            refine pw HT_ 28 70 (tf 29 9) ?_
            refine pw HT_ 29 71 (tf 30 8) ?_
            refine pw HT_ 30 72 (tf 31 7) ?_
            refine pw HT_ 31 73 (tf 32 6) ?_
            refine pw HT_ 32 74 (tf 33 5) ?_
            refine pw HT_ 33 75 (tf 34 4) ?_
            refine pw HT_ 34 76 (tf 35 3) ?_
            refine pw HT_ 35 77 (tf 36 2) ?_
            refine pv HT_ 36 78 (tf 37 1) ?_
            refine pv HT_ 37 79 (tf 38 0) ?_
            refine done_ (done_of HT_.out (by kernel_rfl)) ?_
            try go_wp2
            go_meet
            case rel => exact ⟨_, (false), (by first | rfl | (simp; done) | (simp [*]; done)), H', ⟨by have := HJ1.out; have := HK2.out; first | omega | exact Nat.le_refl _⟩, ⟨KB BK101⟩, ⟨K1 HB GE101.out⟩⟩
         ·replace c26 := Bool.eq_false_iff.mpr c26
          subst c26
          have H1 : (spec_GateOk.j2 k2 x3_2 true a0_0 l0_1 a0_2 l0_3 l0_4 l0_5) = some r := by rw [if_neg (show ¬ (false = true) by decide)] at H; exact H
          clear H
          have H := H1
          clear H1
          have H' := Aside0.mk H
          clear H
          try go_wp2
          replace BK101 := am (blk_drew BK101.out)
          replace HB := am (below_drew1 HB.out)
          have p104 : 0 ≤ (x3_2 : Int) := OD
          have q104 : x3_2 < (l0_4.length : Int) := OD
          obtain ⟨ad104, A104_10, c104_10, e104, hx104_0, hx104_1, hx104_2, hx104_3, hx104_4, hx104_5, hx104_6, hx104_7, hx104_8, hx104_9, hx104_10, hl104_10, hi104_10⟩ := at_T95 HR0_4.out x3_2 p104 q104
          have hw104_10 := hx104_10
          have hw104_9 := hx104_9
          have hw104_8 := hx104_8
          have hw104_7 := hx104_7
          have hw104_6 := hx104_6
          have hw104_5 := hx104_5
          have hw104_4 := hx104_4
          have hw104_3 := hx104_3
          have hw104_2 := hx104_2
          have hw104_1 := hx104_1
          have hw104_0 := hx104_0
          cases e104
          replace hx104_0 := CX HB.out hx104_0
          replace hx104_1 := CX HB.out hx104_1
          replace hx104_2 := CX HB.out hx104_2
          replace hx104_3 := CX HB.out hx104_3
          replace hx104_4 := CX HB.out hx104_4
          replace hx104_5 := CX HB.out hx104_5
          replace hx104_6 := CX HB.out hx104_6
          replace hx104_7 := CX HB.out hx104_7
          replace hx104_8 := CX HB.out hx104_8
          replace hx104_9 := CX HB.out hx104_9
          replace hx104_10 := CX HB.out hx104_10
          have HR104_10 := Aside0.mk hi104_10
          have HC104_10 := Aside0.mk hl104_10
          clear hi104_10 hl104_10
          replace p104 := eq_true p104
          replace q104 := eq_true q104
          refine start_ (n := 38) (S := fun w' => ce6 w' gb101 (.int .i64 a0_0) (.slice A0_1 l0_1.length c0_1) (.int .i64 a0_2) (.slice A0_3 l0_3.length c0_3) (.slice (some ad104) l0_4.length c0_4) (.slice A0_5 l0_5.length c0_5) (w'.cell? (ad104.add ((x3_2).toNat * 11)) = some (.int .i64 ((rd_T95 l0_4 x3_2).f0)) ∧ w'.cell? ⟨(ad104.add ((x3_2).toNat * 11)).block, (ad104.add ((x3_2).toNat * 11)).off + 1, none⟩ = some (.int .i64 ((rd_T95 l0_4 x3_2).f1)) ∧ w'.cell? ⟨(ad104.add ((x3_2).toNat * 11)).block, (ad104.add ((x3_2).toNat * 11)).off + 2, none⟩ = some (.string ((rd_T95 l0_4 x3_2).f2)) ∧ w'.cell? ⟨(ad104.add ((x3_2).toNat * 11)).block, (ad104.add ((x3_2).toNat * 11)).off + 3, none⟩ = some (.string ((rd_T95 l0_4 x3_2).f3)) ∧ w'.cell? ⟨(ad104.add ((x3_2).toNat * 11)).block, (ad104.add ((x3_2).toNat * 11)).off + 4, none⟩ = some (.int .i64 ((rd_T95 l0_4 x3_2).f4)) ∧ w'.cell? ⟨(ad104.add ((x3_2).toNat * 11)).block, (ad104.add ((x3_2).toNat * 11)).off + 5, none⟩ = some (.int .i64 ((rd_T95 l0_4 x3_2).f5)) ∧ w'.cell? ⟨(ad104.add ((x3_2).toNat * 11)).block, (ad104.add ((x3_2).toNat * 11)).off + 6, none⟩ = some (.int .i64 ((rd_T95 l0_4 x3_2).f6)) ∧ w'.cell? ⟨(ad104.add ((x3_2).toNat * 11)).block, (ad104.add ((x3_2).toNat * 11)).off + 7, none⟩ = some (.int .i64 ((rd_T95 l0_4 x3_2).f7)) ∧ w'.cell? ⟨(ad104.add ((x3_2).toNat * 11)).block, (ad104.add ((x3_2).toNat * 11)).off + 8, none⟩ = some (.int .i64 ((rd_T95 l0_4 x3_2).f8)) ∧ w'.cell? ⟨(ad104.add ((x3_2).toNat * 11)).block, (ad104.add ((x3_2).toNat * 11)).off + 9, none⟩ = some (.int .i64 ((rd_T95 l0_4 x3_2).f9.f0)) ∧ w'.cell? ⟨(ad104.add ((x3_2).toNat * 11)).block, (ad104.add ((x3_2).toNat * 11)).off + 10, none⟩ = some (.slice A104_10 ((rd_T95 l0_4 x3_2).f9.f1).length c104_10))) (ds := []) (tf 0 38) (by kernel_rfl) rfl rfl ⟨z0 _ BK101.out, z1 _ BK101.out, z2 _ BK101.out, z3 _ BK101.out, z4 _ BK101.out, z5 _ BK101.out, (CY HB.out hw104_0), (CY HB.out hw104_1), (CY HB.out hw104_2), (CY HB.out hw104_3), (CY HB.out hw104_4), (CY HB.out hw104_5), (CY HB.out hw104_6), (CY HB.out hw104_7), (CY HB.out hw104_8), (CY HB.out hw104_9), (CY HB.out hw104_10)⟩ (fun hHeld => ?_); refine with_tabW spec_GateOk.tab6 spec_GateOk.bits6 (fun HT_ HW_ => ?_)
          generalize wr.drew = w38 at BK101 HB HR104_10 hx104_0 hx104_1 hx104_10 hx104_2 hx104_3 hx104_4 hx104_5 hx104_6 hx104_7 hx104_8 hx104_9 hHeld ⊢
          refine pv HT_ 0 42 (tf 1 37) ?_
          refine pv HT_ 2 44 (tr [1, 1, 1, 35]) ?_
          refine tk 1 (some 43) (tf 3 35) (take_ofW HT_.out HW_.out (by kernel_rfl)) hHeld ?_
          refine pv HT_ 3 45 (tf 4 34) ?_
          refine tk 4 (some 46) (tf 5 33) (take_ofW HT_.out HW_.out (by kernel_rfl)) hHeld ?_
          refine one_ (i := 5) (N := some 47) (tf 6 32) rfl rfl (one_of HT_.out (by kernel_rfl)) (by decide) (fun K hK => ?_)
          refine goes_ Try.func61 (by kernel_rfl) rfl #[.agg #[.int .i64 ((rd_T95 l0_4 x3_2).f0), .int .i64 ((rd_T95 l0_4 x3_2).f1), .string ((rd_T95 l0_4 x3_2).f2), .string ((rd_T95 l0_4 x3_2).f3), .int .i64 ((rd_T95 l0_4 x3_2).f4), .int .i64 ((rd_T95 l0_4 x3_2).f5), .int .i64 ((rd_T95 l0_4 x3_2).f6), .int .i64 ((rd_T95 l0_4 x3_2).f7), .int .i64 ((rd_T95 l0_4 x3_2).f8), .int .i64 ((rd_T95 l0_4 x3_2).f9.f0), .slice A104_10 ((rd_T95 l0_4 x3_2).f9.f1).length c104_10]] (by rfl) rfl rfl MT ?_
          with_reducible refine (spec_SaOk.calls k2 ((rd_T95 l0_4 x3_2).f0) ((rd_T95 l0_4 x3_2).f1) ((rd_T95 l0_4 x3_2).f2) ((rd_T95 l0_4 x3_2).f3) ((rd_T95 l0_4 x3_2).f4) ((rd_T95 l0_4 x3_2).f5) ((rd_T95 l0_4 x3_2).f6) ((rd_T95 l0_4 x3_2).f7) ((rd_T95 l0_4 x3_2).f8) ((rd_T95 l0_4 x3_2).f9.f0) _ _ ((rd_T95 l0_4 x3_2).f9.f1) false _ ?side1 ?side2 A25.out).mono ?_
          (case side1 => exact KD HR104_10 HB)
          (case side2 => exact HC104_10.out)
          rintro e w39 ⟨rfl, hb⟩
          refine ⟨_, rfl, ?_⟩
          replace BK101 := am (BB BK101 hb)
          replace HB := am (below_step (K1 HB GE101.out) hb)
          (try clear hb)
          (try clear hb2)
          (try clear hk)
          (try clear hi)
          refine hK.out _ _ ⟨z0 _ BK101.out, z1 _ BK101.out, z2 _ BK101.out, z3 _ BK101.out, z4 _ BK101.out, z5 _ BK101.out, (CY HB.out hw104_0), (CY HB.out hw104_1), (CY HB.out hw104_2), (CY HB.out hw104_3), (CY HB.out hw104_4), (CY HB.out hw104_5), (CY HB.out hw104_6), (CY HB.out hw104_7), (CY HB.out hw104_8), (CY HB.out hw104_9), (CY HB.out hw104_10)⟩ (fun hHeld => ?_)
          clear hK K
          refine norm_ (a' := ?_) ?_ ?_
          rotate_left
          ·show Act.put _ (some 47) _ = _
           simp only [Act.put, List.setIfInBounds_toArray, List.set_cons_zero, List.set_cons_succ, i64_w, i32_w]
           rfl
          refine pv HT_ 6 48 (tf 7 31) ?_
          refine pv HT_ 7 49 (tf 8 30) ?_
          refine pw HT_ 8 50 (tf 9 29) ?_
          refine pw HT_ 9 51 (tf 10 28) ?_
          refine pw HT_ 10 52 (tf 11 27) ?_
          refine pw HT_ 11 53 (tf 12 26) ?_
          refine pw HT_ 12 54 (tf 13 25) ?_
          refine pw HT_ 13 55 (tf 14 24) ?_
          refine pw HT_ 14 56 (tf 15 23) ?_
          refine pw HT_ 15 57 (tf 16 22) ?_
          refine pw HT_ 16 58 (tf 17 21) ?_
          refine pv HT_ 17 59 (tf 18 20) ?_
          refine pv HT_ 18 60 (tf 19 19) ?_
          refine pw HT_ 19 61 (tf 20 18) ?_
          refine pw HT_ 20 62 (tf 21 17) ?_
          refine pw HT_ 21 63 (tf 22 16) ?_
          refine pw HT_ 22 64 (tf 23 15) ?_
          refine pw HT_ 23 65 (tf 24 14) ?_
          refine pw HT_ 24 66 (tf 25 13) ?_
          refine pw HT_ 25 67 (tf 26 12) ?_
          refine pw HT_ 26 68 (tf 27 11) ?_
          refine pw HT_ 27 69 (tf 28 10) ?_
          refine pw HT_ 28 70 (tf 29 9) ?_
          refine pw HT_ 29 71 (tf 30 8) ?_
          refine pw HT_ 30 72 (tf 31 7) ?_
          refine pw HT_ 31 73 (tf 32 6) ?_
          refine pw HT_ 32 74 (tf 33 5) ?_
          refine pw HT_ 33 75 (tf 34 4) ?_
          refine pw HT_ 34 76 (tf 35 3) ?_
          refine pw HT_ 35 77 (tf 36 2) ?_
          refine pw HT_ 36 78 (tf 37 1) ?_
          refine pv HT_ 37 79 (tf 38 0) ?_
          refine done_ (done_of HT_.out (by kernel_rfl)) ?_
          try go_wp2
          go_meet
          case rel => exact ⟨_, (true), (by first | rfl | (simp; done) | (simp [*]; done)), H', ⟨by have := HJ1.out; have := HK2.out; first | omega | exact Nat.le_refl _⟩, ⟨KB BK101⟩, ⟨K1 HB GE101.out⟩⟩
        ·rw [if_neg c24] at H
         exact absurd H (by simp)
       case rest =>
        clear HC22
        try clear c1
        try clear p1
        try clear q1
        try clear hx1
        try clear c2
        try clear p2
        try clear c6
        try clear c10
        try clear p10
        try clear q10
        try clear hx10
        try clear c24
        try clear c26
        try clear hx104_0
        try clear hx104_1
        try clear hx104_10
        try clear hx104_2
        try clear hx104_3
        try clear hx104_4
        try clear hx104_5
        try clear hx104_6
        try clear hx104_7
        try clear hx104_8
        try clear hx104_9
        try clear hx106_0
        try clear hx106_1
        try clear hx106_10
        try clear hx106_2
        try clear hx106_3
        try clear hx106_4
        try clear hx106_5
        try clear hx106_6
        try clear hx106_7
        try clear hx106_8
        try clear hx106_9
        try clear p104
        try clear p106
        try clear q104
        try clear q106
        obtain ⟨kq, x79_21, rfl, HA, HJ21, BK101, HB⟩ := hcut
        cases kq with
        | zero => exact absurd HA.out (by simp [spec_GateOk.j2])
        | succ kj21 =>
         have H := HA.out
         clear HA
         simp only [spec_GateOk.j2] at H
         by_cases c40 : x79_21 = true
         ·subst c40
          have H1 : (some false) = some r := by rw [if_pos rfl] at H; exact H
          clear H
          have H := H1
          clear H1
          obtain rfl := Option.some.inj H
          go_wp2
          go_ret
          exact ⟨ER, K1 HB GE101.out⟩
         ·replace c40 := Bool.eq_false_iff.mpr c40
          subst c40
          have H1 : (spec_GateOk.l0 kj21 (wrap64 (x3_2 + 1)) a0_0 l0_1 a0_2 l0_3 l0_4 l0_5) = some r := by rw [if_neg (show ¬ (false = true) by decide)] at H; exact H
          clear H
          have H := H1
          clear H1
          have H' := Aside0.mk H
          clear H
          go_wp2
          go_roundg kj21
          case measure => have := HJ1.out; have := HK2.out; have := HJ21.out; omega
          case rel => exact ⟨(wrap64 (x3_2 + 1)), (by first | rfl | (simp; done) | (simp [*]; done)), H', ⟨by have := HJ1.out; have := HK2.out; have := HJ21.out; omega⟩, ⟨KB BK101⟩, ⟨K1 HB GE101.out⟩⟩
      ·rw [if_neg c21] at H
       have c21b0 : decide (x3_2 < (l0_4.length : Int)) = false := decide_eq_false c21
       clear c21
       have H' := Aside0.mk H
       clear H
       obtain ⟨hcz41_0, hcz41_1, hcz41_2, hcz41_3, hcz41_4, hcz41_5, hfz41_0⟩ := y6 wr BK101.out
       go_wp2
       go_loopg [4] k2 (fun kq v4 w' => ∃ (x4_3 : Int), v4 = .int .i64 x4_3 ∧ Aside0 (spec_GateOk.l1 kq x4_3 a0_0 l0_1 a0_2 l0_3 l0_4 l0_5 = some r) ∧ Aside0 (kq ≤ k2) ∧ Aside0 (w'.heap[gb101]? = some (.cells #[.int .i64 a0_0, (.slice A0_1 l0_1.length c0_1), .int .i64 a0_2, (.slice A0_3 l0_3.length c0_3), (.slice A0_4 l0_4.length c0_4), (.slice A0_5 l0_5.length c0_5)] 57 (0, 0))) ∧ Aside0 (Below w.heap.size w w'))
       case atStart => exact ⟨(0), (by first | rfl | (simp; done) | (simp [*]; done)), H', ⟨Nat.le_refl _⟩, ⟨KB BK101⟩, ⟨K1 HB GE101.out⟩⟩
       case round =>
        clear H'
        try clear c1
        try clear p1
        try clear q1
        try clear hx1
        try clear c2
        try clear p2
        try clear c4
        try clear c6
        try clear p6
        try clear c10
        try clear p10
        try clear q10
        try clear hx10
        try clear c21
        try clear c21b0
        try clear c24
        try clear c26
        try clear c40
        try clear hcz41_0 hcz41_1 hcz41_2 hcz41_3 hcz41_4 hcz41_5 hfz41_0
        try clear hx104_0
        try clear hx104_1
        try clear hx104_10
        try clear hx104_2
        try clear hx104_3
        try clear hx104_4
        try clear hx104_5
        try clear hx104_6
        try clear hx104_7
        try clear hx104_8
        try clear hx104_9
        try clear hx106_0
        try clear hx106_1
        try clear hx106_10
        try clear hx106_2
        try clear hx106_3
        try clear hx106_4
        try clear hx106_5
        try clear hx106_6
        try clear hx106_7
        try clear hx106_8
        try clear hx106_9
        try clear p1
        try clear p10
        try clear p104
        try clear p106
        try clear p2
        try clear q1
        try clear q10
        try clear q104
        try clear q106
        obtain ⟨x4_3, rfl, HA, HK3, BK101, HB⟩ := hrel
        cases gk with
        | zero => exact absurd HA.out (by simp [spec_GateOk.l1])
        | succ k3 =>
         have H := HA.out
         clear HA
         simp only [spec_GateOk.l1] at H
         by_cases c42 : x4_3 < (l0_5.length : Int)
         ·rw [if_pos c42] at H
          have c42b0 : decide (x4_3 < (l0_5.length : Int)) = true := decide_eq_true c42
          clear c42
          have HC43 := Aside0.mk H
          clear H
          obtain ⟨hcz44_0, hcz44_1, hcz44_2, hcz44_3, hcz44_4, hcz44_5, hfz44_0⟩ := y6 wr BK101.out
          go_upto_region 11 with (fail)
          go_cut [124] (fun v124 wc => ∃ (kq : Nat) (x124_42 : Bool), v124 = .bool x124_42 ∧ Aside0 (spec_GateOk.j4 kq x4_3 x124_42 a0_0 l0_1 a0_2 l0_3 l0_4 l0_5 = some r) ∧ Aside0 (kq ≤ k3) ∧ Aside0 (wc.heap[gb101]? = some (.cells #[.int .i64 a0_0, (.slice A0_1 l0_1.length c0_1), .int .i64 a0_2, (.slice A0_3 l0_3.length c0_3), (.slice A0_4 l0_4.length c0_4), (.slice A0_5 l0_5.length c0_5)] 57 (0, 0))) ∧ Aside0 (Below w.heap.size w wc))
          case first =>
           have H := HC43.out
           clear HC43
           by_cases c45 : 0 ≤ x4_3
           ·rw [if_pos c45] at H
            have c45b0 : decide (0 ≤ x4_3) = true := decide_eq_true c45
            clear c45
            (first | rw [c45b0] | (simp only [i64_w, i32_w]; rw [c45b0]) | skip)
            replace H := Option.bind_eq_some_iff.mp H
            obtain ⟨t110, A460, H⟩ := H
            replace H : (if t110 = true then (if ((rd_T95 l0_5 x4_3).f4) > a0_0 then (spec_GateOk.j4 k3 x4_3 true a0_0 l0_1 a0_2 l0_3 l0_4 l0_5) else (if x4_3 > 0 then (if 0 ≤ (wrap64 (x4_3 - 1)) then (if (wrap64 (x4_3 - 1)) < (l0_5.length : Int) then (spec_GateOk.j4 k3 x4_3 (decide (((rd_T95 l0_5 (wrap64 (x4_3 - 1))).f0) ≥ ((rd_T95 l0_5 x4_3).f0))) a0_0 l0_1 a0_2 l0_3 l0_4 l0_5) else (none)) else (none)) else (spec_GateOk.j4 k3 x4_3 false a0_0 l0_1 a0_2 l0_3 l0_4 l0_5))) else (spec_GateOk.j4 k3 x4_3 true a0_0 l0_1 a0_2 l0_3 l0_4 l0_5)) = some r := H
            have A46 := Aside0.mk A460
            clear A460
            by_cases c47 : t110 = true
            ·subst c47
             have H1 : (if ((rd_T95 l0_5 x4_3).f4) > a0_0 then (spec_GateOk.j4 k3 x4_3 true a0_0 l0_1 a0_2 l0_3 l0_4 l0_5) else (if x4_3 > 0 then (if 0 ≤ (wrap64 (x4_3 - 1)) then (if (wrap64 (x4_3 - 1)) < (l0_5.length : Int) then (spec_GateOk.j4 k3 x4_3 (decide (((rd_T95 l0_5 (wrap64 (x4_3 - 1))).f0) ≥ ((rd_T95 l0_5 x4_3).f0))) a0_0 l0_1 a0_2 l0_3 l0_4 l0_5) else (none)) else (none)) else (spec_GateOk.j4 k3 x4_3 false a0_0 l0_1 a0_2 l0_3 l0_4 l0_5))) = some r := by rw [if_pos rfl] at H; exact H
             clear H
             have H := H1
             clear H1
             by_cases c48 : ((rd_T95 l0_5 x4_3).f4) > a0_0
             ·rw [if_pos c48] at H
              have c48b0 : decide (a0_0 < ((rd_T95 l0_5 x4_3).f4)) = true := decide_eq_true c48
              clear c48
              have H' := Aside0.mk H
              clear H
              try go_wp2
              replace BK101 := am (blk_drew BK101.out)
              replace HB := am (below_drew1 HB.out)
              have p109 : 0 ≤ (x4_3 : Int) := OD
              have q109 : x4_3 < (l0_5.length : Int) := OD
              obtain ⟨ad109, A109_10, c109_10, e109, hx109_0, hx109_1, hx109_2, hx109_3, hx109_4, hx109_5, hx109_6, hx109_7, hx109_8, hx109_9, hx109_10, hl109_10, hi109_10⟩ := at_T95 HR0_5.out x4_3 p109 q109
              have hw109_10 := hx109_10
              have hw109_9 := hx109_9
              have hw109_8 := hx109_8
              have hw109_7 := hx109_7
              have hw109_6 := hx109_6
              have hw109_5 := hx109_5
              have hw109_4 := hx109_4
              have hw109_3 := hx109_3
              have hw109_2 := hx109_2
              have hw109_1 := hx109_1
              have hw109_0 := hx109_0
              cases e109
              replace hx109_0 := CX HB.out hx109_0
              replace hx109_1 := CX HB.out hx109_1
              replace hx109_2 := CX HB.out hx109_2
              replace hx109_3 := CX HB.out hx109_3
              replace hx109_4 := CX HB.out hx109_4
              replace hx109_5 := CX HB.out hx109_5
              replace hx109_6 := CX HB.out hx109_6
              replace hx109_7 := CX HB.out hx109_7
              replace hx109_8 := CX HB.out hx109_8
              replace hx109_9 := CX HB.out hx109_9
              replace hx109_10 := CX HB.out hx109_10
              have HR109_10 := Aside0.mk hi109_10
              have HC109_10 := Aside0.mk hl109_10
              clear hi109_10 hl109_10
              replace p109 := eq_true p109
              replace q109 := eq_true q109
              have p111 : 0 ≤ (x4_3 : Int) := OD
              have q111 : x4_3 < (l0_5.length : Int) := OD
              obtain ⟨ad111, A111_10, c111_10, e111, hx111_0, hx111_1, hx111_2, hx111_3, hx111_4, hx111_5, hx111_6, hx111_7, hx111_8, hx111_9, hx111_10, hl111_10, hi111_10⟩ := at_T95 HR0_5.out x4_3 p111 q111
              have hw111_10 := hx111_10
              have hw111_9 := hx111_9
              have hw111_8 := hx111_8
              have hw111_7 := hx111_7
              have hw111_6 := hx111_6
              have hw111_5 := hx111_5
              have hw111_4 := hx111_4
              have hw111_3 := hx111_3
              have hw111_2 := hx111_2
              have hw111_1 := hx111_1
              have hw111_0 := hx111_0
              obtain rfl : ad109 = ad111 := (by injection e111)
              replace hx111_0 := CX HB.out hx111_0
              replace hx111_1 := CX HB.out hx111_1
              replace hx111_2 := CX HB.out hx111_2
              replace hx111_3 := CX HB.out hx111_3
              replace hx111_4 := CX HB.out hx111_4
              replace hx111_5 := CX HB.out hx111_5
              replace hx111_6 := CX HB.out hx111_6
              replace hx111_7 := CX HB.out hx111_7
              replace hx111_8 := CX HB.out hx111_8
              replace hx111_9 := CX HB.out hx111_9
              replace hx111_10 := CX HB.out hx111_10
              have HR111_10 := Aside0.mk hi111_10
              have HC111_10 := Aside0.mk hl111_10
              clear hi111_10 hl111_10
              replace p111 := eq_true p111
              replace q111 := eq_true q111
              refine start_ (n := 38) (S := fun w' => ce6 w' gb101 (.int .i64 a0_0) (.slice A0_1 l0_1.length c0_1) (.int .i64 a0_2) (.slice A0_3 l0_3.length c0_3) (.slice A0_4 l0_4.length c0_4) (.slice (some ad109) l0_5.length c0_5) (w'.cell? (ad109.add ((x4_3).toNat * 11)) = some (.int .i64 ((rd_T95 l0_5 x4_3).f0)) ∧ w'.cell? ⟨(ad109.add ((x4_3).toNat * 11)).block, (ad109.add ((x4_3).toNat * 11)).off + 1, none⟩ = some (.int .i64 ((rd_T95 l0_5 x4_3).f1)) ∧ w'.cell? ⟨(ad109.add ((x4_3).toNat * 11)).block, (ad109.add ((x4_3).toNat * 11)).off + 2, none⟩ = some (.string ((rd_T95 l0_5 x4_3).f2)) ∧ w'.cell? ⟨(ad109.add ((x4_3).toNat * 11)).block, (ad109.add ((x4_3).toNat * 11)).off + 3, none⟩ = some (.string ((rd_T95 l0_5 x4_3).f3)) ∧ w'.cell? ⟨(ad109.add ((x4_3).toNat * 11)).block, (ad109.add ((x4_3).toNat * 11)).off + 4, none⟩ = some (.int .i64 ((rd_T95 l0_5 x4_3).f4)) ∧ w'.cell? ⟨(ad109.add ((x4_3).toNat * 11)).block, (ad109.add ((x4_3).toNat * 11)).off + 5, none⟩ = some (.int .i64 ((rd_T95 l0_5 x4_3).f5)) ∧ w'.cell? ⟨(ad109.add ((x4_3).toNat * 11)).block, (ad109.add ((x4_3).toNat * 11)).off + 6, none⟩ = some (.int .i64 ((rd_T95 l0_5 x4_3).f6)) ∧ w'.cell? ⟨(ad109.add ((x4_3).toNat * 11)).block, (ad109.add ((x4_3).toNat * 11)).off + 7, none⟩ = some (.int .i64 ((rd_T95 l0_5 x4_3).f7)) ∧ w'.cell? ⟨(ad109.add ((x4_3).toNat * 11)).block, (ad109.add ((x4_3).toNat * 11)).off + 8, none⟩ = some (.int .i64 ((rd_T95 l0_5 x4_3).f8)) ∧ w'.cell? ⟨(ad109.add ((x4_3).toNat * 11)).block, (ad109.add ((x4_3).toNat * 11)).off + 9, none⟩ = some (.int .i64 ((rd_T95 l0_5 x4_3).f9.f0)) ∧ w'.cell? ⟨(ad109.add ((x4_3).toNat * 11)).block, (ad109.add ((x4_3).toNat * 11)).off + 10, none⟩ = some (.slice A109_10 ((rd_T95 l0_5 x4_3).f9.f1).length c109_10) ∧ w'.cell? (ad109.add ((x4_3).toNat * 11)) = some (.int .i64 ((rd_T95 l0_5 x4_3).f0)) ∧ w'.cell? ⟨(ad109.add ((x4_3).toNat * 11)).block, (ad109.add ((x4_3).toNat * 11)).off + 1, none⟩ = some (.int .i64 ((rd_T95 l0_5 x4_3).f1)) ∧ w'.cell? ⟨(ad109.add ((x4_3).toNat * 11)).block, (ad109.add ((x4_3).toNat * 11)).off + 2, none⟩ = some (.string ((rd_T95 l0_5 x4_3).f2)) ∧ w'.cell? ⟨(ad109.add ((x4_3).toNat * 11)).block, (ad109.add ((x4_3).toNat * 11)).off + 3, none⟩ = some (.string ((rd_T95 l0_5 x4_3).f3)) ∧ w'.cell? ⟨(ad109.add ((x4_3).toNat * 11)).block, (ad109.add ((x4_3).toNat * 11)).off + 4, none⟩ = some (.int .i64 ((rd_T95 l0_5 x4_3).f4)) ∧ w'.cell? ⟨(ad109.add ((x4_3).toNat * 11)).block, (ad109.add ((x4_3).toNat * 11)).off + 5, none⟩ = some (.int .i64 ((rd_T95 l0_5 x4_3).f5)) ∧ w'.cell? ⟨(ad109.add ((x4_3).toNat * 11)).block, (ad109.add ((x4_3).toNat * 11)).off + 6, none⟩ = some (.int .i64 ((rd_T95 l0_5 x4_3).f6)) ∧ w'.cell? ⟨(ad109.add ((x4_3).toNat * 11)).block, (ad109.add ((x4_3).toNat * 11)).off + 7, none⟩ = some (.int .i64 ((rd_T95 l0_5 x4_3).f7)) ∧ w'.cell? ⟨(ad109.add ((x4_3).toNat * 11)).block, (ad109.add ((x4_3).toNat * 11)).off + 8, none⟩ = some (.int .i64 ((rd_T95 l0_5 x4_3).f8)) ∧ w'.cell? ⟨(ad109.add ((x4_3).toNat * 11)).block, (ad109.add ((x4_3).toNat * 11)).off + 9, none⟩ = some (.int .i64 ((rd_T95 l0_5 x4_3).f9.f0)) ∧ w'.cell? ⟨(ad109.add ((x4_3).toNat * 11)).block, (ad109.add ((x4_3).toNat * 11)).off + 10, none⟩ = some (.slice A111_10 ((rd_T95 l0_5 x4_3).f9.f1).length c111_10))) (ds := []) (tf 0 38) (by kernel_rfl) rfl rfl ⟨z0 _ BK101.out, z1 _ BK101.out, z2 _ BK101.out, z3 _ BK101.out, z4 _ BK101.out, z5 _ BK101.out, (CY HB.out hw109_0), (CY HB.out hw109_1), (CY HB.out hw109_2), (CY HB.out hw109_3), (CY HB.out hw109_4), (CY HB.out hw109_5), (CY HB.out hw109_6), (CY HB.out hw109_7), (CY HB.out hw109_8), (CY HB.out hw109_9), (CY HB.out hw109_10), (CY HB.out hw111_0), (CY HB.out hw111_1), (CY HB.out hw111_2), (CY HB.out hw111_3), (CY HB.out hw111_4), (CY HB.out hw111_5), (CY HB.out hw111_6), (CY HB.out hw111_7), (CY HB.out hw111_8), (CY HB.out hw111_9), (CY HB.out hw111_10)⟩ (fun hHeld => ?_); refine with_tabW spec_GateOk.tab11 spec_GateOk.bits11 (fun HT_ HW_ => ?_)
              generalize wr.drew = w49 at BK101 HB HR109_10 HR111_10 hx109_0 hx109_1 hx109_10 hx109_2 hx109_3 hx109_4 hx109_5 hx109_6 hx109_7 hx109_8 hx109_9 hx111_0 hx111_1 hx111_10 hx111_2 hx111_3 hx111_4 hx111_5 hx111_6 hx111_7 hx111_8 hx111_9 hHeld ⊢
              refine pv HT_ 0 87 (tf 1 37) ?_
              refine pv HT_ 2 89 (tr [1, 1, 1, 35]) ?_
              refine tk 1 (some 88) (tf 3 35) (take_ofW HT_.out HW_.out (by kernel_rfl)) hHeld ?_
              refine pv HT_ 3 90 (tf 4 34) ?_
              refine tk 4 (some 91) (tf 5 33) (take_ofW HT_.out HW_.out (by kernel_rfl)) hHeld ?_
              refine one_ (i := 5) (N := some 92) (tf 6 32) rfl rfl (one_of HT_.out (by kernel_rfl)) (by decide) (fun K hK => ?_)
              refine goes_ Try.func61 (by kernel_rfl) rfl #[.agg #[.int .i64 ((rd_T95 l0_5 x4_3).f0), .int .i64 ((rd_T95 l0_5 x4_3).f1), .string ((rd_T95 l0_5 x4_3).f2), .string ((rd_T95 l0_5 x4_3).f3), .int .i64 ((rd_T95 l0_5 x4_3).f4), .int .i64 ((rd_T95 l0_5 x4_3).f5), .int .i64 ((rd_T95 l0_5 x4_3).f6), .int .i64 ((rd_T95 l0_5 x4_3).f7), .int .i64 ((rd_T95 l0_5 x4_3).f8), .int .i64 ((rd_T95 l0_5 x4_3).f9.f0), .slice A109_10 ((rd_T95 l0_5 x4_3).f9.f1).length c109_10]] (by rfl) rfl rfl MT ?_
              with_reducible refine (spec_SaOk.calls k3 ((rd_T95 l0_5 x4_3).f0) ((rd_T95 l0_5 x4_3).f1) ((rd_T95 l0_5 x4_3).f2) ((rd_T95 l0_5 x4_3).f3) ((rd_T95 l0_5 x4_3).f4) ((rd_T95 l0_5 x4_3).f5) ((rd_T95 l0_5 x4_3).f6) ((rd_T95 l0_5 x4_3).f7) ((rd_T95 l0_5 x4_3).f8) ((rd_T95 l0_5 x4_3).f9.f0) _ _ ((rd_T95 l0_5 x4_3).f9.f1) true _ ?side1 ?side2 A46.out).mono ?_
              (case side1 => exact KD HR109_10 HB)
              (case side2 => exact HC109_10.out)
              rintro e w50 ⟨rfl, hb⟩
              refine ⟨_, rfl, ?_⟩
              replace BK101 := am (BB BK101 hb)
              replace HB := am (below_step (K1 HB GE101.out) hb)
              (try clear hb)
              (try clear hb2)
              (try clear hk)
              (try clear hi)
              refine hK.out _ _ ⟨z0 _ BK101.out, z1 _ BK101.out, z2 _ BK101.out, z3 _ BK101.out, z4 _ BK101.out, z5 _ BK101.out, (CY HB.out hw109_0), (CY HB.out hw109_1), (CY HB.out hw109_2), (CY HB.out hw109_3), (CY HB.out hw109_4), (CY HB.out hw109_5), (CY HB.out hw109_6), (CY HB.out hw109_7), (CY HB.out hw109_8), (CY HB.out hw109_9), (CY HB.out hw109_10), (CY HB.out hw111_0), (CY HB.out hw111_1), (CY HB.out hw111_2), (CY HB.out hw111_3), (CY HB.out hw111_4), (CY HB.out hw111_5), (CY HB.out hw111_6), (CY HB.out hw111_7), (CY HB.out hw111_8), (CY HB.out hw111_9), (CY HB.out hw111_10)⟩ (fun hHeld => ?_)
              clear hK K
              refine norm_ (a' := ?_) ?_ ?_
              rotate_left
              ·show Act.put _ (some 92) _ = _
               simp only [Act.put, List.setIfInBounds_toArray, List.set_cons_zero, List.set_cons_succ, i64_w, i32_w]
               rfl
              refine pv HT_ 6 93 (tf 7 31) ?_
              refine pv HT_ 7 94 (tf 8 30) ?_
              refine pv HT_ 8 95 (tf 9 29) ?_
              refine pv HT_ 10 97 (tr [9, 1, 1, 27]) ?_
              refine pv HT_ 14 101 (tr [9, 1, 1, 3, 1, 23]) ?_
              refine tk 9 (some 96) (tr [11, 3, 1, 23]) (take_ofW HT_.out HW_.out (by kernel_rfl)) hHeld ?_
              refine pv HT_ 11 98 (tr [12, 2, 1, 23]) ?_
              refine pv HT_ 12 99 (tr [13, 1, 1, 23]) ?_
              refine tk 13 (some 100) (tf 15 23) (take_ofW HT_.out HW_.out (by kernel_rfl)) hHeld ?_
              refine tk 15 (some 102) (tf 16 22) (take_ofW HT_.out HW_.out (by kernel_rfl)) hHeld ?_
              refine pv HT_ 16 103 (tf 17 21) ?_
              refine pv HT_ 17 104 (tf 18 20) ?_
              refine pv HT_ 18 105 (tf 19 19) ?_
              refine pw HT_ 19 106 (tf 20 18) ?_
              refine pw HT_ 20 107 (tf 21 17) ?_
              refine pw HT_ 21 108 (tf 22 16) ?_
              refine pw HT_ 22 109 (tf 23 15) ?_
              refine pw HT_ 23 110 (tf 24 14) ?_
              refine pw HT_ 24 111 (tf 25 13) ?_
              refine pw HT_ 25 112 (tf 26 12) ?_
              refine pw HT_ 26 113 (tf 27 11) ?_
              refine pw HT_ 27 114 (tf 28 10) ?_
              refine pw HT_ 28 115 (tf 29 9) ?_
              refine pw HT_ 29 116 (tf 30 8) ?_
              refine pw HT_ 30 117 (tf 31 7) ?_
              refine pw HT_ 31 118 (tf 32 6) ?_
              refine pw HT_ 32 119 (tf 33 5) ?_
              refine pw HT_ 33 120 (tf 34 4) ?_
              refine pw HT_ 34 121 (tf 35 3) ?_
              refine pw HT_ 35 122 (tf 36 2) ?_
              refine pw HT_ 36 123 (tf 37 1) ?_
              refine pv HT_ 37 124 (tf 38 0) ?_
              refine done_ (done_of HT_.out (by kernel_rfl)) ?_
              try go_wp2
              go_meet
              case rel => exact ⟨_, (true), (by first | rfl | (simp; done) | (simp [*]; done)), H', ⟨by have := HJ1.out; have := HK2.out; have := HK3.out; first | omega | exact Nat.le_refl _⟩, ⟨KB BK101⟩, ⟨K1 HB GE101.out⟩⟩
             ·rw [if_neg c48] at H
              have c48b0 : decide (a0_0 < ((rd_T95 l0_5 x4_3).f4)) = false := decide_eq_false c48
              clear c48
              by_cases c51 : x4_3 > 0
              ·rw [if_pos c51] at H
               have c51b0 : decide (0 < x4_3) = true := decide_eq_true c51
               clear c51
               obtain ⟨ji52, hji52⟩ : ∃ j_ : Int, (wrap64 (x4_3 - 1)) = j_ := ⟨_, rfl⟩
               replace H : (if 0 ≤ (ji52) then (if (ji52) < (l0_5.length : Int) then (spec_GateOk.j4 k3 x4_3 (decide (((rd_T95 l0_5 (ji52)).f0) ≥ ((rd_T95 l0_5 x4_3).f0))) a0_0 l0_1 a0_2 l0_3 l0_4 l0_5) else (none)) else (none)) = some r := by first | (rw [hji52] at H; exact H) | (simp only [hji52] at H ⊢; exact H)
               (try rw [hji52] at A46)
               have hji52w : (IntKind.i64.wrap (x4_3 - 1)) = ji52 := (i64_w _).trans hji52
               by_cases c53 : 0 ≤ (ji52)
               ·rw [if_pos c53] at H
                have c53b0 : decide (0 ≤ (ji52)) = true := decide_eq_true c53
                clear c53
                by_cases c54 : (ji52) < (l0_5.length : Int)
                ·rw [if_pos c54] at H
                 have c54b0 : decide ((ji52) < (l0_5.length : Int)) = true := decide_eq_true c54
                 clear c54
                 have H' := Aside0.mk H
                 clear H
                 try go_wp2
                 replace BK101 := am (blk_drew BK101.out)
                 replace HB := am (below_drew1 HB.out)
                 have p109 : 0 ≤ (x4_3 : Int) := OD
                 have q109 : x4_3 < (l0_5.length : Int) := OD
                 obtain ⟨ad109, A109_10, c109_10, e109, hx109_0, hx109_1, hx109_2, hx109_3, hx109_4, hx109_5, hx109_6, hx109_7, hx109_8, hx109_9, hx109_10, hl109_10, hi109_10⟩ := at_T95 HR0_5.out x4_3 p109 q109
                 have hw109_10 := hx109_10
                 have hw109_9 := hx109_9
                 have hw109_8 := hx109_8
                 have hw109_7 := hx109_7
                 have hw109_6 := hx109_6
                 have hw109_5 := hx109_5
                 have hw109_4 := hx109_4
                 have hw109_3 := hx109_3
                 have hw109_2 := hx109_2
                 have hw109_1 := hx109_1
                 have hw109_0 := hx109_0
                 cases e109
                 replace hx109_0 := CX HB.out hx109_0
                 replace hx109_1 := CX HB.out hx109_1
                 replace hx109_2 := CX HB.out hx109_2
                 replace hx109_3 := CX HB.out hx109_3
                 replace hx109_4 := CX HB.out hx109_4
                 replace hx109_5 := CX HB.out hx109_5
                 replace hx109_6 := CX HB.out hx109_6
                 replace hx109_7 := CX HB.out hx109_7
                 replace hx109_8 := CX HB.out hx109_8
                 replace hx109_9 := CX HB.out hx109_9
                 replace hx109_10 := CX HB.out hx109_10
                 have HR109_10 := Aside0.mk hi109_10
                 have HC109_10 := Aside0.mk hl109_10
                 clear hi109_10 hl109_10
                 replace p109 := eq_true p109
                 replace q109 := eq_true q109
                 have p111 : 0 ≤ (x4_3 : Int) := OD
                 have q111 : x4_3 < (l0_5.length : Int) := OD
                 obtain ⟨ad111, A111_10, c111_10, e111, hx111_0, hx111_1, hx111_2, hx111_3, hx111_4, hx111_5, hx111_6, hx111_7, hx111_8, hx111_9, hx111_10, hl111_10, hi111_10⟩ := at_T95 HR0_5.out x4_3 p111 q111
                 have hw111_10 := hx111_10
                 have hw111_9 := hx111_9
                 have hw111_8 := hx111_8
                 have hw111_7 := hx111_7
                 have hw111_6 := hx111_6
                 have hw111_5 := hx111_5
                 have hw111_4 := hx111_4
                 have hw111_3 := hx111_3
                 have hw111_2 := hx111_2
                 have hw111_1 := hx111_1
                 have hw111_0 := hx111_0
                 obtain rfl : ad109 = ad111 := (by injection e111)
                 replace hx111_0 := CX HB.out hx111_0
                 replace hx111_1 := CX HB.out hx111_1
                 replace hx111_2 := CX HB.out hx111_2
                 replace hx111_3 := CX HB.out hx111_3
                 replace hx111_4 := CX HB.out hx111_4
                 replace hx111_5 := CX HB.out hx111_5
                 replace hx111_6 := CX HB.out hx111_6
                 replace hx111_7 := CX HB.out hx111_7
                 replace hx111_8 := CX HB.out hx111_8
                 replace hx111_9 := CX HB.out hx111_9
                 replace hx111_10 := CX HB.out hx111_10
                 have HR111_10 := Aside0.mk hi111_10
                 have HC111_10 := Aside0.mk hl111_10
                 clear hi111_10 hl111_10
                 replace p111 := eq_true p111
                 replace q111 := eq_true q111
                 have p112 : 0 ≤ ((ji52) : Int) := OD
                 have q112 : (ji52) < (l0_5.length : Int) := OD
                 obtain ⟨ad112, A112_10, c112_10, e112, hx112_0, hx112_1, hx112_2, hx112_3, hx112_4, hx112_5, hx112_6, hx112_7, hx112_8, hx112_9, hx112_10, hl112_10, hi112_10⟩ := at_T95 HR0_5.out (ji52) p112 q112
                 have hw112_10 := hx112_10
                 have hw112_9 := hx112_9
                 have hw112_8 := hx112_8
                 have hw112_7 := hx112_7
                 have hw112_6 := hx112_6
                 have hw112_5 := hx112_5
                 have hw112_4 := hx112_4
                 have hw112_3 := hx112_3
                 have hw112_2 := hx112_2
                 have hw112_1 := hx112_1
                 have hw112_0 := hx112_0
                 obtain rfl : ad109 = ad112 := (by injection e112)
                 replace hx112_0 := CX HB.out hx112_0
                 replace hx112_1 := CX HB.out hx112_1
                 replace hx112_2 := CX HB.out hx112_2
                 replace hx112_3 := CX HB.out hx112_3
                 replace hx112_4 := CX HB.out hx112_4
                 replace hx112_5 := CX HB.out hx112_5
                 replace hx112_6 := CX HB.out hx112_6
                 replace hx112_7 := CX HB.out hx112_7
                 replace hx112_8 := CX HB.out hx112_8
                 replace hx112_9 := CX HB.out hx112_9
                 replace hx112_10 := CX HB.out hx112_10
                 have HR112_10 := Aside0.mk hi112_10
                 have HC112_10 := Aside0.mk hl112_10
                 clear hi112_10 hl112_10
                 replace p112 := eq_true p112
                 replace q112 := eq_true q112
                 have p113 : 0 ≤ (x4_3 : Int) := OD
                 have q113 : x4_3 < (l0_5.length : Int) := OD
                 obtain ⟨ad113, A113_10, c113_10, e113, hx113_0, hx113_1, hx113_2, hx113_3, hx113_4, hx113_5, hx113_6, hx113_7, hx113_8, hx113_9, hx113_10, hl113_10, hi113_10⟩ := at_T95 HR0_5.out x4_3 p113 q113
                 have hw113_10 := hx113_10
                 have hw113_9 := hx113_9
                 have hw113_8 := hx113_8
                 have hw113_7 := hx113_7
                 have hw113_6 := hx113_6
                 have hw113_5 := hx113_5
                 have hw113_4 := hx113_4
                 have hw113_3 := hx113_3
                 have hw113_2 := hx113_2
                 have hw113_1 := hx113_1
                 have hw113_0 := hx113_0
                 obtain rfl : ad109 = ad113 := (by injection e113)
                 replace hx113_0 := CX HB.out hx113_0
                 replace hx113_1 := CX HB.out hx113_1
                 replace hx113_2 := CX HB.out hx113_2
                 replace hx113_3 := CX HB.out hx113_3
                 replace hx113_4 := CX HB.out hx113_4
                 replace hx113_5 := CX HB.out hx113_5
                 replace hx113_6 := CX HB.out hx113_6
                 replace hx113_7 := CX HB.out hx113_7
                 replace hx113_8 := CX HB.out hx113_8
                 replace hx113_9 := CX HB.out hx113_9
                 replace hx113_10 := CX HB.out hx113_10
                 have HR113_10 := Aside0.mk hi113_10
                 have HC113_10 := Aside0.mk hl113_10
                 clear hi113_10 hl113_10
                 replace p113 := eq_true p113
                 replace q113 := eq_true q113
                 have ea_ := Option.some.inj (hx111_10.symm.trans hx113_10)
                 injection ea_ with ea_ en_ ec_
                 subst ea_
                 subst ec_
                 clear en_
                 refine start_ (n := 38) (S := fun w' => ce6 w' gb101 (.int .i64 a0_0) (.slice A0_1 l0_1.length c0_1) (.int .i64 a0_2) (.slice A0_3 l0_3.length c0_3) (.slice A0_4 l0_4.length c0_4) (.slice (some ad109) l0_5.length c0_5) (w'.cell? (ad109.add ((x4_3).toNat * 11)) = some (.int .i64 ((rd_T95 l0_5 x4_3).f0)) ∧ w'.cell? ⟨(ad109.add ((x4_3).toNat * 11)).block, (ad109.add ((x4_3).toNat * 11)).off + 1, none⟩ = some (.int .i64 ((rd_T95 l0_5 x4_3).f1)) ∧ w'.cell? ⟨(ad109.add ((x4_3).toNat * 11)).block, (ad109.add ((x4_3).toNat * 11)).off + 2, none⟩ = some (.string ((rd_T95 l0_5 x4_3).f2)) ∧ w'.cell? ⟨(ad109.add ((x4_3).toNat * 11)).block, (ad109.add ((x4_3).toNat * 11)).off + 3, none⟩ = some (.string ((rd_T95 l0_5 x4_3).f3)) ∧ w'.cell? ⟨(ad109.add ((x4_3).toNat * 11)).block, (ad109.add ((x4_3).toNat * 11)).off + 4, none⟩ = some (.int .i64 ((rd_T95 l0_5 x4_3).f4)) ∧ w'.cell? ⟨(ad109.add ((x4_3).toNat * 11)).block, (ad109.add ((x4_3).toNat * 11)).off + 5, none⟩ = some (.int .i64 ((rd_T95 l0_5 x4_3).f5)) ∧ w'.cell? ⟨(ad109.add ((x4_3).toNat * 11)).block, (ad109.add ((x4_3).toNat * 11)).off + 6, none⟩ = some (.int .i64 ((rd_T95 l0_5 x4_3).f6)) ∧ w'.cell? ⟨(ad109.add ((x4_3).toNat * 11)).block, (ad109.add ((x4_3).toNat * 11)).off + 7, none⟩ = some (.int .i64 ((rd_T95 l0_5 x4_3).f7)) ∧ w'.cell? ⟨(ad109.add ((x4_3).toNat * 11)).block, (ad109.add ((x4_3).toNat * 11)).off + 8, none⟩ = some (.int .i64 ((rd_T95 l0_5 x4_3).f8)) ∧ w'.cell? ⟨(ad109.add ((x4_3).toNat * 11)).block, (ad109.add ((x4_3).toNat * 11)).off + 9, none⟩ = some (.int .i64 ((rd_T95 l0_5 x4_3).f9.f0)) ∧ w'.cell? ⟨(ad109.add ((x4_3).toNat * 11)).block, (ad109.add ((x4_3).toNat * 11)).off + 10, none⟩ = some (.slice A109_10 ((rd_T95 l0_5 x4_3).f9.f1).length c109_10) ∧ w'.cell? (ad109.add ((x4_3).toNat * 11)) = some (.int .i64 ((rd_T95 l0_5 x4_3).f0)) ∧ w'.cell? ⟨(ad109.add ((x4_3).toNat * 11)).block, (ad109.add ((x4_3).toNat * 11)).off + 1, none⟩ = some (.int .i64 ((rd_T95 l0_5 x4_3).f1)) ∧ w'.cell? ⟨(ad109.add ((x4_3).toNat * 11)).block, (ad109.add ((x4_3).toNat * 11)).off + 2, none⟩ = some (.string ((rd_T95 l0_5 x4_3).f2)) ∧ w'.cell? ⟨(ad109.add ((x4_3).toNat * 11)).block, (ad109.add ((x4_3).toNat * 11)).off + 3, none⟩ = some (.string ((rd_T95 l0_5 x4_3).f3)) ∧ w'.cell? ⟨(ad109.add ((x4_3).toNat * 11)).block, (ad109.add ((x4_3).toNat * 11)).off + 4, none⟩ = some (.int .i64 ((rd_T95 l0_5 x4_3).f4)) ∧ w'.cell? ⟨(ad109.add ((x4_3).toNat * 11)).block, (ad109.add ((x4_3).toNat * 11)).off + 5, none⟩ = some (.int .i64 ((rd_T95 l0_5 x4_3).f5)) ∧ w'.cell? ⟨(ad109.add ((x4_3).toNat * 11)).block, (ad109.add ((x4_3).toNat * 11)).off + 6, none⟩ = some (.int .i64 ((rd_T95 l0_5 x4_3).f6)) ∧ w'.cell? ⟨(ad109.add ((x4_3).toNat * 11)).block, (ad109.add ((x4_3).toNat * 11)).off + 7, none⟩ = some (.int .i64 ((rd_T95 l0_5 x4_3).f7)) ∧ w'.cell? ⟨(ad109.add ((x4_3).toNat * 11)).block, (ad109.add ((x4_3).toNat * 11)).off + 8, none⟩ = some (.int .i64 ((rd_T95 l0_5 x4_3).f8)) ∧ w'.cell? ⟨(ad109.add ((x4_3).toNat * 11)).block, (ad109.add ((x4_3).toNat * 11)).off + 9, none⟩ = some (.int .i64 ((rd_T95 l0_5 x4_3).f9.f0)) ∧ w'.cell? ⟨(ad109.add ((x4_3).toNat * 11)).block, (ad109.add ((x4_3).toNat * 11)).off + 10, none⟩ = some (.slice A111_10 ((rd_T95 l0_5 x4_3).f9.f1).length c111_10) ∧ w'.cell? (ad109.add (((ji52)).toNat * 11)) = some (.int .i64 ((rd_T95 l0_5 (ji52)).f0)) ∧ w'.cell? ⟨(ad109.add (((ji52)).toNat * 11)).block, (ad109.add (((ji52)).toNat * 11)).off + 1, none⟩ = some (.int .i64 ((rd_T95 l0_5 (ji52)).f1)) ∧ w'.cell? ⟨(ad109.add (((ji52)).toNat * 11)).block, (ad109.add (((ji52)).toNat * 11)).off + 2, none⟩ = some (.string ((rd_T95 l0_5 (ji52)).f2)) ∧ w'.cell? ⟨(ad109.add (((ji52)).toNat * 11)).block, (ad109.add (((ji52)).toNat * 11)).off + 3, none⟩ = some (.string ((rd_T95 l0_5 (ji52)).f3)) ∧ w'.cell? ⟨(ad109.add (((ji52)).toNat * 11)).block, (ad109.add (((ji52)).toNat * 11)).off + 4, none⟩ = some (.int .i64 ((rd_T95 l0_5 (ji52)).f4)) ∧ w'.cell? ⟨(ad109.add (((ji52)).toNat * 11)).block, (ad109.add (((ji52)).toNat * 11)).off + 5, none⟩ = some (.int .i64 ((rd_T95 l0_5 (ji52)).f5)) ∧ w'.cell? ⟨(ad109.add (((ji52)).toNat * 11)).block, (ad109.add (((ji52)).toNat * 11)).off + 6, none⟩ = some (.int .i64 ((rd_T95 l0_5 (ji52)).f6)) ∧ w'.cell? ⟨(ad109.add (((ji52)).toNat * 11)).block, (ad109.add (((ji52)).toNat * 11)).off + 7, none⟩ = some (.int .i64 ((rd_T95 l0_5 (ji52)).f7)) ∧ w'.cell? ⟨(ad109.add (((ji52)).toNat * 11)).block, (ad109.add (((ji52)).toNat * 11)).off + 8, none⟩ = some (.int .i64 ((rd_T95 l0_5 (ji52)).f8)) ∧ w'.cell? ⟨(ad109.add (((ji52)).toNat * 11)).block, (ad109.add (((ji52)).toNat * 11)).off + 9, none⟩ = some (.int .i64 ((rd_T95 l0_5 (ji52)).f9.f0)) ∧ w'.cell? ⟨(ad109.add (((ji52)).toNat * 11)).block, (ad109.add (((ji52)).toNat * 11)).off + 10, none⟩ = some (.slice A112_10 ((rd_T95 l0_5 (ji52)).f9.f1).length c112_10) ∧ w'.cell? (ad109.add ((x4_3).toNat * 11)) = some (.int .i64 ((rd_T95 l0_5 x4_3).f0)) ∧ w'.cell? ⟨(ad109.add ((x4_3).toNat * 11)).block, (ad109.add ((x4_3).toNat * 11)).off + 1, none⟩ = some (.int .i64 ((rd_T95 l0_5 x4_3).f1)) ∧ w'.cell? ⟨(ad109.add ((x4_3).toNat * 11)).block, (ad109.add ((x4_3).toNat * 11)).off + 2, none⟩ = some (.string ((rd_T95 l0_5 x4_3).f2)) ∧ w'.cell? ⟨(ad109.add ((x4_3).toNat * 11)).block, (ad109.add ((x4_3).toNat * 11)).off + 3, none⟩ = some (.string ((rd_T95 l0_5 x4_3).f3)) ∧ w'.cell? ⟨(ad109.add ((x4_3).toNat * 11)).block, (ad109.add ((x4_3).toNat * 11)).off + 4, none⟩ = some (.int .i64 ((rd_T95 l0_5 x4_3).f4)) ∧ w'.cell? ⟨(ad109.add ((x4_3).toNat * 11)).block, (ad109.add ((x4_3).toNat * 11)).off + 5, none⟩ = some (.int .i64 ((rd_T95 l0_5 x4_3).f5)) ∧ w'.cell? ⟨(ad109.add ((x4_3).toNat * 11)).block, (ad109.add ((x4_3).toNat * 11)).off + 6, none⟩ = some (.int .i64 ((rd_T95 l0_5 x4_3).f6)) ∧ w'.cell? ⟨(ad109.add ((x4_3).toNat * 11)).block, (ad109.add ((x4_3).toNat * 11)).off + 7, none⟩ = some (.int .i64 ((rd_T95 l0_5 x4_3).f7)) ∧ w'.cell? ⟨(ad109.add ((x4_3).toNat * 11)).block, (ad109.add ((x4_3).toNat * 11)).off + 8, none⟩ = some (.int .i64 ((rd_T95 l0_5 x4_3).f8)) ∧ w'.cell? ⟨(ad109.add ((x4_3).toNat * 11)).block, (ad109.add ((x4_3).toNat * 11)).off + 9, none⟩ = some (.int .i64 ((rd_T95 l0_5 x4_3).f9.f0)) ∧ w'.cell? ⟨(ad109.add ((x4_3).toNat * 11)).block, (ad109.add ((x4_3).toNat * 11)).off + 10, none⟩ = some (.slice A111_10 ((rd_T95 l0_5 x4_3).f9.f1).length c111_10))) (ds := []) (tf 0 38) (by kernel_rfl) rfl rfl ⟨z0 _ BK101.out, z1 _ BK101.out, z2 _ BK101.out, z3 _ BK101.out, z4 _ BK101.out, z5 _ BK101.out, (CY HB.out hw109_0), (CY HB.out hw109_1), (CY HB.out hw109_2), (CY HB.out hw109_3), (CY HB.out hw109_4), (CY HB.out hw109_5), (CY HB.out hw109_6), (CY HB.out hw109_7), (CY HB.out hw109_8), (CY HB.out hw109_9), (CY HB.out hw109_10), (CY HB.out hw111_0), (CY HB.out hw111_1), (CY HB.out hw111_2), (CY HB.out hw111_3), (CY HB.out hw111_4), (CY HB.out hw111_5), (CY HB.out hw111_6), (CY HB.out hw111_7), (CY HB.out hw111_8), (CY HB.out hw111_9), (CY HB.out hw111_10), (CY HB.out hw112_0), (CY HB.out hw112_1), (CY HB.out hw112_2), (CY HB.out hw112_3), (CY HB.out hw112_4), (CY HB.out hw112_5), (CY HB.out hw112_6), (CY HB.out hw112_7), (CY HB.out hw112_8), (CY HB.out hw112_9), (CY HB.out hw112_10), (CY HB.out hw113_0), (CY HB.out hw113_1), (CY HB.out hw113_2), (CY HB.out hw113_3), (CY HB.out hw113_4), (CY HB.out hw113_5), (CY HB.out hw113_6), (CY HB.out hw113_7), (CY HB.out hw113_8), (CY HB.out hw113_9), (CY HB.out hw113_10)⟩ (fun hHeld => ?_); refine with_tabW spec_GateOk.tab11 spec_GateOk.bits11 (fun HT_ HW_ => ?_)
                 generalize wr.drew = w55 at BK101 HB HR109_10 HR111_10 HR112_10 HR113_10 hx109_0 hx109_1 hx109_10 hx109_2 hx109_3 hx109_4 hx109_5 hx109_6 hx109_7 hx109_8 hx109_9 hx111_0 hx111_1 hx111_10 hx111_2 hx111_3 hx111_4 hx111_5 hx111_6 hx111_7 hx111_8 hx111_9 hx112_0 hx112_1 hx112_10 hx112_2 hx112_3 hx112_4 hx112_5 hx112_6 hx112_7 hx112_8 hx112_9 hx113_0 hx113_1 hx113_10 hx113_2 hx113_3 hx113_4 hx113_5 hx113_6 hx113_7 hx113_8 hx113_9 hHeld ⊢
                 refine pv HT_ 0 87 (tf 1 37) ?_
                 refine pv HT_ 2 89 (tr [1, 1, 1, 35]) ?_
                 refine tk 1 (some 88) (tf 3 35) (take_ofW HT_.out HW_.out (by kernel_rfl)) hHeld ?_
                 refine pv HT_ 3 90 (tf 4 34) ?_
                 refine tk 4 (some 91) (tf 5 33) (take_ofW HT_.out HW_.out (by kernel_rfl)) hHeld ?_
                 refine one_ (i := 5) (N := some 92) (tf 6 32) rfl rfl (one_of HT_.out (by kernel_rfl)) (by decide) (fun K hK => ?_)
                 refine goes_ Try.func61 (by kernel_rfl) rfl #[.agg #[.int .i64 ((rd_T95 l0_5 x4_3).f0), .int .i64 ((rd_T95 l0_5 x4_3).f1), .string ((rd_T95 l0_5 x4_3).f2), .string ((rd_T95 l0_5 x4_3).f3), .int .i64 ((rd_T95 l0_5 x4_3).f4), .int .i64 ((rd_T95 l0_5 x4_3).f5), .int .i64 ((rd_T95 l0_5 x4_3).f6), .int .i64 ((rd_T95 l0_5 x4_3).f7), .int .i64 ((rd_T95 l0_5 x4_3).f8), .int .i64 ((rd_T95 l0_5 x4_3).f9.f0), .slice A109_10 ((rd_T95 l0_5 x4_3).f9.f1).length c109_10]] (by rfl) rfl rfl MT ?_
                 with_reducible refine (spec_SaOk.calls k3 ((rd_T95 l0_5 x4_3).f0) ((rd_T95 l0_5 x4_3).f1) ((rd_T95 l0_5 x4_3).f2) ((rd_T95 l0_5 x4_3).f3) ((rd_T95 l0_5 x4_3).f4) ((rd_T95 l0_5 x4_3).f5) ((rd_T95 l0_5 x4_3).f6) ((rd_T95 l0_5 x4_3).f7) ((rd_T95 l0_5 x4_3).f8) ((rd_T95 l0_5 x4_3).f9.f0) _ _ ((rd_T95 l0_5 x4_3).f9.f1) true _ ?side1 ?side2 A46.out).mono ?_
                 (case side1 => exact KD HR109_10 HB)
                 (case side2 => exact HC109_10.out)
                 rintro e w56 ⟨rfl, hb⟩
                 refine ⟨_, rfl, ?_⟩
                 replace BK101 := am (BB BK101 hb)
                 replace HB := am (below_step (K1 HB GE101.out) hb)
                 (try clear hb)
                 (try clear hb2)
                 (try clear hk)
                 (try clear hi)
                 refine hK.out _ _ ⟨z0 _ BK101.out, z1 _ BK101.out, z2 _ BK101.out, z3 _ BK101.out, z4 _ BK101.out, z5 _ BK101.out, (CY HB.out hw109_0), (CY HB.out hw109_1), (CY HB.out hw109_2), (CY HB.out hw109_3), (CY HB.out hw109_4), (CY HB.out hw109_5), (CY HB.out hw109_6), (CY HB.out hw109_7), (CY HB.out hw109_8), (CY HB.out hw109_9), (CY HB.out hw109_10), (CY HB.out hw111_0), (CY HB.out hw111_1), (CY HB.out hw111_2), (CY HB.out hw111_3), (CY HB.out hw111_4), (CY HB.out hw111_5), (CY HB.out hw111_6), (CY HB.out hw111_7), (CY HB.out hw111_8), (CY HB.out hw111_9), (CY HB.out hw111_10), (CY HB.out hw112_0), (CY HB.out hw112_1), (CY HB.out hw112_2), (CY HB.out hw112_3), (CY HB.out hw112_4), (CY HB.out hw112_5), (CY HB.out hw112_6), (CY HB.out hw112_7), (CY HB.out hw112_8), (CY HB.out hw112_9), (CY HB.out hw112_10), (CY HB.out hw113_0), (CY HB.out hw113_1), (CY HB.out hw113_2), (CY HB.out hw113_3), (CY HB.out hw113_4), (CY HB.out hw113_5), (CY HB.out hw113_6), (CY HB.out hw113_7), (CY HB.out hw113_8), (CY HB.out hw113_9), (CY HB.out hw113_10)⟩ (fun hHeld => ?_)
                 clear hK K
                 refine norm_ (a' := ?_) ?_ ?_
                 rotate_left
                 ·show Act.put _ (some 92) _ = _
                  simp only [Act.put, List.setIfInBounds_toArray, List.set_cons_zero, List.set_cons_succ, i64_w, i32_w]
                  rfl
                 refine pv HT_ 6 93 (tf 7 31) ?_
                 refine pv HT_ 7 94 (tf 8 30) ?_
                 refine pv HT_ 8 95 (tf 9 29) ?_
                 refine pv HT_ 10 97 (tr [9, 1, 1, 27]) ?_
                 refine pv HT_ 14 101 (tr [9, 1, 1, 3, 1, 23]) ?_
                 refine tk 9 (some 96) (tr [11, 3, 1, 23]) (take_ofW HT_.out HW_.out (by kernel_rfl)) hHeld ?_
                 refine pv HT_ 11 98 (tr [12, 2, 1, 23]) ?_
                 refine pv HT_ 12 99 (tr [13, 1, 1, 23]) ?_
                 refine tk 13 (some 100) (tf 15 23) (take_ofW HT_.out HW_.out (by kernel_rfl)) hHeld ?_
                 refine tk 15 (some 102) (tf 16 22) (take_ofW HT_.out HW_.out (by kernel_rfl)) hHeld ?_
                 refine pv HT_ 16 103 (tf 17 21) ?_
                 refine pv HT_ 17 104 (tf 18 20) ?_
                 refine pv HT_ 18 105 (tf 19 19) ?_
                 refine pv HT_ 19 106 (tf 20 18) ?_
                 refine pv HT_ 20 107 (tf 21 17) ?_
                 refine pv HT_ 21 108 (tf 22 16) ?_
                 refine pv HT_ 22 109 (tf 23 15) ?_
                 refine pv HT_ 24 111 (tr [23, 1, 1, 13]) ?_
                 refine pv HT_ 25 112 (tr [23, 1, 2, 12]) ?_
                 refine pv HT_ 29 116 (tr [23, 1, 2, 3, 1, 8]) ?_
                 refine pv HT_ 31 118 (tr [23, 1, 2, 3, 1, 1, 1, 6]) ?_
                 refine tk 23 (some 110) (tr [26, 3, 1, 1, 1, 6]) (take_ofW HT_.out HW_.out (by kernel_rfl)) hHeld ?_
                 refine pv HT_ 26 113 (tr [27, 2, 1, 1, 1, 6]) ?_
                 refine pv HT_ 27 114 (tr [28, 1, 1, 1, 1, 6]) ?_
                 refine tk 28 (some 115) (tr [30, 1, 1, 6]) (take_ofW HT_.out HW_.out (by kernel_rfl)) hHeld ?_
                 refine tk 30 (some 117) (tf 32 6) (take_ofW HT_.out HW_.out (by kernel_rfl)) hHeld ?_
                 refine pv HT_ 32 119 (tf 33 5) ?_
                 refine pv HT_ 33 120 (tf 34 4) ?_
                 refine tk 34 (some 121) (tf 35 3) (take_ofW HT_.out HW_.out (by kernel_rfl)) hHeld ?_
                 refine pv HT_ 35 122 (tf 36 2) ?_
                 refine pv HT_ 36 123 (tf 37 1) ?_
                 refine pv HT_ 37 124 (tf 38 0) ?_
                 refine done_ (done_of HT_.out (by kernel_rfl)) ?_
                 try go_wp2
                 go_meet
                 case rel => exact ⟨_, (decide (((rd_T95 l0_5 (ji52)).f0) ≥ ((rd_T95 l0_5 x4_3).f0))), (by first | rfl | (simp; done) | (simp only [← hji52] <;> (first | rfl | simp)) | (simp [*]; done)), H', ⟨by have := HJ1.out; have := HK2.out; have := HK3.out; first | omega | exact Nat.le_refl _⟩, ⟨KB BK101⟩, ⟨K1 HB GE101.out⟩⟩
                ·rw [if_neg c54] at H
                 exact absurd H (by simp)
               ·rw [if_neg c53] at H
                exact absurd H (by simp)
              ·rw [if_neg c51] at H
               have c51b0 : decide (0 < x4_3) = false := decide_eq_false c51
               clear c51
               have H' := Aside0.mk H
               clear H
               try go_wp2
               replace BK101 := am (blk_drew BK101.out)
               replace HB := am (below_drew1 HB.out)
               have p109 : 0 ≤ (x4_3 : Int) := OD
               have q109 : x4_3 < (l0_5.length : Int) := OD
               obtain ⟨ad109, A109_10, c109_10, e109, hx109_0, hx109_1, hx109_2, hx109_3, hx109_4, hx109_5, hx109_6, hx109_7, hx109_8, hx109_9, hx109_10, hl109_10, hi109_10⟩ := at_T95 HR0_5.out x4_3 p109 q109
               have hw109_10 := hx109_10
               have hw109_9 := hx109_9
               have hw109_8 := hx109_8
               have hw109_7 := hx109_7
               have hw109_6 := hx109_6
               have hw109_5 := hx109_5
               have hw109_4 := hx109_4
               have hw109_3 := hx109_3
               have hw109_2 := hx109_2
               have hw109_1 := hx109_1
               have hw109_0 := hx109_0
               cases e109
               replace hx109_0 := CX HB.out hx109_0
               replace hx109_1 := CX HB.out hx109_1
               replace hx109_2 := CX HB.out hx109_2
               replace hx109_3 := CX HB.out hx109_3
               replace hx109_4 := CX HB.out hx109_4
               replace hx109_5 := CX HB.out hx109_5
               replace hx109_6 := CX HB.out hx109_6
               replace hx109_7 := CX HB.out hx109_7
               replace hx109_8 := CX HB.out hx109_8
               replace hx109_9 := CX HB.out hx109_9
               replace hx109_10 := CX HB.out hx109_10
               have HR109_10 := Aside0.mk hi109_10
               have HC109_10 := Aside0.mk hl109_10
               clear hi109_10 hl109_10
               replace p109 := eq_true p109
               replace q109 := eq_true q109
               have p111 : 0 ≤ (x4_3 : Int) := OD
               have q111 : x4_3 < (l0_5.length : Int) := OD
               obtain ⟨ad111, A111_10, c111_10, e111, hx111_0, hx111_1, hx111_2, hx111_3, hx111_4, hx111_5, hx111_6, hx111_7, hx111_8, hx111_9, hx111_10, hl111_10, hi111_10⟩ := at_T95 HR0_5.out x4_3 p111 q111
               have hw111_10 := hx111_10
               have hw111_9 := hx111_9
               have hw111_8 := hx111_8
               have hw111_7 := hx111_7
               have hw111_6 := hx111_6
               have hw111_5 := hx111_5
               have hw111_4 := hx111_4
               have hw111_3 := hx111_3
               have hw111_2 := hx111_2
               have hw111_1 := hx111_1
               have hw111_0 := hx111_0
               obtain rfl : ad109 = ad111 := (by injection e111)
               replace hx111_0 := CX HB.out hx111_0
               replace hx111_1 := CX HB.out hx111_1
               replace hx111_2 := CX HB.out hx111_2
               replace hx111_3 := CX HB.out hx111_3
               replace hx111_4 := CX HB.out hx111_4
               replace hx111_5 := CX HB.out hx111_5
               replace hx111_6 := CX HB.out hx111_6
               replace hx111_7 := CX HB.out hx111_7
               replace hx111_8 := CX HB.out hx111_8
               replace hx111_9 := CX HB.out hx111_9
               replace hx111_10 := CX HB.out hx111_10
               have HR111_10 := Aside0.mk hi111_10
               have HC111_10 := Aside0.mk hl111_10
               clear hi111_10 hl111_10
               replace p111 := eq_true p111
               replace q111 := eq_true q111
               refine start_ (n := 38) (S := fun w' => ce6 w' gb101 (.int .i64 a0_0) (.slice A0_1 l0_1.length c0_1) (.int .i64 a0_2) (.slice A0_3 l0_3.length c0_3) (.slice A0_4 l0_4.length c0_4) (.slice (some ad109) l0_5.length c0_5) (w'.cell? (ad109.add ((x4_3).toNat * 11)) = some (.int .i64 ((rd_T95 l0_5 x4_3).f0)) ∧ w'.cell? ⟨(ad109.add ((x4_3).toNat * 11)).block, (ad109.add ((x4_3).toNat * 11)).off + 1, none⟩ = some (.int .i64 ((rd_T95 l0_5 x4_3).f1)) ∧ w'.cell? ⟨(ad109.add ((x4_3).toNat * 11)).block, (ad109.add ((x4_3).toNat * 11)).off + 2, none⟩ = some (.string ((rd_T95 l0_5 x4_3).f2)) ∧ w'.cell? ⟨(ad109.add ((x4_3).toNat * 11)).block, (ad109.add ((x4_3).toNat * 11)).off + 3, none⟩ = some (.string ((rd_T95 l0_5 x4_3).f3)) ∧ w'.cell? ⟨(ad109.add ((x4_3).toNat * 11)).block, (ad109.add ((x4_3).toNat * 11)).off + 4, none⟩ = some (.int .i64 ((rd_T95 l0_5 x4_3).f4)) ∧ w'.cell? ⟨(ad109.add ((x4_3).toNat * 11)).block, (ad109.add ((x4_3).toNat * 11)).off + 5, none⟩ = some (.int .i64 ((rd_T95 l0_5 x4_3).f5)) ∧ w'.cell? ⟨(ad109.add ((x4_3).toNat * 11)).block, (ad109.add ((x4_3).toNat * 11)).off + 6, none⟩ = some (.int .i64 ((rd_T95 l0_5 x4_3).f6)) ∧ w'.cell? ⟨(ad109.add ((x4_3).toNat * 11)).block, (ad109.add ((x4_3).toNat * 11)).off + 7, none⟩ = some (.int .i64 ((rd_T95 l0_5 x4_3).f7)) ∧ w'.cell? ⟨(ad109.add ((x4_3).toNat * 11)).block, (ad109.add ((x4_3).toNat * 11)).off + 8, none⟩ = some (.int .i64 ((rd_T95 l0_5 x4_3).f8)) ∧ w'.cell? ⟨(ad109.add ((x4_3).toNat * 11)).block, (ad109.add ((x4_3).toNat * 11)).off + 9, none⟩ = some (.int .i64 ((rd_T95 l0_5 x4_3).f9.f0)) ∧ w'.cell? ⟨(ad109.add ((x4_3).toNat * 11)).block, (ad109.add ((x4_3).toNat * 11)).off + 10, none⟩ = some (.slice A109_10 ((rd_T95 l0_5 x4_3).f9.f1).length c109_10) ∧ w'.cell? (ad109.add ((x4_3).toNat * 11)) = some (.int .i64 ((rd_T95 l0_5 x4_3).f0)) ∧ w'.cell? ⟨(ad109.add ((x4_3).toNat * 11)).block, (ad109.add ((x4_3).toNat * 11)).off + 1, none⟩ = some (.int .i64 ((rd_T95 l0_5 x4_3).f1)) ∧ w'.cell? ⟨(ad109.add ((x4_3).toNat * 11)).block, (ad109.add ((x4_3).toNat * 11)).off + 2, none⟩ = some (.string ((rd_T95 l0_5 x4_3).f2)) ∧ w'.cell? ⟨(ad109.add ((x4_3).toNat * 11)).block, (ad109.add ((x4_3).toNat * 11)).off + 3, none⟩ = some (.string ((rd_T95 l0_5 x4_3).f3)) ∧ w'.cell? ⟨(ad109.add ((x4_3).toNat * 11)).block, (ad109.add ((x4_3).toNat * 11)).off + 4, none⟩ = some (.int .i64 ((rd_T95 l0_5 x4_3).f4)) ∧ w'.cell? ⟨(ad109.add ((x4_3).toNat * 11)).block, (ad109.add ((x4_3).toNat * 11)).off + 5, none⟩ = some (.int .i64 ((rd_T95 l0_5 x4_3).f5)) ∧ w'.cell? ⟨(ad109.add ((x4_3).toNat * 11)).block, (ad109.add ((x4_3).toNat * 11)).off + 6, none⟩ = some (.int .i64 ((rd_T95 l0_5 x4_3).f6)) ∧ w'.cell? ⟨(ad109.add ((x4_3).toNat * 11)).block, (ad109.add ((x4_3).toNat * 11)).off + 7, none⟩ = some (.int .i64 ((rd_T95 l0_5 x4_3).f7)) ∧ w'.cell? ⟨(ad109.add ((x4_3).toNat * 11)).block, (ad109.add ((x4_3).toNat * 11)).off + 8, none⟩ = some (.int .i64 ((rd_T95 l0_5 x4_3).f8)) ∧ w'.cell? ⟨(ad109.add ((x4_3).toNat * 11)).block, (ad109.add ((x4_3).toNat * 11)).off + 9, none⟩ = some (.int .i64 ((rd_T95 l0_5 x4_3).f9.f0)) ∧ w'.cell? ⟨(ad109.add ((x4_3).toNat * 11)).block, (ad109.add ((x4_3).toNat * 11)).off + 10, none⟩ = some (.slice A111_10 ((rd_T95 l0_5 x4_3).f9.f1).length c111_10))) (ds := []) (tf 0 38) (by kernel_rfl) rfl rfl ⟨z0 _ BK101.out, z1 _ BK101.out, z2 _ BK101.out, z3 _ BK101.out, z4 _ BK101.out, z5 _ BK101.out, (CY HB.out hw109_0), (CY HB.out hw109_1), (CY HB.out hw109_2), (CY HB.out hw109_3), (CY HB.out hw109_4), (CY HB.out hw109_5), (CY HB.out hw109_6), (CY HB.out hw109_7), (CY HB.out hw109_8), (CY HB.out hw109_9), (CY HB.out hw109_10), (CY HB.out hw111_0), (CY HB.out hw111_1), (CY HB.out hw111_2), (CY HB.out hw111_3), (CY HB.out hw111_4), (CY HB.out hw111_5), (CY HB.out hw111_6), (CY HB.out hw111_7), (CY HB.out hw111_8), (CY HB.out hw111_9), (CY HB.out hw111_10)⟩ (fun hHeld => ?_); refine with_tabW spec_GateOk.tab11 spec_GateOk.bits11 (fun HT_ HW_ => ?_)
               generalize wr.drew = w57 at BK101 HB HR109_10 HR111_10 hx109_0 hx109_1 hx109_10 hx109_2 hx109_3 hx109_4 hx109_5 hx109_6 hx109_7 hx109_8 hx109_9 hx111_0 hx111_1 hx111_10 hx111_2 hx111_3 hx111_4 hx111_5 hx111_6 hx111_7 hx111_8 hx111_9 hHeld ⊢
               refine pv HT_ 0 87 (tf 1 37) ?_
               refine pv HT_ 2 89 (tr [1, 1, 1, 35]) ?_
               refine tk 1 (some 88) (tf 3 35) (take_ofW HT_.out HW_.out (by kernel_rfl)) hHeld ?_
               refine pv HT_ 3 90 (tf 4 34) ?_
               refine tk 4 (some 91) (tf 5 33) (take_ofW HT_.out HW_.out (by kernel_rfl)) hHeld ?_
               refine one_ (i := 5) (N := some 92) (tf 6 32) rfl rfl (one_of HT_.out (by kernel_rfl)) (by decide) (fun K hK => ?_)
               refine goes_ Try.func61 (by kernel_rfl) rfl #[.agg #[.int .i64 ((rd_T95 l0_5 x4_3).f0), .int .i64 ((rd_T95 l0_5 x4_3).f1), .string ((rd_T95 l0_5 x4_3).f2), .string ((rd_T95 l0_5 x4_3).f3), .int .i64 ((rd_T95 l0_5 x4_3).f4), .int .i64 ((rd_T95 l0_5 x4_3).f5), .int .i64 ((rd_T95 l0_5 x4_3).f6), .int .i64 ((rd_T95 l0_5 x4_3).f7), .int .i64 ((rd_T95 l0_5 x4_3).f8), .int .i64 ((rd_T95 l0_5 x4_3).f9.f0), .slice A109_10 ((rd_T95 l0_5 x4_3).f9.f1).length c109_10]] (by rfl) rfl rfl MT ?_
               with_reducible refine (spec_SaOk.calls k3 ((rd_T95 l0_5 x4_3).f0) ((rd_T95 l0_5 x4_3).f1) ((rd_T95 l0_5 x4_3).f2) ((rd_T95 l0_5 x4_3).f3) ((rd_T95 l0_5 x4_3).f4) ((rd_T95 l0_5 x4_3).f5) ((rd_T95 l0_5 x4_3).f6) ((rd_T95 l0_5 x4_3).f7) ((rd_T95 l0_5 x4_3).f8) ((rd_T95 l0_5 x4_3).f9.f0) _ _ ((rd_T95 l0_5 x4_3).f9.f1) true _ ?side1 ?side2 A46.out).mono ?_
               (case side1 => exact KD HR109_10 HB)
               (case side2 => exact HC109_10.out)
               rintro e w58 ⟨rfl, hb⟩
               refine ⟨_, rfl, ?_⟩
               replace BK101 := am (BB BK101 hb)
               replace HB := am (below_step (K1 HB GE101.out) hb)
               (try clear hb)
               (try clear hb2)
               (try clear hk)
               (try clear hi)
               refine hK.out _ _ ⟨z0 _ BK101.out, z1 _ BK101.out, z2 _ BK101.out, z3 _ BK101.out, z4 _ BK101.out, z5 _ BK101.out, (CY HB.out hw109_0), (CY HB.out hw109_1), (CY HB.out hw109_2), (CY HB.out hw109_3), (CY HB.out hw109_4), (CY HB.out hw109_5), (CY HB.out hw109_6), (CY HB.out hw109_7), (CY HB.out hw109_8), (CY HB.out hw109_9), (CY HB.out hw109_10), (CY HB.out hw111_0), (CY HB.out hw111_1), (CY HB.out hw111_2), (CY HB.out hw111_3), (CY HB.out hw111_4), (CY HB.out hw111_5), (CY HB.out hw111_6), (CY HB.out hw111_7), (CY HB.out hw111_8), (CY HB.out hw111_9), (CY HB.out hw111_10)⟩ (fun hHeld => ?_)
               clear hK K
               refine norm_ (a' := ?_) ?_ ?_
               rotate_left
               ·show Act.put _ (some 92) _ = _
                simp only [Act.put, List.setIfInBounds_toArray, List.set_cons_zero, List.set_cons_succ, i64_w, i32_w]
                rfl
               refine pv HT_ 6 93 (tf 7 31) ?_
               refine pv HT_ 7 94 (tf 8 30) ?_
               refine pv HT_ 8 95 (tf 9 29) ?_
               refine pv HT_ 10 97 (tr [9, 1, 1, 27]) ?_
               refine pv HT_ 14 101 (tr [9, 1, 1, 3, 1, 23]) ?_
               refine tk 9 (some 96) (tr [11, 3, 1, 23]) (take_ofW HT_.out HW_.out (by kernel_rfl)) hHeld ?_
               refine pv HT_ 11 98 (tr [12, 2, 1, 23]) ?_
               refine pv HT_ 12 99 (tr [13, 1, 1, 23]) ?_
               refine tk 13 (some 100) (tf 15 23) (take_ofW HT_.out HW_.out (by kernel_rfl)) hHeld ?_
               refine tk 15 (some 102) (tf 16 22) (take_ofW HT_.out HW_.out (by kernel_rfl)) hHeld ?_
               refine pv HT_ 16 103 (tf 17 21) ?_
               refine pv HT_ 17 104 (tf 18 20) ?_
               refine pv HT_ 18 105 (tf 19 19) ?_
               refine pv HT_ 19 106 (tf 20 18) ?_
               refine pv HT_ 20 107 (tf 21 17) ?_
               refine pv HT_ 21 108 (tf 22 16) ?_
               refine pw HT_ 22 109 (tf 23 15) ?_
               refine pw HT_ 23 110 (tf 24 14) ?_
               refine pw HT_ 24 111 (tf 25 13) ?_
               refine pw HT_ 25 112 (tf 26 12) ?_
               refine pw HT_ 26 113 (tf 27 11) ?_
               refine pw HT_ 27 114 (tf 28 10) ?_
               refine pw HT_ 28 115 (tf 29 9) ?_
               refine pw HT_ 29 116 (tf 30 8) ?_
               refine pw HT_ 30 117 (tf 31 7) ?_
               refine pw HT_ 31 118 (tf 32 6) ?_
               refine pw HT_ 32 119 (tf 33 5) ?_
               refine pw HT_ 33 120 (tf 34 4) ?_
               refine pw HT_ 34 121 (tf 35 3) ?_
               refine pw HT_ 35 122 (tf 36 2) ?_
               refine pv HT_ 36 123 (tf 37 1) ?_
               refine pv HT_ 37 124 (tf 38 0) ?_
               refine done_ (done_of HT_.out (by kernel_rfl)) ?_
               try go_wp2
               go_meet
               case rel => exact ⟨_, (false), (by first | rfl | (simp; done) | (simp [*]; done)), H', ⟨by have := HJ1.out; have := HK2.out; have := HK3.out; first | omega | exact Nat.le_refl _⟩, ⟨KB BK101⟩, ⟨K1 HB GE101.out⟩⟩
            ·replace c47 := Bool.eq_false_iff.mpr c47
             subst c47
             have H1 : (spec_GateOk.j4 k3 x4_3 true a0_0 l0_1 a0_2 l0_3 l0_4 l0_5) = some r := by rw [if_neg (show ¬ (false = true) by decide)] at H; exact H
             clear H
             have H := H1
             clear H1
             have H' := Aside0.mk H
             clear H
             try go_wp2
             replace BK101 := am (blk_drew BK101.out)
             replace HB := am (below_drew1 HB.out)
             have p109 : 0 ≤ (x4_3 : Int) := OD
             have q109 : x4_3 < (l0_5.length : Int) := OD
             obtain ⟨ad109, A109_10, c109_10, e109, hx109_0, hx109_1, hx109_2, hx109_3, hx109_4, hx109_5, hx109_6, hx109_7, hx109_8, hx109_9, hx109_10, hl109_10, hi109_10⟩ := at_T95 HR0_5.out x4_3 p109 q109
             have hw109_10 := hx109_10
             have hw109_9 := hx109_9
             have hw109_8 := hx109_8
             have hw109_7 := hx109_7
             have hw109_6 := hx109_6
             have hw109_5 := hx109_5
             have hw109_4 := hx109_4
             have hw109_3 := hx109_3
             have hw109_2 := hx109_2
             have hw109_1 := hx109_1
             have hw109_0 := hx109_0
             cases e109
             replace hx109_0 := CX HB.out hx109_0
             replace hx109_1 := CX HB.out hx109_1
             replace hx109_2 := CX HB.out hx109_2
             replace hx109_3 := CX HB.out hx109_3
             replace hx109_4 := CX HB.out hx109_4
             replace hx109_5 := CX HB.out hx109_5
             replace hx109_6 := CX HB.out hx109_6
             replace hx109_7 := CX HB.out hx109_7
             replace hx109_8 := CX HB.out hx109_8
             replace hx109_9 := CX HB.out hx109_9
             replace hx109_10 := CX HB.out hx109_10
             have HR109_10 := Aside0.mk hi109_10
             have HC109_10 := Aside0.mk hl109_10
             clear hi109_10 hl109_10
             replace p109 := eq_true p109
             replace q109 := eq_true q109
             refine start_ (n := 38) (S := fun w' => ce6 w' gb101 (.int .i64 a0_0) (.slice A0_1 l0_1.length c0_1) (.int .i64 a0_2) (.slice A0_3 l0_3.length c0_3) (.slice A0_4 l0_4.length c0_4) (.slice (some ad109) l0_5.length c0_5) (w'.cell? (ad109.add ((x4_3).toNat * 11)) = some (.int .i64 ((rd_T95 l0_5 x4_3).f0)) ∧ w'.cell? ⟨(ad109.add ((x4_3).toNat * 11)).block, (ad109.add ((x4_3).toNat * 11)).off + 1, none⟩ = some (.int .i64 ((rd_T95 l0_5 x4_3).f1)) ∧ w'.cell? ⟨(ad109.add ((x4_3).toNat * 11)).block, (ad109.add ((x4_3).toNat * 11)).off + 2, none⟩ = some (.string ((rd_T95 l0_5 x4_3).f2)) ∧ w'.cell? ⟨(ad109.add ((x4_3).toNat * 11)).block, (ad109.add ((x4_3).toNat * 11)).off + 3, none⟩ = some (.string ((rd_T95 l0_5 x4_3).f3)) ∧ w'.cell? ⟨(ad109.add ((x4_3).toNat * 11)).block, (ad109.add ((x4_3).toNat * 11)).off + 4, none⟩ = some (.int .i64 ((rd_T95 l0_5 x4_3).f4)) ∧ w'.cell? ⟨(ad109.add ((x4_3).toNat * 11)).block, (ad109.add ((x4_3).toNat * 11)).off + 5, none⟩ = some (.int .i64 ((rd_T95 l0_5 x4_3).f5)) ∧ w'.cell? ⟨(ad109.add ((x4_3).toNat * 11)).block, (ad109.add ((x4_3).toNat * 11)).off + 6, none⟩ = some (.int .i64 ((rd_T95 l0_5 x4_3).f6)) ∧ w'.cell? ⟨(ad109.add ((x4_3).toNat * 11)).block, (ad109.add ((x4_3).toNat * 11)).off + 7, none⟩ = some (.int .i64 ((rd_T95 l0_5 x4_3).f7)) ∧ w'.cell? ⟨(ad109.add ((x4_3).toNat * 11)).block, (ad109.add ((x4_3).toNat * 11)).off + 8, none⟩ = some (.int .i64 ((rd_T95 l0_5 x4_3).f8)) ∧ w'.cell? ⟨(ad109.add ((x4_3).toNat * 11)).block, (ad109.add ((x4_3).toNat * 11)).off + 9, none⟩ = some (.int .i64 ((rd_T95 l0_5 x4_3).f9.f0)) ∧ w'.cell? ⟨(ad109.add ((x4_3).toNat * 11)).block, (ad109.add ((x4_3).toNat * 11)).off + 10, none⟩ = some (.slice A109_10 ((rd_T95 l0_5 x4_3).f9.f1).length c109_10))) (ds := []) (tf 0 38) (by kernel_rfl) rfl rfl ⟨z0 _ BK101.out, z1 _ BK101.out, z2 _ BK101.out, z3 _ BK101.out, z4 _ BK101.out, z5 _ BK101.out, (CY HB.out hw109_0), (CY HB.out hw109_1), (CY HB.out hw109_2), (CY HB.out hw109_3), (CY HB.out hw109_4), (CY HB.out hw109_5), (CY HB.out hw109_6), (CY HB.out hw109_7), (CY HB.out hw109_8), (CY HB.out hw109_9), (CY HB.out hw109_10)⟩ (fun hHeld => ?_); refine with_tabW spec_GateOk.tab11 spec_GateOk.bits11 (fun HT_ HW_ => ?_)
             generalize wr.drew = w59 at BK101 HB HR109_10 hx109_0 hx109_1 hx109_10 hx109_2 hx109_3 hx109_4 hx109_5 hx109_6 hx109_7 hx109_8 hx109_9 hHeld ⊢
             refine pv HT_ 0 87 (tf 1 37) ?_
             refine pv HT_ 2 89 (tr [1, 1, 1, 35]) ?_
             refine tk 1 (some 88) (tf 3 35) (take_ofW HT_.out HW_.out (by kernel_rfl)) hHeld ?_
             refine pv HT_ 3 90 (tf 4 34) ?_
             refine tk 4 (some 91) (tf 5 33) (take_ofW HT_.out HW_.out (by kernel_rfl)) hHeld ?_
             refine one_ (i := 5) (N := some 92) (tf 6 32) rfl rfl (one_of HT_.out (by kernel_rfl)) (by decide) (fun K hK => ?_)
             refine goes_ Try.func61 (by kernel_rfl) rfl #[.agg #[.int .i64 ((rd_T95 l0_5 x4_3).f0), .int .i64 ((rd_T95 l0_5 x4_3).f1), .string ((rd_T95 l0_5 x4_3).f2), .string ((rd_T95 l0_5 x4_3).f3), .int .i64 ((rd_T95 l0_5 x4_3).f4), .int .i64 ((rd_T95 l0_5 x4_3).f5), .int .i64 ((rd_T95 l0_5 x4_3).f6), .int .i64 ((rd_T95 l0_5 x4_3).f7), .int .i64 ((rd_T95 l0_5 x4_3).f8), .int .i64 ((rd_T95 l0_5 x4_3).f9.f0), .slice A109_10 ((rd_T95 l0_5 x4_3).f9.f1).length c109_10]] (by rfl) rfl rfl MT ?_
             with_reducible refine (spec_SaOk.calls k3 ((rd_T95 l0_5 x4_3).f0) ((rd_T95 l0_5 x4_3).f1) ((rd_T95 l0_5 x4_3).f2) ((rd_T95 l0_5 x4_3).f3) ((rd_T95 l0_5 x4_3).f4) ((rd_T95 l0_5 x4_3).f5) ((rd_T95 l0_5 x4_3).f6) ((rd_T95 l0_5 x4_3).f7) ((rd_T95 l0_5 x4_3).f8) ((rd_T95 l0_5 x4_3).f9.f0) _ _ ((rd_T95 l0_5 x4_3).f9.f1) false _ ?side1 ?side2 A46.out).mono ?_
             (case side1 => exact KD HR109_10 HB)
             (case side2 => exact HC109_10.out)
             rintro e w60 ⟨rfl, hb⟩
             refine ⟨_, rfl, ?_⟩
             replace BK101 := am (BB BK101 hb)
             replace HB := am (below_step (K1 HB GE101.out) hb)
             (try clear hb)
             (try clear hb2)
             (try clear hk)
             (try clear hi)
             refine hK.out _ _ ⟨z0 _ BK101.out, z1 _ BK101.out, z2 _ BK101.out, z3 _ BK101.out, z4 _ BK101.out, z5 _ BK101.out, (CY HB.out hw109_0), (CY HB.out hw109_1), (CY HB.out hw109_2), (CY HB.out hw109_3), (CY HB.out hw109_4), (CY HB.out hw109_5), (CY HB.out hw109_6), (CY HB.out hw109_7), (CY HB.out hw109_8), (CY HB.out hw109_9), (CY HB.out hw109_10)⟩ (fun hHeld => ?_)
             clear hK K
             refine norm_ (a' := ?_) ?_ ?_
             rotate_left
             ·show Act.put _ (some 92) _ = _
              simp only [Act.put, List.setIfInBounds_toArray, List.set_cons_zero, List.set_cons_succ, i64_w, i32_w]
              rfl
             refine pv HT_ 6 93 (tf 7 31) ?_
             refine pv HT_ 7 94 (tf 8 30) ?_
             refine pw HT_ 8 95 (tf 9 29) ?_
             refine pw HT_ 9 96 (tf 10 28) ?_
             refine pw HT_ 10 97 (tf 11 27) ?_
             refine pw HT_ 11 98 (tf 12 26) ?_
             refine pw HT_ 12 99 (tf 13 25) ?_
             refine pw HT_ 13 100 (tf 14 24) ?_
             refine pw HT_ 14 101 (tf 15 23) ?_
             refine pw HT_ 15 102 (tf 16 22) ?_
             refine pw HT_ 16 103 (tf 17 21) ?_
             refine pv HT_ 17 104 (tf 18 20) ?_
             refine pv HT_ 18 105 (tf 19 19) ?_
             refine pw HT_ 19 106 (tf 20 18) ?_
             refine pw HT_ 20 107 (tf 21 17) ?_
             refine pw HT_ 21 108 (tf 22 16) ?_
             refine pw HT_ 22 109 (tf 23 15) ?_
             refine pw HT_ 23 110 (tf 24 14) ?_
             refine pw HT_ 24 111 (tf 25 13) ?_
             refine pw HT_ 25 112 (tf 26 12) ?_
             refine pw HT_ 26 113 (tf 27 11) ?_
             refine pw HT_ 27 114 (tf 28 10) ?_
             refine pw HT_ 28 115 (tf 29 9) ?_
             refine pw HT_ 29 116 (tf 30 8) ?_
             refine pw HT_ 30 117 (tf 31 7) ?_
             refine pw HT_ 31 118 (tf 32 6) ?_
             refine pw HT_ 32 119 (tf 33 5) ?_
             refine pw HT_ 33 120 (tf 34 4) ?_
             refine pw HT_ 34 121 (tf 35 3) ?_
             refine pw HT_ 35 122 (tf 36 2) ?_
             refine pw HT_ 36 123 (tf 37 1) ?_
             refine pv HT_ 37 124 (tf 38 0) ?_
             refine done_ (done_of HT_.out (by kernel_rfl)) ?_
             try go_wp2
             go_meet
             case rel => exact ⟨_, (true), (by first | rfl | (simp; done) | (simp [*]; done)), H', ⟨by have := HJ1.out; have := HK2.out; have := HK3.out; first | omega | exact Nat.le_refl _⟩, ⟨KB BK101⟩, ⟨K1 HB GE101.out⟩⟩
           ·rw [if_neg c45] at H
            exact absurd H (by simp)
          case rest =>
           clear HC43
           try clear c1
           try clear p1
           try clear q1
           try clear hx1
           try clear p2
           try clear c4
           try clear c6
           try clear c10
           try clear p10
           try clear q10
           try clear hx10
           try clear c11
           try clear p11
           try clear q11
           try clear hx11
           try clear c45
           try clear c47
           try clear hx109_0
           try clear hx109_1
           try clear hx109_10
           try clear hx109_2
           try clear hx109_3
           try clear hx109_4
           try clear hx109_5
           try clear hx109_6
           try clear hx109_7
           try clear hx109_8
           try clear hx109_9
           try clear hx111_0
           try clear hx111_1
           try clear hx111_10
           try clear hx111_2
           try clear hx111_3
           try clear hx111_4
           try clear hx111_5
           try clear hx111_6
           try clear hx111_7
           try clear hx111_8
           try clear hx111_9
           try clear p109
           try clear p111
           try clear q109
           try clear q111
           obtain ⟨kq, x124_42, rfl, HA, HJ42, BK101, HB⟩ := hcut
           cases kq with
           | zero => exact absurd HA.out (by simp [spec_GateOk.j4])
           | succ kj42 =>
            have H := HA.out
            clear HA
            simp only [spec_GateOk.j4] at H
            by_cases c61 : x124_42 = true
            ·subst c61
             have H1 : (some false) = some r := by rw [if_pos rfl] at H; exact H
             clear H
             have H := H1
             clear H1
             obtain rfl := Option.some.inj H
             go_wp2
             go_ret
             exact ⟨ER, K1 HB GE101.out⟩
            ·replace c61 := Bool.eq_false_iff.mpr c61
             subst c61
             have H1 : (spec_GateOk.l1 kj42 (wrap64 (x4_3 + 1)) a0_0 l0_1 a0_2 l0_3 l0_4 l0_5) = some r := by rw [if_neg (show ¬ (false = true) by decide)] at H; exact H
             clear H
             have H := H1
             clear H1
             have H' := Aside0.mk H
             clear H
             go_wp2
             go_roundg kj42
             case measure => have := HJ1.out; have := HK2.out; have := HK3.out; have := HJ42.out; omega
             case rel => exact ⟨(wrap64 (x4_3 + 1)), (by first | rfl | (simp; done) | (simp [*]; done)), H', ⟨by have := HJ1.out; have := HK2.out; have := HK3.out; have := HJ42.out; omega⟩, ⟨KB BK101⟩, ⟨K1 HB GE101.out⟩⟩
         ·rw [if_neg c42] at H
          have c42b0 : decide (x4_3 < (l0_5.length : Int)) = false := decide_eq_false c42
          clear c42
          obtain rfl := Option.some.inj H
          obtain ⟨hcz62_0, hcz62_1, hcz62_2, hcz62_3, hcz62_4, hcz62_5, hfz62_0⟩ := y6 wr BK101.out
          go_wp2
          go_ret
          exact ⟨ER, K1 HB GE101.out⟩
def spec_GateDoes.j0 : Nat → Bool → Int → List (S141) → Int → List (S136) → List (S95) → List (S95) → Int → Int → Int → ByteArray → Option (Int × Int)
 | 0, _, _, _, _, _, _, _, _, _, _, _ => none
 | k + 1, x13, x102000, x102001, x102002, x102003, x102004, x102005, x103000, x103001, x103002, x103003 => if x13 = true then (some (0, 0)) else ((spec_l10Call.f x103000 x103001 x103002 x103003).bind fun bt105 => ((spec_l4Does.f k x102001 bt105.1 bt105.2.1 bt105.2.2).bind fun bt108 => (some (bt108.1, bt108.2))))
def spec_GateDoes.f (k : Nat) (a0_0 : Int) (l0_1 : List (S141)) (a0_2 : Int) (l0_3 : List (S136)) (l0_4 : List (S95)) (l0_5 : List (S95)) (a1_0 : Int) (a1_1 : Int) (a1_2 : Int) (a1_3 : ByteArray) : Option (Int × Int) := (spec_GateOk.f k a0_0 l0_1 a0_2 l0_3 l0_4 l0_5).bind fun t103 => (if t103 = true then ((spec_PacketOk.f a1_0 a1_1 a1_2 a1_3).bind fun t104 => (spec_GateDoes.j0 k (!t104) a0_0 l0_1 a0_2 l0_3 l0_4 l0_5 a1_0 a1_1 a1_2 a1_3)) else (spec_GateDoes.j0 k true a0_0 l0_1 a0_2 l0_3 l0_4 l0_5 a1_0 a1_1 a1_2 a1_3))
def spec_GateDoes.T3 : Bool × List (List Nat × List Nat) := (true, [([], []), ([0], [0]), ([], []), ([2], [2]), ([1, 3, 3], [1, 3]), ([4], [4]), ([4], [4]), ([5, 4, 0, 1, 2, 3, 4, 5, 6], [5]), ([6, 7, 0, 1, 2, 3, 4, 5, 6, 7], [6])])
def spec_GateDoes.B3 : List Nat := [0, 1, 0, 4, 15, 31, 31, 127, 255]
theorem spec_GateDoes.tab3 : rtab .any (opsOf Try.f35 3) = spec_GateDoes.T3 := by kernel_rfl
theorem spec_GateDoes.bits3 : waitsOk spec_GateDoes.T3.2 spec_GateDoes.B3 = true := by kernel_rfl
set_option maxHeartbeats 8000000 in
set_option maxRecDepth 100000 in
theorem spec_GateDoes.calls (k : Nat) (a0_0 : Int) (A0_1 : Option Addr) (c0_1 : Nat) (l0_1 : List (S141)) (a0_2 : Int) (A0_3 : Option Addr) (c0_3 : Nat) (l0_3 : List (S136)) (A0_4 : Option Addr) (c0_4 : Nat) (l0_4 : List (S95)) (A0_5 : Option Addr) (c0_5 : Nat) (l0_5 : List (S95)) (a1_0 : Int) (a1_1 : Int) (a1_2 : Int) (a1_3 : ByteArray) (r1 : Int) (r2 : Int) (w : World) (hr0_1 : Kd.C k141 w A0_1 l0_1.length l0_1) (hc0_1 : l0_1.length ≤ c0_1) (hr0_3 : Kd.C k136 w A0_3 l0_3.length l0_3) (hc0_3 : l0_3.length ≤ c0_3) (hr0_4 : Kd.C k95 w A0_4 l0_4.length l0_4) (hc0_4 : l0_4.length ≤ c0_4) (hr0_5 : Kd.C k95 w A0_5 l0_5.length l0_5) (hc0_5 : l0_5.length ≤ c0_5) (h : spec_GateDoes.f k a0_0 l0_1 a0_2 l0_3 l0_4 l0_5 a1_0 a1_1 a1_2 a1_3 = some (r1, r2)) :
  Calls Try.prog 35 #[.agg #[.int .i64 a0_0, .slice A0_1 l0_1.length c0_1, .int .i64 a0_2, .slice A0_3 l0_3.length c0_3, .slice A0_4 l0_4.length c0_4, .slice A0_5 l0_5.length c0_5], .agg #[.int .i64 a1_0, .int .i64 a1_1, .int .i64 a1_2, .string a1_3]] w fun e w' => e = .returned (.tuple #[.int .i64 r1, .int .i64 r2]) ∧ Below w.heap.size w w' := by
 have hu57 := Try.underlying57
 have hu66 := Try.underlying66
 have HR0_1 := Aside0.mk hr0_1
 have HC0_1 := Aside0.mk hc0_1
 clear hr0_1 hc0_1
 have HR0_3 := Aside0.mk hr0_3
 have HC0_3 := Aside0.mk hc0_3
 clear hr0_3 hc0_3
 have HR0_4 := Aside0.mk hr0_4
 have HC0_4 := Aside0.mk hc0_4
 clear hr0_4 hc0_4
 have HR0_5 := Aside0.mk hr0_5
 have HC0_5 := Aside0.mk hc0_5
 clear hr0_5 hc0_5
 have HB := am (Below.refl w.heap.size w)
 have H : ((spec_GateOk.f k a0_0 l0_1 a0_2 l0_3 l0_4 l0_5).bind fun t103 => (if t103 = true then ((spec_PacketOk.f a1_0 a1_1 a1_2 a1_3).bind fun t104 => (spec_GateDoes.j0 k (!t104) a0_0 l0_1 a0_2 l0_3 l0_4 l0_5 a1_0 a1_1 a1_2 a1_3)) else (spec_GateDoes.j0 k true a0_0 l0_1 a0_2 l0_3 l0_4 l0_5 a1_0 a1_1 a1_2 a1_3))) = some (r1, r2) := h
 clear h
 have HC3 := Aside0.mk H
 clear H
 go_enter Try.func35, Try.ntmps35
 go_upto_region 1 with (first | ((with_reducible refine gate_dst (N := 2) rfl ?_); refine box_event rfl (N := 2) rfl (cs := #[.int .i64 a0_0, .slice A0_1 l0_1.length c0_1, .int .i64 a0_2, .slice A0_3 l0_3.length c0_3, .slice A0_4 l0_4.length c0_4, .slice A0_5 l0_5.length c0_5]) (t := 57) BX ?_; intro gb101 hg w4 hbox hb; have BK101 := am (hbox); have GW101 := am (GH HB hg); have GE101 := GW101; replace HB := am (below_step (KL HB) hb); clear hb hbox hg) | ((with_reducible refine gate_dst (N := 3) rfl ?_); refine box_event rfl (N := 3) rfl (cs := #[.int .i64 a1_0, .int .i64 a1_1, .int .i64 a1_2, .string a1_3]) (t := 66) BX ?_; intro gb102 hg w5 hbox hb; have BK102 := am (hbox); have GW102 := am (GH1 HB GE101.out hg); have GE102 := GW102; replace HB := am (below_step (K1 HB GE101.out) hb); have NB101_102 := am (NL BK101 hg); have NB102_101 := am (NG BK101 hg); replace BK101 := am (BB BK101 hb); clear hb hbox hg))
 (try simp only [Act.put, List.setIfInBounds_toArray, List.set_cons_zero, List.set_cons_succ])
 go_cut [13] (fun v13 wc => ∃ (kq : Nat) (x13_2 : Bool), v13 = .bool x13_2 ∧ Aside0 (spec_GateDoes.j0 kq x13_2 a0_0 l0_1 a0_2 l0_3 l0_4 l0_5 a1_0 a1_1 a1_2 a1_3 = some (r1, r2)) ∧ Aside0 (kq ≤ k) ∧ Aside0 (wc.heap[gb101]? = some (.cells #[.int .i64 a0_0, (.slice A0_1 l0_1.length c0_1), .int .i64 a0_2, (.slice A0_3 l0_3.length c0_3), (.slice A0_4 l0_4.length c0_4), (.slice A0_5 l0_5.length c0_5)] 57 (0, 0))) ∧ Aside0 (wc.heap[gb102]? = some (.cells #[.int .i64 a1_0, .int .i64 a1_1, .int .i64 a1_2, .string a1_3] 66 (0, 0))) ∧ Aside0 (Below w.heap.size w wc))
 case first =>
  have H := HC3.out
  clear HC3
  replace H := Option.bind_eq_some_iff.mp H
  obtain ⟨t103, A60, H⟩ := H
  replace H : (if t103 = true then ((spec_PacketOk.f a1_0 a1_1 a1_2 a1_3).bind fun t104 => (spec_GateDoes.j0 k (!t104) a0_0 l0_1 a0_2 l0_3 l0_4 l0_5 a1_0 a1_1 a1_2 a1_3)) else (spec_GateDoes.j0 k true a0_0 l0_1 a0_2 l0_3 l0_4 l0_5 a1_0 a1_1 a1_2 a1_3)) = some (r1, r2) := H
  have A6 := Aside0.mk A60
  clear A60
  by_cases c7 : t103 = true
  ·subst c7
   have H1 : ((spec_PacketOk.f a1_0 a1_1 a1_2 a1_3).bind fun t104 => (spec_GateDoes.j0 k (!t104) a0_0 l0_1 a0_2 l0_3 l0_4 l0_5 a1_0 a1_1 a1_2 a1_3)) = some (r1, r2) := by rw [if_pos rfl] at H; exact H
   clear H
   have H := H1
   clear H1
   replace H := Option.bind_eq_some_iff.mp H
   obtain ⟨t104, A80, H⟩ := H
   replace H : (spec_GateDoes.j0 k (!t104) a0_0 l0_1 a0_2 l0_3 l0_4 l0_5 a1_0 a1_1 a1_2 a1_3) = some (r1, r2) := H
   have A8 := Aside0.mk A80
   clear A80
   have H' := Aside0.mk H
   clear H
   have hnb9 := NB101_102.out
   have hnc9 := NB102_101.out
   obtain ⟨hcz10_0, hcz10_1, hcz10_2, hcz10_3, hcz10_4, hcz10_5, hfz10_0⟩ := y6 w5 BK101.out
   go_wp2_with (first | ((with_reducible refine gate_callee (f := 30) rfl ?_); refine goesL_ (some 7) rfl rfl Try.func30 (by kernel_rfl) rfl #[.agg #[.int .i64 a0_0, .slice A0_1 l0_1.length c0_1, .int .i64 a0_2, .slice A0_3 l0_3.length c0_3, .slice A0_4 l0_4.length c0_4, .slice A0_5 l0_5.length c0_5]] rfl MT ?_; (with_reducible refine (spec_GateOk.calls k a0_0 _ _ l0_1 a0_2 _ _ l0_3 _ _ l0_4 _ _ l0_5 true _ ?side1 ?side2 ?side3 ?side4 ?side5 ?side6 ?side7 ?side8 A6.out).mono ?_); (case side1 => exact KD HR0_1 HB); (case side2 => exact HC0_1.out); (case side3 => exact KD HR0_3 HB); (case side4 => exact HC0_3.out); (case side5 => exact KD HR0_4 HB); (case side6 => exact HC0_4.out); (case side7 => exact KD HR0_5 HB); (case side8 => exact HC0_5.out); rintro e w11 ⟨rfl, hb⟩; refine ⟨_, rfl, ?_⟩; replace BK101 := am (BB BK101 hb); replace BK102 := am (BB BK102 hb); replace HB := am (below_step (K2 HB GE101.out GE102.out) hb); (try clear hb); obtain ⟨hcz12_0, hcz12_1, hcz12_2, hcz12_3, hfz12_0⟩ := y4 w11 BK102.out) | (go_at_call 72; (with_reducible refine (spec_PacketOk.calls a1_0 a1_1 a1_2 a1_3 t104 _ A8.out).mono ?_); rintro e w13 ⟨rfl, hb⟩; replace BK101 := am (BB BK101 hb); replace BK102 := am (BB BK102 hb); replace HB := am (below_step (K2 HB GE101.out GE102.out) hb); (try clear hb)))
   go_meet
   case rel => exact ⟨_, (!t104), (by first | rfl | (simp; done) | (simp [*]; done)), H', ⟨by first | omega | exact Nat.le_refl _⟩, ⟨KB BK101⟩, ⟨KB BK102⟩, ⟨K2 HB GE101.out GE102.out⟩⟩
  ·replace c7 := Bool.eq_false_iff.mpr c7
   subst c7
   have H1 : (spec_GateDoes.j0 k true a0_0 l0_1 a0_2 l0_3 l0_4 l0_5 a1_0 a1_1 a1_2 a1_3) = some (r1, r2) := by rw [if_neg (show ¬ (false = true) by decide)] at H; exact H
   clear H
   have H := H1
   clear H1
   have H' := Aside0.mk H
   clear H
   have hnb14 := NB101_102.out
   have hnc14 := NB102_101.out
   obtain ⟨hcz15_0, hcz15_1, hcz15_2, hcz15_3, hcz15_4, hcz15_5, hfz15_0⟩ := y6 w5 BK101.out
   go_wp2_with (first | ((with_reducible refine gate_callee (f := 30) rfl ?_); refine goesL_ (some 7) rfl rfl Try.func30 (by kernel_rfl) rfl #[.agg #[.int .i64 a0_0, .slice A0_1 l0_1.length c0_1, .int .i64 a0_2, .slice A0_3 l0_3.length c0_3, .slice A0_4 l0_4.length c0_4, .slice A0_5 l0_5.length c0_5]] rfl MT ?_; (with_reducible refine (spec_GateOk.calls k a0_0 _ _ l0_1 a0_2 _ _ l0_3 _ _ l0_4 _ _ l0_5 false _ ?side1 ?side2 ?side3 ?side4 ?side5 ?side6 ?side7 ?side8 A6.out).mono ?_); (case side1 => exact KD HR0_1 HB); (case side2 => exact HC0_1.out); (case side3 => exact KD HR0_3 HB); (case side4 => exact HC0_3.out); (case side5 => exact KD HR0_4 HB); (case side6 => exact HC0_4.out); (case side7 => exact KD HR0_5 HB); (case side8 => exact HC0_5.out); rintro e w16 ⟨rfl, hb⟩; refine ⟨_, rfl, ?_⟩; replace BK101 := am (BB BK101 hb); replace BK102 := am (BB BK102 hb); replace HB := am (below_step (K2 HB GE101.out GE102.out) hb); (try clear hb)))
   go_meet
   case rel => exact ⟨_, (true), (by first | rfl | (simp; done) | (simp [*]; done)), H', ⟨by first | omega | exact Nat.le_refl _⟩, ⟨KB BK101⟩, ⟨KB BK102⟩, ⟨K2 HB GE101.out GE102.out⟩⟩
 case rest =>
  clear HC3
  try clear c1
  try clear p2
  try clear c3
  try clear c7
  try clear c9
  try clear c14
  try clear hcz10_0 hcz10_1 hcz10_2 hcz10_3 hcz10_4 hcz10_5 hfz10_0
  try clear hcz12_0 hcz12_1 hcz12_2 hcz12_3 hfz12_0
  try clear hcz15_0 hcz15_1 hcz15_2 hcz15_3 hcz15_4 hcz15_5 hfz15_0
  obtain ⟨kq, x13_2, rfl, HA, HJ2, BK101, BK102, HB⟩ := hcut
  cases kq with
  | zero => exact absurd HA.out (by simp [spec_GateDoes.j0])
  | succ kj2 =>
   have H := HA.out
   clear HA
   simp only [spec_GateDoes.j0] at H
   by_cases c17 : x13_2 = true
   ·subst c17
    have H1 : (some (0, 0)) = some (r1, r2) := by rw [if_pos rfl] at H; exact H
    clear H
    have H := H1
    clear H1
    simp only [Option.some.injEq, Prod.mk.injEq] at H
    obtain ⟨rfl, rfl⟩ := H
    go_wp2
    go_ret2
    exact ⟨ER, K2 HB GE101.out GE102.out⟩
   ·replace c17 := Bool.eq_false_iff.mpr c17
    subst c17
    have H1 : ((spec_l10Call.f a1_0 a1_1 a1_2 a1_3).bind fun bt105 => ((spec_l4Does.f kj2 l0_1 bt105.1 bt105.2.1 bt105.2.2).bind fun bt108 => (some (bt108.1, bt108.2)))) = some (r1, r2) := by rw [if_neg (show ¬ (false = true) by decide)] at H; exact H
    clear H
    have H := H1
    clear H1
    replace H := Option.bind_eq_some_iff.mp H
    obtain ⟨⟨t105, t106, t107⟩, A180, H⟩ := H
    replace H : ((spec_l4Does.f kj2 l0_1 t105 t106 t107).bind fun bt108 => (some (bt108.1, bt108.2))) = some (r1, r2) := H
    have A18 := Aside0.mk A180
    clear A180
    replace H := Option.bind_eq_some_iff.mp H
    obtain ⟨⟨t108, t109⟩, A190, H⟩ := H
    replace H : (some (t108, t109)) = some (r1, r2) := H
    have A19 := Aside0.mk A190
    clear A190
    simp only [Option.some.injEq, Prod.mk.injEq] at H
    obtain ⟨rfl, rfl⟩ := H
    try go_wp2
    replace BK101 := am (blk_drew BK101.out)
    replace BK102 := am (blk_drew BK102.out)
    replace HB := am (below_drew1 HB.out)
    refine start_ (n := 9) (S := fun w' => ce6 w' gb101 (.int .i64 a0_0) (.slice A0_1 l0_1.length c0_1) (.int .i64 a0_2) (.slice A0_3 l0_3.length c0_3) (.slice A0_4 l0_4.length c0_4) (.slice A0_5 l0_5.length c0_5) (de4 w' gb102 (.int .i64 a1_0) (.int .i64 a1_1) (.int .i64 a1_2) (.string a1_3))) (ds := []) (tf 0 9) (by kernel_rfl) rfl rfl ⟨z0 _ BK101.out, z1 _ BK101.out, z2 _ BK101.out, z3 _ BK101.out, z4 _ BK101.out, z5 _ BK101.out, z0 _ BK102.out, z1 _ BK102.out, z2 _ BK102.out, z3 _ BK102.out⟩ (fun hHeld => ?_); refine with_tabW spec_GateDoes.tab3 spec_GateDoes.bits3 (fun HT_ HW_ => ?_)
    generalize wc.drew = w20 at BK101 BK102 HB hHeld ⊢
    refine pv HT_ 0 14 (tf 1 8) ?_
    refine tk 1 (some 15) (tf 2 7) (take_ofW HT_.out HW_.out (by kernel_rfl)) hHeld ?_
    refine tk 2 (some 16) (tf 3 6) (take_ofW HT_.out HW_.out (by kernel_rfl)) hHeld ?_
    refine one_ (i := 3) (N := some 17) (tf 4 5) rfl rfl (one_of HT_.out (by kernel_rfl)) (by decide) (fun K hK => ?_)
    refine goes_ Try.func74 (by kernel_rfl) rfl #[.agg #[.int .i64 a1_0, .int .i64 a1_1, .int .i64 a1_2, .string a1_3]] (by rfl) rfl rfl MT ?_
    with_reducible refine (spec_l10Call.calls a1_0 a1_1 a1_2 a1_3 t105 t106 t107 _ A18.out).mono ?_
    rintro e w21 ⟨rfl, hb⟩
    refine ⟨_, rfl, ?_⟩
    replace BK101 := am (BB BK101 hb)
    replace BK102 := am (BB BK102 hb)
    replace HB := am (below_step (K2 HB GE101.out GE102.out) hb)
    (try clear hb)
    (try clear hb2)
    (try clear hk)
    (try clear hi)
    refine hK.out _ _ ⟨z0 _ BK101.out, z1 _ BK101.out, z2 _ BK101.out, z3 _ BK101.out, z4 _ BK101.out, z5 _ BK101.out, z0 _ BK102.out, z1 _ BK102.out, z2 _ BK102.out, z3 _ BK102.out⟩ (fun hHeld => ?_)
    clear hK K
    refine norm_ (a' := ?_) ?_ ?_
    rotate_left
    ·show Act.put _ (some 17) _ = _
     simp only [Act.put, List.setIfInBounds_toArray, List.set_cons_zero, List.set_cons_succ, i64_w, i32_w]
     rfl
    refine one_ (i := 4) (N := some 18) (tf 5 4) rfl rfl (one_of HT_.out (by kernel_rfl)) (by decide) (fun K hK => ?_)
    refine goes_ Try.func73 (by kernel_rfl) rfl #[.slice A0_1 l0_1.length c0_1, .agg #[.int .i64 t105, .int .i64 t106, .int .i64 t107]] (by rfl) rfl rfl MT ?_
    with_reducible refine (spec_l4Does.calls kj2 _ _ l0_1 t105 t106 t107 t108 t109 _ ?side1 ?side2 A19.out).mono ?_
    (case side1 => exact KD HR0_1 HB)
    (case side2 => exact HC0_1.out)
    rintro e w22 ⟨rfl, hb⟩
    refine ⟨_, rfl, ?_⟩
    replace BK101 := am (BB BK101 hb)
    replace BK102 := am (BB BK102 hb)
    replace HB := am (below_step (K2 HB GE101.out GE102.out) hb)
    (try clear hb)
    (try clear hb2)
    (try clear hk)
    (try clear hi)
    refine hK.out _ _ ⟨z0 _ BK101.out, z1 _ BK101.out, z2 _ BK101.out, z3 _ BK101.out, z4 _ BK101.out, z5 _ BK101.out, z0 _ BK102.out, z1 _ BK102.out, z2 _ BK102.out, z3 _ BK102.out⟩ (fun hHeld => ?_)
    clear hK K
    refine norm_ (a' := ?_) ?_ ?_
    rotate_left
    ·show Act.put _ (some 18) _ = _
     simp only [Act.put, List.setIfInBounds_toArray, List.set_cons_zero, List.set_cons_succ, i64_w, i32_w]
     rfl
    refine pv HT_ 5 19 (tf 6 3) ?_
    refine pv HT_ 6 20 (tf 7 2) ?_
    refine pv HT_ 7 4 (tf 8 1) ?_
    refine pv HT_ 8 5 (tf 9 0) ?_
    refine done_ (done_of HT_.out (by kernel_rfl)) ?_
    try go_wp2
    go_ret2
    exact ⟨ER, K2 HB GE101.out GE102.out⟩
def impl_isAddr.f (a0 : Int) : Option (Bool) := (impl_in.f a0 0 4294967295).bind fun t101 => (some t101)
set_option maxHeartbeats 8000000 in
set_option maxRecDepth 100000 in
theorem impl_isAddr.calls (a0 : Int) (r : Bool) (w : World) (h : impl_isAddr.f a0 = some r) :
  Calls Try.prog 137 #[.int .i64 a0] w fun e w' => e = .returned (.bool r) ∧ Drawn0 w w' := by
 have H : ((impl_in.f a0 0 4294967295).bind fun t101 => (some t101)) = some r := h
 clear h
 replace H := Option.bind_eq_some_iff.mp H
 obtain ⟨t101, A20, H⟩ := H
 replace H : (some t101) = some r := H
 have A2 := Aside0.mk A20
 clear A20
 obtain rfl := Option.some.inj H
 go_enter Try.func137, Try.ntmps137
 go_wp2_with (first | ((with_reducible refine gate_callee (f := 49) rfl ?_); refine goesL_ (some 4) rfl rfl Try.func49 (by kernel_rfl) rfl #[.int .i64 a0, .int .i64 0, .int .i64 4294967295] rfl MT ?_; (with_reducible refine (impl_in.calls a0 0 4294967295 t101 _ A2.out).mono ?_); rintro e w' ⟨rfl, ⟨nd, rfl⟩⟩; refine ⟨_, rfl, ?_⟩))
 go_ret
 exact ⟨by first | rfl | (simp; done) | (simp [*]; done), by repeat (first | exact Drawn0.refl _ | apply Drawn0.step)⟩
def impl_Block_size.f (a0_0 : Int) (a0_1 : Int) : Option (Int) := if 0 ≤ (wrap64 (32 - a0_1)) then (some (shl .i64 1 (wrap64 (32 - a0_1)))) else (none)
set_option maxHeartbeats 8000000 in
set_option maxRecDepth 100000 in
theorem impl_Block_size.calls (a0_0 : Int) (a0_1 : Int) (r : Int) (w : World) (h : impl_Block_size.f a0_0 a0_1 = some r) :
  Calls Try.prog 154 #[.agg #[.int .i64 a0_0, .int .i64 a0_1]] w fun e w' => e = .returned (.int .i64 r) ∧ Below w.heap.size w w' := by
 have hu139 := Try.underlying139
 have HB := am (Below.refl w.heap.size w)
 have H : (if 0 ≤ (wrap64 (32 - a0_1)) then (some (shl .i64 1 (wrap64 (32 - a0_1)))) else (none)) = some r := h
 clear h
 obtain ⟨ji2, hji2⟩ : ∃ j_ : Int, (wrap64 (32 - a0_1)) = j_ := ⟨_, rfl⟩
 replace H : (if 0 ≤ (ji2) then (some (shl .i64 1 (ji2))) else (none)) = some r := by first | (rw [hji2] at H; exact H) | (simp only [hji2] at H ⊢; exact H)
 have hji2w : (IntKind.i64.wrap (32 - a0_1)) = ji2 := (i64_w _).trans hji2
 by_cases c3 : 0 ≤ (ji2)
 ·rw [if_pos c3] at H
  have c3b0 := eq_true c3
  have c3b1 : decide (0 ≤ (ji2)) = true := decide_eq_true c3
  clear c3
  obtain ⟨ji4, hji4⟩ : ∃ j_ : Int, (shl .i64 1 (ji2)) = j_ := ⟨_, rfl⟩
  replace H : (some ji4) = some r := by first | (rw [hji4] at H; exact H) | (simp only [hji4] at H ⊢; exact H)
  have hji4_ : (IntKind.i64.wrap (1 * 2 ^ min (ji2).toNat 64)) = ji4 := hji4
  have hji4z : (ji2) ≤ 64 → (IntKind.i64.wrap (1 * 2 ^ (ji2).toNat)) = ji4 := shl_small hji4
  have hji4u : (IntKind.i64.wrap (2 ^ min (ji2).toNat 64)) = ji4 := by have h_ := hji4_; rw [Int.one_mul] at h_; exact h_
  have hji4v : (ji2) ≤ 64 → (IntKind.i64.wrap (2 ^ (ji2).toNat)) = ji4 := fun hle_ => by have h_ := hji4z hle_; rw [Int.one_mul] at h_; exact h_
  have hji4y : (wrap64 (1 * 2 ^ min (ji2).toNat 64)) = ji4 := (i64_w _).symm.trans hji4_
  have hji4x : (ji2) ≤ 64 → (wrap64 (1 * 2 ^ (ji2).toNat)) = ji4 := fun h_ => (i64_w _).symm.trans (hji4z h_)
  obtain rfl := Option.some.inj H
  go_enter Try.func154, Try.ntmps154
  go_wp2_with (first | ((with_reducible refine gate_dst (N := 1) rfl ?_); refine box_event rfl (N := 1) rfl (cs := #[.int .i64 a0_0, .int .i64 a0_1]) (t := 139) BX ?_; intro gb101 hg w5 hbox hb; have BK101 := am (hbox); have GW101 := am (GH HB hg); have GE101 := GW101; replace HB := am (below_step (KL HB) hb); clear hb hbox hg; obtain ⟨hcz6_0, hcz6_1, hfz6_0⟩ := y2 w5 BK101.out))
  go_ret
  exact ⟨by first | rfl | (simp [errW_none, errW_some] <;> rfl) | (simp only [← hji2, ← hji4]; first | rfl | (simp [errW_none, errW_some] <;> rfl)) | (simp [*, errW_none, errW_some] <;> rfl), K1 HB GE101.out⟩
 ·rw [if_neg c3] at H
  exact absurd H (by simp)
def impl_BlockOk.f (a0_0 : Int) (a0_1 : Int) : Option (Bool) := (impl_isAddr.f a0_0).bind fun t102 => (if t102 = true then ((impl_in.f a0_1 0 32).bind fun t103 => (if t103 = true then ((impl_Block_size.f a0_0 a0_1).bind fun t104 => (if t104 = 0 then (none) else (some ((Int.tmod a0_0 t104) == 0)))) else (some false))) else (some false))
def impl_BlockOk.T1 : Bool × List (List Nat × List Nat) := (true, [([], []), ([0], [0]), ([1], [1]), ([2, 2], [2]), ([3], [3]), ([4, 3], [3, 4]), ([5, 3, 3], [3, 5]), ([3, 6], [3, 6]), ([7, 6], [7]), ([8], [8]), ([9, 8], [8, 9]), ([8], [8]), ([11, 8, 8], [8, 11]), ([10, 12, 8], [8, 10, 12]), ([13, 8], [8, 13]), ([8, 14], [8, 14]), ([15, 12, 0, 1, 2, 3, 4, 5, 6, 7, 8, 9, 10, 11, 12, 13, 14, 15], [15])])
def impl_BlockOk.B1 : List Nat := [0, 1, 3, 7, 15, 31, 63, 127, 255, 511, 1023, 511, 2559, 8191, 16383, 32767, 65535]
theorem impl_BlockOk.tab1 : rtab .any (opsOf Try.f150 1) = impl_BlockOk.T1 := by kernel_rfl
theorem impl_BlockOk.bits1 : waitsOk impl_BlockOk.T1.2 impl_BlockOk.B1 = true := by kernel_rfl
set_option maxHeartbeats 8000000 in
set_option maxRecDepth 100000 in
theorem impl_BlockOk.calls (a0_0 : Int) (a0_1 : Int) (r : Bool) (w : World) (h : impl_BlockOk.f a0_0 a0_1 = some r) :
  Calls Try.prog 150 #[.agg #[.int .i64 a0_0, .int .i64 a0_1]] w fun e w' => e = .returned (.bool r) ∧ Below w.heap.size w w' := by
 have hu139 := Try.underlying139
 have HB := am (Below.refl w.heap.size w)
 have H : ((impl_isAddr.f a0_0).bind fun t102 => (if t102 = true then ((impl_in.f a0_1 0 32).bind fun t103 => (if t103 = true then ((impl_Block_size.f a0_0 a0_1).bind fun t104 => (if t104 = 0 then (none) else (some ((Int.tmod a0_0 t104) == 0)))) else (some false))) else (some false))) = some r := h
 clear h
 replace H := Option.bind_eq_some_iff.mp H
 obtain ⟨t102, A20, H⟩ := H
 replace H : (if t102 = true then ((impl_in.f a0_1 0 32).bind fun t103 => (if t103 = true then ((impl_Block_size.f a0_0 a0_1).bind fun t104 => (if t104 = 0 then (none) else (some ((Int.tmod a0_0 t104) == 0)))) else (some false))) else (some false)) = some r := H
 have A2 := Aside0.mk A20
 clear A20
 by_cases c3 : t102 = true
 ·subst c3
  have H1 : ((impl_in.f a0_1 0 32).bind fun t103 => (if t103 = true then ((impl_Block_size.f a0_0 a0_1).bind fun t104 => (if t104 = 0 then (none) else (some ((Int.tmod a0_0 t104) == 0)))) else (some false))) = some r := by rw [if_pos rfl] at H; exact H
  clear H
  have H := H1
  clear H1
  replace H := Option.bind_eq_some_iff.mp H
  obtain ⟨t103, A40, H⟩ := H
  replace H : (if t103 = true then ((impl_Block_size.f a0_0 a0_1).bind fun t104 => (if t104 = 0 then (none) else (some ((Int.tmod a0_0 t104) == 0)))) else (some false)) = some r := H
  have A4 := Aside0.mk A40
  clear A40
  by_cases c5 : t103 = true
  ·subst c5
   have H1 : ((impl_Block_size.f a0_0 a0_1).bind fun t104 => (if t104 = 0 then (none) else (some ((Int.tmod a0_0 t104) == 0)))) = some r := by rw [if_pos rfl] at H; exact H
   clear H
   have H := H1
   clear H1
   replace H := Option.bind_eq_some_iff.mp H
   obtain ⟨t104, A60, H⟩ := H
   replace H : (if t104 = 0 then (none) else (some ((Int.tmod a0_0 t104) == 0))) = some r := H
   have A6 := Aside0.mk A60
   clear A60
   by_cases c7 : t104 = 0
   ·rw [if_pos c7] at H
    exact absurd H (by simp)
   ·rw [if_neg c7] at H
    have c7b0 : (t104 == 0) = false := beq_eq_false_iff_ne.mpr c7
    have c7b1 : (t104 != 0) = true := bne_iff_ne.mpr c7
    obtain rfl := Option.some.inj H
    go_enter Try.func150, Try.ntmps150
    try go_wp2_with (first | ((with_reducible refine gate_dst (N := 1) rfl ?_); refine box_event rfl (N := 1) rfl (cs := #[.int .i64 a0_0, .int .i64 a0_1]) (t := 139) BX ?_; intro gb101 hg w8 hbox hb; have BK101 := am (hbox); have GW101 := am (GH HB hg); have GE101 := GW101; replace HB := am (below_step (KL HB) hb); clear hb hbox hg))
    replace BK101 := am (blk_drew BK101.out)
    replace HB := am (below_drew1 HB.out)
    refine start_ (n := 17) (S := fun w' => de2 w' gb101 (.int .i64 a0_0) (.int .i64 a0_1)) (ds := []) (tf 0 17) (by kernel_rfl) rfl rfl ⟨z0 _ BK101.out, z1 _ BK101.out⟩ (fun hHeld => ?_); refine with_tabW impl_BlockOk.tab1 impl_BlockOk.bits1 (fun HT_ HW_ => ?_)
    generalize w8.drew = w9 at BK101 HB hHeld ⊢
    refine pv HT_ 0 3 (tf 1 16) ?_
    refine tk 1 (some 4) (tf 2 15) (take_ofW HT_.out HW_.out (by kernel_rfl)) hHeld ?_
    refine one_ (i := 2) (N := some 5) (tf 3 14) rfl rfl (one_of HT_.out (by kernel_rfl)) (by decide) (fun K hK => ?_)
    refine goes_ Try.func137 (by kernel_rfl) rfl #[.int .i64 a0_0] (by rfl) rfl rfl MT ?_
    with_reducible refine (impl_isAddr.calls a0_0 true _ A2.out).mono ?_
    rintro e w' ⟨rfl, ⟨nd, rfl⟩⟩
    refine ⟨_, rfl, ?_⟩
    refine hK.out _ _ ⟨z0 _ BK101.out, z1 _ BK101.out⟩ (fun hHeld => ?_)
    clear hK K
    refine norm_ (a' := ?_) ?_ ?_
    rotate_left
    ·show Act.put _ (some 5) _ = _
     simp only [Act.put, List.setIfInBounds_toArray, List.set_cons_zero, List.set_cons_succ, i64_w, i32_w]
     rfl
    refine pv HT_ 3 6 (tf 4 13) ?_
    refine pv HT_ 4 7 (tf 5 12) ?_
    refine tk 5 (some 8) (tf 6 11) (take_ofW HT_.out HW_.out (by kernel_rfl)) hHeld ?_
    refine one_ (i := 6) (N := some 9) (tf 7 10) rfl rfl (one_of HT_.out (by kernel_rfl)) (by decide) (fun K hK => ?_)
    refine goes_ Try.func49 (by kernel_rfl) rfl #[.int .i64 a0_1, .int .i64 0, .int .i64 32] (by rfl) rfl rfl MT ?_
    with_reducible refine (impl_in.calls a0_1 0 32 true _ A4.out).mono ?_
    rintro e w' ⟨rfl, ⟨nd, rfl⟩⟩
    refine ⟨_, rfl, ?_⟩
    refine hK.out _ _ ⟨z0 _ BK101.out, z1 _ BK101.out⟩ (fun hHeld => ?_)
    clear hK K
    refine norm_ (a' := ?_) ?_ ?_
    rotate_left
    ·show Act.put _ (some 9) _ = _
     simp only [Act.put, List.setIfInBounds_toArray, List.set_cons_zero, List.set_cons_succ, i64_w, i32_w]
     rfl
    refine pv HT_ 7 10 (tf 8 9) ?_
    refine pv HT_ 8 11 (tf 9 8) ?_
    refine pv HT_ 9 12 (tf 10 7) ?_
    refine tk 10 (some 13) (tf 11 6) (take_ofW HT_.out HW_.out (by kernel_rfl)) hHeld ?_
    refine tk 11 (some 14) (tf 12 5) (take_ofW HT_.out HW_.out (by kernel_rfl)) hHeld ?_
    refine one_ (i := 12) (N := some 15) (tf 13 4) rfl rfl (one_of HT_.out (by kernel_rfl)) (by decide) (fun K hK => ?_)
    refine goes_ Try.func154 (by kernel_rfl) rfl #[.agg #[.int .i64 a0_0, .int .i64 a0_1]] (by rfl) rfl rfl MT ?_
    with_reducible refine (impl_Block_size.calls a0_0 a0_1 t104 _ A6.out).mono ?_
    rintro e w10 ⟨rfl, hb⟩
    refine ⟨_, rfl, ?_⟩
    replace BK101 := am (BB BK101 hb)
    replace HB := am (below_step (K1 HB GE101.out) hb)
    (try clear hb)
    (try clear hb2)
    (try clear hk)
    (try clear hi)
    refine hK.out _ _ ⟨z0 _ BK101.out, z1 _ BK101.out⟩ (fun hHeld => ?_)
    clear hK K
    refine norm_ (a' := ?_) ?_ ?_
    rotate_left
    ·show Act.put _ (some 15) _ = _
     simp only [Act.put, List.setIfInBounds_toArray, List.set_cons_zero, List.set_cons_succ, i64_w, i32_w]
     rfl
    refine pv HT_ 13 16 (tf 14 3) ?_
    refine pv HT_ 14 17 (tf 15 2) ?_
    refine pv HT_ 15 18 (tf 16 1) ?_
    refine pv HT_ 16 2 (tf 17 0) ?_
    refine done_ (done_of HT_.out (by kernel_rfl)) ?_
    try go_wp2
    go_ret
    exact ⟨ER, K1 HB GE101.out⟩
  ·replace c5 := Bool.eq_false_iff.mpr c5
   subst c5
   have H1 : (some false) = some r := by rw [if_neg (show ¬ (false = true) by decide)] at H; exact H
   clear H
   have H := H1
   clear H1
   obtain rfl := Option.some.inj H
   go_enter Try.func150, Try.ntmps150
   try go_wp2_with (first | ((with_reducible refine gate_dst (N := 1) rfl ?_); refine box_event rfl (N := 1) rfl (cs := #[.int .i64 a0_0, .int .i64 a0_1]) (t := 139) BX ?_; intro gb101 hg w11 hbox hb; have BK101 := am (hbox); have GW101 := am (GH HB hg); have GE101 := GW101; replace HB := am (below_step (KL HB) hb); clear hb hbox hg))
   replace BK101 := am (blk_drew BK101.out)
   replace HB := am (below_drew1 HB.out)
   refine start_ (n := 17) (S := fun w' => de2 w' gb101 (.int .i64 a0_0) (.int .i64 a0_1)) (ds := []) (tf 0 17) (by kernel_rfl) rfl rfl ⟨z0 _ BK101.out, z1 _ BK101.out⟩ (fun hHeld => ?_); refine with_tabW impl_BlockOk.tab1 impl_BlockOk.bits1 (fun HT_ HW_ => ?_)
   generalize w11.drew = w12 at BK101 HB hHeld ⊢
   refine pv HT_ 0 3 (tf 1 16) ?_
   refine tk 1 (some 4) (tf 2 15) (take_ofW HT_.out HW_.out (by kernel_rfl)) hHeld ?_
   refine one_ (i := 2) (N := some 5) (tf 3 14) rfl rfl (one_of HT_.out (by kernel_rfl)) (by decide) (fun K hK => ?_)
   refine goes_ Try.func137 (by kernel_rfl) rfl #[.int .i64 a0_0] (by rfl) rfl rfl MT ?_
   with_reducible refine (impl_isAddr.calls a0_0 true _ A2.out).mono ?_
   rintro e w' ⟨rfl, ⟨nd, rfl⟩⟩
   refine ⟨_, rfl, ?_⟩
   refine hK.out _ _ ⟨z0 _ BK101.out, z1 _ BK101.out⟩ (fun hHeld => ?_)
   clear hK K
   refine norm_ (a' := ?_) ?_ ?_
   rotate_left
   ·show Act.put _ (some 5) _ = _
    simp only [Act.put, List.setIfInBounds_toArray, List.set_cons_zero, List.set_cons_succ, i64_w, i32_w]
    rfl
   refine pv HT_ 3 6 (tf 4 13) ?_
   refine pv HT_ 4 7 (tf 5 12) ?_
   refine tk 5 (some 8) (tf 6 11) (take_ofW HT_.out HW_.out (by kernel_rfl)) hHeld ?_
   refine one_ (i := 6) (N := some 9) (tf 7 10) rfl rfl (one_of HT_.out (by kernel_rfl)) (by decide) (fun K hK => ?_)
   refine goes_ Try.func49 (by kernel_rfl) rfl #[.int .i64 a0_1, .int .i64 0, .int .i64 32] (by rfl) rfl rfl MT ?_
   with_reducible refine (impl_in.calls a0_1 0 32 false _ A4.out).mono ?_
   rintro e w' ⟨rfl, ⟨nd, rfl⟩⟩
   refine ⟨_, rfl, ?_⟩
   refine hK.out _ _ ⟨z0 _ BK101.out, z1 _ BK101.out⟩ (fun hHeld => ?_)
   clear hK K
   refine norm_ (a' := ?_) ?_ ?_
   rotate_left
   ·show Act.put _ (some 9) _ = _
    simp only [Act.put, List.setIfInBounds_toArray, List.set_cons_zero, List.set_cons_succ, i64_w, i32_w]
    rfl
   refine pv HT_ 7 10 (tf 8 9) ?_
   refine pv HT_ 8 11 (tf 9 8) ?_
   refine pw HT_ 9 12 (tf 10 7) ?_
   refine pw HT_ 10 13 (tf 11 6) ?_
   refine pw HT_ 11 14 (tf 12 5) ?_
   refine pw HT_ 12 15 (tf 13 4) ?_
   refine pw HT_ 13 16 (tf 14 3) ?_
   refine pw HT_ 14 17 (tf 15 2) ?_
   refine pv HT_ 15 18 (tf 16 1) ?_
   refine pv HT_ 16 2 (tf 17 0) ?_
   refine done_ (done_of HT_.out (by kernel_rfl)) ?_
   try go_wp2
   go_ret
   exact ⟨ER, K1 HB GE101.out⟩
 ·replace c3 := Bool.eq_false_iff.mpr c3
  subst c3
  have H1 : (some false) = some r := by rw [if_neg (show ¬ (false = true) by decide)] at H; exact H
  clear H
  have H := H1
  clear H1
  obtain rfl := Option.some.inj H
  go_enter Try.func150, Try.ntmps150
  try go_wp2_with (first | ((with_reducible refine gate_dst (N := 1) rfl ?_); refine box_event rfl (N := 1) rfl (cs := #[.int .i64 a0_0, .int .i64 a0_1]) (t := 139) BX ?_; intro gb101 hg w13 hbox hb; have BK101 := am (hbox); have GW101 := am (GH HB hg); have GE101 := GW101; replace HB := am (below_step (KL HB) hb); clear hb hbox hg))
  replace BK101 := am (blk_drew BK101.out)
  replace HB := am (below_drew1 HB.out)
  refine start_ (n := 17) (S := fun w' => de2 w' gb101 (.int .i64 a0_0) (.int .i64 a0_1)) (ds := []) (tf 0 17) (by kernel_rfl) rfl rfl ⟨z0 _ BK101.out, z1 _ BK101.out⟩ (fun hHeld => ?_); refine with_tabW impl_BlockOk.tab1 impl_BlockOk.bits1 (fun HT_ HW_ => ?_)
  generalize w13.drew = w14 at BK101 HB hHeld ⊢
  refine pv HT_ 0 3 (tf 1 16) ?_
  refine tk 1 (some 4) (tf 2 15) (take_ofW HT_.out HW_.out (by kernel_rfl)) hHeld ?_
  refine one_ (i := 2) (N := some 5) (tf 3 14) rfl rfl (one_of HT_.out (by kernel_rfl)) (by decide) (fun K hK => ?_)
  refine goes_ Try.func137 (by kernel_rfl) rfl #[.int .i64 a0_0] (by rfl) rfl rfl MT ?_
  with_reducible refine (impl_isAddr.calls a0_0 false _ A2.out).mono ?_
  rintro e w' ⟨rfl, ⟨nd, rfl⟩⟩
  refine ⟨_, rfl, ?_⟩
  refine hK.out _ _ ⟨z0 _ BK101.out, z1 _ BK101.out⟩ (fun hHeld => ?_)
  clear hK K
  refine norm_ (a' := ?_) ?_ ?_
  rotate_left
  ·show Act.put _ (some 5) _ = _
   simp only [Act.put, List.setIfInBounds_toArray, List.set_cons_zero, List.set_cons_succ, i64_w, i32_w]
   rfl
  refine pv HT_ 3 6 (tf 4 13) ?_
  refine pw HT_ 4 7 (tf 5 12) ?_
  refine pw HT_ 5 8 (tf 6 11) ?_
  refine pw HT_ 6 9 (tf 7 10) ?_
  refine pv HT_ 7 10 (tf 8 9) ?_
  refine pv HT_ 8 11 (tf 9 8) ?_
  refine pw HT_ 9 12 (tf 10 7) ?_
  refine pw HT_ 10 13 (tf 11 6) ?_
  refine pw HT_ 11 14 (tf 12 5) ?_
  refine pw HT_ 12 15 (tf 13 4) ?_
  refine pw HT_ 13 16 (tf 14 3) ?_
  refine pw HT_ 14 17 (tf 15 2) ?_
  refine pv HT_ 15 18 (tf 16 1) ?_
  refine pv HT_ 16 2 (tf 17 0) ?_
  refine done_ (done_of HT_.out (by kernel_rfl)) ?_
  try go_wp2
  go_ret
  exact ⟨ER, K1 HB GE101.out⟩
def impl_Rule_right.j0 : Nat → Bool → Int → Int → Int → Int → Int → Int → Int → Int → Option (Bool)
 | 0, _, _, _, _, _, _, _, _, _ => none
 | k + 1, x3, x102000, x102001, x102002, x102003, x102004, x102005, x102006, x102007 => (impl_BlockOk.f x102002 x102003).bind fun t103 => (if t103 = true then ((impl_BlockOk.f x102004 x102005).bind fun t104 => (if t104 = true then ((impl_in.f x102006 0 x102007).bind fun t105 => (if t105 = true then (if x102007 ≤ 65535 then ((impl_in.f x102000 0 2).bind fun t106 => (if t106 = true then (some x3) else (some false))) else (some false)) else (some false))) else (some false))) else (some false))
def impl_Rule_right.f (k : Nat) (a0_0 : Int) (a0_1 : Int) (a0_2 : Int) (a0_3 : Int) (a0_4 : Int) (a0_5 : Int) (a0_6 : Int) (a0_7 : Int) : Option (Bool) := if a0_1 = 0 then (impl_Rule_right.j0 k true a0_0 a0_1 a0_2 a0_3 a0_4 a0_5 a0_6 a0_7) else (if a0_0 = 2 then ((impl_in.f a0_1 0 3).bind fun t102 => (impl_Rule_right.j0 k t102 a0_0 a0_1 a0_2 a0_3 a0_4 a0_5 a0_6 a0_7)) else (impl_Rule_right.j0 k false a0_0 a0_1 a0_2 a0_3 a0_4 a0_5 a0_6 a0_7))
set_option maxHeartbeats 8000000 in
set_option maxRecDepth 100000 in
theorem impl_Rule_right.calls (k : Nat) (a0_0 : Int) (a0_1 : Int) (a0_2 : Int) (a0_3 : Int) (a0_4 : Int) (a0_5 : Int) (a0_6 : Int) (a0_7 : Int) (r : Bool) (w : World) (h : impl_Rule_right.f k a0_0 a0_1 a0_2 a0_3 a0_4 a0_5 a0_6 a0_7 = some r) :
  Calls Try.prog 136 #[.agg #[.int .i64 a0_0, .int .i64 a0_1, .int .i64 a0_2, .int .i64 a0_3, .int .i64 a0_4, .int .i64 a0_5, .int .i64 a0_6, .int .i64 a0_7]] w fun e w' => e = .returned (.bool r) ∧ Below w.heap.size w w' := by
 have hu141 := Try.underlying141
 have hu139 := Try.underlying139
 have HB := am (Below.refl w.heap.size w)
 have H : (if a0_1 = 0 then (impl_Rule_right.j0 k true a0_0 a0_1 a0_2 a0_3 a0_4 a0_5 a0_6 a0_7) else (if a0_0 = 2 then ((impl_in.f a0_1 0 3).bind fun t102 => (impl_Rule_right.j0 k t102 a0_0 a0_1 a0_2 a0_3 a0_4 a0_5 a0_6 a0_7)) else (impl_Rule_right.j0 k false a0_0 a0_1 a0_2 a0_3 a0_4 a0_5 a0_6 a0_7))) = some r := h
 clear h
 have HC2 := Aside0.mk H
 clear H
 go_enter Try.func136, Try.ntmps136
 go_upto_region 1 with (first | ((with_reducible refine gate_dst (N := 1) rfl ?_); refine box_event rfl (N := 1) rfl (cs := #[.int .i64 a0_0, .int .i64 a0_1, .int .i64 a0_2, .int .i64 a0_3, .int .i64 a0_4, .int .i64 a0_5, .int .i64 a0_6, .int .i64 a0_7]) (t := 141) BX ?_; intro gb101 hg w3 hbox hb; have BK101 := am (hbox); have GW101 := am (GH HB hg); have GE101 := GW101; replace HB := am (below_step (KL HB) hb); clear hb hbox hg))
 (try simp only [Act.put, List.setIfInBounds_toArray, List.set_cons_zero, List.set_cons_succ])
 go_cut [3] (fun v3 wc => ∃ (kq : Nat) (x3_1 : Bool), v3 = .bool x3_1 ∧ Aside0 (impl_Rule_right.j0 kq x3_1 a0_0 a0_1 a0_2 a0_3 a0_4 a0_5 a0_6 a0_7 = some r) ∧ Aside0 (kq ≤ k) ∧ Aside0 (wc.heap[gb101]? = some (.cells #[.int .i64 a0_0, .int .i64 a0_1, .int .i64 a0_2, .int .i64 a0_3, .int .i64 a0_4, .int .i64 a0_5, .int .i64 a0_6, .int .i64 a0_7] 141 (0, 0))) ∧ Aside0 (Below w.heap.size w wc))
 case first =>
  have H := HC2.out
  clear HC2
  by_cases c4 : a0_1 = 0
  ·rw [if_pos c4] at H
   have c4b0 : (a0_1 == 0) = true := beq_iff_eq.mpr c4
   have c4b1 : (a0_1 != 0) = false := bne_eq_false_iff_eq.mpr c4
   clear c4
   (first | rw [c4b0] | (simp only [i64_w, i32_w]; rw [c4b0]) | skip)
   have H' := Aside0.mk H
   clear H
   obtain ⟨hcz5_0, hcz5_1, hcz5_2, hcz5_3, hcz5_4, hcz5_5, hcz5_6, hcz5_7, hfz5_0⟩ := y8 w3 BK101.out
   go_wp2
   go_meet
   case rel => exact ⟨_, (true), (by first | rfl | (simp; done) | (simp [*]; done)), H', ⟨by first | omega | exact Nat.le_refl _⟩, ⟨KB BK101⟩, ⟨K1 HB GE101.out⟩⟩
  ·rw [if_neg c4] at H
   have c4b0 : (a0_1 == 0) = false := beq_eq_false_iff_ne.mpr c4
   have c4b1 : (a0_1 != 0) = true := bne_iff_ne.mpr c4
   (first | rw [c4b0] | (simp only [i64_w, i32_w]; rw [c4b0]) | skip)
   by_cases c6 : a0_0 = 2
   ·rw [if_pos c6] at H
    have c6b0 : (a0_0 == 2) = true := beq_iff_eq.mpr c6
    have c6b1 : (a0_0 != 2) = false := bne_eq_false_iff_eq.mpr c6
    clear c6
    replace H := Option.bind_eq_some_iff.mp H
    obtain ⟨t102, A70, H⟩ := H
    replace H : (impl_Rule_right.j0 k t102 a0_0 a0_1 a0_2 a0_3 a0_4 a0_5 a0_6 a0_7) = some r := H
    have A7 := Aside0.mk A70
    clear A70
    have H' := Aside0.mk H
    clear H
    obtain ⟨hcz8_0, hcz8_1, hcz8_2, hcz8_3, hcz8_4, hcz8_5, hcz8_6, hcz8_7, hfz8_0⟩ := y8 w3 BK101.out
    go_wp2_with (first | (go_at_call 49; (with_reducible refine (impl_in.calls a0_1 0 3 t102 _ A7.out).mono ?_); rintro e w' ⟨rfl, ⟨nd, rfl⟩⟩))
    go_meet
    case rel => exact ⟨_, (t102), (by first | rfl | (simp; done) | (simp [*]; done)), H', ⟨by first | omega | exact Nat.le_refl _⟩, ⟨KB BK101⟩, ⟨K1 HB GE101.out⟩⟩
   ·rw [if_neg c6] at H
    have c6b0 : (a0_0 == 2) = false := beq_eq_false_iff_ne.mpr c6
    have c6b1 : (a0_0 != 2) = true := bne_iff_ne.mpr c6
    have H' := Aside0.mk H
    clear H
    obtain ⟨hcz9_0, hcz9_1, hcz9_2, hcz9_3, hcz9_4, hcz9_5, hcz9_6, hcz9_7, hfz9_0⟩ := y8 w3 BK101.out
    go_wp2
    go_meet
    case rel => exact ⟨_, (false), (by first | rfl | (simp; done) | (simp [*]; done)), H', ⟨by first | omega | exact Nat.le_refl _⟩, ⟨KB BK101⟩, ⟨K1 HB GE101.out⟩⟩
 case rest =>
  clear HC2
  try clear c1
  try clear p2
  try clear c4
  try clear c4b0
  try clear c4b1
  try clear c6
  try clear c6b0
  try clear c6b1
  try clear hcz5_0 hcz5_1 hcz5_2 hcz5_3 hcz5_4 hcz5_5 hcz5_6 hcz5_7 hfz5_0
  try clear hcz8_0 hcz8_1 hcz8_2 hcz8_3 hcz8_4 hcz8_5 hcz8_6 hcz8_7 hfz8_0
  try clear hcz9_0 hcz9_1 hcz9_2 hcz9_3 hcz9_4 hcz9_5 hcz9_6 hcz9_7 hfz9_0
  obtain ⟨kq, x3_1, rfl, HA, HJ1, BK101, HB⟩ := hcut
  cases kq with
  | zero => exact absurd HA.out (by simp [impl_Rule_right.j0])
  | succ kj1 =>
   have H := HA.out
   clear HA
   simp only [impl_Rule_right.j0] at H
   replace H := Option.bind_eq_some_iff.mp H
   obtain ⟨t103, A100, H⟩ := H
   replace H : (if t103 = true then ((impl_BlockOk.f a0_4 a0_5).bind fun t104 => (if t104 = true then ((impl_in.f a0_6 0 a0_7).bind fun t105 => (if t105 = true then (if a0_7 ≤ 65535 then ((impl_in.f a0_0 0 2).bind fun t106 => (if t106 = true then (some x3_1) else (some false))) else (some false)) else (some false))) else (some false))) else (some false)) = some r := H
   have A10 := Aside0.mk A100
   clear A100
   by_cases c11 : t103 = true
   ·subst c11
    have H1 : ((impl_BlockOk.f a0_4 a0_5).bind fun t104 => (if t104 = true then ((impl_in.f a0_6 0 a0_7).bind fun t105 => (if t105 = true then (if a0_7 ≤ 65535 then ((impl_in.f a0_0 0 2).bind fun t106 => (if t106 = true then (some x3_1) else (some false))) else (some false)) else (some false))) else (some false))) = some r := by rw [if_pos rfl] at H; exact H
    clear H
    have H := H1
    clear H1
    replace H := Option.bind_eq_some_iff.mp H
    obtain ⟨t104, A120, H⟩ := H
    replace H : (if t104 = true then ((impl_in.f a0_6 0 a0_7).bind fun t105 => (if t105 = true then (if a0_7 ≤ 65535 then ((impl_in.f a0_0 0 2).bind fun t106 => (if t106 = true then (some x3_1) else (some false))) else (some false)) else (some false))) else (some false)) = some r := H
    have A12 := Aside0.mk A120
    clear A120
    by_cases c13 : t104 = true
    ·subst c13
     have H1 : ((impl_in.f a0_6 0 a0_7).bind fun t105 => (if t105 = true then (if a0_7 ≤ 65535 then ((impl_in.f a0_0 0 2).bind fun t106 => (if t106 = true then (some x3_1) else (some false))) else (some false)) else (some false))) = some r := by rw [if_pos rfl] at H; exact H
     clear H
     have H := H1
     clear H1
     replace H := Option.bind_eq_some_iff.mp H
     obtain ⟨t105, A140, H⟩ := H
     replace H : (if t105 = true then (if a0_7 ≤ 65535 then ((impl_in.f a0_0 0 2).bind fun t106 => (if t106 = true then (some x3_1) else (some false))) else (some false)) else (some false)) = some r := H
     have A14 := Aside0.mk A140
     clear A140
     by_cases c15 : t105 = true
     ·subst c15
      have H1 : (if a0_7 ≤ 65535 then ((impl_in.f a0_0 0 2).bind fun t106 => (if t106 = true then (some x3_1) else (some false))) else (some false)) = some r := by rw [if_pos rfl] at H; exact H
      clear H
      have H := H1
      clear H1
      by_cases c16 : a0_7 ≤ 65535
      ·rw [if_pos c16] at H
       have c16b0 : decide (a0_7 ≤ 65535) = true := decide_eq_true c16
       clear c16
       replace H := Option.bind_eq_some_iff.mp H
       obtain ⟨t106, A170, H⟩ := H
       replace H : (if t106 = true then (some x3_1) else (some false)) = some r := H
       have A17 := Aside0.mk A170
       clear A170
       by_cases c18 : t106 = true
       ·subst c18
        have H1 : (some x3_1) = some r := by rw [if_pos rfl] at H; exact H
        clear H
        have H := H1
        clear H1
        obtain rfl := Option.some.inj H
        obtain ⟨hcz19_0, hcz19_1, hcz19_2, hcz19_3, hcz19_4, hcz19_5, hcz19_6, hcz19_7, hfz19_0⟩ := y8 wc BK101.out
        go_wp2_with (first | ((with_reducible refine gate_callee (f := 150) rfl ?_); refine goesL_ (some 19) rfl rfl Try.func150 (by kernel_rfl) rfl #[.agg #[.int .i64 a0_2, .int .i64 a0_3]] rfl MT ?_; (with_reducible refine (impl_BlockOk.calls a0_2 a0_3 true _ A10.out).mono ?_); rintro e w20 ⟨rfl, hb⟩; refine ⟨_, rfl, ?_⟩; replace BK101 := am (BB BK101 hb); replace HB := am (below_step (K1 HB GE101.out) hb); (try clear hb); obtain ⟨hcz21_0, hcz21_1, hcz21_2, hcz21_3, hcz21_4, hcz21_5, hcz21_6, hcz21_7, hfz21_0⟩ := y8 w20 BK101.out) | (go_at_call 150; (with_reducible refine (impl_BlockOk.calls a0_4 a0_5 true _ A12.out).mono ?_); rintro e w22 ⟨rfl, hb⟩; replace BK101 := am (BB BK101 hb); replace HB := am (below_step (K1 HB GE101.out) hb); (try clear hb); obtain ⟨hcz23_0, hcz23_1, hcz23_2, hcz23_3, hcz23_4, hcz23_5, hcz23_6, hcz23_7, hfz23_0⟩ := y8 w22 BK101.out) | (go_at_call 49; (with_reducible refine (impl_in.calls a0_6 0 a0_7 true _ A14.out).mono ?_); rintro e w' ⟨rfl, ⟨nd, rfl⟩⟩) | (go_at_call 49; (with_reducible refine (impl_in.calls a0_0 0 2 true _ A17.out).mono ?_); rintro e w' ⟨rfl, ⟨nd, rfl⟩⟩))
        go_ret
        exact ⟨ER, K1 HB GE101.out⟩
       ·replace c18 := Bool.eq_false_iff.mpr c18
        subst c18
        have H1 : (some false) = some r := by rw [if_neg (show ¬ (false = true) by decide)] at H; exact H
        clear H
        have H := H1
        clear H1
        obtain rfl := Option.some.inj H
        obtain ⟨hcz24_0, hcz24_1, hcz24_2, hcz24_3, hcz24_4, hcz24_5, hcz24_6, hcz24_7, hfz24_0⟩ := y8 wc BK101.out
        go_wp2_with (first | ((with_reducible refine gate_callee (f := 150) rfl ?_); refine goesL_ (some 19) rfl rfl Try.func150 (by kernel_rfl) rfl #[.agg #[.int .i64 a0_2, .int .i64 a0_3]] rfl MT ?_; (with_reducible refine (impl_BlockOk.calls a0_2 a0_3 true _ A10.out).mono ?_); rintro e w25 ⟨rfl, hb⟩; refine ⟨_, rfl, ?_⟩; replace BK101 := am (BB BK101 hb); replace HB := am (below_step (K1 HB GE101.out) hb); (try clear hb); obtain ⟨hcz26_0, hcz26_1, hcz26_2, hcz26_3, hcz26_4, hcz26_5, hcz26_6, hcz26_7, hfz26_0⟩ := y8 w25 BK101.out) | (go_at_call 150; (with_reducible refine (impl_BlockOk.calls a0_4 a0_5 true _ A12.out).mono ?_); rintro e w27 ⟨rfl, hb⟩; replace BK101 := am (BB BK101 hb); replace HB := am (below_step (K1 HB GE101.out) hb); (try clear hb); obtain ⟨hcz28_0, hcz28_1, hcz28_2, hcz28_3, hcz28_4, hcz28_5, hcz28_6, hcz28_7, hfz28_0⟩ := y8 w27 BK101.out) | (go_at_call 49; (with_reducible refine (impl_in.calls a0_6 0 a0_7 true _ A14.out).mono ?_); rintro e w' ⟨rfl, ⟨nd, rfl⟩⟩) | (go_at_call 49; (with_reducible refine (impl_in.calls a0_0 0 2 false _ A17.out).mono ?_); rintro e w' ⟨rfl, ⟨nd, rfl⟩⟩))
        go_ret
        exact ⟨ER, K1 HB GE101.out⟩
      ·rw [if_neg c16] at H
       have c16b0 : decide (a0_7 ≤ 65535) = false := decide_eq_false c16
       clear c16
       obtain rfl := Option.some.inj H
       obtain ⟨hcz29_0, hcz29_1, hcz29_2, hcz29_3, hcz29_4, hcz29_5, hcz29_6, hcz29_7, hfz29_0⟩ := y8 wc BK101.out
       go_wp2_with (first | ((with_reducible refine gate_callee (f := 150) rfl ?_); refine goesL_ (some 19) rfl rfl Try.func150 (by kernel_rfl) rfl #[.agg #[.int .i64 a0_2, .int .i64 a0_3]] rfl MT ?_; (with_reducible refine (impl_BlockOk.calls a0_2 a0_3 true _ A10.out).mono ?_); rintro e w30 ⟨rfl, hb⟩; refine ⟨_, rfl, ?_⟩; replace BK101 := am (BB BK101 hb); replace HB := am (below_step (K1 HB GE101.out) hb); (try clear hb); obtain ⟨hcz31_0, hcz31_1, hcz31_2, hcz31_3, hcz31_4, hcz31_5, hcz31_6, hcz31_7, hfz31_0⟩ := y8 w30 BK101.out) | (go_at_call 150; (with_reducible refine (impl_BlockOk.calls a0_4 a0_5 true _ A12.out).mono ?_); rintro e w32 ⟨rfl, hb⟩; replace BK101 := am (BB BK101 hb); replace HB := am (below_step (K1 HB GE101.out) hb); (try clear hb); obtain ⟨hcz33_0, hcz33_1, hcz33_2, hcz33_3, hcz33_4, hcz33_5, hcz33_6, hcz33_7, hfz33_0⟩ := y8 w32 BK101.out) | (go_at_call 49; (with_reducible refine (impl_in.calls a0_6 0 a0_7 true _ A14.out).mono ?_); rintro e w' ⟨rfl, ⟨nd, rfl⟩⟩))
       go_ret
       exact ⟨ER, K1 HB GE101.out⟩
     ·replace c15 := Bool.eq_false_iff.mpr c15
      subst c15
      have H1 : (some false) = some r := by rw [if_neg (show ¬ (false = true) by decide)] at H; exact H
      clear H
      have H := H1
      clear H1
      obtain rfl := Option.some.inj H
      obtain ⟨hcz34_0, hcz34_1, hcz34_2, hcz34_3, hcz34_4, hcz34_5, hcz34_6, hcz34_7, hfz34_0⟩ := y8 wc BK101.out
      go_wp2_with (first | ((with_reducible refine gate_callee (f := 150) rfl ?_); refine goesL_ (some 19) rfl rfl Try.func150 (by kernel_rfl) rfl #[.agg #[.int .i64 a0_2, .int .i64 a0_3]] rfl MT ?_; (with_reducible refine (impl_BlockOk.calls a0_2 a0_3 true _ A10.out).mono ?_); rintro e w35 ⟨rfl, hb⟩; refine ⟨_, rfl, ?_⟩; replace BK101 := am (BB BK101 hb); replace HB := am (below_step (K1 HB GE101.out) hb); (try clear hb); obtain ⟨hcz36_0, hcz36_1, hcz36_2, hcz36_3, hcz36_4, hcz36_5, hcz36_6, hcz36_7, hfz36_0⟩ := y8 w35 BK101.out) | (go_at_call 150; (with_reducible refine (impl_BlockOk.calls a0_4 a0_5 true _ A12.out).mono ?_); rintro e w37 ⟨rfl, hb⟩; replace BK101 := am (BB BK101 hb); replace HB := am (below_step (K1 HB GE101.out) hb); (try clear hb); obtain ⟨hcz38_0, hcz38_1, hcz38_2, hcz38_3, hcz38_4, hcz38_5, hcz38_6, hcz38_7, hfz38_0⟩ := y8 w37 BK101.out) | (go_at_call 49; (with_reducible refine (impl_in.calls a0_6 0 a0_7 false _ A14.out).mono ?_); rintro e w' ⟨rfl, ⟨nd, rfl⟩⟩))
      go_ret
      exact ⟨ER, K1 HB GE101.out⟩
    ·replace c13 := Bool.eq_false_iff.mpr c13
     subst c13
     have H1 : (some false) = some r := by rw [if_neg (show ¬ (false = true) by decide)] at H; exact H
     clear H
     have H := H1
     clear H1
     obtain rfl := Option.some.inj H
     obtain ⟨hcz39_0, hcz39_1, hcz39_2, hcz39_3, hcz39_4, hcz39_5, hcz39_6, hcz39_7, hfz39_0⟩ := y8 wc BK101.out
     go_wp2_with (first | ((with_reducible refine gate_callee (f := 150) rfl ?_); refine goesL_ (some 19) rfl rfl Try.func150 (by kernel_rfl) rfl #[.agg #[.int .i64 a0_2, .int .i64 a0_3]] rfl MT ?_; (with_reducible refine (impl_BlockOk.calls a0_2 a0_3 true _ A10.out).mono ?_); rintro e w40 ⟨rfl, hb⟩; refine ⟨_, rfl, ?_⟩; replace BK101 := am (BB BK101 hb); replace HB := am (below_step (K1 HB GE101.out) hb); (try clear hb); obtain ⟨hcz41_0, hcz41_1, hcz41_2, hcz41_3, hcz41_4, hcz41_5, hcz41_6, hcz41_7, hfz41_0⟩ := y8 w40 BK101.out) | (go_at_call 150; (with_reducible refine (impl_BlockOk.calls a0_4 a0_5 false _ A12.out).mono ?_); rintro e w42 ⟨rfl, hb⟩; replace BK101 := am (BB BK101 hb); replace HB := am (below_step (K1 HB GE101.out) hb); (try clear hb)))
     go_ret
     exact ⟨ER, K1 HB GE101.out⟩
   ·replace c11 := Bool.eq_false_iff.mpr c11
    subst c11
    have H1 : (some false) = some r := by rw [if_neg (show ¬ (false = true) by decide)] at H; exact H
    clear H
    have H := H1
    clear H1
    obtain rfl := Option.some.inj H
    obtain ⟨hcz43_0, hcz43_1, hcz43_2, hcz43_3, hcz43_4, hcz43_5, hcz43_6, hcz43_7, hfz43_0⟩ := y8 wc BK101.out
    go_wp2_with (first | ((with_reducible refine gate_callee (f := 150) rfl ?_); refine goesL_ (some 19) rfl rfl Try.func150 (by kernel_rfl) rfl #[.agg #[.int .i64 a0_2, .int .i64 a0_3]] rfl MT ?_; (with_reducible refine (impl_BlockOk.calls a0_2 a0_3 false _ A10.out).mono ?_); rintro e w44 ⟨rfl, hb⟩; refine ⟨_, rfl, ?_⟩; replace BK101 := am (BB BK101 hb); replace HB := am (below_step (K1 HB GE101.out) hb); (try clear hb)))
    go_ret
    exact ⟨ER, K1 HB GE101.out⟩
def impl_isCall.f (a0_0 : Int) (a0_1 : Int) (a0_2 : Int) : Option (Bool) := (impl_isAddr.f a0_0).bind fun t102 => (if t102 = true then ((impl_isAddr.f a0_1).bind fun t103 => (if t103 = true then ((impl_in.f a0_2 0 65535).bind fun t104 => (some t104)) else (some false))) else (some false))
set_option maxHeartbeats 8000000 in
set_option maxRecDepth 100000 in
theorem impl_isCall.calls (a0_0 : Int) (a0_1 : Int) (a0_2 : Int) (r : Bool) (w : World) (h : impl_isCall.f a0_0 a0_1 a0_2 = some r) :
  Calls Try.prog 109 #[.agg #[.int .i64 a0_0, .int .i64 a0_1, .int .i64 a0_2]] w fun e w' => e = .returned (.bool r) ∧ Below w.heap.size w w' := by
 have hu107 := Try.underlying107
 have HB := am (Below.refl w.heap.size w)
 have H : ((impl_isAddr.f a0_0).bind fun t102 => (if t102 = true then ((impl_isAddr.f a0_1).bind fun t103 => (if t103 = true then ((impl_in.f a0_2 0 65535).bind fun t104 => (some t104)) else (some false))) else (some false))) = some r := h
 clear h
 replace H := Option.bind_eq_some_iff.mp H
 obtain ⟨t102, A20, H⟩ := H
 replace H : (if t102 = true then ((impl_isAddr.f a0_1).bind fun t103 => (if t103 = true then ((impl_in.f a0_2 0 65535).bind fun t104 => (some t104)) else (some false))) else (some false)) = some r := H
 have A2 := Aside0.mk A20
 clear A20
 by_cases c3 : t102 = true
 ·subst c3
  have H1 : ((impl_isAddr.f a0_1).bind fun t103 => (if t103 = true then ((impl_in.f a0_2 0 65535).bind fun t104 => (some t104)) else (some false))) = some r := by rw [if_pos rfl] at H; exact H
  clear H
  have H := H1
  clear H1
  replace H := Option.bind_eq_some_iff.mp H
  obtain ⟨t103, A40, H⟩ := H
  replace H : (if t103 = true then ((impl_in.f a0_2 0 65535).bind fun t104 => (some t104)) else (some false)) = some r := H
  have A4 := Aside0.mk A40
  clear A40
  by_cases c5 : t103 = true
  ·subst c5
   have H1 : ((impl_in.f a0_2 0 65535).bind fun t104 => (some t104)) = some r := by rw [if_pos rfl] at H; exact H
   clear H
   have H := H1
   clear H1
   replace H := Option.bind_eq_some_iff.mp H
   obtain ⟨t104, A60, H⟩ := H
   replace H : (some t104) = some r := H
   have A6 := Aside0.mk A60
   clear A60
   obtain rfl := Option.some.inj H
   go_enter Try.func109, Try.ntmps109
   go_wp2_with (first | ((with_reducible refine gate_dst (N := 1) rfl ?_); refine box_event rfl (N := 1) rfl (cs := #[.int .i64 a0_0, .int .i64 a0_1, .int .i64 a0_2]) (t := 107) BX ?_; intro gb101 hg w7 hbox hb; have BK101 := am (hbox); have GW101 := am (GH HB hg); have GE101 := GW101; replace HB := am (below_step (KL HB) hb); clear hb hbox hg; obtain ⟨hcz8_0, hcz8_1, hcz8_2, hfz8_0⟩ := y3 w7 BK101.out) | ((with_reducible refine gate_callee (f := 137) rfl ?_); refine goesL_ (some 5) rfl rfl Try.func137 (by kernel_rfl) rfl #[.int .i64 a0_0] rfl MT ?_; (with_reducible refine (impl_isAddr.calls a0_0 true _ A2.out).mono ?_); rintro e w' ⟨rfl, ⟨nd, rfl⟩⟩; refine ⟨_, rfl, ?_⟩) | (go_at_call 137; (with_reducible refine (impl_isAddr.calls a0_1 true _ A4.out).mono ?_); rintro e w' ⟨rfl, ⟨nd, rfl⟩⟩) | (go_at_call 49; (with_reducible refine (impl_in.calls a0_2 0 65535 t104 _ A6.out).mono ?_); rintro e w' ⟨rfl, ⟨nd, rfl⟩⟩))
   go_ret
   exact ⟨ER, K1 HB GE101.out⟩
  ·replace c5 := Bool.eq_false_iff.mpr c5
   subst c5
   have H1 : (some false) = some r := by rw [if_neg (show ¬ (false = true) by decide)] at H; exact H
   clear H
   have H := H1
   clear H1
   obtain rfl := Option.some.inj H
   go_enter Try.func109, Try.ntmps109
   go_wp2_with (first | ((with_reducible refine gate_dst (N := 1) rfl ?_); refine box_event rfl (N := 1) rfl (cs := #[.int .i64 a0_0, .int .i64 a0_1, .int .i64 a0_2]) (t := 107) BX ?_; intro gb101 hg w9 hbox hb; have BK101 := am (hbox); have GW101 := am (GH HB hg); have GE101 := GW101; replace HB := am (below_step (KL HB) hb); clear hb hbox hg; obtain ⟨hcz10_0, hcz10_1, hcz10_2, hfz10_0⟩ := y3 w9 BK101.out) | ((with_reducible refine gate_callee (f := 137) rfl ?_); refine goesL_ (some 5) rfl rfl Try.func137 (by kernel_rfl) rfl #[.int .i64 a0_0] rfl MT ?_; (with_reducible refine (impl_isAddr.calls a0_0 true _ A2.out).mono ?_); rintro e w' ⟨rfl, ⟨nd, rfl⟩⟩; refine ⟨_, rfl, ?_⟩) | (go_at_call 137; (with_reducible refine (impl_isAddr.calls a0_1 false _ A4.out).mono ?_); rintro e w' ⟨rfl, ⟨nd, rfl⟩⟩))
   go_ret
   exact ⟨ER, K1 HB GE101.out⟩
 ·replace c3 := Bool.eq_false_iff.mpr c3
  subst c3
  have H1 : (some false) = some r := by rw [if_neg (show ¬ (false = true) by decide)] at H; exact H
  clear H
  have H := H1
  clear H1
  obtain rfl := Option.some.inj H
  go_enter Try.func109, Try.ntmps109
  go_wp2_with (first | ((with_reducible refine gate_dst (N := 1) rfl ?_); refine box_event rfl (N := 1) rfl (cs := #[.int .i64 a0_0, .int .i64 a0_1, .int .i64 a0_2]) (t := 107) BX ?_; intro gb101 hg w11 hbox hb; have BK101 := am (hbox); have GW101 := am (GH HB hg); have GE101 := GW101; replace HB := am (below_step (KL HB) hb); clear hb hbox hg; obtain ⟨hcz12_0, hcz12_1, hcz12_2, hfz12_0⟩ := y3 w11 BK101.out) | ((with_reducible refine gate_callee (f := 137) rfl ?_); refine goesL_ (some 5) rfl rfl Try.func137 (by kernel_rfl) rfl #[.int .i64 a0_0] rfl MT ?_; (with_reducible refine (impl_isAddr.calls a0_0 false _ A2.out).mono ?_); rintro e w' ⟨rfl, ⟨nd, rfl⟩⟩; refine ⟨_, rfl, ?_⟩))
  go_ret
  exact ⟨ER, K1 HB GE101.out⟩
def impl_Block_last.f (a0_0 : Int) (a0_1 : Int) : Option (Int) := (impl_Block_size.f a0_0 a0_1).bind fun t102 => (some (wrap64 ((wrap64 (a0_0 + t102)) - 1)))
set_option maxHeartbeats 8000000 in
set_option maxRecDepth 100000 in
theorem impl_Block_last.calls (a0_0 : Int) (a0_1 : Int) (r : Int) (w : World) (h : impl_Block_last.f a0_0 a0_1 = some r) :
  Calls Try.prog 152 #[.agg #[.int .i64 a0_0, .int .i64 a0_1]] w fun e w' => e = .returned (.int .i64 r) ∧ Below w.heap.size w w' := by
 have hu139 := Try.underlying139
 have HB := am (Below.refl w.heap.size w)
 have H : ((impl_Block_size.f a0_0 a0_1).bind fun t102 => (some (wrap64 ((wrap64 (a0_0 + t102)) - 1)))) = some r := h
 clear h
 replace H := Option.bind_eq_some_iff.mp H
 obtain ⟨t102, A20, H⟩ := H
 replace H : (some (wrap64 ((wrap64 (a0_0 + t102)) - 1))) = some r := H
 have A2 := Aside0.mk A20
 clear A20
 obtain rfl := Option.some.inj H
 go_enter Try.func152, Try.ntmps152
 try go_wp2_with (first | ((with_reducible refine gate_dst (N := 1) rfl ?_); refine box_event rfl (N := 1) rfl (cs := #[.int .i64 a0_0, .int .i64 a0_1]) (t := 139) BX ?_; intro gb101 hg w3 hbox hb; have BK101 := am (hbox); have GW101 := am (GH HB hg); have GE101 := GW101; replace HB := am (below_step (KL HB) hb); clear hb hbox hg))
 replace BK101 := am (blk_drew BK101.out)
 replace HB := am (below_drew1 HB.out)
 refine start_ (n := 7) (S := fun w' => de2 w' gb101 (.int .i64 a0_0) (.int .i64 a0_1)) (ds := []) (tf 0 7) (by kernel_rfl) rfl rfl ⟨z0 _ BK101.out, z1 _ BK101.out⟩ (fun hHeld => ?_)
 generalize w3.drew = w4 at BK101 HB hHeld ⊢
 refine pure_ (i := 0) (N := some 3) (v := ?_) (a' := ?_) (tf 1 6) rfl rfl (by kernel_rfl) (fun _ _ _ h => h) (Or.inl ⟨by rfl, ?_⟩) ?_ ?_; rotate_left; (· intro w'; go_simp; with_reducible rfl); rotate_left; (· simp only [Act.put, List.setIfInBounds_toArray, List.set_cons_zero, List.set_cons_succ, i64_w, i32_w]; rfl)
 refine take_ (i := 1) (N := some 4) (v := ?_) (a' := ?_) (tf 2 5) rfl rfl (by kernel_rfl) (fun _ _ _ h => h) (Or.inl ⟨by rfl, ?_⟩) hHeld ?_ ?_
 rotate_left
 ·rintro w' ⟨s0, s1⟩
  go_simp
  with_reducible rfl
 rotate_left
 ·simp only [Act.put, List.setIfInBounds_toArray, List.set_cons_zero, List.set_cons_succ, i64_w, i32_w]
  rfl
 refine take_ (i := 2) (N := some 5) (v := ?_) (a' := ?_) (tf 3 4) rfl rfl (by kernel_rfl) (fun _ _ _ h => h) (Or.inl ⟨by rfl, ?_⟩) hHeld ?_ ?_
 rotate_left
 ·rintro w' ⟨s0, s1⟩
  go_simp
  with_reducible rfl
 rotate_left
 ·simp only [Act.put, List.setIfInBounds_toArray, List.set_cons_zero, List.set_cons_succ, i64_w, i32_w]
  rfl
 refine one_ (i := 3) (N := some 6) (tf 4 3) rfl rfl (by kernel_rfl) (by decide) (fun K hK => ?_)
 refine goes_ Try.func154 (by kernel_rfl) rfl #[.agg #[.int .i64 a0_0, .int .i64 a0_1]] (by rfl) rfl rfl MT ?_
 with_reducible refine (impl_Block_size.calls a0_0 a0_1 t102 _ A2.out).mono ?_
 rintro e w5 ⟨rfl, hb⟩
 refine ⟨_, rfl, ?_⟩
 replace BK101 := am (BB BK101 hb)
 replace HB := am (below_step (K1 HB GE101.out) hb)
 (try clear hb)
 (try clear hb2)
 (try clear hk)
 (try clear hi)
 refine hK.out _ _ ⟨z0 _ BK101.out, z1 _ BK101.out⟩ (fun hHeld => ?_)
 clear hK K
 refine norm_ (a' := ?_) ?_ ?_
 rotate_left
 ·show Act.put _ (some 6) _ = _
  simp only [Act.put, List.setIfInBounds_toArray, List.set_cons_zero, List.set_cons_succ, i64_w, i32_w]
  rfl
 refine pure_ (i := 4) (N := some 7) (v := ?_) (a' := ?_) (tf 5 2) rfl rfl (by kernel_rfl) (fun _ _ _ h => h) (Or.inl ⟨by rfl, ?_⟩) ?_ ?_; rotate_left; (· intro w'; go_simp; with_reducible rfl); rotate_left; (· simp only [Act.put, List.setIfInBounds_toArray, List.set_cons_zero, List.set_cons_succ, i64_w, i32_w]; rfl)
 refine pure_ (i := 5) (N := some 8) (v := ?_) (a' := ?_) (tf 6 1) rfl rfl (by kernel_rfl) (fun _ _ _ h => h) (Or.inl ⟨by rfl, ?_⟩) ?_ ?_; rotate_left; (· intro w'; go_simp; with_reducible rfl); rotate_left; (· simp only [Act.put, List.setIfInBounds_toArray, List.set_cons_zero, List.set_cons_succ, i64_w, i32_w]; rfl)
 refine pure_ (i := 6) (N := some 2) (v := ?_) (a' := ?_) (tf 7 0) rfl rfl (by kernel_rfl) (fun _ _ _ h => h) (Or.inl ⟨by rfl, ?_⟩) ?_ ?_; rotate_left; (· intro w'; go_simp; with_reducible rfl); rotate_left; (· simp only [Act.put, List.setIfInBounds_toArray, List.set_cons_zero, List.set_cons_succ, i64_w, i32_w]; rfl)
 refine done_ (by kernel_rfl) ?_
 try go_wp2
 go_ret
 exact ⟨ER, K1 HB GE101.out⟩
def impl_Block_has.f (a0_0 : Int) (a0_1 : Int) (a1 : Int) : Option (Bool) := (impl_Block_last.f a0_0 a0_1).bind fun t102 => ((impl_in.f a1 a0_0 t102).bind fun t103 => (some t103))
set_option maxHeartbeats 8000000 in
set_option maxRecDepth 100000 in
theorem impl_Block_has.calls (a0_0 : Int) (a0_1 : Int) (a1 : Int) (r : Bool) (w : World) (h : impl_Block_has.f a0_0 a0_1 a1 = some r) :
  Calls Try.prog 142 #[.agg #[.int .i64 a0_0, .int .i64 a0_1], .int .i64 a1] w fun e w' => e = .returned (.bool r) ∧ Below w.heap.size w w' := by
 have hu139 := Try.underlying139
 have HB := am (Below.refl w.heap.size w)
 have H : ((impl_Block_last.f a0_0 a0_1).bind fun t102 => ((impl_in.f a1 a0_0 t102).bind fun t103 => (some t103))) = some r := h
 clear h
 replace H := Option.bind_eq_some_iff.mp H
 obtain ⟨t102, A30, H⟩ := H
 replace H : ((impl_in.f a1 a0_0 t102).bind fun t103 => (some t103)) = some r := H
 have A3 := Aside0.mk A30
 clear A30
 replace H := Option.bind_eq_some_iff.mp H
 obtain ⟨t103, A40, H⟩ := H
 replace H : (some t103) = some r := H
 have A4 := Aside0.mk A40
 clear A40
 obtain rfl := Option.some.inj H
 go_enter Try.func142, Try.ntmps142
 try go_wp2_with (first | ((with_reducible refine gate_dst (N := 2) rfl ?_); refine box_event rfl (N := 2) rfl (cs := #[.int .i64 a0_0, .int .i64 a0_1]) (t := 139) BX ?_; intro gb101 hg w5 hbox hb; have BK101 := am (hbox); have GW101 := am (GH HB hg); have GE101 := GW101; replace HB := am (below_step (KL HB) hb); clear hb hbox hg))
 replace BK101 := am (blk_drew BK101.out)
 replace HB := am (below_drew1 HB.out)
 refine start_ (n := 7) (S := fun w' => de2 w' gb101 (.int .i64 a0_0) (.int .i64 a0_1)) (ds := []) (tf 0 7) (by kernel_rfl) rfl rfl ⟨z0 _ BK101.out, z1 _ BK101.out⟩ (fun hHeld => ?_)
 generalize w5.drew = w6 at BK101 HB hHeld ⊢
 refine pure_ (i := 0) (N := some 5) (v := ?_) (a' := ?_) (tf 1 6) rfl rfl (by kernel_rfl) (fun _ _ _ h => h) (Or.inl ⟨by rfl, ?_⟩) ?_ ?_; rotate_left; (· intro w'; go_simp; with_reducible rfl); rotate_left; (· simp only [Act.put, List.setIfInBounds_toArray, List.set_cons_zero, List.set_cons_succ, i64_w, i32_w]; rfl)
 refine pure_ (i := 1) (N := some 6) (v := ?_) (a' := ?_) (tf 2 5) rfl rfl (by kernel_rfl) (fun _ _ _ h => h) (Or.inl ⟨by rfl, ?_⟩) ?_ ?_; rotate_left; (· intro w'; go_simp; with_reducible rfl); rotate_left; (· simp only [Act.put, List.setIfInBounds_toArray, List.set_cons_zero, List.set_cons_succ, i64_w, i32_w]; rfl)
 refine take_ (i := 2) (N := some 7) (v := ?_) (a' := ?_) (tf 3 4) rfl rfl (by kernel_rfl) (fun _ _ _ h => h) (Or.inl ⟨by rfl, ?_⟩) hHeld ?_ ?_
 rotate_left
 ·rintro w' ⟨s0, s1⟩
  go_simp
  with_reducible rfl
 rotate_left
 ·simp only [Act.put, List.setIfInBounds_toArray, List.set_cons_zero, List.set_cons_succ, i64_w, i32_w]
  rfl
 refine take_ (i := 3) (N := some 8) (v := ?_) (a' := ?_) (tf 4 3) rfl rfl (by kernel_rfl) (fun _ _ _ h => h) (Or.inl ⟨by rfl, ?_⟩) hHeld ?_ ?_
 rotate_left
 ·rintro w' ⟨s0, s1⟩
  go_simp
  with_reducible rfl
 rotate_left
 ·simp only [Act.put, List.setIfInBounds_toArray, List.set_cons_zero, List.set_cons_succ, i64_w, i32_w]
  rfl
 refine one_ (i := 4) (N := some 9) (tf 5 2) rfl rfl (by kernel_rfl) (by decide) (fun K hK => ?_)
 refine goes_ Try.func152 (by kernel_rfl) rfl #[.agg #[.int .i64 a0_0, .int .i64 a0_1]] (by rfl) rfl rfl MT ?_
 with_reducible refine (impl_Block_last.calls a0_0 a0_1 t102 _ A3.out).mono ?_
 rintro e w7 ⟨rfl, hb⟩
 refine ⟨_, rfl, ?_⟩
 replace BK101 := am (BB BK101 hb)
 replace HB := am (below_step (K1 HB GE101.out) hb)
 (try clear hb)
 (try clear hb2)
 (try clear hk)
 (try clear hi)
 refine hK.out _ _ ⟨z0 _ BK101.out, z1 _ BK101.out⟩ (fun hHeld => ?_)
 clear hK K
 refine norm_ (a' := ?_) ?_ ?_
 rotate_left
 ·show Act.put _ (some 9) _ = _
  simp only [Act.put, List.setIfInBounds_toArray, List.set_cons_zero, List.set_cons_succ, i64_w, i32_w]
  rfl
 refine one_ (i := 5) (N := some 10) (tf 6 1) rfl rfl (by kernel_rfl) (by decide) (fun K hK => ?_)
 refine goes_ Try.func49 (by kernel_rfl) rfl #[.int .i64 a1, .int .i64 a0_0, .int .i64 t102] (by rfl) rfl rfl MT ?_
 with_reducible refine (impl_in.calls a1 a0_0 t102 t103 _ A4.out).mono ?_
 rintro e w' ⟨rfl, ⟨nd, rfl⟩⟩
 refine ⟨_, rfl, ?_⟩
 refine hK.out _ _ ⟨z0 _ BK101.out, z1 _ BK101.out⟩ (fun hHeld => ?_)
 clear hK K
 refine norm_ (a' := ?_) ?_ ?_
 rotate_left
 ·show Act.put _ (some 10) _ = _
  simp only [Act.put, List.setIfInBounds_toArray, List.set_cons_zero, List.set_cons_succ, i64_w, i32_w]
  rfl
 refine pure_ (i := 6) (N := some 4) (v := ?_) (a' := ?_) (tf 7 0) rfl rfl (by kernel_rfl) (fun _ _ _ h => h) (Or.inl ⟨by rfl, ?_⟩) ?_ ?_; rotate_left; (· intro w'; go_simp; with_reducible rfl); rotate_left; (· simp only [Act.put, List.setIfInBounds_toArray, List.set_cons_zero, List.set_cons_succ, i64_w, i32_w]; rfl)
 refine done_ (by kernel_rfl) ?_
 try go_wp2
 go_ret
 exact ⟨ER, K1 HB GE101.out⟩
def impl_Rule_matches.f (a0_0 : Int) (a0_1 : Int) (a0_2 : Int) (a0_3 : Int) (a0_4 : Int) (a0_5 : Int) (a0_6 : Int) (a0_7 : Int) (a1_0 : Int) (a1_1 : Int) (a1_2 : Int) : Option (Bool) := (impl_Block_has.f a0_2 a0_3 a1_0).bind fun t103 => (if t103 = true then ((impl_Block_has.f a0_4 a0_5 a1_1).bind fun t104 => (if t104 = true then ((impl_in.f a1_2 a0_6 a0_7).bind fun t105 => (some t105)) else (some false))) else (some false))
set_option maxHeartbeats 8000000 in
set_option maxRecDepth 100000 in
theorem impl_Rule_matches.calls (a0_0 : Int) (a0_1 : Int) (a0_2 : Int) (a0_3 : Int) (a0_4 : Int) (a0_5 : Int) (a0_6 : Int) (a0_7 : Int) (a1_0 : Int) (a1_1 : Int) (a1_2 : Int) (r : Bool) (w : World) (h : impl_Rule_matches.f a0_0 a0_1 a0_2 a0_3 a0_4 a0_5 a0_6 a0_7 a1_0 a1_1 a1_2 = some r) :
  Calls Try.prog 117 #[.agg #[.int .i64 a0_0, .int .i64 a0_1, .int .i64 a0_2, .int .i64 a0_3, .int .i64 a0_4, .int .i64 a0_5, .int .i64 a0_6, .int .i64 a0_7], .agg #[.int .i64 a1_0, .int .i64 a1_1, .int .i64 a1_2]] w fun e w' => e = .returned (.bool r) ∧ Below w.heap.size w w' := by
 have hu141 := Try.underlying141
 have hu107 := Try.underlying107
 have hu139 := Try.underlying139
 have HB := am (Below.refl w.heap.size w)
 have H : ((impl_Block_has.f a0_2 a0_3 a1_0).bind fun t103 => (if t103 = true then ((impl_Block_has.f a0_4 a0_5 a1_1).bind fun t104 => (if t104 = true then ((impl_in.f a1_2 a0_6 a0_7).bind fun t105 => (some t105)) else (some false))) else (some false))) = some r := h
 clear h
 replace H := Option.bind_eq_some_iff.mp H
 obtain ⟨t103, A30, H⟩ := H
 replace H : (if t103 = true then ((impl_Block_has.f a0_4 a0_5 a1_1).bind fun t104 => (if t104 = true then ((impl_in.f a1_2 a0_6 a0_7).bind fun t105 => (some t105)) else (some false))) else (some false)) = some r := H
 have A3 := Aside0.mk A30
 clear A30
 by_cases c4 : t103 = true
 ·subst c4
  have H1 : ((impl_Block_has.f a0_4 a0_5 a1_1).bind fun t104 => (if t104 = true then ((impl_in.f a1_2 a0_6 a0_7).bind fun t105 => (some t105)) else (some false))) = some r := by rw [if_pos rfl] at H; exact H
  clear H
  have H := H1
  clear H1
  replace H := Option.bind_eq_some_iff.mp H
  obtain ⟨t104, A50, H⟩ := H
  replace H : (if t104 = true then ((impl_in.f a1_2 a0_6 a0_7).bind fun t105 => (some t105)) else (some false)) = some r := H
  have A5 := Aside0.mk A50
  clear A50
  by_cases c6 : t104 = true
  ·subst c6
   have H1 : ((impl_in.f a1_2 a0_6 a0_7).bind fun t105 => (some t105)) = some r := by rw [if_pos rfl] at H; exact H
   clear H
   have H := H1
   clear H1
   replace H := Option.bind_eq_some_iff.mp H
   obtain ⟨t105, A70, H⟩ := H
   replace H : (some t105) = some r := H
   have A7 := Aside0.mk A70
   clear A70
   obtain rfl := Option.some.inj H
   go_enter Try.func117, Try.ntmps117
   go_wp2_with (first | ((with_reducible refine gate_dst (N := 2) rfl ?_); refine box_event rfl (N := 2) rfl (cs := #[.int .i64 a0_0, .int .i64 a0_1, .int .i64 a0_2, .int .i64 a0_3, .int .i64 a0_4, .int .i64 a0_5, .int .i64 a0_6, .int .i64 a0_7]) (t := 141) BX ?_; intro gb101 hg w8 hbox hb; have BK101 := am (hbox); have GW101 := am (GH HB hg); have GE101 := GW101; replace HB := am (below_step (KL HB) hb); clear hb hbox hg) | ((with_reducible refine gate_dst (N := 3) rfl ?_); refine box_event rfl (N := 3) rfl (cs := #[.int .i64 a1_0, .int .i64 a1_1, .int .i64 a1_2]) (t := 107) BX ?_; intro gb102 hg w9 hbox hb; have BK102 := am (hbox); have GW102 := am (GH1 HB GE101.out hg); have GE102 := GW102; replace HB := am (below_step (K1 HB GE101.out) hb); have NB101_102 := am (NL BK101 hg); have NB102_101 := am (NG BK101 hg); replace BK101 := am (BB BK101 hb); clear hb hbox hg; have hnb10 := NB101_102.out; have hnc10 := NB102_101.out; obtain ⟨hcz11_0, hcz11_1, hcz11_2, hcz11_3, hcz11_4, hcz11_5, hcz11_6, hcz11_7, hfz11_0⟩ := y8 w9 BK101.out; obtain ⟨hcz12_0, hcz12_1, hcz12_2, hfz12_0⟩ := y3 w9 BK102.out) | ((with_reducible refine gate_callee (f := 142) rfl ?_); refine goesL_ (some 9) rfl rfl Try.func142 (by kernel_rfl) rfl #[.agg #[.int .i64 a0_2, .int .i64 a0_3], .int .i64 a1_0] rfl MT ?_; (with_reducible refine (impl_Block_has.calls a0_2 a0_3 a1_0 true _ A3.out).mono ?_); rintro e w13 ⟨rfl, hb⟩; refine ⟨_, rfl, ?_⟩; replace BK101 := am (BB BK101 hb); replace BK102 := am (BB BK102 hb); replace HB := am (below_step (K2 HB GE101.out GE102.out) hb); (try clear hb); obtain ⟨hcz14_0, hcz14_1, hcz14_2, hcz14_3, hcz14_4, hcz14_5, hcz14_6, hcz14_7, hfz14_0⟩ := y8 w13 BK101.out; obtain ⟨hcz15_0, hcz15_1, hcz15_2, hfz15_0⟩ := y3 w13 BK102.out) | (go_at_call 142; (with_reducible refine (impl_Block_has.calls a0_4 a0_5 a1_1 true _ A5.out).mono ?_); rintro e w16 ⟨rfl, hb⟩; replace BK101 := am (BB BK101 hb); replace BK102 := am (BB BK102 hb); replace HB := am (below_step (K2 HB GE101.out GE102.out) hb); (try clear hb); obtain ⟨hcz17_0, hcz17_1, hcz17_2, hfz17_0⟩ := y3 w16 BK102.out; obtain ⟨hcz18_0, hcz18_1, hcz18_2, hcz18_3, hcz18_4, hcz18_5, hcz18_6, hcz18_7, hfz18_0⟩ := y8 w16 BK101.out) | (go_at_call 49; (with_reducible refine (impl_in.calls a1_2 a0_6 a0_7 t105 _ A7.out).mono ?_); rintro e w' ⟨rfl, ⟨nd, rfl⟩⟩))
   go_ret
   exact ⟨ER, K2 HB GE101.out GE102.out⟩
  ·replace c6 := Bool.eq_false_iff.mpr c6
   subst c6
   have H1 : (some false) = some r := by rw [if_neg (show ¬ (false = true) by decide)] at H; exact H
   clear H
   have H := H1
   clear H1
   obtain rfl := Option.some.inj H
   go_enter Try.func117, Try.ntmps117
   go_wp2_with (first | ((with_reducible refine gate_dst (N := 2) rfl ?_); refine box_event rfl (N := 2) rfl (cs := #[.int .i64 a0_0, .int .i64 a0_1, .int .i64 a0_2, .int .i64 a0_3, .int .i64 a0_4, .int .i64 a0_5, .int .i64 a0_6, .int .i64 a0_7]) (t := 141) BX ?_; intro gb101 hg w19 hbox hb; have BK101 := am (hbox); have GW101 := am (GH HB hg); have GE101 := GW101; replace HB := am (below_step (KL HB) hb); clear hb hbox hg) | ((with_reducible refine gate_dst (N := 3) rfl ?_); refine box_event rfl (N := 3) rfl (cs := #[.int .i64 a1_0, .int .i64 a1_1, .int .i64 a1_2]) (t := 107) BX ?_; intro gb102 hg w20 hbox hb; have BK102 := am (hbox); have GW102 := am (GH1 HB GE101.out hg); have GE102 := GW102; replace HB := am (below_step (K1 HB GE101.out) hb); have NB101_102 := am (NL BK101 hg); have NB102_101 := am (NG BK101 hg); replace BK101 := am (BB BK101 hb); clear hb hbox hg; have hnb21 := NB101_102.out; have hnc21 := NB102_101.out; obtain ⟨hcz22_0, hcz22_1, hcz22_2, hcz22_3, hcz22_4, hcz22_5, hcz22_6, hcz22_7, hfz22_0⟩ := y8 w20 BK101.out; obtain ⟨hcz23_0, hcz23_1, hcz23_2, hfz23_0⟩ := y3 w20 BK102.out) | ((with_reducible refine gate_callee (f := 142) rfl ?_); refine goesL_ (some 9) rfl rfl Try.func142 (by kernel_rfl) rfl #[.agg #[.int .i64 a0_2, .int .i64 a0_3], .int .i64 a1_0] rfl MT ?_; (with_reducible refine (impl_Block_has.calls a0_2 a0_3 a1_0 true _ A3.out).mono ?_); rintro e w24 ⟨rfl, hb⟩; refine ⟨_, rfl, ?_⟩; replace BK101 := am (BB BK101 hb); replace BK102 := am (BB BK102 hb); replace HB := am (below_step (K2 HB GE101.out GE102.out) hb); (try clear hb); obtain ⟨hcz25_0, hcz25_1, hcz25_2, hcz25_3, hcz25_4, hcz25_5, hcz25_6, hcz25_7, hfz25_0⟩ := y8 w24 BK101.out; obtain ⟨hcz26_0, hcz26_1, hcz26_2, hfz26_0⟩ := y3 w24 BK102.out) | (go_at_call 142; (with_reducible refine (impl_Block_has.calls a0_4 a0_5 a1_1 false _ A5.out).mono ?_); rintro e w27 ⟨rfl, hb⟩; replace BK101 := am (BB BK101 hb); replace BK102 := am (BB BK102 hb); replace HB := am (below_step (K2 HB GE101.out GE102.out) hb); (try clear hb)))
   go_ret
   exact ⟨ER, K2 HB GE101.out GE102.out⟩
 ·replace c4 := Bool.eq_false_iff.mpr c4
  subst c4
  have H1 : (some false) = some r := by rw [if_neg (show ¬ (false = true) by decide)] at H; exact H
  clear H
  have H := H1
  clear H1
  obtain rfl := Option.some.inj H
  go_enter Try.func117, Try.ntmps117
  go_wp2_with (first | ((with_reducible refine gate_dst (N := 2) rfl ?_); refine box_event rfl (N := 2) rfl (cs := #[.int .i64 a0_0, .int .i64 a0_1, .int .i64 a0_2, .int .i64 a0_3, .int .i64 a0_4, .int .i64 a0_5, .int .i64 a0_6, .int .i64 a0_7]) (t := 141) BX ?_; intro gb101 hg w28 hbox hb; have BK101 := am (hbox); have GW101 := am (GH HB hg); have GE101 := GW101; replace HB := am (below_step (KL HB) hb); clear hb hbox hg) | ((with_reducible refine gate_dst (N := 3) rfl ?_); refine box_event rfl (N := 3) rfl (cs := #[.int .i64 a1_0, .int .i64 a1_1, .int .i64 a1_2]) (t := 107) BX ?_; intro gb102 hg w29 hbox hb; have BK102 := am (hbox); have GW102 := am (GH1 HB GE101.out hg); have GE102 := GW102; replace HB := am (below_step (K1 HB GE101.out) hb); have NB101_102 := am (NL BK101 hg); have NB102_101 := am (NG BK101 hg); replace BK101 := am (BB BK101 hb); clear hb hbox hg; have hnb30 := NB101_102.out; have hnc30 := NB102_101.out; obtain ⟨hcz31_0, hcz31_1, hcz31_2, hcz31_3, hcz31_4, hcz31_5, hcz31_6, hcz31_7, hfz31_0⟩ := y8 w29 BK101.out; obtain ⟨hcz32_0, hcz32_1, hcz32_2, hfz32_0⟩ := y3 w29 BK102.out) | ((with_reducible refine gate_callee (f := 142) rfl ?_); refine goesL_ (some 9) rfl rfl Try.func142 (by kernel_rfl) rfl #[.agg #[.int .i64 a0_2, .int .i64 a0_3], .int .i64 a1_0] rfl MT ?_; (with_reducible refine (impl_Block_has.calls a0_2 a0_3 a1_0 false _ A3.out).mono ?_); rintro e w33 ⟨rfl, hb⟩; refine ⟨_, rfl, ?_⟩; replace BK101 := am (BB BK101 hb); replace BK102 := am (BB BK102 hb); replace HB := am (below_step (K2 HB GE101.out GE102.out) hb); (try clear hb)))
  go_ret
  exact ⟨ER, K2 HB GE101.out GE102.out⟩
def impl_WindowOk.l0 : Nat → List Int → Int → Int → Int → List Int → Option (Bool)
 | 0, _, _, _, _, _ => none
 | k + 1, x13, x14, x15, x102000, x102001 => if x15 < x14 then (if 0 ≤ x15 then (if x15 < (x13.length : Int) then (if (rd x13 x15) < 1 then (some false) else (if (rd x13 x15) ≤ (wrap64 (x102000 - 16)) then (some false) else (if x15 > 0 then (if 0 ≤ (wrap64 (x15 - 1)) then (if (wrap64 (x15 - 1)) < (x102001.length : Int) then (if (rd x13 x15) ≤ (rd x102001 (wrap64 (x15 - 1))) then (some false) else (impl_WindowOk.l0 k x13 x14 (wrap64 (x15 + 1)) x102000 x102001)) else (none)) else (none)) else (impl_WindowOk.l0 k x13 x14 (wrap64 (x15 + 1)) x102000 x102001)))) else (none)) else (none)) else (if 0 ≤ (wrap64 ((x102001.length : Int) - 1)) then (if (wrap64 ((x102001.length : Int) - 1)) < (x102001.length : Int) then (if (rd x102001 (wrap64 ((x102001.length : Int) - 1))) = x102000 then (some (decide (x102000 ≤ 1000000))) else (some false)) else (none)) else (none))
def impl_WindowOk.f (k : Nat) (a0_0 : Int) (l0_1 : List Int) : Option (Bool) := if (l0_1.length : Int) = 0 then (some (a0_0 == 0)) else (impl_WindowOk.l0 k l0_1 (l0_1.length : Int) 0 a0_0 l0_1)
set_option maxHeartbeats 8000000 in
set_option maxRecDepth 100000 in
theorem impl_WindowOk.calls (k : Nat) (a0_0 : Int) (A0_1 : Option Addr) (c0_1 : Nat) (l0_1 : List Int) (r : Bool) (w : World) (hr0_1 : Kd.C (Kd.int .i64) w A0_1 l0_1.length l0_1) (hc0_1 : l0_1.length ≤ c0_1) (h : impl_WindowOk.f k a0_0 l0_1 = some r) :
  Calls Try.prog 22 #[.agg #[.int .i64 a0_0, .slice A0_1 l0_1.length c0_1]] w fun e w' => e = .returned (.bool r) ∧ Below w.heap.size w w' := by
 have hu31 := Try.underlying31
 have HR0_1 := Aside0.mk hr0_1
 have HC0_1 := Aside0.mk hc0_1
 clear hr0_1 hc0_1
 have HB := am (Below.refl w.heap.size w)
 have H : (if (l0_1.length : Int) = 0 then (some (a0_0 == 0)) else (impl_WindowOk.l0 k l0_1 (l0_1.length : Int) 0 a0_0 l0_1)) = some r := h
 clear h
 by_cases c2 : (l0_1.length : Int) = 0
 ·rw [if_pos c2] at H
  have c2b0 : ((l0_1.length : Int) == 0) = true := beq_iff_eq.mpr c2
  have c2b1 : ((l0_1.length : Int) != 0) = false := bne_eq_false_iff_eq.mpr c2
  clear c2
  obtain rfl := Option.some.inj H
  go_enter Try.func22, Try.ntmps22
  go_wp2_with (first | ((with_reducible refine gate_dst (N := 1) rfl ?_); refine box_event rfl (N := 1) rfl (cs := #[.int .i64 a0_0, .slice A0_1 l0_1.length c0_1]) (t := 31) BX ?_; intro gb101 hg w3 hbox hb; have BK101 := am (hbox); have GW101 := am (GH HB hg); have GE101 := GW101; replace HB := am (below_step (KL HB) hb); clear hb hbox hg; obtain ⟨hcz4_0, hcz4_1, hfz4_0⟩ := y2 w3 BK101.out))
  repeat (go_quiet (first | ((with_reducible refine gate_dst (N := 1) rfl ?_); refine box_event rfl (N := 1) rfl (cs := #[.int .i64 a0_0, .slice A0_1 l0_1.length c0_1]) (t := 31) BX ?_; intro gb101 hg w3 hbox hb; have BK101 := am (hbox); have GW101 := am (GH HB hg); have GE101 := GW101; replace HB := am (below_step (KL HB) hb); clear hb hbox hg; obtain ⟨hcz4_0, hcz4_1, hfz4_0⟩ := y2 w3 BK101.out)); try go_wp2_with (first | ((with_reducible refine gate_dst (N := 1) rfl ?_); refine box_event rfl (N := 1) rfl (cs := #[.int .i64 a0_0, .slice A0_1 l0_1.length c0_1]) (t := 31) BX ?_; intro gb101 hg w3 hbox hb; have BK101 := am (hbox); have GW101 := am (GH HB hg); have GE101 := GW101; replace HB := am (below_step (KL HB) hb); clear hb hbox hg; obtain ⟨hcz4_0, hcz4_1, hfz4_0⟩ := y2 w3 BK101.out)))
  go_ret
  exact ⟨ER, K1 HB GE101.out⟩
 ·rw [if_neg c2] at H
  have c2b0 : ((l0_1.length : Int) == 0) = false := beq_eq_false_iff_ne.mpr c2
  have c2b1 : ((l0_1.length : Int) != 0) = true := bne_iff_ne.mpr c2
  have c2b2 : ¬ (l0_1 = []) := fun h_ => c2 (by rw [h_]; rfl)
  have H' := Aside0.mk H
  clear H
  go_enter Try.func22, Try.ntmps22
  go_wp2_with (first | ((with_reducible refine gate_dst (N := 1) rfl ?_); refine box_event rfl (N := 1) rfl (cs := #[.int .i64 a0_0, .slice A0_1 l0_1.length c0_1]) (t := 31) BX ?_; intro gb101 hg w5 hbox hb; have BK101 := am (hbox); have GW101 := am (GH HB hg); have GE101 := GW101; replace HB := am (below_step (KL HB) hb); clear hb hbox hg; obtain ⟨hcz6_0, hcz6_1, hfz6_0⟩ := y2 w5 BK101.out))
  repeat (go_quiet (first | ((with_reducible refine gate_dst (N := 1) rfl ?_); refine box_event rfl (N := 1) rfl (cs := #[.int .i64 a0_0, .slice A0_1 l0_1.length c0_1]) (t := 31) BX ?_; intro gb101 hg w5 hbox hb; have BK101 := am (hbox); have GW101 := am (GH HB hg); have GE101 := GW101; replace HB := am (below_step (KL HB) hb); clear hb hbox hg; obtain ⟨hcz6_0, hcz6_1, hfz6_0⟩ := y2 w5 BK101.out)); try go_wp2_with (first | ((with_reducible refine gate_dst (N := 1) rfl ?_); refine box_event rfl (N := 1) rfl (cs := #[.int .i64 a0_0, .slice A0_1 l0_1.length c0_1]) (t := 31) BX ?_; intro gb101 hg w5 hbox hb; have BK101 := am (hbox); have GW101 := am (GH HB hg); have GE101 := GW101; replace HB := am (below_step (KL HB) hb); clear hb hbox hg; obtain ⟨hcz6_0, hcz6_1, hfz6_0⟩ := y2 w5 BK101.out)))
  go_loopg [15] k (fun kq v15 w' => ∃ (x15_1 : Int), v15 = .int .i64 x15_1 ∧ Aside0 (impl_WindowOk.l0 kq l0_1 (l0_1.length : Int) x15_1 a0_0 l0_1 = some r) ∧ Aside0 (kq ≤ k) ∧ Aside0 (w'.heap[gb101]? = some (.cells #[.int .i64 a0_0, (.slice A0_1 l0_1.length c0_1)] 31 (0, 0))) ∧ Aside0 (Below w.heap.size w w'))
  case atStart => exact ⟨(0), (by first | rfl | (simp; done) | (simp [*]; done)), H', ⟨Nat.le_refl _⟩, ⟨KB BK101⟩, ⟨K1 HB GE101.out⟩⟩
  case round =>
   clear H'
   try clear c2
   try clear c2b0
   try clear c2b1
   try clear c2b2
   try clear p2
   try clear hcz4_0 hcz4_1 hfz4_0
   try clear hcz6_0 hcz6_1 hfz6_0
   obtain ⟨x15_1, rfl, HA, HK1, BK101, HB⟩ := hrel
   cases gk with
   | zero => exact absurd HA.out (by simp [impl_WindowOk.l0])
   | succ k1 =>
    have H := HA.out
    clear HA
    simp only [impl_WindowOk.l0] at H
    by_cases c7 : x15_1 < (l0_1.length : Int)
    ·rw [if_pos c7] at H
     have c7b0 : decide (x15_1 < (l0_1.length : Int)) = true := decide_eq_true c7
     clear c7
     by_cases c8 : 0 ≤ x15_1
     ·rw [if_pos c8] at H
      have c8b0 : decide (0 ≤ x15_1) = true := decide_eq_true c8
      clear c8
      by_cases c9 : x15_1 < (l0_1.length : Int)
      ·rw [if_pos c9] at H
       have c9b0 : decide (x15_1 < (l0_1.length : Int)) = true := decide_eq_true c9
       clear c9
       by_cases c10 : (rd l0_1 x15_1) < 1
       ·rw [if_pos c10] at H
        have c10b0 : decide ((rd l0_1 x15_1) < 1) = true := decide_eq_true c10
        clear c10
        obtain rfl := Option.some.inj H
        have p102 : 0 ≤ (x15_1 : Int) := OD
        have q102 : x15_1 < (l0_1.length : Int) := OD
        obtain ⟨ad102, e102, hx102_0⟩ := Kd.at_int HR0_1.out x15_1 p102 q102
        cases e102
        replace hx102_0 := CX HB.out hx102_0
        replace p102 := eq_true p102
        replace q102 := eq_true q102
        go_wp2
        repeat (go_quiet (fail); try go_wp2)
        go_ret
        exact ⟨ER, K1 HB GE101.out⟩
       ·rw [if_neg c10] at H
        have c10b0 : decide ((rd l0_1 x15_1) < 1) = false := decide_eq_false c10
        clear c10
        by_cases c11 : (rd l0_1 x15_1) ≤ (wrap64 (a0_0 - 16))
        ·rw [if_pos c11] at H
         have c11b0 : decide ((rd l0_1 x15_1) ≤ (wrap64 (a0_0 - 16))) = true := decide_eq_true c11
         clear c11
         obtain rfl := Option.some.inj H
         have p102 : 0 ≤ (x15_1 : Int) := OD
         have q102 : x15_1 < (l0_1.length : Int) := OD
         obtain ⟨ad102, e102, hx102_0⟩ := Kd.at_int HR0_1.out x15_1 p102 q102
         cases e102
         replace hx102_0 := CX HB.out hx102_0
         replace p102 := eq_true p102
         replace q102 := eq_true q102
         obtain ⟨hcz12_0, hcz12_1, hfz12_0⟩ := y2 wr BK101.out
         go_wp2
         repeat (go_quiet (fail); try go_wp2)
         go_ret
         exact ⟨ER, K1 HB GE101.out⟩
        ·rw [if_neg c11] at H
         have c11b0 : decide ((rd l0_1 x15_1) ≤ (wrap64 (a0_0 - 16))) = false := decide_eq_false c11
         clear c11
         by_cases c13 : x15_1 > 0
         ·rw [if_pos c13] at H
          have c13b0 : decide (0 < x15_1) = true := decide_eq_true c13
          clear c13
          obtain ⟨ji14, hji14⟩ : ∃ j_ : Int, (wrap64 (x15_1 - 1)) = j_ := ⟨_, rfl⟩
          replace H : (if 0 ≤ (ji14) then (if (ji14) < (l0_1.length : Int) then (if (rd l0_1 x15_1) ≤ (rd l0_1 (ji14)) then (some false) else (impl_WindowOk.l0 k1 l0_1 (l0_1.length : Int) (wrap64 (x15_1 + 1)) a0_0 l0_1)) else (none)) else (none)) = some r := by first | (rw [hji14] at H; exact H) | (simp only [hji14] at H ⊢; exact H)
          have hji14w : (IntKind.i64.wrap (x15_1 - 1)) = ji14 := (i64_w _).trans hji14
          by_cases c15 : 0 ≤ (ji14)
          ·rw [if_pos c15] at H
           have c15b0 : decide (0 ≤ (ji14)) = true := decide_eq_true c15
           clear c15
           by_cases c16 : (ji14) < (l0_1.length : Int)
           ·rw [if_pos c16] at H
            have c16b0 : decide ((ji14) < (l0_1.length : Int)) = true := decide_eq_true c16
            clear c16
            by_cases c17 : (rd l0_1 x15_1) ≤ (rd l0_1 (ji14))
            ·rw [if_pos c17] at H
             have c17b0 : decide ((rd l0_1 x15_1) ≤ (rd l0_1 (ji14))) = true := decide_eq_true c17
             clear c17
             obtain rfl := Option.some.inj H
             have p102 : 0 ≤ (x15_1 : Int) := OD
             have q102 : x15_1 < (l0_1.length : Int) := OD
             obtain ⟨ad102, e102, hx102_0⟩ := Kd.at_int HR0_1.out x15_1 p102 q102
             cases e102
             replace hx102_0 := CX HB.out hx102_0
             replace p102 := eq_true p102
             replace q102 := eq_true q102
             obtain ⟨hcz18_0, hcz18_1, hfz18_0⟩ := y2 wr BK101.out
             have p103 : 0 ≤ ((ji14) : Int) := OD
             have q103 : (ji14) < (l0_1.length : Int) := OD
             obtain ⟨ad103, e103, hx103_0⟩ := Kd.at_int HR0_1.out (ji14) p103 q103
             obtain rfl : ad102 = ad103 := (by injection e103)
             replace hx103_0 := CX HB.out hx103_0
             replace p103 := eq_true p103
             replace q103 := eq_true q103
             go_wp2
             repeat (go_quiet (fail); try go_wp2)
             go_ret
             exact ⟨by first | rfl | (simp [errW_none, errW_some] <;> rfl) | (simp only [← hji14]; first | rfl | (simp [errW_none, errW_some] <;> rfl)) | (simp [*, errW_none, errW_some] <;> rfl), K1 HB GE101.out⟩
            ·rw [if_neg c17] at H
             have c17b0 : decide ((rd l0_1 x15_1) ≤ (rd l0_1 (ji14))) = false := decide_eq_false c17
             clear c17
             have H' := Aside0.mk H
             clear H
             have p102 : 0 ≤ (x15_1 : Int) := OD
             have q102 : x15_1 < (l0_1.length : Int) := OD
             obtain ⟨ad102, e102, hx102_0⟩ := Kd.at_int HR0_1.out x15_1 p102 q102
             cases e102
             replace hx102_0 := CX HB.out hx102_0
             replace p102 := eq_true p102
             replace q102 := eq_true q102
             obtain ⟨hcz19_0, hcz19_1, hfz19_0⟩ := y2 wr BK101.out
             have p103 : 0 ≤ ((ji14) : Int) := OD
             have q103 : (ji14) < (l0_1.length : Int) := OD
             obtain ⟨ad103, e103, hx103_0⟩ := Kd.at_int HR0_1.out (ji14) p103 q103
             obtain rfl : ad102 = ad103 := (by injection e103)
             replace hx103_0 := CX HB.out hx103_0
             replace p103 := eq_true p103
             replace q103 := eq_true q103
             go_wp2
             repeat (go_quiet (fail); try go_wp2)
             go_roundg k1
             case measure => have := HK1.out; omega
             case rel => exact ⟨(wrap64 (x15_1 + 1)), (by first | rfl | (simp; done) | (simp [*]; done)), H', ⟨by have := HK1.out; omega⟩, ⟨KB BK101⟩, ⟨K1 HB GE101.out⟩⟩
           ·rw [if_neg c16] at H
            exact absurd H (by simp)
          ·rw [if_neg c15] at H
           exact absurd H (by simp)
         ·rw [if_neg c13] at H
          have c13b0 : decide (0 < x15_1) = false := decide_eq_false c13
          clear c13
          have H' := Aside0.mk H
          clear H
          have p102 : 0 ≤ (x15_1 : Int) := OD
          have q102 : x15_1 < (l0_1.length : Int) := OD
          obtain ⟨ad102, e102, hx102_0⟩ := Kd.at_int HR0_1.out x15_1 p102 q102
          cases e102
          replace hx102_0 := CX HB.out hx102_0
          replace p102 := eq_true p102
          replace q102 := eq_true q102
          obtain ⟨hcz20_0, hcz20_1, hfz20_0⟩ := y2 wr BK101.out
          go_wp2
          repeat (go_quiet (fail); try go_wp2)
          go_roundg k1
          case measure => have := HK1.out; omega
          case rel => exact ⟨(wrap64 (x15_1 + 1)), (by first | rfl | (simp; done) | (simp [*]; done)), H', ⟨by have := HK1.out; omega⟩, ⟨KB BK101⟩, ⟨K1 HB GE101.out⟩⟩
      ·rw [if_neg c9] at H
       exact absurd H (by simp)
     ·rw [if_neg c8] at H
      exact absurd H (by simp)
    ·rw [if_neg c7] at H
     have c7b0 : decide (x15_1 < (l0_1.length : Int)) = false := decide_eq_false c7
     clear c7
     obtain ⟨ji21, hji21⟩ : ∃ j_ : Int, (wrap64 ((l0_1.length : Int) - 1)) = j_ := ⟨_, rfl⟩
     replace H : (if 0 ≤ (ji21) then (if (ji21) < (l0_1.length : Int) then (if (rd l0_1 (ji21)) = a0_0 then (some (decide (a0_0 ≤ 1000000))) else (some false)) else (none)) else (none)) = some r := by first | (rw [hji21] at H; exact H) | (simp only [hji21] at H ⊢; exact H)
     have hji21w : (IntKind.i64.wrap ((l0_1.length : Int) - 1)) = ji21 := (i64_w _).trans hji21
     by_cases c22 : 0 ≤ (ji21)
     ·rw [if_pos c22] at H
      have c22b0 : decide (0 ≤ (ji21)) = true := decide_eq_true c22
      clear c22
      by_cases c23 : (ji21) < (l0_1.length : Int)
      ·rw [if_pos c23] at H
       have c23b0 : decide ((ji21) < (l0_1.length : Int)) = true := decide_eq_true c23
       clear c23
       by_cases c24 : (rd l0_1 (ji21)) = a0_0
       ·rw [if_pos c24] at H
        have c24b0 : ((rd l0_1 (ji21)) == a0_0) = true := beq_iff_eq.mpr c24
        have c24b1 : ((rd l0_1 (ji21)) != a0_0) = false := bne_eq_false_iff_eq.mpr c24
        clear c24
        obtain rfl := Option.some.inj H
        obtain ⟨hcz25_0, hcz25_1, hfz25_0⟩ := y2 wr BK101.out
        have p104 : 0 ≤ ((ji21) : Int) := OD
        have q104 : (ji21) < (l0_1.length : Int) := OD
        obtain ⟨ad104, e104, hx104_0⟩ := Kd.at_int HR0_1.out (ji21) p104 q104
        cases e104
        replace hx104_0 := CX HB.out hx104_0
        replace p104 := eq_true p104
        replace q104 := eq_true q104
        go_wp2
        repeat (go_quiet (fail); try go_wp2)
        go_ret
        exact ⟨by first | rfl | (simp [errW_none, errW_some] <;> rfl) | (simp only [← hji21]; first | rfl | (simp [errW_none, errW_some] <;> rfl)) | (simp [*, errW_none, errW_some] <;> rfl), K1 HB GE101.out⟩
       ·rw [if_neg c24] at H
        have c24b0 : ((rd l0_1 (ji21)) == a0_0) = false := beq_eq_false_iff_ne.mpr c24
        have c24b1 : ((rd l0_1 (ji21)) != a0_0) = true := bne_iff_ne.mpr c24
        obtain rfl := Option.some.inj H
        obtain ⟨hcz26_0, hcz26_1, hfz26_0⟩ := y2 wr BK101.out
        have p104 : 0 ≤ ((ji21) : Int) := OD
        have q104 : (ji21) < (l0_1.length : Int) := OD
        obtain ⟨ad104, e104, hx104_0⟩ := Kd.at_int HR0_1.out (ji21) p104 q104
        cases e104
        replace hx104_0 := CX HB.out hx104_0
        replace p104 := eq_true p104
        replace q104 := eq_true q104
        go_wp2
        repeat (go_quiet (fail); try go_wp2)
        go_ret
        exact ⟨by first | rfl | (simp [errW_none, errW_some] <;> rfl) | (simp only [← hji21]; first | rfl | (simp [errW_none, errW_some] <;> rfl)) | (simp [*, errW_none, errW_some] <;> rfl), K1 HB GE101.out⟩
      ·rw [if_neg c23] at H
       exact absurd H (by simp)
     ·rw [if_neg c22] at H
      exact absurd H (by simp)
def impl_SaOk.j0 : Nat → Bool → Int → Int → ByteArray → ByteArray → Int → Int → Int → Int → Int → Int → List Int → Option (Bool)
 | 0, _, _, _, _, _, _, _, _, _, _, _, _ => none
 | k + 1, x3, x102000, x102001, x102002, x102003, x102004, x102005, x102006, x102007, x102008, x102009, x102010 => (impl_in.f x102004 0 1000000).bind fun t105 => (if t105 = true then ((impl_in.f x102006 1 1000000).bind fun t106 => (if t106 = true then ((impl_in.f x102005 1 x102006).bind fun t107 => (if t107 = true then ((impl_in.f x102007 1 1000000).bind fun t108 => (if x3 = true then (if t108 = true then ((impl_in.f x102008 0 x102006).bind fun t109 => (if t109 = true then ((impl_WindowOk.f k x102009 x102010).bind fun t110 => (some t110)) else (some false))) else (some false)) else (some false))) else (if x3 = true then (some false) else (some false)))) else (if x3 = true then (some false) else (some false)))) else (if x3 = true then (some false) else (some false)))
def impl_SaOk.f (k : Nat) (a0_0 : Int) (a0_1 : Int) (a0_2 : ByteArray) (a0_3 : ByteArray) (a0_4 : Int) (a0_5 : Int) (a0_6 : Int) (a0_7 : Int) (a0_8 : Int) (a0_9 : Int) (l0_10 : List Int) : Option (Bool) := (impl_in.f a0_0 1 999).bind fun t102 => (if t102 = true then ((impl_in.f a0_1 0 3).bind fun t103 => (if t103 = true then ((impl_keysOk.f a0_2 a0_3).bind fun t104 => (impl_SaOk.j0 k t104 a0_0 a0_1 a0_2 a0_3 a0_4 a0_5 a0_6 a0_7 a0_8 a0_9 l0_10)) else (impl_SaOk.j0 k false a0_0 a0_1 a0_2 a0_3 a0_4 a0_5 a0_6 a0_7 a0_8 a0_9 l0_10))) else (impl_SaOk.j0 k false a0_0 a0_1 a0_2 a0_3 a0_4 a0_5 a0_6 a0_7 a0_8 a0_9 l0_10))
set_option maxHeartbeats 8000000 in
set_option maxRecDepth 100000 in
theorem impl_SaOk.calls (k : Nat) (a0_0 : Int) (a0_1 : Int) (a0_2 : ByteArray) (a0_3 : ByteArray) (a0_4 : Int) (a0_5 : Int) (a0_6 : Int) (a0_7 : Int) (a0_8 : Int) (a0_9 : Int) (A0_10 : Option Addr) (c0_10 : Nat) (l0_10 : List Int) (r : Bool) (w : World) (hr0_10 : Kd.C (Kd.int .i64) w A0_10 l0_10.length l0_10) (hc0_10 : l0_10.length ≤ c0_10) (h : impl_SaOk.f k a0_0 a0_1 a0_2 a0_3 a0_4 a0_5 a0_6 a0_7 a0_8 a0_9 l0_10 = some r) :
  Calls Try.prog 111 #[.agg #[.int .i64 a0_0, .int .i64 a0_1, .string a0_2, .string a0_3, .int .i64 a0_4, .int .i64 a0_5, .int .i64 a0_6, .int .i64 a0_7, .int .i64 a0_8, .int .i64 a0_9, .slice A0_10 l0_10.length c0_10]] w fun e w' => e = .returned (.bool r) ∧ Below w.heap.size w w' := by
 have hu95 := Try.underlying95
 have hu31 := Try.underlying31
 have HR0_10 := Aside0.mk hr0_10
 have HC0_10 := Aside0.mk hc0_10
 clear hr0_10 hc0_10
 have HB := am (Below.refl w.heap.size w)
 have H : ((impl_in.f a0_0 1 999).bind fun t102 => (if t102 = true then ((impl_in.f a0_1 0 3).bind fun t103 => (if t103 = true then ((impl_keysOk.f a0_2 a0_3).bind fun t104 => (impl_SaOk.j0 k t104 a0_0 a0_1 a0_2 a0_3 a0_4 a0_5 a0_6 a0_7 a0_8 a0_9 l0_10)) else (impl_SaOk.j0 k false a0_0 a0_1 a0_2 a0_3 a0_4 a0_5 a0_6 a0_7 a0_8 a0_9 l0_10))) else (impl_SaOk.j0 k false a0_0 a0_1 a0_2 a0_3 a0_4 a0_5 a0_6 a0_7 a0_8 a0_9 l0_10))) = some r := h
 clear h
 have HC2 := Aside0.mk H
 clear H
 go_enter Try.func111, Try.ntmps111
 go_upto_region 1 with (first | ((with_reducible refine gate_dst (N := 1) rfl ?_); refine box_event rfl (N := 1) rfl (cs := #[.int .i64 a0_0, .int .i64 a0_1, .string a0_2, .string a0_3, .int .i64 a0_4, .int .i64 a0_5, .int .i64 a0_6, .int .i64 a0_7, .int .i64 a0_8, .int .i64 a0_9, .slice A0_10 l0_10.length c0_10]) (t := 95) BX ?_; intro gb101 hg w3 hbox hb; have BK101 := am (hbox); have GW101 := am (GH HB hg); have GE101 := GW101; replace HB := am (below_step (KL HB) hb); clear hb hbox hg))
 (try simp only [Act.put, List.setIfInBounds_toArray, List.set_cons_zero, List.set_cons_succ])
 go_cut [3] (fun v3 wc => ∃ (kq : Nat) (x3_1 : Bool), v3 = .bool x3_1 ∧ Aside0 (impl_SaOk.j0 kq x3_1 a0_0 a0_1 a0_2 a0_3 a0_4 a0_5 a0_6 a0_7 a0_8 a0_9 l0_10 = some r) ∧ Aside0 (kq ≤ k) ∧ Aside0 (wc.heap[gb101]? = some (.cells #[.int .i64 a0_0, .int .i64 a0_1, .string a0_2, .string a0_3, .int .i64 a0_4, .int .i64 a0_5, .int .i64 a0_6, .int .i64 a0_7, .int .i64 a0_8, .int .i64 a0_9, (.slice A0_10 l0_10.length c0_10)] 95 (0, 0))) ∧ Aside0 (Below w.heap.size w wc))
 case first =>
  have H := HC2.out
  clear HC2
  replace H := Option.bind_eq_some_iff.mp H
  obtain ⟨t102, A40, H⟩ := H
  replace H : (if t102 = true then ((impl_in.f a0_1 0 3).bind fun t103 => (if t103 = true then ((impl_keysOk.f a0_2 a0_3).bind fun t104 => (impl_SaOk.j0 k t104 a0_0 a0_1 a0_2 a0_3 a0_4 a0_5 a0_6 a0_7 a0_8 a0_9 l0_10)) else (impl_SaOk.j0 k false a0_0 a0_1 a0_2 a0_3 a0_4 a0_5 a0_6 a0_7 a0_8 a0_9 l0_10))) else (impl_SaOk.j0 k false a0_0 a0_1 a0_2 a0_3 a0_4 a0_5 a0_6 a0_7 a0_8 a0_9 l0_10)) = some r := H
  have A4 := Aside0.mk A40
  clear A40
  by_cases c5 : t102 = true
  ·subst c5
   have H1 : ((impl_in.f a0_1 0 3).bind fun t103 => (if t103 = true then ((impl_keysOk.f a0_2 a0_3).bind fun t104 => (impl_SaOk.j0 k t104 a0_0 a0_1 a0_2 a0_3 a0_4 a0_5 a0_6 a0_7 a0_8 a0_9 l0_10)) else (impl_SaOk.j0 k false a0_0 a0_1 a0_2 a0_3 a0_4 a0_5 a0_6 a0_7 a0_8 a0_9 l0_10))) = some r := by rw [if_pos rfl] at H; exact H
   clear H
   have H := H1
   clear H1
   replace H := Option.bind_eq_some_iff.mp H
   obtain ⟨t103, A60, H⟩ := H
   replace H : (if t103 = true then ((impl_keysOk.f a0_2 a0_3).bind fun t104 => (impl_SaOk.j0 k t104 a0_0 a0_1 a0_2 a0_3 a0_4 a0_5 a0_6 a0_7 a0_8 a0_9 l0_10)) else (impl_SaOk.j0 k false a0_0 a0_1 a0_2 a0_3 a0_4 a0_5 a0_6 a0_7 a0_8 a0_9 l0_10)) = some r := H
   have A6 := Aside0.mk A60
   clear A60
   by_cases c7 : t103 = true
   ·subst c7
    have H1 : ((impl_keysOk.f a0_2 a0_3).bind fun t104 => (impl_SaOk.j0 k t104 a0_0 a0_1 a0_2 a0_3 a0_4 a0_5 a0_6 a0_7 a0_8 a0_9 l0_10)) = some r := by rw [if_pos rfl] at H; exact H
    clear H
    have H := H1
    clear H1
    replace H := Option.bind_eq_some_iff.mp H
    obtain ⟨t104, A80, H⟩ := H
    replace H : (impl_SaOk.j0 k t104 a0_0 a0_1 a0_2 a0_3 a0_4 a0_5 a0_6 a0_7 a0_8 a0_9 l0_10) = some r := H
    have A8 := Aside0.mk A80
    clear A80
    have H' := Aside0.mk H
    clear H
    obtain ⟨hcz9_0, hcz9_1, hcz9_2, hcz9_3, hcz9_4, hcz9_5, hcz9_6, hcz9_7, hcz9_8, hcz9_9, hcz9_10, hfz9_0⟩ := y11 w3 BK101.out
    go_wp2_with (first | ((with_reducible refine gate_callee (f := 49) rfl ?_); refine goesL_ (some 7) rfl rfl Try.func49 (by kernel_rfl) rfl #[.int .i64 a0_0, .int .i64 1, .int .i64 999] rfl MT ?_; (with_reducible refine (impl_in.calls a0_0 1 999 true _ A4.out).mono ?_); rintro e w' ⟨rfl, ⟨nd, rfl⟩⟩; refine ⟨_, rfl, ?_⟩) | (go_at_call 49; (with_reducible refine (impl_in.calls a0_1 0 3 true _ A6.out).mono ?_); rintro e w' ⟨rfl, ⟨nd, rfl⟩⟩) | (go_at_call 139; (with_reducible refine (impl_keysOk.calls a0_2 a0_3 t104 _ A8.out).mono ?_); rintro e w' ⟨rfl, ⟨nd, rfl⟩⟩))
    go_meet
    case rel => exact ⟨_, (t104), (by first | rfl | (simp; done) | (simp [*]; done)), H', ⟨by first | omega | exact Nat.le_refl _⟩, ⟨KB BK101⟩, ⟨K1 HB GE101.out⟩⟩
   ·replace c7 := Bool.eq_false_iff.mpr c7
    subst c7
    have H1 : (impl_SaOk.j0 k false a0_0 a0_1 a0_2 a0_3 a0_4 a0_5 a0_6 a0_7 a0_8 a0_9 l0_10) = some r := by rw [if_neg (show ¬ (false = true) by decide)] at H; exact H
    clear H
    have H := H1
    clear H1
    have H' := Aside0.mk H
    clear H
    obtain ⟨hcz10_0, hcz10_1, hcz10_2, hcz10_3, hcz10_4, hcz10_5, hcz10_6, hcz10_7, hcz10_8, hcz10_9, hcz10_10, hfz10_0⟩ := y11 w3 BK101.out
    go_wp2_with (first | ((with_reducible refine gate_callee (f := 49) rfl ?_); refine goesL_ (some 7) rfl rfl Try.func49 (by kernel_rfl) rfl #[.int .i64 a0_0, .int .i64 1, .int .i64 999] rfl MT ?_; (with_reducible refine (impl_in.calls a0_0 1 999 true _ A4.out).mono ?_); rintro e w' ⟨rfl, ⟨nd, rfl⟩⟩; refine ⟨_, rfl, ?_⟩) | (go_at_call 49; (with_reducible refine (impl_in.calls a0_1 0 3 false _ A6.out).mono ?_); rintro e w' ⟨rfl, ⟨nd, rfl⟩⟩))
    go_meet
    case rel => exact ⟨_, (false), (by first | rfl | (simp; done) | (simp [*]; done)), H', ⟨by first | omega | exact Nat.le_refl _⟩, ⟨KB BK101⟩, ⟨K1 HB GE101.out⟩⟩
  ·replace c5 := Bool.eq_false_iff.mpr c5
   subst c5
   have H1 : (impl_SaOk.j0 k false a0_0 a0_1 a0_2 a0_3 a0_4 a0_5 a0_6 a0_7 a0_8 a0_9 l0_10) = some r := by rw [if_neg (show ¬ (false = true) by decide)] at H; exact H
   clear H
   have H := H1
   clear H1
   have H' := Aside0.mk H
   clear H
   obtain ⟨hcz11_0, hcz11_1, hcz11_2, hcz11_3, hcz11_4, hcz11_5, hcz11_6, hcz11_7, hcz11_8, hcz11_9, hcz11_10, hfz11_0⟩ := y11 w3 BK101.out
   go_wp2_with (first | ((with_reducible refine gate_callee (f := 49) rfl ?_); refine goesL_ (some 7) rfl rfl Try.func49 (by kernel_rfl) rfl #[.int .i64 a0_0, .int .i64 1, .int .i64 999] rfl MT ?_; (with_reducible refine (impl_in.calls a0_0 1 999 false _ A4.out).mono ?_); rintro e w' ⟨rfl, ⟨nd, rfl⟩⟩; refine ⟨_, rfl, ?_⟩))
   go_meet
   case rel => exact ⟨_, (false), (by first | rfl | (simp; done) | (simp [*]; done)), H', ⟨by first | omega | exact Nat.le_refl _⟩, ⟨KB BK101⟩, ⟨K1 HB GE101.out⟩⟩
 case rest =>
  clear HC2
  try clear c1
  try clear p2
  try clear c4
  try clear c5
  try clear c7
  try clear c11
  try clear hcz10_0 hcz10_1 hcz10_10 hcz10_2 hcz10_3 hcz10_4 hcz10_5 hcz10_6 hcz10_7 hcz10_8 hcz10_9 hfz10_0
  try clear hcz11_0 hcz11_1 hcz11_10 hcz11_2 hcz11_3 hcz11_4 hcz11_5 hcz11_6 hcz11_7 hcz11_8 hcz11_9 hfz11_0
  try clear hcz9_0 hcz9_1 hcz9_10 hcz9_2 hcz9_3 hcz9_4 hcz9_5 hcz9_6 hcz9_7 hcz9_8 hcz9_9 hfz9_0
  obtain ⟨kq, x3_1, rfl, HA, HJ1, BK101, HB⟩ := hcut
  cases kq with
  | zero => exact absurd HA.out (by simp [impl_SaOk.j0])
  | succ kj1 =>
   have H := HA.out
   clear HA
   simp only [impl_SaOk.j0] at H
   replace H := Option.bind_eq_some_iff.mp H
   obtain ⟨t105, A120, H⟩ := H
   replace H : (if t105 = true then ((impl_in.f a0_6 1 1000000).bind fun t106 => (if t106 = true then ((impl_in.f a0_5 1 a0_6).bind fun t107 => (if t107 = true then ((impl_in.f a0_7 1 1000000).bind fun t108 => (if x3_1 = true then (if t108 = true then ((impl_in.f a0_8 0 a0_6).bind fun t109 => (if t109 = true then ((impl_WindowOk.f kj1 a0_9 l0_10).bind fun t110 => (some t110)) else (some false))) else (some false)) else (some false))) else (if x3_1 = true then (some false) else (some false)))) else (if x3_1 = true then (some false) else (some false)))) else (if x3_1 = true then (some false) else (some false))) = some r := H
   have A12 := Aside0.mk A120
   clear A120
   by_cases c13 : t105 = true
   ·subst c13
    have H1 : ((impl_in.f a0_6 1 1000000).bind fun t106 => (if t106 = true then ((impl_in.f a0_5 1 a0_6).bind fun t107 => (if t107 = true then ((impl_in.f a0_7 1 1000000).bind fun t108 => (if x3_1 = true then (if t108 = true then ((impl_in.f a0_8 0 a0_6).bind fun t109 => (if t109 = true then ((impl_WindowOk.f kj1 a0_9 l0_10).bind fun t110 => (some t110)) else (some false))) else (some false)) else (some false))) else (if x3_1 = true then (some false) else (some false)))) else (if x3_1 = true then (some false) else (some false)))) = some r := by rw [if_pos rfl] at H; exact H
    clear H
    have H := H1
    clear H1
    replace H := Option.bind_eq_some_iff.mp H
    obtain ⟨t106, A140, H⟩ := H
    replace H : (if t106 = true then ((impl_in.f a0_5 1 a0_6).bind fun t107 => (if t107 = true then ((impl_in.f a0_7 1 1000000).bind fun t108 => (if x3_1 = true then (if t108 = true then ((impl_in.f a0_8 0 a0_6).bind fun t109 => (if t109 = true then ((impl_WindowOk.f kj1 a0_9 l0_10).bind fun t110 => (some t110)) else (some false))) else (some false)) else (some false))) else (if x3_1 = true then (some false) else (some false)))) else (if x3_1 = true then (some false) else (some false))) = some r := H
    have A14 := Aside0.mk A140
    clear A140
    by_cases c15 : t106 = true
    ·subst c15
     have H1 : ((impl_in.f a0_5 1 a0_6).bind fun t107 => (if t107 = true then ((impl_in.f a0_7 1 1000000).bind fun t108 => (if x3_1 = true then (if t108 = true then ((impl_in.f a0_8 0 a0_6).bind fun t109 => (if t109 = true then ((impl_WindowOk.f kj1 a0_9 l0_10).bind fun t110 => (some t110)) else (some false))) else (some false)) else (some false))) else (if x3_1 = true then (some false) else (some false)))) = some r := by rw [if_pos rfl] at H; exact H
     clear H
     have H := H1
     clear H1
     replace H := Option.bind_eq_some_iff.mp H
     obtain ⟨t107, A160, H⟩ := H
     replace H : (if t107 = true then ((impl_in.f a0_7 1 1000000).bind fun t108 => (if x3_1 = true then (if t108 = true then ((impl_in.f a0_8 0 a0_6).bind fun t109 => (if t109 = true then ((impl_WindowOk.f kj1 a0_9 l0_10).bind fun t110 => (some t110)) else (some false))) else (some false)) else (some false))) else (if x3_1 = true then (some false) else (some false))) = some r := H
     have A16 := Aside0.mk A160
     clear A160
     by_cases c17 : t107 = true
     ·subst c17
      have H1 : ((impl_in.f a0_7 1 1000000).bind fun t108 => (if x3_1 = true then (if t108 = true then ((impl_in.f a0_8 0 a0_6).bind fun t109 => (if t109 = true then ((impl_WindowOk.f kj1 a0_9 l0_10).bind fun t110 => (some t110)) else (some false))) else (some false)) else (some false))) = some r := by rw [if_pos rfl] at H; exact H
      clear H
      have H := H1
      clear H1
      replace H := Option.bind_eq_some_iff.mp H
      obtain ⟨t108, A180, H⟩ := H
      replace H : (if x3_1 = true then (if t108 = true then ((impl_in.f a0_8 0 a0_6).bind fun t109 => (if t109 = true then ((impl_WindowOk.f kj1 a0_9 l0_10).bind fun t110 => (some t110)) else (some false))) else (some false)) else (some false)) = some r := H
      have A18 := Aside0.mk A180
      clear A180
      by_cases c19 : x3_1 = true
      ·subst c19
       have H1 : (if t108 = true then ((impl_in.f a0_8 0 a0_6).bind fun t109 => (if t109 = true then ((impl_WindowOk.f kj1 a0_9 l0_10).bind fun t110 => (some t110)) else (some false))) else (some false)) = some r := by rw [if_pos rfl] at H; exact H
       clear H
       have H := H1
       clear H1
       by_cases c20 : t108 = true
       ·subst c20
        have H1 : ((impl_in.f a0_8 0 a0_6).bind fun t109 => (if t109 = true then ((impl_WindowOk.f kj1 a0_9 l0_10).bind fun t110 => (some t110)) else (some false))) = some r := by rw [if_pos rfl] at H; exact H
        clear H
        have H := H1
        clear H1
        replace H := Option.bind_eq_some_iff.mp H
        obtain ⟨t109, A210, H⟩ := H
        replace H : (if t109 = true then ((impl_WindowOk.f kj1 a0_9 l0_10).bind fun t110 => (some t110)) else (some false)) = some r := H
        have A21 := Aside0.mk A210
        clear A210
        by_cases c22 : t109 = true
        ·subst c22
         have H1 : ((impl_WindowOk.f kj1 a0_9 l0_10).bind fun t110 => (some t110)) = some r := by rw [if_pos rfl] at H; exact H
         clear H
         have H := H1
         clear H1
         replace H := Option.bind_eq_some_iff.mp H
         obtain ⟨t110, A230, H⟩ := H
         replace H : (some t110) = some r := H
         have A23 := Aside0.mk A230
         clear A230
         obtain rfl := Option.some.inj H
         obtain ⟨hcz24_0, hcz24_1, hcz24_2, hcz24_3, hcz24_4, hcz24_5, hcz24_6, hcz24_7, hcz24_8, hcz24_9, hcz24_10, hfz24_0⟩ := y11 wc BK101.out
         go_wp2_with (first | ((with_reducible refine gate_callee (f := 49) rfl ?_); refine goesL_ (some 22) rfl rfl Try.func49 (by kernel_rfl) rfl #[.int .i64 a0_4, .int .i64 0, .int .i64 1000000] rfl MT ?_; (with_reducible refine (impl_in.calls a0_4 0 1000000 true _ A12.out).mono ?_); rintro e w' ⟨rfl, ⟨nd, rfl⟩⟩; refine ⟨_, rfl, ?_⟩) | (go_at_call 49; (with_reducible refine (impl_in.calls a0_6 1 1000000 true _ A14.out).mono ?_); rintro e w' ⟨rfl, ⟨nd, rfl⟩⟩) | (go_at_call 49; (with_reducible refine (impl_in.calls a0_5 1 a0_6 true _ A16.out).mono ?_); rintro e w' ⟨rfl, ⟨nd, rfl⟩⟩) | (go_at_call 49; (with_reducible refine (impl_in.calls a0_7 1 1000000 true _ A18.out).mono ?_); rintro e w' ⟨rfl, ⟨nd, rfl⟩⟩) | (go_at_call 49; (with_reducible refine (impl_in.calls a0_8 0 a0_6 true _ A21.out).mono ?_); rintro e w' ⟨rfl, ⟨nd, rfl⟩⟩) | (go_at_call 22; (with_reducible refine (impl_WindowOk.calls kj1 a0_9 _ _ l0_10 t110 _ ?side1 ?side2 A23.out).mono ?_); (case side1 => repeat (first | exact (Kd.C_below HR0_10.out (K1 HB GE101.out)) | (with_reducible refine Kd.C_alloc ?_ _) | (with_reducible refine Kd.C_drewN ?_ _) | (with_reducible refine Kd.C_drew ?_))); (case side2 => exact HC0_10.out); rintro e w25 ⟨rfl, hb⟩; replace BK101 := am (BB BK101 hb); replace HB := am (below_step (K1 HB GE101.out) hb); (try clear hb)))
         go_ret
         exact ⟨ER, K1 HB GE101.out⟩
        ·replace c22 := Bool.eq_false_iff.mpr c22
         subst c22
         have H1 : (some false) = some r := by rw [if_neg (show ¬ (false = true) by decide)] at H; exact H
         clear H
         have H := H1
         clear H1
         obtain rfl := Option.some.inj H
         obtain ⟨hcz26_0, hcz26_1, hcz26_2, hcz26_3, hcz26_4, hcz26_5, hcz26_6, hcz26_7, hcz26_8, hcz26_9, hcz26_10, hfz26_0⟩ := y11 wc BK101.out
         go_wp2_with (first | ((with_reducible refine gate_callee (f := 49) rfl ?_); refine goesL_ (some 22) rfl rfl Try.func49 (by kernel_rfl) rfl #[.int .i64 a0_4, .int .i64 0, .int .i64 1000000] rfl MT ?_; (with_reducible refine (impl_in.calls a0_4 0 1000000 true _ A12.out).mono ?_); rintro e w' ⟨rfl, ⟨nd, rfl⟩⟩; refine ⟨_, rfl, ?_⟩) | (go_at_call 49; (with_reducible refine (impl_in.calls a0_6 1 1000000 true _ A14.out).mono ?_); rintro e w' ⟨rfl, ⟨nd, rfl⟩⟩) | (go_at_call 49; (with_reducible refine (impl_in.calls a0_5 1 a0_6 true _ A16.out).mono ?_); rintro e w' ⟨rfl, ⟨nd, rfl⟩⟩) | (go_at_call 49; (with_reducible refine (impl_in.calls a0_7 1 1000000 true _ A18.out).mono ?_); rintro e w' ⟨rfl, ⟨nd, rfl⟩⟩) | (go_at_call 49; (with_reducible refine (impl_in.calls a0_8 0 a0_6 false _ A21.out).mono ?_); rintro e w' ⟨rfl, ⟨nd, rfl⟩⟩))
         go_ret
         exact ⟨ER, K1 HB GE101.out⟩
       ·replace c20 := Bool.eq_false_iff.mpr c20
        subst c20
        have H1 : (some false) = some r := by rw [if_neg (show ¬ (false = true) by decide)] at H; exact H
        clear H
        have H := H1
        clear H1
        obtain rfl := Option.some.inj H
        obtain ⟨hcz27_0, hcz27_1, hcz27_2, hcz27_3, hcz27_4, hcz27_5, hcz27_6, hcz27_7, hcz27_8, hcz27_9, hcz27_10, hfz27_0⟩ := y11 wc BK101.out
        go_wp2_with (first | ((with_reducible refine gate_callee (f := 49) rfl ?_); refine goesL_ (some 22) rfl rfl Try.func49 (by kernel_rfl) rfl #[.int .i64 a0_4, .int .i64 0, .int .i64 1000000] rfl MT ?_; (with_reducible refine (impl_in.calls a0_4 0 1000000 true _ A12.out).mono ?_); rintro e w' ⟨rfl, ⟨nd, rfl⟩⟩; refine ⟨_, rfl, ?_⟩) | (go_at_call 49; (with_reducible refine (impl_in.calls a0_6 1 1000000 true _ A14.out).mono ?_); rintro e w' ⟨rfl, ⟨nd, rfl⟩⟩) | (go_at_call 49; (with_reducible refine (impl_in.calls a0_5 1 a0_6 true _ A16.out).mono ?_); rintro e w' ⟨rfl, ⟨nd, rfl⟩⟩) | (go_at_call 49; (with_reducible refine (impl_in.calls a0_7 1 1000000 false _ A18.out).mono ?_); rintro e w' ⟨rfl, ⟨nd, rfl⟩⟩))
        go_ret
        exact ⟨ER, K1 HB GE101.out⟩
      ·replace c19 := Bool.eq_false_iff.mpr c19
       subst c19
       have H1 : (some false) = some r := by rw [if_neg (show ¬ (false = true) by decide)] at H; exact H
       clear H
       have H := H1
       clear H1
       obtain rfl := Option.some.inj H
       obtain ⟨hcz28_0, hcz28_1, hcz28_2, hcz28_3, hcz28_4, hcz28_5, hcz28_6, hcz28_7, hcz28_8, hcz28_9, hcz28_10, hfz28_0⟩ := y11 wc BK101.out
       go_wp2_with (first | ((with_reducible refine gate_callee (f := 49) rfl ?_); refine goesL_ (some 22) rfl rfl Try.func49 (by kernel_rfl) rfl #[.int .i64 a0_4, .int .i64 0, .int .i64 1000000] rfl MT ?_; (with_reducible refine (impl_in.calls a0_4 0 1000000 true _ A12.out).mono ?_); rintro e w' ⟨rfl, ⟨nd, rfl⟩⟩; refine ⟨_, rfl, ?_⟩) | (go_at_call 49; (with_reducible refine (impl_in.calls a0_6 1 1000000 true _ A14.out).mono ?_); rintro e w' ⟨rfl, ⟨nd, rfl⟩⟩) | (go_at_call 49; (with_reducible refine (impl_in.calls a0_5 1 a0_6 true _ A16.out).mono ?_); rintro e w' ⟨rfl, ⟨nd, rfl⟩⟩) | (go_at_call 49; (with_reducible refine (impl_in.calls a0_7 1 1000000 t108 _ A18.out).mono ?_); rintro e w' ⟨rfl, ⟨nd, rfl⟩⟩))
       go_ret
       exact ⟨ER, K1 HB GE101.out⟩
     ·replace c17 := Bool.eq_false_iff.mpr c17
      subst c17
      have H1 : (if x3_1 = true then (some false) else (some false)) = some r := by rw [if_neg (show ¬ (false = true) by decide)] at H; exact H
      clear H
      have H := H1
      clear H1
      by_cases c29 : x3_1 = true
      ·subst c29
       have H1 : (some false) = some r := by rw [if_pos rfl] at H; exact H
       clear H
       have H := H1
       clear H1
       obtain rfl := Option.some.inj H
       obtain ⟨hcz30_0, hcz30_1, hcz30_2, hcz30_3, hcz30_4, hcz30_5, hcz30_6, hcz30_7, hcz30_8, hcz30_9, hcz30_10, hfz30_0⟩ := y11 wc BK101.out
       go_wp2_with (first | ((with_reducible refine gate_callee (f := 49) rfl ?_); refine goesL_ (some 22) rfl rfl Try.func49 (by kernel_rfl) rfl #[.int .i64 a0_4, .int .i64 0, .int .i64 1000000] rfl MT ?_; (with_reducible refine (impl_in.calls a0_4 0 1000000 true _ A12.out).mono ?_); rintro e w' ⟨rfl, ⟨nd, rfl⟩⟩; refine ⟨_, rfl, ?_⟩) | (go_at_call 49; (with_reducible refine (impl_in.calls a0_6 1 1000000 true _ A14.out).mono ?_); rintro e w' ⟨rfl, ⟨nd, rfl⟩⟩) | (go_at_call 49; (with_reducible refine (impl_in.calls a0_5 1 a0_6 false _ A16.out).mono ?_); rintro e w' ⟨rfl, ⟨nd, rfl⟩⟩))
       go_ret
       exact ⟨ER, K1 HB GE101.out⟩
      ·replace c29 := Bool.eq_false_iff.mpr c29
       subst c29
       have H1 : (some false) = some r := by rw [if_neg (show ¬ (false = true) by decide)] at H; exact H
       clear H
       have H := H1
       clear H1
       obtain rfl := Option.some.inj H
       obtain ⟨hcz31_0, hcz31_1, hcz31_2, hcz31_3, hcz31_4, hcz31_5, hcz31_6, hcz31_7, hcz31_8, hcz31_9, hcz31_10, hfz31_0⟩ := y11 wc BK101.out
       go_wp2_with (first | ((with_reducible refine gate_callee (f := 49) rfl ?_); refine goesL_ (some 22) rfl rfl Try.func49 (by kernel_rfl) rfl #[.int .i64 a0_4, .int .i64 0, .int .i64 1000000] rfl MT ?_; (with_reducible refine (impl_in.calls a0_4 0 1000000 true _ A12.out).mono ?_); rintro e w' ⟨rfl, ⟨nd, rfl⟩⟩; refine ⟨_, rfl, ?_⟩) | (go_at_call 49; (with_reducible refine (impl_in.calls a0_6 1 1000000 true _ A14.out).mono ?_); rintro e w' ⟨rfl, ⟨nd, rfl⟩⟩) | (go_at_call 49; (with_reducible refine (impl_in.calls a0_5 1 a0_6 false _ A16.out).mono ?_); rintro e w' ⟨rfl, ⟨nd, rfl⟩⟩))
       go_ret
       exact ⟨ER, K1 HB GE101.out⟩
    ·replace c15 := Bool.eq_false_iff.mpr c15
     subst c15
     have H1 : (if x3_1 = true then (some false) else (some false)) = some r := by rw [if_neg (show ¬ (false = true) by decide)] at H; exact H
     clear H
     have H := H1
     clear H1
     by_cases c32 : x3_1 = true
     ·subst c32
      have H1 : (some false) = some r := by rw [if_pos rfl] at H; exact H
      clear H
      have H := H1
      clear H1
      obtain rfl := Option.some.inj H
      obtain ⟨hcz33_0, hcz33_1, hcz33_2, hcz33_3, hcz33_4, hcz33_5, hcz33_6, hcz33_7, hcz33_8, hcz33_9, hcz33_10, hfz33_0⟩ := y11 wc BK101.out
      go_wp2_with (first | ((with_reducible refine gate_callee (f := 49) rfl ?_); refine goesL_ (some 22) rfl rfl Try.func49 (by kernel_rfl) rfl #[.int .i64 a0_4, .int .i64 0, .int .i64 1000000] rfl MT ?_; (with_reducible refine (impl_in.calls a0_4 0 1000000 true _ A12.out).mono ?_); rintro e w' ⟨rfl, ⟨nd, rfl⟩⟩; refine ⟨_, rfl, ?_⟩) | (go_at_call 49; (with_reducible refine (impl_in.calls a0_6 1 1000000 false _ A14.out).mono ?_); rintro e w' ⟨rfl, ⟨nd, rfl⟩⟩))
      go_ret
      exact ⟨ER, K1 HB GE101.out⟩
     ·replace c32 := Bool.eq_false_iff.mpr c32
      subst c32
      have H1 : (some false) = some r := by rw [if_neg (show ¬ (false = true) by decide)] at H; exact H
      clear H
      have H := H1
      clear H1
      obtain rfl := Option.some.inj H
      obtain ⟨hcz34_0, hcz34_1, hcz34_2, hcz34_3, hcz34_4, hcz34_5, hcz34_6, hcz34_7, hcz34_8, hcz34_9, hcz34_10, hfz34_0⟩ := y11 wc BK101.out
      go_wp2_with (first | ((with_reducible refine gate_callee (f := 49) rfl ?_); refine goesL_ (some 22) rfl rfl Try.func49 (by kernel_rfl) rfl #[.int .i64 a0_4, .int .i64 0, .int .i64 1000000] rfl MT ?_; (with_reducible refine (impl_in.calls a0_4 0 1000000 true _ A12.out).mono ?_); rintro e w' ⟨rfl, ⟨nd, rfl⟩⟩; refine ⟨_, rfl, ?_⟩) | (go_at_call 49; (with_reducible refine (impl_in.calls a0_6 1 1000000 false _ A14.out).mono ?_); rintro e w' ⟨rfl, ⟨nd, rfl⟩⟩))
      go_ret
      exact ⟨ER, K1 HB GE101.out⟩
   ·replace c13 := Bool.eq_false_iff.mpr c13
    subst c13
    have H1 : (if x3_1 = true then (some false) else (some false)) = some r := by rw [if_neg (show ¬ (false = true) by decide)] at H; exact H
    clear H
    have H := H1
    clear H1
    by_cases c35 : x3_1 = true
    ·subst c35
     have H1 : (some false) = some r := by rw [if_pos rfl] at H; exact H
     clear H
     have H := H1
     clear H1
     obtain rfl := Option.some.inj H
     obtain ⟨hcz36_0, hcz36_1, hcz36_2, hcz36_3, hcz36_4, hcz36_5, hcz36_6, hcz36_7, hcz36_8, hcz36_9, hcz36_10, hfz36_0⟩ := y11 wc BK101.out
     go_wp2_with (first | ((with_reducible refine gate_callee (f := 49) rfl ?_); refine goesL_ (some 22) rfl rfl Try.func49 (by kernel_rfl) rfl #[.int .i64 a0_4, .int .i64 0, .int .i64 1000000] rfl MT ?_; (with_reducible refine (impl_in.calls a0_4 0 1000000 false _ A12.out).mono ?_); rintro e w' ⟨rfl, ⟨nd, rfl⟩⟩; refine ⟨_, rfl, ?_⟩))
     go_ret
     exact ⟨ER, K1 HB GE101.out⟩
    ·replace c35 := Bool.eq_false_iff.mpr c35
     subst c35
     have H1 : (some false) = some r := by rw [if_neg (show ¬ (false = true) by decide)] at H; exact H
     clear H
     have H := H1
     clear H1
     obtain rfl := Option.some.inj H
     obtain ⟨hcz37_0, hcz37_1, hcz37_2, hcz37_3, hcz37_4, hcz37_5, hcz37_6, hcz37_7, hcz37_8, hcz37_9, hcz37_10, hfz37_0⟩ := y11 wc BK101.out
     go_wp2_with (first | ((with_reducible refine gate_callee (f := 49) rfl ?_); refine goesL_ (some 22) rfl rfl Try.func49 (by kernel_rfl) rfl #[.int .i64 a0_4, .int .i64 0, .int .i64 1000000] rfl MT ?_; (with_reducible refine (impl_in.calls a0_4 0 1000000 false _ A12.out).mono ?_); rintro e w' ⟨rfl, ⟨nd, rfl⟩⟩; refine ⟨_, rfl, ?_⟩))
     go_ret
     exact ⟨ER, K1 HB GE101.out⟩
def impl_tunOf.f (a0_0 : Int) (a0_1 : Int) (a0_2 : ByteArray) (a0_3 : ByteArray) (a0_4 : Int) (a0_5 : Int) (a0_6 : Int) (a0_7 : Int) (a0_8 : Int) (a0_9 : Int) (l0_10 : List Int) : Option (Int) := some a0_1
set_option maxHeartbeats 8000000 in
set_option maxRecDepth 100000 in
theorem impl_tunOf.calls (a0_0 : Int) (a0_1 : Int) (a0_2 : ByteArray) (a0_3 : ByteArray) (a0_4 : Int) (a0_5 : Int) (a0_6 : Int) (a0_7 : Int) (a0_8 : Int) (a0_9 : Int) (A0_10 : Option Addr) (c0_10 : Nat) (l0_10 : List Int) (r : Int) (w : World) (hr0_10 : Kd.C (Kd.int .i64) w A0_10 l0_10.length l0_10) (hc0_10 : l0_10.length ≤ c0_10) (h : impl_tunOf.f a0_0 a0_1 a0_2 a0_3 a0_4 a0_5 a0_6 a0_7 a0_8 a0_9 l0_10 = some r) :
  Calls Try.prog 67 #[.agg #[.int .i64 a0_0, .int .i64 a0_1, .string a0_2, .string a0_3, .int .i64 a0_4, .int .i64 a0_5, .int .i64 a0_6, .int .i64 a0_7, .int .i64 a0_8, .int .i64 a0_9, .slice A0_10 l0_10.length c0_10]] w fun e w' => e = .returned (.int .i64 r) ∧ Below w.heap.size w w' := by
 have hu95 := Try.underlying95
 have HR0_10 := Aside0.mk hr0_10
 have HC0_10 := Aside0.mk hc0_10
 clear hr0_10 hc0_10
 have HB := am (Below.refl w.heap.size w)
 have H : (some a0_1) = some r := h
 clear h
 obtain rfl := Option.some.inj H
 go_enter Try.func67, Try.ntmps67
 go_wp2_with (first | ((with_reducible refine gate_dst (N := 1) rfl ?_); refine box_event rfl (N := 1) rfl (cs := #[.int .i64 a0_0, .int .i64 a0_1, .string a0_2, .string a0_3, .int .i64 a0_4, .int .i64 a0_5, .int .i64 a0_6, .int .i64 a0_7, .int .i64 a0_8, .int .i64 a0_9, .slice A0_10 l0_10.length c0_10]) (t := 95) BX ?_; intro gb101 hg w2 hbox hb; have BK101 := am (hbox); have GW101 := am (GH HB hg); have GE101 := GW101; replace HB := am (below_step (KL HB) hb); clear hb hbox hg; obtain ⟨hcz3_0, hcz3_1, hcz3_2, hcz3_3, hcz3_4, hcz3_5, hcz3_6, hcz3_7, hcz3_8, hcz3_9, hcz3_10, hfz3_0⟩ := y11 w2 BK101.out))
 go_ret
 exact ⟨ER, K1 HB GE101.out⟩
def impl_spiOf.f (a0_0 : Int) (a0_1 : Int) (a0_2 : ByteArray) (a0_3 : ByteArray) (a0_4 : Int) (a0_5 : Int) (a0_6 : Int) (a0_7 : Int) (a0_8 : Int) (a0_9 : Int) (l0_10 : List Int) : Option (Int) := some a0_0
set_option maxHeartbeats 8000000 in
set_option maxRecDepth 100000 in
theorem impl_spiOf.calls (a0_0 : Int) (a0_1 : Int) (a0_2 : ByteArray) (a0_3 : ByteArray) (a0_4 : Int) (a0_5 : Int) (a0_6 : Int) (a0_7 : Int) (a0_8 : Int) (a0_9 : Int) (A0_10 : Option Addr) (c0_10 : Nat) (l0_10 : List Int) (r : Int) (w : World) (hr0_10 : Kd.C (Kd.int .i64) w A0_10 l0_10.length l0_10) (hc0_10 : l0_10.length ≤ c0_10) (h : impl_spiOf.f a0_0 a0_1 a0_2 a0_3 a0_4 a0_5 a0_6 a0_7 a0_8 a0_9 l0_10 = some r) :
  Calls Try.prog 68 #[.agg #[.int .i64 a0_0, .int .i64 a0_1, .string a0_2, .string a0_3, .int .i64 a0_4, .int .i64 a0_5, .int .i64 a0_6, .int .i64 a0_7, .int .i64 a0_8, .int .i64 a0_9, .slice A0_10 l0_10.length c0_10]] w fun e w' => e = .returned (.int .i64 r) ∧ Below w.heap.size w w' := by
 have hu95 := Try.underlying95
 have HR0_10 := Aside0.mk hr0_10
 have HC0_10 := Aside0.mk hc0_10
 clear hr0_10 hc0_10
 have HB := am (Below.refl w.heap.size w)
 have H : (some a0_0) = some r := h
 clear h
 obtain rfl := Option.some.inj H
 go_enter Try.func68, Try.ntmps68
 go_wp2_with (first | ((with_reducible refine gate_dst (N := 1) rfl ?_); refine box_event rfl (N := 1) rfl (cs := #[.int .i64 a0_0, .int .i64 a0_1, .string a0_2, .string a0_3, .int .i64 a0_4, .int .i64 a0_5, .int .i64 a0_6, .int .i64 a0_7, .int .i64 a0_8, .int .i64 a0_9, .slice A0_10 l0_10.length c0_10]) (t := 95) BX ?_; intro gb101 hg w2 hbox hb; have BK101 := am (hbox); have GW101 := am (GH HB hg); have GE101 := GW101; replace HB := am (below_step (KL HB) hb); clear hb hbox hg; obtain ⟨hcz3_0, hcz3_1, hcz3_2, hcz3_3, hcz3_4, hcz3_5, hcz3_6, hcz3_7, hcz3_8, hcz3_9, hcz3_10, hfz3_0⟩ := y11 w2 BK101.out))
 go_ret
 exact ⟨ER, K1 HB GE101.out⟩
def impl_Packet_call.f (a0_0 : Int) (a0_1 : Int) (a0_2 : Int) (a0_3 : ByteArray) : Option (Int × Int × Int) := some (a0_0, a0_1, a0_2)
set_option maxHeartbeats 8000000 in
set_option maxRecDepth 100000 in
theorem impl_Packet_call.calls (a0_0 : Int) (a0_1 : Int) (a0_2 : Int) (a0_3 : ByteArray) (r1 : Int) (r2 : Int) (r3 : Int) (w : World) (h : impl_Packet_call.f a0_0 a0_1 a0_2 a0_3 = some (r1, r2, r3)) :
  Calls Try.prog 78 #[.agg #[.int .i64 a0_0, .int .i64 a0_1, .int .i64 a0_2, .string a0_3]] w fun e w' => e = .returned (.agg #[.int .i64 r1, .int .i64 r2, .int .i64 r3]) ∧ Below w.heap.size w w' := by
 have hu66 := Try.underlying66
 have hu107 := Try.underlying107
 have HB := am (Below.refl w.heap.size w)
 have H : (some (a0_0, a0_1, a0_2)) = some (r1, r2, r3) := h
 clear h
 simp only [Option.some.injEq, Prod.mk.injEq] at H
 obtain ⟨rfl, rfl, rfl⟩ := H
 go_enter Try.func78, Try.ntmps78
 go_wp2_with (first | ((with_reducible refine gate_dst (N := 1) rfl ?_); refine box_event rfl (N := 1) rfl (cs := #[.int .i64 a0_0, .int .i64 a0_1, .int .i64 a0_2, .string a0_3]) (t := 66) BX ?_; intro gb101 hg w2 hbox hb; have BK101 := am (hbox); have GW101 := am (GH HB hg); have GE101 := GW101; replace HB := am (below_step (KL HB) hb); clear hb hbox hg) | ((with_reducible refine gate_dst (N := 2) rfl ?_); refine box_event rfl (N := 2) rfl (cs := #[.int .i64 0, .int .i64 0, .int .i64 0]) (t := 107) BX ?_; intro gb102 hg w3 hbox hb; have BK102 := am (hbox); have GW102 := am (GH1 HB GE101.out hg); have GE102 := GW102; replace HB := am (below_step (K1 HB GE101.out) hb); have NB101_102 := am (NL BK101 hg); have NB102_101 := am (NG BK101 hg); replace BK101 := am (BB BK101 hb); clear hb hbox hg; have hnb4 := NB101_102.out; have hnc4 := NB102_101.out; obtain ⟨hcz5_0, hcz5_1, hcz5_2, hcz5_3, hfz5_0⟩ := y4 w3 BK101.out; obtain ⟨hcz6_0, hcz6_1, hcz6_2, hfz6_0⟩ := y3 w3 BK102.out))
 refine bodyPost_ret (results_cell_row rfl _ _ gb102 107 #[.int .i64 a0_0, .int .i64 a0_1, .int .i64 a0_2] (0, 0) _ rfl (by (with_reducible repeat (first | refine blk_drewN ?_ _ | refine blk_drew ?_ | refine blk_alloc ?_ _)); refine blk_put (cs := #[.int .i64 a0_0, .int .i64 a0_1, .int .i64 0]) ?_ 2 _ rfl; (with_reducible repeat (first | refine blk_drewN ?_ _ | refine blk_drew ?_ | refine blk_alloc ?_ _)); refine blk_put (cs := #[.int .i64 a0_0, .int .i64 0, .int .i64 0]) ?_ 1 _ rfl; (with_reducible repeat (first | refine blk_drewN ?_ _ | refine blk_drew ?_ | refine blk_alloc ?_ _)); refine blk_put (cs := #[.int .i64 0, .int .i64 0, .int .i64 0]) ?_ 0 _ rfl; (with_reducible repeat (first | refine blk_drewN ?_ _ | refine blk_drew ?_ | refine blk_alloc ?_ _)); exact BK102.out) Try.underlying107 rfl (by kernel_rfl)) rfl ?_
 exact ⟨ER, K2 HB GE101.out GE102.out⟩
def impl_PacketOk.f (a0_0 : Int) (a0_1 : Int) (a0_2 : Int) (a0_3 : ByteArray) : Option (Bool) := (impl_Packet_call.f a0_0 a0_1 a0_2 a0_3).bind fun bt102 => ((impl_isCall.f bt102.1 bt102.2.1 bt102.2.2).bind fun t105 => (if t105 = true then (some (decide ((a0_3.size : Int) ≤ 40))) else (some false)))
set_option maxHeartbeats 8000000 in
set_option maxRecDepth 100000 in
theorem impl_PacketOk.calls (a0_0 : Int) (a0_1 : Int) (a0_2 : Int) (a0_3 : ByteArray) (r : Bool) (w : World) (h : impl_PacketOk.f a0_0 a0_1 a0_2 a0_3 = some r) :
  Calls Try.prog 75 #[.agg #[.int .i64 a0_0, .int .i64 a0_1, .int .i64 a0_2, .string a0_3]] w fun e w' => e = .returned (.bool r) ∧ Below w.heap.size w w' := by
 have hu66 := Try.underlying66
 have HB := am (Below.refl w.heap.size w)
 have H : ((impl_Packet_call.f a0_0 a0_1 a0_2 a0_3).bind fun bt102 => ((impl_isCall.f bt102.1 bt102.2.1 bt102.2.2).bind fun t105 => (if t105 = true then (some (decide ((a0_3.size : Int) ≤ 40))) else (some false)))) = some r := h
 clear h
 replace H := Option.bind_eq_some_iff.mp H
 obtain ⟨⟨t102, t103, t104⟩, A20, H⟩ := H
 replace H : ((impl_isCall.f t102 t103 t104).bind fun t105 => (if t105 = true then (some (decide ((a0_3.size : Int) ≤ 40))) else (some false))) = some r := H
 have A2 := Aside0.mk A20
 clear A20
 replace H := Option.bind_eq_some_iff.mp H
 obtain ⟨t105, A30, H⟩ := H
 replace H : (if t105 = true then (some (decide ((a0_3.size : Int) ≤ 40))) else (some false)) = some r := H
 have A3 := Aside0.mk A30
 clear A30
 by_cases c4 : t105 = true
 ·subst c4
  have H1 : (some (decide ((a0_3.size : Int) ≤ 40))) = some r := by rw [if_pos rfl] at H; exact H
  clear H
  have H := H1
  clear H1
  obtain rfl := Option.some.inj H
  go_enter Try.func75, Try.ntmps75
  go_wp2_with (first | ((with_reducible refine gate_dst (N := 1) rfl ?_); (try (refine gate_guard (by rfl) ?_; dsimp only)); refine box_event rfl (N := 1) rfl (cs := #[.int .i64 a0_0, .int .i64 a0_1, .int .i64 a0_2, .string a0_3]) (t := 66) BX ?_; intro gb101 hg w5 hbox hb; have BK101 := am (hbox); have GW101 := am (GH HB hg); have GE101 := GW101; replace HB := am (below_step (KL HB) hb); clear hb hbox hg; obtain ⟨hcz6_0, hcz6_1, hcz6_2, hcz6_3, hfz6_0⟩ := y4 w5 BK101.out) | ((with_reducible refine gate_callee (f := 78) rfl ?_); refine goesL_ (some 4) rfl rfl Try.func78 (by kernel_rfl) rfl #[.agg #[.int .i64 a0_0, .int .i64 a0_1, .int .i64 a0_2, .string a0_3]] rfl MT ?_; (with_reducible refine (impl_Packet_call.calls a0_0 a0_1 a0_2 a0_3 t102 t103 t104 _ A2.out).mono ?_); rintro e w7 ⟨rfl, hb⟩; refine ⟨_, rfl, ?_⟩; replace BK101 := am (BB BK101 hb); replace HB := am (below_step (K1 HB GE101.out) hb); (try clear hb)) | ((with_reducible refine gate_callee (f := 109) rfl ?_); refine goesL_ (some 5) rfl rfl Try.func109 (by kernel_rfl) rfl #[.agg #[.int .i64 t102, .int .i64 t103, .int .i64 t104]] rfl MT ?_; (with_reducible refine (impl_isCall.calls t102 t103 t104 true _ A3.out).mono ?_); rintro e w8 ⟨rfl, hb⟩; refine ⟨_, rfl, ?_⟩; replace BK101 := am (BB BK101 hb); replace HB := am (below_step (K1 HB GE101.out) hb); (try clear hb); obtain ⟨hcz9_0, hcz9_1, hcz9_2, hcz9_3, hfz9_0⟩ := y4 w8 BK101.out))
  go_ret
  exact ⟨ER, K1 HB GE101.out⟩
 ·replace c4 := Bool.eq_false_iff.mpr c4
  subst c4
  have H1 : (some false) = some r := by rw [if_neg (show ¬ (false = true) by decide)] at H; exact H
  clear H
  have H := H1
  clear H1
  obtain rfl := Option.some.inj H
  go_enter Try.func75, Try.ntmps75
  go_wp2_with (first | ((with_reducible refine gate_dst (N := 1) rfl ?_); (try (refine gate_guard (by rfl) ?_; dsimp only)); refine box_event rfl (N := 1) rfl (cs := #[.int .i64 a0_0, .int .i64 a0_1, .int .i64 a0_2, .string a0_3]) (t := 66) BX ?_; intro gb101 hg w10 hbox hb; have BK101 := am (hbox); have GW101 := am (GH HB hg); have GE101 := GW101; replace HB := am (below_step (KL HB) hb); clear hb hbox hg; obtain ⟨hcz11_0, hcz11_1, hcz11_2, hcz11_3, hfz11_0⟩ := y4 w10 BK101.out) | ((with_reducible refine gate_callee (f := 78) rfl ?_); refine goesL_ (some 4) rfl rfl Try.func78 (by kernel_rfl) rfl #[.agg #[.int .i64 a0_0, .int .i64 a0_1, .int .i64 a0_2, .string a0_3]] rfl MT ?_; (with_reducible refine (impl_Packet_call.calls a0_0 a0_1 a0_2 a0_3 t102 t103 t104 _ A2.out).mono ?_); rintro e w12 ⟨rfl, hb⟩; refine ⟨_, rfl, ?_⟩; replace BK101 := am (BB BK101 hb); replace HB := am (below_step (K1 HB GE101.out) hb); (try clear hb)) | ((with_reducible refine gate_callee (f := 109) rfl ?_); refine goesL_ (some 5) rfl rfl Try.func109 (by kernel_rfl) rfl #[.agg #[.int .i64 t102, .int .i64 t103, .int .i64 t104]] rfl MT ?_; (with_reducible refine (impl_isCall.calls t102 t103 t104 false _ A3.out).mono ?_); rintro e w13 ⟨rfl, hb⟩; refine ⟨_, rfl, ?_⟩; replace BK101 := am (BB BK101 hb); replace HB := am (below_step (K1 HB GE101.out) hb); (try clear hb)))
  go_ret
  exact ⟨ER, K1 HB GE101.out⟩
end Go.Proofs.Ytlpmmmhfceeiaaa.PAll
end
