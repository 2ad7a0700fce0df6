/- Contracts of the functions that the statement reaches, printed by a program out of the translation and joined with the plain laws. -/
import Derived.Test.YtlpmmmhfceeiaaaCFnExactGateDoes3
import Derived.Test.YtlpmmmhfceeiaaaCFnExactGateDoes4
import Derived.Test.YtlpmmmhfceeiaaaCFnExactGateDoes7
section
namespace Go.Proofs.Ytlpmmmhfceeiaaa.PAll
open Go.RowKit Go.Proofs.YtlpmmmhfceeiaaaW.PrintWords Go.Proofs.YtlpmmmhfceeiaaaW.PrintLast Go.Proofs.YtlpmmmhfceeiaaaW.PrintMore
attribute [local go_sem] max2_int min2_int max_two min_two max_three min_three max_four min_four   -- for this text's walks alone
set_option linter.unusedVariables false
set_option linter.unusedSimpArgs false
mutual
def impl_ascending_tunOf.l0 : Nat → List (S95) → Int → List (S95) → Int → Int → Option (Bool)
 | 0, _, _, _, _, _ => none
 | k + 1, x0, x1, x9, x10, x11 => if x11 < x10 then (if 0 ≤ x11 then (if x11 < (x9.length : Int) then ((impl_SaOk.f k ((rd_T95 x9 x11).f0) ((rd_T95 x9 x11).f1) ((rd_T95 x9 x11).f2) ((rd_T95 x9 x11).f3) ((rd_T95 x9 x11).f4) ((rd_T95 x9 x11).f5) ((rd_T95 x9 x11).f6) ((rd_T95 x9 x11).f7) ((rd_T95 x9 x11).f8) ((rd_T95 x9 x11).f9.f0) ((rd_T95 x9 x11).f9.f1)).bind fun t103 => (if t103 = true then (if ((rd_T95 x9 x11).f4) > x1 then (impl_ascending_tunOf.j1 k x0 x1 x9 x10 x11 true) else (if x11 > 0 then (if 0 ≤ (wrap64 (x11 - 1)) then (if (wrap64 (x11 - 1)) < (x0.length : Int) then ((impl_tunOf.f ((rd_T95 x0 (wrap64 (x11 - 1))).f0) ((rd_T95 x0 (wrap64 (x11 - 1))).f1) ((rd_T95 x0 (wrap64 (x11 - 1))).f2) ((rd_T95 x0 (wrap64 (x11 - 1))).f3) ((rd_T95 x0 (wrap64 (x11 - 1))).f4) ((rd_T95 x0 (wrap64 (x11 - 1))).f5) ((rd_T95 x0 (wrap64 (x11 - 1))).f6) ((rd_T95 x0 (wrap64 (x11 - 1))).f7) ((rd_T95 x0 (wrap64 (x11 - 1))).f8) ((rd_T95 x0 (wrap64 (x11 - 1))).f9.f0) ((rd_T95 x0 (wrap64 (x11 - 1))).f9.f1)).bind fun t105 => ((impl_tunOf.f ((rd_T95 x9 x11).f0) ((rd_T95 x9 x11).f1) ((rd_T95 x9 x11).f2) ((rd_T95 x9 x11).f3) ((rd_T95 x9 x11).f4) ((rd_T95 x9 x11).f5) ((rd_T95 x9 x11).f6) ((rd_T95 x9 x11).f7) ((rd_T95 x9 x11).f8) ((rd_T95 x9 x11).f9.f0) ((rd_T95 x9 x11).f9.f1)).bind fun t106 => (impl_ascending_tunOf.j1 k x0 x1 x9 x10 x11 (decide (t105 ≥ t106))))) else (none)) else (none)) else (impl_ascending_tunOf.j1 k x0 x1 x9 x10 x11 false))) else (impl_ascending_tunOf.j1 k x0 x1 x9 x10 x11 true))) else (none)) else (none)) else (some true)
def impl_ascending_tunOf.j1 : Nat → List (S95) → Int → List (S95) → Int → Int → Bool → Option (Bool)
 | 0, _, _, _, _, _, _ => none
 | k + 1, x0, x1, x9, x10, x11, x41 => if x41 = true then (some false) else (impl_ascending_tunOf.l0 k x0 x1 x9 x10 (wrap64 (x11 + 1)))
end
def impl_ascending_tunOf.f (k : Nat) (l0 : List (S95)) (a1 : Int)  : Option (Bool) := impl_ascending_tunOf.l0 k l0 a1 l0 (l0.length : Int) 0
def impl_ascending_tunOf.T4 : Bool × List (List Nat × List Nat) := (true, [([], []), ([0], [0]), ([1], [1]), ([2, 1], [2]), ([3], [3]), ([4, 3], [3, 4]), ([3], [3]), ([5, 6, 3], [3, 5, 6]), ([3, 7], [3, 7]), ([8, 3], [8]), ([9], [9]), ([10, 9], [9, 10]), ([11, 9, 9], [9, 11]), ([12], [12]), ([12], [12]), ([12], [12]), ([15, 12], [12, 15]), ([14, 16, 12], [12, 14, 16]), ([17, 12], [12, 17]), ([13, 18, 12, 12], [12, 13, 18]), ([12], [12]), ([12], [12]), ([20, 21, 19, 12], [12, 20, 21]), ([19, 22, 12], [12, 19, 22]), ([12, 23, 9], [9, 12, 23]), ([9, 24], [9, 24])])
def impl_ascending_tunOf.B4 : List Nat := [0, 1, 3, 7, 15, 31, 15, 127, 255, 511, 1023, 2047, 4095, 8191, 8191, 8191, 40959, 122879, 253951, 524287, 8191, 8191, 4194303, 8388607, 16777215, 33554431]
theorem impl_ascending_tunOf.tab4 : rtab .any (opsOf Try.f66 4) = impl_ascending_tunOf.T4 := by kernel_rfl
theorem impl_ascending_tunOf.bits4 : waitsOk impl_ascending_tunOf.T4.2 impl_ascending_tunOf.B4 = true := by kernel_rfl
set_option maxHeartbeats 8000000 in
set_option maxRecDepth 100000 in
theorem impl_ascending_tunOf.calls (k : Nat) (A0 : Option Addr) (c0 : Nat) (l0 : List (S95)) (a1 : Int)  (r : Bool) (w : World) (hr0 : Kd.C k95 w A0 l0.length l0) (hc0 : l0.length ≤ c0) (h : impl_ascending_tunOf.f k l0 a1 = some r) :
  Calls Try.prog 66 #[.slice A0 l0.length c0, .int .i64 a1, .func (.func 67) #[] #[]] w fun e w' => e = .returned (.bool r) ∧ Below w.heap.size w w' := by
 have hu95 := Try.underlying95
 have HR0 := Aside0.mk hr0
 have HC0 := Aside0.mk hc0
 clear hr0 hc0
 have HB := am (Below.refl w.heap.size w)
 have H : (impl_ascending_tunOf.l0 k l0 a1 l0 (l0.length : Int) 0) = some r := h
 clear h
 have H' := Aside0.mk H
 clear H
 go_enter Try.func66, Try.ntmps66
 go_wp2
 go_loopg [11] k (fun kq v11 w' => ∃ (x11_1 : Int), v11 = .int .i64 x11_1 ∧ Aside0 (impl_ascending_tunOf.l0 kq l0 a1 l0 (l0.length : Int) x11_1 = some r) ∧ Aside0 (kq ≤ k) ∧ Aside0 (Below w.heap.size w w'))
 case atStart => exact ⟨(0), (by first | rfl | (simp; done) | (simp [*]; done)), H', ⟨Nat.le_refl _⟩, ⟨KL HB⟩⟩
 case round =>
  clear H'
  try clear p2
  obtain ⟨x11_1, rfl, HA, HK1, HB⟩ := hrel
  cases gk with
  | zero => exact absurd HA.out (by simp [impl_ascending_tunOf.l0])
  | succ k1 =>
   have H := HA.out
   clear HA
   simp only [impl_ascending_tunOf.l0] at H
   by_cases c4 : x11_1 < (l0.length : Int)
   ·rw [if_pos c4] at H
    have c4b0 : decide (x11_1 < (l0.length : Int)) = true := decide_eq_true c4
    clear c4
    by_cases c5 : 0 ≤ x11_1
    ·rw [if_pos c5] at H
     have c5b0 : decide (0 ≤ x11_1) = true := decide_eq_true c5
     clear c5
     by_cases c6 : x11_1 < (l0.length : Int)
     ·rw [if_pos c6] at H
      have c6b0 : decide (x11_1 < (l0.length : Int)) = true := decide_eq_true c6
      clear c6
      have HC7 := Aside0.mk H
      clear H
      have p101 : 0 ≤ (x11_1 : Int) := OD
      have q101 : x11_1 < (l0.length : Int) := OD
      obtain ⟨ad101, A101_10, c101_10, e101, hx101_0, hx101_1, hx101_2, hx101_3, hx101_4, hx101_5, hx101_6, hx101_7, hx101_8, hx101_9, hx101_10, hl101_10, hi101_10⟩ := at_T95 HR0.out x11_1 p101 q101
      cases e101
      replace hx101_0 := CX HB.out hx101_0
      replace hx101_1 := CX HB.out hx101_1
      replace hx101_2 := CX HB.out hx101_2
      replace hx101_3 := CX HB.out hx101_3
      replace hx101_4 := CX HB.out hx101_4
      replace hx101_5 := CX HB.out hx101_5
      replace hx101_6 := CX HB.out hx101_6
      replace hx101_7 := CX HB.out hx101_7
      replace hx101_8 := CX HB.out hx101_8
      replace hx101_9 := CX HB.out hx101_9
      replace hx101_10 := CX HB.out hx101_10
      have HR101_10 := Aside0.mk hi101_10
      have HC101_10 := Aside0.mk hl101_10
      clear hi101_10 hl101_10
      replace p101 := eq_true p101
      replace q101 := eq_true q101
      go_upto_region 4 with (first | ((with_reducible refine gate_dst (N := 8) rfl ?_); refine box_event rfl (N := 8) rfl (cs := #[.int .i64 0, .int .i64 0, .string (⟨#[]⟩ : ByteArray), .string (⟨#[]⟩ : ByteArray), .int .i64 0, .int .i64 0, .int .i64 0, .int .i64 0, .int .i64 0, .int .i64 0, .slice none 0 0]) (t := 95) BX ?_; intro gb102 hg w8 hbox hb; have BK102 := am (hbox); have GW102 := am (GH HB hg); have GE102 := GW102; replace HB := am (below_step (KL HB) hb); clear hb hbox hg; obtain ⟨hcz9_0, hcz9_1, hcz9_2, hcz9_3, hcz9_4, hcz9_5, hcz9_6, hcz9_7, hcz9_8, hcz9_9, hcz9_10, hfz9_0⟩ := y11 w8 BK102.out))
      (try simp only [Act.put, List.setIfInBounds_toArray, List.set_cons_zero, List.set_cons_succ])
      go_cut [41] (fun v41 wc => ∃ (kq : Nat) (x41_6 : Bool), v41 = .bool x41_6 ∧ Aside0 (impl_ascending_tunOf.j1 kq l0 a1 l0 (l0.length : Int) x11_1 x41_6 = some r) ∧ Aside0 (kq ≤ k1) ∧ Aside0 (wc.heap[gb102]? = some (.cells #[.int .i64 ((rd_T95 l0 x11_1).f0), .int .i64 ((rd_T95 l0 x11_1).f1), .string ((rd_T95 l0 x11_1).f2), .string ((rd_T95 l0 x11_1).f3), .int .i64 ((rd_T95 l0 x11_1).f4), .int .i64 ((rd_T95 l0 x11_1).f5), .int .i64 ((rd_T95 l0 x11_1).f6), .int .i64 ((rd_T95 l0 x11_1).f7), .int .i64 ((rd_T95 l0 x11_1).f8), .int .i64 ((rd_T95 l0 x11_1).f9.f0), (.slice A101_10 ((rd_T95 l0 x11_1).f9.f1).length c101_10)] 95 (0, 0))) ∧ Aside0 (Below w.heap.size w wc))
      case first =>
       have H := HC7.out
       clear HC7
       replace H := Option.bind_eq_some_iff.mp H
       obtain ⟨t103, A100, H⟩ := H
       replace H : (if t103 = true then (if ((rd_T95 l0 x11_1).f4) > a1 then (impl_ascending_tunOf.j1 k1 l0 a1 l0 (l0.length : Int) x11_1 true) else (if x11_1 > 0 then (if 0 ≤ (wrap64 (x11_1 - 1)) then (if (wrap64 (x11_1 - 1)) < (l0.length : Int) then ((impl_tunOf.f ((rd_T95 l0 (wrap64 (x11_1 - 1))).f0) ((rd_T95 l0 (wrap64 (x11_1 - 1))).f1) ((rd_T95 l0 (wrap64 (x11_1 - 1))).f2) ((rd_T95 l0 (wrap64 (x11_1 - 1))).f3) ((rd_T95 l0 (wrap64 (x11_1 - 1))).f4) ((rd_T95 l0 (wrap64 (x11_1 - 1))).f5) ((rd_T95 l0 (wrap64 (x11_1 - 1))).f6) ((rd_T95 l0 (wrap64 (x11_1 - 1))).f7) ((rd_T95 l0 (wrap64 (x11_1 - 1))).f8) ((rd_T95 l0 (wrap64 (x11_1 - 1))).f9.f0) ((rd_T95 l0 (wrap64 (x11_1 - 1))).f9.f1)).bind fun t105 => ((impl_tunOf.f ((rd_T95 l0 x11_1).f0) ((rd_T95 l0 x11_1).f1) ((rd_T95 l0 x11_1).f2) ((rd_T95 l0 x11_1).f3) ((rd_T95 l0 x11_1).f4) ((rd_T95 l0 x11_1).f5) ((rd_T95 l0 x11_1).f6) ((rd_T95 l0 x11_1).f7) ((rd_T95 l0 x11_1).f8) ((rd_T95 l0 x11_1).f9.f0) ((rd_T95 l0 x11_1).f9.f1)).bind fun t106 => (impl_ascending_tunOf.j1 k1 l0 a1 l0 (l0.length : Int) x11_1 (decide (t105 ≥ t106))))) else (none)) else (none)) else (impl_ascending_tunOf.j1 k1 l0 a1 l0 (l0.length : Int) x11_1 false))) else (impl_ascending_tunOf.j1 k1 l0 a1 l0 (l0.length : Int) x11_1 true)) = some r := H
       have A10 := Aside0.mk A100
       clear A100
       by_cases c11 : t103 = true
       ·subst c11
        have H1 : (if ((rd_T95 l0 x11_1).f4) > a1 then (impl_ascending_tunOf.j1 k1 l0 a1 l0 (l0.length : Int) x11_1 true) else (if x11_1 > 0 then (if 0 ≤ (wrap64 (x11_1 - 1)) then (if (wrap64 (x11_1 - 1)) < (l0.length : Int) then ((impl_tunOf.f ((rd_T95 l0 (wrap64 (x11_1 - 1))).f0) ((rd_T95 l0 (wrap64 (x11_1 - 1))).f1) ((rd_T95 l0 (wrap64 (x11_1 - 1))).f2) ((rd_T95 l0 (wrap64 (x11_1 - 1))).f3) ((rd_T95 l0 (wrap64 (x11_1 - 1))).f4) ((rd_T95 l0 (wrap64 (x11_1 - 1))).f5) ((rd_T95 l0 (wrap64 (x11_1 - 1))).f6) ((rd_T95 l0 (wrap64 (x11_1 - 1))).f7) ((rd_T95 l0 (wrap64 (x11_1 - 1))).f8) ((rd_T95 l0 (wrap64 (x11_1 - 1))).f9.f0) ((rd_T95 l0 (wrap64 (x11_1 - 1))).f9.f1)).bind fun t105 => ((impl_tunOf.f ((rd_T95 l0 x11_1).f0) ((rd_T95 l0 x11_1).f1) ((rd_T95 l0 x11_1).f2) ((rd_T95 l0 x11_1).f3) ((rd_T95 l0 x11_1).f4) ((rd_T95 l0 x11_1).f5) ((rd_T95 l0 x11_1).f6) ((rd_T95 l0 x11_1).f7) ((rd_T95 l0 x11_1).f8) ((rd_T95 l0 x11_1).f9.f0) ((rd_T95 l0 x11_1).f9.f1)).bind fun t106 => (impl_ascending_tunOf.j1 k1 l0 a1 l0 (l0.length : Int) x11_1 (decide (t105 ≥ t106))))) else (none)) else (none)) else (impl_ascending_tunOf.j1 k1 l0 a1 l0 (l0.length : Int) x11_1 false))) = some r := by rw [if_pos rfl] at H; exact H
        clear H
        have H := H1
        clear H1
        by_cases c12 : ((rd_T95 l0 x11_1).f4) > a1
        ·rw [if_pos c12] at H
         have c12b0 : decide (a1 < ((rd_T95 l0 x11_1).f4)) = true := decide_eq_true c12
         clear c12
         (first | rw [c12b0] | (simp only [i64_w, i32_w]; rw [c12b0]) | skip)
         have H' := Aside0.mk H
         clear H
         try go_wp2
         generalize hq_ : (((((((((((w8.setCell ⟨gb102, 0, none⟩ (.int .i64 ((rd_T95 l0 x11_1).f0))).setCell ⟨gb102, 1, none⟩ (.int .i64 ((rd_T95 l0 x11_1).f1))).setCell ⟨gb102, 2, none⟩ (.string ((rd_T95 l0 x11_1).f2))).setCell ⟨gb102, 3, none⟩ (.string ((rd_T95 l0 x11_1).f3))).setCell ⟨gb102, 4, none⟩ (.int .i64 ((rd_T95 l0 x11_1).f4))).setCell ⟨gb102, 5, none⟩ (.int .i64 ((rd_T95 l0 x11_1).f5))).setCell ⟨gb102, 6, none⟩ (.int .i64 ((rd_T95 l0 x11_1).f6))).setCell ⟨gb102, 7, none⟩ (.int .i64 ((rd_T95 l0 x11_1).f7))).setCell ⟨gb102, 8, none⟩ (.int .i64 ((rd_T95 l0 x11_1).f8))).setCell ⟨gb102, 9, none⟩ (.int .i64 ((rd_T95 l0 x11_1).f9.f0))).setCell ⟨gb102, 10, none⟩ (.slice A101_10 ((rd_T95 l0 x11_1).f9.f1).length c101_10)) = w13
         have n0_ : Aside0 (w13.heap[gb102]? = some (.cells #[.int .i64 ((rd_T95 l0 x11_1).f0), .int .i64 ((rd_T95 l0 x11_1).f1), .string ((rd_T95 l0 x11_1).f2), .string ((rd_T95 l0 x11_1).f3), .int .i64 ((rd_T95 l0 x11_1).f4), .int .i64 ((rd_T95 l0 x11_1).f5), .int .i64 ((rd_T95 l0 x11_1).f6), .int .i64 ((rd_T95 l0 x11_1).f7), .int .i64 ((rd_T95 l0 x11_1).f8), .int .i64 ((rd_T95 l0 x11_1).f9.f0), .slice A101_10 ((rd_T95 l0 x11_1).f9.f1).length c101_10] 95 (0, 0))) := ⟨by rw [← hq_]; exact P11 BK102⟩
         have n1_ : Aside0 (Below w.heap.size w w13) := ⟨by rw [← hq_]; exact K1 HB GE102.out⟩
         clear hq_
         (try clear BK102)
         (try clear HB)
         have BK102 := n0_
         have HB := n1_
         clear n0_ n1_
         replace BK102 := am (blk_drew BK102.out)
         replace HB := am (below_drew1 HB.out)
         refine start_ (n := 26) (S := fun w' => de11 w' gb102 (.int .i64 ((rd_T95 l0 x11_1).f0)) (.int .i64 ((rd_T95 l0 x11_1).f1)) (.string ((rd_T95 l0 x11_1).f2)) (.string ((rd_T95 l0 x11_1).f3)) (.int .i64 ((rd_T95 l0 x11_1).f4)) (.int .i64 ((rd_T95 l0 x11_1).f5)) (.int .i64 ((rd_T95 l0 x11_1).f6)) (.int .i64 ((rd_T95 l0 x11_1).f7)) (.int .i64 ((rd_T95 l0 x11_1).f8)) (.int .i64 ((rd_T95 l0 x11_1).f9.f0)) (.slice A101_10 ((rd_T95 l0 x11_1).f9.f1).length c101_10)) (ds := []) (tf 0 26) (by kernel_rfl) rfl rfl ⟨z0 _ BK102.out, z1 _ BK102.out, z2 _ BK102.out, z3 _ BK102.out, z4 _ BK102.out, z5 _ BK102.out, z6 _ BK102.out, z7 _ BK102.out, z8 _ BK102.out, z9 _ BK102.out, z10 _ BK102.out⟩ (fun hHeld => ?_); refine with_tabW impl_ascending_tunOf.tab4 impl_ascending_tunOf.bits4 (fun HT_ HW_ => ?_)
         generalize w13.drew = w14 at BK102 HB hHeld ⊢
         refine tk 0 (some 16) (tf 1 25) (take_ofW HT_.out HW_.out (by kernel_rfl)) hHeld ?_
         refine one_ (i := 1) (N := some 17) (tf 2 24) rfl rfl (one_of HT_.out (by kernel_rfl)) (by decide) (fun K hK => ?_)
         refine goes_ Try.func111 (by kernel_rfl) rfl #[.agg #[.int .i64 ((rd_T95 l0 x11_1).f0), .int .i64 ((rd_T95 l0 x11_1).f1), .string ((rd_T95 l0 x11_1).f2), .string ((rd_T95 l0 x11_1).f3), .int .i64 ((rd_T95 l0 x11_1).f4), .int .i64 ((rd_T95 l0 x11_1).f5), .int .i64 ((rd_T95 l0 x11_1).f6), .int .i64 ((rd_T95 l0 x11_1).f7), .int .i64 ((rd_T95 l0 x11_1).f8), .int .i64 ((rd_T95 l0 x11_1).f9.f0), .slice A101_10 ((rd_T95 l0 x11_1).f9.f1).length c101_10]] (by rfl) rfl rfl MT ?_
         with_reducible refine (impl_SaOk.calls k1 ((rd_T95 l0 x11_1).f0) ((rd_T95 l0 x11_1).f1) ((rd_T95 l0 x11_1).f2) ((rd_T95 l0 x11_1).f3) ((rd_T95 l0 x11_1).f4) ((rd_T95 l0 x11_1).f5) ((rd_T95 l0 x11_1).f6) ((rd_T95 l0 x11_1).f7) ((rd_T95 l0 x11_1).f8) ((rd_T95 l0 x11_1).f9.f0) _ _ ((rd_T95 l0 x11_1).f9.f1) true _ ?side1 ?side2 A10.out).mono ?_
         (case side1 => exact KD HR101_10 HB)
         (case side2 => exact HC101_10.out)
         rintro e w15 ⟨rfl, hb⟩
         refine ⟨_, rfl, ?_⟩
         replace BK102 := am (BB BK102 hb)
         replace HB := am (below_step (K1 HB GE102.out) hb)
         (try clear hb)
         (try clear hb2)
         (try clear hk)
         (try clear hi)
         refine hK.out _ _ ⟨z0 _ BK102.out, z1 _ BK102.out, z2 _ BK102.out, z3 _ BK102.out, z4 _ BK102.out, z5 _ BK102.out, z6 _ BK102.out, z7 _ BK102.out, z8 _ BK102.out, z9 _ BK102.out, z10 _ BK102.out⟩ (fun hHeld => ?_)
         clear hK K
         refine norm_ (a' := ?_) ?_ ?_
         rotate_left
         ·show Act.put _ (some 17) _ = _
          simp only [Act.put, List.setIfInBounds_toArray, List.set_cons_zero, List.set_cons_succ, i64_w, i32_w]
          rfl
         refine pv HT_ 2 18 (tf 3 23) ?_
         refine pv HT_ 3 19 (tf 4 22) ?_
         refine pv HT_ 4 20 (tf 5 21) ?_
         refine pv HT_ 6 22 (tr [5, 1, 1, 19]) ?_
         refine tk 5 (some 21) (tf 7 19) (take_ofW HT_.out HW_.out (by kernel_rfl)) hHeld ?_
         refine pv HT_ 7 23 (tf 8 18) ?_
         refine pv HT_ 8 24 (tf 9 17) ?_
         refine pv HT_ 9 25 (tf 10 16) ?_
         refine pw HT_ 10 26 (tf 11 15) ?_
         refine pw HT_ 11 27 (tf 12 14) ?_
         refine pw HT_ 12 28 (tf 13 13) ?_
         refine pw HT_ 13 29 (tf 14 12) ?_
         refine pw HT_ 14 30 (tf 15 11) ?_
         refine pw HT_ 15 31 (tf 16 10) ?_
         refine pw HT_ 16 32 (tf 17 9) ?_
         refine pw HT_ 17 33 (tf 18 8) ?_
         refine pw HT_ 18 34 (tf 19 7) ?_
         refine pw HT_ 19 35 (tf 20 6) ?_
         refine pw HT_ 20 36 (tf 21 5) ?_
         refine pw HT_ 21 37 (tf 22 4) ?_
         refine pw HT_ 22 38 (tf 23 3) ?_
         refine pw HT_ 23 39 (tf 24 2) ?_
         refine pw HT_ 24 40 (tf 25 1) ?_
         refine pv HT_ 25 41 (tf 26 0) ?_
         refine done_ (done_of HT_.out (by kernel_rfl)) ?_
         try go_wp2
         go_meet
         case rel => exact ⟨_, (true), (by first | rfl | (simp; done) | (simp [*]; done)), H', ⟨by have := HK1.out; first | omega | exact Nat.le_refl _⟩, ⟨KB BK102⟩, ⟨K1 HB GE102.out⟩⟩
        ·rw [if_neg c12] at H
         have c12b0 : decide (a1 < ((rd_T95 l0 x11_1).f4)) = false := decide_eq_false c12
         clear c12
         (first | rw [c12b0] | (simp only [i64_w, i32_w]; rw [c12b0]) | skip)
         by_cases c16 : x11_1 > 0
         ·rw [if_pos c16] at H
          have c16b0 : decide (0 < x11_1) = true := decide_eq_true c16
          clear c16
          obtain ⟨ji17, hji17⟩ : ∃ j_ : Int, (wrap64 (x11_1 - 1)) = j_ := ⟨_, rfl⟩
          replace H : (if 0 ≤ (ji17) then (if (ji17) < (l0.length : Int) then ((impl_tunOf.f ((rd_T95 l0 (ji17)).f0) ((rd_T95 l0 (ji17)).f1) ((rd_T95 l0 (ji17)).f2) ((rd_T95 l0 (ji17)).f3) ((rd_T95 l0 (ji17)).f4) ((rd_T95 l0 (ji17)).f5) ((rd_T95 l0 (ji17)).f6) ((rd_T95 l0 (ji17)).f7) ((rd_T95 l0 (ji17)).f8) ((rd_T95 l0 (ji17)).f9.f0) ((rd_T95 l0 (ji17)).f9.f1)).bind fun t105 => ((impl_tunOf.f ((rd_T95 l0 x11_1).f0) ((rd_T95 l0 x11_1).f1) ((rd_T95 l0 x11_1).f2) ((rd_T95 l0 x11_1).f3) ((rd_T95 l0 x11_1).f4) ((rd_T95 l0 x11_1).f5) ((rd_T95 l0 x11_1).f6) ((rd_T95 l0 x11_1).f7) ((rd_T95 l0 x11_1).f8) ((rd_T95 l0 x11_1).f9.f0) ((rd_T95 l0 x11_1).f9.f1)).bind fun t106 => (impl_ascending_tunOf.j1 k1 l0 a1 l0 (l0.length : Int) x11_1 (decide (t105 ≥ t106))))) else (none)) else (none)) = some r := by first | (rw [hji17] at H; exact H) | (simp only [hji17] at H ⊢; exact H)
          (try rw [hji17] at A10)
          have hji17w : (IntKind.i64.wrap (x11_1 - 1)) = ji17 := (i64_w _).trans hji17
          by_cases c18 : 0 ≤ (ji17)
          ·rw [if_pos c18] at H
           have c18b0 : decide (0 ≤ (ji17)) = true := decide_eq_true c18
           clear c18
           by_cases c19 : (ji17) < (l0.length : Int)
           ·rw [if_pos c19] at H
            have c19b0 : decide ((ji17) < (l0.length : Int)) = true := decide_eq_true c19
            clear c19
            replace H := Option.bind_eq_some_iff.mp H
            obtain ⟨t105, A200, H⟩ := H
            replace H : ((impl_tunOf.f ((rd_T95 l0 x11_1).f0) ((rd_T95 l0 x11_1).f1) ((rd_T95 l0 x11_1).f2) ((rd_T95 l0 x11_1).f3) ((rd_T95 l0 x11_1).f4) ((rd_T95 l0 x11_1).f5) ((rd_T95 l0 x11_1).f6) ((rd_T95 l0 x11_1).f7) ((rd_T95 l0 x11_1).f8) ((rd_T95 l0 x11_1).f9.f0) ((rd_T95 l0 x11_1).f9.f1)).bind fun t106 => (impl_ascending_tunOf.j1 k1 l0 a1 l0 (l0.length : Int) x11_1 (decide (t105 ≥ t106)))) = some r := H
            have A20 := Aside0.mk A200
            clear A200
            replace H := Option.bind_eq_some_iff.mp H
            obtain ⟨t106, A210, H⟩ := H
            replace H : (impl_ascending_tunOf.j1 k1 l0 a1 l0 (l0.length : Int) x11_1 (decide (t105 ≥ t106))) = some r := H
            have A21 := Aside0.mk A210
            clear A210
            have H' := Aside0.mk H
            clear H
            try go_wp2
            generalize hq_ : (((((((((((w8.setCell ⟨gb102, 0, none⟩ (.int .i64 ((rd_T95 l0 x11_1).f0))).setCell ⟨gb102, 1, none⟩ (.int .i64 ((rd_T95 l0 x11_1).f1))).setCell ⟨gb102, 2, none⟩ (.string ((rd_T95 l0 x11_1).f2))).setCell ⟨gb102, 3, none⟩ (.string ((rd_T95 l0 x11_1).f3))).setCell ⟨gb102, 4, none⟩ (.int .i64 ((rd_T95 l0 x11_1).f4))).setCell ⟨gb102, 5, none⟩ (.int .i64 ((rd_T95 l0 x11_1).f5))).setCell ⟨gb102, 6, none⟩ (.int .i64 ((rd_T95 l0 x11_1).f6))).setCell ⟨gb102, 7, none⟩ (.int .i64 ((rd_T95 l0 x11_1).f7))).setCell ⟨gb102, 8, none⟩ (.int .i64 ((rd_T95 l0 x11_1).f8))).setCell ⟨gb102, 9, none⟩ (.int .i64 ((rd_T95 l0 x11_1).f9.f0))).setCell ⟨gb102, 10, none⟩ (.slice A101_10 ((rd_T95 l0 x11_1).f9.f1).length c101_10)) = w22
            have n0_ : Aside0 (w22.heap[gb102]? = some (.cells #[.int .i64 ((rd_T95 l0 x11_1).f0), .int .i64 ((rd_T95 l0 x11_1).f1), .string ((rd_T95 l0 x11_1).f2), .string ((rd_T95 l0 x11_1).f3), .int .i64 ((rd_T95 l0 x11_1).f4), .int .i64 ((rd_T95 l0 x11_1).f5), .int .i64 ((rd_T95 l0 x11_1).f6), .int .i64 ((rd_T95 l0 x11_1).f7), .int .i64 ((rd_T95 l0 x11_1).f8), .int .i64 ((rd_T95 l0 x11_1).f9.f0), .slice A101_10 ((rd_T95 l0 x11_1).f9.f1).length c101_10] 95 (0, 0))) := ⟨by rw [← hq_]; exact P11 BK102⟩
            have n1_ : Aside0 (Below w.heap.size w w22) := ⟨by rw [← hq_]; exact K1 HB GE102.out⟩
            clear hq_
            (try clear BK102)
            (try clear HB)
            have BK102 := n0_
            have HB := n1_
            clear n0_ n1_
            replace BK102 := am (blk_drew BK102.out)
            replace HB := am (below_drew1 HB.out)
            have p104 : 0 ≤ ((ji17) : Int) := OD
            have q104 : (ji17) < (l0.length : Int) := OD
            obtain ⟨ad104, A104_10, c104_10, e104, hx104_0, hx104_1, hx104_2, hx104_3, hx104_4, hx104_5, hx104_6, hx104_7, hx104_8, hx104_9, hx104_10, hl104_10, hi104_10⟩ := at_T95 HR0.out (ji17) p104 q104
            have hw104_10 := hx104_10
            have hw104_9 := hx104_9
            have hw104_8 := hx104_8
            have hw104_7 := hx104_7
            have hw104_6 := hx104_6
            have hw104_5 := hx104_5
            have hw104_4 := hx104_4
            have hw104_3 := hx104_3
            have hw104_2 := hx104_2
            have hw104_1 := hx104_1
            have hw104_0 := hx104_0
            obtain rfl : ad101 = ad104 := (by injection e104)
            replace hx104_0 := CX HB.out hx104_0
            replace hx104_1 := CX HB.out hx104_1
            replace hx104_2 := CX HB.out hx104_2
            replace hx104_3 := CX HB.out hx104_3
            replace hx104_4 := CX HB.out hx104_4
            replace hx104_5 := CX HB.out hx104_5
            replace hx104_6 := CX HB.out hx104_6
            replace hx104_7 := CX HB.out hx104_7
            replace hx104_8 := CX HB.out hx104_8
            replace hx104_9 := CX HB.out hx104_9
            replace hx104_10 := CX HB.out hx104_10
            have HR104_10 := Aside0.mk hi104_10
            have HC104_10 := Aside0.mk hl104_10
            clear hi104_10 hl104_10
            replace p104 := eq_true p104
            replace q104 := eq_true q104
            refine start_ (n := 26) (S := fun w' => ce11 w' gb102 (.int .i64 ((rd_T95 l0 x11_1).f0)) (.int .i64 ((rd_T95 l0 x11_1).f1)) (.string ((rd_T95 l0 x11_1).f2)) (.string ((rd_T95 l0 x11_1).f3)) (.int .i64 ((rd_T95 l0 x11_1).f4)) (.int .i64 ((rd_T95 l0 x11_1).f5)) (.int .i64 ((rd_T95 l0 x11_1).f6)) (.int .i64 ((rd_T95 l0 x11_1).f7)) (.int .i64 ((rd_T95 l0 x11_1).f8)) (.int .i64 ((rd_T95 l0 x11_1).f9.f0)) (.slice A101_10 ((rd_T95 l0 x11_1).f9.f1).length c101_10) (w'.cell? (ad101.add (((ji17)).toNat * 11)) = some (.int .i64 ((rd_T95 l0 (ji17)).f0)) ∧ w'.cell? ⟨(ad101.add (((ji17)).toNat * 11)).block, (ad101.add (((ji17)).toNat * 11)).off + 1, none⟩ = some (.int .i64 ((rd_T95 l0 (ji17)).f1)) ∧ w'.cell? ⟨(ad101.add (((ji17)).toNat * 11)).block, (ad101.add (((ji17)).toNat * 11)).off + 2, none⟩ = some (.string ((rd_T95 l0 (ji17)).f2)) ∧ w'.cell? ⟨(ad101.add (((ji17)).toNat * 11)).block, (ad101.add (((ji17)).toNat * 11)).off + 3, none⟩ = some (.string ((rd_T95 l0 (ji17)).f3)) ∧ w'.cell? ⟨(ad101.add (((ji17)).toNat * 11)).block, (ad101.add (((ji17)).toNat * 11)).off + 4, none⟩ = some (.int .i64 ((rd_T95 l0 (ji17)).f4)) ∧ w'.cell? ⟨(ad101.add (((ji17)).toNat * 11)).block, (ad101.add (((ji17)).toNat * 11)).off + 5, none⟩ = some (.int .i64 ((rd_T95 l0 (ji17)).f5)) ∧ w'.cell? ⟨(ad101.add (((ji17)).toNat * 11)).block, (ad101.add (((ji17)).toNat * 11)).off + 6, none⟩ = some (.int .i64 ((rd_T95 l0 (ji17)).f6)) ∧ w'.cell? ⟨(ad101.add (((ji17)).toNat * 11)).block, (ad101.add (((ji17)).toNat * 11)).off + 7, none⟩ = some (.int .i64 ((rd_T95 l0 (ji17)).f7)) ∧ w'.cell? ⟨(ad101.add (((ji17)).toNat * 11)).block, (ad101.add (((ji17)).toNat * 11)).off + 8, none⟩ = some (.int .i64 ((rd_T95 l0 (ji17)).f8)) ∧ w'.cell? ⟨(ad101.add (((ji17)).toNat * 11)).block, (ad101.add (((ji17)).toNat * 11)).off + 9, none⟩ = some (.int .i64 ((rd_T95 l0 (ji17)).f9.f0)) ∧ w'.cell? ⟨(ad101.add (((ji17)).toNat * 11)).block, (ad101.add (((ji17)).toNat * 11)).off + 10, none⟩ = some (.slice A104_10 ((rd_T95 l0 (ji17)).f9.f1).length c104_10))) (ds := []) (tf 0 26) (by kernel_rfl) rfl rfl ⟨z0 _ BK102.out, z1 _ BK102.out, z2 _ BK102.out, z3 _ BK102.out, z4 _ BK102.out, z5 _ BK102.out, z6 _ BK102.out, z7 _ BK102.out, z8 _ BK102.out, z9 _ BK102.out, z10 _ BK102.out, (CY HB.out hw104_0), (CY HB.out hw104_1), (CY HB.out hw104_2), (CY HB.out hw104_3), (CY HB.out hw104_4), (CY HB.out hw104_5), (CY HB.out hw104_6), (CY HB.out hw104_7), (CY HB.out hw104_8), (CY HB.out hw104_9), (CY HB.out hw104_10)⟩ (fun hHeld => ?_); refine with_tabW impl_ascending_tunOf.tab4 impl_ascending_tunOf.bits4 (fun HT_ HW_ => ?_)
            generalize w22.drew = w23 at BK102 HB HR104_10 hx104_0 hx104_1 hx104_10 hx104_2 hx104_3 hx104_4 hx104_5 hx104_6 hx104_7 hx104_8 hx104_9 hHeld ⊢
            refine tk 0 (some 16) (tf 1 25) (take_ofW HT_.out HW_.out (by kernel_rfl)) hHeld ?_
            refine one_ (i := 1) (N := some 17) (tf 2 24) rfl rfl (one_of HT_.out (by kernel_rfl)) (by decide) (fun K hK => ?_)
            refine goes_ Try.func111 (by kernel_rfl) rfl #[.agg #[.int .i64 ((rd_T95 l0 x11_1).f0), .int .i64 ((rd_T95 l0 x11_1).f1), .string ((rd_T95 l0 x11_1).f2), .string ((rd_T95 l0 x11_1).f3), .int .i64 ((rd_T95 l0 x11_1).f4), .int .i64 ((rd_T95 l0 x11_1).f5), .int .i64 ((rd_T95 l0 x11_1).f6), .int .i64 ((rd_T95 l0 x11_1).f7), .int .i64 ((rd_T95 l0 x11_1).f8), .int .i64 ((rd_T95 l0 x11_1).f9.f0), .slice A101_10 ((rd_T95 l0 x11_1).f9.f1).length c101_10]] (by rfl) rfl rfl MT ?_
            with_reducible refine (impl_SaOk.calls k1 ((rd_T95 l0 x11_1).f0) ((rd_T95 l0 x11_1).f1) ((rd_T95 l0 x11_1).f2) ((rd_T95 l0 x11_1).f3) ((rd_T95 l0 x11_1).f4) ((rd_T95 l0 x11_1).f5) ((rd_T95 l0 x11_1).f6) ((rd_T95 l0 x11_1).f7) ((rd_T95 l0 x11_1).f8) ((rd_T95 l0 x11_1).f9.f0) _ _ ((rd_T95 l0 x11_1).f9.f1) true _ ?side1 ?side2 A10.out).mono ?_
            (case side1 => exact KD HR101_10 HB)
            (case side2 => exact HC101_10.out)
            rintro e w24 ⟨rfl, hb⟩
            refine ⟨_, rfl, ?_⟩
            replace BK102 := am (BB BK102 hb)
            replace HB := am (below_step (K1 HB GE102.out) hb)
            (try clear hb)
            (try clear hb2)
            (try clear hk)
            (try clear hi)
            refine hK.out _ _ ⟨z0 _ BK102.out, z1 _ BK102.out, z2 _ BK102.out, z3 _ BK102.out, z4 _ BK102.out, z5 _ BK102.out, z6 _ BK102.out, z7 _ BK102.out, z8 _ BK102.out, z9 _ BK102.out, z10 _ BK102.out, (CY HB.out hw104_0), (CY HB.out hw104_1), (CY HB.out hw104_2), (CY HB.out hw104_3), (CY HB.out hw104_4), (CY HB.out hw104_5), (CY HB.out hw104_6), (CY HB.out hw104_7), (CY HB.out hw104_8), (CY HB.out hw104_9), (CY HB.out hw104_10)⟩ (fun hHeld => ?_)
            clear hK K
            refine norm_ (a' := ?_) ?_ ?_
            rotate_left
            ·show Act.put _ (some 17) _ = _
             simp only [Act.put, List.setIfInBounds_toArray, List.set_cons_zero, List.set_cons_succ, i64_w, i32_w]
             rfl
            refine pv HT_ 2 18 (tf 3 23) ?_
            refine pv HT_ 3 19 (tf 4 22) ?_
            refine pv HT_ 4 20 (tf 5 21) ?_
            refine pv HT_ 6 22 (tr [5, 1, 1, 19]) ?_
            refine tk 5 (some 21) (tf 7 19) (take_ofW HT_.out HW_.out (by kernel_rfl)) hHeld ?_
            refine pv HT_ 7 23 (tf 8 18) ?_
            refine pv HT_ 8 24 (tf 9 17) ?_
            refine pv HT_ 9 25 (tf 10 16) ?_
            refine pv HT_ 10 26 (tf 11 15) ?_
            refine pv HT_ 11 27 (tf 12 14) ?_
            refine pv HT_ 12 28 (tf 13 13) ?_
            refine pv HT_ 13 29 (tf 14 12) ?_
            refine pv HT_ 14 30 (tf 15 11) ?_
            refine pv HT_ 15 31 (tf 16 10) ?_
            refine pv HT_ 16 32 (tf 17 9) ?_
            refine pv HT_ 17 33 (tf 18 8) ?_
            refine pv HT_ 20 36 (tr [18, 2, 1, 5]) ?_
            refine tk 18 (some 34) (tr [19, 1, 1, 5]) (take_ofW HT_.out HW_.out (by kernel_rfl)) hHeld ?_
            refine tk 21 (some 37) (tr [19, 1, 2, 4]) (take_ofW HT_.out HW_.out (by kernel_rfl)) hHeld ?_
            refine one_ (i := 19) (N := some 35) (tf 22 4) rfl rfl (one_of HT_.out (by kernel_rfl)) (by decide) (fun K hK => ?_)
            refine goesW_ Try.func67 (by kernel_rfl) rfl #[.agg #[.int .i64 ((rd_T95 l0 (ji17)).f0), .int .i64 ((rd_T95 l0 (ji17)).f1), .string ((rd_T95 l0 (ji17)).f2), .string ((rd_T95 l0 (ji17)).f3), .int .i64 ((rd_T95 l0 (ji17)).f4), .int .i64 ((rd_T95 l0 (ji17)).f5), .int .i64 ((rd_T95 l0 (ji17)).f6), .int .i64 ((rd_T95 l0 (ji17)).f7), .int .i64 ((rd_T95 l0 (ji17)).f8), .int .i64 ((rd_T95 l0 (ji17)).f9.f0), .slice A104_10 ((rd_T95 l0 (ji17)).f9.f1).length c104_10]] (by rfl) rfl rfl (by first | rfl | (simp [Act.eval, Act.put]; done)) (by (try simp only [List.map_toArray, List.map_cons, List.map_nil]); first | done | (simp only [hji17]; rfl) | rfl | (simp only [List.length_drop, List.length_take]; rfl)) ?_
            with_reducible refine (impl_tunOf.calls ((rd_T95 l0 (ji17)).f0) ((rd_T95 l0 (ji17)).f1) ((rd_T95 l0 (ji17)).f2) ((rd_T95 l0 (ji17)).f3) ((rd_T95 l0 (ji17)).f4) ((rd_T95 l0 (ji17)).f5) ((rd_T95 l0 (ji17)).f6) ((rd_T95 l0 (ji17)).f7) ((rd_T95 l0 (ji17)).f8) ((rd_T95 l0 (ji17)).f9.f0) _ _ ((rd_T95 l0 (ji17)).f9.f1) t105 _ ?side1 ?side2 A20.out).mono ?_
            (case side1 => exact KD HR104_10 HB)
            (case side2 => exact HC104_10.out)
            rintro e w25 ⟨rfl, hb⟩
            refine ⟨_, rfl, ?_⟩
            replace BK102 := am (BB BK102 hb)
            replace HB := am (below_step (K1 HB GE102.out) hb)
            (try clear hb)
            (try clear hb2)
            (try clear hk)
            (try clear hi)
            refine hK.out _ _ ⟨z0 _ BK102.out, z1 _ BK102.out, z2 _ BK102.out, z3 _ BK102.out, z4 _ BK102.out, z5 _ BK102.out, z6 _ BK102.out, z7 _ BK102.out, z8 _ BK102.out, z9 _ BK102.out, z10 _ BK102.out, (CY HB.out hw104_0), (CY HB.out hw104_1), (CY HB.out hw104_2), (CY HB.out hw104_3), (CY HB.out hw104_4), (CY HB.out hw104_5), (CY HB.out hw104_6), (CY HB.out hw104_7), (CY HB.out hw104_8), (CY HB.out hw104_9), (CY HB.out hw104_10)⟩ (fun hHeld => ?_)
            clear hK K
            refine norm_ (a' := ?_) ?_ ?_
            rotate_left
            ·show Act.put _ (some 35) _ = _
             simp only [Act.put, List.setIfInBounds_toArray, List.set_cons_zero, List.set_cons_succ, i64_w, i32_w]
             rfl
            refine one_ (i := 22) (N := some 38) (tf 23 3) rfl rfl (one_of HT_.out (by kernel_rfl)) (by decide) (fun K hK => ?_)
            refine goesW_ Try.func67 (by kernel_rfl) rfl #[.agg #[.int .i64 ((rd_T95 l0 x11_1).f0), .int .i64 ((rd_T95 l0 x11_1).f1), .string ((rd_T95 l0 x11_1).f2), .string ((rd_T95 l0 x11_1).f3), .int .i64 ((rd_T95 l0 x11_1).f4), .int .i64 ((rd_T95 l0 x11_1).f5), .int .i64 ((rd_T95 l0 x11_1).f6), .int .i64 ((rd_T95 l0 x11_1).f7), .int .i64 ((rd_T95 l0 x11_1).f8), .int .i64 ((rd_T95 l0 x11_1).f9.f0), .slice A101_10 ((rd_T95 l0 x11_1).f9.f1).length c101_10]] (by rfl) rfl rfl (by first | rfl | (simp [Act.eval, Act.put]; done)) MT ?_
            with_reducible refine (impl_tunOf.calls ((rd_T95 l0 x11_1).f0) ((rd_T95 l0 x11_1).f1) ((rd_T95 l0 x11_1).f2) ((rd_T95 l0 x11_1).f3) ((rd_T95 l0 x11_1).f4) ((rd_T95 l0 x11_1).f5) ((rd_T95 l0 x11_1).f6) ((rd_T95 l0 x11_1).f7) ((rd_T95 l0 x11_1).f8) ((rd_T95 l0 x11_1).f9.f0) _ _ ((rd_T95 l0 x11_1).f9.f1) t106 _ ?side1 ?side2 A21.out).mono ?_
            (case side1 => exact KD HR101_10 HB)
            (case side2 => exact HC101_10.out)
            rintro e w26 ⟨rfl, hb⟩
            refine ⟨_, rfl, ?_⟩
            replace BK102 := am (BB BK102 hb)
            replace HB := am (below_step (K1 HB GE102.out) hb)
            (try clear hb)
            (try clear hb2)
            (try clear hk)
            (try clear hi)
            refine hK.out _ _ ⟨z0 _ BK102.out, z1 _ BK102.out, z2 _ BK102.out, z3 _ BK102.out, z4 _ BK102.out, z5 _ BK102.out, z6 _ BK102.out, z7 _ BK102.out, z8 _ BK102.out, z9 _ BK102.out, z10 _ BK102.out, (CY HB.out hw104_0), (CY HB.out hw104_1), (CY HB.out hw104_2), (CY HB.out hw104_3), (CY HB.out hw104_4), (CY HB.out hw104_5), (CY HB.out hw104_6), (CY HB.out hw104_7), (CY HB.out hw104_8), (CY HB.out hw104_9), (CY HB.out hw104_10)⟩ (fun hHeld => ?_)
            clear hK K
            refine norm_ (a' := ?_) ?_ ?_
            rotate_left
            ·show Act.put _ (some 38) _ = _
             simp only [Act.put, List.setIfInBounds_toArray, List.set_cons_zero, List.set_cons_succ, i64_w, i32_w]
             rfl
            refine pv HT_ 23 39 (tf 24 2) ?_
            refine pv HT_ 24 40 (tf 25 1) ?_
            refine pv HT_ 25 41 (tf 26 0) ?_
            refine done_ (done_of HT_.out (by kernel_rfl)) ?_
            try go_wp2
            go_meet
            case rel => exact ⟨_, (decide (t105 ≥ t106)), (by first | rfl | (simp; done) | (simp [*]; done)), H', ⟨by have := HK1.out; first | omega | exact Nat.le_refl _⟩, ⟨KB BK102⟩, ⟨K1 HB GE102.out⟩⟩
           ·rw [if_neg c19] at H
            exact absurd H (by simp)
          ·rw [if_neg c18] at H
           exact absurd H (by simp)
         ·rw [if_neg c16] at H
          have c16b0 : decide (0 < x11_1) = false := decide_eq_false c16
          clear c16
          have H' := Aside0.mk H
          clear H
          try go_wp2
          generalize hq_ : (((((((((((w8.setCell ⟨gb102, 0, none⟩ (.int .i64 ((rd_T95 l0 x11_1).f0))).setCell ⟨gb102, 1, none⟩ (.int .i64 ((rd_T95 l0 x11_1).f1))).setCell ⟨gb102, 2, none⟩ (.string ((rd_T95 l0 x11_1).f2))).setCell ⟨gb102, 3, none⟩ (.string ((rd_T95 l0 x11_1).f3))).setCell ⟨gb102, 4, none⟩ (.int .i64 ((rd_T95 l0 x11_1).f4))).setCell ⟨gb102, 5, none⟩ (.int .i64 ((rd_T95 l0 x11_1).f5))).setCell ⟨gb102, 6, none⟩ (.int .i64 ((rd_T95 l0 x11_1).f6))).setCell ⟨gb102, 7, none⟩ (.int .i64 ((rd_T95 l0 x11_1).f7))).setCell ⟨gb102, 8, none⟩ (.int .i64 ((rd_T95 l0 x11_1).f8))).setCell ⟨gb102, 9, none⟩ (.int .i64 ((rd_T95 l0 x11_1).f9.f0))).setCell ⟨gb102, 10, none⟩ (.slice A101_10 ((rd_T95 l0 x11_1).f9.f1).length c101_10)) = w27
          have n0_ : Aside0 (w27.heap[gb102]? = some (.cells #[.int .i64 ((rd_T95 l0 x11_1).f0), .int .i64 ((rd_T95 l0 x11_1).f1), .string ((rd_T95 l0 x11_1).f2), .string ((rd_T95 l0 x11_1).f3), .int .i64 ((rd_T95 l0 x11_1).f4), .int .i64 ((rd_T95 l0 x11_1).f5), .int .i64 ((rd_T95 l0 x11_1).f6), .int .i64 ((rd_T95 l0 x11_1).f7), .int .i64 ((rd_T95 l0 x11_1).f8), .int .i64 ((rd_T95 l0 x11_1).f9.f0), .slice A101_10 ((rd_T95 l0 x11_1).f9.f1).length c101_10] 95 (0, 0))) := ⟨by rw [← hq_]; exact P11 BK102⟩
          have n1_ : Aside0 (Below w.heap.size w w27) := ⟨by rw [← hq_]; exact K1 HB GE102.out⟩
          clear hq_
          (try clear BK102)
          (try clear HB)
          have BK102 := n0_
          have HB := n1_
          clear n0_ n1_
          replace BK102 := am (blk_drew BK102.out)
          replace HB := am (below_drew1 HB.out)
          refine start_ (n := 26) (S := fun w' => de11 w' gb102 (.int .i64 ((rd_T95 l0 x11_1).f0)) (.int .i64 ((rd_T95 l0 x11_1).f1)) (.string ((rd_T95 l0 x11_1).f2)) (.string ((rd_T95 l0 x11_1).f3)) (.int .i64 ((rd_T95 l0 x11_1).f4)) (.int .i64 ((rd_T95 l0 x11_1).f5)) (.int .i64 ((rd_T95 l0 x11_1).f6)) (.int .i64 ((rd_T95 l0 x11_1).f7)) (.int .i64 ((rd_T95 l0 x11_1).f8)) (.int .i64 ((rd_T95 l0 x11_1).f9.f0)) (.slice A101_10 ((rd_T95 l0 x11_1).f9.f1).length c101_10)) (ds := []) (tf 0 26) (by kernel_rfl) rfl rfl ⟨z0 _ BK102.out, z1 _ BK102.out, z2 _ BK102.out, z3 _ BK102.out, z4 _ BK102.out, z5 _ BK102.out, z6 _ BK102.out, z7 _ BK102.out, z8 _ BK102.out, z9 _ BK102.out, z10 _ BK102.out⟩ (fun hHeld => ?_); refine with_tabW impl_ascending_tunOf.tab4 impl_ascending_tunOf.bits4 (fun HT_ HW_ => ?_)
          generalize w27.drew = w28 at BK102 HB hHeld ⊢
          refine tk 0 (some 16) (tf 1 25) (take_ofW HT_.out HW_.out (by kernel_rfl)) hHeld ?_
          refine one_ (i := 1) (N := some 17) (tf 2 24) rfl rfl (one_of HT_.out (by kernel_rfl)) (by decide) (fun K hK => ?_)
          refine goes_ Try.func111 (by kernel_rfl) rfl #[.agg #[.int .i64 ((rd_T95 l0 x11_1).f0), .int .i64 ((rd_T95 l0 x11_1).f1), .string ((rd_T95 l0 x11_1).f2), .string ((rd_T95 l0 x11_1).f3), .int .i64 ((rd_T95 l0 x11_1).f4), .int .i64 ((rd_T95 l0 x11_1).f5), .int .i64 ((rd_T95 l0 x11_1).f6), .int .i64 ((rd_T95 l0 x11_1).f7), .int .i64 ((rd_T95 l0 x11_1).f8), .int .i64 ((rd_T95 l0 x11_1).f9.f0), .slice A101_10 ((rd_T95 l0 x11_1).f9.f1).length c101_10]] (by rfl) rfl rfl MT ?_
          with_reducible refine (impl_SaOk.calls k1 ((rd_T95 l0 x11_1).f0) ((rd_T95 l0 x11_1).f1) ((rd_T95 l0 x11_1).f2) ((rd_T95 l0 x11_1).f3) ((rd_T95 l0 x11_1).f4) ((rd_T95 l0 x11_1).f5) ((rd_T95 l0 x11_1).f6) ((rd_T95 l0 x11_1).f7) ((rd_T95 l0 x11_1).f8) ((rd_T95 l0 x11_1).f9.f0) _ _ ((rd_T95 l0 x11_1).f9.f1) true _ ?side1 ?side2 A10.out).mono ?_
          (case side1 => exact KD HR101_10 HB)
          (case side2 => exact HC101_10.out)
          rintro e w29 ⟨rfl, hb⟩
          refine ⟨_, rfl, ?_⟩
          replace BK102 := am (BB BK102 hb)
          replace HB := am (below_step (K1 HB GE102.out) hb)
          (try clear hb)
          (try clear hb2)
          (try clear hk)
          (try clear hi)
          refine hK.out _ _ ⟨z0 _ BK102.out, z1 _ BK102.out, z2 _ BK102.out, z3 _ BK102.out, z4 _ BK102.out, z5 _ BK102.out, z6 _ BK102.out, z7 _ BK102.out, z8 _ BK102.out, z9 _ BK102.out, z10 _ BK102.out⟩ (fun hHeld => ?_)
          clear hK K
          refine norm_ (a' := ?_) ?_ ?_
          rotate_left
          ·show Act.put _ (some 17) _ = _
           simp only [Act.put, List.setIfInBounds_toArray, List.set_cons_zero, List.set_cons_succ, i64_w, i32_w]
           rfl
          refine pv HT_ 2 18 (tf 3 23) ?_
          refine pv HT_ 3 19 (tf 4 22) ?_
          refine pv HT_ 4 20 (tf 5 21) ?_
          refine pv HT_ 6 22 (tr [5, 1, 1, 19]) ?_
          refine tk 5 (some 21) (tf 7 19) (take_ofW HT_.out HW_.out (by kernel_rfl)) hHeld ?_
          refine pv HT_ 7 23 (tf 8 18) ?_
          refine pv HT_ 8 24 (tf 9 17) ?_
          refine pv HT_ 9 25 (tf 10 16) ?_
          refine pv HT_ 10 26 (tf 11 15) ?_
          refine pv HT_ 11 27 (tf 12 14) ?_
          refine pv HT_ 12 28 (tf 13 13) ?_
          refine pw HT_ 13 29 (tf 14 12) ?_
          refine pw HT_ 14 30 (tf 15 11) ?_
          refine pw HT_ 15 31 (tf 16 10) ?_
          refine pw HT_ 16 32 (tf 17 9) ?_
          refine pw HT_ 17 33 (tf 18 8) ?_
          refine pw HT_ 18 34 (tf 19 7) ?_
          refine pw HT_ 19 35 (tf 20 6) ?_
          refine pw HT_ 20 36 (tf 21 5) ?_
          refine pw HT_ 21 37 (tf 22 4) ?_
          refine pw HT_ 22 38 (tf 23 3) ?_
          refine pw HT_ 23 39 (tf 24 2) ?_
          refine pv HT_ 24 40 (tf 25 1) ?_
          refine pv HT_ 25 41 (tf 26 0) ?_
          refine done_ (done_of HT_.out (by kernel_rfl)) ?_
          try go_wp2
          go_meet
          case rel => exact ⟨_, (false), (by first | rfl | (simp; done) | (simp [*]; done)), H', ⟨by have := HK1.out; first | omega | exact Nat.le_refl _⟩, ⟨KB BK102⟩, ⟨K1 HB GE102.out⟩⟩
       ·replace c11 := Bool.eq_false_iff.mpr c11
        subst c11
        have H1 : (impl_ascending_tunOf.j1 k1 l0 a1 l0 (l0.length : Int) x11_1 true) = some r := by rw [if_neg (show ¬ (false = true) by decide)] at H; exact H
        clear H
        have H := H1
        clear H1
        have H' := Aside0.mk H
        clear H
        try go_wp2
        generalize hq_ : (((((((((((w8.setCell ⟨gb102, 0, none⟩ (.int .i64 ((rd_T95 l0 x11_1).f0))).setCell ⟨gb102, 1, none⟩ (.int .i64 ((rd_T95 l0 x11_1).f1))).setCell ⟨gb102, 2, none⟩ (.string ((rd_T95 l0 x11_1).f2))).setCell ⟨gb102, 3, none⟩ (.string ((rd_T95 l0 x11_1).f3))).setCell ⟨gb102, 4, none⟩ (.int .i64 ((rd_T95 l0 x11_1).f4))).setCell ⟨gb102, 5, none⟩ (.int .i64 ((rd_T95 l0 x11_1).f5))).setCell ⟨gb102, 6, none⟩ (.int .i64 ((rd_T95 l0 x11_1).f6))).setCell ⟨gb102, 7, none⟩ (.int .i64 ((rd_T95 l0 x11_1).f7))).setCell ⟨gb102, 8, none⟩ (.int .i64 ((rd_T95 l0 x11_1).f8))).setCell ⟨gb102, 9, none⟩ (.int .i64 ((rd_T95 l0 x11_1).f9.f0))).setCell ⟨gb102, 10, none⟩ (.slice A101_10 ((rd_T95 l0 x11_1).f9.f1).length c101_10)) = w30
        have n0_ : Aside0 (w30.heap[gb102]? = some (.cells #[.int .i64 ((rd_T95 l0 x11_1).f0), .int .i64 ((rd_T95 l0 x11_1).f1), .string ((rd_T95 l0 x11_1).f2), .string ((rd_T95 l0 x11_1).f3), .int .i64 ((rd_T95 l0 x11_1).f4), .int .i64 ((rd_T95 l0 x11_1).f5), .int .i64 ((rd_T95 l0 x11_1).f6), .int .i64 ((rd_T95 l0 x11_1).f7), .int .i64 ((rd_T95 l0 x11_1).f8), .int .i64 ((rd_T95 l0 x11_1).f9.f0), .slice A101_10 ((rd_T95 l0 x11_1).f9.f1).length c101_10] 95 (0, 0))) := ⟨by rw [← hq_]; exact P11 BK102⟩
        have n1_ : Aside0 (Below w.heap.size w w30) := ⟨by rw [← hq_]; exact K1 HB GE102.out⟩
        clear hq_
        (try clear BK102)
        (try clear HB)
        have BK102 := n0_
        have HB := n1_
        clear n0_ n1_
        replace BK102 := am (blk_drew BK102.out)
        replace HB := am (below_drew1 HB.out)
        refine start_ (n := 26) (S := fun w' => de11 w' gb102 (.int .i64 ((rd_T95 l0 x11_1).f0)) (.int .i64 ((rd_T95 l0 x11_1).f1)) (.string ((rd_T95 l0 x11_1).f2)) (.string ((rd_T95 l0 x11_1).f3)) (.int .i64 ((rd_T95 l0 x11_1).f4)) (.int .i64 ((rd_T95 l0 x11_1).f5)) (.int .i64 ((rd_T95 l0 x11_1).f6)) (.int .i64 ((rd_T95 l0 x11_1).f7)) (.int .i64 ((rd_T95 l0 x11_1).f8)) (.int .i64 ((rd_T95 l0 x11_1).f9.f0)) (.slice A101_10 ((rd_T95 l0 x11_1).f9.f1).length c101_10)) (ds := []) (tf 0 26) (by kernel_rfl) rfl rfl ⟨z0 _ BK102.out, z1 _ BK102.out, z2 _ BK102.out, z3 _ BK102.out, z4 _ BK102.out, z5 _ BK102.out, z6 _ BK102.out, z7 _ BK102.out, z8 _ BK102.out, z9 _ BK102.out, z10 _ BK102.out⟩ (fun hHeld => ?_); refine with_tabW impl_ascending_tunOf.tab4 impl_ascending_tunOf.bits4 (fun HT_ HW_ => ?_)
        generalize w30.drew = w31 at BK102 HB hHeld ⊢
        refine tk 0 (some 16) (tf 1 25) (take_ofW HT_.out HW_.out (by kernel_rfl)) hHeld ?_
        refine one_ (i := 1) (N := some 17) (tf 2 24) rfl rfl (one_of HT_.out (by kernel_rfl)) (by decide) (fun K hK => ?_)
        refine goes_ Try.func111 (by kernel_rfl) rfl #[.agg #[.int .i64 ((rd_T95 l0 x11_1).f0), .int .i64 ((rd_T95 l0 x11_1).f1), .string ((rd_T95 l0 x11_1).f2), .string ((rd_T95 l0 x11_1).f3), .int .i64 ((rd_T95 l0 x11_1).f4), .int .i64 ((rd_T95 l0 x11_1).f5), .int .i64 ((rd_T95 l0 x11_1).f6), .int .i64 ((rd_T95 l0 x11_1).f7), .int .i64 ((rd_T95 l0 x11_1).f8), .int .i64 ((rd_T95 l0 x11_1).f9.f0), .slice A101_10 ((rd_T95 l0 x11_1).f9.f1).length c101_10]] (by rfl) rfl rfl MT ?_
        with_reducible refine (impl_SaOk.calls k1 ((rd_T95 l0 x11_1).f0) ((rd_T95 l0 x11_1).f1) ((rd_T95 l0 x11_1).f2) ((rd_T95 l0 x11_1).f3) ((rd_T95 l0 x11_1).f4) ((rd_T95 l0 x11_1).f5) ((rd_T95 l0 x11_1).f6) ((rd_T95 l0 x11_1).f7) ((rd_T95 l0 x11_1).f8) ((rd_T95 l0 x11_1).f9.f0) _ _ ((rd_T95 l0 x11_1).f9.f1) false _ ?side1 ?side2 A10.out).mono ?_
        (case side1 => exact KD HR101_10 HB)
        (case side2 => exact HC101_10.out)
        rintro e w32 ⟨rfl, hb⟩
        refine ⟨_, rfl, ?_⟩
        replace BK102 := am (BB BK102 hb)
        replace HB := am (below_step (K1 HB GE102.out) hb)
        (try clear hb)
        (try clear hb2)
        (try clear hk)
        (try clear hi)
        refine hK.out _ _ ⟨z0 _ BK102.out, z1 _ BK102.out, z2 _ BK102.out, z3 _ BK102.out, z4 _ BK102.out, z5 _ BK102.out, z6 _ BK102.out, z7 _ BK102.out, z8 _ BK102.out, z9 _ BK102.out, z10 _ BK102.out⟩ (fun hHeld => ?_)
        clear hK K
        refine norm_ (a' := ?_) ?_ ?_
        rotate_left
        ·show Act.put _ (some 17) _ = _
         simp only [Act.put, List.setIfInBounds_toArray, List.set_cons_zero, List.set_cons_succ, i64_w, i32_w]
         rfl
        refine pv HT_ 2 18 (tf 3 23) ?_
        refine pv HT_ 3 19 (tf 4 22) ?_
        refine pw HT_ 4 20 (tf 5 21) ?_
        refine pw HT_ 5 21 (tf 6 20) ?_
        refine pw HT_ 6 22 (tf 7 19) ?_
        refine pw HT_ 7 23 (tf 8 18) ?_
        refine pv HT_ 8 24 (tf 9 17) ?_
        refine pv HT_ 9 25 (tf 10 16) ?_
        refine pw HT_ 10 26 (tf 11 15) ?_
        refine pw HT_ 11 27 (tf 12 14) ?_
        refine pw HT_ 12 28 (tf 13 13) ?_
        refine pw HT_ 13 29 (tf 14 12) ?_
        refine pw HT_ 14 30 (tf 15 11) ?_
        refine pw HT_ 15 31 (tf 16 10) ?_
        refine pw HT_ 16 32 (tf 17 9) ?_
        refine pw HT_ 17 33 (tf 18 8) ?_
        refine pw HT_ 18 34 (tf 19 7) ?_
        refine pw HT_ 19 35 (tf 20 6) ?_
        refine pw HT_ 20 36 (tf 21 5) ?_
        refine pw HT_ 21 37 (tf 22 4) ?_
        refine pw HT_ 22 38 (tf 23 3) ?_
        refine pw HT_ 23 39 (tf 24 2) ?_
        refine pw HT_ 24 40 (tf 25 1) ?_
        refine pv HT_ 25 41 (tf 26 0) ?_
        refine done_ (done_of HT_.out (by kernel_rfl)) ?_
        try go_wp2
        go_meet
        case rel => exact ⟨_, (true), (by first | rfl | (simp; done) | (simp [*]; done)), H', ⟨by have := HK1.out; first | omega | exact Nat.le_refl _⟩, ⟨KB BK102⟩, ⟨K1 HB GE102.out⟩⟩
      case rest =>
       clear HC7
       try clear c1
       try clear p2
       try clear c6
       try clear c10
       try clear c11
       try clear c16
       try clear c16b0
       try clear c18
       try clear c19
       obtain ⟨kq, x41_6, rfl, HA, HJ6, BK102, HB⟩ := hcut
       cases kq with
       | zero => exact absurd HA.out (by simp [impl_ascending_tunOf.j1])
       | succ kj6 =>
        have H := HA.out
        clear HA
        simp only [impl_ascending_tunOf.j1] at H
        by_cases c33 : x41_6 = true
        ·subst c33
         have H1 : (some false) = some r := by rw [if_pos rfl] at H; exact H
         clear H
         have H := H1
         clear H1
         obtain rfl := Option.some.inj H
         go_wp2
         go_ret
         exact ⟨ER, K1 HB GE102.out⟩
        ·replace c33 := Bool.eq_false_iff.mpr c33
         subst c33
         have H1 : (impl_ascending_tunOf.l0 kj6 l0 a1 l0 (l0.length : Int) (wrap64 (x11_1 + 1))) = some r := by rw [if_neg (show ¬ (false = true) by decide)] at H; exact H
         clear H
         have H := H1
         clear H1
         have H' := Aside0.mk H
         clear H
         go_wp2
         go_roundg kj6
         case measure => have := HK1.out; have := HJ6.out; omega
         case rel => exact ⟨(wrap64 (x11_1 + 1)), (by first | rfl | (simp; done) | (simp [*]; done)), H', ⟨by have := HK1.out; have := HJ6.out; omega⟩, ⟨K1 HB GE102.out⟩⟩
     ·rw [if_neg c6] at H
      exact absurd H (by simp)
    ·rw [if_neg c5] at H
     exact absurd H (by simp)
   ·rw [if_neg c4] at H
    have c4b0 : decide (x11_1 < (l0.length : Int)) = false := decide_eq_false c4
    clear c4
    obtain rfl := Option.some.inj H
    go_wp2
    go_ret
    exact ⟨ER, KL HB⟩
mutual
def impl_ascending_spiOf.l0 : Nat → List (S95) → Int → List (S95) → Int → Int → Option (Bool)
 | 0, _, _, _, _, _ => none
 | k + 1, x0, x1, x9, x10, x11 => if x11 < x10 then (if 0 ≤ x11 then (if x11 < (x9.length : Int) then ((impl_SaOk.f k ((rd_T95 x9 x11).f0) ((rd_T95 x9 x11).f1) ((rd_T95 x9 x11).f2) ((rd_T95 x9 x11).f3) ((rd_T95 x9 x11).f4) ((rd_T95 x9 x11).f5) ((rd_T95 x9 x11).f6) ((rd_T95 x9 x11).f7) ((rd_T95 x9 x11).f8) ((rd_T95 x9 x11).f9.f0) ((rd_T95 x9 x11).f9.f1)).bind fun t103 => (if t103 = true then (if ((rd_T95 x9 x11).f4) > x1 then (impl_ascending_spiOf.j1 k x0 x1 x9 x10 x11 true) else (if x11 > 0 then (if 0 ≤ (wrap64 (x11 - 1)) then (if (wrap64 (x11 - 1)) < (x0.length : Int) then ((impl_spiOf.f ((rd_T95 x0 (wrap64 (x11 - 1))).f0) ((rd_T95 x0 (wrap64 (x11 - 1))).f1) ((rd_T95 x0 (wrap64 (x11 - 1))).f2) ((rd_T95 x0 (wrap64 (x11 - 1))).f3) ((rd_T95 x0 (wrap64 (x11 - 1))).f4) ((rd_T95 x0 (wrap64 (x11 - 1))).f5) ((rd_T95 x0 (wrap64 (x11 - 1))).f6) ((rd_T95 x0 (wrap64 (x11 - 1))).f7) ((rd_T95 x0 (wrap64 (x11 - 1))).f8) ((rd_T95 x0 (wrap64 (x11 - 1))).f9.f0) ((rd_T95 x0 (wrap64 (x11 - 1))).f9.f1)).bind fun t105 => ((impl_spiOf.f ((rd_T95 x9 x11).f0) ((rd_T95 x9 x11).f1) ((rd_T95 x9 x11).f2) ((rd_T95 x9 x11).f3) ((rd_T95 x9 x11).f4) ((rd_T95 x9 x11).f5) ((rd_T95 x9 x11).f6) ((rd_T95 x9 x11).f7) ((rd_T95 x9 x11).f8) ((rd_T95 x9 x11).f9.f0) ((rd_T95 x9 x11).f9.f1)).bind fun t106 => (impl_ascending_spiOf.j1 k x0 x1 x9 x10 x11 (decide (t105 ≥ t106))))) else (none)) else (none)) else (impl_ascending_spiOf.j1 k x0 x1 x9 x10 x11 false))) else (impl_ascending_spiOf.j1 k x0 x1 x9 x10 x11 true))) else (none)) else (none)) else (some true)
def impl_ascending_spiOf.j1 : Nat → List (S95) → Int → List (S95) → Int → Int → Bool → Option (Bool)
 | 0, _, _, _, _, _, _ => none
 | k + 1, x0, x1, x9, x10, x11, x41 => if x41 = true then (some false) else (impl_ascending_spiOf.l0 k x0 x1 x9 x10 (wrap64 (x11 + 1)))
end
def impl_ascending_spiOf.f (k : Nat) (l0 : List (S95)) (a1 : Int)  : Option (Bool) := impl_ascending_spiOf.l0 k l0 a1 l0 (l0.length : Int) 0
def impl_ascending_spiOf.T4 : Bool × List (List Nat × List Nat) := (true, [([], []), ([0], [0]), ([1], [1]), ([2, 1], [2]), ([3], [3]), ([4, 3], [3, 4]), ([3], [3]), ([5, 6, 3], [3, 5, 6]), ([3, 7], [3, 7]), ([8, 3], [8]), ([9], [9]), ([10, 9], [9, 10]), ([11, 9, 9], [9, 11]), ([12], [12]), ([12], [12]), ([12], [12]), ([15, 12], [12, 15]), ([14, 16, 12], [12, 14, 16]), ([17, 12], [12, 17]), ([13, 18, 12, 12], [12, 13, 18]), ([12], [12]), ([12], [12]), ([20, 21, 19, 12], [12, 20, 21]), ([19, 22, 12], [12, 19, 22]), ([12, 23, 9], [9, 12, 23]), ([9, 24], [9, 24])])
def impl_ascending_spiOf.B4 : List Nat := [0, 1, 3, 7, 15, 31, 15, 127, 255, 511, 1023, 2047, 4095, 8191, 8191, 8191, 40959, 122879, 253951, 524287, 8191, 8191, 4194303, 8388607, 16777215, 33554431]
theorem impl_ascending_spiOf.tab4 : rtab .any (opsOf Try.f66 4) = impl_ascending_spiOf.T4 := by kernel_rfl
theorem impl_ascending_spiOf.bits4 : waitsOk impl_ascending_spiOf.T4.2 impl_ascending_spiOf.B4 = true := by kernel_rfl
set_option maxHeartbeats 8000000 in
set_option maxRecDepth 100000 in
theorem impl_ascending_spiOf.calls (k : Nat) (A0 : Option Addr) (c0 : Nat) (l0 : List (S95)) (a1 : Int)  (r : Bool) (w : World) (hr0 : Kd.C k95 w A0 l0.length l0) (hc0 : l0.length ≤ c0) (h : impl_ascending_spiOf.f k l0 a1 = some r) :
  Calls Try.prog 66 #[.slice A0 l0.length c0, .int .i64 a1, .func (.func 68) #[] #[]] w fun e w' => e = .returned (.bool r) ∧ Below w.heap.size w w' := by
 have hu95 := Try.underlying95
 have HR0 := Aside0.mk hr0
 have HC0 := Aside0.mk hc0
 clear hr0 hc0
 have HB := am (Below.refl w.heap.size w)
 have H : (impl_ascending_spiOf.l0 k l0 a1 l0 (l0.length : Int) 0) = some r := h
 clear h
 have H' := Aside0.mk H
 clear H
 go_enter Try.func66, Try.ntmps66
 go_wp2
 go_loopg [11] k (fun kq v11 w' => ∃ (x11_1 : Int), v11 = .int .i64 x11_1 ∧ Aside0 (impl_ascending_spiOf.l0 kq l0 a1 l0 (l0.length : Int) x11_1 = some r) ∧ Aside0 (kq ≤ k) ∧ Aside0 (Below w.heap.size w w'))
 case atStart => exact ⟨(0), (by first | rfl | (simp; done) | (simp [*]; done)), H', ⟨Nat.le_refl _⟩, ⟨KL HB⟩⟩
 case round =>
  clear H'
  try clear p2
  obtain ⟨x11_1, rfl, HA, HK1, HB⟩ := hrel
  cases gk with
  | zero => exact absurd HA.out (by simp [impl_ascending_spiOf.l0])
  | succ k1 =>
   have H := HA.out
   clear HA
   simp only [impl_ascending_spiOf.l0] at H
   by_cases c4 : x11_1 < (l0.length : Int)
   ·rw [if_pos c4] at H
    have c4b0 : decide (x11_1 < (l0.length : Int)) = true := decide_eq_true c4
    clear c4
    by_cases c5 : 0 ≤ x11_1
    ·rw [if_pos c5] at H
     have c5b0 : decide (0 ≤ x11_1) = true := decide_eq_true c5
     clear c5
     by_cases c6 : x11_1 < (l0.length : Int)
     ·rw [if_pos c6] at H
      have c6b0 : decide (x11_1 < (l0.length : Int)) = true := decide_eq_true c6
      clear c6
      have HC7 := Aside0.mk H
      clear H
      have p101 : 0 ≤ (x11_1 : Int) := OD
      have q101 : x11_1 < (l0.length : Int) := OD
      obtain ⟨ad101, A101_10, c101_10, e101, hx101_0, hx101_1, hx101_2, hx101_3, hx101_4, hx101_5, hx101_6, hx101_7, hx101_8, hx101_9, hx101_10, hl101_10, hi101_10⟩ := at_T95 HR0.out x11_1 p101 q101
      cases e101
      replace hx101_0 := CX HB.out hx101_0
      replace hx101_1 := CX HB.out hx101_1
      replace hx101_2 := CX HB.out hx101_2
      replace hx101_3 := CX HB.out hx101_3
      replace hx101_4 := CX HB.out hx101_4
      replace hx101_5 := CX HB.out hx101_5
      replace hx101_6 := CX HB.out hx101_6
      replace hx101_7 := CX HB.out hx101_7
      replace hx101_8 := CX HB.out hx101_8
      replace hx101_9 := CX HB.out hx101_9
      replace hx101_10 := CX HB.out hx101_10
      have HR101_10 := Aside0.mk hi101_10
      have HC101_10 := Aside0.mk hl101_10
      clear hi101_10 hl101_10
      replace p101 := eq_true p101
      replace q101 := eq_true q101
      go_upto_region 4 with (first | ((with_reducible refine gate_dst (N := 8) rfl ?_); refine box_event rfl (N := 8) rfl (cs := #[.int .i64 0, .int .i64 0, .string (⟨#[]⟩ : ByteArray), .string (⟨#[]⟩ : ByteArray), .int .i64 0, .int .i64 0, .int .i64 0, .int .i64 0, .int .i64 0, .int .i64 0, .slice none 0 0]) (t := 95) BX ?_; intro gb102 hg w8 hbox hb; have BK102 := am (hbox); have GW102 := am (GH HB hg); have GE102 := GW102; replace HB := am (below_step (KL HB) hb); clear hb hbox hg; obtain ⟨hcz9_0, hcz9_1, hcz9_2, hcz9_3, hcz9_4, hcz9_5, hcz9_6, hcz9_7, hcz9_8, hcz9_9, hcz9_10, hfz9_0⟩ := y11 w8 BK102.out))
      (try simp only [Act.put, List.setIfInBounds_toArray, List.set_cons_zero, List.set_cons_succ])
      go_cut [41] (fun v41 wc => ∃ (kq : Nat) (x41_6 : Bool), v41 = .bool x41_6 ∧ Aside0 (impl_ascending_spiOf.j1 kq l0 a1 l0 (l0.length : Int) x11_1 x41_6 = some r) ∧ Aside0 (kq ≤ k1) ∧ Aside0 (wc.heap[gb102]? = some (.cells #[.int .i64 ((rd_T95 l0 x11_1).f0), .int .i64 ((rd_T95 l0 x11_1).f1), .string ((rd_T95 l0 x11_1).f2), .string ((rd_T95 l0 x11_1).f3), .int .i64 ((rd_T95 l0 x11_1).f4), .int .i64 ((rd_T95 l0 x11_1).f5), .int .i64 ((rd_T95 l0 x11_1).f6), .int .i64 ((rd_T95 l0 x11_1).f7), .int .i64 ((rd_T95 l0 x11_1).f8), .int .i64 ((rd_T95 l0 x11_1).f9.f0), (.slice A101_10 ((rd_T95 l0 x11_1).f9.f1).length c101_10)] 95 (0, 0))) ∧ Aside0 (Below w.heap.size w wc))
      case first =>
       have H := HC7.out
       clear HC7
       replace H := Option.bind_eq_some_iff.mp H
       obtain ⟨t103, A100, H⟩ := H
       replace H : (if t103 = true then (if ((rd_T95 l0 x11_1).f4) > a1 then (impl_ascending_spiOf.j1 k1 l0 a1 l0 (l0.length : Int) x11_1 true) else (if x11_1 > 0 then (if 0 ≤ (wrap64 (x11_1 - 1)) then (if (wrap64 (x11_1 - 1)) < (l0.length : Int) then ((impl_spiOf.f ((rd_T95 l0 (wrap64 (x11_1 - 1))).f0) ((rd_T95 l0 (wrap64 (x11_1 - 1))).f1) ((rd_T95 l0 (wrap64 (x11_1 - 1))).f2) ((rd_T95 l0 (wrap64 (x11_1 - 1))).f3) ((rd_T95 l0 (wrap64 (x11_1 - 1))).f4) ((rd_T95 l0 (wrap64 (x11_1 - 1))).f5) ((rd_T95 l0 (wrap64 (x11_1 - 1))).f6) ((rd_T95 l0 (wrap64 (x11_1 - 1))).f7) ((rd_T95 l0 (wrap64 (x11_1 - 1))).f8) ((rd_T95 l0 (wrap64 (x11_1 - 1))).f9.f0) ((rd_T95 l0 (wrap64 (x11_1 - 1))).f9.f1)).bind fun t105 => ((impl_spiOf.f ((rd_T95 l0 x11_1).f0) ((rd_T95 l0 x11_1).f1) ((rd_T95 l0 x11_1).f2) ((rd_T95 l0 x11_1).f3) ((rd_T95 l0 x11_1).f4) ((rd_T95 l0 x11_1).f5) ((rd_T95 l0 x11_1).f6) ((rd_T95 l0 x11_1).f7) ((rd_T95 l0 x11_1).f8) ((rd_T95 l0 x11_1).f9.f0) ((rd_T95 l0 x11_1).f9.f1)).bind fun t106 => (impl_ascending_spiOf.j1 k1 l0 a1 l0 (l0.length : Int) x11_1 (decide (t105 ≥ t106))))) else (none)) else (none)) else (impl_ascending_spiOf.j1 k1 l0 a1 l0 (l0.length : Int) x11_1 false))) else (impl_ascending_spiOf.j1 k1 l0 a1 l0 (l0.length : Int) x11_1 true)) = some r := H
       have A10 := Aside0.mk A100
       clear A100
       by_cases c11 : t103 = true
       ·subst c11
        have H1 : (if ((rd_T95 l0 x11_1).f4) > a1 then (impl_ascending_spiOf.j1 k1 l0 a1 l0 (l0.length : Int) x11_1 true) else (if x11_1 > 0 then (if 0 ≤ (wrap64 (x11_1 - 1)) then (if (wrap64 (x11_1 - 1)) < (l0.length : Int) then ((impl_spiOf.f ((rd_T95 l0 (wrap64 (x11_1 - 1))).f0) ((rd_T95 l0 (wrap64 (x11_1 - 1))).f1) ((rd_T95 l0 (wrap64 (x11_1 - 1))).f2) ((rd_T95 l0 (wrap64 (x11_1 - 1))).f3) ((rd_T95 l0 (wrap64 (x11_1 - 1))).f4) ((rd_T95 l0 (wrap64 (x11_1 - 1))).f5) ((rd_T95 l0 (wrap64 (x11_1 - 1))).f6) ((rd_T95 l0 (wrap64 (x11_1 - 1))).f7) ((rd_T95 l0 (wrap64 (x11_1 - 1))).f8) ((rd_T95 l0 (wrap64 (x11_1 - 1))).f9.f0) ((rd_T95 l0 (wrap64 (x11_1 - 1))).f9.f1)).bind fun t105 => ((impl_spiOf.f ((rd_T95 l0 x11_1).f0) ((rd_T95 l0 x11_1).f1) ((rd_T95 l0 x11_1).f2) ((rd_T95 l0 x11_1).f3) ((rd_T95 l0 x11_1).f4) ((rd_T95 l0 x11_1).f5) ((rd_T95 l0 x11_1).f6) ((rd_T95 l0 x11_1).f7) ((rd_T95 l0 x11_1).f8) ((rd_T95 l0 x11_1).f9.f0) ((rd_T95 l0 x11_1).f9.f1)).bind fun t106 => (impl_ascending_spiOf.j1 k1 l0 a1 l0 (l0.length : Int) x11_1 (decide (t105 ≥ t106))))) else (none)) else (none)) else (impl_ascending_spiOf.j1 k1 l0 a1 l0 (l0.length : Int) x11_1 false))) = some r := by rw [if_pos rfl] at H; exact H
        clear H
        have H := H1
        clear H1
        by_cases c12 : ((rd_T95 l0 x11_1).f4) > a1
        ·rw [if_pos c12] at H
         have c12b0 : decide (a1 < ((rd_T95 l0 x11_1).f4)) = true := decide_eq_true c12
         clear c12
         (first | rw [c12b0] | (simp only [i64_w, i32_w]; rw [c12b0]) | skip)
         have H' := Aside0.mk H
         clear H
         try go_wp2
         generalize hq_ : (((((((((((w8.setCell ⟨gb102, 0, none⟩ (.int .i64 ((rd_T95 l0 x11_1).f0))).setCell ⟨gb102, 1, none⟩ (.int .i64 ((rd_T95 l0 x11_1).f1))).setCell ⟨gb102, 2, none⟩ (.string ((rd_T95 l0 x11_1).f2))).setCell ⟨gb102, 3, none⟩ (.string ((rd_T95 l0 x11_1).f3))).setCell ⟨gb102, 4, none⟩ (.int .i64 ((rd_T95 l0 x11_1).f4))).setCell ⟨gb102, 5, none⟩ (.int .i64 ((rd_T95 l0 x11_1).f5))).setCell ⟨gb102, 6, none⟩ (.int .i64 ((rd_T95 l0 x11_1).f6))).setCell ⟨gb102, 7, none⟩ (.int .i64 ((rd_T95 l0 x11_1).f7))).setCell ⟨gb102, 8, none⟩ (.int .i64 ((rd_T95 l0 x11_1).f8))).setCell ⟨gb102, 9, none⟩ (.int .i64 ((rd_T95 l0 x11_1).f9.f0))).setCell ⟨gb102, 10, none⟩ (.slice A101_10 ((rd_T95 l0 x11_1).f9.f1).length c101_10)) = w13
         have n0_ : Aside0 (w13.heap[gb102]? = some (.cells #[.int .i64 ((rd_T95 l0 x11_1).f0), .int .i64 ((rd_T95 l0 x11_1).f1), .string ((rd_T95 l0 x11_1).f2), .string ((rd_T95 l0 x11_1).f3), .int .i64 ((rd_T95 l0 x11_1).f4), .int .i64 ((rd_T95 l0 x11_1).f5), .int .i64 ((rd_T95 l0 x11_1).f6), .int .i64 ((rd_T95 l0 x11_1).f7), .int .i64 ((rd_T95 l0 x11_1).f8), .int .i64 ((rd_T95 l0 x11_1).f9.f0), .slice A101_10 ((rd_T95 l0 x11_1).f9.f1).length c101_10] 95 (0, 0))) := ⟨by rw [← hq_]; exact P11 BK102⟩
         have n1_ : Aside0 (Below w.heap.size w w13) := ⟨by rw [← hq_]; exact K1 HB GE102.out⟩
         clear hq_
         (try clear BK102)
         (try clear HB)
         have BK102 := n0_
         have HB := n1_
         clear n0_ n1_
         replace BK102 := am (blk_drew BK102.out)
         replace HB := am (below_drew1 HB.out)
         refine start_ (n := 26) (S := fun w' => de11 w' gb102 (.int .i64 ((rd_T95 l0 x11_1).f0)) (.int .i64 ((rd_T95 l0 x11_1).f1)) (.string ((rd_T95 l0 x11_1).f2)) (.string ((rd_T95 l0 x11_1).f3)) (.int .i64 ((rd_T95 l0 x11_1).f4)) (.int .i64 ((rd_T95 l0 x11_1).f5)) (.int .i64 ((rd_T95 l0 x11_1).f6)) (.int .i64 ((rd_T95 l0 x11_1).f7)) (.int .i64 ((rd_T95 l0 x11_1).f8)) (.int .i64 ((rd_T95 l0 x11_1).f9.f0)) (.slice A101_10 ((rd_T95 l0 x11_1).f9.f1).length c101_10)) (ds := []) (tf 0 26) (by kernel_rfl) rfl rfl ⟨z0 _ BK102.out, z1 _ BK102.out, z2 _ BK102.out, z3 _ BK102.out, z4 _ BK102.out, z5 _ BK102.out, z6 _ BK102.out, z7 _ BK102.out, z8 _ BK102.out, z9 _ BK102.out, z10 _ BK102.out⟩ (fun hHeld => ?_); refine with_tabW impl_ascending_spiOf.tab4 impl_ascending_spiOf.bits4 (fun HT_ HW_ => ?_)
         generalize w13.drew = w14 at BK102 HB hHeld ⊢
         refine tk 0 (some 16) (tf 1 25) (take_ofW HT_.out HW_.out (by kernel_rfl)) hHeld ?_
         refine one_ (i := 1) (N := some 17) (tf 2 24) rfl rfl (one_of HT_.out (by kernel_rfl)) (by decide) (fun K hK => ?_)
         refine goes_ Try.func111 (by kernel_rfl) rfl #[.agg #[.int .i64 ((rd_T95 l0 x11_1).f0), .int .i64 ((rd_T95 l0 x11_1).f1), .string ((rd_T95 l0 x11_1).f2), .string ((rd_T95 l0 x11_1).f3), .int .i64 ((rd_T95 l0 x11_1).f4), .int .i64 ((rd_T95 l0 x11_1).f5), .int .i64 ((rd_T95 l0 x11_1).f6), .int .i64 ((rd_T95 l0 x11_1).f7), .int .i64 ((rd_T95 l0 x11_1).f8), .int .i64 ((rd_T95 l0 x11_1).f9.f0), .slice A101_10 ((rd_T95 l0 x11_1).f9.f1).length c101_10]] (by rfl) rfl rfl MT ?_
         with_reducible refine (impl_SaOk.calls k1 ((rd_T95 l0 x11_1).f0) ((rd_T95 l0 x11_1).f1) ((rd_T95 l0 x11_1).f2) ((rd_T95 l0 x11_1).f3) ((rd_T95 l0 x11_1).f4) ((rd_T95 l0 x11_1).f5) ((rd_T95 l0 x11_1).f6) ((rd_T95 l0 x11_1).f7) ((rd_T95 l0 x11_1).f8) ((rd_T95 l0 x11_1).f9.f0) _ _ ((rd_T95 l0 x11_1).f9.f1) true _ ?side1 ?side2 A10.out).mono ?_
         (case side1 => exact KD HR101_10 HB)
         (case side2 => exact HC101_10.out)
         rintro e w15 ⟨rfl, hb⟩
         refine ⟨_, rfl, ?_⟩
         replace BK102 := am (BB BK102 hb)
         replace HB := am (below_step (K1 HB GE102.out) hb)
         (try clear hb)
         (try clear hb2)
         (try clear hk)
         (try clear hi)
         refine hK.out _ _ ⟨z0 _ BK102.out, z1 _ BK102.out, z2 _ BK102.out, z3 _ BK102.out, z4 _ BK102.out, z5 _ BK102.out, z6 _ BK102.out, z7 _ BK102.out, z8 _ BK102.out, z9 _ BK102.out, z10 _ BK102.out⟩ (fun hHeld => ?_)
         clear hK K
         refine norm_ (a' := ?_) ?_ ?_
         rotate_left
         ·show Act.put _ (some 17) _ = _
          simp only [Act.put, List.setIfInBounds_toArray, List.set_cons_zero, List.set_cons_succ, i64_w, i32_w]
          rfl
         refine pv HT_ 2 18 (tf 3 23) ?_
         refine pv HT_ 3 19 (tf 4 22) ?_
         refine pv HT_ 4 20 (tf 5 21) ?_
         refine pv HT_ 6 22 (tr [5, 1, 1, 19]) ?_
         refine tk 5 (some 21) (tf 7 19) (take_ofW HT_.out HW_.out (by kernel_rfl)) hHeld ?_
         refine pv HT_ 7 23 (tf 8 18) ?_
         refine pv HT_ 8 24 (tf 9 17) ?_
         refine pv HT_ 9 25 (tf 10 16) ?_
         refine pw HT_ 10 26 (tf 11 15) ?_
         refine pw HT_ 11 27 (tf 12 14) ?_
         refine pw HT_ 12 28 (tf 13 13) ?_
         refine pw HT_ 13 29 (tf 14 12) ?_
         refine pw HT_ 14 30 (tf 15 11) ?_
         refine pw HT_ 15 31 (tf 16 10) ?_
         refine pw HT_ 16 32 (tf 17 9) ?_
         refine pw HT_ 17 33 (tf 18 8) ?_
         refine pw HT_ 18 34 (tf 19 7) ?_
         refine pw HT_ 19 35 (tf 20 6) ?_
         refine pw HT_ 20 36 (tf 21 5) ?_
         refine pw HT_ 21 37 (tf 22 4) ?_
         refine pw HT_ 22 38 (tf 23 3) ?_
         refine pw HT_ 23 39 (tf 24 2) ?_
         refine pw HT_ 24 40 (tf 25 1) ?_
         refine pv HT_ 25 41 (tf 26 0) ?_
         refine done_ (done_of HT_.out (by kernel_rfl)) ?_
         try go_wp2
         go_meet
         case rel => exact ⟨_, (true), (by first | rfl | (simp; done) | (simp [*]; done)), H', ⟨by have := HK1.out; first | omega | exact Nat.le_refl _⟩, ⟨KB BK102⟩, ⟨K1 HB GE102.out⟩⟩
        ·rw [if_neg c12] at H
         have c12b0 : decide (a1 < ((rd_T95 l0 x11_1).f4)) = false := decide_eq_false c12
         clear c12
         (first | rw [c12b0] | (simp only [i64_w, i32_w]; rw [c12b0]) | skip)
         by_cases c16 : x11_1 > 0
         ·rw [if_pos c16] at H
          have c16b0 : decide (0 < x11_1) = true := decide_eq_true c16
          clear c16
          obtain ⟨ji17, hji17⟩ : ∃ j_ : Int, (wrap64 (x11_1 - 1)) = j_ := ⟨_, rfl⟩
          replace H : (if 0 ≤ (ji17) then (if (ji17) < (l0.length : Int) then ((impl_spiOf.f ((rd_T95 l0 (ji17)).f0) ((rd_T95 l0 (ji17)).f1) ((rd_T95 l0 (ji17)).f2) ((rd_T95 l0 (ji17)).f3) ((rd_T95 l0 (ji17)).f4) ((rd_T95 l0 (ji17)).f5) ((rd_T95 l0 (ji17)).f6) ((rd_T95 l0 (ji17)).f7) ((rd_T95 l0 (ji17)).f8) ((rd_T95 l0 (ji17)).f9.f0) ((rd_T95 l0 (ji17)).f9.f1)).bind fun t105 => ((impl_spiOf.f ((rd_T95 l0 x11_1).f0) ((rd_T95 l0 x11_1).f1) ((rd_T95 l0 x11_1).f2) ((rd_T95 l0 x11_1).f3) ((rd_T95 l0 x11_1).f4) ((rd_T95 l0 x11_1).f5) ((rd_T95 l0 x11_1).f6) ((rd_T95 l0 x11_1).f7) ((rd_T95 l0 x11_1).f8) ((rd_T95 l0 x11_1).f9.f0) ((rd_T95 l0 x11_1).f9.f1)).bind fun t106 => (impl_ascending_spiOf.j1 k1 l0 a1 l0 (l0.length : Int) x11_1 (decide (t105 ≥ t106))))) else (none)) else (none)) = some r := by first | (rw [hji17] at H; exact H) | (simp only [hji17] at H ⊢; exact H)
          (try rw [hji17] at A10)
          have hji17w : (IntKind.i64.wrap (x11_1 - 1)) = ji17 := (i64_w _).trans hji17
          by_cases c18 : 0 ≤ (ji17)
          ·rw [if_pos c18] at H
           have c18b0 : decide (0 ≤ (ji17)) = true := decide_eq_true c18
           clear c18
           by_cases c19 : (ji17) < (l0.length : Int)
           ·rw [if_pos c19] at H
            have c19b0 : decide ((ji17) < (l0.length : Int)) = true := decide_eq_true c19
            clear c19
            replace H := Option.bind_eq_some_iff.mp H
            obtain ⟨t105, A200, H⟩ := H
            replace H : ((impl_spiOf.f ((rd_T95 l0 x11_1).f0) ((rd_T95 l0 x11_1).f1) ((rd_T95 l0 x11_1).f2) ((rd_T95 l0 x11_1).f3) ((rd_T95 l0 x11_1).f4) ((rd_T95 l0 x11_1).f5) ((rd_T95 l0 x11_1).f6) ((rd_T95 l0 x11_1).f7) ((rd_T95 l0 x11_1).f8) ((rd_T95 l0 x11_1).f9.f0) ((rd_T95 l0 x11_1).f9.f1)).bind fun t106 => (impl_ascending_spiOf.j1 k1 l0 a1 l0 (l0.length : Int) x11_1 (decide (t105 ≥ t106)))) = some r := H
            have A20 := Aside0.mk A200
            clear A200
            replace H := Option.bind_eq_some_iff.mp H
            obtain ⟨t106, A210, H⟩ := H
            replace H : (impl_ascending_spiOf.j1 k1 l0 a1 l0 (l0.length : Int) x11_1 (decide (t105 ≥ t106))) = some r := H
            have A21 := Aside0.mk A210
            clear A210
            have H' := Aside0.mk H
            clear H
            try go_wp2
            generalize hq_ : (((((((((((w8.setCell ⟨gb102, 0, none⟩ (.int .i64 ((rd_T95 l0 x11_1).f0))).setCell ⟨gb102, 1, none⟩ (.int .i64 ((rd_T95 l0 x11_1).f1))).setCell ⟨gb102, 2, none⟩ (.string ((rd_T95 l0 x11_1).f2))).setCell ⟨gb102, 3, none⟩ (.string ((rd_T95 l0 x11_1).f3))).setCell ⟨gb102, 4, none⟩ (.int .i64 ((rd_T95 l0 x11_1).f4))).setCell ⟨gb102, 5, none⟩ (.int .i64 ((rd_T95 l0 x11_1).f5))).setCell ⟨gb102, 6, none⟩ (.int .i64 ((rd_T95 l0 x11_1).f6))).setCell ⟨gb102, 7, none⟩ (.int .i64 ((rd_T95 l0 x11_1).f7))).setCell ⟨gb102, 8, none⟩ (.int .i64 ((rd_T95 l0 x11_1).f8))).setCell ⟨gb102, 9, none⟩ (.int .i64 ((rd_T95 l0 x11_1).f9.f0))).setCell ⟨gb102, 10, none⟩ (.slice A101_10 ((rd_T95 l0 x11_1).f9.f1).length c101_10)) = w22
            have n0_ : Aside0 (w22.heap[gb102]? = some (.cells #[.int .i64 ((rd_T95 l0 x11_1).f0), .int .i64 ((rd_T95 l0 x11_1).f1), .string ((rd_T95 l0 x11_1).f2), .string ((rd_T95 l0 x11_1).f3), .int .i64 ((rd_T95 l0 x11_1).f4), .int .i64 ((rd_T95 l0 x11_1).f5), .int .i64 ((rd_T95 l0 x11_1).f6), .int .i64 ((rd_T95 l0 x11_1).f7), .int .i64 ((rd_T95 l0 x11_1).f8), .int .i64 ((rd_T95 l0 x11_1).f9.f0), .slice A101_10 ((rd_T95 l0 x11_1).f9.f1).length c101_10] 95 (0, 0))) := ⟨by rw [← hq_]; exact P11 BK102⟩
            have n1_ : Aside0 (Below w.heap.size w w22) := ⟨by rw [← hq_]; exact K1 HB GE102.out⟩
            clear hq_
            (try clear BK102)
            (try clear HB)
            have BK102 := n0_
            have HB := n1_
            clear n0_ n1_
            replace BK102 := am (blk_drew BK102.out)
            replace HB := am (below_drew1 HB.out)
            have p104 : 0 ≤ ((ji17) : Int) := OD
            have q104 : (ji17) < (l0.length : Int) := OD
            obtain ⟨ad104, A104_10, c104_10, e104, hx104_0, hx104_1, hx104_2, hx104_3, hx104_4, hx104_5, hx104_6, hx104_7, hx104_8, hx104_9, hx104_10, hl104_10, hi104_10⟩ := at_T95 HR0.out (ji17) p104 q104
            have hw104_10 := hx104_10
            have hw104_9 := hx104_9
            have hw104_8 := hx104_8
            have hw104_7 := hx104_7
            have hw104_6 := hx104_6
            have hw104_5 := hx104_5
            have hw104_4 := hx104_4
            have hw104_3 := hx104_3
            have hw104_2 := hx104_2
            have hw104_1 := hx104_1
            have hw104_0 := hx104_0
            obtain rfl : ad101 = ad104 := (by injection e104)
            replace hx104_0 := CX HB.out hx104_0
            replace hx104_1 := CX HB.out hx104_1
            replace hx104_2 := CX HB.out hx104_2
            replace hx104_3 := CX HB.out hx104_3
            replace hx104_4 := CX HB.out hx104_4
            replace hx104_5 := CX HB.out hx104_5
            replace hx104_6 := CX HB.out hx104_6
            replace hx104_7 := CX HB.out hx104_7
            replace hx104_8 := CX HB.out hx104_8
            replace hx104_9 := CX HB.out hx104_9
            replace hx104_10 := CX HB.out hx104_10
            have HR104_10 := Aside0.mk hi104_10
            have HC104_10 := Aside0.mk hl104_10
            clear hi104_10 hl104_10
            replace p104 := eq_true p104
            replace q104 := eq_true q104
            refine start_ (n := 26) (S := fun w' => ce11 w' gb102 (.int .i64 ((rd_T95 l0 x11_1).f0)) (.int .i64 ((rd_T95 l0 x11_1).f1)) (.string ((rd_T95 l0 x11_1).f2)) (.string ((rd_T95 l0 x11_1).f3)) (.int .i64 ((rd_T95 l0 x11_1).f4)) (.int .i64 ((rd_T95 l0 x11_1).f5)) (.int .i64 ((rd_T95 l0 x11_1).f6)) (.int .i64 ((rd_T95 l0 x11_1).f7)) (.int .i64 ((rd_T95 l0 x11_1).f8)) (.int .i64 ((rd_T95 l0 x11_1).f9.f0)) (.slice A101_10 ((rd_T95 l0 x11_1).f9.f1).length c101_10) (w'.cell? (ad101.add (((ji17)).toNat * 11)) = some (.int .i64 ((rd_T95 l0 (ji17)).f0)) ∧ w'.cell? ⟨(ad101.add (((ji17)).toNat * 11)).block, (ad101.add (((ji17)).toNat * 11)).off + 1, none⟩ = some (.int .i64 ((rd_T95 l0 (ji17)).f1)) ∧ w'.cell? ⟨(ad101.add (((ji17)).toNat * 11)).block, (ad101.add (((ji17)).toNat * 11)).off + 2, none⟩ = some (.string ((rd_T95 l0 (ji17)).f2)) ∧ w'.cell? ⟨(ad101.add (((ji17)).toNat * 11)).block, (ad101.add (((ji17)).toNat * 11)).off + 3, none⟩ = some (.string ((rd_T95 l0 (ji17)).f3)) ∧ w'.cell? ⟨(ad101.add (((ji17)).toNat * 11)).block, (ad101.add (((ji17)).toNat * 11)).off + 4, none⟩ = some (.int .i64 ((rd_T95 l0 (ji17)).f4)) ∧ w'.cell? ⟨(ad101.add (((ji17)).toNat * 11)).block, (ad101.add (((ji17)).toNat * 11)).off + 5, none⟩ = some (.int .i64 ((rd_T95 l0 (ji17)).f5)) ∧ w'.cell? ⟨(ad101.add (((ji17)).toNat * 11)).block, (ad101.add (((ji17)).toNat * 11)).off + 6, none⟩ = some (.int .i64 ((rd_T95 l0 (ji17)).f6)) ∧ w'.cell? ⟨(ad101.add (((ji17)).toNat * 11)).block, (ad101.add (((ji17)).toNat * 11)).off + 7, none⟩ = some (.int .i64 ((rd_T95 l0 (ji17)).f7)) ∧ w'.cell? ⟨(ad101.add (((ji17)).toNat * 11)).block, (ad101.add (((ji17)).toNat * 11)).off + 8, none⟩ = some (.int .i64 ((rd_T95 l0 (ji17)).f8)) ∧ w'.cell? ⟨(ad101.add (((ji17)).toNat * 11)).block, (ad101.add (((ji17)).toNat * 11)).off + 9, none⟩ = some (.int .i64 ((rd_T95 l0 (ji17)).f9.f0)) ∧ w'.cell? ⟨(ad101.add (((ji17)).toNat * 11)).block, (ad101.add (((ji17)).toNat * 11)).off + 10, none⟩ = some (.slice A104_10 ((rd_T95 l0 (ji17)).f9.f1).length c104_10))) (ds := []) (tf 0 26) (by kernel_rfl) rfl rfl ⟨z0 _ BK102.out, z1 _ BK102.out, z2 _ BK102.out, z3 _ BK102.out, z4 _ BK102.out, z5 _ BK102.out, z6 _ BK102.out, z7 _ BK102.out, z8 _ BK102.out, z9 _ BK102.out, z10 _ BK102.out, (CY HB.out hw104_0), (CY HB.out hw104_1), (CY HB.out hw104_2), (CY HB.out hw104_3), (CY HB.out hw104_4), (CY HB.out hw104_5), (CY HB.out hw104_6), (CY HB.out hw104_7), (CY HB.out hw104_8), (CY HB.out hw104_9), (CY HB.out hw104_10)⟩ (fun hHeld => ?_); refine with_tabW impl_ascending_spiOf.tab4 impl_ascending_spiOf.bits4 (fun HT_ HW_ => ?_)
            generalize w22.drew = w23 at BK102 HB HR104_10 hx104_0 hx104_1 hx104_10 hx104_2 hx104_3 hx104_4 hx104_5 hx104_6 hx104_7 hx104_8 hx104_9 hHeld ⊢
            refine tk 0 (some 16) (tf 1 25) (take_ofW HT_.out HW_.out (by kernel_rfl)) hHeld ?_
            refine one_ (i := 1) (N := some 17) (tf 2 24) rfl rfl (one_of HT_.out (by kernel_rfl)) (by decide) (fun K hK => ?_)
            refine goes_ Try.func111 (by kernel_rfl) rfl #[.agg #[.int .i64 ((rd_T95 l0 x11_1).f0), .int .i64 ((rd_T95 l0 x11_1).f1), .string ((rd_T95 l0 x11_1).f2), .string ((rd_T95 l0 x11_1).f3), .int .i64 ((rd_T95 l0 x11_1).f4), .int .i64 ((rd_T95 l0 x11_1).f5), .int .i64 ((rd_T95 l0 x11_1).f6), .int .i64 ((rd_T95 l0 x11_1).f7), .int .i64 ((rd_T95 l0 x11_1).f8), .int .i64 ((rd_T95 l0 x11_1).f9.f0), .slice A101_10 ((rd_T95 l0 x11_1).f9.f1).length c101_10]] (by rfl) rfl rfl MT ?_
            with_reducible refine (impl_SaOk.calls k1 ((rd_T95 l0 x11_1).f0) ((rd_T95 l0 x11_1).f1) ((rd_T95 l0 x11_1).f2) ((rd_T95 l0 x11_1).f3) ((rd_T95 l0 x11_1).f4) ((rd_T95 l0 x11_1).f5) ((rd_T95 l0 x11_1).f6) ((rd_T95 l0 x11_1).f7) ((rd_T95 l0 x11_1).f8) ((rd_T95 l0 x11_1).f9.f0) _ _ ((rd_T95 l0 x11_1).f9.f1) true _ ?side1 ?side2 A10.out).mono ?_
            (case side1 => exact KD HR101_10 HB)
            (case side2 => exact HC101_10.out)
            rintro e w24 ⟨rfl, hb⟩
            refine ⟨_, rfl, ?_⟩
            replace BK102 := am (BB BK102 hb)
            replace HB := am (below_step (K1 HB GE102.out) hb)
            (try clear hb)
            (try clear hb2)
            (try clear hk)
            (try clear hi)
            refine hK.out _ _ ⟨z0 _ BK102.out, z1 _ BK102.out, z2 _ BK102.out, z3 _ BK102.out, z4 _ BK102.out, z5 _ BK102.out, z6 _ BK102.out, z7 _ BK102.out, z8 _ BK102.out, z9 _ BK102.out, z10 _ BK102.out, (CY HB.out hw104_0), (CY HB.out hw104_1), (CY HB.out hw104_2), (CY HB.out hw104_3), (CY HB.out hw104_4), (CY HB.out hw104_5), (CY HB.out hw104_6), (CY HB.out hw104_7), (CY HB.out hw104_8), (CY HB.out hw104_9), (CY HB.out hw104_10)⟩ (fun hHeld => ?_)
            clear hK K
            refine norm_ (a' := ?_) ?_ ?_
            rotate_left
            ·show Act.put _ (some 17) _ = _
             simp only [Act.put, List.setIfInBounds_toArray, List.set_cons_zero, List.set_cons_succ, i64_w, i32_w]
             rfl
            refine pv HT_ 2 18 (tf 3 23) ?_
            refine pv HT_ 3 19 (tf 4 22) ?_
            refine pv HT_ 4 20 (tf 5 21) ?_
            refine pv HT_ 6 22 (tr [5, 1, 1, 19]) ?_
            refine tk 5 (some 21) (tf 7 19) (take_ofW HT_.out HW_.out (by kernel_rfl)) hHeld ?_
            refine pv HT_ 7 23 (tf 8 18) ?_
            refine pv HT_ 8 24 (tf 9 17) ?_
            refine pv HT_ 9 25 (tf 10 16) ?_
            refine pv HT_ 10 26 (tf 11 15) ?_
            refine pv HT_ 11 27 (tf 12 14) ?_
            refine pv HT_ 12 28 (tf 13 13) ?_
            refine pv HT_ 13 29 (tf 14 12) ?_
            refine pv HT_ 14 30 (tf 15 11) ?_
            refine pv HT_ 15 31 (tf 16 10) ?_
            refine pv HT_ 16 32 (tf 17 9) ?_
            refine pv HT_ 17 33 (tf 18 8) ?_
            refine pv HT_ 20 36 (tr [18, 2, 1, 5]) ?_
            refine tk 18 (some 34) (tr [19, 1, 1, 5]) (take_ofW HT_.out HW_.out (by kernel_rfl)) hHeld ?_
            refine tk 21 (some 37) (tr [19, 1, 2, 4]) (take_ofW HT_.out HW_.out (by kernel_rfl)) hHeld ?_
            refine one_ (i := 19) (N := some 35) (tf 22 4) rfl rfl (one_of HT_.out (by kernel_rfl)) (by decide) (fun K hK => ?_)
            refine goesW_ Try.func68 (by kernel_rfl) rfl #[.agg #[.int .i64 ((rd_T95 l0 (ji17)).f0), .int .i64 ((rd_T95 l0 (ji17)).f1), .string ((rd_T95 l0 (ji17)).f2), .string ((rd_T95 l0 (ji17)).f3), .int .i64 ((rd_T95 l0 (ji17)).f4), .int .i64 ((rd_T95 l0 (ji17)).f5), .int .i64 ((rd_T95 l0 (ji17)).f6), .int .i64 ((rd_T95 l0 (ji17)).f7), .int .i64 ((rd_T95 l0 (ji17)).f8), .int .i64 ((rd_T95 l0 (ji17)).f9.f0), .slice A104_10 ((rd_T95 l0 (ji17)).f9.f1).length c104_10]] (by rfl) rfl rfl (by first | rfl | (simp [Act.eval, Act.put]; done)) (by (try simp only [List.map_toArray, List.map_cons, List.map_nil]); first | done | (simp only [hji17]; rfl) | rfl | (simp only [List.length_drop, List.length_take]; rfl)) ?_
            with_reducible refine (impl_spiOf.calls ((rd_T95 l0 (ji17)).f0) ((rd_T95 l0 (ji17)).f1) ((rd_T95 l0 (ji17)).f2) ((rd_T95 l0 (ji17)).f3) ((rd_T95 l0 (ji17)).f4) ((rd_T95 l0 (ji17)).f5) ((rd_T95 l0 (ji17)).f6) ((rd_T95 l0 (ji17)).f7) ((rd_T95 l0 (ji17)).f8) ((rd_T95 l0 (ji17)).f9.f0) _ _ ((rd_T95 l0 (ji17)).f9.f1) t105 _ ?side1 ?side2 A20.out).mono ?_
            (case side1 => exact KD HR104_10 HB)
            (case side2 => exact HC104_10.out)
            rintro e w25 ⟨rfl, hb⟩
            refine ⟨_, rfl, ?_⟩
            replace BK102 := am (BB BK102 hb)
            replace HB := am (below_step (K1 HB GE102.out) hb)
            (try clear hb)
            (try clear hb2)
            (try clear hk)
            (try clear hi)
            refine hK.out _ _ ⟨z0 _ BK102.out, z1 _ BK102.out, z2 _ BK102.out, z3 _ BK102.out, z4 _ BK102.out, z5 _ BK102.out, z6 _ BK102.out, z7 _ BK102.out, z8 _ BK102.out, z9 _ BK102.out, z10 _ BK102.out, (CY HB.out hw104_0), (CY HB.out hw104_1), (CY HB.out hw104_2), (CY HB.out hw104_3), (CY HB.out hw104_4), (CY HB.out hw104_5), (CY HB.out hw104_6), (CY HB.out hw104_7), (CY HB.out hw104_8), (CY HB.out hw104_9), (CY HB.out hw104_10)⟩ (fun hHeld => ?_)
            clear hK K
            refine norm_ (a' := ?_) ?_ ?_
            rotate_left
            ·show Act.put _ (some 35) _ = _
             simp only [Act.put, List.setIfInBounds_toArray, List.set_cons_zero, List.set_cons_succ, i64_w, i32_w]
             rfl
            refine one_ (i := 22) (N := some 38) (tf 23 3) rfl rfl (one_of HT_.out (by kernel_rfl)) (by decide) (fun K hK => ?_)
            refine goesW_ Try.func68 (by kernel_rfl) rfl #[.agg #[.int .i64 ((rd_T95 l0 x11_1).f0), .int .i64 ((rd_T95 l0 x11_1).f1), .string ((rd_T95 l0 x11_1).f2), .string ((rd_T95 l0 x11_1).f3), .int .i64 ((rd_T95 l0 x11_1).f4), .int .i64 ((rd_T95 l0 x11_1).f5), .int .i64 ((rd_T95 l0 x11_1).f6), .int .i64 ((rd_T95 l0 x11_1).f7), .int .i64 ((rd_T95 l0 x11_1).f8), .int .i64 ((rd_T95 l0 x11_1).f9.f0), .slice A101_10 ((rd_T95 l0 x11_1).f9.f1).length c101_10]] (by rfl) rfl rfl (by first | rfl | (simp [Act.eval, Act.put]; done)) MT ?_
            with_reducible refine (impl_spiOf.calls ((rd_T95 l0 x11_1).f0) ((rd_T95 l0 x11_1).f1) ((rd_T95 l0 x11_1).f2) ((rd_T95 l0 x11_1).f3) ((rd_T95 l0 x11_1).f4) ((rd_T95 l0 x11_1).f5) ((rd_T95 l0 x11_1).f6) ((rd_T95 l0 x11_1).f7) ((rd_T95 l0 x11_1).f8) ((rd_T95 l0 x11_1).f9.f0) _ _ ((rd_T95 l0 x11_1).f9.f1) t106 _ ?side1 ?side2 A21.out).mono ?_
            (case side1 => exact KD HR101_10 HB)
            (case side2 => exact HC101_10.out)
            rintro e w26 ⟨rfl, hb⟩
            refine ⟨_, rfl, ?_⟩
            replace BK102 := am (BB BK102 hb)
            replace HB := am (below_step (K1 HB GE102.out) hb)
            (try clear hb)
            (try clear hb2)
            (try clear hk)
            (try clear hi)
            refine hK.out _ _ ⟨z0 _ BK102.out, z1 _ BK102.out, z2 _ BK102.out, z3 _ BK102.out, z4 _ BK102.out, z5 _ BK102.out, z6 _ BK102.out, z7 _ BK102.out, z8 _ BK102.out, z9 _ BK102.out, z10 _ BK102.out, (CY HB.out hw104_0), (CY HB.out hw104_1), (CY HB.out hw104_2), (CY HB.out hw104_3), (CY HB.out hw104_4), (CY HB.out hw104_5), (CY HB.out hw104_6), (CY HB.out hw104_7), (CY HB.out hw104_8), (CY HB.out hw104_9), (CY HB.out hw104_10)⟩ (fun hHeld => ?_)
            clear hK K
            refine norm_ (a' := ?_) ?_ ?_
            rotate_left
            ·show Act.put _ (some 38) _ = _
             simp only [Act.put, List.setIfInBounds_toArray, List.set_cons_zero, List.set_cons_succ, i64_w, i32_w]
             rfl
            refine pv HT_ 23 39 (tf 24 2) ?_
            refine pv HT_ 24 40 (tf 25 1) ?_
            refine pv HT_ 25 41 (tf 26 0) ?_
            refine done_ (done_of HT_.out (by kernel_rfl)) ?_
            try go_wp2
            go_meet
            case rel => exact ⟨_, (decide (t105 ≥ t106)), (by first | rfl | (simp; done) | (simp [*]; done)), H', ⟨by have := HK1.out; first | omega | exact Nat.le_refl _⟩, ⟨KB BK102⟩, ⟨K1 HB GE102.out⟩⟩
           ·rw [if_neg c19] at H
            exact absurd H (by simp)
          ·rw [if_neg c18] at H
           exact absurd H (by simp)
         ·rw [if_neg c16] at H
          have c16b0 : decide (0 < x11_1) = false := decide_eq_false c16
          clear c16
          have H' := Aside0.mk H
          clear H
          try go_wp2
          generalize hq_ : (((((((((((w8.setCell ⟨gb102, 0, none⟩ (.int .i64 ((rd_T95 l0 x11_1).f0))).setCell ⟨gb102, 1, none⟩ (.int .i64 ((rd_T95 l0 x11_1).f1))).setCell ⟨gb102, 2, none⟩ (.string ((rd_T95 l0 x11_1).f2))).setCell ⟨gb102, 3, none⟩ (.string ((rd_T95 l0 x11_1).f3))).setCell ⟨gb102, 4, none⟩ (.int .i64 ((rd_T95 l0 x11_1).f4))).setCell ⟨gb102, 5, none⟩ (.int .i64 ((rd_T95 l0 x11_1).f5))).setCell ⟨gb102, 6, none⟩ (.int .i64 ((rd_T95 l0 x11_1).f6))).setCell ⟨gb102, 7, none⟩ (.int .i64 ((rd_T95 l0 x11_1).f7))).setCell ⟨gb102, 8, none⟩ (.int .i64 ((rd_T95 l0 x11_1).f8))).setCell ⟨gb102, 9, none⟩ (.int .i64 ((rd_T95 l0 x11_1).f9.f0))).setCell ⟨gb102, 10, none⟩ (.slice A101_10 ((rd_T95 l0 x11_1).f9.f1).length c101_10)) = w27
          have n0_ : Aside0 (w27.heap[gb102]? = some (.cells #[.int .i64 ((rd_T95 l0 x11_1).f0), .int .i64 ((rd_T95 l0 x11_1).f1), .string ((rd_T95 l0 x11_1).f2), .string ((rd_T95 l0 x11_1).f3), .int .i64 ((rd_T95 l0 x11_1).f4), .int .i64 ((rd_T95 l0 x11_1).f5), .int .i64 ((rd_T95 l0 x11_1).f6), .int .i64 ((rd_T95 l0 x11_1).f7), .int .i64 ((rd_T95 l0 x11_1).f8), .int .i64 ((rd_T95 l0 x11_1).f9.f0), .slice A101_10 ((rd_T95 l0 x11_1).f9.f1).length c101_10] 95 (0, 0))) := ⟨by rw [← hq_]; exact P11 BK102⟩
          have n1_ : Aside0 (Below w.heap.size w w27) := ⟨by rw [← hq_]; exact K1 HB GE102.out⟩
          clear hq_
          (try clear BK102)
          (try clear HB)
          have BK102 := n0_
          have HB := n1_
          clear n0_ n1_
          replace BK102 := am (blk_drew BK102.out)
          replace HB := am (below_drew1 HB.out)
          refine start_ (n := 26) (S := fun w' => de11 w' gb102 (.int .i64 ((rd_T95 l0 x11_1).f0)) (.int .i64 ((rd_T95 l0 x11_1).f1)) (.string ((rd_T95 l0 x11_1).f2)) (.string ((rd_T95 l0 x11_1).f3)) (.int .i64 ((rd_T95 l0 x11_1).f4)) (.int .i64 ((rd_T95 l0 x11_1).f5)) (.int .i64 ((rd_T95 l0 x11_1).f6)) (.int .i64 ((rd_T95 l0 x11_1).f7)) (.int .i64 ((rd_T95 l0 x11_1).f8)) (.int .i64 ((rd_T95 l0 x11_1).f9.f0)) (.slice A101_10 ((rd_T95 l0 x11_1).f9.f1).length c101_10)) (ds := []) (tf 0 26) (by kernel_rfl) rfl rfl ⟨z0 _ BK102.out, z1 _ BK102.out, z2 _ BK102.out, z3 _ BK102.out, z4 _ BK102.out, z5 _ BK102.out, z6 _ BK102.out, z7 _ BK102.out, z8 _ BK102.out, z9 _ BK102.out, z10 _ BK102.out⟩ (fun hHeld => ?_); refine with_tabW impl_ascending_spiOf.tab4 impl_ascending_spiOf.bits4 (fun HT_ HW_ => ?_)
          generalize w27.drew = w28 at BK102 HB hHeld ⊢
          refine tk 0 (some 16) (tf 1 25) (take_ofW HT_.out HW_.out (by kernel_rfl)) hHeld ?_
          refine one_ (i := 1) (N := some 17) (tf 2 24) rfl rfl (one_of HT_.out (by kernel_rfl)) (by decide) (fun K hK => ?_)
          refine goes_ Try.func111 (by kernel_rfl) rfl #[.agg #[.int .i64 ((rd_T95 l0 x11_1).f0), .int .i64 ((rd_T95 l0 x11_1).f1), .string ((rd_T95 l0 x11_1).f2), .string ((rd_T95 l0 x11_1).f3), .int .i64 ((rd_T95 l0 x11_1).f4), .int .i64 ((rd_T95 l0 x11_1).f5), .int .i64 ((rd_T95 l0 x11_1).f6), .int .i64 ((rd_T95 l0 x11_1).f7), .int .i64 ((rd_T95 l0 x11_1).f8), .int .i64 ((rd_T95 l0 x11_1).f9.f0), .slice A101_10 ((rd_T95 l0 x11_1).f9.f1).length c101_10]] (by rfl) rfl rfl MT ?_
          with_reducible refine (impl_SaOk.calls k1 ((rd_T95 l0 x11_1).f0) ((rd_T95 l0 x11_1).f1) ((rd_T95 l0 x11_1).f2) ((rd_T95 l0 x11_1).f3) ((rd_T95 l0 x11_1).f4) ((rd_T95 l0 x11_1).f5) ((rd_T95 l0 x11_1).f6) ((rd_T95 l0 x11_1).f7) ((rd_T95 l0 x11_1).f8) ((rd_T95 l0 x11_1).f9.f0) _ _ ((rd_T95 l0 x11_1).f9.f1) true _ ?side1 ?side2 A10.out).mono ?_
          (case side1 => exact KD HR101_10 HB)
          (case side2 => exact HC101_10.out)
          rintro e w29 ⟨rfl, hb⟩
          refine ⟨_, rfl, ?_⟩
          replace BK102 := am (BB BK102 hb)
          replace HB := am (below_step (K1 HB GE102.out) hb)
          (try clear hb)
          (try clear hb2)
          (try clear hk)
          (try clear hi)
          refine hK.out _ _ ⟨z0 _ BK102.out, z1 _ BK102.out, z2 _ BK102.out, z3 _ BK102.out, z4 _ BK102.out, z5 _ BK102.out, z6 _ BK102.out, z7 _ BK102.out, z8 _ BK102.out, z9 _ BK102.out, z10 _ BK102.out⟩ (fun hHeld => ?_)
          clear hK K
          refine norm_ (a' := ?_) ?_ ?_
          rotate_left
          ·show Act.put _ (some 17) _ = _
           simp only [Act.put, List.setIfInBounds_toArray, List.set_cons_zero, List.set_cons_succ, i64_w, i32_w]
           rfl
          refine pv HT_ 2 18 (tf 3 23) ?_
          refine pv HT_ 3 19 (tf 4 22) ?_
          refine pv HT_ 4 20 (tf 5 21) ?_
          refine pv HT_ 6 22 (tr [5, 1, 1, 19]) ?_
          refine tk 5 (some 21) (tf 7 19) (take_ofW HT_.out HW_.out (by kernel_rfl)) hHeld ?_
          refine pv HT_ 7 23 (tf 8 18) ?_
          refine pv HT_ 8 24 (tf 9 17) ?_
          refine pv HT_ 9 25 (tf 10 16) ?_
          refine pv HT_ 10 26 (tf 11 15) ?_
          refine pv HT_ 11 27 (tf 12 14) ?_
          refine pv HT_ 12 28 (tf 13 13) ?_
          refine pw HT_ 13 29 (tf 14 12) ?_
          refine pw HT_ 14 30 (tf 15 11) ?_
          refine pw HT_ 15 31 (tf 16 10) ?_
          refine pw HT_ 16 32 (tf 17 9) ?_
          refine pw HT_ 17 33 (tf 18 8) ?_
          refine pw HT_ 18 34 (tf 19 7) ?_
          refine pw HT_ 19 35 (tf 20 6) ?_
          refine pw HT_ 20 36 (tf 21 5) ?_
          refine pw HT_ 21 37 (tf 22 4) ?_
          refine pw HT_ 22 38 (tf 23 3) ?_
          refine pw HT_ 23 39 (tf 24 2) ?_
          refine pv HT_ 24 40 (tf 25 1) ?_
          refine pv HT_ 25 41 (tf 26 0) ?_
          refine done_ (done_of HT_.out (by kernel_rfl)) ?_
          try go_wp2
          go_meet
          case rel => exact ⟨_, (false), (by first | rfl | (simp; done) | (simp [*]; done)), H', ⟨by have := HK1.out; first | omega | exact Nat.le_refl _⟩, ⟨KB BK102⟩, ⟨K1 HB GE102.out⟩⟩
       ·replace c11 := Bool.eq_false_iff.mpr c11
        subst c11
        have H1 : (impl_ascending_spiOf.j1 k1 l0 a1 l0 (l0.length : Int) x11_1 true) = some r := by rw [if_neg (show ¬ (false = true) by decide)] at H; exact H
        clear H
        have H := H1
        clear H1
        have H' := Aside0.mk H
        clear H
        try go_wp2
        generalize hq_ : (((((((((((w8.setCell ⟨gb102, 0, none⟩ (.int .i64 ((rd_T95 l0 x11_1).f0))).setCell ⟨gb102, 1, none⟩ (.int .i64 ((rd_T95 l0 x11_1).f1))).setCell ⟨gb102, 2, none⟩ (.string ((rd_T95 l0 x11_1).f2))).setCell ⟨gb102, 3, none⟩ (.string ((rd_T95 l0 x11_1).f3))).setCell ⟨gb102, 4, none⟩ (.int .i64 ((rd_T95 l0 x11_1).f4))).setCell ⟨gb102, 5, none⟩ (.int .i64 ((rd_T95 l0 x11_1).f5))).setCell ⟨gb102, 6, none⟩ (.int .i64 ((rd_T95 l0 x11_1).f6))).setCell ⟨gb102, 7, none⟩ (.int .i64 ((rd_T95 l0 x11_1).f7))).setCell ⟨gb102, 8, none⟩ (.int .i64 ((rd_T95 l0 x11_1).f8))).setCell ⟨gb102, 9, none⟩ (.int .i64 ((rd_T95 l0 x11_1).f9.f0))).setCell ⟨gb102, 10, none⟩ (.slice A101_10 ((rd_T95 l0 x11_1).f9.f1).length c101_10)) = w30
        have n0_ : Aside0 (w30.heap[gb102]? = some (.cells #[.int .i64 ((rd_T95 l0 x11_1).f0), .int .i64 ((rd_T95 l0 x11_1).f1), .string ((rd_T95 l0 x11_1).f2), .string ((rd_T95 l0 x11_1).f3), .int .i64 ((rd_T95 l0 x11_1).f4), .int .i64 ((rd_T95 l0 x11_1).f5), .int .i64 ((rd_T95 l0 x11_1).f6), .int .i64 ((rd_T95 l0 x11_1).f7), .int .i64 ((rd_T95 l0 x11_1).f8), .int .i64 ((rd_T95 l0 x11_1).f9.f0), .slice A101_10 ((rd_T95 l0 x11_1).f9.f1).length c101_10] 95 (0, 0))) := ⟨by rw [← hq_]; exact P11 BK102⟩
        have n1_ : Aside0 (Below w.heap.size w w30) := ⟨by rw [← hq_]; exact K1 HB GE102.out⟩
        clear hq_
        (try clear BK102)
        (try clear HB)
        have BK102 := n0_
        have HB := n1_
        clear n0_ n1_
        replace BK102 := am (blk_drew BK102.out)
        replace HB := am (below_drew1 HB.out)
        refine start_ (n := 26) (S := fun w' => de11 w' gb102 (.int .i64 ((rd_T95 l0 x11_1).f0)) (.int .i64 ((rd_T95 l0 x11_1).f1)) (.string ((rd_T95 l0 x11_1).f2)) (.string ((rd_T95 l0 x11_1).f3)) (.int .i64 ((rd_T95 l0 x11_1).f4)) (.int .i64 ((rd_T95 l0 x11_1).f5)) (.int .i64 ((rd_T95 l0 x11_1).f6)) (.int .i64 ((rd_T95 l0 x11_1).f7)) (.int .i64 ((rd_T95 l0 x11_1).f8)) (.int .i64 ((rd_T95 l0 x11_1).f9.f0)) (.slice A101_10 ((rd_T95 l0 x11_1).f9.f1).length c101_10)) (ds := []) (tf 0 26) (by kernel_rfl) rfl rfl ⟨z0 _ BK102.out, z1 _ BK102.out, z2 _ BK102.out, z3 _ BK102.out, z4 _ BK102.out, z5 _ BK102.out, z6 _ BK102.out, z7 _ BK102.out, z8 _ BK102.out, z9 _ BK102.out, z10 _ BK102.out⟩ (fun hHeld => ?_); refine with_tabW impl_ascending_spiOf.tab4 impl_ascending_spiOf.bits4 (fun HT_ HW_ => ?_)
        generalize w30.drew = w31 at BK102 HB hHeld ⊢
        refine tk 0 (some 16) (tf 1 25) (take_ofW HT_.out HW_.out (by kernel_rfl)) hHeld ?_
        refine one_ (i := 1) (N := some 17) (tf 2 24) rfl rfl (one_of HT_.out (by kernel_rfl)) (by decide) (fun K hK => ?_)
        refine goes_ Try.func111 (by kernel_rfl) rfl #[.agg #[.int .i64 ((rd_T95 l0 x11_1).f0), .int .i64 ((rd_T95 l0 x11_1).f1), .string ((rd_T95 l0 x11_1).f2), .string ((rd_T95 l0 x11_1).f3), .int .i64 ((rd_T95 l0 x11_1).f4), .int .i64 ((rd_T95 l0 x11_1).f5), .int .i64 ((rd_T95 l0 x11_1).f6), .int .i64 ((rd_T95 l0 x11_1).f7), .int .i64 ((rd_T95 l0 x11_1).f8), .int .i64 ((rd_T95 l0 x11_1).f9.f0), .slice A101_10 ((rd_T95 l0 x11_1).f9.f1).length c101_10]] (by rfl) rfl rfl MT ?_
        with_reducible refine (impl_SaOk.calls k1 ((rd_T95 l0 x11_1).f0) ((rd_T95 l0 x11_1).f1) ((rd_T95 l0 x11_1).f2) ((rd_T95 l0 x11_1).f3) ((rd_T95 l0 x11_1).f4) ((rd_T95 l0 x11_1).f5) ((rd_T95 l0 x11_1).f6) ((rd_T95 l0 x11_1).f7) ((rd_T95 l0 x11_1).f8) ((rd_T95 l0 x11_1).f9.f0) _ _ ((rd_T95 l0 x11_1).f9.f1) false _ ?side1 ?side2 A10.out).mono ?_
        (case side1 => exact KD HR101_10 HB)
        (case side2 => exact HC101_10.out)
        rintro e w32 ⟨rfl, hb⟩
        refine ⟨_, rfl, ?_⟩
        replace BK102 := am (BB BK102 hb)
        replace HB := am (below_step (K1 HB GE102.out) hb)
        (try clear hb)
        (try clear hb2)
        (try clear hk)
        (try clear hi)
        refine hK.out _ _ ⟨z0 _ BK102.out, z1 _ BK102.out, z2 _ BK102.out, z3 _ BK102.out, z4 _ BK102.out, z5 _ BK102.out, z6 _ BK102.out, z7 _ BK102.out, z8 _ BK102.out, z9 _ BK102.out, z10 _ BK102.out⟩ (fun hHeld => ?_)
        clear hK K
        refine norm_ (a' := ?_) ?_ ?_
        rotate_left
        ·show Act.put _ (some 17) _ = _
         simp only [Act.put, List.setIfInBounds_toArray, List.set_cons_zero, List.set_cons_succ, i64_w, i32_w]
         rfl
        refine pv HT_ 2 18 (tf 3 23) ?_
        refine pv HT_ 3 19 (tf 4 22) ?_
        refine pw HT_ 4 20 (tf 5 21) ?_
        refine pw HT_ 5 21 (tf 6 20) ?_
        refine pw HT_ 6 22 (tf 7 19) ?_
        refine pw HT_ 7 23 (tf 8 18) ?_
        refine pv HT_ 8 24 (tf 9 17) ?_
        refine pv HT_ 9 25 (tf 10 16) ?_
        refine pw HT_ 10 26 (tf 11 15) ?_
        refine pw HT_ 11 27 (tf 12 14) ?_
        refine pw HT_ 12 28 (tf 13 13) ?_
        refine pw HT_ 13 29 (tf 14 12) ?_
        refine pw HT_ 14 30 (tf 15 11) ?_
        refine pw HT_ 15 31 (tf 16 10) ?_
        refine pw HT_ 16 32 (tf 17 9) ?_
        refine pw HT_ 17 33 (tf 18 8) ?_
        refine pw HT_ 18 34 (tf 19 7) ?_
        refine pw HT_ 19 35 (tf 20 6) ?_
        refine pw HT_ 20 36 (tf 21 5) ?_
        refine pw HT_ 21 37 (tf 22 4) ?_
        refine pw HT_ 22 38 (tf 23 3) ?_
        refine pw HT_ 23 39 (tf 24 2) ?_
        refine pw HT_ 24 40 (tf 25 1) ?_
        refine pv HT_ 25 41 (tf 26 0) ?_
        refine done_ (done_of HT_.out (by kernel_rfl)) ?_
        try go_wp2
        go_meet
        case rel => exact ⟨_, (true), (by first | rfl | (simp; done) | (simp [*]; done)), H', ⟨by have := HK1.out; first | omega | exact Nat.le_refl _⟩, ⟨KB BK102⟩, ⟨K1 HB GE102.out⟩⟩
      case rest =>
       clear HC7
       try clear c1
       try clear p2
       try clear c6
       try clear c10
       try clear c11
       try clear c16
       try clear c16b0
       try clear c18
       try clear c19
       obtain ⟨kq, x41_6, rfl, HA, HJ6, BK102, HB⟩ := hcut
       cases kq with
       | zero => exact absurd HA.out (by simp [impl_ascending_spiOf.j1])
       | succ kj6 =>
        have H := HA.out
        clear HA
        simp only [impl_ascending_spiOf.j1] at H
        by_cases c33 : x41_6 = true
        ·subst c33
         have H1 : (some false) = some r := by rw [if_pos rfl] at H; exact H
         clear H
         have H := H1
         clear H1
         obtain rfl := Option.some.inj H
         go_wp2
         go_ret
         exact ⟨ER, K1 HB GE102.out⟩
        ·replace c33 := Bool.eq_false_iff.mpr c33
         subst c33
         have H1 : (impl_ascending_spiOf.l0 kj6 l0 a1 l0 (l0.length : Int) (wrap64 (x11_1 + 1))) = some r := by rw [if_neg (show ¬ (false = true) by decide)] at H; exact H
         clear H
         have H := H1
         clear H1
         have H' := Aside0.mk H
         clear H
         go_wp2
         go_roundg kj6
         case measure => have := HK1.out; have := HJ6.out; omega
         case rel => exact ⟨(wrap64 (x11_1 + 1)), (by first | rfl | (simp; done) | (simp [*]; done)), H', ⟨by have := HK1.out; have := HJ6.out; omega⟩, ⟨K1 HB GE102.out⟩⟩
     ·rw [if_neg c6] at H
      exact absurd H (by simp)
    ·rw [if_neg c5] at H
     exact absurd H (by simp)
   ·rw [if_neg c4] at H
    have c4b0 : decide (x11_1 < (l0.length : Int)) = false := decide_eq_false c4
    clear c4
    obtain rfl := Option.some.inj H
    go_wp2
    go_ret
    exact ⟨ER, KL HB⟩
def impl_act.f (l0 : List (S141)) (a1 : Int) : Option (Int × Int) := if a1 < 0 then (some (0, 0)) else (if 0 ≤ a1 then (if a1 < (l0.length : Int) then (some ((rd_T141 l0 a1).f0, (rd_T141 l0 a1).f1)) else (none)) else (none))
def impl_act.T3 : Bool × List (List Nat × List Nat) := (true, [([], []), ([], []), ([0, 1], [0, 1]), ([2], [2]), ([3], [3]), ([], []), ([], []), ([5, 6], [5, 6]), ([7], [7]), ([8], [8]), ([4, 9], [4, 9]), ([10, 0, 1, 2, 3, 4, 5, 6, 7, 8, 9, 10], [10])])
def impl_act.B3 : List Nat := [0, 0, 3, 7, 15, 0, 0, 96, 224, 480, 1023, 2047]
theorem impl_act.tab3 : rtab .any (opsOf Try.f76 3) = impl_act.T3 := by kernel_rfl
theorem impl_act.bits3 : waitsOk impl_act.T3.2 impl_act.B3 = true := by kernel_rfl
set_option maxHeartbeats 8000000 in
set_option maxRecDepth 100000 in
theorem impl_act.calls (A0 : Option Addr) (c0 : Nat) (l0 : List (S141)) (a1 : Int) (r1 : Int) (r2 : Int) (w : World) (hr0 : Kd.C k141 w A0 l0.length l0) (hc0 : l0.length ≤ c0) (h : impl_act.f l0 a1 = some (r1, r2)) :
  Calls Try.prog 76 #[.slice A0 l0.length c0, .int .i64 a1] w fun e w' => e = .returned (.agg #[.int .i64 r1, .int .i64 r2]) ∧ Below w.heap.size w w' := by
 have hu110 := Try.underlying110
 have HR0 := Aside0.mk hr0
 have HC0 := Aside0.mk hc0
 clear hr0 hc0
 have HB := am (Below.refl w.heap.size w)
 have H : (if a1 < 0 then (some (0, 0)) else (if 0 ≤ a1 then (if a1 < (l0.length : Int) then (some ((rd_T141 l0 a1).f0, (rd_T141 l0 a1).f1)) else (none)) else (none))) = some (r1, r2) := h
 clear h
 by_cases c3 : a1 < 0
 ·rw [if_pos c3] at H
  have c3b0 : decide (a1 < 0) = true := decide_eq_true c3
  clear c3
  simp only [Option.some.injEq, Prod.mk.injEq] at H
  obtain ⟨rfl, rfl⟩ := H
  go_enter Try.func76, Try.ntmps76
  go_wp2_with (first | ((with_reducible refine gate_dst (N := 4) rfl ?_); refine box_event rfl (N := 4) rfl (cs := #[.int .i64 0, .int .i64 0]) (t := 110) BX ?_; intro gb101 hg w4 hbox hb; have BK101 := am (hbox); have GW101 := am (GH HB hg); have GE101 := GW101; replace HB := am (below_step (KL HB) hb); clear hb hbox hg; obtain ⟨hcz5_0, hcz5_1, hfz5_0⟩ := y2 w4 BK101.out))
  refine bodyPost_ret (results_cell_row rfl _ _ gb101 110 #[.int .i64 0, .int .i64 0] (0, 0) _ rfl (by (with_reducible repeat (first | refine blk_drewN ?_ _ | refine blk_drew ?_ | refine blk_alloc ?_ _)); refine blk_put (cs := #[.int .i64 0, .int .i64 0]) ?_ 1 _ rfl; (with_reducible repeat (first | refine blk_drewN ?_ _ | refine blk_drew ?_ | refine blk_alloc ?_ _)); refine blk_put (cs := #[.int .i64 0, .int .i64 0]) ?_ 0 _ rfl; (with_reducible repeat (first | refine blk_drewN ?_ _ | refine blk_drew ?_ | refine blk_alloc ?_ _)); exact BK101.out) Try.underlying110 rfl (by kernel_rfl)) rfl ?_
  exact ⟨ER, K1 HB GE101.out⟩
 ·rw [if_neg c3] at H
  have c3b0 : decide (a1 < 0) = false := decide_eq_false c3
  clear c3
  by_cases c6 : 0 ≤ a1
  ·rw [if_pos c6] at H
   have c6b0 : decide (0 ≤ a1) = true := decide_eq_true c6
   clear c6
   by_cases c7 : a1 < (l0.length : Int)
   ·rw [if_pos c7] at H
    have c7b0 : decide (a1 < (l0.length : Int)) = true := decide_eq_true c7
    clear c7
    simp only [Option.some.injEq, Prod.mk.injEq] at H
    obtain ⟨rfl, rfl⟩ := H
    go_enter Try.func76, Try.ntmps76
    try go_wp2_with (first | ((with_reducible refine gate_dst (N := 4) rfl ?_); refine box_event rfl (N := 4) rfl (cs := #[.int .i64 0, .int .i64 0]) (t := 110) BX ?_; intro gb101 hg w8 hbox hb; have BK101 := am (hbox); have GW101 := am (GH HB hg); have GE101 := GW101; replace HB := am (below_step (KL HB) hb); clear hb hbox hg))
    replace BK101 := am (blk_drew BK101.out)
    replace HB := am (below_drew1 HB.out)
    have p102 : 0 ≤ (a1 : Int) := OD
    have q102 : a1 < (l0.length : Int) := OD
    obtain ⟨ad102, e102, hx102_0, hx102_1, hx102_2, hx102_3, hx102_4, hx102_5, hx102_6, hx102_7⟩ := at_T141 HR0.out a1 p102 q102
    have hw102_7 := hx102_7
    have hw102_6 := hx102_6
    have hw102_5 := hx102_5
    have hw102_4 := hx102_4
    have hw102_3 := hx102_3
    have hw102_2 := hx102_2
    have hw102_1 := hx102_1
    have hw102_0 := hx102_0
    cases e102
    replace hx102_0 := CX HB.out hx102_0
    replace hx102_1 := CX HB.out hx102_1
    replace hx102_2 := CX HB.out hx102_2
    replace hx102_3 := CX HB.out hx102_3
    replace hx102_4 := CX HB.out hx102_4
    replace hx102_5 := CX HB.out hx102_5
    replace hx102_6 := CX HB.out hx102_6
    replace hx102_7 := CX HB.out hx102_7
    replace p102 := eq_true p102
    replace q102 := eq_true q102
    have p103 : 0 ≤ (a1 : Int) := OD
    have q103 : a1 < (l0.length : Int) := OD
    obtain ⟨ad103, e103, hx103_0, hx103_1, hx103_2, hx103_3, hx103_4, hx103_5, hx103_6, hx103_7⟩ := at_T141 HR0.out a1 p103 q103
    have hw103_7 := hx103_7
    have hw103_6 := hx103_6
    have hw103_5 := hx103_5
    have hw103_4 := hx103_4
    have hw103_3 := hx103_3
    have hw103_2 := hx103_2
    have hw103_1 := hx103_1
    have hw103_0 := hx103_0
    obtain rfl : ad102 = ad103 := (by injection e103)
    replace hx103_0 := CX HB.out hx103_0
    replace hx103_1 := CX HB.out hx103_1
    replace hx103_2 := CX HB.out hx103_2
    replace hx103_3 := CX HB.out hx103_3
    replace hx103_4 := CX HB.out hx103_4
    replace hx103_5 := CX HB.out hx103_5
    replace hx103_6 := CX HB.out hx103_6
    replace hx103_7 := CX HB.out hx103_7
    replace p103 := eq_true p103
    replace q103 := eq_true q103
    refine start_ (n := 12) (S := fun w' => w'.cell? (ad102.add ((a1).toNat * 8)) = some (.int .i64 ((rd_T141 l0 a1).f0)) ∧ w'.cell? ⟨(ad102.add ((a1).toNat * 8)).block, (ad102.add ((a1).toNat * 8)).off + 1, none⟩ = some (.int .i64 ((rd_T141 l0 a1).f1)) ∧ w'.cell? ⟨(ad102.add ((a1).toNat * 8)).block, (ad102.add ((a1).toNat * 8)).off + 2, none⟩ = some (.int .i64 ((rd_T141 l0 a1).f2.f0)) ∧ w'.cell? ⟨(ad102.add ((a1).toNat * 8)).block, (ad102.add ((a1).toNat * 8)).off + 3, none⟩ = some (.int .i64 ((rd_T141 l0 a1).f2.f1)) ∧ w'.cell? ⟨(ad102.add ((a1).toNat * 8)).block, (ad102.add ((a1).toNat * 8)).off + 4, none⟩ = some (.int .i64 ((rd_T141 l0 a1).f3.f0)) ∧ w'.cell? ⟨(ad102.add ((a1).toNat * 8)).block, (ad102.add ((a1).toNat * 8)).off + 5, none⟩ = some (.int .i64 ((rd_T141 l0 a1).f3.f1)) ∧ w'.cell? ⟨(ad102.add ((a1).toNat * 8)).block, (ad102.add ((a1).toNat * 8)).off + 6, none⟩ = some (.int .i64 ((rd_T141 l0 a1).f4)) ∧ w'.cell? ⟨(ad102.add ((a1).toNat * 8)).block, (ad102.add ((a1).toNat * 8)).off + 7, none⟩ = some (.int .i64 ((rd_T141 l0 a1).f5)) ∧ w'.cell? (ad102.add ((a1).toNat * 8)) = some (.int .i64 ((rd_T141 l0 a1).f0)) ∧ w'.cell? ⟨(ad102.add ((a1).toNat * 8)).block, (ad102.add ((a1).toNat * 8)).off + 1, none⟩ = some (.int .i64 ((rd_T141 l0 a1).f1)) ∧ w'.cell? ⟨(ad102.add ((a1).toNat * 8)).block, (ad102.add ((a1).toNat * 8)).off + 2, none⟩ = some (.int .i64 ((rd_T141 l0 a1).f2.f0)) ∧ w'.cell? ⟨(ad102.add ((a1).toNat * 8)).block, (ad102.add ((a1).toNat * 8)).off + 3, none⟩ = some (.int .i64 ((rd_T141 l0 a1).f2.f1)) ∧ w'.cell? ⟨(ad102.add ((a1).toNat * 8)).block, (ad102.add ((a1).toNat * 8)).off + 4, none⟩ = some (.int .i64 ((rd_T141 l0 a1).f3.f0)) ∧ w'.cell? ⟨(ad102.add ((a1).toNat * 8)).block, (ad102.add ((a1).toNat * 8)).off + 5, none⟩ = some (.int .i64 ((rd_T141 l0 a1).f3.f1)) ∧ w'.cell? ⟨(ad102.add ((a1).toNat * 8)).block, (ad102.add ((a1).toNat * 8)).off + 6, none⟩ = some (.int .i64 ((rd_T141 l0 a1).f4)) ∧ w'.cell? ⟨(ad102.add ((a1).toNat * 8)).block, (ad102.add ((a1).toNat * 8)).off + 7, none⟩ = some (.int .i64 ((rd_T141 l0 a1).f5))) (ds := []) (tf 0 12) (by kernel_rfl) rfl rfl ⟨(CY HB.out hw102_0), (CY HB.out hw102_1), (CY HB.out hw102_2), (CY HB.out hw102_3), (CY HB.out hw102_4), (CY HB.out hw102_5), (CY HB.out hw102_6), (CY HB.out hw102_7), (CY HB.out hw103_0), (CY HB.out hw103_1), (CY HB.out hw103_2), (CY HB.out hw103_3), (CY HB.out hw103_4), (CY HB.out hw103_5), (CY HB.out hw103_6), (CY HB.out hw103_7)⟩ (fun hHeld => ?_); refine with_tabW impl_act.tab3 impl_act.bits3 (fun HT_ HW_ => ?_)
    generalize w8.drew = w9 at BK101 HB hx102_0 hx102_1 hx102_2 hx102_3 hx102_4 hx102_5 hx102_6 hx102_7 hx103_0 hx103_1 hx103_2 hx103_3 hx103_4 hx103_5 hx103_6 hx103_7 hHeld ⊢
    refine pv HT_ 0 8 (tf 1 11) ?_
    refine pv HT_ 1 9 (tf 2 10) ?_
    refine pv HT_ 2 10 (tf 3 9) ?_
    refine pv HT_ 3 11 (tf 4 8) ?_
    refine pv HT_ 5 13 (tr [4, 1, 1, 6]) ?_
    refine pv HT_ 6 14 (tr [4, 1, 2, 5]) ?_
    refine pv HT_ 7 15 (tr [4, 1, 3, 4]) ?_
    refine pv HT_ 8 16 (tr [4, 1, 4, 3]) ?_
    refine tk 4 (some 12) (tf 9 3) (take_ofW HT_.out HW_.out (by kernel_rfl)) hHeld ?_
    refine tk 9 (some 17) (tf 10 2) (take_ofW HT_.out HW_.out (by kernel_rfl)) hHeld ?_
    refine pv HT_ 10 18 (tf 11 1) ?_
    refine one_ (i := 11) (N := none) (tf 12 0) rfl rfl (one_of HT_.out (by kernel_rfl)) (by decide) (fun K hK => ?_)
    have hs10 : w9.cell? ⟨gb101, 0, none⟩ = some (.int .i64 0) := z0 _ BK101.out
    have hfs10 := blk_frozen BK101.out 0
    have hs11 : w9.cell? ⟨gb101, 1, none⟩ = some (.int .i64 0) := z1 _ BK101.out
    have hfs11 := blk_frozen BK101.out 1
    refine skip_ (w1 := ?_) (by rfl) rfl ?_ ?_
    rotate_left
    ·go_simp
     rfl
    refine hK.out _ _ ⟨((cell_far (p := ⟨gb101, _, none⟩) (by first | exact Nat.ne_of_lt (Nat.lt_of_lt_of_le (by have := World.block_lt_of_cell? _ _ hw102_0; first | rwa [add_block] at this | exact this) GW101.out) | (rw [add_block]; exact Nat.ne_of_lt (Nat.lt_of_lt_of_le (by have := World.block_lt_of_cell? _ _ hw102_0; first | rwa [add_block] at this | exact this) GW101.out)) | (show (Addr.add _ _).block ≠ _; rw [add_block]; exact Nat.ne_of_lt (Nat.lt_of_lt_of_le (by have := World.block_lt_of_cell? _ _ hw102_0; first | rwa [add_block] at this | exact this) GW101.out)) | (dsimp only; exact Nat.ne_of_lt (Nat.lt_of_lt_of_le (by have := World.block_lt_of_cell? _ _ hw102_0; first | rwa [add_block] at this | exact this) GW101.out))) _).trans (((cell_far (p := ⟨gb101, _, none⟩) (by first | exact Nat.ne_of_lt (Nat.lt_of_lt_of_le (by have := World.block_lt_of_cell? _ _ hw102_0; first | rwa [add_block] at this | exact this) GW101.out) | (rw [add_block]; exact Nat.ne_of_lt (Nat.lt_of_lt_of_le (by have := World.block_lt_of_cell? _ _ hw102_0; first | rwa [add_block] at this | exact this) GW101.out)) | (show (Addr.add _ _).block ≠ _; rw [add_block]; exact Nat.ne_of_lt (Nat.lt_of_lt_of_le (by have := World.block_lt_of_cell? _ _ hw102_0; first | rwa [add_block] at this | exact this) GW101.out)) | (dsimp only; exact Nat.ne_of_lt (Nat.lt_of_lt_of_le (by have := World.block_lt_of_cell? _ _ hw102_0; first | rwa [add_block] at this | exact this) GW101.out))) _).trans (hHeld.1)))), ((cell_far (p := ⟨gb101, _, none⟩) (by first | exact Nat.ne_of_lt (Nat.lt_of_lt_of_le (by have := World.block_lt_of_cell? _ _ hw102_1; first | rwa [add_block] at this | exact this) GW101.out) | (rw [add_block]; exact Nat.ne_of_lt (Nat.lt_of_lt_of_le (by have := World.block_lt_of_cell? _ _ hw102_1; first | rwa [add_block] at this | exact this) GW101.out)) | (show (Addr.add _ _).block ≠ _; rw [add_block]; exact Nat.ne_of_lt (Nat.lt_of_lt_of_le (by have := World.block_lt_of_cell? _ _ hw102_1; first | rwa [add_block] at this | exact this) GW101.out)) | (dsimp only; exact Nat.ne_of_lt (Nat.lt_of_lt_of_le (by have := World.block_lt_of_cell? _ _ hw102_1; first | rwa [add_block] at this | exact this) GW101.out))) _).trans (((cell_far (p := ⟨gb101, _, none⟩) (by first | exact Nat.ne_of_lt (Nat.lt_of_lt_of_le (by have := World.block_lt_of_cell? _ _ hw102_1; first | rwa [add_block] at this | exact this) GW101.out) | (rw [add_block]; exact Nat.ne_of_lt (Nat.lt_of_lt_of_le (by have := World.block_lt_of_cell? _ _ hw102_1; first | rwa [add_block] at this | exact this) GW101.out)) | (show (Addr.add _ _).block ≠ _; rw [add_block]; exact Nat.ne_of_lt (Nat.lt_of_lt_of_le (by have := World.block_lt_of_cell? _ _ hw102_1; first | rwa [add_block] at this | exact this) GW101.out)) | (dsimp only; exact Nat.ne_of_lt (Nat.lt_of_lt_of_le (by have := World.block_lt_of_cell? _ _ hw102_1; first | rwa [add_block] at this | exact this) GW101.out))) _).trans (hHeld.2.1)))), ((cell_far (p := ⟨gb101, _, none⟩) (by first | exact Nat.ne_of_lt (Nat.lt_of_lt_of_le (by have := World.block_lt_of_cell? _ _ hw102_2; first | rwa [add_block] at this | exact this) GW101.out) | (rw [add_block]; exact Nat.ne_of_lt (Nat.lt_of_lt_of_le (by have := World.block_lt_of_cell? _ _ hw102_2; first | rwa [add_block] at this | exact this) GW101.out)) | (show (Addr.add _ _).block ≠ _; rw [add_block]; exact Nat.ne_of_lt (Nat.lt_of_lt_of_le (by have := World.block_lt_of_cell? _ _ hw102_2; first | rwa [add_block] at this | exact this) GW101.out)) | (dsimp only; exact Nat.ne_of_lt (Nat.lt_of_lt_of_le (by have := World.block_lt_of_cell? _ _ hw102_2; first | rwa [add_block] at this | exact this) GW101.out))) _).trans (((cell_far (p := ⟨gb101, _, none⟩) (by first | exact Nat.ne_of_lt (Nat.lt_of_lt_of_le (by have := World.block_lt_of_cell? _ _ hw102_2; first | rwa [add_block] at this | exact this) GW101.out) | (rw [add_block]; exact Nat.ne_of_lt (Nat.lt_of_lt_of_le (by have := World.block_lt_of_cell? _ _ hw102_2; first | rwa [add_block] at this | exact this) GW101.out)) | (show (Addr.add _ _).block ≠ _; rw [add_block]; exact Nat.ne_of_lt (Nat.lt_of_lt_of_le (by have := World.block_lt_of_cell? _ _ hw102_2; first | rwa [add_block] at this | exact this) GW101.out)) | (dsimp only; exact Nat.ne_of_lt (Nat.lt_of_lt_of_le (by have := World.block_lt_of_cell? _ _ hw102_2; first | rwa [add_block] at this | exact this) GW101.out))) _).trans (hHeld.2.2.1)))), ((cell_far (p := ⟨gb101, _, none⟩) (by first | exact Nat.ne_of_lt (Nat.lt_of_lt_of_le (by have := World.block_lt_of_cell? _ _ hw102_3; first | rwa [add_block] at this | exact this) GW101.out) | (rw [add_block]; exact Nat.ne_of_lt (Nat.lt_of_lt_of_le (by have := World.block_lt_of_cell? _ _ hw102_3; first | rwa [add_block] at this | exact this) GW101.out)) | (show (Addr.add _ _).block ≠ _; rw [add_block]; exact Nat.ne_of_lt (Nat.lt_of_lt_of_le (by have := World.block_lt_of_cell? _ _ hw102_3; first | rwa [add_block] at this | exact this) GW101.out)) | (dsimp only; exact Nat.ne_of_lt (Nat.lt_of_lt_of_le (by have := World.block_lt_of_cell? _ _ hw102_3; first | rwa [add_block] at this | exact this) GW101.out))) _).trans (((cell_far (p := ⟨gb101, _, none⟩) (by first | exact Nat.ne_of_lt (Nat.lt_of_lt_of_le (by have := World.block_lt_of_cell? _ _ hw102_3; first | rwa [add_block] at this | exact this) GW101.out) | (rw [add_block]; exact Nat.ne_of_lt (Nat.lt_of_lt_of_le (by have := World.block_lt_of_cell? _ _ hw102_3; first | rwa [add_block] at this | exact this) GW101.out)) | (show (Addr.add _ _).block ≠ _; rw [add_block]; exact Nat.ne_of_lt (Nat.lt_of_lt_of_le (by have := World.block_lt_of_cell? _ _ hw102_3; first | rwa [add_block] at this | exact this) GW101.out)) | (dsimp only; exact Nat.ne_of_lt (Nat.lt_of_lt_of_le (by have := World.block_lt_of_cell? _ _ hw102_3; first | rwa [add_block] at this | exact this) GW101.out))) _).trans (hHeld.2.2.2.1)))), ((cell_far (p := ⟨gb101, _, none⟩) (by first | exact Nat.ne_of_lt (Nat.lt_of_lt_of_le (by have := World.block_lt_of_cell? _ _ hw102_4; first | rwa [add_block] at this | exact this) GW101.out) | (rw [add_block]; exact Nat.ne_of_lt (Nat.lt_of_lt_of_le (by have := World.block_lt_of_cell? _ _ hw102_4; first | rwa [add_block] at this | exact this) GW101.out)) | (show (Addr.add _ _).block ≠ _; rw [add_block]; exact Nat.ne_of_lt (Nat.lt_of_lt_of_le (by have := World.block_lt_of_cell? _ _ hw102_4; first | rwa [add_block] at this | exact this) GW101.out)) | (dsimp only; exact Nat.ne_of_lt (Nat.lt_of_lt_of_le (by have := World.block_lt_of_cell? _ _ hw102_4; first | rwa [add_block] at this | exact this) GW101.out))) _).trans (((cell_far (p := ⟨gb101, _, none⟩) (by first | exact Nat.ne_of_lt (Nat.lt_of_lt_of_le (by have := World.block_lt_of_cell? _ _ hw102_4; first | rwa [add_block] at this | exact this) GW101.out) | (rw [add_block]; exact Nat.ne_of_lt (Nat.lt_of_lt_of_le (by have := World.block_lt_of_cell? _ _ hw102_4; first | rwa [add_block] at this | exact this) GW101.out)) | (show (Addr.add _ _).block ≠ _; rw [add_block]; exact Nat.ne_of_lt (Nat.lt_of_lt_of_le (by have := World.block_lt_of_cell? _ _ hw102_4; first | rwa [add_block] at this | exact this) GW101.out)) | (dsimp only; exact Nat.ne_of_lt (Nat.lt_of_lt_of_le (by have := World.block_lt_of_cell? _ _ hw102_4; first | rwa [add_block] at this | exact this) GW101.out))) _).trans (hHeld.2.2.2.2.1)))), ((cell_far (p := ⟨gb101, _, none⟩) (by first | exact Nat.ne_of_lt (Nat.lt_of_lt_of_le (by have := World.block_lt_of_cell? _ _ hw102_5; first | rwa [add_block] at this | exact this) GW101.out) | (rw [add_block]; exact Nat.ne_of_lt (Nat.lt_of_lt_of_le (by have := World.block_lt_of_cell? _ _ hw102_5; first | rwa [add_block] at this | exact this) GW101.out)) | (show (Addr.add _ _).block ≠ _; rw [add_block]; exact Nat.ne_of_lt (Nat.lt_of_lt_of_le (by have := World.block_lt_of_cell? _ _ hw102_5; first | rwa [add_block] at this | exact this) GW101.out)) | (dsimp only; exact Nat.ne_of_lt (Nat.lt_of_lt_of_le (by have := World.block_lt_of_cell? _ _ hw102_5; first | rwa [add_block] at this | exact this) GW101.out))) _).trans (((cell_far (p := ⟨gb101, _, none⟩) (by first | exact Nat.ne_of_lt (Nat.lt_of_lt_of_le (by have := World.block_lt_of_cell? _ _ hw102_5; first | rwa [add_block] at this | exact this) GW101.out) | (rw [add_block]; exact Nat.ne_of_lt (Nat.lt_of_lt_of_le (by have := World.block_lt_of_cell? _ _ hw102_5; first | rwa [add_block] at this | exact this) GW101.out)) | (show (Addr.add _ _).block ≠ _; rw [add_block]; exact Nat.ne_of_lt (Nat.lt_of_lt_of_le (by have := World.block_lt_of_cell? _ _ hw102_5; first | rwa [add_block] at this | exact this) GW101.out)) | (dsimp only; exact Nat.ne_of_lt (Nat.lt_of_lt_of_le (by have := World.block_lt_of_cell? _ _ hw102_5; first | rwa [add_block] at this | exact this) GW101.out))) _).trans (hHeld.2.2.2.2.2.1)))), ((cell_far (p := ⟨gb101, _, none⟩) (by first | exact Nat.ne_of_lt (Nat.lt_of_lt_of_le (by have := World.block_lt_of_cell? _ _ hw102_6; first | rwa [add_block] at this | exact this) GW101.out) | (rw [add_block]; exact Nat.ne_of_lt (Nat.lt_of_lt_of_le (by have := World.block_lt_of_cell? _ _ hw102_6; first | rwa [add_block] at this | exact this) GW101.out)) | (show (Addr.add _ _).block ≠ _; rw [add_block]; exact Nat.ne_of_lt (Nat.lt_of_lt_of_le (by have := World.block_lt_of_cell? _ _ hw102_6; first | rwa [add_block] at this | exact this) GW101.out)) | (dsimp only; exact Nat.ne_of_lt (Nat.lt_of_lt_of_le (by have := World.block_lt_of_cell? _ _ hw102_6; first | rwa [add_block] at this | exact this) GW101.out))) _).trans (((cell_far (p := ⟨gb101, _, none⟩) (by first | exact Nat.ne_of_lt (Nat.lt_of_lt_of_le (by have := World.block_lt_of_cell? _ _ hw102_6; first | rwa [add_block] at this | exact this) GW101.out) | (rw [add_block]; exact Nat.ne_of_lt (Nat.lt_of_lt_of_le (by have := World.block_lt_of_cell? _ _ hw102_6; first | rwa [add_block] at this | exact this) GW101.out)) | (show (Addr.add _ _).block ≠ _; rw [add_block]; exact Nat.ne_of_lt (Nat.lt_of_lt_of_le (by have := World.block_lt_of_cell? _ _ hw102_6; first | rwa [add_block] at this | exact this) GW101.out)) | (dsimp only; exact Nat.ne_of_lt (Nat.lt_of_lt_of_le (by have := World.block_lt_of_cell? _ _ hw102_6; first | rwa [add_block] at this | exact this) GW101.out))) _).trans (hHeld.2.2.2.2.2.2.1)))), ((cell_far (p := ⟨gb101, _, none⟩) (by first | exact Nat.ne_of_lt (Nat.lt_of_lt_of_le (by have := World.block_lt_of_cell? _ _ hw102_7; first | rwa [add_block] at this | exact this) GW101.out) | (rw [add_block]; exact Nat.ne_of_lt (Nat.lt_of_lt_of_le (by have := World.block_lt_of_cell? _ _ hw102_7; first | rwa [add_block] at this | exact this) GW101.out)) | (show (Addr.add _ _).block ≠ _; rw [add_block]; exact Nat.ne_of_lt (Nat.lt_of_lt_of_le (by have := World.block_lt_of_cell? _ _ hw102_7; first | rwa [add_block] at this | exact this) GW101.out)) | (dsimp only; exact Nat.ne_of_lt (Nat.lt_of_lt_of_le (by have := World.block_lt_of_cell? _ _ hw102_7; first | rwa [add_block] at this | exact this) GW101.out))) _).trans (((cell_far (p := ⟨gb101, _, none⟩) (by first | exact Nat.ne_of_lt (Nat.lt_of_lt_of_le (by have := World.block_lt_of_cell? _ _ hw102_7; first | rwa [add_block] at this | exact this) GW101.out) | (rw [add_block]; exact Nat.ne_of_lt (Nat.lt_of_lt_of_le (by have := World.block_lt_of_cell? _ _ hw102_7; first | rwa [add_block] at this | exact this) GW101.out)) | (show (Addr.add _ _).block ≠ _; rw [add_block]; exact Nat.ne_of_lt (Nat.lt_of_lt_of_le (by have := World.block_lt_of_cell? _ _ hw102_7; first | rwa [add_block] at this | exact this) GW101.out)) | (dsimp only; exact Nat.ne_of_lt (Nat.lt_of_lt_of_le (by have := World.block_lt_of_cell? _ _ hw102_7; first | rwa [add_block] at this | exact this) GW101.out))) _).trans (hHeld.2.2.2.2.2.2.2.1)))), ((cell_far (p := ⟨gb101, _, none⟩) (by first | exact Nat.ne_of_lt (Nat.lt_of_lt_of_le (by have := World.block_lt_of_cell? _ _ hw103_0; first | rwa [add_block] at this | exact this) GW101.out) | (rw [add_block]; exact Nat.ne_of_lt (Nat.lt_of_lt_of_le (by have := World.block_lt_of_cell? _ _ hw103_0; first | rwa [add_block] at this | exact this) GW101.out)) | (show (Addr.add _ _).block ≠ _; rw [add_block]; exact Nat.ne_of_lt (Nat.lt_of_lt_of_le (by have := World.block_lt_of_cell? _ _ hw103_0; first | rwa [add_block] at this | exact this) GW101.out)) | (dsimp only; exact Nat.ne_of_lt (Nat.lt_of_lt_of_le (by have := World.block_lt_of_cell? _ _ hw103_0; first | rwa [add_block] at this | exact this) GW101.out))) _).trans (((cell_far (p := ⟨gb101, _, none⟩) (by first | exact Nat.ne_of_lt (Nat.lt_of_lt_of_le (by have := World.block_lt_of_cell? _ _ hw103_0; first | rwa [add_block] at this | exact this) GW101.out) | (rw [add_block]; exact Nat.ne_of_lt (Nat.lt_of_lt_of_le (by have := World.block_lt_of_cell? _ _ hw103_0; first | rwa [add_block] at this | exact this) GW101.out)) | (show (Addr.add _ _).block ≠ _; rw [add_block]; exact Nat.ne_of_lt (Nat.lt_of_lt_of_le (by have := World.block_lt_of_cell? _ _ hw103_0; first | rwa [add_block] at this | exact this) GW101.out)) | (dsimp only; exact Nat.ne_of_lt (Nat.lt_of_lt_of_le (by have := World.block_lt_of_cell? _ _ hw103_0; first | rwa [add_block] at this | exact this) GW101.out))) _).trans (hHeld.2.2.2.2.2.2.2.2.1)))), ((cell_far (p := ⟨gb101, _, none⟩) (by first | exact Nat.ne_of_lt (Nat.lt_of_lt_of_le (by have := World.block_lt_of_cell? _ _ hw103_1; first | rwa [add_block] at this | exact this) GW101.out) | (rw [add_block]; exact Nat.ne_of_lt (Nat.lt_of_lt_of_le (by have := World.block_lt_of_cell? _ _ hw103_1; first | rwa [add_block] at this | exact this) GW101.out)) | (show (Addr.add _ _).block ≠ _; rw [add_block]; exact Nat.ne_of_lt (Nat.lt_of_lt_of_le (by have := World.block_lt_of_cell? _ _ hw103_1; first | rwa [add_block] at this | exact this) GW101.out)) | (dsimp only; exact Nat.ne_of_lt (Nat.lt_of_lt_of_le (by have := World.block_lt_of_cell? _ _ hw103_1; first | rwa [add_block] at this | exact this) GW101.out))) _).trans (((cell_far (p := ⟨gb101, _, none⟩) (by first | exact Nat.ne_of_lt (Nat.lt_of_lt_of_le (by have := World.block_lt_of_cell? _ _ hw103_1; first | rwa [add_block] at this | exact this) GW101.out) | (rw [add_block]; exact Nat.ne_of_lt (Nat.lt_of_lt_of_le (by have := World.block_lt_of_cell? _ _ hw103_1; first | rwa [add_block] at this | exact this) GW101.out)) | (show (Addr.add _ _).block ≠ _; rw [add_block]; exact Nat.ne_of_lt (Nat.lt_of_lt_of_le (by have := World.block_lt_of_cell? _ _ hw103_1; first | rwa [add_block] at this | exact this) GW101.out)) | (dsimp only; exact Nat.ne_of_lt (Nat.lt_of_lt_of_le (by have := World.block_lt_of_cell? _ _ hw103_1; first | rwa [add_block] at this | exact this) GW101.out))) _).trans (hHeld.2.2.2.2.2.2.2.2.2.1)))), ((cell_far (p := ⟨gb101, _, none⟩) (by first | exact Nat.ne_of_lt (Nat.lt_of_lt_of_le (by have := World.block_lt_of_cell? _ _ hw103_2; first | rwa [add_block] at this | exact this) GW101.out) | (rw [add_block]; exact Nat.ne_of_lt (Nat.lt_of_lt_of_le (by have := World.block_lt_of_cell? _ _ hw103_2; first | rwa [add_block] at this | exact this) GW101.out)) | (show (Addr.add _ _).block ≠ _; rw [add_block]; exact Nat.ne_of_lt (Nat.lt_of_lt_of_le (by have := World.block_lt_of_cell? _ _ hw103_2; first | rwa [add_block] at this | exact this) GW101.out)) | (dsimp only; exact Nat.ne_of_lt (Nat.lt_of_lt_of_le (by have := World.block_lt_of_cell? _ _ hw103_2; first | rwa [add_block] at this | exact this) GW101.out))) _).trans (((cell_far (p := ⟨gb101, _, none⟩) (by first | exact Nat.ne_of_lt (Nat.lt_of_lt_of_le (by have := World.block_lt_of_cell? _ _ hw103_2; first | rwa [add_block] at this | exact this) GW101.out) | (rw [add_block]; exact Nat.ne_of_lt (Nat.lt_of_lt_of_le (by have := World.block_lt_of_cell? _ _ hw103_2; first | rwa [add_block] at this | exact this) GW101.out)) | (show (Addr.add _ _).block ≠ _; rw [add_block]; exact Nat.ne_of_lt (Nat.lt_of_lt_of_le (by have := World.block_lt_of_cell? _ _ hw103_2; first | rwa [add_block] at this | exact this) GW101.out)) | (dsimp only; exact Nat.ne_of_lt (Nat.lt_of_lt_of_le (by have := World.block_lt_of_cell? _ _ hw103_2; first | rwa [add_block] at this | exact this) GW101.out))) _).trans (hHeld.2.2.2.2.2.2.2.2.2.2.1)))), ((cell_far (p := ⟨gb101, _, none⟩) (by first | exact Nat.ne_of_lt (Nat.lt_of_lt_of_le (by have := World.block_lt_of_cell? _ _ hw103_3; first | rwa [add_block] at this | exact this) GW101.out) | (rw [add_block]; exact Nat.ne_of_lt (Nat.lt_of_lt_of_le (by have := World.block_lt_of_cell? _ _ hw103_3; first | rwa [add_block] at this | exact this) GW101.out)) | (show (Addr.add _ _).block ≠ _; rw [add_block]; exact Nat.ne_of_lt (Nat.lt_of_lt_of_le (by have := World.block_lt_of_cell? _ _ hw103_3; first | rwa [add_block] at this | exact this) GW101.out)) | (dsimp only; exact Nat.ne_of_lt (Nat.lt_of_lt_of_le (by have := World.block_lt_of_cell? _ _ hw103_3; first | rwa [add_block] at this | exact this) GW101.out))) _).trans (((cell_far (p := ⟨gb101, _, none⟩) (by first | exact Nat.ne_of_lt (Nat.lt_of_lt_of_le (by have := World.block_lt_of_cell? _ _ hw103_3; first | rwa [add_block] at this | exact this) GW101.out) | (rw [add_block]; exact Nat.ne_of_lt (Nat.lt_of_lt_of_le (by have := World.block_lt_of_cell? _ _ hw103_3; first | rwa [add_block] at this | exact this) GW101.out)) | (show (Addr.add _ _).block ≠ _; rw [add_block]; exact Nat.ne_of_lt (Nat.lt_of_lt_of_le (by have := World.block_lt_of_cell? _ _ hw103_3; first | rwa [add_block] at this | exact this) GW101.out)) | (dsimp only; exact Nat.ne_of_lt (Nat.lt_of_lt_of_le (by have := World.block_lt_of_cell? _ _ hw103_3; first | rwa [add_block] at this | exact this) GW101.out))) _).trans (hHeld.2.2.2.2.2.2.2.2.2.2.2.1)))), ((cell_far (p := ⟨gb101, _, none⟩) (by first | exact Nat.ne_of_lt (Nat.lt_of_lt_of_le (by have := World.block_lt_of_cell? _ _ hw103_4; first | rwa [add_block] at this | exact this) GW101.out) | (rw [add_block]; exact Nat.ne_of_lt (Nat.lt_of_lt_of_le (by have := World.block_lt_of_cell? _ _ hw103_4; first | rwa [add_block] at this | exact this) GW101.out)) | (show (Addr.add _ _).block ≠ _; rw [add_block]; exact Nat.ne_of_lt (Nat.lt_of_lt_of_le (by have := World.block_lt_of_cell? _ _ hw103_4; first | rwa [add_block] at this | exact this) GW101.out)) | (dsimp only; exact Nat.ne_of_lt (Nat.lt_of_lt_of_le (by have := World.block_lt_of_cell? _ _ hw103_4; first | rwa [add_block] at this | exact this) GW101.out))) _).trans (((cell_far (p := ⟨gb101, _, none⟩) (by first | exact Nat.ne_of_lt (Nat.lt_of_lt_of_le (by have := World.block_lt_of_cell? _ _ hw103_4; first | rwa [add_block] at this | exact this) GW101.out) | (rw [add_block]; exact Nat.ne_of_lt (Nat.lt_of_lt_of_le (by have := World.block_lt_of_cell? _ _ hw103_4; first | rwa [add_block] at this | exact this) GW101.out)) | (show (Addr.add _ _).block ≠ _; rw [add_block]; exact Nat.ne_of_lt (Nat.lt_of_lt_of_le (by have := World.block_lt_of_cell? _ _ hw103_4; first | rwa [add_block] at this | exact this) GW101.out)) | (dsimp only; exact Nat.ne_of_lt (Nat.lt_of_lt_of_le (by have := World.block_lt_of_cell? _ _ hw103_4; first | rwa [add_block] at this | exact this) GW101.out))) _).trans (hHeld.2.2.2.2.2.2.2.2.2.2.2.2.1)))), ((cell_far (p := ⟨gb101, _, none⟩) (by first | exact Nat.ne_of_lt (Nat.lt_of_lt_of_le (by have := World.block_lt_of_cell? _ _ hw103_5; first | rwa [add_block] at this | exact this) GW101.out) | (rw [add_block]; exact Nat.ne_of_lt (Nat.lt_of_lt_of_le (by have := World.block_lt_of_cell? _ _ hw103_5; first | rwa [add_block] at this | exact this) GW101.out)) | (show (Addr.add _ _).block ≠ _; rw [add_block]; exact Nat.ne_of_lt (Nat.lt_of_lt_of_le (by have := World.block_lt_of_cell? _ _ hw103_5; first | rwa [add_block] at this | exact this) GW101.out)) | (dsimp only; exact Nat.ne_of_lt (Nat.lt_of_lt_of_le (by have := World.block_lt_of_cell? _ _ hw103_5; first | rwa [add_block] at this | exact this) GW101.out))) _).trans (((cell_far (p := ⟨gb101, _, none⟩) (by first | exact Nat.ne_of_lt (Nat.lt_of_lt_of_le (by have := World.block_lt_of_cell? _ _ hw103_5; first | rwa [add_block] at this | exact this) GW101.out) | (rw [add_block]; exact Nat.ne_of_lt (Nat.lt_of_lt_of_le (by have := World.block_lt_of_cell? _ _ hw103_5; first | rwa [add_block] at this | exact this) GW101.out)) | (show (Addr.add _ _).block ≠ _; rw [add_block]; exact Nat.ne_of_lt (Nat.lt_of_lt_of_le (by have := World.block_lt_of_cell? _ _ hw103_5; first | rwa [add_block] at this | exact this) GW101.out)) | (dsimp only; exact Nat.ne_of_lt (Nat.lt_of_lt_of_le (by have := World.block_lt_of_cell? _ _ hw103_5; first | rwa [add_block] at this | exact this) GW101.out))) _).trans (hHeld.2.2.2.2.2.2.2.2.2.2.2.2.2.1)))), ((cell_far (p := ⟨gb101, _, none⟩) (by first | exact Nat.ne_of_lt (Nat.lt_of_lt_of_le (by have := World.block_lt_of_cell? _ _ hw103_6; first | rwa [add_block] at this | exact this) GW101.out) | (rw [add_block]; exact Nat.ne_of_lt (Nat.lt_of_lt_of_le (by have := World.block_lt_of_cell? _ _ hw103_6; first | rwa [add_block] at this | exact this) GW101.out)) | (show (Addr.add _ _).block ≠ _; rw [add_block]; exact Nat.ne_of_lt (Nat.lt_of_lt_of_le (by have := World.block_lt_of_cell? _ _ hw103_6; first | rwa [add_block] at this | exact this) GW101.out)) | (dsimp only; exact Nat.ne_of_lt (Nat.lt_of_lt_of_le (by have := World.block_lt_of_cell? _ _ hw103_6; first | rwa [add_block] at this | exact this) GW101.out))) _).trans (((cell_far (p := ⟨gb101, _, none⟩) (by first | exact Nat.ne_of_lt (Nat.lt_of_lt_of_le (by have := World.block_lt_of_cell? _ _ hw103_6; first | rwa [add_block] at this | exact this) GW101.out) | (rw [add_block]; exact Nat.ne_of_lt (Nat.lt_of_lt_of_le (by have := World.block_lt_of_cell? _ _ hw103_6; first | rwa [add_block] at this | exact this) GW101.out)) | (show (Addr.add _ _).block ≠ _; rw [add_block]; exact Nat.ne_of_lt (Nat.lt_of_lt_of_le (by have := World.block_lt_of_cell? _ _ hw103_6; first | rwa [add_block] at this | exact this) GW101.out)) | (dsimp only; exact Nat.ne_of_lt (Nat.lt_of_lt_of_le (by have := World.block_lt_of_cell? _ _ hw103_6; first | rwa [add_block] at this | exact this) GW101.out))) _).trans (hHeld.2.2.2.2.2.2.2.2.2.2.2.2.2.2.1)))), ((cell_far (p := ⟨gb101, _, none⟩) (by first | exact Nat.ne_of_lt (Nat.lt_of_lt_of_le (by have := World.block_lt_of_cell? _ _ hw103_7; first | rwa [add_block] at this | exact this) GW101.out) | (rw [add_block]; exact Nat.ne_of_lt (Nat.lt_of_lt_of_le (by have := World.block_lt_of_cell? _ _ hw103_7; first | rwa [add_block] at this | exact this) GW101.out)) | (show (Addr.add _ _).block ≠ _; rw [add_block]; exact Nat.ne_of_lt (Nat.lt_of_lt_of_le (by have := World.block_lt_of_cell? _ _ hw103_7; first | rwa [add_block] at this | exact this) GW101.out)) | (dsimp only; exact Nat.ne_of_lt (Nat.lt_of_lt_of_le (by have := World.block_lt_of_cell? _ _ hw103_7; first | rwa [add_block] at this | exact this) GW101.out))) _).trans (((cell_far (p := ⟨gb101, _, none⟩) (by first | exact Nat.ne_of_lt (Nat.lt_of_lt_of_le (by have := World.block_lt_of_cell? _ _ hw103_7; first | rwa [add_block] at this | exact this) GW101.out) | (rw [add_block]; exact Nat.ne_of_lt (Nat.lt_of_lt_of_le (by have := World.block_lt_of_cell? _ _ hw103_7; first | rwa [add_block] at this | exact this) GW101.out)) | (show (Addr.add _ _).block ≠ _; rw [add_block]; exact Nat.ne_of_lt (Nat.lt_of_lt_of_le (by have := World.block_lt_of_cell? _ _ hw103_7; first | rwa [add_block] at this | exact this) GW101.out)) | (dsimp only; exact Nat.ne_of_lt (Nat.lt_of_lt_of_le (by have := World.block_lt_of_cell? _ _ hw103_7; first | rwa [add_block] at this | exact this) GW101.out))) _).trans (hHeld.2.2.2.2.2.2.2.2.2.2.2.2.2.2.2))))⟩ (fun hHeld => ?_)
    clear hK K
    refine done_ (done_of HT_.out (by kernel_rfl)) ?_
    try go_wp2
    refine bodyPost_ret (results_cell_row rfl _ _ gb101 110 #[.int .i64 ((rd_T141 l0 a1).f0), .int .i64 ((rd_T141 l0 a1).f1)] (0, 0) _ rfl (by (with_reducible repeat (first | refine blk_drewN ?_ _ | refine blk_drew ?_ | refine blk_alloc ?_ _)); refine blk_put (cs := #[.int .i64 ((rd_T141 l0 a1).f0), .int .i64 0]) ?_ 1 _ rfl; (with_reducible repeat (first | refine blk_drewN ?_ _ | refine blk_drew ?_ | refine blk_alloc ?_ _)); refine blk_put (cs := #[.int .i64 0, .int .i64 0]) ?_ 0 _ rfl; (with_reducible repeat (first | refine blk_drewN ?_ _ | refine blk_drew ?_ | refine blk_alloc ?_ _)); exact BK101.out) Try.underlying110 rfl (by kernel_rfl)) rfl ?_
    exact ⟨ER, K1 HB GE101.out⟩
   ·rw [if_neg c7] at H
    exact absurd H (by simp)
  ·rw [if_neg c6] at H
   exact absurd H (by simp)
end Go.Proofs.Ytlpmmmhfceeiaaa.PAll
end
