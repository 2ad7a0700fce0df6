/- Contracts of the functions that the statement reaches. -/
import Derived.Lib.LazyBuf
import Derived.Test.YtaehmhbpdpdefaaGreatCFnExactGateLoad3
import Derived.Test.YtaehmhbpdpdefaaGreatCFnExactGateLoad4
import Derived.Test.YtaehmhbpdpdefaaGreatCFnExactGateLoad6
set_option maxHeartbeats 8000000
set_option maxRecDepth 100000
section
namespace Go.Proofs.YtaehmhbpdpdefaaGreat.PAll
open Go.RowKit Go.Proofs.YtaehmhbpdpdefaaGreatW.PrintWords Go.Proofs.YtaehmhbpdpdefaaGreatW.PrintLast Go.Proofs.YtaehmhbpdpdefaaGreatW.PrintMore
attribute [local go_sem] max2_int min2_int max_two min_two max_three min_three max_four min_four
set_option linter.unusedVariables false
set_option linter.unusedSimpArgs false
mutual
def impl_ascending_tunOf.l0 (qfn : Int → Int → ByteArray → ByteArray → Int → Int → Int → Int → Int → Int → List Int → Option Int) : Nat → List (S83) → Int → List (S83) → Int → Int → Option (Bool)
 | 0, _, _, _, _, _ => none
 | k + 1, x0, x1, x9, x10, x11 => if x11 < x10 then (if 0 ≤ x11 then (if x11 < (x9.length : Int) then ((impl_SaOk.f k ((rd_T83 x9 x11).f0) ((rd_T83 x9 x11).f1) ((rd_T83 x9 x11).f2) ((rd_T83 x9 x11).f3) ((rd_T83 x9 x11).f4) ((rd_T83 x9 x11).f5) ((rd_T83 x9 x11).f6) ((rd_T83 x9 x11).f7) ((rd_T83 x9 x11).f8) ((rd_T83 x9 x11).f9.f0) ((rd_T83 x9 x11).f9.f1)).bind fun t103 => (if t103 = true then (if ((rd_T83 x9 x11).f4) > x1 then (impl_ascending_tunOf.j1 qfn k x0 x1 x9 x10 x11 true) else (if x11 > 0 then (if 0 ≤ (wrap64 (x11 - 1)) then (if (wrap64 (x11 - 1)) < (x0.length : Int) then ((qfn ((rd_T83 x0 (wrap64 (x11 - 1))).f0) ((rd_T83 x0 (wrap64 (x11 - 1))).f1) ((rd_T83 x0 (wrap64 (x11 - 1))).f2) ((rd_T83 x0 (wrap64 (x11 - 1))).f3) ((rd_T83 x0 (wrap64 (x11 - 1))).f4) ((rd_T83 x0 (wrap64 (x11 - 1))).f5) ((rd_T83 x0 (wrap64 (x11 - 1))).f6) ((rd_T83 x0 (wrap64 (x11 - 1))).f7) ((rd_T83 x0 (wrap64 (x11 - 1))).f8) ((rd_T83 x0 (wrap64 (x11 - 1))).f9.f0) ((rd_T83 x0 (wrap64 (x11 - 1))).f9.f1)).bind fun t105 => ((qfn ((rd_T83 x9 x11).f0) ((rd_T83 x9 x11).f1) ((rd_T83 x9 x11).f2) ((rd_T83 x9 x11).f3) ((rd_T83 x9 x11).f4) ((rd_T83 x9 x11).f5) ((rd_T83 x9 x11).f6) ((rd_T83 x9 x11).f7) ((rd_T83 x9 x11).f8) ((rd_T83 x9 x11).f9.f0) ((rd_T83 x9 x11).f9.f1)).bind fun t106 => (impl_ascending_tunOf.j1 qfn k x0 x1 x9 x10 x11 (decide (t105 ≥ t106))))) else (none)) else (none)) else (impl_ascending_tunOf.j1 qfn k x0 x1 x9 x10 x11 false))) else (impl_ascending_tunOf.j1 qfn k x0 x1 x9 x10 x11 true))) else (none)) else (none)) else (some true)
def impl_ascending_tunOf.j1 (qfn : Int → Int → ByteArray → ByteArray → Int → Int → Int → Int → Int → Int → List Int → Option Int) : Nat → List (S83) → Int → List (S83) → Int → Int → Bool → Option (Bool)
 | 0, _, _, _, _, _, _ => none
 | k + 1, x0, x1, x9, x10, x11, x41 => if x41 = true then (some false) else (impl_ascending_tunOf.l0 qfn k x0 x1 x9 x10 (wrap64 (x11 + 1)))
end
def impl_ascending_tunOf.g (qfn : Int → Int → ByteArray → ByteArray → Int → Int → Int → Int → Int → Int → List Int → Option Int) (k : Nat) (l0 : List (S83)) (a1 : Int)  : Option (Bool) := impl_ascending_tunOf.l0 qfn k l0 a1 l0 (l0.length : Int) 0
def impl_ascending_tunOf.T4 : Bool × List (List Nat × List Nat) := (true, [([], []), ([0], [0]), ([1], [1]), ([2, 1], [2]), ([3], [3]), ([4, 3], [3, 4]), ([3], [3]), ([5, 6, 3], [3, 5, 6]), ([3, 7], [3, 7]), ([8, 3], [8]), ([9], [9]), ([10, 9], [9, 10]), ([11, 9, 9], [9, 11]), ([12], [12]), ([12], [12]), ([12], [12]), ([15, 12], [12, 15]), ([14, 16, 12], [12, 14, 16]), ([17, 12], [12, 17]), ([13, 18, 12, 12], [12, 13, 18]), ([12], [12]), ([12], [12]), ([20, 21, 19, 12], [12, 20, 21]), ([19, 22, 12], [12, 19, 22]), ([12, 23, 9], [9, 12, 23]), ([9, 24], [9, 24])])
def impl_ascending_tunOf.B4 : List Nat := [0, 1, 3, 7, 15, 31, 15, 127, 255, 511, 1023, 2047, 4095, 8191, 8191, 8191, 40959, 122879, 253951, 524287, 8191, 8191, 4194303, 8388607, 16777215, 33554431]
theorem impl_ascending_tunOf.tab4 : rtab .any (opsOf Tryz.f48 4) = impl_ascending_tunOf.T4 := by kernel_rfl
theorem impl_ascending_tunOf.bits4 : waitsOk impl_ascending_tunOf.T4.2 impl_ascending_tunOf.B4 = true := by kernel_rfl
theorem impl_ascending_tunOf.gcalls (qfn : Int → Int → ByteArray → ByteArray → Int → Int → Int → Int → Int → Int → List Int → Option Int) {fo : Nat} {fn : Func} (hpf : Tryz.prog.funcs[fo]? = some fn) (hpn : (fn.name == "runtime.NumGoroutine") = false) (hpb : fn.body.isSome = true) (hpc : ∀ (a0 a1 : Int) (a2 a3 : ByteArray) (a4 a5 a6 a7 a8 a9 : Int) (A : Option Addr) (c : Nat) (l : List Int) (r : Int) (w : World), Kd.C (Kd.int .i64) w A l.length l → l.length ≤ c → qfn a0 a1 a2 a3 a4 a5 a6 a7 a8 a9 l = some r → Calls Tryz.prog fo #[.agg #[.int .i64 a0, .int .i64 a1, .string a2, .string a3, .int .i64 a4, .int .i64 a5, .int .i64 a6, .int .i64 a7, .int .i64 a8, .int .i64 a9, .slice A l.length c]] w fun e w' => e = .returned (.int .i64 r) ∧ Below w.heap.size w w') (k : Nat) (A0 : Option Addr) (c0 : Nat) (l0 : List (S83)) (a1 : Int)  (r : Bool) (w : World) (hr0 : Kd.C k83 w A0 l0.length l0) (hc0 : l0.length ≤ c0) (h : impl_ascending_tunOf.g qfn k l0 a1 = some r) :
  Calls Tryz.prog 48 #[.slice A0 l0.length c0, .int .i64 a1, .func (.func fo) #[] #[]] w fun e w' => e = .returned (.bool r) ∧ Below w.heap.size w w' := by
 have hu83 := Tryz.underlying83; have HR0 := Aside0.mk hr0; have HC0 := Aside0.mk hc0; clear hr0 hc0; have HB := am (Below.refl w.heap.size w); have H : (impl_ascending_tunOf.l0 qfn k l0 a1 l0 (l0.length : Int) 0) = some r := h; clear h; have H' := Aside0.mk H; clear H; go_enter Tryz.func48, Tryz.ntmps48
 go_wp2
 go_loopg [11] k (fun kq v11 w' => ∃ (x11_1 : Int), v11 = .int .i64 x11_1 ∧ Aside0 (impl_ascending_tunOf.l0 qfn kq l0 a1 l0 (l0.length : Int) x11_1 = some r) ∧ Aside0 (kq ≤ k) ∧ Aside0 (Below w.heap.size w w'))
 case atStart => exact ⟨(0), RS, H', ⟨Nat.le_refl _⟩, ⟨KL HB⟩⟩
 case round =>
  clear H'; try clear p2
  obtain ⟨x11_1, rfl, HA, HK1, HB⟩ := hrel; cases gk with
  | zero => exact absurd HA.out (by simp [impl_ascending_tunOf.l0])
  | succ k1 =>
   have H := HA.out; clear HA; simp only [impl_ascending_tunOf.l0] at H; by_cases c4 : x11_1 < (l0.length : Int)
   ·rw [if_pos c4] at H
    have c4b0 := decide_eq_true c4; clear c4; by_cases c5 : 0 ≤ x11_1
    ·rw [if_pos c5] at H
     have c5b0 := decide_eq_true c5; clear c5; by_cases c6 : x11_1 < (l0.length : Int)
     ·rw [if_pos c6] at H
      have c6b0 := decide_eq_true c6; clear c6; have HC7 := Aside0.mk H; clear H; have p101 : 0 ≤ (x11_1 : Int) := OD; have q101 : x11_1 < (l0.length : Int) := OD; obtain ⟨ad101, A101_10, c101_10, e101, hx101_0, hx101_1, hx101_2, hx101_3, hx101_4, hx101_5, hx101_6, hx101_7, hx101_8, hx101_9, hx101_10, hl101_10, hi101_10⟩ := at_T83 HR0.out x11_1 p101 q101; cases e101
      replace hx101_0 := CX HB.out hx101_0; replace hx101_1 := CX HB.out hx101_1; replace hx101_2 := CX HB.out hx101_2; replace hx101_3 := CX HB.out hx101_3; replace hx101_4 := CX HB.out hx101_4; replace hx101_5 := CX HB.out hx101_5; replace hx101_6 := CX HB.out hx101_6; replace hx101_7 := CX HB.out hx101_7; replace hx101_8 := CX HB.out hx101_8; replace hx101_9 := CX HB.out hx101_9; replace hx101_10 := CX HB.out hx101_10; have HR101_10 := Aside0.mk hi101_10; have HC101_10 := Aside0.mk hl101_10; clear hi101_10 hl101_10; replace p101 := eq_true p101; replace q101 := eq_true q101; go_upto_region 4 with (first | ((with_reducible refine gate_dst (N := 8) rfl ?_); refine box_event rfl (N := 8) rfl (cs := #[.int .i64 0, .int .i64 0, .string (⟨#[]⟩ : ByteArray), .string (⟨#[]⟩ : ByteArray), .int .i64 0, .int .i64 0, .int .i64 0, .int .i64 0, .int .i64 0, .int .i64 0, .slice none 0 0]) (t := 83) BX ?_; intro gb102 hg w8 hbox hb; have BK102 := am (hbox); have GW102 := am (GH HB hg); have GE102 := GW102; replace HB := bl (KL HB) hb; clear hb hbox hg; obtain ⟨hcz9_0, hcz9_1, hcz9_2, hcz9_3, hcz9_4, hcz9_5, hcz9_6, hcz9_7, hcz9_8, hcz9_9, hcz9_10, hfz9_0⟩ := y11 w8 BK102.out))
      (try simp only [Act.put, List.setIfInBounds_toArray, List.set_cons_zero, List.set_cons_succ])
      go_cut [41] (fun v41 wc => ∃ (kq : Nat) (x41_6 : Bool), v41 = .bool x41_6 ∧ Aside0 (impl_ascending_tunOf.j1 qfn kq l0 a1 l0 (l0.length : Int) x11_1 x41_6 = some r) ∧ Aside0 (kq ≤ k1) ∧ Aside0 (wc.heap[gb102]? = some (.cells #[.int .i64 ((rd_T83 l0 x11_1).f0), .int .i64 ((rd_T83 l0 x11_1).f1), .string ((rd_T83 l0 x11_1).f2), .string ((rd_T83 l0 x11_1).f3), .int .i64 ((rd_T83 l0 x11_1).f4), .int .i64 ((rd_T83 l0 x11_1).f5), .int .i64 ((rd_T83 l0 x11_1).f6), .int .i64 ((rd_T83 l0 x11_1).f7), .int .i64 ((rd_T83 l0 x11_1).f8), .int .i64 ((rd_T83 l0 x11_1).f9.f0), (.slice A101_10 ((rd_T83 l0 x11_1).f9.f1).length c101_10)] 83 (0, 0))) ∧ Aside0 (Below w.heap.size w wc))
      case first =>
       have H := HC7.out; clear HC7; obtain ⟨t103, A10, H⟩ := b1 H; by_cases c11 : t103 = true
       ·subst c11
        replace H := pf H; by_cases c12 : ((rd_T83 l0 x11_1).f4) > a1
        ·rw [if_pos c12] at H
         have c12b0 := decide_eq_true c12; clear c12; (first | rw [c12b0] | (simp only [i64_w, i32_w]; rw [c12b0]) | skip)
         have H' := Aside0.mk H; clear H; try go_wp2
         generalize hq_ : (((((((((((w8.setCell ⟨gb102, 0, none⟩ (.int .i64 ((rd_T83 l0 x11_1).f0))).setCell ⟨gb102, 1, none⟩ (.int .i64 ((rd_T83 l0 x11_1).f1))).setCell ⟨gb102, 2, none⟩ (.string ((rd_T83 l0 x11_1).f2))).setCell ⟨gb102, 3, none⟩ (.string ((rd_T83 l0 x11_1).f3))).setCell ⟨gb102, 4, none⟩ (.int .i64 ((rd_T83 l0 x11_1).f4))).setCell ⟨gb102, 5, none⟩ (.int .i64 ((rd_T83 l0 x11_1).f5))).setCell ⟨gb102, 6, none⟩ (.int .i64 ((rd_T83 l0 x11_1).f6))).setCell ⟨gb102, 7, none⟩ (.int .i64 ((rd_T83 l0 x11_1).f7))).setCell ⟨gb102, 8, none⟩ (.int .i64 ((rd_T83 l0 x11_1).f8))).setCell ⟨gb102, 9, none⟩ (.int .i64 ((rd_T83 l0 x11_1).f9.f0))).setCell ⟨gb102, 10, none⟩ (.slice A101_10 ((rd_T83 l0 x11_1).f9.f1).length c101_10)) = w13; have n0_ : Aside0 (w13.heap[gb102]? = some (.cells #[.int .i64 ((rd_T83 l0 x11_1).f0), .int .i64 ((rd_T83 l0 x11_1).f1), .string ((rd_T83 l0 x11_1).f2), .string ((rd_T83 l0 x11_1).f3), .int .i64 ((rd_T83 l0 x11_1).f4), .int .i64 ((rd_T83 l0 x11_1).f5), .int .i64 ((rd_T83 l0 x11_1).f6), .int .i64 ((rd_T83 l0 x11_1).f7), .int .i64 ((rd_T83 l0 x11_1).f8), .int .i64 ((rd_T83 l0 x11_1).f9.f0), .slice A101_10 ((rd_T83 l0 x11_1).f9.f1).length c101_10] 83 (0, 0))) := ⟨by rw [← hq_]; exact P11 BK102⟩; have n1_ : Aside0 (Below w.heap.size w w13) := ⟨by rw [← hq_]; exact K1 HB GE102.out⟩; clear hq_; (try clear BK102)
         (try clear HB)
         have BK102 := n0_; have HB := n1_; clear n0_ n1_; replace BK102 := am (blk_drew BK102.out); replace HB := am (below_drew1 HB.out); refine start_ (n := 26) (S := fun w' => de11 w' gb102 (.int .i64 ((rd_T83 l0 x11_1).f0)) (.int .i64 ((rd_T83 l0 x11_1).f1)) (.string ((rd_T83 l0 x11_1).f2)) (.string ((rd_T83 l0 x11_1).f3)) (.int .i64 ((rd_T83 l0 x11_1).f4)) (.int .i64 ((rd_T83 l0 x11_1).f5)) (.int .i64 ((rd_T83 l0 x11_1).f6)) (.int .i64 ((rd_T83 l0 x11_1).f7)) (.int .i64 ((rd_T83 l0 x11_1).f8)) (.int .i64 ((rd_T83 l0 x11_1).f9.f0)) (.slice A101_10 ((rd_T83 l0 x11_1).f9.f1).length c101_10)) (ds := []) (tf 0 26) (by kernel_rfl) rfl rfl (zd11 BK102) (fun hHeld => ?_); refine with_tabW impl_ascending_tunOf.tab4 impl_ascending_tunOf.bits4 (fun HT_ HW_ => ?_); generalize w13.drew = w14 at BK102 HB hHeld ⊢; refine tw HT_ HW_ 0 16 (tf 1 25) hHeld ?_; refine oW HT_ 1 17 (tf 2 24) (fun K hK => ?_); refine gW Tryz.func82 #[.agg #[.int .i64 ((rd_T83 l0 x11_1).f0), .int .i64 ((rd_T83 l0 x11_1).f1), .string ((rd_T83 l0 x11_1).f2), .string ((rd_T83 l0 x11_1).f3), .int .i64 ((rd_T83 l0 x11_1).f4), .int .i64 ((rd_T83 l0 x11_1).f5), .int .i64 ((rd_T83 l0 x11_1).f6), .int .i64 ((rd_T83 l0 x11_1).f7), .int .i64 ((rd_T83 l0 x11_1).f8), .int .i64 ((rd_T83 l0 x11_1).f9.f0), .slice A101_10 ((rd_T83 l0 x11_1).f9.f1).length c101_10]] ?_; with_reducible refine (impl_SaOk.calls k1 ((rd_T83 l0 x11_1).f0) ((rd_T83 l0 x11_1).f1) ((rd_T83 l0 x11_1).f2) ((rd_T83 l0 x11_1).f3) ((rd_T83 l0 x11_1).f4) ((rd_T83 l0 x11_1).f5) ((rd_T83 l0 x11_1).f6) ((rd_T83 l0 x11_1).f7) ((rd_T83 l0 x11_1).f8) ((rd_T83 l0 x11_1).f9.f0) _ _ ((rd_T83 l0 x11_1).f9.f1) true _ ?_ ?_ A10.out).mono ?_
         exact KD HR101_10 HB; exact HC101_10.out; rintro e w15 ⟨rfl, hb⟩; refine ⟨_, rfl, ?_⟩; replace BK102 := am (BB BK102 hb); replace HB := bl (K1 HB GE102.out) hb; (try clear hb)
         (try clear hb2)
         (try clear hk)
         (try clear hi)
         refine hK.out _ _ (zd11 BK102) (fun hHeld => ?_); clear hK K; refine nm (some 17) ?_; refine pv HT_ 2 18 (tf 3 23) ?_; refine pv HT_ 3 19 (tf 4 22) ?_; refine pv HT_ 4 20 (tf 5 21) ?_; refine pv HT_ 6 22 (tr [5, 1, 1, 19]) ?_; refine tw HT_ HW_ 5 21 (tf 7 19) hHeld ?_; refine pv HT_ 7 23 (tf 8 18) ?_; refine pv HT_ 8 24 (tf 9 17) ?_; refine pv HT_ 9 25 (tf 10 16) ?_; refine pw HT_ 10 26 (tf 11 15) ?_; refine pw HT_ 11 27 (tf 12 14) ?_; refine pw HT_ 12 28 (tf 13 13) ?_; refine pw HT_ 13 29 (tf 14 12) ?_; refine pw HT_ 14 30 (tf 15 11) ?_; refine pw HT_ 15 31 (tf 16 10) ?_; refine pw HT_ 16 32 (tf 17 9) ?_; refine pw HT_ 17 33 (tf 18 8) ?_; refine pw HT_ 18 34 (tf 19 7) ?_; refine pw HT_ 19 35 (tf 20 6) ?_; refine pw HT_ 20 36 (tf 21 5) ?_; refine pw HT_ 21 37 (tf 22 4) ?_; refine pw HT_ 22 38 (tf 23 3) ?_; refine pw HT_ 23 39 (tf 24 2) ?_; refine pw HT_ 24 40 (tf 25 1) ?_; refine pv HT_ 25 41 (tf 26 0) ?_; refine done_ (done_of HT_.out (by kernel_rfl)) ?_; try go_wp2
         go_meet
         case rel => exact ⟨_, (true), RS, H', ⟨by have := HK1.out; first | omega | exact Nat.le_refl _⟩, ⟨KB BK102⟩, ⟨K1 HB GE102.out⟩⟩
        ·rw [if_neg c12] at H
         have c12b0 := decide_eq_false c12; clear c12; (first | rw [c12b0] | (simp only [i64_w, i32_w]; rw [c12b0]) | skip)
         by_cases c16 : x11_1 > 0
         ·rw [if_pos c16] at H
          have c16b0 := decide_eq_true c16; clear c16; obtain ⟨ji17, hji17⟩ : ∃ j_ : Int, (wrap64 (x11_1 - 1)) = j_ := ⟨_, rfl⟩; replace H : (if 0 ≤ (ji17) then (if (ji17) < (l0.length : Int) then ((qfn ((rd_T83 l0 (ji17)).f0) ((rd_T83 l0 (ji17)).f1) ((rd_T83 l0 (ji17)).f2) ((rd_T83 l0 (ji17)).f3) ((rd_T83 l0 (ji17)).f4) ((rd_T83 l0 (ji17)).f5) ((rd_T83 l0 (ji17)).f6) ((rd_T83 l0 (ji17)).f7) ((rd_T83 l0 (ji17)).f8) ((rd_T83 l0 (ji17)).f9.f0) ((rd_T83 l0 (ji17)).f9.f1)).bind fun t105 => ((qfn ((rd_T83 l0 x11_1).f0) ((rd_T83 l0 x11_1).f1) ((rd_T83 l0 x11_1).f2) ((rd_T83 l0 x11_1).f3) ((rd_T83 l0 x11_1).f4) ((rd_T83 l0 x11_1).f5) ((rd_T83 l0 x11_1).f6) ((rd_T83 l0 x11_1).f7) ((rd_T83 l0 x11_1).f8) ((rd_T83 l0 x11_1).f9.f0) ((rd_T83 l0 x11_1).f9.f1)).bind fun t106 => (impl_ascending_tunOf.j1 qfn k1 l0 a1 l0 (l0.length : Int) x11_1 (decide (t105 ≥ t106))))) else (none)) else (none)) = some r := by first | (rw [hji17] at H; exact H) | (simp only [hji17] at H ⊢; exact H)
          (try rw [hji17] at A10)
          have hji17w : (IntKind.i64.wrap (x11_1 - 1)) = ji17 := (i64_w _).trans hji17; by_cases c18 : 0 ≤ (ji17)
          ·rw [if_pos c18] at H
           have c18b0 := decide_eq_true c18; clear c18; by_cases c19 : (ji17) < (l0.length : Int)
           ·rw [if_pos c19] at H
            have c19b0 := decide_eq_true c19; clear c19; obtain ⟨t105, A20, H⟩ := b1 H; obtain ⟨t106, A21, H⟩ := b1 H; have H' := Aside0.mk H; clear H; try go_wp2
            generalize hq_ : (((((((((((w8.setCell ⟨gb102, 0, none⟩ (.int .i64 ((rd_T83 l0 x11_1).f0))).setCell ⟨gb102, 1, none⟩ (.int .i64 ((rd_T83 l0 x11_1).f1))).setCell ⟨gb102, 2, none⟩ (.string ((rd_T83 l0 x11_1).f2))).setCell ⟨gb102, 3, none⟩ (.string ((rd_T83 l0 x11_1).f3))).setCell ⟨gb102, 4, none⟩ (.int .i64 ((rd_T83 l0 x11_1).f4))).setCell ⟨gb102, 5, none⟩ (.int .i64 ((rd_T83 l0 x11_1).f5))).setCell ⟨gb102, 6, none⟩ (.int .i64 ((rd_T83 l0 x11_1).f6))).setCell ⟨gb102, 7, none⟩ (.int .i64 ((rd_T83 l0 x11_1).f7))).setCell ⟨gb102, 8, none⟩ (.int .i64 ((rd_T83 l0 x11_1).f8))).setCell ⟨gb102, 9, none⟩ (.int .i64 ((rd_T83 l0 x11_1).f9.f0))).setCell ⟨gb102, 10, none⟩ (.slice A101_10 ((rd_T83 l0 x11_1).f9.f1).length c101_10)) = w22; have n0_ : Aside0 (w22.heap[gb102]? = some (.cells #[.int .i64 ((rd_T83 l0 x11_1).f0), .int .i64 ((rd_T83 l0 x11_1).f1), .string ((rd_T83 l0 x11_1).f2), .string ((rd_T83 l0 x11_1).f3), .int .i64 ((rd_T83 l0 x11_1).f4), .int .i64 ((rd_T83 l0 x11_1).f5), .int .i64 ((rd_T83 l0 x11_1).f6), .int .i64 ((rd_T83 l0 x11_1).f7), .int .i64 ((rd_T83 l0 x11_1).f8), .int .i64 ((rd_T83 l0 x11_1).f9.f0), .slice A101_10 ((rd_T83 l0 x11_1).f9.f1).length c101_10] 83 (0, 0))) := ⟨by rw [← hq_]; exact P11 BK102⟩; have n1_ : Aside0 (Below w.heap.size w w22) := ⟨by rw [← hq_]; exact K1 HB GE102.out⟩; clear hq_; (try clear BK102)
            (try clear HB)
            have BK102 := n0_; have HB := n1_; clear n0_ n1_; replace BK102 := am (blk_drew BK102.out); replace HB := am (below_drew1 HB.out); have p104 : 0 ≤ ((ji17) : Int) := OD; have q104 : (ji17) < (l0.length : Int) := OD; obtain ⟨ad104, A104_10, c104_10, e104, hx104_0, hx104_1, hx104_2, hx104_3, hx104_4, hx104_5, hx104_6, hx104_7, hx104_8, hx104_9, hx104_10, hl104_10, hi104_10⟩ := at_T83 HR0.out (ji17) p104 q104; have hw104_10 := hx104_10; have hw104_9 := hx104_9; have hw104_8 := hx104_8; have hw104_7 := hx104_7; have hw104_6 := hx104_6; have hw104_5 := hx104_5; have hw104_4 := hx104_4; have hw104_3 := hx104_3; have hw104_2 := hx104_2; have hw104_1 := hx104_1; have hw104_0 := hx104_0; obtain rfl : ad101 = ad104 := (by injection e104); replace hx104_0 := CX HB.out hx104_0; replace hx104_1 := CX HB.out hx104_1; replace hx104_2 := CX HB.out hx104_2; replace hx104_3 := CX HB.out hx104_3; replace hx104_4 := CX HB.out hx104_4; replace hx104_5 := CX HB.out hx104_5; replace hx104_6 := CX HB.out hx104_6; replace hx104_7 := CX HB.out hx104_7; replace hx104_8 := CX HB.out hx104_8; replace hx104_9 := CX HB.out hx104_9; replace hx104_10 := CX HB.out hx104_10; have HR104_10 := Aside0.mk hi104_10; have HC104_10 := Aside0.mk hl104_10; clear hi104_10 hl104_10; replace p104 := eq_true p104; replace q104 := eq_true q104; refine start_ (n := 26) (S := fun w' => ce11 w' gb102 (.int .i64 ((rd_T83 l0 x11_1).f0)) (.int .i64 ((rd_T83 l0 x11_1).f1)) (.string ((rd_T83 l0 x11_1).f2)) (.string ((rd_T83 l0 x11_1).f3)) (.int .i64 ((rd_T83 l0 x11_1).f4)) (.int .i64 ((rd_T83 l0 x11_1).f5)) (.int .i64 ((rd_T83 l0 x11_1).f6)) (.int .i64 ((rd_T83 l0 x11_1).f7)) (.int .i64 ((rd_T83 l0 x11_1).f8)) (.int .i64 ((rd_T83 l0 x11_1).f9.f0)) (.slice A101_10 ((rd_T83 l0 x11_1).f9.f1).length c101_10) (w'.cell? (ad101.add (((ji17)).toNat * 11)) = some (.int .i64 ((rd_T83 l0 (ji17)).f0)) ∧ w'.cell? ⟨(ad101.add (((ji17)).toNat * 11)).block, (ad101.add (((ji17)).toNat * 11)).off + 1, none⟩ = some (.int .i64 ((rd_T83 l0 (ji17)).f1)) ∧ w'.cell? ⟨(ad101.add (((ji17)).toNat * 11)).block, (ad101.add (((ji17)).toNat * 11)).off + 2, none⟩ = some (.string ((rd_T83 l0 (ji17)).f2)) ∧ w'.cell? ⟨(ad101.add (((ji17)).toNat * 11)).block, (ad101.add (((ji17)).toNat * 11)).off + 3, none⟩ = some (.string ((rd_T83 l0 (ji17)).f3)) ∧ w'.cell? ⟨(ad101.add (((ji17)).toNat * 11)).block, (ad101.add (((ji17)).toNat * 11)).off + 4, none⟩ = some (.int .i64 ((rd_T83 l0 (ji17)).f4)) ∧ w'.cell? ⟨(ad101.add (((ji17)).toNat * 11)).block, (ad101.add (((ji17)).toNat * 11)).off + 5, none⟩ = some (.int .i64 ((rd_T83 l0 (ji17)).f5)) ∧ w'.cell? ⟨(ad101.add (((ji17)).toNat * 11)).block, (ad101.add (((ji17)).toNat * 11)).off + 6, none⟩ = some (.int .i64 ((rd_T83 l0 (ji17)).f6)) ∧ w'.cell? ⟨(ad101.add (((ji17)).toNat * 11)).block, (ad101.add (((ji17)).toNat * 11)).off + 7, none⟩ = some (.int .i64 ((rd_T83 l0 (ji17)).f7)) ∧ w'.cell? ⟨(ad101.add (((ji17)).toNat * 11)).block, (ad101.add (((ji17)).toNat * 11)).off + 8, none⟩ = some (.int .i64 ((rd_T83 l0 (ji17)).f8)) ∧ w'.cell? ⟨(ad101.add (((ji17)).toNat * 11)).block, (ad101.add (((ji17)).toNat * 11)).off + 9, none⟩ = some (.int .i64 ((rd_T83 l0 (ji17)).f9.f0)) ∧ w'.cell? ⟨(ad101.add (((ji17)).toNat * 11)).block, (ad101.add (((ji17)).toNat * 11)).off + 10, none⟩ = some (.slice A104_10 ((rd_T83 l0 (ji17)).f9.f1).length c104_10))) (ds := []) (tf 0 26) (by kernel_rfl) rfl rfl (zc11 BK102 ⟨(CY HB.out hw104_0), (CY HB.out hw104_1), (CY HB.out hw104_2), (CY HB.out hw104_3), (CY HB.out hw104_4), (CY HB.out hw104_5), (CY HB.out hw104_6), (CY HB.out hw104_7), (CY HB.out hw104_8), (CY HB.out hw104_9), (CY HB.out hw104_10)⟩) (fun hHeld => ?_); refine with_tabW impl_ascending_tunOf.tab4 impl_ascending_tunOf.bits4 (fun HT_ HW_ => ?_); generalize w22.drew = w23 at BK102 HB HR104_10 hx104_0 hx104_1 hx104_10 hx104_2 hx104_3 hx104_4 hx104_5 hx104_6 hx104_7 hx104_8 hx104_9 hHeld ⊢; refine tw HT_ HW_ 0 16 (tf 1 25) hHeld ?_; refine oW HT_ 1 17 (tf 2 24) (fun K hK => ?_); refine gW Tryz.func82 #[.agg #[.int .i64 ((rd_T83 l0 x11_1).f0), .int .i64 ((rd_T83 l0 x11_1).f1), .string ((rd_T83 l0 x11_1).f2), .string ((rd_T83 l0 x11_1).f3), .int .i64 ((rd_T83 l0 x11_1).f4), .int .i64 ((rd_T83 l0 x11_1).f5), .int .i64 ((rd_T83 l0 x11_1).f6), .int .i64 ((rd_T83 l0 x11_1).f7), .int .i64 ((rd_T83 l0 x11_1).f8), .int .i64 ((rd_T83 l0 x11_1).f9.f0), .slice A101_10 ((rd_T83 l0 x11_1).f9.f1).length c101_10]] ?_; with_reducible refine (impl_SaOk.calls k1 ((rd_T83 l0 x11_1).f0) ((rd_T83 l0 x11_1).f1) ((rd_T83 l0 x11_1).f2) ((rd_T83 l0 x11_1).f3) ((rd_T83 l0 x11_1).f4) ((rd_T83 l0 x11_1).f5) ((rd_T83 l0 x11_1).f6) ((rd_T83 l0 x11_1).f7) ((rd_T83 l0 x11_1).f8) ((rd_T83 l0 x11_1).f9.f0) _ _ ((rd_T83 l0 x11_1).f9.f1) true _ ?_ ?_ A10.out).mono ?_
            exact KD HR101_10 HB; exact HC101_10.out; rintro e w24 ⟨rfl, hb⟩; refine ⟨_, rfl, ?_⟩; replace BK102 := am (BB BK102 hb); replace HB := bl (K1 HB GE102.out) hb; (try clear hb)
            (try clear hb2)
            (try clear hk)
            (try clear hi)
            refine hK.out _ _ (zc11 BK102 ⟨(CY HB.out hw104_0), (CY HB.out hw104_1), (CY HB.out hw104_2), (CY HB.out hw104_3), (CY HB.out hw104_4), (CY HB.out hw104_5), (CY HB.out hw104_6), (CY HB.out hw104_7), (CY HB.out hw104_8), (CY HB.out hw104_9), (CY HB.out hw104_10)⟩) (fun hHeld => ?_); clear hK K; refine nm (some 17) ?_; refine pv HT_ 2 18 (tf 3 23) ?_; refine pv HT_ 3 19 (tf 4 22) ?_; refine pv HT_ 4 20 (tf 5 21) ?_; refine pv HT_ 6 22 (tr [5, 1, 1, 19]) ?_; refine tw HT_ HW_ 5 21 (tf 7 19) hHeld ?_; refine pv HT_ 7 23 (tf 8 18) ?_; refine pv HT_ 8 24 (tf 9 17) ?_; refine pv HT_ 9 25 (tf 10 16) ?_; refine pv HT_ 10 26 (tf 11 15) ?_; refine pv HT_ 11 27 (tf 12 14) ?_; refine pv HT_ 12 28 (tf 13 13) ?_; refine pv HT_ 13 29 (tf 14 12) ?_; refine pv HT_ 14 30 (tf 15 11) ?_; refine pv HT_ 15 31 (tf 16 10) ?_; refine pv HT_ 16 32 (tf 17 9) ?_; refine pv HT_ 17 33 (tf 18 8) ?_; refine pv HT_ 20 36 (tr [18, 2, 1, 5]) ?_; refine tw HT_ HW_ 18 34 (tr [19, 1, 1, 5]) hHeld ?_; refine tw HT_ HW_ 21 37 (tr [19, 1, 2, 4]) hHeld ?_; refine oW HT_ 19 35 (tf 22 4) (fun K hK => ?_); refine goesW_ hpf hpn hpb #[.agg #[.int .i64 ((rd_T83 l0 (ji17)).f0), .int .i64 ((rd_T83 l0 (ji17)).f1), .string ((rd_T83 l0 (ji17)).f2), .string ((rd_T83 l0 (ji17)).f3), .int .i64 ((rd_T83 l0 (ji17)).f4), .int .i64 ((rd_T83 l0 (ji17)).f5), .int .i64 ((rd_T83 l0 (ji17)).f6), .int .i64 ((rd_T83 l0 (ji17)).f7), .int .i64 ((rd_T83 l0 (ji17)).f8), .int .i64 ((rd_T83 l0 (ji17)).f9.f0), .slice A104_10 ((rd_T83 l0 (ji17)).f9.f1).length c104_10]] (by rfl) rfl rfl (by first | rfl | (simp [Act.eval, Act.put]; done)) (by (try simp only [List.map_toArray, List.map_cons, List.map_nil]); first | done | (simp only [hji17]; rfl) | rfl | (simp only [List.length_drop, List.length_take]; rfl)) ?_; with_reducible refine (hpc ((rd_T83 l0 (ji17)).f0) ((rd_T83 l0 (ji17)).f1) ((rd_T83 l0 (ji17)).f2) ((rd_T83 l0 (ji17)).f3) ((rd_T83 l0 (ji17)).f4) ((rd_T83 l0 (ji17)).f5) ((rd_T83 l0 (ji17)).f6) ((rd_T83 l0 (ji17)).f7) ((rd_T83 l0 (ji17)).f8) ((rd_T83 l0 (ji17)).f9.f0) _ _ ((rd_T83 l0 (ji17)).f9.f1) t105 _ ?_ ?_ A20.out).mono ?_
            exact KD HR104_10 HB; exact HC104_10.out; rintro e w25 ⟨rfl, hb⟩; refine ⟨_, rfl, ?_⟩; replace BK102 := am (BB BK102 hb); replace HB := bl (K1 HB GE102.out) hb; (try clear hb)
            (try clear hb2)
            (try clear hk)
            (try clear hi)
            refine hK.out _ _ (zc11 BK102 ⟨(CY HB.out hw104_0), (CY HB.out hw104_1), (CY HB.out hw104_2), (CY HB.out hw104_3), (CY HB.out hw104_4), (CY HB.out hw104_5), (CY HB.out hw104_6), (CY HB.out hw104_7), (CY HB.out hw104_8), (CY HB.out hw104_9), (CY HB.out hw104_10)⟩) (fun hHeld => ?_); clear hK K; refine nm (some 35) ?_; refine oW HT_ 22 38 (tf 23 3) (fun K hK => ?_); refine goesW_ hpf hpn hpb #[.agg #[.int .i64 ((rd_T83 l0 x11_1).f0), .int .i64 ((rd_T83 l0 x11_1).f1), .string ((rd_T83 l0 x11_1).f2), .string ((rd_T83 l0 x11_1).f3), .int .i64 ((rd_T83 l0 x11_1).f4), .int .i64 ((rd_T83 l0 x11_1).f5), .int .i64 ((rd_T83 l0 x11_1).f6), .int .i64 ((rd_T83 l0 x11_1).f7), .int .i64 ((rd_T83 l0 x11_1).f8), .int .i64 ((rd_T83 l0 x11_1).f9.f0), .slice A101_10 ((rd_T83 l0 x11_1).f9.f1).length c101_10]] (by rfl) rfl rfl (by first | rfl | (simp [Act.eval, Act.put]; done)) MT ?_; with_reducible refine (hpc ((rd_T83 l0 x11_1).f0) ((rd_T83 l0 x11_1).f1) ((rd_T83 l0 x11_1).f2) ((rd_T83 l0 x11_1).f3) ((rd_T83 l0 x11_1).f4) ((rd_T83 l0 x11_1).f5) ((rd_T83 l0 x11_1).f6) ((rd_T83 l0 x11_1).f7) ((rd_T83 l0 x11_1).f8) ((rd_T83 l0 x11_1).f9.f0) _ _ ((rd_T83 l0 x11_1).f9.f1) t106 _ ?_ ?_ A21.out).mono ?_
            exact KD HR101_10 HB; exact HC101_10.out; rintro e w26 ⟨rfl, hb⟩; refine ⟨_, rfl, ?_⟩; replace BK102 := am (BB BK102 hb); replace HB := bl (K1 HB GE102.out) hb; (try clear hb)
            (try clear hb2)
            (try clear hk)
            (try clear hi)
            refine hK.out _ _ (zc11 BK102 ⟨(CY HB.out hw104_0), (CY HB.out hw104_1), (CY HB.out hw104_2), (CY HB.out hw104_3), (CY HB.out hw104_4), (CY HB.out hw104_5), (CY HB.out hw104_6), (CY HB.out hw104_7), (CY HB.out hw104_8), (CY HB.out hw104_9), (CY HB.out hw104_10)⟩) (fun hHeld => ?_); clear hK K; refine nm (some 38) ?_; refine pv HT_ 23 39 (tf 24 2) ?_; refine pv HT_ 24 40 (tf 25 1) ?_; refine pv HT_ 25 41 (tf 26 0) ?_; refine done_ (done_of HT_.out (by kernel_rfl)) ?_; try go_wp2
            go_meet
            case rel => exact ⟨_, (decide (t105 ≥ t106)), RS, H', ⟨by have := HK1.out; first | omega | exact Nat.le_refl _⟩, ⟨KB BK102⟩, ⟨K1 HB GE102.out⟩⟩
           ·rw [if_neg c19] at H
            exact absurd H (by simp)
          ·rw [if_neg c18] at H
           exact absurd H (by simp)
         ·rw [if_neg c16] at H
          have c16b0 := decide_eq_false c16; clear c16; have H' := Aside0.mk H; clear H; try go_wp2
          generalize hq_ : (((((((((((w8.setCell ⟨gb102, 0, none⟩ (.int .i64 ((rd_T83 l0 x11_1).f0))).setCell ⟨gb102, 1, none⟩ (.int .i64 ((rd_T83 l0 x11_1).f1))).setCell ⟨gb102, 2, none⟩ (.string ((rd_T83 l0 x11_1).f2))).setCell ⟨gb102, 3, none⟩ (.string ((rd_T83 l0 x11_1).f3))).setCell ⟨gb102, 4, none⟩ (.int .i64 ((rd_T83 l0 x11_1).f4))).setCell ⟨gb102, 5, none⟩ (.int .i64 ((rd_T83 l0 x11_1).f5))).setCell ⟨gb102, 6, none⟩ (.int .i64 ((rd_T83 l0 x11_1).f6))).setCell ⟨gb102, 7, none⟩ (.int .i64 ((rd_T83 l0 x11_1).f7))).setCell ⟨gb102, 8, none⟩ (.int .i64 ((rd_T83 l0 x11_1).f8))).setCell ⟨gb102, 9, none⟩ (.int .i64 ((rd_T83 l0 x11_1).f9.f0))).setCell ⟨gb102, 10, none⟩ (.slice A101_10 ((rd_T83 l0 x11_1).f9.f1).length c101_10)) = w27; have n0_ : Aside0 (w27.heap[gb102]? = some (.cells #[.int .i64 ((rd_T83 l0 x11_1).f0), .int .i64 ((rd_T83 l0 x11_1).f1), .string ((rd_T83 l0 x11_1).f2), .string ((rd_T83 l0 x11_1).f3), .int .i64 ((rd_T83 l0 x11_1).f4), .int .i64 ((rd_T83 l0 x11_1).f5), .int .i64 ((rd_T83 l0 x11_1).f6), .int .i64 ((rd_T83 l0 x11_1).f7), .int .i64 ((rd_T83 l0 x11_1).f8), .int .i64 ((rd_T83 l0 x11_1).f9.f0), .slice A101_10 ((rd_T83 l0 x11_1).f9.f1).length c101_10] 83 (0, 0))) := ⟨by rw [← hq_]; exact P11 BK102⟩; have n1_ : Aside0 (Below w.heap.size w w27) := ⟨by rw [← hq_]; exact K1 HB GE102.out⟩; clear hq_; (try clear BK102)
          (try clear HB)
          have BK102 := n0_; have HB := n1_; clear n0_ n1_; replace BK102 := am (blk_drew BK102.out); replace HB := am (below_drew1 HB.out); refine start_ (n := 26) (S := fun w' => de11 w' gb102 (.int .i64 ((rd_T83 l0 x11_1).f0)) (.int .i64 ((rd_T83 l0 x11_1).f1)) (.string ((rd_T83 l0 x11_1).f2)) (.string ((rd_T83 l0 x11_1).f3)) (.int .i64 ((rd_T83 l0 x11_1).f4)) (.int .i64 ((rd_T83 l0 x11_1).f5)) (.int .i64 ((rd_T83 l0 x11_1).f6)) (.int .i64 ((rd_T83 l0 x11_1).f7)) (.int .i64 ((rd_T83 l0 x11_1).f8)) (.int .i64 ((rd_T83 l0 x11_1).f9.f0)) (.slice A101_10 ((rd_T83 l0 x11_1).f9.f1).length c101_10)) (ds := []) (tf 0 26) (by kernel_rfl) rfl rfl (zd11 BK102) (fun hHeld => ?_); refine with_tabW impl_ascending_tunOf.tab4 impl_ascending_tunOf.bits4 (fun HT_ HW_ => ?_); generalize w27.drew = w28 at BK102 HB hHeld ⊢; refine tw HT_ HW_ 0 16 (tf 1 25) hHeld ?_; refine oW HT_ 1 17 (tf 2 24) (fun K hK => ?_); refine gW Tryz.func82 #[.agg #[.int .i64 ((rd_T83 l0 x11_1).f0), .int .i64 ((rd_T83 l0 x11_1).f1), .string ((rd_T83 l0 x11_1).f2), .string ((rd_T83 l0 x11_1).f3), .int .i64 ((rd_T83 l0 x11_1).f4), .int .i64 ((rd_T83 l0 x11_1).f5), .int .i64 ((rd_T83 l0 x11_1).f6), .int .i64 ((rd_T83 l0 x11_1).f7), .int .i64 ((rd_T83 l0 x11_1).f8), .int .i64 ((rd_T83 l0 x11_1).f9.f0), .slice A101_10 ((rd_T83 l0 x11_1).f9.f1).length c101_10]] ?_; with_reducible refine (impl_SaOk.calls k1 ((rd_T83 l0 x11_1).f0) ((rd_T83 l0 x11_1).f1) ((rd_T83 l0 x11_1).f2) ((rd_T83 l0 x11_1).f3) ((rd_T83 l0 x11_1).f4) ((rd_T83 l0 x11_1).f5) ((rd_T83 l0 x11_1).f6) ((rd_T83 l0 x11_1).f7) ((rd_T83 l0 x11_1).f8) ((rd_T83 l0 x11_1).f9.f0) _ _ ((rd_T83 l0 x11_1).f9.f1) true _ ?_ ?_ A10.out).mono ?_
          exact KD HR101_10 HB; exact HC101_10.out; rintro e w29 ⟨rfl, hb⟩; refine ⟨_, rfl, ?_⟩; replace BK102 := am (BB BK102 hb); replace HB := bl (K1 HB GE102.out) hb; (try clear hb)
          (try clear hb2)
          (try clear hk)
          (try clear hi)
          refine hK.out _ _ (zd11 BK102) (fun hHeld => ?_); clear hK K; refine nm (some 17) ?_; refine pv HT_ 2 18 (tf 3 23) ?_; refine pv HT_ 3 19 (tf 4 22) ?_; refine pv HT_ 4 20 (tf 5 21) ?_; refine pv HT_ 6 22 (tr [5, 1, 1, 19]) ?_; refine tw HT_ HW_ 5 21 (tf 7 19) hHeld ?_; refine pv HT_ 7 23 (tf 8 18) ?_; refine pv HT_ 8 24 (tf 9 17) ?_; refine pv HT_ 9 25 (tf 10 16) ?_; refine pv HT_ 10 26 (tf 11 15) ?_; refine pv HT_ 11 27 (tf 12 14) ?_; refine pv HT_ 12 28 (tf 13 13) ?_; refine pw HT_ 13 29 (tf 14 12) ?_; refine pw HT_ 14 30 (tf 15 11) ?_; refine pw HT_ 15 31 (tf 16 10) ?_; refine pw HT_ 16 32 (tf 17 9) ?_; refine pw HT_ 17 33 (tf 18 8) ?_; refine pw HT_ 18 34 (tf 19 7) ?_; refine pw HT_ 19 35 (tf 20 6) ?_; refine pw HT_ 20 36 (tf 21 5) ?_; refine pw HT_ 21 37 (tf 22 4) ?_; refine pw HT_ 22 38 (tf 23 3) ?_; refine pw HT_ 23 39 (tf 24 2) ?_; refine pv HT_ 24 40 (tf 25 1) ?_; refine pv HT_ 25 41 (tf 26 0) ?_; refine done_ (done_of HT_.out (by kernel_rfl)) ?_; try go_wp2
          go_meet
          case rel => exact ⟨_, (false), RS, H', ⟨by have := HK1.out; first | omega | exact Nat.le_refl _⟩, ⟨KB BK102⟩, ⟨K1 HB GE102.out⟩⟩
       ·replace c11 := Bool.eq_false_iff.mpr c11
        subst c11; replace H := nf H; have H' := Aside0.mk H; clear H; try go_wp2
        generalize hq_ : (((((((((((w8.setCell ⟨gb102, 0, none⟩ (.int .i64 ((rd_T83 l0 x11_1).f0))).setCell ⟨gb102, 1, none⟩ (.int .i64 ((rd_T83 l0 x11_1).f1))).setCell ⟨gb102, 2, none⟩ (.string ((rd_T83 l0 x11_1).f2))).setCell ⟨gb102, 3, none⟩ (.string ((rd_T83 l0 x11_1).f3))).setCell ⟨gb102, 4, none⟩ (.int .i64 ((rd_T83 l0 x11_1).f4))).setCell ⟨gb102, 5, none⟩ (.int .i64 ((rd_T83 l0 x11_1).f5))).setCell ⟨gb102, 6, none⟩ (.int .i64 ((rd_T83 l0 x11_1).f6))).setCell ⟨gb102, 7, none⟩ (.int .i64 ((rd_T83 l0 x11_1).f7))).setCell ⟨gb102, 8, none⟩ (.int .i64 ((rd_T83 l0 x11_1).f8))).setCell ⟨gb102, 9, none⟩ (.int .i64 ((rd_T83 l0 x11_1).f9.f0))).setCell ⟨gb102, 10, none⟩ (.slice A101_10 ((rd_T83 l0 x11_1).f9.f1).length c101_10)) = w30; have n0_ : Aside0 (w30.heap[gb102]? = some (.cells #[.int .i64 ((rd_T83 l0 x11_1).f0), .int .i64 ((rd_T83 l0 x11_1).f1), .string ((rd_T83 l0 x11_1).f2), .string ((rd_T83 l0 x11_1).f3), .int .i64 ((rd_T83 l0 x11_1).f4), .int .i64 ((rd_T83 l0 x11_1).f5), .int .i64 ((rd_T83 l0 x11_1).f6), .int .i64 ((rd_T83 l0 x11_1).f7), .int .i64 ((rd_T83 l0 x11_1).f8), .int .i64 ((rd_T83 l0 x11_1).f9.f0), .slice A101_10 ((rd_T83 l0 x11_1).f9.f1).length c101_10] 83 (0, 0))) := ⟨by rw [← hq_]; exact P11 BK102⟩; have n1_ : Aside0 (Below w.heap.size w w30) := ⟨by rw [← hq_]; exact K1 HB GE102.out⟩; clear hq_; (try clear BK102)
        (try clear HB)
        have BK102 := n0_; have HB := n1_; clear n0_ n1_; replace BK102 := am (blk_drew BK102.out); replace HB := am (below_drew1 HB.out); refine start_ (n := 26) (S := fun w' => de11 w' gb102 (.int .i64 ((rd_T83 l0 x11_1).f0)) (.int .i64 ((rd_T83 l0 x11_1).f1)) (.string ((rd_T83 l0 x11_1).f2)) (.string ((rd_T83 l0 x11_1).f3)) (.int .i64 ((rd_T83 l0 x11_1).f4)) (.int .i64 ((rd_T83 l0 x11_1).f5)) (.int .i64 ((rd_T83 l0 x11_1).f6)) (.int .i64 ((rd_T83 l0 x11_1).f7)) (.int .i64 ((rd_T83 l0 x11_1).f8)) (.int .i64 ((rd_T83 l0 x11_1).f9.f0)) (.slice A101_10 ((rd_T83 l0 x11_1).f9.f1).length c101_10)) (ds := []) (tf 0 26) (by kernel_rfl) rfl rfl (zd11 BK102) (fun hHeld => ?_); refine with_tabW impl_ascending_tunOf.tab4 impl_ascending_tunOf.bits4 (fun HT_ HW_ => ?_); generalize w30.drew = w31 at BK102 HB hHeld ⊢; refine tw HT_ HW_ 0 16 (tf 1 25) hHeld ?_; refine oW HT_ 1 17 (tf 2 24) (fun K hK => ?_); refine gW Tryz.func82 #[.agg #[.int .i64 ((rd_T83 l0 x11_1).f0), .int .i64 ((rd_T83 l0 x11_1).f1), .string ((rd_T83 l0 x11_1).f2), .string ((rd_T83 l0 x11_1).f3), .int .i64 ((rd_T83 l0 x11_1).f4), .int .i64 ((rd_T83 l0 x11_1).f5), .int .i64 ((rd_T83 l0 x11_1).f6), .int .i64 ((rd_T83 l0 x11_1).f7), .int .i64 ((rd_T83 l0 x11_1).f8), .int .i64 ((rd_T83 l0 x11_1).f9.f0), .slice A101_10 ((rd_T83 l0 x11_1).f9.f1).length c101_10]] ?_; with_reducible refine (impl_SaOk.calls k1 ((rd_T83 l0 x11_1).f0) ((rd_T83 l0 x11_1).f1) ((rd_T83 l0 x11_1).f2) ((rd_T83 l0 x11_1).f3) ((rd_T83 l0 x11_1).f4) ((rd_T83 l0 x11_1).f5) ((rd_T83 l0 x11_1).f6) ((rd_T83 l0 x11_1).f7) ((rd_T83 l0 x11_1).f8) ((rd_T83 l0 x11_1).f9.f0) _ _ ((rd_T83 l0 x11_1).f9.f1) false _ ?_ ?_ A10.out).mono ?_
        exact KD HR101_10 HB; exact HC101_10.out; rintro e w32 ⟨rfl, hb⟩; refine ⟨_, rfl, ?_⟩; replace BK102 := am (BB BK102 hb); replace HB := bl (K1 HB GE102.out) hb; (try clear hb)
        (try clear hb2)
        (try clear hk)
        (try clear hi)
        refine hK.out _ _ (zd11 BK102) (fun hHeld => ?_); clear hK K; refine nm (some 17) ?_; refine pv HT_ 2 18 (tf 3 23) ?_; refine pv HT_ 3 19 (tf 4 22) ?_; refine pw HT_ 4 20 (tf 5 21) ?_; refine pw HT_ 5 21 (tf 6 20) ?_; refine pw HT_ 6 22 (tf 7 19) ?_; refine pw HT_ 7 23 (tf 8 18) ?_; refine pv HT_ 8 24 (tf 9 17) ?_; refine pv HT_ 9 25 (tf 10 16) ?_; refine pw HT_ 10 26 (tf 11 15) ?_; refine pw HT_ 11 27 (tf 12 14) ?_; refine pw HT_ 12 28 (tf 13 13) ?_; refine pw HT_ 13 29 (tf 14 12) ?_; refine pw HT_ 14 30 (tf 15 11) ?_; refine pw HT_ 15 31 (tf 16 10) ?_; refine pw HT_ 16 32 (tf 17 9) ?_; refine pw HT_ 17 33 (tf 18 8) ?_; refine pw HT_ 18 34 (tf 19 7) ?_; refine pw HT_ 19 35 (tf 20 6) ?_; refine pw HT_ 20 36 (tf 21 5) ?_; refine pw HT_ 21 37 (tf 22 4) ?_; refine pw HT_ 22 38 (tf 23 3) ?_; refine pw HT_ 23 39 (tf 24 2) ?_; refine pw HT_ 24 40 (tf 25 1) ?_; refine pv HT_ 25 41 (tf 26 0) ?_; refine done_ (done_of HT_.out (by kernel_rfl)) ?_; try go_wp2
        go_meet
        case rel => exact ⟨_, (true), RS, H', ⟨by have := HK1.out; first | omega | exact Nat.le_refl _⟩, ⟨KB BK102⟩, ⟨K1 HB GE102.out⟩⟩
      case rest =>
       clear HC7; try clear c1
       try clear p2
       try clear c4
       try clear c8
       try clear c10
       try clear c11
       try clear c16
       try clear c16b0
       try clear c18
       try clear c19
       obtain ⟨kq, x41_6, rfl, HA, HJ6, BK102, HB⟩ := hcut; cases kq with
       | zero => exact absurd HA.out (by simp [impl_ascending_tunOf.j1])
       | succ kj6 =>
        have H := HA.out; clear HA; simp only [impl_ascending_tunOf.j1] at H; by_cases c33 : x41_6 = true
        ·subst c33
         replace H := pf H; obtain rfl := sj H; go_wp2
         go_ret
         exact ⟨ER, K1 HB GE102.out⟩
        ·replace c33 := Bool.eq_false_iff.mpr c33
         subst c33; replace H := nf H; have H' := Aside0.mk H; clear H; go_wp2
         go_roundg kj6
         case measure => have := HK1.out; have := HJ6.out; omega
         case rel => exact ⟨(wrap64 (x11_1 + 1)), RS, H', ⟨by have := HK1.out; have := HJ6.out; omega⟩, ⟨K1 HB GE102.out⟩⟩
     ·rw [if_neg c6] at H
      exact absurd H (by simp)
    ·rw [if_neg c5] at H
     exact absurd H (by simp)
   ·rw [if_neg c4] at H
    have c4b0 := decide_eq_false c4; clear c4; obtain rfl := sj H; go_wp2
    go_ret
    exact ⟨ER, KL HB⟩
def impl_ascending_tunOf.f (k : Nat) (l0 : List (S83)) (a1 : Int) : Option (Bool) := impl_ascending_tunOf.g impl_tunOf.f k l0 a1
theorem impl_ascending_tunOf.calls (k : Nat) (A0 : Option Addr) (c0 : Nat) (l0 : List (S83)) (a1 : Int) (r : Bool) (w : World) (hr : Kd.C k83 w A0 l0.length l0) (hc : l0.length ≤ c0) (h : impl_ascending_tunOf.f k l0 a1 = some r) : Calls Tryz.prog 48 #[.slice A0 l0.length c0, .int .i64 a1, .func (.func 49) #[] #[]] w fun e w' => e = .returned (.bool r) ∧ Below w.heap.size w w' := impl_ascending_tunOf.gcalls impl_tunOf.f Tryz.func49 (by kernel_rfl) rfl impl_tunOf.calls k A0 c0 l0 a1 r w hr hc h
def impl_ascending_spiOf.f (k : Nat) (l0 : List (S83)) (a1 : Int) : Option (Bool) := impl_ascending_tunOf.g impl_spiOf.f k l0 a1
theorem impl_ascending_spiOf.calls (k : Nat) (A0 : Option Addr) (c0 : Nat) (l0 : List (S83)) (a1 : Int) (r : Bool) (w : World) (hr : Kd.C k83 w A0 l0.length l0) (hc : l0.length ≤ c0) (h : impl_ascending_spiOf.f k l0 a1 = some r) : Calls Tryz.prog 48 #[.slice A0 l0.length c0, .int .i64 a1, .func (.func 50) #[] #[]] w fun e w' => e = .returned (.bool r) ∧ Below w.heap.size w w' := impl_ascending_tunOf.gcalls impl_spiOf.f Tryz.func50 (by kernel_rfl) rfl impl_spiOf.calls k A0 c0 l0 a1 r w hr hc h
def slices_Clone_Rule.f (l0 : List (S59)) : Option (List (S59)) := if l0.length < 2199023255552 then some l0 else none
theorem slices_Clone_Rule.calls (A0 : Option Addr) (c0 : Nat) (l0 : List (S59)) (r : List (S59)) (w : World) (aD : Kd.C k59 w A0 l0.length l0) (aG : l0.length ≤ c0) (h : slices_Clone_Rule.f l0 = some r) :
  Calls Tryz.prog 26 #[.slice A0 l0.length c0] w fun e w' => ∃ v0_ : Value, e = .returned (v0_) ∧ Kd.R k59 59 w' w.heap.size (fun _ => True) v0_ r ∧ Below w.heap.size w w' := by
 have hlim : l0.length < 2199023255552 ∧ l0 = r := by
  unfold slices_Clone_Rule.f at h; by_cases c : l0.length < 2199023255552
  ·rw [if_pos c] at h; exact ⟨c, Option.some.inj h⟩
  ·rw [if_neg c] at h; cases h
 obtain ⟨hlim, rfl⟩ := hlim; have HL := Aside0.mk hlim; have aK : ∀ (w : World) (a : Option Addr) (n c : Nat), (binOp .eql 31 (.slice a n c) (.slice none 0 0)).run Tryz.prog w = .ok (.bool a.isNone) w := fun w a n c => Go.run_eql_slice_nil w _ _ a n c Tryz.underlying31
 cases A0 with
 | none =>
  have hz : l0 = [] := by
   cases l0 with
   | nil => rfl
   | cons x l => obtain ⟨ad, e, _⟩ := aD.2.2 (by simp); cases e
  subst hz; clear aD aG h hlim; go_enter Tryz.func26, Tryz.ntmps26
  go_wp2
  go_ret
  exact ⟨_, rfl, Kd.R_nil _ _ _ _ _, Below.refl _ _⟩
 | some a =>
  have aI := Aside0.mk aD; have HB := am (Below.refl w.heap.size w); clear aD aG h hlim; go_enter Tryz.func26, Tryz.ntmps26
  go_wp2_with (first | ((with_reducible refine gate_dst (N := 5) rfl ?_); refine Kd.R_lit k59 _ 59 ?hg (N := 5) ?hd (xs := ([] : List (S59))) (inner := []) (ok := fun _ => True) (okp := fun _ => True) ?hr ?hp (fun _ hk => hk) trivial (Below.refl _ _) (Nat.le_refl _) (by simp) ?_; (case hd => rfl); (case hg => rfl); (case hr => first | (go_simp; done) | (go_simp; rfl)); (case hp => exact (Reps.none _ _)); intro aE w3 aH hb hg_ hnew_; clear hg_ hnew_; have aA := am (Kd.R_lower aH (below_size (KL HB))); replace HB := bl (KL HB) hb; clear hb aH) | ((with_reducible refine gate_builtin (b := .append) (xs := #[.tmp 5, .tmp 6]) rfl ?_); at_builtin; refine Kd.R_append_rows k59 (w0 := w) w.heap.size rfl (.tmp 5) (.tmp 6) 31 59 (.agg #[(.int .i64 0), (.int .i64 0), (.int .i64 0), (.int .i64 0), (.int .i64 0), (.int .i64 0), (.int .i64 0), (.int .i64 0)]) 64 rfl Tryz.underlying31 info59 rfl (by decide) (by omega) aE [] l0 _ _ _ (fun _ => True) (fun _ => False) rfl rfl ?aO ?aR (fun _ _ h => h) (fun _ h => h.elim) ?aF ?aB ?aS ?aL ?_; (case aR => exact KD aI HB); (case aB => exact (KL HB)); (case aF => exact (fun _ _ => trivial)); (case aO => exact (KR aA)); (case aS => exact (below_size (KL HB))); (case aL => have := HL.out; simp only [List.length_nil]; omega); intro aJ w5 ho hb hg hat; rw [List.nil_append] at ho; replace HB := am (hb); have aC := am (ho); clear aA; clear ho hb hg hat))
  go_ret
  exact ⟨_, rfl, by refine KW ?_; exact aC.out, KL HB⟩
def slices_Clone_Seen.f (l0 : List (S96)) : Option (List (S96)) := if l0.length < 4398046511104 then some l0 else none
theorem slices_Clone_Seen.calls (A0 : Option Addr) (c0 : Nat) (l0 : List (S96)) (r : List (S96)) (w : World) (aD : Kd.C k96 w A0 l0.length l0) (aG : l0.length ≤ c0) (h : slices_Clone_Seen.f l0 = some r) :
  Calls Tryz.prog 51 #[.slice A0 l0.length c0] w fun e w' => ∃ v0_ : Value, e = .returned (v0_) ∧ Kd.R k96 96 w' w.heap.size (fun _ => True) v0_ r ∧ Below w.heap.size w w' := by
 have hlim : l0.length < 4398046511104 ∧ l0 = r := by
  unfold slices_Clone_Seen.f at h; by_cases c : l0.length < 4398046511104
  ·rw [if_pos c] at h; exact ⟨c, Option.some.inj h⟩
  ·rw [if_neg c] at h; cases h
 obtain ⟨hlim, rfl⟩ := hlim; have HL := Aside0.mk hlim; have aK : ∀ (w : World) (a : Option Addr) (n c : Nat), (binOp .eql 32 (.slice a n c) (.slice none 0 0)).run Tryz.prog w = .ok (.bool a.isNone) w := fun w a n c => Go.run_eql_slice_nil w _ _ a n c Tryz.underlying32
 cases A0 with
 | none =>
  have hz : l0 = [] := by
   cases l0 with
   | nil => rfl
   | cons x l => obtain ⟨ad, e, _⟩ := aD.2.2 (by simp); cases e
  subst hz; clear aD aG h hlim; go_enter Tryz.func51, Tryz.ntmps51
  go_wp2
  go_ret
  exact ⟨_, rfl, Kd.R_nil _ _ _ _ _, Below.refl _ _⟩
 | some a =>
  have aI := Aside0.mk aD; have HB := am (Below.refl w.heap.size w); clear aD aG h hlim; go_enter Tryz.func51, Tryz.ntmps51
  go_wp2_with (first | ((with_reducible refine gate_dst (N := 5) rfl ?_); refine Kd.R_lit k96 _ 96 ?hg (N := 5) ?hd (xs := ([] : List (S96))) (inner := []) (ok := fun _ => True) (okp := fun _ => True) ?hr ?hp (fun _ hk => hk) trivial (Below.refl _ _) (Nat.le_refl _) (by simp) ?_; (case hd => rfl); (case hg => rfl); (case hr => first | (go_simp; done) | (go_simp; rfl)); (case hp => exact (Reps.none _ _)); intro aE w3 aH hb hg_ hnew_; clear hg_ hnew_; have aA := am (Kd.R_lower aH (below_size (KL HB))); replace HB := bl (KL HB) hb; clear hb aH) | ((with_reducible refine gate_builtin (b := .append) (xs := #[.tmp 5, .tmp 6]) rfl ?_); at_builtin; refine Kd.R_append_rows k96 (w0 := w) w.heap.size rfl (.tmp 5) (.tmp 6) 32 96 (.agg #[(.int .i64 0), (.int .i64 0), (.int .i64 0), (.int .i64 0)]) 32 rfl Tryz.underlying32 info96 rfl (by decide) (by omega) aE [] l0 _ _ _ (fun _ => True) (fun _ => False) rfl rfl ?aO ?aR (fun _ _ h => h) (fun _ h => h.elim) ?aF ?aB ?aS ?aL ?_; (case aR => exact KD aI HB); (case aB => exact (KL HB)); (case aF => exact (fun _ _ => trivial)); (case aO => exact (KR aA)); (case aS => exact (below_size (KL HB))); (case aL => have := HL.out; simp only [List.length_nil]; omega); intro aJ w5 ho hb hg hat; rw [List.nil_append] at ho; replace HB := am (hb); have aC := am (ho); clear aA; clear ho hb hg hat))
  go_ret
  exact ⟨_, rfl, by refine KW ?_; exact aC.out, KL HB⟩
def slices_Clone_int.f (l0 : List Int) : Option (List Int) := if l0.length < 17592186044416 then some l0 else none
theorem slices_Clone_int.calls (A0 : Option Addr) (c0 : Nat) (l0 : List Int) (r : List Int) (w : World) (aD : Kd.C (Kd.int .i64) w A0 l0.length l0) (aG : l0.length ≤ c0) (h : slices_Clone_int.f l0 = some r) :
  Calls Tryz.prog 118 #[.slice A0 l0.length c0] w fun e w' => ∃ v0_ : Value, e = .returned (v0_) ∧ Kd.R (Kd.int .i64) 3 w' w.heap.size (fun _ => True) v0_ r ∧ Below w.heap.size w w' := by
 have hlim : l0.length < 17592186044416 ∧ l0 = r := by
  unfold slices_Clone_int.f at h; by_cases c : l0.length < 17592186044416
  ·rw [if_pos c] at h; exact ⟨c, Option.some.inj h⟩
  ·rw [if_neg c] at h; cases h
 obtain ⟨hlim, rfl⟩ := hlim; have HL := Aside0.mk hlim; have aK : ∀ (w : World) (a : Option Addr) (n c : Nat), (binOp .eql 73 (.slice a n c) (.slice none 0 0)).run Tryz.prog w = .ok (.bool a.isNone) w := fun w a n c => Go.run_eql_slice_nil w _ _ a n c Tryz.underlying73
 cases A0 with
 | none =>
  have hz : l0 = [] := by
   cases l0 with
   | nil => rfl
   | cons x l => obtain ⟨ad, e, _⟩ := aD.2.2 (by simp); cases e
  subst hz; clear aD aG h hlim; go_enter Tryz.func118, Tryz.ntmps118
  go_wp2
  go_ret
  exact ⟨_, rfl, Kd.R_nil _ _ _ _ _, Below.refl _ _⟩
 | some a =>
  have aI := Aside0.mk aD; have HB := am (Below.refl w.heap.size w); clear aD aG h hlim; go_enter Tryz.func118, Tryz.ntmps118
  go_wp2_with (first | ((with_reducible refine gate_dst (N := 5) rfl ?_); refine Kd.R_lit (Kd.int .i64) _ 3 ?hg (N := 5) ?hd (xs := ([] : List Int)) (inner := []) (ok := fun _ => True) (okp := fun _ => True) ?hr ?hp (fun _ hk => hk) trivial (Below.refl _ _) (Nat.le_refl _) (by simp) ?_; (case hd => rfl); (case hg => rfl); (case hr => first | (go_simp; done) | (go_simp; rfl)); (case hp => exact (Reps.none _ _)); intro aE w3 aH hb hg_ hnew_; clear hg_ hnew_; have aA := am (Kd.R_lower aH (below_size (KL HB))); replace HB := bl (KL HB) hb; clear hb aH) | ((with_reducible refine gate_builtin (b := .append) (xs := #[.tmp 5, .tmp 6]) rfl ?_); at_builtin; refine Kd.R_append_rows (Kd.int .i64) (w0 := w) w.heap.size rfl (.tmp 5) (.tmp 6) 73 3 (.int .i64 0) 8 rfl Tryz.underlying73 info3 rfl (by decide) (by omega) aE [] l0 _ _ _ (fun _ => True) (fun _ => False) rfl rfl ?aO ?aR (fun _ _ h => h) (fun _ h => h.elim) ?aF ?aB ?aS ?aL ?_; (case aR => exact KD aI HB); (case aB => exact (KL HB)); (case aF => exact (fun _ _ => trivial)); (case aO => exact (KR aA)); (case aS => exact (below_size (KL HB))); (case aL => have := HL.out; simp only [List.length_nil]; omega); intro aJ w5 ho hb hg hat; rw [List.nil_append] at ho; replace HB := am (hb); have aC := am (ho); clear aA; clear ho hb hg hat))
  go_ret
  exact ⟨_, rfl, by refine KW ?_; exact aC.out, KL HB⟩
def impl_Window_copied.f (a0_0 : Int) (l0_1 : List Int) : Option (Int × List Int) := (slices_Clone_int.f l0_1).bind fun t103 => (some (a0_0, t103))
theorem impl_Window_copied.calls (aH : Int) (aK : Option Addr) (aL : Nat) (aF : List Int) (r1 : Int) (r2 : List Int) (w : World) (aO : Kd.C (Kd.int .i64) w aK aF.length aF) (aP : aF.length ≤ aL) (h : impl_Window_copied.f aH aF = some (r1, r2)) :
  Calls Tryz.prog 107 #[.agg #[.int .i64 aH, .slice aK aF.length aL]] w fun e w' => ∃ v1_ : Value, e = .returned (.agg #[.int .i64 r1, v1_]) ∧ Kd.R (Kd.int .i64) 3 w' w.heap.size (fun _ => True) v1_ r2 ∧ Below w.heap.size w w' := by
 have bB := Tryz.underlying81; have aR := Aside0.mk aO; have aS := Aside0.mk aP; clear aO aP; have HB := am (Below.refl w.heap.size w); unfold impl_Window_copied.f at h; have H := h; clear h; obtain ⟨aJ, A2, H⟩ := b1 H; simp only [Option.some.injEq, Prod.mk.injEq] at H; obtain ⟨rfl, rfl⟩ := H; go_enter Tryz.func107, Tryz.ntmps107
 try go_wp2_with (first | ((with_reducible refine gate_dst (N := 1) rfl ?_); refine bxe (KL HB) (cs := #[.int .i64 aH, .slice aK aF.length aL]) ?_; intro aT w3 aB aI HB hb hg; clear hb hg) | ((with_reducible refine gate_dst (N := 2) rfl ?_); refine box_event rfl (N := 2) rfl (cs := #[.int .i64 0, .slice none 0 0]) (t := 81) BX ?_; intro aD hg w4 aM hb; have aC := am (aM); have aV := am (GH1 HB aI.out hg); have aN := aV; replace HB := bl (K1 HB aI.out) hb; have aA := am (NL aB hg); have aG := am (NG aB hg); replace aB := am (BB aB hb); clear hb aM hg))
 replace aB := am (blk_drew aB.out); replace aC := am (blk_drew aC.out); replace HB := am (below_drew1 HB.out); refine start_ (n := 7) (S := fun w' => de2 w' aT (.int .i64 aH) (.slice aK aF.length aL)) (ds := []) (tf 0 7) (by kernel_rfl) rfl rfl (zd2 aB) (fun aE => ?_); generalize w4.drew = w5 at aB aC HB aE ⊢; refine pure_ (i := 0) (N := some 3) (v := ?_) (a' := ?_) (tf 1 6) rfl rfl (by kernel_rfl) (fun _ _ _ h => h) (Or.inl ⟨by rfl, ?_⟩) ?_ ?_; rotate_left; (· intro w'; go_simp; with_reducible rfl); rotate_left; (· simp only [Act.put, List.setIfInBounds_toArray, List.set_cons_zero, List.set_cons_succ, i64_w, i32_w]; rfl); refine pure_ (i := 2) (N := some 5) (v := ?_) (a' := ?_) (tr [1, 1, 1, 4]) rfl rfl (by kernel_rfl) (fun _ _ _ h => h) (Or.inl ⟨by rfl, ?_⟩) ?_ ?_; rotate_left; (· intro w'; go_simp; with_reducible rfl); rotate_left; (· simp only [Act.put, List.setIfInBounds_toArray, List.set_cons_zero, List.set_cons_succ, i64_w, i32_w]; rfl); refine take_ (i := 1) (N := some 4) (v := ?_) (a' := ?_) (tf 3 4) rfl rfl (by kernel_rfl) (fun _ _ _ h => h) (Or.inl ⟨by rfl, ?_⟩) aE ?_ ?_
 rotate_left
 ·rintro w' ⟨s0, s1⟩
  go_simp
  with_reducible rfl
 rotate_left
 ·simp only [Act.put, List.setIfInBounds_toArray, List.set_cons_zero, List.set_cons_succ, i64_w, i32_w]
  rfl
 refine take_ (i := 3) (N := some 6) (v := ?_) (a' := ?_) (tf 4 3) rfl rfl (by kernel_rfl) (fun _ _ _ h => h) (Or.inl ⟨by rfl, ?_⟩) aE ?_ ?_
 rotate_left
 ·rintro w' ⟨s0, s1⟩
  go_simp
  with_reducible rfl
 rotate_left
 ·simp only [Act.put, List.setIfInBounds_toArray, List.set_cons_zero, List.set_cons_succ, i64_w, i32_w]
  rfl
 refine one_ (i := 4) (N := some 7) (tf 5 2) rfl rfl (by kernel_rfl) (by decide) (fun K hK => ?_); refine gW Tryz.func118 #[.slice aK aF.length aL] ?_; with_reducible refine (slices_Clone_int.calls _ _ aF aJ _ ?_ ?_ A2.out).mono ?_
 exact KD aR HB; exact aS.out; rintro e w6 ⟨bC, rfl, aX, hb⟩; refine ⟨_, rfl, ?_⟩; have aQ := am (Kd.R_lower aX (below_size (K2 HB aI.out aN.out))); replace aB := am (BB aB hb); replace aC := am (BB aC hb); replace HB := bl (K2 HB aI.out aN.out) hb; (try clear hb)
 (try clear hk)
 (try clear aX)
 obtain ⟨aY, aZ, bA⟩ := Kd.R_slice aQ.out; (first | subst bA | (injection bA with f1_ f2_ f3_; have f4_ := f1_.symm; have f5_ := f3_.symm; clear f1_ f2_ f3_; subst f4_; subst f5_))
 refine hK.out _ _ (zd2 aB) (fun aE => ?_); clear hK K; refine nm (some 7) ?_; refine pure_ (i := 5) (N := some 8) (v := ?_) (a' := ?_) (tf 6 1) rfl rfl (by kernel_rfl) (fun _ _ _ h => h) (Or.inl ⟨by rfl, ?_⟩) ?_ ?_; rotate_left; (· intro w'; go_simp; with_reducible rfl); rotate_left; (· simp only [Act.put, List.setIfInBounds_toArray, List.set_cons_zero, List.set_cons_succ, i64_w, i32_w]; rfl); refine one_ (i := 6) (N := none) (tf 7 0) rfl rfl (by kernel_rfl) (by decide) (fun K hK => ?_); have hs8 : w6.cell? ⟨aD, 0, none⟩ = some (.int .i64 0) := z0 _ aC.out; have hfs8 := blk_frozen aC.out 0; have hns8_0 := aA.out; have hms8_0 := aG.out; have hs9 : w6.cell? ⟨aD, 1, none⟩ = some (.slice none 0 0) := z1 _ aC.out; have hfs9 := blk_frozen aC.out 1; have hns9_0 := aA.out; have hms9_0 := aG.out; refine skip_ (w1 := ?_) (by rfl) rfl ?_ ?_
 rotate_left
 ·go_simp
  rfl
 refine hK.out _ _ ⟨((cell_far (p := ⟨aD, _, none⟩) aA.out _).trans (((cell_far (p := ⟨aD, _, none⟩) aA.out _).trans (aE.1)))), ((cell_far (p := ⟨aD, _, none⟩) aA.out _).trans (((cell_far (p := ⟨aD, _, none⟩) aA.out _).trans (aE.2))))⟩ (fun aE => ?_); clear hK K; refine done_ (by kernel_rfl) ?_; try go_wp2
 refine bodyPost_ret (results_cell_row rfl _ _ aD 81 #[.int .i64 aH, .slice aY aJ.length aZ] (0, 0) _ rfl (by refine BD ?_; refine blk_put (cs := #[.int .i64 aH, .slice none 0 0]) ?_ 1 _ rfl; refine BD ?_; refine blk_put (cs := #[.int .i64 0, .slice none 0 0]) ?_ 0 _ rfl; refine BD ?_; exact aC.out) Tryz.underlying81 rfl (by kernel_rfl)) rfl ?_; exact ⟨_, ER, by refine KW ?_; exact Kd.R_mono (Kd.R_far (p := ⟨aD, 1, none⟩) (Kd.R_far (p := ⟨aD, 0, none⟩) (Kd.R_types aQ.out aC.out (by decide)) (fun _ hk => hk.2) (.int .i64 aH)) (fun _ hk => hk.2) (.slice aY aJ.length aZ)) (fun _ hk => trivial), K2 HB aI.out aN.out⟩
def impl_Sa_copied.f (a0_0 : Int) (a0_1 : Int) (a0_2 : ByteArray) (a0_3 : ByteArray) (a0_4 : Int) (a0_5 : Int) (a0_6 : Int) (a0_7 : Int) (a0_8 : Int) (a0_9 : Int) (l0_10 : List Int) : Option (Int × Int × ByteArray × ByteArray × Int × Int × Int × Int × Int × Int × List Int) := (impl_Window_copied.f a0_9 l0_10).bind fun bt103 => (some (a0_0, a0_1, a0_2, a0_3, a0_4, a0_5, a0_6, a0_7, a0_8, bt103.1, bt103.2))
theorem impl_Sa_copied.calls (aB : Int) (aC : Int) (aD : ByteArray) (aE : ByteArray) (aH : Int) (aJ : Int) (aK : Int) (aL : Int) (aM : Int) (aR : Int) (aP : Option Addr) (aQ : Nat) (aF : List Int) (r1 : Int) (r2 : Int) (r3 : ByteArray) (r4 : ByteArray) (r5 : Int) (r6 : Int) (r7 : Int) (r8 : Int) (r9 : Int) (r10 : Int) (r11 : List Int) (w : World) (aU : Kd.C (Kd.int .i64) w aP aF.length aF) (aV : aF.length ≤ aQ) (h : impl_Sa_copied.f aB aC aD aE aH aJ aK aL aM aR aF = some (r1, r2, r3, r4, r5, r6, r7, r8, r9, r10, r11)) :
  Calls Tryz.prog 83 #[.agg #[.int .i64 aB, .int .i64 aC, .string aD, .string aE, .int .i64 aH, .int .i64 aJ, .int .i64 aK, .int .i64 aL, .int .i64 aM, .int .i64 aR, .slice aP aF.length aQ]] w fun e w' => ∃ v10_ : Value, e = .returned (.agg #[.int .i64 r1, .int .i64 r2, .string r3, .string r4, .int .i64 r5, .int .i64 r6, .int .i64 r7, .int .i64 r8, .int .i64 r9, .int .i64 r10, v10_]) ∧ Kd.R (Kd.int .i64) 3 w' w.heap.size (fun _ => True) v10_ r11 ∧ Below w.heap.size w w' := by
 have cU := Tryz.underlying83; have cV := Tryz.underlying81; have bC := Aside0.mk aU; have bD := Aside0.mk aV; clear aU aV; have HB := am (Below.refl w.heap.size w); unfold impl_Sa_copied.f at h; have H := h; clear h; replace H := bm H; obtain ⟨⟨aS, aW⟩, cS, H⟩ := H; have A2 := Aside0.mk cS; clear cS; simp only [Option.some.injEq, Prod.mk.injEq] at H; obtain ⟨rfl, rfl, rfl, rfl, rfl, rfl, rfl, rfl, rfl, rfl, rfl⟩ := H; go_enter Tryz.func83, Tryz.ntmps83
 go_wp2_with (first | ((with_reducible refine gate_dst (N := 1) rfl ?_); refine bxe (KL HB) (cs := #[.int .i64 aB, .int .i64 aC, .string aD, .string aE, .int .i64 aH, .int .i64 aJ, .int .i64 aK, .int .i64 aL, .int .i64 aM, .int .i64 aR, .slice aP aF.length aQ]) ?_; intro bA w3 aG aN HB hb hg; clear hb hg) | ((with_reducible refine gate_dst (N := 2) rfl ?_); refine box_event rfl (N := 2) rfl (cs := #[.int .i64 0, .int .i64 0, .string (⟨#[]⟩ : ByteArray), .string (⟨#[]⟩ : ByteArray), .int .i64 0, .int .i64 0, .int .i64 0, .int .i64 0, .int .i64 0, .int .i64 0, .slice none 0 0]) (t := 83) BX ?_; intro aA hg w4 aX hb; have aO := am (aX); have bF := am (GH1 HB aN.out hg); have aY := bF; replace HB := bl (K1 HB aN.out) hb; have aT := am (NL aG hg); have aI := am (NG aG hg); replace aG := am (BB aG hb); clear hb aX hg; have cW := aT.out; have cX := aI.out; have ⟨_, _, _, _, _, _, _, _, _, _, _, _⟩ := y11 w4 aG.out) | (go_at_call 107; (with_reducible refine (impl_Window_copied.calls _ _ _ _ _ _ _ ?_ ?_ A2.out).mono ?_); exact KD bC HB; exact bD.out; rintro e w7 ⟨cY, rfl, cT, hb⟩; have bB := am (Kd.R_lower cT (below_size (K2 HB aN.out aY.out))); replace aG := am (BB aG hb); replace aO := am (BB aO hb); replace HB := bl (K2 HB aN.out aY.out) hb; (try clear cT); have ⟨_, _, _, _, _, _, _, _, _, _, _, _⟩ := y11 w7 aG.out; obtain ⟨cQ, cR, cZ⟩ := Kd.R_slice bB.out; subst cZ; have ⟨_, _, _, _, _, _, _, _, _, _, _, _⟩ := y11 w7 aO.out))
 refine bodyPost_ret (results_cell_row rfl _ _ aA 83 #[.int .i64 aB, .int .i64 aC, .string aD, .string aE, .int .i64 aH, .int .i64 aJ, .int .i64 aK, .int .i64 aL, .int .i64 aM, .int .i64 aS, .slice cQ aW.length cR] (0, 0) _ rfl (by refine BD ?_; refine blk_put (cs := #[.int .i64 aB, .int .i64 aC, .string aD, .string aE, .int .i64 aH, .int .i64 aJ, .int .i64 aK, .int .i64 aL, .int .i64 aM, .int .i64 aS, .slice none 0 0]) ?_ 10 _ rfl; refine BD ?_; refine blk_put (cs := #[.int .i64 aB, .int .i64 aC, .string aD, .string aE, .int .i64 aH, .int .i64 aJ, .int .i64 aK, .int .i64 aL, .int .i64 aM, .int .i64 0, .slice none 0 0]) ?_ 9 _ rfl; refine BD ?_; refine blk_put (cs := #[.int .i64 aB, .int .i64 aC, .string aD, .string aE, .int .i64 aH, .int .i64 aJ, .int .i64 aK, .int .i64 aL, .int .i64 0, .int .i64 0, .slice none 0 0]) ?_ 8 _ rfl; refine BD ?_; refine blk_put (cs := #[.int .i64 aB, .int .i64 aC, .string aD, .string aE, .int .i64 aH, .int .i64 aJ, .int .i64 aK, .int .i64 0, .int .i64 0, .int .i64 0, .slice none 0 0]) ?_ 7 _ rfl; refine BD ?_; refine blk_put (cs := #[.int .i64 aB, .int .i64 aC, .string aD, .string aE, .int .i64 aH, .int .i64 aJ, .int .i64 0, .int .i64 0, .int .i64 0, .int .i64 0, .slice none 0 0]) ?_ 6 _ rfl; refine BD ?_; refine blk_put (cs := #[.int .i64 aB, .int .i64 aC, .string aD, .string aE, .int .i64 aH, .int .i64 0, .int .i64 0, .int .i64 0, .int .i64 0, .int .i64 0, .slice none 0 0]) ?_ 5 _ rfl; refine BD ?_; refine blk_put (cs := #[.int .i64 aB, .int .i64 aC, .string aD, .string aE, .int .i64 0, .int .i64 0, .int .i64 0, .int .i64 0, .int .i64 0, .int .i64 0, .slice none 0 0]) ?_ 4 _ rfl; refine BD ?_; refine blk_put (cs := #[.int .i64 aB, .int .i64 aC, .string aD, .string (⟨#[]⟩ : ByteArray), .int .i64 0, .int .i64 0, .int .i64 0, .int .i64 0, .int .i64 0, .int .i64 0, .slice none 0 0]) ?_ 3 _ rfl; refine BD ?_; refine blk_put (cs := #[.int .i64 aB, .int .i64 aC, .string (⟨#[]⟩ : ByteArray), .string (⟨#[]⟩ : ByteArray), .int .i64 0, .int .i64 0, .int .i64 0, .int .i64 0, .int .i64 0, .int .i64 0, .slice none 0 0]) ?_ 2 _ rfl; refine BD ?_; refine blk_put (cs := #[.int .i64 aB, .int .i64 0, .string (⟨#[]⟩ : ByteArray), .string (⟨#[]⟩ : ByteArray), .int .i64 0, .int .i64 0, .int .i64 0, .int .i64 0, .int .i64 0, .int .i64 0, .slice none 0 0]) ?_ 1 _ rfl; refine BD ?_; refine blk_put (cs := #[.int .i64 0, .int .i64 0, .string (⟨#[]⟩ : ByteArray), .string (⟨#[]⟩ : ByteArray), .int .i64 0, .int .i64 0, .int .i64 0, .int .i64 0, .int .i64 0, .int .i64 0, .slice none 0 0]) ?_ 0 _ rfl; refine BD ?_; refine blk_far ?_ aI.out _; refine BD ?_; refine blk_far ?_ aI.out _; refine BD ?_; exact aO.out) Tryz.underlying83 rfl (by kernel_rfl)) rfl ?_; exact ⟨_, ER, by refine KW ?_; exact Kd.R_mono (Kd.R_far (p := ⟨aA, 10, none⟩) (Kd.R_far (p := ⟨aA, 9, none⟩) (Kd.R_far (p := ⟨aA, 8, none⟩) (Kd.R_far (p := ⟨aA, 7, none⟩) (Kd.R_far (p := ⟨aA, 6, none⟩) (Kd.R_far (p := ⟨aA, 5, none⟩) (Kd.R_far (p := ⟨aA, 4, none⟩) (Kd.R_far (p := ⟨aA, 3, none⟩) (Kd.R_far (p := ⟨aA, 2, none⟩) (Kd.R_far (p := ⟨aA, 1, none⟩) (Kd.R_far (p := ⟨aA, 0, none⟩) (Kd.R_far (p := ⟨bA, 10, none⟩) (Kd.R_far (p := ⟨bA, 9, none⟩) (Kd.R_types (Kd.R_types bB.out aG.out (by decide)) aO.out (by decide)) (fun _ hk => hk.1.2) (.int .i64 aS)) (fun _ hk => hk.1.2) (.slice cQ aW.length cR)) (fun _ hk => hk.2) (.int .i64 aB)) (fun _ hk => hk.2) (.int .i64 aC)) (fun _ hk => hk.2) (.string aD)) (fun _ hk => hk.2) (.string aE)) (fun _ hk => hk.2) (.int .i64 aH)) (fun _ hk => hk.2) (.int .i64 aJ)) (fun _ hk => hk.2) (.int .i64 aK)) (fun _ hk => hk.2) (.int .i64 aL)) (fun _ hk => hk.2) (.int .i64 aM)) (fun _ hk => hk.2) (.int .i64 aS)) (fun _ hk => hk.2) (.slice cQ aW.length cR)) (fun _ hk => trivial), K2 HB aN.out aY.out⟩
def impl_copies.l0 : Nat → List (S83) → List (S83) → Int → Int → Option ((List (S83)))
 | 0, _, _, _, _ => none
 | k + 1, x3, x6, x7, x8 => if x8 < x7 then (if 0 ≤ x8 then (if x8 < (x6.length : Int) then ((impl_Sa_copied.f ((rd_T83 x6 x8).f0) ((rd_T83 x6 x8).f1) ((rd_T83 x6 x8).f2) ((rd_T83 x6 x8).f3) ((rd_T83 x6 x8).f4) ((rd_T83 x6 x8).f5) ((rd_T83 x6 x8).f6) ((rd_T83 x6 x8).f7) ((rd_T83 x6 x8).f8) ((rd_T83 x6 x8).f9.f0) ((rd_T83 x6 x8).f9.f1)).bind fun bt103 => (if x3.length < 1172812402961 then (impl_copies.l0 k (x3 ++ [(⟨bt103.1, bt103.2.1, bt103.2.2.1, bt103.2.2.2.1, bt103.2.2.2.2.1, bt103.2.2.2.2.2.1, bt103.2.2.2.2.2.2.1, bt103.2.2.2.2.2.2.2.1, bt103.2.2.2.2.2.2.2.2.1, (⟨bt103.2.2.2.2.2.2.2.2.2.1, bt103.2.2.2.2.2.2.2.2.2.2⟩ : S81)⟩ : S83)]) x6 x7 (wrap64 (x8 + 1))) else (none))) else (none)) else (none)) else (some x3)
def impl_copies.f (k : Nat) (l0 : List (S83)) : Option ((List (S83))) := impl_copies.l0 k ([] : List (S83)) l0 (l0.length : Int) 0
theorem impl_copies.calls (k : Nat) (A0 : Option Addr) (c0 : Nat) (l0 : List (S83)) (r : List (S83)) (w : World) (cN : Kd.C k83 w A0 l0.length l0) (cO : l0.length ≤ c0) (h : impl_copies.f k l0 = some r) :
  Calls Tryz.prog 52 #[.slice A0 l0.length c0] w fun e w' => ∃ v0_ : Value, e = .returned (v0_) ∧ Kd.S k83 83 w' w.heap.size (fun _ => True) v0_ r ∧ Below w.heap.size w w' := by
 have cR := Tryz.underlying83; have cS := Aside0.mk cN; have cV := Aside0.mk cO; clear cN cO; have HB := am (Below.refl w.heap.size w); unfold impl_copies.f at h; have H := h; clear h; have H' := Aside0.mk H; clear H; go_enter Tryz.func52, Tryz.ntmps52
 go_wp2
 go_loopg [3, 8] k (fun kq v3 v8 w' => ∃ (aJ : List (S83)) (aA : Int), v8 = .int .i64 aA ∧ Aside0 (impl_copies.l0 kq aJ l0 (l0.length : Int) aA = some r) ∧ Aside0 (kq ≤ k) ∧ Aside0 (Kd.S k83 83 w' w.heap.size (fun _ => True) v3 aJ) ∧ Aside0 (Below w.heap.size w w'))
 case atStart => exact ⟨(([] : List (S83))), (0), RS, H', ⟨Nat.le_refl _⟩, ⟨by first | exact Kd.S_nil _ _ _ _ _ | exact Kd.N_nil _ _ _ _ _ | exact Kd.V_nil _ _ _ _ _ | exact Kd.Q_nil _ _ _ _ _ | exact Kd.R_nil _ _ _ _ _⟩, ⟨KL HB⟩⟩
 case round =>
  clear H'; obtain ⟨aJ, aA, rfl, HA, HK1, aH, HB⟩ := hrel; cases gk with
  | zero => exact absurd HA.out (by simp [impl_copies.l0])
  | succ k1 =>
   have H := HA.out; clear HA; simp only [impl_copies.l0] at H; by_cases c2 : aA < (l0.length : Int)
   ·rw [if_pos c2] at H
    have c2b0 := decide_eq_true c2; clear c2; by_cases c3 : 0 ≤ aA
    ·rw [if_pos c3] at H
     have c3b0 := decide_eq_true c3; clear c3; by_cases c4 : aA < (l0.length : Int)
     ·rw [if_pos c4] at H
      have c4b0 := decide_eq_true c4; clear c4; replace H := bm H; obtain ⟨⟨bE, bF, bG, bH, bI, bJ, bK, bL, bM, bN, aR⟩, cP, H⟩ := H; have A5 := Aside0.mk cP; clear cP; by_cases c6 : aJ.length < 1172812402961
      ·rw [if_pos c6] at H
       have LMc6 := Aside0.mk c6; clear c6; obtain ⟨bS, Ny116, H⟩ := b3 ((aJ ++ [(⟨bE, bF, bG, bH, bI, bJ, bK, bL, bM, (⟨bN, aR⟩ : S81)⟩ : S83)]) : List (S83)) H; have H' := Aside0.mk H; clear H; have bQ : 0 ≤ (aA : Int) := OD; have bR : aA < (l0.length : Int) := OD; obtain ⟨_, aD, aE, bZ, aT, aU, aV, aW, aX, aY, aZ, bA, bB, bC, aM, aN, aQ⟩ := at_T83 cS.out aA bQ bR; cases bZ
       replace aT := CX HB.out aT; replace aU := CX HB.out aU; replace aV := CX HB.out aV; replace aW := CX HB.out aW; replace aX := CX HB.out aX; replace aY := CX HB.out aY; replace aZ := CX HB.out aZ; replace bA := CX HB.out bA; replace bB := CX HB.out bB; replace bC := CX HB.out bC; replace aM := CX HB.out aM; have bO := Aside0.mk aQ; have bP := Aside0.mk aN; clear aQ aN; replace bQ := eq_true bQ; replace bR := eq_true bR; go_wp2_with (first | ((with_reducible refine gate_dst (N := 5) rfl ?_); refine box_event rfl (N := 5) rfl (cs := #[.int .i64 0, .int .i64 0, .string (⟨#[]⟩ : ByteArray), .string (⟨#[]⟩ : ByteArray), .int .i64 0, .int .i64 0, .int .i64 0, .int .i64 0, .int .i64 0, .int .i64 0, .slice none 0 0]) (t := 83) BX ?_; intro aC hg w7 bT hb; replace aH := am (Kd.S_below (Kd.S_elderB (by refine KX ?_; exact aH.out) aC (Nat.le_of_eq hg.symm)) hb); have aG := am (bT); have bU := am (GH HB hg); have aI := bU; replace HB := bl (KL HB) hb; clear hb bT hg; have ⟨_, _, _, _, _, _, _, _, _, _, _, _⟩ := y11 w7 aG.out) | (go_at_call 83; (with_reducible refine (impl_Sa_copied.calls _ _ _ _ _ _ _ _ _ _ _ _ _ _ _ _ _ _ _ _ _ _ _ _ _ ?_ ?_ A5.out).mono ?_); exact Kd.C_below bO.out (K1 HB aI.out); exact bP.out; rintro e w9 ⟨cT, rfl, cL, hb⟩; replace aH := am (Kd.S_elder' (by refine KX ?_; exact (Kd.S_mono (Kd.S_far (p := ⟨aC, 10, none⟩) (Kd.S_far (p := ⟨aC, 9, none⟩) (Kd.S_far (p := ⟨aC, 8, none⟩) (Kd.S_far (p := ⟨aC, 7, none⟩) (Kd.S_far (p := ⟨aC, 6, none⟩) (Kd.S_far (p := ⟨aC, 5, none⟩) (Kd.S_far (p := ⟨aC, 4, none⟩) (Kd.S_far (p := ⟨aC, 3, none⟩) (Kd.S_far (p := ⟨aC, 2, none⟩) (Kd.S_far (p := ⟨aC, 1, none⟩) (Kd.S_far (p := ⟨aC, 0, none⟩) (Kd.S_mono aH.out (fun k_ hk => (⟨hk, hk.2⟩ : _ ∧ k_ ≠ aC))) (fun _ hk => hk.2) (.int .i64 ((rd_T83 l0 aA).f0))) (fun _ hk => hk.2) (.int .i64 ((rd_T83 l0 aA).f1))) (fun _ hk => hk.2) (.string ((rd_T83 l0 aA).f2))) (fun _ hk => hk.2) (.string ((rd_T83 l0 aA).f3))) (fun _ hk => hk.2) (.int .i64 ((rd_T83 l0 aA).f4))) (fun _ hk => hk.2) (.int .i64 ((rd_T83 l0 aA).f5))) (fun _ hk => hk.2) (.int .i64 ((rd_T83 l0 aA).f6))) (fun _ hk => hk.2) (.int .i64 ((rd_T83 l0 aA).f7))) (fun _ hk => hk.2) (.int .i64 ((rd_T83 l0 aA).f8))) (fun _ hk => hk.2) (.int .i64 ((rd_T83 l0 aA).f9.f0))) (fun _ hk => hk.2) (.slice aD ((rd_T83 l0 aA).f9.f1).length aE)) (fun _ h_ => h_.1))) (Kd.R_base cL) hb); have bD := am (Kd.R_lower cL (below_size (K1 HB aI.out))); replace aG := am (blk_below (g := aC) (o := .cells #[.int .i64 ((rd_T83 l0 aA).f0), .int .i64 ((rd_T83 l0 aA).f1), .string ((rd_T83 l0 aA).f2), .string ((rd_T83 l0 aA).f3), .int .i64 ((rd_T83 l0 aA).f4), .int .i64 ((rd_T83 l0 aA).f5), .int .i64 ((rd_T83 l0 aA).f6), .int .i64 ((rd_T83 l0 aA).f7), .int .i64 ((rd_T83 l0 aA).f8), .int .i64 ((rd_T83 l0 aA).f9.f0), .slice aD ((rd_T83 l0 aA).f9.f1).length aE] 83 (0, 0)) (by refine BD ?_; refine blk_put (cs := #[.int .i64 ((rd_T83 l0 aA).f0), .int .i64 ((rd_T83 l0 aA).f1), .string ((rd_T83 l0 aA).f2), .string ((rd_T83 l0 aA).f3), .int .i64 ((rd_T83 l0 aA).f4), .int .i64 ((rd_T83 l0 aA).f5), .int .i64 ((rd_T83 l0 aA).f6), .int .i64 ((rd_T83 l0 aA).f7), .int .i64 ((rd_T83 l0 aA).f8), .int .i64 ((rd_T83 l0 aA).f9.f0), .slice none 0 0]) ?_ 10 _ rfl; refine BD ?_; refine blk_put (cs := #[.int .i64 ((rd_T83 l0 aA).f0), .int .i64 ((rd_T83 l0 aA).f1), .string ((rd_T83 l0 aA).f2), .string ((rd_T83 l0 aA).f3), .int .i64 ((rd_T83 l0 aA).f4), .int .i64 ((rd_T83 l0 aA).f5), .int .i64 ((rd_T83 l0 aA).f6), .int .i64 ((rd_T83 l0 aA).f7), .int .i64 ((rd_T83 l0 aA).f8), .int .i64 0, .slice none 0 0]) ?_ 9 _ rfl; refine BD ?_; refine blk_put (cs := #[.int .i64 ((rd_T83 l0 aA).f0), .int .i64 ((rd_T83 l0 aA).f1), .string ((rd_T83 l0 aA).f2), .string ((rd_T83 l0 aA).f3), .int .i64 ((rd_T83 l0 aA).f4), .int .i64 ((rd_T83 l0 aA).f5), .int .i64 ((rd_T83 l0 aA).f6), .int .i64 ((rd_T83 l0 aA).f7), .int .i64 0, .int .i64 0, .slice none 0 0]) ?_ 8 _ rfl; refine BD ?_; refine blk_put (cs := #[.int .i64 ((rd_T83 l0 aA).f0), .int .i64 ((rd_T83 l0 aA).f1), .string ((rd_T83 l0 aA).f2), .string ((rd_T83 l0 aA).f3), .int .i64 ((rd_T83 l0 aA).f4), .int .i64 ((rd_T83 l0 aA).f5), .int .i64 ((rd_T83 l0 aA).f6), .int .i64 0, .int .i64 0, .int .i64 0, .slice none 0 0]) ?_ 7 _ rfl; refine BD ?_; refine blk_put (cs := #[.int .i64 ((rd_T83 l0 aA).f0), .int .i64 ((rd_T83 l0 aA).f1), .string ((rd_T83 l0 aA).f2), .string ((rd_T83 l0 aA).f3), .int .i64 ((rd_T83 l0 aA).f4), .int .i64 ((rd_T83 l0 aA).f5), .int .i64 0, .int .i64 0, .int .i64 0, .int .i64 0, .slice none 0 0]) ?_ 6 _ rfl; refine BD ?_; refine blk_put (cs := #[.int .i64 ((rd_T83 l0 aA).f0), .int .i64 ((rd_T83 l0 aA).f1), .string ((rd_T83 l0 aA).f2), .string ((rd_T83 l0 aA).f3), .int .i64 ((rd_T83 l0 aA).f4), .int .i64 0, .int .i64 0, .int .i64 0, .int .i64 0, .int .i64 0, .slice none 0 0]) ?_ 5 _ rfl; refine BD ?_; refine blk_put (cs := #[.int .i64 ((rd_T83 l0 aA).f0), .int .i64 ((rd_T83 l0 aA).f1), .string ((rd_T83 l0 aA).f2), .string ((rd_T83 l0 aA).f3), .int .i64 0, .int .i64 0, .int .i64 0, .int .i64 0, .int .i64 0, .int .i64 0, .slice none 0 0]) ?_ 4 _ rfl; refine BD ?_; refine blk_put (cs := #[.int .i64 ((rd_T83 l0 aA).f0), .int .i64 ((rd_T83 l0 aA).f1), .string ((rd_T83 l0 aA).f2), .string (⟨#[]⟩ : ByteArray), .int .i64 0, .int .i64 0, .int .i64 0, .int .i64 0, .int .i64 0, .int .i64 0, .slice none 0 0]) ?_ 3 _ rfl; refine BD ?_; refine blk_put (cs := #[.int .i64 ((rd_T83 l0 aA).f0), .int .i64 ((rd_T83 l0 aA).f1), .string (⟨#[]⟩ : ByteArray), .string (⟨#[]⟩ : ByteArray), .int .i64 0, .int .i64 0, .int .i64 0, .int .i64 0, .int .i64 0, .int .i64 0, .slice none 0 0]) ?_ 2 _ rfl; refine BD ?_; refine blk_put (cs := #[.int .i64 ((rd_T83 l0 aA).f0), .int .i64 0, .string (⟨#[]⟩ : ByteArray), .string (⟨#[]⟩ : ByteArray), .int .i64 0, .int .i64 0, .int .i64 0, .int .i64 0, .int .i64 0, .int .i64 0, .slice none 0 0]) ?_ 1 _ rfl; refine BD ?_; refine blk_put (cs := #[.int .i64 0, .int .i64 0, .string (⟨#[]⟩ : ByteArray), .string (⟨#[]⟩ : ByteArray), .int .i64 0, .int .i64 0, .int .i64 0, .int .i64 0, .int .i64 0, .int .i64 0, .slice none 0 0]) ?_ 0 _ rfl; refine BD ?_; exact aG.out) hb); replace HB := bl (K1 HB aI.out) hb; (try clear hb2); (try clear hk); (try clear hi); (try clear cL); obtain ⟨bV, bW, cM⟩ := Kd.R_slice bD.out; subst cM) | ((with_reducible refine gate_builtin (b := .append) (xs := #[.tmp 12, .tmp 15]) rfl ?_); at_builtin; refine Kd.S_append k83 (w0 := w) w.heap.size rfl (.tmp 12) (.tmp 15) 35 83 (.agg #[(.int .i64 0), (.int .i64 0), (.string ⟨#[]⟩), (.string ⟨#[]⟩), (.int .i64 0), (.int .i64 0), (.int .i64 0), (.int .i64 0), (.int .i64 0), (.int .i64 0), (.slice none 0 0)]) 120 rfl Tryz.underlying35 info83 rfl (by decide) (by omega) u3 aJ (⟨bE, bF, bG, bH, bI, bJ, bK, bL, bM, (⟨bN, aR⟩ : S81)⟩ : S83) [.int .i64 bE, .int .i64 bF, .string bG, .string bH, .int .i64 bI, .int .i64 bJ, .int .i64 bK, .int .i64 bL, .int .i64 bM, .int .i64 bN, .slice bV aR.length bW] (fun k_ => k_ ≠ aC) (fun k_ => some k_ = (.slice bV aR.length bW : Value).ownBlock) rfl rfl ?aP (fun k_ hk_ => ((Kd.R_mono (ok' := fun k_ => ((fun k_ => k_ ≠ aC)) k_ ∧ some k_ ≠ (u3 : Value).ownBlock) (Kd.R_types (Kd.R_apart' (bD.out) (Kd.S_typed aH.out) (by decide)) aG.out (by decide)) (fun k_ hk => ⟨hk.2, hk.1.2⟩))).1 k_ hk_.symm) ?aF ?aO ?aB ?aS ?aL ?_; (case aP => exact k83_mkM _ _ _ (⟨bE, bF, bG, bH, bI, bJ, bK, bL, bM, (⟨bN, aR⟩ : S81)⟩ : S83) (Kd.R_mono (Kd.R_tight rfl (Kd.R_mono (ok' := fun k_ => ((fun k_ => k_ ≠ aC)) k_ ∧ some k_ ≠ (u3 : Value).ownBlock) (Kd.R_types (Kd.R_apart' (bD.out) (Kd.S_typed aH.out) (by decide)) aG.out (by decide)) (fun k_ hk => ⟨hk.2, hk.1.2⟩))) (fun _ h_ => h_))); (case aB => exact (K1 HB aI.out)); (case aF => exact (fun k_ hk => Kd.freshB (g := aC) (o := .cells #[.int .i64 ((rd_T83 l0 aA).f0), .int .i64 ((rd_T83 l0 aA).f1), .string ((rd_T83 l0 aA).f2), .string ((rd_T83 l0 aA).f3), .int .i64 ((rd_T83 l0 aA).f4), .int .i64 ((rd_T83 l0 aA).f5), .int .i64 ((rd_T83 l0 aA).f6), .int .i64 ((rd_T83 l0 aA).f7), .int .i64 ((rd_T83 l0 aA).f8), .int .i64 ((rd_T83 l0 aA).f9.f0), .slice aD ((rd_T83 l0 aA).f9.f1).length aE] 83 (0, 0)) (KB aG) k_ hk)); (case aO => exact (by refine KX ?_; exact Kd.S_mono aH.out (fun k_ hk => ⟨hk.1.2, fun e_ => hk.2 e_⟩))); (case aS => exact (below_size (K1 HB aI.out))); (case aL => have := LMc6.out; omega); intro cU cW ho hb hg hat; rw [← Ny116.out] at ho; replace aG := am (blk_grown (g := aC) (o := .cells #[.int .i64 ((rd_T83 l0 aA).f0), .int .i64 ((rd_T83 l0 aA).f1), .string ((rd_T83 l0 aA).f2), .string ((rd_T83 l0 aA).f3), .int .i64 ((rd_T83 l0 aA).f4), .int .i64 ((rd_T83 l0 aA).f5), .int .i64 ((rd_T83 l0 aA).f6), .int .i64 ((rd_T83 l0 aA).f7), .int .i64 ((rd_T83 l0 aA).f8), .int .i64 ((rd_T83 l0 aA).f9.f0), .slice aD ((rd_T83 l0 aA).f9.f1).length aE] 83 (0, 0)) (KB aG) hg (Kd.S_away aH.out (fun _ hk => hk.1.2))); replace HB := am (hb); have bX := am (ho); clear aH bD; clear ho hb hg hat))
       go_roundg k1
       case measure => have := HK1.out; omega
       case rel => exact ⟨(bS), (wrap64 (aA + 1)), RS, H', LK HK1, ⟨by refine KX ?_; exact Kd.S_mono bX.out (fun _ hk => trivial)⟩, ⟨K1 HB aI.out⟩⟩
      ·rw [if_neg c6] at H
       exact absurd H (by simp)
     ·rw [if_neg c4] at H
      exact absurd H (by simp)
    ·rw [if_neg c3] at H
     exact absurd H (by simp)
   ·rw [if_neg c2] at H
    have c2b0 := decide_eq_false c2; clear c2; obtain rfl := sj H; go_wp2
    go_ret
    exact ⟨_, ER, by refine KX ?_; exact aH.out, KL HB⟩
def impl_Gate_copied.f (k : Nat) (a0_0 : Int) (l0_1 : List (S59)) (a0_2 : Int) (l0_3 : List (S96)) (l0_4 : List (S83)) (l0_5 : List (S83)) : Option (Int × (List (S59)) × Int × (List (S96)) × (List (S83)) × (List (S83))) := (slices_Clone_Rule.f l0_1).bind fun t103 => ((slices_Clone_Seen.f l0_3).bind fun t106 => ((impl_copies.f k l0_4).bind fun t109 => ((impl_copies.f k l0_5).bind fun t112 => (some (a0_0, t103, a0_2, t106, t109, t112)))))
def impl_Gate_copied.T1 : Bool × List (List Nat × List Nat) := (true, [([], []), ([0], [0]), ([], []), ([2], [2]), ([3], [3]), ([], []), ([5], [5]), ([6], [6]), ([], []), ([8], [8]), ([9], [9]), ([10, 4], [10]), ([7, 11], [7, 11]), ([], []), ([13], [13]), ([14, 11], [14]), ([], []), ([16], [16]), ([17, 15], [17]), ([1, 4, 12, 15, 18], [1, 4, 12, 15, 18]), ([19, 18, 0, 1, 2, 3, 4, 5, 6, 7, 8, 9, 10, 11, 12, 13, 14, 15, 16, 17, 18, 19], [19])])
def impl_Gate_copied.B1 : List Nat := [0, 1, 0, 4, 12, 0, 32, 96, 0, 256, 768, 1820, 4092, 0, 8192, 28444, 0, 65536, 257820, 524287, 1048575]
theorem impl_Gate_copied.tab1 : rtab .any (opsOf Tryz.f24 1) = impl_Gate_copied.T1 := by kernel_rfl
theorem impl_Gate_copied.bits1 : waitsOk impl_Gate_copied.T1.2 impl_Gate_copied.B1 = true := by kernel_rfl
theorem impl_Gate_copied.calls (k : Nat) (aG : Int) (bC : Option Addr) (bD : Nat) (aT : List (S59)) (aH : Int) (bE : Option Addr) (bF : Nat) (aR : List (S96)) (bG : Option Addr) (bH : Nat) (aQ : List (S83)) (bI : Option Addr) (bJ : Nat) (aO : List (S83)) (r1 : Int) (r2 : List (S59)) (r3 : Int) (r4 : List (S96)) (r5 : List (S83)) (r6 : List (S83)) (w : World) (bO : Kd.C k59 w bC aT.length aT) (bP : aT.length ≤ bD) (bQ : Kd.C k96 w bE aR.length aR) (bR : aR.length ≤ bF) (bS : Kd.C k83 w bG aQ.length aQ) (bT : aQ.length ≤ bH) (bU : Kd.C k83 w bI aO.length aO) (bV : aO.length ≤ bJ) (h : impl_Gate_copied.f k aG aT aH aR aQ aO = some (r1, r2, r3, r4, r5, r6)) :
  Calls Tryz.prog 24 #[.agg #[.int .i64 aG, .slice bC aT.length bD, .int .i64 aH, .slice bE aR.length bF, .slice bG aQ.length bH, .slice bI aO.length bJ]] w fun e w' => ∃ v1_ v3_ v4_ v5_ : Value, e = .returned (.agg #[.int .i64 r1, v1_, .int .i64 r3, v3_, v4_, v5_]) ∧ Kd.R k59 59 w' w.heap.size (fun _ => True) v1_ r2 ∧ Kd.R k96 96 w' w.heap.size (fun _ => True) v3_ r4 ∧ (∃ N_, Kd.S k83 83 w' w.heap.size (fun k_ => k_ < N_) v4_ r5 ∧ Kd.S k83 83 w' w.heap.size (fun k_ => N_ ≤ k_) v5_ r6) ∧ Below w.heap.size w w' := by
 have cS := Tryz.underlying37; have cT := Tryz.underlying34; have bZ := Aside0.mk bO; have cA := Aside0.mk bP; clear bO bP; have cB := Aside0.mk bQ; have cC := Aside0.mk bR; clear bQ bR; have cD := Aside0.mk bS; have cE := Aside0.mk bT; clear bS bT; have cF := Aside0.mk bU; have cG := Aside0.mk bV; clear bU bV; have HB := am (Below.refl w.heap.size w); unfold impl_Gate_copied.f at h; have H := h; clear h; obtain ⟨aJ, A2, H⟩ := b1 H; obtain ⟨aK, A3, H⟩ := b1 H; obtain ⟨aL, A4, H⟩ := b1 H; obtain ⟨aM, A5, H⟩ := b1 H; simp only [Option.some.injEq, Prod.mk.injEq] at H; obtain ⟨rfl, rfl, rfl, rfl, rfl, rfl⟩ := H; go_enter Tryz.func24, Tryz.ntmps24
 try go_wp2_with (first | ((with_reducible refine gate_dst (N := 1) rfl ?_); refine bxe (KL HB) (cs := #[.int .i64 aG, .slice bC aT.length bD, .int .i64 aH, .slice bE aR.length bF, .slice bG aQ.length bH, .slice bI aO.length bJ]) ?_; intro cH w6 aC aI HB hb hg; clear hb hg) | ((with_reducible refine gate_dst (N := 2) rfl ?_); refine box_event rfl (N := 2) rfl (cs := #[.int .i64 0, .slice none 0 0, .int .i64 0, .slice none 0 0, .slice none 0 0, .slice none 0 0]) (t := 37) BX ?_; intro aB hg w7 bK hb; have aD := am (bK); have cJ := am (GH1 HB aI.out hg); have aN := cJ; replace HB := bl (K1 HB aI.out) hb; have aA := am (NL aC hg); have aF := am (NG aC hg); replace aC := am (BB aC hb); clear hb bK hg))
 replace aC := am (blk_drew aC.out); replace aD := am (blk_drew aD.out); replace HB := am (below_drew1 HB.out); refine start_ (n := 21) (S := fun w' => de6 w' cH (.int .i64 aG) (.slice bC aT.length bD) (.int .i64 aH) (.slice bE aR.length bF) (.slice bG aQ.length bH) (.slice bI aO.length bJ)) (ds := []) (tf 0 21) (by kernel_rfl) rfl rfl (zd6 aC) (fun aE => ?_); refine with_tabW impl_Gate_copied.tab1 impl_Gate_copied.bits1 (fun aS bX => ?_); generalize w7.drew = w8 at aC aD HB aE ⊢; refine pv aS 0 3 (tf 1 20) ?_; refine pv aS 2 5 (tr [1, 1, 1, 18]) ?_; refine pv aS 5 8 (tr [1, 1, 1, 2, 1, 15]) ?_; refine pv aS 6 9 (tr [1, 1, 1, 2, 2, 14]) ?_; refine pv aS 8 11 (tr [1, 1, 1, 2, 2, 1, 1, 12]) ?_; refine pv aS 9 12 (tr [1, 1, 1, 2, 2, 1, 2, 11]) ?_; refine pv aS 13 16 (tr [1, 1, 1, 2, 2, 1, 2, 3, 1, 7]) ?_; refine pv aS 16 19 (tr [1, 1, 1, 2, 2, 1, 2, 3, 1, 2, 1, 4]) ?_; refine tw aS bX 1 4 (tr [3, 2, 2, 1, 2, 3, 1, 2, 1, 4]) aE ?_; refine tw aS bX 3 6 (tr [4, 1, 2, 1, 2, 3, 1, 2, 1, 4]) aE ?_; refine tw aS bX 7 10 (tr [4, 1, 5, 3, 1, 2, 1, 4]) aE ?_; refine tw aS bX 10 13 (tr [4, 1, 6, 2, 1, 2, 1, 4]) aE ?_; refine tw aS bX 14 17 (tr [4, 1, 6, 2, 2, 1, 1, 4]) aE ?_; refine tw aS bX 17 20 (tr [4, 1, 6, 2, 2, 1, 2, 3]) aE ?_; refine oW aS 4 7 (tr [11, 2, 2, 1, 2, 3]) (fun K hK => ?_); refine gW Tryz.func26 #[.slice bC aT.length bD] ?_; with_reducible refine (slices_Clone_Rule.calls _ _ aT aJ _ ?_ ?_ A2.out).mono ?_
 exact KD bZ HB; exact cA.out; rintro e w9 ⟨cU, rfl, bL, hb⟩; refine ⟨_, rfl, ?_⟩; have aP := am (Kd.R_lower bL (below_size (K2 HB aI.out aN.out))); replace aC := am (BB aC hb); replace aD := am (BB aD hb); replace HB := bl (K2 HB aI.out aN.out) hb; (try clear hb)
 (try clear hk)
 (try clear bL)
 refine hK.out _ _ (zd6 aC) (fun aE => ?_); clear hK K; refine nm (some 7) ?_; refine oW aS 11 14 (tr [12, 1, 2, 1, 2, 3]) (fun K hK => ?_); refine gW Tryz.func51 #[.slice bE aR.length bF] ?_; with_reducible refine (slices_Clone_Seen.calls _ _ aR aK _ ?_ ?_ A3.out).mono ?_
 exact KD cB HB; exact cC.out; rintro e cZ ⟨cV, rfl, bL, hb⟩; refine ⟨_, rfl, ?_⟩; replace aP := am (Kd.R_below (KR aP) hb); have aU := am (Kd.R_lower bL (below_size (K2 HB aI.out aN.out))); replace aC := am (BB aC hb); replace aD := am (BB aD hb); replace HB := bl (K2 HB aI.out aN.out) hb; (try clear hb)
 (try clear hk)
 (try clear bL)
 obtain ⟨aX, aY, cK⟩ := Kd.R_slice aU.out; (first | subst cK | (injection cK with f1_ f2_ f3_; have f4_ := f1_.symm; have f5_ := f3_.symm; clear f1_ f2_ f3_; subst f4_; subst f5_))
 refine hK.out _ _ (zd6 aC) (fun aE => ?_); clear hK K; refine nm (some 14) ?_; refine pv aS 12 15 (tr [15, 1, 2, 3]) ?_; refine oW aS 15 18 (tf 18 3) (fun K hK => ?_); refine gW Tryz.func52 #[.slice bG aQ.length bH] ?_; with_reducible refine (impl_copies.calls k _ _ aQ aL _ ?_ ?_ A4.out).mono ?_
 exact KD cD HB; exact cE.out; rintro e cW ⟨cX, rfl, bL, hb⟩; refine ⟨_, rfl, ?_⟩; replace aP := am (Kd.R_below (KR aP) hb); replace aU := am (Kd.R_below (KR aU) hb); have aZ := am (Kd.S_lower bL (below_size (K2 HB aI.out aN.out))); replace aC := am (BB aC hb); replace aD := am (BB aD hb); replace HB := bl (K2 HB aI.out aN.out) hb; (try clear hb)
 (try clear hk)
 (try clear bL)
 refine hK.out _ _ (zd6 aC) (fun aE => ?_); clear hK K; refine nm (some 18) ?_; refine oW aS 18 21 (tf 19 2) (fun K hK => ?_); refine gW Tryz.func52 #[.slice bI aO.length bJ] ?_; with_reducible refine (impl_copies.calls k _ _ aO aM _ ?_ ?_ A5.out).mono ?_
 exact KD cF HB; exact cG.out; rintro e bY ⟨cY, rfl, bL, hb⟩; refine ⟨_, rfl, ?_⟩; replace aP := am (Kd.R_below (KR aP) hb); replace aU := am (Kd.R_below (KR aU) hb); have bW := am (Kd.S_lower (Kd.S_mono (Kd.S_bound bL) (fun _ hk => hk.2.1)) (below_size (K2 HB aI.out aN.out))); replace aZ := am (Kd.S_mono (Kd.S_old (KX aZ.out) hb) (fun _ hk => hk.2)); replace aC := am (BB aC hb); replace aD := am (BB aD hb); replace HB := bl (K2 HB aI.out aN.out) hb; (try clear hb)
 (try clear hk)
 (try clear bL)
 obtain ⟨bM, bN, cL⟩ := Kd.S_slice bW.out; (first | subst cL | (injection cL with f1_ f2_ f3_; have f4_ := f1_.symm; have f5_ := f3_.symm; clear f1_ f2_ f3_; subst f4_; subst f5_))
 obtain ⟨bA, bB, cM⟩ := Kd.S_slice aZ.out; (first | subst cM | (injection cM with f1_ f2_ f3_; have f4_ := f1_.symm; have f5_ := f3_.symm; clear f1_ f2_ f3_; subst f4_; subst f5_))
 obtain ⟨aV, aW, cN⟩ := Kd.R_slice aP.out; (first | subst cN | (injection cN with f1_ f2_ f3_; have f4_ := f1_.symm; have f5_ := f3_.symm; clear f1_ f2_ f3_; subst f4_; subst f5_))
 refine hK.out _ _ (zd6 aC) (fun aE => ?_); clear hK K; refine nm (some 21) ?_; refine pv aS 19 22 (tf 20 1) ?_; refine one_ (i := 20) (N := none) (tf 21 0) rfl rfl (one_of aS.out (by kernel_rfl)) (by decide) (fun K hK => ?_); have hs17 : bY.cell? ⟨aB, 0, none⟩ = some (.int .i64 0) := z0 _ aD.out; have hfs17 := blk_frozen aD.out 0; have hns17_0 := aA.out; have hms17_0 := aF.out; have hs18 : bY.cell? ⟨aB, 1, none⟩ = some (.slice none 0 0) := z1 _ aD.out; have hfs18 := blk_frozen aD.out 1; have hns18_0 := aA.out; have hms18_0 := aF.out; have hs19 : bY.cell? ⟨aB, 2, none⟩ = some (.int .i64 0) := z2 _ aD.out; have hfs19 := blk_frozen aD.out 2; have hns19_0 := aA.out; have hms19_0 := aF.out; have hs20 : bY.cell? ⟨aB, 3, none⟩ = some (.slice none 0 0) := z3 _ aD.out; have hfs20 := blk_frozen aD.out 3; have hns20_0 := aA.out; have hms20_0 := aF.out; have hs21 : bY.cell? ⟨aB, 4, none⟩ = some (.slice none 0 0) := z4 _ aD.out; have hfs21 := blk_frozen aD.out 4; have hns21_0 := aA.out; have hms21_0 := aF.out; have hs22 : bY.cell? ⟨aB, 5, none⟩ = some (.slice none 0 0) := z5 _ aD.out; have hfs22 := blk_frozen aD.out 5; have hns22_0 := aA.out; have hms22_0 := aF.out; refine skip_ (w1 := ?_) (by rfl) rfl ?_ ?_
 rotate_left
 ·go_simp
  rfl
 refine hK.out _ _ ⟨((cell_far (p := ⟨aB, _, none⟩) aA.out _).trans (((cell_far (p := ⟨aB, _, none⟩) aA.out _).trans (((cell_far (p := ⟨aB, _, none⟩) aA.out _).trans (((cell_far (p := ⟨aB, _, none⟩) aA.out _).trans (((cell_far (p := ⟨aB, _, none⟩) aA.out _).trans (((cell_far (p := ⟨aB, _, none⟩) aA.out _).trans (aE.1)))))))))))), ((cell_far (p := ⟨aB, _, none⟩) aA.out _).trans (((cell_far (p := ⟨aB, _, none⟩) aA.out _).trans (((cell_far (p := ⟨aB, _, none⟩) aA.out _).trans (((cell_far (p := ⟨aB, _, none⟩) aA.out _).trans (((cell_far (p := ⟨aB, _, none⟩) aA.out _).trans (((cell_far (p := ⟨aB, _, none⟩) aA.out _).trans (aE.2.1)))))))))))), ((cell_far (p := ⟨aB, _, none⟩) aA.out _).trans (((cell_far (p := ⟨aB, _, none⟩) aA.out _).trans (((cell_far (p := ⟨aB, _, none⟩) aA.out _).trans (((cell_far (p := ⟨aB, _, none⟩) aA.out _).trans (((cell_far (p := ⟨aB, _, none⟩) aA.out _).trans (((cell_far (p := ⟨aB, _, none⟩) aA.out _).trans (aE.2.2.1)))))))))))), ((cell_far (p := ⟨aB, _, none⟩) aA.out _).trans (((cell_far (p := ⟨aB, _, none⟩) aA.out _).trans (((cell_far (p := ⟨aB, _, none⟩) aA.out _).trans (((cell_far (p := ⟨aB, _, none⟩) aA.out _).trans (((cell_far (p := ⟨aB, _, none⟩) aA.out _).trans (((cell_far (p := ⟨aB, _, none⟩) aA.out _).trans (aE.2.2.2.1)))))))))))), ((cell_far (p := ⟨aB, _, none⟩) aA.out _).trans (((cell_far (p := ⟨aB, _, none⟩) aA.out _).trans (((cell_far (p := ⟨aB, _, none⟩) aA.out _).trans (((cell_far (p := ⟨aB, _, none⟩) aA.out _).trans (((cell_far (p := ⟨aB, _, none⟩) aA.out _).trans (((cell_far (p := ⟨aB, _, none⟩) aA.out _).trans (aE.2.2.2.2.1)))))))))))), ((cell_far (p := ⟨aB, _, none⟩) aA.out _).trans (((cell_far (p := ⟨aB, _, none⟩) aA.out _).trans (((cell_far (p := ⟨aB, _, none⟩) aA.out _).trans (((cell_far (p := ⟨aB, _, none⟩) aA.out _).trans (((cell_far (p := ⟨aB, _, none⟩) aA.out _).trans (((cell_far (p := ⟨aB, _, none⟩) aA.out _).trans (aE.2.2.2.2.2))))))))))))⟩ (fun aE => ?_); clear hK K; refine done_ (done_of aS.out (by kernel_rfl)) ?_; try go_wp2
 refine bodyPost_ret (results_cell_row rfl _ _ aB 37 #[.int .i64 aG, .slice aV aJ.length aW, .int .i64 aH, .slice aX aK.length aY, .slice bA aL.length bB, .slice bM aM.length bN] (0, 0) _ rfl (by refine BD ?_; refine blk_put (cs := #[.int .i64 aG, .slice aV aJ.length aW, .int .i64 aH, .slice aX aK.length aY, .slice bA aL.length bB, .slice none 0 0]) ?_ 5 _ rfl; refine BD ?_; refine blk_put (cs := #[.int .i64 aG, .slice aV aJ.length aW, .int .i64 aH, .slice aX aK.length aY, .slice none 0 0, .slice none 0 0]) ?_ 4 _ rfl; refine BD ?_; refine blk_put (cs := #[.int .i64 aG, .slice aV aJ.length aW, .int .i64 aH, .slice none 0 0, .slice none 0 0, .slice none 0 0]) ?_ 3 _ rfl; refine BD ?_; refine blk_put (cs := #[.int .i64 aG, .slice aV aJ.length aW, .int .i64 0, .slice none 0 0, .slice none 0 0, .slice none 0 0]) ?_ 2 _ rfl; refine BD ?_; refine blk_put (cs := #[.int .i64 aG, .slice none 0 0, .int .i64 0, .slice none 0 0, .slice none 0 0, .slice none 0 0]) ?_ 1 _ rfl; refine BD ?_; refine blk_put (cs := #[.int .i64 0, .slice none 0 0, .int .i64 0, .slice none 0 0, .slice none 0 0, .slice none 0 0]) ?_ 0 _ rfl; refine BD ?_; exact aD.out) Tryz.underlying37 rfl (by kernel_rfl)) rfl ?_; exact ⟨_, _, _, _, ER, by refine KW ?_; exact Kd.R_mono (Kd.R_far (p := ⟨aB, 5, none⟩) (Kd.R_far (p := ⟨aB, 4, none⟩) (Kd.R_far (p := ⟨aB, 3, none⟩) (Kd.R_far (p := ⟨aB, 2, none⟩) (Kd.R_far (p := ⟨aB, 1, none⟩) (Kd.R_far (p := ⟨aB, 0, none⟩) (Kd.R_types aP.out aD.out (by decide)) (fun _ hk => hk.2) (.int .i64 aG)) (fun _ hk => hk.2) (.slice aV aJ.length aW)) (fun _ hk => hk.2) (.int .i64 aH)) (fun _ hk => hk.2) (.slice aX aK.length aY)) (fun _ hk => hk.2) (.slice bA aL.length bB)) (fun _ hk => hk.2) (.slice bM aM.length bN)) (fun _ hk => trivial), by refine KW ?_; exact Kd.R_mono (Kd.R_far (p := ⟨aB, 5, none⟩) (Kd.R_far (p := ⟨aB, 4, none⟩) (Kd.R_far (p := ⟨aB, 3, none⟩) (Kd.R_far (p := ⟨aB, 2, none⟩) (Kd.R_far (p := ⟨aB, 1, none⟩) (Kd.R_far (p := ⟨aB, 0, none⟩) (Kd.R_types aU.out aD.out (by decide)) (fun _ hk => hk.2) (.int .i64 aG)) (fun _ hk => hk.2) (.slice aV aJ.length aW)) (fun _ hk => hk.2) (.int .i64 aH)) (fun _ hk => hk.2) (.slice aX aK.length aY)) (fun _ hk => hk.2) (.slice bA aL.length bB)) (fun _ hk => hk.2) (.slice bM aM.length bN)) (fun _ hk => trivial), ⟨cW.heap.size, by refine KX ?_; exact Kd.S_mono (Kd.S_far (p := ⟨aB, 5, none⟩) (Kd.S_far (p := ⟨aB, 4, none⟩) (Kd.S_far (p := ⟨aB, 3, none⟩) (Kd.S_far (p := ⟨aB, 2, none⟩) (Kd.S_far (p := ⟨aB, 1, none⟩) (Kd.S_far (p := ⟨aB, 0, none⟩) (Kd.S_types aZ.out aD.out (by decide)) (fun _ hk => hk.2) (.int .i64 aG)) (fun _ hk => hk.2) (.slice aV aJ.length aW)) (fun _ hk => hk.2) (.int .i64 aH)) (fun _ hk => hk.2) (.slice aX aK.length aY)) (fun _ hk => hk.2) (.slice bA aL.length bB)) (fun _ hk => hk.2) (.slice bM aM.length bN)) (fun _ hk => hk.1), by refine KX ?_; exact Kd.S_mono (Kd.S_far (p := ⟨aB, 5, none⟩) (Kd.S_far (p := ⟨aB, 4, none⟩) (Kd.S_far (p := ⟨aB, 3, none⟩) (Kd.S_far (p := ⟨aB, 2, none⟩) (Kd.S_far (p := ⟨aB, 1, none⟩) (Kd.S_far (p := ⟨aB, 0, none⟩) (Kd.S_types bW.out aD.out (by decide)) (fun _ hk => hk.2) (.int .i64 aG)) (fun _ hk => hk.2) (.slice aV aJ.length aW)) (fun _ hk => hk.2) (.int .i64 aH)) (fun _ hk => hk.2) (.slice aX aK.length aY)) (fun _ hk => hk.2) (.slice bA aL.length bB)) (fun _ hk => hk.2) (.slice bM aM.length bN)) (fun _ hk => hk.1)⟩, K2 HB aI.out aN.out⟩
def impl_end.f (l0 : List Int) (a1 : Int) (a2 : Int) : Option (Int) := if (wrap64 (a1 + 1)) < (l0.length : Int) then (if 0 ≤ (wrap64 (a1 + 1)) then (some (wrap64 ((rd l0 (wrap64 (a1 + 1))) - 1))) else (none)) else (some a2)
theorem impl_end.calls (A0 : Option Addr) (c0 : Nat) (l0 : List Int) (a1 : Int) (a2 : Int) (r : Int) (w : World) (aE : Kd.C (Kd.int .i64) w A0 l0.length l0) (aF : l0.length ≤ c0) (h : impl_end.f l0 a1 a2 = some r) :
  Calls Tryz.prog 58 #[.slice A0 l0.length c0, .int .i64 a1, .int .i64 a2] w fun e w' => e = .returned (.int .i64 r) ∧ Drawn0 w w' := by
 have aH := Aside0.mk aE; have aI := Aside0.mk aF; clear aE aF; unfold impl_end.f at h; have H := h; clear h; by_cases c4 : (wrap64 (a1 + 1)) < (l0.length : Int)
 ·rw [if_pos c4] at H
  have c4b0 := decide_eq_true c4; clear c4; obtain ⟨ji5, hji5⟩ : ∃ j_ : Int, (wrap64 (a1 + 1)) = j_ := ⟨_, rfl⟩; replace H : (if 0 ≤ (ji5) then (some (wrap64 ((rd l0 (ji5)) - 1))) else (none)) = some r := by first | (rw [hji5] at H; exact H) | (simp only [hji5] at H ⊢; exact H)
  (try rw [hji5] at c4b0)
  have hji5w : (IntKind.i64.wrap (a1 + 1)) = ji5 := (i64_w _).trans hji5; by_cases c6 : 0 ≤ (ji5)
  ·rw [if_pos c6] at H
   have c6b0 := decide_eq_true c6; clear c6; obtain rfl := sj H; have aA : 0 ≤ ((ji5) : Int) := OD; have aB : (ji5) < (l0.length : Int) := OD; obtain ⟨_, aD, _⟩ := Kd.at_int aH.out (ji5) aA aB; cases aD
   replace aA := eq_true aA; replace aB := eq_true aB; go_enter Tryz.func58, Tryz.ntmps58
   go_wp2
   go_ret
   exact ⟨by first | rfl | (simp; done) | (simp only [← hji5] <;> (first | rfl | simp)) | (simp [*]; done), by repeat (first | exact Drawn0.refl _ | apply Drawn0.step)⟩
  ·rw [if_neg c6] at H
   exact absurd H (by simp)
 ·rw [if_neg c4] at H
  have c4b0 := decide_eq_false c4; clear c4; obtain rfl := sj H; go_enter Tryz.func58, Tryz.ntmps58
  go_wp2
  go_ret
  exact ⟨by first | rfl | (simp; done) | (simp [*]; done), by repeat (first | exact Drawn0.refl _ | apply Drawn0.step)⟩
def laws_eqBlock.f (a0_0 : Int) (a0_1 : Int) (a1_0 : Int) (a1_1 : Int) : Option (Bool) := if a0_0 = a1_0 then (if a0_1 = a1_1 then (some true) else (some false)) else (some false)
theorem laws_eqBlock.calls (aF : Int) (aG : Int) (aH : Int) (aI : Int) (r : Bool) (w : World) (h : laws_eqBlock.f aF aG aH aI = some r) :
  Calls Tryz.prog 61 #[.agg #[.int .i64 aF, .int .i64 aG], .agg #[.int .i64 aH, .int .i64 aI]] w fun e w' => e = .returned (.bool r) ∧ Below w.heap.size w w' := by
 have bN := Tryz.underlying57; have HB := am (Below.refl w.heap.size w); unfold laws_eqBlock.f at h; have H := h; clear h; by_cases c3 : aF = aH
 ·rw [if_pos c3] at H
  have c3b0 := beq_iff_eq.mpr c3; have c3b1 := bne_eq_false_iff_eq.mpr c3; clear c3; by_cases c4 : aG = aI
  ·rw [if_pos c4] at H
   have c4b0 := beq_iff_eq.mpr c4; have c4b1 := bne_eq_false_iff_eq.mpr c4; clear c4; obtain rfl := sj H; go_enter Tryz.func61, Tryz.ntmps61
   go_wp2_with (first | ((with_reducible refine gate_dst (N := 2) rfl ?_); refine bxe (KL HB) (cs := #[.int .i64 aF, .int .i64 aG]) ?_; intro aN w5 aA aE HB hb hg; clear hb hg) | ((with_reducible refine gate_dst (N := 3) rfl ?_); refine box_event rfl (N := 3) rfl (cs := #[.int .i64 aH, .int .i64 aI]) (t := 57) BX ?_; intro aO hg w6 aD hb; have aK := am (aD); have aL := am (GH1 HB aE.out hg); have aM := aL; replace HB := bl (K1 HB aE.out) hb; have aB := am (NL aA hg); have aC := am (NG aA hg); replace aA := am (BB aA hb); clear hb aD hg; have bO := aB.out; have bP := aC.out; have ⟨_, _, _⟩ := y2 w6 aA.out; have ⟨_, _, _⟩ := y2 w6 aK.out))
   go_ret
   exact ⟨ER, K2 HB aE.out aM.out⟩
  ·rw [if_neg c4] at H
   have c4b0 := beq_eq_false_iff_ne.mpr c4; have c4b1 := bne_iff_ne.mpr c4; obtain rfl := sj H; go_enter Tryz.func61, Tryz.ntmps61
   go_wp2_with (first | ((with_reducible refine gate_dst (N := 2) rfl ?_); refine bxe (KL HB) (cs := #[.int .i64 aF, .int .i64 aG]) ?_; intro aN bQ aA aE HB hb hg; clear hb hg) | ((with_reducible refine gate_dst (N := 3) rfl ?_); refine box_event rfl (N := 3) rfl (cs := #[.int .i64 aH, .int .i64 aI]) (t := 57) BX ?_; intro aO hg bH aD hb; have aK := am (aD); have aL := am (GH1 HB aE.out hg); have aM := aL; replace HB := bl (K1 HB aE.out) hb; have aB := am (NL aA hg); have aC := am (NG aA hg); replace aA := am (BB aA hb); clear hb aD hg; have bI := aB.out; have bJ := aC.out; have ⟨_, _, _⟩ := y2 bH aA.out; have ⟨_, _, _⟩ := y2 bH aK.out))
   go_ret
   exact ⟨ER, K2 HB aE.out aM.out⟩
 ·rw [if_neg c3] at H
  have c3b0 := beq_eq_false_iff_ne.mpr c3; have c3b1 := bne_iff_ne.mpr c3; obtain rfl := sj H; go_enter Tryz.func61, Tryz.ntmps61
  go_wp2_with (first | ((with_reducible refine gate_dst (N := 2) rfl ?_); refine bxe (KL HB) (cs := #[.int .i64 aF, .int .i64 aG]) ?_; intro aN bR aA aE HB hb hg; clear hb hg) | ((with_reducible refine gate_dst (N := 3) rfl ?_); refine box_event rfl (N := 3) rfl (cs := #[.int .i64 aH, .int .i64 aI]) (t := 57) BX ?_; intro aO hg bK aD hb; have aK := am (aD); have aL := am (GH1 HB aE.out hg); have aM := aL; replace HB := bl (K1 HB aE.out) hb; have aB := am (NL aA hg); have aC := am (NG aA hg); replace aA := am (BB aA hb); clear hb aD hg; have bL := aB.out; have bM := aC.out; have ⟨_, _, _⟩ := y2 bK aA.out; have ⟨_, _, _⟩ := y2 bK aK.out))
  go_ret
  exact ⟨ER, K2 HB aE.out aM.out⟩
def laws_markText.l0 : Nat → Int → ByteArray → Option (ByteArray)
 | 0, _, _ => none
 | k + 1, x0, x3 => if x0 > 0 then ((some (([(wrap64 (48 + (Int.tmod x0 10))) % 256] : List Int) : List Int)).bind fun y101 => (if (strOfNums y101).size + x3.size ≤ 9223372036854775807 then (laws_markText.l0 k (wrap64 (Int.tdiv x0 10)) ((strOfNums y101) ++ x3)) else (none))) else (if 1 + x3.size ≤ 9223372036854775807 then (some ((⟨#[109]⟩ : ByteArray) ++ x3)) else (none))
def laws_markText.f (k : Nat) (a0 : Int) : Option (ByteArray) := if a0 ≤ 0 then (some (⟨#[109, 48]⟩ : ByteArray)) else (laws_markText.l0 k a0 (⟨#[]⟩ : ByteArray))
theorem laws_markText.calls (k : Nat) (a0 : Int) (r : ByteArray) (w : World) (h : laws_markText.f k a0 = some r) :
  Calls Tryz.prog 63 #[.int .i64 a0] w fun e w' => e = .returned (.string r) ∧ Below w.heap.size w w' := by
 have HB := am (Below.refl w.heap.size w); unfold laws_markText.f at h; have H := h; clear h; by_cases c2 : a0 ≤ 0
 ·rw [if_pos c2] at H
  have c2b0 := decide_eq_true c2; clear c2; obtain rfl := sj H; go_enter Tryz.func63, Tryz.ntmps63
  go_wp2
  go_ret
  exact ⟨ER, KL HB⟩
 ·rw [if_neg c2] at H
  have c2b0 := decide_eq_false c2; clear c2; have H' := Aside0.mk H; clear H; go_enter Tryz.func63, Tryz.ntmps63
  go_wp2
  go_loopg [0, 3] k (fun kq v0 v3 w' => ∃ (aA : Int) (aB : ByteArray), v0 = .int .i64 aA ∧ v3 = .string aB ∧ Aside0 (laws_markText.l0 kq aA aB = some r) ∧ Aside0 (kq ≤ k) ∧ Aside0 (Below w.heap.size w w'))
  case atStart => exact ⟨(a0), ((⟨#[]⟩ : ByteArray)), RS, RS, H', ⟨Nat.le_refl _⟩, ⟨KL HB⟩⟩
  case round =>
   clear H'; try clear c2
   try clear c2b0
   obtain ⟨aA, aB, rfl, rfl, HA, HK1, HB⟩ := hrel; cases gk with
   | zero => exact absurd HA.out (by simp [laws_markText.l0])
   | succ k1 =>
    have H := HA.out; clear HA; simp only [laws_markText.l0] at H; by_cases c3 : aA > 0
    ·rw [if_pos c3] at H
     have c3b0 := decide_eq_true c3; clear c3; obtain ⟨aD, Ny101, H⟩ := b3 ((([(wrap64 (48 + (Int.tmod aA 10))) % 256] : List Int)) : List Int) H; by_cases c4 : (strOfNums aD).size + aB.size ≤ 9223372036854775807
     ·rw [if_pos c4] at H
      have c4b0 := eq_true c4; have c4b1 := decide_eq_true c4; try have c4b2 : (9223372036854775807 < (strOfNums aD).size + aB.size) = False := eq_false (Nat.not_lt.2 c4)
      have H' := Aside0.mk H; clear H; go_wp2_with (first | ((with_reducible refine gate_dst (N := 12) rfl ?_); refine Kd.R_lit (Kd.int .u8) _ 5 ?hg (N := 12) ?hd (xs := ([(wrap64 (48 + (Int.tmod aA 10))) % 256] : List Int)) (inner := [.int .u8 ((wrap64 (48 + (Int.tmod aA 10))) % 256)]) (ok := fun _ => True) (okp := fun _ => True) ?hr ?hp (fun _ hk => hk) trivial (Below.refl _ _) (Nat.le_refl _) (by simp) ?_; (case hd => rfl); (case hg => rfl); (case hr => first | (go_simp; done) | (go_simp; rfl)); (case hp => exact (Reps.one (show Kd.M (Kd.int .u8) _ _ _ ((wrap64 (48 + (Int.tmod aA 10))) % 256) [.int .u8 ((wrap64 (48 + (Int.tmod aA 10))) % 256)] from rfl) (Reps.none _ _))); intro aG w5 aE hb hg_ hnew_; clear hg_ hnew_; (first | rw [← Ny101.out] at aE | (simp only [Int.reduceToNat] at aE; rw [← Ny101.out] at aE)); have aF := am (Kd.R_lower aE (below_size (KL HB))); replace HB := bl (KL HB) hb; clear hb aE; have hcv7 := own_string (P := Tryz.prog) Tryz.underlying139 Tryz.underlying5 Tryz.underlying9 (Kd.own_of_R aF.out)))
      go_roundg k1
      case measure => have := HK1.out; omega
      case rel => exact ⟨(wrap64 (Int.tdiv aA 10)), ((strOfNums aD) ++ aB), RS, RS, H', LK HK1, ⟨KL HB⟩⟩
     ·rw [if_neg c4] at H
      exact absurd H (by simp)
    ·rw [if_neg c3] at H
     have c3b0 := decide_eq_false c3; clear c3; by_cases c8 : 1 + aB.size ≤ 9223372036854775807
     ·rw [if_pos c8] at H
      have c8b0 := eq_true c8; have c8b1 := decide_eq_true c8; try have c8b2 : (9223372036854775807 < 1 + aB.size) = False := eq_false (Nat.not_lt.2 c8)
      obtain rfl := sj H; go_wp2
      go_ret
      exact ⟨ER, KL HB⟩
     ·rw [if_neg c8] at H
      exact absurd H (by simp)
def laws_markIntS.l0 : Nat → List Int → Int → Int → Option (Int × List Int)
 | 0, _, _, _ => none
 | k + 1, x0, x1, x5 => if x5 < (x0.length : Int) then (if 0 ≤ x5 then (laws_markIntS.l0 k (x0.set (x5 : Int).toNat x1) (wrap64 (x1 + 1)) (wrap64 (x5 + 1))) else (none)) else (some (x1, x0))
def laws_markIntS.f (k : Nat) (l0 : List Int) (a1 : Int) : Option (Int × List Int) := laws_markIntS.l0 k l0 a1 0
theorem laws_markIntS.calls (k : Nat) (P0_ : Nat → Prop) (u9000_ : Value) (l0 : List Int) (a1 : Int) (r1 : Int) (r2 : List Int) (w0 w : World) (hB : Below w0.heap.size w0 w) (aK : Kd.R (Kd.int .i64) 3 w w0.heap.size P0_ u9000_ l0) (h : laws_markIntS.f k l0 a1 = some (r1, r2)) :
  Calls Tryz.prog 64 #[u9000_, .int .i64 a1] w fun e w' => e = .returned (.int .i64 r1) ∧ Kd.R (Kd.int .i64) 3 w' w0.heap.size (fun k_ => (P0_ k_ ∨ w.heap.size ≤ k_)) u9000_ r2 ∧ Below w0.heap.size w0 w' ∧ Kept w w' (fun k_ => P0_ k_) := by
 have aL := am (show Kd.R (Kd.int .i64) 3 w w0.heap.size (fun k_ => (P0_ k_ ∨ w.heap.size ≤ k_)) u9000_ l0 from Kd.R_mono aK (fun k_ hk => (.inl hk))); have HK := am (Kept.refl w (fun k_ => P0_ k_)); have HW0 := Aside0.mk hB.size; have HB := Aside0.mk hB; clear hB; have H : (laws_markIntS.l0 k l0 a1 0) = some (r1, r2) := h; clear h; have H' := Aside0.mk H; clear H; go_enter Tryz.func64, Tryz.ntmps64
 go_wp2
 go_loopg [1, 5] k (fun kq v1 v5 w' => ∃ (aC : List Int) (aD : Int) (aA : Int), v1 = .int .i64 aD ∧ v5 = .int .i64 aA ∧ Aside0 (laws_markIntS.l0 kq aC aD aA = some (r1, r2)) ∧ Aside0 (kq ≤ k) ∧ Aside0 (Kd.R (Kd.int .i64) 3 w' w0.heap.size (fun k_ => (P0_ k_ ∨ w.heap.size ≤ k_)) u9000_ aC) ∧ Aside0 (Kept w w' (fun k_ => P0_ k_)) ∧ Aside0 (Below w0.heap.size w0 w'))
 case atStart => exact ⟨(l0), (a1), (0), RS, RS, H', ⟨Nat.le_refl _⟩, ⟨KR aL⟩, ⟨by repeat (first | (with_reducible first | exact HK.out | apply Kept.alloc | apply Kept.drewN | apply Kept.drew) | exact HK.out)⟩, ⟨KL HB⟩⟩
 case round =>
  clear H'; obtain ⟨aC, aD, aA, rfl, rfl, HA, HK1, aB, HK, HB⟩ := hrel; cases gk with
  | zero => exact absurd HA.out (by simp [laws_markIntS.l0])
  | succ k1 =>
   have H := HA.out; clear HA; simp only [laws_markIntS.l0] at H; by_cases c3 : aA < (aC.length : Int)
   ·rw [if_pos c3] at H
    have c3b0 := decide_eq_true c3; clear c3; by_cases c4 : 0 ≤ aA
    ·rw [if_pos c4] at H
     have c4b0 := decide_eq_true c4; clear c4; obtain ⟨aF, Ny101, H⟩ := b3 ((aC.set (aA : Int).toNat aD) : List Int) H; have H' := Aside0.mk H; clear H; obtain ⟨_, aM, aN⟩ := Kd.R_slice aB.out; subst aN; have p5 : 0 ≤ (aA : Int) := OD; have q5 : (aA : Int) < ((aC.length : Int) : Int) := OD; obtain ⟨go5, _, aG, aH, gl5, cl5, HG5⟩ := Kd.R_form aB.out (by omega); (first | cases aG | (injection aG with ea_ en_ ec_; (first | subst ea_ | (injection ea_ with ea_; subst ea_)); subst ec_; clear en_))
     have GB5 := Aside0.mk aH; have GG5 := Aside0.mk HG5; clear aH gl5 HG5; have HMgo5 := am (show (P0_ go5 ∨ w.heap.size ≤ go5) from (aB.out.1 _ rfl)); obtain ⟨_, _⟩ := Kd.R_celln 0 aB.out (aA : Int) p5 q5; replace p5 := eq_true p5; replace q5 := eq_true q5; have HP7 := Kd.R_putg aB.out (aA : Int) aD; go_wp2_with (first | ((with_reducible refine gate_store (t := 3) (p := 15) rfl ?_); refine store_event (t := 3) (p := 15) (v := ?vo_w8) (w1 := (wr.setCell ⟨go5, (aA : Int).toNat, none⟩ (.int .i64 aD))) ?hg ?ho ?hn ?hr ?_; (case ho => rfl); (case hg => rfl); (case hn => rfl); (case hr => first | (go_simp; done) | (go_simp; rfl)); intro w8 hw; have hg : wr.grownBy w8 (some go5) := (by rw [hw]; exact HP7.2); have hp_ : Kd.R (Kd.int .i64) 3 w8 w0.heap.size (fun k_ => (P0_ k_ ∨ w.heap.size ≤ k_)) (.slice (some ⟨go5, 0, none⟩) aC.length aM) aF := (by rw [hw, Ny101.out]; exact HP7.1); clear HP7; replace HB := am ((by rw [hw]; exact below_set (HB.out) GB5.out : Below w0.heap.size w0 w8)); replace HK := am (Kept.of_grown (S := (fun k_ => P0_ k_)) hg (by repeat (first | (with_reducible first | exact HK.out | apply Kept.alloc | apply Kept.drewN | apply Kept.drew) | exact HK.out)) (fun k_ e_ => (aB.out.1 k_ e_))); replace aB := am (hp_); clear hg hw hp_))
     go_roundg k1
     case measure => have := HK1.out; omega
     case rel => exact ⟨(aF), (wrap64 (aD + 1)), (wrap64 (aA + 1)), RS, RS, H', LK HK1, ⟨KR aB⟩, ⟨by repeat (first | (with_reducible first | exact HK.out | apply Kept.alloc | apply Kept.drewN | apply Kept.drew) | exact HK.out)⟩, ⟨KL HB⟩⟩
    ·rw [if_neg c4] at H
     exact absurd H (by simp)
   ·rw [if_neg c3] at H
    have c3b0 := decide_eq_false c3; clear c3; simp only [Option.some.injEq, Prod.mk.injEq] at H; obtain ⟨rfl, rfl⟩ := H; obtain ⟨_, _, aO⟩ := Kd.R_slice aB.out; subst aO; go_wp2
    go_ret
    exact ⟨ER, by refine KW ?_; exact aB.out, KL HB, by repeat (first | (with_reducible first | exact HK.out | apply Kept.alloc | apply Kept.drewN | apply Kept.drew) | exact HK.out)⟩
def laws_heldIntS.l0 : Nat → List Int → Int → Int → Option (Int)
 | 0, _, _, _ => none
 | k + 1, x0, x1, x5 => if x5 < (x0.length : Int) then (if 0 ≤ x5 then (if (rd x0 x5) = x1 then (laws_heldIntS.l0 k x0 (wrap64 (x1 + 1)) (wrap64 (x5 + 1))) else (some (-1))) else (none)) else (some x1)
def laws_heldIntS.f (k : Nat) (l0 : List Int) (a1 : Int) : Option (Int) := laws_heldIntS.l0 k l0 a1 0
theorem laws_heldIntS.calls (k : Nat) (A0 : Option Addr) (c0 : Nat) (l0 : List Int) (a1 : Int) (r : Int) (w : World) (aH : Kd.C (Kd.int .i64) w A0 l0.length l0) (aI : l0.length ≤ c0) (h : laws_heldIntS.f k l0 a1 = some r) :
  Calls Tryz.prog 66 #[.slice A0 l0.length c0, .int .i64 a1] w fun e w' => e = .returned (.int .i64 r) ∧ Drawn0 w w' := by
 have aJ := Aside0.mk aH; have aK := Aside0.mk aI; clear aH aI; have H : (laws_heldIntS.l0 k l0 a1 0) = some r := h; clear h; have H' := Aside0.mk H; clear H; go_enter Tryz.func66, Tryz.ntmps66
 go_wp2
 go_loopg [1, 5] k (fun kq v1 v5 w' => ∃ (aB : Int) (aA : Int), v1 = .int .i64 aB ∧ v5 = .int .i64 aA ∧ Aside0 (laws_heldIntS.l0 kq l0 aB aA = some r) ∧ Aside0 (kq ≤ k) ∧ Drawn0 w w')
 case atStart => exact ⟨(a1), (0), RS, RS, H', ⟨Nat.le_refl _⟩, by repeat (first | exact Drawn0.refl _ | apply Drawn0.step)⟩
 case round =>
  clear H'; obtain ⟨aB, aA, rfl, rfl, HA, HK1, ⟨m1, rfl⟩⟩ := hrel; cases gk with
  | zero => exact absurd HA.out (by simp [laws_heldIntS.l0])
  | succ k1 =>
   have H := HA.out; clear HA; simp only [laws_heldIntS.l0] at H; by_cases c3 : aA < (l0.length : Int)
   ·rw [if_pos c3] at H
    have c3b0 := decide_eq_true c3; clear c3; by_cases c4 : 0 ≤ aA
    ·rw [if_pos c4] at H
     have c4b0 := decide_eq_true c4; clear c4; by_cases c5 : (rd l0 aA) = aB
     ·rw [if_pos c5] at H
      have c5b0 := beq_iff_eq.mpr c5; have c5b1 := bne_eq_false_iff_eq.mpr c5; clear c5; have H' := Aside0.mk H; clear H; have aC : 0 ≤ (aA : Int) := OD; have aD : aA < (l0.length : Int) := OD; obtain ⟨aG, aF, aE⟩ := Kd.at_int aJ.out aA aC aD; cases aF
      replace aC := eq_true aC; replace aD := eq_true aD; go_wp2
      go_roundg k1
      case measure => have := HK1.out; omega
      case rel => exact ⟨(wrap64 (aB + 1)), (wrap64 (aA + 1)), RS, RS, H', LK HK1, by repeat (first | exact Drawn0.refl _ | apply Drawn0.step)⟩
     ·rw [if_neg c5] at H
      have c5b0 := beq_eq_false_iff_ne.mpr c5; have c5b1 := bne_iff_ne.mpr c5; obtain rfl := sj H; have aC : 0 ≤ (aA : Int) := OD; have aD : aA < (l0.length : Int) := OD; obtain ⟨aG, aF, aE⟩ := Kd.at_int aJ.out aA aC aD; cases aF
      replace aC := eq_true aC; replace aD := eq_true aD; go_wp2
      go_ret
      exact ⟨by first | rfl | (simp; done) | (simp [*]; done), by repeat (first | exact Drawn0.refl _ | apply Drawn0.step)⟩
    ·rw [if_neg c4] at H
     exact absurd H (by simp)
   ·rw [if_neg c3] at H
    have c3b0 := decide_eq_false c3; clear c3; obtain rfl := sj H; go_wp2
    go_ret
    exact ⟨by first | rfl | (simp; done) | (simp [*]; done), by repeat (first | exact Drawn0.refl _ | apply Drawn0.step)⟩
def laws_eqIntS.l0 : Nat → List Int → List Int → Int → Option (Bool)
 | 0, _, _, _ => none
 | k + 1, x0, x1, x5 => if x5 < (x0.length : Int) then (if 0 ≤ x5 then (if x5 < (x1.length : Int) then (if (rd x0 x5) = (rd x1 x5) then (laws_eqIntS.l0 k x0 x1 (wrap64 (x5 + 1))) else (some false)) else (none)) else (none)) else (some true)
def laws_eqIntS.f (k : Nat) (l0 : List Int) (l1 : List Int) : Option (Bool) := if (l0.length : Int) = (l1.length : Int) then (laws_eqIntS.l0 k l0 l1 0) else (some false)
theorem laws_eqIntS.calls (k : Nat) (A0 : Option Addr) (c0 : Nat) (l0 : List Int) (A1 : Option Addr) (c1 : Nat) (l1 : List Int) (r : Bool) (w : World) (aL : Kd.C (Kd.int .i64) w A0 l0.length l0) (aM : l0.length ≤ c0) (aN : Kd.C (Kd.int .i64) w A1 l1.length l1) (aO : l1.length ≤ c1) (h : laws_eqIntS.f k l0 l1 = some r) :
  Calls Tryz.prog 114 #[.slice A0 l0.length c0, .slice A1 l1.length c1] w fun e w' => e = .returned (.bool r) ∧ Drawn0 w w' := by
 have aP := Aside0.mk aL; have aR := Aside0.mk aM; clear aL aM; have aQ := Aside0.mk aN; have aS := Aside0.mk aO; clear aN aO; unfold laws_eqIntS.f at h; have H := h; clear h; by_cases c3 : (l0.length : Int) = (l1.length : Int)
 ·rw [if_pos c3] at H
  have c3b0 := beq_iff_eq.mpr c3; have c3b1 := bne_eq_false_iff_eq.mpr c3; have c3b2 : (l0.length == l1.length) = true := by first | simpa using c3 | (simp at c3 ⊢; omega)
  clear c3; have H' := Aside0.mk H; clear H; go_enter Tryz.func114, Tryz.ntmps114
  go_wp2
  repeat (go_quiet (fail); try go_wp2)
  go_loopg [5] k (fun kq v5 w' => ∃ (aA : Int), v5 = .int .i64 aA ∧ Aside0 (laws_eqIntS.l0 kq l0 l1 aA = some r) ∧ Aside0 (kq ≤ k) ∧ Drawn0 w w')
  case atStart => exact ⟨(0), RS, H', ⟨Nat.le_refl _⟩, by repeat (first | exact Drawn0.refl _ | apply Drawn0.step)⟩
  case round =>
   clear H'; try clear c1
   try clear c3
   try clear c3b0
   try clear c3b1
   try clear c3b2
   obtain ⟨aA, rfl, HA, HK1, ⟨m1, rfl⟩⟩ := hrel; cases gk with
   | zero => exact absurd HA.out (by simp [laws_eqIntS.l0])
   | succ k1 =>
    have H := HA.out; clear HA; simp only [laws_eqIntS.l0] at H; by_cases c4 : aA < (l0.length : Int)
    ·rw [if_pos c4] at H
     have c4b0 := decide_eq_true c4; clear c4; by_cases c5 : 0 ≤ aA
     ·rw [if_pos c5] at H
      have c5b0 := decide_eq_true c5; clear c5; by_cases c6 : aA < (l1.length : Int)
      ·rw [if_pos c6] at H
       have c6b0 := decide_eq_true c6; clear c6; by_cases c7 : (rd l0 aA) = (rd l1 aA)
       ·rw [if_pos c7] at H
        have c7b0 := beq_iff_eq.mpr c7; have c7b1 := bne_eq_false_iff_eq.mpr c7; clear c7; have H' := Aside0.mk H; clear H; have aB : 0 ≤ (aA : Int) := OD; have aC : aA < (l0.length : Int) := OD; obtain ⟨aJ, aH, aF⟩ := Kd.at_int aP.out aA aB aC; cases aH
        replace aB := eq_true aB; replace aC := eq_true aC; have aD : 0 ≤ (aA : Int) := OD; have aE : aA < (l1.length : Int) := OD; obtain ⟨aK, aI, aG⟩ := Kd.at_int aQ.out aA aD aE; cases aI
        replace aD := eq_true aD; replace aE := eq_true aE; go_wp2
        repeat (go_quiet (fail); try go_wp2)
        go_roundg k1
        case measure => have := HK1.out; omega
        case rel => exact ⟨(wrap64 (aA + 1)), RS, H', LK HK1, by repeat (first | exact Drawn0.refl _ | apply Drawn0.step)⟩
       ·rw [if_neg c7] at H
        have c7b0 := beq_eq_false_iff_ne.mpr c7; have c7b1 := bne_iff_ne.mpr c7; obtain rfl := sj H; have aB : 0 ≤ (aA : Int) := OD; have aC : aA < (l0.length : Int) := OD; obtain ⟨aJ, aH, aF⟩ := Kd.at_int aP.out aA aB aC; cases aH
        replace aB := eq_true aB; replace aC := eq_true aC; have aD : 0 ≤ (aA : Int) := OD; have aE : aA < (l1.length : Int) := OD; obtain ⟨aK, aI, aG⟩ := Kd.at_int aQ.out aA aD aE; cases aI
        replace aD := eq_true aD; replace aE := eq_true aE; go_wp2
        repeat (go_quiet (fail); try go_wp2)
        go_ret
        exact ⟨by first | rfl | (simp; done) | (simp [*]; done), by repeat (first | exact Drawn0.refl _ | apply Drawn0.step)⟩
      ·rw [if_neg c6] at H
       exact absurd H (by simp)
     ·rw [if_neg c5] at H
      exact absurd H (by simp)
    ·rw [if_neg c4] at H
     have c4b0 := decide_eq_false c4; clear c4; obtain rfl := sj H; go_wp2
     repeat (go_quiet (fail); try go_wp2)
     go_ret
     exact ⟨by first | rfl | (simp; done) | (simp [*]; done), by repeat (first | exact Drawn0.refl _ | apply Drawn0.step)⟩
 ·rw [if_neg c3] at H
  have c3b0 := beq_eq_false_iff_ne.mpr c3; have c3b1 := bne_iff_ne.mpr c3; have c3b2 : (l0.length == l1.length) = false := by first | simpa using c3 | (simp at c3 ⊢; omega)
  obtain rfl := sj H; go_enter Tryz.func114, Tryz.ntmps114
  go_wp2
  repeat (go_quiet (fail); try go_wp2)
  go_ret
  exact ⟨by first | rfl | (simp; done) | (simp [*]; done), by repeat (first | exact Drawn0.refl _ | apply Drawn0.step)⟩
def laws_eqWindow.f (k : Nat) (a0_0 : Int) (l0_1 : List Int) (a1_0 : Int) (l1_1 : List Int) : Option (Bool) := if a0_0 = a1_0 then ((laws_eqIntS.f k l0_1 l1_1).bind fun t103 => (if t103 = true then (some true) else (some false))) else (some false)
theorem laws_eqWindow.calls (k : Nat) (aH : Int) (aN : Option Addr) (aO : Nat) (aF : List Int) (aI : Int) (aP : Option Addr) (aQ : Nat) (aG : List Int) (r : Bool) (w : World) (aS : Kd.C (Kd.int .i64) w aN aF.length aF) (aT : aF.length ≤ aO) (aU : Kd.C (Kd.int .i64) w aP aG.length aG) (aV : aG.length ≤ aQ) (h : laws_eqWindow.f k aH aF aI aG = some r) :
  Calls Tryz.prog 94 #[.agg #[.int .i64 aH, .slice aN aF.length aO], .agg #[.int .i64 aI, .slice aP aG.length aQ]] w fun e w' => e = .returned (.bool r) ∧ Below w.heap.size w w' := by
 have cB := Tryz.underlying81; have aW := Aside0.mk aS; have aX := Aside0.mk aT; clear aS aT; have aY := Aside0.mk aU; have aZ := Aside0.mk aV; clear aU aV; have HB := am (Below.refl w.heap.size w); unfold laws_eqWindow.f at h; have H := h; clear h; by_cases c3 : aH = aI
 ·rw [if_pos c3] at H
  have c3b0 := beq_iff_eq.mpr c3; have c3b1 := bne_eq_false_iff_eq.mpr c3; clear c3; obtain ⟨aR, A4, H⟩ := b1 H; by_cases c5 : aR = true
  ·subst c5
   replace H := pf H; obtain rfl := sj H; go_enter Tryz.func94, Tryz.ntmps94
   go_wp2_with (first | ((with_reducible refine gate_dst (N := 2) rfl ?_); refine bxe (KL HB) (cs := #[.int .i64 aH, .slice aN aF.length aO]) ?_; intro bA w6 aA aE HB hb hg; clear hb hg) | ((with_reducible refine gate_dst (N := 3) rfl ?_); refine box_event rfl (N := 3) rfl (cs := #[.int .i64 aI, .slice aP aG.length aQ]) (t := 81) BX ?_; intro bB hg w7 aD hb; have aK := am (aD); have aL := am (GH1 HB aE.out hg); have aM := aL; replace HB := bl (K1 HB aE.out) hb; have aB := am (NL aA hg); have aC := am (NG aA hg); replace aA := am (BB aA hb); clear hb aD hg; have cC := aB.out; have cD := aC.out; have ⟨_, _, _⟩ := y2 w7 aA.out; have ⟨_, _, _⟩ := y2 w7 aK.out) | (go_at_call 114; (with_reducible refine (laws_eqIntS.calls _ _ _ _ _ _ _ _ _ ?_ ?_ ?_ ?_ A4.out).mono ?_); exact KD aW HB; exact aX.out; exact KD aY HB; exact aZ.out; rintro e w' ⟨rfl, ⟨nd, rfl⟩⟩))
   go_ret
   exact ⟨ER, K2 HB aE.out aM.out⟩
  ·replace c5 := Bool.eq_false_iff.mpr c5
   subst c5; replace H := nf H; obtain rfl := sj H; go_enter Tryz.func94, Tryz.ntmps94
   go_wp2_with (first | ((with_reducible refine gate_dst (N := 2) rfl ?_); refine bxe (KL HB) (cs := #[.int .i64 aH, .slice aN aF.length aO]) ?_; intro bA cE aA aE HB hb hg; clear hb hg) | ((with_reducible refine gate_dst (N := 3) rfl ?_); refine box_event rfl (N := 3) rfl (cs := #[.int .i64 aI, .slice aP aG.length aQ]) (t := 81) BX ?_; intro bB hg bV aD hb; have aK := am (aD); have aL := am (GH1 HB aE.out hg); have aM := aL; replace HB := bl (K1 HB aE.out) hb; have aB := am (NL aA hg); have aC := am (NG aA hg); replace aA := am (BB aA hb); clear hb aD hg; have bW := aB.out; have bX := aC.out; have ⟨_, _, _⟩ := y2 bV aA.out; have ⟨_, _, _⟩ := y2 bV aK.out) | (go_at_call 114; (with_reducible refine (laws_eqIntS.calls _ _ _ _ _ _ _ _ _ ?_ ?_ ?_ ?_ A4.out).mono ?_); exact KD aW HB; exact aX.out; exact KD aY HB; exact aZ.out; rintro e w' ⟨rfl, ⟨nd, rfl⟩⟩))
   go_ret
   exact ⟨ER, K2 HB aE.out aM.out⟩
 ·rw [if_neg c3] at H
  have c3b0 := beq_eq_false_iff_ne.mpr c3; have c3b1 := bne_iff_ne.mpr c3; obtain rfl := sj H; go_enter Tryz.func94, Tryz.ntmps94
  go_wp2_with (first | ((with_reducible refine gate_dst (N := 2) rfl ?_); refine bxe (KL HB) (cs := #[.int .i64 aH, .slice aN aF.length aO]) ?_; intro bA cF aA aE HB hb hg; clear hb hg) | ((with_reducible refine gate_dst (N := 3) rfl ?_); refine box_event rfl (N := 3) rfl (cs := #[.int .i64 aI, .slice aP aG.length aQ]) (t := 81) BX ?_; intro bB hg bY aD hb; have aK := am (aD); have aL := am (GH1 HB aE.out hg); have aM := aL; replace HB := bl (K1 HB aE.out) hb; have aB := am (NL aA hg); have aC := am (NG aA hg); replace aA := am (BB aA hb); clear hb aD hg; have bZ := aB.out; have cA := aC.out; have ⟨_, _, _⟩ := y2 bY aA.out; have ⟨_, _, _⟩ := y2 bY aK.out))
  go_ret
  exact ⟨ER, K2 HB aE.out aM.out⟩
end Go.Proofs.YtaehmhbpdpdefaaGreat.PAll
end
