/- Contracts of the functions that the statement reaches. -/
import Derived.Test.YtohegganioifbaaGreatCFnExactWorldOk3
import Derived.Test.YtohegganioifbaaGreatCFnExactWorldOk4
import Derived.Test.YtohegganioifbaaGreatCFnExactWorldOk5
set_option maxHeartbeats 8000000
set_option maxRecDepth 100000
section
namespace Go.Proofs.YtohegganioifbaaGreat.PAll
open Go.RowKit Go.Proofs.YtohegganioifbaaGreatW.PrintWords Go.Proofs.YtohegganioifbaaGreatW.PrintLast Go.Proofs.YtohegganioifbaaGreatW.PrintMore
attribute [local go_sem] max2_int min2_int max_two min_two max_three min_three max_four min_four
set_option linter.unusedVariables false
set_option linter.unusedSimpArgs false
mutual
def spec_GateOk.j0 : Nat → Bool → Int → List (S115) → Int → List (S108) → List (S80) → List (S80) → Option (Bool)
 | 0, _, _, _, _, _, _, _ => none
 | k + 1, x34, x102000, x102001, x102002, x102003, x102004, x102005 => if x34 = true then (some false) else (spec_GateOk.l0 k 0 x102000 x102001 x102002 x102003 x102004 x102005)
def spec_GateOk.l0 : Nat → Int → Int → List (S115) → Int → List (S108) → List (S80) → List (S80) → Option (Bool)
 | 0, _, _, _, _, _, _, _ => none
 | k + 1, x3, x102000, x102001, x102002, x102003, x102004, x102005 => if x3 < (x102004.length : Int) then (if 0 ≤ x3 then ((spec_SaOk.f k ((rd_T80 x102004 x3).f0) ((rd_T80 x102004 x3).f1) ((rd_T80 x102004 x3).f2) ((rd_T80 x102004 x3).f3) ((rd_T80 x102004 x3).f4) ((rd_T80 x102004 x3).f5) ((rd_T80 x102004 x3).f6) ((rd_T80 x102004 x3).f7) ((rd_T80 x102004 x3).f8) ((rd_T80 x102004 x3).f9.f0) ((rd_T80 x102004 x3).f9.f1)).bind fun t105 => (if t105 = true then (if ((rd_T80 x102004 x3).f4) > x102000 then (spec_GateOk.j2 k x3 true x102000 x102001 x102002 x102003 x102004 x102005) else (if x3 > 0 then (if 0 ≤ (wrap64 (x3 - 1)) then (if (wrap64 (x3 - 1)) < (x102004.length : Int) then (spec_GateOk.j2 k x3 (decide (((rd_T80 x102004 (wrap64 (x3 - 1))).f1) ≥ ((rd_T80 x102004 x3).f1))) x102000 x102001 x102002 x102003 x102004 x102005) else (none)) else (none)) else (spec_GateOk.j2 k x3 false x102000 x102001 x102002 x102003 x102004 x102005))) else (spec_GateOk.j2 k x3 true x102000 x102001 x102002 x102003 x102004 x102005))) else (none)) else (spec_GateOk.l1 k 0 x102000 x102001 x102002 x102003 x102004 x102005)
def spec_GateOk.j2 : Nat → Int → Bool → Int → List (S115) → Int → List (S108) → List (S80) → List (S80) → Option (Bool)
 | 0, _, _, _, _, _, _, _, _ => none
 | k + 1, x3, x79, x102000, x102001, x102002, x102003, x102004, x102005 => if x79 = true then (some false) else (spec_GateOk.l0 k (wrap64 (x3 + 1)) x102000 x102001 x102002 x102003 x102004 x102005)
def spec_GateOk.l1 : Nat → Int → Int → List (S115) → Int → List (S108) → List (S80) → List (S80) → Option (Bool)
 | 0, _, _, _, _, _, _, _ => none
 | k + 1, x4, x102000, x102001, x102002, x102003, x102004, x102005 => if x4 < (x102005.length : Int) then (if 0 ≤ x4 then ((spec_SaOk.f k ((rd_T80 x102005 x4).f0) ((rd_T80 x102005 x4).f1) ((rd_T80 x102005 x4).f2) ((rd_T80 x102005 x4).f3) ((rd_T80 x102005 x4).f4) ((rd_T80 x102005 x4).f5) ((rd_T80 x102005 x4).f6) ((rd_T80 x102005 x4).f7) ((rd_T80 x102005 x4).f8) ((rd_T80 x102005 x4).f9.f0) ((rd_T80 x102005 x4).f9.f1)).bind fun t110 => (if t110 = true then (if ((rd_T80 x102005 x4).f4) > x102000 then (spec_GateOk.j4 k x4 true x102000 x102001 x102002 x102003 x102004 x102005) else (if x4 > 0 then (if 0 ≤ (wrap64 (x4 - 1)) then (if (wrap64 (x4 - 1)) < (x102005.length : Int) then (spec_GateOk.j4 k x4 (decide (((rd_T80 x102005 (wrap64 (x4 - 1))).f0) ≥ ((rd_T80 x102005 x4).f0))) x102000 x102001 x102002 x102003 x102004 x102005) else (none)) else (none)) else (spec_GateOk.j4 k x4 false x102000 x102001 x102002 x102003 x102004 x102005))) else (spec_GateOk.j4 k x4 true x102000 x102001 x102002 x102003 x102004 x102005))) else (none)) else (some true)
def spec_GateOk.j4 : Nat → Int → Bool → Int → List (S115) → Int → List (S108) → List (S80) → List (S80) → Option (Bool)
 | 0, _, _, _, _, _, _, _, _ => none
 | k + 1, x4, x124, x102000, x102001, x102002, x102003, x102004, x102005 => if x124 = true then (some false) else (spec_GateOk.l1 k (wrap64 (x4 + 1)) x102000 x102001 x102002 x102003 x102004 x102005)
end
def spec_GateOk.f (k : Nat) (a0_0 : Int) (l0_1 : List (S115)) (a0_2 : Int) (l0_3 : List (S108)) (l0_4 : List (S80)) (l0_5 : List (S80)) : Option (Bool) := (spec_l1In.f a0_0 0 1000000).bind fun t102 => (if t102 = true then (if a0_2 = 4 then ((spec_CacheOk.f k l0_1 a0_2 l0_3).bind fun t103 => (if t103 = true then (if (l0_4.length : Int) > 4 then (spec_GateOk.j0 k true a0_0 l0_1 a0_2 l0_3 l0_4 l0_5) else (spec_GateOk.j0 k (decide ((l0_5.length : Int) > 6)) a0_0 l0_1 a0_2 l0_3 l0_4 l0_5)) else (spec_GateOk.j0 k true a0_0 l0_1 a0_2 l0_3 l0_4 l0_5))) else (spec_GateOk.j0 k true a0_0 l0_1 a0_2 l0_3 l0_4 l0_5)) else (spec_GateOk.j0 k true a0_0 l0_1 a0_2 l0_3 l0_4 l0_5))
def spec_GateOk.T6 : Bool × List (List Nat × List Nat) := (true, [([], []), ([0], [0]), ([], []), ([1, 2], [1, 2]), ([3], [3]), ([4], [4]), ([5], [5]), ([6, 5], [6]), ([7], [7]), ([8, 7], [7, 8]), ([7], [7]), ([9, 10, 7], [7, 9, 10]), ([11, 7], [7, 11]), ([12, 7], [7, 12]), ([7], [7]), ([14, 7], [7, 14]), ([13, 15, 7], [7, 13, 15]), ([7, 16], [7, 16]), ([17, 7], [17]), ([18], [18]), ([19, 18], [18, 19]), ([20, 18, 18], [18, 20]), ([21], [21]), ([22, 21], [21, 22]), ([21], [21]), ([24, 21], [21, 24]), ([23, 25, 21], [21, 23, 25]), ([26, 21], [21, 26]), ([27, 21], [21, 27]), ([21], [21]), ([29, 21], [21, 29]), ([21], [21]), ([30, 31, 21], [21, 30, 31]), ([32, 21], [21, 32]), ([33, 21], [21, 33]), ([28, 34, 21], [21, 28, 34]), ([21, 35, 18], [18, 21, 35]), ([18, 36], [18, 36])])
def spec_GateOk.B6 : List Nat := [0, 1, 0, 7, 15, 31, 63, 127, 255, 511, 255, 2047, 4095, 8191, 255, 16639, 65535, 131071, 262143, 524287, 1048575, 2097151, 4194303, 8388607, 4194303, 20971519, 67108863, 134217727, 268435455, 4194303, 541065215, 4194303, 3762290687, 8057257983, 16647192575, 34359738367, 68719476735, 137438953471]
theorem spec_GateOk.tab6 : rtab .any (opsOf Tryz.f12 6) = spec_GateOk.T6 := by kernel_rfl
theorem spec_GateOk.bits6 : waitsOk spec_GateOk.T6.2 spec_GateOk.B6 = true := by kernel_rfl
def spec_GateOk.T11 : Bool × List (List Nat × List Nat) := (true, [([], []), ([0], [0]), ([], []), ([1, 2], [1, 2]), ([3], [3]), ([4], [4]), ([5], [5]), ([6, 5], [6]), ([7], [7]), ([8, 7], [7, 8]), ([7], [7]), ([9, 10, 7], [7, 9, 10]), ([11, 7], [7, 11]), ([12, 7], [7, 12]), ([7], [7]), ([14, 7], [7, 14]), ([13, 15, 7], [7, 13, 15]), ([7, 16], [7, 16]), ([17, 7], [17]), ([18], [18]), ([19, 18], [18, 19]), ([20, 18, 18], [18, 20]), ([21], [21]), ([22, 21], [21, 22]), ([21], [21]), ([24, 21], [21, 24]), ([23, 25, 21], [21, 23, 25]), ([26, 21], [21, 26]), ([27, 21], [21, 27]), ([21], [21]), ([29, 21], [21, 29]), ([21], [21]), ([30, 31, 21], [21, 30, 31]), ([32, 21], [21, 32]), ([33, 21], [21, 33]), ([28, 34, 21], [21, 28, 34]), ([21, 35, 18], [18, 21, 35]), ([18, 36], [18, 36])])
def spec_GateOk.B11 : List Nat := [0, 1, 0, 7, 15, 31, 63, 127, 255, 511, 255, 2047, 4095, 8191, 255, 16639, 65535, 131071, 262143, 524287, 1048575, 2097151, 4194303, 8388607, 4194303, 20971519, 67108863, 134217727, 268435455, 4194303, 541065215, 4194303, 3762290687, 8057257983, 16647192575, 34359738367, 68719476735, 137438953471]
theorem spec_GateOk.tab11 : rtab .any (opsOf Tryz.f12 11) = spec_GateOk.T11 := by kernel_rfl
theorem spec_GateOk.bits11 : waitsOk spec_GateOk.T11.2 spec_GateOk.B11 = true := by kernel_rfl
theorem spec_GateOk.calls (k : Nat) (aK : Int) (fA : Option Addr) (fB : Nat) (aZ : List (S115)) (aN : Int) (fC : Option Addr) (fD : Nat) (bA : List (S108)) (fO : Option Addr) (fE : Nat) (aE : List (S80)) (fP : Option Addr) (fF : Nat) (aF : List (S80)) (r : Bool) (w : World) (mK : Kd.C k115 w fA aZ.length aZ) (mL : aZ.length ≤ fB) (mM : Kd.C k108 w fC bA.length bA) (mN : bA.length ≤ fD) (mO : Kd.C k80 w fO aE.length aE) (mP : aE.length ≤ fE) (mQ : Kd.C k80 w fP aF.length aF) (mR : aF.length ≤ fF) (h : spec_GateOk.f k aK aZ aN bA aE aF = some r) :
  Calls Tryz.prog 12 #[.agg #[.int .i64 aK, .slice fA aZ.length fB, .int .i64 aN, .slice fC bA.length fD, .slice fO aE.length fE, .slice fP aF.length fF]] w fun e w' => e = .returned (.bool r) ∧ Below w.heap.size w w' := by
 have pY := Tryz.underlying41
 have pZ := Tryz.underlying38
 have qA := Tryz.underlying80
 have lO := Aside0.mk mK
 have lP := Aside0.mk mL
 clear mK mL
 have lQ := Aside0.mk mM
 have lR := Aside0.mk mN
 clear mM mN
 have fI := Aside0.mk mO
 have pR := Aside0.mk mP
 clear mO mP
 have fJ := Aside0.mk mQ
 have pS := Aside0.mk mR
 clear mQ mR
 have HB := am (Below.refl w.heap.size w)
 have H : ((spec_l1In.f aK 0 1000000).bind fun lY => (if lY = true then (if aN = 4 then ((spec_CacheOk.f k aZ aN bA).bind fun lN => (if lN = true then (if (aE.length : Int) > 4 then (spec_GateOk.j0 k true aK aZ aN bA aE aF) else (spec_GateOk.j0 k (decide ((aF.length : Int) > 6)) aK aZ aN bA aE aF)) else (spec_GateOk.j0 k true aK aZ aN bA aE aF))) else (spec_GateOk.j0 k true aK aZ aN bA aE aF)) else (spec_GateOk.j0 k true aK aZ aN bA aE aF))) = some r := h
 clear h
 have pJ := Aside0.mk H
 clear H
 go_enter Tryz.func12, Tryz.ntmps12
 go_upto_region 1 with (first | ((with_reducible refine gate_dst (N := 1) rfl ?_); (try (refine gate_guard (by rfl) ?_; dsimp only)); refine box_event rfl (N := 1) rfl (cs := #[.int .i64 aK, .slice fA aZ.length fB, .int .i64 aN, .slice fC bA.length fD, .slice fO aE.length fE, .slice fP aF.length fF]) (t := 41) BX ?_; intro eP hg w3 nK hb; have aG := am (nK); have nL := am (GH HB hg); have aM := nL; replace HB := bl (KL HB) hb; clear hb nK hg))
 (try simp only [Act.put, List.setIfInBounds_toArray, List.set_cons_zero, List.set_cons_succ])
 go_cut [34] (fun qB wc => ∃ (kq : Nat) (iB : Bool), qB = .bool iB ∧ Aside0 (spec_GateOk.j0 kq iB aK aZ aN bA aE aF = some r) ∧ Aside0 (kq ≤ k) ∧ Aside0 (wc.heap[eP]? = some (.cells #[.int .i64 aK, (.slice fA aZ.length fB), .int .i64 aN, (.slice fC bA.length fD), (.slice fO aE.length fE), (.slice fP aF.length fF)] 41 (0, 0))) ∧ Aside0 (Below w.heap.size w wc))
 case first =>
  have H := pJ.out
  clear pJ
  replace H := bm H
  obtain ⟨lY, pT, H⟩ := H
  replace H : (if lY = true then (if aN = 4 then ((spec_CacheOk.f k aZ aN bA).bind fun lN => (if lN = true then (if (aE.length : Int) > 4 then (spec_GateOk.j0 k true aK aZ aN bA aE aF) else (spec_GateOk.j0 k (decide ((aF.length : Int) > 6)) aK aZ aN bA aE aF)) else (spec_GateOk.j0 k true aK aZ aN bA aE aF))) else (spec_GateOk.j0 k true aK aZ aN bA aE aF)) else (spec_GateOk.j0 k true aK aZ aN bA aE aF)) = some r := H
  have A4 := Aside0.mk pT
  clear pT
  by_cases c5 : lY = true
  ·subst c5
   have H1 := pf H
   clear H
   have H := H1
   clear H1
   by_cases c6 : aN = 4
   ·rw [if_pos c6] at H
    have c6b0 : (aN == 4) = true := beq_iff_eq.mpr c6
    have c6b1 : (aN != 4) = false := bne_eq_false_iff_eq.mpr c6
    clear c6
    (first | rw [c6b0] | (simp only [i64_w, i32_w]; rw [c6b0]) | skip)
    replace H := bm H
    obtain ⟨lN, pU, H⟩ := H
    replace H : (if lN = true then (if (aE.length : Int) > 4 then (spec_GateOk.j0 k true aK aZ aN bA aE aF) else (spec_GateOk.j0 k (decide ((aF.length : Int) > 6)) aK aZ aN bA aE aF)) else (spec_GateOk.j0 k true aK aZ aN bA aE aF)) = some r := H
    have A7 := Aside0.mk pU
    clear pU
    by_cases c8 : lN = true
    ·subst c8
     have H1 := pf H
     clear H
     have H := H1
     clear H1
     by_cases c9 : (aE.length : Int) > 4
     ·rw [if_pos c9] at H
      have c9b0 : decide (4 < (aE.length : Int)) = true := decide_eq_true c9
      have c9b1 : decide (4 < aE.length) = true := decide_eq_true (by omega)
      clear c9
      have H' := Aside0.mk H
      clear H
      obtain ⟨iC, iD, iE, iF, iG, iH, iI⟩ := y6 w3 aG.out
      go_wp2_with (first | ((with_reducible refine gate_callee (f := 27) rfl ?_); refine goesL_ (some 7) rfl rfl Tryz.func27 (by kernel_rfl) rfl #[.int .i64 aK, .int .i64 0, .int .i64 1000000] rfl MT ?_; (with_reducible refine (spec_l1In.calls aK 0 1000000 true _ A4.out).mono ?_); rintro e w' ⟨rfl, ⟨nd, rfl⟩⟩; refine ⟨_, rfl, ?_⟩) | (go_at_call 28; (with_reducible refine (spec_CacheOk.calls k _ _ aZ aN _ _ bA true _ ?_ ?_ ?_ ?_ A7.out).mono ?_); (repeat (first | exact (Kd.C_below lO.out (K1 HB aM.out)) | (with_reducible refine Kd.C_alloc ?_ _) | (with_reducible refine Kd.C_drewN ?_ _) | (with_reducible refine Kd.C_drew ?_))); exact lP.out; (repeat (first | exact (Kd.C_below lQ.out (K1 HB aM.out)) | (with_reducible refine Kd.C_alloc ?_ _) | (with_reducible refine Kd.C_drewN ?_ _) | (with_reducible refine Kd.C_drew ?_))); exact lR.out; rintro e qC ⟨rfl, hb⟩; replace aG := am (BB aG hb); replace HB := bl (K1 HB aM.out) hb; (try clear hb); obtain ⟨iJ, iK, iL, iM, iN, iO, iP⟩ := y6 qC aG.out))
      go_meet
      case rel => exact ⟨_, (true), (by first | rfl | (simp; done) | (simp [*]; done)), H', ⟨by first | omega | exact Nat.le_refl _⟩, ⟨KB aG⟩, ⟨K1 HB aM.out⟩⟩
     ·rw [if_neg c9] at H
      have c9b0 : decide (4 < (aE.length : Int)) = false := decide_eq_false c9
      have c9b1 : decide (4 < aE.length) = false := decide_eq_false (by omega)
      clear c9
      have H' := Aside0.mk H
      clear H
      obtain ⟨iQ, iR, iS, iT, iU, iV, iW⟩ := y6 w3 aG.out
      go_wp2_with (first | ((with_reducible refine gate_callee (f := 27) rfl ?_); refine goesL_ (some 7) rfl rfl Tryz.func27 (by kernel_rfl) rfl #[.int .i64 aK, .int .i64 0, .int .i64 1000000] rfl MT ?_; (with_reducible refine (spec_l1In.calls aK 0 1000000 true _ A4.out).mono ?_); rintro e w' ⟨rfl, ⟨nd, rfl⟩⟩; refine ⟨_, rfl, ?_⟩) | (go_at_call 28; (with_reducible refine (spec_CacheOk.calls k _ _ aZ aN _ _ bA true _ ?_ ?_ ?_ ?_ A7.out).mono ?_); (repeat (first | exact (Kd.C_below lO.out (K1 HB aM.out)) | (with_reducible refine Kd.C_alloc ?_ _) | (with_reducible refine Kd.C_drewN ?_ _) | (with_reducible refine Kd.C_drew ?_))); exact lP.out; (repeat (first | exact (Kd.C_below lQ.out (K1 HB aM.out)) | (with_reducible refine Kd.C_alloc ?_ _) | (with_reducible refine Kd.C_drewN ?_ _) | (with_reducible refine Kd.C_drew ?_))); exact lR.out; rintro e qD ⟨rfl, hb⟩; replace aG := am (BB aG hb); replace HB := bl (K1 HB aM.out) hb; (try clear hb); obtain ⟨iX, iY, iZ, jA, jB, jC, jD⟩ := y6 qD aG.out))
      go_meet
      case rel => exact ⟨_, (decide ((aF.length : Int) > 6)), (by first | rfl | (simp; done) | (simp [*]; done)), H', ⟨by first | omega | exact Nat.le_refl _⟩, ⟨KB aG⟩, ⟨K1 HB aM.out⟩⟩
    ·replace c8 := Bool.eq_false_iff.mpr c8
     subst c8
     have H1 := nf H
     clear H
     have H := H1
     clear H1
     have H' := Aside0.mk H
     clear H
     obtain ⟨jE, jF, jG, jH, jI, jJ, jK⟩ := y6 w3 aG.out
     go_wp2_with (first | ((with_reducible refine gate_callee (f := 27) rfl ?_); refine goesL_ (some 7) rfl rfl Tryz.func27 (by kernel_rfl) rfl #[.int .i64 aK, .int .i64 0, .int .i64 1000000] rfl MT ?_; (with_reducible refine (spec_l1In.calls aK 0 1000000 true _ A4.out).mono ?_); rintro e w' ⟨rfl, ⟨nd, rfl⟩⟩; refine ⟨_, rfl, ?_⟩) | (go_at_call 28; (with_reducible refine (spec_CacheOk.calls k _ _ aZ aN _ _ bA false _ ?_ ?_ ?_ ?_ A7.out).mono ?_); (repeat (first | exact (Kd.C_below lO.out (K1 HB aM.out)) | (with_reducible refine Kd.C_alloc ?_ _) | (with_reducible refine Kd.C_drewN ?_ _) | (with_reducible refine Kd.C_drew ?_))); exact lP.out; (repeat (first | exact (Kd.C_below lQ.out (K1 HB aM.out)) | (with_reducible refine Kd.C_alloc ?_ _) | (with_reducible refine Kd.C_drewN ?_ _) | (with_reducible refine Kd.C_drew ?_))); exact lR.out; rintro e qH ⟨rfl, hb⟩; replace aG := am (BB aG hb); replace HB := bl (K1 HB aM.out) hb; (try clear hb)))
     go_meet
     case rel => exact ⟨_, (true), (by first | rfl | (simp; done) | (simp [*]; done)), H', ⟨by first | omega | exact Nat.le_refl _⟩, ⟨KB aG⟩, ⟨K1 HB aM.out⟩⟩
   ·rw [if_neg c6] at H
    have c6b0 : (aN == 4) = false := beq_eq_false_iff_ne.mpr c6
    have c6b1 : (aN != 4) = true := bne_iff_ne.mpr c6
    (first | rw [c6b0] | (simp only [i64_w, i32_w]; rw [c6b0]) | skip)
    have H' := Aside0.mk H
    clear H
    obtain ⟨jL, jM, jN, jO, jP, jQ, jR⟩ := y6 w3 aG.out
    go_wp2_with (first | ((with_reducible refine gate_callee (f := 27) rfl ?_); refine goesL_ (some 7) rfl rfl Tryz.func27 (by kernel_rfl) rfl #[.int .i64 aK, .int .i64 0, .int .i64 1000000] rfl MT ?_; (with_reducible refine (spec_l1In.calls aK 0 1000000 true _ A4.out).mono ?_); rintro e w' ⟨rfl, ⟨nd, rfl⟩⟩; refine ⟨_, rfl, ?_⟩))
    go_meet
    case rel => exact ⟨_, (true), (by first | rfl | (simp; done) | (simp [*]; done)), H', ⟨by first | omega | exact Nat.le_refl _⟩, ⟨KB aG⟩, ⟨K1 HB aM.out⟩⟩
  ·replace c5 := Bool.eq_false_iff.mpr c5
   subst c5
   have H1 := nf H
   clear H
   have H := H1
   clear H1
   have H' := Aside0.mk H
   clear H
   obtain ⟨jS, jT, jU, jV, jW, jX, jY⟩ := y6 w3 aG.out
   go_wp2_with (first | ((with_reducible refine gate_callee (f := 27) rfl ?_); refine goesL_ (some 7) rfl rfl Tryz.func27 (by kernel_rfl) rfl #[.int .i64 aK, .int .i64 0, .int .i64 1000000] rfl MT ?_; (with_reducible refine (spec_l1In.calls aK 0 1000000 false _ A4.out).mono ?_); rintro e w' ⟨rfl, ⟨nd, rfl⟩⟩; refine ⟨_, rfl, ?_⟩))
   go_meet
   case rel => exact ⟨_, (true), (by first | rfl | (simp; done) | (simp [*]; done)), H', ⟨by first | omega | exact Nat.le_refl _⟩, ⟨KB aG⟩, ⟨K1 HB aM.out⟩⟩
 case rest =>
  clear pJ
  try clear c1
  try clear c2
  try clear p2
  try clear c5
  try clear c6
  try clear c6b0
  try clear c6b1
  try clear c8
  try clear c9
  try clear c9b0
  try clear c9b1
  try clear qE
  try clear iC iD iE iF iG iH iI
  try clear iJ iK iL iM iN iO iP
  try clear iQ iR iS iT iU iV iW
  try clear iX iY iZ jA jB jC jD
  try clear jE jF jG jH jI jJ jK
  try clear jL jM jN jO jP jQ jR
  try clear jS jT jU jV jW jX jY
  obtain ⟨kq, iB, rfl, HA, HJ1, aG, HB⟩ := hcut
  cases kq with
  | zero => exact absurd HA.out (by simp [spec_GateOk.j0])
  | succ kj1 =>
   have H := HA.out
   clear HA
   simp only [spec_GateOk.j0] at H
   by_cases nM : iB = true
   ·subst nM
    have H1 := pf H
    clear H
    have H := H1
    clear H1
    obtain rfl := sj H
    go_wp2
    go_ret
    exact ⟨ER, K1 HB aM.out⟩
   ·replace nM := Bool.eq_false_iff.mpr nM
    subst nM
    have H1 := nf H
    clear H
    have H := H1
    clear H1
    have H' := Aside0.mk H
    clear H
    go_wp2
    go_loopg [3] kj1 (fun kq v3 w' => ∃ (aA : Int), v3 = .int .i64 aA ∧ Aside0 (spec_GateOk.l0 kq aA aK aZ aN bA aE aF = some r) ∧ Aside0 (kq ≤ kj1) ∧ Aside0 (w'.heap[eP]? = some (.cells #[.int .i64 aK, (.slice fA aZ.length fB), .int .i64 aN, (.slice fC bA.length fD), (.slice fO aE.length fE), (.slice fP aF.length fF)] 41 (0, 0))) ∧ Aside0 (Below w.heap.size w w'))
    case atStart => exact ⟨(0), (by first | rfl | (simp; done) | (simp [*]; done)), H', ⟨Nat.le_refl _⟩, ⟨KB aG⟩, ⟨K1 HB aM.out⟩⟩
    case round =>
     clear H'
     try clear c1
     try clear c2
     try clear p2
     try clear c5
     try clear c6
     try clear c6b0
     try clear c6b1
     try clear c8
     try clear c9
     try clear c9b0
     try clear c9b1
     try clear qE
     try clear nM
     try clear iC iD iE iF iG iH iI
     try clear iJ iK iL iM iN iO iP
     try clear iQ iR iS iT iU iV iW
     try clear iX iY iZ jA jB jC jD
     try clear jE jF jG jH jI jJ jK
     try clear jL jM jN jO jP jQ jR
     try clear jS jT jU jV jW jX jY
     try clear p2
     obtain ⟨aA, rfl, HA, HK2, aG, HB⟩ := hrel
     cases gk with
     | zero => exact absurd HA.out (by simp [spec_GateOk.l0])
     | succ k2 =>
      have H := HA.out
      clear HA
      simp only [spec_GateOk.l0] at H
      by_cases mS : aA < (aE.length : Int)
      ·rw [if_pos mS] at H
       have c21b0 : decide (aA < (aE.length : Int)) = true := decide_eq_true mS
       clear mS
       have mT := Aside0.mk H
       clear H
       have ⟨_, _, _, _, _, _, _⟩ := y6 wr aG.out
       go_upto_region 6 with (fail)
       go_cut [79] (fun qF wc => ∃ (kq : Nat) (hH : Bool), qF = .bool hH ∧ Aside0 (spec_GateOk.j2 kq aA hH aK aZ aN bA aE aF = some r) ∧ Aside0 (kq ≤ k2) ∧ Aside0 (wc.heap[eP]? = some (.cells #[.int .i64 aK, (.slice fA aZ.length fB), .int .i64 aN, (.slice fC bA.length fD), (.slice fO aE.length fE), (.slice fP aF.length fF)] 41 (0, 0))) ∧ Aside0 (Below w.heap.size w wc))
       case first =>
        have H := mT.out
        clear mT
        by_cases nD : 0 ≤ aA
        ·rw [if_pos nD] at H
         have c24b0 : decide (0 ≤ aA) = true := decide_eq_true nD
         clear nD
         (first | rw [c24b0] | (simp only [i64_w, i32_w]; rw [c24b0]) | skip)
         replace H := bm H
         obtain ⟨nN, nO, H⟩ := H
         replace H : (if nN = true then (if ((rd_T80 aE aA).f4) > aK then (spec_GateOk.j2 k2 aA true aK aZ aN bA aE aF) else (if aA > 0 then (if 0 ≤ (wrap64 (aA - 1)) then (if (wrap64 (aA - 1)) < (aE.length : Int) then (spec_GateOk.j2 k2 aA (decide (((rd_T80 aE (wrap64 (aA - 1))).f1) ≥ ((rd_T80 aE aA).f1))) aK aZ aN bA aE aF) else (none)) else (none)) else (spec_GateOk.j2 k2 aA false aK aZ aN bA aE aF))) else (spec_GateOk.j2 k2 aA true aK aZ aN bA aE aF)) = some r := H
         have nP := Aside0.mk nO
         clear nO
         by_cases nE : nN = true
         ·subst nE
          have H1 := pf H
          clear H
          have H := H1
          clear H1
          by_cases nF : ((rd_T80 aE aA).f4) > aK
          ·rw [if_pos nF] at H
           have c27b0 : decide (aK < ((rd_T80 aE aA).f4)) = true := decide_eq_true nF
           clear nF
           have H' := Aside0.mk H
           clear H
           try go_wp2
           replace aG := am (blk_drew aG.out)
           replace HB := am (below_drew1 HB.out)
           have eQ : 0 ≤ (aA : Int) := OD
           have eR : aA < (aE.length : Int) := OD
           obtain ⟨aC, cO, cP, hZ, aO, aP, aQ, aR, aS, aT, aU, aV, aW, aX, aJ, cG, cH⟩ := at_T80 fI.out aA eQ eR
           have cI := aJ
           have cQ := aX
           have cR := aW
           have cS := aV
           have cT := aU
           have cU := aT
           have cV := aS
           have cW := aR
           have cX := aQ
           have cY := aP
           have cZ := aO
           cases hZ
           replace aO := CX HB.out aO
           replace aP := CX HB.out aP
           replace aQ := CX HB.out aQ
           replace aR := CX HB.out aR
           replace aS := CX HB.out aS
           replace aT := CX HB.out aT
           replace aU := CX HB.out aU
           replace aV := CX HB.out aV
           replace aW := CX HB.out aW
           replace aX := CX HB.out aX
           replace aJ := CX HB.out aJ
           have cJ := Aside0.mk cH
           have dT := Aside0.mk cG
           clear cH cG
           replace eQ := eq_true eQ
           replace eR := eq_true eR
           have fM : 0 ≤ (aA : Int) := OD
           have fN : aA < (aE.length : Int) := OD
           obtain ⟨hI, eW, eX, lS, bM, bN, bO, bP, bQ, bR, bS, bT, bU, bV, aY, dM, dN⟩ := at_T80 fI.out aA fM fN
           have dO := aY
           have dV := bV
           have dW := bU
           have dX := bT
           have dY := bS
           have dZ := bR
           have eA := bQ
           have eB := bP
           have eC := bO
           have eD := bN
           have eE := bM
           obtain rfl : aC = hI := (by injection lS)
           replace bM := CX HB.out bM
           replace bN := CX HB.out bN
           replace bO := CX HB.out bO
           replace bP := CX HB.out bP
           replace bQ := CX HB.out bQ
           replace bR := CX HB.out bR
           replace bS := CX HB.out bS
           replace bT := CX HB.out bT
           replace bU := CX HB.out bU
           replace bV := CX HB.out bV
           replace aY := CX HB.out aY
           have eS := Aside0.mk dN
           have hJ := Aside0.mk dM
           clear dN dM
           replace fM := eq_true fM
           replace fN := eq_true fN
           refine start_ (n := 38) (S := fun w' => ce6 w' eP (.int .i64 aK) (.slice fA aZ.length fB) (.int .i64 aN) (.slice fC bA.length fD) (.slice (some aC) aE.length fE) (.slice fP aF.length fF) (w'.cell? (aC.add ((aA).toNat * 11)) = some (.int .i64 ((rd_T80 aE aA).f0)) ∧ w'.cell? ⟨(aC.add ((aA).toNat * 11)).block, (aC.add ((aA).toNat * 11)).off + 1, none⟩ = some (.int .i64 ((rd_T80 aE aA).f1)) ∧ w'.cell? ⟨(aC.add ((aA).toNat * 11)).block, (aC.add ((aA).toNat * 11)).off + 2, none⟩ = some (.string ((rd_T80 aE aA).f2)) ∧ w'.cell? ⟨(aC.add ((aA).toNat * 11)).block, (aC.add ((aA).toNat * 11)).off + 3, none⟩ = some (.string ((rd_T80 aE aA).f3)) ∧ w'.cell? ⟨(aC.add ((aA).toNat * 11)).block, (aC.add ((aA).toNat * 11)).off + 4, none⟩ = some (.int .i64 ((rd_T80 aE aA).f4)) ∧ w'.cell? ⟨(aC.add ((aA).toNat * 11)).block, (aC.add ((aA).toNat * 11)).off + 5, none⟩ = some (.int .i64 ((rd_T80 aE aA).f5)) ∧ w'.cell? ⟨(aC.add ((aA).toNat * 11)).block, (aC.add ((aA).toNat * 11)).off + 6, none⟩ = some (.int .i64 ((rd_T80 aE aA).f6)) ∧ w'.cell? ⟨(aC.add ((aA).toNat * 11)).block, (aC.add ((aA).toNat * 11)).off + 7, none⟩ = some (.int .i64 ((rd_T80 aE aA).f7)) ∧ w'.cell? ⟨(aC.add ((aA).toNat * 11)).block, (aC.add ((aA).toNat * 11)).off + 8, none⟩ = some (.int .i64 ((rd_T80 aE aA).f8)) ∧ w'.cell? ⟨(aC.add ((aA).toNat * 11)).block, (aC.add ((aA).toNat * 11)).off + 9, none⟩ = some (.int .i64 ((rd_T80 aE aA).f9.f0)) ∧ w'.cell? ⟨(aC.add ((aA).toNat * 11)).block, (aC.add ((aA).toNat * 11)).off + 10, none⟩ = some (.slice cO ((rd_T80 aE aA).f9.f1).length cP) ∧ w'.cell? (aC.add ((aA).toNat * 11)) = some (.int .i64 ((rd_T80 aE aA).f0)) ∧ w'.cell? ⟨(aC.add ((aA).toNat * 11)).block, (aC.add ((aA).toNat * 11)).off + 1, none⟩ = some (.int .i64 ((rd_T80 aE aA).f1)) ∧ w'.cell? ⟨(aC.add ((aA).toNat * 11)).block, (aC.add ((aA).toNat * 11)).off + 2, none⟩ = some (.string ((rd_T80 aE aA).f2)) ∧ w'.cell? ⟨(aC.add ((aA).toNat * 11)).block, (aC.add ((aA).toNat * 11)).off + 3, none⟩ = some (.string ((rd_T80 aE aA).f3)) ∧ w'.cell? ⟨(aC.add ((aA).toNat * 11)).block, (aC.add ((aA).toNat * 11)).off + 4, none⟩ = some (.int .i64 ((rd_T80 aE aA).f4)) ∧ w'.cell? ⟨(aC.add ((aA).toNat * 11)).block, (aC.add ((aA).toNat * 11)).off + 5, none⟩ = some (.int .i64 ((rd_T80 aE aA).f5)) ∧ w'.cell? ⟨(aC.add ((aA).toNat * 11)).block, (aC.add ((aA).toNat * 11)).off + 6, none⟩ = some (.int .i64 ((rd_T80 aE aA).f6)) ∧ w'.cell? ⟨(aC.add ((aA).toNat * 11)).block, (aC.add ((aA).toNat * 11)).off + 7, none⟩ = some (.int .i64 ((rd_T80 aE aA).f7)) ∧ w'.cell? ⟨(aC.add ((aA).toNat * 11)).block, (aC.add ((aA).toNat * 11)).off + 8, none⟩ = some (.int .i64 ((rd_T80 aE aA).f8)) ∧ w'.cell? ⟨(aC.add ((aA).toNat * 11)).block, (aC.add ((aA).toNat * 11)).off + 9, none⟩ = some (.int .i64 ((rd_T80 aE aA).f9.f0)) ∧ w'.cell? ⟨(aC.add ((aA).toNat * 11)).block, (aC.add ((aA).toNat * 11)).off + 10, none⟩ = some (.slice eW ((rd_T80 aE aA).f9.f1).length eX))) (ds := []) (tf 0 38) (by kernel_rfl) rfl rfl ⟨z0 _ aG.out, z1 _ aG.out, z2 _ aG.out, z3 _ aG.out, z4 _ aG.out, z5 _ aG.out, (CY HB.out cZ), (CY HB.out cY), (CY HB.out cX), (CY HB.out cW), (CY HB.out cV), (CY HB.out cU), (CY HB.out cT), (CY HB.out cS), (CY HB.out cR), (CY HB.out cQ), (CY HB.out cI), (CY HB.out eE), (CY HB.out eD), (CY HB.out eC), (CY HB.out eB), (CY HB.out eA), (CY HB.out dZ), (CY HB.out dY), (CY HB.out dX), (CY HB.out dW), (CY HB.out dV), (CY HB.out dO)⟩ (fun aI => ?_); refine with_tabW spec_GateOk.tab6 spec_GateOk.bits6 (fun aH dS => ?_)
           generalize wr.drew = qI at aG HB cJ eS aO aP aJ aQ aR aS aT aU aV aW aX bM bN aY bO bP bQ bR bS bT bU bV aI ⊢
           refine pv aH 0 42 (tf 1 37) ?_
           refine pv aH 2 44 (tr [1, 1, 1, 35]) ?_
           refine tk 1 (some 43) (tf 3 35) (take_ofW aH.out dS.out (by kernel_rfl)) aI ?_
           refine pv aH 3 45 (tf 4 34) ?_
           refine tk 4 (some 46) (tf 5 33) (take_ofW aH.out dS.out (by kernel_rfl)) aI ?_
           refine one_ (i := 5) (N := some 47) (tf 6 32) rfl rfl (one_of aH.out (by kernel_rfl)) (by decide) (fun K hK => ?_)
           refine goes_ Tryz.func29 (by kernel_rfl) rfl #[.agg #[.int .i64 ((rd_T80 aE aA).f0), .int .i64 ((rd_T80 aE aA).f1), .string ((rd_T80 aE aA).f2), .string ((rd_T80 aE aA).f3), .int .i64 ((rd_T80 aE aA).f4), .int .i64 ((rd_T80 aE aA).f5), .int .i64 ((rd_T80 aE aA).f6), .int .i64 ((rd_T80 aE aA).f7), .int .i64 ((rd_T80 aE aA).f8), .int .i64 ((rd_T80 aE aA).f9.f0), .slice cO ((rd_T80 aE aA).f9.f1).length cP]] (by rfl) rfl rfl MT ?_
           with_reducible refine (spec_SaOk.calls k2 ((rd_T80 aE aA).f0) ((rd_T80 aE aA).f1) ((rd_T80 aE aA).f2) ((rd_T80 aE aA).f3) ((rd_T80 aE aA).f4) ((rd_T80 aE aA).f5) ((rd_T80 aE aA).f6) ((rd_T80 aE aA).f7) ((rd_T80 aE aA).f8) ((rd_T80 aE aA).f9.f0) _ _ ((rd_T80 aE aA).f9.f1) true _ ?_ ?_ nP.out).mono ?_
           exact KD cJ HB
           exact dT.out
           rintro e qJ ⟨rfl, hb⟩
           refine ⟨_, rfl, ?_⟩
           replace aG := am (BB aG hb)
           replace HB := bl (K1 HB aM.out) hb
           (try clear hb)
           (try clear hb2)
           (try clear hk)
           (try clear hi)
           refine hK.out _ _ ⟨z0 _ aG.out, z1 _ aG.out, z2 _ aG.out, z3 _ aG.out, z4 _ aG.out, z5 _ aG.out, (CY HB.out cZ), (CY HB.out cY), (CY HB.out cX), (CY HB.out cW), (CY HB.out cV), (CY HB.out cU), (CY HB.out cT), (CY HB.out cS), (CY HB.out cR), (CY HB.out cQ), (CY HB.out cI), (CY HB.out eE), (CY HB.out eD), (CY HB.out eC), (CY HB.out eB), (CY HB.out eA), (CY HB.out dZ), (CY HB.out dY), (CY HB.out dX), (CY HB.out dW), (CY HB.out dV), (CY HB.out dO)⟩ (fun aI => ?_)
           clear hK K
           refine nm (some 47) ?_
           refine pv aH 6 48 (tf 7 31) ?_
           refine pv aH 7 49 (tf 8 30) ?_
           refine pv aH 8 50 (tf 9 29) ?_
           refine pv aH 10 52 (tr [9, 1, 1, 27]) ?_
           refine pv aH 14 56 (tr [9, 1, 1, 3, 1, 23]) ?_
           refine tk 9 (some 51) (tr [11, 3, 1, 23]) (take_ofW aH.out dS.out (by kernel_rfl)) aI ?_
           refine pv aH 11 53 (tr [12, 2, 1, 23]) ?_
           refine pv aH 12 54 (tr [13, 1, 1, 23]) ?_
           refine tk 13 (some 55) (tf 15 23) (take_ofW aH.out dS.out (by kernel_rfl)) aI ?_
           refine tk 15 (some 57) (tf 16 22) (take_ofW aH.out dS.out (by kernel_rfl)) aI ?_
           refine pv aH 16 58 (tf 17 21) ?_
           refine pv aH 17 59 (tf 18 20) ?_
           refine pv aH 18 60 (tf 19 19) ?_
           refine pw aH 19 61 (tf 20 18) ?_
           refine pw aH 20 62 (tf 21 17) ?_
           refine pw aH 21 63 (tf 22 16) ?_
           refine pw aH 22 64 (tf 23 15) ?_
           refine pw aH 23 65 (tf 24 14) ?_
           refine pw aH 24 66 (tf 25 13) ?_
           refine pw aH 25 67 (tf 26 12) ?_
           refine pw aH 26 68 (tf 27 11) ?_
           refine pw aH 27 69 (tf 28 10) ?_
           refine pw aH 28 70 (tf 29 9) ?_
           refine pw aH 29 71 (tf 30 8) ?_
           refine pw aH 30 72 (tf 31 7) ?_
           refine pw aH 31 73 (tf 32 6) ?_
           refine pw aH 32 74 (tf 33 5) ?_
           refine pw aH 33 75 (tf 34 4) ?_
           refine pw aH 34 76 (tf 35 3) ?_
           refine pw aH 35 77 (tf 36 2) ?_
           refine pw aH 36 78 (tf 37 1) ?_
           refine pv aH 37 79 (tf 38 0) ?_
           refine done_ (done_of aH.out (by kernel_rfl)) ?_
           try go_wp2
           go_meet
           case rel => exact ⟨_, (true), (by first | rfl | (simp; done) | (simp [*]; done)), H', ⟨by have := HJ1.out; have := HK2.out; first | omega | exact Nat.le_refl _⟩, ⟨KB aG⟩, ⟨K1 HB aM.out⟩⟩
          ·rw [if_neg nF] at H
           have c27b0 : decide (aK < ((rd_T80 aE aA).f4)) = false := decide_eq_false nF
           clear nF
           by_cases nG : aA > 0
           ·rw [if_pos nG] at H
            have c30b0 : decide (0 < aA) = true := decide_eq_true nG
            clear nG
            obtain ⟨ji31, hji31⟩ : ∃ j_ : Int, (wrap64 (aA - 1)) = j_ := ⟨_, rfl⟩
            replace H : (if 0 ≤ (ji31) then (if (ji31) < (aE.length : Int) then (spec_GateOk.j2 k2 aA (decide (((rd_T80 aE (ji31)).f1) ≥ ((rd_T80 aE aA).f1))) aK aZ aN bA aE aF) else (none)) else (none)) = some r := by first | (rw [hji31] at H; exact H) | (simp only [hji31] at H ⊢; exact H)
            (try rw [hji31] at nP)
            have hji31w : (IntKind.i64.wrap (aA - 1)) = ji31 := (i64_w _).trans hji31
            by_cases oM : 0 ≤ (ji31)
            ·rw [if_pos oM] at H
             have c32b0 : decide (0 ≤ (ji31)) = true := decide_eq_true oM
             clear oM
             by_cases oN : (ji31) < (aE.length : Int)
             ·rw [if_pos oN] at H
              have c33b0 : decide ((ji31) < (aE.length : Int)) = true := decide_eq_true oN
              clear oN
              have H' := Aside0.mk H
              clear H
              try go_wp2
              replace aG := am (blk_drew aG.out)
              replace HB := am (below_drew1 HB.out)
              have eQ : 0 ≤ (aA : Int) := OD
              have eR : aA < (aE.length : Int) := OD
              obtain ⟨aC, cO, cP, hZ, aO, aP, aQ, aR, aS, aT, aU, aV, aW, aX, aJ, cG, cH⟩ := at_T80 fI.out aA eQ eR
              have cI := aJ
              have cQ := aX
              have cR := aW
              have cS := aV
              have cT := aU
              have cU := aT
              have cV := aS
              have cW := aR
              have cX := aQ
              have cY := aP
              have cZ := aO
              cases hZ
              replace aO := CX HB.out aO
              replace aP := CX HB.out aP
              replace aQ := CX HB.out aQ
              replace aR := CX HB.out aR
              replace aS := CX HB.out aS
              replace aT := CX HB.out aT
              replace aU := CX HB.out aU
              replace aV := CX HB.out aV
              replace aW := CX HB.out aW
              replace aX := CX HB.out aX
              replace aJ := CX HB.out aJ
              have cJ := Aside0.mk cH
              have dT := Aside0.mk cG
              clear cH cG
              replace eQ := eq_true eQ
              replace eR := eq_true eR
              have fM : 0 ≤ (aA : Int) := OD
              have fN : aA < (aE.length : Int) := OD
              obtain ⟨hI, eW, eX, lS, bM, bN, bO, bP, bQ, bR, bS, bT, bU, bV, aY, dM, dN⟩ := at_T80 fI.out aA fM fN
              have dO := aY
              have dV := bV
              have dW := bU
              have dX := bT
              have dY := bS
              have dZ := bR
              have eA := bQ
              have eB := bP
              have eC := bO
              have eD := bN
              have eE := bM
              obtain rfl : aC = hI := (by injection lS)
              replace bM := CX HB.out bM
              replace bN := CX HB.out bN
              replace bO := CX HB.out bO
              replace bP := CX HB.out bP
              replace bQ := CX HB.out bQ
              replace bR := CX HB.out bR
              replace bS := CX HB.out bS
              replace bT := CX HB.out bT
              replace bU := CX HB.out bU
              replace bV := CX HB.out bV
              replace aY := CX HB.out aY
              have eS := Aside0.mk dN
              have hJ := Aside0.mk dM
              clear dN dM
              replace fM := eq_true fM
              replace fN := eq_true fN
              have mU : 0 ≤ ((ji31) : Int) := OD
              have mV : (ji31) < (aE.length : Int) := OD
              obtain ⟨nQ, lZ, mA, pK, fS, fT, fU, fV, fW, fX, fY, fZ, gA, gB, fK, hL, hM⟩ := at_T80 fI.out (ji31) mU mV
              have hN := fK
              have jZ := gB
              have kA := gA
              have kB := fZ
              have kC := fY
              have kD := fX
              have kE := fW
              have kF := fV
              have kG := fU
              have kH := fT
              have kI := fS
              obtain rfl : aC = nQ := (by injection pK)
              replace fS := CX HB.out fS
              replace fT := CX HB.out fT
              replace fU := CX HB.out fU
              replace fV := CX HB.out fV
              replace fW := CX HB.out fW
              replace fX := CX HB.out fX
              replace fY := CX HB.out fY
              replace fZ := CX HB.out fZ
              replace gA := CX HB.out gA
              replace gB := CX HB.out gB
              replace fK := CX HB.out fK
              have lT := Aside0.mk hM
              have nR := Aside0.mk hL
              clear hM hL
              replace mU := eq_true mU
              replace mV := eq_true mV
              have mW : 0 ≤ (aA : Int) := OD
              have mX : aA < (aE.length : Int) := OD
              obtain ⟨nS, _, _, pL, gC, gD, gE, gF, gG, gH, gI, gJ, gK, gL, eT, hO, hP⟩ := at_T80 fI.out aA mW mX
              have hQ := eT
              have kJ := gL
              have kK := gK
              have kL := gJ
              have kM := gI
              have kN := gH
              have kO := gG
              have kP := gF
              have kQ := gE
              have kR := gD
              have kS := gC
              obtain rfl : aC = nS := (by injection pL)
              replace gC := CX HB.out gC
              replace gD := CX HB.out gD
              replace gE := CX HB.out gE
              replace gF := CX HB.out gF
              replace gG := CX HB.out gG
              replace gH := CX HB.out gH
              replace gI := CX HB.out gI
              replace gJ := CX HB.out gJ
              replace gK := CX HB.out gK
              replace gL := CX HB.out gL
              replace eT := CX HB.out eT
              have lU := Aside0.mk hP
              have nT := Aside0.mk hO
              clear hP hO
              replace mW := eq_true mW
              replace mX := eq_true mX
              have ea_ := Option.some.inj (aY.symm.trans eT)
              injection ea_ with ea_ en_ ec_
              subst ea_
              subst ec_
              clear en_
              refine start_ (n := 38) (S := fun w' => ce6 w' eP (.int .i64 aK) (.slice fA aZ.length fB) (.int .i64 aN) (.slice fC bA.length fD) (.slice (some aC) aE.length fE) (.slice fP aF.length fF) (w'.cell? (aC.add ((aA).toNat * 11)) = some (.int .i64 ((rd_T80 aE aA).f0)) ∧ w'.cell? ⟨(aC.add ((aA).toNat * 11)).block, (aC.add ((aA).toNat * 11)).off + 1, none⟩ = some (.int .i64 ((rd_T80 aE aA).f1)) ∧ w'.cell? ⟨(aC.add ((aA).toNat * 11)).block, (aC.add ((aA).toNat * 11)).off + 2, none⟩ = some (.string ((rd_T80 aE aA).f2)) ∧ w'.cell? ⟨(aC.add ((aA).toNat * 11)).block, (aC.add ((aA).toNat * 11)).off + 3, none⟩ = some (.string ((rd_T80 aE aA).f3)) ∧ w'.cell? ⟨(aC.add ((aA).toNat * 11)).block, (aC.add ((aA).toNat * 11)).off + 4, none⟩ = some (.int .i64 ((rd_T80 aE aA).f4)) ∧ w'.cell? ⟨(aC.add ((aA).toNat * 11)).block, (aC.add ((aA).toNat * 11)).off + 5, none⟩ = some (.int .i64 ((rd_T80 aE aA).f5)) ∧ w'.cell? ⟨(aC.add ((aA).toNat * 11)).block, (aC.add ((aA).toNat * 11)).off + 6, none⟩ = some (.int .i64 ((rd_T80 aE aA).f6)) ∧ w'.cell? ⟨(aC.add ((aA).toNat * 11)).block, (aC.add ((aA).toNat * 11)).off + 7, none⟩ = some (.int .i64 ((rd_T80 aE aA).f7)) ∧ w'.cell? ⟨(aC.add ((aA).toNat * 11)).block, (aC.add ((aA).toNat * 11)).off + 8, none⟩ = some (.int .i64 ((rd_T80 aE aA).f8)) ∧ w'.cell? ⟨(aC.add ((aA).toNat * 11)).block, (aC.add ((aA).toNat * 11)).off + 9, none⟩ = some (.int .i64 ((rd_T80 aE aA).f9.f0)) ∧ w'.cell? ⟨(aC.add ((aA).toNat * 11)).block, (aC.add ((aA).toNat * 11)).off + 10, none⟩ = some (.slice cO ((rd_T80 aE aA).f9.f1).length cP) ∧ w'.cell? (aC.add ((aA).toNat * 11)) = some (.int .i64 ((rd_T80 aE aA).f0)) ∧ w'.cell? ⟨(aC.add ((aA).toNat * 11)).block, (aC.add ((aA).toNat * 11)).off + 1, none⟩ = some (.int .i64 ((rd_T80 aE aA).f1)) ∧ w'.cell? ⟨(aC.add ((aA).toNat * 11)).block, (aC.add ((aA).toNat * 11)).off + 2, none⟩ = some (.string ((rd_T80 aE aA).f2)) ∧ w'.cell? ⟨(aC.add ((aA).toNat * 11)).block, (aC.add ((aA).toNat * 11)).off + 3, none⟩ = some (.string ((rd_T80 aE aA).f3)) ∧ w'.cell? ⟨(aC.add ((aA).toNat * 11)).block, (aC.add ((aA).toNat * 11)).off + 4, none⟩ = some (.int .i64 ((rd_T80 aE aA).f4)) ∧ w'.cell? ⟨(aC.add ((aA).toNat * 11)).block, (aC.add ((aA).toNat * 11)).off + 5, none⟩ = some (.int .i64 ((rd_T80 aE aA).f5)) ∧ w'.cell? ⟨(aC.add ((aA).toNat * 11)).block, (aC.add ((aA).toNat * 11)).off + 6, none⟩ = some (.int .i64 ((rd_T80 aE aA).f6)) ∧ w'.cell? ⟨(aC.add ((aA).toNat * 11)).block, (aC.add ((aA).toNat * 11)).off + 7, none⟩ = some (.int .i64 ((rd_T80 aE aA).f7)) ∧ w'.cell? ⟨(aC.add ((aA).toNat * 11)).block, (aC.add ((aA).toNat * 11)).off + 8, none⟩ = some (.int .i64 ((rd_T80 aE aA).f8)) ∧ w'.cell? ⟨(aC.add ((aA).toNat * 11)).block, (aC.add ((aA).toNat * 11)).off + 9, none⟩ = some (.int .i64 ((rd_T80 aE aA).f9.f0)) ∧ w'.cell? ⟨(aC.add ((aA).toNat * 11)).block, (aC.add ((aA).toNat * 11)).off + 10, none⟩ = some (.slice eW ((rd_T80 aE aA).f9.f1).length eX) ∧ w'.cell? (aC.add (((ji31)).toNat * 11)) = some (.int .i64 ((rd_T80 aE (ji31)).f0)) ∧ w'.cell? ⟨(aC.add (((ji31)).toNat * 11)).block, (aC.add (((ji31)).toNat * 11)).off + 1, none⟩ = some (.int .i64 ((rd_T80 aE (ji31)).f1)) ∧ w'.cell? ⟨(aC.add (((ji31)).toNat * 11)).block, (aC.add (((ji31)).toNat * 11)).off + 2, none⟩ = some (.string ((rd_T80 aE (ji31)).f2)) ∧ w'.cell? ⟨(aC.add (((ji31)).toNat * 11)).block, (aC.add (((ji31)).toNat * 11)).off + 3, none⟩ = some (.string ((rd_T80 aE (ji31)).f3)) ∧ w'.cell? ⟨(aC.add (((ji31)).toNat * 11)).block, (aC.add (((ji31)).toNat * 11)).off + 4, none⟩ = some (.int .i64 ((rd_T80 aE (ji31)).f4)) ∧ w'.cell? ⟨(aC.add (((ji31)).toNat * 11)).block, (aC.add (((ji31)).toNat * 11)).off + 5, none⟩ = some (.int .i64 ((rd_T80 aE (ji31)).f5)) ∧ w'.cell? ⟨(aC.add (((ji31)).toNat * 11)).block, (aC.add (((ji31)).toNat * 11)).off + 6, none⟩ = some (.int .i64 ((rd_T80 aE (ji31)).f6)) ∧ w'.cell? ⟨(aC.add (((ji31)).toNat * 11)).block, (aC.add (((ji31)).toNat * 11)).off + 7, none⟩ = some (.int .i64 ((rd_T80 aE (ji31)).f7)) ∧ w'.cell? ⟨(aC.add (((ji31)).toNat * 11)).block, (aC.add (((ji31)).toNat * 11)).off + 8, none⟩ = some (.int .i64 ((rd_T80 aE (ji31)).f8)) ∧ w'.cell? ⟨(aC.add (((ji31)).toNat * 11)).block, (aC.add (((ji31)).toNat * 11)).off + 9, none⟩ = some (.int .i64 ((rd_T80 aE (ji31)).f9.f0)) ∧ w'.cell? ⟨(aC.add (((ji31)).toNat * 11)).block, (aC.add (((ji31)).toNat * 11)).off + 10, none⟩ = some (.slice lZ ((rd_T80 aE (ji31)).f9.f1).length mA) ∧ w'.cell? (aC.add ((aA).toNat * 11)) = some (.int .i64 ((rd_T80 aE aA).f0)) ∧ w'.cell? ⟨(aC.add ((aA).toNat * 11)).block, (aC.add ((aA).toNat * 11)).off + 1, none⟩ = some (.int .i64 ((rd_T80 aE aA).f1)) ∧ w'.cell? ⟨(aC.add ((aA).toNat * 11)).block, (aC.add ((aA).toNat * 11)).off + 2, none⟩ = some (.string ((rd_T80 aE aA).f2)) ∧ w'.cell? ⟨(aC.add ((aA).toNat * 11)).block, (aC.add ((aA).toNat * 11)).off + 3, none⟩ = some (.string ((rd_T80 aE aA).f3)) ∧ w'.cell? ⟨(aC.add ((aA).toNat * 11)).block, (aC.add ((aA).toNat * 11)).off + 4, none⟩ = some (.int .i64 ((rd_T80 aE aA).f4)) ∧ w'.cell? ⟨(aC.add ((aA).toNat * 11)).block, (aC.add ((aA).toNat * 11)).off + 5, none⟩ = some (.int .i64 ((rd_T80 aE aA).f5)) ∧ w'.cell? ⟨(aC.add ((aA).toNat * 11)).block, (aC.add ((aA).toNat * 11)).off + 6, none⟩ = some (.int .i64 ((rd_T80 aE aA).f6)) ∧ w'.cell? ⟨(aC.add ((aA).toNat * 11)).block, (aC.add ((aA).toNat * 11)).off + 7, none⟩ = some (.int .i64 ((rd_T80 aE aA).f7)) ∧ w'.cell? ⟨(aC.add ((aA).toNat * 11)).block, (aC.add ((aA).toNat * 11)).off + 8, none⟩ = some (.int .i64 ((rd_T80 aE aA).f8)) ∧ w'.cell? ⟨(aC.add ((aA).toNat * 11)).block, (aC.add ((aA).toNat * 11)).off + 9, none⟩ = some (.int .i64 ((rd_T80 aE aA).f9.f0)) ∧ w'.cell? ⟨(aC.add ((aA).toNat * 11)).block, (aC.add ((aA).toNat * 11)).off + 10, none⟩ = some (.slice eW ((rd_T80 aE aA).f9.f1).length eX))) (ds := []) (tf 0 38) (by kernel_rfl) rfl rfl ⟨z0 _ aG.out, z1 _ aG.out, z2 _ aG.out, z3 _ aG.out, z4 _ aG.out, z5 _ aG.out, (CY HB.out cZ), (CY HB.out cY), (CY HB.out cX), (CY HB.out cW), (CY HB.out cV), (CY HB.out cU), (CY HB.out cT), (CY HB.out cS), (CY HB.out cR), (CY HB.out cQ), (CY HB.out cI), (CY HB.out eE), (CY HB.out eD), (CY HB.out eC), (CY HB.out eB), (CY HB.out eA), (CY HB.out dZ), (CY HB.out dY), (CY HB.out dX), (CY HB.out dW), (CY HB.out dV), (CY HB.out dO), (CY HB.out kI), (CY HB.out kH), (CY HB.out kG), (CY HB.out kF), (CY HB.out kE), (CY HB.out kD), (CY HB.out kC), (CY HB.out kB), (CY HB.out kA), (CY HB.out jZ), (CY HB.out hN), (CY HB.out kS), (CY HB.out kR), (CY HB.out kQ), (CY HB.out kP), (CY HB.out kO), (CY HB.out kN), (CY HB.out kM), (CY HB.out kL), (CY HB.out kK), (CY HB.out kJ), (CY HB.out hQ)⟩ (fun aI => ?_); refine with_tabW spec_GateOk.tab6 spec_GateOk.bits6 (fun aH dS => ?_)
              generalize wr.drew = qK at aG HB cJ eS lT lU aO aP aJ aQ aR aS aT aU aV aW aX bM bN aY bO bP bQ bR bS bT bU bV fS fT fK fU fV fW fX fY fZ gA gB gC gD eT gE gF gG gH gI gJ gK gL aI ⊢
              refine pv aH 0 42 (tf 1 37) ?_
              refine pv aH 2 44 (tr [1, 1, 1, 35]) ?_
              refine tk 1 (some 43) (tf 3 35) (take_ofW aH.out dS.out (by kernel_rfl)) aI ?_
              refine pv aH 3 45 (tf 4 34) ?_
              refine tk 4 (some 46) (tf 5 33) (take_ofW aH.out dS.out (by kernel_rfl)) aI ?_
              refine one_ (i := 5) (N := some 47) (tf 6 32) rfl rfl (one_of aH.out (by kernel_rfl)) (by decide) (fun K hK => ?_)
              refine goes_ Tryz.func29 (by kernel_rfl) rfl #[.agg #[.int .i64 ((rd_T80 aE aA).f0), .int .i64 ((rd_T80 aE aA).f1), .string ((rd_T80 aE aA).f2), .string ((rd_T80 aE aA).f3), .int .i64 ((rd_T80 aE aA).f4), .int .i64 ((rd_T80 aE aA).f5), .int .i64 ((rd_T80 aE aA).f6), .int .i64 ((rd_T80 aE aA).f7), .int .i64 ((rd_T80 aE aA).f8), .int .i64 ((rd_T80 aE aA).f9.f0), .slice cO ((rd_T80 aE aA).f9.f1).length cP]] (by rfl) rfl rfl MT ?_
              with_reducible refine (spec_SaOk.calls k2 ((rd_T80 aE aA).f0) ((rd_T80 aE aA).f1) ((rd_T80 aE aA).f2) ((rd_T80 aE aA).f3) ((rd_T80 aE aA).f4) ((rd_T80 aE aA).f5) ((rd_T80 aE aA).f6) ((rd_T80 aE aA).f7) ((rd_T80 aE aA).f8) ((rd_T80 aE aA).f9.f0) _ _ ((rd_T80 aE aA).f9.f1) true _ ?_ ?_ nP.out).mono ?_
              exact KD cJ HB
              exact dT.out
              rintro e qL ⟨rfl, hb⟩
              refine ⟨_, rfl, ?_⟩
              replace aG := am (BB aG hb)
              replace HB := bl (K1 HB aM.out) hb
              (try clear hb)
              (try clear hb2)
              (try clear hk)
              (try clear hi)
              refine hK.out _ _ ⟨z0 _ aG.out, z1 _ aG.out, z2 _ aG.out, z3 _ aG.out, z4 _ aG.out, z5 _ aG.out, (CY HB.out cZ), (CY HB.out cY), (CY HB.out cX), (CY HB.out cW), (CY HB.out cV), (CY HB.out cU), (CY HB.out cT), (CY HB.out cS), (CY HB.out cR), (CY HB.out cQ), (CY HB.out cI), (CY HB.out eE), (CY HB.out eD), (CY HB.out eC), (CY HB.out eB), (CY HB.out eA), (CY HB.out dZ), (CY HB.out dY), (CY HB.out dX), (CY HB.out dW), (CY HB.out dV), (CY HB.out dO), (CY HB.out kI), (CY HB.out kH), (CY HB.out kG), (CY HB.out kF), (CY HB.out kE), (CY HB.out kD), (CY HB.out kC), (CY HB.out kB), (CY HB.out kA), (CY HB.out jZ), (CY HB.out hN), (CY HB.out kS), (CY HB.out kR), (CY HB.out kQ), (CY HB.out kP), (CY HB.out kO), (CY HB.out kN), (CY HB.out kM), (CY HB.out kL), (CY HB.out kK), (CY HB.out kJ), (CY HB.out hQ)⟩ (fun aI => ?_)
              clear hK K
              refine nm (some 47) ?_
              refine pv aH 6 48 (tf 7 31) ?_
              refine pv aH 7 49 (tf 8 30) ?_
              refine pv aH 8 50 (tf 9 29) ?_
              refine pv aH 10 52 (tr [9, 1, 1, 27]) ?_
              refine pv aH 14 56 (tr [9, 1, 1, 3, 1, 23]) ?_
              refine tk 9 (some 51) (tr [11, 3, 1, 23]) (take_ofW aH.out dS.out (by kernel_rfl)) aI ?_
              refine pv aH 11 53 (tr [12, 2, 1, 23]) ?_
              refine pv aH 12 54 (tr [13, 1, 1, 23]) ?_
              refine tk 13 (some 55) (tf 15 23) (take_ofW aH.out dS.out (by kernel_rfl)) aI ?_
              refine tk 15 (some 57) (tf 16 22) (take_ofW aH.out dS.out (by kernel_rfl)) aI ?_
              refine pv aH 16 58 (tf 17 21) ?_
              refine pv aH 17 59 (tf 18 20) ?_
              refine pv aH 18 60 (tf 19 19) ?_
              refine pv aH 19 61 (tf 20 18) ?_
              refine pv aH 20 62 (tf 21 17) ?_
              refine pv aH 21 63 (tf 22 16) ?_
              refine pv aH 22 64 (tf 23 15) ?_
              refine pv aH 24 66 (tr [23, 1, 1, 13]) ?_
              refine pv aH 25 67 (tr [23, 1, 2, 12]) ?_
              refine pv aH 29 71 (tr [23, 1, 2, 3, 1, 8]) ?_
              refine pv aH 31 73 (tr [23, 1, 2, 3, 1, 1, 1, 6]) ?_
              refine tk 23 (some 65) (tr [26, 3, 1, 1, 1, 6]) (take_ofW aH.out dS.out (by kernel_rfl)) aI ?_
              refine pv aH 26 68 (tr [27, 2, 1, 1, 1, 6]) ?_
              refine pv aH 27 69 (tr [28, 1, 1, 1, 1, 6]) ?_
              refine tk 28 (some 70) (tr [30, 1, 1, 6]) (take_ofW aH.out dS.out (by kernel_rfl)) aI ?_
              refine tk 30 (some 72) (tf 32 6) (take_ofW aH.out dS.out (by kernel_rfl)) aI ?_
              refine pv aH 32 74 (tf 33 5) ?_
              refine pv aH 33 75 (tf 34 4) ?_
              refine tk 34 (some 76) (tf 35 3) (take_ofW aH.out dS.out (by kernel_rfl)) aI ?_
              refine pv aH 35 77 (tf 36 2) ?_
              refine pv aH 36 78 (tf 37 1) ?_
              refine pv aH 37 79 (tf 38 0) ?_
              refine done_ (done_of aH.out (by kernel_rfl)) ?_
              try go_wp2
              go_meet
              case rel => exact ⟨_, (decide (((rd_T80 aE (ji31)).f1) ≥ ((rd_T80 aE aA).f1))), (by first | rfl | (simp; done) | (simp only [← hji31] <;> (first | rfl | simp)) | (simp [*]; done)), H', ⟨by have := HJ1.out; have := HK2.out; first | omega | exact Nat.le_refl _⟩, ⟨KB aG⟩, ⟨K1 HB aM.out⟩⟩
             ·rw [if_neg oN] at H
              exact absurd H (by simp)
            ·rw [if_neg oM] at H
             exact absurd H (by simp)
           ·rw [if_neg nG] at H
            have c30b0 : decide (0 < aA) = false := decide_eq_false nG
            clear nG
            have H' := Aside0.mk H
            clear H
            try go_wp2
            replace aG := am (blk_drew aG.out)
            replace HB := am (below_drew1 HB.out)
            have eQ : 0 ≤ (aA : Int) := OD
            have eR : aA < (aE.length : Int) := OD
            obtain ⟨aC, cO, cP, hZ, aO, aP, aQ, aR, aS, aT, aU, aV, aW, aX, aJ, cG, cH⟩ := at_T80 fI.out aA eQ eR
            have cI := aJ
            have cQ := aX
            have cR := aW
            have cS := aV
            have cT := aU
            have cU := aT
            have cV := aS
            have cW := aR
            have cX := aQ
            have cY := aP
            have cZ := aO
            cases hZ
            replace aO := CX HB.out aO
            replace aP := CX HB.out aP
            replace aQ := CX HB.out aQ
            replace aR := CX HB.out aR
            replace aS := CX HB.out aS
            replace aT := CX HB.out aT
            replace aU := CX HB.out aU
            replace aV := CX HB.out aV
            replace aW := CX HB.out aW
            replace aX := CX HB.out aX
            replace aJ := CX HB.out aJ
            have cJ := Aside0.mk cH
            have dT := Aside0.mk cG
            clear cH cG
            replace eQ := eq_true eQ
            replace eR := eq_true eR
            have fM : 0 ≤ (aA : Int) := OD
            have fN : aA < (aE.length : Int) := OD
            obtain ⟨hI, eW, eX, lS, bM, bN, bO, bP, bQ, bR, bS, bT, bU, bV, aY, dM, dN⟩ := at_T80 fI.out aA fM fN
            have dO := aY
            have dV := bV
            have dW := bU
            have dX := bT
            have dY := bS
            have dZ := bR
            have eA := bQ
            have eB := bP
            have eC := bO
            have eD := bN
            have eE := bM
            obtain rfl : aC = hI := (by injection lS)
            replace bM := CX HB.out bM
            replace bN := CX HB.out bN
            replace bO := CX HB.out bO
            replace bP := CX HB.out bP
            replace bQ := CX HB.out bQ
            replace bR := CX HB.out bR
            replace bS := CX HB.out bS
            replace bT := CX HB.out bT
            replace bU := CX HB.out bU
            replace bV := CX HB.out bV
            replace aY := CX HB.out aY
            have eS := Aside0.mk dN
            have hJ := Aside0.mk dM
            clear dN dM
            replace fM := eq_true fM
            replace fN := eq_true fN
            refine start_ (n := 38) (S := fun w' => ce6 w' eP (.int .i64 aK) (.slice fA aZ.length fB) (.int .i64 aN) (.slice fC bA.length fD) (.slice (some aC) aE.length fE) (.slice fP aF.length fF) (w'.cell? (aC.add ((aA).toNat * 11)) = some (.int .i64 ((rd_T80 aE aA).f0)) ∧ w'.cell? ⟨(aC.add ((aA).toNat * 11)).block, (aC.add ((aA).toNat * 11)).off + 1, none⟩ = some (.int .i64 ((rd_T80 aE aA).f1)) ∧ w'.cell? ⟨(aC.add ((aA).toNat * 11)).block, (aC.add ((aA).toNat * 11)).off + 2, none⟩ = some (.string ((rd_T80 aE aA).f2)) ∧ w'.cell? ⟨(aC.add ((aA).toNat * 11)).block, (aC.add ((aA).toNat * 11)).off + 3, none⟩ = some (.string ((rd_T80 aE aA).f3)) ∧ w'.cell? ⟨(aC.add ((aA).toNat * 11)).block, (aC.add ((aA).toNat * 11)).off + 4, none⟩ = some (.int .i64 ((rd_T80 aE aA).f4)) ∧ w'.cell? ⟨(aC.add ((aA).toNat * 11)).block, (aC.add ((aA).toNat * 11)).off + 5, none⟩ = some (.int .i64 ((rd_T80 aE aA).f5)) ∧ w'.cell? ⟨(aC.add ((aA).toNat * 11)).block, (aC.add ((aA).toNat * 11)).off + 6, none⟩ = some (.int .i64 ((rd_T80 aE aA).f6)) ∧ w'.cell? ⟨(aC.add ((aA).toNat * 11)).block, (aC.add ((aA).toNat * 11)).off + 7, none⟩ = some (.int .i64 ((rd_T80 aE aA).f7)) ∧ w'.cell? ⟨(aC.add ((aA).toNat * 11)).block, (aC.add ((aA).toNat * 11)).off + 8, none⟩ = some (.int .i64 ((rd_T80 aE aA).f8)) ∧ w'.cell? ⟨(aC.add ((aA).toNat * 11)).block, (aC.add ((aA).toNat * 11)).off + 9, none⟩ = some (.int .i64 ((rd_T80 aE aA).f9.f0)) ∧ w'.cell? ⟨(aC.add ((aA).toNat * 11)).block, (aC.add ((aA).toNat * 11)).off + 10, none⟩ = some (.slice cO ((rd_T80 aE aA).f9.f1).length cP) ∧ w'.cell? (aC.add ((aA).toNat * 11)) = some (.int .i64 ((rd_T80 aE aA).f0)) ∧ w'.cell? ⟨(aC.add ((aA).toNat * 11)).block, (aC.add ((aA).toNat * 11)).off + 1, none⟩ = some (.int .i64 ((rd_T80 aE aA).f1)) ∧ w'.cell? ⟨(aC.add ((aA).toNat * 11)).block, (aC.add ((aA).toNat * 11)).off + 2, none⟩ = some (.string ((rd_T80 aE aA).f2)) ∧ w'.cell? ⟨(aC.add ((aA).toNat * 11)).block, (aC.add ((aA).toNat * 11)).off + 3, none⟩ = some (.string ((rd_T80 aE aA).f3)) ∧ w'.cell? ⟨(aC.add ((aA).toNat * 11)).block, (aC.add ((aA).toNat * 11)).off + 4, none⟩ = some (.int .i64 ((rd_T80 aE aA).f4)) ∧ w'.cell? ⟨(aC.add ((aA).toNat * 11)).block, (aC.add ((aA).toNat * 11)).off + 5, none⟩ = some (.int .i64 ((rd_T80 aE aA).f5)) ∧ w'.cell? ⟨(aC.add ((aA).toNat * 11)).block, (aC.add ((aA).toNat * 11)).off + 6, none⟩ = some (.int .i64 ((rd_T80 aE aA).f6)) ∧ w'.cell? ⟨(aC.add ((aA).toNat * 11)).block, (aC.add ((aA).toNat * 11)).off + 7, none⟩ = some (.int .i64 ((rd_T80 aE aA).f7)) ∧ w'.cell? ⟨(aC.add ((aA).toNat * 11)).block, (aC.add ((aA).toNat * 11)).off + 8, none⟩ = some (.int .i64 ((rd_T80 aE aA).f8)) ∧ w'.cell? ⟨(aC.add ((aA).toNat * 11)).block, (aC.add ((aA).toNat * 11)).off + 9, none⟩ = some (.int .i64 ((rd_T80 aE aA).f9.f0)) ∧ w'.cell? ⟨(aC.add ((aA).toNat * 11)).block, (aC.add ((aA).toNat * 11)).off + 10, none⟩ = some (.slice eW ((rd_T80 aE aA).f9.f1).length eX))) (ds := []) (tf 0 38) (by kernel_rfl) rfl rfl ⟨z0 _ aG.out, z1 _ aG.out, z2 _ aG.out, z3 _ aG.out, z4 _ aG.out, z5 _ aG.out, (CY HB.out cZ), (CY HB.out cY), (CY HB.out cX), (CY HB.out cW), (CY HB.out cV), (CY HB.out cU), (CY HB.out cT), (CY HB.out cS), (CY HB.out cR), (CY HB.out cQ), (CY HB.out cI), (CY HB.out eE), (CY HB.out eD), (CY HB.out eC), (CY HB.out eB), (CY HB.out eA), (CY HB.out dZ), (CY HB.out dY), (CY HB.out dX), (CY HB.out dW), (CY HB.out dV), (CY HB.out dO)⟩ (fun aI => ?_); refine with_tabW spec_GateOk.tab6 spec_GateOk.bits6 (fun aH dS => ?_)
            generalize wr.drew = qM at aG HB cJ eS aO aP aJ aQ aR aS aT aU aV aW aX bM bN aY bO bP bQ bR bS bT bU bV aI ⊢
            refine pv aH 0 42 (tf 1 37) ?_
            refine pv aH 2 44 (tr [1, 1, 1, 35]) ?_
            refine tk 1 (some 43) (tf 3 35) (take_ofW aH.out dS.out (by kernel_rfl)) aI ?_
            refine pv aH 3 45 (tf 4 34) ?_
            refine tk 4 (some 46) (tf 5 33) (take_ofW aH.out dS.out (by kernel_rfl)) aI ?_
            refine one_ (i := 5) (N := some 47) (tf 6 32) rfl rfl (one_of aH.out (by kernel_rfl)) (by decide) (fun K hK => ?_)
            refine goes_ Tryz.func29 (by kernel_rfl) rfl #[.agg #[.int .i64 ((rd_T80 aE aA).f0), .int .i64 ((rd_T80 aE aA).f1), .string ((rd_T80 aE aA).f2), .string ((rd_T80 aE aA).f3), .int .i64 ((rd_T80 aE aA).f4), .int .i64 ((rd_T80 aE aA).f5), .int .i64 ((rd_T80 aE aA).f6), .int .i64 ((rd_T80 aE aA).f7), .int .i64 ((rd_T80 aE aA).f8), .int .i64 ((rd_T80 aE aA).f9.f0), .slice cO ((rd_T80 aE aA).f9.f1).length cP]] (by rfl) rfl rfl MT ?_
            with_reducible refine (spec_SaOk.calls k2 ((rd_T80 aE aA).f0) ((rd_T80 aE aA).f1) ((rd_T80 aE aA).f2) ((rd_T80 aE aA).f3) ((rd_T80 aE aA).f4) ((rd_T80 aE aA).f5) ((rd_T80 aE aA).f6) ((rd_T80 aE aA).f7) ((rd_T80 aE aA).f8) ((rd_T80 aE aA).f9.f0) _ _ ((rd_T80 aE aA).f9.f1) true _ ?_ ?_ nP.out).mono ?_
            exact KD cJ HB
            exact dT.out
            rintro e qN ⟨rfl, hb⟩
            refine ⟨_, rfl, ?_⟩
            replace aG := am (BB aG hb)
            replace HB := bl (K1 HB aM.out) hb
            (try clear hb)
            (try clear hb2)
            (try clear hk)
            (try clear hi)
            refine hK.out _ _ ⟨z0 _ aG.out, z1 _ aG.out, z2 _ aG.out, z3 _ aG.out, z4 _ aG.out, z5 _ aG.out, (CY HB.out cZ), (CY HB.out cY), (CY HB.out cX), (CY HB.out cW), (CY HB.out cV), (CY HB.out cU), (CY HB.out cT), (CY HB.out cS), (CY HB.out cR), (CY HB.out cQ), (CY HB.out cI), (CY HB.out eE), (CY HB.out eD), (CY HB.out eC), (CY HB.out eB), (CY HB.out eA), (CY HB.out dZ), (CY HB.out dY), (CY HB.out dX), (CY HB.out dW), (CY HB.out dV), (CY HB.out dO)⟩ (fun aI => ?_)
            clear hK K
            refine nm (some 47) ?_
            refine pv aH 6 48 (tf 7 31) ?_
            refine pv aH 7 49 (tf 8 30) ?_
            refine pv aH 8 50 (tf 9 29) ?_
            refine pv aH 10 52 (tr [9, 1, 1, 27]) ?_
            refine pv aH 14 56 (tr [9, 1, 1, 3, 1, 23]) ?_
            refine tk 9 (some 51) (tr [11, 3, 1, 23]) (take_ofW aH.out dS.out (by kernel_rfl)) aI ?_
            refine pv aH 11 53 (tr [12, 2, 1, 23]) ?_
            refine pv aH 12 54 (tr [13, 1, 1, 23]) ?_
            refine tk 13 (some 55) (tf 15 23) (take_ofW aH.out dS.out (by kernel_rfl)) aI ?_
            refine tk 15 (some 57) (tf 16 22) (take_ofW aH.out dS.out (by kernel_rfl)) aI ?_
            refine pv aH 16 58 (tf 17 21) ?_
            refine pv aH 17 59 (tf 18 20) ?_
            refine pv aH 18 60 (tf 19 19) ?_
            refine pv aH 19 61 (tf 20 18) ?_
            refine pv aH 20 62 (tf 21 17) ?_
            refine pv aH 21 63 (tf 22 16) ?_
            refine pw aH 22 64 (tf 23 15) ?_
            refine pw aH 23 65 (tf 24 14) ?_
            refine pw aH 24 66 (tf 25 13) ?_
            refine pw aH 25 67 (tf 26 12) ?_
            refine pw aH 26 68 (tf 27 11) ?_
            refine pw aH 27 69 (tf 28 10) ?_
            refine pw aH 28 70 (tf 29 9) ?_
            refine pw aH 29 71 (tf 30 8) ?_
            refine pw aH 30 72 (tf 31 7) ?_
            refine pw aH 31 73 (tf 32 6) ?_
            refine pw aH 32 74 (tf 33 5) ?_
            refine pw aH 33 75 (tf 34 4) ?_
            refine pw aH 34 76 (tf 35 3) ?_
            refine pw aH 35 77 (tf 36 2) ?_
            refine pv aH 36 78 (tf 37 1) ?_
            refine pv aH 37 79 (tf 38 0) ?_
            refine done_ (done_of aH.out (by kernel_rfl)) ?_
            try go_wp2
            go_meet
            case rel => exact ⟨_, (false), (by first | rfl | (simp; done) | (simp [*]; done)), H', ⟨by have := HJ1.out; have := HK2.out; first | omega | exact Nat.le_refl _⟩, ⟨KB aG⟩, ⟨K1 HB aM.out⟩⟩
         ·replace nE := Bool.eq_false_iff.mpr nE
          subst nE
          have H1 := nf H
          clear H
          have H := H1
          clear H1
          have H' := Aside0.mk H
          clear H
          try go_wp2
          replace aG := am (blk_drew aG.out)
          replace HB := am (below_drew1 HB.out)
          have eQ : 0 ≤ (aA : Int) := OD
          have eR : aA < (aE.length : Int) := OD
          obtain ⟨aC, cO, cP, hZ, aO, aP, aQ, aR, aS, aT, aU, aV, aW, aX, aJ, cG, cH⟩ := at_T80 fI.out aA eQ eR
          have cI := aJ
          have cQ := aX
          have cR := aW
          have cS := aV
          have cT := aU
          have cU := aT
          have cV := aS
          have cW := aR
          have cX := aQ
          have cY := aP
          have cZ := aO
          cases hZ
          replace aO := CX HB.out aO
          replace aP := CX HB.out aP
          replace aQ := CX HB.out aQ
          replace aR := CX HB.out aR
          replace aS := CX HB.out aS
          replace aT := CX HB.out aT
          replace aU := CX HB.out aU
          replace aV := CX HB.out aV
          replace aW := CX HB.out aW
          replace aX := CX HB.out aX
          replace aJ := CX HB.out aJ
          have cJ := Aside0.mk cH
          have dT := Aside0.mk cG
          clear cH cG
          replace eQ := eq_true eQ
          replace eR := eq_true eR
          refine start_ (n := 38) (S := fun w' => ce6 w' eP (.int .i64 aK) (.slice fA aZ.length fB) (.int .i64 aN) (.slice fC bA.length fD) (.slice (some aC) aE.length fE) (.slice fP aF.length fF) (w'.cell? (aC.add ((aA).toNat * 11)) = some (.int .i64 ((rd_T80 aE aA).f0)) ∧ w'.cell? ⟨(aC.add ((aA).toNat * 11)).block, (aC.add ((aA).toNat * 11)).off + 1, none⟩ = some (.int .i64 ((rd_T80 aE aA).f1)) ∧ w'.cell? ⟨(aC.add ((aA).toNat * 11)).block, (aC.add ((aA).toNat * 11)).off + 2, none⟩ = some (.string ((rd_T80 aE aA).f2)) ∧ w'.cell? ⟨(aC.add ((aA).toNat * 11)).block, (aC.add ((aA).toNat * 11)).off + 3, none⟩ = some (.string ((rd_T80 aE aA).f3)) ∧ w'.cell? ⟨(aC.add ((aA).toNat * 11)).block, (aC.add ((aA).toNat * 11)).off + 4, none⟩ = some (.int .i64 ((rd_T80 aE aA).f4)) ∧ w'.cell? ⟨(aC.add ((aA).toNat * 11)).block, (aC.add ((aA).toNat * 11)).off + 5, none⟩ = some (.int .i64 ((rd_T80 aE aA).f5)) ∧ w'.cell? ⟨(aC.add ((aA).toNat * 11)).block, (aC.add ((aA).toNat * 11)).off + 6, none⟩ = some (.int .i64 ((rd_T80 aE aA).f6)) ∧ w'.cell? ⟨(aC.add ((aA).toNat * 11)).block, (aC.add ((aA).toNat * 11)).off + 7, none⟩ = some (.int .i64 ((rd_T80 aE aA).f7)) ∧ w'.cell? ⟨(aC.add ((aA).toNat * 11)).block, (aC.add ((aA).toNat * 11)).off + 8, none⟩ = some (.int .i64 ((rd_T80 aE aA).f8)) ∧ w'.cell? ⟨(aC.add ((aA).toNat * 11)).block, (aC.add ((aA).toNat * 11)).off + 9, none⟩ = some (.int .i64 ((rd_T80 aE aA).f9.f0)) ∧ w'.cell? ⟨(aC.add ((aA).toNat * 11)).block, (aC.add ((aA).toNat * 11)).off + 10, none⟩ = some (.slice cO ((rd_T80 aE aA).f9.f1).length cP))) (ds := []) (tf 0 38) (by kernel_rfl) rfl rfl ⟨z0 _ aG.out, z1 _ aG.out, z2 _ aG.out, z3 _ aG.out, z4 _ aG.out, z5 _ aG.out, (CY HB.out cZ), (CY HB.out cY), (CY HB.out cX), (CY HB.out cW), (CY HB.out cV), (CY HB.out cU), (CY HB.out cT), (CY HB.out cS), (CY HB.out cR), (CY HB.out cQ), (CY HB.out cI)⟩ (fun aI => ?_); refine with_tabW spec_GateOk.tab6 spec_GateOk.bits6 (fun aH dS => ?_)
          generalize wr.drew = qO at aG HB cJ aO aP aJ aQ aR aS aT aU aV aW aX aI ⊢
          refine pv aH 0 42 (tf 1 37) ?_
          refine pv aH 2 44 (tr [1, 1, 1, 35]) ?_
          refine tk 1 (some 43) (tf 3 35) (take_ofW aH.out dS.out (by kernel_rfl)) aI ?_
          refine pv aH 3 45 (tf 4 34) ?_
          refine tk 4 (some 46) (tf 5 33) (take_ofW aH.out dS.out (by kernel_rfl)) aI ?_
          refine one_ (i := 5) (N := some 47) (tf 6 32) rfl rfl (one_of aH.out (by kernel_rfl)) (by decide) (fun K hK => ?_)
          refine goes_ Tryz.func29 (by kernel_rfl) rfl #[.agg #[.int .i64 ((rd_T80 aE aA).f0), .int .i64 ((rd_T80 aE aA).f1), .string ((rd_T80 aE aA).f2), .string ((rd_T80 aE aA).f3), .int .i64 ((rd_T80 aE aA).f4), .int .i64 ((rd_T80 aE aA).f5), .int .i64 ((rd_T80 aE aA).f6), .int .i64 ((rd_T80 aE aA).f7), .int .i64 ((rd_T80 aE aA).f8), .int .i64 ((rd_T80 aE aA).f9.f0), .slice cO ((rd_T80 aE aA).f9.f1).length cP]] (by rfl) rfl rfl MT ?_
          with_reducible refine (spec_SaOk.calls k2 ((rd_T80 aE aA).f0) ((rd_T80 aE aA).f1) ((rd_T80 aE aA).f2) ((rd_T80 aE aA).f3) ((rd_T80 aE aA).f4) ((rd_T80 aE aA).f5) ((rd_T80 aE aA).f6) ((rd_T80 aE aA).f7) ((rd_T80 aE aA).f8) ((rd_T80 aE aA).f9.f0) _ _ ((rd_T80 aE aA).f9.f1) false _ ?_ ?_ nP.out).mono ?_
          exact KD cJ HB
          exact dT.out
          rintro e qP ⟨rfl, hb⟩
          refine ⟨_, rfl, ?_⟩
          replace aG := am (BB aG hb)
          replace HB := bl (K1 HB aM.out) hb
          (try clear hb)
          (try clear hb2)
          (try clear hk)
          (try clear hi)
          refine hK.out _ _ ⟨z0 _ aG.out, z1 _ aG.out, z2 _ aG.out, z3 _ aG.out, z4 _ aG.out, z5 _ aG.out, (CY HB.out cZ), (CY HB.out cY), (CY HB.out cX), (CY HB.out cW), (CY HB.out cV), (CY HB.out cU), (CY HB.out cT), (CY HB.out cS), (CY HB.out cR), (CY HB.out cQ), (CY HB.out cI)⟩ (fun aI => ?_)
          clear hK K
          refine nm (some 47) ?_
          refine pv aH 6 48 (tf 7 31) ?_
          refine pv aH 7 49 (tf 8 30) ?_
          refine pw aH 8 50 (tf 9 29) ?_
          refine pw aH 9 51 (tf 10 28) ?_
          refine pw aH 10 52 (tf 11 27) ?_
          refine pw aH 11 53 (tf 12 26) ?_
          refine pw aH 12 54 (tf 13 25) ?_
          refine pw aH 13 55 (tf 14 24) ?_
          refine pw aH 14 56 (tf 15 23) ?_
          refine pw aH 15 57 (tf 16 22) ?_
          refine pw aH 16 58 (tf 17 21) ?_
          refine pv aH 17 59 (tf 18 20) ?_
          refine pv aH 18 60 (tf 19 19) ?_
          refine pw aH 19 61 (tf 20 18) ?_
          refine pw aH 20 62 (tf 21 17) ?_
          refine pw aH 21 63 (tf 22 16) ?_
          refine pw aH 22 64 (tf 23 15) ?_
          refine pw aH 23 65 (tf 24 14) ?_
          refine pw aH 24 66 (tf 25 13) ?_
          refine pw aH 25 67 (tf 26 12) ?_
          refine pw aH 26 68 (tf 27 11) ?_
          refine pw aH 27 69 (tf 28 10) ?_
          refine pw aH 28 70 (tf 29 9) ?_
          refine pw aH 29 71 (tf 30 8) ?_
          refine pw aH 30 72 (tf 31 7) ?_
          refine pw aH 31 73 (tf 32 6) ?_
          refine pw aH 32 74 (tf 33 5) ?_
          refine pw aH 33 75 (tf 34 4) ?_
          refine pw aH 34 76 (tf 35 3) ?_
          refine pw aH 35 77 (tf 36 2) ?_
          refine pw aH 36 78 (tf 37 1) ?_
          refine pv aH 37 79 (tf 38 0) ?_
          refine done_ (done_of aH.out (by kernel_rfl)) ?_
          try go_wp2
          go_meet
          case rel => exact ⟨_, (true), (by first | rfl | (simp; done) | (simp [*]; done)), H', ⟨by have := HJ1.out; have := HK2.out; first | omega | exact Nat.le_refl _⟩, ⟨KB aG⟩, ⟨K1 HB aM.out⟩⟩
        ·rw [if_neg nD] at H
         exact absurd H (by simp)
       case rest =>
        clear mT
        try clear c1
        try clear p1
        try clear q1
        try clear pV
        try clear c2
        try clear p2
        try clear pW
        try clear pM
        try clear pN
        try clear nU
        try clear nD
        try clear nE
        try clear pX
        try clear aO
        try clear aP
        try clear aJ
        try clear aQ
        try clear aR
        try clear aS
        try clear aT
        try clear aU
        try clear aV
        try clear aW
        try clear aX
        try clear bM
        try clear bN
        try clear aY
        try clear bO
        try clear bP
        try clear bQ
        try clear bR
        try clear bS
        try clear bT
        try clear bU
        try clear bV
        try clear eQ
        try clear fM
        try clear eR
        try clear fN
        obtain ⟨kq, hH, rfl, HA, HJ21, aG, HB⟩ := hcut
        cases kq with
        | zero => exact absurd HA.out (by simp [spec_GateOk.j2])
        | succ kj21 =>
         have H := HA.out
         clear HA
         simp only [spec_GateOk.j2] at H
         by_cases nV : hH = true
         ·subst nV
          have H1 := pf H
          clear H
          have H := H1
          clear H1
          obtain rfl := sj H
          go_wp2
          go_ret
          exact ⟨ER, K1 HB aM.out⟩
         ·replace nV := Bool.eq_false_iff.mpr nV
          subst nV
          have H1 := nf H
          clear H
          have H := H1
          clear H1
          have H' := Aside0.mk H
          clear H
          go_wp2
          go_roundg kj21
          case measure => have := HJ1.out; have := HK2.out; have := HJ21.out; omega
          case rel => exact ⟨(wrap64 (aA + 1)), (by first | rfl | (simp; done) | (simp [*]; done)), H', ⟨by have := HJ1.out; have := HK2.out; have := HJ21.out; omega⟩, ⟨KB aG⟩, ⟨K1 HB aM.out⟩⟩
      ·rw [if_neg mS] at H
       have c21b0 : decide (aA < (aE.length : Int)) = false := decide_eq_false mS
       clear mS
       have H' := Aside0.mk H
       clear H
       obtain ⟨mB, mC, mD, mE, mF, mG, mH⟩ := y6 wr aG.out
       go_wp2
       go_loopg [4] k2 (fun kq v4 w' => ∃ (aB : Int), v4 = .int .i64 aB ∧ Aside0 (spec_GateOk.l1 kq aB aK aZ aN bA aE aF = some r) ∧ Aside0 (kq ≤ k2) ∧ Aside0 (w'.heap[eP]? = some (.cells #[.int .i64 aK, (.slice fA aZ.length fB), .int .i64 aN, (.slice fC bA.length fD), (.slice fO aE.length fE), (.slice fP aF.length fF)] 41 (0, 0))) ∧ Aside0 (Below w.heap.size w w'))
       case atStart => exact ⟨(0), (by first | rfl | (simp; done) | (simp [*]; done)), H', ⟨Nat.le_refl _⟩, ⟨KB aG⟩, ⟨K1 HB aM.out⟩⟩
       case round =>
        clear H'
        try clear c1
        try clear p1
        try clear q1
        try clear pV
        try clear c2
        try clear p2
        try clear c4
        try clear p6
        try clear pW
        try clear pM
        try clear pN
        try clear nU
        try clear mS
        try clear c21b0
        try clear nD
        try clear nE
        try clear pX
        try clear nV
        try clear mB mC mD mE mF mG mH
        try clear aO
        try clear aP
        try clear aJ
        try clear aQ
        try clear aR
        try clear aS
        try clear aT
        try clear aU
        try clear aV
        try clear aW
        try clear aX
        try clear bM
        try clear bN
        try clear aY
        try clear bO
        try clear bP
        try clear bQ
        try clear bR
        try clear bS
        try clear bT
        try clear bU
        try clear bV
        try clear p1
        try clear pM
        try clear eQ
        try clear fM
        try clear p2
        try clear q1
        try clear pN
        try clear eR
        try clear fN
        obtain ⟨aB, rfl, HA, HK3, aG, HB⟩ := hrel
        cases gk with
        | zero => exact absurd HA.out (by simp [spec_GateOk.l1])
        | succ k3 =>
         have H := HA.out
         clear HA
         simp only [spec_GateOk.l1] at H
         by_cases nH : aB < (aF.length : Int)
         ·rw [if_pos nH] at H
          have c42b0 : decide (aB < (aF.length : Int)) = true := decide_eq_true nH
          clear nH
          have mY := Aside0.mk H
          clear H
          have ⟨_, _, _, _, _, _, _⟩ := y6 wr aG.out
          go_upto_region 11 with (fail)
          go_cut [124] (fun pO wc => ∃ (kq : Nat) (gM : Bool), pO = .bool gM ∧ Aside0 (spec_GateOk.j4 kq aB gM aK aZ aN bA aE aF = some r) ∧ Aside0 (kq ≤ k3) ∧ Aside0 (wc.heap[eP]? = some (.cells #[.int .i64 aK, (.slice fA aZ.length fB), .int .i64 aN, (.slice fC bA.length fD), (.slice fO aE.length fE), (.slice fP aF.length fF)] 41 (0, 0))) ∧ Aside0 (Below w.heap.size w wc))
          case first =>
           have H := mY.out
           clear mY
           by_cases nW : 0 ≤ aB
           ·rw [if_pos nW] at H
            have c45b0 : decide (0 ≤ aB) = true := decide_eq_true nW
            clear nW
            (first | rw [c45b0] | (simp only [i64_w, i32_w]; rw [c45b0]) | skip)
            replace H := bm H
            obtain ⟨nX, nY, H⟩ := H
            replace H : (if nX = true then (if ((rd_T80 aF aB).f4) > aK then (spec_GateOk.j4 k3 aB true aK aZ aN bA aE aF) else (if aB > 0 then (if 0 ≤ (wrap64 (aB - 1)) then (if (wrap64 (aB - 1)) < (aF.length : Int) then (spec_GateOk.j4 k3 aB (decide (((rd_T80 aF (wrap64 (aB - 1))).f0) ≥ ((rd_T80 aF aB).f0))) aK aZ aN bA aE aF) else (none)) else (none)) else (spec_GateOk.j4 k3 aB false aK aZ aN bA aE aF))) else (spec_GateOk.j4 k3 aB true aK aZ aN bA aE aF)) = some r := H
            have nZ := Aside0.mk nY
            clear nY
            by_cases oA : nX = true
            ·subst oA
             have H1 := pf H
             clear H
             have H := H1
             clear H1
             by_cases nI : ((rd_T80 aF aB).f4) > aK
             ·rw [if_pos nI] at H
              have c48b0 : decide (aK < ((rd_T80 aF aB).f4)) = true := decide_eq_true nI
              clear nI
              have H' := Aside0.mk H
              clear H
              try go_wp2
              replace aG := am (blk_drew aG.out)
              replace HB := am (below_drew1 HB.out)
              have fG : 0 ≤ (aB : Int) := OD
              have fH : aB < (aF.length : Int) := OD
              obtain ⟨aD, dA, dB, iA, bB, bC, bD, bE, bF, bG, bH, bI, bJ, bK, aL, cK, cL⟩ := at_T80 fJ.out aB fG fH
              have cM := aL
              have dC := bK
              have dD := bJ
              have dE := bI
              have dF := bH
              have dG := bG
              have dH := bF
              have dI := bE
              have dJ := bD
              have dK := bC
              have dL := bB
              cases iA
              replace bB := CX HB.out bB
              replace bC := CX HB.out bC
              replace bD := CX HB.out bD
              replace bE := CX HB.out bE
              replace bF := CX HB.out bF
              replace bG := CX HB.out bG
              replace bH := CX HB.out bH
              replace bI := CX HB.out bI
              replace bJ := CX HB.out bJ
              replace bK := CX HB.out bK
              replace aL := CX HB.out aL
              have cN := Aside0.mk cL
              have dU := Aside0.mk cK
              clear cL cK
              replace fG := eq_true fG
              replace fH := eq_true fH
              have fQ : 0 ≤ (aB : Int) := OD
              have fR : aB < (aF.length : Int) := OD
              obtain ⟨hR, eY, eZ, lV, bW, bX, bY, bZ, cA, cB, cC, cD, cE, cF, bL, dP, dQ⟩ := at_T80 fJ.out aB fQ fR
              have dR := bL
              have eF := cF
              have eG := cE
              have eH := cD
              have eI := cC
              have eJ := cB
              have eK := cA
              have eL := bZ
              have eM := bY
              have eN := bX
              have eO := bW
              obtain rfl : aD = hR := (by injection lV)
              replace bW := CX HB.out bW
              replace bX := CX HB.out bX
              replace bY := CX HB.out bY
              replace bZ := CX HB.out bZ
              replace cA := CX HB.out cA
              replace cB := CX HB.out cB
              replace cC := CX HB.out cC
              replace cD := CX HB.out cD
              replace cE := CX HB.out cE
              replace cF := CX HB.out cF
              replace bL := CX HB.out bL
              have eU := Aside0.mk dQ
              have hS := Aside0.mk dP
              clear dQ dP
              replace fQ := eq_true fQ
              replace fR := eq_true fR
              refine start_ (n := 38) (S := fun w' => ce6 w' eP (.int .i64 aK) (.slice fA aZ.length fB) (.int .i64 aN) (.slice fC bA.length fD) (.slice fO aE.length fE) (.slice (some aD) aF.length fF) (w'.cell? (aD.add ((aB).toNat * 11)) = some (.int .i64 ((rd_T80 aF aB).f0)) ∧ w'.cell? ⟨(aD.add ((aB).toNat * 11)).block, (aD.add ((aB).toNat * 11)).off + 1, none⟩ = some (.int .i64 ((rd_T80 aF aB).f1)) ∧ w'.cell? ⟨(aD.add ((aB).toNat * 11)).block, (aD.add ((aB).toNat * 11)).off + 2, none⟩ = some (.string ((rd_T80 aF aB).f2)) ∧ w'.cell? ⟨(aD.add ((aB).toNat * 11)).block, (aD.add ((aB).toNat * 11)).off + 3, none⟩ = some (.string ((rd_T80 aF aB).f3)) ∧ w'.cell? ⟨(aD.add ((aB).toNat * 11)).block, (aD.add ((aB).toNat * 11)).off + 4, none⟩ = some (.int .i64 ((rd_T80 aF aB).f4)) ∧ w'.cell? ⟨(aD.add ((aB).toNat * 11)).block, (aD.add ((aB).toNat * 11)).off + 5, none⟩ = some (.int .i64 ((rd_T80 aF aB).f5)) ∧ w'.cell? ⟨(aD.add ((aB).toNat * 11)).block, (aD.add ((aB).toNat * 11)).off + 6, none⟩ = some (.int .i64 ((rd_T80 aF aB).f6)) ∧ w'.cell? ⟨(aD.add ((aB).toNat * 11)).block, (aD.add ((aB).toNat * 11)).off + 7, none⟩ = some (.int .i64 ((rd_T80 aF aB).f7)) ∧ w'.cell? ⟨(aD.add ((aB).toNat * 11)).block, (aD.add ((aB).toNat * 11)).off + 8, none⟩ = some (.int .i64 ((rd_T80 aF aB).f8)) ∧ w'.cell? ⟨(aD.add ((aB).toNat * 11)).block, (aD.add ((aB).toNat * 11)).off + 9, none⟩ = some (.int .i64 ((rd_T80 aF aB).f9.f0)) ∧ w'.cell? ⟨(aD.add ((aB).toNat * 11)).block, (aD.add ((aB).toNat * 11)).off + 10, none⟩ = some (.slice dA ((rd_T80 aF aB).f9.f1).length dB) ∧ w'.cell? (aD.add ((aB).toNat * 11)) = some (.int .i64 ((rd_T80 aF aB).f0)) ∧ w'.cell? ⟨(aD.add ((aB).toNat * 11)).block, (aD.add ((aB).toNat * 11)).off + 1, none⟩ = some (.int .i64 ((rd_T80 aF aB).f1)) ∧ w'.cell? ⟨(aD.add ((aB).toNat * 11)).block, (aD.add ((aB).toNat * 11)).off + 2, none⟩ = some (.string ((rd_T80 aF aB).f2)) ∧ w'.cell? ⟨(aD.add ((aB).toNat * 11)).block, (aD.add ((aB).toNat * 11)).off + 3, none⟩ = some (.string ((rd_T80 aF aB).f3)) ∧ w'.cell? ⟨(aD.add ((aB).toNat * 11)).block, (aD.add ((aB).toNat * 11)).off + 4, none⟩ = some (.int .i64 ((rd_T80 aF aB).f4)) ∧ w'.cell? ⟨(aD.add ((aB).toNat * 11)).block, (aD.add ((aB).toNat * 11)).off + 5, none⟩ = some (.int .i64 ((rd_T80 aF aB).f5)) ∧ w'.cell? ⟨(aD.add ((aB).toNat * 11)).block, (aD.add ((aB).toNat * 11)).off + 6, none⟩ = some (.int .i64 ((rd_T80 aF aB).f6)) ∧ w'.cell? ⟨(aD.add ((aB).toNat * 11)).block, (aD.add ((aB).toNat * 11)).off + 7, none⟩ = some (.int .i64 ((rd_T80 aF aB).f7)) ∧ w'.cell? ⟨(aD.add ((aB).toNat * 11)).block, (aD.add ((aB).toNat * 11)).off + 8, none⟩ = some (.int .i64 ((rd_T80 aF aB).f8)) ∧ w'.cell? ⟨(aD.add ((aB).toNat * 11)).block, (aD.add ((aB).toNat * 11)).off + 9, none⟩ = some (.int .i64 ((rd_T80 aF aB).f9.f0)) ∧ w'.cell? ⟨(aD.add ((aB).toNat * 11)).block, (aD.add ((aB).toNat * 11)).off + 10, none⟩ = some (.slice eY ((rd_T80 aF aB).f9.f1).length eZ))) (ds := []) (tf 0 38) (by kernel_rfl) rfl rfl ⟨z0 _ aG.out, z1 _ aG.out, z2 _ aG.out, z3 _ aG.out, z4 _ aG.out, z5 _ aG.out, (CY HB.out dL), (CY HB.out dK), (CY HB.out dJ), (CY HB.out dI), (CY HB.out dH), (CY HB.out dG), (CY HB.out dF), (CY HB.out dE), (CY HB.out dD), (CY HB.out dC), (CY HB.out cM), (CY HB.out eO), (CY HB.out eN), (CY HB.out eM), (CY HB.out eL), (CY HB.out eK), (CY HB.out eJ), (CY HB.out eI), (CY HB.out eH), (CY HB.out eG), (CY HB.out eF), (CY HB.out dR)⟩ (fun aI => ?_); refine with_tabW spec_GateOk.tab11 spec_GateOk.bits11 (fun aH dS => ?_)
              generalize wr.drew = qQ at aG HB cN eU bB bC aL bD bE bF bG bH bI bJ bK bW bX bL bY bZ cA cB cC cD cE cF aI ⊢
              refine pv aH 0 87 (tf 1 37) ?_
              refine pv aH 2 89 (tr [1, 1, 1, 35]) ?_
              refine tk 1 (some 88) (tf 3 35) (take_ofW aH.out dS.out (by kernel_rfl)) aI ?_
              refine pv aH 3 90 (tf 4 34) ?_
              refine tk 4 (some 91) (tf 5 33) (take_ofW aH.out dS.out (by kernel_rfl)) aI ?_
              refine one_ (i := 5) (N := some 92) (tf 6 32) rfl rfl (one_of aH.out (by kernel_rfl)) (by decide) (fun K hK => ?_)
              refine goes_ Tryz.func29 (by kernel_rfl) rfl #[.agg #[.int .i64 ((rd_T80 aF aB).f0), .int .i64 ((rd_T80 aF aB).f1), .string ((rd_T80 aF aB).f2), .string ((rd_T80 aF aB).f3), .int .i64 ((rd_T80 aF aB).f4), .int .i64 ((rd_T80 aF aB).f5), .int .i64 ((rd_T80 aF aB).f6), .int .i64 ((rd_T80 aF aB).f7), .int .i64 ((rd_T80 aF aB).f8), .int .i64 ((rd_T80 aF aB).f9.f0), .slice dA ((rd_T80 aF aB).f9.f1).length dB]] (by rfl) rfl rfl MT ?_
              with_reducible refine (spec_SaOk.calls k3 ((rd_T80 aF aB).f0) ((rd_T80 aF aB).f1) ((rd_T80 aF aB).f2) ((rd_T80 aF aB).f3) ((rd_T80 aF aB).f4) ((rd_T80 aF aB).f5) ((rd_T80 aF aB).f6) ((rd_T80 aF aB).f7) ((rd_T80 aF aB).f8) ((rd_T80 aF aB).f9.f0) _ _ ((rd_T80 aF aB).f9.f1) true _ ?_ ?_ nZ.out).mono ?_
              exact KD cN HB
              exact dU.out
              rintro e qR ⟨rfl, hb⟩
              refine ⟨_, rfl, ?_⟩
              replace aG := am (BB aG hb)
              replace HB := bl (K1 HB aM.out) hb
              (try clear hb)
              (try clear hb2)
              (try clear hk)
              (try clear hi)
              refine hK.out _ _ ⟨z0 _ aG.out, z1 _ aG.out, z2 _ aG.out, z3 _ aG.out, z4 _ aG.out, z5 _ aG.out, (CY HB.out dL), (CY HB.out dK), (CY HB.out dJ), (CY HB.out dI), (CY HB.out dH), (CY HB.out dG), (CY HB.out dF), (CY HB.out dE), (CY HB.out dD), (CY HB.out dC), (CY HB.out cM), (CY HB.out eO), (CY HB.out eN), (CY HB.out eM), (CY HB.out eL), (CY HB.out eK), (CY HB.out eJ), (CY HB.out eI), (CY HB.out eH), (CY HB.out eG), (CY HB.out eF), (CY HB.out dR)⟩ (fun aI => ?_)
              clear hK K
              refine nm (some 92) ?_
              refine pv aH 6 93 (tf 7 31) ?_
              refine pv aH 7 94 (tf 8 30) ?_
              refine pv aH 8 95 (tf 9 29) ?_
              refine pv aH 10 97 (tr [9, 1, 1, 27]) ?_
              refine pv aH 14 101 (tr [9, 1, 1, 3, 1, 23]) ?_
              refine tk 9 (some 96) (tr [11, 3, 1, 23]) (take_ofW aH.out dS.out (by kernel_rfl)) aI ?_
              refine pv aH 11 98 (tr [12, 2, 1, 23]) ?_
              refine pv aH 12 99 (tr [13, 1, 1, 23]) ?_
              refine tk 13 (some 100) (tf 15 23) (take_ofW aH.out dS.out (by kernel_rfl)) aI ?_
              refine tk 15 (some 102) (tf 16 22) (take_ofW aH.out dS.out (by kernel_rfl)) aI ?_
              refine pv aH 16 103 (tf 17 21) ?_
              refine pv aH 17 104 (tf 18 20) ?_
              refine pv aH 18 105 (tf 19 19) ?_
              refine pw aH 19 106 (tf 20 18) ?_
              refine pw aH 20 107 (tf 21 17) ?_
              refine pw aH 21 108 (tf 22 16) ?_
              refine pw aH 22 109 (tf 23 15) ?_
              refine pw aH 23 110 (tf 24 14) ?_
              refine pw aH 24 111 (tf 25 13) ?_
              refine pw aH 25 112 (tf 26 12) ?_
              refine pw aH 26 113 (tf 27 11) ?_
              refine pw aH 27 114 (tf 28 10) ?_
              refine pw aH 28 115 (tf 29 9) ?_
              refine pw aH 29 116 (tf 30 8) ?_
              refine pw aH 30 117 (tf 31 7) ?_
              refine pw aH 31 118 (tf 32 6) ?_
              refine pw aH 32 119 (tf 33 5) ?_
              refine pw aH 33 120 (tf 34 4) ?_
              refine pw aH 34 121 (tf 35 3) ?_
              refine pw aH 35 122 (tf 36 2) ?_
              refine pw aH 36 123 (tf 37 1) ?_
              refine pv aH 37 124 (tf 38 0) ?_
              refine done_ (done_of aH.out (by kernel_rfl)) ?_
              try go_wp2
              go_meet
              case rel => exact ⟨_, (true), (by first | rfl | (simp; done) | (simp [*]; done)), H', ⟨by have := HJ1.out; have := HK2.out; have := HK3.out; first | omega | exact Nat.le_refl _⟩, ⟨KB aG⟩, ⟨K1 HB aM.out⟩⟩
             ·rw [if_neg nI] at H
              have c48b0 : decide (aK < ((rd_T80 aF aB).f4)) = false := decide_eq_false nI
              clear nI
              by_cases nJ : aB > 0
              ·rw [if_pos nJ] at H
               have c51b0 : decide (0 < aB) = true := decide_eq_true nJ
               clear nJ
               obtain ⟨ji52, hji52⟩ : ∃ j_ : Int, (wrap64 (aB - 1)) = j_ := ⟨_, rfl⟩
               replace H : (if 0 ≤ (ji52) then (if (ji52) < (aF.length : Int) then (spec_GateOk.j4 k3 aB (decide (((rd_T80 aF (ji52)).f0) ≥ ((rd_T80 aF aB).f0))) aK aZ aN bA aE aF) else (none)) else (none)) = some r := by first | (rw [hji52] at H; exact H) | (simp only [hji52] at H ⊢; exact H)
               (try rw [hji52] at nZ)
               have hji52w : (IntKind.i64.wrap (aB - 1)) = ji52 := (i64_w _).trans hji52
               by_cases oX : 0 ≤ (ji52)
               ·rw [if_pos oX] at H
                have c53b0 : decide (0 ≤ (ji52)) = true := decide_eq_true oX
                clear oX
                by_cases oY : (ji52) < (aF.length : Int)
                ·rw [if_pos oY] at H
                 have c54b0 : decide ((ji52) < (aF.length : Int)) = true := decide_eq_true oY
                 clear oY
                 have H' := Aside0.mk H
                 clear H
                 try go_wp2
                 replace aG := am (blk_drew aG.out)
                 replace HB := am (below_drew1 HB.out)
                 have fG : 0 ≤ (aB : Int) := OD
                 have fH : aB < (aF.length : Int) := OD
                 obtain ⟨aD, dA, dB, iA, bB, bC, bD, bE, bF, bG, bH, bI, bJ, bK, aL, cK, cL⟩ := at_T80 fJ.out aB fG fH
                 have cM := aL
                 have dC := bK
                 have dD := bJ
                 have dE := bI
                 have dF := bH
                 have dG := bG
                 have dH := bF
                 have dI := bE
                 have dJ := bD
                 have dK := bC
                 have dL := bB
                 cases iA
                 replace bB := CX HB.out bB
                 replace bC := CX HB.out bC
                 replace bD := CX HB.out bD
                 replace bE := CX HB.out bE
                 replace bF := CX HB.out bF
                 replace bG := CX HB.out bG
                 replace bH := CX HB.out bH
                 replace bI := CX HB.out bI
                 replace bJ := CX HB.out bJ
                 replace bK := CX HB.out bK
                 replace aL := CX HB.out aL
                 have cN := Aside0.mk cL
                 have dU := Aside0.mk cK
                 clear cL cK
                 replace fG := eq_true fG
                 replace fH := eq_true fH
                 have fQ : 0 ≤ (aB : Int) := OD
                 have fR : aB < (aF.length : Int) := OD
                 obtain ⟨hR, eY, eZ, lV, bW, bX, bY, bZ, cA, cB, cC, cD, cE, cF, bL, dP, dQ⟩ := at_T80 fJ.out aB fQ fR
                 have dR := bL
                 have eF := cF
                 have eG := cE
                 have eH := cD
                 have eI := cC
                 have eJ := cB
                 have eK := cA
                 have eL := bZ
                 have eM := bY
                 have eN := bX
                 have eO := bW
                 obtain rfl : aD = hR := (by injection lV)
                 replace bW := CX HB.out bW
                 replace bX := CX HB.out bX
                 replace bY := CX HB.out bY
                 replace bZ := CX HB.out bZ
                 replace cA := CX HB.out cA
                 replace cB := CX HB.out cB
                 replace cC := CX HB.out cC
                 replace cD := CX HB.out cD
                 replace cE := CX HB.out cE
                 replace cF := CX HB.out cF
                 replace bL := CX HB.out bL
                 have eU := Aside0.mk dQ
                 have hS := Aside0.mk dP
                 clear dQ dP
                 replace fQ := eq_true fQ
                 replace fR := eq_true fR
                 have mZ : 0 ≤ ((ji52) : Int) := OD
                 have nA : (ji52) < (aF.length : Int) := OD
                 obtain ⟨oB, mI, mJ, pP, gN, gO, gP, gQ, gR, gS, gT, gU, gV, gW, fL, hT, hU⟩ := at_T80 fJ.out (ji52) mZ nA
                 have hV := fL
                 have kT := gW
                 have kU := gV
                 have kV := gU
                 have kW := gT
                 have kX := gS
                 have kY := gR
                 have kZ := gQ
                 have lA := gP
                 have lB := gO
                 have lC := gN
                 obtain rfl : aD = oB := (by injection pP)
                 replace gN := CX HB.out gN
                 replace gO := CX HB.out gO
                 replace gP := CX HB.out gP
                 replace gQ := CX HB.out gQ
                 replace gR := CX HB.out gR
                 replace gS := CX HB.out gS
                 replace gT := CX HB.out gT
                 replace gU := CX HB.out gU
                 replace gV := CX HB.out gV
                 replace gW := CX HB.out gW
                 replace fL := CX HB.out fL
                 have lW := Aside0.mk hU
                 have oC := Aside0.mk hT
                 clear hU hT
                 replace mZ := eq_true mZ
                 replace nA := eq_true nA
                 have nB : 0 ≤ (aB : Int) := OD
                 have nC : aB < (aF.length : Int) := OD
                 obtain ⟨oD, _, _, pQ, gX, gY, gZ, hA, hB, hC, hD, hE, hF, hG, eV, hW, hX⟩ := at_T80 fJ.out aB nB nC
                 have hY := eV
                 have lD := hG
                 have lE := hF
                 have lF := hE
                 have lG := hD
                 have lH := hC
                 have lI := hB
                 have lJ := hA
                 have lK := gZ
                 have lL := gY
                 have lM := gX
                 obtain rfl : aD = oD := (by injection pQ)
                 replace gX := CX HB.out gX
                 replace gY := CX HB.out gY
                 replace gZ := CX HB.out gZ
                 replace hA := CX HB.out hA
                 replace hB := CX HB.out hB
                 replace hC := CX HB.out hC
                 replace hD := CX HB.out hD
                 replace hE := CX HB.out hE
                 replace hF := CX HB.out hF
                 replace hG := CX HB.out hG
                 replace eV := CX HB.out eV
                 have lX := Aside0.mk hX
                 have oE := Aside0.mk hW
                 clear hX hW
                 replace nB := eq_true nB
                 replace nC := eq_true nC
                 have ea_ := Option.some.inj (bL.symm.trans eV)
                 injection ea_ with ea_ en_ ec_
                 subst ea_
                 subst ec_
                 clear en_
                 refine start_ (n := 38) (S := fun w' => ce6 w' eP (.int .i64 aK) (.slice fA aZ.length fB) (.int .i64 aN) (.slice fC bA.length fD) (.slice fO aE.length fE) (.slice (some aD) aF.length fF) (w'.cell? (aD.add ((aB).toNat * 11)) = some (.int .i64 ((rd_T80 aF aB).f0)) ∧ w'.cell? ⟨(aD.add ((aB).toNat * 11)).block, (aD.add ((aB).toNat * 11)).off + 1, none⟩ = some (.int .i64 ((rd_T80 aF aB).f1)) ∧ w'.cell? ⟨(aD.add ((aB).toNat * 11)).block, (aD.add ((aB).toNat * 11)).off + 2, none⟩ = some (.string ((rd_T80 aF aB).f2)) ∧ w'.cell? ⟨(aD.add ((aB).toNat * 11)).block, (aD.add ((aB).toNat * 11)).off + 3, none⟩ = some (.string ((rd_T80 aF aB).f3)) ∧ w'.cell? ⟨(aD.add ((aB).toNat * 11)).block, (aD.add ((aB).toNat * 11)).off + 4, none⟩ = some (.int .i64 ((rd_T80 aF aB).f4)) ∧ w'.cell? ⟨(aD.add ((aB).toNat * 11)).block, (aD.add ((aB).toNat * 11)).off + 5, none⟩ = some (.int .i64 ((rd_T80 aF aB).f5)) ∧ w'.cell? ⟨(aD.add ((aB).toNat * 11)).block, (aD.add ((aB).toNat * 11)).off + 6, none⟩ = some (.int .i64 ((rd_T80 aF aB).f6)) ∧ w'.cell? ⟨(aD.add ((aB).toNat * 11)).block, (aD.add ((aB).toNat * 11)).off + 7, none⟩ = some (.int .i64 ((rd_T80 aF aB).f7)) ∧ w'.cell? ⟨(aD.add ((aB).toNat * 11)).block, (aD.add ((aB).toNat * 11)).off + 8, none⟩ = some (.int .i64 ((rd_T80 aF aB).f8)) ∧ w'.cell? ⟨(aD.add ((aB).toNat * 11)).block, (aD.add ((aB).toNat * 11)).off + 9, none⟩ = some (.int .i64 ((rd_T80 aF aB).f9.f0)) ∧ w'.cell? ⟨(aD.add ((aB).toNat * 11)).block, (aD.add ((aB).toNat * 11)).off + 10, none⟩ = some (.slice dA ((rd_T80 aF aB).f9.f1).length dB) ∧ w'.cell? (aD.add ((aB).toNat * 11)) = some (.int .i64 ((rd_T80 aF aB).f0)) ∧ w'.cell? ⟨(aD.add ((aB).toNat * 11)).block, (aD.add ((aB).toNat * 11)).off + 1, none⟩ = some (.int .i64 ((rd_T80 aF aB).f1)) ∧ w'.cell? ⟨(aD.add ((aB).toNat * 11)).block, (aD.add ((aB).toNat * 11)).off + 2, none⟩ = some (.string ((rd_T80 aF aB).f2)) ∧ w'.cell? ⟨(aD.add ((aB).toNat * 11)).block, (aD.add ((aB).toNat * 11)).off + 3, none⟩ = some (.string ((rd_T80 aF aB).f3)) ∧ w'.cell? ⟨(aD.add ((aB).toNat * 11)).block, (aD.add ((aB).toNat * 11)).off + 4, none⟩ = some (.int .i64 ((rd_T80 aF aB).f4)) ∧ w'.cell? ⟨(aD.add ((aB).toNat * 11)).block, (aD.add ((aB).toNat * 11)).off + 5, none⟩ = some (.int .i64 ((rd_T80 aF aB).f5)) ∧ w'.cell? ⟨(aD.add ((aB).toNat * 11)).block, (aD.add ((aB).toNat * 11)).off + 6, none⟩ = some (.int .i64 ((rd_T80 aF aB).f6)) ∧ w'.cell? ⟨(aD.add ((aB).toNat * 11)).block, (aD.add ((aB).toNat * 11)).off + 7, none⟩ = some (.int .i64 ((rd_T80 aF aB).f7)) ∧ w'.cell? ⟨(aD.add ((aB).toNat * 11)).block, (aD.add ((aB).toNat * 11)).off + 8, none⟩ = some (.int .i64 ((rd_T80 aF aB).f8)) ∧ w'.cell? ⟨(aD.add ((aB).toNat * 11)).block, (aD.add ((aB).toNat * 11)).off + 9, none⟩ = some (.int .i64 ((rd_T80 aF aB).f9.f0)) ∧ w'.cell? ⟨(aD.add ((aB).toNat * 11)).block, (aD.add ((aB).toNat * 11)).off + 10, none⟩ = some (.slice eY ((rd_T80 aF aB).f9.f1).length eZ) ∧ w'.cell? (aD.add (((ji52)).toNat * 11)) = some (.int .i64 ((rd_T80 aF (ji52)).f0)) ∧ w'.cell? ⟨(aD.add (((ji52)).toNat * 11)).block, (aD.add (((ji52)).toNat * 11)).off + 1, none⟩ = some (.int .i64 ((rd_T80 aF (ji52)).f1)) ∧ w'.cell? ⟨(aD.add (((ji52)).toNat * 11)).block, (aD.add (((ji52)).toNat * 11)).off + 2, none⟩ = some (.string ((rd_T80 aF (ji52)).f2)) ∧ w'.cell? ⟨(aD.add (((ji52)).toNat * 11)).block, (aD.add (((ji52)).toNat * 11)).off + 3, none⟩ = some (.string ((rd_T80 aF (ji52)).f3)) ∧ w'.cell? ⟨(aD.add (((ji52)).toNat * 11)).block, (aD.add (((ji52)).toNat * 11)).off + 4, none⟩ = some (.int .i64 ((rd_T80 aF (ji52)).f4)) ∧ w'.cell? ⟨(aD.add (((ji52)).toNat * 11)).block, (aD.add (((ji52)).toNat * 11)).off + 5, none⟩ = some (.int .i64 ((rd_T80 aF (ji52)).f5)) ∧ w'.cell? ⟨(aD.add (((ji52)).toNat * 11)).block, (aD.add (((ji52)).toNat * 11)).off + 6, none⟩ = some (.int .i64 ((rd_T80 aF (ji52)).f6)) ∧ w'.cell? ⟨(aD.add (((ji52)).toNat * 11)).block, (aD.add (((ji52)).toNat * 11)).off + 7, none⟩ = some (.int .i64 ((rd_T80 aF (ji52)).f7)) ∧ w'.cell? ⟨(aD.add (((ji52)).toNat * 11)).block, (aD.add (((ji52)).toNat * 11)).off + 8, none⟩ = some (.int .i64 ((rd_T80 aF (ji52)).f8)) ∧ w'.cell? ⟨(aD.add (((ji52)).toNat * 11)).block, (aD.add (((ji52)).toNat * 11)).off + 9, none⟩ = some (.int .i64 ((rd_T80 aF (ji52)).f9.f0)) ∧ w'.cell? ⟨(aD.add (((ji52)).toNat * 11)).block, (aD.add (((ji52)).toNat * 11)).off + 10, none⟩ = some (.slice mI ((rd_T80 aF (ji52)).f9.f1).length mJ) ∧ w'.cell? (aD.add ((aB).toNat * 11)) = some (.int .i64 ((rd_T80 aF aB).f0)) ∧ w'.cell? ⟨(aD.add ((aB).toNat * 11)).block, (aD.add ((aB).toNat * 11)).off + 1, none⟩ = some (.int .i64 ((rd_T80 aF aB).f1)) ∧ w'.cell? ⟨(aD.add ((aB).toNat * 11)).block, (aD.add ((aB).toNat * 11)).off + 2, none⟩ = some (.string ((rd_T80 aF aB).f2)) ∧ w'.cell? ⟨(aD.add ((aB).toNat * 11)).block, (aD.add ((aB).toNat * 11)).off + 3, none⟩ = some (.string ((rd_T80 aF aB).f3)) ∧ w'.cell? ⟨(aD.add ((aB).toNat * 11)).block, (aD.add ((aB).toNat * 11)).off + 4, none⟩ = some (.int .i64 ((rd_T80 aF aB).f4)) ∧ w'.cell? ⟨(aD.add ((aB).toNat * 11)).block, (aD.add ((aB).toNat * 11)).off + 5, none⟩ = some (.int .i64 ((rd_T80 aF aB).f5)) ∧ w'.cell? ⟨(aD.add ((aB).toNat * 11)).block, (aD.add ((aB).toNat * 11)).off + 6, none⟩ = some (.int .i64 ((rd_T80 aF aB).f6)) ∧ w'.cell? ⟨(aD.add ((aB).toNat * 11)).block, (aD.add ((aB).toNat * 11)).off + 7, none⟩ = some (.int .i64 ((rd_T80 aF aB).f7)) ∧ w'.cell? ⟨(aD.add ((aB).toNat * 11)).block, (aD.add ((aB).toNat * 11)).off + 8, none⟩ = some (.int .i64 ((rd_T80 aF aB).f8)) ∧ w'.cell? ⟨(aD.add ((aB).toNat * 11)).block, (aD.add ((aB).toNat * 11)).off + 9, none⟩ = some (.int .i64 ((rd_T80 aF aB).f9.f0)) ∧ w'.cell? ⟨(aD.add ((aB).toNat * 11)).block, (aD.add ((aB).toNat * 11)).off + 10, none⟩ = some (.slice eY ((rd_T80 aF aB).f9.f1).length eZ))) (ds := []) (tf 0 38) (by kernel_rfl) rfl rfl ⟨z0 _ aG.out, z1 _ aG.out, z2 _ aG.out, z3 _ aG.out, z4 _ aG.out, z5 _ aG.out, (CY HB.out dL), (CY HB.out dK), (CY HB.out dJ), (CY HB.out dI), (CY HB.out dH), (CY HB.out dG), (CY HB.out dF), (CY HB.out dE), (CY HB.out dD), (CY HB.out dC), (CY HB.out cM), (CY HB.out eO), (CY HB.out eN), (CY HB.out eM), (CY HB.out eL), (CY HB.out eK), (CY HB.out eJ), (CY HB.out eI), (CY HB.out eH), (CY HB.out eG), (CY HB.out eF), (CY HB.out dR), (CY HB.out lC), (CY HB.out lB), (CY HB.out lA), (CY HB.out kZ), (CY HB.out kY), (CY HB.out kX), (CY HB.out kW), (CY HB.out kV), (CY HB.out kU), (CY HB.out kT), (CY HB.out hV), (CY HB.out lM), (CY HB.out lL), (CY HB.out lK), (CY HB.out lJ), (CY HB.out lI), (CY HB.out lH), (CY HB.out lG), (CY HB.out lF), (CY HB.out lE), (CY HB.out lD), (CY HB.out hY)⟩ (fun aI => ?_); refine with_tabW spec_GateOk.tab11 spec_GateOk.bits11 (fun aH dS => ?_)
                 generalize wr.drew = qS at aG HB cN eU lW lX bB bC aL bD bE bF bG bH bI bJ bK bW bX bL bY bZ cA cB cC cD cE cF gN gO fL gP gQ gR gS gT gU gV gW gX gY eV gZ hA hB hC hD hE hF hG aI ⊢
                 refine pv aH 0 87 (tf 1 37) ?_
                 refine pv aH 2 89 (tr [1, 1, 1, 35]) ?_
                 refine tk 1 (some 88) (tf 3 35) (take_ofW aH.out dS.out (by kernel_rfl)) aI ?_
                 refine pv aH 3 90 (tf 4 34) ?_
                 refine tk 4 (some 91) (tf 5 33) (take_ofW aH.out dS.out (by kernel_rfl)) aI ?_
                 refine one_ (i := 5) (N := some 92) (tf 6 32) rfl rfl (one_of aH.out (by kernel_rfl)) (by decide) (fun K hK => ?_)
                 refine goes_ Tryz.func29 (by kernel_rfl) rfl #[.agg #[.int .i64 ((rd_T80 aF aB).f0), .int .i64 ((rd_T80 aF aB).f1), .string ((rd_T80 aF aB).f2), .string ((rd_T80 aF aB).f3), .int .i64 ((rd_T80 aF aB).f4), .int .i64 ((rd_T80 aF aB).f5), .int .i64 ((rd_T80 aF aB).f6), .int .i64 ((rd_T80 aF aB).f7), .int .i64 ((rd_T80 aF aB).f8), .int .i64 ((rd_T80 aF aB).f9.f0), .slice dA ((rd_T80 aF aB).f9.f1).length dB]] (by rfl) rfl rfl MT ?_
                 with_reducible refine (spec_SaOk.calls k3 ((rd_T80 aF aB).f0) ((rd_T80 aF aB).f1) ((rd_T80 aF aB).f2) ((rd_T80 aF aB).f3) ((rd_T80 aF aB).f4) ((rd_T80 aF aB).f5) ((rd_T80 aF aB).f6) ((rd_T80 aF aB).f7) ((rd_T80 aF aB).f8) ((rd_T80 aF aB).f9.f0) _ _ ((rd_T80 aF aB).f9.f1) true _ ?_ ?_ nZ.out).mono ?_
                 exact KD cN HB
                 exact dU.out
                 rintro e qT ⟨rfl, hb⟩
                 refine ⟨_, rfl, ?_⟩
                 replace aG := am (BB aG hb)
                 replace HB := bl (K1 HB aM.out) hb
                 (try clear hb)
                 (try clear hb2)
                 (try clear hk)
                 (try clear hi)
                 refine hK.out _ _ ⟨z0 _ aG.out, z1 _ aG.out, z2 _ aG.out, z3 _ aG.out, z4 _ aG.out, z5 _ aG.out, (CY HB.out dL), (CY HB.out dK), (CY HB.out dJ), (CY HB.out dI), (CY HB.out dH), (CY HB.out dG), (CY HB.out dF), (CY HB.out dE), (CY HB.out dD), (CY HB.out dC), (CY HB.out cM), (CY HB.out eO), (CY HB.out eN), (CY HB.out eM), (CY HB.out eL), (CY HB.out eK), (CY HB.out eJ), (CY HB.out eI), (CY HB.out eH), (CY HB.out eG), (CY HB.out eF), (CY HB.out dR), (CY HB.out lC), (CY HB.out lB), (CY HB.out lA), (CY HB.out kZ), (CY HB.out kY), (CY HB.out kX), (CY HB.out kW), (CY HB.out kV), (CY HB.out kU), (CY HB.out kT), (CY HB.out hV), (CY HB.out lM), (CY HB.out lL), (CY HB.out lK), (CY HB.out lJ), (CY HB.out lI), (CY HB.out lH), (CY HB.out lG), (CY HB.out lF), (CY HB.out lE), (CY HB.out lD), (CY HB.out hY)⟩ (fun aI => ?_)
                 clear hK K
                 refine nm (some 92) ?_
                 refine pv aH 6 93 (tf 7 31) ?_
                 refine pv aH 7 94 (tf 8 30) ?_
                 refine pv aH 8 95 (tf 9 29) ?_
                 refine pv aH 10 97 (tr [9, 1, 1, 27]) ?_
                 refine pv aH 14 101 (tr [9, 1, 1, 3, 1, 23]) ?_
                 refine tk 9 (some 96) (tr [11, 3, 1, 23]) (take_ofW aH.out dS.out (by kernel_rfl)) aI ?_
                 refine pv aH 11 98 (tr [12, 2, 1, 23]) ?_
                 refine pv aH 12 99 (tr [13, 1, 1, 23]) ?_
                 refine tk 13 (some 100) (tf 15 23) (take_ofW aH.out dS.out (by kernel_rfl)) aI ?_
                 refine tk 15 (some 102) (tf 16 22) (take_ofW aH.out dS.out (by kernel_rfl)) aI ?_
                 refine pv aH 16 103 (tf 17 21) ?_
                 refine pv aH 17 104 (tf 18 20) ?_
                 refine pv aH 18 105 (tf 19 19) ?_
                 refine pv aH 19 106 (tf 20 18) ?_
                 refine pv aH 20 107 (tf 21 17) ?_
                 refine pv aH 21 108 (tf 22 16) ?_
                 refine pv aH 22 109 (tf 23 15) ?_
                 refine pv aH 24 111 (tr [23, 1, 1, 13]) ?_
                 refine pv aH 25 112 (tr [23, 1, 2, 12]) ?_
                 refine pv aH 29 116 (tr [23, 1, 2, 3, 1, 8]) ?_
                 refine pv aH 31 118 (tr [23, 1, 2, 3, 1, 1, 1, 6]) ?_
                 refine tk 23 (some 110) (tr [26, 3, 1, 1, 1, 6]) (take_ofW aH.out dS.out (by kernel_rfl)) aI ?_
                 refine pv aH 26 113 (tr [27, 2, 1, 1, 1, 6]) ?_
                 refine pv aH 27 114 (tr [28, 1, 1, 1, 1, 6]) ?_
                 refine tk 28 (some 115) (tr [30, 1, 1, 6]) (take_ofW aH.out dS.out (by kernel_rfl)) aI ?_
                 refine tk 30 (some 117) (tf 32 6) (take_ofW aH.out dS.out (by kernel_rfl)) aI ?_
                 refine pv aH 32 119 (tf 33 5) ?_
                 refine pv aH 33 120 (tf 34 4) ?_
                 refine tk 34 (some 121) (tf 35 3) (take_ofW aH.out dS.out (by kernel_rfl)) aI ?_
                 refine pv aH 35 122 (tf 36 2) ?_
                 refine pv aH 36 123 (tf 37 1) ?_
                 refine pv aH 37 124 (tf 38 0) ?_
                 refine done_ (done_of aH.out (by kernel_rfl)) ?_
                 try go_wp2
                 go_meet
                 case rel => exact ⟨_, (decide (((rd_T80 aF (ji52)).f0) ≥ ((rd_T80 aF aB).f0))), (by first | rfl | (simp; done) | (simp only [← hji52] <;> (first | rfl | simp)) | (simp [*]; done)), H', ⟨by have := HJ1.out; have := HK2.out; have := HK3.out; first | omega | exact Nat.le_refl _⟩, ⟨KB aG⟩, ⟨K1 HB aM.out⟩⟩
                ·rw [if_neg oY] at H
                 exact absurd H (by simp)
               ·rw [if_neg oX] at H
                exact absurd H (by simp)
              ·rw [if_neg nJ] at H
               have c51b0 : decide (0 < aB) = false := decide_eq_false nJ
               clear nJ
               have H' := Aside0.mk H
               clear H
               try go_wp2
               replace aG := am (blk_drew aG.out)
               replace HB := am (below_drew1 HB.out)
               have fG : 0 ≤ (aB : Int) := OD
               have fH : aB < (aF.length : Int) := OD
               obtain ⟨aD, dA, dB, iA, bB, bC, bD, bE, bF, bG, bH, bI, bJ, bK, aL, cK, cL⟩ := at_T80 fJ.out aB fG fH
               have cM := aL
               have dC := bK
               have dD := bJ
               have dE := bI
               have dF := bH
               have dG := bG
               have dH := bF
               have dI := bE
               have dJ := bD
               have dK := bC
               have dL := bB
               cases iA
               replace bB := CX HB.out bB
               replace bC := CX HB.out bC
               replace bD := CX HB.out bD
               replace bE := CX HB.out bE
               replace bF := CX HB.out bF
               replace bG := CX HB.out bG
               replace bH := CX HB.out bH
               replace bI := CX HB.out bI
               replace bJ := CX HB.out bJ
               replace bK := CX HB.out bK
               replace aL := CX HB.out aL
               have cN := Aside0.mk cL
               have dU := Aside0.mk cK
               clear cL cK
               replace fG := eq_true fG
               replace fH := eq_true fH
               have fQ : 0 ≤ (aB : Int) := OD
               have fR : aB < (aF.length : Int) := OD
               obtain ⟨hR, eY, eZ, lV, bW, bX, bY, bZ, cA, cB, cC, cD, cE, cF, bL, dP, dQ⟩ := at_T80 fJ.out aB fQ fR
               have dR := bL
               have eF := cF
               have eG := cE
               have eH := cD
               have eI := cC
               have eJ := cB
               have eK := cA
               have eL := bZ
               have eM := bY
               have eN := bX
               have eO := bW
               obtain rfl : aD = hR := (by injection lV)
               replace bW := CX HB.out bW
               replace bX := CX HB.out bX
               replace bY := CX HB.out bY
               replace bZ := CX HB.out bZ
               replace cA := CX HB.out cA
               replace cB := CX HB.out cB
               replace cC := CX HB.out cC
               replace cD := CX HB.out cD
               replace cE := CX HB.out cE
               replace cF := CX HB.out cF
               replace bL := CX HB.out bL
               have eU := Aside0.mk dQ
               have hS := Aside0.mk dP
               clear dQ dP
               replace fQ := eq_true fQ
               replace fR := eq_true fR
               refine start_ (n := 38) (S := fun w' => ce6 w' eP (.int .i64 aK) (.slice fA aZ.length fB) (.int .i64 aN) (.slice fC bA.length fD) (.slice fO aE.length fE) (.slice (some aD) aF.length fF) (w'.cell? (aD.add ((aB).toNat * 11)) = some (.int .i64 ((rd_T80 aF aB).f0)) ∧ w'.cell? ⟨(aD.add ((aB).toNat * 11)).block, (aD.add ((aB).toNat * 11)).off + 1, none⟩ = some (.int .i64 ((rd_T80 aF aB).f1)) ∧ w'.cell? ⟨(aD.add ((aB).toNat * 11)).block, (aD.add ((aB).toNat * 11)).off + 2, none⟩ = some (.string ((rd_T80 aF aB).f2)) ∧ w'.cell? ⟨(aD.add ((aB).toNat * 11)).block, (aD.add ((aB).toNat * 11)).off + 3, none⟩ = some (.string ((rd_T80 aF aB).f3)) ∧ w'.cell? ⟨(aD.add ((aB).toNat * 11)).block, (aD.add ((aB).toNat * 11)).off + 4, none⟩ = some (.int .i64 ((rd_T80 aF aB).f4)) ∧ w'.cell? ⟨(aD.add ((aB).toNat * 11)).block, (aD.add ((aB).toNat * 11)).off + 5, none⟩ = some (.int .i64 ((rd_T80 aF aB).f5)) ∧ w'.cell? ⟨(aD.add ((aB).toNat * 11)).block, (aD.add ((aB).toNat * 11)).off + 6, none⟩ = some (.int .i64 ((rd_T80 aF aB).f6)) ∧ w'.cell? ⟨(aD.add ((aB).toNat * 11)).block, (aD.add ((aB).toNat * 11)).off + 7, none⟩ = some (.int .i64 ((rd_T80 aF aB).f7)) ∧ w'.cell? ⟨(aD.add ((aB).toNat * 11)).block, (aD.add ((aB).toNat * 11)).off + 8, none⟩ = some (.int .i64 ((rd_T80 aF aB).f8)) ∧ w'.cell? ⟨(aD.add ((aB).toNat * 11)).block, (aD.add ((aB).toNat * 11)).off + 9, none⟩ = some (.int .i64 ((rd_T80 aF aB).f9.f0)) ∧ w'.cell? ⟨(aD.add ((aB).toNat * 11)).block, (aD.add ((aB).toNat * 11)).off + 10, none⟩ = some (.slice dA ((rd_T80 aF aB).f9.f1).length dB) ∧ w'.cell? (aD.add ((aB).toNat * 11)) = some (.int .i64 ((rd_T80 aF aB).f0)) ∧ w'.cell? ⟨(aD.add ((aB).toNat * 11)).block, (aD.add ((aB).toNat * 11)).off + 1, none⟩ = some (.int .i64 ((rd_T80 aF aB).f1)) ∧ w'.cell? ⟨(aD.add ((aB).toNat * 11)).block, (aD.add ((aB).toNat * 11)).off + 2, none⟩ = some (.string ((rd_T80 aF aB).f2)) ∧ w'.cell? ⟨(aD.add ((aB).toNat * 11)).block, (aD.add ((aB).toNat * 11)).off + 3, none⟩ = some (.string ((rd_T80 aF aB).f3)) ∧ w'.cell? ⟨(aD.add ((aB).toNat * 11)).block, (aD.add ((aB).toNat * 11)).off + 4, none⟩ = some (.int .i64 ((rd_T80 aF aB).f4)) ∧ w'.cell? ⟨(aD.add ((aB).toNat * 11)).block, (aD.add ((aB).toNat * 11)).off + 5, none⟩ = some (.int .i64 ((rd_T80 aF aB).f5)) ∧ w'.cell? ⟨(aD.add ((aB).toNat * 11)).block, (aD.add ((aB).toNat * 11)).off + 6, none⟩ = some (.int .i64 ((rd_T80 aF aB).f6)) ∧ w'.cell? ⟨(aD.add ((aB).toNat * 11)).block, (aD.add ((aB).toNat * 11)).off + 7, none⟩ = some (.int .i64 ((rd_T80 aF aB).f7)) ∧ w'.cell? ⟨(aD.add ((aB).toNat * 11)).block, (aD.add ((aB).toNat * 11)).off + 8, none⟩ = some (.int .i64 ((rd_T80 aF aB).f8)) ∧ w'.cell? ⟨(aD.add ((aB).toNat * 11)).block, (aD.add ((aB).toNat * 11)).off + 9, none⟩ = some (.int .i64 ((rd_T80 aF aB).f9.f0)) ∧ w'.cell? ⟨(aD.add ((aB).toNat * 11)).block, (aD.add ((aB).toNat * 11)).off + 10, none⟩ = some (.slice eY ((rd_T80 aF aB).f9.f1).length eZ))) (ds := []) (tf 0 38) (by kernel_rfl) rfl rfl ⟨z0 _ aG.out, z1 _ aG.out, z2 _ aG.out, z3 _ aG.out, z4 _ aG.out, z5 _ aG.out, (CY HB.out dL), (CY HB.out dK), (CY HB.out dJ), (CY HB.out dI), (CY HB.out dH), (CY HB.out dG), (CY HB.out dF), (CY HB.out dE), (CY HB.out dD), (CY HB.out dC), (CY HB.out cM), (CY HB.out eO), (CY HB.out eN), (CY HB.out eM), (CY HB.out eL), (CY HB.out eK), (CY HB.out eJ), (CY HB.out eI), (CY HB.out eH), (CY HB.out eG), (CY HB.out eF), (CY HB.out dR)⟩ (fun aI => ?_); refine with_tabW spec_GateOk.tab11 spec_GateOk.bits11 (fun aH dS => ?_)
               generalize wr.drew = qU at aG HB cN eU bB bC aL bD bE bF bG bH bI bJ bK bW bX bL bY bZ cA cB cC cD cE cF aI ⊢
               refine pv aH 0 87 (tf 1 37) ?_
               refine pv aH 2 89 (tr [1, 1, 1, 35]) ?_
               refine tk 1 (some 88) (tf 3 35) (take_ofW aH.out dS.out (by kernel_rfl)) aI ?_
               refine pv aH 3 90 (tf 4 34) ?_
               refine tk 4 (some 91) (tf 5 33) (take_ofW aH.out dS.out (by kernel_rfl)) aI ?_
               refine one_ (i := 5) (N := some 92) (tf 6 32) rfl rfl (one_of aH.out (by kernel_rfl)) (by decide) (fun K hK => ?_)
               refine goes_ Tryz.func29 (by kernel_rfl) rfl #[.agg #[.int .i64 ((rd_T80 aF aB).f0), .int .i64 ((rd_T80 aF aB).f1), .string ((rd_T80 aF aB).f2), .string ((rd_T80 aF aB).f3), .int .i64 ((rd_T80 aF aB).f4), .int .i64 ((rd_T80 aF aB).f5), .int .i64 ((rd_T80 aF aB).f6), .int .i64 ((rd_T80 aF aB).f7), .int .i64 ((rd_T80 aF aB).f8), .int .i64 ((rd_T80 aF aB).f9.f0), .slice dA ((rd_T80 aF aB).f9.f1).length dB]] (by rfl) rfl rfl MT ?_
               with_reducible refine (spec_SaOk.calls k3 ((rd_T80 aF aB).f0) ((rd_T80 aF aB).f1) ((rd_T80 aF aB).f2) ((rd_T80 aF aB).f3) ((rd_T80 aF aB).f4) ((rd_T80 aF aB).f5) ((rd_T80 aF aB).f6) ((rd_T80 aF aB).f7) ((rd_T80 aF aB).f8) ((rd_T80 aF aB).f9.f0) _ _ ((rd_T80 aF aB).f9.f1) true _ ?_ ?_ nZ.out).mono ?_
               exact KD cN HB
               exact dU.out
               rintro e qV ⟨rfl, hb⟩
               refine ⟨_, rfl, ?_⟩
               replace aG := am (BB aG hb)
               replace HB := bl (K1 HB aM.out) hb
               (try clear hb)
               (try clear hb2)
               (try clear hk)
               (try clear hi)
               refine hK.out _ _ ⟨z0 _ aG.out, z1 _ aG.out, z2 _ aG.out, z3 _ aG.out, z4 _ aG.out, z5 _ aG.out, (CY HB.out dL), (CY HB.out dK), (CY HB.out dJ), (CY HB.out dI), (CY HB.out dH), (CY HB.out dG), (CY HB.out dF), (CY HB.out dE), (CY HB.out dD), (CY HB.out dC), (CY HB.out cM), (CY HB.out eO), (CY HB.out eN), (CY HB.out eM), (CY HB.out eL), (CY HB.out eK), (CY HB.out eJ), (CY HB.out eI), (CY HB.out eH), (CY HB.out eG), (CY HB.out eF), (CY HB.out dR)⟩ (fun aI => ?_)
               clear hK K
               refine nm (some 92) ?_
               refine pv aH 6 93 (tf 7 31) ?_
               refine pv aH 7 94 (tf 8 30) ?_
               refine pv aH 8 95 (tf 9 29) ?_
               refine pv aH 10 97 (tr [9, 1, 1, 27]) ?_
               refine pv aH 14 101 (tr [9, 1, 1, 3, 1, 23]) ?_
               refine tk 9 (some 96) (tr [11, 3, 1, 23]) (take_ofW aH.out dS.out (by kernel_rfl)) aI ?_
               refine pv aH 11 98 (tr [12, 2, 1, 23]) ?_
               refine pv aH 12 99 (tr [13, 1, 1, 23]) ?_
               refine tk 13 (some 100) (tf 15 23) (take_ofW aH.out dS.out (by kernel_rfl)) aI ?_
               refine tk 15 (some 102) (tf 16 22) (take_ofW aH.out dS.out (by kernel_rfl)) aI ?_
               refine pv aH 16 103 (tf 17 21) ?_
               refine pv aH 17 104 (tf 18 20) ?_
               refine pv aH 18 105 (tf 19 19) ?_
               refine pv aH 19 106 (tf 20 18) ?_
               refine pv aH 20 107 (tf 21 17) ?_
               refine pv aH 21 108 (tf 22 16) ?_
               refine pw aH 22 109 (tf 23 15) ?_
               refine pw aH 23 110 (tf 24 14) ?_
               refine pw aH 24 111 (tf 25 13) ?_
               refine pw aH 25 112 (tf 26 12) ?_
               refine pw aH 26 113 (tf 27 11) ?_
               refine pw aH 27 114 (tf 28 10) ?_
               refine pw aH 28 115 (tf 29 9) ?_
               refine pw aH 29 116 (tf 30 8) ?_
               refine pw aH 30 117 (tf 31 7) ?_
               refine pw aH 31 118 (tf 32 6) ?_
               refine pw aH 32 119 (tf 33 5) ?_
               refine pw aH 33 120 (tf 34 4) ?_
               refine pw aH 34 121 (tf 35 3) ?_
               refine pw aH 35 122 (tf 36 2) ?_
               refine pv aH 36 123 (tf 37 1) ?_
               refine pv aH 37 124 (tf 38 0) ?_
               refine done_ (done_of aH.out (by kernel_rfl)) ?_
               try go_wp2
               go_meet
               case rel => exact ⟨_, (false), (by first | rfl | (simp; done) | (simp [*]; done)), H', ⟨by have := HJ1.out; have := HK2.out; have := HK3.out; first | omega | exact Nat.le_refl _⟩, ⟨KB aG⟩, ⟨K1 HB aM.out⟩⟩
            ·replace oA := Bool.eq_false_iff.mpr oA
             subst oA
             have H1 := nf H
             clear H
             have H := H1
             clear H1
             have H' := Aside0.mk H
             clear H
             try go_wp2
             replace aG := am (blk_drew aG.out)
             replace HB := am (below_drew1 HB.out)
             have fG : 0 ≤ (aB : Int) := OD
             have fH : aB < (aF.length : Int) := OD
             obtain ⟨aD, dA, dB, iA, bB, bC, bD, bE, bF, bG, bH, bI, bJ, bK, aL, cK, cL⟩ := at_T80 fJ.out aB fG fH
             have cM := aL
             have dC := bK
             have dD := bJ
             have dE := bI
             have dF := bH
             have dG := bG
             have dH := bF
             have dI := bE
             have dJ := bD
             have dK := bC
             have dL := bB
             cases iA
             replace bB := CX HB.out bB
             replace bC := CX HB.out bC
             replace bD := CX HB.out bD
             replace bE := CX HB.out bE
             replace bF := CX HB.out bF
             replace bG := CX HB.out bG
             replace bH := CX HB.out bH
             replace bI := CX HB.out bI
             replace bJ := CX HB.out bJ
             replace bK := CX HB.out bK
             replace aL := CX HB.out aL
             have cN := Aside0.mk cL
             have dU := Aside0.mk cK
             clear cL cK
             replace fG := eq_true fG
             replace fH := eq_true fH
             refine start_ (n := 38) (S := fun w' => ce6 w' eP (.int .i64 aK) (.slice fA aZ.length fB) (.int .i64 aN) (.slice fC bA.length fD) (.slice fO aE.length fE) (.slice (some aD) aF.length fF) (w'.cell? (aD.add ((aB).toNat * 11)) = some (.int .i64 ((rd_T80 aF aB).f0)) ∧ w'.cell? ⟨(aD.add ((aB).toNat * 11)).block, (aD.add ((aB).toNat * 11)).off + 1, none⟩ = some (.int .i64 ((rd_T80 aF aB).f1)) ∧ w'.cell? ⟨(aD.add ((aB).toNat * 11)).block, (aD.add ((aB).toNat * 11)).off + 2, none⟩ = some (.string ((rd_T80 aF aB).f2)) ∧ w'.cell? ⟨(aD.add ((aB).toNat * 11)).block, (aD.add ((aB).toNat * 11)).off + 3, none⟩ = some (.string ((rd_T80 aF aB).f3)) ∧ w'.cell? ⟨(aD.add ((aB).toNat * 11)).block, (aD.add ((aB).toNat * 11)).off + 4, none⟩ = some (.int .i64 ((rd_T80 aF aB).f4)) ∧ w'.cell? ⟨(aD.add ((aB).toNat * 11)).block, (aD.add ((aB).toNat * 11)).off + 5, none⟩ = some (.int .i64 ((rd_T80 aF aB).f5)) ∧ w'.cell? ⟨(aD.add ((aB).toNat * 11)).block, (aD.add ((aB).toNat * 11)).off + 6, none⟩ = some (.int .i64 ((rd_T80 aF aB).f6)) ∧ w'.cell? ⟨(aD.add ((aB).toNat * 11)).block, (aD.add ((aB).toNat * 11)).off + 7, none⟩ = some (.int .i64 ((rd_T80 aF aB).f7)) ∧ w'.cell? ⟨(aD.add ((aB).toNat * 11)).block, (aD.add ((aB).toNat * 11)).off + 8, none⟩ = some (.int .i64 ((rd_T80 aF aB).f8)) ∧ w'.cell? ⟨(aD.add ((aB).toNat * 11)).block, (aD.add ((aB).toNat * 11)).off + 9, none⟩ = some (.int .i64 ((rd_T80 aF aB).f9.f0)) ∧ w'.cell? ⟨(aD.add ((aB).toNat * 11)).block, (aD.add ((aB).toNat * 11)).off + 10, none⟩ = some (.slice dA ((rd_T80 aF aB).f9.f1).length dB))) (ds := []) (tf 0 38) (by kernel_rfl) rfl rfl ⟨z0 _ aG.out, z1 _ aG.out, z2 _ aG.out, z3 _ aG.out, z4 _ aG.out, z5 _ aG.out, (CY HB.out dL), (CY HB.out dK), (CY HB.out dJ), (CY HB.out dI), (CY HB.out dH), (CY HB.out dG), (CY HB.out dF), (CY HB.out dE), (CY HB.out dD), (CY HB.out dC), (CY HB.out cM)⟩ (fun aI => ?_); refine with_tabW spec_GateOk.tab11 spec_GateOk.bits11 (fun aH dS => ?_)
             generalize wr.drew = qW at aG HB cN bB bC aL bD bE bF bG bH bI bJ bK aI ⊢
             refine pv aH 0 87 (tf 1 37) ?_
             refine pv aH 2 89 (tr [1, 1, 1, 35]) ?_
             refine tk 1 (some 88) (tf 3 35) (take_ofW aH.out dS.out (by kernel_rfl)) aI ?_
             refine pv aH 3 90 (tf 4 34) ?_
             refine tk 4 (some 91) (tf 5 33) (take_ofW aH.out dS.out (by kernel_rfl)) aI ?_
             refine one_ (i := 5) (N := some 92) (tf 6 32) rfl rfl (one_of aH.out (by kernel_rfl)) (by decide) (fun K hK => ?_)
             refine goes_ Tryz.func29 (by kernel_rfl) rfl #[.agg #[.int .i64 ((rd_T80 aF aB).f0), .int .i64 ((rd_T80 aF aB).f1), .string ((rd_T80 aF aB).f2), .string ((rd_T80 aF aB).f3), .int .i64 ((rd_T80 aF aB).f4), .int .i64 ((rd_T80 aF aB).f5), .int .i64 ((rd_T80 aF aB).f6), .int .i64 ((rd_T80 aF aB).f7), .int .i64 ((rd_T80 aF aB).f8), .int .i64 ((rd_T80 aF aB).f9.f0), .slice dA ((rd_T80 aF aB).f9.f1).length dB]] (by rfl) rfl rfl MT ?_
             with_reducible refine (spec_SaOk.calls k3 ((rd_T80 aF aB).f0) ((rd_T80 aF aB).f1) ((rd_T80 aF aB).f2) ((rd_T80 aF aB).f3) ((rd_T80 aF aB).f4) ((rd_T80 aF aB).f5) ((rd_T80 aF aB).f6) ((rd_T80 aF aB).f7) ((rd_T80 aF aB).f8) ((rd_T80 aF aB).f9.f0) _ _ ((rd_T80 aF aB).f9.f1) false _ ?_ ?_ nZ.out).mono ?_
             exact KD cN HB
             exact dU.out
             rintro e qX ⟨rfl, hb⟩
             refine ⟨_, rfl, ?_⟩
             replace aG := am (BB aG hb)
             replace HB := bl (K1 HB aM.out) hb
             (try clear hb)
             (try clear hb2)
             (try clear hk)
             (try clear hi)
             refine hK.out _ _ ⟨z0 _ aG.out, z1 _ aG.out, z2 _ aG.out, z3 _ aG.out, z4 _ aG.out, z5 _ aG.out, (CY HB.out dL), (CY HB.out dK), (CY HB.out dJ), (CY HB.out dI), (CY HB.out dH), (CY HB.out dG), (CY HB.out dF), (CY HB.out dE), (CY HB.out dD), (CY HB.out dC), (CY HB.out cM)⟩ (fun aI => ?_)
             clear hK K
             refine nm (some 92) ?_
             refine pv aH 6 93 (tf 7 31) ?_
             refine pv aH 7 94 (tf 8 30) ?_
             refine pw aH 8 95 (tf 9 29) ?_
             refine pw aH 9 96 (tf 10 28) ?_
             refine pw aH 10 97 (tf 11 27) ?_
             refine pw aH 11 98 (tf 12 26) ?_
             refine pw aH 12 99 (tf 13 25) ?_
             refine pw aH 13 100 (tf 14 24) ?_
             refine pw aH 14 101 (tf 15 23) ?_
             refine pw aH 15 102 (tf 16 22) ?_
             refine pw aH 16 103 (tf 17 21) ?_
             refine pv aH 17 104 (tf 18 20) ?_
             refine pv aH 18 105 (tf 19 19) ?_
             refine pw aH 19 106 (tf 20 18) ?_
             refine pw aH 20 107 (tf 21 17) ?_
             refine pw aH 21 108 (tf 22 16) ?_
             refine pw aH 22 109 (tf 23 15) ?_
             refine pw aH 23 110 (tf 24 14) ?_
             refine pw aH 24 111 (tf 25 13) ?_
             refine pw aH 25 112 (tf 26 12) ?_
             refine pw aH 26 113 (tf 27 11) ?_
             refine pw aH 27 114 (tf 28 10) ?_
             refine pw aH 28 115 (tf 29 9) ?_
             refine pw aH 29 116 (tf 30 8) ?_
             refine pw aH 30 117 (tf 31 7) ?_
             refine pw aH 31 118 (tf 32 6) ?_
             refine pw aH 32 119 (tf 33 5) ?_
             refine pw aH 33 120 (tf 34 4) ?_
             refine pw aH 34 121 (tf 35 3) ?_
             refine pw aH 35 122 (tf 36 2) ?_
             refine pw aH 36 123 (tf 37 1) ?_
             refine pv aH 37 124 (tf 38 0) ?_
             refine done_ (done_of aH.out (by kernel_rfl)) ?_
             try go_wp2
             go_meet
             case rel => exact ⟨_, (true), (by first | rfl | (simp; done) | (simp [*]; done)), H', ⟨by have := HJ1.out; have := HK2.out; have := HK3.out; first | omega | exact Nat.le_refl _⟩, ⟨KB aG⟩, ⟨K1 HB aM.out⟩⟩
           ·rw [if_neg nW] at H
            exact absurd H (by simp)
          case rest =>
           clear mY
           try clear c1
           try clear p1
           try clear q1
           try clear pV
           try clear c2
           try clear p2
           try clear c4
           try clear pW
           try clear pM
           try clear pN
           try clear nU
           try clear qY
           try clear qZ
           try clear rA
           try clear qG
           try clear pX
           try clear nW
           try clear oA
           try clear bB
           try clear bC
           try clear aL
           try clear bD
           try clear bE
           try clear bF
           try clear bG
           try clear bH
           try clear bI
           try clear bJ
           try clear bK
           try clear bW
           try clear bX
           try clear bL
           try clear bY
           try clear bZ
           try clear cA
           try clear cB
           try clear cC
           try clear cD
           try clear cE
           try clear cF
           try clear fG
           try clear fQ
           try clear fH
           try clear fR
           obtain ⟨kq, gM, rfl, HA, HJ42, aG, HB⟩ := hcut
           cases kq with
           | zero => exact absurd HA.out (by simp [spec_GateOk.j4])
           | succ kj42 =>
            have H := HA.out
            clear HA
            simp only [spec_GateOk.j4] at H
            by_cases pB : gM = true
            ·subst pB
             have H1 := pf H
             clear H
             have H := H1
             clear H1
             obtain rfl := sj H
             go_wp2
             go_ret
             exact ⟨ER, K1 HB aM.out⟩
            ·replace pB := Bool.eq_false_iff.mpr pB
             subst pB
             have H1 := nf H
             clear H
             have H := H1
             clear H1
             have H' := Aside0.mk H
             clear H
             go_wp2
             go_roundg kj42
             case measure => have := HJ1.out; have := HK2.out; have := HK3.out; have := HJ42.out; omega
             case rel => exact ⟨(wrap64 (aB + 1)), (by first | rfl | (simp; done) | (simp [*]; done)), H', ⟨by have := HJ1.out; have := HK2.out; have := HK3.out; have := HJ42.out; omega⟩, ⟨KB aG⟩, ⟨K1 HB aM.out⟩⟩
         ·rw [if_neg nH] at H
          have c42b0 : decide (aB < (aF.length : Int)) = false := decide_eq_false nH
          clear nH
          obtain rfl := sj H
          have ⟨_, _, _, _, _, _, _⟩ := y6 wr aG.out
          go_wp2
          go_ret
          exact ⟨ER, K1 HB aM.out⟩
mutual
def spec_WorldOk.j0 : Nat → Bool → Int → List (S115) → Int → List (S108) → List (S80) → List (S80) → Int → List (S115) → Int → List (S108) → List (S80) → List (S80) → List (S54) → List (S87) → List (S87) → Option (Bool)
 | 0, _, _, _, _, _, _, _, _, _, _, _, _, _, _, _, _ => none
 | k + 1, x40, x102000, x102001, x102002, x102003, x102004, x102005, x102006, x102007, x102008, x102009, x102010, x102011, x102012, x102013, x102014 => if x40 = true then (some false) else (spec_WorldOk.l0 k 0 x102000 x102001 x102002 x102003 x102004 x102005 x102006 x102007 x102008 x102009 x102010 x102011 x102012 x102013 x102014)
def spec_WorldOk.l0 : Nat → Int → Int → List (S115) → Int → List (S108) → List (S80) → List (S80) → Int → List (S115) → Int → List (S108) → List (S80) → List (S80) → List (S54) → List (S87) → List (S87) → Option (Bool)
 | 0, _, _, _, _, _, _, _, _, _, _, _, _, _, _, _, _ => none
 | k + 1, x3, x102000, x102001, x102002, x102003, x102004, x102005, x102006, x102007, x102008, x102009, x102010, x102011, x102012, x102013, x102014 => if x3 < (x102012.length : Int) then (if 0 ≤ x3 then (if (((rd_T54 x102012 x3).f0).size : Int) > 141 then (some false) else (spec_WorldOk.l0 k (wrap64 (x3 + 1)) x102000 x102001 x102002 x102003 x102004 x102005 x102006 x102007 x102008 x102009 x102010 x102011 x102012 x102013 x102014)) else (none)) else (some true)
end
def spec_WorldOk.f (k : Nat) (a0_0 : Int) (l0_1 : List (S115)) (a0_2 : Int) (l0_3 : List (S108)) (l0_4 : List (S80)) (l0_5 : List (S80)) (a0_6 : Int) (l0_7 : List (S115)) (a0_8 : Int) (l0_9 : List (S108)) (l0_10 : List (S80)) (l0_11 : List (S80)) (l0_12 : List (S54)) (l0_13 : List (S87)) (l0_14 : List (S87)) : Option (Bool) := (spec_GateOk.f k a0_0 l0_1 a0_2 l0_3 l0_4 l0_5).bind fun t102 => (if t102 = true then ((spec_GateOk.f k a0_6 l0_7 a0_8 l0_9 l0_10 l0_11).bind fun t103 => (if t103 = true then (if a0_0 = a0_6 then (if (l0_12.length : Int) > 12 then (spec_WorldOk.j0 k true a0_0 l0_1 a0_2 l0_3 l0_4 l0_5 a0_6 l0_7 a0_8 l0_9 l0_10 l0_11 l0_12 l0_13 l0_14) else (if (l0_13.length : Int) > 40 then (spec_WorldOk.j0 k true a0_0 l0_1 a0_2 l0_3 l0_4 l0_5 a0_6 l0_7 a0_8 l0_9 l0_10 l0_11 l0_12 l0_13 l0_14) else (spec_WorldOk.j0 k (decide ((l0_14.length : Int) > 40)) a0_0 l0_1 a0_2 l0_3 l0_4 l0_5 a0_6 l0_7 a0_8 l0_9 l0_10 l0_11 l0_12 l0_13 l0_14))) else (spec_WorldOk.j0 k true a0_0 l0_1 a0_2 l0_3 l0_4 l0_5 a0_6 l0_7 a0_8 l0_9 l0_10 l0_11 l0_12 l0_13 l0_14)) else (spec_WorldOk.j0 k true a0_0 l0_1 a0_2 l0_3 l0_4 l0_5 a0_6 l0_7 a0_8 l0_9 l0_10 l0_11 l0_12 l0_13 l0_14))) else (spec_WorldOk.j0 k true a0_0 l0_1 a0_2 l0_3 l0_4 l0_5 a0_6 l0_7 a0_8 l0_9 l0_10 l0_11 l0_12 l0_13 l0_14))
theorem spec_WorldOk.calls (k : Nat) (aG : Int) (aU : Option Addr) (aV : Nat) (aH : List (S115)) (aM : Int) (aW : Option Addr) (aX : Nat) (aI : List (S108)) (aY : Option Addr) (aZ : Nat) (aJ : List (S80)) (bA : Option Addr) (bB : Nat) (aK : List (S80)) (aL : Int) (lM : Option Addr) (lN : Nat) (aN : List (S115)) (aQ : Int) (lO : Option Addr) (lP : Nat) (aO : List (S108)) (bO : Option Addr) (bP : Nat) (aD : List (S80)) (bQ : Option Addr) (bR : Nat) (aE : List (S80)) (bS : Option Addr) (bT : Nat) (aB : List (S54)) (bU : Option Addr) (bV : Nat) (aC : List (S87)) (bW : Option Addr) (bX : Nat) (aF : List (S87)) (r : Bool) (w : World) (mC : Kd.C k115 w aU aH.length aH) (mD : aH.length ≤ aV) (mE : Kd.C k108 w aW aI.length aI) (mF : aI.length ≤ aX) (mG : Kd.C k80 w aY aJ.length aJ) (mH : aJ.length ≤ aZ) (mI : Kd.C k80 w bA aK.length aK) (mJ : aK.length ≤ bB) (mK : Kd.C k115 w lM aN.length aN) (mL : aN.length ≤ lN) (mM : Kd.C k108 w lO aO.length aO) (mN : aO.length ≤ lP) (lQ : Kd.C k80 w bO aD.length aD) (lR : aD.length ≤ bP) (lS : Kd.C k80 w bQ aE.length aE) (lT : aE.length ≤ bR) (lU : Kd.C k54 w bS aB.length aB) (lV : aB.length ≤ bT) (lW : Kd.C k87 w bU aC.length aC) (lX : aC.length ≤ bV) (lY : Kd.C k87 w bW aF.length aF) (lZ : aF.length ≤ bX) (h : spec_WorldOk.f k aG aH aM aI aJ aK aL aN aQ aO aD aE aB aC aF = some r) :
  Calls Tryz.prog 5 #[.agg #[.int .i64 aG, .slice aU aH.length aV, .int .i64 aM, .slice aW aI.length aX, .slice aY aJ.length aZ, .slice bA aK.length bB, .int .i64 aL, .slice lM aN.length lN, .int .i64 aQ, .slice lO aO.length lP, .slice bO aD.length bP, .slice bQ aE.length bR, .slice bS aB.length bT, .slice bU aC.length bV, .slice bW aF.length bX]] w fun e w' => e = .returned (.bool r) ∧ Below w.heap.size w w' := by
 have pC := Tryz.underlying45
 have pD := Tryz.underlying41
 have bG := Aside0.mk mC
 have bH := Aside0.mk mD
 clear mC mD
 have bI := Aside0.mk mE
 have bJ := Aside0.mk mF
 clear mE mF
 have bK := Aside0.mk mG
 have bL := Aside0.mk mH
 clear mG mH
 have bM := Aside0.mk mI
 have bN := Aside0.mk mJ
 clear mI mJ
 have bY := Aside0.mk mK
 have bZ := Aside0.mk mL
 clear mK mL
 have cA := Aside0.mk mM
 have cB := Aside0.mk mN
 clear mM mN
 have bC := Aside0.mk lQ
 have bD := Aside0.mk lR
 clear lQ lR
 have bE := Aside0.mk lS
 have bF := Aside0.mk lT
 clear lS lT
 have mA := Aside0.mk lU
 have oU := Aside0.mk lV
 clear lU lV
 have oV := Aside0.mk lW
 have oW := Aside0.mk lX
 clear lW lX
 have oX := Aside0.mk lY
 have oY := Aside0.mk lZ
 clear lY lZ
 have HB := am (Below.refl w.heap.size w)
 have H : ((spec_GateOk.f k aG aH aM aI aJ aK).bind fun mB => (if mB = true then ((spec_GateOk.f k aL aN aQ aO aD aE).bind fun lL => (if lL = true then (if aG = aL then (if (aB.length : Int) > 12 then (spec_WorldOk.j0 k true aG aH aM aI aJ aK aL aN aQ aO aD aE aB aC aF) else (if (aC.length : Int) > 40 then (spec_WorldOk.j0 k true aG aH aM aI aJ aK aL aN aQ aO aD aE aB aC aF) else (spec_WorldOk.j0 k (decide ((aF.length : Int) > 40)) aG aH aM aI aJ aK aL aN aQ aO aD aE aB aC aF))) else (spec_WorldOk.j0 k true aG aH aM aI aJ aK aL aN aQ aO aD aE aB aC aF)) else (spec_WorldOk.j0 k true aG aH aM aI aJ aK aL aN aQ aO aD aE aB aC aF))) else (spec_WorldOk.j0 k true aG aH aM aI aJ aK aL aN aQ aO aD aE aB aC aF))) = some r := h
 clear h
 have oZ := Aside0.mk H
 clear H
 go_enter Tryz.func5, Tryz.ntmps5
 go_upto_region 1 with (first | ((with_reducible refine gate_dst (N := 1) rfl ?_); (try (refine gate_guard (by rfl) ?_; dsimp only)); refine box_event rfl (N := 1) rfl (cs := #[.int .i64 aG, .slice aU aH.length aV, .int .i64 aM, .slice aW aI.length aX, .slice aY aJ.length aZ, .slice bA aK.length bB, .int .i64 aL, .slice lM aN.length lN, .int .i64 aQ, .slice lO aO.length lP, .slice bO aD.length bP, .slice bQ aE.length bR, .slice bS aB.length bT, .slice bU aC.length bV, .slice bW aF.length bX]) (t := 45) BX ?_; intro mO hg w3 mT hb; have aA := am (mT); have mU := am (GH HB hg); have aP := mU; replace HB := bl (KL HB) hb; clear hb mT hg))
 (try simp only [Act.put, List.setIfInBounds_toArray, List.set_cons_zero, List.set_cons_succ])
 go_cut [40] (fun pE wc => ∃ (kq : Nat) (fB : Bool), pE = .bool fB ∧ Aside0 (spec_WorldOk.j0 kq fB aG aH aM aI aJ aK aL aN aQ aO aD aE aB aC aF = some r) ∧ Aside0 (kq ≤ k) ∧ Aside0 (wc.heap[mO]? = some (.cells #[.int .i64 aG, (.slice aU aH.length aV), .int .i64 aM, (.slice aW aI.length aX), (.slice aY aJ.length aZ), (.slice bA aK.length bB), .int .i64 aL, (.slice lM aN.length lN), .int .i64 aQ, (.slice lO aO.length lP), (.slice bO aD.length bP), (.slice bQ aE.length bR), (.slice bS aB.length bT), (.slice bU aC.length bV), (.slice bW aF.length bX)] 45 (0, 0))) ∧ Aside0 (Below w.heap.size w wc))
 case first =>
  have H := oZ.out
  clear oZ
  replace H := bm H
  obtain ⟨mB, pA, H⟩ := H
  replace H : (if mB = true then ((spec_GateOk.f k aL aN aQ aO aD aE).bind fun lL => (if lL = true then (if aG = aL then (if (aB.length : Int) > 12 then (spec_WorldOk.j0 k true aG aH aM aI aJ aK aL aN aQ aO aD aE aB aC aF) else (if (aC.length : Int) > 40 then (spec_WorldOk.j0 k true aG aH aM aI aJ aK aL aN aQ aO aD aE aB aC aF) else (spec_WorldOk.j0 k (decide ((aF.length : Int) > 40)) aG aH aM aI aJ aK aL aN aQ aO aD aE aB aC aF))) else (spec_WorldOk.j0 k true aG aH aM aI aJ aK aL aN aQ aO aD aE aB aC aF)) else (spec_WorldOk.j0 k true aG aH aM aI aJ aK aL aN aQ aO aD aE aB aC aF))) else (spec_WorldOk.j0 k true aG aH aM aI aJ aK aL aN aQ aO aD aE aB aC aF)) = some r := H
  have A4 := Aside0.mk pA
  clear pA
  by_cases c5 : mB = true
  ·subst c5
   have H1 := pf H
   clear H
   have H := H1
   clear H1
   replace H := bm H
   obtain ⟨lL, pB, H⟩ := H
   replace H : (if lL = true then (if aG = aL then (if (aB.length : Int) > 12 then (spec_WorldOk.j0 k true aG aH aM aI aJ aK aL aN aQ aO aD aE aB aC aF) else (if (aC.length : Int) > 40 then (spec_WorldOk.j0 k true aG aH aM aI aJ aK aL aN aQ aO aD aE aB aC aF) else (spec_WorldOk.j0 k (decide ((aF.length : Int) > 40)) aG aH aM aI aJ aK aL aN aQ aO aD aE aB aC aF))) else (spec_WorldOk.j0 k true aG aH aM aI aJ aK aL aN aQ aO aD aE aB aC aF)) else (spec_WorldOk.j0 k true aG aH aM aI aJ aK aL aN aQ aO aD aE aB aC aF)) = some r := H
   have A6 := Aside0.mk pB
   clear pB
   by_cases c7 : lL = true
   ·subst c7
    have H1 := pf H
    clear H
    have H := H1
    clear H1
    by_cases c8 : aG = aL
    ·rw [if_pos c8] at H
     have c8b0 : (aG == aL) = true := beq_iff_eq.mpr c8
     have c8b1 : (aG != aL) = false := bne_eq_false_iff_eq.mpr c8
     clear c8
     (first | rw [c8b0] | (simp only [i64_w, i32_w]; rw [c8b0]) | skip)
     by_cases c9 : (aB.length : Int) > 12
     ·rw [if_pos c9] at H
      have c9b0 : decide (12 < (aB.length : Int)) = true := decide_eq_true c9
      have c9b1 : decide (12 < aB.length) = true := decide_eq_true (by omega)
      clear c9
      have H' := Aside0.mk H
      clear H
      obtain ⟨fC, fD, fE, fF, fG, fH, fI, fJ, fK, fL, cC, cD, cE, cF, cG, fM⟩ := y15 w3 aA.out
      go_wp2_with (first | ((with_reducible refine gate_callee (f := 12) rfl ?_); refine goesL_ (some 6) rfl rfl Tryz.func12 (by kernel_rfl) rfl #[.agg #[.int .i64 aG, .slice aU aH.length aV, .int .i64 aM, .slice aW aI.length aX, .slice aY aJ.length aZ, .slice bA aK.length bB]] rfl MT ?_; (with_reducible refine (spec_GateOk.calls k aG _ _ aH aM _ _ aI _ _ aJ _ _ aK true _ ?_ ?_ ?_ ?_ ?_ ?_ ?_ ?_ A4.out).mono ?_); exact KD bG HB; exact bH.out; exact KD bI HB; exact bJ.out; exact KD bK HB; exact bL.out; exact KD bM HB; exact bN.out; rintro e pF ⟨rfl, hb⟩; refine ⟨_, rfl, ?_⟩; replace aA := am (BB aA hb); replace HB := bl (K1 HB aP.out) hb; (try clear hb); obtain ⟨fN, fO, fP, fQ, fR, fS, fT, fU, fV, fW, cH, cI, cJ, cK, cL, fX⟩ := y15 pF aA.out) | (go_at_call 12; (with_reducible refine (spec_GateOk.calls k aL _ _ aN aQ _ _ aO _ _ aD _ _ aE true _ ?_ ?_ ?_ ?_ ?_ ?_ ?_ ?_ A6.out).mono ?_); exact KD bY HB; exact bZ.out; exact KD cA HB; exact cB.out; exact KD bC HB; exact bD.out; exact KD bE HB; exact bF.out; rintro e pG ⟨rfl, hb⟩; replace aA := am (BB aA hb); replace HB := bl (K1 HB aP.out) hb; (try clear hb); obtain ⟨fY, fZ, gA, gB, gC, gD, gE, gF, gG, gH, cM, cN, cO, cP, cQ, gI⟩ := y15 pG aA.out))
      go_meet
      case rel => exact ⟨_, (true), (by first | rfl | (simp; done) | (simp [*]; done)), H', ⟨by first | omega | exact Nat.le_refl _⟩, ⟨KB aA⟩, ⟨K1 HB aP.out⟩⟩
     ·rw [if_neg c9] at H
      have c9b0 : decide (12 < (aB.length : Int)) = false := decide_eq_false c9
      have c9b1 : decide (12 < aB.length) = false := decide_eq_false (by omega)
      clear c9
      by_cases mP : (aC.length : Int) > 40
      ·rw [if_pos mP] at H
       have c15b0 : decide (40 < (aC.length : Int)) = true := decide_eq_true mP
       have c15b1 : decide (40 < aC.length) = true := decide_eq_true (by omega)
       clear mP
       have H' := Aside0.mk H
       clear H
       obtain ⟨gJ, gK, gL, gM, gN, gO, gP, gQ, gR, gS, cR, cS, cT, cU, cV, gT⟩ := y15 w3 aA.out
       go_wp2_with (first | ((with_reducible refine gate_callee (f := 12) rfl ?_); refine goesL_ (some 6) rfl rfl Tryz.func12 (by kernel_rfl) rfl #[.agg #[.int .i64 aG, .slice aU aH.length aV, .int .i64 aM, .slice aW aI.length aX, .slice aY aJ.length aZ, .slice bA aK.length bB]] rfl MT ?_; (with_reducible refine (spec_GateOk.calls k aG _ _ aH aM _ _ aI _ _ aJ _ _ aK true _ ?_ ?_ ?_ ?_ ?_ ?_ ?_ ?_ A4.out).mono ?_); exact KD bG HB; exact bH.out; exact KD bI HB; exact bJ.out; exact KD bK HB; exact bL.out; exact KD bM HB; exact bN.out; rintro e pH ⟨rfl, hb⟩; refine ⟨_, rfl, ?_⟩; replace aA := am (BB aA hb); replace HB := bl (K1 HB aP.out) hb; (try clear hb); obtain ⟨gU, gV, gW, gX, gY, gZ, hA, hB, hC, hD, cW, cX, cY, cZ, dA, hE⟩ := y15 pH aA.out) | (go_at_call 12; (with_reducible refine (spec_GateOk.calls k aL _ _ aN aQ _ _ aO _ _ aD _ _ aE true _ ?_ ?_ ?_ ?_ ?_ ?_ ?_ ?_ A6.out).mono ?_); exact KD bY HB; exact bZ.out; exact KD cA HB; exact cB.out; exact KD bC HB; exact bD.out; exact KD bE HB; exact bF.out; rintro e pI ⟨rfl, hb⟩; replace aA := am (BB aA hb); replace HB := bl (K1 HB aP.out) hb; (try clear hb); obtain ⟨hF, hG, hH, hI, hJ, hK, hL, hM, hN, hO, dB, dC, dD, dE, dF, hP⟩ := y15 pI aA.out))
       go_meet
       case rel => exact ⟨_, (true), (by first | rfl | (simp; done) | (simp [*]; done)), H', ⟨by first | omega | exact Nat.le_refl _⟩, ⟨KB aA⟩, ⟨K1 HB aP.out⟩⟩
      ·rw [if_neg mP] at H
       have c15b0 : decide (40 < (aC.length : Int)) = false := decide_eq_false mP
       have c15b1 : decide (40 < aC.length) = false := decide_eq_false (by omega)
       clear mP
       have H' := Aside0.mk H
       clear H
       obtain ⟨hQ, hR, hS, hT, hU, hV, hW, hX, hY, hZ, dG, dH, dI, dJ, dK, iA⟩ := y15 w3 aA.out
       go_wp2_with (first | ((with_reducible refine gate_callee (f := 12) rfl ?_); refine goesL_ (some 6) rfl rfl Tryz.func12 (by kernel_rfl) rfl #[.agg #[.int .i64 aG, .slice aU aH.length aV, .int .i64 aM, .slice aW aI.length aX, .slice aY aJ.length aZ, .slice bA aK.length bB]] rfl MT ?_; (with_reducible refine (spec_GateOk.calls k aG _ _ aH aM _ _ aI _ _ aJ _ _ aK true _ ?_ ?_ ?_ ?_ ?_ ?_ ?_ ?_ A4.out).mono ?_); exact KD bG HB; exact bH.out; exact KD bI HB; exact bJ.out; exact KD bK HB; exact bL.out; exact KD bM HB; exact bN.out; rintro e pJ ⟨rfl, hb⟩; refine ⟨_, rfl, ?_⟩; replace aA := am (BB aA hb); replace HB := bl (K1 HB aP.out) hb; (try clear hb); obtain ⟨iB, iC, iD, iE, iF, iG, iH, iI, iJ, iK, dL, dM, dN, dO, dP, iL⟩ := y15 pJ aA.out) | (go_at_call 12; (with_reducible refine (spec_GateOk.calls k aL _ _ aN aQ _ _ aO _ _ aD _ _ aE true _ ?_ ?_ ?_ ?_ ?_ ?_ ?_ ?_ A6.out).mono ?_); exact KD bY HB; exact bZ.out; exact KD cA HB; exact cB.out; exact KD bC HB; exact bD.out; exact KD bE HB; exact bF.out; rintro e pK ⟨rfl, hb⟩; replace aA := am (BB aA hb); replace HB := bl (K1 HB aP.out) hb; (try clear hb); obtain ⟨iM, iN, iO, iP, iQ, iR, iS, iT, iU, iV, dQ, dR, dS, dT, dU, iW⟩ := y15 pK aA.out))
       go_meet
       case rel => exact ⟨_, (decide ((aF.length : Int) > 40)), (by first | rfl | (simp; done) | (simp [*]; done)), H', ⟨by first | omega | exact Nat.le_refl _⟩, ⟨KB aA⟩, ⟨K1 HB aP.out⟩⟩
    ·rw [if_neg c8] at H
     have c8b0 : (aG == aL) = false := beq_eq_false_iff_ne.mpr c8
     have c8b1 : (aG != aL) = true := bne_iff_ne.mpr c8
     (first | rw [c8b0] | (simp only [i64_w, i32_w]; rw [c8b0]) | skip)
     have H' := Aside0.mk H
     clear H
     obtain ⟨iX, iY, iZ, jA, jB, jC, jD, jE, jF, jG, dV, dW, dX, dY, dZ, jH⟩ := y15 w3 aA.out
     go_wp2_with (first | ((with_reducible refine gate_callee (f := 12) rfl ?_); refine goesL_ (some 6) rfl rfl Tryz.func12 (by kernel_rfl) rfl #[.agg #[.int .i64 aG, .slice aU aH.length aV, .int .i64 aM, .slice aW aI.length aX, .slice aY aJ.length aZ, .slice bA aK.length bB]] rfl MT ?_; (with_reducible refine (spec_GateOk.calls k aG _ _ aH aM _ _ aI _ _ aJ _ _ aK true _ ?_ ?_ ?_ ?_ ?_ ?_ ?_ ?_ A4.out).mono ?_); exact KD bG HB; exact bH.out; exact KD bI HB; exact bJ.out; exact KD bK HB; exact bL.out; exact KD bM HB; exact bN.out; rintro e pL ⟨rfl, hb⟩; refine ⟨_, rfl, ?_⟩; replace aA := am (BB aA hb); replace HB := bl (K1 HB aP.out) hb; (try clear hb); obtain ⟨jI, jJ, jK, jL, jM, jN, jO, jP, jQ, jR, eA, eB, eC, eD, eE, jS⟩ := y15 pL aA.out) | (go_at_call 12; (with_reducible refine (spec_GateOk.calls k aL _ _ aN aQ _ _ aO _ _ aD _ _ aE true _ ?_ ?_ ?_ ?_ ?_ ?_ ?_ ?_ A6.out).mono ?_); exact KD bY HB; exact bZ.out; exact KD cA HB; exact cB.out; exact KD bC HB; exact bD.out; exact KD bE HB; exact bF.out; rintro e pM ⟨rfl, hb⟩; replace aA := am (BB aA hb); replace HB := bl (K1 HB aP.out) hb; (try clear hb); obtain ⟨jT, jU, jV, jW, jX, jY, jZ, kA, kB, kC, eF, eG, eH, eI, eJ, kD⟩ := y15 pM aA.out))
     go_meet
     case rel => exact ⟨_, (true), (by first | rfl | (simp; done) | (simp [*]; done)), H', ⟨by first | omega | exact Nat.le_refl _⟩, ⟨KB aA⟩, ⟨K1 HB aP.out⟩⟩
   ·replace c7 := Bool.eq_false_iff.mpr c7
    subst c7
    have H1 := nf H
    clear H
    have H := H1
    clear H1
    have H' := Aside0.mk H
    clear H
    obtain ⟨kE, kF, kG, kH, kI, kJ, kK, kL, kM, kN, eK, eL, eM, eN, eO, kO⟩ := y15 w3 aA.out
    go_wp2_with (first | ((with_reducible refine gate_callee (f := 12) rfl ?_); refine goesL_ (some 6) rfl rfl Tryz.func12 (by kernel_rfl) rfl #[.agg #[.int .i64 aG, .slice aU aH.length aV, .int .i64 aM, .slice aW aI.length aX, .slice aY aJ.length aZ, .slice bA aK.length bB]] rfl MT ?_; (with_reducible refine (spec_GateOk.calls k aG _ _ aH aM _ _ aI _ _ aJ _ _ aK true _ ?_ ?_ ?_ ?_ ?_ ?_ ?_ ?_ A4.out).mono ?_); exact KD bG HB; exact bH.out; exact KD bI HB; exact bJ.out; exact KD bK HB; exact bL.out; exact KD bM HB; exact bN.out; rintro e pN ⟨rfl, hb⟩; refine ⟨_, rfl, ?_⟩; replace aA := am (BB aA hb); replace HB := bl (K1 HB aP.out) hb; (try clear hb); obtain ⟨kP, kQ, kR, kS, kT, kU, kV, kW, kX, kY, eP, eQ, eR, eS, eT, kZ⟩ := y15 pN aA.out) | (go_at_call 12; (with_reducible refine (spec_GateOk.calls k aL _ _ aN aQ _ _ aO _ _ aD _ _ aE false _ ?_ ?_ ?_ ?_ ?_ ?_ ?_ ?_ A6.out).mono ?_); exact KD bY HB; exact bZ.out; exact KD cA HB; exact cB.out; exact KD bC HB; exact bD.out; exact KD bE HB; exact bF.out; rintro e pP ⟨rfl, hb⟩; replace aA := am (BB aA hb); replace HB := bl (K1 HB aP.out) hb; (try clear hb)))
    go_meet
    case rel => exact ⟨_, (true), (by first | rfl | (simp; done) | (simp [*]; done)), H', ⟨by first | omega | exact Nat.le_refl _⟩, ⟨KB aA⟩, ⟨K1 HB aP.out⟩⟩
  ·replace c5 := Bool.eq_false_iff.mpr c5
   subst c5
   have H1 := nf H
   clear H
   have H := H1
   clear H1
   have H' := Aside0.mk H
   clear H
   obtain ⟨lA, lB, lC, lD, lE, lF, lG, lH, lI, lJ, eU, eV, eW, eX, eY, lK⟩ := y15 w3 aA.out
   go_wp2_with (first | ((with_reducible refine gate_callee (f := 12) rfl ?_); refine goesL_ (some 6) rfl rfl Tryz.func12 (by kernel_rfl) rfl #[.agg #[.int .i64 aG, .slice aU aH.length aV, .int .i64 aM, .slice aW aI.length aX, .slice aY aJ.length aZ, .slice bA aK.length bB]] rfl MT ?_; (with_reducible refine (spec_GateOk.calls k aG _ _ aH aM _ _ aI _ _ aJ _ _ aK false _ ?_ ?_ ?_ ?_ ?_ ?_ ?_ ?_ A4.out).mono ?_); exact KD bG HB; exact bH.out; exact KD bI HB; exact bJ.out; exact KD bK HB; exact bL.out; exact KD bM HB; exact bN.out; rintro e pQ ⟨rfl, hb⟩; refine ⟨_, rfl, ?_⟩; replace aA := am (BB aA hb); replace HB := bl (K1 HB aP.out) hb; (try clear hb)))
   go_meet
   case rel => exact ⟨_, (true), (by first | rfl | (simp; done) | (simp [*]; done)), H', ⟨by first | omega | exact Nat.le_refl _⟩, ⟨KB aA⟩, ⟨K1 HB aP.out⟩⟩
 case rest =>
  clear oZ
  try clear c1
  try clear p2
  try clear c5
  try clear c7
  try clear c8
  try clear c8b0
  try clear c8b1
  try clear c9
  try clear c9b0
  try clear c9b1
  try clear pO
  try clear mP
  try clear c15b0
  try clear c15b1
  try clear fC fD cC cD cE cF cG fE fF fG fH fI fJ fK fL fM
  try clear fN fO cH cI cJ cK cL fP fQ fR fS fT fU fV fW fX
  try clear fY fZ cM cN cO cP cQ gA gB gC gD gE gF gG gH gI
  try clear gJ gK cR cS cT cU cV gL gM gN gO gP gQ gR gS gT
  try clear gU gV cW cX cY cZ dA gW gX gY gZ hA hB hC hD hE
  try clear hF hG dB dC dD dE dF hH hI hJ hK hL hM hN hO hP
  try clear hQ hR dG dH dI dJ dK hS hT hU hV hW hX hY hZ iA
  try clear iB iC dL dM dN dO dP iD iE iF iG iH iI iJ iK iL
  try clear iM iN dQ dR dS dT dU iO iP iQ iR iS iT iU iV iW
  try clear iX iY dV dW dX dY dZ iZ jA jB jC jD jE jF jG jH
  try clear jI jJ eA eB eC eD eE jK jL jM jN jO jP jQ jR jS
  try clear jT jU eF eG eH eI eJ jV jW jX jY jZ kA kB kC kD
  try clear kE kF eK eL eM eN eO kG kH kI kJ kK kL kM kN kO
  try clear kP kQ eP eQ eR eS eT kR kS kT kU kV kW kX kY kZ
  try clear lA lB eU eV eW eX eY lC lD lE lF lG lH lI lJ lK
  obtain ⟨kq, fB, rfl, HA, HJ1, aA, HB⟩ := hcut
  cases kq with
  | zero => exact absurd HA.out (by simp [spec_WorldOk.j0])
  | succ kj1 =>
   have H := HA.out
   clear HA
   simp only [spec_WorldOk.j0] at H
   by_cases mV : fB = true
   ·subst mV
    have H1 := pf H
    clear H
    have H := H1
    clear H1
    obtain rfl := sj H
    go_wp2
    go_ret
    exact ⟨ER, K1 HB aP.out⟩
   ·replace mV := Bool.eq_false_iff.mpr mV
    subst mV
    have H1 := nf H
    clear H
    have H := H1
    clear H1
    have H' := Aside0.mk H
    clear H
    go_wp2
    go_loopg [3] kj1 (fun kq v3 w' => ∃ (aR : Int), v3 = .int .i64 aR ∧ Aside0 (spec_WorldOk.l0 kq aR aG aH aM aI aJ aK aL aN aQ aO aD aE aB aC aF = some r) ∧ Aside0 (kq ≤ kj1) ∧ Aside0 (w'.heap[mO]? = some (.cells #[.int .i64 aG, (.slice aU aH.length aV), .int .i64 aM, (.slice aW aI.length aX), (.slice aY aJ.length aZ), (.slice bA aK.length bB), .int .i64 aL, (.slice lM aN.length lN), .int .i64 aQ, (.slice lO aO.length lP), (.slice bO aD.length bP), (.slice bQ aE.length bR), (.slice bS aB.length bT), (.slice bU aC.length bV), (.slice bW aF.length bX)] 45 (0, 0))) ∧ Aside0 (Below w.heap.size w w'))
    case atStart => exact ⟨(0), (by first | rfl | (simp; done) | (simp [*]; done)), H', ⟨Nat.le_refl _⟩, ⟨KB aA⟩, ⟨K1 HB aP.out⟩⟩
    case round =>
     clear H'
     try clear c1
     try clear p2
     try clear c3
     try clear c5
     try clear c7
     try clear c8
     try clear c8b0
     try clear c8b1
     try clear c9
     try clear c9b0
     try clear c9b1
     try clear pO
     try clear mP
     try clear c15b0
     try clear c15b1
     try clear mV
     try clear fC fD cC cD cE cF cG fE fF fG fH fI fJ fK fL fM
     try clear fN fO cH cI cJ cK cL fP fQ fR fS fT fU fV fW fX
     try clear fY fZ cM cN cO cP cQ gA gB gC gD gE gF gG gH gI
     try clear gJ gK cR cS cT cU cV gL gM gN gO gP gQ gR gS gT
     try clear gU gV cW cX cY cZ dA gW gX gY gZ hA hB hC hD hE
     try clear hF hG dB dC dD dE dF hH hI hJ hK hL hM hN hO hP
     try clear hQ hR dG dH dI dJ dK hS hT hU hV hW hX hY hZ iA
     try clear iB iC dL dM dN dO dP iD iE iF iG iH iI iJ iK iL
     try clear iM iN dQ dR dS dT dU iO iP iQ iR iS iT iU iV iW
     try clear iX iY dV dW dX dY dZ iZ jA jB jC jD jE jF jG jH
     try clear jI jJ eA eB eC eD eE jK jL jM jN jO jP jQ jR jS
     try clear jT jU eF eG eH eI eJ jV jW jX jY jZ kA kB kC kD
     try clear kE kF eK eL eM eN eO kG kH kI kJ kK kL kM kN kO
     try clear kP kQ eP eQ eR eS eT kR kS kT kU kV kW kX kY kZ
     try clear lA lB eU eV eW eX eY lC lD lE lF lG lH lI lJ lK
     try clear p2
     obtain ⟨aR, rfl, HA, HK2, aA, HB⟩ := hrel
     cases gk with
     | zero => exact absurd HA.out (by simp [spec_WorldOk.l0])
     | succ k2 =>
      have H := HA.out
      clear HA
      simp only [spec_WorldOk.l0] at H
      by_cases mR : aR < (aB.length : Int)
      ·rw [if_pos mR] at H
       have c38b0 : decide (aR < (aB.length : Int)) = true := decide_eq_true mR
       clear mR
       by_cases nM : 0 ≤ aR
       ·rw [if_pos nM] at H
        have c39b0 : decide (0 ≤ aR) = true := decide_eq_true nM
        clear nM
        by_cases mS : (((rd_T54 aB aR).f0).size : Int) > 141
        ·rw [if_pos mS] at H
         have c40b0 : decide (141 < (((rd_T54 aB aR).f0).size : Int)) = true := decide_eq_true mS
         have c40b1 : decide (141 < ((rd_T54 aB aR).f0).size) = true := decide_eq_true (by omega)
         clear mS
         obtain rfl := sj H
         have ⟨_, _, _, _, _, _, _, _, _, _, _, _, _, _, _, _⟩ := y15 wr aA.out
         have eZ : 0 ≤ (aR : Int) := OD
         have fA : aR < (aB.length : Int) := OD
         obtain ⟨nB, mQ, aS, aT⟩ := at_T54 mA.out aR eZ fA
         cases mQ
         replace aS := CX HB.out aS
         replace aT := CX HB.out aT
         replace eZ := eq_true eZ
         replace fA := eq_true fA
         go_wp2
         go_ret
         exact ⟨ER, K1 HB aP.out⟩
        ·rw [if_neg mS] at H
         have c40b0 : decide (141 < (((rd_T54 aB aR).f0).size : Int)) = false := decide_eq_false mS
         have c40b1 : decide (141 < ((rd_T54 aB aR).f0).size) = false := decide_eq_false (by omega)
         clear mS
         have H' := Aside0.mk H
         clear H
         have ⟨_, _, _, _, _, _, _, _, _, _, _, _, _, _, _, _⟩ := y15 wr aA.out
         have eZ : 0 ≤ (aR : Int) := OD
         have fA : aR < (aB.length : Int) := OD
         obtain ⟨nB, mQ, aS, aT⟩ := at_T54 mA.out aR eZ fA
         cases mQ
         replace aS := CX HB.out aS
         replace aT := CX HB.out aT
         replace eZ := eq_true eZ
         replace fA := eq_true fA
         go_wp2
         go_roundg k2
         case measure => have := HJ1.out; have := HK2.out; omega
         case rel => exact ⟨(wrap64 (aR + 1)), (by first | rfl | (simp; done) | (simp [*]; done)), H', ⟨by have := HJ1.out; have := HK2.out; omega⟩, ⟨KB aA⟩, ⟨K1 HB aP.out⟩⟩
       ·rw [if_neg nM] at H
        exact absurd H (by simp)
      ·rw [if_neg mR] at H
       have c38b0 : decide (aR < (aB.length : Int)) = false := decide_eq_false mR
       clear mR
       obtain rfl := sj H
       have ⟨_, _, _, _, _, _, _, _, _, _, _, _, _, _, _, _⟩ := y15 wr aA.out
       go_wp2
       go_ret
       exact ⟨ER, K1 HB aP.out⟩
def laws_toSeen.f (a0_0 : Int) (a0_1 : Int) (a0_2 : Int) (a0_3 : Int) : Option (Int × Int × Int × Int) := (laws_toCall.f a0_0 a0_1 a0_2).bind fun bt104 => (some (bt104.1, bt104.2.1, bt104.2.2, a0_3))
theorem laws_toSeen.calls (aG : Int) (aH : Int) (aI : Int) (aJ : Int) (r1 : Int) (r2 : Int) (r3 : Int) (r4 : Int) (w : World) (h : laws_toSeen.f aG aH aI aJ = some (r1, r2, r3, r4)) :
  Calls Tryz.prog 73 #[.agg #[.int .i64 aG, .int .i64 aH, .int .i64 aI, .int .i64 aJ]] w fun e w' => e = .returned (.agg #[.int .i64 r1, .int .i64 r2, .int .i64 r3, .int .i64 r4]) ∧ Below w.heap.size w w' := by
 have bT := Tryz.underlying137
 have bU := Tryz.underlying108
 have bV := Tryz.underlying135
 have bW := Tryz.underlying106
 have HB := am (Below.refl w.heap.size w)
 have H : ((laws_toCall.f aG aH aI).bind fun aQ => (some (aQ.1, aQ.2.1, aQ.2.2, aJ))) = some (r1, r2, r3, r4) := h
 clear h
 replace H := bm H
 obtain ⟨⟨aK, aR, aT⟩, bX, H⟩ := H
 replace H : (some (aK, aR, aT, aJ)) = some (r1, r2, r3, r4) := H
 have A2 := Aside0.mk bX
 clear bX
 simp only [Option.some.injEq, Prod.mk.injEq] at H
 obtain ⟨rfl, rfl, rfl, rfl⟩ := H
 go_enter Tryz.func73, Tryz.ntmps73
 go_wp2_with (first | ((with_reducible refine gate_dst (N := 1) rfl ?_); refine box_event rfl (N := 1) rfl (cs := #[.int .i64 aG, .int .i64 aH, .int .i64 aI, .int .i64 aJ]) (t := 137) BX ?_; intro bY hg w3 aE hb; have aB := am (aE); have aV := am (GH HB hg); have aD := aV; replace HB := bl (KL HB) hb; clear hb aE hg) | ((with_reducible refine gate_dst (N := 2) rfl ?_); refine box_event rfl (N := 2) rfl (cs := #[.int .i64 0, .int .i64 0, .int .i64 0, .int .i64 0]) (t := 108) BX ?_; intro aW hg w4 aE hb; have aC := am (aE); have aX := am (GH1 HB aD.out hg); have aF := aX; replace HB := bl (K1 HB aD.out) hb; have aL := am (NL aB hg); have aM := am (NG aB hg); replace aB := am (BB aB hb); clear hb aE hg) | ((with_reducible refine gate_dst (N := 3) rfl ?_); refine box_event rfl (N := 3) rfl (cs := #[.int .i64 0, .int .i64 0, .int .i64 0, .int .i64 0]) (t := 108) BX ?_; intro bZ hg w5 aE hb; have aS := am (aE); have aY := am (GH2 HB aD.out aF.out hg); have aU := aY; replace HB := bl (K2 HB aD.out aF.out) hb; have aN := am (NL aB hg); have aO := am (NG aB hg); replace aB := am (BB aB hb); have aA := am (NL aC hg); have aP := am (NG aC hg); replace aC := am (BB aC hb); clear hb aE hg; have cC := aL.out; have cD := aM.out; have cE := aN.out; have cF := aO.out; have ⟨_, _, _, _, _⟩ := y4 w5 aB.out) | ((with_reducible refine gate_callee (f := 91) rfl ?_); refine goesL_ (some 6) rfl rfl Tryz.func91 (by kernel_rfl) rfl #[.agg #[.int .i64 aG, .int .i64 aH, .int .i64 aI]] rfl MT ?_; (with_reducible refine (laws_toCall.calls aG aH aI aK aR aT _ A2.out).mono ?_); rintro e w9 ⟨rfl, hb⟩; refine ⟨_, rfl, ?_⟩; replace aB := am (BB aB hb); replace aC := am (BB aC hb); replace aS := am (BB aS hb); replace HB := bl (K3 HB aD.out aF.out aU.out) hb; (try clear hb); have cA := aP.out; have cB := aA.out; have ⟨_, _, _, _, _⟩ := y4 w9 aS.out; have ⟨_, _, _, _, _⟩ := y4 w9 aB.out; have ⟨_, _, _, _, _⟩ := y4 w9 aC.out))
 refine bodyPost_ret (results_cell_row rfl _ _ aW 108 #[.int .i64 aK, .int .i64 aR, .int .i64 aT, .int .i64 aJ] (0, 0) _ rfl (by refine BD ?_; refine blk_put (cs := #[.int .i64 aK, .int .i64 aR, .int .i64 aT, .int .i64 0]) ?_ 3 _ rfl; refine BD ?_; refine blk_put (cs := #[.int .i64 aK, .int .i64 aR, .int .i64 0, .int .i64 0]) ?_ 2 _ rfl; refine BD ?_; refine blk_put (cs := #[.int .i64 aK, .int .i64 0, .int .i64 0, .int .i64 0]) ?_ 1 _ rfl; refine BD ?_; refine blk_put (cs := #[.int .i64 0, .int .i64 0, .int .i64 0, .int .i64 0]) ?_ 0 _ rfl; refine BD ?_; refine blk_far ?_ aA.out _; refine BD ?_; refine blk_far ?_ aA.out _; refine BD ?_; refine blk_far ?_ aA.out _; refine BD ?_; refine blk_far ?_ aA.out _; refine BD ?_; exact aC.out) Tryz.underlying108 rfl (by kernel_rfl)) rfl ?_
 exact ⟨ER, K3 HB aD.out aF.out aU.out⟩
def laws_toSeenS.l0 : Nat → List (S137) → List (S108) → Int → Option ((List (S108)))
 | 0, _, _, _ => none
 | k + 1, x0, x3, x4 => if x4 < (x0.length : Int) then (if 0 ≤ x4 then ((laws_toSeen.f ((rd_T137 x0 x4).f0.f0) ((rd_T137 x0 x4).f0.f1) ((rd_T137 x0 x4).f0.f2) ((rd_T137 x0 x4).f1)).bind fun bt105 => (if x4 < (x3.length : Int) then (laws_toSeenS.l0 k x0 (x3.set (x4 : Int).toNat (⟨(⟨bt105.1, bt105.2.1, bt105.2.2.1⟩ : S106), bt105.2.2.2⟩ : S108)) (wrap64 (x4 + 1))) else (none))) else (none)) else (some x3)
def laws_toSeenS.f (k : Nat) (l0 : List (S137)) : Option ((List (S108))) := if 0 ≤ (l0.length : Int) then (if ((l0.length : Int) : Int).toNat ≤ 8796093022208 then (laws_toSeenS.l0 k l0 (List.replicate ((l0.length : Int) : Int).toNat z108) 0) else (none)) else (none)
theorem laws_toSeenS.calls (k : Nat) (A0 : Option Addr) (c0 : Nat) (l0 : List (S137)) (r : List (S108)) (w : World) (bW : Kd.C k137 w A0 l0.length l0) (bX : l0.length ≤ c0) (h : laws_toSeenS.f k l0 = some r) :
  Calls Tryz.prog 55 #[.slice A0 l0.length c0] w fun e w' => ∃ v0_ : Value, e = .returned (v0_) ∧ Kd.R k108 108 w' w.heap.size (fun _ => True) v0_ r ∧ Below w.heap.size w w' := by
 have bY := Tryz.underlying137
 have bZ := Tryz.underlying108
 have cC := Aside0.mk bW
 have cD := Aside0.mk bX
 clear bW bX
 have HB := am (Below.refl w.heap.size w)
 have H : (if 0 ≤ (l0.length : Int) then (if ((l0.length : Int) : Int).toNat ≤ 8796093022208 then (laws_toSeenS.l0 k l0 (List.replicate ((l0.length : Int) : Int).toNat z108) 0) else (none)) else (none)) = some r := h
 clear h
 by_cases c2 : 0 ≤ (l0.length : Int)
 ·rw [if_pos c2] at H
  have c2b0 := eq_true c2
  have c2b1 : decide (0 ≤ (l0.length : Int)) = true := decide_eq_true c2
  clear c2
  by_cases c3 : ((l0.length : Int) : Int).toNat ≤ 8796093022208
  ·rw [if_pos c3] at H
   have c3b0 := eq_true c3
   have c3b1 : decide (((l0.length : Int) : Int).toNat ≤ 8796093022208) = true := decide_eq_true c3
   clear c3
   obtain ⟨bD, aE⟩ : ∃ y_ : List (S108), y_ = (List.replicate ((l0.length : Int) : Int).toNat z108) := ⟨_, rfl⟩
   replace H : (laws_toSeenS.l0 k l0 bD 0) = some r := by first | (rw [aE]; with_reducible exact H) | (have H2_ := (Option.bind_some _ _).symm.trans H; rw [aE]; with_reducible exact H2_) | (have H2_ := (Option.bind_some _ _).symm.trans H; with_reducible exact H2_) | with_reducible exact H | (rw [aE]; exact H) | exact H
   have Ny101 := Aside0.mk aE
   clear aE
   have H' := Aside0.mk H
   clear H
   go_enter Tryz.func55, Tryz.ntmps55
   go_wp2_with (first | ((with_reducible refine gate_dst (N := 7) rfl ?_); refine Kd.R_make k108 _ 108 rfl (N := 7) rfl 36 _ _ rfl (l0.length : Int) rfl rfl Tryz.underlying36 (.agg #[(.int .i64 0), (.int .i64 0), (.int .i64 0), (.int .i64 0)]) 32 info108 rfl (by decide) (by omega) z108 (ok := fun _ => True) (okp := fun _ => True) (k108_mkM _ _ _ z108 ) (fun _ hk => hk) trivial (OD) (Nat.le_trans (Nat.mul_le_mul_right _ (OD : (l0.length : Int).toNat ≤ 8796093022208)) (by omega)) (Below.refl _ _) (Nat.le_refl _) ?_; intro bJ w4 bE hb hg_ hnew_; clear hg_ hnew_; (first | rw [← Ny101.out] at bE | (simp only [Int.reduceToNat] at bE; rw [← Ny101.out] at bE)); have bF := am (Kd.R_lower bE (below_size (KL HB))); replace HB := bl (KL HB) hb; clear hb bE))
   go_loopg [4] k (fun kq v4 w' => ∃ (aB : List (S108)) (aA : Int), v4 = .int .i64 aA ∧ Aside0 (laws_toSeenS.l0 kq l0 aB aA = some r) ∧ Aside0 (kq ≤ k) ∧ Aside0 (Kd.R k108 108 w' w.heap.size (fun _ => True) bJ aB) ∧ Aside0 (Below w.heap.size w w'))
   case atStart => exact ⟨(bD), (0), (by first | rfl | (simp; done) | (simp [*]; done)), H', ⟨Nat.le_refl _⟩, ⟨KR bF⟩, ⟨KL HB⟩⟩
   case round =>
    clear H'
    try clear c2
    try clear c2b0
    try clear c2b1
    try clear p2
    try clear c3
    try clear c3b0
    try clear c3b1
    try clear c5
    obtain ⟨aB, aA, rfl, HA, HK1, aC, HB⟩ := hrel
    cases gk with
    | zero => exact absurd HA.out (by simp [laws_toSeenS.l0])
    | succ k1 =>
     have H := HA.out
     clear HA
     simp only [laws_toSeenS.l0] at H
     by_cases c6 : aA < (l0.length : Int)
     ·rw [if_pos c6] at H
      have c6b0 : decide (aA < (l0.length : Int)) = true := decide_eq_true c6
      clear c6
      by_cases c7 : 0 ≤ aA
      ·rw [if_pos c7] at H
       have c7b0 : decide (0 ≤ aA) = true := decide_eq_true c7
       clear c7
       replace H := bm H
       obtain ⟨⟨aJ, aK, aL, aM⟩, cA, H⟩ := H
       replace H : (if aA < (aB.length : Int) then (laws_toSeenS.l0 k1 l0 (aB.set (aA : Int).toNat (⟨(⟨aJ, aK, aL⟩ : S106), aM⟩ : S108)) (wrap64 (aA + 1))) else (none)) = some r := H
       have A8 := Aside0.mk cA
       clear cA
       by_cases c9 : aA < (aB.length : Int)
       ·rw [if_pos c9] at H
        have c9b0 : decide (aA < (aB.length : Int)) = true := decide_eq_true c9
        clear c9
        obtain ⟨aS, aF⟩ : ∃ y_ : List (S108), y_ = (aB.set (aA : Int).toNat (⟨(⟨aJ, aK, aL⟩ : S106), aM⟩ : S108)) := ⟨_, rfl⟩
        replace H : (laws_toSeenS.l0 k1 l0 aS (wrap64 (aA + 1))) = some r := by first | (rw [aF]; with_reducible exact H) | (have H2_ := (Option.bind_some _ _).symm.trans H; rw [aF]; with_reducible exact H2_) | (have H2_ := (Option.bind_some _ _).symm.trans H; with_reducible exact H2_) | with_reducible exact H | (rw [aF]; exact H) | exact H
        have Ny109 := Aside0.mk aF
        clear aF
        have H' := Aside0.mk H
        clear H
        have aT : 0 ≤ (aA : Int) := OD
        have aU : aA < (l0.length : Int) := OD
        obtain ⟨_, bK, aN, aO, aP, aQ⟩ := at_T137 cC.out aA aT aU
        cases bK
        replace aN := CX HB.out aN
        replace aO := CX HB.out aO
        replace aP := CX HB.out aP
        replace aQ := CX HB.out aQ
        replace aT := eq_true aT
        replace aU := eq_true aU
        go_wp2_with (first | ((with_reducible refine gate_callee (f := 73) rfl ?_); refine goesL_ (some 20) rfl rfl Tryz.func73 (by kernel_rfl) rfl #[.agg #[.int .i64 ((rd_T137 l0 aA).f0.f0), .int .i64 ((rd_T137 l0 aA).f0.f1), .int .i64 ((rd_T137 l0 aA).f0.f2), .int .i64 ((rd_T137 l0 aA).f1)]] rfl MT ?_; (with_reducible refine (laws_toSeen.calls ((rd_T137 l0 aA).f0.f0) ((rd_T137 l0 aA).f0.f1) ((rd_T137 l0 aA).f0.f2) ((rd_T137 l0 aA).f1) aJ aK aL aM _ A8.out).mono ?_); rintro e aR ⟨rfl, hb⟩; refine ⟨_, rfl, ?_⟩; replace aC := am (Kd.R_below (KR aC) hb); replace HB := bl (KL HB) hb; (try clear hb); have bL : 0 ≤ (aA : Int) := OD; have bM : (aA : Int) < ((aB.length : Int) : Int) := OD; obtain ⟨go10, bG, bH, bI, gl10, cl10, HG10⟩ := Kd.R_form aC.out (by omega); (first | cases bH | (injection bH with ea_ en_ ec_; (first | subst ea_ | (injection ea_ with ea_; subst ea_)); subst ec_; clear en_)); have GB10 := Aside0.mk bI; have GG10 := Aside0.mk HG10; clear bI gl10 HG10; obtain ⟨ce10, hcl10, hM10, aG, aH⟩ := Kd.R_elem aC.out z108 (aA : Int) bL bM; obtain rfl := k108_openM hM10; have bN : aR.cell? ⟨go10, (aA : Int).toNat * 4, none⟩ = some (.int .i64 ((rd_T108 aB aA).f0.f0)) := aG 0 _ rfl; have bO : aR.cell? ⟨go10, (aA : Int).toNat * 4 + 1, none⟩ = some (.int .i64 ((rd_T108 aB aA).f0.f1)) := aG 1 _ rfl; have bP : aR.cell? ⟨go10, (aA : Int).toNat * 4 + 2, none⟩ = some (.int .i64 ((rd_T108 aB aA).f0.f2)) := aG 2 _ rfl; have bQ : aR.cell? ⟨go10, (aA : Int).toNat * 4 + 3, none⟩ = some (.int .i64 ((rd_T108 aB aA).f1)) := aG 3 _ rfl; have bR : aR.frozen? ⟨go10, (aA : Int).toNat * 4, none⟩ = false := aH 0; have bS : aR.frozen? ⟨go10, (aA : Int).toNat * 4 + 1, none⟩ = false := aH 1; have bT : aR.frozen? ⟨go10, (aA : Int).toNat * 4 + 2, none⟩ = false := aH 2; have bU : aR.frozen? ⟨go10, (aA : Int).toNat * 4 + 3, none⟩ = false := aH 3; clear hcl10 aG aH hM10; replace bL := eq_true bL; replace bM := eq_true bM; have HX12 := am (show Kd.R k108 108 aR w.heap.size (fun _ => True) (.slice (some ⟨go10, 0, none⟩) aB.length bG) aB from (KR aC)); obtain ⟨ce12, hcl12, hM12, aD, aI⟩ := Kd.R_elem HX12.out z108 (aA : Int) (OD) (by have h_ : (aA : Int) < ((aB.length : Int) : Int) := OD; first | exact h_ | (have e_ := (Kd.R_reads' aC.out).1; omega) | simpa using h_); obtain rfl := k108_openM hM12; have HP12 := Kd.R_seg HX12.out (aA : Int) (OD) (by have h_ : (aA : Int) < ((aB.length : Int) : Int) := OD; first | exact h_ | (have e_ := (Kd.R_reads' aC.out).1; omega) | simpa using h_) (seg := [.int .i64 aJ, .int .i64 aK, .int .i64 aL, .int .i64 aM]) (j := 0) hcl12 aD (show 4 ≤ 4 from by decide) (x' := (⟨(⟨aJ, aK, aL⟩ : S106), aM⟩ : S108)) (k108_mkM _ _ _ (⟨(⟨aJ, aK, aL⟩ : S106), aM⟩ : S108) ) (fun _ hk => hk); have aV := aD 0 _ rfl; (try simp only [show (k108).sz = 4 from rfl, Nat.mul_one, Nat.add_zero] at aV); have aW := aI 0; (try simp only [show (k108).sz = 4 from rfl, Nat.mul_one, Nat.add_zero] at aW); have aX := aD 1 _ rfl; (try simp only [show (k108).sz = 4 from rfl, Nat.mul_one, Nat.add_zero] at aX); have aY := aI 1; (try simp only [show (k108).sz = 4 from rfl, Nat.mul_one, Nat.add_zero] at aY); have aZ := aD 2 _ rfl; (try simp only [show (k108).sz = 4 from rfl, Nat.mul_one, Nat.add_zero] at aZ); have bA := aI 2; (try simp only [show (k108).sz = 4 from rfl, Nat.mul_one, Nat.add_zero] at bA); have bB := aD 3 _ rfl; (try simp only [show (k108).sz = 4 from rfl, Nat.mul_one, Nat.add_zero] at bB); have bC := aI 3; (try simp only [show (k108).sz = 4 from rfl, Nat.mul_one, Nat.add_zero] at bC); clear hcl12 aD aI hM12) | ((with_reducible refine gate_store (t := 108) (p := 21) rfl ?_); refine store_event (t := 108) (p := 21) (v := ?vo_w13) (w1 := ((((aR.setCell ⟨go10, (aA : Int).toNat * 4, none⟩ (.int .i64 aJ)).setCell ⟨go10, (aA : Int).toNat * 4 + 1, none⟩ (.int .i64 aK)).setCell ⟨go10, (aA : Int).toNat * 4 + 2, none⟩ (.int .i64 aL)).setCell ⟨go10, (aA : Int).toNat * 4 + 3, none⟩ (.int .i64 aM))) ?hg ?ho ?hn ?hr ?_; (case ho => rfl); (case hg => rfl); (case hn => rfl); (case hr => first | (go_simp; done) | (go_simp; rfl)); intro bV hw; have hg : aR.grownBy bV (some go10) := (by rw [hw]; exact HP12.2); have hp_ : Kd.R k108 108 bV w.heap.size (fun _ => True) (.slice (some ⟨go10, 0, none⟩) aB.length bG) aS := (by rw [hw, Ny109.out]; exact HP12.1); clear HP12; replace aC := am (hp_); replace HB := am ((by rw [hw]; exact below_set (below_set (below_set (below_set (HB.out) GB10.out) GB10.out) GB10.out) GB10.out : Below w.heap.size w bV)); clear hg hw hp_))
        go_roundg k1
        case measure => have := HK1.out; omega
        case rel => exact ⟨(aS), (wrap64 (aA + 1)), (by first | rfl | (simp; done) | (simp [*]; done)), H', ⟨by have := HK1.out; omega⟩, ⟨KR aC⟩, ⟨KL HB⟩⟩
       ·rw [if_neg c9] at H
        exact absurd H (by simp)
      ·rw [if_neg c7] at H
       exact absurd H (by simp)
     ·rw [if_neg c6] at H
      have c6b0 : decide (aA < (l0.length : Int)) = false := decide_eq_false c6
      clear c6
      obtain rfl := sj H
      go_wp2
      go_ret
      exact ⟨_, ER, by refine KW ?_; exact aC.out, KL HB⟩
  ·rw [if_neg c3] at H
   exact absurd H (by simp)
 ·rw [if_neg c2] at H
  exact absurd H (by simp)
def laws_toCache.f (k : Nat) (a0_0 : Int) (l0_1 : List (S137)) : Option (Int × (List (S108))) := (laws_toSeenS.f k l0_1).bind fun t104 => (some (a0_0, t104))
theorem laws_toCache.calls (k : Nat) (aE : Int) (aR : Option Addr) (aS : Nat) (aF : List (S137)) (r1 : Int) (r2 : List (S108)) (w : World) (aT : Kd.C k137 w aR aF.length aF) (aU : aF.length ≤ aS) (h : laws_toCache.f k aE aF = some (r1, r2)) :
  Calls Tryz.prog 31 #[.agg #[.int .i64 aE, .slice aR aF.length aS]] w fun e w' => ∃ v1_ : Value, e = .returned (.agg #[.int .i64 r1, v1_]) ∧ Kd.R k108 108 w' w.heap.size (fun _ => True) v1_ r2 ∧ Below w.heap.size w w' := by
 have bV := Tryz.underlying25
 have bW := Tryz.underlying38
 have aZ := Aside0.mk aT
 have bA := Aside0.mk aU
 clear aT aU
 have HB := am (Below.refl w.heap.size w)
 have H : ((laws_toSeenS.f k aF).bind fun aK => (some (aE, aK))) = some (r1, r2) := h
 clear h
 replace H := bm H
 obtain ⟨aK, bS, H⟩ := H
 replace H : (some (aE, aK)) = some (r1, r2) := H
 have A2 := Aside0.mk bS
 clear bS
 simp only [Option.some.injEq, Prod.mk.injEq] at H
 obtain ⟨rfl, rfl⟩ := H
 go_enter Tryz.func31, Tryz.ntmps31
 go_wp2_with (first | ((with_reducible refine gate_dst (N := 1) rfl ?_); refine box_event rfl (N := 1) rfl (cs := #[.int .i64 aE, .slice aR aF.length aS]) (t := 25) BX ?_; intro bB hg w3 aI hb; have aA := am (aI); have bC := am (GH HB hg); have aD := bC; replace HB := bl (KL HB) hb; clear hb aI hg) | ((with_reducible refine gate_dst (N := 2) rfl ?_); refine box_event rfl (N := 2) rfl (cs := #[.int .i64 0, .slice none 0 0]) (t := 38) BX ?_; intro aL hg w4 aI hb; have aB := am (aI); have bD := am (GH1 HB aD.out hg); have aG := bD; replace HB := bl (K1 HB aD.out) hb; have aN := am (NL aA hg); have aO := am (NG aA hg); replace aA := am (BB aA hb); clear hb aI hg) | ((with_reducible refine gate_dst (N := 3) rfl ?_); refine box_event rfl (N := 3) rfl (cs := #[.int .i64 0, .slice none 0 0]) (t := 38) BX ?_; intro aV hg w5 aI hb; have aJ := am (aI); have bE := am (GH2 HB aD.out aG.out hg); have aM := bE; replace HB := bl (K2 HB aD.out aG.out) hb; have aH := am (NL aA hg); have aP := am (NG aA hg); replace aA := am (BB aA hb); have aC := am (NL aB hg); have aQ := am (NG aB hg); replace aB := am (BB aB hb); clear hb aI hg; have bX := aN.out; have bY := aO.out; have bZ := aH.out; have cA := aP.out; have ⟨_, _, _⟩ := y2 w5 aA.out; have cB := aQ.out; have cC := aC.out; have ⟨_, _, _⟩ := y2 w5 aJ.out) | ((with_reducible refine gate_callee (f := 55) rfl ?_); refine goesL_ (some 9) rfl rfl Tryz.func55 (by kernel_rfl) rfl #[.slice aR aF.length aS] rfl MT ?_; (with_reducible refine (laws_toSeenS.calls k _ _ aF aK _ ?_ ?_ A2.out).mono ?_); exact Kd.C_below aZ.out (K3 HB aD.out aG.out aM.out); exact bA.out; rintro e bT ⟨cD, rfl, bU, hb⟩; refine ⟨_, rfl, ?_⟩; have aW := am (Kd.R_lower bU (below_size (K3 HB aD.out aG.out aM.out))); replace aA := am (blk_below (g := bB) (o := .cells #[.int .i64 aE, .slice aR aF.length aS] 25 (0, 0)) (by refine BD ?_; refine blk_far ?_ aH.out _; refine BD ?_; exact aA.out) hb); replace aB := am (blk_below (g := aL) (o := .cells #[.int .i64 0, .slice none 0 0] 38 (0, 0)) (by refine BD ?_; refine blk_far ?_ aC.out _; refine BD ?_; exact aB.out) hb); replace aJ := am (blk_below (g := aV) (o := .cells #[.int .i64 aE, .slice none 0 0] 38 (0, 0)) (by refine BD ?_; refine blk_put (cs := #[.int .i64 0, .slice none 0 0]) ?_ 0 _ rfl; refine BD ?_; exact aJ.out) hb); replace HB := bl (K3 HB aD.out aG.out aM.out) hb; (try clear hb); (try clear hb2); (try clear hk); (try clear hi); (try clear bU); obtain ⟨aX, aY, bR⟩ := Kd.R_slice aW.out; subst bR; have ⟨_, _, _⟩ := y2 bT aJ.out; have ⟨_, _, _⟩ := y2 bT aB.out))
 refine bodyPost_ret (results_cell_row rfl _ _ aL 38 #[.int .i64 aE, .slice aX aK.length aY] (0, 0) _ rfl (by refine BD ?_; refine blk_put (cs := #[.int .i64 aE, .slice none 0 0]) ?_ 1 _ rfl; refine BD ?_; refine blk_put (cs := #[.int .i64 0, .slice none 0 0]) ?_ 0 _ rfl; refine BD ?_; refine blk_far ?_ aC.out _; refine BD ?_; exact aB.out) Tryz.underlying38 rfl (by kernel_rfl)) rfl ?_
 exact ⟨_, ER, by refine KW ?_; exact Kd.R_mono (Kd.R_far (p := ⟨aL, 1, none⟩) (Kd.R_far (p := ⟨aL, 0, none⟩) (Kd.R_far (p := ⟨aV, 1, none⟩) (Kd.R_types (Kd.R_types aW.out aJ.out (by decide)) aB.out (by decide)) (fun _ hk => hk.1.2) (.slice aX aK.length aY)) (fun _ hk => hk.2) (.int .i64 aE)) (fun _ hk => hk.2) (.slice aX aK.length aY)) (fun _ hk => trivial), K3 HB aD.out aG.out aM.out⟩
def laws_toIntS.l0 : Nat → List Int → List Int → Int → Option (List Int)
 | 0, _, _, _ => none
 | k + 1, x0, x3, x4 => if x4 < (x0.length : Int) then (if 0 ≤ x4 then (if x4 < (x3.length : Int) then (laws_toIntS.l0 k x0 (x3.set (x4 : Int).toNat (rd x0 x4)) (wrap64 (x4 + 1))) else (none)) else (none)) else (some x3)
def laws_toIntS.f (k : Nat) (l0 : List Int) : Option (List Int) := if 0 ≤ (l0.length : Int) then (if ((l0.length : Int) : Int).toNat ≤ 35184372088832 then (laws_toIntS.l0 k l0 (List.replicate ((l0.length : Int) : Int).toNat 0) 0) else (none)) else (none)
theorem laws_toIntS.calls (k : Nat) (A0 : Option Addr) (c0 : Nat) (l0 : List Int) (r : List Int) (w : World) (aP : Kd.C (Kd.int .i64) w A0 l0.length l0) (aQ : l0.length ≤ c0) (h : laws_toIntS.f k l0 = some r) :
  Calls Tryz.prog 92 #[.slice A0 l0.length c0] w fun e w' => ∃ v0_ : Value, e = .returned (v0_) ∧ Kd.R (Kd.int .i64) 3 w' w.heap.size (fun _ => True) v0_ r ∧ Below w.heap.size w w' := by
 have aW := Aside0.mk aP
 have aY := Aside0.mk aQ
 clear aP aQ
 have HB := am (Below.refl w.heap.size w)
 have H : (if 0 ≤ (l0.length : Int) then (if ((l0.length : Int) : Int).toNat ≤ 35184372088832 then (laws_toIntS.l0 k l0 (List.replicate ((l0.length : Int) : Int).toNat 0) 0) else (none)) else (none)) = some r := h
 clear h
 by_cases c2 : 0 ≤ (l0.length : Int)
 ·rw [if_pos c2] at H
  have c2b0 := eq_true c2
  have c2b1 : decide (0 ≤ (l0.length : Int)) = true := decide_eq_true c2
  clear c2
  by_cases c3 : ((l0.length : Int) : Int).toNat ≤ 35184372088832
  ·rw [if_pos c3] at H
   have c3b0 := eq_true c3
   have c3b1 : decide (((l0.length : Int) : Int).toNat ≤ 35184372088832) = true := decide_eq_true c3
   clear c3
   obtain ⟨aJ, aB⟩ : ∃ y_ : List Int, y_ = (List.replicate ((l0.length : Int) : Int).toNat 0) := ⟨_, rfl⟩
   replace H : (laws_toIntS.l0 k l0 aJ 0) = some r := by first | (rw [aB]; with_reducible exact H) | (have H2_ := (Option.bind_some _ _).symm.trans H; rw [aB]; with_reducible exact H2_) | (have H2_ := (Option.bind_some _ _).symm.trans H; with_reducible exact H2_) | with_reducible exact H | (rw [aB]; exact H) | exact H
   have Ny101 := Aside0.mk aB
   clear aB
   have H' := Aside0.mk H
   clear H
   go_enter Tryz.func92, Tryz.ntmps92
   go_wp2_with (first | ((with_reducible refine gate_dst (N := 7) rfl ?_); refine Kd.R_make (Kd.int .i64) _ 3 rfl (N := 7) rfl 76 _ _ rfl (l0.length : Int) rfl rfl Tryz.underlying76 (.int .i64 0) 8 info3 rfl (by decide) (by omega) 0 (ok := fun _ => True) (okp := fun _ => True) rfl (fun _ hk => hk) trivial (OD) (Nat.le_trans (Nat.mul_le_mul_right _ (OD : (l0.length : Int).toNat ≤ 35184372088832)) (by omega)) (Below.refl _ _) (Nat.le_refl _) ?_; intro aM w4 aK hb hg_ hnew_; clear hg_ hnew_; (first | rw [← Ny101.out] at aK | (simp only [Int.reduceToNat] at aK; rw [← Ny101.out] at aK)); have aL := am (Kd.R_lower aK (below_size (KL HB))); replace HB := bl (KL HB) hb; clear hb aK))
   go_loopg [4] k (fun kq v4 w' => ∃ (aC : List Int) (aA : Int), v4 = .int .i64 aA ∧ Aside0 (laws_toIntS.l0 kq l0 aC aA = some r) ∧ Aside0 (kq ≤ k) ∧ Aside0 (Kd.R (Kd.int .i64) 3 w' w.heap.size (fun _ => True) aM aC) ∧ Aside0 (Below w.heap.size w w'))
   case atStart => exact ⟨(aJ), (0), (by first | rfl | (simp; done) | (simp [*]; done)), H', ⟨Nat.le_refl _⟩, ⟨KR aL⟩, ⟨KL HB⟩⟩
   case round =>
    clear H'
    try clear c2
    try clear c2b0
    try clear c2b1
    try clear p2
    try clear c3
    try clear c3b0
    try clear c3b1
    obtain ⟨aC, aA, rfl, HA, HK1, aF, HB⟩ := hrel
    cases gk with
    | zero => exact absurd HA.out (by simp [laws_toIntS.l0])
    | succ k1 =>
     have H := HA.out
     clear HA
     simp only [laws_toIntS.l0] at H
     by_cases c6 : aA < (l0.length : Int)
     ·rw [if_pos c6] at H
      have c6b0 : decide (aA < (l0.length : Int)) = true := decide_eq_true c6
      clear c6
      by_cases c7 : 0 ≤ aA
      ·rw [if_pos c7] at H
       have c7b0 : decide (0 ≤ aA) = true := decide_eq_true c7
       clear c7
       by_cases c8 : aA < (aC.length : Int)
       ·rw [if_pos c8] at H
        have c8b0 : decide (aA < (aC.length : Int)) = true := decide_eq_true c8
        clear c8
        obtain ⟨aG, aD⟩ : ∃ y_ : List Int, y_ = (aC.set (aA : Int).toNat (rd l0 aA)) := ⟨_, rfl⟩
        replace H : (laws_toIntS.l0 k1 l0 aG (wrap64 (aA + 1))) = some r := by first | (rw [aD]; with_reducible exact H) | (have H2_ := (Option.bind_some _ _).symm.trans H; rw [aD]; with_reducible exact H2_) | (have H2_ := (Option.bind_some _ _).symm.trans H; with_reducible exact H2_) | with_reducible exact H | (rw [aD]; exact H) | exact H
        have Ny105 := Aside0.mk aD
        clear aD
        have H' := Aside0.mk H
        clear H
        have aH : 0 ≤ (aA : Int) := OD
        have aI : aA < (l0.length : Int) := OD
        obtain ⟨_, aN, aE⟩ := Kd.at_int aW.out aA aH aI
        cases aN
        replace aE := CX HB.out aE
        replace aH := eq_true aH
        replace aI := eq_true aI
        have p9 : 0 ≤ (aA : Int) := OD
        have q9 : (aA : Int) < ((aC.length : Int) : Int) := OD
        obtain ⟨go9, aX, aS, aT, gl9, cl9, HG9⟩ := Kd.R_form aF.out (by omega)
        (first | cases aS | (injection aS with ea_ en_ ec_; (first | subst ea_ | (injection ea_ with ea_; subst ea_)); subst ec_; clear en_))
        have GB9 := Aside0.mk aT
        have GG9 := Aside0.mk HG9
        clear aT gl9 HG9
        obtain ⟨_, _⟩ := Kd.R_celln 0 aF.out (aA : Int) p9 q9
        replace p9 := eq_true p9
        replace q9 := eq_true q9
        have HP10 := Kd.R_putg aF.out (aA : Int) (rd l0 aA)
        go_wp2_with (first | ((with_reducible refine gate_store (t := 3) (p := 20) rfl ?_); refine store_event (t := 3) (p := 20) (v := ?vo_w11) (w1 := (wr.setCell ⟨go9, (aA : Int).toNat, none⟩ (.int .i64 (rd l0 aA)))) ?hg ?ho ?hn ?hr ?_; (case ho => rfl); (case hg => rfl); (case hn => rfl); (case hr => first | (go_simp; done) | (go_simp; rfl)); intro aO hw; have hg : wr.grownBy aO (some go9) := (by rw [hw]; exact HP10.2); have hp_ : Kd.R (Kd.int .i64) 3 aO w.heap.size (fun _ => True) (.slice (some ⟨go9, 0, none⟩) aC.length aX) aG := (by rw [hw, Ny105.out]; exact HP10.1); clear HP10; replace aF := am (hp_); replace HB := am ((by rw [hw]; exact below_set (HB.out) GB9.out : Below w.heap.size w aO)); clear hg hw hp_))
        go_roundg k1
        case measure => have := HK1.out; omega
        case rel => exact ⟨(aG), (wrap64 (aA + 1)), (by first | rfl | (simp; done) | (simp [*]; done)), H', ⟨by have := HK1.out; omega⟩, ⟨KR aF⟩, ⟨KL HB⟩⟩
       ·rw [if_neg c8] at H
        exact absurd H (by simp)
      ·rw [if_neg c7] at H
       exact absurd H (by simp)
     ·rw [if_neg c6] at H
      have c6b0 : decide (aA < (l0.length : Int)) = false := decide_eq_false c6
      clear c6
      obtain rfl := sj H
      go_wp2
      go_ret
      exact ⟨_, ER, by refine KW ?_; exact aF.out, KL HB⟩
  ·rw [if_neg c3] at H
   exact absurd H (by simp)
 ·rw [if_neg c2] at H
  exact absurd H (by simp)
def laws_toWindow.f (k : Nat) (a0_0 : Int) (l0_1 : List Int) : Option (Int × List Int) := (laws_toIntS.f k l0_1).bind fun t104 => (some (a0_0, t104))
theorem laws_toWindow.calls (k : Nat) (aE : Int) (aR : Option Addr) (aS : Nat) (aF : List Int) (r1 : Int) (r2 : List Int) (w : World) (aT : Kd.C (Kd.int .i64) w aR aF.length aF) (aU : aF.length ≤ aS) (h : laws_toWindow.f k aE aF = some (r1, r2)) :
  Calls Tryz.prog 74 #[.agg #[.int .i64 aE, .slice aR aF.length aS]] w fun e w' => ∃ v1_ : Value, e = .returned (.agg #[.int .i64 r1, v1_]) ∧ Kd.R (Kd.int .i64) 3 w' w.heap.size (fun _ => True) v1_ r2 ∧ Below w.heap.size w w' := by
 have bV := Tryz.underlying99
 have bW := Tryz.underlying78
 have aZ := Aside0.mk aT
 have bA := Aside0.mk aU
 clear aT aU
 have HB := am (Below.refl w.heap.size w)
 have H : ((laws_toIntS.f k aF).bind fun aK => (some (aE, aK))) = some (r1, r2) := h
 clear h
 replace H := bm H
 obtain ⟨aK, bS, H⟩ := H
 replace H : (some (aE, aK)) = some (r1, r2) := H
 have A2 := Aside0.mk bS
 clear bS
 simp only [Option.some.injEq, Prod.mk.injEq] at H
 obtain ⟨rfl, rfl⟩ := H
 go_enter Tryz.func74, Tryz.ntmps74
 go_wp2_with (first | ((with_reducible refine gate_dst (N := 1) rfl ?_); refine box_event rfl (N := 1) rfl (cs := #[.int .i64 aE, .slice aR aF.length aS]) (t := 99) BX ?_; intro bB hg w3 aI hb; have aA := am (aI); have bC := am (GH HB hg); have aD := bC; replace HB := bl (KL HB) hb; clear hb aI hg) | ((with_reducible refine gate_dst (N := 2) rfl ?_); refine box_event rfl (N := 2) rfl (cs := #[.int .i64 0, .slice none 0 0]) (t := 78) BX ?_; intro aL hg w4 aI hb; have aB := am (aI); have bD := am (GH1 HB aD.out hg); have aG := bD; replace HB := bl (K1 HB aD.out) hb; have aN := am (NL aA hg); have aO := am (NG aA hg); replace aA := am (BB aA hb); clear hb aI hg) | ((with_reducible refine gate_dst (N := 3) rfl ?_); refine box_event rfl (N := 3) rfl (cs := #[.int .i64 0, .slice none 0 0]) (t := 78) BX ?_; intro aV hg w5 aI hb; have aJ := am (aI); have bE := am (GH2 HB aD.out aG.out hg); have aM := bE; replace HB := bl (K2 HB aD.out aG.out) hb; have aH := am (NL aA hg); have aP := am (NG aA hg); replace aA := am (BB aA hb); have aC := am (NL aB hg); have aQ := am (NG aB hg); replace aB := am (BB aB hb); clear hb aI hg; have bX := aN.out; have bY := aO.out; have bZ := aH.out; have cA := aP.out; have ⟨_, _, _⟩ := y2 w5 aA.out; have cB := aQ.out; have cC := aC.out; have ⟨_, _, _⟩ := y2 w5 aJ.out) | ((with_reducible refine gate_callee (f := 92) rfl ?_); refine goesL_ (some 9) rfl rfl Tryz.func92 (by kernel_rfl) rfl #[.slice aR aF.length aS] rfl MT ?_; (with_reducible refine (laws_toIntS.calls k _ _ aF aK _ ?_ ?_ A2.out).mono ?_); exact Kd.C_below aZ.out (K3 HB aD.out aG.out aM.out); exact bA.out; rintro e bT ⟨cD, rfl, bU, hb⟩; refine ⟨_, rfl, ?_⟩; have aW := am (Kd.R_lower bU (below_size (K3 HB aD.out aG.out aM.out))); replace aA := am (blk_below (g := bB) (o := .cells #[.int .i64 aE, .slice aR aF.length aS] 99 (0, 0)) (by refine BD ?_; refine blk_far ?_ aH.out _; refine BD ?_; exact aA.out) hb); replace aB := am (blk_below (g := aL) (o := .cells #[.int .i64 0, .slice none 0 0] 78 (0, 0)) (by refine BD ?_; refine blk_far ?_ aC.out _; refine BD ?_; exact aB.out) hb); replace aJ := am (blk_below (g := aV) (o := .cells #[.int .i64 aE, .slice none 0 0] 78 (0, 0)) (by refine BD ?_; refine blk_put (cs := #[.int .i64 0, .slice none 0 0]) ?_ 0 _ rfl; refine BD ?_; exact aJ.out) hb); replace HB := bl (K3 HB aD.out aG.out aM.out) hb; (try clear hb); (try clear hb2); (try clear hk); (try clear hi); (try clear bU); obtain ⟨aX, aY, bR⟩ := Kd.R_slice aW.out; subst bR; have ⟨_, _, _⟩ := y2 bT aJ.out; have ⟨_, _, _⟩ := y2 bT aB.out))
 refine bodyPost_ret (results_cell_row rfl _ _ aL 78 #[.int .i64 aE, .slice aX aK.length aY] (0, 0) _ rfl (by refine BD ?_; refine blk_put (cs := #[.int .i64 aE, .slice none 0 0]) ?_ 1 _ rfl; refine BD ?_; refine blk_put (cs := #[.int .i64 0, .slice none 0 0]) ?_ 0 _ rfl; refine BD ?_; refine blk_far ?_ aC.out _; refine BD ?_; exact aB.out) Tryz.underlying78 rfl (by kernel_rfl)) rfl ?_
 exact ⟨_, ER, by refine KW ?_; exact Kd.R_mono (Kd.R_far (p := ⟨aL, 1, none⟩) (Kd.R_far (p := ⟨aL, 0, none⟩) (Kd.R_far (p := ⟨aV, 1, none⟩) (Kd.R_types (Kd.R_types aW.out aJ.out (by decide)) aB.out (by decide)) (fun _ hk => hk.1.2) (.slice aX aK.length aY)) (fun _ hk => hk.2) (.int .i64 aE)) (fun _ hk => hk.2) (.slice aX aK.length aY)) (fun _ hk => trivial), K3 HB aD.out aG.out aM.out⟩
def laws_toSa.f (k : Nat) (a0_0 : Int) (a0_1 : Int) (a0_2 : ByteArray) (a0_3 : ByteArray) (a0_4 : Int) (a0_5 : Int) (a0_6 : Int) (a0_7 : Int) (a0_8 : Int) (a0_9 : Int) (l0_10 : List Int) : Option (Int × Int × ByteArray × ByteArray × Int × Int × Int × Int × Int × Int × List Int) := (laws_toWindow.f k a0_9 l0_10).bind fun bt104 => (some (a0_0, a0_1, a0_2, a0_3, a0_4, a0_5, a0_6, a0_7, a0_8, bt104.1, bt104.2))
theorem laws_toSa.calls (k : Nat) (aC : Int) (aD : Int) (aE : ByteArray) (aF : ByteArray) (aH : Int) (aI : Int) (aL : Int) (aN : Int) (aP : Int) (aV : Int) (aR : Option Addr) (aS : Nat) (aK : List Int) (r1 : Int) (r2 : Int) (r3 : ByteArray) (r4 : ByteArray) (r5 : Int) (r6 : Int) (r7 : Int) (r8 : Int) (r9 : Int) (r10 : Int) (r11 : List Int) (w : World) (bC : Kd.C (Kd.int .i64) w aR aK.length aK) (bD : aK.length ≤ aS) (h : laws_toSa.f k aC aD aE aF aH aI aL aN aP aV aK = some (r1, r2, r3, r4, r5, r6, r7, r8, r9, r10, r11)) :
  Calls Tryz.prog 56 #[.agg #[.int .i64 aC, .int .i64 aD, .string aE, .string aF, .int .i64 aH, .int .i64 aI, .int .i64 aL, .int .i64 aN, .int .i64 aP, .int .i64 aV, .slice aR aK.length aS]] w fun e w' => ∃ v10_ : Value, e = .returned (.agg #[.int .i64 r1, .int .i64 r2, .string r3, .string r4, .int .i64 r5, .int .i64 r6, .int .i64 r7, .int .i64 r8, .int .i64 r9, .int .i64 r10, v10_]) ∧ Kd.R (Kd.int .i64) 3 w' w.heap.size (fun _ => True) v10_ r11 ∧ Below w.heap.size w w' := by
 have dN := Tryz.underlying101
 have dR := Tryz.underlying80
 have dS := Tryz.underlying99
 have dT := Tryz.underlying78
 have bI := Aside0.mk bC
 have bJ := Aside0.mk bD
 clear bC bD
 have HB := am (Below.refl w.heap.size w)
 have H : ((laws_toWindow.f k aV aK).bind fun bG => (some (aC, aD, aE, aF, aH, aI, aL, aN, aP, bG.1, bG.2))) = some (r1, r2, r3, r4, r5, r6, r7, r8, r9, r10, r11) := h
 clear h
 replace H := bm H
 obtain ⟨⟨aX, bE⟩, dO, H⟩ := H
 replace H : (some (aC, aD, aE, aF, aH, aI, aL, aN, aP, aX, bE)) = some (r1, r2, r3, r4, r5, r6, r7, r8, r9, r10, r11) := H
 have A2 := Aside0.mk dO
 clear dO
 simp only [Option.some.injEq, Prod.mk.injEq] at H
 obtain ⟨rfl, rfl, rfl, rfl, rfl, rfl, rfl, rfl, rfl, rfl, rfl⟩ := H
 go_enter Tryz.func56, Tryz.ntmps56
 go_wp2_with (first | ((with_reducible refine gate_dst (N := 1) rfl ?_); refine box_event rfl (N := 1) rfl (cs := #[.int .i64 aC, .int .i64 aD, .string aE, .string aF, .int .i64 aH, .int .i64 aI, .int .i64 aL, .int .i64 aN, .int .i64 aP, .int .i64 aV, .slice aR aK.length aS]) (t := 101) BX ?_; intro bM hg w3 aT hb; have aJ := am (aT); have bN := am (GH HB hg); have aO := bN; replace HB := bl (KL HB) hb; clear hb aT hg) | ((with_reducible refine gate_dst (N := 2) rfl ?_); refine box_event rfl (N := 2) rfl (cs := #[.int .i64 0, .int .i64 0, .string (⟨#[]⟩ : ByteArray), .string (⟨#[]⟩ : ByteArray), .int .i64 0, .int .i64 0, .int .i64 0, .int .i64 0, .int .i64 0, .int .i64 0, .slice none 0 0]) (t := 80) BX ?_; intro aG hg w4 aT hb; have aM := am (aT); have bO := am (GH1 HB aO.out hg); have aQ := bO; replace HB := bl (K1 HB aO.out) hb; have aY := am (NL aJ hg); have aZ := am (NG aJ hg); replace aJ := am (BB aJ hb); clear hb aT hg) | ((with_reducible refine gate_dst (N := 3) rfl ?_); refine box_event rfl (N := 3) rfl (cs := #[.int .i64 0, .int .i64 0, .string (⟨#[]⟩ : ByteArray), .string (⟨#[]⟩ : ByteArray), .int .i64 0, .int .i64 0, .int .i64 0, .int .i64 0, .int .i64 0, .int .i64 0, .slice none 0 0]) (t := 80) BX ?_; intro bF hg w5 aT hb; have aU := am (aT); have bP := am (GH2 HB aO.out aQ.out hg); have aW := bP; replace HB := bl (K2 HB aO.out aQ.out) hb; have aB := am (NL aJ hg); have bA := am (NG aJ hg); replace aJ := am (BB aJ hb); have aA := am (NL aM hg); have bB := am (NG aM hg); replace aM := am (BB aM hb); clear hb aT hg; have dU := aY.out; have dV := aZ.out; have dW := aB.out; have dX := bA.out; have ⟨_, _, _, _, _, _, _, _, _, _, _, _⟩ := y11 w5 aJ.out; have dY := bB.out; have dZ := aA.out; have ⟨_, _, _, _, _, _, _, _, _, _, _, _⟩ := y11 w5 aU.out) | ((with_reducible refine gate_callee (f := 74) rfl ?_); refine goesL_ (some 33) rfl rfl Tryz.func74 (by kernel_rfl) rfl #[.agg #[.int .i64 aV, .slice aR aK.length aS]] rfl MT ?_; (with_reducible refine (laws_toWindow.calls k aV _ _ aK aX bE _ ?_ ?_ A2.out).mono ?_); exact Kd.C_below bI.out (K3 HB aO.out aQ.out aW.out); exact bJ.out; rintro e dP ⟨eA, rfl, dQ, hb⟩; refine ⟨_, rfl, ?_⟩; have bH := am (Kd.R_lower dQ (below_size (K3 HB aO.out aQ.out aW.out))); replace aJ := am (blk_below (g := bM) (o := .cells #[.int .i64 aC, .int .i64 aD, .string aE, .string aF, .int .i64 aH, .int .i64 aI, .int .i64 aL, .int .i64 aN, .int .i64 aP, .int .i64 aV, .slice aR aK.length aS] 101 (0, 0)) (by refine BD ?_; refine blk_far ?_ aB.out _; refine BD ?_; refine blk_far ?_ aB.out _; refine BD ?_; refine blk_far ?_ aB.out _; refine BD ?_; refine blk_far ?_ aB.out _; refine BD ?_; refine blk_far ?_ aB.out _; refine BD ?_; refine blk_far ?_ aB.out _; refine BD ?_; refine blk_far ?_ aB.out _; refine BD ?_; refine blk_far ?_ aB.out _; refine BD ?_; refine blk_far ?_ aB.out _; refine BD ?_; exact aJ.out) hb); replace aM := am (blk_below (g := aG) (o := .cells #[.int .i64 0, .int .i64 0, .string (⟨#[]⟩ : ByteArray), .string (⟨#[]⟩ : ByteArray), .int .i64 0, .int .i64 0, .int .i64 0, .int .i64 0, .int .i64 0, .int .i64 0, .slice none 0 0] 80 (0, 0)) (by refine BD ?_; refine blk_far ?_ aA.out _; refine BD ?_; refine blk_far ?_ aA.out _; refine BD ?_; refine blk_far ?_ aA.out _; refine BD ?_; refine blk_far ?_ aA.out _; refine BD ?_; refine blk_far ?_ aA.out _; refine BD ?_; refine blk_far ?_ aA.out _; refine BD ?_; refine blk_far ?_ aA.out _; refine BD ?_; refine blk_far ?_ aA.out _; refine BD ?_; refine blk_far ?_ aA.out _; refine BD ?_; exact aM.out) hb); replace aU := am (blk_below (g := bF) (o := .cells #[.int .i64 aC, .int .i64 aD, .string aE, .string aF, .int .i64 aH, .int .i64 aI, .int .i64 aL, .int .i64 aN, .int .i64 aP, .int .i64 0, .slice none 0 0] 80 (0, 0)) (by refine BD ?_; refine blk_put (cs := #[.int .i64 aC, .int .i64 aD, .string aE, .string aF, .int .i64 aH, .int .i64 aI, .int .i64 aL, .int .i64 aN, .int .i64 0, .int .i64 0, .slice none 0 0]) ?_ 8 _ rfl; refine BD ?_; refine blk_put (cs := #[.int .i64 aC, .int .i64 aD, .string aE, .string aF, .int .i64 aH, .int .i64 aI, .int .i64 aL, .int .i64 0, .int .i64 0, .int .i64 0, .slice none 0 0]) ?_ 7 _ rfl; refine BD ?_; refine blk_put (cs := #[.int .i64 aC, .int .i64 aD, .string aE, .string aF, .int .i64 aH, .int .i64 aI, .int .i64 0, .int .i64 0, .int .i64 0, .int .i64 0, .slice none 0 0]) ?_ 6 _ rfl; refine BD ?_; refine blk_put (cs := #[.int .i64 aC, .int .i64 aD, .string aE, .string aF, .int .i64 aH, .int .i64 0, .int .i64 0, .int .i64 0, .int .i64 0, .int .i64 0, .slice none 0 0]) ?_ 5 _ rfl; refine BD ?_; refine blk_put (cs := #[.int .i64 aC, .int .i64 aD, .string aE, .string aF, .int .i64 0, .int .i64 0, .int .i64 0, .int .i64 0, .int .i64 0, .int .i64 0, .slice none 0 0]) ?_ 4 _ rfl; refine BD ?_; refine blk_put (cs := #[.int .i64 aC, .int .i64 aD, .string aE, .string (⟨#[]⟩ : ByteArray), .int .i64 0, .int .i64 0, .int .i64 0, .int .i64 0, .int .i64 0, .int .i64 0, .slice none 0 0]) ?_ 3 _ rfl; refine BD ?_; refine blk_put (cs := #[.int .i64 aC, .int .i64 aD, .string (⟨#[]⟩ : ByteArray), .string (⟨#[]⟩ : ByteArray), .int .i64 0, .int .i64 0, .int .i64 0, .int .i64 0, .int .i64 0, .int .i64 0, .slice none 0 0]) ?_ 2 _ rfl; refine BD ?_; refine blk_put (cs := #[.int .i64 aC, .int .i64 0, .string (⟨#[]⟩ : ByteArray), .string (⟨#[]⟩ : ByteArray), .int .i64 0, .int .i64 0, .int .i64 0, .int .i64 0, .int .i64 0, .int .i64 0, .slice none 0 0]) ?_ 1 _ rfl; refine BD ?_; refine blk_put (cs := #[.int .i64 0, .int .i64 0, .string (⟨#[]⟩ : ByteArray), .string (⟨#[]⟩ : ByteArray), .int .i64 0, .int .i64 0, .int .i64 0, .int .i64 0, .int .i64 0, .int .i64 0, .slice none 0 0]) ?_ 0 _ rfl; refine BD ?_; exact aU.out) hb); replace HB := bl (K3 HB aO.out aQ.out aW.out) hb; (try clear hb); (try clear hb2); (try clear hk); (try clear hi); (try clear dQ); have ⟨_, _, _, _, _, _, _, _, _, _, _, _⟩ := y11 dP aU.out; obtain ⟨bK, bL, dM⟩ := Kd.R_slice bH.out; subst dM; have ⟨_, _, _, _, _, _, _, _, _, _, _, _⟩ := y11 dP aM.out))
 refine bodyPost_ret (results_cell_row rfl _ _ aG 80 #[.int .i64 aC, .int .i64 aD, .string aE, .string aF, .int .i64 aH, .int .i64 aI, .int .i64 aL, .int .i64 aN, .int .i64 aP, .int .i64 aX, .slice bK bE.length bL] (0, 0) _ rfl (by refine BD ?_; refine blk_put (cs := #[.int .i64 aC, .int .i64 aD, .string aE, .string aF, .int .i64 aH, .int .i64 aI, .int .i64 aL, .int .i64 aN, .int .i64 aP, .int .i64 aX, .slice none 0 0]) ?_ 10 _ rfl; refine BD ?_; refine blk_put (cs := #[.int .i64 aC, .int .i64 aD, .string aE, .string aF, .int .i64 aH, .int .i64 aI, .int .i64 aL, .int .i64 aN, .int .i64 aP, .int .i64 0, .slice none 0 0]) ?_ 9 _ rfl; refine BD ?_; refine blk_put (cs := #[.int .i64 aC, .int .i64 aD, .string aE, .string aF, .int .i64 aH, .int .i64 aI, .int .i64 aL, .int .i64 aN, .int .i64 0, .int .i64 0, .slice none 0 0]) ?_ 8 _ rfl; refine BD ?_; refine blk_put (cs := #[.int .i64 aC, .int .i64 aD, .string aE, .string aF, .int .i64 aH, .int .i64 aI, .int .i64 aL, .int .i64 0, .int .i64 0, .int .i64 0, .slice none 0 0]) ?_ 7 _ rfl; refine BD ?_; refine blk_put (cs := #[.int .i64 aC, .int .i64 aD, .string aE, .string aF, .int .i64 aH, .int .i64 aI, .int .i64 0, .int .i64 0, .int .i64 0, .int .i64 0, .slice none 0 0]) ?_ 6 _ rfl; refine BD ?_; refine blk_put (cs := #[.int .i64 aC, .int .i64 aD, .string aE, .string aF, .int .i64 aH, .int .i64 0, .int .i64 0, .int .i64 0, .int .i64 0, .int .i64 0, .slice none 0 0]) ?_ 5 _ rfl; refine BD ?_; refine blk_put (cs := #[.int .i64 aC, .int .i64 aD, .string aE, .string aF, .int .i64 0, .int .i64 0, .int .i64 0, .int .i64 0, .int .i64 0, .int .i64 0, .slice none 0 0]) ?_ 4 _ rfl; refine BD ?_; refine blk_put (cs := #[.int .i64 aC, .int .i64 aD, .string aE, .string (⟨#[]⟩ : ByteArray), .int .i64 0, .int .i64 0, .int .i64 0, .int .i64 0, .int .i64 0, .int .i64 0, .slice none 0 0]) ?_ 3 _ rfl; refine BD ?_; refine blk_put (cs := #[.int .i64 aC, .int .i64 aD, .string (⟨#[]⟩ : ByteArray), .string (⟨#[]⟩ : ByteArray), .int .i64 0, .int .i64 0, .int .i64 0, .int .i64 0, .int .i64 0, .int .i64 0, .slice none 0 0]) ?_ 2 _ rfl; refine BD ?_; refine blk_put (cs := #[.int .i64 aC, .int .i64 0, .string (⟨#[]⟩ : ByteArray), .string (⟨#[]⟩ : ByteArray), .int .i64 0, .int .i64 0, .int .i64 0, .int .i64 0, .int .i64 0, .int .i64 0, .slice none 0 0]) ?_ 1 _ rfl; refine BD ?_; refine blk_put (cs := #[.int .i64 0, .int .i64 0, .string (⟨#[]⟩ : ByteArray), .string (⟨#[]⟩ : ByteArray), .int .i64 0, .int .i64 0, .int .i64 0, .int .i64 0, .int .i64 0, .int .i64 0, .slice none 0 0]) ?_ 0 _ rfl; refine BD ?_; refine blk_far ?_ aA.out _; refine BD ?_; refine blk_far ?_ aA.out _; refine BD ?_; exact aM.out) Tryz.underlying80 rfl (by kernel_rfl)) rfl ?_
 exact ⟨_, ER, by refine KW ?_; exact Kd.R_mono (Kd.R_far (p := ⟨aG, 10, none⟩) (Kd.R_far (p := ⟨aG, 9, none⟩) (Kd.R_far (p := ⟨aG, 8, none⟩) (Kd.R_far (p := ⟨aG, 7, none⟩) (Kd.R_far (p := ⟨aG, 6, none⟩) (Kd.R_far (p := ⟨aG, 5, none⟩) (Kd.R_far (p := ⟨aG, 4, none⟩) (Kd.R_far (p := ⟨aG, 3, none⟩) (Kd.R_far (p := ⟨aG, 2, none⟩) (Kd.R_far (p := ⟨aG, 1, none⟩) (Kd.R_far (p := ⟨aG, 0, none⟩) (Kd.R_far (p := ⟨bF, 10, none⟩) (Kd.R_far (p := ⟨bF, 9, none⟩) (Kd.R_types (Kd.R_types bH.out aU.out (by decide)) aM.out (by decide)) (fun _ hk => hk.1.2) (.int .i64 aX)) (fun _ hk => hk.1.2) (.slice bK bE.length bL)) (fun _ hk => hk.2) (.int .i64 aC)) (fun _ hk => hk.2) (.int .i64 aD)) (fun _ hk => hk.2) (.string aE)) (fun _ hk => hk.2) (.string aF)) (fun _ hk => hk.2) (.int .i64 aH)) (fun _ hk => hk.2) (.int .i64 aI)) (fun _ hk => hk.2) (.int .i64 aL)) (fun _ hk => hk.2) (.int .i64 aN)) (fun _ hk => hk.2) (.int .i64 aP)) (fun _ hk => hk.2) (.int .i64 aX)) (fun _ hk => hk.2) (.slice bK bE.length bL)) (fun _ hk => trivial), K3 HB aO.out aQ.out aW.out⟩
def laws_toSaS.l0 : Nat → List (S101) → List (S80) → Int → Option ((List (S80)))
 | 0, _, _, _ => none
 | k + 1, x0, x3, x4 => if x4 < (x0.length : Int) then (if 0 ≤ x4 then ((laws_toSa.f k ((rd_T101 x0 x4).f0) ((rd_T101 x0 x4).f1) ((rd_T101 x0 x4).f2) ((rd_T101 x0 x4).f3) ((rd_T101 x0 x4).f4) ((rd_T101 x0 x4).f5) ((rd_T101 x0 x4).f6) ((rd_T101 x0 x4).f7) ((rd_T101 x0 x4).f8) ((rd_T101 x0 x4).f9.f0) ((rd_T101 x0 x4).f9.f1)).bind fun bt105 => (if x4 < (x3.length : Int) then (laws_toSaS.l0 k x0 (x3.set (x4 : Int).toNat (⟨bt105.1, bt105.2.1, bt105.2.2.1, bt105.2.2.2.1, bt105.2.2.2.2.1, bt105.2.2.2.2.2.1, bt105.2.2.2.2.2.2.1, bt105.2.2.2.2.2.2.2.1, bt105.2.2.2.2.2.2.2.2.1, (⟨bt105.2.2.2.2.2.2.2.2.2.1, bt105.2.2.2.2.2.2.2.2.2.2⟩ : S78)⟩ : S80)) (wrap64 (x4 + 1))) else (none))) else (none)) else (some x3)
def laws_toSaS.f (k : Nat) (l0 : List (S101)) : Option ((List (S80))) := if 0 ≤ (l0.length : Int) then (if ((l0.length : Int) : Int).toNat ≤ 2345624805922 then (laws_toSaS.l0 k l0 (List.replicate ((l0.length : Int) : Int).toNat z80) 0) else (none)) else (none)
theorem laws_toSaS.calls (k : Nat) (A0 : Option Addr) (c0 : Nat) (l0 : List (S101)) (r : List (S80)) (w : World) (dV : Kd.C k101 w A0 l0.length l0) (dW : l0.length ≤ c0) (h : laws_toSaS.f k l0 = some r) :
  Calls Tryz.prog 32 #[.slice A0 l0.length c0] w fun e w' => ∃ v0_ : Value, e = .returned (v0_) ∧ Kd.S k80 80 w' w.heap.size (fun _ => True) v0_ r ∧ Below w.heap.size w w' := by
 have dX := Tryz.underlying101
 have eA := Tryz.underlying80
 have eB := Aside0.mk dV
 have eC := Aside0.mk dW
 clear dV dW
 have HB := am (Below.refl w.heap.size w)
 have H : (if 0 ≤ (l0.length : Int) then (if ((l0.length : Int) : Int).toNat ≤ 2345624805922 then (laws_toSaS.l0 k l0 (List.replicate ((l0.length : Int) : Int).toNat z80) 0) else (none)) else (none)) = some r := h
 clear h
 by_cases c2 : 0 ≤ (l0.length : Int)
 ·rw [if_pos c2] at H
  have c2b0 := eq_true c2
  have c2b1 : decide (0 ≤ (l0.length : Int)) = true := decide_eq_true c2
  clear c2
  by_cases c3 : ((l0.length : Int) : Int).toNat ≤ 2345624805922
  ·rw [if_pos c3] at H
   have c3b0 := eq_true c3
   have c3b1 : decide (((l0.length : Int) : Int).toNat ≤ 2345624805922) = true := decide_eq_true c3
   clear c3
   obtain ⟨cN, aI⟩ : ∃ y_ : List (S80), y_ = (List.replicate ((l0.length : Int) : Int).toNat z80) := ⟨_, rfl⟩
   replace H : (laws_toSaS.l0 k l0 cN 0) = some r := by first | (rw [aI]; with_reducible exact H) | (have H2_ := (Option.bind_some _ _).symm.trans H; rw [aI]; with_reducible exact H2_) | (have H2_ := (Option.bind_some _ _).symm.trans H; with_reducible exact H2_) | with_reducible exact H | (rw [aI]; exact H) | exact H
   have Ny101 := Aside0.mk aI
   clear aI
   have H' := Aside0.mk H
   clear H
   go_enter Tryz.func32, Tryz.ntmps32
   go_wp2_with (first | ((with_reducible refine gate_dst (N := 7) rfl ?_); refine Kd.S_make k80 _ 80 rfl (N := 7) rfl 39 _ _ rfl (l0.length : Int) rfl rfl Tryz.underlying39 (.agg #[(.int .i64 0), (.int .i64 0), (.string ⟨#[]⟩), (.string ⟨#[]⟩), (.int .i64 0), (.int .i64 0), (.int .i64 0), (.int .i64 0), (.int .i64 0), (.int .i64 0), (.slice none 0 0)]) 120 info80 rfl (by decide) (by omega) z80 (ok := fun _ => True) (okp := fun _ => True) (k80_mkM _ _ _ z80 (Kd.R_nil _ _ _ _ _)) (fun _ hk => hk) trivial (OD) (Nat.le_trans (Nat.mul_le_mul_right _ (OD : (l0.length : Int).toNat ≤ 2345624805922)) (by omega)) (Below.refl _ _) (Nat.le_refl _) ?_; intro cW w4 cO hb hg_ hnew_; clear hg_ hnew_; (first | rw [← Ny101.out] at cO | (simp only [Int.reduceToNat] at cO; rw [← Ny101.out] at cO)); have cP := am (Kd.S_lower cO (below_size (KL HB))); replace HB := bl (KL HB) hb; clear hb cO))
   go_loopg [4] k (fun kq v4 w' => ∃ (aB : List (S80)) (aA : Int), v4 = .int .i64 aA ∧ Aside0 (laws_toSaS.l0 kq l0 aB aA = some r) ∧ Aside0 (kq ≤ k) ∧ Aside0 (Kd.S k80 80 w' w.heap.size (fun _ => True) cW aB) ∧ Aside0 (Below w.heap.size w w'))
   case atStart => exact ⟨(cN), (0), (by first | rfl | (simp; done) | (simp [*]; done)), H', ⟨Nat.le_refl _⟩, ⟨by refine KX ?_; exact cP.out⟩, ⟨KL HB⟩⟩
   case round =>
    clear H'
    try clear c2
    try clear c2b0
    try clear c2b1
    try clear p2
    try clear c3
    try clear c3b0
    try clear c3b1
    obtain ⟨aB, aA, rfl, HA, HK1, aG, HB⟩ := hrel
    cases gk with
    | zero => exact absurd HA.out (by simp [laws_toSaS.l0])
    | succ k1 =>
     have H := HA.out
     clear HA
     simp only [laws_toSaS.l0] at H
     by_cases c6 : aA < (l0.length : Int)
     ·rw [if_pos c6] at H
      have c6b0 : decide (aA < (l0.length : Int)) = true := decide_eq_true c6
      clear c6
      by_cases c7 : 0 ≤ aA
      ·rw [if_pos c7] at H
       have c7b0 : decide (0 ≤ aA) = true := decide_eq_true c7
       clear c7
       replace H := bm H
       obtain ⟨⟨aN, aO, aP, aQ, aR, aS, aT, aU, aV, aW, bI⟩, dY, H⟩ := H
       replace H : (if aA < (aB.length : Int) then (laws_toSaS.l0 k1 l0 (aB.set (aA : Int).toNat (⟨aN, aO, aP, aQ, aR, aS, aT, aU, aV, (⟨aW, bI⟩ : S78)⟩ : S80)) (wrap64 (aA + 1))) else (none)) = some r := H
       have A8 := Aside0.mk dY
       clear dY
       by_cases c9 : aA < (aB.length : Int)
       ·rw [if_pos c9] at H
        have c9b0 : decide (aA < (aB.length : Int)) = true := decide_eq_true c9
        clear c9
        obtain ⟨bQ, aJ⟩ : ∃ y_ : List (S80), y_ = (aB.set (aA : Int).toNat (⟨aN, aO, aP, aQ, aR, aS, aT, aU, aV, (⟨aW, bI⟩ : S78)⟩ : S80)) := ⟨_, rfl⟩
        replace H : (laws_toSaS.l0 k1 l0 bQ (wrap64 (aA + 1))) = some r := by first | (rw [aJ]; with_reducible exact H) | (have H2_ := (Option.bind_some _ _).symm.trans H; rw [aJ]; with_reducible exact H2_) | (have H2_ := (Option.bind_some _ _).symm.trans H; with_reducible exact H2_) | with_reducible exact H | (rw [aJ]; exact H) | exact H
        have Ny118 := Aside0.mk aJ
        clear aJ
        have H' := Aside0.mk H
        clear H
        have bR : 0 ≤ (aA : Int) := OD
        have bS : aA < (l0.length : Int) := OD
        obtain ⟨_, bM, bN, cX, aX, aY, aZ, bA, bB, bC, bD, bE, bF, bG, aK, aL, aM⟩ := at_T101 eB.out aA bR bS
        cases cX
        replace aX := CX HB.out aX
        replace aY := CX HB.out aY
        replace aZ := CX HB.out aZ
        replace bA := CX HB.out bA
        replace bB := CX HB.out bB
        replace bC := CX HB.out bC
        replace bD := CX HB.out bD
        replace bE := CX HB.out bE
        replace bF := CX HB.out bF
        replace bG := CX HB.out bG
        replace aK := CX HB.out aK
        have bJ := Aside0.mk aM
        have bK := Aside0.mk aL
        clear aM aL
        replace bR := eq_true bR
        replace bS := eq_true bS
        go_wp2_with (first | ((with_reducible refine gate_callee (f := 56) rfl ?_); refine goesL_ (some 20) rfl rfl Tryz.func56 (by kernel_rfl) rfl #[.agg #[.int .i64 ((rd_T101 l0 aA).f0), .int .i64 ((rd_T101 l0 aA).f1), .string ((rd_T101 l0 aA).f2), .string ((rd_T101 l0 aA).f3), .int .i64 ((rd_T101 l0 aA).f4), .int .i64 ((rd_T101 l0 aA).f5), .int .i64 ((rd_T101 l0 aA).f6), .int .i64 ((rd_T101 l0 aA).f7), .int .i64 ((rd_T101 l0 aA).f8), .int .i64 ((rd_T101 l0 aA).f9.f0), .slice bM ((rd_T101 l0 aA).f9.f1).length bN]] rfl MT ?_; (with_reducible refine (laws_toSa.calls k1 ((rd_T101 l0 aA).f0) ((rd_T101 l0 aA).f1) ((rd_T101 l0 aA).f2) ((rd_T101 l0 aA).f3) ((rd_T101 l0 aA).f4) ((rd_T101 l0 aA).f5) ((rd_T101 l0 aA).f6) ((rd_T101 l0 aA).f7) ((rd_T101 l0 aA).f8) ((rd_T101 l0 aA).f9.f0) _ _ ((rd_T101 l0 aA).f9.f1) aN aO aP aQ aR aS aT aU aV aW bI _ ?_ ?_ A8.out).mono ?_); exact KD bJ HB; exact bK.out; rintro e aH ⟨bH, rfl, cT, hb⟩; refine ⟨_, rfl, ?_⟩; have HSv116 : ∀ (a : Addr) (w : World), (store a bH).run Tryz.prog w = stored Tryz.prog w a bH .plain := fun a w => run_store _ _ _ _ _ (R_one cT); replace aG := am (Kd.S_elder' (by refine KX ?_; exact aG.out) (Kd.R_base cT) hb); have bL := am (Kd.R_lower cT (below_size (KL HB))); replace HB := bl (KL HB) hb; (try clear hb); (try clear hb2); (try clear hk); (try clear hi); (try clear cT); have cY : 0 ≤ (aA : Int) := OD; have cZ : (aA : Int) < ((aB.length : Int) : Int) := OD; obtain ⟨go10, cQ, cR, cS, gl10, cl10, HG10⟩ := Kd.S_form aG.out (by omega); (first | cases cR | (injection cR with ea_ en_ ec_; (first | subst ea_ | (injection ea_ with ea_; subst ea_)); subst ec_; clear en_)); have GB10 := Aside0.mk cS; have GG10 := Aside0.mk HG10; clear cS gl10 HG10; obtain ⟨_, ce10, hcl10, hM10, aC, aD, _, _⟩ := Kd.S_elem aG.out z80 (aA : Int) cY cZ; obtain ⟨ve10_10, rfl, ge10_10⟩ := k80_openM hM10; have dA : aH.cell? ⟨go10, (aA : Int).toNat * 11, none⟩ = some (.int .i64 ((rd_T80 aB aA).f0)) := aC 0 _ rfl; have dB : aH.cell? ⟨go10, (aA : Int).toNat * 11 + 1, none⟩ = some (.int .i64 ((rd_T80 aB aA).f1)) := aC 1 _ rfl; have dC : aH.cell? ⟨go10, (aA : Int).toNat * 11 + 2, none⟩ = some (.string ((rd_T80 aB aA).f2)) := aC 2 _ rfl; have dD : aH.cell? ⟨go10, (aA : Int).toNat * 11 + 3, none⟩ = some (.string ((rd_T80 aB aA).f3)) := aC 3 _ rfl; have dE : aH.cell? ⟨go10, (aA : Int).toNat * 11 + 4, none⟩ = some (.int .i64 ((rd_T80 aB aA).f4)) := aC 4 _ rfl; have dF : aH.cell? ⟨go10, (aA : Int).toNat * 11 + 5, none⟩ = some (.int .i64 ((rd_T80 aB aA).f5)) := aC 5 _ rfl; have dG : aH.cell? ⟨go10, (aA : Int).toNat * 11 + 6, none⟩ = some (.int .i64 ((rd_T80 aB aA).f6)) := aC 6 _ rfl; have dH : aH.cell? ⟨go10, (aA : Int).toNat * 11 + 7, none⟩ = some (.int .i64 ((rd_T80 aB aA).f7)) := aC 7 _ rfl; have dI : aH.cell? ⟨go10, (aA : Int).toNat * 11 + 8, none⟩ = some (.int .i64 ((rd_T80 aB aA).f8)) := aC 8 _ rfl; have dJ : aH.cell? ⟨go10, (aA : Int).toNat * 11 + 9, none⟩ = some (.int .i64 ((rd_T80 aB aA).f9.f0)) := aC 9 _ rfl; have cU : aH.cell? ⟨go10, (aA : Int).toNat * 11 + 10, none⟩ = some (ve10_10) := aC 10 _ rfl; have dK : aH.frozen? ⟨go10, (aA : Int).toNat * 11, none⟩ = false := aD 0; have dL : aH.frozen? ⟨go10, (aA : Int).toNat * 11 + 1, none⟩ = false := aD 1; have dM : aH.frozen? ⟨go10, (aA : Int).toNat * 11 + 2, none⟩ = false := aD 2; have dN : aH.frozen? ⟨go10, (aA : Int).toNat * 11 + 3, none⟩ = false := aD 3; have dO : aH.frozen? ⟨go10, (aA : Int).toNat * 11 + 4, none⟩ = false := aD 4; have dP : aH.frozen? ⟨go10, (aA : Int).toNat * 11 + 5, none⟩ = false := aD 5; have dQ : aH.frozen? ⟨go10, (aA : Int).toNat * 11 + 6, none⟩ = false := aD 6; have dR : aH.frozen? ⟨go10, (aA : Int).toNat * 11 + 7, none⟩ = false := aD 7; have dS : aH.frozen? ⟨go10, (aA : Int).toNat * 11 + 8, none⟩ = false := aD 8; have dT : aH.frozen? ⟨go10, (aA : Int).toNat * 11 + 9, none⟩ = false := aD 9; have cV : aH.frozen? ⟨go10, (aA : Int).toNat * 11 + 10, none⟩ = false := aD 10; clear hcl10 aC aD hM10; replace cY := eq_true cY; replace cZ := eq_true cZ; have n_ := am (Kd.S_mono (ok' := (fun k_ => some k_ ≠ (bH : Value).ownBlock)) aG.out (fun k_ hk => hk.2)); clear aG; have aG := n_; clear n_; have HX12 := am (show Kd.S k80 80 aH w.heap.size (fun k_ => ((fun _ => True)) k_ ∧ ¬ ((fun k_ => some k_ = (bH : Value).ownBlock)) k_) (.slice (some ⟨go10, 0, none⟩) aB.length cQ) aB from (by refine KX ?_; exact Kd.S_mono aG.out (fun k_ hk => ⟨trivial, fun e_ => hk e_⟩))); obtain ⟨oki12, ce12, hcl12, hM12, aE, aF, hoki12, hH12⟩ := Kd.S_elem HX12.out z80 (aA : Int) (OD) (by have h_ : (aA : Int) < ((aB.length : Int) : Int) := OD; first | exact h_ | (have e_ := (Kd.S_reads' aG.out).1; omega) | simpa using h_); obtain ⟨ve12_10, rfl, ge12_10⟩ := k80_openM hM12; have HP12 := Kd.S_seg hH12 (OD) (by have h_ : (aA : Int) < ((aB.length : Int) : Int) := OD; first | exact h_ | (have e_ := (Kd.S_reads' aG.out).1; omega) | simpa using h_) (seg := [.int .i64 aN, .int .i64 aO, .string aP, .string aQ, .int .i64 aR, .int .i64 aS, .int .i64 aT, .int .i64 aU, .int .i64 aV, .int .i64 aW, bH]) (j := 0) (show 11 ≤ 11 from by decide) (x' := (⟨aN, aO, aP, aQ, aR, aS, aT, aU, aV, (⟨aW, bI⟩ : S78)⟩ : S80)) (k80_mkM _ _ _ (⟨aN, aO, aP, aQ, aR, aS, aT, aU, aV, (⟨aW, bI⟩ : S78)⟩ : S80) (Kd.R_mono (Kd.R_tight rfl (Kd.R_mono (ok' := fun k_ => ((fun _ => True)) k_ ∧ k_ ≠ go10) (Kd.R_apart' (bL.out) (Kd.S_typed aG.out) (by decide)) (fun k_ hk => ⟨trivial, fun e_ => (hk.2) (by rw [e_]; rfl)⟩))) (fun _ h_ => Or.inr (h_)))) (fun _ hk => hk) (fun k_ hk_ => ((Kd.R_mono (ok' := fun k_ => ((fun _ => True)) k_ ∧ k_ ≠ go10) (Kd.R_apart' (bL.out) (Kd.S_typed aG.out) (by decide)) (fun k_ hk => ⟨trivial, fun e_ => (hk.2) (by rw [e_]; rfl)⟩))).1 k_ hk_.symm); have bT := aE 0 _ rfl; (try simp only [show (k80).sz = 11 from rfl, Nat.mul_one, Nat.add_zero] at bT); have bU := aF 0; (try simp only [show (k80).sz = 11 from rfl, Nat.mul_one, Nat.add_zero] at bU); have bV := aE 1 _ rfl; (try simp only [show (k80).sz = 11 from rfl, Nat.mul_one, Nat.add_zero] at bV); have bW := aF 1; (try simp only [show (k80).sz = 11 from rfl, Nat.mul_one, Nat.add_zero] at bW); have bX := aE 2 _ rfl; (try simp only [show (k80).sz = 11 from rfl, Nat.mul_one, Nat.add_zero] at bX); have bY := aF 2; (try simp only [show (k80).sz = 11 from rfl, Nat.mul_one, Nat.add_zero] at bY); have bZ := aE 3 _ rfl; (try simp only [show (k80).sz = 11 from rfl, Nat.mul_one, Nat.add_zero] at bZ); have cA := aF 3; (try simp only [show (k80).sz = 11 from rfl, Nat.mul_one, Nat.add_zero] at cA); have cB := aE 4 _ rfl; (try simp only [show (k80).sz = 11 from rfl, Nat.mul_one, Nat.add_zero] at cB); have cC := aF 4; (try simp only [show (k80).sz = 11 from rfl, Nat.mul_one, Nat.add_zero] at cC); have cD := aE 5 _ rfl; (try simp only [show (k80).sz = 11 from rfl, Nat.mul_one, Nat.add_zero] at cD); have cE := aF 5; (try simp only [show (k80).sz = 11 from rfl, Nat.mul_one, Nat.add_zero] at cE); have cF := aE 6 _ rfl; (try simp only [show (k80).sz = 11 from rfl, Nat.mul_one, Nat.add_zero] at cF); have cG := aF 6; (try simp only [show (k80).sz = 11 from rfl, Nat.mul_one, Nat.add_zero] at cG); have cH := aE 7 _ rfl; (try simp only [show (k80).sz = 11 from rfl, Nat.mul_one, Nat.add_zero] at cH); have cI := aF 7; (try simp only [show (k80).sz = 11 from rfl, Nat.mul_one, Nat.add_zero] at cI); have cJ := aE 8 _ rfl; (try simp only [show (k80).sz = 11 from rfl, Nat.mul_one, Nat.add_zero] at cJ); have cK := aF 8; (try simp only [show (k80).sz = 11 from rfl, Nat.mul_one, Nat.add_zero] at cK); have cL := aE 9 _ rfl; (try simp only [show (k80).sz = 11 from rfl, Nat.mul_one, Nat.add_zero] at cL); have cM := aF 9; (try simp only [show (k80).sz = 11 from rfl, Nat.mul_one, Nat.add_zero] at cM); have bO := aE 10 _ rfl; (try simp only [show (k80).sz = 11 from rfl, Nat.mul_one, Nat.add_zero] at bO); have bP := aF 10; (try simp only [show (k80).sz = 11 from rfl, Nat.mul_one, Nat.add_zero] at bP); clear hcl12 aE aF hM12 hoki12 hH12) | ((with_reducible refine gate_store (t := 80) (p := 21) rfl ?_); refine store_event (t := 80) (p := 21) (v := ?vo_w13) (w1 := (((((((((((aH.setCell ⟨go10, (aA : Int).toNat * 11, none⟩ (.int .i64 aN)).setCell ⟨go10, (aA : Int).toNat * 11 + 1, none⟩ (.int .i64 aO)).setCell ⟨go10, (aA : Int).toNat * 11 + 2, none⟩ (.string aP)).setCell ⟨go10, (aA : Int).toNat * 11 + 3, none⟩ (.string aQ)).setCell ⟨go10, (aA : Int).toNat * 11 + 4, none⟩ (.int .i64 aR)).setCell ⟨go10, (aA : Int).toNat * 11 + 5, none⟩ (.int .i64 aS)).setCell ⟨go10, (aA : Int).toNat * 11 + 6, none⟩ (.int .i64 aT)).setCell ⟨go10, (aA : Int).toNat * 11 + 7, none⟩ (.int .i64 aU)).setCell ⟨go10, (aA : Int).toNat * 11 + 8, none⟩ (.int .i64 aV)).setCell ⟨go10, (aA : Int).toNat * 11 + 9, none⟩ (.int .i64 aW)).setCell ⟨go10, (aA : Int).toNat * 11 + 10, none⟩ (bH))) ?hg ?ho ?hn ?hr ?_; (case ho => rfl); (case hg => rfl); (case hn => rfl); (case hr => first | (go_simp; done) | (go_simp; rfl)); intro dU hw; have hg : aH.grownBy dU (some go10) := (by rw [hw]; exact HP12.2); have hp_ : Kd.S k80 80 dU w.heap.size (fun _ => True) (.slice (some ⟨go10, 0, none⟩) aB.length cQ) bQ := (by rw [hw, Ny118.out]; exact HP12.1); clear HP12; replace aG := am (hp_); replace HB := am ((by rw [hw]; exact below_set (below_set (below_set (below_set (below_set (below_set (below_set (below_set (below_set (below_set (below_set (HB.out) GB10.out) GB10.out) GB10.out) GB10.out) GB10.out) GB10.out) GB10.out) GB10.out) GB10.out) GB10.out) GB10.out : Below w.heap.size w dU)); clear bL; clear hg hw hp_))
        go_roundg k1
        case measure => have := HK1.out; omega
        case rel => exact ⟨(bQ), (wrap64 (aA + 1)), (by first | rfl | (simp; done) | (simp [*]; done)), H', ⟨by have := HK1.out; omega⟩, ⟨by refine KX ?_; exact aG.out⟩, ⟨KL HB⟩⟩
       ·rw [if_neg c9] at H
        exact absurd H (by simp)
      ·rw [if_neg c7] at H
       exact absurd H (by simp)
     ·rw [if_neg c6] at H
      have c6b0 : decide (aA < (l0.length : Int)) = false := decide_eq_false c6
      clear c6
      obtain rfl := sj H
      go_wp2
      go_ret
      exact ⟨_, ER, by refine KX ?_; exact aG.out, KL HB⟩
  ·rw [if_neg c3] at H
   exact absurd H (by simp)
 ·rw [if_neg c2] at H
  exact absurd H (by simp)
def laws_toGate.f (k : Nat) (a0_0 : Int) (l0_1 : List (S119)) (a0_2 : Int) (l0_3 : List (S137)) (l0_4 : List (S101)) (l0_5 : List (S101)) : Option (Int × (List (S115)) × Int × (List (S108)) × (List (S80)) × (List (S80))) := (laws_toRuleS.f k l0_1).bind fun t104 => ((laws_toCache.f k a0_2 l0_3).bind fun bt107 => ((laws_toSaS.f k l0_4).bind fun t111 => ((laws_toSaS.f k l0_5).bind fun t114 => (some (a0_0, t104, bt107.1, bt107.2, t111, t114)))))
theorem laws_toGate.calls (k : Nat) (aD : Int) (bD : Option Addr) (bE : Nat) (aU : List (S119)) (aX : Int) (bF : Option Addr) (bG : Nat) (aS : List (S137)) (bH : Option Addr) (bI : Nat) (aP : List (S101)) (bJ : Option Addr) (bK : Nat) (aM : List (S101)) (r1 : Int) (r2 : List (S115)) (r3 : Int) (r4 : List (S108)) (r5 : List (S80)) (r6 : List (S80)) (w : World) (bW : Kd.C k119 w bD aU.length aU) (bX : aU.length ≤ bE) (bY : Kd.C k137 w bF aS.length aS) (bZ : aS.length ≤ bG) (cA : Kd.C k101 w bH aP.length aP) (cB : aP.length ≤ bI) (cC : Kd.C k101 w bJ aM.length aM) (cD : aM.length ≤ bK) (h : laws_toGate.f k aD aU aX aS aP aM = some (r1, r2, r3, r4, r5, r6)) :
  Calls Tryz.prog 13 #[.agg #[.int .i64 aD, .slice bD aU.length bE, .int .i64 aX, .slice bF aS.length bG, .slice bH aP.length bI, .slice bJ aM.length bK]] w fun e w' => ∃ v1_ v3_ v4_ v5_ : Value, e = .returned (.agg #[.int .i64 r1, v1_, .int .i64 r3, v3_, v4_, v5_]) ∧ Kd.R k115 115 w' w.heap.size (fun _ => True) v1_ r2 ∧ Kd.R k108 108 w' w.heap.size (fun _ => True) v3_ r4 ∧ Kd.S k80 80 w' w.heap.size (fun k_ => some k_ ≠ (v5_ : Value).ownBlock) v4_ r5 ∧ Kd.S k80 80 w' w.heap.size (fun k_ => some k_ ≠ (v4_ : Value).ownBlock) v5_ r6 ∧ Below w.heap.size w w' := by
 have fY := Tryz.underlying28
 have fZ := Tryz.underlying41
 have gA := Tryz.underlying25
 have gB := Tryz.underlying38
 have cF := Aside0.mk bW
 have cG := Aside0.mk bX
 clear bW bX
 have cH := Aside0.mk bY
 have cI := Aside0.mk bZ
 clear bY bZ
 have cJ := Aside0.mk cA
 have cK := Aside0.mk cB
 clear cA cB
 have cL := Aside0.mk cC
 have cM := Aside0.mk cD
 clear cC cD
 have HB := am (Below.refl w.heap.size w)
 have H : ((laws_toRuleS.f k aU).bind fun aJ => ((laws_toCache.f k aX aS).bind fun bL => ((laws_toSaS.f k aP).bind fun aN => ((laws_toSaS.f k aM).bind fun aL => (some (aD, aJ, bL.1, bL.2, aN, aL)))))) = some (r1, r2, r3, r4, r5, r6) := h
 clear h
 replace H := bm H
 obtain ⟨aJ, fM, H⟩ := H
 replace H : ((laws_toCache.f k aX aS).bind fun bL => ((laws_toSaS.f k aP).bind fun aN => ((laws_toSaS.f k aM).bind fun aL => (some (aD, aJ, bL.1, bL.2, aN, aL))))) = some (r1, r2, r3, r4, r5, r6) := H
 have A2 := Aside0.mk fM
 clear fM
 replace H := bm H
 obtain ⟨⟨aO, aT⟩, fN, H⟩ := H
 replace H : ((laws_toSaS.f k aP).bind fun aN => ((laws_toSaS.f k aM).bind fun aL => (some (aD, aJ, aO, aT, aN, aL)))) = some (r1, r2, r3, r4, r5, r6) := H
 have A3 := Aside0.mk fN
 clear fN
 replace H := bm H
 obtain ⟨aN, fO, H⟩ := H
 replace H : ((laws_toSaS.f k aM).bind fun aL => (some (aD, aJ, aO, aT, aN, aL))) = some (r1, r2, r3, r4, r5, r6) := H
 have A4 := Aside0.mk fO
 clear fO
 replace H := bm H
 obtain ⟨aL, fP, H⟩ := H
 replace H : (some (aD, aJ, aO, aT, aN, aL)) = some (r1, r2, r3, r4, r5, r6) := H
 have A5 := Aside0.mk fP
 clear fP
 simp only [Option.some.injEq, Prod.mk.injEq] at H
 obtain ⟨rfl, rfl, rfl, rfl, rfl, rfl⟩ := H
 go_enter Tryz.func13, Tryz.ntmps13
 go_wp2_with (first | ((with_reducible refine gate_dst (N := 1) rfl ?_); refine box_event rfl (N := 1) rfl (cs := #[.int .i64 aD, .slice bD aU.length bE, .int .i64 aX, .slice bF aS.length bG, .slice bH aP.length bI, .slice bJ aM.length bK]) (t := 28) BX ?_; intro bQ hg w6 bM hb; have aC := am (bM); have cN := am (GH HB hg); have aG := cN; replace HB := bl (KL HB) hb; clear hb bM hg) | ((with_reducible refine gate_dst (N := 2) rfl ?_); refine box_event rfl (N := 2) rfl (cs := #[.int .i64 0, .slice none 0 0, .int .i64 0, .slice none 0 0, .slice none 0 0, .slice none 0 0]) (t := 41) BX ?_; intro aA hg w7 bM hb; have aE := am (bM); have cO := am (GH1 HB aG.out hg); have aI := cO; replace HB := bl (K1 HB aG.out) hb; have bR := am (NL aC hg); have bS := am (NG aC hg); replace aC := am (BB aC hb); clear hb bM hg) | ((with_reducible refine gate_dst (N := 3) rfl ?_); refine box_event rfl (N := 3) rfl (cs := #[.int .i64 0, .slice none 0 0, .int .i64 0, .slice none 0 0, .slice none 0 0, .slice none 0 0]) (t := 41) BX ?_; intro aV hg w8 bM hb; have aB := am (bM); have cP := am (GH2 HB aG.out aI.out hg); have aK := cP; replace HB := bl (K2 HB aG.out aI.out) hb; have aH := am (NL aC hg); have bT := am (NG aC hg); replace aC := am (BB aC hb); have aF := am (NL aE hg); have bU := am (NG aE hg); replace aE := am (BB aE hb); clear hb bM hg; have gC := bR.out; have gD := bS.out; have fQ := aH.out; have fR := bT.out; have ⟨_, _, _, _, _, _, _⟩ := y6 w8 aC.out; have fS := bU.out; have fT := aF.out; have ⟨_, _, _, _, _, _, _⟩ := y6 w8 aB.out) | ((with_reducible refine gate_callee (f := 30) rfl ?_); refine goesL_ (some 9) rfl rfl Tryz.func30 (by kernel_rfl) rfl #[.slice bD aU.length bE] rfl MT ?_; (with_reducible refine (laws_toRuleS.calls k _ _ aU aJ _ ?_ ?_ A2.out).mono ?_); exact Kd.C_below cF.out (K3 HB aG.out aI.out aK.out); exact cG.out; rintro e fU ⟨gE, rfl, bV, hb⟩; refine ⟨_, rfl, ?_⟩; have aW := am (Kd.R_lower bV (below_size (K3 HB aG.out aI.out aK.out))); replace aC := am (blk_below (g := bQ) (o := .cells #[.int .i64 aD, .slice bD aU.length bE, .int .i64 aX, .slice bF aS.length bG, .slice bH aP.length bI, .slice bJ aM.length bK] 28 (0, 0)) (by refine BD ?_; refine blk_far ?_ aH.out _; refine BD ?_; exact aC.out) hb); replace aE := am (blk_below (g := aA) (o := .cells #[.int .i64 0, .slice none 0 0, .int .i64 0, .slice none 0 0, .slice none 0 0, .slice none 0 0] 41 (0, 0)) (by refine BD ?_; refine blk_far ?_ aF.out _; refine BD ?_; exact aE.out) hb); replace aB := am (blk_below (g := aV) (o := .cells #[.int .i64 aD, .slice none 0 0, .int .i64 0, .slice none 0 0, .slice none 0 0, .slice none 0 0] 41 (0, 0)) (by refine BD ?_; refine blk_put (cs := #[.int .i64 0, .slice none 0 0, .int .i64 0, .slice none 0 0, .slice none 0 0, .slice none 0 0]) ?_ 0 _ rfl; refine BD ?_; exact aB.out) hb); replace HB := bl (K3 HB aG.out aI.out aK.out) hb; (try clear hb); (try clear hb2); (try clear hk); (try clear hi); (try clear bV); obtain ⟨aQ, aR, fI⟩ := Kd.R_slice aW.out; subst fI; have ⟨_, _, _, _, _, _, _⟩ := y6 fU aB.out; have ⟨_, _, _, _, _, _, _⟩ := y6 fU aC.out) | ((with_reducible refine gate_callee (f := 31) rfl ?_); refine goesL_ (some 13) rfl rfl Tryz.func31 (by kernel_rfl) rfl #[.agg #[.int .i64 aX, .slice bF aS.length bG]] rfl MT ?_; (with_reducible refine (laws_toCache.calls k aX _ _ aS aO aT _ ?_ ?_ A3.out).mono ?_); exact Kd.C_below cH.out (K3 HB aG.out aI.out aK.out); exact cI.out; rintro e fV ⟨gF, rfl, bV, hb⟩; refine ⟨_, rfl, ?_⟩; replace aW := am (Kd.R_below (by refine KW ?_; exact (RF aW.out aB.out)) hb); have bA := am (Kd.R_lower bV (below_size (K3 HB aG.out aI.out aK.out))); replace aC := am (blk_below (g := bQ) (o := .cells #[.int .i64 aD, .slice bD aU.length bE, .int .i64 aX, .slice bF aS.length bG, .slice bH aP.length bI, .slice bJ aM.length bK] 28 (0, 0)) (by refine BD ?_; refine blk_far ?_ aH.out _; refine BD ?_; exact aC.out) hb); replace aE := am (blk_below (g := aA) (o := .cells #[.int .i64 0, .slice none 0 0, .int .i64 0, .slice none 0 0, .slice none 0 0, .slice none 0 0] 41 (0, 0)) (by refine BD ?_; refine blk_far ?_ aF.out _; refine BD ?_; exact aE.out) hb); replace aB := am (blk_below (g := aV) (o := .cells #[.int .i64 aD, .slice aQ aJ.length aR, .int .i64 0, .slice none 0 0, .slice none 0 0, .slice none 0 0] 41 (0, 0)) (by refine BD ?_; refine blk_put (cs := #[.int .i64 aD, .slice none 0 0, .int .i64 0, .slice none 0 0, .slice none 0 0, .slice none 0 0]) ?_ 1 _ rfl; refine BD ?_; exact aB.out) hb); replace HB := bl (K3 HB aG.out aI.out aK.out) hb; (try clear hb); (try clear hb2); (try clear hk); (try clear hi); (try clear bV); have ⟨_, _, _, _, _, _, _⟩ := y6 fV aB.out; obtain ⟨aY, aZ, fJ⟩ := Kd.R_slice bA.out; subst fJ; have ⟨_, _, _, _, _, _, _⟩ := y6 fV aC.out) | ((with_reducible refine gate_callee (f := 32) rfl ?_); refine goesL_ (some 17) rfl rfl Tryz.func32 (by kernel_rfl) rfl #[.slice bH aP.length bI] rfl MT ?_; (with_reducible refine (laws_toSaS.calls k _ _ aP aN _ ?_ ?_ A4.out).mono ?_); exact Kd.C_below cJ.out (K3 HB aG.out aI.out aK.out); exact cK.out; rintro e fW ⟨gG, rfl, bV, hb⟩; refine ⟨_, rfl, ?_⟩; replace aW := am (Kd.R_below (by refine KW ?_; exact (RF aW.out aB.out)) hb); replace bA := am (Kd.R_below (by refine KW ?_; exact (RF bA.out aB.out)) hb); have bN := am (Kd.S_lower bV (below_size (K3 HB aG.out aI.out aK.out))); replace aC := am (blk_below (g := bQ) (o := .cells #[.int .i64 aD, .slice bD aU.length bE, .int .i64 aX, .slice bF aS.length bG, .slice bH aP.length bI, .slice bJ aM.length bK] 28 (0, 0)) (by refine BD ?_; refine blk_far ?_ aH.out _; refine BD ?_; refine blk_far ?_ aH.out _; refine BD ?_; exact aC.out) hb); replace aE := am (blk_below (g := aA) (o := .cells #[.int .i64 0, .slice none 0 0, .int .i64 0, .slice none 0 0, .slice none 0 0, .slice none 0 0] 41 (0, 0)) (by refine BD ?_; refine blk_far ?_ aF.out _; refine BD ?_; refine blk_far ?_ aF.out _; refine BD ?_; exact aE.out) hb); replace aB := am (blk_below (g := aV) (o := .cells #[.int .i64 aD, .slice aQ aJ.length aR, .int .i64 aO, .slice aY aT.length aZ, .slice none 0 0, .slice none 0 0] 41 (0, 0)) (by refine BD ?_; refine blk_put (cs := #[.int .i64 aD, .slice aQ aJ.length aR, .int .i64 aO, .slice none 0 0, .slice none 0 0, .slice none 0 0]) ?_ 3 _ rfl; refine BD ?_; refine blk_put (cs := #[.int .i64 aD, .slice aQ aJ.length aR, .int .i64 0, .slice none 0 0, .slice none 0 0, .slice none 0 0]) ?_ 2 _ rfl; refine BD ?_; exact aB.out) hb); replace HB := bl (K3 HB aG.out aI.out aK.out) hb; (try clear hb); (try clear hb2); (try clear hk); (try clear hi); (try clear bV); obtain ⟨bO, bP, fK⟩ := Kd.S_slice bN.out; subst fK; have ⟨_, _, _, _, _, _, _⟩ := y6 fW aB.out; have ⟨_, _, _, _, _, _, _⟩ := y6 fW aC.out) | ((with_reducible refine gate_callee (f := 32) rfl ?_); refine goesL_ (some 21) rfl rfl Tryz.func32 (by kernel_rfl) rfl #[.slice bJ aM.length bK] rfl MT ?_; (with_reducible refine (laws_toSaS.calls k _ _ aM aL _ ?_ ?_ A5.out).mono ?_); exact Kd.C_below cL.out (K3 HB aG.out aI.out aK.out); exact cM.out; rintro e fX ⟨gH, rfl, bV, hb⟩; refine ⟨_, rfl, ?_⟩; replace aW := am (Kd.R_below (by refine KW ?_; exact (RF aW.out aB.out)) hb); replace bA := am (Kd.R_below (by refine KW ?_; exact (RF bA.out aB.out)) hb); have cE := am (Kd.S_lower (Kd.S_new' bV (Kd.S_lt (by refine KX ?_; exact (SF bN.out aB.out)))) (below_size (K3 HB aG.out aI.out aK.out))); replace bN := am (Kd.S_elder' (by refine KX ?_; exact (SF bN.out aB.out)) (Kd.S_base bV) hb); replace aC := am (blk_below (g := bQ) (o := .cells #[.int .i64 aD, .slice bD aU.length bE, .int .i64 aX, .slice bF aS.length bG, .slice bH aP.length bI, .slice bJ aM.length bK] 28 (0, 0)) (by refine BD ?_; refine blk_far ?_ aH.out _; refine BD ?_; exact aC.out) hb); replace aE := am (blk_below (g := aA) (o := .cells #[.int .i64 0, .slice none 0 0, .int .i64 0, .slice none 0 0, .slice none 0 0, .slice none 0 0] 41 (0, 0)) (by refine BD ?_; refine blk_far ?_ aF.out _; refine BD ?_; exact aE.out) hb); replace aB := am (blk_below (g := aV) (o := .cells #[.int .i64 aD, .slice aQ aJ.length aR, .int .i64 aO, .slice aY aT.length aZ, .slice bO aN.length bP, .slice none 0 0] 41 (0, 0)) (by refine BD ?_; refine blk_put (cs := #[.int .i64 aD, .slice aQ aJ.length aR, .int .i64 aO, .slice aY aT.length aZ, .slice none 0 0, .slice none 0 0]) ?_ 4 _ rfl; refine BD ?_; exact aB.out) hb); replace HB := bl (K3 HB aG.out aI.out aK.out) hb; (try clear hb); (try clear hb2); (try clear hk); (try clear hi); (try clear bV); obtain ⟨bB, bC, fL⟩ := Kd.S_slice cE.out; subst fL; have ⟨_, _, _, _, _, _, _⟩ := y6 fX aB.out; have ⟨_, _, _, _, _, _, _⟩ := y6 fX aE.out))
 refine bodyPost_ret (results_cell_row rfl _ _ aA 41 #[.int .i64 aD, .slice aQ aJ.length aR, .int .i64 aO, .slice aY aT.length aZ, .slice bO aN.length bP, .slice bB aL.length bC] (0, 0) _ rfl (by refine BD ?_; refine blk_put (cs := #[.int .i64 aD, .slice aQ aJ.length aR, .int .i64 aO, .slice aY aT.length aZ, .slice bO aN.length bP, .slice none 0 0]) ?_ 5 _ rfl; refine BD ?_; refine blk_put (cs := #[.int .i64 aD, .slice aQ aJ.length aR, .int .i64 aO, .slice aY aT.length aZ, .slice none 0 0, .slice none 0 0]) ?_ 4 _ rfl; refine BD ?_; refine blk_put (cs := #[.int .i64 aD, .slice aQ aJ.length aR, .int .i64 aO, .slice none 0 0, .slice none 0 0, .slice none 0 0]) ?_ 3 _ rfl; refine BD ?_; refine blk_put (cs := #[.int .i64 aD, .slice aQ aJ.length aR, .int .i64 0, .slice none 0 0, .slice none 0 0, .slice none 0 0]) ?_ 2 _ rfl; refine BD ?_; refine blk_put (cs := #[.int .i64 aD, .slice none 0 0, .int .i64 0, .slice none 0 0, .slice none 0 0, .slice none 0 0]) ?_ 1 _ rfl; refine BD ?_; refine blk_put (cs := #[.int .i64 0, .slice none 0 0, .int .i64 0, .slice none 0 0, .slice none 0 0, .slice none 0 0]) ?_ 0 _ rfl; refine BD ?_; refine blk_far ?_ aF.out _; refine BD ?_; exact aE.out) Tryz.underlying41 rfl (by kernel_rfl)) rfl ?_
 exact ⟨_, _, _, _, ER, by refine KW ?_; exact Kd.R_mono (Kd.R_far (p := ⟨aA, 5, none⟩) (Kd.R_far (p := ⟨aA, 4, none⟩) (Kd.R_far (p := ⟨aA, 3, none⟩) (Kd.R_far (p := ⟨aA, 2, none⟩) (Kd.R_far (p := ⟨aA, 1, none⟩) (Kd.R_far (p := ⟨aA, 0, none⟩) (Kd.R_far (p := ⟨aV, 5, none⟩) (Kd.R_types (Kd.R_types aW.out aB.out (by decide)) aE.out (by decide)) (fun _ hk => hk.1.2) (.slice bB aL.length bC)) (fun _ hk => hk.2) (.int .i64 aD)) (fun _ hk => hk.2) (.slice aQ aJ.length aR)) (fun _ hk => hk.2) (.int .i64 aO)) (fun _ hk => hk.2) (.slice aY aT.length aZ)) (fun _ hk => hk.2) (.slice bO aN.length bP)) (fun _ hk => hk.2) (.slice bB aL.length bC)) (fun _ hk => trivial), by refine KW ?_; exact Kd.R_mono (Kd.R_far (p := ⟨aA, 5, none⟩) (Kd.R_far (p := ⟨aA, 4, none⟩) (Kd.R_far (p := ⟨aA, 3, none⟩) (Kd.R_far (p := ⟨aA, 2, none⟩) (Kd.R_far (p := ⟨aA, 1, none⟩) (Kd.R_far (p := ⟨aA, 0, none⟩) (Kd.R_far (p := ⟨aV, 5, none⟩) (Kd.R_types (Kd.R_types bA.out aB.out (by decide)) aE.out (by decide)) (fun _ hk => hk.1.2) (.slice bB aL.length bC)) (fun _ hk => hk.2) (.int .i64 aD)) (fun _ hk => hk.2) (.slice aQ aJ.length aR)) (fun _ hk => hk.2) (.int .i64 aO)) (fun _ hk => hk.2) (.slice aY aT.length aZ)) (fun _ hk => hk.2) (.slice bO aN.length bP)) (fun _ hk => hk.2) (.slice bB aL.length bC)) (fun _ hk => trivial), by refine KX ?_; exact Kd.S_mono (Kd.S_far (p := ⟨aA, 5, none⟩) (Kd.S_far (p := ⟨aA, 4, none⟩) (Kd.S_far (p := ⟨aA, 3, none⟩) (Kd.S_far (p := ⟨aA, 2, none⟩) (Kd.S_far (p := ⟨aA, 1, none⟩) (Kd.S_far (p := ⟨aA, 0, none⟩) (Kd.S_far (p := ⟨aV, 5, none⟩) (Kd.S_types (Kd.S_types bN.out aB.out (by decide)) aE.out (by decide)) (fun _ hk => hk.1.2) (.slice bB aL.length bC)) (fun _ hk => hk.2) (.int .i64 aD)) (fun _ hk => hk.2) (.slice aQ aJ.length aR)) (fun _ hk => hk.2) (.int .i64 aO)) (fun _ hk => hk.2) (.slice aY aT.length aZ)) (fun _ hk => hk.2) (.slice bO aN.length bP)) (fun _ hk => hk.2) (.slice bB aL.length bC)) (fun _ hk => hk.1.1.2), by refine KX ?_; exact Kd.S_mono (Kd.S_far (p := ⟨aA, 5, none⟩) (Kd.S_far (p := ⟨aA, 4, none⟩) (Kd.S_far (p := ⟨aA, 3, none⟩) (Kd.S_far (p := ⟨aA, 2, none⟩) (Kd.S_far (p := ⟨aA, 1, none⟩) (Kd.S_far (p := ⟨aA, 0, none⟩) (Kd.S_far (p := ⟨aV, 5, none⟩) (Kd.S_types (Kd.S_types cE.out aB.out (by decide)) aE.out (by decide)) (fun _ hk => hk.1.2) (.slice bB aL.length bC)) (fun _ hk => hk.2) (.int .i64 aD)) (fun _ hk => hk.2) (.slice aQ aJ.length aR)) (fun _ hk => hk.2) (.int .i64 aO)) (fun _ hk => hk.2) (.slice aY aT.length aZ)) (fun _ hk => hk.2) (.slice bO aN.length bP)) (fun _ hk => hk.2) (.slice bB aL.length bC)) (fun _ hk => hk.1.1.2), K3 HB aG.out aI.out aK.out⟩
def laws_toAirS.l0 : Nat → List (S67) → List (S54) → Int → Option ((List (S54)))
 | 0, _, _, _ => none
 | k + 1, x0, x3, x4 => if x4 < (x0.length : Int) then (if 0 ≤ x4 then ((laws_toAir.f ((rd_T67 x0 x4).f0) ((rd_T67 x0 x4).f1)).bind fun bt105 => (if x4 < (x3.length : Int) then (laws_toAirS.l0 k x0 (x3.set (x4 : Int).toNat (⟨bt105.1, bt105.2⟩ : S54)) (wrap64 (x4 + 1))) else (none))) else (none)) else (some x3)
def laws_toAirS.f (k : Nat) (l0 : List (S67)) : Option ((List (S54))) := if 0 ≤ (l0.length : Int) then (if ((l0.length : Int) : Int).toNat ≤ 11728124029610 then (laws_toAirS.l0 k l0 (List.replicate ((l0.length : Int) : Int).toNat z54) 0) else (none)) else (none)
theorem laws_toAirS.calls (k : Nat) (A0 : Option Addr) (c0 : Nat) (l0 : List (S67)) (r : List (S54)) (w : World) (bK : Kd.C k67 w A0 l0.length l0) (bL : l0.length ≤ c0) (h : laws_toAirS.f k l0 = some r) :
  Calls Tryz.prog 14 #[.slice A0 l0.length c0] w fun e w' => ∃ v0_ : Value, e = .returned (v0_) ∧ Kd.R k54 54 w' w.heap.size (fun _ => True) v0_ r ∧ Below w.heap.size w w' := by
 have bO := Tryz.underlying67
 have bP := Tryz.underlying54
 have bQ := Aside0.mk bK
 have bR := Aside0.mk bL
 clear bK bL
 have HB := am (Below.refl w.heap.size w)
 have H : (if 0 ≤ (l0.length : Int) then (if ((l0.length : Int) : Int).toNat ≤ 11728124029610 then (laws_toAirS.l0 k l0 (List.replicate ((l0.length : Int) : Int).toNat z54) 0) else (none)) else (none)) = some r := h
 clear h
 by_cases c2 : 0 ≤ (l0.length : Int)
 ·rw [if_pos c2] at H
  have c2b0 := eq_true c2
  have c2b1 : decide (0 ≤ (l0.length : Int)) = true := decide_eq_true c2
  clear c2
  by_cases c3 : ((l0.length : Int) : Int).toNat ≤ 11728124029610
  ·rw [if_pos c3] at H
   have c3b0 := eq_true c3
   have c3b1 : decide (((l0.length : Int) : Int).toNat ≤ 11728124029610) = true := decide_eq_true c3
   clear c3
   obtain ⟨aV, aD⟩ : ∃ y_ : List (S54), y_ = (List.replicate ((l0.length : Int) : Int).toNat z54) := ⟨_, rfl⟩
   replace H : (laws_toAirS.l0 k l0 aV 0) = some r := by first | (rw [aD]; with_reducible exact H) | (have H2_ := (Option.bind_some _ _).symm.trans H; rw [aD]; with_reducible exact H2_) | (have H2_ := (Option.bind_some _ _).symm.trans H; with_reducible exact H2_) | with_reducible exact H | (rw [aD]; exact H) | exact H
   have Ny101 := Aside0.mk aD
   clear aD
   have H' := Aside0.mk H
   clear H
   go_enter Tryz.func14, Tryz.ntmps14
   go_wp2_with (first | ((with_reducible refine gate_dst (N := 7) rfl ?_); refine Kd.R_make k54 _ 54 rfl (N := 7) rfl 42 _ _ rfl (l0.length : Int) rfl rfl Tryz.underlying42 (.agg #[(.string ⟨#[]⟩), (.bool false)]) 24 info54 rfl (by decide) (by omega) z54 (ok := fun _ => True) (okp := fun _ => True) (k54_mkM _ _ _ z54 ) (fun _ hk => hk) trivial (OD) (Nat.le_trans (Nat.mul_le_mul_right _ (OD : (l0.length : Int).toNat ≤ 11728124029610)) (by omega)) (Below.refl _ _) (Nat.le_refl _) ?_; intro bB w4 aW hb hg_ hnew_; clear hg_ hnew_; (first | rw [← Ny101.out] at aW | (simp only [Int.reduceToNat] at aW; rw [← Ny101.out] at aW)); have aX := am (Kd.R_lower aW (below_size (KL HB))); replace HB := bl (KL HB) hb; clear hb aW))
   go_loopg [4] k (fun kq v4 w' => ∃ (aB : List (S54)) (aA : Int), v4 = .int .i64 aA ∧ Aside0 (laws_toAirS.l0 kq l0 aB aA = some r) ∧ Aside0 (kq ≤ k) ∧ Aside0 (Kd.R k54 54 w' w.heap.size (fun _ => True) bB aB) ∧ Aside0 (Below w.heap.size w w'))
   case atStart => exact ⟨(aV), (0), (by first | rfl | (simp; done) | (simp [*]; done)), H', ⟨Nat.le_refl _⟩, ⟨KR aX⟩, ⟨KL HB⟩⟩
   case round =>
    clear H'
    try clear c1
    try clear c2
    try clear c2b0
    try clear c2b1
    try clear p2
    try clear c3
    try clear c3b0
    try clear c3b1
    obtain ⟨aB, aA, rfl, HA, HK1, aC, HB⟩ := hrel
    cases gk with
    | zero => exact absurd HA.out (by simp [laws_toAirS.l0])
    | succ k1 =>
     have H := HA.out
     clear HA
     simp only [laws_toAirS.l0] at H
     by_cases c6 : aA < (l0.length : Int)
     ·rw [if_pos c6] at H
      have c6b0 : decide (aA < (l0.length : Int)) = true := decide_eq_true c6
      clear c6
      by_cases c7 : 0 ≤ aA
      ·rw [if_pos c7] at H
       have c7b0 : decide (0 ≤ aA) = true := decide_eq_true c7
       clear c7
       replace H := bm H
       obtain ⟨⟨aF, aG⟩, bM, H⟩ := H
       replace H : (if aA < (aB.length : Int) then (laws_toAirS.l0 k1 l0 (aB.set (aA : Int).toNat (⟨aF, aG⟩ : S54)) (wrap64 (aA + 1))) else (none)) = some r := H
       have A8 := Aside0.mk bM
       clear bM
       by_cases c9 : aA < (aB.length : Int)
       ·rw [if_pos c9] at H
        have c9b0 : decide (aA < (aB.length : Int)) = true := decide_eq_true c9
        clear c9
        obtain ⟨aN, aE⟩ : ∃ y_ : List (S54), y_ = (aB.set (aA : Int).toNat (⟨aF, aG⟩ : S54)) := ⟨_, rfl⟩
        replace H : (laws_toAirS.l0 k1 l0 aN (wrap64 (aA + 1))) = some r := by first | (rw [aE]; with_reducible exact H) | (have H2_ := (Option.bind_some _ _).symm.trans H; rw [aE]; with_reducible exact H2_) | (have H2_ := (Option.bind_some _ _).symm.trans H; with_reducible exact H2_) | with_reducible exact H | (rw [aE]; exact H) | exact H
        have Ny107 := Aside0.mk aE
        clear aE
        have H' := Aside0.mk H
        clear H
        have aO : 0 ≤ (aA : Int) := OD
        have aP : aA < (l0.length : Int) := OD
        obtain ⟨_, bC, aH, aI⟩ := at_T67 bQ.out aA aO aP
        cases bC
        replace aH := CX HB.out aH
        replace aI := CX HB.out aI
        replace aO := eq_true aO
        replace aP := eq_true aP
        go_wp2_with (first | ((with_reducible refine gate_callee (f := 33) rfl ?_); refine goesL_ (some 20) rfl rfl Tryz.func33 (by kernel_rfl) rfl #[.agg #[.string ((rd_T67 l0 aA).f0), .bool ((rd_T67 l0 aA).f1)]] rfl MT ?_; (with_reducible refine (laws_toAir.calls ((rd_T67 l0 aA).f0) ((rd_T67 l0 aA).f1) aF aG _ A8.out).mono ?_); rintro e aQ ⟨rfl, hb⟩; refine ⟨_, rfl, ?_⟩; replace aC := am (Kd.R_below (KR aC) hb); replace HB := bl (KL HB) hb; (try clear hb); have bD : 0 ≤ (aA : Int) := OD; have bE : (aA : Int) < ((aB.length : Int) : Int) := OD; obtain ⟨go10, aY, aZ, bA, gl10, cl10, HG10⟩ := Kd.R_form aC.out (by omega); (first | cases aZ | (injection aZ with ea_ en_ ec_; (first | subst ea_ | (injection ea_ with ea_; subst ea_)); subst ec_; clear en_)); have GB10 := Aside0.mk bA; have GG10 := Aside0.mk HG10; clear bA gl10 HG10; obtain ⟨ce10, hcl10, hM10, aK, aL⟩ := Kd.R_elem aC.out z54 (aA : Int) bD bE; obtain rfl := k54_openM hM10; have bF : aQ.cell? ⟨go10, (aA : Int).toNat * 2, none⟩ = some (.string ((rd_T54 aB aA).f0)) := aK 0 _ rfl; have bG : aQ.cell? ⟨go10, (aA : Int).toNat * 2 + 1, none⟩ = some (.bool ((rd_T54 aB aA).f1)) := aK 1 _ rfl; have bH : aQ.frozen? ⟨go10, (aA : Int).toNat * 2, none⟩ = false := aL 0; have bI : aQ.frozen? ⟨go10, (aA : Int).toNat * 2 + 1, none⟩ = false := aL 1; clear hcl10 aK aL hM10; replace bD := eq_true bD; replace bE := eq_true bE; have HX12 := am (show Kd.R k54 54 aQ w.heap.size (fun _ => True) (.slice (some ⟨go10, 0, none⟩) aB.length aY) aB from (KR aC)); obtain ⟨ce12, hcl12, hM12, aJ, aM⟩ := Kd.R_elem HX12.out z54 (aA : Int) (OD) (by have h_ : (aA : Int) < ((aB.length : Int) : Int) := OD; first | exact h_ | (have e_ := (Kd.R_reads' aC.out).1; omega) | simpa using h_); obtain rfl := k54_openM hM12; have HP12 := Kd.R_seg HX12.out (aA : Int) (OD) (by have h_ : (aA : Int) < ((aB.length : Int) : Int) := OD; first | exact h_ | (have e_ := (Kd.R_reads' aC.out).1; omega) | simpa using h_) (seg := [.string aF, .bool aG]) (j := 0) hcl12 aJ (show 2 ≤ 2 from by decide) (x' := (⟨aF, aG⟩ : S54)) (k54_mkM _ _ _ (⟨aF, aG⟩ : S54) ) (fun _ hk => hk); have aR := aJ 0 _ rfl; (try simp only [show (k54).sz = 2 from rfl, Nat.mul_one, Nat.add_zero] at aR); have aS := aM 0; (try simp only [show (k54).sz = 2 from rfl, Nat.mul_one, Nat.add_zero] at aS); have aT := aJ 1 _ rfl; (try simp only [show (k54).sz = 2 from rfl, Nat.mul_one, Nat.add_zero] at aT); have aU := aM 1; (try simp only [show (k54).sz = 2 from rfl, Nat.mul_one, Nat.add_zero] at aU); clear hcl12 aJ aM hM12) | ((with_reducible refine gate_store (t := 54) (p := 21) rfl ?_); refine store_event (t := 54) (p := 21) (v := ?vo_w13) (w1 := ((aQ.setCell ⟨go10, (aA : Int).toNat * 2, none⟩ (.string aF)).setCell ⟨go10, (aA : Int).toNat * 2 + 1, none⟩ (.bool aG))) ?hg ?ho ?hn ?hr ?_; (case ho => rfl); (case hg => rfl); (case hn => rfl); (case hr => first | (go_simp; done) | (go_simp; rfl)); intro bJ hw; have hg : aQ.grownBy bJ (some go10) := (by rw [hw]; exact HP12.2); have hp_ : Kd.R k54 54 bJ w.heap.size (fun _ => True) (.slice (some ⟨go10, 0, none⟩) aB.length aY) aN := (by rw [hw, Ny107.out]; exact HP12.1); clear HP12; replace aC := am (hp_); replace HB := am ((by rw [hw]; exact below_set (below_set (HB.out) GB10.out) GB10.out : Below w.heap.size w bJ)); clear hg hw hp_))
        go_roundg k1
        case measure => have := HK1.out; omega
        case rel => exact ⟨(aN), (wrap64 (aA + 1)), (by first | rfl | (simp; done) | (simp [*]; done)), H', ⟨by have := HK1.out; omega⟩, ⟨KR aC⟩, ⟨KL HB⟩⟩
       ·rw [if_neg c9] at H
        exact absurd H (by simp)
      ·rw [if_neg c7] at H
       exact absurd H (by simp)
     ·rw [if_neg c6] at H
      have c6b0 : decide (aA < (l0.length : Int)) = false := decide_eq_false c6
      clear c6
      obtain rfl := sj H
      go_wp2
      go_ret
      exact ⟨_, ER, by refine KW ?_; exact aC.out, KL HB⟩
  ·rw [if_neg c3] at H
   exact absurd H (by simp)
 ·rw [if_neg c2] at H
  exact absurd H (by simp)
def laws_toPacket.f (a0_0 : Int) (a0_1 : Int) (a0_2 : Int) (a0_3 : ByteArray) : Option (Int × Int × Int × ByteArray) := some (a0_0, a0_1, a0_2, a0_3)
theorem laws_toPacket.calls (aD : Int) (aG : Int) (aH : Int) (aN : ByteArray) (r1 : Int) (r2 : Int) (r3 : Int) (r4 : ByteArray) (w : World) (h : laws_toPacket.f aD aG aH aN = some (r1, r2, r3, r4)) :
  Calls Tryz.prog 57 #[.agg #[.int .i64 aD, .int .i64 aG, .int .i64 aH, .string aN]] w fun e w' => e = .returned (.agg #[.int .i64 r1, .int .i64 r2, .int .i64 r3, .string r4]) ∧ Below w.heap.size w w' := by
 have bM := Tryz.underlying70
 have bN := Tryz.underlying85
 have HB := am (Below.refl w.heap.size w)
 have H : (some (aD, aG, aH, aN)) = some (r1, r2, r3, r4) := h
 clear h
 simp only [Option.some.injEq, Prod.mk.injEq] at H
 obtain ⟨rfl, rfl, rfl, rfl⟩ := H
 go_enter Tryz.func57, Tryz.ntmps57
 go_wp2_with (first | ((with_reducible refine gate_dst (N := 1) rfl ?_); refine box_event rfl (N := 1) rfl (cs := #[.int .i64 aD, .int .i64 aG, .int .i64 aH, .string aN]) (t := 70) BX ?_; intro bK hg w2 aE hb; have aB := am (aE); have aP := am (GH HB hg); have aF := aP; replace HB := bl (KL HB) hb; clear hb aE hg) | ((with_reducible refine gate_dst (N := 2) rfl ?_); refine box_event rfl (N := 2) rfl (cs := #[.int .i64 0, .int .i64 0, .int .i64 0, .string (⟨#[]⟩ : ByteArray)]) (t := 85) BX ?_; intro aQ hg w3 aE hb; have aC := am (aE); have aR := am (GH1 HB aF.out hg); have aO := aR; replace HB := bl (K1 HB aF.out) hb; have aI := am (NL aB hg); have aJ := am (NG aB hg); replace aB := am (BB aB hb); clear hb aE hg) | ((with_reducible refine gate_dst (N := 3) rfl ?_); refine box_event rfl (N := 3) rfl (cs := #[.int .i64 0, .int .i64 0, .int .i64 0, .string (⟨#[]⟩ : ByteArray)]) (t := 85) BX ?_; intro bL hg w4 aE hb; have aS := am (aE); have aT := am (GH2 HB aF.out aO.out hg); have aU := aT; replace HB := bl (K2 HB aF.out aO.out) hb; have aK := am (NL aB hg); have aL := am (NG aB hg); replace aB := am (BB aB hb); have aA := am (NL aC hg); have aM := am (NG aC hg); replace aC := am (BB aC hb); clear hb aE hg; have bO := aI.out; have bP := aJ.out; have bQ := aK.out; have bR := aL.out; have ⟨_, _, _, _, _⟩ := y4 w4 aB.out; have bS := aM.out; have bT := aA.out; have ⟨_, _, _, _, _⟩ := y4 w4 aS.out; have ⟨_, _, _, _, _⟩ := y4 w4 aC.out))
 refine bodyPost_ret (results_cell_row rfl _ _ aQ 85 #[.int .i64 aD, .int .i64 aG, .int .i64 aH, .string aN] (0, 0) _ rfl (by refine BD ?_; refine blk_put (cs := #[.int .i64 aD, .int .i64 aG, .int .i64 aH, .string (⟨#[]⟩ : ByteArray)]) ?_ 3 _ rfl; refine BD ?_; refine blk_put (cs := #[.int .i64 aD, .int .i64 aG, .int .i64 0, .string (⟨#[]⟩ : ByteArray)]) ?_ 2 _ rfl; refine BD ?_; refine blk_put (cs := #[.int .i64 aD, .int .i64 0, .int .i64 0, .string (⟨#[]⟩ : ByteArray)]) ?_ 1 _ rfl; refine BD ?_; refine blk_put (cs := #[.int .i64 0, .int .i64 0, .int .i64 0, .string (⟨#[]⟩ : ByteArray)]) ?_ 0 _ rfl; refine BD ?_; refine blk_far ?_ aA.out _; refine BD ?_; refine blk_far ?_ aA.out _; refine BD ?_; refine blk_far ?_ aA.out _; refine BD ?_; refine blk_far ?_ aA.out _; refine BD ?_; exact aC.out) Tryz.underlying85 rfl (by kernel_rfl)) rfl ?_
 exact ⟨ER, K3 HB aF.out aO.out aU.out⟩
def laws_toSent.f (a0_0 : Int) (a0_1 : Int) (a0_2 : Int) (a0_3 : ByteArray) (a0_4 : Int) (a0_5 : Int) (a0_6 : Int) : Option (Int × Int × Int × ByteArray × Int × Int × Int) := (laws_toPacket.f a0_0 a0_1 a0_2 a0_3).bind fun bt104 => (some (bt104.1, bt104.2.1, bt104.2.2.1, bt104.2.2.2, a0_4, a0_5, a0_6))
theorem laws_toSent.calls (aM : Int) (aN : Int) (aO : Int) (aP : ByteArray) (aF : Int) (aI : Int) (aQ : Int) (r1 : Int) (r2 : Int) (r3 : Int) (r4 : ByteArray) (r5 : Int) (r6 : Int) (r7 : Int) (w : World) (h : laws_toSent.f aM aN aO aP aF aI aQ = some (r1, r2, r3, r4, r5, r6, r7)) :
  Calls Tryz.prog 34 #[.agg #[.int .i64 aM, .int .i64 aN, .int .i64 aO, .string aP, .int .i64 aF, .int .i64 aI, .int .i64 aQ]] w fun e w' => e = .returned (.agg #[.int .i64 r1, .int .i64 r2, .int .i64 r3, .string r4, .int .i64 r5, .int .i64 r6, .int .i64 r7]) ∧ Below w.heap.size w w' := by
 have cO := Tryz.underlying72
 have cP := Tryz.underlying87
 have cQ := Tryz.underlying70
 have cR := Tryz.underlying85
 have HB := am (Below.refl w.heap.size w)
 have H : ((laws_toPacket.f aM aN aO aP).bind fun aK => (some (aK.1, aK.2.1, aK.2.2.1, aK.2.2.2, aF, aI, aQ))) = some (r1, r2, r3, r4, r5, r6, r7) := h
 clear h
 replace H := bm H
 obtain ⟨⟨aE, aG, aJ, aR⟩, cJ, H⟩ := H
 replace H : (some (aE, aG, aJ, aR, aF, aI, aQ)) = some (r1, r2, r3, r4, r5, r6, r7) := H
 have A2 := Aside0.mk cJ
 clear cJ
 simp only [Option.some.injEq, Prod.mk.injEq] at H
 obtain ⟨rfl, rfl, rfl, rfl, rfl, rfl, rfl⟩ := H
 go_enter Tryz.func34, Tryz.ntmps34
 go_wp2_with (first | ((with_reducible refine gate_dst (N := 1) rfl ?_); refine box_event rfl (N := 1) rfl (cs := #[.int .i64 aM, .int .i64 aN, .int .i64 aO, .string aP, .int .i64 aF, .int .i64 aI, .int .i64 aQ]) (t := 72) BX ?_; intro cK hg w3 aH hb; have aB := am (aH); have aZ := am (GH HB hg); have aD := aZ; replace HB := bl (KL HB) hb; clear hb aH hg) | ((with_reducible refine gate_dst (N := 2) rfl ?_); refine box_event rfl (N := 2) rfl (cs := #[.int .i64 0, .int .i64 0, .int .i64 0, .string (⟨#[]⟩ : ByteArray), .int .i64 0, .int .i64 0, .int .i64 0]) (t := 87) BX ?_; intro bA hg w4 aH hb; have aC := am (aH); have bB := am (GH1 HB aD.out hg); have aL := bB; replace HB := bl (K1 HB aD.out) hb; have aS := am (NL aB hg); have aT := am (NG aB hg); replace aB := am (BB aB hb); clear hb aH hg) | ((with_reducible refine gate_dst (N := 3) rfl ?_); refine box_event rfl (N := 3) rfl (cs := #[.int .i64 0, .int .i64 0, .int .i64 0, .string (⟨#[]⟩ : ByteArray), .int .i64 0, .int .i64 0, .int .i64 0]) (t := 87) BX ?_; intro cL hg w5 aH hb; have aX := am (aH); have bC := am (GH2 HB aD.out aL.out hg); have aY := bC; replace HB := bl (K2 HB aD.out aL.out) hb; have aU := am (NL aB hg); have aV := am (NG aB hg); replace aB := am (BB aB hb); have aA := am (NL aC hg); have aW := am (NG aC hg); replace aC := am (BB aC hb); clear hb aH hg; have cS := aS.out; have cT := aT.out; have cU := aU.out; have cV := aV.out; have ⟨_, _, _, _, _, _, _, _⟩ := y7 w5 aB.out) | ((with_reducible refine gate_callee (f := 57) rfl ?_); refine goesL_ (some 6) rfl rfl Tryz.func57 (by kernel_rfl) rfl #[.agg #[.int .i64 aM, .int .i64 aN, .int .i64 aO, .string aP]] rfl MT ?_; (with_reducible refine (laws_toPacket.calls aM aN aO aP aE aG aJ aR _ A2.out).mono ?_); rintro e w9 ⟨rfl, hb⟩; refine ⟨_, rfl, ?_⟩; replace aB := am (BB aB hb); replace aC := am (BB aC hb); replace aX := am (BB aX hb); replace HB := bl (K3 HB aD.out aL.out aY.out) hb; (try clear hb); have cM := aW.out; have cN := aA.out; have ⟨_, _, _, _, _, _, _, _⟩ := y7 w9 aX.out; have ⟨_, _, _, _, _, _, _, _⟩ := y7 w9 aB.out; have ⟨_, _, _, _, _, _, _, _⟩ := y7 w9 aC.out))
 refine bodyPost_ret (results_cell_row rfl _ _ bA 87 #[.int .i64 aE, .int .i64 aG, .int .i64 aJ, .string aR, .int .i64 aF, .int .i64 aI, .int .i64 aQ] (0, 0) _ rfl (by refine BD ?_; refine blk_put (cs := #[.int .i64 aE, .int .i64 aG, .int .i64 aJ, .string aR, .int .i64 aF, .int .i64 aI, .int .i64 0]) ?_ 6 _ rfl; refine BD ?_; refine blk_put (cs := #[.int .i64 aE, .int .i64 aG, .int .i64 aJ, .string aR, .int .i64 aF, .int .i64 0, .int .i64 0]) ?_ 5 _ rfl; refine BD ?_; refine blk_put (cs := #[.int .i64 aE, .int .i64 aG, .int .i64 aJ, .string aR, .int .i64 0, .int .i64 0, .int .i64 0]) ?_ 4 _ rfl; refine BD ?_; refine blk_put (cs := #[.int .i64 aE, .int .i64 aG, .int .i64 aJ, .string (⟨#[]⟩ : ByteArray), .int .i64 0, .int .i64 0, .int .i64 0]) ?_ 3 _ rfl; refine BD ?_; refine blk_put (cs := #[.int .i64 aE, .int .i64 aG, .int .i64 0, .string (⟨#[]⟩ : ByteArray), .int .i64 0, .int .i64 0, .int .i64 0]) ?_ 2 _ rfl; refine BD ?_; refine blk_put (cs := #[.int .i64 aE, .int .i64 0, .int .i64 0, .string (⟨#[]⟩ : ByteArray), .int .i64 0, .int .i64 0, .int .i64 0]) ?_ 1 _ rfl; refine BD ?_; refine blk_put (cs := #[.int .i64 0, .int .i64 0, .int .i64 0, .string (⟨#[]⟩ : ByteArray), .int .i64 0, .int .i64 0, .int .i64 0]) ?_ 0 _ rfl; refine BD ?_; refine blk_far ?_ aA.out _; refine BD ?_; refine blk_far ?_ aA.out _; refine BD ?_; refine blk_far ?_ aA.out _; refine BD ?_; refine blk_far ?_ aA.out _; refine BD ?_; refine blk_far ?_ aA.out _; refine BD ?_; refine blk_far ?_ aA.out _; refine BD ?_; refine blk_far ?_ aA.out _; refine BD ?_; exact aC.out) Tryz.underlying87 rfl (by kernel_rfl)) rfl ?_
 exact ⟨ER, K3 HB aD.out aL.out aY.out⟩
def laws_toSentS.l0 : Nat → List (S72) → List (S87) → Int → Option ((List (S87)))
 | 0, _, _, _ => none
 | k + 1, x0, x3, x4 => if x4 < (x0.length : Int) then (if 0 ≤ x4 then ((laws_toSent.f ((rd_T72 x0 x4).f0.f0) ((rd_T72 x0 x4).f0.f1) ((rd_T72 x0 x4).f0.f2) ((rd_T72 x0 x4).f0.f3) ((rd_T72 x0 x4).f1) ((rd_T72 x0 x4).f2) ((rd_T72 x0 x4).f3)).bind fun bt105 => (if x4 < (x3.length : Int) then (laws_toSentS.l0 k x0 (x3.set (x4 : Int).toNat (⟨(⟨bt105.1, bt105.2.1, bt105.2.2.1, bt105.2.2.2.1⟩ : S85), bt105.2.2.2.2.1, bt105.2.2.2.2.2.1, bt105.2.2.2.2.2.2⟩ : S87)) (wrap64 (x4 + 1))) else (none))) else (none)) else (some x3)
def laws_toSentS.f (k : Nat) (l0 : List (S72)) : Option ((List (S87))) := if 0 ≤ (l0.length : Int) then (if ((l0.length : Int) : Int).toNat ≤ 4398046511104 then (laws_toSentS.l0 k l0 (List.replicate ((l0.length : Int) : Int).toNat z87) 0) else (none)) else (none)
theorem laws_toSentS.calls (k : Nat) (A0 : Option Addr) (c0 : Nat) (l0 : List (S72)) (r : List (S87)) (w : World) (cO : Kd.C k72 w A0 l0.length l0) (cP : l0.length ≤ c0) (h : laws_toSentS.f k l0 = some r) :
  Calls Tryz.prog 15 #[.slice A0 l0.length c0] w fun e w' => ∃ v0_ : Value, e = .returned (v0_) ∧ Kd.R k87 87 w' w.heap.size (fun _ => True) v0_ r ∧ Below w.heap.size w w' := by
 have cS := Tryz.underlying72
 have cT := Tryz.underlying87
 have cU := Aside0.mk cO
 have cV := Aside0.mk cP
 clear cO cP
 have HB := am (Below.refl w.heap.size w)
 have H : (if 0 ≤ (l0.length : Int) then (if ((l0.length : Int) : Int).toNat ≤ 4398046511104 then (laws_toSentS.l0 k l0 (List.replicate ((l0.length : Int) : Int).toNat z87) 0) else (none)) else (none)) = some r := h
 clear h
 by_cases c2 : 0 ≤ (l0.length : Int)
 ·rw [if_pos c2] at H
  have c2b0 := eq_true c2
  have c2b1 : decide (0 ≤ (l0.length : Int)) = true := decide_eq_true c2
  clear c2
  by_cases c3 : ((l0.length : Int) : Int).toNat ≤ 4398046511104
  ·rw [if_pos c3] at H
   have c3b0 := eq_true c3
   have c3b1 : decide (((l0.length : Int) : Int).toNat ≤ 4398046511104) = true := decide_eq_true c3
   clear c3
   obtain ⟨bP, aH⟩ : ∃ y_ : List (S87), y_ = (List.replicate ((l0.length : Int) : Int).toNat z87) := ⟨_, rfl⟩
   replace H : (laws_toSentS.l0 k l0 bP 0) = some r := by first | (rw [aH]; with_reducible exact H) | (have H2_ := (Option.bind_some _ _).symm.trans H; rw [aH]; with_reducible exact H2_) | (have H2_ := (Option.bind_some _ _).symm.trans H; with_reducible exact H2_) | with_reducible exact H | (rw [aH]; exact H) | exact H
   have Ny101 := Aside0.mk aH
   clear aH
   have H' := Aside0.mk H
   clear H
   go_enter Tryz.func15, Tryz.ntmps15
   go_wp2_with (first | ((with_reducible refine gate_dst (N := 7) rfl ?_); refine Kd.R_make k87 _ 87 rfl (N := 7) rfl 43 _ _ rfl (l0.length : Int) rfl rfl Tryz.underlying43 (.agg #[(.int .i64 0), (.int .i64 0), (.int .i64 0), (.string ⟨#[]⟩), (.int .i64 0), (.int .i64 0), (.int .i64 0)]) 64 info87 rfl (by decide) (by omega) z87 (ok := fun _ => True) (okp := fun _ => True) (k87_mkM _ _ _ z87 ) (fun _ hk => hk) trivial (OD) (Nat.le_trans (Nat.mul_le_mul_right _ (OD : (l0.length : Int).toNat ≤ 4398046511104)) (by omega)) (Below.refl _ _) (Nat.le_refl _) ?_; intro bV w4 bQ hb hg_ hnew_; clear hg_ hnew_; (first | rw [← Ny101.out] at bQ | (simp only [Int.reduceToNat] at bQ; rw [← Ny101.out] at bQ)); have bR := am (Kd.R_lower bQ (below_size (KL HB))); replace HB := bl (KL HB) hb; clear hb bQ))
   go_loopg [4] k (fun kq v4 w' => ∃ (aB : List (S87)) (aA : Int), v4 = .int .i64 aA ∧ Aside0 (laws_toSentS.l0 kq l0 aB aA = some r) ∧ Aside0 (kq ≤ k) ∧ Aside0 (Kd.R k87 87 w' w.heap.size (fun _ => True) bV aB) ∧ Aside0 (Below w.heap.size w w'))
   case atStart => exact ⟨(bP), (0), (by first | rfl | (simp; done) | (simp [*]; done)), H', ⟨Nat.le_refl _⟩, ⟨KR bR⟩, ⟨KL HB⟩⟩
   case round =>
    clear H'
    try clear c1
    try clear c2
    try clear c2b0
    try clear c2b1
    try clear p2
    try clear c3
    try clear c3b0
    try clear c3b1
    obtain ⟨aB, aA, rfl, HA, HK1, aG, HB⟩ := hrel
    cases gk with
    | zero => exact absurd HA.out (by simp [laws_toSentS.l0])
    | succ k1 =>
     have H := HA.out
     clear HA
     simp only [laws_toSentS.l0] at H
     by_cases c6 : aA < (l0.length : Int)
     ·rw [if_pos c6] at H
      have c6b0 : decide (aA < (l0.length : Int)) = true := decide_eq_true c6
      clear c6
      by_cases c7 : 0 ≤ aA
      ·rw [if_pos c7] at H
       have c7b0 : decide (0 ≤ aA) = true := decide_eq_true c7
       clear c7
       replace H := bm H
       obtain ⟨⟨aK, aL, aM, aN, aO, aP, aQ⟩, cQ, H⟩ := H
       replace H : (if aA < (aB.length : Int) then (laws_toSentS.l0 k1 l0 (aB.set (aA : Int).toNat (⟨(⟨aK, aL, aM, aN⟩ : S85), aO, aP, aQ⟩ : S87)) (wrap64 (aA + 1))) else (none)) = some r := H
       have A8 := Aside0.mk cQ
       clear cQ
       by_cases c9 : aA < (aB.length : Int)
       ·rw [if_pos c9] at H
        have c9b0 : decide (aA < (aB.length : Int)) = true := decide_eq_true c9
        clear c9
        obtain ⟨aY, aI⟩ : ∃ y_ : List (S87), y_ = (aB.set (aA : Int).toNat (⟨(⟨aK, aL, aM, aN⟩ : S85), aO, aP, aQ⟩ : S87)) := ⟨_, rfl⟩
        replace H : (laws_toSentS.l0 k1 l0 aY (wrap64 (aA + 1))) = some r := by first | (rw [aI]; with_reducible exact H) | (have H2_ := (Option.bind_some _ _).symm.trans H; rw [aI]; with_reducible exact H2_) | (have H2_ := (Option.bind_some _ _).symm.trans H; with_reducible exact H2_) | with_reducible exact H | (rw [aI]; exact H) | exact H
        have Ny112 := Aside0.mk aI
        clear aI
        have H' := Aside0.mk H
        clear H
        have aZ : 0 ≤ (aA : Int) := OD
        have bA : aA < (l0.length : Int) := OD
        obtain ⟨_, bW, aR, aS, aT, aU, aV, aW, aX⟩ := at_T72 cU.out aA aZ bA
        cases bW
        replace aR := CX HB.out aR
        replace aS := CX HB.out aS
        replace aT := CX HB.out aT
        replace aU := CX HB.out aU
        replace aV := CX HB.out aV
        replace aW := CX HB.out aW
        replace aX := CX HB.out aX
        replace aZ := eq_true aZ
        replace bA := eq_true bA
        go_wp2_with (first | ((with_reducible refine gate_callee (f := 34) rfl ?_); refine goesL_ (some 20) rfl rfl Tryz.func34 (by kernel_rfl) rfl #[.agg #[.int .i64 ((rd_T72 l0 aA).f0.f0), .int .i64 ((rd_T72 l0 aA).f0.f1), .int .i64 ((rd_T72 l0 aA).f0.f2), .string ((rd_T72 l0 aA).f0.f3), .int .i64 ((rd_T72 l0 aA).f1), .int .i64 ((rd_T72 l0 aA).f2), .int .i64 ((rd_T72 l0 aA).f3)]] rfl MT ?_; (with_reducible refine (laws_toSent.calls ((rd_T72 l0 aA).f0.f0) ((rd_T72 l0 aA).f0.f1) ((rd_T72 l0 aA).f0.f2) ((rd_T72 l0 aA).f0.f3) ((rd_T72 l0 aA).f1) ((rd_T72 l0 aA).f2) ((rd_T72 l0 aA).f3) aK aL aM aN aO aP aQ _ A8.out).mono ?_); rintro e aJ ⟨rfl, hb⟩; refine ⟨_, rfl, ?_⟩; replace aG := am (Kd.R_below (KR aG) hb); replace HB := bl (KL HB) hb; (try clear hb); have bX : 0 ≤ (aA : Int) := OD; have bY : (aA : Int) < ((aB.length : Int) : Int) := OD; obtain ⟨go10, bS, bT, bU, gl10, cl10, HG10⟩ := Kd.R_form aG.out (by omega); (first | cases bT | (injection bT with ea_ en_ ec_; (first | subst ea_ | (injection ea_ with ea_; subst ea_)); subst ec_; clear en_)); have GB10 := Aside0.mk bU; have GG10 := Aside0.mk HG10; clear bU gl10 HG10; obtain ⟨ce10, hcl10, hM10, aD, aE⟩ := Kd.R_elem aG.out z87 (aA : Int) bX bY; obtain rfl := k87_openM hM10; have bZ : aJ.cell? ⟨go10, (aA : Int).toNat * 7, none⟩ = some (.int .i64 ((rd_T87 aB aA).f0.f0)) := aD 0 _ rfl; have cA : aJ.cell? ⟨go10, (aA : Int).toNat * 7 + 1, none⟩ = some (.int .i64 ((rd_T87 aB aA).f0.f1)) := aD 1 _ rfl; have cB : aJ.cell? ⟨go10, (aA : Int).toNat * 7 + 2, none⟩ = some (.int .i64 ((rd_T87 aB aA).f0.f2)) := aD 2 _ rfl; have cC : aJ.cell? ⟨go10, (aA : Int).toNat * 7 + 3, none⟩ = some (.string ((rd_T87 aB aA).f0.f3)) := aD 3 _ rfl; have cD : aJ.cell? ⟨go10, (aA : Int).toNat * 7 + 4, none⟩ = some (.int .i64 ((rd_T87 aB aA).f1)) := aD 4 _ rfl; have cE : aJ.cell? ⟨go10, (aA : Int).toNat * 7 + 5, none⟩ = some (.int .i64 ((rd_T87 aB aA).f2)) := aD 5 _ rfl; have cF : aJ.cell? ⟨go10, (aA : Int).toNat * 7 + 6, none⟩ = some (.int .i64 ((rd_T87 aB aA).f3)) := aD 6 _ rfl; have cG : aJ.frozen? ⟨go10, (aA : Int).toNat * 7, none⟩ = false := aE 0; have cH : aJ.frozen? ⟨go10, (aA : Int).toNat * 7 + 1, none⟩ = false := aE 1; have cI : aJ.frozen? ⟨go10, (aA : Int).toNat * 7 + 2, none⟩ = false := aE 2; have cJ : aJ.frozen? ⟨go10, (aA : Int).toNat * 7 + 3, none⟩ = false := aE 3; have cK : aJ.frozen? ⟨go10, (aA : Int).toNat * 7 + 4, none⟩ = false := aE 4; have cL : aJ.frozen? ⟨go10, (aA : Int).toNat * 7 + 5, none⟩ = false := aE 5; have cM : aJ.frozen? ⟨go10, (aA : Int).toNat * 7 + 6, none⟩ = false := aE 6; clear hcl10 aD aE hM10; replace bX := eq_true bX; replace bY := eq_true bY; have HX12 := am (show Kd.R k87 87 aJ w.heap.size (fun _ => True) (.slice (some ⟨go10, 0, none⟩) aB.length bS) aB from (KR aG)); obtain ⟨ce12, hcl12, hM12, aC, aF⟩ := Kd.R_elem HX12.out z87 (aA : Int) (OD) (by have h_ : (aA : Int) < ((aB.length : Int) : Int) := OD; first | exact h_ | (have e_ := (Kd.R_reads' aG.out).1; omega) | simpa using h_); obtain rfl := k87_openM hM12; have HP12 := Kd.R_seg HX12.out (aA : Int) (OD) (by have h_ : (aA : Int) < ((aB.length : Int) : Int) := OD; first | exact h_ | (have e_ := (Kd.R_reads' aG.out).1; omega) | simpa using h_) (seg := [.int .i64 aK, .int .i64 aL, .int .i64 aM, .string aN, .int .i64 aO, .int .i64 aP, .int .i64 aQ]) (j := 0) hcl12 aC (show 7 ≤ 7 from by decide) (x' := (⟨(⟨aK, aL, aM, aN⟩ : S85), aO, aP, aQ⟩ : S87)) (k87_mkM _ _ _ (⟨(⟨aK, aL, aM, aN⟩ : S85), aO, aP, aQ⟩ : S87) ) (fun _ hk => hk); have bB := aC 0 _ rfl; (try simp only [show (k87).sz = 7 from rfl, Nat.mul_one, Nat.add_zero] at bB); have bC := aF 0; (try simp only [show (k87).sz = 7 from rfl, Nat.mul_one, Nat.add_zero] at bC); have bD := aC 1 _ rfl; (try simp only [show (k87).sz = 7 from rfl, Nat.mul_one, Nat.add_zero] at bD); have bE := aF 1; (try simp only [show (k87).sz = 7 from rfl, Nat.mul_one, Nat.add_zero] at bE); have bF := aC 2 _ rfl; (try simp only [show (k87).sz = 7 from rfl, Nat.mul_one, Nat.add_zero] at bF); have bG := aF 2; (try simp only [show (k87).sz = 7 from rfl, Nat.mul_one, Nat.add_zero] at bG); have bH := aC 3 _ rfl; (try simp only [show (k87).sz = 7 from rfl, Nat.mul_one, Nat.add_zero] at bH); have bI := aF 3; (try simp only [show (k87).sz = 7 from rfl, Nat.mul_one, Nat.add_zero] at bI); have bJ := aC 4 _ rfl; (try simp only [show (k87).sz = 7 from rfl, Nat.mul_one, Nat.add_zero] at bJ); have bK := aF 4; (try simp only [show (k87).sz = 7 from rfl, Nat.mul_one, Nat.add_zero] at bK); have bL := aC 5 _ rfl; (try simp only [show (k87).sz = 7 from rfl, Nat.mul_one, Nat.add_zero] at bL); have bM := aF 5; (try simp only [show (k87).sz = 7 from rfl, Nat.mul_one, Nat.add_zero] at bM); have bN := aC 6 _ rfl; (try simp only [show (k87).sz = 7 from rfl, Nat.mul_one, Nat.add_zero] at bN); have bO := aF 6; (try simp only [show (k87).sz = 7 from rfl, Nat.mul_one, Nat.add_zero] at bO); clear hcl12 aC aF hM12) | ((with_reducible refine gate_store (t := 87) (p := 21) rfl ?_); refine store_event (t := 87) (p := 21) (v := ?vo_w13) (w1 := (((((((aJ.setCell ⟨go10, (aA : Int).toNat * 7, none⟩ (.int .i64 aK)).setCell ⟨go10, (aA : Int).toNat * 7 + 1, none⟩ (.int .i64 aL)).setCell ⟨go10, (aA : Int).toNat * 7 + 2, none⟩ (.int .i64 aM)).setCell ⟨go10, (aA : Int).toNat * 7 + 3, none⟩ (.string aN)).setCell ⟨go10, (aA : Int).toNat * 7 + 4, none⟩ (.int .i64 aO)).setCell ⟨go10, (aA : Int).toNat * 7 + 5, none⟩ (.int .i64 aP)).setCell ⟨go10, (aA : Int).toNat * 7 + 6, none⟩ (.int .i64 aQ))) ?hg ?ho ?hn ?hr ?_; (case ho => rfl); (case hg => rfl); (case hn => rfl); (case hr => first | (go_simp; done) | (go_simp; rfl)); intro cN hw; have hg : aJ.grownBy cN (some go10) := (by rw [hw]; exact HP12.2); have hp_ : Kd.R k87 87 cN w.heap.size (fun _ => True) (.slice (some ⟨go10, 0, none⟩) aB.length bS) aY := (by rw [hw, Ny112.out]; exact HP12.1); clear HP12; replace aG := am (hp_); replace HB := am ((by rw [hw]; exact below_set (below_set (below_set (below_set (below_set (below_set (below_set (HB.out) GB10.out) GB10.out) GB10.out) GB10.out) GB10.out) GB10.out) GB10.out : Below w.heap.size w cN)); clear hg hw hp_))
        go_roundg k1
        case measure => have := HK1.out; omega
        case rel => exact ⟨(aY), (wrap64 (aA + 1)), (by first | rfl | (simp; done) | (simp [*]; done)), H', ⟨by have := HK1.out; omega⟩, ⟨KR aG⟩, ⟨KL HB⟩⟩
       ·rw [if_neg c9] at H
        exact absurd H (by simp)
      ·rw [if_neg c7] at H
       exact absurd H (by simp)
     ·rw [if_neg c6] at H
      have c6b0 : decide (aA < (l0.length : Int)) = false := decide_eq_false c6
      clear c6
      obtain rfl := sj H
      go_wp2
      go_ret
      exact ⟨_, ER, by refine KW ?_; exact aG.out, KL HB⟩
  ·rw [if_neg c3] at H
   exact absurd H (by simp)
 ·rw [if_neg c2] at H
  exact absurd H (by simp)
def impl_in.f (a0 : Int) (a1 : Int) (a2 : Int) : Option (Bool) := if a0 ≥ a1 then (some (decide (a0 ≤ a2))) else (some false)
theorem impl_in.calls (a0 : Int) (a1 : Int) (a2 : Int) (r : Bool) (w : World) (h : impl_in.f a0 a1 a2 = some r) :
  Calls Tryz.prog 35 #[.int .i64 a0, .int .i64 a1, .int .i64 a2] w fun e w' => e = .returned (.bool r) ∧ Drawn0 w w' := by
 have H : (if a0 ≥ a1 then (some (decide (a0 ≤ a2))) else (some false)) = some r := h
 clear h
 by_cases c4 : a0 ≥ a1
 ·rw [if_pos c4] at H
  have c4b0 : decide (a1 ≤ a0) = true := decide_eq_true c4
  clear c4
  obtain rfl := sj H
  go_enter Tryz.func35, Tryz.ntmps35
  go_wp2
  go_ret
  exact ⟨by first | rfl | (simp; done) | (simp [*]; done), by repeat (first | exact Drawn0.refl _ | apply Drawn0.step)⟩
 ·rw [if_neg c4] at H
  have c4b0 : decide (a1 ≤ a0) = false := decide_eq_false c4
  clear c4
  obtain rfl := sj H
  go_enter Tryz.func35, Tryz.ntmps35
  go_wp2
  go_ret
  exact ⟨by first | rfl | (simp; done) | (simp [*]; done), by repeat (first | exact Drawn0.refl _ | apply Drawn0.step)⟩
def impl_isAddr.f (a0 : Int) : Option (Bool) := (impl_in.f a0 0 4294967295).bind fun t101 => (some t101)
theorem impl_isAddr.calls (a0 : Int) (r : Bool) (w : World) (h : impl_isAddr.f a0 = some r) :
  Calls Tryz.prog 78 #[.int .i64 a0] w fun e w' => e = .returned (.bool r) ∧ Drawn0 w w' := by
 have H : ((impl_in.f a0 0 4294967295).bind fun aA => (some aA)) = some r := h
 clear h
 replace H := bm H
 obtain ⟨aA, aB, H⟩ := H
 replace H : (some aA) = some r := H
 have A2 := Aside0.mk aB
 clear aB
 obtain rfl := sj H
 go_enter Tryz.func78, Tryz.ntmps78
 go_wp2_with (first | ((with_reducible refine gate_callee (f := 35) rfl ?_); refine goesL_ (some 4) rfl rfl Tryz.func35 (by kernel_rfl) rfl #[.int .i64 a0, .int .i64 0, .int .i64 4294967295] rfl MT ?_; (with_reducible refine (impl_in.calls a0 0 4294967295 aA _ A2.out).mono ?_); rintro e w' ⟨rfl, ⟨nd, rfl⟩⟩; refine ⟨_, rfl, ?_⟩))
 go_ret
 exact ⟨by first | rfl | (simp; done) | (simp [*]; done), by repeat (first | exact Drawn0.refl _ | apply Drawn0.step)⟩
def impl_Block_size.f (a0_0 : Int) (a0_1 : Int) : Option (Int) := if 0 ≤ (wrap64 (32 - a0_1)) then (some (shl .i64 1 (wrap64 (32 - a0_1)))) else (none)
theorem impl_Block_size.calls (aB : Int) (aA : Int) (r : Int) (w : World) (h : impl_Block_size.f aB aA = some r) :
  Calls Tryz.prog 98 #[.agg #[.int .i64 aB, .int .i64 aA]] w fun e w' => e = .returned (.int .i64 r) ∧ Below w.heap.size w w' := by
 have aJ := Tryz.underlying113
 have HB := am (Below.refl w.heap.size w)
 have H : (if 0 ≤ (wrap64 (32 - aA)) then (some (shl .i64 1 (wrap64 (32 - aA)))) else (none)) = some r := h
 clear h
 obtain ⟨ji2, hji2⟩ : ∃ j_ : Int, (wrap64 (32 - aA)) = j_ := ⟨_, rfl⟩
 replace H : (if 0 ≤ (ji2) then (some (shl .i64 1 (ji2))) else (none)) = some r := by first | (rw [hji2] at H; exact H) | (simp only [hji2] at H ⊢; exact H)
 have hji2w : (IntKind.i64.wrap (32 - aA)) = ji2 := (i64_w _).trans hji2
 by_cases c3 : 0 ≤ (ji2)
 ·rw [if_pos c3] at H
  have c3b0 := eq_true c3
  have c3b1 : decide (0 ≤ (ji2)) = true := decide_eq_true c3
  clear c3
  obtain ⟨ji4, hji4⟩ : ∃ j_ : Int, (shl .i64 1 (ji2)) = j_ := ⟨_, rfl⟩
  replace H : (some ji4) = some r := by first | (rw [hji4] at H; exact H) | (simp only [hji4] at H ⊢; exact H)
  have hji4_ : (IntKind.i64.wrap (1 * 2 ^ min (ji2).toNat 64)) = ji4 := hji4
  have hji4z : (ji2) ≤ 64 → (IntKind.i64.wrap (1 * 2 ^ (ji2).toNat)) = ji4 := shl_small hji4
  have hji4u : (IntKind.i64.wrap (2 ^ min (ji2).toNat 64)) = ji4 := by have h_ := hji4_; rw [Int.one_mul] at h_; exact h_
  have hji4v : (ji2) ≤ 64 → (IntKind.i64.wrap (2 ^ (ji2).toNat)) = ji4 := fun hle_ => by have h_ := hji4z hle_; rw [Int.one_mul] at h_; exact h_
  have hji4y : (wrap64 (1 * 2 ^ min (ji2).toNat 64)) = ji4 := (i64_w _).symm.trans hji4_
  have hji4x : (ji2) ≤ 64 → (wrap64 (1 * 2 ^ (ji2).toNat)) = ji4 := fun h_ => (i64_w _).symm.trans (hji4z h_)
  obtain rfl := sj H
  go_enter Tryz.func98, Tryz.ntmps98
  go_wp2_with (first | ((with_reducible refine gate_dst (N := 1) rfl ?_); refine box_event rfl (N := 1) rfl (cs := #[.int .i64 aB, .int .i64 aA]) (t := 113) BX ?_; intro aK hg w5 aC hb; have aD := am (aC); have aE := am (GH HB hg); have aF := aE; replace HB := bl (KL HB) hb; clear hb aC hg; have ⟨_, _, _⟩ := y2 w5 aD.out))
  go_ret
  exact ⟨by first | rfl | (simp [errW_none, errW_some] <;> rfl) | (simp only [← hji2, ← hji4]; first | rfl | (simp [errW_none, errW_some] <;> rfl)) | (simp [*, errW_none, errW_some] <;> rfl), K1 HB aF.out⟩
 ·rw [if_neg c3] at H
  exact absurd H (by simp)
def impl_BlockOk.f (a0_0 : Int) (a0_1 : Int) : Option (Bool) := (impl_isAddr.f a0_0).bind fun t102 => (if t102 = true then ((impl_in.f a0_1 0 32).bind fun t103 => (if t103 = true then ((impl_Block_size.f a0_0 a0_1).bind fun t104 => (if t104 = 0 then (none) else (some ((Int.tmod a0_0 t104) == 0)))) else (some false))) else (some false))
def impl_BlockOk.T1 : Bool × List (List Nat × List Nat) := (true, [([], []), ([0], [0]), ([1], [1]), ([2, 2], [2]), ([3], [3]), ([4, 3], [3, 4]), ([5, 3, 3], [3, 5]), ([3, 6], [3, 6]), ([7, 6], [7]), ([8], [8]), ([9, 8], [8, 9]), ([8], [8]), ([11, 8, 8], [8, 11]), ([10, 12, 8], [8, 10, 12]), ([13, 8], [8, 13]), ([8, 14], [8, 14]), ([15, 12, 0, 1, 2, 3, 4, 5, 6, 7, 8, 9, 10, 11, 12, 13, 14, 15], [15])])
def impl_BlockOk.B1 : List Nat := [0, 1, 3, 7, 15, 31, 63, 127, 255, 511, 1023, 511, 2559, 8191, 16383, 32767, 65535]
theorem impl_BlockOk.tab1 : rtab .any (opsOf Tryz.f93 1) = impl_BlockOk.T1 := by kernel_rfl
theorem impl_BlockOk.bits1 : waitsOk impl_BlockOk.T1.2 impl_BlockOk.B1 = true := by kernel_rfl
theorem impl_BlockOk.calls (aD : Int) (aE : Int) (r : Bool) (w : World) (h : impl_BlockOk.f aD aE = some r) :
  Calls Tryz.prog 93 #[.agg #[.int .i64 aD, .int .i64 aE]] w fun e w' => e = .returned (.bool r) ∧ Below w.heap.size w w' := by
 have aN := Tryz.underlying113
 have HB := am (Below.refl w.heap.size w)
 have H : ((impl_isAddr.f aD).bind fun aL => (if aL = true then ((impl_in.f aE 0 32).bind fun aK => (if aK = true then ((impl_Block_size.f aD aE).bind fun aF => (if aF = 0 then (none) else (some ((Int.tmod aD aF) == 0)))) else (some false))) else (some false))) = some r := h
 clear h
 replace H := bm H
 obtain ⟨aL, aO, H⟩ := H
 replace H : (if aL = true then ((impl_in.f aE 0 32).bind fun aK => (if aK = true then ((impl_Block_size.f aD aE).bind fun aF => (if aF = 0 then (none) else (some ((Int.tmod aD aF) == 0)))) else (some false))) else (some false)) = some r := H
 have A2 := Aside0.mk aO
 clear aO
 by_cases c3 : aL = true
 ·subst c3
  have H1 := pf H
  clear H
  have H := H1
  clear H1
  replace H := bm H
  obtain ⟨aK, aP, H⟩ := H
  replace H : (if aK = true then ((impl_Block_size.f aD aE).bind fun aF => (if aF = 0 then (none) else (some ((Int.tmod aD aF) == 0)))) else (some false)) = some r := H
  have A4 := Aside0.mk aP
  clear aP
  by_cases c5 : aK = true
  ·subst c5
   have H1 := pf H
   clear H
   have H := H1
   clear H1
   replace H := bm H
   obtain ⟨aF, aQ, H⟩ := H
   replace H : (if aF = 0 then (none) else (some ((Int.tmod aD aF) == 0))) = some r := H
   have A6 := Aside0.mk aQ
   clear aQ
   by_cases c7 : aF = 0
   ·rw [if_pos c7] at H
    exact absurd H (by simp)
   ·rw [if_neg c7] at H
    have c7b0 : (aF == 0) = false := beq_eq_false_iff_ne.mpr c7
    have c7b1 : (aF != 0) = true := bne_iff_ne.mpr c7
    obtain rfl := sj H
    go_enter Tryz.func93, Tryz.ntmps93
    try go_wp2_with (first | ((with_reducible refine gate_dst (N := 1) rfl ?_); refine box_event rfl (N := 1) rfl (cs := #[.int .i64 aD, .int .i64 aE]) (t := 113) BX ?_; intro aH hg w8 aI hb; have aA := am (aI); have aJ := am (GH HB hg); have aG := aJ; replace HB := bl (KL HB) hb; clear hb aI hg))
    replace aA := am (blk_drew aA.out)
    replace HB := am (below_drew1 HB.out)
    refine start_ (n := 17) (S := fun w' => de2 w' aH (.int .i64 aD) (.int .i64 aE)) (ds := []) (tf 0 17) (by kernel_rfl) rfl rfl ⟨z0 _ aA.out, z1 _ aA.out⟩ (fun aB => ?_); refine with_tabW impl_BlockOk.tab1 impl_BlockOk.bits1 (fun aC aM => ?_)
    generalize w8.drew = w9 at aA HB aB ⊢
    refine pv aC 0 3 (tf 1 16) ?_
    refine tk 1 (some 4) (tf 2 15) (take_ofW aC.out aM.out (by kernel_rfl)) aB ?_
    refine one_ (i := 2) (N := some 5) (tf 3 14) rfl rfl (one_of aC.out (by kernel_rfl)) (by decide) (fun K hK => ?_)
    refine goes_ Tryz.func78 (by kernel_rfl) rfl #[.int .i64 aD] (by rfl) rfl rfl MT ?_
    with_reducible refine (impl_isAddr.calls aD true _ A2.out).mono ?_
    rintro e w' ⟨rfl, ⟨nd, rfl⟩⟩
    refine ⟨_, rfl, ?_⟩
    refine hK.out _ _ ⟨z0 _ aA.out, z1 _ aA.out⟩ (fun aB => ?_)
    clear hK K
    refine nm (some 5) ?_
    refine pv aC 3 6 (tf 4 13) ?_
    refine pv aC 4 7 (tf 5 12) ?_
    refine tk 5 (some 8) (tf 6 11) (take_ofW aC.out aM.out (by kernel_rfl)) aB ?_
    refine one_ (i := 6) (N := some 9) (tf 7 10) rfl rfl (one_of aC.out (by kernel_rfl)) (by decide) (fun K hK => ?_)
    refine goes_ Tryz.func35 (by kernel_rfl) rfl #[.int .i64 aE, .int .i64 0, .int .i64 32] (by rfl) rfl rfl MT ?_
    with_reducible refine (impl_in.calls aE 0 32 true _ A4.out).mono ?_
    rintro e w' ⟨rfl, ⟨nd, rfl⟩⟩
    refine ⟨_, rfl, ?_⟩
    refine hK.out _ _ ⟨z0 _ aA.out, z1 _ aA.out⟩ (fun aB => ?_)
    clear hK K
    refine nm (some 9) ?_
    refine pv aC 7 10 (tf 8 9) ?_
    refine pv aC 8 11 (tf 9 8) ?_
    refine pv aC 9 12 (tf 10 7) ?_
    refine tk 10 (some 13) (tf 11 6) (take_ofW aC.out aM.out (by kernel_rfl)) aB ?_
    refine tk 11 (some 14) (tf 12 5) (take_ofW aC.out aM.out (by kernel_rfl)) aB ?_
    refine one_ (i := 12) (N := some 15) (tf 13 4) rfl rfl (one_of aC.out (by kernel_rfl)) (by decide) (fun K hK => ?_)
    refine goes_ Tryz.func98 (by kernel_rfl) rfl #[.agg #[.int .i64 aD, .int .i64 aE]] (by rfl) rfl rfl MT ?_
    with_reducible refine (impl_Block_size.calls aD aE aF _ A6.out).mono ?_
    rintro e aT ⟨rfl, hb⟩
    refine ⟨_, rfl, ?_⟩
    replace aA := am (BB aA hb)
    replace HB := bl (K1 HB aG.out) hb
    (try clear hb)
    (try clear hb2)
    (try clear hk)
    (try clear hi)
    refine hK.out _ _ ⟨z0 _ aA.out, z1 _ aA.out⟩ (fun aB => ?_)
    clear hK K
    refine nm (some 15) ?_
    refine pv aC 13 16 (tf 14 3) ?_
    refine pv aC 14 17 (tf 15 2) ?_
    refine pv aC 15 18 (tf 16 1) ?_
    refine pv aC 16 2 (tf 17 0) ?_
    refine done_ (done_of aC.out (by kernel_rfl)) ?_
    try go_wp2
    go_ret
    exact ⟨ER, K1 HB aG.out⟩
  ·replace c5 := Bool.eq_false_iff.mpr c5
   subst c5
   have H1 := nf H
   clear H
   have H := H1
   clear H1
   obtain rfl := sj H
   go_enter Tryz.func93, Tryz.ntmps93
   try go_wp2_with (first | ((with_reducible refine gate_dst (N := 1) rfl ?_); refine box_event rfl (N := 1) rfl (cs := #[.int .i64 aD, .int .i64 aE]) (t := 113) BX ?_; intro aH hg aR aI hb; have aA := am (aI); have aJ := am (GH HB hg); have aG := aJ; replace HB := bl (KL HB) hb; clear hb aI hg))
   replace aA := am (blk_drew aA.out)
   replace HB := am (below_drew1 HB.out)
   refine start_ (n := 17) (S := fun w' => de2 w' aH (.int .i64 aD) (.int .i64 aE)) (ds := []) (tf 0 17) (by kernel_rfl) rfl rfl ⟨z0 _ aA.out, z1 _ aA.out⟩ (fun aB => ?_); refine with_tabW impl_BlockOk.tab1 impl_BlockOk.bits1 (fun aC aM => ?_)
   generalize aR.drew = aU at aA HB aB ⊢
   refine pv aC 0 3 (tf 1 16) ?_
   refine tk 1 (some 4) (tf 2 15) (take_ofW aC.out aM.out (by kernel_rfl)) aB ?_
   refine one_ (i := 2) (N := some 5) (tf 3 14) rfl rfl (one_of aC.out (by kernel_rfl)) (by decide) (fun K hK => ?_)
   refine goes_ Tryz.func78 (by kernel_rfl) rfl #[.int .i64 aD] (by rfl) rfl rfl MT ?_
   with_reducible refine (impl_isAddr.calls aD true _ A2.out).mono ?_
   rintro e w' ⟨rfl, ⟨nd, rfl⟩⟩
   refine ⟨_, rfl, ?_⟩
   refine hK.out _ _ ⟨z0 _ aA.out, z1 _ aA.out⟩ (fun aB => ?_)
   clear hK K
   refine nm (some 5) ?_
   refine pv aC 3 6 (tf 4 13) ?_
   refine pv aC 4 7 (tf 5 12) ?_
   refine tk 5 (some 8) (tf 6 11) (take_ofW aC.out aM.out (by kernel_rfl)) aB ?_
   refine one_ (i := 6) (N := some 9) (tf 7 10) rfl rfl (one_of aC.out (by kernel_rfl)) (by decide) (fun K hK => ?_)
   refine goes_ Tryz.func35 (by kernel_rfl) rfl #[.int .i64 aE, .int .i64 0, .int .i64 32] (by rfl) rfl rfl MT ?_
   with_reducible refine (impl_in.calls aE 0 32 false _ A4.out).mono ?_
   rintro e w' ⟨rfl, ⟨nd, rfl⟩⟩
   refine ⟨_, rfl, ?_⟩
   refine hK.out _ _ ⟨z0 _ aA.out, z1 _ aA.out⟩ (fun aB => ?_)
   clear hK K
   refine nm (some 9) ?_
   refine pv aC 7 10 (tf 8 9) ?_
   refine pv aC 8 11 (tf 9 8) ?_
   refine pw aC 9 12 (tf 10 7) ?_
   refine pw aC 10 13 (tf 11 6) ?_
   refine pw aC 11 14 (tf 12 5) ?_
   refine pw aC 12 15 (tf 13 4) ?_
   refine pw aC 13 16 (tf 14 3) ?_
   refine pw aC 14 17 (tf 15 2) ?_
   refine pv aC 15 18 (tf 16 1) ?_
   refine pv aC 16 2 (tf 17 0) ?_
   refine done_ (done_of aC.out (by kernel_rfl)) ?_
   try go_wp2
   go_ret
   exact ⟨ER, K1 HB aG.out⟩
 ·replace c3 := Bool.eq_false_iff.mpr c3
  subst c3
  have H1 := nf H
  clear H
  have H := H1
  clear H1
  obtain rfl := sj H
  go_enter Tryz.func93, Tryz.ntmps93
  try go_wp2_with (first | ((with_reducible refine gate_dst (N := 1) rfl ?_); refine box_event rfl (N := 1) rfl (cs := #[.int .i64 aD, .int .i64 aE]) (t := 113) BX ?_; intro aH hg aS aI hb; have aA := am (aI); have aJ := am (GH HB hg); have aG := aJ; replace HB := bl (KL HB) hb; clear hb aI hg))
  replace aA := am (blk_drew aA.out)
  replace HB := am (below_drew1 HB.out)
  refine start_ (n := 17) (S := fun w' => de2 w' aH (.int .i64 aD) (.int .i64 aE)) (ds := []) (tf 0 17) (by kernel_rfl) rfl rfl ⟨z0 _ aA.out, z1 _ aA.out⟩ (fun aB => ?_); refine with_tabW impl_BlockOk.tab1 impl_BlockOk.bits1 (fun aC aM => ?_)
  generalize aS.drew = aV at aA HB aB ⊢
  refine pv aC 0 3 (tf 1 16) ?_
  refine tk 1 (some 4) (tf 2 15) (take_ofW aC.out aM.out (by kernel_rfl)) aB ?_
  refine one_ (i := 2) (N := some 5) (tf 3 14) rfl rfl (one_of aC.out (by kernel_rfl)) (by decide) (fun K hK => ?_)
  refine goes_ Tryz.func78 (by kernel_rfl) rfl #[.int .i64 aD] (by rfl) rfl rfl MT ?_
  with_reducible refine (impl_isAddr.calls aD false _ A2.out).mono ?_
  rintro e w' ⟨rfl, ⟨nd, rfl⟩⟩
  refine ⟨_, rfl, ?_⟩
  refine hK.out _ _ ⟨z0 _ aA.out, z1 _ aA.out⟩ (fun aB => ?_)
  clear hK K
  refine nm (some 5) ?_
  refine pv aC 3 6 (tf 4 13) ?_
  refine pw aC 4 7 (tf 5 12) ?_
  refine pw aC 5 8 (tf 6 11) ?_
  refine pw aC 6 9 (tf 7 10) ?_
  refine pv aC 7 10 (tf 8 9) ?_
  refine pv aC 8 11 (tf 9 8) ?_
  refine pw aC 9 12 (tf 10 7) ?_
  refine pw aC 10 13 (tf 11 6) ?_
  refine pw aC 11 14 (tf 12 5) ?_
  refine pw aC 12 15 (tf 13 4) ?_
  refine pw aC 13 16 (tf 14 3) ?_
  refine pw aC 14 17 (tf 15 2) ?_
  refine pv aC 15 18 (tf 16 1) ?_
  refine pv aC 16 2 (tf 17 0) ?_
  refine done_ (done_of aC.out (by kernel_rfl)) ?_
  try go_wp2
  go_ret
  exact ⟨ER, K1 HB aG.out⟩
def impl_tunOf.f (a0_0 : Int) (a0_1 : Int) (a0_2 : ByteArray) (a0_3 : ByteArray) (a0_4 : Int) (a0_5 : Int) (a0_6 : Int) (a0_7 : Int) (a0_8 : Int) (a0_9 : Int) (l0_10 : List Int) : Option (Int) := some a0_1
theorem impl_tunOf.calls (aG : Int) (aF : Int) (aH : ByteArray) (aI : ByteArray) (aJ : Int) (aK : Int) (aL : Int) (aM : Int) (aN : Int) (aO : Int) (aB : Option Addr) (aC : Nat) (aA : List Int) (r : Int) (w : World) (aD : Kd.C (Kd.int .i64) w aB aA.length aA) (aE : aA.length ≤ aC) (h : impl_tunOf.f aG aF aH aI aJ aK aL aM aN aO aA = some r) :
  Calls Tryz.prog 38 #[.agg #[.int .i64 aG, .int .i64 aF, .string aH, .string aI, .int .i64 aJ, .int .i64 aK, .int .i64 aL, .int .i64 aM, .int .i64 aN, .int .i64 aO, .slice aB aA.length aC]] w fun e w' => e = .returned (.int .i64 r) ∧ Below w.heap.size w w' := by
 have bI := Tryz.underlying80
 have aU := Aside0.mk aD
 have aV := Aside0.mk aE
 clear aD aE
 have HB := am (Below.refl w.heap.size w)
 have H : (some aF) = some r := h
 clear h
 obtain rfl := sj H
 go_enter Tryz.func38, Tryz.ntmps38
 go_wp2_with (first | ((with_reducible refine gate_dst (N := 1) rfl ?_); refine box_event rfl (N := 1) rfl (cs := #[.int .i64 aG, .int .i64 aF, .string aH, .string aI, .int .i64 aJ, .int .i64 aK, .int .i64 aL, .int .i64 aM, .int .i64 aN, .int .i64 aO, .slice aB aA.length aC]) (t := 80) BX ?_; intro bH hg w2 aP hb; have aQ := am (aP); have aR := am (GH HB hg); have aS := aR; replace HB := bl (KL HB) hb; clear hb aP hg; have ⟨_, _, _, _, _, _, _, _, _, _, _, _⟩ := y11 w2 aQ.out))
 go_ret
 exact ⟨ER, K1 HB aS.out⟩
end Go.Proofs.YtohegganioifbaaGreat.PAll
end
