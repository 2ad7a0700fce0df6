/- Contracts of the functions that the statement reaches. -/
import Derived.Test.YtmdegplkdgaebaaGreatCFnExactGateTick3
import Derived.Test.YtmdegplkdgaebaaGreatCFnExactGateTick4
import Derived.Test.YtmdegplkdgaebaaGreatCFnExactGateTick5
set_option maxHeartbeats 8000000
set_option maxRecDepth 100000
section
namespace Go.Proofs.YtmdegplkdgaebaaGreat.PAll
open Go.RowKit Go.Proofs.YtmdegplkdgaebaaGreatW.PrintWords Go.Proofs.YtmdegplkdgaebaaGreatW.PrintLast Go.Proofs.YtmdegplkdgaebaaGreatW.PrintMore
attribute [local go_sem] max2_int min2_int max_two min_two max_three min_three max_four min_four
set_option linter.unusedVariables false
set_option linter.unusedSimpArgs false
mutual
def spec_GateOk.j0 : Nat → Bool → Int → List (S77) → Int → List (S91) → List (S50) → List (S50) → Option (Bool)
 | 0, _, _, _, _, _, _, _ => none
 | k + 1, x34, x102000, x102001, x102002, x102003, x102004, x102005 => if x34 = true then (some false) else (spec_GateOk.l0 k 0 x102000 x102001 x102002 x102003 x102004 x102005)
def spec_GateOk.l0 : Nat → Int → Int → List (S77) → Int → List (S91) → List (S50) → List (S50) → Option (Bool)
 | 0, _, _, _, _, _, _, _ => none
 | k + 1, x3, x102000, x102001, x102002, x102003, x102004, x102005 => if x3 < (x102004.length : Int) then (if 0 ≤ x3 then ((spec_SaOk.f k ((rd_T50 x102004 x3).f0) ((rd_T50 x102004 x3).f1) ((rd_T50 x102004 x3).f2) ((rd_T50 x102004 x3).f3) ((rd_T50 x102004 x3).f4) ((rd_T50 x102004 x3).f5) ((rd_T50 x102004 x3).f6) ((rd_T50 x102004 x3).f7) ((rd_T50 x102004 x3).f8) ((rd_T50 x102004 x3).f9.f0) ((rd_T50 x102004 x3).f9.f1)).bind fun t105 => (if t105 = true then (if ((rd_T50 x102004 x3).f4) > x102000 then (spec_GateOk.j2 k x3 true x102000 x102001 x102002 x102003 x102004 x102005) else (if x3 > 0 then (if 0 ≤ (wrap64 (x3 - 1)) then (if (wrap64 (x3 - 1)) < (x102004.length : Int) then (spec_GateOk.j2 k x3 (decide (((rd_T50 x102004 (wrap64 (x3 - 1))).f1) ≥ ((rd_T50 x102004 x3).f1))) x102000 x102001 x102002 x102003 x102004 x102005) else (none)) else (none)) else (spec_GateOk.j2 k x3 false x102000 x102001 x102002 x102003 x102004 x102005))) else (spec_GateOk.j2 k x3 true x102000 x102001 x102002 x102003 x102004 x102005))) else (none)) else (spec_GateOk.l1 k 0 x102000 x102001 x102002 x102003 x102004 x102005)
def spec_GateOk.j2 : Nat → Int → Bool → Int → List (S77) → Int → List (S91) → List (S50) → List (S50) → Option (Bool)
 | 0, _, _, _, _, _, _, _, _ => none
 | k + 1, x3, x79, x102000, x102001, x102002, x102003, x102004, x102005 => if x79 = true then (some false) else (spec_GateOk.l0 k (wrap64 (x3 + 1)) x102000 x102001 x102002 x102003 x102004 x102005)
def spec_GateOk.l1 : Nat → Int → Int → List (S77) → Int → List (S91) → List (S50) → List (S50) → Option (Bool)
 | 0, _, _, _, _, _, _, _ => none
 | k + 1, x4, x102000, x102001, x102002, x102003, x102004, x102005 => if x4 < (x102005.length : Int) then (if 0 ≤ x4 then ((spec_SaOk.f k ((rd_T50 x102005 x4).f0) ((rd_T50 x102005 x4).f1) ((rd_T50 x102005 x4).f2) ((rd_T50 x102005 x4).f3) ((rd_T50 x102005 x4).f4) ((rd_T50 x102005 x4).f5) ((rd_T50 x102005 x4).f6) ((rd_T50 x102005 x4).f7) ((rd_T50 x102005 x4).f8) ((rd_T50 x102005 x4).f9.f0) ((rd_T50 x102005 x4).f9.f1)).bind fun t110 => (if t110 = true then (if ((rd_T50 x102005 x4).f4) > x102000 then (spec_GateOk.j4 k x4 true x102000 x102001 x102002 x102003 x102004 x102005) else (if x4 > 0 then (if 0 ≤ (wrap64 (x4 - 1)) then (if (wrap64 (x4 - 1)) < (x102005.length : Int) then (spec_GateOk.j4 k x4 (decide (((rd_T50 x102005 (wrap64 (x4 - 1))).f0) ≥ ((rd_T50 x102005 x4).f0))) x102000 x102001 x102002 x102003 x102004 x102005) else (none)) else (none)) else (spec_GateOk.j4 k x4 false x102000 x102001 x102002 x102003 x102004 x102005))) else (spec_GateOk.j4 k x4 true x102000 x102001 x102002 x102003 x102004 x102005))) else (none)) else (some true)
def spec_GateOk.j4 : Nat → Int → Bool → Int → List (S77) → Int → List (S91) → List (S50) → List (S50) → Option (Bool)
 | 0, _, _, _, _, _, _, _, _ => none
 | k + 1, x4, x124, x102000, x102001, x102002, x102003, x102004, x102005 => if x124 = true then (some false) else (spec_GateOk.l1 k (wrap64 (x4 + 1)) x102000 x102001 x102002 x102003 x102004 x102005)
end
def spec_GateOk.f (k : Nat) (a0_0 : Int) (l0_1 : List (S77)) (a0_2 : Int) (l0_3 : List (S91)) (l0_4 : List (S50)) (l0_5 : List (S50)) : Option (Bool) := (spec_l1In.f a0_0 0 1000000).bind fun t102 => (if t102 = true then (if a0_2 = 4 then ((spec_CacheOk.f k l0_1 a0_2 l0_3).bind fun t103 => (if t103 = true then (if (l0_4.length : Int) > 4 then (spec_GateOk.j0 k true a0_0 l0_1 a0_2 l0_3 l0_4 l0_5) else (spec_GateOk.j0 k (decide ((l0_5.length : Int) > 6)) a0_0 l0_1 a0_2 l0_3 l0_4 l0_5)) else (spec_GateOk.j0 k true a0_0 l0_1 a0_2 l0_3 l0_4 l0_5))) else (spec_GateOk.j0 k true a0_0 l0_1 a0_2 l0_3 l0_4 l0_5)) else (spec_GateOk.j0 k true a0_0 l0_1 a0_2 l0_3 l0_4 l0_5))
def spec_GateOk.T6 : Bool × List (List Nat × List Nat) := (true, [([], []), ([0], [0]), ([], []), ([1, 2], [1, 2]), ([3], [3]), ([4], [4]), ([5], [5]), ([6, 5], [6]), ([7], [7]), ([8, 7], [7, 8]), ([7], [7]), ([9, 10, 7], [7, 9, 10]), ([11, 7], [7, 11]), ([12, 7], [7, 12]), ([7], [7]), ([14, 7], [7, 14]), ([13, 15, 7], [7, 13, 15]), ([7, 16], [7, 16]), ([17, 7], [17]), ([18], [18]), ([19, 18], [18, 19]), ([20, 18, 18], [18, 20]), ([21], [21]), ([22, 21], [21, 22]), ([21], [21]), ([24, 21], [21, 24]), ([23, 25, 21], [21, 23, 25]), ([26, 21], [21, 26]), ([27, 21], [21, 27]), ([21], [21]), ([29, 21], [21, 29]), ([21], [21]), ([30, 31, 21], [21, 30, 31]), ([32, 21], [21, 32]), ([33, 21], [21, 33]), ([28, 34, 21], [21, 28, 34]), ([21, 35, 18], [18, 21, 35]), ([18, 36], [18, 36])])
def spec_GateOk.B6 : List Nat := [0, 1, 0, 7, 15, 31, 63, 127, 255, 511, 255, 2047, 4095, 8191, 255, 16639, 65535, 131071, 262143, 524287, 1048575, 2097151, 4194303, 8388607, 4194303, 20971519, 67108863, 134217727, 268435455, 4194303, 541065215, 4194303, 3762290687, 8057257983, 16647192575, 34359738367, 68719476735, 137438953471]
theorem spec_GateOk.tab6 : rtab .any (opsOf Tryz.f14 6) = spec_GateOk.T6 := by kernel_rfl
theorem spec_GateOk.bits6 : waitsOk spec_GateOk.T6.2 spec_GateOk.B6 = true := by kernel_rfl
def spec_GateOk.T11 : Bool × List (List Nat × List Nat) := (true, [([], []), ([0], [0]), ([], []), ([1, 2], [1, 2]), ([3], [3]), ([4], [4]), ([5], [5]), ([6, 5], [6]), ([7], [7]), ([8, 7], [7, 8]), ([7], [7]), ([9, 10, 7], [7, 9, 10]), ([11, 7], [7, 11]), ([12, 7], [7, 12]), ([7], [7]), ([14, 7], [7, 14]), ([13, 15, 7], [7, 13, 15]), ([7, 16], [7, 16]), ([17, 7], [17]), ([18], [18]), ([19, 18], [18, 19]), ([20, 18, 18], [18, 20]), ([21], [21]), ([22, 21], [21, 22]), ([21], [21]), ([24, 21], [21, 24]), ([23, 25, 21], [21, 23, 25]), ([26, 21], [21, 26]), ([27, 21], [21, 27]), ([21], [21]), ([29, 21], [21, 29]), ([21], [21]), ([30, 31, 21], [21, 30, 31]), ([32, 21], [21, 32]), ([33, 21], [21, 33]), ([28, 34, 21], [21, 28, 34]), ([21, 35, 18], [18, 21, 35]), ([18, 36], [18, 36])])
def spec_GateOk.B11 : List Nat := [0, 1, 0, 7, 15, 31, 63, 127, 255, 511, 255, 2047, 4095, 8191, 255, 16639, 65535, 131071, 262143, 524287, 1048575, 2097151, 4194303, 8388607, 4194303, 20971519, 67108863, 134217727, 268435455, 4194303, 541065215, 4194303, 3762290687, 8057257983, 16647192575, 34359738367, 68719476735, 137438953471]
theorem spec_GateOk.tab11 : rtab .any (opsOf Tryz.f14 11) = spec_GateOk.T11 := by kernel_rfl
theorem spec_GateOk.bits11 : waitsOk spec_GateOk.T11.2 spec_GateOk.B11 = true := by kernel_rfl
theorem spec_GateOk.calls (k : Nat) (aK : Int) (fA : Option Addr) (fB : Nat) (aZ : List (S77)) (aN : Int) (fC : Option Addr) (fD : Nat) (bA : List (S91)) (fO : Option Addr) (fE : Nat) (aE : List (S50)) (fP : Option Addr) (fF : Nat) (aF : List (S50)) (r : Bool) (w : World) (mK : Kd.C k77 w fA aZ.length aZ) (mL : aZ.length ≤ fB) (mM : Kd.C k91 w fC bA.length bA) (mN : bA.length ≤ fD) (mO : Kd.C k50 w fO aE.length aE) (mP : aE.length ≤ fE) (mQ : Kd.C k50 w fP aF.length aF) (mR : aF.length ≤ fF) (h : spec_GateOk.f k aK aZ aN bA aE aF = some r) :
  Calls Tryz.prog 14 #[.agg #[.int .i64 aK, .slice fA aZ.length fB, .int .i64 aN, .slice fC bA.length fD, .slice fO aE.length fE, .slice fP aF.length fF]] w fun e w' => e = .returned (.bool r) ∧ Below w.heap.size w w' := by
 have pY := Tryz.underlying36
 have pZ := Tryz.underlying33
 have qA := Tryz.underlying50
 have lO := Aside0.mk mK
 have lP := Aside0.mk mL
 clear mK mL
 have lQ := Aside0.mk mM
 have lR := Aside0.mk mN
 clear mM mN
 have fI := Aside0.mk mO
 have pR := Aside0.mk mP
 clear mO mP
 have fJ := Aside0.mk mQ
 have pS := Aside0.mk mR
 clear mQ mR
 have HB := am (Below.refl w.heap.size w)
 have H : ((spec_l1In.f aK 0 1000000).bind fun lY => (if lY = true then (if aN = 4 then ((spec_CacheOk.f k aZ aN bA).bind fun lN => (if lN = true then (if (aE.length : Int) > 4 then (spec_GateOk.j0 k true aK aZ aN bA aE aF) else (spec_GateOk.j0 k (decide ((aF.length : Int) > 6)) aK aZ aN bA aE aF)) else (spec_GateOk.j0 k true aK aZ aN bA aE aF))) else (spec_GateOk.j0 k true aK aZ aN bA aE aF)) else (spec_GateOk.j0 k true aK aZ aN bA aE aF))) = some r := h
 clear h
 have pJ := Aside0.mk H
 clear H
 go_enter Tryz.func14, Tryz.ntmps14
 go_upto_region 1 with (first | ((with_reducible refine gate_dst (N := 1) rfl ?_); (try (refine gate_guard (by rfl) ?_; dsimp only)); refine box_event rfl (N := 1) rfl (cs := #[.int .i64 aK, .slice fA aZ.length fB, .int .i64 aN, .slice fC bA.length fD, .slice fO aE.length fE, .slice fP aF.length fF]) (t := 36) BX ?_; intro eP hg w3 nK hb; have aG := am (nK); have nL := am (GH HB hg); have aM := nL; replace HB := bl (KL HB) hb; clear hb nK hg))
 (try simp only [Act.put, List.setIfInBounds_toArray, List.set_cons_zero, List.set_cons_succ])
 go_cut [34] (fun qB wc => ∃ (kq : Nat) (iB : Bool), qB = .bool iB ∧ Aside0 (spec_GateOk.j0 kq iB aK aZ aN bA aE aF = some r) ∧ Aside0 (kq ≤ k) ∧ Aside0 (wc.heap[eP]? = some (.cells #[.int .i64 aK, (.slice fA aZ.length fB), .int .i64 aN, (.slice fC bA.length fD), (.slice fO aE.length fE), (.slice fP aF.length fF)] 36 (0, 0))) ∧ Aside0 (Below w.heap.size w wc))
 case first =>
  have H := pJ.out
  clear pJ
  replace H := bm H
  obtain ⟨lY, pT, H⟩ := H
  replace H : (if lY = true then (if aN = 4 then ((spec_CacheOk.f k aZ aN bA).bind fun lN => (if lN = true then (if (aE.length : Int) > 4 then (spec_GateOk.j0 k true aK aZ aN bA aE aF) else (spec_GateOk.j0 k (decide ((aF.length : Int) > 6)) aK aZ aN bA aE aF)) else (spec_GateOk.j0 k true aK aZ aN bA aE aF))) else (spec_GateOk.j0 k true aK aZ aN bA aE aF)) else (spec_GateOk.j0 k true aK aZ aN bA aE aF)) = some r := H
  have A4 := Aside0.mk pT
  clear pT
  by_cases c5 : lY = true
  ·subst c5
   have H1 := pf H
   clear H
   have H := H1
   clear H1
   by_cases c6 : aN = 4
   ·rw [if_pos c6] at H
    have c6b0 : (aN == 4) = true := beq_iff_eq.mpr c6
    have c6b1 : (aN != 4) = false := bne_eq_false_iff_eq.mpr c6
    clear c6
    (first | rw [c6b0] | (simp only [i64_w, i32_w]; rw [c6b0]) | skip)
    replace H := bm H
    obtain ⟨lN, pU, H⟩ := H
    replace H : (if lN = true then (if (aE.length : Int) > 4 then (spec_GateOk.j0 k true aK aZ aN bA aE aF) else (spec_GateOk.j0 k (decide ((aF.length : Int) > 6)) aK aZ aN bA aE aF)) else (spec_GateOk.j0 k true aK aZ aN bA aE aF)) = some r := H
    have A7 := Aside0.mk pU
    clear pU
    by_cases c8 : lN = true
    ·subst c8
     have H1 := pf H
     clear H
     have H := H1
     clear H1
     by_cases c9 : (aE.length : Int) > 4
     ·rw [if_pos c9] at H
      have c9b0 : decide (4 < (aE.length : Int)) = true := decide_eq_true c9
      have c9b1 : decide (4 < aE.length) = true := decide_eq_true (by omega)
      clear c9
      have H' := Aside0.mk H
      clear H
      obtain ⟨iC, iD, iE, iF, iG, iH, iI⟩ := y6 w3 aG.out
      go_wp2_with (first | ((with_reducible refine gate_callee (f := 36) rfl ?_); refine goesL_ (some 7) rfl rfl Tryz.func36 (by kernel_rfl) rfl #[.int .i64 aK, .int .i64 0, .int .i64 1000000] rfl MT ?_; (with_reducible refine (spec_l1In.calls aK 0 1000000 true _ A4.out).mono ?_); rintro e w' ⟨rfl, ⟨nd, rfl⟩⟩; refine ⟨_, rfl, ?_⟩) | (go_at_call 37; (with_reducible refine (spec_CacheOk.calls k _ _ aZ aN _ _ bA true _ ?_ ?_ ?_ ?_ A7.out).mono ?_); (repeat (first | exact (Kd.C_below lO.out (K1 HB aM.out)) | (with_reducible refine Kd.C_alloc ?_ _) | (with_reducible refine Kd.C_drewN ?_ _) | (with_reducible refine Kd.C_drew ?_))); exact lP.out; (repeat (first | exact (Kd.C_below lQ.out (K1 HB aM.out)) | (with_reducible refine Kd.C_alloc ?_ _) | (with_reducible refine Kd.C_drewN ?_ _) | (with_reducible refine Kd.C_drew ?_))); exact lR.out; rintro e qC ⟨rfl, hb⟩; replace aG := am (BB aG hb); replace HB := bl (K1 HB aM.out) hb; (try clear hb); obtain ⟨iJ, iK, iL, iM, iN, iO, iP⟩ := y6 qC aG.out))
      go_meet
      case rel => exact ⟨_, (true), (by first | rfl | (simp; done) | (simp [*]; done)), H', ⟨by first | omega | exact Nat.le_refl _⟩, ⟨KB aG⟩, ⟨K1 HB aM.out⟩⟩
     ·rw [if_neg c9] at H
      have c9b0 : decide (4 < (aE.length : Int)) = false := decide_eq_false c9
      have c9b1 : decide (4 < aE.length) = false := decide_eq_false (by omega)
      clear c9
      have H' := Aside0.mk H
      clear H
      obtain ⟨iQ, iR, iS, iT, iU, iV, iW⟩ := y6 w3 aG.out
      go_wp2_with (first | ((with_reducible refine gate_callee (f := 36) rfl ?_); refine goesL_ (some 7) rfl rfl Tryz.func36 (by kernel_rfl) rfl #[.int .i64 aK, .int .i64 0, .int .i64 1000000] rfl MT ?_; (with_reducible refine (spec_l1In.calls aK 0 1000000 true _ A4.out).mono ?_); rintro e w' ⟨rfl, ⟨nd, rfl⟩⟩; refine ⟨_, rfl, ?_⟩) | (go_at_call 37; (with_reducible refine (spec_CacheOk.calls k _ _ aZ aN _ _ bA true _ ?_ ?_ ?_ ?_ A7.out).mono ?_); (repeat (first | exact (Kd.C_below lO.out (K1 HB aM.out)) | (with_reducible refine Kd.C_alloc ?_ _) | (with_reducible refine Kd.C_drewN ?_ _) | (with_reducible refine Kd.C_drew ?_))); exact lP.out; (repeat (first | exact (Kd.C_below lQ.out (K1 HB aM.out)) | (with_reducible refine Kd.C_alloc ?_ _) | (with_reducible refine Kd.C_drewN ?_ _) | (with_reducible refine Kd.C_drew ?_))); exact lR.out; rintro e qD ⟨rfl, hb⟩; replace aG := am (BB aG hb); replace HB := bl (K1 HB aM.out) hb; (try clear hb); obtain ⟨iX, iY, iZ, jA, jB, jC, jD⟩ := y6 qD aG.out))
      go_meet
      case rel => exact ⟨_, (decide ((aF.length : Int) > 6)), (by first | rfl | (simp; done) | (simp [*]; done)), H', ⟨by first | omega | exact Nat.le_refl _⟩, ⟨KB aG⟩, ⟨K1 HB aM.out⟩⟩
    ·replace c8 := Bool.eq_false_iff.mpr c8
     subst c8
     have H1 := nf H
     clear H
     have H := H1
     clear H1
     have H' := Aside0.mk H
     clear H
     obtain ⟨jE, jF, jG, jH, jI, jJ, jK⟩ := y6 w3 aG.out
     go_wp2_with (first | ((with_reducible refine gate_callee (f := 36) rfl ?_); refine goesL_ (some 7) rfl rfl Tryz.func36 (by kernel_rfl) rfl #[.int .i64 aK, .int .i64 0, .int .i64 1000000] rfl MT ?_; (with_reducible refine (spec_l1In.calls aK 0 1000000 true _ A4.out).mono ?_); rintro e w' ⟨rfl, ⟨nd, rfl⟩⟩; refine ⟨_, rfl, ?_⟩) | (go_at_call 37; (with_reducible refine (spec_CacheOk.calls k _ _ aZ aN _ _ bA false _ ?_ ?_ ?_ ?_ A7.out).mono ?_); (repeat (first | exact (Kd.C_below lO.out (K1 HB aM.out)) | (with_reducible refine Kd.C_alloc ?_ _) | (with_reducible refine Kd.C_drewN ?_ _) | (with_reducible refine Kd.C_drew ?_))); exact lP.out; (repeat (first | exact (Kd.C_below lQ.out (K1 HB aM.out)) | (with_reducible refine Kd.C_alloc ?_ _) | (with_reducible refine Kd.C_drewN ?_ _) | (with_reducible refine Kd.C_drew ?_))); exact lR.out; rintro e qH ⟨rfl, hb⟩; replace aG := am (BB aG hb); replace HB := bl (K1 HB aM.out) hb; (try clear hb)))
     go_meet
     case rel => exact ⟨_, (true), (by first | rfl | (simp; done) | (simp [*]; done)), H', ⟨by first | omega | exact Nat.le_refl _⟩, ⟨KB aG⟩, ⟨K1 HB aM.out⟩⟩
   ·rw [if_neg c6] at H
    have c6b0 : (aN == 4) = false := beq_eq_false_iff_ne.mpr c6
    have c6b1 : (aN != 4) = true := bne_iff_ne.mpr c6
    (first | rw [c6b0] | (simp only [i64_w, i32_w]; rw [c6b0]) | skip)
    have H' := Aside0.mk H
    clear H
    obtain ⟨jL, jM, jN, jO, jP, jQ, jR⟩ := y6 w3 aG.out
    go_wp2_with (first | ((with_reducible refine gate_callee (f := 36) rfl ?_); refine goesL_ (some 7) rfl rfl Tryz.func36 (by kernel_rfl) rfl #[.int .i64 aK, .int .i64 0, .int .i64 1000000] rfl MT ?_; (with_reducible refine (spec_l1In.calls aK 0 1000000 true _ A4.out).mono ?_); rintro e w' ⟨rfl, ⟨nd, rfl⟩⟩; refine ⟨_, rfl, ?_⟩))
    go_meet
    case rel => exact ⟨_, (true), (by first | rfl | (simp; done) | (simp [*]; done)), H', ⟨by first | omega | exact Nat.le_refl _⟩, ⟨KB aG⟩, ⟨K1 HB aM.out⟩⟩
  ·replace c5 := Bool.eq_false_iff.mpr c5
   subst c5
   have H1 := nf H
   clear H
   have H := H1
   clear H1
   have H' := Aside0.mk H
   clear H
   obtain ⟨jS, jT, jU, jV, jW, jX, jY⟩ := y6 w3 aG.out
   go_wp2_with (first | ((with_reducible refine gate_callee (f := 36) rfl ?_); refine goesL_ (some 7) rfl rfl Tryz.func36 (by kernel_rfl) rfl #[.int .i64 aK, .int .i64 0, .int .i64 1000000] rfl MT ?_; (with_reducible refine (spec_l1In.calls aK 0 1000000 false _ A4.out).mono ?_); rintro e w' ⟨rfl, ⟨nd, rfl⟩⟩; refine ⟨_, rfl, ?_⟩))
   go_meet
   case rel => exact ⟨_, (true), (by first | rfl | (simp; done) | (simp [*]; done)), H', ⟨by first | omega | exact Nat.le_refl _⟩, ⟨KB aG⟩, ⟨K1 HB aM.out⟩⟩
 case rest =>
  clear pJ
  try clear c1
  try clear p2
  try clear c3
  try clear c5
  try clear c6
  try clear c6b0
  try clear c6b1
  try clear c8
  try clear c9
  try clear c9b0
  try clear c9b1
  try clear qE
  try clear iC iD iE iF iG iH iI
  try clear iJ iK iL iM iN iO iP
  try clear iQ iR iS iT iU iV iW
  try clear iX iY iZ jA jB jC jD
  try clear jE jF jG jH jI jJ jK
  try clear jL jM jN jO jP jQ jR
  try clear jS jT jU jV jW jX jY
  obtain ⟨kq, iB, rfl, HA, HJ1, aG, HB⟩ := hcut
  cases kq with
  | zero => exact absurd HA.out (by simp [spec_GateOk.j0])
  | succ kj1 =>
   have H := HA.out
   clear HA
   simp only [spec_GateOk.j0] at H
   by_cases nM : iB = true
   ·subst nM
    have H1 := pf H
    clear H
    have H := H1
    clear H1
    obtain rfl := sj H
    go_wp2
    go_ret
    exact ⟨ER, K1 HB aM.out⟩
   ·replace nM := Bool.eq_false_iff.mpr nM
    subst nM
    have H1 := nf H
    clear H
    have H := H1
    clear H1
    have H' := Aside0.mk H
    clear H
    go_wp2
    go_loopg [3] kj1 (fun kq v3 w' => ∃ (aA : Int), v3 = .int .i64 aA ∧ Aside0 (spec_GateOk.l0 kq aA aK aZ aN bA aE aF = some r) ∧ Aside0 (kq ≤ kj1) ∧ Aside0 (w'.heap[eP]? = some (.cells #[.int .i64 aK, (.slice fA aZ.length fB), .int .i64 aN, (.slice fC bA.length fD), (.slice fO aE.length fE), (.slice fP aF.length fF)] 36 (0, 0))) ∧ Aside0 (Below w.heap.size w w'))
    case atStart => exact ⟨(0), (by first | rfl | (simp; done) | (simp [*]; done)), H', ⟨Nat.le_refl _⟩, ⟨KB aG⟩, ⟨K1 HB aM.out⟩⟩
    case round =>
     clear H'
     try clear c1
     try clear c2
     try clear p2
     try clear c3
     try clear c5
     try clear c6
     try clear c6b0
     try clear c6b1
     try clear c8
     try clear c9
     try clear c9b0
     try clear c9b1
     try clear qE
     try clear nM
     try clear iC iD iE iF iG iH iI
     try clear iJ iK iL iM iN iO iP
     try clear iQ iR iS iT iU iV iW
     try clear iX iY iZ jA jB jC jD
     try clear jE jF jG jH jI jJ jK
     try clear jL jM jN jO jP jQ jR
     try clear jS jT jU jV jW jX jY
     try clear p2
     obtain ⟨aA, rfl, HA, HK2, aG, HB⟩ := hrel
     cases gk with
     | zero => exact absurd HA.out (by simp [spec_GateOk.l0])
     | succ k2 =>
      have H := HA.out
      clear HA
      simp only [spec_GateOk.l0] at H
      by_cases mS : aA < (aE.length : Int)
      ·rw [if_pos mS] at H
       have c21b0 : decide (aA < (aE.length : Int)) = true := decide_eq_true mS
       clear mS
       have mT := Aside0.mk H
       clear H
       have ⟨_, _, _, _, _, _, _⟩ := y6 wr aG.out
       go_upto_region 6 with (fail)
       go_cut [79] (fun qF wc => ∃ (kq : Nat) (hH : Bool), qF = .bool hH ∧ Aside0 (spec_GateOk.j2 kq aA hH aK aZ aN bA aE aF = some r) ∧ Aside0 (kq ≤ k2) ∧ Aside0 (wc.heap[eP]? = some (.cells #[.int .i64 aK, (.slice fA aZ.length fB), .int .i64 aN, (.slice fC bA.length fD), (.slice fO aE.length fE), (.slice fP aF.length fF)] 36 (0, 0))) ∧ Aside0 (Below w.heap.size w wc))
       case first =>
        have H := mT.out
        clear mT
        by_cases nD : 0 ≤ aA
        ·rw [if_pos nD] at H
         have c24b0 : decide (0 ≤ aA) = true := decide_eq_true nD
         clear nD
         (first | rw [c24b0] | (simp only [i64_w, i32_w]; rw [c24b0]) | skip)
         replace H := bm H
         obtain ⟨nN, nO, H⟩ := H
         replace H : (if nN = true then (if ((rd_T50 aE aA).f4) > aK then (spec_GateOk.j2 k2 aA true aK aZ aN bA aE aF) else (if aA > 0 then (if 0 ≤ (wrap64 (aA - 1)) then (if (wrap64 (aA - 1)) < (aE.length : Int) then (spec_GateOk.j2 k2 aA (decide (((rd_T50 aE (wrap64 (aA - 1))).f1) ≥ ((rd_T50 aE aA).f1))) aK aZ aN bA aE aF) else (none)) else (none)) else (spec_GateOk.j2 k2 aA false aK aZ aN bA aE aF))) else (spec_GateOk.j2 k2 aA true aK aZ aN bA aE aF)) = some r := H
         have nP := Aside0.mk nO
         clear nO
         by_cases nE : nN = true
         ·subst nE
          have H1 := pf H
          clear H
          have H := H1
          clear H1
          by_cases nF : ((rd_T50 aE aA).f4) > aK
          ·rw [if_pos nF] at H
           have c27b0 : decide (aK < ((rd_T50 aE aA).f4)) = true := decide_eq_true nF
           clear nF
           have H' := Aside0.mk H
           clear H
           try go_wp2
           replace aG := am (blk_drew aG.out)
           replace HB := am (below_drew1 HB.out)
           have eQ : 0 ≤ (aA : Int) := OD
           have eR : aA < (aE.length : Int) := OD
           obtain ⟨aC, cO, cP, hZ, aO, aP, aQ, aR, aS, aT, aU, aV, aW, aX, aJ, cG, cH⟩ := at_T50 fI.out aA eQ eR
           have cI := aJ
           have cQ := aX
           have cR := aW
           have cS := aV
           have cT := aU
           have cU := aT
           have cV := aS
           have cW := aR
           have cX := aQ
           have cY := aP
           have cZ := aO
           cases hZ
           replace aO := CX HB.out aO
           replace aP := CX HB.out aP
           replace aQ := CX HB.out aQ
           replace aR := CX HB.out aR
           replace aS := CX HB.out aS
           replace aT := CX HB.out aT
           replace aU := CX HB.out aU
           replace aV := CX HB.out aV
           replace aW := CX HB.out aW
           replace aX := CX HB.out aX
           replace aJ := CX HB.out aJ
           have cJ := Aside0.mk cH
           have dT := Aside0.mk cG
           clear cH cG
           replace eQ := eq_true eQ
           replace eR := eq_true eR
           have fM : 0 ≤ (aA : Int) := OD
           have fN : aA < (aE.length : Int) := OD
           obtain ⟨hI, eW, eX, lS, bM, bN, bO, bP, bQ, bR, bS, bT, bU, bV, aY, dM, dN⟩ := at_T50 fI.out aA fM fN
           have dO := aY
           have dV := bV
           have dW := bU
           have dX := bT
           have dY := bS
           have dZ := bR
           have eA := bQ
           have eB := bP
           have eC := bO
           have eD := bN
           have eE := bM
           obtain rfl : aC = hI := (by injection lS)
           replace bM := CX HB.out bM
           replace bN := CX HB.out bN
           replace bO := CX HB.out bO
           replace bP := CX HB.out bP
           replace bQ := CX HB.out bQ
           replace bR := CX HB.out bR
           replace bS := CX HB.out bS
           replace bT := CX HB.out bT
           replace bU := CX HB.out bU
           replace bV := CX HB.out bV
           replace aY := CX HB.out aY
           have eS := Aside0.mk dN
           have hJ := Aside0.mk dM
           clear dN dM
           replace fM := eq_true fM
           replace fN := eq_true fN
           refine start_ (n := 38) (S := fun w' => ce6 w' eP (.int .i64 aK) (.slice fA aZ.length fB) (.int .i64 aN) (.slice fC bA.length fD) (.slice (some aC) aE.length fE) (.slice fP aF.length fF) (w'.cell? (aC.add ((aA).toNat * 11)) = some (.int .i64 ((rd_T50 aE aA).f0)) ∧ w'.cell? ⟨(aC.add ((aA).toNat * 11)).block, (aC.add ((aA).toNat * 11)).off + 1, none⟩ = some (.int .i64 ((rd_T50 aE aA).f1)) ∧ w'.cell? ⟨(aC.add ((aA).toNat * 11)).block, (aC.add ((aA).toNat * 11)).off + 2, none⟩ = some (.string ((rd_T50 aE aA).f2)) ∧ w'.cell? ⟨(aC.add ((aA).toNat * 11)).block, (aC.add ((aA).toNat * 11)).off + 3, none⟩ = some (.string ((rd_T50 aE aA).f3)) ∧ w'.cell? ⟨(aC.add ((aA).toNat * 11)).block, (aC.add ((aA).toNat * 11)).off + 4, none⟩ = some (.int .i64 ((rd_T50 aE aA).f4)) ∧ w'.cell? ⟨(aC.add ((aA).toNat * 11)).block, (aC.add ((aA).toNat * 11)).off + 5, none⟩ = some (.int .i64 ((rd_T50 aE aA).f5)) ∧ w'.cell? ⟨(aC.add ((aA).toNat * 11)).block, (aC.add ((aA).toNat * 11)).off + 6, none⟩ = some (.int .i64 ((rd_T50 aE aA).f6)) ∧ w'.cell? ⟨(aC.add ((aA).toNat * 11)).block, (aC.add ((aA).toNat * 11)).off + 7, none⟩ = some (.int .i64 ((rd_T50 aE aA).f7)) ∧ w'.cell? ⟨(aC.add ((aA).toNat * 11)).block, (aC.add ((aA).toNat * 11)).off + 8, none⟩ = some (.int .i64 ((rd_T50 aE aA).f8)) ∧ w'.cell? ⟨(aC.add ((aA).toNat * 11)).block, (aC.add ((aA).toNat * 11)).off + 9, none⟩ = some (.int .i64 ((rd_T50 aE aA).f9.f0)) ∧ w'.cell? ⟨(aC.add ((aA).toNat * 11)).block, (aC.add ((aA).toNat * 11)).off + 10, none⟩ = some (.slice cO ((rd_T50 aE aA).f9.f1).length cP) ∧ w'.cell? (aC.add ((aA).toNat * 11)) = some (.int .i64 ((rd_T50 aE aA).f0)) ∧ w'.cell? ⟨(aC.add ((aA).toNat * 11)).block, (aC.add ((aA).toNat * 11)).off + 1, none⟩ = some (.int .i64 ((rd_T50 aE aA).f1)) ∧ w'.cell? ⟨(aC.add ((aA).toNat * 11)).block, (aC.add ((aA).toNat * 11)).off + 2, none⟩ = some (.string ((rd_T50 aE aA).f2)) ∧ w'.cell? ⟨(aC.add ((aA).toNat * 11)).block, (aC.add ((aA).toNat * 11)).off + 3, none⟩ = some (.string ((rd_T50 aE aA).f3)) ∧ w'.cell? ⟨(aC.add ((aA).toNat * 11)).block, (aC.add ((aA).toNat * 11)).off + 4, none⟩ = some (.int .i64 ((rd_T50 aE aA).f4)) ∧ w'.cell? ⟨(aC.add ((aA).toNat * 11)).block, (aC.add ((aA).toNat * 11)).off + 5, none⟩ = some (.int .i64 ((rd_T50 aE aA).f5)) ∧ w'.cell? ⟨(aC.add ((aA).toNat * 11)).block, (aC.add ((aA).toNat * 11)).off + 6, none⟩ = some (.int .i64 ((rd_T50 aE aA).f6)) ∧ w'.cell? ⟨(aC.add ((aA).toNat * 11)).block, (aC.add ((aA).toNat * 11)).off + 7, none⟩ = some (.int .i64 ((rd_T50 aE aA).f7)) ∧ w'.cell? ⟨(aC.add ((aA).toNat * 11)).block, (aC.add ((aA).toNat * 11)).off + 8, none⟩ = some (.int .i64 ((rd_T50 aE aA).f8)) ∧ w'.cell? ⟨(aC.add ((aA).toNat * 11)).block, (aC.add ((aA).toNat * 11)).off + 9, none⟩ = some (.int .i64 ((rd_T50 aE aA).f9.f0)) ∧ w'.cell? ⟨(aC.add ((aA).toNat * 11)).block, (aC.add ((aA).toNat * 11)).off + 10, none⟩ = some (.slice eW ((rd_T50 aE aA).f9.f1).length eX))) (ds := []) (tf 0 38) (by kernel_rfl) rfl rfl ⟨z0 _ aG.out, z1 _ aG.out, z2 _ aG.out, z3 _ aG.out, z4 _ aG.out, z5 _ aG.out, (CY HB.out cZ), (CY HB.out cY), (CY HB.out cX), (CY HB.out cW), (CY HB.out cV), (CY HB.out cU), (CY HB.out cT), (CY HB.out cS), (CY HB.out cR), (CY HB.out cQ), (CY HB.out cI), (CY HB.out eE), (CY HB.out eD), (CY HB.out eC), (CY HB.out eB), (CY HB.out eA), (CY HB.out dZ), (CY HB.out dY), (CY HB.out dX), (CY HB.out dW), (CY HB.out dV), (CY HB.out dO)⟩ (fun aI => ?_); refine with_tabW spec_GateOk.tab6 spec_GateOk.bits6 (fun aH dS => ?_)
           generalize wr.drew = qI at aG HB cJ eS aO aP aJ aQ aR aS aT aU aV aW aX bM bN aY bO bP bQ bR bS bT bU bV aI ⊢
           refine pv aH 0 42 (tf 1 37) ?_
           refine pv aH 2 44 (tr [1, 1, 1, 35]) ?_
           refine tk 1 (some 43) (tf 3 35) (take_ofW aH.out dS.out (by kernel_rfl)) aI ?_
           refine pv aH 3 45 (tf 4 34) ?_
           refine tk 4 (some 46) (tf 5 33) (take_ofW aH.out dS.out (by kernel_rfl)) aI ?_
           refine one_ (i := 5) (N := some 47) (tf 6 32) rfl rfl (one_of aH.out (by kernel_rfl)) (by decide) (fun K hK => ?_)
           refine goes_ Tryz.func38 (by kernel_rfl) rfl #[.agg #[.int .i64 ((rd_T50 aE aA).f0), .int .i64 ((rd_T50 aE aA).f1), .string ((rd_T50 aE aA).f2), .string ((rd_T50 aE aA).f3), .int .i64 ((rd_T50 aE aA).f4), .int .i64 ((rd_T50 aE aA).f5), .int .i64 ((rd_T50 aE aA).f6), .int .i64 ((rd_T50 aE aA).f7), .int .i64 ((rd_T50 aE aA).f8), .int .i64 ((rd_T50 aE aA).f9.f0), .slice cO ((rd_T50 aE aA).f9.f1).length cP]] (by rfl) rfl rfl MT ?_
           with_reducible refine (spec_SaOk.calls k2 ((rd_T50 aE aA).f0) ((rd_T50 aE aA).f1) ((rd_T50 aE aA).f2) ((rd_T50 aE aA).f3) ((rd_T50 aE aA).f4) ((rd_T50 aE aA).f5) ((rd_T50 aE aA).f6) ((rd_T50 aE aA).f7) ((rd_T50 aE aA).f8) ((rd_T50 aE aA).f9.f0) _ _ ((rd_T50 aE aA).f9.f1) true _ ?_ ?_ nP.out).mono ?_
           exact KD cJ HB
           exact dT.out
           rintro e qJ ⟨rfl, hb⟩
           refine ⟨_, rfl, ?_⟩
           replace aG := am (BB aG hb)
           replace HB := bl (K1 HB aM.out) hb
           (try clear hb)
           (try clear hb2)
           (try clear hk)
           (try clear hi)
           refine hK.out _ _ ⟨z0 _ aG.out, z1 _ aG.out, z2 _ aG.out, z3 _ aG.out, z4 _ aG.out, z5 _ aG.out, (CY HB.out cZ), (CY HB.out cY), (CY HB.out cX), (CY HB.out cW), (CY HB.out cV), (CY HB.out cU), (CY HB.out cT), (CY HB.out cS), (CY HB.out cR), (CY HB.out cQ), (CY HB.out cI), (CY HB.out eE), (CY HB.out eD), (CY HB.out eC), (CY HB.out eB), (CY HB.out eA), (CY HB.out dZ), (CY HB.out dY), (CY HB.out dX), (CY HB.out dW), (CY HB.out dV), (CY HB.out dO)⟩ (fun aI => ?_)
           clear hK K
           refine nm (some 47) ?_
           refine pv aH 6 48 (tf 7 31) ?_
           refine pv aH 7 49 (tf 8 30) ?_
           refine pv aH 8 50 (tf 9 29) ?_
           refine pv aH 10 52 (tr [9, 1, 1, 27]) ?_
           refine pv aH 14 56 (tr [9, 1, 1, 3, 1, 23]) ?_
           refine tk 9 (some 51) (tr [11, 3, 1, 23]) (take_ofW aH.out dS.out (by kernel_rfl)) aI ?_
           refine pv aH 11 53 (tr [12, 2, 1, 23]) ?_
           refine pv aH 12 54 (tr [13, 1, 1, 23]) ?_
           refine tk 13 (some 55) (tf 15 23) (take_ofW aH.out dS.out (by kernel_rfl)) aI ?_
           refine tk 15 (some 57) (tf 16 22) (take_ofW aH.out dS.out (by kernel_rfl)) aI ?_
           refine pv aH 16 58 (tf 17 21) ?_
           refine pv aH 17 59 (tf 18 20) ?_
           refine pv aH 18 60 (tf 19 19) ?_
           refine pw aH 19 61 (tf 20 18) ?_
           refine pw aH 20 62 (tf 21 17) ?_
           refine pw aH 21 63 (tf 22 16) ?_
           refine pw aH 22 64 (tf 23 15) ?_
           refine pw aH 23 65 (tf 24 14) ?_
           refine pw aH 24 66 (tf 25 13) ?_
           refine pw aH 25 67 (tf 26 12) ?_
           refine pw aH 26 68 (tf 27 11) ?_
           refine pw aH 27 69 (tf 28 10) ?_
           refine pw aH 28 70 (tf 29 9) ?_
           refine pw aH 29 71 (tf 30 8) ?_
           refine pw aH 30 72 (tf 31 7) ?_
           refine pw aH 31 73 (tf 32 6) ?_
           refine pw aH 32 74 (tf 33 5) ?_
           refine pw aH 33 75 (tf 34 4) ?_
           refine pw aH 34 76 (tf 35 3) ?_
           refine pw aH 35 77 (tf 36 2) ?_
           refine pw aH 36 78 (tf 37 1) ?_
           refine pv aH 37 79 (tf 38 0) ?_
           refine done_ (done_of aH.out (by kernel_rfl)) ?_
           try go_wp2
           go_meet
           case rel => exact ⟨_, (true), (by first | rfl | (simp; done) | (simp [*]; done)), H', ⟨by have := HJ1.out; have := HK2.out; first | omega | exact Nat.le_refl _⟩, ⟨KB aG⟩, ⟨K1 HB aM.out⟩⟩
          ·rw [if_neg nF] at H
           have c27b0 : decide (aK < ((rd_T50 aE aA).f4)) = false := decide_eq_false nF
           clear nF
           by_cases nG : aA > 0
           ·rw [if_pos nG] at H
            have c30b0 : decide (0 < aA) = true := decide_eq_true nG
            clear nG
            obtain ⟨ji31, hji31⟩ : ∃ j_ : Int, (wrap64 (aA - 1)) = j_ := ⟨_, rfl⟩
            replace H : (if 0 ≤ (ji31) then (if (ji31) < (aE.length : Int) then (spec_GateOk.j2 k2 aA (decide (((rd_T50 aE (ji31)).f1) ≥ ((rd_T50 aE aA).f1))) aK aZ aN bA aE aF) else (none)) else (none)) = some r := by first | (rw [hji31] at H; exact H) | (simp only [hji31] at H ⊢; exact H)
            (try rw [hji31] at nP)
            have hji31w : (IntKind.i64.wrap (aA - 1)) = ji31 := (i64_w _).trans hji31
            by_cases oM : 0 ≤ (ji31)
            ·rw [if_pos oM] at H
             have c32b0 : decide (0 ≤ (ji31)) = true := decide_eq_true oM
             clear oM
             by_cases oN : (ji31) < (aE.length : Int)
             ·rw [if_pos oN] at H
              have c33b0 : decide ((ji31) < (aE.length : Int)) = true := decide_eq_true oN
              clear oN
              have H' := Aside0.mk H
              clear H
              try go_wp2
              replace aG := am (blk_drew aG.out)
              replace HB := am (below_drew1 HB.out)
              have eQ : 0 ≤ (aA : Int) := OD
              have eR : aA < (aE.length : Int) := OD
              obtain ⟨aC, cO, cP, hZ, aO, aP, aQ, aR, aS, aT, aU, aV, aW, aX, aJ, cG, cH⟩ := at_T50 fI.out aA eQ eR
              have cI := aJ
              have cQ := aX
              have cR := aW
              have cS := aV
              have cT := aU
              have cU := aT
              have cV := aS
              have cW := aR
              have cX := aQ
              have cY := aP
              have cZ := aO
              cases hZ
              replace aO := CX HB.out aO
              replace aP := CX HB.out aP
              replace aQ := CX HB.out aQ
              replace aR := CX HB.out aR
              replace aS := CX HB.out aS
              replace aT := CX HB.out aT
              replace aU := CX HB.out aU
              replace aV := CX HB.out aV
              replace aW := CX HB.out aW
              replace aX := CX HB.out aX
              replace aJ := CX HB.out aJ
              have cJ := Aside0.mk cH
              have dT := Aside0.mk cG
              clear cH cG
              replace eQ := eq_true eQ
              replace eR := eq_true eR
              have fM : 0 ≤ (aA : Int) := OD
              have fN : aA < (aE.length : Int) := OD
              obtain ⟨hI, eW, eX, lS, bM, bN, bO, bP, bQ, bR, bS, bT, bU, bV, aY, dM, dN⟩ := at_T50 fI.out aA fM fN
              have dO := aY
              have dV := bV
              have dW := bU
              have dX := bT
              have dY := bS
              have dZ := bR
              have eA := bQ
              have eB := bP
              have eC := bO
              have eD := bN
              have eE := bM
              obtain rfl : aC = hI := (by injection lS)
              replace bM := CX HB.out bM
              replace bN := CX HB.out bN
              replace bO := CX HB.out bO
              replace bP := CX HB.out bP
              replace bQ := CX HB.out bQ
              replace bR := CX HB.out bR
              replace bS := CX HB.out bS
              replace bT := CX HB.out bT
              replace bU := CX HB.out bU
              replace bV := CX HB.out bV
              replace aY := CX HB.out aY
              have eS := Aside0.mk dN
              have hJ := Aside0.mk dM
              clear dN dM
              replace fM := eq_true fM
              replace fN := eq_true fN
              have mU : 0 ≤ ((ji31) : Int) := OD
              have mV : (ji31) < (aE.length : Int) := OD
              obtain ⟨nQ, lZ, mA, pK, fS, fT, fU, fV, fW, fX, fY, fZ, gA, gB, fK, hL, hM⟩ := at_T50 fI.out (ji31) mU mV
              have hN := fK
              have jZ := gB
              have kA := gA
              have kB := fZ
              have kC := fY
              have kD := fX
              have kE := fW
              have kF := fV
              have kG := fU
              have kH := fT
              have kI := fS
              obtain rfl : aC = nQ := (by injection pK)
              replace fS := CX HB.out fS
              replace fT := CX HB.out fT
              replace fU := CX HB.out fU
              replace fV := CX HB.out fV
              replace fW := CX HB.out fW
              replace fX := CX HB.out fX
              replace fY := CX HB.out fY
              replace fZ := CX HB.out fZ
              replace gA := CX HB.out gA
              replace gB := CX HB.out gB
              replace fK := CX HB.out fK
              have lT := Aside0.mk hM
              have nR := Aside0.mk hL
              clear hM hL
              replace mU := eq_true mU
              replace mV := eq_true mV
              have mW : 0 ≤ (aA : Int) := OD
              have mX : aA < (aE.length : Int) := OD
              obtain ⟨nS, _, _, pL, gC, gD, gE, gF, gG, gH, gI, gJ, gK, gL, eT, hO, hP⟩ := at_T50 fI.out aA mW mX
              have hQ := eT
              have kJ := gL
              have kK := gK
              have kL := gJ
              have kM := gI
              have kN := gH
              have kO := gG
              have kP := gF
              have kQ := gE
              have kR := gD
              have kS := gC
              obtain rfl : aC = nS := (by injection pL)
              replace gC := CX HB.out gC
              replace gD := CX HB.out gD
              replace gE := CX HB.out gE
              replace gF := CX HB.out gF
              replace gG := CX HB.out gG
              replace gH := CX HB.out gH
              replace gI := CX HB.out gI
              replace gJ := CX HB.out gJ
              replace gK := CX HB.out gK
              replace gL := CX HB.out gL
              replace eT := CX HB.out eT
              have lU := Aside0.mk hP
              have nT := Aside0.mk hO
              clear hP hO
              replace mW := eq_true mW
              replace mX := eq_true mX
              have ea_ := Option.some.inj (aY.symm.trans eT)
              injection ea_ with ea_ en_ ec_
              subst ea_
              subst ec_
              clear en_
              refine start_ (n := 38) (S := fun w' => ce6 w' eP (.int .i64 aK) (.slice fA aZ.length fB) (.int .i64 aN) (.slice fC bA.length fD) (.slice (some aC) aE.length fE) (.slice fP aF.length fF) (w'.cell? (aC.add ((aA).toNat * 11)) = some (.int .i64 ((rd_T50 aE aA).f0)) ∧ w'.cell? ⟨(aC.add ((aA).toNat * 11)).block, (aC.add ((aA).toNat * 11)).off + 1, none⟩ = some (.int .i64 ((rd_T50 aE aA).f1)) ∧ w'.cell? ⟨(aC.add ((aA).toNat * 11)).block, (aC.add ((aA).toNat * 11)).off + 2, none⟩ = some (.string ((rd_T50 aE aA).f2)) ∧ w'.cell? ⟨(aC.add ((aA).toNat * 11)).block, (aC.add ((aA).toNat * 11)).off + 3, none⟩ = some (.string ((rd_T50 aE aA).f3)) ∧ w'.cell? ⟨(aC.add ((aA).toNat * 11)).block, (aC.add ((aA).toNat * 11)).off + 4, none⟩ = some (.int .i64 ((rd_T50 aE aA).f4)) ∧ w'.cell? ⟨(aC.add ((aA).toNat * 11)).block, (aC.add ((aA).toNat * 11)).off + 5, none⟩ = some (.int .i64 ((rd_T50 aE aA).f5)) ∧ w'.cell? ⟨(aC.add ((aA).toNat * 11)).block, (aC.add ((aA).toNat * 11)).off + 6, none⟩ = some (.int .i64 ((rd_T50 aE aA).f6)) ∧ w'.cell? ⟨(aC.add ((aA).toNat * 11)).block, (aC.add ((aA).toNat * 11)).off + 7, none⟩ = some (.int .i64 ((rd_T50 aE aA).f7)) ∧ w'.cell? ⟨(aC.add ((aA).toNat * 11)).block, (aC.add ((aA).toNat * 11)).off + 8, none⟩ = some (.int .i64 ((rd_T50 aE aA).f8)) ∧ w'.cell? ⟨(aC.add ((aA).toNat * 11)).block, (aC.add ((aA).toNat * 11)).off + 9, none⟩ = some (.int .i64 ((rd_T50 aE aA).f9.f0)) ∧ w'.cell? ⟨(aC.add ((aA).toNat * 11)).block, (aC.add ((aA).toNat * 11)).off + 10, none⟩ = some (.slice cO ((rd_T50 aE aA).f9.f1).length cP) ∧ w'.cell? (aC.add ((aA).toNat * 11)) = some (.int .i64 ((rd_T50 aE aA).f0)) ∧ w'.cell? ⟨(aC.add ((aA).toNat * 11)).block, (aC.add ((aA).toNat * 11)).off + 1, none⟩ = some (.int .i64 ((rd_T50 aE aA).f1)) ∧ w'.cell? ⟨(aC.add ((aA).toNat * 11)).block, (aC.add ((aA).toNat * 11)).off + 2, none⟩ = some (.string ((rd_T50 aE aA).f2)) ∧ w'.cell? ⟨(aC.add ((aA).toNat * 11)).block, (aC.add ((aA).toNat * 11)).off + 3, none⟩ = some (.string ((rd_T50 aE aA).f3)) ∧ w'.cell? ⟨(aC.add ((aA).toNat * 11)).block, (aC.add ((aA).toNat * 11)).off + 4, none⟩ = some (.int .i64 ((rd_T50 aE aA).f4)) ∧ w'.cell? ⟨(aC.add ((aA).toNat * 11)).block, (aC.add ((aA).toNat * 11)).off + 5, none⟩ = some (.int .i64 ((rd_T50 aE aA).f5)) ∧ w'.cell? ⟨(aC.add ((aA).toNat * 11)).block, (aC.add ((aA).toNat * 11)).off + 6, none⟩ = some (.int .i64 ((rd_T50 aE aA).f6)) ∧ w'.cell? ⟨(aC.add ((aA).toNat * 11)).block, (aC.add ((aA).toNat * 11)).off + 7, none⟩ = some (.int .i64 ((rd_T50 aE aA).f7)) ∧ w'.cell? ⟨(aC.add ((aA).toNat * 11)).block, (aC.add ((aA).toNat * 11)).off + 8, none⟩ = some (.int .i64 ((rd_T50 aE aA).f8)) ∧ w'.cell? ⟨(aC.add ((aA).toNat * 11)).block, (aC.add ((aA).toNat * 11)).off + 9, none⟩ = some (.int .i64 ((rd_T50 aE aA).f9.f0)) ∧ w'.cell? ⟨(aC.add ((aA).toNat * 11)).block, (aC.add ((aA).toNat * 11)).off + 10, none⟩ = some (.slice eW ((rd_T50 aE aA).f9.f1).length eX) ∧ w'.cell? (aC.add (((ji31)).toNat * 11)) = some (.int .i64 ((rd_T50 aE (ji31)).f0)) ∧ w'.cell? ⟨(aC.add (((ji31)).toNat * 11)).block, (aC.add (((ji31)).toNat * 11)).off + 1, none⟩ = some (.int .i64 ((rd_T50 aE (ji31)).f1)) ∧ w'.cell? ⟨(aC.add (((ji31)).toNat * 11)).block, (aC.add (((ji31)).toNat * 11)).off + 2, none⟩ = some (.string ((rd_T50 aE (ji31)).f2)) ∧ w'.cell? ⟨(aC.add (((ji31)).toNat * 11)).block, (aC.add (((ji31)).toNat * 11)).off + 3, none⟩ = some (.string ((rd_T50 aE (ji31)).f3)) ∧ w'.cell? ⟨(aC.add (((ji31)).toNat * 11)).block, (aC.add (((ji31)).toNat * 11)).off + 4, none⟩ = some (.int .i64 ((rd_T50 aE (ji31)).f4)) ∧ w'.cell? ⟨(aC.add (((ji31)).toNat * 11)).block, (aC.add (((ji31)).toNat * 11)).off + 5, none⟩ = some (.int .i64 ((rd_T50 aE (ji31)).f5)) ∧ w'.cell? ⟨(aC.add (((ji31)).toNat * 11)).block, (aC.add (((ji31)).toNat * 11)).off + 6, none⟩ = some (.int .i64 ((rd_T50 aE (ji31)).f6)) ∧ w'.cell? ⟨(aC.add (((ji31)).toNat * 11)).block, (aC.add (((ji31)).toNat * 11)).off + 7, none⟩ = some (.int .i64 ((rd_T50 aE (ji31)).f7)) ∧ w'.cell? ⟨(aC.add (((ji31)).toNat * 11)).block, (aC.add (((ji31)).toNat * 11)).off + 8, none⟩ = some (.int .i64 ((rd_T50 aE (ji31)).f8)) ∧ w'.cell? ⟨(aC.add (((ji31)).toNat * 11)).block, (aC.add (((ji31)).toNat * 11)).off + 9, none⟩ = some (.int .i64 ((rd_T50 aE (ji31)).f9.f0)) ∧ w'.cell? ⟨(aC.add (((ji31)).toNat * 11)).block, (aC.add (((ji31)).toNat * 11)).off + 10, none⟩ = some (.slice lZ ((rd_T50 aE (ji31)).f9.f1).length mA) ∧ w'.cell? (aC.add ((aA).toNat * 11)) = some (.int .i64 ((rd_T50 aE aA).f0)) ∧ w'.cell? ⟨(aC.add ((aA).toNat * 11)).block, (aC.add ((aA).toNat * 11)).off + 1, none⟩ = some (.int .i64 ((rd_T50 aE aA).f1)) ∧ w'.cell? ⟨(aC.add ((aA).toNat * 11)).block, (aC.add ((aA).toNat * 11)).off + 2, none⟩ = some (.string ((rd_T50 aE aA).f2)) ∧ w'.cell? ⟨(aC.add ((aA).toNat * 11)).block, (aC.add ((aA).toNat * 11)).off + 3, none⟩ = some (.string ((rd_T50 aE aA).f3)) ∧ w'.cell? ⟨(aC.add ((aA).toNat * 11)).block, (aC.add ((aA).toNat * 11)).off + 4, none⟩ = some (.int .i64 ((rd_T50 aE aA).f4)) ∧ w'.cell? ⟨(aC.add ((aA).toNat * 11)).block, (aC.add ((aA).toNat * 11)).off + 5, none⟩ = some (.int .i64 ((rd_T50 aE aA).f5)) ∧ w'.cell? ⟨(aC.add ((aA).toNat * 11)).block, (aC.add ((aA).toNat * 11)).off + 6, none⟩ = some (.int .i64 ((rd_T50 aE aA).f6)) ∧ w'.cell? ⟨(aC.add ((aA).toNat * 11)).block, (aC.add ((aA).toNat * 11)).off + 7, none⟩ = some (.int .i64 ((rd_T50 aE aA).f7)) ∧ w'.cell? ⟨(aC.add ((aA).toNat * 11)).block, (aC.add ((aA).toNat * 11)).off + 8, none⟩ = some (.int .i64 ((rd_T50 aE aA).f8)) ∧ w'.cell? ⟨(aC.add ((aA).toNat * 11)).block, (aC.add ((aA).toNat * 11)).off + 9, none⟩ = some (.int .i64 ((rd_T50 aE aA).f9.f0)) ∧ w'.cell? ⟨(aC.add ((aA).toNat * 11)).block, (aC.add ((aA).toNat * 11)).off + 10, none⟩ = some (.slice eW ((rd_T50 aE aA).f9.f1).length eX))) (ds := []) (tf 0 38) (by kernel_rfl) rfl rfl ⟨z0 _ aG.out, z1 _ aG.out, z2 _ aG.out, z3 _ aG.out, z4 _ aG.out, z5 _ aG.out, (CY HB.out cZ), (CY HB.out cY), (CY HB.out cX), (CY HB.out cW), (CY HB.out cV), (CY HB.out cU), (CY HB.out cT), (CY HB.out cS), (CY HB.out cR), (CY HB.out cQ), (CY HB.out cI), (CY HB.out eE), (CY HB.out eD), (CY HB.out eC), (CY HB.out eB), (CY HB.out eA), (CY HB.out dZ), (CY HB.out dY), (CY HB.out dX), (CY HB.out dW), (CY HB.out dV), (CY HB.out dO), (CY HB.out kI), (CY HB.out kH), (CY HB.out kG), (CY HB.out kF), (CY HB.out kE), (CY HB.out kD), (CY HB.out kC), (CY HB.out kB), (CY HB.out kA), (CY HB.out jZ), (CY HB.out hN), (CY HB.out kS), (CY HB.out kR), (CY HB.out kQ), (CY HB.out kP), (CY HB.out kO), (CY HB.out kN), (CY HB.out kM), (CY HB.out kL), (CY HB.out kK), (CY HB.out kJ), (CY HB.out hQ)⟩ (fun aI => ?_); refine with_tabW spec_GateOk.tab6 spec_GateOk.bits6 (fun aH dS => ?_)
              generalize wr.drew = qK at aG HB cJ eS lT lU aO aP aJ aQ aR aS aT aU aV aW aX bM bN aY bO bP bQ bR bS bT bU bV fS fT fK fU fV fW fX fY fZ gA gB gC gD eT gE gF gG gH gI gJ gK gL aI ⊢
              refine pv aH 0 42 (tf 1 37) ?_
              refine pv aH 2 44 (tr [1, 1, 1, 35]) ?_
              refine tk 1 (some 43) (tf 3 35) (take_ofW aH.out dS.out (by kernel_rfl)) aI ?_
              refine pv aH 3 45 (tf 4 34) ?_
              refine tk 4 (some 46) (tf 5 33) (take_ofW aH.out dS.out (by kernel_rfl)) aI ?_
              refine one_ (i := 5) (N := some 47) (tf 6 32) rfl rfl (one_of aH.out (by kernel_rfl)) (by decide) (fun K hK => ?_)
              refine goes_ Tryz.func38 (by kernel_rfl) rfl #[.agg #[.int .i64 ((rd_T50 aE aA).f0), .int .i64 ((rd_T50 aE aA).f1), .string ((rd_T50 aE aA).f2), .string ((rd_T50 aE aA).f3), .int .i64 ((rd_T50 aE aA).f4), .int .i64 ((rd_T50 aE aA).f5), .int .i64 ((rd_T50 aE aA).f6), .int .i64 ((rd_T50 aE aA).f7), .int .i64 ((rd_T50 aE aA).f8), .int .i64 ((rd_T50 aE aA).f9.f0), .slice cO ((rd_T50 aE aA).f9.f1).length cP]] (by rfl) rfl rfl MT ?_
              with_reducible refine (spec_SaOk.calls k2 ((rd_T50 aE aA).f0) ((rd_T50 aE aA).f1) ((rd_T50 aE aA).f2) ((rd_T50 aE aA).f3) ((rd_T50 aE aA).f4) ((rd_T50 aE aA).f5) ((rd_T50 aE aA).f6) ((rd_T50 aE aA).f7) ((rd_T50 aE aA).f8) ((rd_T50 aE aA).f9.f0) _ _ ((rd_T50 aE aA).f9.f1) true _ ?_ ?_ nP.out).mono ?_
              exact KD cJ HB
              exact dT.out
              rintro e qL ⟨rfl, hb⟩
              refine ⟨_, rfl, ?_⟩
              replace aG := am (BB aG hb)
              replace HB := bl (K1 HB aM.out) hb
              (try clear hb)
              (try clear hb2)
              (try clear hk)
              (try clear hi)
              refine hK.out _ _ ⟨z0 _ aG.out, z1 _ aG.out, z2 _ aG.out, z3 _ aG.out, z4 _ aG.out, z5 _ aG.out, (CY HB.out cZ), (CY HB.out cY), (CY HB.out cX), (CY HB.out cW), (CY HB.out cV), (CY HB.out cU), (CY HB.out cT), (CY HB.out cS), (CY HB.out cR), (CY HB.out cQ), (CY HB.out cI), (CY HB.out eE), (CY HB.out eD), (CY HB.out eC), (CY HB.out eB), (CY HB.out eA), (CY HB.out dZ), (CY HB.out dY), (CY HB.out dX), (CY HB.out dW), (CY HB.out dV), (CY HB.out dO), (CY HB.out kI), (CY HB.out kH), (CY HB.out kG), (CY HB.out kF), (CY HB.out kE), (CY HB.out kD), (CY HB.out kC), (CY HB.out kB), (CY HB.out kA), (CY HB.out jZ), (CY HB.out hN), (CY HB.out kS), (CY HB.out kR), (CY HB.out kQ), (CY HB.out kP), (CY HB.out kO), (CY HB.out kN), (CY HB.out kM), (CY HB.out kL), (CY HB.out kK), (CY HB.out kJ), (CY HB.out hQ)⟩ (fun aI => ?_)
              clear hK K
              refine nm (some 47) ?_
              refine pv aH 6 48 (tf 7 31) ?_
              refine pv aH 7 49 (tf 8 30) ?_
              refine pv aH 8 50 (tf 9 29) ?_
              refine pv aH 10 52 (tr [9, 1, 1, 27]) ?_
              refine pv aH 14 56 (tr [9, 1, 1, 3, 1, 23]) ?_
              refine tk 9 (some 51) (tr [11, 3, 1, 23]) (take_ofW aH.out dS.out (by kernel_rfl)) aI ?_
              refine pv aH 11 53 (tr [12, 2, 1, 23]) ?_
              refine pv aH 12 54 (tr [13, 1, 1, 23]) ?_
              refine tk 13 (some 55) (tf 15 23) (take_ofW aH.out dS.out (by kernel_rfl)) aI ?_
              refine tk 15 (some 57) (tf 16 22) (take_ofW aH.out dS.out (by kernel_rfl)) aI ?_
              refine pv aH 16 58 (tf 17 21) ?_
              refine pv aH 17 59 (tf 18 20) ?_
              refine pv aH 18 60 (tf 19 19) ?_
              refine pv aH 19 61 (tf 20 18) ?_
              refine pv aH 20 62 (tf 21 17) ?_
              refine pv aH 21 63 (tf 22 16) ?_
              refine pv aH 22 64 (tf 23 15) ?_
              refine pv aH 24 66 (tr [23, 1, 1, 13]) ?_
              refine pv aH 25 67 (tr [23, 1, 2, 12]) ?_
              refine pv aH 29 71 (tr [23, 1, 2, 3, 1, 8]) ?_
              refine pv aH 31 73 (tr [23, 1, 2, 3, 1, 1, 1, 6]) ?_
              refine tk 23 (some 65) (tr [26, 3, 1, 1, 1, 6]) (take_ofW aH.out dS.out (by kernel_rfl)) aI ?_
              refine pv aH 26 68 (tr [27, 2, 1, 1, 1, 6]) ?_
              refine pv aH 27 69 (tr [28, 1, 1, 1, 1, 6]) ?_
              refine tk 28 (some 70) (tr [30, 1, 1, 6]) (take_ofW aH.out dS.out (by kernel_rfl)) aI ?_
              refine tk 30 (some 72) (tf 32 6) (take_ofW aH.out dS.out (by kernel_rfl)) aI ?_
              refine pv aH 32 74 (tf 33 5) ?_
              refine pv aH 33 75 (tf 34 4) ?_
              refine tk 34 (some 76) (tf 35 3) (take_ofW aH.out dS.out (by kernel_rfl)) aI ?_
              refine pv aH 35 77 (tf 36 2) ?_
              refine pv aH 36 78 (tf 37 1) ?_
              refine pv aH 37 79 (tf 38 0) ?_
              refine done_ (done_of aH.out (by kernel_rfl)) ?_
              try go_wp2
              go_meet
              case rel => exact ⟨_, (decide (((rd_T50 aE (ji31)).f1) ≥ ((rd_T50 aE aA).f1))), (by first | rfl | (simp; done) | (simp only [← hji31] <;> (first | rfl | simp)) | (simp [*]; done)), H', ⟨by have := HJ1.out; have := HK2.out; first | omega | exact Nat.le_refl _⟩, ⟨KB aG⟩, ⟨K1 HB aM.out⟩⟩
             ·rw [if_neg oN] at H
              exact absurd H (by simp)
            ·rw [if_neg oM] at H
             exact absurd H (by simp)
           ·rw [if_neg nG] at H
            have c30b0 : decide (0 < aA) = false := decide_eq_false nG
            clear nG
            have H' := Aside0.mk H
            clear H
            try go_wp2
            replace aG := am (blk_drew aG.out)
            replace HB := am (below_drew1 HB.out)
            have eQ : 0 ≤ (aA : Int) := OD
            have eR : aA < (aE.length : Int) := OD
            obtain ⟨aC, cO, cP, hZ, aO, aP, aQ, aR, aS, aT, aU, aV, aW, aX, aJ, cG, cH⟩ := at_T50 fI.out aA eQ eR
            have cI := aJ
            have cQ := aX
            have cR := aW
            have cS := aV
            have cT := aU
            have cU := aT
            have cV := aS
            have cW := aR
            have cX := aQ
            have cY := aP
            have cZ := aO
            cases hZ
            replace aO := CX HB.out aO
            replace aP := CX HB.out aP
            replace aQ := CX HB.out aQ
            replace aR := CX HB.out aR
            replace aS := CX HB.out aS
            replace aT := CX HB.out aT
            replace aU := CX HB.out aU
            replace aV := CX HB.out aV
            replace aW := CX HB.out aW
            replace aX := CX HB.out aX
            replace aJ := CX HB.out aJ
            have cJ := Aside0.mk cH
            have dT := Aside0.mk cG
            clear cH cG
            replace eQ := eq_true eQ
            replace eR := eq_true eR
            have fM : 0 ≤ (aA : Int) := OD
            have fN : aA < (aE.length : Int) := OD
            obtain ⟨hI, eW, eX, lS, bM, bN, bO, bP, bQ, bR, bS, bT, bU, bV, aY, dM, dN⟩ := at_T50 fI.out aA fM fN
            have dO := aY
            have dV := bV
            have dW := bU
            have dX := bT
            have dY := bS
            have dZ := bR
            have eA := bQ
            have eB := bP
            have eC := bO
            have eD := bN
            have eE := bM
            obtain rfl : aC = hI := (by injection lS)
            replace bM := CX HB.out bM
            replace bN := CX HB.out bN
            replace bO := CX HB.out bO
            replace bP := CX HB.out bP
            replace bQ := CX HB.out bQ
            replace bR := CX HB.out bR
            replace bS := CX HB.out bS
            replace bT := CX HB.out bT
            replace bU := CX HB.out bU
            replace bV := CX HB.out bV
            replace aY := CX HB.out aY
            have eS := Aside0.mk dN
            have hJ := Aside0.mk dM
            clear dN dM
            replace fM := eq_true fM
            replace fN := eq_true fN
            refine start_ (n := 38) (S := fun w' => ce6 w' eP (.int .i64 aK) (.slice fA aZ.length fB) (.int .i64 aN) (.slice fC bA.length fD) (.slice (some aC) aE.length fE) (.slice fP aF.length fF) (w'.cell? (aC.add ((aA).toNat * 11)) = some (.int .i64 ((rd_T50 aE aA).f0)) ∧ w'.cell? ⟨(aC.add ((aA).toNat * 11)).block, (aC.add ((aA).toNat * 11)).off + 1, none⟩ = some (.int .i64 ((rd_T50 aE aA).f1)) ∧ w'.cell? ⟨(aC.add ((aA).toNat * 11)).block, (aC.add ((aA).toNat * 11)).off + 2, none⟩ = some (.string ((rd_T50 aE aA).f2)) ∧ w'.cell? ⟨(aC.add ((aA).toNat * 11)).block, (aC.add ((aA).toNat * 11)).off + 3, none⟩ = some (.string ((rd_T50 aE aA).f3)) ∧ w'.cell? ⟨(aC.add ((aA).toNat * 11)).block, (aC.add ((aA).toNat * 11)).off + 4, none⟩ = some (.int .i64 ((rd_T50 aE aA).f4)) ∧ w'.cell? ⟨(aC.add ((aA).toNat * 11)).block, (aC.add ((aA).toNat * 11)).off + 5, none⟩ = some (.int .i64 ((rd_T50 aE aA).f5)) ∧ w'.cell? ⟨(aC.add ((aA).toNat * 11)).block, (aC.add ((aA).toNat * 11)).off + 6, none⟩ = some (.int .i64 ((rd_T50 aE aA).f6)) ∧ w'.cell? ⟨(aC.add ((aA).toNat * 11)).block, (aC.add ((aA).toNat * 11)).off + 7, none⟩ = some (.int .i64 ((rd_T50 aE aA).f7)) ∧ w'.cell? ⟨(aC.add ((aA).toNat * 11)).block, (aC.add ((aA).toNat * 11)).off + 8, none⟩ = some (.int .i64 ((rd_T50 aE aA).f8)) ∧ w'.cell? ⟨(aC.add ((aA).toNat * 11)).block, (aC.add ((aA).toNat * 11)).off + 9, none⟩ = some (.int .i64 ((rd_T50 aE aA).f9.f0)) ∧ w'.cell? ⟨(aC.add ((aA).toNat * 11)).block, (aC.add ((aA).toNat * 11)).off + 10, none⟩ = some (.slice cO ((rd_T50 aE aA).f9.f1).length cP) ∧ w'.cell? (aC.add ((aA).toNat * 11)) = some (.int .i64 ((rd_T50 aE aA).f0)) ∧ w'.cell? ⟨(aC.add ((aA).toNat * 11)).block, (aC.add ((aA).toNat * 11)).off + 1, none⟩ = some (.int .i64 ((rd_T50 aE aA).f1)) ∧ w'.cell? ⟨(aC.add ((aA).toNat * 11)).block, (aC.add ((aA).toNat * 11)).off + 2, none⟩ = some (.string ((rd_T50 aE aA).f2)) ∧ w'.cell? ⟨(aC.add ((aA).toNat * 11)).block, (aC.add ((aA).toNat * 11)).off + 3, none⟩ = some (.string ((rd_T50 aE aA).f3)) ∧ w'.cell? ⟨(aC.add ((aA).toNat * 11)).block, (aC.add ((aA).toNat * 11)).off + 4, none⟩ = some (.int .i64 ((rd_T50 aE aA).f4)) ∧ w'.cell? ⟨(aC.add ((aA).toNat * 11)).block, (aC.add ((aA).toNat * 11)).off + 5, none⟩ = some (.int .i64 ((rd_T50 aE aA).f5)) ∧ w'.cell? ⟨(aC.add ((aA).toNat * 11)).block, (aC.add ((aA).toNat * 11)).off + 6, none⟩ = some (.int .i64 ((rd_T50 aE aA).f6)) ∧ w'.cell? ⟨(aC.add ((aA).toNat * 11)).block, (aC.add ((aA).toNat * 11)).off + 7, none⟩ = some (.int .i64 ((rd_T50 aE aA).f7)) ∧ w'.cell? ⟨(aC.add ((aA).toNat * 11)).block, (aC.add ((aA).toNat * 11)).off + 8, none⟩ = some (.int .i64 ((rd_T50 aE aA).f8)) ∧ w'.cell? ⟨(aC.add ((aA).toNat * 11)).block, (aC.add ((aA).toNat * 11)).off + 9, none⟩ = some (.int .i64 ((rd_T50 aE aA).f9.f0)) ∧ w'.cell? ⟨(aC.add ((aA).toNat * 11)).block, (aC.add ((aA).toNat * 11)).off + 10, none⟩ = some (.slice eW ((rd_T50 aE aA).f9.f1).length eX))) (ds := []) (tf 0 38) (by kernel_rfl) rfl rfl ⟨z0 _ aG.out, z1 _ aG.out, z2 _ aG.out, z3 _ aG.out, z4 _ aG.out, z5 _ aG.out, (CY HB.out cZ), (CY HB.out cY), (CY HB.out cX), (CY HB.out cW), (CY HB.out cV), (CY HB.out cU), (CY HB.out cT), (CY HB.out cS), (CY HB.out cR), (CY HB.out cQ), (CY HB.out cI), (CY HB.out eE), (CY HB.out eD), (CY HB.out eC), (CY HB.out eB), (CY HB.out eA), (CY HB.out dZ), (CY HB.out dY), (CY HB.out dX), (CY HB.out dW), (CY HB.out dV), (CY HB.out dO)⟩ (fun aI => ?_); refine with_tabW spec_GateOk.tab6 spec_GateOk.bits6 (fun aH dS => ?_)
            generalize wr.drew = qM at aG HB cJ eS aO aP aJ aQ aR aS aT aU aV aW aX bM bN aY bO bP bQ bR bS bT bU bV aI ⊢
            refine pv aH 0 42 (tf 1 37) ?_
            refine pv aH 2 44 (tr [1, 1, 1, 35]) ?_
            refine tk 1 (some 43) (tf 3 35) (take_ofW aH.out dS.out (by kernel_rfl)) aI ?_
            refine pv aH 3 45 (tf 4 34) ?_
            refine tk 4 (some 46) (tf 5 33) (take_ofW aH.out dS.out (by kernel_rfl)) aI ?_
            refine one_ (i := 5) (N := some 47) (tf 6 32) rfl rfl (one_of aH.out (by kernel_rfl)) (by decide) (fun K hK => ?_)
            refine goes_ Tryz.func38 (by kernel_rfl) rfl #[.agg #[.int .i64 ((rd_T50 aE aA).f0), .int .i64 ((rd_T50 aE aA).f1), .string ((rd_T50 aE aA).f2), .string ((rd_T50 aE aA).f3), .int .i64 ((rd_T50 aE aA).f4), .int .i64 ((rd_T50 aE aA).f5), .int .i64 ((rd_T50 aE aA).f6), .int .i64 ((rd_T50 aE aA).f7), .int .i64 ((rd_T50 aE aA).f8), .int .i64 ((rd_T50 aE aA).f9.f0), .slice cO ((rd_T50 aE aA).f9.f1).length cP]] (by rfl) rfl rfl MT ?_
            with_reducible refine (spec_SaOk.calls k2 ((rd_T50 aE aA).f0) ((rd_T50 aE aA).f1) ((rd_T50 aE aA).f2) ((rd_T50 aE aA).f3) ((rd_T50 aE aA).f4) ((rd_T50 aE aA).f5) ((rd_T50 aE aA).f6) ((rd_T50 aE aA).f7) ((rd_T50 aE aA).f8) ((rd_T50 aE aA).f9.f0) _ _ ((rd_T50 aE aA).f9.f1) true _ ?_ ?_ nP.out).mono ?_
            exact KD cJ HB
            exact dT.out
            rintro e qN ⟨rfl, hb⟩
            refine ⟨_, rfl, ?_⟩
            replace aG := am (BB aG hb)
            replace HB := bl (K1 HB aM.out) hb
            (try clear hb)
            (try clear hb2)
            (try clear hk)
            (try clear hi)
            refine hK.out _ _ ⟨z0 _ aG.out, z1 _ aG.out, z2 _ aG.out, z3 _ aG.out, z4 _ aG.out, z5 _ aG.out, (CY HB.out cZ), (CY HB.out cY), (CY HB.out cX), (CY HB.out cW), (CY HB.out cV), (CY HB.out cU), (CY HB.out cT), (CY HB.out cS), (CY HB.out cR), (CY HB.out cQ), (CY HB.out cI), (CY HB.out eE), (CY HB.out eD), (CY HB.out eC), (CY HB.out eB), (CY HB.out eA), (CY HB.out dZ), (CY HB.out dY), (CY HB.out dX), (CY HB.out dW), (CY HB.out dV), (CY HB.out dO)⟩ (fun aI => ?_)
            clear hK K
            refine nm (some 47) ?_
            refine pv aH 6 48 (tf 7 31) ?_
            refine pv aH 7 49 (tf 8 30) ?_
            refine pv aH 8 50 (tf 9 29) ?_
            refine pv aH 10 52 (tr [9, 1, 1, 27]) ?_
            refine pv aH 14 56 (tr [9, 1, 1, 3, 1, 23]) ?_
            refine tk 9 (some 51) (tr [11, 3, 1, 23]) (take_ofW aH.out dS.out (by kernel_rfl)) aI ?_
            refine pv aH 11 53 (tr [12, 2, 1, 23]) ?_
            refine pv aH 12 54 (tr [13, 1, 1, 23]) ?_
            refine tk 13 (some 55) (tf 15 23) (take_ofW aH.out dS.out (by kernel_rfl)) aI ?_
            refine tk 15 (some 57) (tf 16 22) (take_ofW aH.out dS.out (by kernel_rfl)) aI ?_
            refine pv aH 16 58 (tf 17 21) ?_
            refine pv aH 17 59 (tf 18 20) ?_
            refine pv aH 18 60 (tf 19 19) ?_
            refine pv aH 19 61 (tf 20 18) ?_
            refine pv aH 20 62 (tf 21 17) ?_
            refine pv aH 21 63 (tf 22 16) ?_
            refine pw aH 22 64 (tf 23 15) ?_
            refine pw aH 23 65 (tf 24 14) ?_
            refine pw aH 24 66 (tf 25 13) ?_
            refine pw aH 25 67 (tf 26 12) ?_
            refine pw aH 26 68 (tf 27 11) ?_
            refine pw aH 27 69 (tf 28 10) ?_
            refine pw aH 28 70 (tf 29 9) ?_
            refine pw aH 29 71 (tf 30 8) ?_
            refine pw aH 30 72 (tf 31 7) ?_
            refine pw aH 31 73 (tf 32 6) ?_
            refine pw aH 32 74 (tf 33 5) ?_
            refine pw aH 33 75 (tf 34 4) ?_
            refine pw aH 34 76 (tf 35 3) ?_
            refine pw aH 35 77 (tf 36 2) ?_
            refine pv aH 36 78 (tf 37 1) ?_
            refine pv aH 37 79 (tf 38 0) ?_
            refine done_ (done_of aH.out (by kernel_rfl)) ?_
            try go_wp2
            go_meet
            case rel => exact ⟨_, (false), (by first | rfl | (simp; done) | (simp [*]; done)), H', ⟨by have := HJ1.out; have := HK2.out; first | omega | exact Nat.le_refl _⟩, ⟨KB aG⟩, ⟨K1 HB aM.out⟩⟩
         ·replace nE := Bool.eq_false_iff.mpr nE
          subst nE
          have H1 := nf H
          clear H
          have H := H1
          clear H1
          have H' := Aside0.mk H
          clear H
          try go_wp2
          replace aG := am (blk_drew aG.out)
          replace HB := am (below_drew1 HB.out)
          have eQ : 0 ≤ (aA : Int) := OD
          have eR : aA < (aE.length : Int) := OD
          obtain ⟨aC, cO, cP, hZ, aO, aP, aQ, aR, aS, aT, aU, aV, aW, aX, aJ, cG, cH⟩ := at_T50 fI.out aA eQ eR
          have cI := aJ
          have cQ := aX
          have cR := aW
          have cS := aV
          have cT := aU
          have cU := aT
          have cV := aS
          have cW := aR
          have cX := aQ
          have cY := aP
          have cZ := aO
          cases hZ
          replace aO := CX HB.out aO
          replace aP := CX HB.out aP
          replace aQ := CX HB.out aQ
          replace aR := CX HB.out aR
          replace aS := CX HB.out aS
          replace aT := CX HB.out aT
          replace aU := CX HB.out aU
          replace aV := CX HB.out aV
          replace aW := CX HB.out aW
          replace aX := CX HB.out aX
          replace aJ := CX HB.out aJ
          have cJ := Aside0.mk cH
          have dT := Aside0.mk cG
          clear cH cG
          replace eQ := eq_true eQ
          replace eR := eq_true eR
          refine start_ (n := 38) (S := fun w' => ce6 w' eP (.int .i64 aK) (.slice fA aZ.length fB) (.int .i64 aN) (.slice fC bA.length fD) (.slice (some aC) aE.length fE) (.slice fP aF.length fF) (w'.cell? (aC.add ((aA).toNat * 11)) = some (.int .i64 ((rd_T50 aE aA).f0)) ∧ w'.cell? ⟨(aC.add ((aA).toNat * 11)).block, (aC.add ((aA).toNat * 11)).off + 1, none⟩ = some (.int .i64 ((rd_T50 aE aA).f1)) ∧ w'.cell? ⟨(aC.add ((aA).toNat * 11)).block, (aC.add ((aA).toNat * 11)).off + 2, none⟩ = some (.string ((rd_T50 aE aA).f2)) ∧ w'.cell? ⟨(aC.add ((aA).toNat * 11)).block, (aC.add ((aA).toNat * 11)).off + 3, none⟩ = some (.string ((rd_T50 aE aA).f3)) ∧ w'.cell? ⟨(aC.add ((aA).toNat * 11)).block, (aC.add ((aA).toNat * 11)).off + 4, none⟩ = some (.int .i64 ((rd_T50 aE aA).f4)) ∧ w'.cell? ⟨(aC.add ((aA).toNat * 11)).block, (aC.add ((aA).toNat * 11)).off + 5, none⟩ = some (.int .i64 ((rd_T50 aE aA).f5)) ∧ w'.cell? ⟨(aC.add ((aA).toNat * 11)).block, (aC.add ((aA).toNat * 11)).off + 6, none⟩ = some (.int .i64 ((rd_T50 aE aA).f6)) ∧ w'.cell? ⟨(aC.add ((aA).toNat * 11)).block, (aC.add ((aA).toNat * 11)).off + 7, none⟩ = some (.int .i64 ((rd_T50 aE aA).f7)) ∧ w'.cell? ⟨(aC.add ((aA).toNat * 11)).block, (aC.add ((aA).toNat * 11)).off + 8, none⟩ = some (.int .i64 ((rd_T50 aE aA).f8)) ∧ w'.cell? ⟨(aC.add ((aA).toNat * 11)).block, (aC.add ((aA).toNat * 11)).off + 9, none⟩ = some (.int .i64 ((rd_T50 aE aA).f9.f0)) ∧ w'.cell? ⟨(aC.add ((aA).toNat * 11)).block, (aC.add ((aA).toNat * 11)).off + 10, none⟩ = some (.slice cO ((rd_T50 aE aA).f9.f1).length cP))) (ds := []) (tf 0 38) (by kernel_rfl) rfl rfl ⟨z0 _ aG.out, z1 _ aG.out, z2 _ aG.out, z3 _ aG.out, z4 _ aG.out, z5 _ aG.out, (CY HB.out cZ), (CY HB.out cY), (CY HB.out cX), (CY HB.out cW), (CY HB.out cV), (CY HB.out cU), (CY HB.out cT), (CY HB.out cS), (CY HB.out cR), (CY HB.out cQ), (CY HB.out cI)⟩ (fun aI => ?_); refine with_tabW spec_GateOk.tab6 spec_GateOk.bits6 (fun aH dS => ?_)
          generalize wr.drew = qO at aG HB cJ aO aP aJ aQ aR aS aT aU aV aW aX aI ⊢
          refine pv aH 0 42 (tf 1 37) ?_
          refine pv aH 2 44 (tr [1, 1, 1, 35]) ?_
          refine tk 1 (some 43) (tf 3 35) (take_ofW aH.out dS.out (by kernel_rfl)) aI ?_
          refine pv aH 3 45 (tf 4 34) ?_
          refine tk 4 (some 46) (tf 5 33) (take_ofW aH.out dS.out (by kernel_rfl)) aI ?_
          refine one_ (i := 5) (N := some 47) (tf 6 32) rfl rfl (one_of aH.out (by kernel_rfl)) (by decide) (fun K hK => ?_)
          refine goes_ Tryz.func38 (by kernel_rfl) rfl #[.agg #[.int .i64 ((rd_T50 aE aA).f0), .int .i64 ((rd_T50 aE aA).f1), .string ((rd_T50 aE aA).f2), .string ((rd_T50 aE aA).f3), .int .i64 ((rd_T50 aE aA).f4), .int .i64 ((rd_T50 aE aA).f5), .int .i64 ((rd_T50 aE aA).f6), .int .i64 ((rd_T50 aE aA).f7), .int .i64 ((rd_T50 aE aA).f8), .int .i64 ((rd_T50 aE aA).f9.f0), .slice cO ((rd_T50 aE aA).f9.f1).length cP]] (by rfl) rfl rfl MT ?_
          with_reducible refine (spec_SaOk.calls k2 ((rd_T50 aE aA).f0) ((rd_T50 aE aA).f1) ((rd_T50 aE aA).f2) ((rd_T50 aE aA).f3) ((rd_T50 aE aA).f4) ((rd_T50 aE aA).f5) ((rd_T50 aE aA).f6) ((rd_T50 aE aA).f7) ((rd_T50 aE aA).f8) ((rd_T50 aE aA).f9.f0) _ _ ((rd_T50 aE aA).f9.f1) false _ ?_ ?_ nP.out).mono ?_
          exact KD cJ HB
          exact dT.out
          rintro e qP ⟨rfl, hb⟩
          refine ⟨_, rfl, ?_⟩
          replace aG := am (BB aG hb)
          replace HB := bl (K1 HB aM.out) hb
          (try clear hb)
          (try clear hb2)
          (try clear hk)
          (try clear hi)
          refine hK.out _ _ ⟨z0 _ aG.out, z1 _ aG.out, z2 _ aG.out, z3 _ aG.out, z4 _ aG.out, z5 _ aG.out, (CY HB.out cZ), (CY HB.out cY), (CY HB.out cX), (CY HB.out cW), (CY HB.out cV), (CY HB.out cU), (CY HB.out cT), (CY HB.out cS), (CY HB.out cR), (CY HB.out cQ), (CY HB.out cI)⟩ (fun aI => ?_)
          clear hK K
          refine nm (some 47) ?_
          refine pv aH 6 48 (tf 7 31) ?_
          refine pv aH 7 49 (tf 8 30) ?_
          refine pw aH 8 50 (tf 9 29) ?_
          refine pw aH 9 51 (tf 10 28) ?_
          refine pw aH 10 52 (tf 11 27) ?_
          refine pw aH 11 53 (tf 12 26) ?_
          refine pw aH 12 54 (tf 13 25) ?_
          refine pw aH 13 55 (tf 14 24) ?_
          refine pw aH 14 56 (tf 15 23) ?_
          refine pw aH 15 57 (tf 16 22) ?_
          refine pw aH 16 58 (tf 17 21) ?_
          refine pv aH 17 59 (tf 18 20) ?_
          refine pv aH 18 60 (tf 19 19) ?_
          refine pw aH 19 61 (tf 20 18) ?_
          refine pw aH 20 62 (tf 21 17) ?_
          refine pw aH 21 63 (tf 22 16) ?_
          refine pw aH 22 64 (tf 23 15) ?_
          refine pw aH 23 65 (tf 24 14) ?_
          refine pw aH 24 66 (tf 25 13) ?_
          refine pw aH 25 67 (tf 26 12) ?_
          refine pw aH 26 68 (tf 27 11) ?_
          refine pw aH 27 69 (tf 28 10) ?_
          refine pw aH 28 70 (tf 29 9) ?_
          refine pw aH 29 71 (tf 30 8) ?_
          refine pw aH 30 72 (tf 31 7) ?_
          refine pw aH 31 73 (tf 32 6) ?_
          refine pw aH 32 74 (tf 33 5) ?_
          refine pw aH 33 75 (tf 34 4) ?_
          refine pw aH 34 76 (tf 35 3) ?_
          refine pw aH 35 77 (tf 36 2) ?_
          refine pw aH 36 78 (tf 37 1) ?_
          refine pv aH 37 79 (tf 38 0) ?_
          refine done_ (done_of aH.out (by kernel_rfl)) ?_
          try go_wp2
          go_meet
          case rel => exact ⟨_, (true), (by first | rfl | (simp; done) | (simp [*]; done)), H', ⟨by have := HJ1.out; have := HK2.out; first | omega | exact Nat.le_refl _⟩, ⟨KB aG⟩, ⟨K1 HB aM.out⟩⟩
        ·rw [if_neg nD] at H
         exact absurd H (by simp)
       case rest =>
        clear mT
        try clear c1
        try clear p1
        try clear q1
        try clear pV
        try clear c2
        try clear p2
        try clear c3
        try clear pW
        try clear pM
        try clear pN
        try clear nU
        try clear nD
        try clear nE
        try clear pX
        try clear aO
        try clear aP
        try clear aJ
        try clear aQ
        try clear aR
        try clear aS
        try clear aT
        try clear aU
        try clear aV
        try clear aW
        try clear aX
        try clear bM
        try clear bN
        try clear aY
        try clear bO
        try clear bP
        try clear bQ
        try clear bR
        try clear bS
        try clear bT
        try clear bU
        try clear bV
        try clear eQ
        try clear fM
        try clear eR
        try clear fN
        obtain ⟨kq, hH, rfl, HA, HJ21, aG, HB⟩ := hcut
        cases kq with
        | zero => exact absurd HA.out (by simp [spec_GateOk.j2])
        | succ kj21 =>
         have H := HA.out
         clear HA
         simp only [spec_GateOk.j2] at H
         by_cases nV : hH = true
         ·subst nV
          have H1 := pf H
          clear H
          have H := H1
          clear H1
          obtain rfl := sj H
          go_wp2
          go_ret
          exact ⟨ER, K1 HB aM.out⟩
         ·replace nV := Bool.eq_false_iff.mpr nV
          subst nV
          have H1 := nf H
          clear H
          have H := H1
          clear H1
          have H' := Aside0.mk H
          clear H
          go_wp2
          go_roundg kj21
          case measure => have := HJ1.out; have := HK2.out; have := HJ21.out; omega
          case rel => exact ⟨(wrap64 (aA + 1)), (by first | rfl | (simp; done) | (simp [*]; done)), H', ⟨by have := HJ1.out; have := HK2.out; have := HJ21.out; omega⟩, ⟨KB aG⟩, ⟨K1 HB aM.out⟩⟩
      ·rw [if_neg mS] at H
       have c21b0 : decide (aA < (aE.length : Int)) = false := decide_eq_false mS
       clear mS
       have H' := Aside0.mk H
       clear H
       obtain ⟨mB, mC, mD, mE, mF, mG, mH⟩ := y6 wr aG.out
       go_wp2
       go_loopg [4] k2 (fun kq v4 w' => ∃ (aB : Int), v4 = .int .i64 aB ∧ Aside0 (spec_GateOk.l1 kq aB aK aZ aN bA aE aF = some r) ∧ Aside0 (kq ≤ k2) ∧ Aside0 (w'.heap[eP]? = some (.cells #[.int .i64 aK, (.slice fA aZ.length fB), .int .i64 aN, (.slice fC bA.length fD), (.slice fO aE.length fE), (.slice fP aF.length fF)] 36 (0, 0))) ∧ Aside0 (Below w.heap.size w w'))
       case atStart => exact ⟨(0), (by first | rfl | (simp; done) | (simp [*]; done)), H', ⟨Nat.le_refl _⟩, ⟨KB aG⟩, ⟨K1 HB aM.out⟩⟩
       case round =>
        clear H'
        try clear c1
        try clear p1
        try clear q1
        try clear pV
        try clear c2
        try clear p2
        try clear c3
        try clear c4
        try clear p6
        try clear pW
        try clear pM
        try clear pN
        try clear nU
        try clear mS
        try clear c21b0
        try clear nD
        try clear nE
        try clear pX
        try clear nV
        try clear mB mC mD mE mF mG mH
        try clear aO
        try clear aP
        try clear aJ
        try clear aQ
        try clear aR
        try clear aS
        try clear aT
        try clear aU
        try clear aV
        try clear aW
        try clear aX
        try clear bM
        try clear bN
        try clear aY
        try clear bO
        try clear bP
        try clear bQ
        try clear bR
        try clear bS
        try clear bT
        try clear bU
        try clear bV
        try clear p1
        try clear pM
        try clear eQ
        try clear fM
        try clear p2
        try clear q1
        try clear pN
        try clear eR
        try clear fN
        obtain ⟨aB, rfl, HA, HK3, aG, HB⟩ := hrel
        cases gk with
        | zero => exact absurd HA.out (by simp [spec_GateOk.l1])
        | succ k3 =>
         have H := HA.out
         clear HA
         simp only [spec_GateOk.l1] at H
         by_cases nH : aB < (aF.length : Int)
         ·rw [if_pos nH] at H
          have c42b0 : decide (aB < (aF.length : Int)) = true := decide_eq_true nH
          clear nH
          have mY := Aside0.mk H
          clear H
          have ⟨_, _, _, _, _, _, _⟩ := y6 wr aG.out
          go_upto_region 11 with (fail)
          go_cut [124] (fun pO wc => ∃ (kq : Nat) (gM : Bool), pO = .bool gM ∧ Aside0 (spec_GateOk.j4 kq aB gM aK aZ aN bA aE aF = some r) ∧ Aside0 (kq ≤ k3) ∧ Aside0 (wc.heap[eP]? = some (.cells #[.int .i64 aK, (.slice fA aZ.length fB), .int .i64 aN, (.slice fC bA.length fD), (.slice fO aE.length fE), (.slice fP aF.length fF)] 36 (0, 0))) ∧ Aside0 (Below w.heap.size w wc))
          case first =>
           have H := mY.out
           clear mY
           by_cases nW : 0 ≤ aB
           ·rw [if_pos nW] at H
            have c45b0 : decide (0 ≤ aB) = true := decide_eq_true nW
            clear nW
            (first | rw [c45b0] | (simp only [i64_w, i32_w]; rw [c45b0]) | skip)
            replace H := bm H
            obtain ⟨nX, nY, H⟩ := H
            replace H : (if nX = true then (if ((rd_T50 aF aB).f4) > aK then (spec_GateOk.j4 k3 aB true aK aZ aN bA aE aF) else (if aB > 0 then (if 0 ≤ (wrap64 (aB - 1)) then (if (wrap64 (aB - 1)) < (aF.length : Int) then (spec_GateOk.j4 k3 aB (decide (((rd_T50 aF (wrap64 (aB - 1))).f0) ≥ ((rd_T50 aF aB).f0))) aK aZ aN bA aE aF) else (none)) else (none)) else (spec_GateOk.j4 k3 aB false aK aZ aN bA aE aF))) else (spec_GateOk.j4 k3 aB true aK aZ aN bA aE aF)) = some r := H
            have nZ := Aside0.mk nY
            clear nY
            by_cases oA : nX = true
            ·subst oA
             have H1 := pf H
             clear H
             have H := H1
             clear H1
             by_cases nI : ((rd_T50 aF aB).f4) > aK
             ·rw [if_pos nI] at H
              have c48b0 : decide (aK < ((rd_T50 aF aB).f4)) = true := decide_eq_true nI
              clear nI
              have H' := Aside0.mk H
              clear H
              try go_wp2
              replace aG := am (blk_drew aG.out)
              replace HB := am (below_drew1 HB.out)
              have fG : 0 ≤ (aB : Int) := OD
              have fH : aB < (aF.length : Int) := OD
              obtain ⟨aD, dA, dB, iA, bB, bC, bD, bE, bF, bG, bH, bI, bJ, bK, aL, cK, cL⟩ := at_T50 fJ.out aB fG fH
              have cM := aL
              have dC := bK
              have dD := bJ
              have dE := bI
              have dF := bH
              have dG := bG
              have dH := bF
              have dI := bE
              have dJ := bD
              have dK := bC
              have dL := bB
              cases iA
              replace bB := CX HB.out bB
              replace bC := CX HB.out bC
              replace bD := CX HB.out bD
              replace bE := CX HB.out bE
              replace bF := CX HB.out bF
              replace bG := CX HB.out bG
              replace bH := CX HB.out bH
              replace bI := CX HB.out bI
              replace bJ := CX HB.out bJ
              replace bK := CX HB.out bK
              replace aL := CX HB.out aL
              have cN := Aside0.mk cL
              have dU := Aside0.mk cK
              clear cL cK
              replace fG := eq_true fG
              replace fH := eq_true fH
              have fQ : 0 ≤ (aB : Int) := OD
              have fR : aB < (aF.length : Int) := OD
              obtain ⟨hR, eY, eZ, lV, bW, bX, bY, bZ, cA, cB, cC, cD, cE, cF, bL, dP, dQ⟩ := at_T50 fJ.out aB fQ fR
              have dR := bL
              have eF := cF
              have eG := cE
              have eH := cD
              have eI := cC
              have eJ := cB
              have eK := cA
              have eL := bZ
              have eM := bY
              have eN := bX
              have eO := bW
              obtain rfl : aD = hR := (by injection lV)
              replace bW := CX HB.out bW
              replace bX := CX HB.out bX
              replace bY := CX HB.out bY
              replace bZ := CX HB.out bZ
              replace cA := CX HB.out cA
              replace cB := CX HB.out cB
              replace cC := CX HB.out cC
              replace cD := CX HB.out cD
              replace cE := CX HB.out cE
              replace cF := CX HB.out cF
              replace bL := CX HB.out bL
              have eU := Aside0.mk dQ
              have hS := Aside0.mk dP
              clear dQ dP
              replace fQ := eq_true fQ
              replace fR := eq_true fR
              refine start_ (n := 38) (S := fun w' => ce6 w' eP (.int .i64 aK) (.slice fA aZ.length fB) (.int .i64 aN) (.slice fC bA.length fD) (.slice fO aE.length fE) (.slice (some aD) aF.length fF) (w'.cell? (aD.add ((aB).toNat * 11)) = some (.int .i64 ((rd_T50 aF aB).f0)) ∧ w'.cell? ⟨(aD.add ((aB).toNat * 11)).block, (aD.add ((aB).toNat * 11)).off + 1, none⟩ = some (.int .i64 ((rd_T50 aF aB).f1)) ∧ w'.cell? ⟨(aD.add ((aB).toNat * 11)).block, (aD.add ((aB).toNat * 11)).off + 2, none⟩ = some (.string ((rd_T50 aF aB).f2)) ∧ w'.cell? ⟨(aD.add ((aB).toNat * 11)).block, (aD.add ((aB).toNat * 11)).off + 3, none⟩ = some (.string ((rd_T50 aF aB).f3)) ∧ w'.cell? ⟨(aD.add ((aB).toNat * 11)).block, (aD.add ((aB).toNat * 11)).off + 4, none⟩ = some (.int .i64 ((rd_T50 aF aB).f4)) ∧ w'.cell? ⟨(aD.add ((aB).toNat * 11)).block, (aD.add ((aB).toNat * 11)).off + 5, none⟩ = some (.int .i64 ((rd_T50 aF aB).f5)) ∧ w'.cell? ⟨(aD.add ((aB).toNat * 11)).block, (aD.add ((aB).toNat * 11)).off + 6, none⟩ = some (.int .i64 ((rd_T50 aF aB).f6)) ∧ w'.cell? ⟨(aD.add ((aB).toNat * 11)).block, (aD.add ((aB).toNat * 11)).off + 7, none⟩ = some (.int .i64 ((rd_T50 aF aB).f7)) ∧ w'.cell? ⟨(aD.add ((aB).toNat * 11)).block, (aD.add ((aB).toNat * 11)).off + 8, none⟩ = some (.int .i64 ((rd_T50 aF aB).f8)) ∧ w'.cell? ⟨(aD.add ((aB).toNat * 11)).block, (aD.add ((aB).toNat * 11)).off + 9, none⟩ = some (.int .i64 ((rd_T50 aF aB).f9.f0)) ∧ w'.cell? ⟨(aD.add ((aB).toNat * 11)).block, (aD.add ((aB).toNat * 11)).off + 10, none⟩ = some (.slice dA ((rd_T50 aF aB).f9.f1).length dB) ∧ w'.cell? (aD.add ((aB).toNat * 11)) = some (.int .i64 ((rd_T50 aF aB).f0)) ∧ w'.cell? ⟨(aD.add ((aB).toNat * 11)).block, (aD.add ((aB).toNat * 11)).off + 1, none⟩ = some (.int .i64 ((rd_T50 aF aB).f1)) ∧ w'.cell? ⟨(aD.add ((aB).toNat * 11)).block, (aD.add ((aB).toNat * 11)).off + 2, none⟩ = some (.string ((rd_T50 aF aB).f2)) ∧ w'.cell? ⟨(aD.add ((aB).toNat * 11)).block, (aD.add ((aB).toNat * 11)).off + 3, none⟩ = some (.string ((rd_T50 aF aB).f3)) ∧ w'.cell? ⟨(aD.add ((aB).toNat * 11)).block, (aD.add ((aB).toNat * 11)).off + 4, none⟩ = some (.int .i64 ((rd_T50 aF aB).f4)) ∧ w'.cell? ⟨(aD.add ((aB).toNat * 11)).block, (aD.add ((aB).toNat * 11)).off + 5, none⟩ = some (.int .i64 ((rd_T50 aF aB).f5)) ∧ w'.cell? ⟨(aD.add ((aB).toNat * 11)).block, (aD.add ((aB).toNat * 11)).off + 6, none⟩ = some (.int .i64 ((rd_T50 aF aB).f6)) ∧ w'.cell? ⟨(aD.add ((aB).toNat * 11)).block, (aD.add ((aB).toNat * 11)).off + 7, none⟩ = some (.int .i64 ((rd_T50 aF aB).f7)) ∧ w'.cell? ⟨(aD.add ((aB).toNat * 11)).block, (aD.add ((aB).toNat * 11)).off + 8, none⟩ = some (.int .i64 ((rd_T50 aF aB).f8)) ∧ w'.cell? ⟨(aD.add ((aB).toNat * 11)).block, (aD.add ((aB).toNat * 11)).off + 9, none⟩ = some (.int .i64 ((rd_T50 aF aB).f9.f0)) ∧ w'.cell? ⟨(aD.add ((aB).toNat * 11)).block, (aD.add ((aB).toNat * 11)).off + 10, none⟩ = some (.slice eY ((rd_T50 aF aB).f9.f1).length eZ))) (ds := []) (tf 0 38) (by kernel_rfl) rfl rfl ⟨z0 _ aG.out, z1 _ aG.out, z2 _ aG.out, z3 _ aG.out, z4 _ aG.out, z5 _ aG.out, (CY HB.out dL), (CY HB.out dK), (CY HB.out dJ), (CY HB.out dI), (CY HB.out dH), (CY HB.out dG), (CY HB.out dF), (CY HB.out dE), (CY HB.out dD), (CY HB.out dC), (CY HB.out cM), (CY HB.out eO), (CY HB.out eN), (CY HB.out eM), (CY HB.out eL), (CY HB.out eK), (CY HB.out eJ), (CY HB.out eI), (CY HB.out eH), (CY HB.out eG), (CY HB.out eF), (CY HB.out dR)⟩ (fun aI => ?_); refine with_tabW spec_GateOk.tab11 spec_GateOk.bits11 (fun aH dS => ?_)
              generalize wr.drew = qQ at aG HB cN eU bB bC aL bD bE bF bG bH bI bJ bK bW bX bL bY bZ cA cB cC cD cE cF aI ⊢
              refine pv aH 0 87 (tf 1 37) ?_
              refine pv aH 2 89 (tr [1, 1, 1, 35]) ?_
              refine tk 1 (some 88) (tf 3 35) (take_ofW aH.out dS.out (by kernel_rfl)) aI ?_
              refine pv aH 3 90 (tf 4 34) ?_
              refine tk 4 (some 91) (tf 5 33) (take_ofW aH.out dS.out (by kernel_rfl)) aI ?_
              refine one_ (i := 5) (N := some 92) (tf 6 32) rfl rfl (one_of aH.out (by kernel_rfl)) (by decide) (fun K hK => ?_)
              refine goes_ Tryz.func38 (by kernel_rfl) rfl #[.agg #[.int .i64 ((rd_T50 aF aB).f0), .int .i64 ((rd_T50 aF aB).f1), .string ((rd_T50 aF aB).f2), .string ((rd_T50 aF aB).f3), .int .i64 ((rd_T50 aF aB).f4), .int .i64 ((rd_T50 aF aB).f5), .int .i64 ((rd_T50 aF aB).f6), .int .i64 ((rd_T50 aF aB).f7), .int .i64 ((rd_T50 aF aB).f8), .int .i64 ((rd_T50 aF aB).f9.f0), .slice dA ((rd_T50 aF aB).f9.f1).length dB]] (by rfl) rfl rfl MT ?_
              with_reducible refine (spec_SaOk.calls k3 ((rd_T50 aF aB).f0) ((rd_T50 aF aB).f1) ((rd_T50 aF aB).f2) ((rd_T50 aF aB).f3) ((rd_T50 aF aB).f4) ((rd_T50 aF aB).f5) ((rd_T50 aF aB).f6) ((rd_T50 aF aB).f7) ((rd_T50 aF aB).f8) ((rd_T50 aF aB).f9.f0) _ _ ((rd_T50 aF aB).f9.f1) true _ ?_ ?_ nZ.out).mono ?_
              exact KD cN HB
              exact dU.out
              rintro e qR ⟨rfl, hb⟩
              refine ⟨_, rfl, ?_⟩
              replace aG := am (BB aG hb)
              replace HB := bl (K1 HB aM.out) hb
              (try clear hb)
              (try clear hb2)
              (try clear hk)
              (try clear hi)
              refine hK.out _ _ ⟨z0 _ aG.out, z1 _ aG.out, z2 _ aG.out, z3 _ aG.out, z4 _ aG.out, z5 _ aG.out, (CY HB.out dL), (CY HB.out dK), (CY HB.out dJ), (CY HB.out dI), (CY HB.out dH), (CY HB.out dG), (CY HB.out dF), (CY HB.out dE), (CY HB.out dD), (CY HB.out dC), (CY HB.out cM), (CY HB.out eO), (CY HB.out eN), (CY HB.out eM), (CY HB.out eL), (CY HB.out eK), (CY HB.out eJ), (CY HB.out eI), (CY HB.out eH), (CY HB.out eG), (CY HB.out eF), (CY HB.out dR)⟩ (fun aI => ?_)
              clear hK K
              refine nm (some 92) ?_
              refine pv aH 6 93 (tf 7 31) ?_
              refine pv aH 7 94 (tf 8 30) ?_
              refine pv aH 8 95 (tf 9 29) ?_
              refine pv aH 10 97 (tr [9, 1, 1, 27]) ?_
              refine pv aH 14 101 (tr [9, 1, 1, 3, 1, 23]) ?_
              refine tk 9 (some 96) (tr [11, 3, 1, 23]) (take_ofW aH.out dS.out (by kernel_rfl)) aI ?_
              refine pv aH 11 98 (tr [12, 2, 1, 23]) ?_
              refine pv aH 12 99 (tr [13, 1, 1, 23]) ?_
              refine tk 13 (some 100) (tf 15 23) (take_ofW aH.out dS.out (by kernel_rfl)) aI ?_
              refine tk 15 (some 102) (tf 16 22) (take_ofW aH.out dS.out (by kernel_rfl)) aI ?_
              refine pv aH 16 103 (tf 17 21) ?_
              refine pv aH 17 104 (tf 18 20) ?_
              refine pv aH 18 105 (tf 19 19) ?_
              refine pw aH 19 106 (tf 20 18) ?_
              refine pw aH 20 107 (tf 21 17) ?_
              refine pw aH 21 108 (tf 22 16) ?_
              refine pw aH 22 109 (tf 23 15) ?_
              refine pw aH 23 110 (tf 24 14) ?_
              refine pw aH 24 111 (tf 25 13) ?_
              refine pw aH 25 112 (tf 26 12) ?_
              refine pw aH 26 113 (tf 27 11) ?_
              refine pw aH 27 114 (tf 28 10) ?_
              refine pw aH 28 115 (tf 29 9) ?_
              refine pw aH 29 116 (tf 30 8) ?_
              refine pw aH 30 117 (tf 31 7) ?_
              refine pw aH 31 118 (tf 32 6) ?_
              refine pw aH 32 119 (tf 33 5) ?_
              refine pw aH 33 120 (tf 34 4) ?_
              refine pw aH 34 121 (tf 35 3) ?_
              refine pw aH 35 122 (tf 36 2) ?_
              refine pw aH 36 123 (tf 37 1) ?_
              refine pv aH 37 124 (tf 38 0) ?_
              refine done_ (done_of aH.out (by kernel_rfl)) ?_
              try go_wp2
              go_meet
              case rel => exact ⟨_, (true), (by first | rfl | (simp; done) | (simp [*]; done)), H', ⟨by have := HJ1.out; have := HK2.out; have := HK3.out; first | omega | exact Nat.le_refl _⟩, ⟨KB aG⟩, ⟨K1 HB aM.out⟩⟩
             ·rw [if_neg nI] at H
              have c48b0 : decide (aK < ((rd_T50 aF aB).f4)) = false := decide_eq_false nI
              clear nI
              by_cases nJ : aB > 0
              ·rw [if_pos nJ] at H
               have c51b0 : decide (0 < aB) = true := decide_eq_true nJ
               clear nJ
               obtain ⟨ji52, hji52⟩ : ∃ j_ : Int, (wrap64 (aB - 1)) = j_ := ⟨_, rfl⟩
               replace H : (if 0 ≤ (ji52) then (if (ji52) < (aF.length : Int) then (spec_GateOk.j4 k3 aB (decide (((rd_T50 aF (ji52)).f0) ≥ ((rd_T50 aF aB).f0))) aK aZ aN bA aE aF) else (none)) else (none)) = some r := by first | (rw [hji52] at H; exact H) | (simp only [hji52] at H ⊢; exact H)
               (try rw [hji52] at nZ)
               have hji52w : (IntKind.i64.wrap (aB - 1)) = ji52 := (i64_w _).trans hji52
               by_cases oX : 0 ≤ (ji52)
               ·rw [if_pos oX] at H
                have c53b0 : decide (0 ≤ (ji52)) = true := decide_eq_true oX
                clear oX
                by_cases oY : (ji52) < (aF.length : Int)
                ·rw [if_pos oY] at H
                 have c54b0 : decide ((ji52) < (aF.length : Int)) = true := decide_eq_true oY
                 clear oY
                 have H' := Aside0.mk H
                 clear H
                 try go_wp2
                 replace aG := am (blk_drew aG.out)
                 replace HB := am (below_drew1 HB.out)
                 have fG : 0 ≤ (aB : Int) := OD
                 have fH : aB < (aF.length : Int) := OD
                 obtain ⟨aD, dA, dB, iA, bB, bC, bD, bE, bF, bG, bH, bI, bJ, bK, aL, cK, cL⟩ := at_T50 fJ.out aB fG fH
                 have cM := aL
                 have dC := bK
                 have dD := bJ
                 have dE := bI
                 have dF := bH
                 have dG := bG
                 have dH := bF
                 have dI := bE
                 have dJ := bD
                 have dK := bC
                 have dL := bB
                 cases iA
                 replace bB := CX HB.out bB
                 replace bC := CX HB.out bC
                 replace bD := CX HB.out bD
                 replace bE := CX HB.out bE
                 replace bF := CX HB.out bF
                 replace bG := CX HB.out bG
                 replace bH := CX HB.out bH
                 replace bI := CX HB.out bI
                 replace bJ := CX HB.out bJ
                 replace bK := CX HB.out bK
                 replace aL := CX HB.out aL
                 have cN := Aside0.mk cL
                 have dU := Aside0.mk cK
                 clear cL cK
                 replace fG := eq_true fG
                 replace fH := eq_true fH
                 have fQ : 0 ≤ (aB : Int) := OD
                 have fR : aB < (aF.length : Int) := OD
                 obtain ⟨hR, eY, eZ, lV, bW, bX, bY, bZ, cA, cB, cC, cD, cE, cF, bL, dP, dQ⟩ := at_T50 fJ.out aB fQ fR
                 have dR := bL
                 have eF := cF
                 have eG := cE
                 have eH := cD
                 have eI := cC
                 have eJ := cB
                 have eK := cA
                 have eL := bZ
                 have eM := bY
                 have eN := bX
                 have eO := bW
                 obtain rfl : aD = hR := (by injection lV)
                 replace bW := CX HB.out bW
                 replace bX := CX HB.out bX
                 replace bY := CX HB.out bY
                 replace bZ := CX HB.out bZ
                 replace cA := CX HB.out cA
                 replace cB := CX HB.out cB
                 replace cC := CX HB.out cC
                 replace cD := CX HB.out cD
                 replace cE := CX HB.out cE
                 replace cF := CX HB.out cF
                 replace bL := CX HB.out bL
                 have eU := Aside0.mk dQ
                 have hS := Aside0.mk dP
                 clear dQ dP
                 replace fQ := eq_true fQ
                 replace fR := eq_true fR
                 have mZ : 0 ≤ ((ji52) : Int) := OD
                 have nA : (ji52) < (aF.length : Int) := OD
                 obtain ⟨oB, mI, mJ, pP, gN, gO, gP, gQ, gR, gS, gT, gU, gV, gW, fL, hT, hU⟩ := at_T50 fJ.out (ji52) mZ nA
                 have hV := fL
                 have kT := gW
                 have kU := gV
                 have kV := gU
                 have kW := gT
                 have kX := gS
                 have kY := gR
                 have kZ := gQ
                 have lA := gP
                 have lB := gO
                 have lC := gN
                 obtain rfl : aD = oB := (by injection pP)
                 replace gN := CX HB.out gN
                 replace gO := CX HB.out gO
                 replace gP := CX HB.out gP
                 replace gQ := CX HB.out gQ
                 replace gR := CX HB.out gR
                 replace gS := CX HB.out gS
                 replace gT := CX HB.out gT
                 replace gU := CX HB.out gU
                 replace gV := CX HB.out gV
                 replace gW := CX HB.out gW
                 replace fL := CX HB.out fL
                 have lW := Aside0.mk hU
                 have oC := Aside0.mk hT
                 clear hU hT
                 replace mZ := eq_true mZ
                 replace nA := eq_true nA
                 have nB : 0 ≤ (aB : Int) := OD
                 have nC : aB < (aF.length : Int) := OD
                 obtain ⟨oD, _, _, pQ, gX, gY, gZ, hA, hB, hC, hD, hE, hF, hG, eV, hW, hX⟩ := at_T50 fJ.out aB nB nC
                 have hY := eV
                 have lD := hG
                 have lE := hF
                 have lF := hE
                 have lG := hD
                 have lH := hC
                 have lI := hB
                 have lJ := hA
                 have lK := gZ
                 have lL := gY
                 have lM := gX
                 obtain rfl : aD = oD := (by injection pQ)
                 replace gX := CX HB.out gX
                 replace gY := CX HB.out gY
                 replace gZ := CX HB.out gZ
                 replace hA := CX HB.out hA
                 replace hB := CX HB.out hB
                 replace hC := CX HB.out hC
                 replace hD := CX HB.out hD
                 replace hE := CX HB.out hE
                 replace hF := CX HB.out hF
                 replace hG := CX HB.out hG
                 replace eV := CX HB.out eV
                 have lX := Aside0.mk hX
                 have oE := Aside0.mk hW
                 clear hX hW
                 replace nB := eq_true nB
                 replace nC := eq_true nC
                 have ea_ := Option.some.inj (bL.symm.trans eV)
                 injection ea_ with ea_ en_ ec_
                 subst ea_
                 subst ec_
                 clear en_
                 refine start_ (n := 38) (S := fun w' => ce6 w' eP (.int .i64 aK) (.slice fA aZ.length fB) (.int .i64 aN) (.slice fC bA.length fD) (.slice fO aE.length fE) (.slice (some aD) aF.length fF) (w'.cell? (aD.add ((aB).toNat * 11)) = some (.int .i64 ((rd_T50 aF aB).f0)) ∧ w'.cell? ⟨(aD.add ((aB).toNat * 11)).block, (aD.add ((aB).toNat * 11)).off + 1, none⟩ = some (.int .i64 ((rd_T50 aF aB).f1)) ∧ w'.cell? ⟨(aD.add ((aB).toNat * 11)).block, (aD.add ((aB).toNat * 11)).off + 2, none⟩ = some (.string ((rd_T50 aF aB).f2)) ∧ w'.cell? ⟨(aD.add ((aB).toNat * 11)).block, (aD.add ((aB).toNat * 11)).off + 3, none⟩ = some (.string ((rd_T50 aF aB).f3)) ∧ w'.cell? ⟨(aD.add ((aB).toNat * 11)).block, (aD.add ((aB).toNat * 11)).off + 4, none⟩ = some (.int .i64 ((rd_T50 aF aB).f4)) ∧ w'.cell? ⟨(aD.add ((aB).toNat * 11)).block, (aD.add ((aB).toNat * 11)).off + 5, none⟩ = some (.int .i64 ((rd_T50 aF aB).f5)) ∧ w'.cell? ⟨(aD.add ((aB).toNat * 11)).block, (aD.add ((aB).toNat * 11)).off + 6, none⟩ = some (.int .i64 ((rd_T50 aF aB).f6)) ∧ w'.cell? ⟨(aD.add ((aB).toNat * 11)).block, (aD.add ((aB).toNat * 11)).off + 7, none⟩ = some (.int .i64 ((rd_T50 aF aB).f7)) ∧ w'.cell? ⟨(aD.add ((aB).toNat * 11)).block, (aD.add ((aB).toNat * 11)).off + 8, none⟩ = some (.int .i64 ((rd_T50 aF aB).f8)) ∧ w'.cell? ⟨(aD.add ((aB).toNat * 11)).block, (aD.add ((aB).toNat * 11)).off + 9, none⟩ = some (.int .i64 ((rd_T50 aF aB).f9.f0)) ∧ w'.cell? ⟨(aD.add ((aB).toNat * 11)).block, (aD.add ((aB).toNat * 11)).off + 10, none⟩ = some (.slice dA ((rd_T50 aF aB).f9.f1).length dB) ∧ w'.cell? (aD.add ((aB).toNat * 11)) = some (.int .i64 ((rd_T50 aF aB).f0)) ∧ w'.cell? ⟨(aD.add ((aB).toNat * 11)).block, (aD.add ((aB).toNat * 11)).off + 1, none⟩ = some (.int .i64 ((rd_T50 aF aB).f1)) ∧ w'.cell? ⟨(aD.add ((aB).toNat * 11)).block, (aD.add ((aB).toNat * 11)).off + 2, none⟩ = some (.string ((rd_T50 aF aB).f2)) ∧ w'.cell? ⟨(aD.add ((aB).toNat * 11)).block, (aD.add ((aB).toNat * 11)).off + 3, none⟩ = some (.string ((rd_T50 aF aB).f3)) ∧ w'.cell? ⟨(aD.add ((aB).toNat * 11)).block, (aD.add ((aB).toNat * 11)).off + 4, none⟩ = some (.int .i64 ((rd_T50 aF aB).f4)) ∧ w'.cell? ⟨(aD.add ((aB).toNat * 11)).block, (aD.add ((aB).toNat * 11)).off + 5, none⟩ = some (.int .i64 ((rd_T50 aF aB).f5)) ∧ w'.cell? ⟨(aD.add ((aB).toNat * 11)).block, (aD.add ((aB).toNat * 11)).off + 6, none⟩ = some (.int .i64 ((rd_T50 aF aB).f6)) ∧ w'.cell? ⟨(aD.add ((aB).toNat * 11)).block, (aD.add ((aB).toNat * 11)).off + 7, none⟩ = some (.int .i64 ((rd_T50 aF aB).f7)) ∧ w'.cell? ⟨(aD.add ((aB).toNat * 11)).block, (aD.add ((aB).toNat * 11)).off + 8, none⟩ = some (.int .i64 ((rd_T50 aF aB).f8)) ∧ w'.cell? ⟨(aD.add ((aB).toNat * 11)).block, (aD.add ((aB).toNat * 11)).off + 9, none⟩ = some (.int .i64 ((rd_T50 aF aB).f9.f0)) ∧ w'.cell? ⟨(aD.add ((aB).toNat * 11)).block, (aD.add ((aB).toNat * 11)).off + 10, none⟩ = some (.slice eY ((rd_T50 aF aB).f9.f1).length eZ) ∧ w'.cell? (aD.add (((ji52)).toNat * 11)) = some (.int .i64 ((rd_T50 aF (ji52)).f0)) ∧ w'.cell? ⟨(aD.add (((ji52)).toNat * 11)).block, (aD.add (((ji52)).toNat * 11)).off + 1, none⟩ = some (.int .i64 ((rd_T50 aF (ji52)).f1)) ∧ w'.cell? ⟨(aD.add (((ji52)).toNat * 11)).block, (aD.add (((ji52)).toNat * 11)).off + 2, none⟩ = some (.string ((rd_T50 aF (ji52)).f2)) ∧ w'.cell? ⟨(aD.add (((ji52)).toNat * 11)).block, (aD.add (((ji52)).toNat * 11)).off + 3, none⟩ = some (.string ((rd_T50 aF (ji52)).f3)) ∧ w'.cell? ⟨(aD.add (((ji52)).toNat * 11)).block, (aD.add (((ji52)).toNat * 11)).off + 4, none⟩ = some (.int .i64 ((rd_T50 aF (ji52)).f4)) ∧ w'.cell? ⟨(aD.add (((ji52)).toNat * 11)).block, (aD.add (((ji52)).toNat * 11)).off + 5, none⟩ = some (.int .i64 ((rd_T50 aF (ji52)).f5)) ∧ w'.cell? ⟨(aD.add (((ji52)).toNat * 11)).block, (aD.add (((ji52)).toNat * 11)).off + 6, none⟩ = some (.int .i64 ((rd_T50 aF (ji52)).f6)) ∧ w'.cell? ⟨(aD.add (((ji52)).toNat * 11)).block, (aD.add (((ji52)).toNat * 11)).off + 7, none⟩ = some (.int .i64 ((rd_T50 aF (ji52)).f7)) ∧ w'.cell? ⟨(aD.add (((ji52)).toNat * 11)).block, (aD.add (((ji52)).toNat * 11)).off + 8, none⟩ = some (.int .i64 ((rd_T50 aF (ji52)).f8)) ∧ w'.cell? ⟨(aD.add (((ji52)).toNat * 11)).block, (aD.add (((ji52)).toNat * 11)).off + 9, none⟩ = some (.int .i64 ((rd_T50 aF (ji52)).f9.f0)) ∧ w'.cell? ⟨(aD.add (((ji52)).toNat * 11)).block, (aD.add (((ji52)).toNat * 11)).off + 10, none⟩ = some (.slice mI ((rd_T50 aF (ji52)).f9.f1).length mJ) ∧ w'.cell? (aD.add ((aB).toNat * 11)) = some (.int .i64 ((rd_T50 aF aB).f0)) ∧ w'.cell? ⟨(aD.add ((aB).toNat * 11)).block, (aD.add ((aB).toNat * 11)).off + 1, none⟩ = some (.int .i64 ((rd_T50 aF aB).f1)) ∧ w'.cell? ⟨(aD.add ((aB).toNat * 11)).block, (aD.add ((aB).toNat * 11)).off + 2, none⟩ = some (.string ((rd_T50 aF aB).f2)) ∧ w'.cell? ⟨(aD.add ((aB).toNat * 11)).block, (aD.add ((aB).toNat * 11)).off + 3, none⟩ = some (.string ((rd_T50 aF aB).f3)) ∧ w'.cell? ⟨(aD.add ((aB).toNat * 11)).block, (aD.add ((aB).toNat * 11)).off + 4, none⟩ = some (.int .i64 ((rd_T50 aF aB).f4)) ∧ w'.cell? ⟨(aD.add ((aB).toNat * 11)).block, (aD.add ((aB).toNat * 11)).off + 5, none⟩ = some (.int .i64 ((rd_T50 aF aB).f5)) ∧ w'.cell? ⟨(aD.add ((aB).toNat * 11)).block, (aD.add ((aB).toNat * 11)).off + 6, none⟩ = some (.int .i64 ((rd_T50 aF aB).f6)) ∧ w'.cell? ⟨(aD.add ((aB).toNat * 11)).block, (aD.add ((aB).toNat * 11)).off + 7, none⟩ = some (.int .i64 ((rd_T50 aF aB).f7)) ∧ w'.cell? ⟨(aD.add ((aB).toNat * 11)).block, (aD.add ((aB).toNat * 11)).off + 8, none⟩ = some (.int .i64 ((rd_T50 aF aB).f8)) ∧ w'.cell? ⟨(aD.add ((aB).toNat * 11)).block, (aD.add ((aB).toNat * 11)).off + 9, none⟩ = some (.int .i64 ((rd_T50 aF aB).f9.f0)) ∧ w'.cell? ⟨(aD.add ((aB).toNat * 11)).block, (aD.add ((aB).toNat * 11)).off + 10, none⟩ = some (.slice eY ((rd_T50 aF aB).f9.f1).length eZ))) (ds := []) (tf 0 38) (by kernel_rfl) rfl rfl ⟨z0 _ aG.out, z1 _ aG.out, z2 _ aG.out, z3 _ aG.out, z4 _ aG.out, z5 _ aG.out, (CY HB.out dL), (CY HB.out dK), (CY HB.out dJ), (CY HB.out dI), (CY HB.out dH), (CY HB.out dG), (CY HB.out dF), (CY HB.out dE), (CY HB.out dD), (CY HB.out dC), (CY HB.out cM), (CY HB.out eO), (CY HB.out eN), (CY HB.out eM), (CY HB.out eL), (CY HB.out eK), (CY HB.out eJ), (CY HB.out eI), (CY HB.out eH), (CY HB.out eG), (CY HB.out eF), (CY HB.out dR), (CY HB.out lC), (CY HB.out lB), (CY HB.out lA), (CY HB.out kZ), (CY HB.out kY), (CY HB.out kX), (CY HB.out kW), (CY HB.out kV), (CY HB.out kU), (CY HB.out kT), (CY HB.out hV), (CY HB.out lM), (CY HB.out lL), (CY HB.out lK), (CY HB.out lJ), (CY HB.out lI), (CY HB.out lH), (CY HB.out lG), (CY HB.out lF), (CY HB.out lE), (CY HB.out lD), (CY HB.out hY)⟩ (fun aI => ?_); refine with_tabW spec_GateOk.tab11 spec_GateOk.bits11 (fun aH dS => ?_)
                 generalize wr.drew = qS at aG HB cN eU lW lX bB bC aL bD bE bF bG bH bI bJ bK bW bX bL bY bZ cA cB cC cD cE cF gN gO fL gP gQ gR gS gT gU gV gW gX gY eV gZ hA hB hC hD hE hF hG aI ⊢
                 refine pv aH 0 87 (tf 1 37) ?_
                 refine pv aH 2 89 (tr [1, 1, 1, 35]) ?_
                 refine tk 1 (some 88) (tf 3 35) (take_ofW aH.out dS.out (by kernel_rfl)) aI ?_
                 refine pv aH 3 90 (tf 4 34) ?_
                 refine tk 4 (some 91) (tf 5 33) (take_ofW aH.out dS.out (by kernel_rfl)) aI ?_
                 refine one_ (i := 5) (N := some 92) (tf 6 32) rfl rfl (one_of aH.out (by kernel_rfl)) (by decide) (fun K hK => ?_)
                 refine goes_ Tryz.func38 (by kernel_rfl) rfl #[.agg #[.int .i64 ((rd_T50 aF aB).f0), .int .i64 ((rd_T50 aF aB).f1), .string ((rd_T50 aF aB).f2), .string ((rd_T50 aF aB).f3), .int .i64 ((rd_T50 aF aB).f4), .int .i64 ((rd_T50 aF aB).f5), .int .i64 ((rd_T50 aF aB).f6), .int .i64 ((rd_T50 aF aB).f7), .int .i64 ((rd_T50 aF aB).f8), .int .i64 ((rd_T50 aF aB).f9.f0), .slice dA ((rd_T50 aF aB).f9.f1).length dB]] (by rfl) rfl rfl MT ?_
                 with_reducible refine (spec_SaOk.calls k3 ((rd_T50 aF aB).f0) ((rd_T50 aF aB).f1) ((rd_T50 aF aB).f2) ((rd_T50 aF aB).f3) ((rd_T50 aF aB).f4) ((rd_T50 aF aB).f5) ((rd_T50 aF aB).f6) ((rd_T50 aF aB).f7) ((rd_T50 aF aB).f8) ((rd_T50 aF aB).f9.f0) _ _ ((rd_T50 aF aB).f9.f1) true _ ?_ ?_ nZ.out).mono ?_
                 exact KD cN HB
                 exact dU.out
                 rintro e qT ⟨rfl, hb⟩
                 refine ⟨_, rfl, ?_⟩
                 replace aG := am (BB aG hb)
                 replace HB := bl (K1 HB aM.out) hb
                 (try clear hb)
                 (try clear hb2)
                 (try clear hk)
                 (try clear hi)
                 refine hK.out _ _ ⟨z0 _ aG.out, z1 _ aG.out, z2 _ aG.out, z3 _ aG.out, z4 _ aG.out, z5 _ aG.out, (CY HB.out dL), (CY HB.out dK), (CY HB.out dJ), (CY HB.out dI), (CY HB.out dH), (CY HB.out dG), (CY HB.out dF), (CY HB.out dE), (CY HB.out dD), (CY HB.out dC), (CY HB.out cM), (CY HB.out eO), (CY HB.out eN), (CY HB.out eM), (CY HB.out eL), (CY HB.out eK), (CY HB.out eJ), (CY HB.out eI), (CY HB.out eH), (CY HB.out eG), (CY HB.out eF), (CY HB.out dR), (CY HB.out lC), (CY HB.out lB), (CY HB.out lA), (CY HB.out kZ), (CY HB.out kY), (CY HB.out kX), (CY HB.out kW), (CY HB.out kV), (CY HB.out kU), (CY HB.out kT), (CY HB.out hV), (CY HB.out lM), (CY HB.out lL), (CY HB.out lK), (CY HB.out lJ), (CY HB.out lI), (CY HB.out lH), (CY HB.out lG), (CY HB.out lF), (CY HB.out lE), (CY HB.out lD), (CY HB.out hY)⟩ (fun aI => ?_)
                 clear hK K
                 refine nm (some 92) ?_
                 refine pv aH 6 93 (tf 7 31) ?_
                 refine pv aH 7 94 (tf 8 30) ?_
                 refine pv aH 8 95 (tf 9 29) ?_
                 refine pv aH 10 97 (tr [9, 1, 1, 27]) ?_
                 refine pv aH 14 101 (tr [9, 1, 1, 3, 1, 23]) ?_
                 refine tk 9 (some 96) (tr [11, 3, 1, 23]) (take_ofW aH.out dS.out (by kernel_rfl)) aI ?_
                 refine pv aH 11 98 (tr [12, 2, 1, 23]) ?_
                 refine pv aH 12 99 (tr [13, 1, 1, 23]) ?_
                 refine tk 13 (some 100) (tf 15 23) (take_ofW aH.out dS.out (by kernel_rfl)) aI ?_
                 refine tk 15 (some 102) (tf 16 22) (take_ofW aH.out dS.out (by kernel_rfl)) aI ?_
                 refine pv aH 16 103 (tf 17 21) ?_
                 refine pv aH 17 104 (tf 18 20) ?_
                 refine pv aH 18 105 (tf 19 19) ?_
                 refine pv aH 19 106 (tf 20 18) ?_
                 refine pv aH 20 107 (tf 21 17) ?_
                 refine pv aH 21 108 (tf 22 16) ?_
                 refine pv aH 22 109 (tf 23 15) ?_
                 refine pv aH 24 111 (tr [23, 1, 1, 13]) ?_
                 refine pv aH 25 112 (tr [23, 1, 2, 12]) ?_
                 refine pv aH 29 116 (tr [23, 1, 2, 3, 1, 8]) ?_
                 refine pv aH 31 118 (tr [23, 1, 2, 3, 1, 1, 1, 6]) ?_
                 refine tk 23 (some 110) (tr [26, 3, 1, 1, 1, 6]) (take_ofW aH.out dS.out (by kernel_rfl)) aI ?_
                 refine pv aH 26 113 (tr [27, 2, 1, 1, 1, 6]) ?_
                 refine pv aH 27 114 (tr [28, 1, 1, 1, 1, 6]) ?_
                 refine tk 28 (some 115) (tr [30, 1, 1, 6]) (take_ofW aH.out dS.out (by kernel_rfl)) aI ?_
                 refine tk 30 (some 117) (tf 32 6) (take_ofW aH.out dS.out (by kernel_rfl)) aI ?_
                 refine pv aH 32 119 (tf 33 5) ?_
                 refine pv aH 33 120 (tf 34 4) ?_
                 refine tk 34 (some 121) (tf 35 3) (take_ofW aH.out dS.out (by kernel_rfl)) aI ?_
                 refine pv aH 35 122 (tf 36 2) ?_
                 refine pv aH 36 123 (tf 37 1) ?_
                 refine pv aH 37 124 (tf 38 0) ?_
                 refine done_ (done_of aH.out (by kernel_rfl)) ?_
                 try go_wp2
                 go_meet
                 case rel => exact ⟨_, (decide (((rd_T50 aF (ji52)).f0) ≥ ((rd_T50 aF aB).f0))), (by first | rfl | (simp; done) | (simp only [← hji52] <;> (first | rfl | simp)) | (simp [*]; done)), H', ⟨by have := HJ1.out; have := HK2.out; have := HK3.out; first | omega | exact Nat.le_refl _⟩, ⟨KB aG⟩, ⟨K1 HB aM.out⟩⟩
                ·rw [if_neg oY] at H
                 exact absurd H (by simp)
               ·rw [if_neg oX] at H
                exact absurd H (by simp)
              ·rw [if_neg nJ] at H
               have c51b0 : decide (0 < aB) = false := decide_eq_false nJ
               clear nJ
               have H' := Aside0.mk H
               clear H
               try go_wp2
               replace aG := am (blk_drew aG.out)
               replace HB := am (below_drew1 HB.out)
               have fG : 0 ≤ (aB : Int) := OD
               have fH : aB < (aF.length : Int) := OD
               obtain ⟨aD, dA, dB, iA, bB, bC, bD, bE, bF, bG, bH, bI, bJ, bK, aL, cK, cL⟩ := at_T50 fJ.out aB fG fH
               have cM := aL
               have dC := bK
               have dD := bJ
               have dE := bI
               have dF := bH
               have dG := bG
               have dH := bF
               have dI := bE
               have dJ := bD
               have dK := bC
               have dL := bB
               cases iA
               replace bB := CX HB.out bB
               replace bC := CX HB.out bC
               replace bD := CX HB.out bD
               replace bE := CX HB.out bE
               replace bF := CX HB.out bF
               replace bG := CX HB.out bG
               replace bH := CX HB.out bH
               replace bI := CX HB.out bI
               replace bJ := CX HB.out bJ
               replace bK := CX HB.out bK
               replace aL := CX HB.out aL
               have cN := Aside0.mk cL
               have dU := Aside0.mk cK
               clear cL cK
               replace fG := eq_true fG
               replace fH := eq_true fH
               have fQ : 0 ≤ (aB : Int) := OD
               have fR : aB < (aF.length : Int) := OD
               obtain ⟨hR, eY, eZ, lV, bW, bX, bY, bZ, cA, cB, cC, cD, cE, cF, bL, dP, dQ⟩ := at_T50 fJ.out aB fQ fR
               have dR := bL
               have eF := cF
               have eG := cE
               have eH := cD
               have eI := cC
               have eJ := cB
               have eK := cA
               have eL := bZ
               have eM := bY
               have eN := bX
               have eO := bW
               obtain rfl : aD = hR := (by injection lV)
               replace bW := CX HB.out bW
               replace bX := CX HB.out bX
               replace bY := CX HB.out bY
               replace bZ := CX HB.out bZ
               replace cA := CX HB.out cA
               replace cB := CX HB.out cB
               replace cC := CX HB.out cC
               replace cD := CX HB.out cD
               replace cE := CX HB.out cE
               replace cF := CX HB.out cF
               replace bL := CX HB.out bL
               have eU := Aside0.mk dQ
               have hS := Aside0.mk dP
               clear dQ dP
               replace fQ := eq_true fQ
               replace fR := eq_true fR
               refine start_ (n := 38) (S := fun w' => ce6 w' eP (.int .i64 aK) (.slice fA aZ.length fB) (.int .i64 aN) (.slice fC bA.length fD) (.slice fO aE.length fE) (.slice (some aD) aF.length fF) (w'.cell? (aD.add ((aB).toNat * 11)) = some (.int .i64 ((rd_T50 aF aB).f0)) ∧ w'.cell? ⟨(aD.add ((aB).toNat * 11)).block, (aD.add ((aB).toNat * 11)).off + 1, none⟩ = some (.int .i64 ((rd_T50 aF aB).f1)) ∧ w'.cell? ⟨(aD.add ((aB).toNat * 11)).block, (aD.add ((aB).toNat * 11)).off + 2, none⟩ = some (.string ((rd_T50 aF aB).f2)) ∧ w'.cell? ⟨(aD.add ((aB).toNat * 11)).block, (aD.add ((aB).toNat * 11)).off + 3, none⟩ = some (.string ((rd_T50 aF aB).f3)) ∧ w'.cell? ⟨(aD.add ((aB).toNat * 11)).block, (aD.add ((aB).toNat * 11)).off + 4, none⟩ = some (.int .i64 ((rd_T50 aF aB).f4)) ∧ w'.cell? ⟨(aD.add ((aB).toNat * 11)).block, (aD.add ((aB).toNat * 11)).off + 5, none⟩ = some (.int .i64 ((rd_T50 aF aB).f5)) ∧ w'.cell? ⟨(aD.add ((aB).toNat * 11)).block, (aD.add ((aB).toNat * 11)).off + 6, none⟩ = some (.int .i64 ((rd_T50 aF aB).f6)) ∧ w'.cell? ⟨(aD.add ((aB).toNat * 11)).block, (aD.add ((aB).toNat * 11)).off + 7, none⟩ = some (.int .i64 ((rd_T50 aF aB).f7)) ∧ w'.cell? ⟨(aD.add ((aB).toNat * 11)).block, (aD.add ((aB).toNat * 11)).off + 8, none⟩ = some (.int .i64 ((rd_T50 aF aB).f8)) ∧ w'.cell? ⟨(aD.add ((aB).toNat * 11)).block, (aD.add ((aB).toNat * 11)).off + 9, none⟩ = some (.int .i64 ((rd_T50 aF aB).f9.f0)) ∧ w'.cell? ⟨(aD.add ((aB).toNat * 11)).block, (aD.add ((aB).toNat * 11)).off + 10, none⟩ = some (.slice dA ((rd_T50 aF aB).f9.f1).length dB) ∧ w'.cell? (aD.add ((aB).toNat * 11)) = some (.int .i64 ((rd_T50 aF aB).f0)) ∧ w'.cell? ⟨(aD.add ((aB).toNat * 11)).block, (aD.add ((aB).toNat * 11)).off + 1, none⟩ = some (.int .i64 ((rd_T50 aF aB).f1)) ∧ w'.cell? ⟨(aD.add ((aB).toNat * 11)).block, (aD.add ((aB).toNat * 11)).off + 2, none⟩ = some (.string ((rd_T50 aF aB).f2)) ∧ w'.cell? ⟨(aD.add ((aB).toNat * 11)).block, (aD.add ((aB).toNat * 11)).off + 3, none⟩ = some (.string ((rd_T50 aF aB).f3)) ∧ w'.cell? ⟨(aD.add ((aB).toNat * 11)).block, (aD.add ((aB).toNat * 11)).off + 4, none⟩ = some (.int .i64 ((rd_T50 aF aB).f4)) ∧ w'.cell? ⟨(aD.add ((aB).toNat * 11)).block, (aD.add ((aB).toNat * 11)).off + 5, none⟩ = some (.int .i64 ((rd_T50 aF aB).f5)) ∧ w'.cell? ⟨(aD.add ((aB).toNat * 11)).block, (aD.add ((aB).toNat * 11)).off + 6, none⟩ = some (.int .i64 ((rd_T50 aF aB).f6)) ∧ w'.cell? ⟨(aD.add ((aB).toNat * 11)).block, (aD.add ((aB).toNat * 11)).off + 7, none⟩ = some (.int .i64 ((rd_T50 aF aB).f7)) ∧ w'.cell? ⟨(aD.add ((aB).toNat * 11)).block, (aD.add ((aB).toNat * 11)).off + 8, none⟩ = some (.int .i64 ((rd_T50 aF aB).f8)) ∧ w'.cell? ⟨(aD.add ((aB).toNat * 11)).block, (aD.add ((aB).toNat * 11)).off + 9, none⟩ = some (.int .i64 ((rd_T50 aF aB).f9.f0)) ∧ w'.cell? ⟨(aD.add ((aB).toNat * 11)).block, (aD.add ((aB).toNat * 11)).off + 10, none⟩ = some (.slice eY ((rd_T50 aF aB).f9.f1).length eZ))) (ds := []) (tf 0 38) (by kernel_rfl) rfl rfl ⟨z0 _ aG.out, z1 _ aG.out, z2 _ aG.out, z3 _ aG.out, z4 _ aG.out, z5 _ aG.out, (CY HB.out dL), (CY HB.out dK), (CY HB.out dJ), (CY HB.out dI), (CY HB.out dH), (CY HB.out dG), (CY HB.out dF), (CY HB.out dE), (CY HB.out dD), (CY HB.out dC), (CY HB.out cM), (CY HB.out eO), (CY HB.out eN), (CY HB.out eM), (CY HB.out eL), (CY HB.out eK), (CY HB.out eJ), (CY HB.out eI), (CY HB.out eH), (CY HB.out eG), (CY HB.out eF), (CY HB.out dR)⟩ (fun aI => ?_); refine with_tabW spec_GateOk.tab11 spec_GateOk.bits11 (fun aH dS => ?_)
               generalize wr.drew = qU at aG HB cN eU bB bC aL bD bE bF bG bH bI bJ bK bW bX bL bY bZ cA cB cC cD cE cF aI ⊢
               refine pv aH 0 87 (tf 1 37) ?_
               refine pv aH 2 89 (tr [1, 1, 1, 35]) ?_
               refine tk 1 (some 88) (tf 3 35) (take_ofW aH.out dS.out (by kernel_rfl)) aI ?_
               refine pv aH 3 90 (tf 4 34) ?_
               refine tk 4 (some 91) (tf 5 33) (take_ofW aH.out dS.out (by kernel_rfl)) aI ?_
               refine one_ (i := 5) (N := some 92) (tf 6 32) rfl rfl (one_of aH.out (by kernel_rfl)) (by decide) (fun K hK => ?_)
               refine goes_ Tryz.func38 (by kernel_rfl) rfl #[.agg #[.int .i64 ((rd_T50 aF aB).f0), .int .i64 ((rd_T50 aF aB).f1), .string ((rd_T50 aF aB).f2), .string ((rd_T50 aF aB).f3), .int .i64 ((rd_T50 aF aB).f4), .int .i64 ((rd_T50 aF aB).f5), .int .i64 ((rd_T50 aF aB).f6), .int .i64 ((rd_T50 aF aB).f7), .int .i64 ((rd_T50 aF aB).f8), .int .i64 ((rd_T50 aF aB).f9.f0), .slice dA ((rd_T50 aF aB).f9.f1).length dB]] (by rfl) rfl rfl MT ?_
               with_reducible refine (spec_SaOk.calls k3 ((rd_T50 aF aB).f0) ((rd_T50 aF aB).f1) ((rd_T50 aF aB).f2) ((rd_T50 aF aB).f3) ((rd_T50 aF aB).f4) ((rd_T50 aF aB).f5) ((rd_T50 aF aB).f6) ((rd_T50 aF aB).f7) ((rd_T50 aF aB).f8) ((rd_T50 aF aB).f9.f0) _ _ ((rd_T50 aF aB).f9.f1) true _ ?_ ?_ nZ.out).mono ?_
               exact KD cN HB
               exact dU.out
               rintro e qV ⟨rfl, hb⟩
               refine ⟨_, rfl, ?_⟩
               replace aG := am (BB aG hb)
               replace HB := bl (K1 HB aM.out) hb
               (try clear hb)
               (try clear hb2)
               (try clear hk)
               (try clear hi)
               refine hK.out _ _ ⟨z0 _ aG.out, z1 _ aG.out, z2 _ aG.out, z3 _ aG.out, z4 _ aG.out, z5 _ aG.out, (CY HB.out dL), (CY HB.out dK), (CY HB.out dJ), (CY HB.out dI), (CY HB.out dH), (CY HB.out dG), (CY HB.out dF), (CY HB.out dE), (CY HB.out dD), (CY HB.out dC), (CY HB.out cM), (CY HB.out eO), (CY HB.out eN), (CY HB.out eM), (CY HB.out eL), (CY HB.out eK), (CY HB.out eJ), (CY HB.out eI), (CY HB.out eH), (CY HB.out eG), (CY HB.out eF), (CY HB.out dR)⟩ (fun aI => ?_)
               clear hK K
               refine nm (some 92) ?_
               refine pv aH 6 93 (tf 7 31) ?_
               refine pv aH 7 94 (tf 8 30) ?_
               refine pv aH 8 95 (tf 9 29) ?_
               refine pv aH 10 97 (tr [9, 1, 1, 27]) ?_
               refine pv aH 14 101 (tr [9, 1, 1, 3, 1, 23]) ?_
               refine tk 9 (some 96) (tr [11, 3, 1, 23]) (take_ofW aH.out dS.out (by kernel_rfl)) aI ?_
               refine pv aH 11 98 (tr [12, 2, 1, 23]) ?_
               refine pv aH 12 99 (tr [13, 1, 1, 23]) ?_
               refine tk 13 (some 100) (tf 15 23) (take_ofW aH.out dS.out (by kernel_rfl)) aI ?_
               refine tk 15 (some 102) (tf 16 22) (take_ofW aH.out dS.out (by kernel_rfl)) aI ?_
               refine pv aH 16 103 (tf 17 21) ?_
               refine pv aH 17 104 (tf 18 20) ?_
               refine pv aH 18 105 (tf 19 19) ?_
               refine pv aH 19 106 (tf 20 18) ?_
               refine pv aH 20 107 (tf 21 17) ?_
               refine pv aH 21 108 (tf 22 16) ?_
               refine pw aH 22 109 (tf 23 15) ?_
               refine pw aH 23 110 (tf 24 14) ?_
               refine pw aH 24 111 (tf 25 13) ?_
               refine pw aH 25 112 (tf 26 12) ?_
               refine pw aH 26 113 (tf 27 11) ?_
               refine pw aH 27 114 (tf 28 10) ?_
               refine pw aH 28 115 (tf 29 9) ?_
               refine pw aH 29 116 (tf 30 8) ?_
               refine pw aH 30 117 (tf 31 7) ?_
               refine pw aH 31 118 (tf 32 6) ?_
               refine pw aH 32 119 (tf 33 5) ?_
               refine pw aH 33 120 (tf 34 4) ?_
               refine pw aH 34 121 (tf 35 3) ?_
               refine pw aH 35 122 (tf 36 2) ?_
               refine pv aH 36 123 (tf 37 1) ?_
               refine pv aH 37 124 (tf 38 0) ?_
               refine done_ (done_of aH.out (by kernel_rfl)) ?_
               try go_wp2
               go_meet
               case rel => exact ⟨_, (false), (by first | rfl | (simp; done) | (simp [*]; done)), H', ⟨by have := HJ1.out; have := HK2.out; have := HK3.out; first | omega | exact Nat.le_refl _⟩, ⟨KB aG⟩, ⟨K1 HB aM.out⟩⟩
            ·replace oA := Bool.eq_false_iff.mpr oA
             subst oA
             have H1 := nf H
             clear H
             have H := H1
             clear H1
             have H' := Aside0.mk H
             clear H
             try go_wp2
             replace aG := am (blk_drew aG.out)
             replace HB := am (below_drew1 HB.out)
             have fG : 0 ≤ (aB : Int) := OD
             have fH : aB < (aF.length : Int) := OD
             obtain ⟨aD, dA, dB, iA, bB, bC, bD, bE, bF, bG, bH, bI, bJ, bK, aL, cK, cL⟩ := at_T50 fJ.out aB fG fH
             have cM := aL
             have dC := bK
             have dD := bJ
             have dE := bI
             have dF := bH
             have dG := bG
             have dH := bF
             have dI := bE
             have dJ := bD
             have dK := bC
             have dL := bB
             cases iA
             replace bB := CX HB.out bB
             replace bC := CX HB.out bC
             replace bD := CX HB.out bD
             replace bE := CX HB.out bE
             replace bF := CX HB.out bF
             replace bG := CX HB.out bG
             replace bH := CX HB.out bH
             replace bI := CX HB.out bI
             replace bJ := CX HB.out bJ
             replace bK := CX HB.out bK
             replace aL := CX HB.out aL
             have cN := Aside0.mk cL
             have dU := Aside0.mk cK
             clear cL cK
             replace fG := eq_true fG
             replace fH := eq_true fH
             refine start_ (n := 38) (S := fun w' => ce6 w' eP (.int .i64 aK) (.slice fA aZ.length fB) (.int .i64 aN) (.slice fC bA.length fD) (.slice fO aE.length fE) (.slice (some aD) aF.length fF) (w'.cell? (aD.add ((aB).toNat * 11)) = some (.int .i64 ((rd_T50 aF aB).f0)) ∧ w'.cell? ⟨(aD.add ((aB).toNat * 11)).block, (aD.add ((aB).toNat * 11)).off + 1, none⟩ = some (.int .i64 ((rd_T50 aF aB).f1)) ∧ w'.cell? ⟨(aD.add ((aB).toNat * 11)).block, (aD.add ((aB).toNat * 11)).off + 2, none⟩ = some (.string ((rd_T50 aF aB).f2)) ∧ w'.cell? ⟨(aD.add ((aB).toNat * 11)).block, (aD.add ((aB).toNat * 11)).off + 3, none⟩ = some (.string ((rd_T50 aF aB).f3)) ∧ w'.cell? ⟨(aD.add ((aB).toNat * 11)).block, (aD.add ((aB).toNat * 11)).off + 4, none⟩ = some (.int .i64 ((rd_T50 aF aB).f4)) ∧ w'.cell? ⟨(aD.add ((aB).toNat * 11)).block, (aD.add ((aB).toNat * 11)).off + 5, none⟩ = some (.int .i64 ((rd_T50 aF aB).f5)) ∧ w'.cell? ⟨(aD.add ((aB).toNat * 11)).block, (aD.add ((aB).toNat * 11)).off + 6, none⟩ = some (.int .i64 ((rd_T50 aF aB).f6)) ∧ w'.cell? ⟨(aD.add ((aB).toNat * 11)).block, (aD.add ((aB).toNat * 11)).off + 7, none⟩ = some (.int .i64 ((rd_T50 aF aB).f7)) ∧ w'.cell? ⟨(aD.add ((aB).toNat * 11)).block, (aD.add ((aB).toNat * 11)).off + 8, none⟩ = some (.int .i64 ((rd_T50 aF aB).f8)) ∧ w'.cell? ⟨(aD.add ((aB).toNat * 11)).block, (aD.add ((aB).toNat * 11)).off + 9, none⟩ = some (.int .i64 ((rd_T50 aF aB).f9.f0)) ∧ w'.cell? ⟨(aD.add ((aB).toNat * 11)).block, (aD.add ((aB).toNat * 11)).off + 10, none⟩ = some (.slice dA ((rd_T50 aF aB).f9.f1).length dB))) (ds := []) (tf 0 38) (by kernel_rfl) rfl rfl ⟨z0 _ aG.out, z1 _ aG.out, z2 _ aG.out, z3 _ aG.out, z4 _ aG.out, z5 _ aG.out, (CY HB.out dL), (CY HB.out dK), (CY HB.out dJ), (CY HB.out dI), (CY HB.out dH), (CY HB.out dG), (CY HB.out dF), (CY HB.out dE), (CY HB.out dD), (CY HB.out dC), (CY HB.out cM)⟩ (fun aI => ?_); refine with_tabW spec_GateOk.tab11 spec_GateOk.bits11 (fun aH dS => ?_)
             generalize wr.drew = qW at aG HB cN bB bC aL bD bE bF bG bH bI bJ bK aI ⊢
             refine pv aH 0 87 (tf 1 37) ?_
             refine pv aH 2 89 (tr [1, 1, 1, 35]) ?_
             refine tk 1 (some 88) (tf 3 35) (take_ofW aH.out dS.out (by kernel_rfl)) aI ?_
             refine pv aH 3 90 (tf 4 34) ?_
             refine tk 4 (some 91) (tf 5 33) (take_ofW aH.out dS.out (by kernel_rfl)) aI ?_
             refine one_ (i := 5) (N := some 92) (tf 6 32) rfl rfl (one_of aH.out (by kernel_rfl)) (by decide) (fun K hK => ?_)
             refine goes_ Tryz.func38 (by kernel_rfl) rfl #[.agg #[.int .i64 ((rd_T50 aF aB).f0), .int .i64 ((rd_T50 aF aB).f1), .string ((rd_T50 aF aB).f2), .string ((rd_T50 aF aB).f3), .int .i64 ((rd_T50 aF aB).f4), .int .i64 ((rd_T50 aF aB).f5), .int .i64 ((rd_T50 aF aB).f6), .int .i64 ((rd_T50 aF aB).f7), .int .i64 ((rd_T50 aF aB).f8), .int .i64 ((rd_T50 aF aB).f9.f0), .slice dA ((rd_T50 aF aB).f9.f1).length dB]] (by rfl) rfl rfl MT ?_
             with_reducible refine (spec_SaOk.calls k3 ((rd_T50 aF aB).f0) ((rd_T50 aF aB).f1) ((rd_T50 aF aB).f2) ((rd_T50 aF aB).f3) ((rd_T50 aF aB).f4) ((rd_T50 aF aB).f5) ((rd_T50 aF aB).f6) ((rd_T50 aF aB).f7) ((rd_T50 aF aB).f8) ((rd_T50 aF aB).f9.f0) _ _ ((rd_T50 aF aB).f9.f1) false _ ?_ ?_ nZ.out).mono ?_
             exact KD cN HB
             exact dU.out
             rintro e qX ⟨rfl, hb⟩
             refine ⟨_, rfl, ?_⟩
             replace aG := am (BB aG hb)
             replace HB := bl (K1 HB aM.out) hb
             (try clear hb)
             (try clear hb2)
             (try clear hk)
             (try clear hi)
             refine hK.out _ _ ⟨z0 _ aG.out, z1 _ aG.out, z2 _ aG.out, z3 _ aG.out, z4 _ aG.out, z5 _ aG.out, (CY HB.out dL), (CY HB.out dK), (CY HB.out dJ), (CY HB.out dI), (CY HB.out dH), (CY HB.out dG), (CY HB.out dF), (CY HB.out dE), (CY HB.out dD), (CY HB.out dC), (CY HB.out cM)⟩ (fun aI => ?_)
             clear hK K
             refine nm (some 92) ?_
             refine pv aH 6 93 (tf 7 31) ?_
             refine pv aH 7 94 (tf 8 30) ?_
             refine pw aH 8 95 (tf 9 29) ?_
             refine pw aH 9 96 (tf 10 28) ?_
             refine pw aH 10 97 (tf 11 27) ?_
             refine pw aH 11 98 (tf 12 26) ?_
             refine pw aH 12 99 (tf 13 25) ?_
             refine pw aH 13 100 (tf 14 24) ?_
             refine pw aH 14 101 (tf 15 23) ?_
             refine pw aH 15 102 (tf 16 22) ?_
             refine pw aH 16 103 (tf 17 21) ?_
             refine pv aH 17 104 (tf 18 20) ?_
             refine pv aH 18 105 (tf 19 19) ?_
             refine pw aH 19 106 (tf 20 18) ?_
             refine pw aH 20 107 (tf 21 17) ?_
             refine pw aH 21 108 (tf 22 16) ?_
             refine pw aH 22 109 (tf 23 15) ?_
             refine pw aH 23 110 (tf 24 14) ?_
             refine pw aH 24 111 (tf 25 13) ?_
             refine pw aH 25 112 (tf 26 12) ?_
             refine pw aH 26 113 (tf 27 11) ?_
             refine pw aH 27 114 (tf 28 10) ?_
             refine pw aH 28 115 (tf 29 9) ?_
             refine pw aH 29 116 (tf 30 8) ?_
             refine pw aH 30 117 (tf 31 7) ?_
             refine pw aH 31 118 (tf 32 6) ?_
             refine pw aH 32 119 (tf 33 5) ?_
             refine pw aH 33 120 (tf 34 4) ?_
             refine pw aH 34 121 (tf 35 3) ?_
             refine pw aH 35 122 (tf 36 2) ?_
             refine pw aH 36 123 (tf 37 1) ?_
             refine pv aH 37 124 (tf 38 0) ?_
             refine done_ (done_of aH.out (by kernel_rfl)) ?_
             try go_wp2
             go_meet
             case rel => exact ⟨_, (true), (by first | rfl | (simp; done) | (simp [*]; done)), H', ⟨by have := HJ1.out; have := HK2.out; have := HK3.out; first | omega | exact Nat.le_refl _⟩, ⟨KB aG⟩, ⟨K1 HB aM.out⟩⟩
           ·rw [if_neg nW] at H
            exact absurd H (by simp)
          case rest =>
           clear mY
           try clear c1
           try clear p1
           try clear q1
           try clear pV
           try clear p2
           try clear c3
           try clear c4
           try clear pW
           try clear pM
           try clear pN
           try clear nU
           try clear qY
           try clear qZ
           try clear rA
           try clear qG
           try clear pX
           try clear nW
           try clear oA
           try clear bB
           try clear bC
           try clear aL
           try clear bD
           try clear bE
           try clear bF
           try clear bG
           try clear bH
           try clear bI
           try clear bJ
           try clear bK
           try clear bW
           try clear bX
           try clear bL
           try clear bY
           try clear bZ
           try clear cA
           try clear cB
           try clear cC
           try clear cD
           try clear cE
           try clear cF
           try clear fG
           try clear fQ
           try clear fH
           try clear fR
           obtain ⟨kq, gM, rfl, HA, HJ42, aG, HB⟩ := hcut
           cases kq with
           | zero => exact absurd HA.out (by simp [spec_GateOk.j4])
           | succ kj42 =>
            have H := HA.out
            clear HA
            simp only [spec_GateOk.j4] at H
            by_cases pB : gM = true
            ·subst pB
             have H1 := pf H
             clear H
             have H := H1
             clear H1
             obtain rfl := sj H
             go_wp2
             go_ret
             exact ⟨ER, K1 HB aM.out⟩
            ·replace pB := Bool.eq_false_iff.mpr pB
             subst pB
             have H1 := nf H
             clear H
             have H := H1
             clear H1
             have H' := Aside0.mk H
             clear H
             go_wp2
             go_roundg kj42
             case measure => have := HJ1.out; have := HK2.out; have := HK3.out; have := HJ42.out; omega
             case rel => exact ⟨(wrap64 (aB + 1)), (by first | rfl | (simp; done) | (simp [*]; done)), H', ⟨by have := HJ1.out; have := HK2.out; have := HK3.out; have := HJ42.out; omega⟩, ⟨KB aG⟩, ⟨K1 HB aM.out⟩⟩
         ·rw [if_neg nH] at H
          have c42b0 : decide (aB < (aF.length : Int)) = false := decide_eq_false nH
          clear nH
          obtain rfl := sj H
          have ⟨_, _, _, _, _, _, _⟩ := y6 wr aG.out
          go_wp2
          go_ret
          exact ⟨ER, K1 HB aM.out⟩
def spec_l10Sas.l0 : Nat → List (S50) → List (S50) → Int → Option ((List (S50)))
 | 0, _, _, _ => none
 | k + 1, x0, x3, x4 => if x4 < (x0.length : Int) then (if 0 ≤ x4 then ((spec_l9Copy.f ((rd_T50 x0 x4).f0) ((rd_T50 x0 x4).f1) ((rd_T50 x0 x4).f2) ((rd_T50 x0 x4).f3) ((rd_T50 x0 x4).f4) ((rd_T50 x0 x4).f5) ((rd_T50 x0 x4).f6) ((rd_T50 x0 x4).f7) ((rd_T50 x0 x4).f8) ((rd_T50 x0 x4).f9.f0) ((rd_T50 x0 x4).f9.f1)).bind fun bt105 => (if x3.length < 1172812402961 then (spec_l10Sas.l0 k x0 (x3 ++ [(⟨bt105.1, bt105.2.1, bt105.2.2.1, bt105.2.2.2.1, bt105.2.2.2.2.1, bt105.2.2.2.2.2.1, bt105.2.2.2.2.2.2.1, bt105.2.2.2.2.2.2.2.1, bt105.2.2.2.2.2.2.2.2.1, (⟨bt105.2.2.2.2.2.2.2.2.2.1, bt105.2.2.2.2.2.2.2.2.2.2⟩ : S48)⟩ : S50)]) (wrap64 (x4 + 1))) else (none))) else (none)) else (some x3)
def spec_l10Sas.f (k : Nat) (l0 : List (S50)) : Option ((List (S50))) := spec_l10Sas.l0 k l0 (([] : List (S50))) 0
theorem spec_l10Sas.calls (k : Nat) (A0 : Option Addr) (c0 : Nat) (l0 : List (S50)) (r : List (S50)) (w : World) (cA : Kd.C k50 w A0 l0.length l0) (cB : l0.length ≤ c0) (h : spec_l10Sas.f k l0 = some r) :
  Calls Tryz.prog 39 #[.slice A0 l0.length c0] w fun e w' => ∃ v0_ : Value, e = .returned (v0_) ∧ Kd.S k50 50 w' w.heap.size (fun _ => True) v0_ r ∧ Below w.heap.size w w' := by
 have cE := Tryz.underlying50
 have cF := Aside0.mk cA
 have cJ := Aside0.mk cB
 clear cA cB
 have HB := am (Below.refl w.heap.size w)
 have H : (spec_l10Sas.l0 k l0 (([] : List (S50))) 0) = some r := h
 clear h
 obtain ⟨bQ, aC⟩ : ∃ y_ : List (S50), y_ = (([] : List (S50))) := ⟨_, rfl⟩
 replace H : (spec_l10Sas.l0 k l0 bQ 0) = some r := by first | (rw [aC]; with_reducible exact H) | (have H2_ := (Option.bind_some _ _).symm.trans H; rw [aC]; with_reducible exact H2_) | (have H2_ := (Option.bind_some _ _).symm.trans H; with_reducible exact H2_) | with_reducible exact H | (rw [aC]; exact H) | exact H
 have Ny101 := Aside0.mk aC
 clear aC
 have H' := Aside0.mk H
 clear H
 go_enter Tryz.func39, Tryz.ntmps39
 go_wp2_with (first | ((with_reducible refine gate_dst (N := 5) rfl ?_); refine Kd.S_lit k50 _ 50 ?hg (N := 5) ?hd (xs := ([] : List (S50))) (inner := []) (ok := fun _ => True) (okp := fun _ => True) ?hr ?hp (fun _ hk => hk) trivial (Below.refl _ _) (Nat.le_refl _) (by simp) ?_; (case hd => rfl); (case hg => rfl); (case hr => first | (go_simp; done) | (go_simp; rfl)); (case hp => exact (Reps.none _ _)); intro cG w2 bR hb hg_ hnew_; clear hg_ hnew_; (first | rw [← Ny101.out] at bR | (simp only [Int.reduceToNat] at bR; rw [← Ny101.out] at bR)); have bS := am (Kd.S_lower bR (below_size (KL HB))); replace HB := bl (KL HB) hb; clear hb bR))
 go_loopg [3, 4] k (fun kq v3 v4 w' => ∃ (aD : List (S50)) (aA : Int), v4 = .int .i64 aA ∧ Aside0 (spec_l10Sas.l0 kq l0 aD aA = some r) ∧ Aside0 (kq ≤ k) ∧ Aside0 (Kd.S k50 50 w' w.heap.size (fun _ => True) v3 aD) ∧ Aside0 (Below w.heap.size w w'))
 case atStart => exact ⟨(bQ), (0), (by first | rfl | (simp; done) | (simp [*]; done)), H', ⟨Nat.le_refl _⟩, ⟨by refine KX ?_; exact bS.out⟩, ⟨KL HB⟩⟩
 case round =>
  clear H'
  try clear p2
  try clear c3
  obtain ⟨aD, aA, rfl, HA, HK1, aJ, HB⟩ := hrel
  cases gk with
  | zero => exact absurd HA.out (by simp [spec_l10Sas.l0])
  | succ k1 =>
   have H := HA.out
   clear HA
   simp only [spec_l10Sas.l0] at H
   by_cases c4 : aA < (l0.length : Int)
   ·rw [if_pos c4] at H
    have c4b0 : decide (aA < (l0.length : Int)) = true := decide_eq_true c4
    clear c4
    by_cases c5 : 0 ≤ aA
    ·rw [if_pos c5] at H
     have c5b0 : decide (0 ≤ aA) = true := decide_eq_true c5
     clear c5
     replace H := bm H
     obtain ⟨⟨bA, bB, bC, bD, bE, bF, bG, bH, bI, bJ, aK⟩, cC, H⟩ := H
     replace H : (if aD.length < 1172812402961 then (spec_l10Sas.l0 k1 l0 (aD ++ [(⟨bA, bB, bC, bD, bE, bF, bG, bH, bI, (⟨bJ, aK⟩ : S48)⟩ : S50)]) (wrap64 (aA + 1))) else (none)) = some r := H
     have A6 := Aside0.mk cC
     clear cC
     by_cases c7 : aD.length < 1172812402961
     ·rw [if_pos c7] at H
      have LMc7 := Aside0.mk c7
      clear c7
      obtain ⟨bT, aE⟩ : ∃ y_ : List (S50), y_ = (aD ++ [(⟨bA, bB, bC, bD, bE, bF, bG, bH, bI, (⟨bJ, aK⟩ : S48)⟩ : S50)]) := ⟨_, rfl⟩
      replace H : (spec_l10Sas.l0 k1 l0 bT (wrap64 (aA + 1))) = some r := by first | (rw [aE]; with_reducible exact H) | (have H2_ := (Option.bind_some _ _).symm.trans H; rw [aE]; with_reducible exact H2_) | (have H2_ := (Option.bind_some _ _).symm.trans H; with_reducible exact H2_) | with_reducible exact H | (rw [aE]; exact H) | exact H
      have Ny118 := Aside0.mk aE
      clear aE
      have H' := Aside0.mk H
      clear H
      have bO : 0 ≤ (aA : Int) := OD
      have bP : aA < (l0.length : Int) := OD
      obtain ⟨_, bM, bN, bX, aM, aN, aQ, aR, aT, aU, aV, aW, aX, aY, aG, aH, aI⟩ := at_T50 cF.out aA bO bP
      cases bX
      replace aM := CX HB.out aM
      replace aN := CX HB.out aN
      replace aQ := CX HB.out aQ
      replace aR := CX HB.out aR
      replace aT := CX HB.out aT
      replace aU := CX HB.out aU
      replace aV := CX HB.out aV
      replace aW := CX HB.out aW
      replace aX := CX HB.out aX
      replace aY := CX HB.out aY
      replace aG := CX HB.out aG
      have bK := Aside0.mk aI
      have bL := Aside0.mk aH
      clear aI aH
      replace bO := eq_true bO
      replace bP := eq_true bP
      go_wp2_with (first | ((with_reducible refine gate_callee (f := 16) rfl ?_); refine goesL_ (some 17) rfl rfl Tryz.func16 (by kernel_rfl) rfl #[.agg #[.int .i64 ((rd_T50 l0 aA).f0), .int .i64 ((rd_T50 l0 aA).f1), .string ((rd_T50 l0 aA).f2), .string ((rd_T50 l0 aA).f3), .int .i64 ((rd_T50 l0 aA).f4), .int .i64 ((rd_T50 l0 aA).f5), .int .i64 ((rd_T50 l0 aA).f6), .int .i64 ((rd_T50 l0 aA).f7), .int .i64 ((rd_T50 l0 aA).f8), .int .i64 ((rd_T50 l0 aA).f9.f0), .slice bM ((rd_T50 l0 aA).f9.f1).length bN]] rfl MT ?_; (with_reducible refine (spec_l9Copy.calls ((rd_T50 l0 aA).f0) ((rd_T50 l0 aA).f1) ((rd_T50 l0 aA).f2) ((rd_T50 l0 aA).f3) ((rd_T50 l0 aA).f4) ((rd_T50 l0 aA).f5) ((rd_T50 l0 aA).f6) ((rd_T50 l0 aA).f7) ((rd_T50 l0 aA).f8) ((rd_T50 l0 aA).f9.f0) _ _ ((rd_T50 l0 aA).f9.f1) bA bB bC bD bE bF bG bH bI bJ aK _ ?_ ?_ A6.out).mono ?_); exact KD bK HB; exact bL.out; rintro e w8 ⟨cH, rfl, bY, hb⟩; refine ⟨_, rfl, ?_⟩; replace aJ := am (Kd.S_elder' (by refine KX ?_; exact aJ.out) (Kd.R_base bY) hb); have aZ := am (Kd.R_lower bY (below_size (KL HB))); replace HB := bl (KL HB) hb; (try clear hb); (try clear hb2); (try clear hk); (try clear hi); (try clear bY); obtain ⟨bU, bV, bZ⟩ := Kd.R_slice aZ.out; subst bZ) | ((with_reducible refine gate_builtin (b := .append) (xs := #[.tmp 12, .tmp 18]) rfl ?_); at_builtin; refine Kd.S_append k50 (w0 := w) w.heap.size rfl (.tmp 12) (.tmp 18) 34 50 (.agg #[(.int .i64 0), (.int .i64 0), (.string ⟨#[]⟩), (.string ⟨#[]⟩), (.int .i64 0), (.int .i64 0), (.int .i64 0), (.int .i64 0), (.int .i64 0), (.int .i64 0), (.slice none 0 0)]) 120 rfl Tryz.underlying34 info50 rfl (by decide) (by omega) u3 aD (⟨bA, bB, bC, bD, bE, bF, bG, bH, bI, (⟨bJ, aK⟩ : S48)⟩ : S50) [.int .i64 bA, .int .i64 bB, .string bC, .string bD, .int .i64 bE, .int .i64 bF, .int .i64 bG, .int .i64 bH, .int .i64 bI, .int .i64 bJ, .slice bU aK.length bV] (fun _ => True) (fun k_ => some k_ = (.slice bU aK.length bV : Value).ownBlock) rfl rfl ?aP (fun k_ hk_ => ((Kd.R_mono (ok' := fun k_ => ((fun _ => True)) k_ ∧ some k_ ≠ (u3 : Value).ownBlock) (Kd.R_apart' (aZ.out) (Kd.S_typed aJ.out) (by decide)) (fun k_ hk => ⟨trivial, hk.2⟩))).1 k_ hk_.symm) ?aF ?aO ?aB ?aS ?aL ?_; (case aP => exact k50_mkM _ _ _ (⟨bA, bB, bC, bD, bE, bF, bG, bH, bI, (⟨bJ, aK⟩ : S48)⟩ : S50) (Kd.R_mono (Kd.R_tight rfl (Kd.R_mono (ok' := fun k_ => ((fun _ => True)) k_ ∧ some k_ ≠ (u3 : Value).ownBlock) (Kd.R_apart' (aZ.out) (Kd.S_typed aJ.out) (by decide)) (fun k_ hk => ⟨trivial, hk.2⟩))) (fun _ h_ => h_))); (case aB => exact (KL HB)); (case aF => exact (fun _ _ => trivial)); (case aO => exact (by refine KX ?_; exact Kd.S_mono aJ.out (fun k_ hk => ⟨trivial, fun e_ => hk.2 e_⟩))); (case aS => exact (below_size (KL HB))); (case aL => have := LMc7.out; omega); intro cI w9 ho hb hg hat; rw [← Ny118.out] at ho; replace HB := am (hb); have bW := am (ho); clear aJ aZ; clear ho hb hg hat))
      go_roundg k1
      case measure => have := HK1.out; omega
      case rel => exact ⟨(bT), (wrap64 (aA + 1)), (by first | rfl | (simp; done) | (simp [*]; done)), H', ⟨by have := HK1.out; omega⟩, ⟨by refine KX ?_; exact bW.out⟩, ⟨KL HB⟩⟩
     ·rw [if_neg c7] at H
      exact absurd H (by simp)
    ·rw [if_neg c5] at H
     exact absurd H (by simp)
   ·rw [if_neg c4] at H
    have c4b0 : decide (aA < (l0.length : Int)) = false := decide_eq_false c4
    clear c4
    obtain rfl := sj H
    go_wp2
    go_ret
    exact ⟨_, ER, by refine KX ?_; exact aJ.out, KL HB⟩
def spec_l10Copy.f (k : Nat) (a0_0 : Int) (l0_1 : List (S77)) (a0_2 : Int) (l0_3 : List (S91)) (l0_4 : List (S50)) (l0_5 : List (S50)) : Option (Int × (List (S77)) × Int × (List (S91)) × (List (S50)) × (List (S50))) := (some (([] : List (S77)) : List (S77))).bind fun y103 => (if y103.length + l0_1.length < 2199023255552 then ((some (([] : List (S91)) : List (S91))).bind fun y109 => (if y109.length + l0_3.length < 4398046511104 then ((spec_l10Sas.f k l0_4).bind fun t115 => ((spec_l10Sas.f k l0_5).bind fun t118 => (some (a0_0, (y103 ++ l0_1), a0_2, (y109 ++ l0_3), t115, t118)))) else (none))) else (none))
def spec_l10Copy.T1 : Bool × List (List Nat × List Nat) := (true, [([], []), ([0], [0]), ([], []), ([], []), ([3], [3]), ([2, 4], [2, 4]), ([], []), ([6], [6]), ([7], [7]), ([], []), ([], []), ([10], [10]), ([11], [11]), ([9, 12, 5], [9, 12]), ([8, 13], [8, 13]), ([], []), ([15], [15]), ([16, 13], [16]), ([], []), ([18], [18]), ([19, 17], [19]), ([1, 5, 14, 17, 20], [1, 5, 14, 17, 20]), ([21, 20, 0, 1, 2, 3, 4, 5, 6, 7, 8, 9, 10, 11, 12, 13, 14, 15, 16, 17, 18, 19, 20, 21], [21])])
def spec_l10Copy.B1 : List Nat := [0, 1, 0, 0, 8, 28, 0, 64, 192, 0, 0, 1024, 3072, 7740, 16380, 0, 32768, 114236, 0, 262144, 1031740, 2097151, 4194303]
theorem spec_l10Copy.tab1 : rtab .any (opsOf Tryz.f15 1) = spec_l10Copy.T1 := by kernel_rfl
theorem spec_l10Copy.bits1 : waitsOk spec_l10Copy.T1.2 spec_l10Copy.B1 = true := by kernel_rfl
theorem spec_l10Copy.calls (k : Nat) (aJ : Int) (bH : Option Addr) (bI : Nat) (aT : List (S77)) (aK : Int) (bJ : Option Addr) (bK : Nat) (aM : List (S91)) (bC : Option Addr) (bD : Nat) (aW : List (S50)) (bE : Option Addr) (bF : Nat) (aV : List (S50)) (r1 : Int) (r2 : List (S77)) (r3 : Int) (r4 : List (S91)) (r5 : List (S50)) (r6 : List (S50)) (w : World) (cJ : Kd.C k77 w bH aT.length aT) (cK : aT.length ≤ bI) (cL : Kd.C k91 w bJ aM.length aM) (cM : aM.length ≤ bK) (cN : Kd.C k50 w bC aW.length aW) (cO : aW.length ≤ bD) (cP : Kd.C k50 w bE aV.length aV) (cQ : aV.length ≤ bF) (h : spec_l10Copy.f k aJ aT aK aM aW aV = some (r1, r2, r3, r4, r5, r6)) :
  Calls Tryz.prog 15 #[.agg #[.int .i64 aJ, .slice bH aT.length bI, .int .i64 aK, .slice bJ aM.length bK, .slice bC aW.length bD, .slice bE aV.length bF]] w fun e w' => ∃ v1_ v3_ v4_ v5_ : Value, e = .returned (.agg #[.int .i64 r1, v1_, .int .i64 r3, v3_, v4_, v5_]) ∧ Kd.R k77 77 w' w.heap.size (fun _ => True) v1_ r2 ∧ Kd.R k91 91 w' w.heap.size (fun _ => True) v3_ r4 ∧ Kd.S k50 50 w' w.heap.size (fun k_ => some k_ ≠ (v5_ : Value).ownBlock) v4_ r5 ∧ Kd.S k50 50 w' w.heap.size (fun k_ => some k_ ≠ (v4_ : Value).ownBlock) v5_ r6 ∧ Below w.heap.size w w' := by
 have dM := Tryz.underlying36
 have dN := Tryz.underlying33
 have cE := Aside0.mk cJ
 have dH := Aside0.mk cK
 clear cJ cK
 have cW := Aside0.mk cL
 have dI := Aside0.mk cM
 clear cL cM
 have cX := Aside0.mk cN
 have cY := Aside0.mk cO
 clear cN cO
 have cZ := Aside0.mk cP
 have dA := Aside0.mk cQ
 clear cP cQ
 have HB := am (Below.refl w.heap.size w)
 have H : ((some (([] : List (S77)) : List (S77))).bind fun bN => (if bN.length + aT.length < 2199023255552 then ((some (([] : List (S91)) : List (S91))).bind fun bA => (if bA.length + aM.length < 4398046511104 then ((spec_l10Sas.f k aW).bind fun aY => ((spec_l10Sas.f k aV).bind fun aZ => (some (aJ, (bN ++ aT), aK, (bA ++ aM), aY, aZ)))) else (none))) else (none))) = some (r1, r2, r3, r4, r5, r6) := h
 clear h
 obtain ⟨bN, bS⟩ : ∃ y_ : List (S77), y_ = (([] : List (S77))) := ⟨_, rfl⟩
 replace H : (if bN.length + aT.length < 2199023255552 then ((some (([] : List (S91)) : List (S91))).bind fun bA => (if bA.length + aM.length < 4398046511104 then ((spec_l10Sas.f k aW).bind fun aY => ((spec_l10Sas.f k aV).bind fun aZ => (some (aJ, (bN ++ aT), aK, (bA ++ aM), aY, aZ)))) else (none))) else (none)) = some (r1, r2, r3, r4, r5, r6) := by first | (rw [bS]; with_reducible exact H) | (have H2_ := (Option.bind_some _ _).symm.trans H; rw [bS]; with_reducible exact H2_) | (have H2_ := (Option.bind_some _ _).symm.trans H; with_reducible exact H2_) | with_reducible exact H | (rw [bS]; exact H) | exact H
 have Ny103 := Aside0.mk bS
 clear bS
 by_cases c2 : bN.length + aT.length < 2199023255552
 ·rw [if_pos c2] at H
  have LMc2 := Aside0.mk c2
  clear c2
  obtain ⟨bB, bT⟩ : ∃ y_ : List (S77), y_ = (bN ++ aT) := ⟨_, rfl⟩
  replace H : ((some (([] : List (S91)) : List (S91))).bind fun bA => (if bA.length + aM.length < 4398046511104 then ((spec_l10Sas.f k aW).bind fun aY => ((spec_l10Sas.f k aV).bind fun aZ => (some (aJ, bB, aK, (bA ++ aM), aY, aZ)))) else (none))) = some (r1, r2, r3, r4, r5, r6) := by first | (rw [bT]; with_reducible exact H) | (have H2_ := (Option.bind_some _ _).symm.trans H; rw [bT]; with_reducible exact H2_) | (have H2_ := (Option.bind_some _ _).symm.trans H; with_reducible exact H2_) | with_reducible exact H | (rw [bT]; exact H) | exact H
  have Ny106 := Aside0.mk bT
  clear bT
  obtain ⟨bA, bU⟩ : ∃ y_ : List (S91), y_ = (([] : List (S91))) := ⟨_, rfl⟩
  replace H : (if bA.length + aM.length < 4398046511104 then ((spec_l10Sas.f k aW).bind fun aY => ((spec_l10Sas.f k aV).bind fun aZ => (some (aJ, bB, aK, (bA ++ aM), aY, aZ)))) else (none)) = some (r1, r2, r3, r4, r5, r6) := by first | (rw [bU]; with_reducible exact H) | (have H2_ := (Option.bind_some _ _).symm.trans H; rw [bU]; with_reducible exact H2_) | (have H2_ := (Option.bind_some _ _).symm.trans H; with_reducible exact H2_) | with_reducible exact H | (rw [bU]; exact H) | exact H
  have Ny109 := Aside0.mk bU
  clear bU
  by_cases c3 : bA.length + aM.length < 4398046511104
  ·rw [if_pos c3] at H
   have LMc3 := Aside0.mk c3
   clear c3
   obtain ⟨bO, bV⟩ : ∃ y_ : List (S91), y_ = (bA ++ aM) := ⟨_, rfl⟩
   replace H : ((spec_l10Sas.f k aW).bind fun aY => ((spec_l10Sas.f k aV).bind fun aZ => (some (aJ, bB, aK, bO, aY, aZ)))) = some (r1, r2, r3, r4, r5, r6) := by first | (rw [bV]; with_reducible exact H) | (have H2_ := (Option.bind_some _ _).symm.trans H; rw [bV]; with_reducible exact H2_) | (have H2_ := (Option.bind_some _ _).symm.trans H; with_reducible exact H2_) | with_reducible exact H | (rw [bV]; exact H) | exact H
   have Ny112 := Aside0.mk bV
   clear bV
   replace H := bm H
   obtain ⟨aY, dJ, H⟩ := H
   replace H : ((spec_l10Sas.f k aV).bind fun aZ => (some (aJ, bB, aK, bO, aY, aZ))) = some (r1, r2, r3, r4, r5, r6) := H
   have A4 := Aside0.mk dJ
   clear dJ
   replace H := bm H
   obtain ⟨aZ, dK, H⟩ := H
   replace H : (some (aJ, bB, aK, bO, aY, aZ)) = some (r1, r2, r3, r4, r5, r6) := H
   have A5 := Aside0.mk dK
   clear dK
   simp only [Option.some.injEq, Prod.mk.injEq] at H
   obtain ⟨rfl, rfl, rfl, rfl, rfl, rfl⟩ := H
   go_enter Tryz.func15, Tryz.ntmps15
   try go_wp2_with (first | ((with_reducible refine gate_dst (N := 1) rfl ?_); refine box_event rfl (N := 1) rfl (cs := #[.int .i64 aJ, .slice bH aT.length bI, .int .i64 aK, .slice bJ aM.length bK, .slice bC aW.length bD, .slice bE aV.length bF]) (t := 36) BX ?_; intro aX hg w6 cF hb; have aA := am (cF); have dB := am (GH HB hg); have aH := dB; replace HB := bl (KL HB) hb; clear hb cF hg) | ((with_reducible refine gate_dst (N := 2) rfl ?_); refine box_event rfl (N := 2) rfl (cs := #[.int .i64 0, .slice none 0 0, .int .i64 0, .slice none 0 0, .slice none 0 0, .slice none 0 0]) (t := 36) BX ?_; intro aD hg w7 cF hb; have aE := am (cF); have dC := am (GH1 HB aH.out hg); have aI := dC; replace HB := bl (K1 HB aH.out) hb; have aC := am (NL aA hg); have aU := am (NG aA hg); replace aA := am (BB aA hb); clear hb cF hg))
   replace aA := am (blk_drew aA.out)
   replace aE := am (blk_drew aE.out)
   replace HB := am (below_drew1 HB.out)
   refine start_ (n := 23) (S := fun w' => de6 w' aX (.int .i64 aJ) (.slice bH aT.length bI) (.int .i64 aK) (.slice bJ aM.length bK) (.slice bC aW.length bD) (.slice bE aV.length bF)) (ds := []) (tf 0 23) (by kernel_rfl) rfl rfl ⟨z0 _ aA.out, z1 _ aA.out, z2 _ aA.out, z3 _ aA.out, z4 _ aA.out, z5 _ aA.out⟩ (fun aG => ?_); refine with_tabW spec_l10Copy.tab1 spec_l10Copy.bits1 (fun bG cS => ?_)
   generalize w7.drew = w8 at aA aE HB aG ⊢
   refine pv bG 0 3 (tf 1 22) ?_
   refine pv bG 3 6 (tr [1, 2, 1, 19]) ?_
   refine pv bG 6 9 (tr [1, 2, 1, 2, 1, 16]) ?_
   refine pv bG 7 10 (tr [1, 2, 1, 2, 2, 15]) ?_
   refine pv bG 10 13 (tr [1, 2, 1, 2, 2, 2, 1, 12]) ?_
   refine pv bG 11 14 (tr [1, 2, 1, 2, 2, 2, 2, 11]) ?_
   refine pv bG 15 18 (tr [1, 2, 1, 2, 2, 2, 2, 3, 1, 7]) ?_
   refine pv bG 18 21 (tr [1, 2, 1, 2, 2, 2, 2, 3, 1, 2, 1, 4]) ?_
   refine tk 1 (some 4) (tr [2, 1, 1, 2, 2, 2, 2, 3, 1, 2, 1, 4]) (take_ofW bG.out cS.out (by kernel_rfl)) aG ?_
   refine tk 4 (some 7) (tr [2, 1, 2, 1, 2, 2, 2, 3, 1, 2, 1, 4]) (take_ofW bG.out cS.out (by kernel_rfl)) aG ?_
   refine tk 8 (some 11) (tr [2, 1, 2, 1, 3, 1, 2, 3, 1, 2, 1, 4]) (take_ofW bG.out cS.out (by kernel_rfl)) aG ?_
   refine tk 12 (some 15) (tr [2, 1, 2, 1, 3, 1, 3, 2, 1, 2, 1, 4]) (take_ofW bG.out cS.out (by kernel_rfl)) aG ?_
   refine tk 16 (some 19) (tr [2, 1, 2, 1, 3, 1, 3, 2, 2, 1, 1, 4]) (take_ofW bG.out cS.out (by kernel_rfl)) aG ?_
   refine tk 19 (some 22) (tr [2, 1, 2, 1, 3, 1, 3, 2, 2, 1, 2, 3]) (take_ofW bG.out cS.out (by kernel_rfl)) aG ?_
   refine join_ (σ := Value × Value × Value) 6 (tr [13, 2, 2, 1, 2, 3]) (fun s_ => [(5, s_.1), (8, s_.2.1), (12, s_.2.2)]) (fun s_ w' => (w'.cell? ⟨aX, 0, none⟩ = some (.int .i64 aJ) ∧ w'.cell? ⟨aX, 1, none⟩ = some (.slice bH aT.length bI) ∧ w'.cell? ⟨aX, 2, none⟩ = some (.int .i64 aK) ∧ w'.cell? ⟨aX, 3, none⟩ = some (.slice bJ aM.length bK) ∧ w'.cell? ⟨aX, 4, none⟩ = some (.slice bC aW.length bD) ∧ w'.cell? ⟨aX, 5, none⟩ = some (.slice bE aV.length bF)) ∧ (Kd.R k77 77 w' w.heap.size (fun _ => True) s_.2.1 bB) ∧ (Kd.R k91 91 w' w.heap.size (fun _ => True) s_.2.2 bA) ∧ (w'.heap[aX]? = some (.cells #[.int .i64 aJ, .slice bH aT.length bI, .int .i64 aK, .slice bJ aM.length bK, .slice bC aW.length bD, .slice bE aV.length bF] 36 (0, 0))) ∧ (w'.heap[aD]? = some (.cells #[.int .i64 0, .slice none 0 0, .int .i64 0, .slice none 0 0, .slice none 0 0, .slice none 0 0] 36 (0, 0))) ∧ (Below w.heap.size w w')) ?_ ?_
   rotate_left
   ·intro hCont
    refine two_ (i := 2) (j := 9) (Ni := some 5) (Nj := some 12) (tr [5, 1, 3, 1, 3, 2, 2, 1, 2, 3]) (tr [2, 1, 2, 1, 7, 2, 2, 1, 2, 3]) rfl rfl rfl rfl (two_of bG.out (by kernel_rfl)) (by decide) (by decide) (fun K hK => ?_) (fun K hK => ?_)
    ·skip
     refine Kd.R_lit_step k77 _ 77 ?hg (N := 5) ?hd (xs := ([] : List (S77))) (inner := []) (ok := fun _ => True) (okp := fun _ => True) ?hr ?hp (fun _ hk => hk) trivial (Below.refl _ _) (Nat.le_refl _) (by simp) ?_; (case hd => rfl); (case hg => rfl); (case hr => first | (go_simp; done) | (go_simp; rfl)); (case hp => exact (Reps.none _ _))
     intro bW w9 bL hb hg_ hnew_
     clear hg_ hnew_
     (first | rw [← Ny103.out] at bL | (simp only [Int.reduceToNat] at bL; rw [← Ny103.out] at bL))
     have aN := am (Kd.R_lower bL (below_size (K2 HB aH.out aI.out)))
     replace aA := am (BB aA hb)
     replace aE := am (BB aE hb)
     replace HB := bl (K2 HB aH.out aI.out) hb
     clear hb bL
     refine hK.out _ _ ⟨z0 _ aA.out, z1 _ aA.out, z2 _ aA.out, z3 _ aA.out, z4 _ aA.out, z5 _ aA.out⟩ (fun aG => ?_)
     clear hK K
     refine nm (some 5) ?_
     refine two_ (i := 5) (j := 9) (Ni := some 8) (Nj := some 12) (tr [9, 1, 3, 2, 2, 1, 2, 3]) (tr [5, 1, 7, 2, 2, 1, 2, 3]) rfl rfl rfl rfl (two_of bG.out (by kernel_rfl)) (by decide) (by decide) (fun K hK => ?_) (fun K hK => ?_)
     ·skip
      refine Kd.R_append_rows_step k77 (w0 := w) w.heap.size (by rfl) (.tmp 5) (.tmp 7) 30 77 (.agg #[(.int .i64 0), (.int .i64 0), (.int .i64 0), (.int .i64 0), (.int .i64 0), (.int .i64 0), (.int .i64 0), (.int .i64 0)]) 64 rfl Tryz.underlying30 info77 rfl (by decide) (by omega) bW bN aT _ _ _ (fun _ => True) (fun _ => False) rfl rfl ?aO ?aR (fun _ _ h => h) (fun _ h => h.elim) ?aF ?aB ?aS ?aL ?_
      (case aR => exact KD cE HB)
      (case aB => exact (K2 HB aH.out aI.out))
      (case aF => exact (fun _ _ => trivial))
      (case aO => exact (KR aN))
      (case aS => exact (below_size (K2 HB aH.out aI.out)))
      (case aL => have := LMc2.out; omega)
      intro bZ dL ho hb hg hat
      rw [← Ny106.out] at ho
      replace aA := am (blk_grown (g := aX) (o := .cells #[.int .i64 aJ, .slice bH aT.length bI, .int .i64 aK, .slice bJ aM.length bK, .slice bC aW.length bD, .slice bE aV.length bF] 36 (0, 0)) (KB aA) hg (Kd.R_ne aN.out aA.out (by decide)))
      replace aE := am (blk_grown (g := aD) (o := .cells #[.int .i64 0, .slice none 0 0, .int .i64 0, .slice none 0 0, .slice none 0 0, .slice none 0 0] 36 (0, 0)) (KB aE) hg (Kd.R_ne aN.out aE.out (by decide)))
      replace HB := am (hb)
      have aQ := am (ho)
      clear aN
      clear ho hb hg hat
      refine hK.out _ _ ⟨z0 _ aA.out, z1 _ aA.out, z2 _ aA.out, z3 _ aA.out, z4 _ aA.out, z5 _ aA.out⟩ (fun aG => ?_)
      clear hK K
      refine nm (some 8) ?_
      refine one_ (i := 9) (N := some 12) (tr [13, 2, 2, 1, 2, 3]) rfl rfl (one_of bG.out (by kernel_rfl)) (by decide) (fun K hK => ?_)
      refine Kd.R_lit_step k91 _ 91 ?hg (N := 12) ?hd (xs := ([] : List (S91))) (inner := []) (ok := fun _ => True) (okp := fun _ => True) ?hr ?hp (fun _ hk => hk) trivial (Below.refl _ _) (Nat.le_refl _) (by simp) ?_; (case hd => rfl); (case hg => rfl); (case hr => first | (go_simp; done) | (go_simp; rfl)); (case hp => exact (Reps.none _ _))
      intro bX dS cG hb hg_ hnew_
      clear hg_ hnew_
      (first | rw [← Ny109.out] at cG | (simp only [Int.reduceToNat] at cG; rw [← Ny109.out] at cG))
      replace aQ := am (Kd.R_below (KR aQ) hb)
      have aP := am (Kd.R_lower cG (below_size (K2 HB aH.out aI.out)))
      replace aA := am (BB aA hb)
      replace aE := am (BB aE hb)
      replace HB := bl (K2 HB aH.out aI.out) hb
      clear hb cG
      refine hK.out _ _ ⟨z0 _ aA.out, z1 _ aA.out, z2 _ aA.out, z3 _ aA.out, z4 _ aA.out, z5 _ aA.out⟩ (fun aG => ?_)
      clear hK K
      refine nm (some 12) ?_
      exact norm_ (by simp only [putAll, Act.put, List.setIfInBounds_toArray, List.set_cons_zero, List.set_cons_succ]) (hCont (bW, bZ, bX) _ ⟨aG, (KR aQ), (KR aP), (KB aA), (KB aE), (K2 HB aH.out aI.out)⟩)
     ·skip
      refine Kd.R_lit_step k91 _ 91 ?hg (N := 12) ?hd (xs := ([] : List (S91))) (inner := []) (ok := fun _ => True) (okp := fun _ => True) ?hr ?hp (fun _ hk => hk) trivial (Below.refl _ _) (Nat.le_refl _) (by simp) ?_; (case hd => rfl); (case hg => rfl); (case hr => first | (go_simp; done) | (go_simp; rfl)); (case hp => exact (Reps.none _ _))
      intro bX dL bM hb hg_ hnew_
      clear hg_ hnew_
      (first | rw [← Ny109.out] at bM | (simp only [Int.reduceToNat] at bM; rw [← Ny109.out] at bM))
      replace aN := am (Kd.R_below (KR aN) hb)
      have aP := am (Kd.R_lower bM (below_size (K2 HB aH.out aI.out)))
      replace aA := am (BB aA hb)
      replace aE := am (BB aE hb)
      replace HB := bl (K2 HB aH.out aI.out) hb
      clear hb bM
      refine hK.out _ _ ⟨z0 _ aA.out, z1 _ aA.out, z2 _ aA.out, z3 _ aA.out, z4 _ aA.out, z5 _ aA.out⟩ (fun aG => ?_)
      clear hK K
      refine nm (some 12) ?_
      refine one_ (i := 5) (N := some 8) (tr [13, 2, 2, 1, 2, 3]) rfl rfl (one_of bG.out (by kernel_rfl)) (by decide) (fun K hK => ?_)
      refine Kd.R_append_rows_step k77 (w0 := w) w.heap.size (by rfl) (.tmp 5) (.tmp 7) 30 77 (.agg #[(.int .i64 0), (.int .i64 0), (.int .i64 0), (.int .i64 0), (.int .i64 0), (.int .i64 0), (.int .i64 0), (.int .i64 0)]) 64 rfl Tryz.underlying30 info77 rfl (by decide) (by omega) bW bN aT _ _ _ (fun _ => True) (fun _ => False) rfl rfl ?aO ?aR (fun _ _ h => h) (fun _ h => h.elim) ?aF ?aB ?aS ?aL ?_
      (case aR => exact KD cE HB)
      (case aB => exact (K2 HB aH.out aI.out))
      (case aF => exact (fun _ _ => trivial))
      (case aO => exact (KR aN))
      (case aS => exact (below_size (K2 HB aH.out aI.out)))
      (case aL => have := LMc2.out; omega)
      intro bZ dO ho hb hg hat
      rw [← Ny106.out] at ho
      replace aA := am (blk_grown (g := aX) (o := .cells #[.int .i64 aJ, .slice bH aT.length bI, .int .i64 aK, .slice bJ aM.length bK, .slice bC aW.length bD, .slice bE aV.length bF] 36 (0, 0)) (KB aA) hg (Kd.R_ne aN.out aA.out (by decide)))
      replace aE := am (blk_grown (g := aD) (o := .cells #[.int .i64 0, .slice none 0 0, .int .i64 0, .slice none 0 0, .slice none 0 0, .slice none 0 0] 36 (0, 0)) (KB aE) hg (Kd.R_ne aN.out aE.out (by decide)))
      replace aP := am (Kd.R_over' (KR aP) (Kd.R_typed (KR aN)) (by decide) hg)
      replace HB := am (hb)
      have aQ := am (ho)
      clear aN
      clear ho hb hg hat
      refine hK.out _ _ ⟨z0 _ aA.out, z1 _ aA.out, z2 _ aA.out, z3 _ aA.out, z4 _ aA.out, z5 _ aA.out⟩ (fun aG => ?_)
      clear hK K
      refine nm (some 8) ?_
      exact norm_ (by simp only [putAll, Act.put, List.setIfInBounds_toArray, List.set_cons_zero, List.set_cons_succ]) (hCont (bW, bZ, bX) _ ⟨aG, (KR aQ), (KR aP), (KB aA), (KB aE), (K2 HB aH.out aI.out)⟩)
    ·skip
     refine Kd.R_lit_step k91 _ 91 ?hg (N := 12) ?hd (xs := ([] : List (S91))) (inner := []) (ok := fun _ => True) (okp := fun _ => True) ?hr ?hp (fun _ hk => hk) trivial (Below.refl _ _) (Nat.le_refl _) (by simp) ?_; (case hd => rfl); (case hg => rfl); (case hr => first | (go_simp; done) | (go_simp; rfl)); (case hp => exact (Reps.none _ _))
     intro bX w9 bL hb hg_ hnew_
     clear hg_ hnew_
     (first | rw [← Ny109.out] at bL | (simp only [Int.reduceToNat] at bL; rw [← Ny109.out] at bL))
     have aP := am (Kd.R_lower bL (below_size (K2 HB aH.out aI.out)))
     replace aA := am (BB aA hb)
     replace aE := am (BB aE hb)
     replace HB := bl (K2 HB aH.out aI.out) hb
     clear hb bL
     refine hK.out _ _ ⟨z0 _ aA.out, z1 _ aA.out, z2 _ aA.out, z3 _ aA.out, z4 _ aA.out, z5 _ aA.out⟩ (fun aG => ?_)
     clear hK K
     refine nm (some 12) ?_
     refine one_ (i := 2) (N := some 5) (tr [5, 1, 7, 2, 2, 1, 2, 3]) rfl rfl (one_of bG.out (by kernel_rfl)) (by decide) (fun K hK => ?_)
     refine Kd.R_lit_step k77 _ 77 ?hg (N := 5) ?hd (xs := ([] : List (S77))) (inner := []) (ok := fun _ => True) (okp := fun _ => True) ?hr ?hp (fun _ hk => hk) trivial (Below.refl _ _) (Nat.le_refl _) (by simp) ?_; (case hd => rfl); (case hg => rfl); (case hr => first | (go_simp; done) | (go_simp; rfl)); (case hp => exact (Reps.none _ _))
     intro bW dL bM hb hg_ hnew_
     clear hg_ hnew_
     (first | rw [← Ny103.out] at bM | (simp only [Int.reduceToNat] at bM; rw [← Ny103.out] at bM))
     replace aP := am (Kd.R_below (KR aP) hb)
     have aN := am (Kd.R_lower bM (below_size (K2 HB aH.out aI.out)))
     replace aA := am (BB aA hb)
     replace aE := am (BB aE hb)
     replace HB := bl (K2 HB aH.out aI.out) hb
     clear hb bM
     refine hK.out _ _ ⟨z0 _ aA.out, z1 _ aA.out, z2 _ aA.out, z3 _ aA.out, z4 _ aA.out, z5 _ aA.out⟩ (fun aG => ?_)
     clear hK K
     refine nm (some 5) ?_
     refine one_ (i := 5) (N := some 8) (tr [13, 2, 2, 1, 2, 3]) rfl rfl (one_of bG.out (by kernel_rfl)) (by decide) (fun K hK => ?_)
     refine Kd.R_append_rows_step k77 (w0 := w) w.heap.size (by rfl) (.tmp 5) (.tmp 7) 30 77 (.agg #[(.int .i64 0), (.int .i64 0), (.int .i64 0), (.int .i64 0), (.int .i64 0), (.int .i64 0), (.int .i64 0), (.int .i64 0)]) 64 rfl Tryz.underlying30 info77 rfl (by decide) (by omega) bW bN aT _ _ _ (fun _ => True) (fun _ => False) rfl rfl ?aO ?aR (fun _ _ h => h) (fun _ h => h.elim) ?aF ?aB ?aS ?aL ?_
     (case aR => exact KD cE HB)
     (case aB => exact (K2 HB aH.out aI.out))
     (case aF => exact (fun _ _ => trivial))
     (case aO => exact (KR aN))
     (case aS => exact (below_size (K2 HB aH.out aI.out)))
     (case aL => have := LMc2.out; omega)
     intro bZ dO ho hb hg hat
     rw [← Ny106.out] at ho
     replace aA := am (blk_grown (g := aX) (o := .cells #[.int .i64 aJ, .slice bH aT.length bI, .int .i64 aK, .slice bJ aM.length bK, .slice bC aW.length bD, .slice bE aV.length bF] 36 (0, 0)) (KB aA) hg (Kd.R_ne aN.out aA.out (by decide)))
     replace aE := am (blk_grown (g := aD) (o := .cells #[.int .i64 0, .slice none 0 0, .int .i64 0, .slice none 0 0, .slice none 0 0, .slice none 0 0] 36 (0, 0)) (KB aE) hg (Kd.R_ne aN.out aE.out (by decide)))
     replace aP := am (Kd.R_over' (KR aP) (Kd.R_typed (KR aN)) (by decide) hg)
     replace HB := am (hb)
     have aQ := am (ho)
     clear aN
     clear ho hb hg hat
     refine hK.out _ _ ⟨z0 _ aA.out, z1 _ aA.out, z2 _ aA.out, z3 _ aA.out, z4 _ aA.out, z5 _ aA.out⟩ (fun aG => ?_)
     clear hK K
     refine nm (some 8) ?_
     exact norm_ (by simp only [putAll, Act.put, List.setIfInBounds_toArray, List.set_cons_zero, List.set_cons_succ]) (hCont (bW, bZ, bX) _ ⟨aG, (KR aQ), (KR aP), (KB aA), (KB aE), (K2 HB aH.out aI.out)⟩)
   rintro ⟨bW, bZ, bX⟩ cT ⟨hS_, h0_, h1_, h2_, h3_, h4_⟩
   have aQ : Aside0 (Kd.R k77 77 cT w.heap.size (fun _ => True) bZ bB) := ⟨h0_⟩
   have aP : Aside0 (Kd.R k91 91 cT w.heap.size (fun _ => True) bX bA) := ⟨h1_⟩
   replace aA : Aside0 (bk cT aX #[.int .i64 aJ, .slice bH aT.length bI, .int .i64 aK, .slice bJ aM.length bK, .slice bC aW.length bD, .slice bE aV.length bF] 36) := ⟨h2_⟩
   replace aE : Aside0 (bk cT aD #[.int .i64 0, .slice none 0 0, .int .i64 0, .slice none 0 0, .slice none 0 0, .slice none 0 0] 36) := ⟨h3_⟩
   replace HB : Aside0 (Below w.heap.size w cT) := ⟨h4_⟩
   clear h0_ h1_ h2_ h3_ h4_
   have aG : de6 cT aX (.int .i64 aJ) (.slice bH aT.length bI) (.int .i64 aK) (.slice bJ aM.length bK) (.slice bC aW.length bD) (.slice bE aV.length bF) := hS_
   refine norm_ (a' := ?_) ?_ ?_
   rotate_left
   ·simp only [putAll, Act.put, List.setIfInBounds_toArray, List.set_cons_zero, List.set_cons_succ]
    rfl
   refine one_ (i := 13) (N := some 16) (tr [14, 1, 2, 1, 2, 3]) rfl rfl (one_of bG.out (by kernel_rfl)) (by decide) (fun K hK => ?_)
   refine Kd.R_append_rows_step k91 (w0 := w) w.heap.size (by rfl) (.tmp 12) (.tmp 15) 31 91 (.agg #[(.int .i64 0), (.int .i64 0), (.int .i64 0), (.int .i64 0)]) 32 rfl Tryz.underlying31 info91 rfl (by decide) (by omega) bX bA aM _ _ _ (fun _ => True) (fun _ => False) rfl rfl ?aO ?aR (fun _ _ h => h) (fun _ h => h.elim) ?aF ?aB ?aS ?aL ?_
   (case aR => exact KD cW HB)
   (case aB => exact (K2 HB aH.out aI.out))
   (case aF => exact (fun _ _ => trivial))
   (case aO => exact (KR aP))
   (case aS => exact (below_size (K2 HB aH.out aI.out)))
   (case aL => have := LMc3.out; omega)
   intro dP dT ho hb hg hat
   rw [← Ny112.out] at ho
   replace aA := am (blk_grown (g := aX) (o := .cells #[.int .i64 aJ, .slice bH aT.length bI, .int .i64 aK, .slice bJ aM.length bK, .slice bC aW.length bD, .slice bE aV.length bF] 36 (0, 0)) (KB aA) hg (Kd.R_ne aP.out aA.out (by decide)))
   replace aE := am (blk_grown (g := aD) (o := .cells #[.int .i64 0, .slice none 0 0, .int .i64 0, .slice none 0 0, .slice none 0 0, .slice none 0 0] 36 (0, 0)) (KB aE) hg (Kd.R_ne aP.out aE.out (by decide)))
   replace aQ := am (Kd.R_over' (KR aQ) (Kd.R_typed (KR aP)) (by decide) hg)
   replace HB := am (hb)
   have bP := am (ho)
   clear aP
   clear ho hb hg hat
   obtain ⟨cA, cB, dD⟩ := Kd.R_slice bP.out
   (first | subst dD | (injection dD with f1_ f2_ f3_; have f4_ := f1_.symm; have f5_ := f3_.symm; clear f1_ f2_ f3_; subst f4_; subst f5_))
   refine hK.out _ _ ⟨z0 _ aA.out, z1 _ aA.out, z2 _ aA.out, z3 _ aA.out, z4 _ aA.out, z5 _ aA.out⟩ (fun aG => ?_)
   clear hK K
   refine nm (some 16) ?_
   refine pv bG 14 17 (tr [17, 1, 2, 3]) ?_
   refine one_ (i := 17) (N := some 20) (tf 20 3) rfl rfl (one_of bG.out (by kernel_rfl)) (by decide) (fun K hK => ?_)
   refine goes_ Tryz.func39 (by kernel_rfl) rfl #[.slice bC aW.length bD] (by rfl) rfl rfl MT ?_
   with_reducible refine (spec_l10Sas.calls k _ _ aW aY _ ?_ ?_ A4.out).mono ?_
   exact KD cX HB
   exact cY.out
   rintro e dU ⟨dQ, rfl, cU, hb⟩
   refine ⟨_, rfl, ?_⟩
   replace aQ := am (Kd.R_below (KR aQ) hb)
   replace bP := am (Kd.R_below (KR bP) hb)
   have bY := am (Kd.S_lower cU (below_size (K2 HB aH.out aI.out)))
   replace aA := am (BB aA hb)
   replace aE := am (BB aE hb)
   replace HB := bl (K2 HB aH.out aI.out) hb
   (try clear hb)
   (try clear hb2)
   (try clear hk)
   (try clear hi)
   (try clear cU)
   refine hK.out _ _ ⟨z0 _ aA.out, z1 _ aA.out, z2 _ aA.out, z3 _ aA.out, z4 _ aA.out, z5 _ aA.out⟩ (fun aG => ?_)
   clear hK K
   refine nm (some 20) ?_
   refine one_ (i := 20) (N := some 23) (tf 21 2) rfl rfl (one_of bG.out (by kernel_rfl)) (by decide) (fun K hK => ?_)
   refine goes_ Tryz.func39 (by kernel_rfl) rfl #[.slice bE aV.length bF] (by rfl) rfl rfl MT ?_
   with_reducible refine (spec_l10Sas.calls k _ _ aV aZ _ ?_ ?_ A5.out).mono ?_
   exact KD cZ HB
   exact dA.out
   rintro e cV ⟨dR, rfl, cU, hb⟩
   refine ⟨_, rfl, ?_⟩
   replace aQ := am (Kd.R_below (KR aQ) hb)
   replace bP := am (Kd.R_below (KR bP) hb)
   have cR := am (Kd.S_lower (Kd.S_new' cU (Kd.S_lt (KX bY.out))) (below_size (K2 HB aH.out aI.out)))
   replace bY := am (Kd.S_elder' (KX bY.out) (Kd.S_base cU) hb)
   replace aA := am (BB aA hb)
   replace aE := am (BB aE hb)
   replace HB := bl (K2 HB aH.out aI.out) hb
   (try clear hb)
   (try clear hb2)
   (try clear hk)
   (try clear hi)
   (try clear cU)
   obtain ⟨cH, cI, dE⟩ := Kd.S_slice cR.out
   (first | subst dE | (injection dE with f1_ f2_ f3_; have f4_ := f1_.symm; have f5_ := f3_.symm; clear f1_ f2_ f3_; subst f4_; subst f5_))
   obtain ⟨cC, cD, dF⟩ := Kd.S_slice bY.out
   (first | subst dF | (injection dF with f1_ f2_ f3_; have f4_ := f1_.symm; have f5_ := f3_.symm; clear f1_ f2_ f3_; subst f4_; subst f5_))
   obtain ⟨bQ, bR, dG⟩ := Kd.R_slice aQ.out
   (first | subst dG | (injection dG with f1_ f2_ f3_; have f4_ := f1_.symm; have f5_ := f3_.symm; clear f1_ f2_ f3_; subst f4_; subst f5_))
   refine hK.out _ _ ⟨z0 _ aA.out, z1 _ aA.out, z2 _ aA.out, z3 _ aA.out, z4 _ aA.out, z5 _ aA.out⟩ (fun aG => ?_)
   clear hK K
   refine nm (some 23) ?_
   refine pv bG 21 24 (tf 22 1) ?_
   refine one_ (i := 22) (N := none) (tf 23 0) rfl rfl (one_of bG.out (by kernel_rfl)) (by decide) (fun K hK => ?_)
   have hs22 : cV.cell? ⟨aD, 0, none⟩ = some (.int .i64 0) := z0 _ aE.out
   have hfs22 := blk_frozen aE.out 0
   have hns22_0 := aC.out
   have hms22_0 := aU.out
   have hs23 : cV.cell? ⟨aD, 1, none⟩ = some (.slice none 0 0) := z1 _ aE.out
   have hfs23 := blk_frozen aE.out 1
   have hns23_0 := aC.out
   have hms23_0 := aU.out
   have hs24 : cV.cell? ⟨aD, 2, none⟩ = some (.int .i64 0) := z2 _ aE.out
   have hfs24 := blk_frozen aE.out 2
   have hns24_0 := aC.out
   have hms24_0 := aU.out
   have hs25 : cV.cell? ⟨aD, 3, none⟩ = some (.slice none 0 0) := z3 _ aE.out
   have hfs25 := blk_frozen aE.out 3
   have hns25_0 := aC.out
   have hms25_0 := aU.out
   have hs26 : cV.cell? ⟨aD, 4, none⟩ = some (.slice none 0 0) := z4 _ aE.out
   have hfs26 := blk_frozen aE.out 4
   have hns26_0 := aC.out
   have hms26_0 := aU.out
   have hs27 : cV.cell? ⟨aD, 5, none⟩ = some (.slice none 0 0) := z5 _ aE.out
   have hfs27 := blk_frozen aE.out 5
   have hns27_0 := aC.out
   have hms27_0 := aU.out
   refine skip_ (w1 := ?_) (by rfl) rfl ?_ ?_
   rotate_left
   ·go_simp
    rfl
   refine hK.out _ _ ⟨((cell_far (p := ⟨aD, _, none⟩) aC.out _).trans (((cell_far (p := ⟨aD, _, none⟩) aC.out _).trans (((cell_far (p := ⟨aD, _, none⟩) aC.out _).trans (((cell_far (p := ⟨aD, _, none⟩) aC.out _).trans (((cell_far (p := ⟨aD, _, none⟩) aC.out _).trans (((cell_far (p := ⟨aD, _, none⟩) aC.out _).trans (aG.1)))))))))))), ((cell_far (p := ⟨aD, _, none⟩) aC.out _).trans (((cell_far (p := ⟨aD, _, none⟩) aC.out _).trans (((cell_far (p := ⟨aD, _, none⟩) aC.out _).trans (((cell_far (p := ⟨aD, _, none⟩) aC.out _).trans (((cell_far (p := ⟨aD, _, none⟩) aC.out _).trans (((cell_far (p := ⟨aD, _, none⟩) aC.out _).trans (aG.2.1)))))))))))), ((cell_far (p := ⟨aD, _, none⟩) aC.out _).trans (((cell_far (p := ⟨aD, _, none⟩) aC.out _).trans (((cell_far (p := ⟨aD, _, none⟩) aC.out _).trans (((cell_far (p := ⟨aD, _, none⟩) aC.out _).trans (((cell_far (p := ⟨aD, _, none⟩) aC.out _).trans (((cell_far (p := ⟨aD, _, none⟩) aC.out _).trans (aG.2.2.1)))))))))))), ((cell_far (p := ⟨aD, _, none⟩) aC.out _).trans (((cell_far (p := ⟨aD, _, none⟩) aC.out _).trans (((cell_far (p := ⟨aD, _, none⟩) aC.out _).trans (((cell_far (p := ⟨aD, _, none⟩) aC.out _).trans (((cell_far (p := ⟨aD, _, none⟩) aC.out _).trans (((cell_far (p := ⟨aD, _, none⟩) aC.out _).trans (aG.2.2.2.1)))))))))))), ((cell_far (p := ⟨aD, _, none⟩) aC.out _).trans (((cell_far (p := ⟨aD, _, none⟩) aC.out _).trans (((cell_far (p := ⟨aD, _, none⟩) aC.out _).trans (((cell_far (p := ⟨aD, _, none⟩) aC.out _).trans (((cell_far (p := ⟨aD, _, none⟩) aC.out _).trans (((cell_far (p := ⟨aD, _, none⟩) aC.out _).trans (aG.2.2.2.2.1)))))))))))), ((cell_far (p := ⟨aD, _, none⟩) aC.out _).trans (((cell_far (p := ⟨aD, _, none⟩) aC.out _).trans (((cell_far (p := ⟨aD, _, none⟩) aC.out _).trans (((cell_far (p := ⟨aD, _, none⟩) aC.out _).trans (((cell_far (p := ⟨aD, _, none⟩) aC.out _).trans (((cell_far (p := ⟨aD, _, none⟩) aC.out _).trans (aG.2.2.2.2.2))))))))))))⟩ (fun aG => ?_)
   clear hK K
   refine done_ (done_of bG.out (by kernel_rfl)) ?_
   try go_wp2
   refine bodyPost_ret (results_cell_row rfl _ _ aD 36 #[.int .i64 aJ, .slice bQ bB.length bR, .int .i64 aK, .slice cA bO.length cB, .slice cC aY.length cD, .slice cH aZ.length cI] (0, 0) _ rfl (by refine BD ?_; refine blk_put (cs := #[.int .i64 aJ, .slice bQ bB.length bR, .int .i64 aK, .slice cA bO.length cB, .slice cC aY.length cD, .slice none 0 0]) ?_ 5 _ rfl; refine BD ?_; refine blk_put (cs := #[.int .i64 aJ, .slice bQ bB.length bR, .int .i64 aK, .slice cA bO.length cB, .slice none 0 0, .slice none 0 0]) ?_ 4 _ rfl; refine BD ?_; refine blk_put (cs := #[.int .i64 aJ, .slice bQ bB.length bR, .int .i64 aK, .slice none 0 0, .slice none 0 0, .slice none 0 0]) ?_ 3 _ rfl; refine BD ?_; refine blk_put (cs := #[.int .i64 aJ, .slice bQ bB.length bR, .int .i64 0, .slice none 0 0, .slice none 0 0, .slice none 0 0]) ?_ 2 _ rfl; refine BD ?_; refine blk_put (cs := #[.int .i64 aJ, .slice none 0 0, .int .i64 0, .slice none 0 0, .slice none 0 0, .slice none 0 0]) ?_ 1 _ rfl; refine BD ?_; refine blk_put (cs := #[.int .i64 0, .slice none 0 0, .int .i64 0, .slice none 0 0, .slice none 0 0, .slice none 0 0]) ?_ 0 _ rfl; refine BD ?_; exact aE.out) Tryz.underlying36 rfl (by kernel_rfl)) rfl ?_
   exact ⟨_, _, _, _, ER, by refine KW ?_; exact Kd.R_mono (Kd.R_far (p := ⟨aD, 5, none⟩) (Kd.R_far (p := ⟨aD, 4, none⟩) (Kd.R_far (p := ⟨aD, 3, none⟩) (Kd.R_far (p := ⟨aD, 2, none⟩) (Kd.R_far (p := ⟨aD, 1, none⟩) (Kd.R_far (p := ⟨aD, 0, none⟩) (Kd.R_types aQ.out aE.out (by decide)) (fun _ hk => hk.2) (.int .i64 aJ)) (fun _ hk => hk.2) (.slice bQ bB.length bR)) (fun _ hk => hk.2) (.int .i64 aK)) (fun _ hk => hk.2) (.slice cA bO.length cB)) (fun _ hk => hk.2) (.slice cC aY.length cD)) (fun _ hk => hk.2) (.slice cH aZ.length cI)) (fun _ hk => trivial), by refine KW ?_; exact Kd.R_mono (Kd.R_far (p := ⟨aD, 5, none⟩) (Kd.R_far (p := ⟨aD, 4, none⟩) (Kd.R_far (p := ⟨aD, 3, none⟩) (Kd.R_far (p := ⟨aD, 2, none⟩) (Kd.R_far (p := ⟨aD, 1, none⟩) (Kd.R_far (p := ⟨aD, 0, none⟩) (Kd.R_types bP.out aE.out (by decide)) (fun _ hk => hk.2) (.int .i64 aJ)) (fun _ hk => hk.2) (.slice bQ bB.length bR)) (fun _ hk => hk.2) (.int .i64 aK)) (fun _ hk => hk.2) (.slice cA bO.length cB)) (fun _ hk => hk.2) (.slice cC aY.length cD)) (fun _ hk => hk.2) (.slice cH aZ.length cI)) (fun _ hk => trivial), by refine KX ?_; exact Kd.S_mono (Kd.S_far (p := ⟨aD, 5, none⟩) (Kd.S_far (p := ⟨aD, 4, none⟩) (Kd.S_far (p := ⟨aD, 3, none⟩) (Kd.S_far (p := ⟨aD, 2, none⟩) (Kd.S_far (p := ⟨aD, 1, none⟩) (Kd.S_far (p := ⟨aD, 0, none⟩) (Kd.S_types bY.out aE.out (by decide)) (fun _ hk => hk.2) (.int .i64 aJ)) (fun _ hk => hk.2) (.slice bQ bB.length bR)) (fun _ hk => hk.2) (.int .i64 aK)) (fun _ hk => hk.2) (.slice cA bO.length cB)) (fun _ hk => hk.2) (.slice cC aY.length cD)) (fun _ hk => hk.2) (.slice cH aZ.length cI)) (fun _ hk => hk.1.2), by refine KX ?_; exact Kd.S_mono (Kd.S_far (p := ⟨aD, 5, none⟩) (Kd.S_far (p := ⟨aD, 4, none⟩) (Kd.S_far (p := ⟨aD, 3, none⟩) (Kd.S_far (p := ⟨aD, 2, none⟩) (Kd.S_far (p := ⟨aD, 1, none⟩) (Kd.S_far (p := ⟨aD, 0, none⟩) (Kd.S_types cR.out aE.out (by decide)) (fun _ hk => hk.2) (.int .i64 aJ)) (fun _ hk => hk.2) (.slice bQ bB.length bR)) (fun _ hk => hk.2) (.int .i64 aK)) (fun _ hk => hk.2) (.slice cA bO.length cB)) (fun _ hk => hk.2) (.slice cC aY.length cD)) (fun _ hk => hk.2) (.slice cH aZ.length cI)) (fun _ hk => hk.1.2), K2 HB aH.out aI.out⟩
  ·rw [if_neg c3] at H
   exact absurd H (by simp)
 ·rw [if_neg c2] at H
  exact absurd H (by simp)
def spec_GateTick.l0 : Nat → Int → Int → List (S77) → Int → List (S91) → List (S50) → List (S50) → Int → List (S77) → Int → List (S91) → List (S50) → List (S50) → Option (Int × (List (S77)) × Int × (List (S91)) × (List (S50)) × (List (S50)))
 | 0, _, _, _, _, _, _, _, _, _, _, _, _, _ => none
 | k + 1, x4, x102000, x102001, x102002, x102003, x102004, x102005, x119000, x119001, x119002, x119003, x119004, x119005 => if x4 < (x102005.length : Int) then (if 0 ≤ x4 then (if x119000 < (wrap64 (((rd_T50 x102005 x4).f4) + (wrap64 (2 * ((rd_T50 x102005 x4).f7))))) then ((spec_l9Copy.f ((rd_T50 x102005 x4).f0) ((rd_T50 x102005 x4).f1) ((rd_T50 x102005 x4).f2) ((rd_T50 x102005 x4).f3) ((rd_T50 x102005 x4).f4) ((rd_T50 x102005 x4).f5) ((rd_T50 x102005 x4).f6) ((rd_T50 x102005 x4).f7) ((rd_T50 x102005 x4).f8) ((rd_T50 x102005 x4).f9.f0) ((rd_T50 x102005 x4).f9.f1)).bind fun bt125 => (if x119005.length < 1172812402961 then (spec_GateTick.l0 k (wrap64 (x4 + 1)) x102000 x102001 x102002 x102003 x102004 x102005 x119000 x119001 x119002 x119003 x119004 (x119005 ++ [(⟨bt125.1, bt125.2.1, bt125.2.2.1, bt125.2.2.2.1, bt125.2.2.2.2.1, bt125.2.2.2.2.2.1, bt125.2.2.2.2.2.2.1, bt125.2.2.2.2.2.2.2.1, bt125.2.2.2.2.2.2.2.2.1, (⟨bt125.2.2.2.2.2.2.2.2.2.1, bt125.2.2.2.2.2.2.2.2.2.2⟩ : S48)⟩ : S50)])) else (none))) else (spec_GateTick.l0 k (wrap64 (x4 + 1)) x102000 x102001 x102002 x102003 x102004 x102005 x119000 x119001 x119002 x119003 x119004 x119005)) else (none)) else (some (x119000, x119001, x119002, x119003, x119004, x119005))
def spec_GateTick.f (k : Nat) (a0_0 : Int) (l0_1 : List (S77)) (a0_2 : Int) (l0_3 : List (S91)) (l0_4 : List (S50)) (l0_5 : List (S50)) : Option (Int × (List (S77)) × Int × (List (S91)) × (List (S50)) × (List (S50))) := (spec_GateOk.f k a0_0 l0_1 a0_2 l0_3 l0_4 l0_5).bind fun t103 => (if t103 = true then ((spec_l10Copy.f k a0_0 l0_1 a0_2 l0_3 l0_4 l0_5).bind fun bt104 => (if a0_0 ≥ 1000000 then (some (bt104.1, bt104.2.1, bt104.2.2.1, bt104.2.2.2.1, bt104.2.2.2.2.1, bt104.2.2.2.2.2)) else (spec_GateTick.l0 k 0 a0_0 l0_1 a0_2 l0_3 l0_4 l0_5 (wrap64 (a0_0 + 1)) bt104.2.1 bt104.2.2.1 bt104.2.2.2.1 bt104.2.2.2.2.1 (([] : List (S50)))))) else (some (0, ([] : List (S77)), 0, ([] : List (S91)), ([] : List (S50)), ([] : List (S50)))))
def spec_GateTick.T11 : Bool × List (List Nat × List Nat) := (true, [([], []), ([0], [0]), ([], []), ([2], [2]), ([], []), ([3, 4], [3, 4]), ([5], [5]), ([6], [6]), ([], []), ([8], [8]), ([], []), ([9, 10], [9, 10]), ([11], [11]), ([12], [12]), ([13], [13]), ([7, 14], [7, 14]), ([1, 15], [1, 15])])
def spec_GateTick.B11 : List Nat := [0, 1, 0, 4, 0, 28, 60, 124, 0, 256, 0, 1792, 3840, 7936, 16128, 32764, 65535]
theorem spec_GateTick.tab11 : rtab .any (opsOf Tryz.f5 11) = spec_GateTick.T11 := by kernel_rfl
theorem spec_GateTick.bits11 : waitsOk spec_GateTick.T11.2 spec_GateTick.B11 = true := by kernel_rfl
def spec_GateTick.T12 : Bool × List (List Nat × List Nat) := (true, [([], []), ([0], [0]), ([], []), ([2], [2]), ([], []), ([3, 4], [3, 4]), ([5], [5]), ([6], [6]), ([7], [7]), ([1, 8, 7], [1, 8]), ([0, 1, 2, 3, 4, 5, 6, 7, 8, 9], []), ([10, 9, 9, 0, 1, 2, 3, 4, 5, 6, 7, 8, 9], [9, 10])])
def spec_GateTick.B12 : List Nat := [0, 1, 0, 4, 0, 28, 60, 124, 252, 511, 1023, 2047]
theorem spec_GateTick.tab12 : rtab .any (opsOf Tryz.f5 12) = spec_GateTick.T12 := by kernel_rfl
theorem spec_GateTick.bits12 : waitsOk spec_GateTick.T12.2 spec_GateTick.B12 = true := by kernel_rfl
theorem spec_GateTick.calls (k : Nat) (aN : Int) (dB : Option Addr) (dC : Nat) (bE : List (S77)) (bJ : Int) (dD : Option Addr) (dE : Nat) (bF : List (S91)) (dF : Option Addr) (dG : Nat) (bG : List (S50)) (eA : Option Addr) (dH : Nat) (aE : List (S50)) (r1 : Int) (r2 : List (S77)) (r3 : Int) (r4 : List (S91)) (r5 : List (S50)) (r6 : List (S50)) (w : World) (jY : Kd.C k77 w dB bE.length bE) (jZ : bE.length ≤ dC) (kA : Kd.C k91 w dD bF.length bF) (kB : bF.length ≤ dE) (kC : Kd.C k50 w dF bG.length bG) (kD : bG.length ≤ dG) (kE : Kd.C k50 w eA aE.length aE) (kF : aE.length ≤ dH) (h : spec_GateTick.f k aN bE bJ bF bG aE = some (r1, r2, r3, r4, r5, r6)) :
  Calls Tryz.prog 5 #[.agg #[.int .i64 aN, .slice dB bE.length dC, .int .i64 bJ, .slice dD bF.length dE, .slice dF bG.length dG, .slice eA aE.length dH]] w fun e w' => ∃ v1_ v3_ v4_ v5_ : Value, e = .returned (.agg #[.int .i64 r1, v1_, .int .i64 r3, v3_, v4_, v5_]) ∧ Kd.R k77 77 w' w.heap.size (fun _ => True) v1_ r2 ∧ Kd.R k91 91 w' w.heap.size (fun _ => True) v3_ r4 ∧ Kd.S k50 50 w' w.heap.size (fun k_ => some k_ ≠ (v5_ : Value).ownBlock) v4_ r5 ∧ Kd.S k50 50 w' w.heap.size (fun k_ => some k_ ≠ (v4_ : Value).ownBlock) v5_ r6 ∧ Below w.heap.size w w' := by
 have pA := Tryz.underlying36
 have pB := Tryz.underlying50
 have fP := Aside0.mk jY
 have fQ := Aside0.mk jZ
 clear jY jZ
 have fR := Aside0.mk kA
 have fS := Aside0.mk kB
 clear kA kB
 have fT := Aside0.mk kC
 have fU := Aside0.mk kD
 clear kC kD
 have dI := Aside0.mk kE
 have fV := Aside0.mk kF
 clear kE kF
 have HB := am (Below.refl w.heap.size w)
 have H : ((spec_GateOk.f k aN bE bJ bF bG aE).bind fun hH => (if hH = true then ((spec_l10Copy.f k aN bE bJ bF bG aE).bind fun bH => (if aN ≥ 1000000 then (some (bH.1, bH.2.1, bH.2.2.1, bH.2.2.2.1, bH.2.2.2.2.1, bH.2.2.2.2.2)) else (spec_GateTick.l0 k 0 aN bE bJ bF bG aE (wrap64 (aN + 1)) bH.2.1 bH.2.2.1 bH.2.2.2.1 bH.2.2.2.2.1 (([] : List (S50)))))) else (some (0, ([] : List (S77)), 0, ([] : List (S91)), ([] : List (S50)), ([] : List (S50)))))) = some (r1, r2, r3, r4, r5, r6) := h
 clear h
 replace H := bm H
 obtain ⟨hH, nX, H⟩ := H
 replace H : (if hH = true then ((spec_l10Copy.f k aN bE bJ bF bG aE).bind fun bH => (if aN ≥ 1000000 then (some (bH.1, bH.2.1, bH.2.2.1, bH.2.2.2.1, bH.2.2.2.2.1, bH.2.2.2.2.2)) else (spec_GateTick.l0 k 0 aN bE bJ bF bG aE (wrap64 (aN + 1)) bH.2.1 bH.2.2.1 bH.2.2.2.1 bH.2.2.2.2.1 (([] : List (S50)))))) else (some (0, ([] : List (S77)), 0, ([] : List (S91)), ([] : List (S50)), ([] : List (S50))))) = some (r1, r2, r3, r4, r5, r6) := H
 have A2 := Aside0.mk nX
 clear nX
 by_cases c3 : hH = true
 ·subst c3
  have H1 := pf H
  clear H
  have H := H1
  clear H1
  replace H := bm H
  obtain ⟨⟨cI, aY, aZ, bB, bA, dJ⟩, nY, H⟩ := H
  replace H : (if aN ≥ 1000000 then (some (cI, aY, aZ, bB, bA, dJ)) else (spec_GateTick.l0 k 0 aN bE bJ bF bG aE (wrap64 (aN + 1)) aY aZ bB bA (([] : List (S50))))) = some (r1, r2, r3, r4, r5, r6) := H
  have A4 := Aside0.mk nY
  clear nY
  by_cases c5 : aN ≥ 1000000
  ·rw [if_pos c5] at H
   have c5b0 : decide (1000000 ≤ aN) = true := decide_eq_true c5
   clear c5
   simp only [Option.some.injEq, Prod.mk.injEq] at H
   obtain ⟨rfl, rfl, rfl, rfl, rfl, rfl⟩ := H
   go_enter Tryz.func5, Tryz.ntmps5
   go_wp2_with (first | ((with_reducible refine gate_dst (N := 1) rfl ?_); refine box_event rfl (N := 1) rfl (cs := #[.int .i64 aN, .slice dB bE.length dC, .int .i64 bJ, .slice dD bF.length dE, .slice dF bG.length dG, .slice eA aE.length dH]) (t := 36) BX ?_; intro dZ hg w6 cJ hb; have aD := am (cJ); have fW := am (GH HB hg); have aV := fW; replace HB := bl (KL HB) hb; clear hb cJ hg) | ((with_reducible refine gate_dst (N := 2) rfl ?_); refine box_event rfl (N := 2) rfl (cs := #[.int .i64 0, .slice none 0 0, .int .i64 0, .slice none 0 0, .slice none 0 0, .slice none 0 0]) (t := 36) BX ?_; intro aM hg w7 cJ hb; have aI := am (cJ); have fX := am (GH1 HB aV.out hg); have aW := fX; replace HB := bl (K1 HB aV.out) hb; have bK := am (NL aD hg); have bL := am (NG aD hg); replace aD := am (BB aD hb); clear hb cJ hg; have pC := bK.out; have pD := bL.out; obtain ⟨kI, kJ, kK, kL, kM, kN, kO⟩ := y6 w7 aD.out) | ((with_reducible refine gate_callee (f := 14) rfl ?_); refine goesL_ (some 6) rfl rfl Tryz.func14 (by kernel_rfl) rfl #[.agg #[.int .i64 aN, .slice dB bE.length dC, .int .i64 bJ, .slice dD bF.length dE, .slice dF bG.length dG, .slice eA aE.length dH]] rfl MT ?_; (with_reducible refine (spec_GateOk.calls k aN _ _ bE bJ _ _ bF _ _ bG _ _ aE true _ ?_ ?_ ?_ ?_ ?_ ?_ ?_ ?_ A2.out).mono ?_); exact KD fP HB; exact fQ.out; exact KD fR HB; exact fS.out; exact KD fT HB; exact fU.out; exact KD dI HB; exact fV.out; rintro e pE ⟨rfl, hb⟩; refine ⟨_, rfl, ?_⟩; replace aD := am (BB aD hb); replace aI := am (BB aI hb); replace HB := bl (K2 HB aV.out aW.out) hb; (try clear hb); obtain ⟨hI, hJ, hL, hM, hN, hO, hP⟩ := y6 pE aD.out) | ((with_reducible refine gate_callee (f := 15) rfl ?_); refine goesL_ (some 10) rfl rfl Tryz.func15 (by kernel_rfl) rfl #[.agg #[.int .i64 aN, .slice dB bE.length dC, .int .i64 bJ, .slice dD bF.length dE, .slice dF bG.length dG, .slice eA aE.length dH]] rfl MT ?_; (with_reducible refine (spec_l10Copy.calls k aN _ _ bE bJ _ _ bF _ _ bG _ _ aE cI aY aZ bB bA dJ _ ?_ ?_ ?_ ?_ ?_ ?_ ?_ ?_ A4.out).mono ?_); exact KD fP HB; exact fQ.out; exact KD fR HB; exact fS.out; exact KD fT HB; exact fU.out; exact KD dI HB; exact fV.out; rintro e pQ ⟨nH, nI, nJ, nK, rfl, hG, lB, lC, lD, hb⟩; refine ⟨_, rfl, ?_⟩; have cR := am (Kd.R_lower hG (below_size (K2 HB aV.out aW.out))); have cS := am (Kd.R_lower lB (below_size (K2 HB aV.out aW.out))); have cP := am (Kd.S_lower lC (below_size (K2 HB aV.out aW.out))); have cT := am (Kd.S_lower lD (below_size (K2 HB aV.out aW.out))); replace aD := am (BB aD hb); replace aI := am (BB aI hb); replace HB := bl (K2 HB aV.out aW.out) hb; (try clear hb); (try clear hG); (try clear lB); (try clear lC); (try clear lD)) | ((with_reducible refine gate_dst (N := 3) rfl ?_); refine box_event rfl (N := 3) rfl (cs := #[.int .i64 0, .slice none 0 0, .int .i64 0, .slice none 0 0, .slice none 0 0, .slice none 0 0]) (t := 36) BX ?_; intro aQ hg nL cJ hb; replace cR := am (Kd.R_below (KR cR) hb); replace cS := am (Kd.R_below (KR cS) hb); replace cP := am (Kd.S_below (KX cP.out) hb); replace cT := am (Kd.S_below (KX cT.out) hb); have aG := am (cJ); have gZ := am (GH2 HB aV.out aW.out hg); have cQ := gZ; replace HB := bl (K2 HB aV.out aW.out) hb; have aR := am (NL aD hg); have bM := am (NG aD hg); replace aD := am (BB aD hb); have aJ := am (NL aI hg); have cM := am (NG aI hg); replace aI := am (BB aI hb); clear hb cJ hg; have nZ := bM.out; have oA := aR.out; have oB := cM.out; have oC := aJ.out; obtain ⟨hQ, hR, hS, hT, hU, hV, hW⟩ := y6 nL aG.out; obtain ⟨dX, dY, nM⟩ := Kd.R_slice cR.out; subst nM; obtain ⟨eL, eM, nN⟩ := Kd.R_slice cS.out; subst nN; obtain ⟨eR, eS, nO⟩ := Kd.S_slice cP.out; subst nO; obtain ⟨eT, eU, nP⟩ := Kd.S_slice cT.out; subst nP; obtain ⟨hX, hY, hZ, iA, iB, iC, iD⟩ := y6 nL aD.out; obtain ⟨iE, iF, iG, iH, iI, iJ, iK⟩ := y6 nL aI.out))
   refine bodyPost_ret (results_cell_row rfl _ _ aM 36 #[.int .i64 cI, .slice dX aY.length dY, .int .i64 aZ, .slice eL bB.length eM, .slice eR bA.length eS, .slice eT dJ.length eU] (0, 0) _ rfl (by refine BD ?_; refine blk_put (cs := #[.int .i64 cI, .slice dX aY.length dY, .int .i64 aZ, .slice eL bB.length eM, .slice eR bA.length eS, .slice none 0 0]) ?_ 5 _ rfl; refine BD ?_; refine blk_put (cs := #[.int .i64 cI, .slice dX aY.length dY, .int .i64 aZ, .slice eL bB.length eM, .slice none 0 0, .slice none 0 0]) ?_ 4 _ rfl; refine BD ?_; refine blk_put (cs := #[.int .i64 cI, .slice dX aY.length dY, .int .i64 aZ, .slice none 0 0, .slice none 0 0, .slice none 0 0]) ?_ 3 _ rfl; refine BD ?_; refine blk_put (cs := #[.int .i64 cI, .slice dX aY.length dY, .int .i64 0, .slice none 0 0, .slice none 0 0, .slice none 0 0]) ?_ 2 _ rfl; refine BD ?_; refine blk_put (cs := #[.int .i64 cI, .slice none 0 0, .int .i64 0, .slice none 0 0, .slice none 0 0, .slice none 0 0]) ?_ 1 _ rfl; refine BD ?_; refine blk_put (cs := #[.int .i64 0, .slice none 0 0, .int .i64 0, .slice none 0 0, .slice none 0 0, .slice none 0 0]) ?_ 0 _ rfl; refine BD ?_; refine blk_far ?_ aJ.out _; refine BD ?_; refine blk_far ?_ aJ.out _; refine BD ?_; refine blk_far ?_ aJ.out _; refine BD ?_; refine blk_far ?_ aJ.out _; refine BD ?_; refine blk_far ?_ aJ.out _; refine BD ?_; refine blk_far ?_ aJ.out _; refine BD ?_; exact aI.out) Tryz.underlying36 rfl (by kernel_rfl)) rfl ?_
   exact ⟨_, _, _, _, ER, by refine KW ?_; exact Kd.R_mono (Kd.R_far (p := ⟨aM, 5, none⟩) (Kd.R_far (p := ⟨aM, 4, none⟩) (Kd.R_far (p := ⟨aM, 3, none⟩) (Kd.R_far (p := ⟨aM, 2, none⟩) (Kd.R_far (p := ⟨aM, 1, none⟩) (Kd.R_far (p := ⟨aM, 0, none⟩) (Kd.R_far (p := ⟨aQ, 5, none⟩) (Kd.R_far (p := ⟨aQ, 4, none⟩) (Kd.R_far (p := ⟨aQ, 3, none⟩) (Kd.R_far (p := ⟨aQ, 2, none⟩) (Kd.R_far (p := ⟨aQ, 1, none⟩) (Kd.R_far (p := ⟨aQ, 0, none⟩) (Kd.R_types (Kd.R_types cR.out aG.out (by decide)) aI.out (by decide)) (fun _ hk => hk.1.2) (.int .i64 cI)) (fun _ hk => hk.1.2) (.slice dX aY.length dY)) (fun _ hk => hk.1.2) (.int .i64 aZ)) (fun _ hk => hk.1.2) (.slice eL bB.length eM)) (fun _ hk => hk.1.2) (.slice eR bA.length eS)) (fun _ hk => hk.1.2) (.slice eT dJ.length eU)) (fun _ hk => hk.2) (.int .i64 cI)) (fun _ hk => hk.2) (.slice dX aY.length dY)) (fun _ hk => hk.2) (.int .i64 aZ)) (fun _ hk => hk.2) (.slice eL bB.length eM)) (fun _ hk => hk.2) (.slice eR bA.length eS)) (fun _ hk => hk.2) (.slice eT dJ.length eU)) (fun _ hk => trivial), by refine KW ?_; exact Kd.R_mono (Kd.R_far (p := ⟨aM, 5, none⟩) (Kd.R_far (p := ⟨aM, 4, none⟩) (Kd.R_far (p := ⟨aM, 3, none⟩) (Kd.R_far (p := ⟨aM, 2, none⟩) (Kd.R_far (p := ⟨aM, 1, none⟩) (Kd.R_far (p := ⟨aM, 0, none⟩) (Kd.R_far (p := ⟨aQ, 5, none⟩) (Kd.R_far (p := ⟨aQ, 4, none⟩) (Kd.R_far (p := ⟨aQ, 3, none⟩) (Kd.R_far (p := ⟨aQ, 2, none⟩) (Kd.R_far (p := ⟨aQ, 1, none⟩) (Kd.R_far (p := ⟨aQ, 0, none⟩) (Kd.R_types (Kd.R_types cS.out aG.out (by decide)) aI.out (by decide)) (fun _ hk => hk.1.2) (.int .i64 cI)) (fun _ hk => hk.1.2) (.slice dX aY.length dY)) (fun _ hk => hk.1.2) (.int .i64 aZ)) (fun _ hk => hk.1.2) (.slice eL bB.length eM)) (fun _ hk => hk.1.2) (.slice eR bA.length eS)) (fun _ hk => hk.1.2) (.slice eT dJ.length eU)) (fun _ hk => hk.2) (.int .i64 cI)) (fun _ hk => hk.2) (.slice dX aY.length dY)) (fun _ hk => hk.2) (.int .i64 aZ)) (fun _ hk => hk.2) (.slice eL bB.length eM)) (fun _ hk => hk.2) (.slice eR bA.length eS)) (fun _ hk => hk.2) (.slice eT dJ.length eU)) (fun _ hk => trivial), by refine KX ?_; exact Kd.S_mono (Kd.S_far (p := ⟨aM, 5, none⟩) (Kd.S_far (p := ⟨aM, 4, none⟩) (Kd.S_far (p := ⟨aM, 3, none⟩) (Kd.S_far (p := ⟨aM, 2, none⟩) (Kd.S_far (p := ⟨aM, 1, none⟩) (Kd.S_far (p := ⟨aM, 0, none⟩) (Kd.S_far (p := ⟨aQ, 5, none⟩) (Kd.S_far (p := ⟨aQ, 4, none⟩) (Kd.S_far (p := ⟨aQ, 3, none⟩) (Kd.S_far (p := ⟨aQ, 2, none⟩) (Kd.S_far (p := ⟨aQ, 1, none⟩) (Kd.S_far (p := ⟨aQ, 0, none⟩) (Kd.S_types (Kd.S_types cP.out aG.out (by decide)) aI.out (by decide)) (fun _ hk => hk.1.2) (.int .i64 cI)) (fun _ hk => hk.1.2) (.slice dX aY.length dY)) (fun _ hk => hk.1.2) (.int .i64 aZ)) (fun _ hk => hk.1.2) (.slice eL bB.length eM)) (fun _ hk => hk.1.2) (.slice eR bA.length eS)) (fun _ hk => hk.1.2) (.slice eT dJ.length eU)) (fun _ hk => hk.2) (.int .i64 cI)) (fun _ hk => hk.2) (.slice dX aY.length dY)) (fun _ hk => hk.2) (.int .i64 aZ)) (fun _ hk => hk.2) (.slice eL bB.length eM)) (fun _ hk => hk.2) (.slice eR bA.length eS)) (fun _ hk => hk.2) (.slice eT dJ.length eU)) (fun _ hk => hk.1.1), by refine KX ?_; exact Kd.S_mono (Kd.S_far (p := ⟨aM, 5, none⟩) (Kd.S_far (p := ⟨aM, 4, none⟩) (Kd.S_far (p := ⟨aM, 3, none⟩) (Kd.S_far (p := ⟨aM, 2, none⟩) (Kd.S_far (p := ⟨aM, 1, none⟩) (Kd.S_far (p := ⟨aM, 0, none⟩) (Kd.S_far (p := ⟨aQ, 5, none⟩) (Kd.S_far (p := ⟨aQ, 4, none⟩) (Kd.S_far (p := ⟨aQ, 3, none⟩) (Kd.S_far (p := ⟨aQ, 2, none⟩) (Kd.S_far (p := ⟨aQ, 1, none⟩) (Kd.S_far (p := ⟨aQ, 0, none⟩) (Kd.S_types (Kd.S_types cT.out aG.out (by decide)) aI.out (by decide)) (fun _ hk => hk.1.2) (.int .i64 cI)) (fun _ hk => hk.1.2) (.slice dX aY.length dY)) (fun _ hk => hk.1.2) (.int .i64 aZ)) (fun _ hk => hk.1.2) (.slice eL bB.length eM)) (fun _ hk => hk.1.2) (.slice eR bA.length eS)) (fun _ hk => hk.1.2) (.slice eT dJ.length eU)) (fun _ hk => hk.2) (.int .i64 cI)) (fun _ hk => hk.2) (.slice dX aY.length dY)) (fun _ hk => hk.2) (.int .i64 aZ)) (fun _ hk => hk.2) (.slice eL bB.length eM)) (fun _ hk => hk.2) (.slice eR bA.length eS)) (fun _ hk => hk.2) (.slice eT dJ.length eU)) (fun _ hk => hk.1.1), K3 HB aV.out aW.out cQ.out⟩
  ·rw [if_neg c5] at H
   have c5b0 : decide (1000000 ≤ aN) = false := decide_eq_false c5
   clear c5
   obtain ⟨gE, fY⟩ : ∃ y_ : List (S50), y_ = (([] : List (S50))) := ⟨_, rfl⟩
   replace H : (spec_GateTick.l0 k 0 aN bE bJ bF bG aE (wrap64 (aN + 1)) aY aZ bB bA gE) = some (r1, r2, r3, r4, r5, r6) := by first | (rw [fY]; with_reducible exact H) | (have H2_ := (Option.bind_some _ _).symm.trans H; rw [fY]; with_reducible exact H2_) | (have H2_ := (Option.bind_some _ _).symm.trans H; with_reducible exact H2_) | with_reducible exact H | (rw [fY]; exact H) | exact H
   have Ny119 := Aside0.mk fY
   clear fY
   have H' := Aside0.mk H
   clear H
   go_enter Tryz.func5, Tryz.ntmps5
   go_wp2_with (first | ((with_reducible refine gate_dst (N := 1) rfl ?_); refine box_event rfl (N := 1) rfl (cs := #[.int .i64 aN, .slice dB bE.length dC, .int .i64 bJ, .slice dD bF.length dE, .slice dF bG.length dG, .slice eA aE.length dH]) (t := 36) BX ?_; intro dZ hg pR cJ hb; have aD := am (cJ); have fW := am (GH HB hg); have aV := fW; replace HB := bl (KL HB) hb; clear hb cJ hg) | ((with_reducible refine gate_dst (N := 2) rfl ?_); refine box_event rfl (N := 2) rfl (cs := #[.int .i64 0, .slice none 0 0, .int .i64 0, .slice none 0 0, .slice none 0 0, .slice none 0 0]) (t := 36) BX ?_; intro aM hg pF cJ hb; have aI := am (cJ); have fX := am (GH1 HB aV.out hg); have aW := fX; replace HB := bl (K1 HB aV.out) hb; have bK := am (NL aD hg); have bL := am (NG aD hg); replace aD := am (BB aD hb); clear hb cJ hg; have oD := bK.out; have oE := bL.out; obtain ⟨iL, iM, iN, iO, iP, iQ, iR⟩ := y6 pF aD.out) | ((with_reducible refine gate_callee (f := 14) rfl ?_); refine goesL_ (some 6) rfl rfl Tryz.func14 (by kernel_rfl) rfl #[.agg #[.int .i64 aN, .slice dB bE.length dC, .int .i64 bJ, .slice dD bF.length dE, .slice dF bG.length dG, .slice eA aE.length dH]] rfl MT ?_; (with_reducible refine (spec_GateOk.calls k aN _ _ bE bJ _ _ bF _ _ bG _ _ aE true _ ?_ ?_ ?_ ?_ ?_ ?_ ?_ ?_ A2.out).mono ?_); exact KD fP HB; exact fQ.out; exact KD fR HB; exact fS.out; exact KD fT HB; exact fU.out; exact KD dI HB; exact fV.out; rintro e pG ⟨rfl, hb⟩; refine ⟨_, rfl, ?_⟩; replace aD := am (BB aD hb); replace aI := am (BB aI hb); replace HB := bl (K2 HB aV.out aW.out) hb; (try clear hb); obtain ⟨iS, iT, iU, iV, iW, iX, iY⟩ := y6 pG aD.out) | ((with_reducible refine gate_callee (f := 15) rfl ?_); refine goesL_ (some 10) rfl rfl Tryz.func15 (by kernel_rfl) rfl #[.agg #[.int .i64 aN, .slice dB bE.length dC, .int .i64 bJ, .slice dD bF.length dE, .slice dF bG.length dG, .slice eA aE.length dH]] rfl MT ?_; (with_reducible refine (spec_l10Copy.calls k aN _ _ bE bJ _ _ bF _ _ bG _ _ aE cI aY aZ bB bA dJ _ ?_ ?_ ?_ ?_ ?_ ?_ ?_ ?_ A4.out).mono ?_); exact KD fP HB; exact fQ.out; exact KD fR HB; exact fS.out; exact KD fT HB; exact fU.out; exact KD dI HB; exact fV.out; rintro e pS ⟨nH, nI, nJ, nK, rfl, hG, lB, lC, lD, hb⟩; refine ⟨_, rfl, ?_⟩; have cR := am (Kd.R_lower hG (below_size (K2 HB aV.out aW.out))); have cS := am (Kd.R_lower lB (below_size (K2 HB aV.out aW.out))); have cP := am (Kd.S_lower lC (below_size (K2 HB aV.out aW.out))); have cT := am (Kd.S_lower lD (below_size (K2 HB aV.out aW.out))); replace aD := am (BB aD hb); replace aI := am (BB aI hb); replace HB := bl (K2 HB aV.out aW.out) hb; (try clear hb); (try clear hG); (try clear lB); (try clear lC); (try clear lD)) | ((with_reducible refine gate_dst (N := 3) rfl ?_); refine box_event rfl (N := 3) rfl (cs := #[.int .i64 0, .slice none 0 0, .int .i64 0, .slice none 0 0, .slice none 0 0, .slice none 0 0]) (t := 36) BX ?_; intro aQ hg oF cJ hb; replace cR := am (Kd.R_below (KR cR) hb); replace cS := am (Kd.R_below (KR cS) hb); replace cP := am (Kd.S_below (KX cP.out) hb); replace cT := am (Kd.S_below (KX cT.out) hb); have aG := am (cJ); have gZ := am (GH2 HB aV.out aW.out hg); have cQ := gZ; replace HB := bl (K2 HB aV.out aW.out) hb; have aR := am (NL aD hg); have bM := am (NG aD hg); replace aD := am (BB aD hb); have aJ := am (NL aI hg); have cM := am (NG aI hg); replace aI := am (BB aI hb); clear hb cJ hg; have oG := bM.out; have oH := aR.out; have oI := cM.out; have oJ := aJ.out; obtain ⟨iZ, jA, jB, jC, jD, jE, jF⟩ := y6 oF aG.out; obtain ⟨cK, cL, nQ⟩ := Kd.R_slice cR.out; subst nQ; obtain ⟨cU, cV, nR⟩ := Kd.R_slice cS.out; subst nR; obtain ⟨cN, cO, nS⟩ := Kd.S_slice cP.out; subst nS; obtain ⟨kP, kQ, nT⟩ := Kd.S_slice cT.out; subst nT; obtain ⟨jG, jH, jI, jJ, jK, jL, jM⟩ := y6 oF aD.out) | ((with_reducible refine gate_dst (N := 19) rfl ?_); refine Kd.S_lit k50 _ 50 ?hg (N := 19) ?hd (xs := ([] : List (S50))) (inner := []) (ok := fun _ => True) (okp := fun _ => True) ?hr ?hp (fun _ hk => hk) trivial (Below.refl _ _) (Nat.le_refl _) (by simp) ?_; (case hd => rfl); (case hg => rfl); (case hr => first | (go_simp; done) | (go_simp; rfl)); (case hp => exact (Reps.none _ _)); intro pH pI gF hb hg_ hnew_; clear hg_ hnew_; (first | rw [← Ny119.out] at gF | (simp only [Int.reduceToNat] at gF; rw [← Ny119.out] at gF)); replace cR := am (Kd.R_below (by refine KW ?_; exact (RF cR.out aG.out)) hb); replace cS := am (Kd.R_below (by refine KW ?_; exact (RF cS.out aG.out)) hb); have kG := am (Kd.S_lower (Kd.S_new' (Kd.S_new' gF (Kd.S_lt (by refine KX ?_; exact (SF cP.out aG.out)))) (Kd.S_lt (by refine KX ?_; exact (SF cT.out aG.out)))) (below_size (K3 HB aV.out aW.out cQ.out))); replace cP := am (Kd.S_elder' (by refine KX ?_; exact (SF cP.out aG.out)) (Kd.S_base gF) hb); replace cT := am (Kd.S_elder' (by refine KX ?_; exact (SF cT.out aG.out)) (Kd.S_base gF) hb); replace aD := am (blk_below (g := dZ) (o := .cells #[.int .i64 aN, .slice dB bE.length dC, .int .i64 bJ, .slice dD bF.length dE, .slice dF bG.length dG, .slice eA aE.length dH] 36 (0, 0)) (by refine BD ?_; refine blk_far ?_ aR.out _; refine BD ?_; refine blk_far ?_ aR.out _; refine BD ?_; refine blk_far ?_ aR.out _; refine BD ?_; refine blk_far ?_ aR.out _; refine BD ?_; refine blk_far ?_ aR.out _; refine BD ?_; refine blk_far ?_ aR.out _; refine BD ?_; refine blk_far ?_ aR.out _; refine BD ?_; exact aD.out) hb); replace aI := am (blk_below (g := aM) (o := .cells #[.int .i64 0, .slice none 0 0, .int .i64 0, .slice none 0 0, .slice none 0 0, .slice none 0 0] 36 (0, 0)) (by refine BD ?_; refine blk_far ?_ aJ.out _; refine BD ?_; refine blk_far ?_ aJ.out _; refine BD ?_; refine blk_far ?_ aJ.out _; refine BD ?_; refine blk_far ?_ aJ.out _; refine BD ?_; refine blk_far ?_ aJ.out _; refine BD ?_; refine blk_far ?_ aJ.out _; refine BD ?_; refine blk_far ?_ aJ.out _; refine BD ?_; exact aI.out) hb); replace aG := am (blk_below (g := aQ) (o := .cells #[.int .i64 (wrap64 (aN + 1)), .slice cK aY.length cL, .int .i64 aZ, .slice cU bB.length cV, .slice cN bA.length cO, .slice kP dJ.length kQ] 36 (0, 0)) (by refine BD ?_; refine blk_put (cs := #[.int .i64 cI, .slice cK aY.length cL, .int .i64 aZ, .slice cU bB.length cV, .slice cN bA.length cO, .slice kP dJ.length kQ]) ?_ 0 _ rfl; refine BD ?_; refine blk_put (cs := #[.int .i64 cI, .slice cK aY.length cL, .int .i64 aZ, .slice cU bB.length cV, .slice cN bA.length cO, .slice none 0 0]) ?_ 5 _ rfl; refine BD ?_; refine blk_put (cs := #[.int .i64 cI, .slice cK aY.length cL, .int .i64 aZ, .slice cU bB.length cV, .slice none 0 0, .slice none 0 0]) ?_ 4 _ rfl; refine BD ?_; refine blk_put (cs := #[.int .i64 cI, .slice cK aY.length cL, .int .i64 aZ, .slice none 0 0, .slice none 0 0, .slice none 0 0]) ?_ 3 _ rfl; refine BD ?_; refine blk_put (cs := #[.int .i64 cI, .slice cK aY.length cL, .int .i64 0, .slice none 0 0, .slice none 0 0, .slice none 0 0]) ?_ 2 _ rfl; refine BD ?_; refine blk_put (cs := #[.int .i64 cI, .slice none 0 0, .int .i64 0, .slice none 0 0, .slice none 0 0, .slice none 0 0]) ?_ 1 _ rfl; refine BD ?_; refine blk_put (cs := #[.int .i64 0, .slice none 0 0, .int .i64 0, .slice none 0 0, .slice none 0 0, .slice none 0 0]) ?_ 0 _ rfl; refine BD ?_; exact aG.out) hb); replace HB := bl (K3 HB aV.out aW.out cQ.out) hb; clear hb gF; obtain ⟨hA, hB, nU⟩ := Kd.S_slice kG.out; subst nU; obtain ⟨jN, jO, jP, jQ, jR, jS, jT⟩ := y6 pI aG.out))
   go_loopg [4] k (fun kq v4 w' => ∃ (aA : Int) (aX : List (S50)) (u119005 : Value), v4 = .int .i64 aA ∧ Aside0 (spec_GateTick.l0 kq aA aN bE bJ bF bG aE (wrap64 (aN + 1)) aY aZ bB bA aX = some (r1, r2, r3, r4, r5, r6)) ∧ Aside0 (kq ≤ k) ∧ Aside0 (Kd.R k77 77 w' w.heap.size (fun _ => True) (.slice cK aY.length cL) aY) ∧ Aside0 (Kd.R k91 91 w' w.heap.size (fun _ => True) (.slice cU bB.length cV) bB) ∧ Aside0 (Kd.S k50 50 w' w.heap.size (fun k_ => some k_ ≠ (u119005 : Value).ownBlock) (.slice cN bA.length cO) bA) ∧ Aside0 (Kd.S k50 50 w' w.heap.size (fun k_ => some k_ ≠ ((.slice cN bA.length cO) : Value).ownBlock) u119005 aX) ∧ Aside0 (w'.heap[dZ]? = some (.cells #[.int .i64 aN, (.slice dB bE.length dC), .int .i64 bJ, (.slice dD bF.length dE), (.slice dF bG.length dG), (.slice eA aE.length dH)] 36 (0, 0))) ∧ Aside0 (w'.heap[aM]? = some (.cells #[.int .i64 0, (.slice none 0 0), .int .i64 0, (.slice none 0 0), (.slice none 0 0), (.slice none 0 0)] 36 (0, 0))) ∧ Aside0 (w'.heap[aQ]? = some (.cells #[.int .i64 (wrap64 (aN + 1)), (.slice cK aY.length cL), .int .i64 aZ, (.slice cU bB.length cV), (.slice cN bA.length cO), u119005] 36 (0, 0))) ∧ Aside0 (Below w.heap.size w w'))
   case atStart => exact ⟨(0), (gE), (.slice hA gE.length hB), (by first | rfl | (simp; done) | (simp [*]; done)), H', ⟨Nat.le_refl _⟩, ⟨by refine KW ?_; exact Kd.R_mono (Kd.R_far (p := ⟨aQ, 5, none⟩) (Kd.R_types cR.out aG.out (by decide)) (fun _ hk => hk.2) (.slice hA gE.length hB)) (fun _ hk => trivial)⟩, ⟨by refine KW ?_; exact Kd.R_mono (Kd.R_far (p := ⟨aQ, 5, none⟩) (Kd.R_types cS.out aG.out (by decide)) (fun _ hk => hk.2) (.slice hA gE.length hB)) (fun _ hk => trivial)⟩, ⟨by refine KX ?_; exact Kd.S_mono (Kd.S_far (p := ⟨aQ, 5, none⟩) (Kd.S_types cP.out aG.out (by decide)) (fun _ hk => hk.2) (.slice hA gE.length hB)) (fun _ hk => hk.1.2)⟩, ⟨by refine KX ?_; exact Kd.S_mono (Kd.S_far (p := ⟨aQ, 5, none⟩) (Kd.S_types kG.out aG.out (by decide)) (fun _ hk => hk.2) (.slice hA gE.length hB)) (fun _ hk => hk.1.1.2)⟩, ⟨by refine BD ?_; refine blk_far ?_ aR.out _; refine BD ?_; exact aD.out⟩, ⟨by refine BD ?_; refine blk_far ?_ aJ.out _; refine BD ?_; exact aI.out⟩, ⟨by refine BD ?_; refine blk_put (cs := #[.int .i64 (wrap64 (aN + 1)), .slice cK aY.length cL, .int .i64 aZ, .slice cU bB.length cV, .slice cN bA.length cO, .slice kP dJ.length kQ]) ?_ 5 _ rfl; refine BD ?_; exact aG.out⟩, ⟨K3 HB aV.out aW.out cQ.out⟩⟩
   case round =>
    clear H'
    try clear c1
    try clear c2
    try clear p2
    try clear c3
    try clear c5
    try clear c5b0
    try clear p6
    try clear c8
    try clear pT
    try clear pU
    try clear pV
    try clear pW
    try clear pX
    try clear hI hJ hL hM hN hO hP
    try clear hQ hR hS hT hU hV hW
    try clear hX hY hZ iA iB iC iD
    try clear iE iF iG iH iI iJ iK
    try clear iL iM iN iO iP iQ iR
    try clear iS iT iU iV iW iX iY
    try clear iZ jA jB jC jD jE jF
    try clear jG jH jI jJ jK jL jM
    try clear jN jO jP jQ jR jS jT
    try clear kI kJ kK kL kM kN kO
    obtain ⟨aA, aX, u119005, rfl, HA, HK1, aT, aU, aK, aH, aD, aI, aG, HB⟩ := hrel
    cases gk with
    | zero => exact absurd HA.out (by simp [spec_GateTick.l0])
    | succ k1 =>
     have H := HA.out
     clear HA
     simp only [spec_GateTick.l0] at H
     by_cases kZ : aA < (aE.length : Int)
     ·rw [if_pos kZ] at H
      have c43b0 : decide (aA < (aE.length : Int)) = true := decide_eq_true kZ
      clear kZ
      by_cases lI : 0 ≤ aA
      ·rw [if_pos lI] at H
       have c44b0 : decide (0 ≤ aA) = true := decide_eq_true lI
       clear lI
       by_cases lA : (wrap64 (aN + 1)) < (wrap64 (((rd_T50 aE aA).f4) + (wrap64 (2 * ((rd_T50 aE aA).f7)))))
       ·rw [if_pos lA] at H
        have c45b0 : decide ((wrap64 (aN + 1)) < (wrap64 (((rd_T50 aE aA).f4) + (wrap64 (2 * ((rd_T50 aE aA).f7)))))) = true := decide_eq_true lA
        clear lA
        replace H := bm H
        obtain ⟨⟨gO, gP, gQ, gR, gS, gT, gU, gV, gW, gX, fZ⟩, lE, H⟩ := H
        replace H : (if aX.length < 1172812402961 then (spec_GateTick.l0 k1 (wrap64 (aA + 1)) aN bE bJ bF bG aE (wrap64 (aN + 1)) aY aZ bB bA (aX ++ [(⟨gO, gP, gQ, gR, gS, gT, gU, gV, gW, (⟨gX, fZ⟩ : S48)⟩ : S50)])) else (none)) = some (r1, r2, r3, r4, r5, r6) := H
        have pJ := Aside0.mk lE
        clear lE
        by_cases lJ : aX.length < 1172812402961
        ·rw [if_pos lJ] at H
         have LMc47 := Aside0.mk lJ
         clear lJ
         obtain ⟨gY, gA⟩ : ∃ y_ : List (S50), y_ = (aX ++ [(⟨gO, gP, gQ, gR, gS, gT, gU, gV, gW, (⟨gX, fZ⟩ : S48)⟩ : S50)]) := ⟨_, rfl⟩
         replace H : (spec_GateTick.l0 k1 (wrap64 (aA + 1)) aN bE bJ bF bG aE (wrap64 (aN + 1)) aY aZ bB bA gY) = some (r1, r2, r3, r4, r5, r6) := by first | (rw [gA]; with_reducible exact H) | (have H2_ := (Option.bind_some _ _).symm.trans H; rw [gA]; with_reducible exact H2_) | (have H2_ := (Option.bind_some _ _).symm.trans H; with_reducible exact H2_) | with_reducible exact H | (rw [gA]; exact H) | exact H
         have Ny138 := Aside0.mk gA
         clear gA
         have H' := Aside0.mk H
         clear H
         have oK := bK.out
         have oL := bL.out
         have oM := aR.out
         have oN := bM.out
         have ⟨_, _, _, _, _, _, _⟩ := y6 wr aD.out
         try go_wp2
         replace aT := am (Kd.R_drew aT.out)
         replace aU := am (Kd.R_drew aU.out)
         replace aK := am (Kd.S_drew aK.out)
         replace aH := am (Kd.S_drew aH.out)
         replace aD := am (blk_drew aD.out)
         replace aI := am (blk_drew aI.out)
         replace aG := am (blk_drew aG.out)
         replace HB := am (below_drew1 HB.out)
         have gG : 0 ≤ (aA : Int) := OD
         have gH : aA < (aE.length : Int) := OD
         obtain ⟨aC, dK, dL, kR, bO, bP, bQ, bR, bS, bT, bU, bV, bW, bX, bC, cW, cX⟩ := at_T50 dI.out aA gG gH
         have eN := bC
         have eV := bX
         have eW := bW
         have eX := bV
         have eY := bU
         have eZ := bT
         have fA := bS
         have fB := bR
         have fC := bQ
         have fD := bP
         have fE := bO
         cases kR
         replace bO := CX HB.out bO
         replace bP := CX HB.out bP
         replace bQ := CX HB.out bQ
         replace bR := CX HB.out bR
         replace bS := CX HB.out bS
         replace bT := CX HB.out bT
         replace bU := CX HB.out bU
         replace bV := CX HB.out bV
         replace bW := CX HB.out bW
         replace bX := CX HB.out bX
         replace bC := CX HB.out bC
         have eO := Aside0.mk cX
         have hC := Aside0.mk cW
         clear cX cW
         replace gG := eq_true gG
         replace gH := eq_true gH
         have gI : 0 ≤ (aA : Int) := OD
         have gJ : aA < (aE.length : Int) := OD
         obtain ⟨hD, jU, jV, kS, bY, bZ, cA, cB, cC, cD, cE, cF, cG, cH, bD, cY, cZ⟩ := at_T50 dI.out aA gI gJ
         have eP := bD
         have fF := cH
         have fG := cG
         have fH := cF
         have fI := cE
         have fJ := cD
         have fK := cC
         have fL := cB
         have fM := cA
         have fN := bZ
         have fO := bY
         obtain rfl : aC = hD := (by injection kS)
         replace bY := CX HB.out bY
         replace bZ := CX HB.out bZ
         replace cA := CX HB.out cA
         replace cB := CX HB.out cB
         replace cC := CX HB.out cC
         replace cD := CX HB.out cD
         replace cE := CX HB.out cE
         replace cF := CX HB.out cF
         replace cG := CX HB.out cG
         replace cH := CX HB.out cH
         replace bD := CX HB.out bD
         have eQ := Aside0.mk cZ
         have hE := Aside0.mk cY
         clear cZ cY
         replace gI := eq_true gI
         replace gJ := eq_true gJ
         have ea_ := Option.some.inj (bC.symm.trans bD)
         injection ea_ with ea_ en_ ec_
         subst ea_
         subst ec_
         clear en_
         refine start_ (n := 17) (S := fun w' => ce6 w' aQ (.int .i64 (wrap64 (aN + 1))) (.slice cK aY.length cL) (.int .i64 aZ) (.slice cU bB.length cV) (.slice cN bA.length cO) (u119005) (ce6 w' dZ (.int .i64 aN) (.slice dB bE.length dC) (.int .i64 bJ) (.slice dD bF.length dE) (.slice dF bG.length dG) (.slice (some aC) aE.length dH) (w'.cell? (aC.add ((aA).toNat * 11)) = some (.int .i64 ((rd_T50 aE aA).f0)) ∧ w'.cell? ⟨(aC.add ((aA).toNat * 11)).block, (aC.add ((aA).toNat * 11)).off + 1, none⟩ = some (.int .i64 ((rd_T50 aE aA).f1)) ∧ w'.cell? ⟨(aC.add ((aA).toNat * 11)).block, (aC.add ((aA).toNat * 11)).off + 2, none⟩ = some (.string ((rd_T50 aE aA).f2)) ∧ w'.cell? ⟨(aC.add ((aA).toNat * 11)).block, (aC.add ((aA).toNat * 11)).off + 3, none⟩ = some (.string ((rd_T50 aE aA).f3)) ∧ w'.cell? ⟨(aC.add ((aA).toNat * 11)).block, (aC.add ((aA).toNat * 11)).off + 4, none⟩ = some (.int .i64 ((rd_T50 aE aA).f4)) ∧ w'.cell? ⟨(aC.add ((aA).toNat * 11)).block, (aC.add ((aA).toNat * 11)).off + 5, none⟩ = some (.int .i64 ((rd_T50 aE aA).f5)) ∧ w'.cell? ⟨(aC.add ((aA).toNat * 11)).block, (aC.add ((aA).toNat * 11)).off + 6, none⟩ = some (.int .i64 ((rd_T50 aE aA).f6)) ∧ w'.cell? ⟨(aC.add ((aA).toNat * 11)).block, (aC.add ((aA).toNat * 11)).off + 7, none⟩ = some (.int .i64 ((rd_T50 aE aA).f7)) ∧ w'.cell? ⟨(aC.add ((aA).toNat * 11)).block, (aC.add ((aA).toNat * 11)).off + 8, none⟩ = some (.int .i64 ((rd_T50 aE aA).f8)) ∧ w'.cell? ⟨(aC.add ((aA).toNat * 11)).block, (aC.add ((aA).toNat * 11)).off + 9, none⟩ = some (.int .i64 ((rd_T50 aE aA).f9.f0)) ∧ w'.cell? ⟨(aC.add ((aA).toNat * 11)).block, (aC.add ((aA).toNat * 11)).off + 10, none⟩ = some (.slice dK ((rd_T50 aE aA).f9.f1).length dL) ∧ w'.cell? (aC.add ((aA).toNat * 11)) = some (.int .i64 ((rd_T50 aE aA).f0)) ∧ w'.cell? ⟨(aC.add ((aA).toNat * 11)).block, (aC.add ((aA).toNat * 11)).off + 1, none⟩ = some (.int .i64 ((rd_T50 aE aA).f1)) ∧ w'.cell? ⟨(aC.add ((aA).toNat * 11)).block, (aC.add ((aA).toNat * 11)).off + 2, none⟩ = some (.string ((rd_T50 aE aA).f2)) ∧ w'.cell? ⟨(aC.add ((aA).toNat * 11)).block, (aC.add ((aA).toNat * 11)).off + 3, none⟩ = some (.string ((rd_T50 aE aA).f3)) ∧ w'.cell? ⟨(aC.add ((aA).toNat * 11)).block, (aC.add ((aA).toNat * 11)).off + 4, none⟩ = some (.int .i64 ((rd_T50 aE aA).f4)) ∧ w'.cell? ⟨(aC.add ((aA).toNat * 11)).block, (aC.add ((aA).toNat * 11)).off + 5, none⟩ = some (.int .i64 ((rd_T50 aE aA).f5)) ∧ w'.cell? ⟨(aC.add ((aA).toNat * 11)).block, (aC.add ((aA).toNat * 11)).off + 6, none⟩ = some (.int .i64 ((rd_T50 aE aA).f6)) ∧ w'.cell? ⟨(aC.add ((aA).toNat * 11)).block, (aC.add ((aA).toNat * 11)).off + 7, none⟩ = some (.int .i64 ((rd_T50 aE aA).f7)) ∧ w'.cell? ⟨(aC.add ((aA).toNat * 11)).block, (aC.add ((aA).toNat * 11)).off + 8, none⟩ = some (.int .i64 ((rd_T50 aE aA).f8)) ∧ w'.cell? ⟨(aC.add ((aA).toNat * 11)).block, (aC.add ((aA).toNat * 11)).off + 9, none⟩ = some (.int .i64 ((rd_T50 aE aA).f9.f0)) ∧ w'.cell? ⟨(aC.add ((aA).toNat * 11)).block, (aC.add ((aA).toNat * 11)).off + 10, none⟩ = some (.slice dK ((rd_T50 aE aA).f9.f1).length dL)))) (ds := []) (tf 0 17) (by kernel_rfl) rfl rfl ⟨z0 _ aG.out, z1 _ aG.out, z2 _ aG.out, z3 _ aG.out, z4 _ aG.out, z5 _ aG.out, z0 _ aD.out, z1 _ aD.out, z2 _ aD.out, z3 _ aD.out, z4 _ aD.out, z5 _ aD.out, (CY HB.out fE), (CY HB.out fD), (CY HB.out fC), (CY HB.out fB), (CY HB.out fA), (CY HB.out eZ), (CY HB.out eY), (CY HB.out eX), (CY HB.out eW), (CY HB.out eV), (CY HB.out eN), (CY HB.out fO), (CY HB.out fN), (CY HB.out fM), (CY HB.out fL), (CY HB.out fK), (CY HB.out fJ), (CY HB.out fI), (CY HB.out fH), (CY HB.out fG), (CY HB.out fF), (CY HB.out eP)⟩ (fun bI => ?_); refine with_tabW spec_GateTick.tab11 spec_GateTick.bits11 (fun bN gK => ?_)
         generalize wr.drew = pK at aT aU aK aH aD aI aG HB eO eQ bO bP bC bQ bR bS bT bU bV bW bX bY bZ bD cA cB cC cD cE cF cG cH bI ⊢
         refine pv bN 0 28 (tf 1 16) ?_
         refine pv bN 2 30 (tr [1, 1, 1, 14]) ?_
         refine pv bN 4 32 (tr [1, 1, 1, 1, 1, 12]) ?_
         refine pv bN 8 36 (tr [1, 1, 1, 1, 1, 3, 1, 8]) ?_
         refine pv bN 10 38 (tr [1, 1, 1, 1, 1, 3, 1, 1, 1, 6]) ?_
         refine tk 1 (some 29) (tr [3, 1, 1, 3, 1, 1, 1, 6]) (take_ofW bN.out gK.out (by kernel_rfl)) bI ?_
         refine tk 3 (some 31) (tr [5, 3, 1, 1, 1, 6]) (take_ofW bN.out gK.out (by kernel_rfl)) bI ?_
         refine pv bN 5 33 (tr [6, 2, 1, 1, 1, 6]) ?_
         refine pv bN 6 34 (tr [7, 1, 1, 1, 1, 6]) ?_
         refine tk 7 (some 35) (tr [9, 1, 1, 6]) (take_ofW bN.out gK.out (by kernel_rfl)) bI ?_
         refine tk 9 (some 37) (tf 11 6) (take_ofW bN.out gK.out (by kernel_rfl)) bI ?_
         refine pv bN 11 39 (tf 12 5) ?_
         refine pv bN 12 40 (tf 13 4) ?_
         refine tk 13 (some 41) (tf 14 3) (take_ofW bN.out gK.out (by kernel_rfl)) bI ?_
         refine pv bN 14 42 (tf 15 2) ?_
         refine pv bN 15 43 (tf 16 1) ?_
         refine pv bN 16 44 (tf 17 0) ?_
         refine done_ (done_of bN.out (by kernel_rfl)) ?_
         try go_wp2
         replace aT := am (Kd.R_drew aT.out)
         replace aU := am (Kd.R_drew aU.out)
         replace aK := am (Kd.S_drew aK.out)
         replace aH := am (Kd.S_drew aH.out)
         replace aD := am (blk_drew aD.out)
         replace aI := am (blk_drew aI.out)
         replace aG := am (blk_drew aG.out)
         replace HB := am (below_drew1 HB.out)
         have kT : 0 ≤ (aA : Int) := OD
         have kU : aA < (aE.length : Int) := OD
         obtain ⟨lF, gL, gM, nV, eB, eC, eD, eE, eF, eG, eH, eI, eJ, eK, dM, gB, gC⟩ := at_T50 dI.out aA kT kU
         have dA := dM
         have dN := eK
         have dO := eJ
         have dP := eI
         have dQ := eH
         have dR := eG
         have dS := eF
         have dT := eE
         have dU := eD
         have dV := eC
         have dW := eB
         obtain rfl : aC = lF := (by injection nV)
         replace eB := CX HB.out eB
         replace eC := CX HB.out eC
         replace eD := CX HB.out eD
         replace eE := CX HB.out eE
         replace eF := CX HB.out eF
         replace eG := CX HB.out eG
         replace eH := CX HB.out eH
         replace eI := CX HB.out eI
         replace eJ := CX HB.out eJ
         replace eK := CX HB.out eK
         replace dM := CX HB.out dM
         have gD := Aside0.mk gC
         have hF := Aside0.mk gB
         clear gC gB
         replace kT := eq_true kT
         replace kU := eq_true kU
         refine start_ (n := 12) (S := fun w' => ce6 w' aQ (.int .i64 (wrap64 (aN + 1))) (.slice cK aY.length cL) (.int .i64 aZ) (.slice cU bB.length cV) (.slice cN bA.length cO) (u119005) (ce6 w' dZ (.int .i64 aN) (.slice dB bE.length dC) (.int .i64 bJ) (.slice dD bF.length dE) (.slice dF bG.length dG) (.slice (some aC) aE.length dH) (w'.cell? (aC.add ((aA).toNat * 11)) = some (.int .i64 ((rd_T50 aE aA).f0)) ∧ w'.cell? ⟨(aC.add ((aA).toNat * 11)).block, (aC.add ((aA).toNat * 11)).off + 1, none⟩ = some (.int .i64 ((rd_T50 aE aA).f1)) ∧ w'.cell? ⟨(aC.add ((aA).toNat * 11)).block, (aC.add ((aA).toNat * 11)).off + 2, none⟩ = some (.string ((rd_T50 aE aA).f2)) ∧ w'.cell? ⟨(aC.add ((aA).toNat * 11)).block, (aC.add ((aA).toNat * 11)).off + 3, none⟩ = some (.string ((rd_T50 aE aA).f3)) ∧ w'.cell? ⟨(aC.add ((aA).toNat * 11)).block, (aC.add ((aA).toNat * 11)).off + 4, none⟩ = some (.int .i64 ((rd_T50 aE aA).f4)) ∧ w'.cell? ⟨(aC.add ((aA).toNat * 11)).block, (aC.add ((aA).toNat * 11)).off + 5, none⟩ = some (.int .i64 ((rd_T50 aE aA).f5)) ∧ w'.cell? ⟨(aC.add ((aA).toNat * 11)).block, (aC.add ((aA).toNat * 11)).off + 6, none⟩ = some (.int .i64 ((rd_T50 aE aA).f6)) ∧ w'.cell? ⟨(aC.add ((aA).toNat * 11)).block, (aC.add ((aA).toNat * 11)).off + 7, none⟩ = some (.int .i64 ((rd_T50 aE aA).f7)) ∧ w'.cell? ⟨(aC.add ((aA).toNat * 11)).block, (aC.add ((aA).toNat * 11)).off + 8, none⟩ = some (.int .i64 ((rd_T50 aE aA).f8)) ∧ w'.cell? ⟨(aC.add ((aA).toNat * 11)).block, (aC.add ((aA).toNat * 11)).off + 9, none⟩ = some (.int .i64 ((rd_T50 aE aA).f9.f0)) ∧ w'.cell? ⟨(aC.add ((aA).toNat * 11)).block, (aC.add ((aA).toNat * 11)).off + 10, none⟩ = some (.slice gL ((rd_T50 aE aA).f9.f1).length gM)))) (ds := [11]) (tf 0 12) (by kernel_rfl) rfl rfl ⟨z0 _ aG.out, z1 _ aG.out, z2 _ aG.out, z3 _ aG.out, z4 _ aG.out, z5 _ aG.out, z0 _ aD.out, z1 _ aD.out, z2 _ aD.out, z3 _ aD.out, z4 _ aD.out, z5 _ aD.out, (CY HB.out dW), (CY HB.out dV), (CY HB.out dU), (CY HB.out dT), (CY HB.out dS), (CY HB.out dR), (CY HB.out dQ), (CY HB.out dP), (CY HB.out dO), (CY HB.out dN), (CY HB.out dA)⟩ (fun bI => ?_); refine with_tabW spec_GateTick.tab12 spec_GateTick.bits12 (fun bN gK => ?_)
         generalize pK.drew = pY at aT aU aK aH aD aI aG HB gD eB eC dM eD eE eF eG eH eI eJ eK bI ⊢
         refine pv bN 0 45 (tf 1 11) ?_
         refine pv bN 2 47 (tr [1, 1, 1, 9]) ?_
         refine pv bN 4 49 (tr [1, 1, 1, 1, 1, 7]) ?_
         refine tk 1 (some 46) (tr [3, 1, 1, 7]) (take_ofW bN.out gK.out (by kernel_rfl)) bI ?_
         refine tk 3 (some 48) (tf 5 7) (take_ofW bN.out gK.out (by kernel_rfl)) bI ?_
         refine pv bN 5 50 (tf 6 6) ?_
         refine tk 6 (some 51) (tf 7 5) (take_ofW bN.out gK.out (by kernel_rfl)) bI ?_
         refine one_ (i := 7) (N := some 52) (tf 8 4) rfl rfl (one_of bN.out (by kernel_rfl)) (by decide) (fun K hK => ?_)
         refine goes_ Tryz.func16 (by kernel_rfl) rfl #[.agg #[.int .i64 ((rd_T50 aE aA).f0), .int .i64 ((rd_T50 aE aA).f1), .string ((rd_T50 aE aA).f2), .string ((rd_T50 aE aA).f3), .int .i64 ((rd_T50 aE aA).f4), .int .i64 ((rd_T50 aE aA).f5), .int .i64 ((rd_T50 aE aA).f6), .int .i64 ((rd_T50 aE aA).f7), .int .i64 ((rd_T50 aE aA).f8), .int .i64 ((rd_T50 aE aA).f9.f0), .slice gL ((rd_T50 aE aA).f9.f1).length gM]] (by rfl) rfl rfl MT ?_
         with_reducible refine (spec_l9Copy.calls ((rd_T50 aE aA).f0) ((rd_T50 aE aA).f1) ((rd_T50 aE aA).f2) ((rd_T50 aE aA).f3) ((rd_T50 aE aA).f4) ((rd_T50 aE aA).f5) ((rd_T50 aE aA).f6) ((rd_T50 aE aA).f7) ((rd_T50 aE aA).f8) ((rd_T50 aE aA).f9.f0) _ _ ((rd_T50 aE aA).f9.f1) gO gP gQ gR gS gT gU gV gW gX fZ _ ?_ ?_ pJ.out).mono ?_
         exact KD gD HB
         exact hF.out
         rintro e pZ ⟨pL, rfl, hG, hb⟩
         refine ⟨_, rfl, ?_⟩
         replace aT := am (Kd.R_below (KR aT) hb)
         replace aU := am (Kd.R_below (KR aU) hb)
         replace aK := am (Kd.S_elder' (by refine KX ?_; exact aK.out) (Kd.R_base hG) hb)
         replace aH := am (Kd.S_elder' (by refine KX ?_; exact aH.out) (Kd.R_base hG) hb)
         have gN := am (Kd.R_lower hG (below_size (K3 HB aV.out aW.out cQ.out)))
         replace aD := am (BB aD hb)
         replace aI := am (BB aI hb)
         replace aG := am (BB aG hb)
         replace HB := bl (K3 HB aV.out aW.out cQ.out) hb
         (try clear hb)
         (try clear hb2)
         (try clear hk)
         (try clear hi)
         (try clear hG)
         obtain ⟨kV, kW, lG⟩ := Kd.R_slice gN.out
         (first | subst lG | (injection lG with f1_ f2_ f3_; have f4_ := f1_.symm; have f5_ := f3_.symm; clear f1_ f2_ f3_; subst f4_; subst f5_))
         refine hK.out _ _ ⟨z0 _ aG.out, z1 _ aG.out, z2 _ aG.out, z3 _ aG.out, z4 _ aG.out, z5 _ aG.out, z0 _ aD.out, z1 _ aD.out, z2 _ aD.out, z3 _ aD.out, z4 _ aD.out, z5 _ aD.out, (CY HB.out dW), (CY HB.out dV), (CY HB.out dU), (CY HB.out dT), (CY HB.out dS), (CY HB.out dR), (CY HB.out dQ), (CY HB.out dP), (CY HB.out dO), (CY HB.out dN), (CY HB.out dA)⟩ (fun bI => ?_)
         clear hK K
         refine nm (some 52) ?_
         refine one_ (i := 8) (N := some 53) (tf 9 3) rfl rfl (one_of bN.out (by kernel_rfl)) (by decide) (fun K hK => ?_)
         refine value_ (w1 := ?_) (v := ?_) (by rfl) rfl ?_ ?_
         rotate_left 2
         ·go_simp
          constructor
          ·rfl
          ·rfl
         refine hK.out _ _ ⟨(blk_cell (blk_alloc aG.out _) 0).trans rfl, (blk_cell (blk_alloc aG.out _) 1).trans rfl, (blk_cell (blk_alloc aG.out _) 2).trans rfl, (blk_cell (blk_alloc aG.out _) 3).trans rfl, (blk_cell (blk_alloc aG.out _) 4).trans rfl, (blk_cell (blk_alloc aG.out _) 5).trans rfl, (blk_cell (blk_alloc aD.out _) 0).trans rfl, (blk_cell (blk_alloc aD.out _) 1).trans rfl, (blk_cell (blk_alloc aD.out _) 2).trans rfl, (blk_cell (blk_alloc aD.out _) 3).trans rfl, (blk_cell (blk_alloc aD.out _) 4).trans rfl, (blk_cell (blk_alloc aD.out _) 5).trans rfl, (World.cell?_alloc_lt _ _ _ (World.block_lt_of_cell? _ _ ((CY HB.out dW)))).trans ((CY HB.out dW)), (World.cell?_alloc_lt _ _ _ (World.block_lt_of_cell? _ _ ((CY HB.out dV)))).trans ((CY HB.out dV)), (World.cell?_alloc_lt _ _ _ (World.block_lt_of_cell? _ _ ((CY HB.out dU)))).trans ((CY HB.out dU)), (World.cell?_alloc_lt _ _ _ (World.block_lt_of_cell? _ _ ((CY HB.out dT)))).trans ((CY HB.out dT)), (World.cell?_alloc_lt _ _ _ (World.block_lt_of_cell? _ _ ((CY HB.out dS)))).trans ((CY HB.out dS)), (World.cell?_alloc_lt _ _ _ (World.block_lt_of_cell? _ _ ((CY HB.out dR)))).trans ((CY HB.out dR)), (World.cell?_alloc_lt _ _ _ (World.block_lt_of_cell? _ _ ((CY HB.out dQ)))).trans ((CY HB.out dQ)), (World.cell?_alloc_lt _ _ _ (World.block_lt_of_cell? _ _ ((CY HB.out dP)))).trans ((CY HB.out dP)), (World.cell?_alloc_lt _ _ _ (World.block_lt_of_cell? _ _ ((CY HB.out dO)))).trans ((CY HB.out dO)), (World.cell?_alloc_lt _ _ _ (World.block_lt_of_cell? _ _ ((CY HB.out dN)))).trans ((CY HB.out dN)), (World.cell?_alloc_lt _ _ _ (World.block_lt_of_cell? _ _ ((CY HB.out dA)))).trans ((CY HB.out dA))⟩ (fun bI => ?_)
         clear hK K
         refine nm (some 53) ?_
         refine one_ (i := 9) (N := some 54) (tf 10 2) rfl rfl (one_of bN.out (by kernel_rfl)) (by decide) (fun K hK => ?_)
         refine Kd.S_append_step k50 (w0 := w) w.heap.size (by rfl) (.tmp 46) (.tmp 53) 34 50 (.agg #[(.int .i64 0), (.int .i64 0), (.string ⟨#[]⟩), (.string ⟨#[]⟩), (.int .i64 0), (.int .i64 0), (.int .i64 0), (.int .i64 0), (.int .i64 0), (.int .i64 0), (.slice none 0 0)]) 120 rfl Tryz.underlying34 info50 rfl (by decide) (by omega) u119005 aX (⟨gO, gP, gQ, gR, gS, gT, gU, gV, gW, (⟨gX, fZ⟩ : S48)⟩ : S50) [.int .i64 gO, .int .i64 gP, .string gQ, .string gR, .int .i64 gS, .int .i64 gT, .int .i64 gU, .int .i64 gV, .int .i64 gW, .int .i64 gX, .slice kV fZ.length kW] (fun k_ => some k_ ≠ (.slice cN bA.length cO : Value).ownBlock) (fun k_ => some k_ = (.slice kV fZ.length kW : Value).ownBlock) rfl rfl ?aP (fun k_ hk_ => ((Kd.R_mono (ok' := fun k_ => ((fun k_ => some k_ ≠ (.slice cN bA.length cO : Value).ownBlock)) k_ ∧ some k_ ≠ (u119005 : Value).ownBlock) (Kd.R_apart' (Kd.R_apart' (gN.out) (Kd.S_typed aK.out) (by decide)) (Kd.S_typed aH.out) (by decide)) (fun k_ hk => ⟨hk.1.2, hk.2⟩))).1 k_ hk_.symm) ?aF ?aO ?aB ?aS ?aL ?_
         (case aP => exact k50_mkM _ _ _ (⟨gO, gP, gQ, gR, gS, gT, gU, gV, gW, (⟨gX, fZ⟩ : S48)⟩ : S50) (Kd.R_mono (Kd.R_tight rfl (Kd.R_mono (ok' := fun k_ => ((fun k_ => some k_ ≠ (.slice cN bA.length cO : Value).ownBlock)) k_ ∧ some k_ ≠ (u119005 : Value).ownBlock) (Kd.R_apart' (Kd.R_apart' (gN.out) (Kd.S_typed aK.out) (by decide)) (Kd.S_typed aH.out) (by decide)) (fun k_ hk => ⟨hk.1.2, hk.2⟩))) (fun _ h_ => h_)))
         (case aB => exact (K3 HB aV.out aW.out cQ.out))
         (case aF => exact (fun k_ hk => Kd.fresh' (Kd.S_lt (by refine KX ?_; exact aK.out)) k_ hk))
         (case aO => exact (by refine KX ?_; exact Kd.S_mono aH.out (fun k_ hk => ⟨hk.1, fun e_ => hk.2 e_⟩)))
         (case aS => exact (below_size (K3 HB aV.out aW.out cQ.out)))
         (case aL => have := LMc47.out; omega)
         intro pM pN ho hb hg hat
         rw [← Ny138.out] at ho
         replace aT := am (Kd.R_over' (KR aT) (Kd.S_typed (by refine KX ?_; exact aH.out)) (by decide) hg)
         replace aU := am (Kd.R_over' (KR aU) (Kd.S_typed (by refine KX ?_; exact aH.out)) (by decide) hg)
         replace aK := am (Kd.S_after (ok := (fun k_ => some k_ ≠ (.slice kV fZ.length kW : Value).ownBlock)) (by refine KX ?_; exact Kd.S_mono aK.out (fun _ hk => ⟨hk.2, hk.1⟩)) hg hat)
         replace aD := am (blk_grown (g := dZ) (o := .cells #[.int .i64 aN, .slice dB bE.length dC, .int .i64 bJ, .slice dD bF.length dE, .slice dF bG.length dG, .slice (some aC) aE.length dH] 36 (0, 0)) (KB aD) hg (Kd.S_ne aH.out aD.out (by decide)))
         replace aI := am (blk_grown (g := aM) (o := .cells #[.int .i64 0, .slice none 0 0, .int .i64 0, .slice none 0 0, .slice none 0 0, .slice none 0 0] 36 (0, 0)) (KB aI) hg (Kd.S_ne aH.out aI.out (by decide)))
         replace aG := am (blk_grown (g := aQ) (o := .cells #[.int .i64 (wrap64 (aN + 1)), .slice cK aY.length cL, .int .i64 aZ, .slice cU bB.length cV, .slice cN bA.length cO, u119005] 36 (0, 0)) (KB aG) hg (Kd.S_ne aH.out aG.out (by decide)))
         replace HB := am (hb)
         have kH := am (ho)
         clear aH gN
         clear ho hb hg hat
         obtain ⟨jW, jX, lH⟩ := Kd.S_slice kH.out
         (first | subst lH | (injection lH with f1_ f2_ f3_; have f4_ := f1_.symm; have f5_ := f3_.symm; clear f1_ f2_ f3_; subst f4_; subst f5_))
         refine hK.out _ _ ⟨z0 _ aG.out, z1 _ aG.out, z2 _ aG.out, z3 _ aG.out, z4 _ aG.out, z5 _ aG.out, z0 _ aD.out, z1 _ aD.out, z2 _ aD.out, z3 _ aD.out, z4 _ aD.out, z5 _ aD.out, (CY HB.out dW), (CY HB.out dV), (CY HB.out dU), (CY HB.out dT), (CY HB.out dS), (CY HB.out dR), (CY HB.out dQ), (CY HB.out dP), (CY HB.out dO), (CY HB.out dN), (CY HB.out dA)⟩ (fun bI => ?_)
         clear hK K
         refine nm (some 54) ?_
         refine pv bN 10 55 (tf 11 1) ?_
         refine last_ (i := 11) (N := none) (tf 12 0) rfl rfl (one_of bN.out (by kernel_rfl)) (by decide) (fun K hK => ?_)
         have hs57 : pN.cell? ⟨aQ, 5, none⟩ = some (u119005) := z5 _ aG.out
         have hfs57 := blk_frozen aG.out 5
         have hns57_0 := aR.out
         have hns57_1 := aJ.out
         have hms57_0 := bM.out
         have hms57_1 := cM.out
         refine skip_ (w1 := ?_) (by rfl) rfl ?_ ?_
         rotate_left
         ·go_simp
          rfl
         refine hK.out _ _ ?_
         clear hK K
         refine done_ (done_of bN.out (by kernel_rfl)) ?_
         try go_wp2
         go_roundg k1
         case measure => have := HK1.out; omega
         case rel => exact ⟨(wrap64 (aA + 1)), (gY), (.slice jW gY.length jX), (by first | rfl | (simp; done) | (simp [*]; done)), H', ⟨by have := HK1.out; omega⟩, ⟨by refine KW ?_; exact Kd.R_mono (Kd.R_far (p := ⟨aQ, 5, none⟩) (Kd.R_types aT.out aG.out (by decide)) (fun _ hk => hk.2) (.slice jW gY.length jX)) (fun _ hk => trivial)⟩, ⟨by refine KW ?_; exact Kd.R_mono (Kd.R_far (p := ⟨aQ, 5, none⟩) (Kd.R_types aU.out aG.out (by decide)) (fun _ hk => hk.2) (.slice jW gY.length jX)) (fun _ hk => trivial)⟩, ⟨by refine KX ?_; exact Kd.S_mono (Kd.S_far (p := ⟨aQ, 5, none⟩) (Kd.S_types aK.out aG.out (by decide)) (fun _ hk => hk.2) (.slice jW gY.length jX)) (fun _ hk => hk.1.2)⟩, ⟨by refine KX ?_; exact SF kH.out aG.out⟩, ⟨by refine BD ?_; refine blk_far ?_ aR.out _; refine BD ?_; exact aD.out⟩, ⟨by refine BD ?_; refine blk_far ?_ aJ.out _; refine BD ?_; exact aI.out⟩, ⟨by refine BD ?_; refine blk_put (cs := #[.int .i64 (wrap64 (aN + 1)), .slice cK aY.length cL, .int .i64 aZ, .slice cU bB.length cV, .slice cN bA.length cO, u119005]) ?_ 5 _ rfl; refine BD ?_; exact aG.out⟩, ⟨K3 HB aV.out aW.out cQ.out⟩⟩
        ·rw [if_neg lJ] at H
         exact absurd H (by simp)
       ·rw [if_neg lA] at H
        have c45b0 : decide ((wrap64 (aN + 1)) < (wrap64 (((rd_T50 aE aA).f4) + (wrap64 (2 * ((rd_T50 aE aA).f7)))))) = false := decide_eq_false lA
        clear lA
        have H' := Aside0.mk H
        clear H
        have oO := bK.out
        have oP := bL.out
        have oQ := aR.out
        have oR := bM.out
        have ⟨_, _, _, _, _, _, _⟩ := y6 wr aD.out
        try go_wp2
        replace aT := am (Kd.R_drew aT.out)
        replace aU := am (Kd.R_drew aU.out)
        replace aK := am (Kd.S_drew aK.out)
        replace aH := am (Kd.S_drew aH.out)
        replace aD := am (blk_drew aD.out)
        replace aI := am (blk_drew aI.out)
        replace aG := am (blk_drew aG.out)
        replace HB := am (below_drew1 HB.out)
        have gG : 0 ≤ (aA : Int) := OD
        have gH : aA < (aE.length : Int) := OD
        obtain ⟨aC, dK, dL, kR, bO, bP, bQ, bR, bS, bT, bU, bV, bW, bX, bC, cW, cX⟩ := at_T50 dI.out aA gG gH
        have eN := bC
        have eV := bX
        have eW := bW
        have eX := bV
        have eY := bU
        have eZ := bT
        have fA := bS
        have fB := bR
        have fC := bQ
        have fD := bP
        have fE := bO
        cases kR
        replace bO := CX HB.out bO
        replace bP := CX HB.out bP
        replace bQ := CX HB.out bQ
        replace bR := CX HB.out bR
        replace bS := CX HB.out bS
        replace bT := CX HB.out bT
        replace bU := CX HB.out bU
        replace bV := CX HB.out bV
        replace bW := CX HB.out bW
        replace bX := CX HB.out bX
        replace bC := CX HB.out bC
        have eO := Aside0.mk cX
        have hC := Aside0.mk cW
        clear cX cW
        replace gG := eq_true gG
        replace gH := eq_true gH
        have gI : 0 ≤ (aA : Int) := OD
        have gJ : aA < (aE.length : Int) := OD
        obtain ⟨hD, jU, jV, kS, bY, bZ, cA, cB, cC, cD, cE, cF, cG, cH, bD, cY, cZ⟩ := at_T50 dI.out aA gI gJ
        have eP := bD
        have fF := cH
        have fG := cG
        have fH := cF
        have fI := cE
        have fJ := cD
        have fK := cC
        have fL := cB
        have fM := cA
        have fN := bZ
        have fO := bY
        obtain rfl : aC = hD := (by injection kS)
        replace bY := CX HB.out bY
        replace bZ := CX HB.out bZ
        replace cA := CX HB.out cA
        replace cB := CX HB.out cB
        replace cC := CX HB.out cC
        replace cD := CX HB.out cD
        replace cE := CX HB.out cE
        replace cF := CX HB.out cF
        replace cG := CX HB.out cG
        replace cH := CX HB.out cH
        replace bD := CX HB.out bD
        have eQ := Aside0.mk cZ
        have hE := Aside0.mk cY
        clear cZ cY
        replace gI := eq_true gI
        replace gJ := eq_true gJ
        have ea_ := Option.some.inj (bC.symm.trans bD)
        injection ea_ with ea_ en_ ec_
        subst ea_
        subst ec_
        clear en_
        refine start_ (n := 17) (S := fun w' => ce6 w' aQ (.int .i64 (wrap64 (aN + 1))) (.slice cK aY.length cL) (.int .i64 aZ) (.slice cU bB.length cV) (.slice cN bA.length cO) (u119005) (ce6 w' dZ (.int .i64 aN) (.slice dB bE.length dC) (.int .i64 bJ) (.slice dD bF.length dE) (.slice dF bG.length dG) (.slice (some aC) aE.length dH) (w'.cell? (aC.add ((aA).toNat * 11)) = some (.int .i64 ((rd_T50 aE aA).f0)) ∧ w'.cell? ⟨(aC.add ((aA).toNat * 11)).block, (aC.add ((aA).toNat * 11)).off + 1, none⟩ = some (.int .i64 ((rd_T50 aE aA).f1)) ∧ w'.cell? ⟨(aC.add ((aA).toNat * 11)).block, (aC.add ((aA).toNat * 11)).off + 2, none⟩ = some (.string ((rd_T50 aE aA).f2)) ∧ w'.cell? ⟨(aC.add ((aA).toNat * 11)).block, (aC.add ((aA).toNat * 11)).off + 3, none⟩ = some (.string ((rd_T50 aE aA).f3)) ∧ w'.cell? ⟨(aC.add ((aA).toNat * 11)).block, (aC.add ((aA).toNat * 11)).off + 4, none⟩ = some (.int .i64 ((rd_T50 aE aA).f4)) ∧ w'.cell? ⟨(aC.add ((aA).toNat * 11)).block, (aC.add ((aA).toNat * 11)).off + 5, none⟩ = some (.int .i64 ((rd_T50 aE aA).f5)) ∧ w'.cell? ⟨(aC.add ((aA).toNat * 11)).block, (aC.add ((aA).toNat * 11)).off + 6, none⟩ = some (.int .i64 ((rd_T50 aE aA).f6)) ∧ w'.cell? ⟨(aC.add ((aA).toNat * 11)).block, (aC.add ((aA).toNat * 11)).off + 7, none⟩ = some (.int .i64 ((rd_T50 aE aA).f7)) ∧ w'.cell? ⟨(aC.add ((aA).toNat * 11)).block, (aC.add ((aA).toNat * 11)).off + 8, none⟩ = some (.int .i64 ((rd_T50 aE aA).f8)) ∧ w'.cell? ⟨(aC.add ((aA).toNat * 11)).block, (aC.add ((aA).toNat * 11)).off + 9, none⟩ = some (.int .i64 ((rd_T50 aE aA).f9.f0)) ∧ w'.cell? ⟨(aC.add ((aA).toNat * 11)).block, (aC.add ((aA).toNat * 11)).off + 10, none⟩ = some (.slice dK ((rd_T50 aE aA).f9.f1).length dL) ∧ w'.cell? (aC.add ((aA).toNat * 11)) = some (.int .i64 ((rd_T50 aE aA).f0)) ∧ w'.cell? ⟨(aC.add ((aA).toNat * 11)).block, (aC.add ((aA).toNat * 11)).off + 1, none⟩ = some (.int .i64 ((rd_T50 aE aA).f1)) ∧ w'.cell? ⟨(aC.add ((aA).toNat * 11)).block, (aC.add ((aA).toNat * 11)).off + 2, none⟩ = some (.string ((rd_T50 aE aA).f2)) ∧ w'.cell? ⟨(aC.add ((aA).toNat * 11)).block, (aC.add ((aA).toNat * 11)).off + 3, none⟩ = some (.string ((rd_T50 aE aA).f3)) ∧ w'.cell? ⟨(aC.add ((aA).toNat * 11)).block, (aC.add ((aA).toNat * 11)).off + 4, none⟩ = some (.int .i64 ((rd_T50 aE aA).f4)) ∧ w'.cell? ⟨(aC.add ((aA).toNat * 11)).block, (aC.add ((aA).toNat * 11)).off + 5, none⟩ = some (.int .i64 ((rd_T50 aE aA).f5)) ∧ w'.cell? ⟨(aC.add ((aA).toNat * 11)).block, (aC.add ((aA).toNat * 11)).off + 6, none⟩ = some (.int .i64 ((rd_T50 aE aA).f6)) ∧ w'.cell? ⟨(aC.add ((aA).toNat * 11)).block, (aC.add ((aA).toNat * 11)).off + 7, none⟩ = some (.int .i64 ((rd_T50 aE aA).f7)) ∧ w'.cell? ⟨(aC.add ((aA).toNat * 11)).block, (aC.add ((aA).toNat * 11)).off + 8, none⟩ = some (.int .i64 ((rd_T50 aE aA).f8)) ∧ w'.cell? ⟨(aC.add ((aA).toNat * 11)).block, (aC.add ((aA).toNat * 11)).off + 9, none⟩ = some (.int .i64 ((rd_T50 aE aA).f9.f0)) ∧ w'.cell? ⟨(aC.add ((aA).toNat * 11)).block, (aC.add ((aA).toNat * 11)).off + 10, none⟩ = some (.slice dK ((rd_T50 aE aA).f9.f1).length dL)))) (ds := []) (tf 0 17) (by kernel_rfl) rfl rfl ⟨z0 _ aG.out, z1 _ aG.out, z2 _ aG.out, z3 _ aG.out, z4 _ aG.out, z5 _ aG.out, z0 _ aD.out, z1 _ aD.out, z2 _ aD.out, z3 _ aD.out, z4 _ aD.out, z5 _ aD.out, (CY HB.out fE), (CY HB.out fD), (CY HB.out fC), (CY HB.out fB), (CY HB.out fA), (CY HB.out eZ), (CY HB.out eY), (CY HB.out eX), (CY HB.out eW), (CY HB.out eV), (CY HB.out eN), (CY HB.out fO), (CY HB.out fN), (CY HB.out fM), (CY HB.out fL), (CY HB.out fK), (CY HB.out fJ), (CY HB.out fI), (CY HB.out fH), (CY HB.out fG), (CY HB.out fF), (CY HB.out eP)⟩ (fun bI => ?_); refine with_tabW spec_GateTick.tab11 spec_GateTick.bits11 (fun bN gK => ?_)
        generalize wr.drew = qA at aT aU aK aH aD aI aG HB eO eQ bO bP bC bQ bR bS bT bU bV bW bX bY bZ bD cA cB cC cD cE cF cG cH bI ⊢
        refine pv bN 0 28 (tf 1 16) ?_
        refine pv bN 2 30 (tr [1, 1, 1, 14]) ?_
        refine pv bN 4 32 (tr [1, 1, 1, 1, 1, 12]) ?_
        refine pv bN 8 36 (tr [1, 1, 1, 1, 1, 3, 1, 8]) ?_
        refine pv bN 10 38 (tr [1, 1, 1, 1, 1, 3, 1, 1, 1, 6]) ?_
        refine tk 1 (some 29) (tr [3, 1, 1, 3, 1, 1, 1, 6]) (take_ofW bN.out gK.out (by kernel_rfl)) bI ?_
        refine tk 3 (some 31) (tr [5, 3, 1, 1, 1, 6]) (take_ofW bN.out gK.out (by kernel_rfl)) bI ?_
        refine pv bN 5 33 (tr [6, 2, 1, 1, 1, 6]) ?_
        refine pv bN 6 34 (tr [7, 1, 1, 1, 1, 6]) ?_
        refine tk 7 (some 35) (tr [9, 1, 1, 6]) (take_ofW bN.out gK.out (by kernel_rfl)) bI ?_
        refine tk 9 (some 37) (tf 11 6) (take_ofW bN.out gK.out (by kernel_rfl)) bI ?_
        refine pv bN 11 39 (tf 12 5) ?_
        refine pv bN 12 40 (tf 13 4) ?_
        refine tk 13 (some 41) (tf 14 3) (take_ofW bN.out gK.out (by kernel_rfl)) bI ?_
        refine pv bN 14 42 (tf 15 2) ?_
        refine pv bN 15 43 (tf 16 1) ?_
        refine pv bN 16 44 (tf 17 0) ?_
        refine done_ (done_of bN.out (by kernel_rfl)) ?_
        try go_wp2
        go_roundg k1
        case measure => have := HK1.out; omega
        case rel => exact ⟨(wrap64 (aA + 1)), (aX), (u119005), (by first | rfl | (simp; done) | (simp [*]; done)), H', ⟨by have := HK1.out; omega⟩, ⟨KR aT⟩, ⟨KR aU⟩, ⟨by refine KX ?_; exact aK.out⟩, ⟨by refine KX ?_; exact aH.out⟩, ⟨KB aD⟩, ⟨KB aI⟩, ⟨KB aG⟩, ⟨K3 HB aV.out aW.out cQ.out⟩⟩
      ·rw [if_neg lI] at H
       exact absurd H (by simp)
     ·rw [if_neg kZ] at H
      have c43b0 : decide (aA < (aE.length : Int)) = false := decide_eq_false kZ
      clear kZ
      simp only [Option.some.injEq, Prod.mk.injEq] at H
      obtain ⟨rfl, rfl, rfl, rfl, rfl, rfl⟩ := H
      have oS := bK.out
      have oT := bL.out
      have oU := aR.out
      have oV := bM.out
      have ⟨_, _, _, _, _, _, _⟩ := y6 wr aD.out
      have oW := cM.out
      have oX := aJ.out
      have ⟨_, _, _, _, _, _, _⟩ := y6 wr aG.out
      have ⟨_, _, _, _, _, _, _⟩ := y6 wr aI.out
      obtain ⟨kX, kY, nW⟩ := Kd.S_slice aH.out
      subst nW
      go_wp2
      refine bodyPost_ret (results_cell_row rfl _ _ aM 36 #[.int .i64 (wrap64 (aN + 1)), .slice cK aY.length cL, .int .i64 aZ, .slice cU bB.length cV, .slice cN bA.length cO, .slice kX aX.length kY] (0, 0) _ rfl (by refine BD ?_; refine blk_put (cs := #[.int .i64 (wrap64 (aN + 1)), .slice cK aY.length cL, .int .i64 aZ, .slice cU bB.length cV, .slice cN bA.length cO, .slice none 0 0]) ?_ 5 _ rfl; refine BD ?_; refine blk_put (cs := #[.int .i64 (wrap64 (aN + 1)), .slice cK aY.length cL, .int .i64 aZ, .slice cU bB.length cV, .slice none 0 0, .slice none 0 0]) ?_ 4 _ rfl; refine BD ?_; refine blk_put (cs := #[.int .i64 (wrap64 (aN + 1)), .slice cK aY.length cL, .int .i64 aZ, .slice none 0 0, .slice none 0 0, .slice none 0 0]) ?_ 3 _ rfl; refine BD ?_; refine blk_put (cs := #[.int .i64 (wrap64 (aN + 1)), .slice cK aY.length cL, .int .i64 0, .slice none 0 0, .slice none 0 0, .slice none 0 0]) ?_ 2 _ rfl; refine BD ?_; refine blk_put (cs := #[.int .i64 (wrap64 (aN + 1)), .slice none 0 0, .int .i64 0, .slice none 0 0, .slice none 0 0, .slice none 0 0]) ?_ 1 _ rfl; refine BD ?_; refine blk_put (cs := #[.int .i64 0, .slice none 0 0, .int .i64 0, .slice none 0 0, .slice none 0 0, .slice none 0 0]) ?_ 0 _ rfl; refine BD ?_; exact aI.out) Tryz.underlying36 rfl (by kernel_rfl)) rfl ?_
      exact ⟨_, _, _, _, ER, by refine KW ?_; exact Kd.R_mono (Kd.R_far (p := ⟨aM, 5, none⟩) (Kd.R_far (p := ⟨aM, 4, none⟩) (Kd.R_far (p := ⟨aM, 3, none⟩) (Kd.R_far (p := ⟨aM, 2, none⟩) (Kd.R_far (p := ⟨aM, 1, none⟩) (Kd.R_far (p := ⟨aM, 0, none⟩) (Kd.R_types aT.out aI.out (by decide)) (fun _ hk => hk.2) (.int .i64 (wrap64 (aN + 1)))) (fun _ hk => hk.2) (.slice cK aY.length cL)) (fun _ hk => hk.2) (.int .i64 aZ)) (fun _ hk => hk.2) (.slice cU bB.length cV)) (fun _ hk => hk.2) (.slice cN bA.length cO)) (fun _ hk => hk.2) (.slice kX aX.length kY)) (fun _ hk => trivial), by refine KW ?_; exact Kd.R_mono (Kd.R_far (p := ⟨aM, 5, none⟩) (Kd.R_far (p := ⟨aM, 4, none⟩) (Kd.R_far (p := ⟨aM, 3, none⟩) (Kd.R_far (p := ⟨aM, 2, none⟩) (Kd.R_far (p := ⟨aM, 1, none⟩) (Kd.R_far (p := ⟨aM, 0, none⟩) (Kd.R_types aU.out aI.out (by decide)) (fun _ hk => hk.2) (.int .i64 (wrap64 (aN + 1)))) (fun _ hk => hk.2) (.slice cK aY.length cL)) (fun _ hk => hk.2) (.int .i64 aZ)) (fun _ hk => hk.2) (.slice cU bB.length cV)) (fun _ hk => hk.2) (.slice cN bA.length cO)) (fun _ hk => hk.2) (.slice kX aX.length kY)) (fun _ hk => trivial), by refine KX ?_; exact SF aK.out aI.out, by refine KX ?_; exact SF aH.out aI.out, K3 HB aV.out aW.out cQ.out⟩
 ·replace c3 := Bool.eq_false_iff.mpr c3
  subst c3
  have H1 := nf H
  clear H
  have H := H1
  clear H1
  simp only [Option.some.injEq, Prod.mk.injEq] at H
  obtain ⟨rfl, rfl, rfl, rfl, rfl, rfl⟩ := H
  go_enter Tryz.func5, Tryz.ntmps5
  go_wp2_with (first | ((with_reducible refine gate_dst (N := 1) rfl ?_); refine box_event rfl (N := 1) rfl (cs := #[.int .i64 aN, .slice dB bE.length dC, .int .i64 bJ, .slice dD bF.length dE, .slice dF bG.length dG, .slice eA aE.length dH]) (t := 36) BX ?_; intro dZ hg qB cJ hb; have aD := am (cJ); have fW := am (GH HB hg); have aV := fW; replace HB := bl (KL HB) hb; clear hb cJ hg) | ((with_reducible refine gate_dst (N := 2) rfl ?_); refine box_event rfl (N := 2) rfl (cs := #[.int .i64 0, .slice none 0 0, .int .i64 0, .slice none 0 0, .slice none 0 0, .slice none 0 0]) (t := 36) BX ?_; intro aM hg pO cJ hb; have aI := am (cJ); have fX := am (GH1 HB aV.out hg); have aW := fX; replace HB := bl (K1 HB aV.out) hb; have bK := am (NL aD hg); have bL := am (NG aD hg); replace aD := am (BB aD hb); clear hb cJ hg; have oY := bK.out; have oZ := bL.out; have ⟨_, _, _, _, _, _, _⟩ := y6 pO aD.out) | ((with_reducible refine gate_callee (f := 14) rfl ?_); refine goesL_ (some 6) rfl rfl Tryz.func14 (by kernel_rfl) rfl #[.agg #[.int .i64 aN, .slice dB bE.length dC, .int .i64 bJ, .slice dD bF.length dE, .slice dF bG.length dG, .slice eA aE.length dH]] rfl MT ?_; (with_reducible refine (spec_GateOk.calls k aN _ _ bE bJ _ _ bF _ _ bG _ _ aE false _ ?_ ?_ ?_ ?_ ?_ ?_ ?_ ?_ A2.out).mono ?_); exact KD fP HB; exact fQ.out; exact KD fR HB; exact fS.out; exact KD fT HB; exact fU.out; exact KD dI HB; exact fV.out; rintro e pP ⟨rfl, hb⟩; refine ⟨_, rfl, ?_⟩; replace aD := am (BB aD hb); replace aI := am (BB aI hb); replace HB := bl (K2 HB aV.out aW.out) hb; (try clear hb); have ⟨_, _, _, _, _, _, _⟩ := y6 pP aI.out))
  refine bodyPost_ret (results_cell_row rfl _ _ aM 36 #[.int .i64 0, .slice none 0 0, .int .i64 0, .slice none 0 0, .slice none 0 0, .slice none 0 0] (0, 0) _ rfl (by refine BD ?_; refine blk_put (cs := #[.int .i64 0, .slice none 0 0, .int .i64 0, .slice none 0 0, .slice none 0 0, .slice none 0 0]) ?_ 5 _ rfl; refine BD ?_; refine blk_put (cs := #[.int .i64 0, .slice none 0 0, .int .i64 0, .slice none 0 0, .slice none 0 0, .slice none 0 0]) ?_ 4 _ rfl; refine BD ?_; refine blk_put (cs := #[.int .i64 0, .slice none 0 0, .int .i64 0, .slice none 0 0, .slice none 0 0, .slice none 0 0]) ?_ 3 _ rfl; refine BD ?_; refine blk_put (cs := #[.int .i64 0, .slice none 0 0, .int .i64 0, .slice none 0 0, .slice none 0 0, .slice none 0 0]) ?_ 2 _ rfl; refine BD ?_; refine blk_put (cs := #[.int .i64 0, .slice none 0 0, .int .i64 0, .slice none 0 0, .slice none 0 0, .slice none 0 0]) ?_ 1 _ rfl; refine BD ?_; refine blk_put (cs := #[.int .i64 0, .slice none 0 0, .int .i64 0, .slice none 0 0, .slice none 0 0, .slice none 0 0]) ?_ 0 _ rfl; refine BD ?_; exact aI.out) Tryz.underlying36 rfl (by kernel_rfl)) rfl ?_
  exact ⟨_, _, _, _, ER, by first | exact Kd.R_nil _ _ _ _ _ | exact Kd.N_nil _ _ _ _ _ | exact Kd.V_nil _ _ _ _ _ | exact Kd.Q_nil _ _ _ _ _ | exact Kd.S_nil _ _ _ _ _, by first | exact Kd.R_nil _ _ _ _ _ | exact Kd.N_nil _ _ _ _ _ | exact Kd.V_nil _ _ _ _ _ | exact Kd.Q_nil _ _ _ _ _ | exact Kd.S_nil _ _ _ _ _, by first | exact Kd.S_nil _ _ _ _ _ | exact Kd.N_nil _ _ _ _ _ | exact Kd.V_nil _ _ _ _ _ | exact Kd.Q_nil _ _ _ _ _ | exact Kd.R_nil _ _ _ _ _, by first | exact Kd.S_nil _ _ _ _ _ | exact Kd.N_nil _ _ _ _ _ | exact Kd.V_nil _ _ _ _ _ | exact Kd.Q_nil _ _ _ _ _ | exact Kd.R_nil _ _ _ _ _, K2 HB aV.out aW.out⟩
def laws_toRule.f (a0_0 : Int) (a0_1 : Int) (a0_2 : Int) (a0_3 : Int) (a0_4 : Int) (a0_5 : Int) (a0_6 : Int) (a0_7 : Int) : Option (Int × Int × Int × Int × Int × Int × Int × Int) := (laws_toBlock.f a0_2 a0_3).bind fun bt104 => ((laws_toBlock.f a0_4 a0_5).bind fun bt106 => (some (a0_0, a0_1, bt104.1, bt104.2, bt106.1, bt106.2, a0_6, a0_7)))
theorem laws_toRule.calls (aC : Int) (aE : Int) (aO : Int) (aP : Int) (aK : Int) (aL : Int) (aJ : Int) (aM : Int) (r1 : Int) (r2 : Int) (r3 : Int) (r4 : Int) (r5 : Int) (r6 : Int) (r7 : Int) (r8 : Int) (w : World) (h : laws_toRule.f aC aE aO aP aK aL aJ aM = some (r1, r2, r3, r4, r5, r6, r7, r8)) :
  Calls Tryz.prog 41 #[.agg #[.int .i64 aC, .int .i64 aE, .int .i64 aO, .int .i64 aP, .int .i64 aK, .int .i64 aL, .int .i64 aJ, .int .i64 aM]] w fun e w' => e = .returned (.agg #[.int .i64 r1, .int .i64 r2, .int .i64 r3, .int .i64 r4, .int .i64 r5, .int .i64 r6, .int .i64 r7, .int .i64 r8]) ∧ Below w.heap.size w w' := by
 have dY := Tryz.underlying81
 have dZ := Tryz.underlying77
 have eA := Tryz.underlying79
 have eB := Tryz.underlying75
 have HB := am (Below.refl w.heap.size w)
 have H : ((laws_toBlock.f aO aP).bind fun bB => ((laws_toBlock.f aK aL).bind fun aQ => (some (aC, aE, bB.1, bB.2, aQ.1, aQ.2, aJ, aM)))) = some (r1, r2, r3, r4, r5, r6, r7, r8) := h
 clear h
 replace H := bm H
 obtain ⟨⟨aG, aN⟩, dT, H⟩ := H
 replace H : ((laws_toBlock.f aK aL).bind fun aQ => (some (aC, aE, aG, aN, aQ.1, aQ.2, aJ, aM))) = some (r1, r2, r3, r4, r5, r6, r7, r8) := H
 have A2 := Aside0.mk dT
 clear dT
 replace H := bm H
 obtain ⟨⟨aT, aY⟩, dU, H⟩ := H
 replace H : (some (aC, aE, aG, aN, aT, aY, aJ, aM)) = some (r1, r2, r3, r4, r5, r6, r7, r8) := H
 have A3 := Aside0.mk dU
 clear dU
 simp only [Option.some.injEq, Prod.mk.injEq] at H
 obtain ⟨rfl, rfl, rfl, rfl, rfl, rfl, rfl, rfl⟩ := H
 go_enter Tryz.func41, Tryz.ntmps41
 go_wp2_with (first | ((with_reducible refine gate_dst (N := 1) rfl ?_); refine box_event rfl (N := 1) rfl (cs := #[.int .i64 aC, .int .i64 aE, .int .i64 aO, .int .i64 aP, .int .i64 aK, .int .i64 aL, .int .i64 aJ, .int .i64 aM]) (t := 81) BX ?_; intro bC hg w4 aR hb; have aB := am (aR); have bE := am (GH HB hg); have aH := bE; replace HB := bl (KL HB) hb; clear hb aR hg) | ((with_reducible refine gate_dst (N := 2) rfl ?_); refine box_event rfl (N := 2) rfl (cs := #[.int .i64 0, .int .i64 0, .int .i64 0, .int .i64 0, .int .i64 0, .int .i64 0, .int .i64 0, .int .i64 0]) (t := 77) BX ?_; intro aZ hg w5 aR hb; have aF := am (aR); have bF := am (GH1 HB aH.out hg); have aS := bF; replace HB := bl (K1 HB aH.out) hb; have aU := am (NL aB hg); have aV := am (NG aB hg); replace aB := am (BB aB hb); clear hb aR hg) | ((with_reducible refine gate_dst (N := 3) rfl ?_); refine box_event rfl (N := 3) rfl (cs := #[.int .i64 0, .int .i64 0, .int .i64 0, .int .i64 0, .int .i64 0, .int .i64 0, .int .i64 0, .int .i64 0]) (t := 77) BX ?_; intro bD hg w6 aR hb; have aI := am (aR); have bG := am (GH2 HB aH.out aS.out hg); have bA := bG; replace HB := bl (K2 HB aH.out aS.out) hb; have aD := am (NL aB hg); have aW := am (NG aB hg); replace aB := am (BB aB hb); have aA := am (NL aF hg); have aX := am (NG aF hg); replace aF := am (BB aF hb); clear hb aR hg; have eC := aU.out; have eD := aV.out; have eE := aD.out; have eF := aW.out; have ⟨_, _, _, _, _, _, _, _, _⟩ := y8 w6 aB.out; have dV := aX.out; have dW := aA.out; have ⟨_, _, _, _, _, _, _, _, _⟩ := y8 w6 aI.out) | ((with_reducible refine gate_callee (f := 67) rfl ?_); refine goesL_ (some 12) rfl rfl Tryz.func67 (by kernel_rfl) rfl #[.agg #[.int .i64 aO, .int .i64 aP]] rfl MT ?_; (with_reducible refine (laws_toBlock.calls aO aP aG aN _ A2.out).mono ?_); rintro e dX ⟨rfl, hb⟩; refine ⟨_, rfl, ?_⟩; replace aB := am (blk_below (g := bC) (o := .cells #[.int .i64 aC, .int .i64 aE, .int .i64 aO, .int .i64 aP, .int .i64 aK, .int .i64 aL, .int .i64 aJ, .int .i64 aM] 81 (0, 0)) (by refine BD ?_; refine blk_far ?_ aD.out _; refine BD ?_; refine blk_far ?_ aD.out _; refine BD ?_; exact aB.out) hb); replace aF := am (blk_below (g := aZ) (o := .cells #[.int .i64 0, .int .i64 0, .int .i64 0, .int .i64 0, .int .i64 0, .int .i64 0, .int .i64 0, .int .i64 0] 77 (0, 0)) (by refine BD ?_; refine blk_far ?_ aA.out _; refine BD ?_; refine blk_far ?_ aA.out _; refine BD ?_; exact aF.out) hb); replace aI := am (blk_below (g := bD) (o := .cells #[.int .i64 aC, .int .i64 aE, .int .i64 0, .int .i64 0, .int .i64 0, .int .i64 0, .int .i64 0, .int .i64 0] 77 (0, 0)) (by refine BD ?_; refine blk_put (cs := #[.int .i64 aC, .int .i64 0, .int .i64 0, .int .i64 0, .int .i64 0, .int .i64 0, .int .i64 0, .int .i64 0]) ?_ 1 _ rfl; refine BD ?_; refine blk_put (cs := #[.int .i64 0, .int .i64 0, .int .i64 0, .int .i64 0, .int .i64 0, .int .i64 0, .int .i64 0, .int .i64 0]) ?_ 0 _ rfl; refine BD ?_; exact aI.out) hb); replace HB := bl (K3 HB aH.out aS.out bA.out) hb; (try clear hb); (try clear hb2); (try clear hk); (try clear hi); have ⟨_, _, _, _, _, _, _, _, _⟩ := y8 dX aI.out; have ⟨_, _, _, _, _, _, _, _, _⟩ := y8 dX aB.out) | ((with_reducible refine gate_callee (f := 67) rfl ?_); refine goesL_ (some 16) rfl rfl Tryz.func67 (by kernel_rfl) rfl #[.agg #[.int .i64 aK, .int .i64 aL]] rfl MT ?_; (with_reducible refine (laws_toBlock.calls aK aL aT aY _ A3.out).mono ?_); rintro e dS ⟨rfl, hb⟩; refine ⟨_, rfl, ?_⟩; replace aB := am (blk_below (g := bC) (o := .cells #[.int .i64 aC, .int .i64 aE, .int .i64 aO, .int .i64 aP, .int .i64 aK, .int .i64 aL, .int .i64 aJ, .int .i64 aM] 81 (0, 0)) (by refine BD ?_; refine blk_far ?_ aD.out _; refine BD ?_; refine blk_far ?_ aD.out _; refine BD ?_; exact aB.out) hb); replace aF := am (blk_below (g := aZ) (o := .cells #[.int .i64 0, .int .i64 0, .int .i64 0, .int .i64 0, .int .i64 0, .int .i64 0, .int .i64 0, .int .i64 0] 77 (0, 0)) (by refine BD ?_; refine blk_far ?_ aA.out _; refine BD ?_; refine blk_far ?_ aA.out _; refine BD ?_; exact aF.out) hb); replace aI := am (blk_below (g := bD) (o := .cells #[.int .i64 aC, .int .i64 aE, .int .i64 aG, .int .i64 aN, .int .i64 0, .int .i64 0, .int .i64 0, .int .i64 0] 77 (0, 0)) (by refine BD ?_; refine blk_put (cs := #[.int .i64 aC, .int .i64 aE, .int .i64 aG, .int .i64 0, .int .i64 0, .int .i64 0, .int .i64 0, .int .i64 0]) ?_ 3 _ rfl; refine BD ?_; refine blk_put (cs := #[.int .i64 aC, .int .i64 aE, .int .i64 0, .int .i64 0, .int .i64 0, .int .i64 0, .int .i64 0, .int .i64 0]) ?_ 2 _ rfl; refine BD ?_; exact aI.out) hb); replace HB := bl (K3 HB aH.out aS.out bA.out) hb; (try clear hb); (try clear hb2); (try clear hk); (try clear hi); have ⟨_, _, _, _, _, _, _, _, _⟩ := y8 dS aI.out; have ⟨_, _, _, _, _, _, _, _, _⟩ := y8 dS aB.out; have ⟨_, _, _, _, _, _, _, _, _⟩ := y8 dS aF.out))
 refine bodyPost_ret (results_cell_row rfl _ _ aZ 77 #[.int .i64 aC, .int .i64 aE, .int .i64 aG, .int .i64 aN, .int .i64 aT, .int .i64 aY, .int .i64 aJ, .int .i64 aM] (0, 0) _ rfl (by refine BD ?_; refine blk_put (cs := #[.int .i64 aC, .int .i64 aE, .int .i64 aG, .int .i64 aN, .int .i64 aT, .int .i64 aY, .int .i64 aJ, .int .i64 0]) ?_ 7 _ rfl; refine BD ?_; refine blk_put (cs := #[.int .i64 aC, .int .i64 aE, .int .i64 aG, .int .i64 aN, .int .i64 aT, .int .i64 aY, .int .i64 0, .int .i64 0]) ?_ 6 _ rfl; refine BD ?_; refine blk_put (cs := #[.int .i64 aC, .int .i64 aE, .int .i64 aG, .int .i64 aN, .int .i64 aT, .int .i64 0, .int .i64 0, .int .i64 0]) ?_ 5 _ rfl; refine BD ?_; refine blk_put (cs := #[.int .i64 aC, .int .i64 aE, .int .i64 aG, .int .i64 aN, .int .i64 0, .int .i64 0, .int .i64 0, .int .i64 0]) ?_ 4 _ rfl; refine BD ?_; refine blk_put (cs := #[.int .i64 aC, .int .i64 aE, .int .i64 aG, .int .i64 0, .int .i64 0, .int .i64 0, .int .i64 0, .int .i64 0]) ?_ 3 _ rfl; refine BD ?_; refine blk_put (cs := #[.int .i64 aC, .int .i64 aE, .int .i64 0, .int .i64 0, .int .i64 0, .int .i64 0, .int .i64 0, .int .i64 0]) ?_ 2 _ rfl; refine BD ?_; refine blk_put (cs := #[.int .i64 aC, .int .i64 0, .int .i64 0, .int .i64 0, .int .i64 0, .int .i64 0, .int .i64 0, .int .i64 0]) ?_ 1 _ rfl; refine BD ?_; refine blk_put (cs := #[.int .i64 0, .int .i64 0, .int .i64 0, .int .i64 0, .int .i64 0, .int .i64 0, .int .i64 0, .int .i64 0]) ?_ 0 _ rfl; refine BD ?_; refine blk_far ?_ aA.out _; refine BD ?_; refine blk_far ?_ aA.out _; refine BD ?_; refine blk_far ?_ aA.out _; refine BD ?_; refine blk_far ?_ aA.out _; refine BD ?_; exact aF.out) Tryz.underlying77 rfl (by kernel_rfl)) rfl ?_
 exact ⟨ER, K3 HB aH.out aS.out bA.out⟩
def laws_toRuleS.l0 : Nat → List (S81) → List (S77) → Int → Option ((List (S77)))
 | 0, _, _, _ => none
 | k + 1, x0, x3, x4 => if x4 < (x0.length : Int) then (if 0 ≤ x4 then ((laws_toRule.f ((rd_T81 x0 x4).f0) ((rd_T81 x0 x4).f1) ((rd_T81 x0 x4).f2.f0) ((rd_T81 x0 x4).f2.f1) ((rd_T81 x0 x4).f3.f0) ((rd_T81 x0 x4).f3.f1) ((rd_T81 x0 x4).f4) ((rd_T81 x0 x4).f5)).bind fun bt105 => (if x4 < (x3.length : Int) then (laws_toRuleS.l0 k x0 (x3.set (x4 : Int).toNat (⟨bt105.1, bt105.2.1, (⟨bt105.2.2.1, bt105.2.2.2.1⟩ : S75), (⟨bt105.2.2.2.2.1, bt105.2.2.2.2.2.1⟩ : S75), bt105.2.2.2.2.2.2.1, bt105.2.2.2.2.2.2.2⟩ : S77)) (wrap64 (x4 + 1))) else (none))) else (none)) else (some x3)
def laws_toRuleS.f (k : Nat) (l0 : List (S81)) : Option ((List (S77))) := if 0 ≤ (l0.length : Int) then (if ((l0.length : Int) : Int).toNat ≤ 4398046511104 then (laws_toRuleS.l0 k l0 (List.replicate ((l0.length : Int) : Int).toNat z77) 0) else (none)) else (none)
theorem laws_toRuleS.calls (k : Nat) (A0 : Option Addr) (c0 : Nat) (l0 : List (S81)) (r : List (S77)) (w : World) (cU : Kd.C k81 w A0 l0.length l0) (cV : l0.length ≤ c0) (h : laws_toRuleS.f k l0 = some r) :
  Calls Tryz.prog 17 #[.slice A0 l0.length c0] w fun e w' => ∃ v0_ : Value, e = .returned (v0_) ∧ Kd.R k77 77 w' w.heap.size (fun _ => True) v0_ r ∧ Below w.heap.size w w' := by
 have cY := Tryz.underlying81
 have cZ := Tryz.underlying77
 have dA := Aside0.mk cU
 have dB := Aside0.mk cV
 clear cU cV
 have HB := am (Below.refl w.heap.size w)
 have H : (if 0 ≤ (l0.length : Int) then (if ((l0.length : Int) : Int).toNat ≤ 4398046511104 then (laws_toRuleS.l0 k l0 (List.replicate ((l0.length : Int) : Int).toNat z77) 0) else (none)) else (none)) = some r := h
 clear h
 by_cases c2 : 0 ≤ (l0.length : Int)
 ·rw [if_pos c2] at H
  have c2b0 := eq_true c2
  have c2b1 : decide (0 ≤ (l0.length : Int)) = true := decide_eq_true c2
  clear c2
  by_cases c3 : ((l0.length : Int) : Int).toNat ≤ 4398046511104
  ·rw [if_pos c3] at H
   have c3b0 := eq_true c3
   have c3b1 : decide (((l0.length : Int) : Int).toNat ≤ 4398046511104) = true := decide_eq_true c3
   clear c3
   obtain ⟨bT, aI⟩ : ∃ y_ : List (S77), y_ = (List.replicate ((l0.length : Int) : Int).toNat z77) := ⟨_, rfl⟩
   replace H : (laws_toRuleS.l0 k l0 bT 0) = some r := by first | (rw [aI]; with_reducible exact H) | (have H2_ := (Option.bind_some _ _).symm.trans H; rw [aI]; with_reducible exact H2_) | (have H2_ := (Option.bind_some _ _).symm.trans H; with_reducible exact H2_) | with_reducible exact H | (rw [aI]; exact H) | exact H
   have Ny101 := Aside0.mk aI
   clear aI
   have H' := Aside0.mk H
   clear H
   go_enter Tryz.func17, Tryz.ntmps17
   go_wp2_with (first | ((with_reducible refine gate_dst (N := 7) rfl ?_); refine Kd.R_make k77 _ 77 rfl (N := 7) rfl 30 _ _ rfl (l0.length : Int) rfl rfl Tryz.underlying30 (.agg #[(.int .i64 0), (.int .i64 0), (.int .i64 0), (.int .i64 0), (.int .i64 0), (.int .i64 0), (.int .i64 0), (.int .i64 0)]) 64 info77 rfl (by decide) (by omega) z77 (ok := fun _ => True) (okp := fun _ => True) (k77_mkM _ _ _ z77 ) (fun _ hk => hk) trivial (OD) (Nat.le_trans (Nat.mul_le_mul_right _ (OD : (l0.length : Int).toNat ≤ 4398046511104)) (by omega)) (Below.refl _ _) (Nat.le_refl _) ?_; intro bZ w4 bU hb hg_ hnew_; clear hg_ hnew_; (first | rw [← Ny101.out] at bU | (simp only [Int.reduceToNat] at bU; rw [← Ny101.out] at bU)); have bV := am (Kd.R_lower bU (below_size (KL HB))); replace HB := bl (KL HB) hb; clear hb bU))
   go_loopg [4] k (fun kq v4 w' => ∃ (aB : List (S77)) (aA : Int), v4 = .int .i64 aA ∧ Aside0 (laws_toRuleS.l0 kq l0 aB aA = some r) ∧ Aside0 (kq ≤ k) ∧ Aside0 (Kd.R k77 77 w' w.heap.size (fun _ => True) bZ aB) ∧ Aside0 (Below w.heap.size w w'))
   case atStart => exact ⟨(bT), (0), (by first | rfl | (simp; done) | (simp [*]; done)), H', ⟨Nat.le_refl _⟩, ⟨KR bV⟩, ⟨KL HB⟩⟩
   case round =>
    clear H'
    try clear c1
    try clear c2
    try clear c2b0
    try clear c2b1
    try clear p2
    try clear c3
    try clear c3b0
    try clear c3b1
    obtain ⟨aB, aA, rfl, HA, HK1, aG, HB⟩ := hrel
    cases gk with
    | zero => exact absurd HA.out (by simp [laws_toRuleS.l0])
    | succ k1 =>
     have H := HA.out
     clear HA
     simp only [laws_toRuleS.l0] at H
     by_cases c6 : aA < (l0.length : Int)
     ·rw [if_pos c6] at H
      have c6b0 : decide (aA < (l0.length : Int)) = true := decide_eq_true c6
      clear c6
      by_cases c7 : 0 ≤ aA
      ·rw [if_pos c7] at H
       have c7b0 : decide (0 ≤ aA) = true := decide_eq_true c7
       clear c7
       replace H := bm H
       obtain ⟨⟨aK, aL, aM, aN, aO, aP, aQ, aR⟩, cW, H⟩ := H
       replace H : (if aA < (aB.length : Int) then (laws_toRuleS.l0 k1 l0 (aB.set (aA : Int).toNat (⟨aK, aL, (⟨aM, aN⟩ : S75), (⟨aO, aP⟩ : S75), aQ, aR⟩ : S77)) (wrap64 (aA + 1))) else (none)) = some r := H
       have A8 := Aside0.mk cW
       clear cW
       by_cases c9 : aA < (aB.length : Int)
       ·rw [if_pos c9] at H
        have c9b0 : decide (aA < (aB.length : Int)) = true := decide_eq_true c9
        clear c9
        obtain ⟨bA, aJ⟩ : ∃ y_ : List (S77), y_ = (aB.set (aA : Int).toNat (⟨aK, aL, (⟨aM, aN⟩ : S75), (⟨aO, aP⟩ : S75), aQ, aR⟩ : S77)) := ⟨_, rfl⟩
        replace H : (laws_toRuleS.l0 k1 l0 bA (wrap64 (aA + 1))) = some r := by first | (rw [aJ]; with_reducible exact H) | (have H2_ := (Option.bind_some _ _).symm.trans H; rw [aJ]; with_reducible exact H2_) | (have H2_ := (Option.bind_some _ _).symm.trans H; with_reducible exact H2_) | with_reducible exact H | (rw [aJ]; exact H) | exact H
        have Ny113 := Aside0.mk aJ
        clear aJ
        have H' := Aside0.mk H
        clear H
        have bB : 0 ≤ (aA : Int) := OD
        have bC : aA < (l0.length : Int) := OD
        obtain ⟨_, cA, aS, aT, aU, aV, aW, aX, aY, aZ⟩ := at_T81 dA.out aA bB bC
        cases cA
        replace aS := CX HB.out aS
        replace aT := CX HB.out aT
        replace aU := CX HB.out aU
        replace aV := CX HB.out aV
        replace aW := CX HB.out aW
        replace aX := CX HB.out aX
        replace aY := CX HB.out aY
        replace aZ := CX HB.out aZ
        replace bB := eq_true bB
        replace bC := eq_true bC
        go_wp2_with (first | ((with_reducible refine gate_callee (f := 41) rfl ?_); refine goesL_ (some 20) rfl rfl Tryz.func41 (by kernel_rfl) rfl #[.agg #[.int .i64 ((rd_T81 l0 aA).f0), .int .i64 ((rd_T81 l0 aA).f1), .int .i64 ((rd_T81 l0 aA).f2.f0), .int .i64 ((rd_T81 l0 aA).f2.f1), .int .i64 ((rd_T81 l0 aA).f3.f0), .int .i64 ((rd_T81 l0 aA).f3.f1), .int .i64 ((rd_T81 l0 aA).f4), .int .i64 ((rd_T81 l0 aA).f5)]] rfl MT ?_; (with_reducible refine (laws_toRule.calls ((rd_T81 l0 aA).f0) ((rd_T81 l0 aA).f1) ((rd_T81 l0 aA).f2.f0) ((rd_T81 l0 aA).f2.f1) ((rd_T81 l0 aA).f3.f0) ((rd_T81 l0 aA).f3.f1) ((rd_T81 l0 aA).f4) ((rd_T81 l0 aA).f5) aK aL aM aN aO aP aQ aR _ A8.out).mono ?_); rintro e aH ⟨rfl, hb⟩; refine ⟨_, rfl, ?_⟩; replace aG := am (Kd.R_below (KR aG) hb); replace HB := bl (KL HB) hb; (try clear hb); have cB : 0 ≤ (aA : Int) := OD; have cC : (aA : Int) < ((aB.length : Int) : Int) := OD; obtain ⟨go10, bW, bX, bY, gl10, cl10, HG10⟩ := Kd.R_form aG.out (by omega); (first | cases bX | (injection bX with ea_ en_ ec_; (first | subst ea_ | (injection ea_ with ea_; subst ea_)); subst ec_; clear en_)); have GB10 := Aside0.mk bY; have GG10 := Aside0.mk HG10; clear bY gl10 HG10; obtain ⟨ce10, hcl10, hM10, aD, aE⟩ := Kd.R_elem aG.out z77 (aA : Int) cB cC; obtain rfl := k77_openM hM10; have cD : aH.cell? ⟨go10, (aA : Int).toNat * 8, none⟩ = some (.int .i64 ((rd_T77 aB aA).f0)) := aD 0 _ rfl; have cE : aH.cell? ⟨go10, (aA : Int).toNat * 8 + 1, none⟩ = some (.int .i64 ((rd_T77 aB aA).f1)) := aD 1 _ rfl; have cF : aH.cell? ⟨go10, (aA : Int).toNat * 8 + 2, none⟩ = some (.int .i64 ((rd_T77 aB aA).f2.f0)) := aD 2 _ rfl; have cG : aH.cell? ⟨go10, (aA : Int).toNat * 8 + 3, none⟩ = some (.int .i64 ((rd_T77 aB aA).f2.f1)) := aD 3 _ rfl; have cH : aH.cell? ⟨go10, (aA : Int).toNat * 8 + 4, none⟩ = some (.int .i64 ((rd_T77 aB aA).f3.f0)) := aD 4 _ rfl; have cI : aH.cell? ⟨go10, (aA : Int).toNat * 8 + 5, none⟩ = some (.int .i64 ((rd_T77 aB aA).f3.f1)) := aD 5 _ rfl; have cJ : aH.cell? ⟨go10, (aA : Int).toNat * 8 + 6, none⟩ = some (.int .i64 ((rd_T77 aB aA).f4)) := aD 6 _ rfl; have cK : aH.cell? ⟨go10, (aA : Int).toNat * 8 + 7, none⟩ = some (.int .i64 ((rd_T77 aB aA).f5)) := aD 7 _ rfl; have cL : aH.frozen? ⟨go10, (aA : Int).toNat * 8, none⟩ = false := aE 0; have cM : aH.frozen? ⟨go10, (aA : Int).toNat * 8 + 1, none⟩ = false := aE 1; have cN : aH.frozen? ⟨go10, (aA : Int).toNat * 8 + 2, none⟩ = false := aE 2; have cO : aH.frozen? ⟨go10, (aA : Int).toNat * 8 + 3, none⟩ = false := aE 3; have cP : aH.frozen? ⟨go10, (aA : Int).toNat * 8 + 4, none⟩ = false := aE 4; have cQ : aH.frozen? ⟨go10, (aA : Int).toNat * 8 + 5, none⟩ = false := aE 5; have cR : aH.frozen? ⟨go10, (aA : Int).toNat * 8 + 6, none⟩ = false := aE 6; have cS : aH.frozen? ⟨go10, (aA : Int).toNat * 8 + 7, none⟩ = false := aE 7; clear hcl10 aD aE hM10; replace cB := eq_true cB; replace cC := eq_true cC; have HX12 := am (show Kd.R k77 77 aH w.heap.size (fun _ => True) (.slice (some ⟨go10, 0, none⟩) aB.length bW) aB from (KR aG)); obtain ⟨ce12, hcl12, hM12, aC, aF⟩ := Kd.R_elem HX12.out z77 (aA : Int) (OD) (by have h_ : (aA : Int) < ((aB.length : Int) : Int) := OD; first | exact h_ | (have e_ := (Kd.R_reads' aG.out).1; omega) | simpa using h_); obtain rfl := k77_openM hM12; have HP12 := Kd.R_seg HX12.out (aA : Int) (OD) (by have h_ : (aA : Int) < ((aB.length : Int) : Int) := OD; first | exact h_ | (have e_ := (Kd.R_reads' aG.out).1; omega) | simpa using h_) (seg := [.int .i64 aK, .int .i64 aL, .int .i64 aM, .int .i64 aN, .int .i64 aO, .int .i64 aP, .int .i64 aQ, .int .i64 aR]) (j := 0) hcl12 aC (show 8 ≤ 8 from by decide) (x' := (⟨aK, aL, (⟨aM, aN⟩ : S75), (⟨aO, aP⟩ : S75), aQ, aR⟩ : S77)) (k77_mkM _ _ _ (⟨aK, aL, (⟨aM, aN⟩ : S75), (⟨aO, aP⟩ : S75), aQ, aR⟩ : S77) ) (fun _ hk => hk); have bD := aC 0 _ rfl; (try simp only [show (k77).sz = 8 from rfl, Nat.mul_one, Nat.add_zero] at bD); have bE := aF 0; (try simp only [show (k77).sz = 8 from rfl, Nat.mul_one, Nat.add_zero] at bE); have bF := aC 1 _ rfl; (try simp only [show (k77).sz = 8 from rfl, Nat.mul_one, Nat.add_zero] at bF); have bG := aF 1; (try simp only [show (k77).sz = 8 from rfl, Nat.mul_one, Nat.add_zero] at bG); have bH := aC 2 _ rfl; (try simp only [show (k77).sz = 8 from rfl, Nat.mul_one, Nat.add_zero] at bH); have bI := aF 2; (try simp only [show (k77).sz = 8 from rfl, Nat.mul_one, Nat.add_zero] at bI); have bJ := aC 3 _ rfl; (try simp only [show (k77).sz = 8 from rfl, Nat.mul_one, Nat.add_zero] at bJ); have bK := aF 3; (try simp only [show (k77).sz = 8 from rfl, Nat.mul_one, Nat.add_zero] at bK); have bL := aC 4 _ rfl; (try simp only [show (k77).sz = 8 from rfl, Nat.mul_one, Nat.add_zero] at bL); have bM := aF 4; (try simp only [show (k77).sz = 8 from rfl, Nat.mul_one, Nat.add_zero] at bM); have bN := aC 5 _ rfl; (try simp only [show (k77).sz = 8 from rfl, Nat.mul_one, Nat.add_zero] at bN); have bO := aF 5; (try simp only [show (k77).sz = 8 from rfl, Nat.mul_one, Nat.add_zero] at bO); have bP := aC 6 _ rfl; (try simp only [show (k77).sz = 8 from rfl, Nat.mul_one, Nat.add_zero] at bP); have bQ := aF 6; (try simp only [show (k77).sz = 8 from rfl, Nat.mul_one, Nat.add_zero] at bQ); have bR := aC 7 _ rfl; (try simp only [show (k77).sz = 8 from rfl, Nat.mul_one, Nat.add_zero] at bR); have bS := aF 7; (try simp only [show (k77).sz = 8 from rfl, Nat.mul_one, Nat.add_zero] at bS); clear hcl12 aC aF hM12) | ((with_reducible refine gate_store (t := 77) (p := 21) rfl ?_); refine store_event (t := 77) (p := 21) (v := ?vo_w13) (w1 := ((((((((aH.setCell ⟨go10, (aA : Int).toNat * 8, none⟩ (.int .i64 aK)).setCell ⟨go10, (aA : Int).toNat * 8 + 1, none⟩ (.int .i64 aL)).setCell ⟨go10, (aA : Int).toNat * 8 + 2, none⟩ (.int .i64 aM)).setCell ⟨go10, (aA : Int).toNat * 8 + 3, none⟩ (.int .i64 aN)).setCell ⟨go10, (aA : Int).toNat * 8 + 4, none⟩ (.int .i64 aO)).setCell ⟨go10, (aA : Int).toNat * 8 + 5, none⟩ (.int .i64 aP)).setCell ⟨go10, (aA : Int).toNat * 8 + 6, none⟩ (.int .i64 aQ)).setCell ⟨go10, (aA : Int).toNat * 8 + 7, none⟩ (.int .i64 aR))) ?hg ?ho ?hn ?hr ?_; (case ho => rfl); (case hg => rfl); (case hn => rfl); (case hr => first | (go_simp; done) | (go_simp; rfl)); intro cT hw; have hg : aH.grownBy cT (some go10) := (by rw [hw]; exact HP12.2); have hp_ : Kd.R k77 77 cT w.heap.size (fun _ => True) (.slice (some ⟨go10, 0, none⟩) aB.length bW) bA := (by rw [hw, Ny113.out]; exact HP12.1); clear HP12; replace aG := am (hp_); replace HB := am ((by rw [hw]; exact below_set (below_set (below_set (below_set (below_set (below_set (below_set (below_set (HB.out) GB10.out) GB10.out) GB10.out) GB10.out) GB10.out) GB10.out) GB10.out) GB10.out : Below w.heap.size w cT)); clear hg hw hp_))
        go_roundg k1
        case measure => have := HK1.out; omega
        case rel => exact ⟨(bA), (wrap64 (aA + 1)), (by first | rfl | (simp; done) | (simp [*]; done)), H', ⟨by have := HK1.out; omega⟩, ⟨KR aG⟩, ⟨KL HB⟩⟩
       ·rw [if_neg c9] at H
        exact absurd H (by simp)
      ·rw [if_neg c7] at H
       exact absurd H (by simp)
     ·rw [if_neg c6] at H
      have c6b0 : decide (aA < (l0.length : Int)) = false := decide_eq_false c6
      clear c6
      obtain rfl := sj H
      go_wp2
      go_ret
      exact ⟨_, ER, by refine KW ?_; exact aG.out, KL HB⟩
  ·rw [if_neg c3] at H
   exact absurd H (by simp)
 ·rw [if_neg c2] at H
  exact absurd H (by simp)
def laws_toSeen.f (a0_0 : Int) (a0_1 : Int) (a0_2 : Int) (a0_3 : Int) : Option (Int × Int × Int × Int) := (laws_toCall.f a0_0 a0_1 a0_2).bind fun bt104 => (some (bt104.1, bt104.2.1, bt104.2.2, a0_3))
theorem laws_toSeen.calls (aG : Int) (aH : Int) (aI : Int) (aJ : Int) (r1 : Int) (r2 : Int) (r3 : Int) (r4 : Int) (w : World) (h : laws_toSeen.f aG aH aI aJ = some (r1, r2, r3, r4)) :
  Calls Tryz.prog 68 #[.agg #[.int .i64 aG, .int .i64 aH, .int .i64 aI, .int .i64 aJ]] w fun e w' => e = .returned (.agg #[.int .i64 r1, .int .i64 r2, .int .i64 r3, .int .i64 r4]) ∧ Below w.heap.size w w' := by
 have bT := Tryz.underlying109
 have cA := Tryz.underlying91
 have bU := Tryz.underlying107
 have cB := Tryz.underlying89
 have HB := am (Below.refl w.heap.size w)
 have H : ((laws_toCall.f aG aH aI).bind fun aQ => (some (aQ.1, aQ.2.1, aQ.2.2, aJ))) = some (r1, r2, r3, r4) := h
 clear h
 replace H := bm H
 obtain ⟨⟨aK, aR, aT⟩, bV, H⟩ := H
 replace H : (some (aK, aR, aT, aJ)) = some (r1, r2, r3, r4) := H
 have A2 := Aside0.mk bV
 clear bV
 simp only [Option.some.injEq, Prod.mk.injEq] at H
 obtain ⟨rfl, rfl, rfl, rfl⟩ := H
 go_enter Tryz.func68, Tryz.ntmps68
 go_wp2_with (first | ((with_reducible refine gate_dst (N := 1) rfl ?_); refine box_event rfl (N := 1) rfl (cs := #[.int .i64 aG, .int .i64 aH, .int .i64 aI, .int .i64 aJ]) (t := 109) BX ?_; intro bW hg w3 aE hb; have aB := am (aE); have aV := am (GH HB hg); have aD := aV; replace HB := bl (KL HB) hb; clear hb aE hg) | ((with_reducible refine gate_dst (N := 2) rfl ?_); refine box_event rfl (N := 2) rfl (cs := #[.int .i64 0, .int .i64 0, .int .i64 0, .int .i64 0]) (t := 91) BX ?_; intro aW hg w4 aE hb; have aC := am (aE); have aX := am (GH1 HB aD.out hg); have aF := aX; replace HB := bl (K1 HB aD.out) hb; have aL := am (NL aB hg); have aM := am (NG aB hg); replace aB := am (BB aB hb); clear hb aE hg) | ((with_reducible refine gate_dst (N := 3) rfl ?_); refine box_event rfl (N := 3) rfl (cs := #[.int .i64 0, .int .i64 0, .int .i64 0, .int .i64 0]) (t := 91) BX ?_; intro bX hg w5 aE hb; have aS := am (aE); have aY := am (GH2 HB aD.out aF.out hg); have aU := aY; replace HB := bl (K2 HB aD.out aF.out) hb; have aN := am (NL aB hg); have aO := am (NG aB hg); replace aB := am (BB aB hb); have aA := am (NL aC hg); have aP := am (NG aC hg); replace aC := am (BB aC hb); clear hb aE hg; have cC := aL.out; have cD := aM.out; have cE := aN.out; have cF := aO.out; have ⟨_, _, _, _, _⟩ := y4 w5 aB.out) | ((with_reducible refine gate_callee (f := 84) rfl ?_); refine goesL_ (some 6) rfl rfl Tryz.func84 (by kernel_rfl) rfl #[.agg #[.int .i64 aG, .int .i64 aH, .int .i64 aI]] rfl MT ?_; (with_reducible refine (laws_toCall.calls aG aH aI aK aR aT _ A2.out).mono ?_); rintro e w9 ⟨rfl, hb⟩; refine ⟨_, rfl, ?_⟩; replace aB := am (BB aB hb); replace aC := am (BB aC hb); replace aS := am (BB aS hb); replace HB := bl (K3 HB aD.out aF.out aU.out) hb; (try clear hb); have bY := aP.out; have bZ := aA.out; have ⟨_, _, _, _, _⟩ := y4 w9 aS.out; have ⟨_, _, _, _, _⟩ := y4 w9 aB.out; have ⟨_, _, _, _, _⟩ := y4 w9 aC.out))
 refine bodyPost_ret (results_cell_row rfl _ _ aW 91 #[.int .i64 aK, .int .i64 aR, .int .i64 aT, .int .i64 aJ] (0, 0) _ rfl (by refine BD ?_; refine blk_put (cs := #[.int .i64 aK, .int .i64 aR, .int .i64 aT, .int .i64 0]) ?_ 3 _ rfl; refine BD ?_; refine blk_put (cs := #[.int .i64 aK, .int .i64 aR, .int .i64 0, .int .i64 0]) ?_ 2 _ rfl; refine BD ?_; refine blk_put (cs := #[.int .i64 aK, .int .i64 0, .int .i64 0, .int .i64 0]) ?_ 1 _ rfl; refine BD ?_; refine blk_put (cs := #[.int .i64 0, .int .i64 0, .int .i64 0, .int .i64 0]) ?_ 0 _ rfl; refine BD ?_; refine blk_far ?_ aA.out _; refine BD ?_; refine blk_far ?_ aA.out _; refine BD ?_; refine blk_far ?_ aA.out _; refine BD ?_; refine blk_far ?_ aA.out _; refine BD ?_; exact aC.out) Tryz.underlying91 rfl (by kernel_rfl)) rfl ?_
 exact ⟨ER, K3 HB aD.out aF.out aU.out⟩
def laws_toSeenS.l0 : Nat → List (S109) → List (S91) → Int → Option ((List (S91)))
 | 0, _, _, _ => none
 | k + 1, x0, x3, x4 => if x4 < (x0.length : Int) then (if 0 ≤ x4 then ((laws_toSeen.f ((rd_T109 x0 x4).f0.f0) ((rd_T109 x0 x4).f0.f1) ((rd_T109 x0 x4).f0.f2) ((rd_T109 x0 x4).f1)).bind fun bt105 => (if x4 < (x3.length : Int) then (laws_toSeenS.l0 k x0 (x3.set (x4 : Int).toNat (⟨(⟨bt105.1, bt105.2.1, bt105.2.2.1⟩ : S89), bt105.2.2.2⟩ : S91)) (wrap64 (x4 + 1))) else (none))) else (none)) else (some x3)
def laws_toSeenS.f (k : Nat) (l0 : List (S109)) : Option ((List (S91))) := if 0 ≤ (l0.length : Int) then (if ((l0.length : Int) : Int).toNat ≤ 8796093022208 then (laws_toSeenS.l0 k l0 (List.replicate ((l0.length : Int) : Int).toNat z91) 0) else (none)) else (none)
theorem laws_toSeenS.calls (k : Nat) (A0 : Option Addr) (c0 : Nat) (l0 : List (S109)) (r : List (S91)) (w : World) (bW : Kd.C k109 w A0 l0.length l0) (bX : l0.length ≤ c0) (h : laws_toSeenS.f k l0 = some r) :
  Calls Tryz.prog 42 #[.slice A0 l0.length c0] w fun e w' => ∃ v0_ : Value, e = .returned (v0_) ∧ Kd.R k91 91 w' w.heap.size (fun _ => True) v0_ r ∧ Below w.heap.size w w' := by
 have bY := Tryz.underlying109
 have cB := Tryz.underlying91
 have cC := Aside0.mk bW
 have cD := Aside0.mk bX
 clear bW bX
 have HB := am (Below.refl w.heap.size w)
 have H : (if 0 ≤ (l0.length : Int) then (if ((l0.length : Int) : Int).toNat ≤ 8796093022208 then (laws_toSeenS.l0 k l0 (List.replicate ((l0.length : Int) : Int).toNat z91) 0) else (none)) else (none)) = some r := h
 clear h
 by_cases c2 : 0 ≤ (l0.length : Int)
 ·rw [if_pos c2] at H
  have c2b0 := eq_true c2
  have c2b1 : decide (0 ≤ (l0.length : Int)) = true := decide_eq_true c2
  clear c2
  by_cases c3 : ((l0.length : Int) : Int).toNat ≤ 8796093022208
  ·rw [if_pos c3] at H
   have c3b0 := eq_true c3
   have c3b1 : decide (((l0.length : Int) : Int).toNat ≤ 8796093022208) = true := decide_eq_true c3
   clear c3
   obtain ⟨bD, aE⟩ : ∃ y_ : List (S91), y_ = (List.replicate ((l0.length : Int) : Int).toNat z91) := ⟨_, rfl⟩
   replace H : (laws_toSeenS.l0 k l0 bD 0) = some r := by first | (rw [aE]; with_reducible exact H) | (have H2_ := (Option.bind_some _ _).symm.trans H; rw [aE]; with_reducible exact H2_) | (have H2_ := (Option.bind_some _ _).symm.trans H; with_reducible exact H2_) | with_reducible exact H | (rw [aE]; exact H) | exact H
   have Ny101 := Aside0.mk aE
   clear aE
   have H' := Aside0.mk H
   clear H
   go_enter Tryz.func42, Tryz.ntmps42
   go_wp2_with (first | ((with_reducible refine gate_dst (N := 7) rfl ?_); refine Kd.R_make k91 _ 91 rfl (N := 7) rfl 31 _ _ rfl (l0.length : Int) rfl rfl Tryz.underlying31 (.agg #[(.int .i64 0), (.int .i64 0), (.int .i64 0), (.int .i64 0)]) 32 info91 rfl (by decide) (by omega) z91 (ok := fun _ => True) (okp := fun _ => True) (k91_mkM _ _ _ z91 ) (fun _ hk => hk) trivial (OD) (Nat.le_trans (Nat.mul_le_mul_right _ (OD : (l0.length : Int).toNat ≤ 8796093022208)) (by omega)) (Below.refl _ _) (Nat.le_refl _) ?_; intro bJ w4 bE hb hg_ hnew_; clear hg_ hnew_; (first | rw [← Ny101.out] at bE | (simp only [Int.reduceToNat] at bE; rw [← Ny101.out] at bE)); have bF := am (Kd.R_lower bE (below_size (KL HB))); replace HB := bl (KL HB) hb; clear hb bE))
   go_loopg [4] k (fun kq v4 w' => ∃ (aB : List (S91)) (aA : Int), v4 = .int .i64 aA ∧ Aside0 (laws_toSeenS.l0 kq l0 aB aA = some r) ∧ Aside0 (kq ≤ k) ∧ Aside0 (Kd.R k91 91 w' w.heap.size (fun _ => True) bJ aB) ∧ Aside0 (Below w.heap.size w w'))
   case atStart => exact ⟨(bD), (0), (by first | rfl | (simp; done) | (simp [*]; done)), H', ⟨Nat.le_refl _⟩, ⟨KR bF⟩, ⟨KL HB⟩⟩
   case round =>
    clear H'
    try clear c2
    try clear c2b0
    try clear c2b1
    try clear p2
    try clear c3
    try clear c3b0
    try clear c3b1
    try clear c4
    obtain ⟨aB, aA, rfl, HA, HK1, aC, HB⟩ := hrel
    cases gk with
    | zero => exact absurd HA.out (by simp [laws_toSeenS.l0])
    | succ k1 =>
     have H := HA.out
     clear HA
     simp only [laws_toSeenS.l0] at H
     by_cases c6 : aA < (l0.length : Int)
     ·rw [if_pos c6] at H
      have c6b0 : decide (aA < (l0.length : Int)) = true := decide_eq_true c6
      clear c6
      by_cases c7 : 0 ≤ aA
      ·rw [if_pos c7] at H
       have c7b0 : decide (0 ≤ aA) = true := decide_eq_true c7
       clear c7
       replace H := bm H
       obtain ⟨⟨aJ, aK, aL, aM⟩, bZ, H⟩ := H
       replace H : (if aA < (aB.length : Int) then (laws_toSeenS.l0 k1 l0 (aB.set (aA : Int).toNat (⟨(⟨aJ, aK, aL⟩ : S89), aM⟩ : S91)) (wrap64 (aA + 1))) else (none)) = some r := H
       have A8 := Aside0.mk bZ
       clear bZ
       by_cases c9 : aA < (aB.length : Int)
       ·rw [if_pos c9] at H
        have c9b0 : decide (aA < (aB.length : Int)) = true := decide_eq_true c9
        clear c9
        obtain ⟨aS, aF⟩ : ∃ y_ : List (S91), y_ = (aB.set (aA : Int).toNat (⟨(⟨aJ, aK, aL⟩ : S89), aM⟩ : S91)) := ⟨_, rfl⟩
        replace H : (laws_toSeenS.l0 k1 l0 aS (wrap64 (aA + 1))) = some r := by first | (rw [aF]; with_reducible exact H) | (have H2_ := (Option.bind_some _ _).symm.trans H; rw [aF]; with_reducible exact H2_) | (have H2_ := (Option.bind_some _ _).symm.trans H; with_reducible exact H2_) | with_reducible exact H | (rw [aF]; exact H) | exact H
        have Ny109 := Aside0.mk aF
        clear aF
        have H' := Aside0.mk H
        clear H
        have aT : 0 ≤ (aA : Int) := OD
        have aU : aA < (l0.length : Int) := OD
        obtain ⟨_, bK, aN, aO, aP, aQ⟩ := at_T109 cC.out aA aT aU
        cases bK
        replace aN := CX HB.out aN
        replace aO := CX HB.out aO
        replace aP := CX HB.out aP
        replace aQ := CX HB.out aQ
        replace aT := eq_true aT
        replace aU := eq_true aU
        go_wp2_with (first | ((with_reducible refine gate_callee (f := 68) rfl ?_); refine goesL_ (some 20) rfl rfl Tryz.func68 (by kernel_rfl) rfl #[.agg #[.int .i64 ((rd_T109 l0 aA).f0.f0), .int .i64 ((rd_T109 l0 aA).f0.f1), .int .i64 ((rd_T109 l0 aA).f0.f2), .int .i64 ((rd_T109 l0 aA).f1)]] rfl MT ?_; (with_reducible refine (laws_toSeen.calls ((rd_T109 l0 aA).f0.f0) ((rd_T109 l0 aA).f0.f1) ((rd_T109 l0 aA).f0.f2) ((rd_T109 l0 aA).f1) aJ aK aL aM _ A8.out).mono ?_); rintro e aR ⟨rfl, hb⟩; refine ⟨_, rfl, ?_⟩; replace aC := am (Kd.R_below (KR aC) hb); replace HB := bl (KL HB) hb; (try clear hb); have bL : 0 ≤ (aA : Int) := OD; have bM : (aA : Int) < ((aB.length : Int) : Int) := OD; obtain ⟨go10, bG, bH, bI, gl10, cl10, HG10⟩ := Kd.R_form aC.out (by omega); (first | cases bH | (injection bH with ea_ en_ ec_; (first | subst ea_ | (injection ea_ with ea_; subst ea_)); subst ec_; clear en_)); have GB10 := Aside0.mk bI; have GG10 := Aside0.mk HG10; clear bI gl10 HG10; obtain ⟨ce10, hcl10, hM10, aG, aH⟩ := Kd.R_elem aC.out z91 (aA : Int) bL bM; obtain rfl := k91_openM hM10; have bN : aR.cell? ⟨go10, (aA : Int).toNat * 4, none⟩ = some (.int .i64 ((rd_T91 aB aA).f0.f0)) := aG 0 _ rfl; have bO : aR.cell? ⟨go10, (aA : Int).toNat * 4 + 1, none⟩ = some (.int .i64 ((rd_T91 aB aA).f0.f1)) := aG 1 _ rfl; have bP : aR.cell? ⟨go10, (aA : Int).toNat * 4 + 2, none⟩ = some (.int .i64 ((rd_T91 aB aA).f0.f2)) := aG 2 _ rfl; have bQ : aR.cell? ⟨go10, (aA : Int).toNat * 4 + 3, none⟩ = some (.int .i64 ((rd_T91 aB aA).f1)) := aG 3 _ rfl; have bR : aR.frozen? ⟨go10, (aA : Int).toNat * 4, none⟩ = false := aH 0; have bS : aR.frozen? ⟨go10, (aA : Int).toNat * 4 + 1, none⟩ = false := aH 1; have bT : aR.frozen? ⟨go10, (aA : Int).toNat * 4 + 2, none⟩ = false := aH 2; have bU : aR.frozen? ⟨go10, (aA : Int).toNat * 4 + 3, none⟩ = false := aH 3; clear hcl10 aG aH hM10; replace bL := eq_true bL; replace bM := eq_true bM; have HX12 := am (show Kd.R k91 91 aR w.heap.size (fun _ => True) (.slice (some ⟨go10, 0, none⟩) aB.length bG) aB from (KR aC)); obtain ⟨ce12, hcl12, hM12, aD, aI⟩ := Kd.R_elem HX12.out z91 (aA : Int) (OD) (by have h_ : (aA : Int) < ((aB.length : Int) : Int) := OD; first | exact h_ | (have e_ := (Kd.R_reads' aC.out).1; omega) | simpa using h_); obtain rfl := k91_openM hM12; have HP12 := Kd.R_seg HX12.out (aA : Int) (OD) (by have h_ : (aA : Int) < ((aB.length : Int) : Int) := OD; first | exact h_ | (have e_ := (Kd.R_reads' aC.out).1; omega) | simpa using h_) (seg := [.int .i64 aJ, .int .i64 aK, .int .i64 aL, .int .i64 aM]) (j := 0) hcl12 aD (show 4 ≤ 4 from by decide) (x' := (⟨(⟨aJ, aK, aL⟩ : S89), aM⟩ : S91)) (k91_mkM _ _ _ (⟨(⟨aJ, aK, aL⟩ : S89), aM⟩ : S91) ) (fun _ hk => hk); have aV := aD 0 _ rfl; (try simp only [show (k91).sz = 4 from rfl, Nat.mul_one, Nat.add_zero] at aV); have aW := aI 0; (try simp only [show (k91).sz = 4 from rfl, Nat.mul_one, Nat.add_zero] at aW); have aX := aD 1 _ rfl; (try simp only [show (k91).sz = 4 from rfl, Nat.mul_one, Nat.add_zero] at aX); have aY := aI 1; (try simp only [show (k91).sz = 4 from rfl, Nat.mul_one, Nat.add_zero] at aY); have aZ := aD 2 _ rfl; (try simp only [show (k91).sz = 4 from rfl, Nat.mul_one, Nat.add_zero] at aZ); have bA := aI 2; (try simp only [show (k91).sz = 4 from rfl, Nat.mul_one, Nat.add_zero] at bA); have bB := aD 3 _ rfl; (try simp only [show (k91).sz = 4 from rfl, Nat.mul_one, Nat.add_zero] at bB); have bC := aI 3; (try simp only [show (k91).sz = 4 from rfl, Nat.mul_one, Nat.add_zero] at bC); clear hcl12 aD aI hM12) | ((with_reducible refine gate_store (t := 91) (p := 21) rfl ?_); refine store_event (t := 91) (p := 21) (v := ?vo_w13) (w1 := ((((aR.setCell ⟨go10, (aA : Int).toNat * 4, none⟩ (.int .i64 aJ)).setCell ⟨go10, (aA : Int).toNat * 4 + 1, none⟩ (.int .i64 aK)).setCell ⟨go10, (aA : Int).toNat * 4 + 2, none⟩ (.int .i64 aL)).setCell ⟨go10, (aA : Int).toNat * 4 + 3, none⟩ (.int .i64 aM))) ?hg ?ho ?hn ?hr ?_; (case ho => rfl); (case hg => rfl); (case hn => rfl); (case hr => first | (go_simp; done) | (go_simp; rfl)); intro bV hw; have hg : aR.grownBy bV (some go10) := (by rw [hw]; exact HP12.2); have hp_ : Kd.R k91 91 bV w.heap.size (fun _ => True) (.slice (some ⟨go10, 0, none⟩) aB.length bG) aS := (by rw [hw, Ny109.out]; exact HP12.1); clear HP12; replace aC := am (hp_); replace HB := am ((by rw [hw]; exact below_set (below_set (below_set (below_set (HB.out) GB10.out) GB10.out) GB10.out) GB10.out : Below w.heap.size w bV)); clear hg hw hp_))
        go_roundg k1
        case measure => have := HK1.out; omega
        case rel => exact ⟨(aS), (wrap64 (aA + 1)), (by first | rfl | (simp; done) | (simp [*]; done)), H', ⟨by have := HK1.out; omega⟩, ⟨KR aC⟩, ⟨KL HB⟩⟩
       ·rw [if_neg c9] at H
        exact absurd H (by simp)
      ·rw [if_neg c7] at H
       exact absurd H (by simp)
     ·rw [if_neg c6] at H
      have c6b0 : decide (aA < (l0.length : Int)) = false := decide_eq_false c6
      clear c6
      obtain rfl := sj H
      go_wp2
      go_ret
      exact ⟨_, ER, by refine KW ?_; exact aC.out, KL HB⟩
  ·rw [if_neg c3] at H
   exact absurd H (by simp)
 ·rw [if_neg c2] at H
  exact absurd H (by simp)
def laws_toCache.f (k : Nat) (a0_0 : Int) (l0_1 : List (S109)) : Option (Int × (List (S91))) := (laws_toSeenS.f k l0_1).bind fun t104 => (some (a0_0, t104))
theorem laws_toCache.calls (k : Nat) (aE : Int) (aR : Option Addr) (aS : Nat) (aF : List (S109)) (r1 : Int) (r2 : List (S91)) (w : World) (aT : Kd.C k109 w aR aF.length aF) (aU : aF.length ≤ aS) (h : laws_toCache.f k aE aF = some (r1, r2)) :
  Calls Tryz.prog 18 #[.agg #[.int .i64 aE, .slice aR aF.length aS]] w fun e w' => ∃ v1_ : Value, e = .returned (.agg #[.int .i64 r1, v1_]) ∧ Kd.R k91 91 w' w.heap.size (fun _ => True) v1_ r2 ∧ Below w.heap.size w w' := by
 have bV := Tryz.underlying25
 have bW := Tryz.underlying33
 have aZ := Aside0.mk aT
 have bA := Aside0.mk aU
 clear aT aU
 have HB := am (Below.refl w.heap.size w)
 have H : ((laws_toSeenS.f k aF).bind fun aK => (some (aE, aK))) = some (r1, r2) := h
 clear h
 replace H := bm H
 obtain ⟨aK, bS, H⟩ := H
 replace H : (some (aE, aK)) = some (r1, r2) := H
 have A2 := Aside0.mk bS
 clear bS
 simp only [Option.some.injEq, Prod.mk.injEq] at H
 obtain ⟨rfl, rfl⟩ := H
 go_enter Tryz.func18, Tryz.ntmps18
 go_wp2_with (first | ((with_reducible refine gate_dst (N := 1) rfl ?_); refine box_event rfl (N := 1) rfl (cs := #[.int .i64 aE, .slice aR aF.length aS]) (t := 25) BX ?_; intro bB hg w3 aI hb; have aA := am (aI); have bC := am (GH HB hg); have aD := bC; replace HB := bl (KL HB) hb; clear hb aI hg) | ((with_reducible refine gate_dst (N := 2) rfl ?_); refine box_event rfl (N := 2) rfl (cs := #[.int .i64 0, .slice none 0 0]) (t := 33) BX ?_; intro aL hg w4 aI hb; have aB := am (aI); have bD := am (GH1 HB aD.out hg); have aG := bD; replace HB := bl (K1 HB aD.out) hb; have aN := am (NL aA hg); have aO := am (NG aA hg); replace aA := am (BB aA hb); clear hb aI hg) | ((with_reducible refine gate_dst (N := 3) rfl ?_); refine box_event rfl (N := 3) rfl (cs := #[.int .i64 0, .slice none 0 0]) (t := 33) BX ?_; intro aV hg w5 aI hb; have aJ := am (aI); have bE := am (GH2 HB aD.out aG.out hg); have aM := bE; replace HB := bl (K2 HB aD.out aG.out) hb; have aH := am (NL aA hg); have aP := am (NG aA hg); replace aA := am (BB aA hb); have aC := am (NL aB hg); have aQ := am (NG aB hg); replace aB := am (BB aB hb); clear hb aI hg; have bX := aN.out; have bY := aO.out; have bZ := aH.out; have cA := aP.out; have ⟨_, _, _⟩ := y2 w5 aA.out; have cB := aQ.out; have cC := aC.out; have ⟨_, _, _⟩ := y2 w5 aJ.out) | ((with_reducible refine gate_callee (f := 42) rfl ?_); refine goesL_ (some 9) rfl rfl Tryz.func42 (by kernel_rfl) rfl #[.slice aR aF.length aS] rfl MT ?_; (with_reducible refine (laws_toSeenS.calls k _ _ aF aK _ ?_ ?_ A2.out).mono ?_); exact Kd.C_below aZ.out (K3 HB aD.out aG.out aM.out); exact bA.out; rintro e bT ⟨cD, rfl, bU, hb⟩; refine ⟨_, rfl, ?_⟩; have aW := am (Kd.R_lower bU (below_size (K3 HB aD.out aG.out aM.out))); replace aA := am (blk_below (g := bB) (o := .cells #[.int .i64 aE, .slice aR aF.length aS] 25 (0, 0)) (by refine BD ?_; refine blk_far ?_ aH.out _; refine BD ?_; exact aA.out) hb); replace aB := am (blk_below (g := aL) (o := .cells #[.int .i64 0, .slice none 0 0] 33 (0, 0)) (by refine BD ?_; refine blk_far ?_ aC.out _; refine BD ?_; exact aB.out) hb); replace aJ := am (blk_below (g := aV) (o := .cells #[.int .i64 aE, .slice none 0 0] 33 (0, 0)) (by refine BD ?_; refine blk_put (cs := #[.int .i64 0, .slice none 0 0]) ?_ 0 _ rfl; refine BD ?_; exact aJ.out) hb); replace HB := bl (K3 HB aD.out aG.out aM.out) hb; (try clear hb); (try clear hb2); (try clear hk); (try clear hi); (try clear bU); obtain ⟨aX, aY, bR⟩ := Kd.R_slice aW.out; subst bR; have ⟨_, _, _⟩ := y2 bT aJ.out; have ⟨_, _, _⟩ := y2 bT aB.out))
 refine bodyPost_ret (results_cell_row rfl _ _ aL 33 #[.int .i64 aE, .slice aX aK.length aY] (0, 0) _ rfl (by refine BD ?_; refine blk_put (cs := #[.int .i64 aE, .slice none 0 0]) ?_ 1 _ rfl; refine BD ?_; refine blk_put (cs := #[.int .i64 0, .slice none 0 0]) ?_ 0 _ rfl; refine BD ?_; refine blk_far ?_ aC.out _; refine BD ?_; exact aB.out) Tryz.underlying33 rfl (by kernel_rfl)) rfl ?_
 exact ⟨_, ER, by refine KW ?_; exact Kd.R_mono (Kd.R_far (p := ⟨aL, 1, none⟩) (Kd.R_far (p := ⟨aL, 0, none⟩) (Kd.R_far (p := ⟨aV, 1, none⟩) (Kd.R_types (Kd.R_types aW.out aJ.out (by decide)) aB.out (by decide)) (fun _ hk => hk.1.2) (.slice aX aK.length aY)) (fun _ hk => hk.2) (.int .i64 aE)) (fun _ hk => hk.2) (.slice aX aK.length aY)) (fun _ hk => trivial), K3 HB aD.out aG.out aM.out⟩
def impl_in.f (a0 : Int) (a1 : Int) (a2 : Int) : Option (Bool) := if a0 ≥ a1 then (some (decide (a0 ≤ a2))) else (some false)
theorem impl_in.calls (a0 : Int) (a1 : Int) (a2 : Int) (r : Bool) (w : World) (h : impl_in.f a0 a1 a2 = some r) :
  Calls Tryz.prog 44 #[.int .i64 a0, .int .i64 a1, .int .i64 a2] w fun e w' => e = .returned (.bool r) ∧ Drawn0 w w' := by
 have H : (if a0 ≥ a1 then (some (decide (a0 ≤ a2))) else (some false)) = some r := h
 clear h
 by_cases c4 : a0 ≥ a1
 ·rw [if_pos c4] at H
  have c4b0 : decide (a1 ≤ a0) = true := decide_eq_true c4
  clear c4
  obtain rfl := sj H
  go_enter Tryz.func44, Tryz.ntmps44
  go_wp2
  go_ret
  exact ⟨by first | rfl | (simp; done) | (simp [*]; done), by repeat (first | exact Drawn0.refl _ | apply Drawn0.step)⟩
 ·rw [if_neg c4] at H
  have c4b0 : decide (a1 ≤ a0) = false := decide_eq_false c4
  clear c4
  obtain rfl := sj H
  go_enter Tryz.func44, Tryz.ntmps44
  go_wp2
  go_ret
  exact ⟨by first | rfl | (simp; done) | (simp [*]; done), by repeat (first | exact Drawn0.refl _ | apply Drawn0.step)⟩
def impl_Block_size.f (a0_0 : Int) (a0_1 : Int) : Option (Int) := if 0 ≤ (wrap64 (32 - a0_1)) then (some (shl .i64 1 (wrap64 (32 - a0_1)))) else (none)
theorem impl_Block_size.calls (aB : Int) (aA : Int) (r : Int) (w : World) (h : impl_Block_size.f aB aA = some r) :
  Calls Tryz.prog 105 #[.agg #[.int .i64 aB, .int .i64 aA]] w fun e w' => e = .returned (.int .i64 r) ∧ Below w.heap.size w w' := by
 have aK := Tryz.underlying75
 have HB := am (Below.refl w.heap.size w)
 have H : (if 0 ≤ (wrap64 (32 - aA)) then (some (shl .i64 1 (wrap64 (32 - aA)))) else (none)) = some r := h
 clear h
 obtain ⟨ji2, hji2⟩ : ∃ j_ : Int, (wrap64 (32 - aA)) = j_ := ⟨_, rfl⟩
 replace H : (if 0 ≤ (ji2) then (some (shl .i64 1 (ji2))) else (none)) = some r := by first | (rw [hji2] at H; exact H) | (simp only [hji2] at H ⊢; exact H)
 have hji2w : (IntKind.i64.wrap (32 - aA)) = ji2 := (i64_w _).trans hji2
 by_cases c3 : 0 ≤ (ji2)
 ·rw [if_pos c3] at H
  have c3b0 := eq_true c3
  have c3b1 : decide (0 ≤ (ji2)) = true := decide_eq_true c3
  clear c3
  obtain ⟨ji4, hji4⟩ : ∃ j_ : Int, (shl .i64 1 (ji2)) = j_ := ⟨_, rfl⟩
  replace H : (some ji4) = some r := by first | (rw [hji4] at H; exact H) | (simp only [hji4] at H ⊢; exact H)
  have hji4_ : (IntKind.i64.wrap (1 * 2 ^ min (ji2).toNat 64)) = ji4 := hji4
  have hji4z : (ji2) ≤ 64 → (IntKind.i64.wrap (1 * 2 ^ (ji2).toNat)) = ji4 := shl_small hji4
  have hji4u : (IntKind.i64.wrap (2 ^ min (ji2).toNat 64)) = ji4 := by have h_ := hji4_; rw [Int.one_mul] at h_; exact h_
  have hji4v : (ji2) ≤ 64 → (IntKind.i64.wrap (2 ^ (ji2).toNat)) = ji4 := fun hle_ => by have h_ := hji4z hle_; rw [Int.one_mul] at h_; exact h_
  have hji4y : (wrap64 (1 * 2 ^ min (ji2).toNat 64)) = ji4 := (i64_w _).symm.trans hji4_
  have hji4x : (ji2) ≤ 64 → (wrap64 (1 * 2 ^ (ji2).toNat)) = ji4 := fun h_ => (i64_w _).symm.trans (hji4z h_)
  obtain rfl := sj H
  go_enter Tryz.func105, Tryz.ntmps105
  go_wp2_with (first | ((with_reducible refine gate_dst (N := 1) rfl ?_); refine box_event rfl (N := 1) rfl (cs := #[.int .i64 aB, .int .i64 aA]) (t := 75) BX ?_; intro aJ hg w5 aC hb; have aD := am (aC); have aE := am (GH HB hg); have aF := aE; replace HB := bl (KL HB) hb; clear hb aC hg; have ⟨_, _, _⟩ := y2 w5 aD.out))
  go_ret
  exact ⟨by first | rfl | (simp [errW_none, errW_some] <;> rfl) | (simp only [← hji2, ← hji4]; first | rfl | (simp [errW_none, errW_some] <;> rfl)) | (simp [*, errW_none, errW_some] <;> rfl), K1 HB aF.out⟩
 ·rw [if_neg c3] at H
  exact absurd H (by simp)
end Go.Proofs.YtmdegplkdgaebaaGreat.PAll
end
