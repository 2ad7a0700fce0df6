/- Contracts of the functions that the statement reaches. -/
import Derived.Test.YtgoblfacfjnanaaGreatCFnExactGateKeyIn3
import Derived.Test.YtgoblfacfjnanaaGreatCFnExactGateKeyIn4
import Derived.Test.YtgoblfacfjnanaaGreatCFnExactGateKeyIn7
set_option maxHeartbeats 8000000
set_option maxRecDepth 100000
section
namespace Go.Proofs.YtgoblfacfjnanaaGreat.PAll
open Go.RowKit Go.Proofs.YtgoblfacfjnanaaGreatW.PrintWords Go.Proofs.YtgoblfacfjnanaaGreatW.PrintLast Go.Proofs.YtgoblfacfjnanaaGreatW.PrintMore
attribute [local go_sem] max2_int min2_int max_two min_two max_three min_three max_four min_four
set_option linter.unusedVariables false
set_option linter.unusedSimpArgs false
@[reducible] def eleG (w : World) (a : Addr) (x : S48) (v : Value) (p : Prop) : Prop := w.cell? a = some (.int .i64 x.f0) ∧ w.cell? ⟨a.block, a.off + 1, none⟩ = some (.int .i64 x.f1) ∧ w.cell? ⟨a.block, a.off + 2, none⟩ = some (.string x.f2) ∧ w.cell? ⟨a.block, a.off + 3, none⟩ = some (.string x.f3) ∧ w.cell? ⟨a.block, a.off + 4, none⟩ = some (.int .i64 x.f4) ∧ w.cell? ⟨a.block, a.off + 5, none⟩ = some (.int .i64 x.f5) ∧ w.cell? ⟨a.block, a.off + 6, none⟩ = some (.int .i64 x.f6) ∧ w.cell? ⟨a.block, a.off + 7, none⟩ = some (.int .i64 x.f7) ∧ w.cell? ⟨a.block, a.off + 8, none⟩ = some (.int .i64 x.f8) ∧ w.cell? ⟨a.block, a.off + 9, none⟩ = some (.int .i64 x.f9.f0) ∧ w.cell? ⟨a.block, a.off + 10, none⟩ = some v ∧ p
@[reducible] def eleH (w : World) (a : Addr) (x : S48) (v : Value) : Prop := w.cell? a = some (.int .i64 x.f0) ∧ w.cell? ⟨a.block, a.off + 1, none⟩ = some (.int .i64 x.f1) ∧ w.cell? ⟨a.block, a.off + 2, none⟩ = some (.string x.f2) ∧ w.cell? ⟨a.block, a.off + 3, none⟩ = some (.string x.f3) ∧ w.cell? ⟨a.block, a.off + 4, none⟩ = some (.int .i64 x.f4) ∧ w.cell? ⟨a.block, a.off + 5, none⟩ = some (.int .i64 x.f5) ∧ w.cell? ⟨a.block, a.off + 6, none⟩ = some (.int .i64 x.f6) ∧ w.cell? ⟨a.block, a.off + 7, none⟩ = some (.int .i64 x.f7) ∧ w.cell? ⟨a.block, a.off + 8, none⟩ = some (.int .i64 x.f8) ∧ w.cell? ⟨a.block, a.off + 9, none⟩ = some (.int .i64 x.f9.f0) ∧ w.cell? ⟨a.block, a.off + 10, none⟩ = some v
mutual
def spec_GateOk.j0 : Nat → Bool → Int → List (S92) → Int → List (S105) → List (S48) → List (S48) → Option (Bool)
 | 0, _, _, _, _, _, _, _ => none
 | k + 1, x34, x102000, x102001, x102002, x102003, x102004, x102005 => if x34 = true then (some false) else (spec_GateOk.l0 k 0 x102000 x102001 x102002 x102003 x102004 x102005)
def spec_GateOk.l0 : Nat → Int → Int → List (S92) → Int → List (S105) → List (S48) → List (S48) → Option (Bool)
 | 0, _, _, _, _, _, _, _ => none
 | k + 1, x3, x102000, x102001, x102002, x102003, x102004, x102005 => if x3 < (x102004.length : Int) then (if 0 ≤ x3 then ((spec_SaOk.f k ((rd_T48 x102004 x3).f0) ((rd_T48 x102004 x3).f1) ((rd_T48 x102004 x3).f2) ((rd_T48 x102004 x3).f3) ((rd_T48 x102004 x3).f4) ((rd_T48 x102004 x3).f5) ((rd_T48 x102004 x3).f6) ((rd_T48 x102004 x3).f7) ((rd_T48 x102004 x3).f8) ((rd_T48 x102004 x3).f9.f0) ((rd_T48 x102004 x3).f9.f1)).bind fun t105 => (if t105 = true then (if ((rd_T48 x102004 x3).f4) > x102000 then (spec_GateOk.j2 k x3 true x102000 x102001 x102002 x102003 x102004 x102005) else (if x3 > 0 then (if 0 ≤ (wrap64 (x3 - 1)) then (if (wrap64 (x3 - 1)) < (x102004.length : Int) then (spec_GateOk.j2 k x3 (decide (((rd_T48 x102004 (wrap64 (x3 - 1))).f1) ≥ ((rd_T48 x102004 x3).f1))) x102000 x102001 x102002 x102003 x102004 x102005) else (none)) else (none)) else (spec_GateOk.j2 k x3 false x102000 x102001 x102002 x102003 x102004 x102005))) else (spec_GateOk.j2 k x3 true x102000 x102001 x102002 x102003 x102004 x102005))) else (none)) else (spec_GateOk.l1 k 0 x102000 x102001 x102002 x102003 x102004 x102005)
def spec_GateOk.j2 : Nat → Int → Bool → Int → List (S92) → Int → List (S105) → List (S48) → List (S48) → Option (Bool)
 | 0, _, _, _, _, _, _, _, _ => none
 | k + 1, x3, x79, x102000, x102001, x102002, x102003, x102004, x102005 => if x79 = true then (some false) else (spec_GateOk.l0 k (wrap64 (x3 + 1)) x102000 x102001 x102002 x102003 x102004 x102005)
def spec_GateOk.l1 : Nat → Int → Int → List (S92) → Int → List (S105) → List (S48) → List (S48) → Option (Bool)
 | 0, _, _, _, _, _, _, _ => none
 | k + 1, x4, x102000, x102001, x102002, x102003, x102004, x102005 => if x4 < (x102005.length : Int) then (if 0 ≤ x4 then ((spec_SaOk.f k ((rd_T48 x102005 x4).f0) ((rd_T48 x102005 x4).f1) ((rd_T48 x102005 x4).f2) ((rd_T48 x102005 x4).f3) ((rd_T48 x102005 x4).f4) ((rd_T48 x102005 x4).f5) ((rd_T48 x102005 x4).f6) ((rd_T48 x102005 x4).f7) ((rd_T48 x102005 x4).f8) ((rd_T48 x102005 x4).f9.f0) ((rd_T48 x102005 x4).f9.f1)).bind fun t110 => (if t110 = true then (if ((rd_T48 x102005 x4).f4) > x102000 then (spec_GateOk.j4 k x4 true x102000 x102001 x102002 x102003 x102004 x102005) else (if x4 > 0 then (if 0 ≤ (wrap64 (x4 - 1)) then (if (wrap64 (x4 - 1)) < (x102005.length : Int) then (spec_GateOk.j4 k x4 (decide (((rd_T48 x102005 (wrap64 (x4 - 1))).f0) ≥ ((rd_T48 x102005 x4).f0))) x102000 x102001 x102002 x102003 x102004 x102005) else (none)) else (none)) else (spec_GateOk.j4 k x4 false x102000 x102001 x102002 x102003 x102004 x102005))) else (spec_GateOk.j4 k x4 true x102000 x102001 x102002 x102003 x102004 x102005))) else (none)) else (some true)
def spec_GateOk.j4 : Nat → Int → Bool → Int → List (S92) → Int → List (S105) → List (S48) → List (S48) → Option (Bool)
 | 0, _, _, _, _, _, _, _, _ => none
 | k + 1, x4, x124, x102000, x102001, x102002, x102003, x102004, x102005 => if x124 = true then (some false) else (spec_GateOk.l1 k (wrap64 (x4 + 1)) x102000 x102001 x102002 x102003 x102004 x102005)
end
def spec_GateOk.f (k : Nat) (a0_0 : Int) (l0_1 : List (S92)) (a0_2 : Int) (l0_3 : List (S105)) (l0_4 : List (S48)) (l0_5 : List (S48)) : Option (Bool) := (spec_l1In.f a0_0 0 1000000).bind fun t102 => (if t102 = true then (if a0_2 = 4 then ((spec_CacheOk.f k l0_1 a0_2 l0_3).bind fun t103 => (if t103 = true then (if (l0_4.length : Int) > 4 then (spec_GateOk.j0 k true a0_0 l0_1 a0_2 l0_3 l0_4 l0_5) else (spec_GateOk.j0 k (decide ((l0_5.length : Int) > 6)) a0_0 l0_1 a0_2 l0_3 l0_4 l0_5)) else (spec_GateOk.j0 k true a0_0 l0_1 a0_2 l0_3 l0_4 l0_5))) else (spec_GateOk.j0 k true a0_0 l0_1 a0_2 l0_3 l0_4 l0_5)) else (spec_GateOk.j0 k true a0_0 l0_1 a0_2 l0_3 l0_4 l0_5))
def spec_GateOk.T6 : Bool × List (List Nat × List Nat) := (true, [([], []), ([0], [0]), ([], []), ([1, 2], [1, 2]), ([3], [3]), ([4], [4]), ([5], [5]), ([6, 5], [6]), ([7], [7]), ([8, 7], [7, 8]), ([7], [7]), ([9, 10, 7], [7, 9, 10]), ([11, 7], [7, 11]), ([12, 7], [7, 12]), ([7], [7]), ([14, 7], [7, 14]), ([13, 15, 7], [7, 13, 15]), ([7, 16], [7, 16]), ([17, 7], [17]), ([18], [18]), ([19, 18], [18, 19]), ([20, 18, 18], [18, 20]), ([21], [21]), ([22, 21], [21, 22]), ([21], [21]), ([24, 21], [21, 24]), ([23, 25, 21], [21, 23, 25]), ([26, 21], [21, 26]), ([27, 21], [21, 27]), ([21], [21]), ([29, 21], [21, 29]), ([21], [21]), ([30, 31, 21], [21, 30, 31]), ([32, 21], [21, 32]), ([33, 21], [21, 33]), ([28, 34, 21], [21, 28, 34]), ([21, 35, 18], [18, 21, 35]), ([18, 36], [18, 36])])
def spec_GateOk.B6 : List Nat := [0, 1, 0, 7, 15, 31, 63, 127, 255, 511, 255, 2047, 4095, 8191, 255, 16639, 65535, 131071, 262143, 524287, 1048575, 2097151, 4194303, 8388607, 4194303, 20971519, 67108863, 134217727, 268435455, 4194303, 541065215, 4194303, 3762290687, 8057257983, 16647192575, 34359738367, 68719476735, 137438953471]
theorem spec_GateOk.tab6 : rtab .any (opsOf Tryz.f22 6) = spec_GateOk.T6 := by kernel_rfl
theorem spec_GateOk.bits6 : waitsOk spec_GateOk.T6.2 spec_GateOk.B6 = true := by kernel_rfl
def spec_GateOk.T11 : Bool × List (List Nat × List Nat) := (true, [([], []), ([0], [0]), ([], []), ([1, 2], [1, 2]), ([3], [3]), ([4], [4]), ([5], [5]), ([6, 5], [6]), ([7], [7]), ([8, 7], [7, 8]), ([7], [7]), ([9, 10, 7], [7, 9, 10]), ([11, 7], [7, 11]), ([12, 7], [7, 12]), ([7], [7]), ([14, 7], [7, 14]), ([13, 15, 7], [7, 13, 15]), ([7, 16], [7, 16]), ([17, 7], [17]), ([18], [18]), ([19, 18], [18, 19]), ([20, 18, 18], [18, 20]), ([21], [21]), ([22, 21], [21, 22]), ([21], [21]), ([24, 21], [21, 24]), ([23, 25, 21], [21, 23, 25]), ([26, 21], [21, 26]), ([27, 21], [21, 27]), ([21], [21]), ([29, 21], [21, 29]), ([21], [21]), ([30, 31, 21], [21, 30, 31]), ([32, 21], [21, 32]), ([33, 21], [21, 33]), ([28, 34, 21], [21, 28, 34]), ([21, 35, 18], [18, 21, 35]), ([18, 36], [18, 36])])
def spec_GateOk.B11 : List Nat := [0, 1, 0, 7, 15, 31, 63, 127, 255, 511, 255, 2047, 4095, 8191, 255, 16639, 65535, 131071, 262143, 524287, 1048575, 2097151, 4194303, 8388607, 4194303, 20971519, 67108863, 134217727, 268435455, 4194303, 541065215, 4194303, 3762290687, 8057257983, 16647192575, 34359738367, 68719476735, 137438953471]
theorem spec_GateOk.tab11 : rtab .any (opsOf Tryz.f22 11) = spec_GateOk.T11 := by kernel_rfl
theorem spec_GateOk.bits11 : waitsOk spec_GateOk.T11.2 spec_GateOk.B11 = true := by kernel_rfl
theorem spec_GateOk.calls (k : Nat) (aI : Int) (fA : Option Addr) (fB : Nat) (aX : List (S92)) (aL : Int) (fC : Option Addr) (fD : Nat) (aY : List (S105)) (fO : Option Addr) (fE : Nat) (aB : List (S48)) (fP : Option Addr) (fF : Nat) (aC : List (S48)) (r : Bool) (w : World) (mK : Kd.C k92 w fA aX.length aX) (mL : aX.length ≤ fB) (mM : Kd.C k105 w fC aY.length aY) (mN : aY.length ≤ fD) (mO : Kd.C k48 w fO aB.length aB) (mP : aB.length ≤ fE) (mQ : Kd.C k48 w fP aC.length aC) (mR : aC.length ≤ fF) (h : spec_GateOk.f k aI aX aL aY aB aC = some r) :
  Calls Tryz.prog 22 #[.agg #[.int .i64 aI, .slice fA aX.length fB, .int .i64 aL, .slice fC aY.length fD, .slice fO aB.length fE, .slice fP aC.length fF]] w fun e w' => e = .returned (.bool r) ∧ Below w.heap.size w w' := by
 have pX := Tryz.underlying42
 have pY := Tryz.underlying39
 have pZ := Tryz.underlying48
 have lO := Aside0.mk mK
 have lP := Aside0.mk mL
 clear mK mL
 have lQ := Aside0.mk mM
 have lR := Aside0.mk mN
 clear mM mN
 have fI := Aside0.mk mO
 have pR := Aside0.mk mP
 clear mO mP
 have fJ := Aside0.mk mQ
 have pS := Aside0.mk mR
 clear mQ mR
 have HB := am (Below.refl w.heap.size w)
 have H : ((spec_l1In.f aI 0 1000000).bind fun lY => (if lY = true then (if aL = 4 then ((spec_CacheOk.f k aX aL aY).bind fun lN => (if lN = true then (if (aB.length : Int) > 4 then (spec_GateOk.j0 k true aI aX aL aY aB aC) else (spec_GateOk.j0 k (decide ((aC.length : Int) > 6)) aI aX aL aY aB aC)) else (spec_GateOk.j0 k true aI aX aL aY aB aC))) else (spec_GateOk.j0 k true aI aX aL aY aB aC)) else (spec_GateOk.j0 k true aI aX aL aY aB aC))) = some r := h
 clear h
 have pJ := Aside0.mk H
 clear H
 go_enter Tryz.func22, Tryz.ntmps22
 go_upto_region 1 with (first | ((with_reducible refine gate_dst (N := 1) rfl ?_); (try (refine gate_guard (by rfl) ?_; dsimp only)); refine box_event rfl (N := 1) rfl (cs := #[.int .i64 aI, .slice fA aX.length fB, .int .i64 aL, .slice fC aY.length fD, .slice fO aB.length fE, .slice fP aC.length fF]) (t := 42) BX ?_; intro eP hg w3 nK hb; have aA := am (nK); have nL := am (GH HB hg); have aK := nL; replace HB := bl (KL HB) hb; clear hb nK hg))
 (try simp only [Act.put, List.setIfInBounds_toArray, List.set_cons_zero, List.set_cons_succ])
 go_cut [34] (fun qA wc => ∃ (kq : Nat) (iB : Bool), qA = .bool iB ∧ Aside0 (spec_GateOk.j0 kq iB aI aX aL aY aB aC = some r) ∧ Aside0 (kq ≤ k) ∧ Aside0 (wc.heap[eP]? = some (.cells #[.int .i64 aI, (.slice fA aX.length fB), .int .i64 aL, (.slice fC aY.length fD), (.slice fO aB.length fE), (.slice fP aC.length fF)] 42 (0, 0))) ∧ Aside0 (Below w.heap.size w wc))
 case first =>
  have H := pJ.out
  clear pJ
  replace H := bm H
  obtain ⟨lY, pT, H⟩ := H
  replace H : (if lY = true then (if aL = 4 then ((spec_CacheOk.f k aX aL aY).bind fun lN => (if lN = true then (if (aB.length : Int) > 4 then (spec_GateOk.j0 k true aI aX aL aY aB aC) else (spec_GateOk.j0 k (decide ((aC.length : Int) > 6)) aI aX aL aY aB aC)) else (spec_GateOk.j0 k true aI aX aL aY aB aC))) else (spec_GateOk.j0 k true aI aX aL aY aB aC)) else (spec_GateOk.j0 k true aI aX aL aY aB aC)) = some r := H
  have A4 := Aside0.mk pT
  clear pT
  by_cases c5 : lY = true
  ·subst c5
   have H1 := pf H
   clear H
   have H := H1
   clear H1
   by_cases c6 : aL = 4
   ·rw [if_pos c6] at H
    have c6b0 : (aL == 4) = true := beq_iff_eq.mpr c6
    have c6b1 : (aL != 4) = false := bne_eq_false_iff_eq.mpr c6
    clear c6
    (first | rw [c6b0] | (simp only [i64_w, i32_w]; rw [c6b0]) | skip)
    replace H := bm H
    obtain ⟨lN, pU, H⟩ := H
    replace H : (if lN = true then (if (aB.length : Int) > 4 then (spec_GateOk.j0 k true aI aX aL aY aB aC) else (spec_GateOk.j0 k (decide ((aC.length : Int) > 6)) aI aX aL aY aB aC)) else (spec_GateOk.j0 k true aI aX aL aY aB aC)) = some r := H
    have A7 := Aside0.mk pU
    clear pU
    by_cases c8 : lN = true
    ·subst c8
     have H1 := pf H
     clear H
     have H := H1
     clear H1
     by_cases c9 : (aB.length : Int) > 4
     ·rw [if_pos c9] at H
      have c9b0 : decide (4 < (aB.length : Int)) = true := decide_eq_true c9
      have c9b1 : decide (4 < aB.length) = true := decide_eq_true (by omega)
      clear c9
      have H' := Aside0.mk H
      clear H
      obtain ⟨iC, iD, iE, iF, iG, iH, iI⟩ := y6 w3 aA.out
      go_wp2_with (first | ((with_reducible refine gate_callee (f := 54) rfl ?_); refine goesL_ (some 7) rfl rfl Tryz.func54 (by kernel_rfl) rfl #[.int .i64 aI, .int .i64 0, .int .i64 1000000] rfl MT ?_; (with_reducible refine (spec_l1In.calls aI 0 1000000 true _ A4.out).mono ?_); rintro e w' ⟨rfl, ⟨nd, rfl⟩⟩; refine ⟨_, rfl, ?_⟩) | (go_at_call 55; (with_reducible refine (spec_CacheOk.calls k _ _ aX aL _ _ aY true _ ?_ ?_ ?_ ?_ A7.out).mono ?_); (repeat (first | exact (Kd.C_below lO.out (K1 HB aK.out)) | (with_reducible refine Kd.C_alloc ?_ _) | (with_reducible refine Kd.C_drewN ?_ _) | (with_reducible refine Kd.C_drew ?_))); exact lP.out; (repeat (first | exact (Kd.C_below lQ.out (K1 HB aK.out)) | (with_reducible refine Kd.C_alloc ?_ _) | (with_reducible refine Kd.C_drewN ?_ _) | (with_reducible refine Kd.C_drew ?_))); exact lR.out; rintro e qB ⟨rfl, hb⟩; replace aA := am (BB aA hb); replace HB := bl (K1 HB aK.out) hb; (try clear hb); obtain ⟨iJ, iK, iL, iM, iN, iO, iP⟩ := y6 qB aA.out))
      go_meet
      case rel => exact ⟨_, (true), (by first | rfl | (simp; done) | (simp [*]; done)), H', ⟨by first | omega | exact Nat.le_refl _⟩, ⟨KB aA⟩, ⟨K1 HB aK.out⟩⟩
     ·rw [if_neg c9] at H
      have c9b0 : decide (4 < (aB.length : Int)) = false := decide_eq_false c9
      have c9b1 : decide (4 < aB.length) = false := decide_eq_false (by omega)
      clear c9
      have H' := Aside0.mk H
      clear H
      obtain ⟨iQ, iR, iS, iT, iU, iV, iW⟩ := y6 w3 aA.out
      go_wp2_with (first | ((with_reducible refine gate_callee (f := 54) rfl ?_); refine goesL_ (some 7) rfl rfl Tryz.func54 (by kernel_rfl) rfl #[.int .i64 aI, .int .i64 0, .int .i64 1000000] rfl MT ?_; (with_reducible refine (spec_l1In.calls aI 0 1000000 true _ A4.out).mono ?_); rintro e w' ⟨rfl, ⟨nd, rfl⟩⟩; refine ⟨_, rfl, ?_⟩) | (go_at_call 55; (with_reducible refine (spec_CacheOk.calls k _ _ aX aL _ _ aY true _ ?_ ?_ ?_ ?_ A7.out).mono ?_); (repeat (first | exact (Kd.C_below lO.out (K1 HB aK.out)) | (with_reducible refine Kd.C_alloc ?_ _) | (with_reducible refine Kd.C_drewN ?_ _) | (with_reducible refine Kd.C_drew ?_))); exact lP.out; (repeat (first | exact (Kd.C_below lQ.out (K1 HB aK.out)) | (with_reducible refine Kd.C_alloc ?_ _) | (with_reducible refine Kd.C_drewN ?_ _) | (with_reducible refine Kd.C_drew ?_))); exact lR.out; rintro e qC ⟨rfl, hb⟩; replace aA := am (BB aA hb); replace HB := bl (K1 HB aK.out) hb; (try clear hb); obtain ⟨iX, iY, iZ, jA, jB, jC, jD⟩ := y6 qC aA.out))
      go_meet
      case rel => exact ⟨_, (decide ((aC.length : Int) > 6)), (by first | rfl | (simp; done) | (simp [*]; done)), H', ⟨by first | omega | exact Nat.le_refl _⟩, ⟨KB aA⟩, ⟨K1 HB aK.out⟩⟩
    ·replace c8 := Bool.eq_false_iff.mpr c8
     subst c8
     have H1 := nf H
     clear H
     have H := H1
     clear H1
     have H' := Aside0.mk H
     clear H
     obtain ⟨jE, jF, jG, jH, jI, jJ, jK⟩ := y6 w3 aA.out
     go_wp2_with (first | ((with_reducible refine gate_callee (f := 54) rfl ?_); refine goesL_ (some 7) rfl rfl Tryz.func54 (by kernel_rfl) rfl #[.int .i64 aI, .int .i64 0, .int .i64 1000000] rfl MT ?_; (with_reducible refine (spec_l1In.calls aI 0 1000000 true _ A4.out).mono ?_); rintro e w' ⟨rfl, ⟨nd, rfl⟩⟩; refine ⟨_, rfl, ?_⟩) | (go_at_call 55; (with_reducible refine (spec_CacheOk.calls k _ _ aX aL _ _ aY false _ ?_ ?_ ?_ ?_ A7.out).mono ?_); (repeat (first | exact (Kd.C_below lO.out (K1 HB aK.out)) | (with_reducible refine Kd.C_alloc ?_ _) | (with_reducible refine Kd.C_drewN ?_ _) | (with_reducible refine Kd.C_drew ?_))); exact lP.out; (repeat (first | exact (Kd.C_below lQ.out (K1 HB aK.out)) | (with_reducible refine Kd.C_alloc ?_ _) | (with_reducible refine Kd.C_drewN ?_ _) | (with_reducible refine Kd.C_drew ?_))); exact lR.out; rintro e qF ⟨rfl, hb⟩; replace aA := am (BB aA hb); replace HB := bl (K1 HB aK.out) hb; (try clear hb)))
     go_meet
     case rel => exact ⟨_, (true), (by first | rfl | (simp; done) | (simp [*]; done)), H', ⟨by first | omega | exact Nat.le_refl _⟩, ⟨KB aA⟩, ⟨K1 HB aK.out⟩⟩
   ·rw [if_neg c6] at H
    have c6b0 : (aL == 4) = false := beq_eq_false_iff_ne.mpr c6
    have c6b1 : (aL != 4) = true := bne_iff_ne.mpr c6
    (first | rw [c6b0] | (simp only [i64_w, i32_w]; rw [c6b0]) | skip)
    have H' := Aside0.mk H
    clear H
    obtain ⟨jL, jM, jN, jO, jP, jQ, jR⟩ := y6 w3 aA.out
    go_wp2_with (first | ((with_reducible refine gate_callee (f := 54) rfl ?_); refine goesL_ (some 7) rfl rfl Tryz.func54 (by kernel_rfl) rfl #[.int .i64 aI, .int .i64 0, .int .i64 1000000] rfl MT ?_; (with_reducible refine (spec_l1In.calls aI 0 1000000 true _ A4.out).mono ?_); rintro e w' ⟨rfl, ⟨nd, rfl⟩⟩; refine ⟨_, rfl, ?_⟩))
    go_meet
    case rel => exact ⟨_, (true), (by first | rfl | (simp; done) | (simp [*]; done)), H', ⟨by first | omega | exact Nat.le_refl _⟩, ⟨KB aA⟩, ⟨K1 HB aK.out⟩⟩
  ·replace c5 := Bool.eq_false_iff.mpr c5
   subst c5
   have H1 := nf H
   clear H
   have H := H1
   clear H1
   have H' := Aside0.mk H
   clear H
   obtain ⟨jS, jT, jU, jV, jW, jX, jY⟩ := y6 w3 aA.out
   go_wp2_with (first | ((with_reducible refine gate_callee (f := 54) rfl ?_); refine goesL_ (some 7) rfl rfl Tryz.func54 (by kernel_rfl) rfl #[.int .i64 aI, .int .i64 0, .int .i64 1000000] rfl MT ?_; (with_reducible refine (spec_l1In.calls aI 0 1000000 false _ A4.out).mono ?_); rintro e w' ⟨rfl, ⟨nd, rfl⟩⟩; refine ⟨_, rfl, ?_⟩))
   go_meet
   case rel => exact ⟨_, (true), (by first | rfl | (simp; done) | (simp [*]; done)), H', ⟨by first | omega | exact Nat.le_refl _⟩, ⟨KB aA⟩, ⟨K1 HB aK.out⟩⟩
 case rest =>
  clear pJ
  try clear c2
  try clear p2
  try clear c5
  try clear c6
  try clear c6b0
  try clear c6b1
  try clear c8
  try clear c9
  try clear c9b0
  try clear c9b1
  try clear iC iD iE iF iG iH iI
  try clear iJ iK iL iM iN iO iP
  try clear iQ iR iS iT iU iV iW
  try clear iX iY iZ jA jB jC jD
  try clear jE jF jG jH jI jJ jK
  try clear jL jM jN jO jP jQ jR
  try clear jS jT jU jV jW jX jY
  obtain ⟨kq, iB, rfl, HA, HJ1, aA, HB⟩ := hcut
  cases kq with
  | zero => exact absurd HA.out (by simp [spec_GateOk.j0])
  | succ kj1 =>
   have H := HA.out
   clear HA
   simp only [spec_GateOk.j0] at H
   by_cases nM : iB = true
   ·subst nM
    have H1 := pf H
    clear H
    have H := H1
    clear H1
    obtain rfl := sj H
    go_wp2
    go_ret
    exact ⟨ER, K1 HB aK.out⟩
   ·replace nM := Bool.eq_false_iff.mpr nM
    subst nM
    have H1 := nf H
    clear H
    have H := H1
    clear H1
    have H' := Aside0.mk H
    clear H
    go_wp2
    go_loopg [3] kj1 (fun kq v3 w' => ∃ (aD : Int), v3 = .int .i64 aD ∧ Aside0 (spec_GateOk.l0 kq aD aI aX aL aY aB aC = some r) ∧ Aside0 (kq ≤ kj1) ∧ Aside0 (w'.heap[eP]? = some (.cells #[.int .i64 aI, (.slice fA aX.length fB), .int .i64 aL, (.slice fC aY.length fD), (.slice fO aB.length fE), (.slice fP aC.length fF)] 42 (0, 0))) ∧ Aside0 (Below w.heap.size w w'))
    case atStart => exact ⟨(0), (by first | rfl | (simp; done) | (simp [*]; done)), H', ⟨Nat.le_refl _⟩, ⟨KB aA⟩, ⟨K1 HB aK.out⟩⟩
    case round =>
     clear H'
     try clear c2
     try clear p2
     try clear c5
     try clear c6
     try clear c6b0
     try clear c6b1
     try clear c8
     try clear c9
     try clear c9b0
     try clear c9b1
     try clear nM
     try clear iC iD iE iF iG iH iI
     try clear iJ iK iL iM iN iO iP
     try clear iQ iR iS iT iU iV iW
     try clear iX iY iZ jA jB jC jD
     try clear jE jF jG jH jI jJ jK
     try clear jL jM jN jO jP jQ jR
     try clear jS jT jU jV jW jX jY
     try clear p2
     obtain ⟨aD, rfl, HA, HK2, aA, HB⟩ := hrel
     cases gk with
     | zero => exact absurd HA.out (by simp [spec_GateOk.l0])
     | succ k2 =>
      have H := HA.out
      clear HA
      simp only [spec_GateOk.l0] at H
      by_cases mS : aD < (aB.length : Int)
      ·rw [if_pos mS] at H
       have c21b0 : decide (aD < (aB.length : Int)) = true := decide_eq_true mS
       clear mS
       have mT := Aside0.mk H
       clear H
       have ⟨_, _, _, _, _, _, _⟩ := y6 wr aA.out
       go_upto_region 6 with (fail)
       go_cut [79] (fun qD wc => ∃ (kq : Nat) (hH : Bool), qD = .bool hH ∧ Aside0 (spec_GateOk.j2 kq aD hH aI aX aL aY aB aC = some r) ∧ Aside0 (kq ≤ k2) ∧ Aside0 (wc.heap[eP]? = some (.cells #[.int .i64 aI, (.slice fA aX.length fB), .int .i64 aL, (.slice fC aY.length fD), (.slice fO aB.length fE), (.slice fP aC.length fF)] 42 (0, 0))) ∧ Aside0 (Below w.heap.size w wc))
       case first =>
        have H := mT.out
        clear mT
        by_cases nD : 0 ≤ aD
        ·rw [if_pos nD] at H
         have c24b0 : decide (0 ≤ aD) = true := decide_eq_true nD
         clear nD
         (first | rw [c24b0] | (simp only [i64_w, i32_w]; rw [c24b0]) | skip)
         replace H := bm H
         obtain ⟨nN, nO, H⟩ := H
         replace H : (if nN = true then (if ((rd_T48 aB aD).f4) > aI then (spec_GateOk.j2 k2 aD true aI aX aL aY aB aC) else (if aD > 0 then (if 0 ≤ (wrap64 (aD - 1)) then (if (wrap64 (aD - 1)) < (aB.length : Int) then (spec_GateOk.j2 k2 aD (decide (((rd_T48 aB (wrap64 (aD - 1))).f1) ≥ ((rd_T48 aB aD).f1))) aI aX aL aY aB aC) else (none)) else (none)) else (spec_GateOk.j2 k2 aD false aI aX aL aY aB aC))) else (spec_GateOk.j2 k2 aD true aI aX aL aY aB aC)) = some r := H
         have nP := Aside0.mk nO
         clear nO
         by_cases nE : nN = true
         ·subst nE
          have H1 := pf H
          clear H
          have H := H1
          clear H1
          by_cases nF : ((rd_T48 aB aD).f4) > aI
          ·rw [if_pos nF] at H
           have c27b0 : decide (aI < ((rd_T48 aB aD).f4)) = true := decide_eq_true nF
           clear nF
           have H' := Aside0.mk H
           clear H
           try go_wp2
           replace aA := am (blk_drew aA.out)
           replace HB := am (below_drew1 HB.out)
           have eQ : 0 ≤ (aD : Int) := OD
           have eR : aD < (aB.length : Int) := OD
           obtain ⟨cM, cO, cP, hZ, aM, aN, aO, aP, aQ, aR, aS, aT, aU, aV, aH, cE, cF⟩ := at_T48 fI.out aD eQ eR
           have cG := aH
           have cQ := aV
           have cR := aU
           have cS := aT
           have cT := aS
           have cU := aR
           have cV := aQ
           have cW := aP
           have cX := aO
           have cY := aN
           have cZ := aM
           cases hZ
           replace aM := CX HB.out aM
           replace aN := CX HB.out aN
           replace aO := CX HB.out aO
           replace aP := CX HB.out aP
           replace aQ := CX HB.out aQ
           replace aR := CX HB.out aR
           replace aS := CX HB.out aS
           replace aT := CX HB.out aT
           replace aU := CX HB.out aU
           replace aV := CX HB.out aV
           replace aH := CX HB.out aH
           have cH := Aside0.mk cF
           have dT := Aside0.mk cE
           clear cF cE
           replace eQ := eq_true eQ
           replace eR := eq_true eR
           have fM : 0 ≤ (aD : Int) := OD
           have fN : aD < (aB.length : Int) := OD
           obtain ⟨hI, eW, eX, lS, bK, bL, bM, bN, bO, bP, bQ, bR, bS, bT, aW, dM, dN⟩ := at_T48 fI.out aD fM fN
           have dO := aW
           have dV := bT
           have dW := bS
           have dX := bR
           have dY := bQ
           have dZ := bP
           have eA := bO
           have eB := bN
           have eC := bM
           have eD := bL
           have eE := bK
           obtain rfl : cM = hI := (by injection lS)
           replace bK := CX HB.out bK
           replace bL := CX HB.out bL
           replace bM := CX HB.out bM
           replace bN := CX HB.out bN
           replace bO := CX HB.out bO
           replace bP := CX HB.out bP
           replace bQ := CX HB.out bQ
           replace bR := CX HB.out bR
           replace bS := CX HB.out bS
           replace bT := CX HB.out bT
           replace aW := CX HB.out aW
           have eS := Aside0.mk dN
           have hJ := Aside0.mk dM
           clear dN dM
           replace fM := eq_true fM
           replace fN := eq_true fN
           refine start_ (n := 38) (S := fun w' => ce6 w' eP (.int .i64 aI) (.slice fA aX.length fB) (.int .i64 aL) (.slice fC aY.length fD) (.slice (some cM) aB.length fE) (.slice fP aC.length fF) (eleG w' (cM.add ((aD).toNat * 11)) (rd_T48 aB aD) (.slice cO ((rd_T48 aB aD).f9.f1).length cP) (eleH w' (cM.add ((aD).toNat * 11)) (rd_T48 aB aD) (.slice eW ((rd_T48 aB aD).f9.f1).length eX)))) (ds := []) (tf 0 38) (by kernel_rfl) rfl rfl ⟨z0 _ aA.out, z1 _ aA.out, z2 _ aA.out, z3 _ aA.out, z4 _ aA.out, z5 _ aA.out, (CY HB.out cZ), (CY HB.out cY), (CY HB.out cX), (CY HB.out cW), (CY HB.out cV), (CY HB.out cU), (CY HB.out cT), (CY HB.out cS), (CY HB.out cR), (CY HB.out cQ), (CY HB.out cG), (CY HB.out eE), (CY HB.out eD), (CY HB.out eC), (CY HB.out eB), (CY HB.out eA), (CY HB.out dZ), (CY HB.out dY), (CY HB.out dX), (CY HB.out dW), (CY HB.out dV), (CY HB.out dO)⟩ (fun aG => ?_); refine with_tabW spec_GateOk.tab6 spec_GateOk.bits6 (fun aF dS => ?_)
           generalize wr.drew = qG at aA HB cH eS aM aN aH aO aP aQ aR aS aT aU aV bK bL aW bM bN bO bP bQ bR bS bT aG ⊢
           refine pv aF 0 42 (tf 1 37) ?_
           refine pv aF 2 44 (tr [1, 1, 1, 35]) ?_
           refine tk 1 (some 43) (tf 3 35) (take_ofW aF.out dS.out (by kernel_rfl)) aG ?_
           refine pv aF 3 45 (tf 4 34) ?_
           refine tk 4 (some 46) (tf 5 33) (take_ofW aF.out dS.out (by kernel_rfl)) aG ?_
           refine one_ (i := 5) (N := some 47) (tf 6 32) rfl rfl (one_of aF.out (by kernel_rfl)) (by decide) (fun K hK => ?_)
           refine goes_ Tryz.func56 (by kernel_rfl) rfl #[.agg #[.int .i64 ((rd_T48 aB aD).f0), .int .i64 ((rd_T48 aB aD).f1), .string ((rd_T48 aB aD).f2), .string ((rd_T48 aB aD).f3), .int .i64 ((rd_T48 aB aD).f4), .int .i64 ((rd_T48 aB aD).f5), .int .i64 ((rd_T48 aB aD).f6), .int .i64 ((rd_T48 aB aD).f7), .int .i64 ((rd_T48 aB aD).f8), .int .i64 ((rd_T48 aB aD).f9.f0), .slice cO ((rd_T48 aB aD).f9.f1).length cP]] (by rfl) rfl rfl MT ?_
           with_reducible refine (spec_SaOk.calls k2 ((rd_T48 aB aD).f0) ((rd_T48 aB aD).f1) ((rd_T48 aB aD).f2) ((rd_T48 aB aD).f3) ((rd_T48 aB aD).f4) ((rd_T48 aB aD).f5) ((rd_T48 aB aD).f6) ((rd_T48 aB aD).f7) ((rd_T48 aB aD).f8) ((rd_T48 aB aD).f9.f0) _ _ ((rd_T48 aB aD).f9.f1) true _ ?_ ?_ nP.out).mono ?_
           exact KD cH HB
           exact dT.out
           rintro e qH ⟨rfl, hb⟩
           refine ⟨_, rfl, ?_⟩
           replace aA := am (BB aA hb)
           replace HB := bl (K1 HB aK.out) hb
           (try clear hb)
           (try clear hb2)
           (try clear hk)
           (try clear hi)
           refine hK.out _ _ ⟨z0 _ aA.out, z1 _ aA.out, z2 _ aA.out, z3 _ aA.out, z4 _ aA.out, z5 _ aA.out, (CY HB.out cZ), (CY HB.out cY), (CY HB.out cX), (CY HB.out cW), (CY HB.out cV), (CY HB.out cU), (CY HB.out cT), (CY HB.out cS), (CY HB.out cR), (CY HB.out cQ), (CY HB.out cG), (CY HB.out eE), (CY HB.out eD), (CY HB.out eC), (CY HB.out eB), (CY HB.out eA), (CY HB.out dZ), (CY HB.out dY), (CY HB.out dX), (CY HB.out dW), (CY HB.out dV), (CY HB.out dO)⟩ (fun aG => ?_)
           clear hK K
           refine nm (some 47) ?_
           refine pv aF 6 48 (tf 7 31) ?_
           refine pv aF 7 49 (tf 8 30) ?_
           refine pv aF 8 50 (tf 9 29) ?_
           refine pv aF 10 52 (tr [9, 1, 1, 27]) ?_
           refine pv aF 14 56 (tr [9, 1, 1, 3, 1, 23]) ?_
           refine tk 9 (some 51) (tr [11, 3, 1, 23]) (take_ofW aF.out dS.out (by kernel_rfl)) aG ?_
           refine pv aF 11 53 (tr [12, 2, 1, 23]) ?_
           refine pv aF 12 54 (tr [13, 1, 1, 23]) ?_
           refine tk 13 (some 55) (tf 15 23) (take_ofW aF.out dS.out (by kernel_rfl)) aG ?_
           refine tk 15 (some 57) (tf 16 22) (take_ofW aF.out dS.out (by kernel_rfl)) aG ?_
           refine pv aF 16 58 (tf 17 21) ?_
           refine pv aF 17 59 (tf 18 20) ?_
           refine pv aF 18 60 (tf 19 19) ?_
           refine pw aF 19 61 (tf 20 18) ?_
           refine pw aF 20 62 (tf 21 17) ?_
           refine pw aF 21 63 (tf 22 16) ?_
           refine pw aF 22 64 (tf 23 15) ?_
           refine pw aF 23 65 (tf 24 14) ?_
           refine pw aF 24 66 (tf 25 13) ?_
           refine pw aF 25 67 (tf 26 12) ?_
           refine pw aF 26 68 (tf 27 11) ?_
           refine pw aF 27 69 (tf 28 10) ?_
           refine pw aF 28 70 (tf 29 9) ?_
           refine pw aF 29 71 (tf 30 8) ?_
           refine pw aF 30 72 (tf 31 7) ?_
           refine pw aF 31 73 (tf 32 6) ?_
           refine pw aF 32 74 (tf 33 5) ?_
           refine pw aF 33 75 (tf 34 4) ?_
           refine pw aF 34 76 (tf 35 3) ?_
           refine pw aF 35 77 (tf 36 2) ?_
           refine pw aF 36 78 (tf 37 1) ?_
           refine pv aF 37 79 (tf 38 0) ?_
           refine done_ (done_of aF.out (by kernel_rfl)) ?_
           try go_wp2
           go_meet
           case rel => exact ⟨_, (true), (by first | rfl | (simp; done) | (simp [*]; done)), H', ⟨by have := HJ1.out; have := HK2.out; first | omega | exact Nat.le_refl _⟩, ⟨KB aA⟩, ⟨K1 HB aK.out⟩⟩
          ·rw [if_neg nF] at H
           have c27b0 : decide (aI < ((rd_T48 aB aD).f4)) = false := decide_eq_false nF
           clear nF
           by_cases nG : aD > 0
           ·rw [if_pos nG] at H
            have c30b0 : decide (0 < aD) = true := decide_eq_true nG
            clear nG
            obtain ⟨ji31, hji31⟩ : ∃ j_ : Int, (wrap64 (aD - 1)) = j_ := ⟨_, rfl⟩
            replace H : (if 0 ≤ (ji31) then (if (ji31) < (aB.length : Int) then (spec_GateOk.j2 k2 aD (decide (((rd_T48 aB (ji31)).f1) ≥ ((rd_T48 aB aD).f1))) aI aX aL aY aB aC) else (none)) else (none)) = some r := by first | (rw [hji31] at H; exact H) | (simp only [hji31] at H ⊢; exact H)
            (try rw [hji31] at nP)
            have hji31w : (IntKind.i64.wrap (aD - 1)) = ji31 := (i64_w _).trans hji31
            by_cases oM : 0 ≤ (ji31)
            ·rw [if_pos oM] at H
             have c32b0 : decide (0 ≤ (ji31)) = true := decide_eq_true oM
             clear oM
             by_cases oN : (ji31) < (aB.length : Int)
             ·rw [if_pos oN] at H
              have c33b0 : decide ((ji31) < (aB.length : Int)) = true := decide_eq_true oN
              clear oN
              have H' := Aside0.mk H
              clear H
              try go_wp2
              replace aA := am (blk_drew aA.out)
              replace HB := am (below_drew1 HB.out)
              have eQ : 0 ≤ (aD : Int) := OD
              have eR : aD < (aB.length : Int) := OD
              obtain ⟨cM, cO, cP, hZ, aM, aN, aO, aP, aQ, aR, aS, aT, aU, aV, aH, cE, cF⟩ := at_T48 fI.out aD eQ eR
              have cG := aH
              have cQ := aV
              have cR := aU
              have cS := aT
              have cT := aS
              have cU := aR
              have cV := aQ
              have cW := aP
              have cX := aO
              have cY := aN
              have cZ := aM
              cases hZ
              replace aM := CX HB.out aM
              replace aN := CX HB.out aN
              replace aO := CX HB.out aO
              replace aP := CX HB.out aP
              replace aQ := CX HB.out aQ
              replace aR := CX HB.out aR
              replace aS := CX HB.out aS
              replace aT := CX HB.out aT
              replace aU := CX HB.out aU
              replace aV := CX HB.out aV
              replace aH := CX HB.out aH
              have cH := Aside0.mk cF
              have dT := Aside0.mk cE
              clear cF cE
              replace eQ := eq_true eQ
              replace eR := eq_true eR
              have fM : 0 ≤ (aD : Int) := OD
              have fN : aD < (aB.length : Int) := OD
              obtain ⟨hI, eW, eX, lS, bK, bL, bM, bN, bO, bP, bQ, bR, bS, bT, aW, dM, dN⟩ := at_T48 fI.out aD fM fN
              have dO := aW
              have dV := bT
              have dW := bS
              have dX := bR
              have dY := bQ
              have dZ := bP
              have eA := bO
              have eB := bN
              have eC := bM
              have eD := bL
              have eE := bK
              obtain rfl : cM = hI := (by injection lS)
              replace bK := CX HB.out bK
              replace bL := CX HB.out bL
              replace bM := CX HB.out bM
              replace bN := CX HB.out bN
              replace bO := CX HB.out bO
              replace bP := CX HB.out bP
              replace bQ := CX HB.out bQ
              replace bR := CX HB.out bR
              replace bS := CX HB.out bS
              replace bT := CX HB.out bT
              replace aW := CX HB.out aW
              have eS := Aside0.mk dN
              have hJ := Aside0.mk dM
              clear dN dM
              replace fM := eq_true fM
              replace fN := eq_true fN
              have mU : 0 ≤ ((ji31) : Int) := OD
              have mV : (ji31) < (aB.length : Int) := OD
              obtain ⟨nQ, lZ, mA, pK, fS, fT, fU, fV, fW, fX, fY, fZ, gA, gB, fK, hL, hM⟩ := at_T48 fI.out (ji31) mU mV
              have hN := fK
              have jZ := gB
              have kA := gA
              have kB := fZ
              have kC := fY
              have kD := fX
              have kE := fW
              have kF := fV
              have kG := fU
              have kH := fT
              have kI := fS
              obtain rfl : cM = nQ := (by injection pK)
              replace fS := CX HB.out fS
              replace fT := CX HB.out fT
              replace fU := CX HB.out fU
              replace fV := CX HB.out fV
              replace fW := CX HB.out fW
              replace fX := CX HB.out fX
              replace fY := CX HB.out fY
              replace fZ := CX HB.out fZ
              replace gA := CX HB.out gA
              replace gB := CX HB.out gB
              replace fK := CX HB.out fK
              have lT := Aside0.mk hM
              have nR := Aside0.mk hL
              clear hM hL
              replace mU := eq_true mU
              replace mV := eq_true mV
              have mW : 0 ≤ (aD : Int) := OD
              have mX : aD < (aB.length : Int) := OD
              obtain ⟨nS, _, _, pL, gC, gD, gE, gF, gG, gH, gI, gJ, gK, gL, eT, hO, hP⟩ := at_T48 fI.out aD mW mX
              have hQ := eT
              have kJ := gL
              have kK := gK
              have kL := gJ
              have kM := gI
              have kN := gH
              have kO := gG
              have kP := gF
              have kQ := gE
              have kR := gD
              have kS := gC
              obtain rfl : cM = nS := (by injection pL)
              replace gC := CX HB.out gC
              replace gD := CX HB.out gD
              replace gE := CX HB.out gE
              replace gF := CX HB.out gF
              replace gG := CX HB.out gG
              replace gH := CX HB.out gH
              replace gI := CX HB.out gI
              replace gJ := CX HB.out gJ
              replace gK := CX HB.out gK
              replace gL := CX HB.out gL
              replace eT := CX HB.out eT
              have lU := Aside0.mk hP
              have nT := Aside0.mk hO
              clear hP hO
              replace mW := eq_true mW
              replace mX := eq_true mX
              have ea_ := Option.some.inj (aW.symm.trans eT)
              injection ea_ with ea_ en_ ec_
              subst ea_
              subst ec_
              clear en_
              refine start_ (n := 38) (S := fun w' => ce6 w' eP (.int .i64 aI) (.slice fA aX.length fB) (.int .i64 aL) (.slice fC aY.length fD) (.slice (some cM) aB.length fE) (.slice fP aC.length fF) (eleG w' (cM.add ((aD).toNat * 11)) (rd_T48 aB aD) (.slice cO ((rd_T48 aB aD).f9.f1).length cP) (eleG w' (cM.add ((aD).toNat * 11)) (rd_T48 aB aD) (.slice eW ((rd_T48 aB aD).f9.f1).length eX) (eleG w' (cM.add (((ji31)).toNat * 11)) (rd_T48 aB (ji31)) (.slice lZ ((rd_T48 aB (ji31)).f9.f1).length mA) (eleH w' (cM.add ((aD).toNat * 11)) (rd_T48 aB aD) (.slice eW ((rd_T48 aB aD).f9.f1).length eX)))))) (ds := []) (tf 0 38) (by kernel_rfl) rfl rfl ⟨z0 _ aA.out, z1 _ aA.out, z2 _ aA.out, z3 _ aA.out, z4 _ aA.out, z5 _ aA.out, (CY HB.out cZ), (CY HB.out cY), (CY HB.out cX), (CY HB.out cW), (CY HB.out cV), (CY HB.out cU), (CY HB.out cT), (CY HB.out cS), (CY HB.out cR), (CY HB.out cQ), (CY HB.out cG), (CY HB.out eE), (CY HB.out eD), (CY HB.out eC), (CY HB.out eB), (CY HB.out eA), (CY HB.out dZ), (CY HB.out dY), (CY HB.out dX), (CY HB.out dW), (CY HB.out dV), (CY HB.out dO), (CY HB.out kI), (CY HB.out kH), (CY HB.out kG), (CY HB.out kF), (CY HB.out kE), (CY HB.out kD), (CY HB.out kC), (CY HB.out kB), (CY HB.out kA), (CY HB.out jZ), (CY HB.out hN), (CY HB.out kS), (CY HB.out kR), (CY HB.out kQ), (CY HB.out kP), (CY HB.out kO), (CY HB.out kN), (CY HB.out kM), (CY HB.out kL), (CY HB.out kK), (CY HB.out kJ), (CY HB.out hQ)⟩ (fun aG => ?_); refine with_tabW spec_GateOk.tab6 spec_GateOk.bits6 (fun aF dS => ?_)
              generalize wr.drew = qI at aA HB cH eS lT lU aM aN aH aO aP aQ aR aS aT aU aV bK bL aW bM bN bO bP bQ bR bS bT fS fT fK fU fV fW fX fY fZ gA gB gC gD eT gE gF gG gH gI gJ gK gL aG ⊢
              refine pv aF 0 42 (tf 1 37) ?_
              refine pv aF 2 44 (tr [1, 1, 1, 35]) ?_
              refine tk 1 (some 43) (tf 3 35) (take_ofW aF.out dS.out (by kernel_rfl)) aG ?_
              refine pv aF 3 45 (tf 4 34) ?_
              refine tk 4 (some 46) (tf 5 33) (take_ofW aF.out dS.out (by kernel_rfl)) aG ?_
              refine one_ (i := 5) (N := some 47) (tf 6 32) rfl rfl (one_of aF.out (by kernel_rfl)) (by decide) (fun K hK => ?_)
              refine goes_ Tryz.func56 (by kernel_rfl) rfl #[.agg #[.int .i64 ((rd_T48 aB aD).f0), .int .i64 ((rd_T48 aB aD).f1), .string ((rd_T48 aB aD).f2), .string ((rd_T48 aB aD).f3), .int .i64 ((rd_T48 aB aD).f4), .int .i64 ((rd_T48 aB aD).f5), .int .i64 ((rd_T48 aB aD).f6), .int .i64 ((rd_T48 aB aD).f7), .int .i64 ((rd_T48 aB aD).f8), .int .i64 ((rd_T48 aB aD).f9.f0), .slice cO ((rd_T48 aB aD).f9.f1).length cP]] (by rfl) rfl rfl MT ?_
              with_reducible refine (spec_SaOk.calls k2 ((rd_T48 aB aD).f0) ((rd_T48 aB aD).f1) ((rd_T48 aB aD).f2) ((rd_T48 aB aD).f3) ((rd_T48 aB aD).f4) ((rd_T48 aB aD).f5) ((rd_T48 aB aD).f6) ((rd_T48 aB aD).f7) ((rd_T48 aB aD).f8) ((rd_T48 aB aD).f9.f0) _ _ ((rd_T48 aB aD).f9.f1) true _ ?_ ?_ nP.out).mono ?_
              exact KD cH HB
              exact dT.out
              rintro e qJ ⟨rfl, hb⟩
              refine ⟨_, rfl, ?_⟩
              replace aA := am (BB aA hb)
              replace HB := bl (K1 HB aK.out) hb
              (try clear hb)
              (try clear hb2)
              (try clear hk)
              (try clear hi)
              refine hK.out _ _ ⟨z0 _ aA.out, z1 _ aA.out, z2 _ aA.out, z3 _ aA.out, z4 _ aA.out, z5 _ aA.out, (CY HB.out cZ), (CY HB.out cY), (CY HB.out cX), (CY HB.out cW), (CY HB.out cV), (CY HB.out cU), (CY HB.out cT), (CY HB.out cS), (CY HB.out cR), (CY HB.out cQ), (CY HB.out cG), (CY HB.out eE), (CY HB.out eD), (CY HB.out eC), (CY HB.out eB), (CY HB.out eA), (CY HB.out dZ), (CY HB.out dY), (CY HB.out dX), (CY HB.out dW), (CY HB.out dV), (CY HB.out dO), (CY HB.out kI), (CY HB.out kH), (CY HB.out kG), (CY HB.out kF), (CY HB.out kE), (CY HB.out kD), (CY HB.out kC), (CY HB.out kB), (CY HB.out kA), (CY HB.out jZ), (CY HB.out hN), (CY HB.out kS), (CY HB.out kR), (CY HB.out kQ), (CY HB.out kP), (CY HB.out kO), (CY HB.out kN), (CY HB.out kM), (CY HB.out kL), (CY HB.out kK), (CY HB.out kJ), (CY HB.out hQ)⟩ (fun aG => ?_)
              clear hK K
              refine nm (some 47) ?_
              refine pv aF 6 48 (tf 7 31) ?_
              refine pv aF 7 49 (tf 8 30) ?_
              refine pv aF 8 50 (tf 9 29) ?_
              refine pv aF 10 52 (tr [9, 1, 1, 27]) ?_
              refine pv aF 14 56 (tr [9, 1, 1, 3, 1, 23]) ?_
              refine tk 9 (some 51) (tr [11, 3, 1, 23]) (take_ofW aF.out dS.out (by kernel_rfl)) aG ?_
              refine pv aF 11 53 (tr [12, 2, 1, 23]) ?_
              refine pv aF 12 54 (tr [13, 1, 1, 23]) ?_
              refine tk 13 (some 55) (tf 15 23) (take_ofW aF.out dS.out (by kernel_rfl)) aG ?_
              refine tk 15 (some 57) (tf 16 22) (take_ofW aF.out dS.out (by kernel_rfl)) aG ?_
              refine pv aF 16 58 (tf 17 21) ?_
              refine pv aF 17 59 (tf 18 20) ?_
              refine pv aF 18 60 (tf 19 19) ?_
              refine pv aF 19 61 (tf 20 18) ?_
              refine pv aF 20 62 (tf 21 17) ?_
              refine pv aF 21 63 (tf 22 16) ?_
              refine pv aF 22 64 (tf 23 15) ?_
              refine pv aF 24 66 (tr [23, 1, 1, 13]) ?_
              refine pv aF 25 67 (tr [23, 1, 2, 12]) ?_
              refine pv aF 29 71 (tr [23, 1, 2, 3, 1, 8]) ?_
              refine pv aF 31 73 (tr [23, 1, 2, 3, 1, 1, 1, 6]) ?_
              refine tk 23 (some 65) (tr [26, 3, 1, 1, 1, 6]) (take_ofW aF.out dS.out (by kernel_rfl)) aG ?_
              refine pv aF 26 68 (tr [27, 2, 1, 1, 1, 6]) ?_
              refine pv aF 27 69 (tr [28, 1, 1, 1, 1, 6]) ?_
              refine tk 28 (some 70) (tr [30, 1, 1, 6]) (take_ofW aF.out dS.out (by kernel_rfl)) aG ?_
              refine tk 30 (some 72) (tf 32 6) (take_ofW aF.out dS.out (by kernel_rfl)) aG ?_
              refine pv aF 32 74 (tf 33 5) ?_
              refine pv aF 33 75 (tf 34 4) ?_
              refine tk 34 (some 76) (tf 35 3) (take_ofW aF.out dS.out (by kernel_rfl)) aG ?_
              refine pv aF 35 77 (tf 36 2) ?_
              refine pv aF 36 78 (tf 37 1) ?_
              refine pv aF 37 79 (tf 38 0) ?_
              refine done_ (done_of aF.out (by kernel_rfl)) ?_
              try go_wp2
              go_meet
              case rel => exact ⟨_, (decide (((rd_T48 aB (ji31)).f1) ≥ ((rd_T48 aB aD).f1))), (by first | rfl | (simp; done) | (simp only [← hji31] <;> (first | rfl | simp)) | (simp [*]; done)), H', ⟨by have := HJ1.out; have := HK2.out; first | omega | exact Nat.le_refl _⟩, ⟨KB aA⟩, ⟨K1 HB aK.out⟩⟩
             ·rw [if_neg oN] at H
              exact absurd H (by simp)
            ·rw [if_neg oM] at H
             exact absurd H (by simp)
           ·rw [if_neg nG] at H
            have c30b0 : decide (0 < aD) = false := decide_eq_false nG
            clear nG
            have H' := Aside0.mk H
            clear H
            try go_wp2
            replace aA := am (blk_drew aA.out)
            replace HB := am (below_drew1 HB.out)
            have eQ : 0 ≤ (aD : Int) := OD
            have eR : aD < (aB.length : Int) := OD
            obtain ⟨cM, cO, cP, hZ, aM, aN, aO, aP, aQ, aR, aS, aT, aU, aV, aH, cE, cF⟩ := at_T48 fI.out aD eQ eR
            have cG := aH
            have cQ := aV
            have cR := aU
            have cS := aT
            have cT := aS
            have cU := aR
            have cV := aQ
            have cW := aP
            have cX := aO
            have cY := aN
            have cZ := aM
            cases hZ
            replace aM := CX HB.out aM
            replace aN := CX HB.out aN
            replace aO := CX HB.out aO
            replace aP := CX HB.out aP
            replace aQ := CX HB.out aQ
            replace aR := CX HB.out aR
            replace aS := CX HB.out aS
            replace aT := CX HB.out aT
            replace aU := CX HB.out aU
            replace aV := CX HB.out aV
            replace aH := CX HB.out aH
            have cH := Aside0.mk cF
            have dT := Aside0.mk cE
            clear cF cE
            replace eQ := eq_true eQ
            replace eR := eq_true eR
            have fM : 0 ≤ (aD : Int) := OD
            have fN : aD < (aB.length : Int) := OD
            obtain ⟨hI, eW, eX, lS, bK, bL, bM, bN, bO, bP, bQ, bR, bS, bT, aW, dM, dN⟩ := at_T48 fI.out aD fM fN
            have dO := aW
            have dV := bT
            have dW := bS
            have dX := bR
            have dY := bQ
            have dZ := bP
            have eA := bO
            have eB := bN
            have eC := bM
            have eD := bL
            have eE := bK
            obtain rfl : cM = hI := (by injection lS)
            replace bK := CX HB.out bK
            replace bL := CX HB.out bL
            replace bM := CX HB.out bM
            replace bN := CX HB.out bN
            replace bO := CX HB.out bO
            replace bP := CX HB.out bP
            replace bQ := CX HB.out bQ
            replace bR := CX HB.out bR
            replace bS := CX HB.out bS
            replace bT := CX HB.out bT
            replace aW := CX HB.out aW
            have eS := Aside0.mk dN
            have hJ := Aside0.mk dM
            clear dN dM
            replace fM := eq_true fM
            replace fN := eq_true fN
            refine start_ (n := 38) (S := fun w' => ce6 w' eP (.int .i64 aI) (.slice fA aX.length fB) (.int .i64 aL) (.slice fC aY.length fD) (.slice (some cM) aB.length fE) (.slice fP aC.length fF) (eleG w' (cM.add ((aD).toNat * 11)) (rd_T48 aB aD) (.slice cO ((rd_T48 aB aD).f9.f1).length cP) (eleH w' (cM.add ((aD).toNat * 11)) (rd_T48 aB aD) (.slice eW ((rd_T48 aB aD).f9.f1).length eX)))) (ds := []) (tf 0 38) (by kernel_rfl) rfl rfl ⟨z0 _ aA.out, z1 _ aA.out, z2 _ aA.out, z3 _ aA.out, z4 _ aA.out, z5 _ aA.out, (CY HB.out cZ), (CY HB.out cY), (CY HB.out cX), (CY HB.out cW), (CY HB.out cV), (CY HB.out cU), (CY HB.out cT), (CY HB.out cS), (CY HB.out cR), (CY HB.out cQ), (CY HB.out cG), (CY HB.out eE), (CY HB.out eD), (CY HB.out eC), (CY HB.out eB), (CY HB.out eA), (CY HB.out dZ), (CY HB.out dY), (CY HB.out dX), (CY HB.out dW), (CY HB.out dV), (CY HB.out dO)⟩ (fun aG => ?_); refine with_tabW spec_GateOk.tab6 spec_GateOk.bits6 (fun aF dS => ?_)
            generalize wr.drew = qK at aA HB cH eS aM aN aH aO aP aQ aR aS aT aU aV bK bL aW bM bN bO bP bQ bR bS bT aG ⊢
            refine pv aF 0 42 (tf 1 37) ?_
            refine pv aF 2 44 (tr [1, 1, 1, 35]) ?_
            refine tk 1 (some 43) (tf 3 35) (take_ofW aF.out dS.out (by kernel_rfl)) aG ?_
            refine pv aF 3 45 (tf 4 34) ?_
            refine tk 4 (some 46) (tf 5 33) (take_ofW aF.out dS.out (by kernel_rfl)) aG ?_
            refine one_ (i := 5) (N := some 47) (tf 6 32) rfl rfl (one_of aF.out (by kernel_rfl)) (by decide) (fun K hK => ?_)
            refine goes_ Tryz.func56 (by kernel_rfl) rfl #[.agg #[.int .i64 ((rd_T48 aB aD).f0), .int .i64 ((rd_T48 aB aD).f1), .string ((rd_T48 aB aD).f2), .string ((rd_T48 aB aD).f3), .int .i64 ((rd_T48 aB aD).f4), .int .i64 ((rd_T48 aB aD).f5), .int .i64 ((rd_T48 aB aD).f6), .int .i64 ((rd_T48 aB aD).f7), .int .i64 ((rd_T48 aB aD).f8), .int .i64 ((rd_T48 aB aD).f9.f0), .slice cO ((rd_T48 aB aD).f9.f1).length cP]] (by rfl) rfl rfl MT ?_
            with_reducible refine (spec_SaOk.calls k2 ((rd_T48 aB aD).f0) ((rd_T48 aB aD).f1) ((rd_T48 aB aD).f2) ((rd_T48 aB aD).f3) ((rd_T48 aB aD).f4) ((rd_T48 aB aD).f5) ((rd_T48 aB aD).f6) ((rd_T48 aB aD).f7) ((rd_T48 aB aD).f8) ((rd_T48 aB aD).f9.f0) _ _ ((rd_T48 aB aD).f9.f1) true _ ?_ ?_ nP.out).mono ?_
            exact KD cH HB
            exact dT.out
            rintro e qL ⟨rfl, hb⟩
            refine ⟨_, rfl, ?_⟩
            replace aA := am (BB aA hb)
            replace HB := bl (K1 HB aK.out) hb
            (try clear hb)
            (try clear hb2)
            (try clear hk)
            (try clear hi)
            refine hK.out _ _ ⟨z0 _ aA.out, z1 _ aA.out, z2 _ aA.out, z3 _ aA.out, z4 _ aA.out, z5 _ aA.out, (CY HB.out cZ), (CY HB.out cY), (CY HB.out cX), (CY HB.out cW), (CY HB.out cV), (CY HB.out cU), (CY HB.out cT), (CY HB.out cS), (CY HB.out cR), (CY HB.out cQ), (CY HB.out cG), (CY HB.out eE), (CY HB.out eD), (CY HB.out eC), (CY HB.out eB), (CY HB.out eA), (CY HB.out dZ), (CY HB.out dY), (CY HB.out dX), (CY HB.out dW), (CY HB.out dV), (CY HB.out dO)⟩ (fun aG => ?_)
            clear hK K
            refine nm (some 47) ?_
            refine pv aF 6 48 (tf 7 31) ?_
            refine pv aF 7 49 (tf 8 30) ?_
            refine pv aF 8 50 (tf 9 29) ?_
            refine pv aF 10 52 (tr [9, 1, 1, 27]) ?_
            refine pv aF 14 56 (tr [9, 1, 1, 3, 1, 23]) ?_
            refine tk 9 (some 51) (tr [11, 3, 1, 23]) (take_ofW aF.out dS.out (by kernel_rfl)) aG ?_
            refine pv aF 11 53 (tr [12, 2, 1, 23]) ?_
            refine pv aF 12 54 (tr [13, 1, 1, 23]) ?_
            refine tk 13 (some 55) (tf 15 23) (take_ofW aF.out dS.out (by kernel_rfl)) aG ?_
            refine tk 15 (some 57) (tf 16 22) (take_ofW aF.out dS.out (by kernel_rfl)) aG ?_
            refine pv aF 16 58 (tf 17 21) ?_
            refine pv aF 17 59 (tf 18 20) ?_
            refine pv aF 18 60 (tf 19 19) ?_
            refine pv aF 19 61 (tf 20 18) ?_
            refine pv aF 20 62 (tf 21 17) ?_
            refine pv aF 21 63 (tf 22 16) ?_
            refine pw aF 22 64 (tf 23 15) ?_
            refine pw aF 23 65 (tf 24 14) ?_
            refine pw aF 24 66 (tf 25 13) ?_
            refine pw aF 25 67 (tf 26 12) ?_
            refine pw aF 26 68 (tf 27 11) ?_
            refine pw aF 27 69 (tf 28 10) ?_
            refine pw aF 28 70 (tf 29 9) ?_
            refine pw aF 29 71 (tf 30 8) ?_
            refine pw aF 30 72 (tf 31 7) ?_
            refine pw aF 31 73 (tf 32 6) ?_
            refine pw aF 32 74 (tf 33 5) ?_
            refine pw aF 33 75 (tf 34 4) ?_
            refine pw aF 34 76 (tf 35 3) ?_
            refine pw aF 35 77 (tf 36 2) ?_
            refine pv aF 36 78 (tf 37 1) ?_
            refine pv aF 37 79 (tf 38 0) ?_
            refine done_ (done_of aF.out (by kernel_rfl)) ?_
            try go_wp2
            go_meet
            case rel => exact ⟨_, (false), (by first | rfl | (simp; done) | (simp [*]; done)), H', ⟨by have := HJ1.out; have := HK2.out; first | omega | exact Nat.le_refl _⟩, ⟨KB aA⟩, ⟨K1 HB aK.out⟩⟩
         ·replace nE := Bool.eq_false_iff.mpr nE
          subst nE
          have H1 := nf H
          clear H
          have H := H1
          clear H1
          have H' := Aside0.mk H
          clear H
          try go_wp2
          replace aA := am (blk_drew aA.out)
          replace HB := am (below_drew1 HB.out)
          have eQ : 0 ≤ (aD : Int) := OD
          have eR : aD < (aB.length : Int) := OD
          obtain ⟨cM, cO, cP, hZ, aM, aN, aO, aP, aQ, aR, aS, aT, aU, aV, aH, cE, cF⟩ := at_T48 fI.out aD eQ eR
          have cG := aH
          have cQ := aV
          have cR := aU
          have cS := aT
          have cT := aS
          have cU := aR
          have cV := aQ
          have cW := aP
          have cX := aO
          have cY := aN
          have cZ := aM
          cases hZ
          replace aM := CX HB.out aM
          replace aN := CX HB.out aN
          replace aO := CX HB.out aO
          replace aP := CX HB.out aP
          replace aQ := CX HB.out aQ
          replace aR := CX HB.out aR
          replace aS := CX HB.out aS
          replace aT := CX HB.out aT
          replace aU := CX HB.out aU
          replace aV := CX HB.out aV
          replace aH := CX HB.out aH
          have cH := Aside0.mk cF
          have dT := Aside0.mk cE
          clear cF cE
          replace eQ := eq_true eQ
          replace eR := eq_true eR
          refine start_ (n := 38) (S := fun w' => ce6 w' eP (.int .i64 aI) (.slice fA aX.length fB) (.int .i64 aL) (.slice fC aY.length fD) (.slice (some cM) aB.length fE) (.slice fP aC.length fF) (eleH w' (cM.add ((aD).toNat * 11)) (rd_T48 aB aD) (.slice cO ((rd_T48 aB aD).f9.f1).length cP))) (ds := []) (tf 0 38) (by kernel_rfl) rfl rfl ⟨z0 _ aA.out, z1 _ aA.out, z2 _ aA.out, z3 _ aA.out, z4 _ aA.out, z5 _ aA.out, (CY HB.out cZ), (CY HB.out cY), (CY HB.out cX), (CY HB.out cW), (CY HB.out cV), (CY HB.out cU), (CY HB.out cT), (CY HB.out cS), (CY HB.out cR), (CY HB.out cQ), (CY HB.out cG)⟩ (fun aG => ?_); refine with_tabW spec_GateOk.tab6 spec_GateOk.bits6 (fun aF dS => ?_)
          generalize wr.drew = qM at aA HB cH aM aN aH aO aP aQ aR aS aT aU aV aG ⊢
          refine pv aF 0 42 (tf 1 37) ?_
          refine pv aF 2 44 (tr [1, 1, 1, 35]) ?_
          refine tk 1 (some 43) (tf 3 35) (take_ofW aF.out dS.out (by kernel_rfl)) aG ?_
          refine pv aF 3 45 (tf 4 34) ?_
          refine tk 4 (some 46) (tf 5 33) (take_ofW aF.out dS.out (by kernel_rfl)) aG ?_
          refine one_ (i := 5) (N := some 47) (tf 6 32) rfl rfl (one_of aF.out (by kernel_rfl)) (by decide) (fun K hK => ?_)
          refine goes_ Tryz.func56 (by kernel_rfl) rfl #[.agg #[.int .i64 ((rd_T48 aB aD).f0), .int .i64 ((rd_T48 aB aD).f1), .string ((rd_T48 aB aD).f2), .string ((rd_T48 aB aD).f3), .int .i64 ((rd_T48 aB aD).f4), .int .i64 ((rd_T48 aB aD).f5), .int .i64 ((rd_T48 aB aD).f6), .int .i64 ((rd_T48 aB aD).f7), .int .i64 ((rd_T48 aB aD).f8), .int .i64 ((rd_T48 aB aD).f9.f0), .slice cO ((rd_T48 aB aD).f9.f1).length cP]] (by rfl) rfl rfl MT ?_
          with_reducible refine (spec_SaOk.calls k2 ((rd_T48 aB aD).f0) ((rd_T48 aB aD).f1) ((rd_T48 aB aD).f2) ((rd_T48 aB aD).f3) ((rd_T48 aB aD).f4) ((rd_T48 aB aD).f5) ((rd_T48 aB aD).f6) ((rd_T48 aB aD).f7) ((rd_T48 aB aD).f8) ((rd_T48 aB aD).f9.f0) _ _ ((rd_T48 aB aD).f9.f1) false _ ?_ ?_ nP.out).mono ?_
          exact KD cH HB
          exact dT.out
          rintro e qN ⟨rfl, hb⟩
          refine ⟨_, rfl, ?_⟩
          replace aA := am (BB aA hb)
          replace HB := bl (K1 HB aK.out) hb
          (try clear hb)
          (try clear hb2)
          (try clear hk)
          (try clear hi)
          refine hK.out _ _ ⟨z0 _ aA.out, z1 _ aA.out, z2 _ aA.out, z3 _ aA.out, z4 _ aA.out, z5 _ aA.out, (CY HB.out cZ), (CY HB.out cY), (CY HB.out cX), (CY HB.out cW), (CY HB.out cV), (CY HB.out cU), (CY HB.out cT), (CY HB.out cS), (CY HB.out cR), (CY HB.out cQ), (CY HB.out cG)⟩ (fun aG => ?_)
          clear hK K
          refine nm (some 47) ?_
          refine pv aF 6 48 (tf 7 31) ?_
          refine pv aF 7 49 (tf 8 30) ?_
          refine pw aF 8 50 (tf 9 29) ?_
          refine pw aF 9 51 (tf 10 28) ?_
          refine pw aF 10 52 (tf 11 27) ?_
          refine pw aF 11 53 (tf 12 26) ?_
          refine pw aF 12 54 (tf 13 25) ?_
          refine pw aF 13 55 (tf 14 24) ?_
          refine pw aF 14 56 (tf 15 23) ?_
          refine pw aF 15 57 (tf 16 22) ?_
          refine pw aF 16 58 (tf 17 21) ?_
          refine pv aF 17 59 (tf 18 20) ?_
          refine pv aF 18 60 (tf 19 19) ?_
          refine pw aF 19 61 (tf 20 18) ?_
          refine pw aF 20 62 (tf 21 17) ?_
          refine pw aF 21 63 (tf 22 16) ?_
          refine pw aF 22 64 (tf 23 15) ?_
          refine pw aF 23 65 (tf 24 14) ?_
          refine pw aF 24 66 (tf 25 13) ?_
          refine pw aF 25 67 (tf 26 12) ?_
          refine pw aF 26 68 (tf 27 11) ?_
          refine pw aF 27 69 (tf 28 10) ?_
          refine pw aF 28 70 (tf 29 9) ?_
          refine pw aF 29 71 (tf 30 8) ?_
          refine pw aF 30 72 (tf 31 7) ?_
          refine pw aF 31 73 (tf 32 6) ?_
          refine pw aF 32 74 (tf 33 5) ?_
          refine pw aF 33 75 (tf 34 4) ?_
          refine pw aF 34 76 (tf 35 3) ?_
          refine pw aF 35 77 (tf 36 2) ?_
          refine pw aF 36 78 (tf 37 1) ?_
          refine pv aF 37 79 (tf 38 0) ?_
          refine done_ (done_of aF.out (by kernel_rfl)) ?_
          try go_wp2
          go_meet
          case rel => exact ⟨_, (true), (by first | rfl | (simp; done) | (simp [*]; done)), H', ⟨by have := HJ1.out; have := HK2.out; first | omega | exact Nat.le_refl _⟩, ⟨KB aA⟩, ⟨K1 HB aK.out⟩⟩
        ·rw [if_neg nD] at H
         exact absurd H (by simp)
       case rest =>
        clear mT
        try clear c1
        try clear p1
        try clear q1
        try clear pV
        try clear c2
        try clear p2
        try clear c5
        try clear pW
        try clear pM
        try clear pN
        try clear nU
        try clear nD
        try clear nE
        try clear aM
        try clear aN
        try clear aH
        try clear aO
        try clear aP
        try clear aQ
        try clear aR
        try clear aS
        try clear aT
        try clear aU
        try clear aV
        try clear bK
        try clear bL
        try clear aW
        try clear bM
        try clear bN
        try clear bO
        try clear bP
        try clear bQ
        try clear bR
        try clear bS
        try clear bT
        try clear eQ
        try clear fM
        try clear eR
        try clear fN
        obtain ⟨kq, hH, rfl, HA, HJ21, aA, HB⟩ := hcut
        cases kq with
        | zero => exact absurd HA.out (by simp [spec_GateOk.j2])
        | succ kj21 =>
         have H := HA.out
         clear HA
         simp only [spec_GateOk.j2] at H
         by_cases nV : hH = true
         ·subst nV
          have H1 := pf H
          clear H
          have H := H1
          clear H1
          obtain rfl := sj H
          go_wp2
          go_ret
          exact ⟨ER, K1 HB aK.out⟩
         ·replace nV := Bool.eq_false_iff.mpr nV
          subst nV
          have H1 := nf H
          clear H
          have H := H1
          clear H1
          have H' := Aside0.mk H
          clear H
          go_wp2
          go_roundg kj21
          case measure => have := HJ1.out; have := HK2.out; have := HJ21.out; omega
          case rel => exact ⟨(wrap64 (aD + 1)), (by first | rfl | (simp; done) | (simp [*]; done)), H', ⟨by have := HJ1.out; have := HK2.out; have := HJ21.out; omega⟩, ⟨KB aA⟩, ⟨K1 HB aK.out⟩⟩
      ·rw [if_neg mS] at H
       have c21b0 : decide (aD < (aB.length : Int)) = false := decide_eq_false mS
       clear mS
       have H' := Aside0.mk H
       clear H
       obtain ⟨mB, mC, mD, mE, mF, mG, mH⟩ := y6 wr aA.out
       go_wp2
       go_loopg [4] k2 (fun kq v4 w' => ∃ (aE : Int), v4 = .int .i64 aE ∧ Aside0 (spec_GateOk.l1 kq aE aI aX aL aY aB aC = some r) ∧ Aside0 (kq ≤ k2) ∧ Aside0 (w'.heap[eP]? = some (.cells #[.int .i64 aI, (.slice fA aX.length fB), .int .i64 aL, (.slice fC aY.length fD), (.slice fO aB.length fE), (.slice fP aC.length fF)] 42 (0, 0))) ∧ Aside0 (Below w.heap.size w w'))
       case atStart => exact ⟨(0), (by first | rfl | (simp; done) | (simp [*]; done)), H', ⟨Nat.le_refl _⟩, ⟨KB aA⟩, ⟨K1 HB aK.out⟩⟩
       case round =>
        clear H'
        try clear c1
        try clear p1
        try clear q1
        try clear pV
        try clear c2
        try clear p2
        try clear c4
        try clear c5
        try clear p6
        try clear pW
        try clear pM
        try clear pN
        try clear nU
        try clear mS
        try clear c21b0
        try clear nD
        try clear nE
        try clear nV
        try clear mB mC mD mE mF mG mH
        try clear aM
        try clear aN
        try clear aH
        try clear aO
        try clear aP
        try clear aQ
        try clear aR
        try clear aS
        try clear aT
        try clear aU
        try clear aV
        try clear bK
        try clear bL
        try clear aW
        try clear bM
        try clear bN
        try clear bO
        try clear bP
        try clear bQ
        try clear bR
        try clear bS
        try clear bT
        try clear p1
        try clear pM
        try clear eQ
        try clear fM
        try clear p2
        try clear q1
        try clear pN
        try clear eR
        try clear fN
        obtain ⟨aE, rfl, HA, HK3, aA, HB⟩ := hrel
        cases gk with
        | zero => exact absurd HA.out (by simp [spec_GateOk.l1])
        | succ k3 =>
         have H := HA.out
         clear HA
         simp only [spec_GateOk.l1] at H
         by_cases nH : aE < (aC.length : Int)
         ·rw [if_pos nH] at H
          have c42b0 : decide (aE < (aC.length : Int)) = true := decide_eq_true nH
          clear nH
          have mY := Aside0.mk H
          clear H
          have ⟨_, _, _, _, _, _, _⟩ := y6 wr aA.out
          go_upto_region 11 with (fail)
          go_cut [124] (fun pO wc => ∃ (kq : Nat) (gM : Bool), pO = .bool gM ∧ Aside0 (spec_GateOk.j4 kq aE gM aI aX aL aY aB aC = some r) ∧ Aside0 (kq ≤ k3) ∧ Aside0 (wc.heap[eP]? = some (.cells #[.int .i64 aI, (.slice fA aX.length fB), .int .i64 aL, (.slice fC aY.length fD), (.slice fO aB.length fE), (.slice fP aC.length fF)] 42 (0, 0))) ∧ Aside0 (Below w.heap.size w wc))
          case first =>
           have H := mY.out
           clear mY
           by_cases nW : 0 ≤ aE
           ·rw [if_pos nW] at H
            have c45b0 : decide (0 ≤ aE) = true := decide_eq_true nW
            clear nW
            (first | rw [c45b0] | (simp only [i64_w, i32_w]; rw [c45b0]) | skip)
            replace H := bm H
            obtain ⟨nX, nY, H⟩ := H
            replace H : (if nX = true then (if ((rd_T48 aC aE).f4) > aI then (spec_GateOk.j4 k3 aE true aI aX aL aY aB aC) else (if aE > 0 then (if 0 ≤ (wrap64 (aE - 1)) then (if (wrap64 (aE - 1)) < (aC.length : Int) then (spec_GateOk.j4 k3 aE (decide (((rd_T48 aC (wrap64 (aE - 1))).f0) ≥ ((rd_T48 aC aE).f0))) aI aX aL aY aB aC) else (none)) else (none)) else (spec_GateOk.j4 k3 aE false aI aX aL aY aB aC))) else (spec_GateOk.j4 k3 aE true aI aX aL aY aB aC)) = some r := H
            have nZ := Aside0.mk nY
            clear nY
            by_cases oA : nX = true
            ·subst oA
             have H1 := pf H
             clear H
             have H := H1
             clear H1
             by_cases nI : ((rd_T48 aC aE).f4) > aI
             ·rw [if_pos nI] at H
              have c48b0 : decide (aI < ((rd_T48 aC aE).f4)) = true := decide_eq_true nI
              clear nI
              have H' := Aside0.mk H
              clear H
              try go_wp2
              replace aA := am (blk_drew aA.out)
              replace HB := am (below_drew1 HB.out)
              have fG : 0 ≤ (aE : Int) := OD
              have fH : aE < (aC.length : Int) := OD
              obtain ⟨cN, dA, dB, iA, aZ, bA, bB, bC, bD, bE, bF, bG, bH, bI, aJ, cI, cJ⟩ := at_T48 fJ.out aE fG fH
              have cK := aJ
              have dC := bI
              have dD := bH
              have dE := bG
              have dF := bF
              have dG := bE
              have dH := bD
              have dI := bC
              have dJ := bB
              have dK := bA
              have dL := aZ
              cases iA
              replace aZ := CX HB.out aZ
              replace bA := CX HB.out bA
              replace bB := CX HB.out bB
              replace bC := CX HB.out bC
              replace bD := CX HB.out bD
              replace bE := CX HB.out bE
              replace bF := CX HB.out bF
              replace bG := CX HB.out bG
              replace bH := CX HB.out bH
              replace bI := CX HB.out bI
              replace aJ := CX HB.out aJ
              have cL := Aside0.mk cJ
              have dU := Aside0.mk cI
              clear cJ cI
              replace fG := eq_true fG
              replace fH := eq_true fH
              have fQ : 0 ≤ (aE : Int) := OD
              have fR : aE < (aC.length : Int) := OD
              obtain ⟨hR, eY, eZ, lV, bU, bV, bW, bX, bY, bZ, cA, cB, cC, cD, bJ, dP, dQ⟩ := at_T48 fJ.out aE fQ fR
              have dR := bJ
              have eF := cD
              have eG := cC
              have eH := cB
              have eI := cA
              have eJ := bZ
              have eK := bY
              have eL := bX
              have eM := bW
              have eN := bV
              have eO := bU
              obtain rfl : cN = hR := (by injection lV)
              replace bU := CX HB.out bU
              replace bV := CX HB.out bV
              replace bW := CX HB.out bW
              replace bX := CX HB.out bX
              replace bY := CX HB.out bY
              replace bZ := CX HB.out bZ
              replace cA := CX HB.out cA
              replace cB := CX HB.out cB
              replace cC := CX HB.out cC
              replace cD := CX HB.out cD
              replace bJ := CX HB.out bJ
              have eU := Aside0.mk dQ
              have hS := Aside0.mk dP
              clear dQ dP
              replace fQ := eq_true fQ
              replace fR := eq_true fR
              refine start_ (n := 38) (S := fun w' => ce6 w' eP (.int .i64 aI) (.slice fA aX.length fB) (.int .i64 aL) (.slice fC aY.length fD) (.slice fO aB.length fE) (.slice (some cN) aC.length fF) (eleG w' (cN.add ((aE).toNat * 11)) (rd_T48 aC aE) (.slice dA ((rd_T48 aC aE).f9.f1).length dB) (eleH w' (cN.add ((aE).toNat * 11)) (rd_T48 aC aE) (.slice eY ((rd_T48 aC aE).f9.f1).length eZ)))) (ds := []) (tf 0 38) (by kernel_rfl) rfl rfl ⟨z0 _ aA.out, z1 _ aA.out, z2 _ aA.out, z3 _ aA.out, z4 _ aA.out, z5 _ aA.out, (CY HB.out dL), (CY HB.out dK), (CY HB.out dJ), (CY HB.out dI), (CY HB.out dH), (CY HB.out dG), (CY HB.out dF), (CY HB.out dE), (CY HB.out dD), (CY HB.out dC), (CY HB.out cK), (CY HB.out eO), (CY HB.out eN), (CY HB.out eM), (CY HB.out eL), (CY HB.out eK), (CY HB.out eJ), (CY HB.out eI), (CY HB.out eH), (CY HB.out eG), (CY HB.out eF), (CY HB.out dR)⟩ (fun aG => ?_); refine with_tabW spec_GateOk.tab11 spec_GateOk.bits11 (fun aF dS => ?_)
              generalize wr.drew = qO at aA HB cL eU aZ bA aJ bB bC bD bE bF bG bH bI bU bV bJ bW bX bY bZ cA cB cC cD aG ⊢
              refine pv aF 0 87 (tf 1 37) ?_
              refine pv aF 2 89 (tr [1, 1, 1, 35]) ?_
              refine tk 1 (some 88) (tf 3 35) (take_ofW aF.out dS.out (by kernel_rfl)) aG ?_
              refine pv aF 3 90 (tf 4 34) ?_
              refine tk 4 (some 91) (tf 5 33) (take_ofW aF.out dS.out (by kernel_rfl)) aG ?_
              refine one_ (i := 5) (N := some 92) (tf 6 32) rfl rfl (one_of aF.out (by kernel_rfl)) (by decide) (fun K hK => ?_)
              refine goes_ Tryz.func56 (by kernel_rfl) rfl #[.agg #[.int .i64 ((rd_T48 aC aE).f0), .int .i64 ((rd_T48 aC aE).f1), .string ((rd_T48 aC aE).f2), .string ((rd_T48 aC aE).f3), .int .i64 ((rd_T48 aC aE).f4), .int .i64 ((rd_T48 aC aE).f5), .int .i64 ((rd_T48 aC aE).f6), .int .i64 ((rd_T48 aC aE).f7), .int .i64 ((rd_T48 aC aE).f8), .int .i64 ((rd_T48 aC aE).f9.f0), .slice dA ((rd_T48 aC aE).f9.f1).length dB]] (by rfl) rfl rfl MT ?_
              with_reducible refine (spec_SaOk.calls k3 ((rd_T48 aC aE).f0) ((rd_T48 aC aE).f1) ((rd_T48 aC aE).f2) ((rd_T48 aC aE).f3) ((rd_T48 aC aE).f4) ((rd_T48 aC aE).f5) ((rd_T48 aC aE).f6) ((rd_T48 aC aE).f7) ((rd_T48 aC aE).f8) ((rd_T48 aC aE).f9.f0) _ _ ((rd_T48 aC aE).f9.f1) true _ ?_ ?_ nZ.out).mono ?_
              exact KD cL HB
              exact dU.out
              rintro e qP ⟨rfl, hb⟩
              refine ⟨_, rfl, ?_⟩
              replace aA := am (BB aA hb)
              replace HB := bl (K1 HB aK.out) hb
              (try clear hb)
              (try clear hb2)
              (try clear hk)
              (try clear hi)
              refine hK.out _ _ ⟨z0 _ aA.out, z1 _ aA.out, z2 _ aA.out, z3 _ aA.out, z4 _ aA.out, z5 _ aA.out, (CY HB.out dL), (CY HB.out dK), (CY HB.out dJ), (CY HB.out dI), (CY HB.out dH), (CY HB.out dG), (CY HB.out dF), (CY HB.out dE), (CY HB.out dD), (CY HB.out dC), (CY HB.out cK), (CY HB.out eO), (CY HB.out eN), (CY HB.out eM), (CY HB.out eL), (CY HB.out eK), (CY HB.out eJ), (CY HB.out eI), (CY HB.out eH), (CY HB.out eG), (CY HB.out eF), (CY HB.out dR)⟩ (fun aG => ?_)
              clear hK K
              refine nm (some 92) ?_
              refine pv aF 6 93 (tf 7 31) ?_
              refine pv aF 7 94 (tf 8 30) ?_
              refine pv aF 8 95 (tf 9 29) ?_
              refine pv aF 10 97 (tr [9, 1, 1, 27]) ?_
              refine pv aF 14 101 (tr [9, 1, 1, 3, 1, 23]) ?_
              refine tk 9 (some 96) (tr [11, 3, 1, 23]) (take_ofW aF.out dS.out (by kernel_rfl)) aG ?_
              refine pv aF 11 98 (tr [12, 2, 1, 23]) ?_
              refine pv aF 12 99 (tr [13, 1, 1, 23]) ?_
              refine tk 13 (some 100) (tf 15 23) (take_ofW aF.out dS.out (by kernel_rfl)) aG ?_
              refine tk 15 (some 102) (tf 16 22) (take_ofW aF.out dS.out (by kernel_rfl)) aG ?_
              refine pv aF 16 103 (tf 17 21) ?_
              refine pv aF 17 104 (tf 18 20) ?_
              refine pv aF 18 105 (tf 19 19) ?_
              refine pw aF 19 106 (tf 20 18) ?_
              refine pw aF 20 107 (tf 21 17) ?_
              refine pw aF 21 108 (tf 22 16) ?_
              refine pw aF 22 109 (tf 23 15) ?_
              refine pw aF 23 110 (tf 24 14) ?_
              refine pw aF 24 111 (tf 25 13) ?_
              refine pw aF 25 112 (tf 26 12) ?_
              refine pw aF 26 113 (tf 27 11) ?_
              refine pw aF 27 114 (tf 28 10) ?_
              refine pw aF 28 115 (tf 29 9) ?_
              refine pw aF 29 116 (tf 30 8) ?_
              refine pw aF 30 117 (tf 31 7) ?_
              refine pw aF 31 118 (tf 32 6) ?_
              refine pw aF 32 119 (tf 33 5) ?_
              refine pw aF 33 120 (tf 34 4) ?_
              refine pw aF 34 121 (tf 35 3) ?_
              refine pw aF 35 122 (tf 36 2) ?_
              refine pw aF 36 123 (tf 37 1) ?_
              refine pv aF 37 124 (tf 38 0) ?_
              refine done_ (done_of aF.out (by kernel_rfl)) ?_
              try go_wp2
              go_meet
              case rel => exact ⟨_, (true), (by first | rfl | (simp; done) | (simp [*]; done)), H', ⟨by have := HJ1.out; have := HK2.out; have := HK3.out; first | omega | exact Nat.le_refl _⟩, ⟨KB aA⟩, ⟨K1 HB aK.out⟩⟩
             ·rw [if_neg nI] at H
              have c48b0 : decide (aI < ((rd_T48 aC aE).f4)) = false := decide_eq_false nI
              clear nI
              by_cases nJ : aE > 0
              ·rw [if_pos nJ] at H
               have c51b0 : decide (0 < aE) = true := decide_eq_true nJ
               clear nJ
               obtain ⟨ji52, hji52⟩ : ∃ j_ : Int, (wrap64 (aE - 1)) = j_ := ⟨_, rfl⟩
               replace H : (if 0 ≤ (ji52) then (if (ji52) < (aC.length : Int) then (spec_GateOk.j4 k3 aE (decide (((rd_T48 aC (ji52)).f0) ≥ ((rd_T48 aC aE).f0))) aI aX aL aY aB aC) else (none)) else (none)) = some r := by first | (rw [hji52] at H; exact H) | (simp only [hji52] at H ⊢; exact H)
               (try rw [hji52] at nZ)
               have hji52w : (IntKind.i64.wrap (aE - 1)) = ji52 := (i64_w _).trans hji52
               by_cases oX : 0 ≤ (ji52)
               ·rw [if_pos oX] at H
                have c53b0 : decide (0 ≤ (ji52)) = true := decide_eq_true oX
                clear oX
                by_cases oY : (ji52) < (aC.length : Int)
                ·rw [if_pos oY] at H
                 have c54b0 : decide ((ji52) < (aC.length : Int)) = true := decide_eq_true oY
                 clear oY
                 have H' := Aside0.mk H
                 clear H
                 try go_wp2
                 replace aA := am (blk_drew aA.out)
                 replace HB := am (below_drew1 HB.out)
                 have fG : 0 ≤ (aE : Int) := OD
                 have fH : aE < (aC.length : Int) := OD
                 obtain ⟨cN, dA, dB, iA, aZ, bA, bB, bC, bD, bE, bF, bG, bH, bI, aJ, cI, cJ⟩ := at_T48 fJ.out aE fG fH
                 have cK := aJ
                 have dC := bI
                 have dD := bH
                 have dE := bG
                 have dF := bF
                 have dG := bE
                 have dH := bD
                 have dI := bC
                 have dJ := bB
                 have dK := bA
                 have dL := aZ
                 cases iA
                 replace aZ := CX HB.out aZ
                 replace bA := CX HB.out bA
                 replace bB := CX HB.out bB
                 replace bC := CX HB.out bC
                 replace bD := CX HB.out bD
                 replace bE := CX HB.out bE
                 replace bF := CX HB.out bF
                 replace bG := CX HB.out bG
                 replace bH := CX HB.out bH
                 replace bI := CX HB.out bI
                 replace aJ := CX HB.out aJ
                 have cL := Aside0.mk cJ
                 have dU := Aside0.mk cI
                 clear cJ cI
                 replace fG := eq_true fG
                 replace fH := eq_true fH
                 have fQ : 0 ≤ (aE : Int) := OD
                 have fR : aE < (aC.length : Int) := OD
                 obtain ⟨hR, eY, eZ, lV, bU, bV, bW, bX, bY, bZ, cA, cB, cC, cD, bJ, dP, dQ⟩ := at_T48 fJ.out aE fQ fR
                 have dR := bJ
                 have eF := cD
                 have eG := cC
                 have eH := cB
                 have eI := cA
                 have eJ := bZ
                 have eK := bY
                 have eL := bX
                 have eM := bW
                 have eN := bV
                 have eO := bU
                 obtain rfl : cN = hR := (by injection lV)
                 replace bU := CX HB.out bU
                 replace bV := CX HB.out bV
                 replace bW := CX HB.out bW
                 replace bX := CX HB.out bX
                 replace bY := CX HB.out bY
                 replace bZ := CX HB.out bZ
                 replace cA := CX HB.out cA
                 replace cB := CX HB.out cB
                 replace cC := CX HB.out cC
                 replace cD := CX HB.out cD
                 replace bJ := CX HB.out bJ
                 have eU := Aside0.mk dQ
                 have hS := Aside0.mk dP
                 clear dQ dP
                 replace fQ := eq_true fQ
                 replace fR := eq_true fR
                 have mZ : 0 ≤ ((ji52) : Int) := OD
                 have nA : (ji52) < (aC.length : Int) := OD
                 obtain ⟨oB, mI, mJ, pP, gN, gO, gP, gQ, gR, gS, gT, gU, gV, gW, fL, hT, hU⟩ := at_T48 fJ.out (ji52) mZ nA
                 have hV := fL
                 have kT := gW
                 have kU := gV
                 have kV := gU
                 have kW := gT
                 have kX := gS
                 have kY := gR
                 have kZ := gQ
                 have lA := gP
                 have lB := gO
                 have lC := gN
                 obtain rfl : cN = oB := (by injection pP)
                 replace gN := CX HB.out gN
                 replace gO := CX HB.out gO
                 replace gP := CX HB.out gP
                 replace gQ := CX HB.out gQ
                 replace gR := CX HB.out gR
                 replace gS := CX HB.out gS
                 replace gT := CX HB.out gT
                 replace gU := CX HB.out gU
                 replace gV := CX HB.out gV
                 replace gW := CX HB.out gW
                 replace fL := CX HB.out fL
                 have lW := Aside0.mk hU
                 have oC := Aside0.mk hT
                 clear hU hT
                 replace mZ := eq_true mZ
                 replace nA := eq_true nA
                 have nB : 0 ≤ (aE : Int) := OD
                 have nC : aE < (aC.length : Int) := OD
                 obtain ⟨oD, _, _, pQ, gX, gY, gZ, hA, hB, hC, hD, hE, hF, hG, eV, hW, hX⟩ := at_T48 fJ.out aE nB nC
                 have hY := eV
                 have lD := hG
                 have lE := hF
                 have lF := hE
                 have lG := hD
                 have lH := hC
                 have lI := hB
                 have lJ := hA
                 have lK := gZ
                 have lL := gY
                 have lM := gX
                 obtain rfl : cN = oD := (by injection pQ)
                 replace gX := CX HB.out gX
                 replace gY := CX HB.out gY
                 replace gZ := CX HB.out gZ
                 replace hA := CX HB.out hA
                 replace hB := CX HB.out hB
                 replace hC := CX HB.out hC
                 replace hD := CX HB.out hD
                 replace hE := CX HB.out hE
                 replace hF := CX HB.out hF
                 replace hG := CX HB.out hG
                 replace eV := CX HB.out eV
                 have lX := Aside0.mk hX
                 have oE := Aside0.mk hW
                 clear hX hW
                 replace nB := eq_true nB
                 replace nC := eq_true nC
                 have ea_ := Option.some.inj (bJ.symm.trans eV)
                 injection ea_ with ea_ en_ ec_
                 subst ea_
                 subst ec_
                 clear en_
                 refine start_ (n := 38) (S := fun w' => ce6 w' eP (.int .i64 aI) (.slice fA aX.length fB) (.int .i64 aL) (.slice fC aY.length fD) (.slice fO aB.length fE) (.slice (some cN) aC.length fF) (eleG w' (cN.add ((aE).toNat * 11)) (rd_T48 aC aE) (.slice dA ((rd_T48 aC aE).f9.f1).length dB) (eleG w' (cN.add ((aE).toNat * 11)) (rd_T48 aC aE) (.slice eY ((rd_T48 aC aE).f9.f1).length eZ) (eleG w' (cN.add (((ji52)).toNat * 11)) (rd_T48 aC (ji52)) (.slice mI ((rd_T48 aC (ji52)).f9.f1).length mJ) (eleH w' (cN.add ((aE).toNat * 11)) (rd_T48 aC aE) (.slice eY ((rd_T48 aC aE).f9.f1).length eZ)))))) (ds := []) (tf 0 38) (by kernel_rfl) rfl rfl ⟨z0 _ aA.out, z1 _ aA.out, z2 _ aA.out, z3 _ aA.out, z4 _ aA.out, z5 _ aA.out, (CY HB.out dL), (CY HB.out dK), (CY HB.out dJ), (CY HB.out dI), (CY HB.out dH), (CY HB.out dG), (CY HB.out dF), (CY HB.out dE), (CY HB.out dD), (CY HB.out dC), (CY HB.out cK), (CY HB.out eO), (CY HB.out eN), (CY HB.out eM), (CY HB.out eL), (CY HB.out eK), (CY HB.out eJ), (CY HB.out eI), (CY HB.out eH), (CY HB.out eG), (CY HB.out eF), (CY HB.out dR), (CY HB.out lC), (CY HB.out lB), (CY HB.out lA), (CY HB.out kZ), (CY HB.out kY), (CY HB.out kX), (CY HB.out kW), (CY HB.out kV), (CY HB.out kU), (CY HB.out kT), (CY HB.out hV), (CY HB.out lM), (CY HB.out lL), (CY HB.out lK), (CY HB.out lJ), (CY HB.out lI), (CY HB.out lH), (CY HB.out lG), (CY HB.out lF), (CY HB.out lE), (CY HB.out lD), (CY HB.out hY)⟩ (fun aG => ?_); refine with_tabW spec_GateOk.tab11 spec_GateOk.bits11 (fun aF dS => ?_)
                 generalize wr.drew = qQ at aA HB cL eU lW lX aZ bA aJ bB bC bD bE bF bG bH bI bU bV bJ bW bX bY bZ cA cB cC cD gN gO fL gP gQ gR gS gT gU gV gW gX gY eV gZ hA hB hC hD hE hF hG aG ⊢
                 refine pv aF 0 87 (tf 1 37) ?_
                 refine pv aF 2 89 (tr [1, 1, 1, 35]) ?_
                 refine tk 1 (some 88) (tf 3 35) (take_ofW aF.out dS.out (by kernel_rfl)) aG ?_
                 refine pv aF 3 90 (tf 4 34) ?_
                 refine tk 4 (some 91) (tf 5 33) (take_ofW aF.out dS.out (by kernel_rfl)) aG ?_
                 refine one_ (i := 5) (N := some 92) (tf 6 32) rfl rfl (one_of aF.out (by kernel_rfl)) (by decide) (fun K hK => ?_)
                 refine goes_ Tryz.func56 (by kernel_rfl) rfl #[.agg #[.int .i64 ((rd_T48 aC aE).f0), .int .i64 ((rd_T48 aC aE).f1), .string ((rd_T48 aC aE).f2), .string ((rd_T48 aC aE).f3), .int .i64 ((rd_T48 aC aE).f4), .int .i64 ((rd_T48 aC aE).f5), .int .i64 ((rd_T48 aC aE).f6), .int .i64 ((rd_T48 aC aE).f7), .int .i64 ((rd_T48 aC aE).f8), .int .i64 ((rd_T48 aC aE).f9.f0), .slice dA ((rd_T48 aC aE).f9.f1).length dB]] (by rfl) rfl rfl MT ?_
                 with_reducible refine (spec_SaOk.calls k3 ((rd_T48 aC aE).f0) ((rd_T48 aC aE).f1) ((rd_T48 aC aE).f2) ((rd_T48 aC aE).f3) ((rd_T48 aC aE).f4) ((rd_T48 aC aE).f5) ((rd_T48 aC aE).f6) ((rd_T48 aC aE).f7) ((rd_T48 aC aE).f8) ((rd_T48 aC aE).f9.f0) _ _ ((rd_T48 aC aE).f9.f1) true _ ?_ ?_ nZ.out).mono ?_
                 exact KD cL HB
                 exact dU.out
                 rintro e qR ⟨rfl, hb⟩
                 refine ⟨_, rfl, ?_⟩
                 replace aA := am (BB aA hb)
                 replace HB := bl (K1 HB aK.out) hb
                 (try clear hb)
                 (try clear hb2)
                 (try clear hk)
                 (try clear hi)
                 refine hK.out _ _ ⟨z0 _ aA.out, z1 _ aA.out, z2 _ aA.out, z3 _ aA.out, z4 _ aA.out, z5 _ aA.out, (CY HB.out dL), (CY HB.out dK), (CY HB.out dJ), (CY HB.out dI), (CY HB.out dH), (CY HB.out dG), (CY HB.out dF), (CY HB.out dE), (CY HB.out dD), (CY HB.out dC), (CY HB.out cK), (CY HB.out eO), (CY HB.out eN), (CY HB.out eM), (CY HB.out eL), (CY HB.out eK), (CY HB.out eJ), (CY HB.out eI), (CY HB.out eH), (CY HB.out eG), (CY HB.out eF), (CY HB.out dR), (CY HB.out lC), (CY HB.out lB), (CY HB.out lA), (CY HB.out kZ), (CY HB.out kY), (CY HB.out kX), (CY HB.out kW), (CY HB.out kV), (CY HB.out kU), (CY HB.out kT), (CY HB.out hV), (CY HB.out lM), (CY HB.out lL), (CY HB.out lK), (CY HB.out lJ), (CY HB.out lI), (CY HB.out lH), (CY HB.out lG), (CY HB.out lF), (CY HB.out lE), (CY HB.out lD), (CY HB.out hY)⟩ (fun aG => ?_)
                 clear hK K
                 refine nm (some 92) ?_
                 refine pv aF 6 93 (tf 7 31) ?_
                 refine pv aF 7 94 (tf 8 30) ?_
                 refine pv aF 8 95 (tf 9 29) ?_
                 refine pv aF 10 97 (tr [9, 1, 1, 27]) ?_
                 refine pv aF 14 101 (tr [9, 1, 1, 3, 1, 23]) ?_
                 refine tk 9 (some 96) (tr [11, 3, 1, 23]) (take_ofW aF.out dS.out (by kernel_rfl)) aG ?_
                 refine pv aF 11 98 (tr [12, 2, 1, 23]) ?_
                 refine pv aF 12 99 (tr [13, 1, 1, 23]) ?_
                 refine tk 13 (some 100) (tf 15 23) (take_ofW aF.out dS.out (by kernel_rfl)) aG ?_
                 refine tk 15 (some 102) (tf 16 22) (take_ofW aF.out dS.out (by kernel_rfl)) aG ?_
                 refine pv aF 16 103 (tf 17 21) ?_
                 refine pv aF 17 104 (tf 18 20) ?_
                 refine pv aF 18 105 (tf 19 19) ?_
                 refine pv aF 19 106 (tf 20 18) ?_
                 refine pv aF 20 107 (tf 21 17) ?_
                 refine pv aF 21 108 (tf 22 16) ?_
                 refine pv aF 22 109 (tf 23 15) ?_
                 refine pv aF 24 111 (tr [23, 1, 1, 13]) ?_
                 refine pv aF 25 112 (tr [23, 1, 2, 12]) ?_
                 refine pv aF 29 116 (tr [23, 1, 2, 3, 1, 8]) ?_
                 refine pv aF 31 118 (tr [23, 1, 2, 3, 1, 1, 1, 6]) ?_
                 refine tk 23 (some 110) (tr [26, 3, 1, 1, 1, 6]) (take_ofW aF.out dS.out (by kernel_rfl)) aG ?_
                 refine pv aF 26 113 (tr [27, 2, 1, 1, 1, 6]) ?_
                 refine pv aF 27 114 (tr [28, 1, 1, 1, 1, 6]) ?_
                 refine tk 28 (some 115) (tr [30, 1, 1, 6]) (take_ofW aF.out dS.out (by kernel_rfl)) aG ?_
                 refine tk 30 (some 117) (tf 32 6) (take_ofW aF.out dS.out (by kernel_rfl)) aG ?_
                 refine pv aF 32 119 (tf 33 5) ?_
                 refine pv aF 33 120 (tf 34 4) ?_
                 refine tk 34 (some 121) (tf 35 3) (take_ofW aF.out dS.out (by kernel_rfl)) aG ?_
                 refine pv aF 35 122 (tf 36 2) ?_
                 refine pv aF 36 123 (tf 37 1) ?_
                 refine pv aF 37 124 (tf 38 0) ?_
                 refine done_ (done_of aF.out (by kernel_rfl)) ?_
                 try go_wp2
                 go_meet
                 case rel => exact ⟨_, (decide (((rd_T48 aC (ji52)).f0) ≥ ((rd_T48 aC aE).f0))), (by first | rfl | (simp; done) | (simp only [← hji52] <;> (first | rfl | simp)) | (simp [*]; done)), H', ⟨by have := HJ1.out; have := HK2.out; have := HK3.out; first | omega | exact Nat.le_refl _⟩, ⟨KB aA⟩, ⟨K1 HB aK.out⟩⟩
                ·rw [if_neg oY] at H
                 exact absurd H (by simp)
               ·rw [if_neg oX] at H
                exact absurd H (by simp)
              ·rw [if_neg nJ] at H
               have c51b0 : decide (0 < aE) = false := decide_eq_false nJ
               clear nJ
               have H' := Aside0.mk H
               clear H
               try go_wp2
               replace aA := am (blk_drew aA.out)
               replace HB := am (below_drew1 HB.out)
               have fG : 0 ≤ (aE : Int) := OD
               have fH : aE < (aC.length : Int) := OD
               obtain ⟨cN, dA, dB, iA, aZ, bA, bB, bC, bD, bE, bF, bG, bH, bI, aJ, cI, cJ⟩ := at_T48 fJ.out aE fG fH
               have cK := aJ
               have dC := bI
               have dD := bH
               have dE := bG
               have dF := bF
               have dG := bE
               have dH := bD
               have dI := bC
               have dJ := bB
               have dK := bA
               have dL := aZ
               cases iA
               replace aZ := CX HB.out aZ
               replace bA := CX HB.out bA
               replace bB := CX HB.out bB
               replace bC := CX HB.out bC
               replace bD := CX HB.out bD
               replace bE := CX HB.out bE
               replace bF := CX HB.out bF
               replace bG := CX HB.out bG
               replace bH := CX HB.out bH
               replace bI := CX HB.out bI
               replace aJ := CX HB.out aJ
               have cL := Aside0.mk cJ
               have dU := Aside0.mk cI
               clear cJ cI
               replace fG := eq_true fG
               replace fH := eq_true fH
               have fQ : 0 ≤ (aE : Int) := OD
               have fR : aE < (aC.length : Int) := OD
               obtain ⟨hR, eY, eZ, lV, bU, bV, bW, bX, bY, bZ, cA, cB, cC, cD, bJ, dP, dQ⟩ := at_T48 fJ.out aE fQ fR
               have dR := bJ
               have eF := cD
               have eG := cC
               have eH := cB
               have eI := cA
               have eJ := bZ
               have eK := bY
               have eL := bX
               have eM := bW
               have eN := bV
               have eO := bU
               obtain rfl : cN = hR := (by injection lV)
               replace bU := CX HB.out bU
               replace bV := CX HB.out bV
               replace bW := CX HB.out bW
               replace bX := CX HB.out bX
               replace bY := CX HB.out bY
               replace bZ := CX HB.out bZ
               replace cA := CX HB.out cA
               replace cB := CX HB.out cB
               replace cC := CX HB.out cC
               replace cD := CX HB.out cD
               replace bJ := CX HB.out bJ
               have eU := Aside0.mk dQ
               have hS := Aside0.mk dP
               clear dQ dP
               replace fQ := eq_true fQ
               replace fR := eq_true fR
               refine start_ (n := 38) (S := fun w' => ce6 w' eP (.int .i64 aI) (.slice fA aX.length fB) (.int .i64 aL) (.slice fC aY.length fD) (.slice fO aB.length fE) (.slice (some cN) aC.length fF) (eleG w' (cN.add ((aE).toNat * 11)) (rd_T48 aC aE) (.slice dA ((rd_T48 aC aE).f9.f1).length dB) (eleH w' (cN.add ((aE).toNat * 11)) (rd_T48 aC aE) (.slice eY ((rd_T48 aC aE).f9.f1).length eZ)))) (ds := []) (tf 0 38) (by kernel_rfl) rfl rfl ⟨z0 _ aA.out, z1 _ aA.out, z2 _ aA.out, z3 _ aA.out, z4 _ aA.out, z5 _ aA.out, (CY HB.out dL), (CY HB.out dK), (CY HB.out dJ), (CY HB.out dI), (CY HB.out dH), (CY HB.out dG), (CY HB.out dF), (CY HB.out dE), (CY HB.out dD), (CY HB.out dC), (CY HB.out cK), (CY HB.out eO), (CY HB.out eN), (CY HB.out eM), (CY HB.out eL), (CY HB.out eK), (CY HB.out eJ), (CY HB.out eI), (CY HB.out eH), (CY HB.out eG), (CY HB.out eF), (CY HB.out dR)⟩ (fun aG => ?_); refine with_tabW spec_GateOk.tab11 spec_GateOk.bits11 (fun aF dS => ?_)
               generalize wr.drew = qS at aA HB cL eU aZ bA aJ bB bC bD bE bF bG bH bI bU bV bJ bW bX bY bZ cA cB cC cD aG ⊢
               refine pv aF 0 87 (tf 1 37) ?_
               refine pv aF 2 89 (tr [1, 1, 1, 35]) ?_
               refine tk 1 (some 88) (tf 3 35) (take_ofW aF.out dS.out (by kernel_rfl)) aG ?_
               refine pv aF 3 90 (tf 4 34) ?_
               refine tk 4 (some 91) (tf 5 33) (take_ofW aF.out dS.out (by kernel_rfl)) aG ?_
               refine one_ (i := 5) (N := some 92) (tf 6 32) rfl rfl (one_of aF.out (by kernel_rfl)) (by decide) (fun K hK => ?_)
               refine goes_ Tryz.func56 (by kernel_rfl) rfl #[.agg #[.int .i64 ((rd_T48 aC aE).f0), .int .i64 ((rd_T48 aC aE).f1), .string ((rd_T48 aC aE).f2), .string ((rd_T48 aC aE).f3), .int .i64 ((rd_T48 aC aE).f4), .int .i64 ((rd_T48 aC aE).f5), .int .i64 ((rd_T48 aC aE).f6), .int .i64 ((rd_T48 aC aE).f7), .int .i64 ((rd_T48 aC aE).f8), .int .i64 ((rd_T48 aC aE).f9.f0), .slice dA ((rd_T48 aC aE).f9.f1).length dB]] (by rfl) rfl rfl MT ?_
               with_reducible refine (spec_SaOk.calls k3 ((rd_T48 aC aE).f0) ((rd_T48 aC aE).f1) ((rd_T48 aC aE).f2) ((rd_T48 aC aE).f3) ((rd_T48 aC aE).f4) ((rd_T48 aC aE).f5) ((rd_T48 aC aE).f6) ((rd_T48 aC aE).f7) ((rd_T48 aC aE).f8) ((rd_T48 aC aE).f9.f0) _ _ ((rd_T48 aC aE).f9.f1) true _ ?_ ?_ nZ.out).mono ?_
               exact KD cL HB
               exact dU.out
               rintro e qT ⟨rfl, hb⟩
               refine ⟨_, rfl, ?_⟩
               replace aA := am (BB aA hb)
               replace HB := bl (K1 HB aK.out) hb
               (try clear hb)
               (try clear hb2)
               (try clear hk)
               (try clear hi)
               refine hK.out _ _ ⟨z0 _ aA.out, z1 _ aA.out, z2 _ aA.out, z3 _ aA.out, z4 _ aA.out, z5 _ aA.out, (CY HB.out dL), (CY HB.out dK), (CY HB.out dJ), (CY HB.out dI), (CY HB.out dH), (CY HB.out dG), (CY HB.out dF), (CY HB.out dE), (CY HB.out dD), (CY HB.out dC), (CY HB.out cK), (CY HB.out eO), (CY HB.out eN), (CY HB.out eM), (CY HB.out eL), (CY HB.out eK), (CY HB.out eJ), (CY HB.out eI), (CY HB.out eH), (CY HB.out eG), (CY HB.out eF), (CY HB.out dR)⟩ (fun aG => ?_)
               clear hK K
               refine nm (some 92) ?_
               refine pv aF 6 93 (tf 7 31) ?_
               refine pv aF 7 94 (tf 8 30) ?_
               refine pv aF 8 95 (tf 9 29) ?_
               refine pv aF 10 97 (tr [9, 1, 1, 27]) ?_
               refine pv aF 14 101 (tr [9, 1, 1, 3, 1, 23]) ?_
               refine tk 9 (some 96) (tr [11, 3, 1, 23]) (take_ofW aF.out dS.out (by kernel_rfl)) aG ?_
               refine pv aF 11 98 (tr [12, 2, 1, 23]) ?_
               refine pv aF 12 99 (tr [13, 1, 1, 23]) ?_
               refine tk 13 (some 100) (tf 15 23) (take_ofW aF.out dS.out (by kernel_rfl)) aG ?_
               refine tk 15 (some 102) (tf 16 22) (take_ofW aF.out dS.out (by kernel_rfl)) aG ?_
               refine pv aF 16 103 (tf 17 21) ?_
               refine pv aF 17 104 (tf 18 20) ?_
               refine pv aF 18 105 (tf 19 19) ?_
               refine pv aF 19 106 (tf 20 18) ?_
               refine pv aF 20 107 (tf 21 17) ?_
               refine pv aF 21 108 (tf 22 16) ?_
               refine pw aF 22 109 (tf 23 15) ?_
               refine pw aF 23 110 (tf 24 14) ?_
               refine pw aF 24 111 (tf 25 13) ?_
               refine pw aF 25 112 (tf 26 12) ?_
               refine pw aF 26 113 (tf 27 11) ?_
               refine pw aF 27 114 (tf 28 10) ?_
               refine pw aF 28 115 (tf 29 9) ?_
               refine pw aF 29 116 (tf 30 8) ?_
               refine pw aF 30 117 (tf 31 7) ?_
               refine pw aF 31 118 (tf 32 6) ?_
               refine pw aF 32 119 (tf 33 5) ?_
               refine pw aF 33 120 (tf 34 4) ?_
               refine pw aF 34 121 (tf 35 3) ?_
               refine pw aF 35 122 (tf 36 2) ?_
               refine pv aF 36 123 (tf 37 1) ?_
               refine pv aF 37 124 (tf 38 0) ?_
               refine done_ (done_of aF.out (by kernel_rfl)) ?_
               try go_wp2
               go_meet
               case rel => exact ⟨_, (false), (by first | rfl | (simp; done) | (simp [*]; done)), H', ⟨by have := HJ1.out; have := HK2.out; have := HK3.out; first | omega | exact Nat.le_refl _⟩, ⟨KB aA⟩, ⟨K1 HB aK.out⟩⟩
            ·replace oA := Bool.eq_false_iff.mpr oA
             subst oA
             have H1 := nf H
             clear H
             have H := H1
             clear H1
             have H' := Aside0.mk H
             clear H
             try go_wp2
             replace aA := am (blk_drew aA.out)
             replace HB := am (below_drew1 HB.out)
             have fG : 0 ≤ (aE : Int) := OD
             have fH : aE < (aC.length : Int) := OD
             obtain ⟨cN, dA, dB, iA, aZ, bA, bB, bC, bD, bE, bF, bG, bH, bI, aJ, cI, cJ⟩ := at_T48 fJ.out aE fG fH
             have cK := aJ
             have dC := bI
             have dD := bH
             have dE := bG
             have dF := bF
             have dG := bE
             have dH := bD
             have dI := bC
             have dJ := bB
             have dK := bA
             have dL := aZ
             cases iA
             replace aZ := CX HB.out aZ
             replace bA := CX HB.out bA
             replace bB := CX HB.out bB
             replace bC := CX HB.out bC
             replace bD := CX HB.out bD
             replace bE := CX HB.out bE
             replace bF := CX HB.out bF
             replace bG := CX HB.out bG
             replace bH := CX HB.out bH
             replace bI := CX HB.out bI
             replace aJ := CX HB.out aJ
             have cL := Aside0.mk cJ
             have dU := Aside0.mk cI
             clear cJ cI
             replace fG := eq_true fG
             replace fH := eq_true fH
             refine start_ (n := 38) (S := fun w' => ce6 w' eP (.int .i64 aI) (.slice fA aX.length fB) (.int .i64 aL) (.slice fC aY.length fD) (.slice fO aB.length fE) (.slice (some cN) aC.length fF) (eleH w' (cN.add ((aE).toNat * 11)) (rd_T48 aC aE) (.slice dA ((rd_T48 aC aE).f9.f1).length dB))) (ds := []) (tf 0 38) (by kernel_rfl) rfl rfl ⟨z0 _ aA.out, z1 _ aA.out, z2 _ aA.out, z3 _ aA.out, z4 _ aA.out, z5 _ aA.out, (CY HB.out dL), (CY HB.out dK), (CY HB.out dJ), (CY HB.out dI), (CY HB.out dH), (CY HB.out dG), (CY HB.out dF), (CY HB.out dE), (CY HB.out dD), (CY HB.out dC), (CY HB.out cK)⟩ (fun aG => ?_); refine with_tabW spec_GateOk.tab11 spec_GateOk.bits11 (fun aF dS => ?_)
             generalize wr.drew = qU at aA HB cL aZ bA aJ bB bC bD bE bF bG bH bI aG ⊢
             refine pv aF 0 87 (tf 1 37) ?_
             refine pv aF 2 89 (tr [1, 1, 1, 35]) ?_
             refine tk 1 (some 88) (tf 3 35) (take_ofW aF.out dS.out (by kernel_rfl)) aG ?_
             refine pv aF 3 90 (tf 4 34) ?_
             refine tk 4 (some 91) (tf 5 33) (take_ofW aF.out dS.out (by kernel_rfl)) aG ?_
             refine one_ (i := 5) (N := some 92) (tf 6 32) rfl rfl (one_of aF.out (by kernel_rfl)) (by decide) (fun K hK => ?_)
             refine goes_ Tryz.func56 (by kernel_rfl) rfl #[.agg #[.int .i64 ((rd_T48 aC aE).f0), .int .i64 ((rd_T48 aC aE).f1), .string ((rd_T48 aC aE).f2), .string ((rd_T48 aC aE).f3), .int .i64 ((rd_T48 aC aE).f4), .int .i64 ((rd_T48 aC aE).f5), .int .i64 ((rd_T48 aC aE).f6), .int .i64 ((rd_T48 aC aE).f7), .int .i64 ((rd_T48 aC aE).f8), .int .i64 ((rd_T48 aC aE).f9.f0), .slice dA ((rd_T48 aC aE).f9.f1).length dB]] (by rfl) rfl rfl MT ?_
             with_reducible refine (spec_SaOk.calls k3 ((rd_T48 aC aE).f0) ((rd_T48 aC aE).f1) ((rd_T48 aC aE).f2) ((rd_T48 aC aE).f3) ((rd_T48 aC aE).f4) ((rd_T48 aC aE).f5) ((rd_T48 aC aE).f6) ((rd_T48 aC aE).f7) ((rd_T48 aC aE).f8) ((rd_T48 aC aE).f9.f0) _ _ ((rd_T48 aC aE).f9.f1) false _ ?_ ?_ nZ.out).mono ?_
             exact KD cL HB
             exact dU.out
             rintro e qV ⟨rfl, hb⟩
             refine ⟨_, rfl, ?_⟩
             replace aA := am (BB aA hb)
             replace HB := bl (K1 HB aK.out) hb
             (try clear hb)
             (try clear hb2)
             (try clear hk)
             (try clear hi)
             refine hK.out _ _ ⟨z0 _ aA.out, z1 _ aA.out, z2 _ aA.out, z3 _ aA.out, z4 _ aA.out, z5 _ aA.out, (CY HB.out dL), (CY HB.out dK), (CY HB.out dJ), (CY HB.out dI), (CY HB.out dH), (CY HB.out dG), (CY HB.out dF), (CY HB.out dE), (CY HB.out dD), (CY HB.out dC), (CY HB.out cK)⟩ (fun aG => ?_)
             clear hK K
             refine nm (some 92) ?_
             refine pv aF 6 93 (tf 7 31) ?_
             refine pv aF 7 94 (tf 8 30) ?_
             refine pw aF 8 95 (tf 9 29) ?_
             refine pw aF 9 96 (tf 10 28) ?_
             refine pw aF 10 97 (tf 11 27) ?_
             refine pw aF 11 98 (tf 12 26) ?_
             refine pw aF 12 99 (tf 13 25) ?_
             refine pw aF 13 100 (tf 14 24) ?_
             refine pw aF 14 101 (tf 15 23) ?_
             refine pw aF 15 102 (tf 16 22) ?_
             refine pw aF 16 103 (tf 17 21) ?_
             refine pv aF 17 104 (tf 18 20) ?_
             refine pv aF 18 105 (tf 19 19) ?_
             refine pw aF 19 106 (tf 20 18) ?_
             refine pw aF 20 107 (tf 21 17) ?_
             refine pw aF 21 108 (tf 22 16) ?_
             refine pw aF 22 109 (tf 23 15) ?_
             refine pw aF 23 110 (tf 24 14) ?_
             refine pw aF 24 111 (tf 25 13) ?_
             refine pw aF 25 112 (tf 26 12) ?_
             refine pw aF 26 113 (tf 27 11) ?_
             refine pw aF 27 114 (tf 28 10) ?_
             refine pw aF 28 115 (tf 29 9) ?_
             refine pw aF 29 116 (tf 30 8) ?_
             refine pw aF 30 117 (tf 31 7) ?_
             refine pw aF 31 118 (tf 32 6) ?_
             refine pw aF 32 119 (tf 33 5) ?_
             refine pw aF 33 120 (tf 34 4) ?_
             refine pw aF 34 121 (tf 35 3) ?_
             refine pw aF 35 122 (tf 36 2) ?_
             refine pw aF 36 123 (tf 37 1) ?_
             refine pv aF 37 124 (tf 38 0) ?_
             refine done_ (done_of aF.out (by kernel_rfl)) ?_
             try go_wp2
             go_meet
             case rel => exact ⟨_, (true), (by first | rfl | (simp; done) | (simp [*]; done)), H', ⟨by have := HJ1.out; have := HK2.out; have := HK3.out; first | omega | exact Nat.le_refl _⟩, ⟨KB aA⟩, ⟨K1 HB aK.out⟩⟩
           ·rw [if_neg nW] at H
            exact absurd H (by simp)
          case rest =>
           clear mY
           try clear c1
           try clear p1
           try clear q1
           try clear pV
           try clear p2
           try clear c4
           try clear c5
           try clear pW
           try clear pM
           try clear pN
           try clear nU
           try clear qW
           try clear qX
           try clear qY
           try clear qE
           try clear nW
           try clear oA
           try clear qZ
           try clear aZ
           try clear bA
           try clear aJ
           try clear bB
           try clear bC
           try clear bD
           try clear bE
           try clear bF
           try clear bG
           try clear bH
           try clear bI
           try clear bU
           try clear bV
           try clear bJ
           try clear bW
           try clear bX
           try clear bY
           try clear bZ
           try clear cA
           try clear cB
           try clear cC
           try clear cD
           try clear fG
           try clear fQ
           try clear fH
           try clear fR
           obtain ⟨kq, gM, rfl, HA, HJ42, aA, HB⟩ := hcut
           cases kq with
           | zero => exact absurd HA.out (by simp [spec_GateOk.j4])
           | succ kj42 =>
            have H := HA.out
            clear HA
            simp only [spec_GateOk.j4] at H
            by_cases pB : gM = true
            ·subst pB
             have H1 := pf H
             clear H
             have H := H1
             clear H1
             obtain rfl := sj H
             go_wp2
             go_ret
             exact ⟨ER, K1 HB aK.out⟩
            ·replace pB := Bool.eq_false_iff.mpr pB
             subst pB
             have H1 := nf H
             clear H
             have H := H1
             clear H1
             have H' := Aside0.mk H
             clear H
             go_wp2
             go_roundg kj42
             case measure => have := HJ1.out; have := HK2.out; have := HK3.out; have := HJ42.out; omega
             case rel => exact ⟨(wrap64 (aE + 1)), (by first | rfl | (simp; done) | (simp [*]; done)), H', ⟨by have := HJ1.out; have := HK2.out; have := HK3.out; have := HJ42.out; omega⟩, ⟨KB aA⟩, ⟨K1 HB aK.out⟩⟩
         ·rw [if_neg nH] at H
          have c42b0 : decide (aE < (aC.length : Int)) = false := decide_eq_false nH
          clear nH
          obtain rfl := sj H
          have ⟨_, _, _, _, _, _, _⟩ := y6 wr aA.out
          go_wp2
          go_ret
          exact ⟨ER, K1 HB aK.out⟩
def spec_l7Copy.f (a0_0 : Int) (l0_1 : List Int) : Option (Int × List Int) := (some (([] : List Int) : List Int)).bind fun y103 => (if y103.length + l0_1.length < 17592186044416 then (some (a0_0, (y103 ++ l0_1))) else (none))
def spec_l7Copy.T1 : Bool × List (List Nat × List Nat) := (true, [([], []), ([0], [0]), ([], []), ([], []), ([3], [3]), ([2, 4], [2, 4]), ([1, 5], [1, 5]), ([6, 5, 0, 1, 2, 3, 4, 5, 6], [6])])
def spec_l7Copy.B1 : List Nat := [0, 1, 0, 0, 8, 28, 63, 127]
theorem spec_l7Copy.tab1 : rtab .any (opsOf Tryz.f81 1) = spec_l7Copy.T1 := by kernel_rfl
theorem spec_l7Copy.bits1 : waitsOk spec_l7Copy.T1.2 spec_l7Copy.B1 = true := by kernel_rfl
theorem spec_l7Copy.calls (aI : Int) (aU : Option Addr) (aV : Nat) (aG : List Int) (r1 : Int) (r2 : List Int) (w : World) (aY : Kd.C (Kd.int .i64) w aU aG.length aG) (aZ : aG.length ≤ aV) (h : spec_l7Copy.f aI aG = some (r1, r2)) :
  Calls Tryz.prog 81 #[.agg #[.int .i64 aI, .slice aU aG.length aV]] w fun e w' => ∃ v1_ : Value, e = .returned (.agg #[.int .i64 r1, v1_]) ∧ Kd.R (Kd.int .i64) 3 w' w.heap.size (fun _ => True) v1_ r2 ∧ Below w.heap.size w w' := by
 have bN := Tryz.underlying46
 have bD := Aside0.mk aY
 have bI := Aside0.mk aZ
 clear aY aZ
 have HB := am (Below.refl w.heap.size w)
 have H : ((some (([] : List Int) : List Int)).bind fun aM => (if aM.length + aG.length < 17592186044416 then (some (aI, (aM ++ aG))) else (none))) = some (r1, r2) := h
 clear h
 obtain ⟨aM, aN⟩ : ∃ y_ : List Int, y_ = (([] : List Int)) := ⟨_, rfl⟩
 replace H : (if aM.length + aG.length < 17592186044416 then (some (aI, (aM ++ aG))) else (none)) = some (r1, r2) := by first | (rw [aN]; with_reducible exact H) | (have H2_ := (Option.bind_some _ _).symm.trans H; rw [aN]; with_reducible exact H2_) | (have H2_ := (Option.bind_some _ _).symm.trans H; with_reducible exact H2_) | with_reducible exact H | (rw [aN]; exact H) | exact H
 have Ny103 := Aside0.mk aN
 clear aN
 by_cases c2 : aM.length + aG.length < 17592186044416
 ·rw [if_pos c2] at H
  have LMc2 := Aside0.mk c2
  clear c2
  obtain ⟨bC, aP⟩ : ∃ y_ : List Int, y_ = (aM ++ aG) := ⟨_, rfl⟩
  replace H : (some (aI, bC)) = some (r1, r2) := by first | (rw [aP]; with_reducible exact H) | (have H2_ := (Option.bind_some _ _).symm.trans H; rw [aP]; with_reducible exact H2_) | (have H2_ := (Option.bind_some _ _).symm.trans H; with_reducible exact H2_) | with_reducible exact H | (rw [aP]; exact H) | exact H
  have Ny106 := Aside0.mk aP
  clear aP
  simp only [Option.some.injEq, Prod.mk.injEq] at H
  obtain ⟨rfl, rfl⟩ := H
  go_enter Tryz.func81, Tryz.ntmps81
  try go_wp2_with (first | ((with_reducible refine gate_dst (N := 1) rfl ?_); refine box_event rfl (N := 1) rfl (cs := #[.int .i64 aI, .slice aU aG.length aV]) (t := 46) BX ?_; intro bA hg w3 aW hb; have aA := am (aW); have bE := am (GH HB hg); have aJ := bE; replace HB := bl (KL HB) hb; clear hb aW hg) | ((with_reducible refine gate_dst (N := 2) rfl ?_); refine box_event rfl (N := 2) rfl (cs := #[.int .i64 0, .slice none 0 0]) (t := 46) BX ?_; intro aE hg w4 aW hb; have aD := am (aW); have bF := am (GH1 HB aJ.out hg); have aQ := bF; replace HB := bl (K1 HB aJ.out) hb; have aC := am (NL aA hg); have aK := am (NG aA hg); replace aA := am (BB aA hb); clear hb aW hg))
  replace aA := am (blk_drew aA.out)
  replace aD := am (blk_drew aD.out)
  replace HB := am (below_drew1 HB.out)
  refine start_ (n := 8) (S := fun w' => de2 w' bA (.int .i64 aI) (.slice aU aG.length aV)) (ds := []) (tf 0 8) (by kernel_rfl) rfl rfl ⟨z0 _ aA.out, z1 _ aA.out⟩ (fun aH => ?_); refine with_tabW spec_l7Copy.tab1 spec_l7Copy.bits1 (fun aX bJ => ?_)
  generalize w4.drew = w5 at aA aD HB aH ⊢
  refine pv aX 0 3 (tf 1 7) ?_
  refine pv aX 3 6 (tr [1, 2, 1, 4]) ?_
  refine tk 1 (some 4) (tr [2, 1, 1, 4]) (take_ofW aX.out bJ.out (by kernel_rfl)) aH ?_
  refine tk 4 (some 7) (tr [2, 1, 2, 3]) (take_ofW aX.out bJ.out (by kernel_rfl)) aH ?_
  refine one_ (i := 2) (N := some 5) (tf 5 3) rfl rfl (one_of aX.out (by kernel_rfl)) (by decide) (fun K hK => ?_)
  refine Kd.R_lit_step (Kd.int .i64) _ 3 ?hg (N := 5) ?hd (xs := ([] : List Int)) (inner := []) (ok := fun _ => True) (okp := fun _ => True) ?hr ?hp (fun _ hk => hk) trivial (Below.refl _ _) (Nat.le_refl _) (by simp) ?_; (case hd => rfl); (case hg => rfl); (case hr => first | (go_simp; done) | (go_simp; rfl)); (case hp => exact (Reps.none _ _))
  intro bH w6 bG hb hg_ hnew_
  clear hg_ hnew_
  (first | rw [← Ny103.out] at bG | (simp only [Int.reduceToNat] at bG; rw [← Ny103.out] at bG))
  have aT := am (Kd.R_lower bG (below_size (K2 HB aJ.out aQ.out)))
  replace aA := am (BB aA hb)
  replace aD := am (BB aD hb)
  replace HB := bl (K2 HB aJ.out aQ.out) hb
  clear hb bG
  refine hK.out _ _ ⟨z0 _ aA.out, z1 _ aA.out⟩ (fun aH => ?_)
  clear hK K
  refine nm (some 5) ?_
  refine one_ (i := 5) (N := some 8) (tf 6 2) rfl rfl (one_of aX.out (by kernel_rfl)) (by decide) (fun K hK => ?_)
  refine Kd.R_append_rows_step (Kd.int .i64) (w0 := w) w.heap.size (by rfl) (.tmp 5) (.tmp 7) 29 3 (.int .i64 0) 8 rfl Tryz.underlying29 info3 rfl (by decide) (by omega) bH aM aG _ _ _ (fun _ => True) (fun _ => False) rfl rfl ?aO ?aR (fun _ _ h => h) (fun _ h => h.elim) ?aF ?aB ?aS ?aL ?_
  (case aR => exact KD bD HB)
  (case aB => exact (K2 HB aJ.out aQ.out))
  (case aF => exact (fun _ _ => trivial))
  (case aO => exact (KR aT))
  (case aS => exact (below_size (K2 HB aJ.out aQ.out)))
  (case aL => have := LMc2.out; omega)
  intro bO w8 ho hb hg hat
  rw [← Ny106.out] at ho
  replace aA := am (blk_grown (g := bA) (o := .cells #[.int .i64 aI, .slice aU aG.length aV] 46 (0, 0)) (KB aA) hg (Kd.R_ne aT.out aA.out (by decide)))
  replace aD := am (blk_grown (g := aE) (o := .cells #[.int .i64 0, .slice none 0 0] 46 (0, 0)) (KB aD) hg (Kd.R_ne aT.out aD.out (by decide)))
  replace HB := am (hb)
  have bB := am (ho)
  clear aT
  clear ho hb hg hat
  obtain ⟨bK, bL, bM⟩ := Kd.R_slice bB.out
  (first | subst bM | (injection bM with f1_ f2_ f3_; have f4_ := f1_.symm; have f5_ := f3_.symm; clear f1_ f2_ f3_; subst f4_; subst f5_))
  refine hK.out _ _ ⟨z0 _ aA.out, z1 _ aA.out⟩ (fun aH => ?_)
  clear hK K
  refine nm (some 8) ?_
  refine pv aX 6 9 (tf 7 1) ?_
  refine one_ (i := 7) (N := none) (tf 8 0) rfl rfl (one_of aX.out (by kernel_rfl)) (by decide) (fun K hK => ?_)
  have hs10 : w8.cell? ⟨aE, 0, none⟩ = some (.int .i64 0) := z0 _ aD.out
  have hfs10 := blk_frozen aD.out 0
  have hns10_0 := aC.out
  have hms10_0 := aK.out
  have hs11 : w8.cell? ⟨aE, 1, none⟩ = some (.slice none 0 0) := z1 _ aD.out
  have hfs11 := blk_frozen aD.out 1
  have hns11_0 := aC.out
  have hms11_0 := aK.out
  refine skip_ (w1 := ?_) (by rfl) rfl ?_ ?_
  rotate_left
  ·go_simp
   rfl
  refine hK.out _ _ ⟨((cell_far (p := ⟨aE, _, none⟩) aC.out _).trans (((cell_far (p := ⟨aE, _, none⟩) aC.out _).trans (aH.1)))), ((cell_far (p := ⟨aE, _, none⟩) aC.out _).trans (((cell_far (p := ⟨aE, _, none⟩) aC.out _).trans (aH.2))))⟩ (fun aH => ?_)
  clear hK K
  refine done_ (done_of aX.out (by kernel_rfl)) ?_
  try go_wp2
  refine bodyPost_ret (results_cell_row rfl _ _ aE 46 #[.int .i64 aI, .slice bK bC.length bL] (0, 0) _ rfl (by refine BD ?_; refine blk_put (cs := #[.int .i64 aI, .slice none 0 0]) ?_ 1 _ rfl; refine BD ?_; refine blk_put (cs := #[.int .i64 0, .slice none 0 0]) ?_ 0 _ rfl; refine BD ?_; exact aD.out) Tryz.underlying46 rfl (by kernel_rfl)) rfl ?_
  exact ⟨_, ER, by refine KW ?_; exact Kd.R_mono (Kd.R_far (p := ⟨aE, 1, none⟩) (Kd.R_far (p := ⟨aE, 0, none⟩) (Kd.R_types bB.out aD.out (by decide)) (fun _ hk => hk.2) (.int .i64 aI)) (fun _ hk => hk.2) (.slice bK bC.length bL)) (fun _ hk => trivial), K2 HB aJ.out aQ.out⟩
 ·rw [if_neg c2] at H
  exact absurd H (by simp)
def spec_l9Copy.f (a0_0 : Int) (a0_1 : Int) (a0_2 : ByteArray) (a0_3 : ByteArray) (a0_4 : Int) (a0_5 : Int) (a0_6 : Int) (a0_7 : Int) (a0_8 : Int) (a0_9 : Int) (l0_10 : List Int) : Option (Int × Int × ByteArray × ByteArray × Int × Int × Int × Int × Int × Int × List Int) := (spec_l7Copy.f a0_9 l0_10).bind fun bt103 => (some (a0_0, a0_1, a0_2, a0_3, a0_4, a0_5, a0_6, a0_7, a0_8, bt103.1, bt103.2))
theorem spec_l9Copy.calls (aB : Int) (aC : Int) (aD : ByteArray) (aE : ByteArray) (aH : Int) (aJ : Int) (aK : Int) (aL : Int) (aM : Int) (aR : Int) (aP : Option Addr) (aQ : Nat) (aF : List Int) (r1 : Int) (r2 : Int) (r3 : ByteArray) (r4 : ByteArray) (r5 : Int) (r6 : Int) (r7 : Int) (r8 : Int) (r9 : Int) (r10 : Int) (r11 : List Int) (w : World) (aU : Kd.C (Kd.int .i64) w aP aF.length aF) (aV : aF.length ≤ aQ) (h : spec_l9Copy.f aB aC aD aE aH aJ aK aL aM aR aF = some (r1, r2, r3, r4, r5, r6, r7, r8, r9, r10, r11)) :
  Calls Tryz.prog 50 #[.agg #[.int .i64 aB, .int .i64 aC, .string aD, .string aE, .int .i64 aH, .int .i64 aJ, .int .i64 aK, .int .i64 aL, .int .i64 aM, .int .i64 aR, .slice aP aF.length aQ]] w fun e w' => ∃ v10_ : Value, e = .returned (.agg #[.int .i64 r1, .int .i64 r2, .string r3, .string r4, .int .i64 r5, .int .i64 r6, .int .i64 r7, .int .i64 r8, .int .i64 r9, .int .i64 r10, v10_]) ∧ Kd.R (Kd.int .i64) 3 w' w.heap.size (fun _ => True) v10_ r11 ∧ Below w.heap.size w w' := by
 have cU := Tryz.underlying48
 have cV := Tryz.underlying46
 have bC := Aside0.mk aU
 have bD := Aside0.mk aV
 clear aU aV
 have HB := am (Below.refl w.heap.size w)
 have H : ((spec_l7Copy.f aR aF).bind fun aZ => (some (aB, aC, aD, aE, aH, aJ, aK, aL, aM, aZ.1, aZ.2))) = some (r1, r2, r3, r4, r5, r6, r7, r8, r9, r10, r11) := h
 clear h
 replace H := bm H
 obtain ⟨⟨aS, aW⟩, cS, H⟩ := H
 replace H : (some (aB, aC, aD, aE, aH, aJ, aK, aL, aM, aS, aW)) = some (r1, r2, r3, r4, r5, r6, r7, r8, r9, r10, r11) := H
 have A2 := Aside0.mk cS
 clear cS
 simp only [Option.some.injEq, Prod.mk.injEq] at H
 obtain ⟨rfl, rfl, rfl, rfl, rfl, rfl, rfl, rfl, rfl, rfl, rfl⟩ := H
 go_enter Tryz.func50, Tryz.ntmps50
 go_wp2_with (first | ((with_reducible refine gate_dst (N := 1) rfl ?_); refine box_event rfl (N := 1) rfl (cs := #[.int .i64 aB, .int .i64 aC, .string aD, .string aE, .int .i64 aH, .int .i64 aJ, .int .i64 aK, .int .i64 aL, .int .i64 aM, .int .i64 aR, .slice aP aF.length aQ]) (t := 48) BX ?_; intro bA hg w3 aX hb; have aG := am (aX); have bE := am (GH HB hg); have aN := bE; replace HB := bl (KL HB) hb; clear hb aX hg) | ((with_reducible refine gate_dst (N := 2) rfl ?_); refine box_event rfl (N := 2) rfl (cs := #[.int .i64 0, .int .i64 0, .string (⟨#[]⟩ : ByteArray), .string (⟨#[]⟩ : ByteArray), .int .i64 0, .int .i64 0, .int .i64 0, .int .i64 0, .int .i64 0, .int .i64 0, .slice none 0 0]) (t := 48) BX ?_; intro aA hg w4 aX hb; have aO := am (aX); have bF := am (GH1 HB aN.out hg); have aY := bF; replace HB := bl (K1 HB aN.out) hb; have aT := am (NL aG hg); have aI := am (NG aG hg); replace aG := am (BB aG hb); clear hb aX hg; have cW := aT.out; have cX := aI.out; have ⟨_, _, _, _, _, _, _, _, _, _, _, _⟩ := y11 w4 aG.out) | ((with_reducible refine gate_callee (f := 81) rfl ?_); refine goesL_ (some 5) rfl rfl Tryz.func81 (by kernel_rfl) rfl #[.agg #[.int .i64 aR, .slice aP aF.length aQ]] rfl MT ?_; (with_reducible refine (spec_l7Copy.calls aR _ _ aF aS aW _ ?_ ?_ A2.out).mono ?_); exact KD bC HB; exact bD.out; rintro e w7 ⟨cY, rfl, cT, hb⟩; refine ⟨_, rfl, ?_⟩; have bB := am (Kd.R_lower cT (below_size (K2 HB aN.out aY.out))); replace aG := am (BB aG hb); replace aO := am (BB aO hb); replace HB := bl (K2 HB aN.out aY.out) hb; (try clear hb); (try clear cT); have ⟨_, _, _, _, _, _, _, _, _, _, _, _⟩ := y11 w7 aG.out; obtain ⟨cQ, cR, cZ⟩ := Kd.R_slice bB.out; subst cZ; have ⟨_, _, _, _, _, _, _, _, _, _, _, _⟩ := y11 w7 aO.out))
 refine bodyPost_ret (results_cell_row rfl _ _ aA 48 #[.int .i64 aB, .int .i64 aC, .string aD, .string aE, .int .i64 aH, .int .i64 aJ, .int .i64 aK, .int .i64 aL, .int .i64 aM, .int .i64 aS, .slice cQ aW.length cR] (0, 0) _ rfl (by refine BD ?_; refine blk_put (cs := #[.int .i64 aB, .int .i64 aC, .string aD, .string aE, .int .i64 aH, .int .i64 aJ, .int .i64 aK, .int .i64 aL, .int .i64 aM, .int .i64 aS, .slice none 0 0]) ?_ 10 _ rfl; refine BD ?_; refine blk_put (cs := #[.int .i64 aB, .int .i64 aC, .string aD, .string aE, .int .i64 aH, .int .i64 aJ, .int .i64 aK, .int .i64 aL, .int .i64 aM, .int .i64 0, .slice none 0 0]) ?_ 9 _ rfl; refine BD ?_; refine blk_put (cs := #[.int .i64 aB, .int .i64 aC, .string aD, .string aE, .int .i64 aH, .int .i64 aJ, .int .i64 aK, .int .i64 aL, .int .i64 0, .int .i64 0, .slice none 0 0]) ?_ 8 _ rfl; refine BD ?_; refine blk_put (cs := #[.int .i64 aB, .int .i64 aC, .string aD, .string aE, .int .i64 aH, .int .i64 aJ, .int .i64 aK, .int .i64 0, .int .i64 0, .int .i64 0, .slice none 0 0]) ?_ 7 _ rfl; refine BD ?_; refine blk_put (cs := #[.int .i64 aB, .int .i64 aC, .string aD, .string aE, .int .i64 aH, .int .i64 aJ, .int .i64 0, .int .i64 0, .int .i64 0, .int .i64 0, .slice none 0 0]) ?_ 6 _ rfl; refine BD ?_; refine blk_put (cs := #[.int .i64 aB, .int .i64 aC, .string aD, .string aE, .int .i64 aH, .int .i64 0, .int .i64 0, .int .i64 0, .int .i64 0, .int .i64 0, .slice none 0 0]) ?_ 5 _ rfl; refine BD ?_; refine blk_put (cs := #[.int .i64 aB, .int .i64 aC, .string aD, .string aE, .int .i64 0, .int .i64 0, .int .i64 0, .int .i64 0, .int .i64 0, .int .i64 0, .slice none 0 0]) ?_ 4 _ rfl; refine BD ?_; refine blk_put (cs := #[.int .i64 aB, .int .i64 aC, .string aD, .string (⟨#[]⟩ : ByteArray), .int .i64 0, .int .i64 0, .int .i64 0, .int .i64 0, .int .i64 0, .int .i64 0, .slice none 0 0]) ?_ 3 _ rfl; refine BD ?_; refine blk_put (cs := #[.int .i64 aB, .int .i64 aC, .string (⟨#[]⟩ : ByteArray), .string (⟨#[]⟩ : ByteArray), .int .i64 0, .int .i64 0, .int .i64 0, .int .i64 0, .int .i64 0, .int .i64 0, .slice none 0 0]) ?_ 2 _ rfl; refine BD ?_; refine blk_put (cs := #[.int .i64 aB, .int .i64 0, .string (⟨#[]⟩ : ByteArray), .string (⟨#[]⟩ : ByteArray), .int .i64 0, .int .i64 0, .int .i64 0, .int .i64 0, .int .i64 0, .int .i64 0, .slice none 0 0]) ?_ 1 _ rfl; refine BD ?_; refine blk_put (cs := #[.int .i64 0, .int .i64 0, .string (⟨#[]⟩ : ByteArray), .string (⟨#[]⟩ : ByteArray), .int .i64 0, .int .i64 0, .int .i64 0, .int .i64 0, .int .i64 0, .int .i64 0, .slice none 0 0]) ?_ 0 _ rfl; refine BD ?_; refine blk_far ?_ aI.out _; refine BD ?_; refine blk_far ?_ aI.out _; refine BD ?_; exact aO.out) Tryz.underlying48 rfl (by kernel_rfl)) rfl ?_
 exact ⟨_, ER, by refine KW ?_; exact Kd.R_mono (Kd.R_far (p := ⟨aA, 10, none⟩) (Kd.R_far (p := ⟨aA, 9, none⟩) (Kd.R_far (p := ⟨aA, 8, none⟩) (Kd.R_far (p := ⟨aA, 7, none⟩) (Kd.R_far (p := ⟨aA, 6, none⟩) (Kd.R_far (p := ⟨aA, 5, none⟩) (Kd.R_far (p := ⟨aA, 4, none⟩) (Kd.R_far (p := ⟨aA, 3, none⟩) (Kd.R_far (p := ⟨aA, 2, none⟩) (Kd.R_far (p := ⟨aA, 1, none⟩) (Kd.R_far (p := ⟨aA, 0, none⟩) (Kd.R_far (p := ⟨bA, 10, none⟩) (Kd.R_far (p := ⟨bA, 9, none⟩) (Kd.R_types (Kd.R_types bB.out aG.out (by decide)) aO.out (by decide)) (fun _ hk => hk.1.2) (.int .i64 aS)) (fun _ hk => hk.1.2) (.slice cQ aW.length cR)) (fun _ hk => hk.2) (.int .i64 aB)) (fun _ hk => hk.2) (.int .i64 aC)) (fun _ hk => hk.2) (.string aD)) (fun _ hk => hk.2) (.string aE)) (fun _ hk => hk.2) (.int .i64 aH)) (fun _ hk => hk.2) (.int .i64 aJ)) (fun _ hk => hk.2) (.int .i64 aK)) (fun _ hk => hk.2) (.int .i64 aL)) (fun _ hk => hk.2) (.int .i64 aM)) (fun _ hk => hk.2) (.int .i64 aS)) (fun _ hk => hk.2) (.slice cQ aW.length cR)) (fun _ hk => trivial), K2 HB aN.out aY.out⟩
def spec_l10Sas.l0 : Nat → List (S48) → List (S48) → Int → Option ((List (S48)))
 | 0, _, _, _ => none
 | k + 1, x0, x3, x4 => if x4 < (x0.length : Int) then (if 0 ≤ x4 then ((spec_l9Copy.f ((rd_T48 x0 x4).f0) ((rd_T48 x0 x4).f1) ((rd_T48 x0 x4).f2) ((rd_T48 x0 x4).f3) ((rd_T48 x0 x4).f4) ((rd_T48 x0 x4).f5) ((rd_T48 x0 x4).f6) ((rd_T48 x0 x4).f7) ((rd_T48 x0 x4).f8) ((rd_T48 x0 x4).f9.f0) ((rd_T48 x0 x4).f9.f1)).bind fun bt105 => (if x3.length < 1172812402961 then (spec_l10Sas.l0 k x0 (x3 ++ [(⟨bt105.1, bt105.2.1, bt105.2.2.1, bt105.2.2.2.1, bt105.2.2.2.2.1, bt105.2.2.2.2.2.1, bt105.2.2.2.2.2.2.1, bt105.2.2.2.2.2.2.2.1, bt105.2.2.2.2.2.2.2.2.1, (⟨bt105.2.2.2.2.2.2.2.2.2.1, bt105.2.2.2.2.2.2.2.2.2.2⟩ : S46)⟩ : S48)]) (wrap64 (x4 + 1))) else (none))) else (none)) else (some x3)
def spec_l10Sas.f (k : Nat) (l0 : List (S48)) : Option ((List (S48))) := spec_l10Sas.l0 k l0 (([] : List (S48))) 0
theorem spec_l10Sas.calls (k : Nat) (A0 : Option Addr) (c0 : Nat) (l0 : List (S48)) (r : List (S48)) (w : World) (cA : Kd.C k48 w A0 l0.length l0) (cB : l0.length ≤ c0) (h : spec_l10Sas.f k l0 = some r) :
  Calls Tryz.prog 57 #[.slice A0 l0.length c0] w fun e w' => ∃ v0_ : Value, e = .returned (v0_) ∧ Kd.S k48 48 w' w.heap.size (fun _ => True) v0_ r ∧ Below w.heap.size w w' := by
 have cE := Tryz.underlying48
 have cF := Aside0.mk cA
 have cJ := Aside0.mk cB
 clear cA cB
 have HB := am (Below.refl w.heap.size w)
 have H : (spec_l10Sas.l0 k l0 (([] : List (S48))) 0) = some r := h
 clear h
 obtain ⟨bQ, aC⟩ : ∃ y_ : List (S48), y_ = (([] : List (S48))) := ⟨_, rfl⟩
 replace H : (spec_l10Sas.l0 k l0 bQ 0) = some r := by first | (rw [aC]; with_reducible exact H) | (have H2_ := (Option.bind_some _ _).symm.trans H; rw [aC]; with_reducible exact H2_) | (have H2_ := (Option.bind_some _ _).symm.trans H; with_reducible exact H2_) | with_reducible exact H | (rw [aC]; exact H) | exact H
 have Ny101 := Aside0.mk aC
 clear aC
 have H' := Aside0.mk H
 clear H
 go_enter Tryz.func57, Tryz.ntmps57
 go_wp2_with (first | ((with_reducible refine gate_dst (N := 5) rfl ?_); refine Kd.S_lit k48 _ 48 ?hg (N := 5) ?hd (xs := ([] : List (S48))) (inner := []) (ok := fun _ => True) (okp := fun _ => True) ?hr ?hp (fun _ hk => hk) trivial (Below.refl _ _) (Nat.le_refl _) (by simp) ?_; (case hd => rfl); (case hg => rfl); (case hr => first | (go_simp; done) | (go_simp; rfl)); (case hp => exact (Reps.none _ _)); intro cG w2 bR hb hg_ hnew_; clear hg_ hnew_; (first | rw [← Ny101.out] at bR | (simp only [Int.reduceToNat] at bR; rw [← Ny101.out] at bR)); have bS := am (Kd.S_lower bR (below_size (KL HB))); replace HB := bl (KL HB) hb; clear hb bR))
 go_loopg [3, 4] k (fun kq v3 v4 w' => ∃ (aD : List (S48)) (aA : Int), v4 = .int .i64 aA ∧ Aside0 (spec_l10Sas.l0 kq l0 aD aA = some r) ∧ Aside0 (kq ≤ k) ∧ Aside0 (Kd.S k48 48 w' w.heap.size (fun _ => True) v3 aD) ∧ Aside0 (Below w.heap.size w w'))
 case atStart => exact ⟨(bQ), (0), (by first | rfl | (simp; done) | (simp [*]; done)), H', ⟨Nat.le_refl _⟩, ⟨by refine KX ?_; exact bS.out⟩, ⟨KL HB⟩⟩
 case round =>
  clear H'
  try clear p2
  obtain ⟨aD, aA, rfl, HA, HK1, aJ, HB⟩ := hrel
  cases gk with
  | zero => exact absurd HA.out (by simp [spec_l10Sas.l0])
  | succ k1 =>
   have H := HA.out
   clear HA
   simp only [spec_l10Sas.l0] at H
   by_cases c4 : aA < (l0.length : Int)
   ·rw [if_pos c4] at H
    have c4b0 : decide (aA < (l0.length : Int)) = true := decide_eq_true c4
    clear c4
    by_cases c5 : 0 ≤ aA
    ·rw [if_pos c5] at H
     have c5b0 : decide (0 ≤ aA) = true := decide_eq_true c5
     clear c5
     replace H := bm H
     obtain ⟨⟨bA, bB, bC, bD, bE, bF, bG, bH, bI, bJ, aK⟩, cC, H⟩ := H
     replace H : (if aD.length < 1172812402961 then (spec_l10Sas.l0 k1 l0 (aD ++ [(⟨bA, bB, bC, bD, bE, bF, bG, bH, bI, (⟨bJ, aK⟩ : S46)⟩ : S48)]) (wrap64 (aA + 1))) else (none)) = some r := H
     have A6 := Aside0.mk cC
     clear cC
     by_cases c7 : aD.length < 1172812402961
     ·rw [if_pos c7] at H
      have LMc7 := Aside0.mk c7
      clear c7
      obtain ⟨bT, aE⟩ : ∃ y_ : List (S48), y_ = (aD ++ [(⟨bA, bB, bC, bD, bE, bF, bG, bH, bI, (⟨bJ, aK⟩ : S46)⟩ : S48)]) := ⟨_, rfl⟩
      replace H : (spec_l10Sas.l0 k1 l0 bT (wrap64 (aA + 1))) = some r := by first | (rw [aE]; with_reducible exact H) | (have H2_ := (Option.bind_some _ _).symm.trans H; rw [aE]; with_reducible exact H2_) | (have H2_ := (Option.bind_some _ _).symm.trans H; with_reducible exact H2_) | with_reducible exact H | (rw [aE]; exact H) | exact H
      have Ny118 := Aside0.mk aE
      clear aE
      have H' := Aside0.mk H
      clear H
      have bO : 0 ≤ (aA : Int) := OD
      have bP : aA < (l0.length : Int) := OD
      obtain ⟨_, bM, bN, bX, aM, aN, aQ, aR, aT, aU, aV, aW, aX, aY, aG, aH, aI⟩ := at_T48 cF.out aA bO bP
      cases bX
      replace aM := CX HB.out aM
      replace aN := CX HB.out aN
      replace aQ := CX HB.out aQ
      replace aR := CX HB.out aR
      replace aT := CX HB.out aT
      replace aU := CX HB.out aU
      replace aV := CX HB.out aV
      replace aW := CX HB.out aW
      replace aX := CX HB.out aX
      replace aY := CX HB.out aY
      replace aG := CX HB.out aG
      have bK := Aside0.mk aI
      have bL := Aside0.mk aH
      clear aI aH
      replace bO := eq_true bO
      replace bP := eq_true bP
      go_wp2_with (first | ((with_reducible refine gate_callee (f := 50) rfl ?_); refine goesL_ (some 17) rfl rfl Tryz.func50 (by kernel_rfl) rfl #[.agg #[.int .i64 ((rd_T48 l0 aA).f0), .int .i64 ((rd_T48 l0 aA).f1), .string ((rd_T48 l0 aA).f2), .string ((rd_T48 l0 aA).f3), .int .i64 ((rd_T48 l0 aA).f4), .int .i64 ((rd_T48 l0 aA).f5), .int .i64 ((rd_T48 l0 aA).f6), .int .i64 ((rd_T48 l0 aA).f7), .int .i64 ((rd_T48 l0 aA).f8), .int .i64 ((rd_T48 l0 aA).f9.f0), .slice bM ((rd_T48 l0 aA).f9.f1).length bN]] rfl MT ?_; (with_reducible refine (spec_l9Copy.calls ((rd_T48 l0 aA).f0) ((rd_T48 l0 aA).f1) ((rd_T48 l0 aA).f2) ((rd_T48 l0 aA).f3) ((rd_T48 l0 aA).f4) ((rd_T48 l0 aA).f5) ((rd_T48 l0 aA).f6) ((rd_T48 l0 aA).f7) ((rd_T48 l0 aA).f8) ((rd_T48 l0 aA).f9.f0) _ _ ((rd_T48 l0 aA).f9.f1) bA bB bC bD bE bF bG bH bI bJ aK _ ?_ ?_ A6.out).mono ?_); exact KD bK HB; exact bL.out; rintro e w8 ⟨cH, rfl, bY, hb⟩; refine ⟨_, rfl, ?_⟩; replace aJ := am (Kd.S_elder' (by refine KX ?_; exact aJ.out) (Kd.R_base bY) hb); have aZ := am (Kd.R_lower bY (below_size (KL HB))); replace HB := bl (KL HB) hb; (try clear hb); (try clear hb2); (try clear hk); (try clear hi); (try clear bY); obtain ⟨bU, bV, bZ⟩ := Kd.R_slice aZ.out; subst bZ) | ((with_reducible refine gate_builtin (b := .append) (xs := #[.tmp 12, .tmp 18]) rfl ?_); at_builtin; refine Kd.S_append k48 (w0 := w) w.heap.size rfl (.tmp 12) (.tmp 18) 40 48 (.agg #[(.int .i64 0), (.int .i64 0), (.string ⟨#[]⟩), (.string ⟨#[]⟩), (.int .i64 0), (.int .i64 0), (.int .i64 0), (.int .i64 0), (.int .i64 0), (.int .i64 0), (.slice none 0 0)]) 120 rfl Tryz.underlying40 info48 rfl (by decide) (by omega) u3 aD (⟨bA, bB, bC, bD, bE, bF, bG, bH, bI, (⟨bJ, aK⟩ : S46)⟩ : S48) [.int .i64 bA, .int .i64 bB, .string bC, .string bD, .int .i64 bE, .int .i64 bF, .int .i64 bG, .int .i64 bH, .int .i64 bI, .int .i64 bJ, .slice bU aK.length bV] (fun _ => True) (fun k_ => some k_ = (.slice bU aK.length bV : Value).ownBlock) rfl rfl ?aP (fun k_ hk_ => ((Kd.R_mono (ok' := fun k_ => ((fun _ => True)) k_ ∧ some k_ ≠ (u3 : Value).ownBlock) (Kd.R_apart' (aZ.out) (Kd.S_typed aJ.out) (by decide)) (fun k_ hk => ⟨trivial, hk.2⟩))).1 k_ hk_.symm) ?aF ?aO ?aB ?aS ?aL ?_; (case aP => exact k48_mkM _ _ _ (⟨bA, bB, bC, bD, bE, bF, bG, bH, bI, (⟨bJ, aK⟩ : S46)⟩ : S48) (Kd.R_mono (Kd.R_tight rfl (Kd.R_mono (ok' := fun k_ => ((fun _ => True)) k_ ∧ some k_ ≠ (u3 : Value).ownBlock) (Kd.R_apart' (aZ.out) (Kd.S_typed aJ.out) (by decide)) (fun k_ hk => ⟨trivial, hk.2⟩))) (fun _ h_ => h_))); (case aB => exact (KL HB)); (case aF => exact (fun _ _ => trivial)); (case aO => exact (by refine KX ?_; exact Kd.S_mono aJ.out (fun k_ hk => ⟨trivial, fun e_ => hk.2 e_⟩))); (case aS => exact (below_size (KL HB))); (case aL => have := LMc7.out; omega); intro cI w9 ho hb hg hat; rw [← Ny118.out] at ho; replace HB := am (hb); have bW := am (ho); clear aJ aZ; clear ho hb hg hat))
      go_roundg k1
      case measure => have := HK1.out; omega
      case rel => exact ⟨(bT), (wrap64 (aA + 1)), (by first | rfl | (simp; done) | (simp [*]; done)), H', ⟨by have := HK1.out; omega⟩, ⟨by refine KX ?_; exact bW.out⟩, ⟨KL HB⟩⟩
     ·rw [if_neg c7] at H
      exact absurd H (by simp)
    ·rw [if_neg c5] at H
     exact absurd H (by simp)
   ·rw [if_neg c4] at H
    have c4b0 : decide (aA < (l0.length : Int)) = false := decide_eq_false c4
    clear c4
    obtain rfl := sj H
    go_wp2
    go_ret
    exact ⟨_, ER, by refine KX ?_; exact aJ.out, KL HB⟩
def spec_l10Copy.f (k : Nat) (a0_0 : Int) (l0_1 : List (S92)) (a0_2 : Int) (l0_3 : List (S105)) (l0_4 : List (S48)) (l0_5 : List (S48)) : Option (Int × (List (S92)) × Int × (List (S105)) × (List (S48)) × (List (S48))) := (some (([] : List (S92)) : List (S92))).bind fun y103 => (if y103.length + l0_1.length < 2199023255552 then ((some (([] : List (S105)) : List (S105))).bind fun y109 => (if y109.length + l0_3.length < 4398046511104 then ((spec_l10Sas.f k l0_4).bind fun t115 => ((spec_l10Sas.f k l0_5).bind fun t118 => (some (a0_0, (y103 ++ l0_1), a0_2, (y109 ++ l0_3), t115, t118)))) else (none))) else (none))
def spec_l10Copy.T1 : Bool × List (List Nat × List Nat) := (true, [([], []), ([0], [0]), ([], []), ([], []), ([3], [3]), ([2, 4], [2, 4]), ([], []), ([6], [6]), ([7], [7]), ([], []), ([], []), ([10], [10]), ([11], [11]), ([9, 12, 5], [9, 12]), ([8, 13], [8, 13]), ([], []), ([15], [15]), ([16, 13], [16]), ([], []), ([18], [18]), ([19, 17], [19]), ([1, 5, 14, 17, 20], [1, 5, 14, 17, 20]), ([21, 20, 0, 1, 2, 3, 4, 5, 6, 7, 8, 9, 10, 11, 12, 13, 14, 15, 16, 17, 18, 19, 20, 21], [21])])
def spec_l10Copy.B1 : List Nat := [0, 1, 0, 0, 8, 28, 0, 64, 192, 0, 0, 1024, 3072, 7740, 16380, 0, 32768, 114236, 0, 262144, 1031740, 2097151, 4194303]
theorem spec_l10Copy.tab1 : rtab .any (opsOf Tryz.f23 1) = spec_l10Copy.T1 := by kernel_rfl
theorem spec_l10Copy.bits1 : waitsOk spec_l10Copy.T1.2 spec_l10Copy.B1 = true := by kernel_rfl
theorem spec_l10Copy.calls (k : Nat) (aJ : Int) (bH : Option Addr) (bI : Nat) (aT : List (S92)) (aK : Int) (bJ : Option Addr) (bK : Nat) (aM : List (S105)) (bC : Option Addr) (bD : Nat) (aW : List (S48)) (bE : Option Addr) (bF : Nat) (aV : List (S48)) (r1 : Int) (r2 : List (S92)) (r3 : Int) (r4 : List (S105)) (r5 : List (S48)) (r6 : List (S48)) (w : World) (cJ : Kd.C k92 w bH aT.length aT) (cK : aT.length ≤ bI) (cL : Kd.C k105 w bJ aM.length aM) (cM : aM.length ≤ bK) (cN : Kd.C k48 w bC aW.length aW) (cO : aW.length ≤ bD) (cP : Kd.C k48 w bE aV.length aV) (cQ : aV.length ≤ bF) (h : spec_l10Copy.f k aJ aT aK aM aW aV = some (r1, r2, r3, r4, r5, r6)) :
  Calls Tryz.prog 23 #[.agg #[.int .i64 aJ, .slice bH aT.length bI, .int .i64 aK, .slice bJ aM.length bK, .slice bC aW.length bD, .slice bE aV.length bF]] w fun e w' => ∃ v1_ v3_ v4_ v5_ : Value, e = .returned (.agg #[.int .i64 r1, v1_, .int .i64 r3, v3_, v4_, v5_]) ∧ Kd.R k92 92 w' w.heap.size (fun _ => True) v1_ r2 ∧ Kd.R k105 105 w' w.heap.size (fun _ => True) v3_ r4 ∧ Kd.S k48 48 w' w.heap.size (fun k_ => some k_ ≠ (v5_ : Value).ownBlock) v4_ r5 ∧ Kd.S k48 48 w' w.heap.size (fun k_ => some k_ ≠ (v4_ : Value).ownBlock) v5_ r6 ∧ Below w.heap.size w w' := by
 have dM := Tryz.underlying42
 have dN := Tryz.underlying39
 have cE := Aside0.mk cJ
 have dH := Aside0.mk cK
 clear cJ cK
 have cW := Aside0.mk cL
 have dI := Aside0.mk cM
 clear cL cM
 have cX := Aside0.mk cN
 have cY := Aside0.mk cO
 clear cN cO
 have cZ := Aside0.mk cP
 have dA := Aside0.mk cQ
 clear cP cQ
 have HB := am (Below.refl w.heap.size w)
 have H : ((some (([] : List (S92)) : List (S92))).bind fun bN => (if bN.length + aT.length < 2199023255552 then ((some (([] : List (S105)) : List (S105))).bind fun bA => (if bA.length + aM.length < 4398046511104 then ((spec_l10Sas.f k aW).bind fun aY => ((spec_l10Sas.f k aV).bind fun aZ => (some (aJ, (bN ++ aT), aK, (bA ++ aM), aY, aZ)))) else (none))) else (none))) = some (r1, r2, r3, r4, r5, r6) := h
 clear h
 obtain ⟨bN, bS⟩ : ∃ y_ : List (S92), y_ = (([] : List (S92))) := ⟨_, rfl⟩
 replace H : (if bN.length + aT.length < 2199023255552 then ((some (([] : List (S105)) : List (S105))).bind fun bA => (if bA.length + aM.length < 4398046511104 then ((spec_l10Sas.f k aW).bind fun aY => ((spec_l10Sas.f k aV).bind fun aZ => (some (aJ, (bN ++ aT), aK, (bA ++ aM), aY, aZ)))) else (none))) else (none)) = some (r1, r2, r3, r4, r5, r6) := by first | (rw [bS]; with_reducible exact H) | (have H2_ := (Option.bind_some _ _).symm.trans H; rw [bS]; with_reducible exact H2_) | (have H2_ := (Option.bind_some _ _).symm.trans H; with_reducible exact H2_) | with_reducible exact H | (rw [bS]; exact H) | exact H
 have Ny103 := Aside0.mk bS
 clear bS
 by_cases c2 : bN.length + aT.length < 2199023255552
 ·rw [if_pos c2] at H
  have LMc2 := Aside0.mk c2
  clear c2
  obtain ⟨bB, bT⟩ : ∃ y_ : List (S92), y_ = (bN ++ aT) := ⟨_, rfl⟩
  replace H : ((some (([] : List (S105)) : List (S105))).bind fun bA => (if bA.length + aM.length < 4398046511104 then ((spec_l10Sas.f k aW).bind fun aY => ((spec_l10Sas.f k aV).bind fun aZ => (some (aJ, bB, aK, (bA ++ aM), aY, aZ)))) else (none))) = some (r1, r2, r3, r4, r5, r6) := by first | (rw [bT]; with_reducible exact H) | (have H2_ := (Option.bind_some _ _).symm.trans H; rw [bT]; with_reducible exact H2_) | (have H2_ := (Option.bind_some _ _).symm.trans H; with_reducible exact H2_) | with_reducible exact H | (rw [bT]; exact H) | exact H
  have Ny106 := Aside0.mk bT
  clear bT
  obtain ⟨bA, bU⟩ : ∃ y_ : List (S105), y_ = (([] : List (S105))) := ⟨_, rfl⟩
  replace H : (if bA.length + aM.length < 4398046511104 then ((spec_l10Sas.f k aW).bind fun aY => ((spec_l10Sas.f k aV).bind fun aZ => (some (aJ, bB, aK, (bA ++ aM), aY, aZ)))) else (none)) = some (r1, r2, r3, r4, r5, r6) := by first | (rw [bU]; with_reducible exact H) | (have H2_ := (Option.bind_some _ _).symm.trans H; rw [bU]; with_reducible exact H2_) | (have H2_ := (Option.bind_some _ _).symm.trans H; with_reducible exact H2_) | with_reducible exact H | (rw [bU]; exact H) | exact H
  have Ny109 := Aside0.mk bU
  clear bU
  by_cases c3 : bA.length + aM.length < 4398046511104
  ·rw [if_pos c3] at H
   have LMc3 := Aside0.mk c3
   clear c3
   obtain ⟨bO, bV⟩ : ∃ y_ : List (S105), y_ = (bA ++ aM) := ⟨_, rfl⟩
   replace H : ((spec_l10Sas.f k aW).bind fun aY => ((spec_l10Sas.f k aV).bind fun aZ => (some (aJ, bB, aK, bO, aY, aZ)))) = some (r1, r2, r3, r4, r5, r6) := by first | (rw [bV]; with_reducible exact H) | (have H2_ := (Option.bind_some _ _).symm.trans H; rw [bV]; with_reducible exact H2_) | (have H2_ := (Option.bind_some _ _).symm.trans H; with_reducible exact H2_) | with_reducible exact H | (rw [bV]; exact H) | exact H
   have Ny112 := Aside0.mk bV
   clear bV
   replace H := bm H
   obtain ⟨aY, dJ, H⟩ := H
   replace H : ((spec_l10Sas.f k aV).bind fun aZ => (some (aJ, bB, aK, bO, aY, aZ))) = some (r1, r2, r3, r4, r5, r6) := H
   have A4 := Aside0.mk dJ
   clear dJ
   replace H := bm H
   obtain ⟨aZ, dK, H⟩ := H
   replace H : (some (aJ, bB, aK, bO, aY, aZ)) = some (r1, r2, r3, r4, r5, r6) := H
   have A5 := Aside0.mk dK
   clear dK
   simp only [Option.some.injEq, Prod.mk.injEq] at H
   obtain ⟨rfl, rfl, rfl, rfl, rfl, rfl⟩ := H
   go_enter Tryz.func23, Tryz.ntmps23
   try go_wp2_with (first | ((with_reducible refine gate_dst (N := 1) rfl ?_); refine box_event rfl (N := 1) rfl (cs := #[.int .i64 aJ, .slice bH aT.length bI, .int .i64 aK, .slice bJ aM.length bK, .slice bC aW.length bD, .slice bE aV.length bF]) (t := 42) BX ?_; intro aX hg w6 cF hb; have aA := am (cF); have dB := am (GH HB hg); have aH := dB; replace HB := bl (KL HB) hb; clear hb cF hg) | ((with_reducible refine gate_dst (N := 2) rfl ?_); refine box_event rfl (N := 2) rfl (cs := #[.int .i64 0, .slice none 0 0, .int .i64 0, .slice none 0 0, .slice none 0 0, .slice none 0 0]) (t := 42) BX ?_; intro aD hg w7 cF hb; have aE := am (cF); have dC := am (GH1 HB aH.out hg); have aI := dC; replace HB := bl (K1 HB aH.out) hb; have aC := am (NL aA hg); have aU := am (NG aA hg); replace aA := am (BB aA hb); clear hb cF hg))
   replace aA := am (blk_drew aA.out)
   replace aE := am (blk_drew aE.out)
   replace HB := am (below_drew1 HB.out)
   refine start_ (n := 23) (S := fun w' => de6 w' aX (.int .i64 aJ) (.slice bH aT.length bI) (.int .i64 aK) (.slice bJ aM.length bK) (.slice bC aW.length bD) (.slice bE aV.length bF)) (ds := []) (tf 0 23) (by kernel_rfl) rfl rfl ⟨z0 _ aA.out, z1 _ aA.out, z2 _ aA.out, z3 _ aA.out, z4 _ aA.out, z5 _ aA.out⟩ (fun aG => ?_); refine with_tabW spec_l10Copy.tab1 spec_l10Copy.bits1 (fun bG cS => ?_)
   generalize w7.drew = w8 at aA aE HB aG ⊢
   refine pv bG 0 3 (tf 1 22) ?_
   refine pv bG 3 6 (tr [1, 2, 1, 19]) ?_
   refine pv bG 6 9 (tr [1, 2, 1, 2, 1, 16]) ?_
   refine pv bG 7 10 (tr [1, 2, 1, 2, 2, 15]) ?_
   refine pv bG 10 13 (tr [1, 2, 1, 2, 2, 2, 1, 12]) ?_
   refine pv bG 11 14 (tr [1, 2, 1, 2, 2, 2, 2, 11]) ?_
   refine pv bG 15 18 (tr [1, 2, 1, 2, 2, 2, 2, 3, 1, 7]) ?_
   refine pv bG 18 21 (tr [1, 2, 1, 2, 2, 2, 2, 3, 1, 2, 1, 4]) ?_
   refine tk 1 (some 4) (tr [2, 1, 1, 2, 2, 2, 2, 3, 1, 2, 1, 4]) (take_ofW bG.out cS.out (by kernel_rfl)) aG ?_
   refine tk 4 (some 7) (tr [2, 1, 2, 1, 2, 2, 2, 3, 1, 2, 1, 4]) (take_ofW bG.out cS.out (by kernel_rfl)) aG ?_
   refine tk 8 (some 11) (tr [2, 1, 2, 1, 3, 1, 2, 3, 1, 2, 1, 4]) (take_ofW bG.out cS.out (by kernel_rfl)) aG ?_
   refine tk 12 (some 15) (tr [2, 1, 2, 1, 3, 1, 3, 2, 1, 2, 1, 4]) (take_ofW bG.out cS.out (by kernel_rfl)) aG ?_
   refine tk 16 (some 19) (tr [2, 1, 2, 1, 3, 1, 3, 2, 2, 1, 1, 4]) (take_ofW bG.out cS.out (by kernel_rfl)) aG ?_
   refine tk 19 (some 22) (tr [2, 1, 2, 1, 3, 1, 3, 2, 2, 1, 2, 3]) (take_ofW bG.out cS.out (by kernel_rfl)) aG ?_
   refine join_ (σ := Value × Value × Value) 6 (tr [13, 2, 2, 1, 2, 3]) (fun s_ => [(5, s_.1), (8, s_.2.1), (12, s_.2.2)]) (fun s_ w' => (w'.cell? ⟨aX, 0, none⟩ = some (.int .i64 aJ) ∧ w'.cell? ⟨aX, 1, none⟩ = some (.slice bH aT.length bI) ∧ w'.cell? ⟨aX, 2, none⟩ = some (.int .i64 aK) ∧ w'.cell? ⟨aX, 3, none⟩ = some (.slice bJ aM.length bK) ∧ w'.cell? ⟨aX, 4, none⟩ = some (.slice bC aW.length bD) ∧ w'.cell? ⟨aX, 5, none⟩ = some (.slice bE aV.length bF)) ∧ (Kd.R k92 92 w' w.heap.size (fun _ => True) s_.2.1 bB) ∧ (Kd.R k105 105 w' w.heap.size (fun _ => True) s_.2.2 bA) ∧ (w'.heap[aX]? = some (.cells #[.int .i64 aJ, .slice bH aT.length bI, .int .i64 aK, .slice bJ aM.length bK, .slice bC aW.length bD, .slice bE aV.length bF] 42 (0, 0))) ∧ (w'.heap[aD]? = some (.cells #[.int .i64 0, .slice none 0 0, .int .i64 0, .slice none 0 0, .slice none 0 0, .slice none 0 0] 42 (0, 0))) ∧ (Below w.heap.size w w')) ?_ ?_
   rotate_left
   ·intro hCont
    refine two_ (i := 2) (j := 9) (Ni := some 5) (Nj := some 12) (tr [5, 1, 3, 1, 3, 2, 2, 1, 2, 3]) (tr [2, 1, 2, 1, 7, 2, 2, 1, 2, 3]) rfl rfl rfl rfl (two_of bG.out (by kernel_rfl)) (by decide) (by decide) (fun K hK => ?_) (fun K hK => ?_)
    ·skip
     refine Kd.R_lit_step k92 _ 92 ?hg (N := 5) ?hd (xs := ([] : List (S92))) (inner := []) (ok := fun _ => True) (okp := fun _ => True) ?hr ?hp (fun _ hk => hk) trivial (Below.refl _ _) (Nat.le_refl _) (by simp) ?_; (case hd => rfl); (case hg => rfl); (case hr => first | (go_simp; done) | (go_simp; rfl)); (case hp => exact (Reps.none _ _))
     intro bW w9 bL hb hg_ hnew_
     clear hg_ hnew_
     (first | rw [← Ny103.out] at bL | (simp only [Int.reduceToNat] at bL; rw [← Ny103.out] at bL))
     have aN := am (Kd.R_lower bL (below_size (K2 HB aH.out aI.out)))
     replace aA := am (BB aA hb)
     replace aE := am (BB aE hb)
     replace HB := bl (K2 HB aH.out aI.out) hb
     clear hb bL
     refine hK.out _ _ ⟨z0 _ aA.out, z1 _ aA.out, z2 _ aA.out, z3 _ aA.out, z4 _ aA.out, z5 _ aA.out⟩ (fun aG => ?_)
     clear hK K
     refine nm (some 5) ?_
     refine two_ (i := 5) (j := 9) (Ni := some 8) (Nj := some 12) (tr [9, 1, 3, 2, 2, 1, 2, 3]) (tr [5, 1, 7, 2, 2, 1, 2, 3]) rfl rfl rfl rfl (two_of bG.out (by kernel_rfl)) (by decide) (by decide) (fun K hK => ?_) (fun K hK => ?_)
     ·skip
      refine Kd.R_append_rows_step k92 (w0 := w) w.heap.size (by rfl) (.tmp 5) (.tmp 7) 36 92 (.agg #[(.int .i64 0), (.int .i64 0), (.int .i64 0), (.int .i64 0), (.int .i64 0), (.int .i64 0), (.int .i64 0), (.int .i64 0)]) 64 rfl Tryz.underlying36 info92 rfl (by decide) (by omega) bW bN aT _ _ _ (fun _ => True) (fun _ => False) rfl rfl ?aO ?aR (fun _ _ h => h) (fun _ h => h.elim) ?aF ?aB ?aS ?aL ?_
      (case aR => exact KD cE HB)
      (case aB => exact (K2 HB aH.out aI.out))
      (case aF => exact (fun _ _ => trivial))
      (case aO => exact (KR aN))
      (case aS => exact (below_size (K2 HB aH.out aI.out)))
      (case aL => have := LMc2.out; omega)
      intro bZ dL ho hb hg hat
      rw [← Ny106.out] at ho
      replace aA := am (blk_grown (g := aX) (o := .cells #[.int .i64 aJ, .slice bH aT.length bI, .int .i64 aK, .slice bJ aM.length bK, .slice bC aW.length bD, .slice bE aV.length bF] 42 (0, 0)) (KB aA) hg (Kd.R_ne aN.out aA.out (by decide)))
      replace aE := am (blk_grown (g := aD) (o := .cells #[.int .i64 0, .slice none 0 0, .int .i64 0, .slice none 0 0, .slice none 0 0, .slice none 0 0] 42 (0, 0)) (KB aE) hg (Kd.R_ne aN.out aE.out (by decide)))
      replace HB := am (hb)
      have aQ := am (ho)
      clear aN
      clear ho hb hg hat
      refine hK.out _ _ ⟨z0 _ aA.out, z1 _ aA.out, z2 _ aA.out, z3 _ aA.out, z4 _ aA.out, z5 _ aA.out⟩ (fun aG => ?_)
      clear hK K
      refine nm (some 8) ?_
      refine one_ (i := 9) (N := some 12) (tr [13, 2, 2, 1, 2, 3]) rfl rfl (one_of bG.out (by kernel_rfl)) (by decide) (fun K hK => ?_)
      refine Kd.R_lit_step k105 _ 105 ?hg (N := 12) ?hd (xs := ([] : List (S105))) (inner := []) (ok := fun _ => True) (okp := fun _ => True) ?hr ?hp (fun _ hk => hk) trivial (Below.refl _ _) (Nat.le_refl _) (by simp) ?_; (case hd => rfl); (case hg => rfl); (case hr => first | (go_simp; done) | (go_simp; rfl)); (case hp => exact (Reps.none _ _))
      intro bX dS cG hb hg_ hnew_
      clear hg_ hnew_
      (first | rw [← Ny109.out] at cG | (simp only [Int.reduceToNat] at cG; rw [← Ny109.out] at cG))
      replace aQ := am (Kd.R_below (KR aQ) hb)
      have aP := am (Kd.R_lower cG (below_size (K2 HB aH.out aI.out)))
      replace aA := am (BB aA hb)
      replace aE := am (BB aE hb)
      replace HB := bl (K2 HB aH.out aI.out) hb
      clear hb cG
      refine hK.out _ _ ⟨z0 _ aA.out, z1 _ aA.out, z2 _ aA.out, z3 _ aA.out, z4 _ aA.out, z5 _ aA.out⟩ (fun aG => ?_)
      clear hK K
      refine nm (some 12) ?_
      exact norm_ (by simp only [putAll, Act.put, List.setIfInBounds_toArray, List.set_cons_zero, List.set_cons_succ]) (hCont (bW, bZ, bX) _ ⟨aG, (KR aQ), (KR aP), (KB aA), (KB aE), (K2 HB aH.out aI.out)⟩)
     ·skip
      refine Kd.R_lit_step k105 _ 105 ?hg (N := 12) ?hd (xs := ([] : List (S105))) (inner := []) (ok := fun _ => True) (okp := fun _ => True) ?hr ?hp (fun _ hk => hk) trivial (Below.refl _ _) (Nat.le_refl _) (by simp) ?_; (case hd => rfl); (case hg => rfl); (case hr => first | (go_simp; done) | (go_simp; rfl)); (case hp => exact (Reps.none _ _))
      intro bX dL bM hb hg_ hnew_
      clear hg_ hnew_
      (first | rw [← Ny109.out] at bM | (simp only [Int.reduceToNat] at bM; rw [← Ny109.out] at bM))
      replace aN := am (Kd.R_below (KR aN) hb)
      have aP := am (Kd.R_lower bM (below_size (K2 HB aH.out aI.out)))
      replace aA := am (BB aA hb)
      replace aE := am (BB aE hb)
      replace HB := bl (K2 HB aH.out aI.out) hb
      clear hb bM
      refine hK.out _ _ ⟨z0 _ aA.out, z1 _ aA.out, z2 _ aA.out, z3 _ aA.out, z4 _ aA.out, z5 _ aA.out⟩ (fun aG => ?_)
      clear hK K
      refine nm (some 12) ?_
      refine one_ (i := 5) (N := some 8) (tr [13, 2, 2, 1, 2, 3]) rfl rfl (one_of bG.out (by kernel_rfl)) (by decide) (fun K hK => ?_)
      refine Kd.R_append_rows_step k92 (w0 := w) w.heap.size (by rfl) (.tmp 5) (.tmp 7) 36 92 (.agg #[(.int .i64 0), (.int .i64 0), (.int .i64 0), (.int .i64 0), (.int .i64 0), (.int .i64 0), (.int .i64 0), (.int .i64 0)]) 64 rfl Tryz.underlying36 info92 rfl (by decide) (by omega) bW bN aT _ _ _ (fun _ => True) (fun _ => False) rfl rfl ?aO ?aR (fun _ _ h => h) (fun _ h => h.elim) ?aF ?aB ?aS ?aL ?_
      (case aR => exact KD cE HB)
      (case aB => exact (K2 HB aH.out aI.out))
      (case aF => exact (fun _ _ => trivial))
      (case aO => exact (KR aN))
      (case aS => exact (below_size (K2 HB aH.out aI.out)))
      (case aL => have := LMc2.out; omega)
      intro bZ dO ho hb hg hat
      rw [← Ny106.out] at ho
      replace aA := am (blk_grown (g := aX) (o := .cells #[.int .i64 aJ, .slice bH aT.length bI, .int .i64 aK, .slice bJ aM.length bK, .slice bC aW.length bD, .slice bE aV.length bF] 42 (0, 0)) (KB aA) hg (Kd.R_ne aN.out aA.out (by decide)))
      replace aE := am (blk_grown (g := aD) (o := .cells #[.int .i64 0, .slice none 0 0, .int .i64 0, .slice none 0 0, .slice none 0 0, .slice none 0 0] 42 (0, 0)) (KB aE) hg (Kd.R_ne aN.out aE.out (by decide)))
      replace aP := am (Kd.R_over' (KR aP) (Kd.R_typed (KR aN)) (by decide) hg)
      replace HB := am (hb)
      have aQ := am (ho)
      clear aN
      clear ho hb hg hat
      refine hK.out _ _ ⟨z0 _ aA.out, z1 _ aA.out, z2 _ aA.out, z3 _ aA.out, z4 _ aA.out, z5 _ aA.out⟩ (fun aG => ?_)
      clear hK K
      refine nm (some 8) ?_
      exact norm_ (by simp only [putAll, Act.put, List.setIfInBounds_toArray, List.set_cons_zero, List.set_cons_succ]) (hCont (bW, bZ, bX) _ ⟨aG, (KR aQ), (KR aP), (KB aA), (KB aE), (K2 HB aH.out aI.out)⟩)
    ·skip
     refine Kd.R_lit_step k105 _ 105 ?hg (N := 12) ?hd (xs := ([] : List (S105))) (inner := []) (ok := fun _ => True) (okp := fun _ => True) ?hr ?hp (fun _ hk => hk) trivial (Below.refl _ _) (Nat.le_refl _) (by simp) ?_; (case hd => rfl); (case hg => rfl); (case hr => first | (go_simp; done) | (go_simp; rfl)); (case hp => exact (Reps.none _ _))
     intro bX w9 bL hb hg_ hnew_
     clear hg_ hnew_
     (first | rw [← Ny109.out] at bL | (simp only [Int.reduceToNat] at bL; rw [← Ny109.out] at bL))
     have aP := am (Kd.R_lower bL (below_size (K2 HB aH.out aI.out)))
     replace aA := am (BB aA hb)
     replace aE := am (BB aE hb)
     replace HB := bl (K2 HB aH.out aI.out) hb
     clear hb bL
     refine hK.out _ _ ⟨z0 _ aA.out, z1 _ aA.out, z2 _ aA.out, z3 _ aA.out, z4 _ aA.out, z5 _ aA.out⟩ (fun aG => ?_)
     clear hK K
     refine nm (some 12) ?_
     refine one_ (i := 2) (N := some 5) (tr [5, 1, 7, 2, 2, 1, 2, 3]) rfl rfl (one_of bG.out (by kernel_rfl)) (by decide) (fun K hK => ?_)
     refine Kd.R_lit_step k92 _ 92 ?hg (N := 5) ?hd (xs := ([] : List (S92))) (inner := []) (ok := fun _ => True) (okp := fun _ => True) ?hr ?hp (fun _ hk => hk) trivial (Below.refl _ _) (Nat.le_refl _) (by simp) ?_; (case hd => rfl); (case hg => rfl); (case hr => first | (go_simp; done) | (go_simp; rfl)); (case hp => exact (Reps.none _ _))
     intro bW dL bM hb hg_ hnew_
     clear hg_ hnew_
     (first | rw [← Ny103.out] at bM | (simp only [Int.reduceToNat] at bM; rw [← Ny103.out] at bM))
     replace aP := am (Kd.R_below (KR aP) hb)
     have aN := am (Kd.R_lower bM (below_size (K2 HB aH.out aI.out)))
     replace aA := am (BB aA hb)
     replace aE := am (BB aE hb)
     replace HB := bl (K2 HB aH.out aI.out) hb
     clear hb bM
     refine hK.out _ _ ⟨z0 _ aA.out, z1 _ aA.out, z2 _ aA.out, z3 _ aA.out, z4 _ aA.out, z5 _ aA.out⟩ (fun aG => ?_)
     clear hK K
     refine nm (some 5) ?_
     refine one_ (i := 5) (N := some 8) (tr [13, 2, 2, 1, 2, 3]) rfl rfl (one_of bG.out (by kernel_rfl)) (by decide) (fun K hK => ?_)
     refine Kd.R_append_rows_step k92 (w0 := w) w.heap.size (by rfl) (.tmp 5) (.tmp 7) 36 92 (.agg #[(.int .i64 0), (.int .i64 0), (.int .i64 0), (.int .i64 0), (.int .i64 0), (.int .i64 0), (.int .i64 0), (.int .i64 0)]) 64 rfl Tryz.underlying36 info92 rfl (by decide) (by omega) bW bN aT _ _ _ (fun _ => True) (fun _ => False) rfl rfl ?aO ?aR (fun _ _ h => h) (fun _ h => h.elim) ?aF ?aB ?aS ?aL ?_
     (case aR => exact KD cE HB)
     (case aB => exact (K2 HB aH.out aI.out))
     (case aF => exact (fun _ _ => trivial))
     (case aO => exact (KR aN))
     (case aS => exact (below_size (K2 HB aH.out aI.out)))
     (case aL => have := LMc2.out; omega)
     intro bZ dO ho hb hg hat
     rw [← Ny106.out] at ho
     replace aA := am (blk_grown (g := aX) (o := .cells #[.int .i64 aJ, .slice bH aT.length bI, .int .i64 aK, .slice bJ aM.length bK, .slice bC aW.length bD, .slice bE aV.length bF] 42 (0, 0)) (KB aA) hg (Kd.R_ne aN.out aA.out (by decide)))
     replace aE := am (blk_grown (g := aD) (o := .cells #[.int .i64 0, .slice none 0 0, .int .i64 0, .slice none 0 0, .slice none 0 0, .slice none 0 0] 42 (0, 0)) (KB aE) hg (Kd.R_ne aN.out aE.out (by decide)))
     replace aP := am (Kd.R_over' (KR aP) (Kd.R_typed (KR aN)) (by decide) hg)
     replace HB := am (hb)
     have aQ := am (ho)
     clear aN
     clear ho hb hg hat
     refine hK.out _ _ ⟨z0 _ aA.out, z1 _ aA.out, z2 _ aA.out, z3 _ aA.out, z4 _ aA.out, z5 _ aA.out⟩ (fun aG => ?_)
     clear hK K
     refine nm (some 8) ?_
     exact norm_ (by simp only [putAll, Act.put, List.setIfInBounds_toArray, List.set_cons_zero, List.set_cons_succ]) (hCont (bW, bZ, bX) _ ⟨aG, (KR aQ), (KR aP), (KB aA), (KB aE), (K2 HB aH.out aI.out)⟩)
   rintro ⟨bW, bZ, bX⟩ cT ⟨hS_, h0_, h1_, h2_, h3_, h4_⟩
   have aQ : Aside0 (Kd.R k92 92 cT w.heap.size (fun _ => True) bZ bB) := ⟨h0_⟩
   have aP : Aside0 (Kd.R k105 105 cT w.heap.size (fun _ => True) bX bA) := ⟨h1_⟩
   replace aA : Aside0 (bk cT aX #[.int .i64 aJ, .slice bH aT.length bI, .int .i64 aK, .slice bJ aM.length bK, .slice bC aW.length bD, .slice bE aV.length bF] 42) := ⟨h2_⟩
   replace aE : Aside0 (bk cT aD #[.int .i64 0, .slice none 0 0, .int .i64 0, .slice none 0 0, .slice none 0 0, .slice none 0 0] 42) := ⟨h3_⟩
   replace HB : Aside0 (Below w.heap.size w cT) := ⟨h4_⟩
   clear h0_ h1_ h2_ h3_ h4_
   have aG : de6 cT aX (.int .i64 aJ) (.slice bH aT.length bI) (.int .i64 aK) (.slice bJ aM.length bK) (.slice bC aW.length bD) (.slice bE aV.length bF) := hS_
   refine norm_ (a' := ?_) ?_ ?_
   rotate_left
   ·simp only [putAll, Act.put, List.setIfInBounds_toArray, List.set_cons_zero, List.set_cons_succ]
    rfl
   refine one_ (i := 13) (N := some 16) (tr [14, 1, 2, 1, 2, 3]) rfl rfl (one_of bG.out (by kernel_rfl)) (by decide) (fun K hK => ?_)
   refine Kd.R_append_rows_step k105 (w0 := w) w.heap.size (by rfl) (.tmp 12) (.tmp 15) 37 105 (.agg #[(.int .i64 0), (.int .i64 0), (.int .i64 0), (.int .i64 0)]) 32 rfl Tryz.underlying37 info105 rfl (by decide) (by omega) bX bA aM _ _ _ (fun _ => True) (fun _ => False) rfl rfl ?aO ?aR (fun _ _ h => h) (fun _ h => h.elim) ?aF ?aB ?aS ?aL ?_
   (case aR => exact KD cW HB)
   (case aB => exact (K2 HB aH.out aI.out))
   (case aF => exact (fun _ _ => trivial))
   (case aO => exact (KR aP))
   (case aS => exact (below_size (K2 HB aH.out aI.out)))
   (case aL => have := LMc3.out; omega)
   intro dP dT ho hb hg hat
   rw [← Ny112.out] at ho
   replace aA := am (blk_grown (g := aX) (o := .cells #[.int .i64 aJ, .slice bH aT.length bI, .int .i64 aK, .slice bJ aM.length bK, .slice bC aW.length bD, .slice bE aV.length bF] 42 (0, 0)) (KB aA) hg (Kd.R_ne aP.out aA.out (by decide)))
   replace aE := am (blk_grown (g := aD) (o := .cells #[.int .i64 0, .slice none 0 0, .int .i64 0, .slice none 0 0, .slice none 0 0, .slice none 0 0] 42 (0, 0)) (KB aE) hg (Kd.R_ne aP.out aE.out (by decide)))
   replace aQ := am (Kd.R_over' (KR aQ) (Kd.R_typed (KR aP)) (by decide) hg)
   replace HB := am (hb)
   have bP := am (ho)
   clear aP
   clear ho hb hg hat
   obtain ⟨cA, cB, dD⟩ := Kd.R_slice bP.out
   (first | subst dD | (injection dD with f1_ f2_ f3_; have f4_ := f1_.symm; have f5_ := f3_.symm; clear f1_ f2_ f3_; subst f4_; subst f5_))
   refine hK.out _ _ ⟨z0 _ aA.out, z1 _ aA.out, z2 _ aA.out, z3 _ aA.out, z4 _ aA.out, z5 _ aA.out⟩ (fun aG => ?_)
   clear hK K
   refine nm (some 16) ?_
   refine pv bG 14 17 (tr [17, 1, 2, 3]) ?_
   refine one_ (i := 17) (N := some 20) (tf 20 3) rfl rfl (one_of bG.out (by kernel_rfl)) (by decide) (fun K hK => ?_)
   refine goes_ Tryz.func57 (by kernel_rfl) rfl #[.slice bC aW.length bD] (by rfl) rfl rfl MT ?_
   with_reducible refine (spec_l10Sas.calls k _ _ aW aY _ ?_ ?_ A4.out).mono ?_
   exact KD cX HB
   exact cY.out
   rintro e dU ⟨dQ, rfl, cU, hb⟩
   refine ⟨_, rfl, ?_⟩
   replace aQ := am (Kd.R_below (KR aQ) hb)
   replace bP := am (Kd.R_below (KR bP) hb)
   have bY := am (Kd.S_lower cU (below_size (K2 HB aH.out aI.out)))
   replace aA := am (BB aA hb)
   replace aE := am (BB aE hb)
   replace HB := bl (K2 HB aH.out aI.out) hb
   (try clear hb)
   (try clear hb2)
   (try clear hk)
   (try clear hi)
   (try clear cU)
   refine hK.out _ _ ⟨z0 _ aA.out, z1 _ aA.out, z2 _ aA.out, z3 _ aA.out, z4 _ aA.out, z5 _ aA.out⟩ (fun aG => ?_)
   clear hK K
   refine nm (some 20) ?_
   refine one_ (i := 20) (N := some 23) (tf 21 2) rfl rfl (one_of bG.out (by kernel_rfl)) (by decide) (fun K hK => ?_)
   refine goes_ Tryz.func57 (by kernel_rfl) rfl #[.slice bE aV.length bF] (by rfl) rfl rfl MT ?_
   with_reducible refine (spec_l10Sas.calls k _ _ aV aZ _ ?_ ?_ A5.out).mono ?_
   exact KD cZ HB
   exact dA.out
   rintro e cV ⟨dR, rfl, cU, hb⟩
   refine ⟨_, rfl, ?_⟩
   replace aQ := am (Kd.R_below (KR aQ) hb)
   replace bP := am (Kd.R_below (KR bP) hb)
   have cR := am (Kd.S_lower (Kd.S_new' cU (Kd.S_lt (KX bY.out))) (below_size (K2 HB aH.out aI.out)))
   replace bY := am (Kd.S_elder' (KX bY.out) (Kd.S_base cU) hb)
   replace aA := am (BB aA hb)
   replace aE := am (BB aE hb)
   replace HB := bl (K2 HB aH.out aI.out) hb
   (try clear hb)
   (try clear hb2)
   (try clear hk)
   (try clear hi)
   (try clear cU)
   obtain ⟨cH, cI, dE⟩ := Kd.S_slice cR.out
   (first | subst dE | (injection dE with f1_ f2_ f3_; have f4_ := f1_.symm; have f5_ := f3_.symm; clear f1_ f2_ f3_; subst f4_; subst f5_))
   obtain ⟨cC, cD, dF⟩ := Kd.S_slice bY.out
   (first | subst dF | (injection dF with f1_ f2_ f3_; have f4_ := f1_.symm; have f5_ := f3_.symm; clear f1_ f2_ f3_; subst f4_; subst f5_))
   obtain ⟨bQ, bR, dG⟩ := Kd.R_slice aQ.out
   (first | subst dG | (injection dG with f1_ f2_ f3_; have f4_ := f1_.symm; have f5_ := f3_.symm; clear f1_ f2_ f3_; subst f4_; subst f5_))
   refine hK.out _ _ ⟨z0 _ aA.out, z1 _ aA.out, z2 _ aA.out, z3 _ aA.out, z4 _ aA.out, z5 _ aA.out⟩ (fun aG => ?_)
   clear hK K
   refine nm (some 23) ?_
   refine pv bG 21 24 (tf 22 1) ?_
   refine one_ (i := 22) (N := none) (tf 23 0) rfl rfl (one_of bG.out (by kernel_rfl)) (by decide) (fun K hK => ?_)
   have hs22 : cV.cell? ⟨aD, 0, none⟩ = some (.int .i64 0) := z0 _ aE.out
   have hfs22 := blk_frozen aE.out 0
   have hns22_0 := aC.out
   have hms22_0 := aU.out
   have hs23 : cV.cell? ⟨aD, 1, none⟩ = some (.slice none 0 0) := z1 _ aE.out
   have hfs23 := blk_frozen aE.out 1
   have hns23_0 := aC.out
   have hms23_0 := aU.out
   have hs24 : cV.cell? ⟨aD, 2, none⟩ = some (.int .i64 0) := z2 _ aE.out
   have hfs24 := blk_frozen aE.out 2
   have hns24_0 := aC.out
   have hms24_0 := aU.out
   have hs25 : cV.cell? ⟨aD, 3, none⟩ = some (.slice none 0 0) := z3 _ aE.out
   have hfs25 := blk_frozen aE.out 3
   have hns25_0 := aC.out
   have hms25_0 := aU.out
   have hs26 : cV.cell? ⟨aD, 4, none⟩ = some (.slice none 0 0) := z4 _ aE.out
   have hfs26 := blk_frozen aE.out 4
   have hns26_0 := aC.out
   have hms26_0 := aU.out
   have hs27 : cV.cell? ⟨aD, 5, none⟩ = some (.slice none 0 0) := z5 _ aE.out
   have hfs27 := blk_frozen aE.out 5
   have hns27_0 := aC.out
   have hms27_0 := aU.out
   refine skip_ (w1 := ?_) (by rfl) rfl ?_ ?_
   rotate_left
   ·go_simp
    rfl
   refine hK.out _ _ ⟨((cell_far (p := ⟨aD, _, none⟩) aC.out _).trans (((cell_far (p := ⟨aD, _, none⟩) aC.out _).trans (((cell_far (p := ⟨aD, _, none⟩) aC.out _).trans (((cell_far (p := ⟨aD, _, none⟩) aC.out _).trans (((cell_far (p := ⟨aD, _, none⟩) aC.out _).trans (((cell_far (p := ⟨aD, _, none⟩) aC.out _).trans (aG.1)))))))))))), ((cell_far (p := ⟨aD, _, none⟩) aC.out _).trans (((cell_far (p := ⟨aD, _, none⟩) aC.out _).trans (((cell_far (p := ⟨aD, _, none⟩) aC.out _).trans (((cell_far (p := ⟨aD, _, none⟩) aC.out _).trans (((cell_far (p := ⟨aD, _, none⟩) aC.out _).trans (((cell_far (p := ⟨aD, _, none⟩) aC.out _).trans (aG.2.1)))))))))))), ((cell_far (p := ⟨aD, _, none⟩) aC.out _).trans (((cell_far (p := ⟨aD, _, none⟩) aC.out _).trans (((cell_far (p := ⟨aD, _, none⟩) aC.out _).trans (((cell_far (p := ⟨aD, _, none⟩) aC.out _).trans (((cell_far (p := ⟨aD, _, none⟩) aC.out _).trans (((cell_far (p := ⟨aD, _, none⟩) aC.out _).trans (aG.2.2.1)))))))))))), ((cell_far (p := ⟨aD, _, none⟩) aC.out _).trans (((cell_far (p := ⟨aD, _, none⟩) aC.out _).trans (((cell_far (p := ⟨aD, _, none⟩) aC.out _).trans (((cell_far (p := ⟨aD, _, none⟩) aC.out _).trans (((cell_far (p := ⟨aD, _, none⟩) aC.out _).trans (((cell_far (p := ⟨aD, _, none⟩) aC.out _).trans (aG.2.2.2.1)))))))))))), ((cell_far (p := ⟨aD, _, none⟩) aC.out _).trans (((cell_far (p := ⟨aD, _, none⟩) aC.out _).trans (((cell_far (p := ⟨aD, _, none⟩) aC.out _).trans (((cell_far (p := ⟨aD, _, none⟩) aC.out _).trans (((cell_far (p := ⟨aD, _, none⟩) aC.out _).trans (((cell_far (p := ⟨aD, _, none⟩) aC.out _).trans (aG.2.2.2.2.1)))))))))))), ((cell_far (p := ⟨aD, _, none⟩) aC.out _).trans (((cell_far (p := ⟨aD, _, none⟩) aC.out _).trans (((cell_far (p := ⟨aD, _, none⟩) aC.out _).trans (((cell_far (p := ⟨aD, _, none⟩) aC.out _).trans (((cell_far (p := ⟨aD, _, none⟩) aC.out _).trans (((cell_far (p := ⟨aD, _, none⟩) aC.out _).trans (aG.2.2.2.2.2))))))))))))⟩ (fun aG => ?_)
   clear hK K
   refine done_ (done_of bG.out (by kernel_rfl)) ?_
   try go_wp2
   refine bodyPost_ret (results_cell_row rfl _ _ aD 42 #[.int .i64 aJ, .slice bQ bB.length bR, .int .i64 aK, .slice cA bO.length cB, .slice cC aY.length cD, .slice cH aZ.length cI] (0, 0) _ rfl (by refine BD ?_; refine blk_put (cs := #[.int .i64 aJ, .slice bQ bB.length bR, .int .i64 aK, .slice cA bO.length cB, .slice cC aY.length cD, .slice none 0 0]) ?_ 5 _ rfl; refine BD ?_; refine blk_put (cs := #[.int .i64 aJ, .slice bQ bB.length bR, .int .i64 aK, .slice cA bO.length cB, .slice none 0 0, .slice none 0 0]) ?_ 4 _ rfl; refine BD ?_; refine blk_put (cs := #[.int .i64 aJ, .slice bQ bB.length bR, .int .i64 aK, .slice none 0 0, .slice none 0 0, .slice none 0 0]) ?_ 3 _ rfl; refine BD ?_; refine blk_put (cs := #[.int .i64 aJ, .slice bQ bB.length bR, .int .i64 0, .slice none 0 0, .slice none 0 0, .slice none 0 0]) ?_ 2 _ rfl; refine BD ?_; refine blk_put (cs := #[.int .i64 aJ, .slice none 0 0, .int .i64 0, .slice none 0 0, .slice none 0 0, .slice none 0 0]) ?_ 1 _ rfl; refine BD ?_; refine blk_put (cs := #[.int .i64 0, .slice none 0 0, .int .i64 0, .slice none 0 0, .slice none 0 0, .slice none 0 0]) ?_ 0 _ rfl; refine BD ?_; exact aE.out) Tryz.underlying42 rfl (by kernel_rfl)) rfl ?_
   exact ⟨_, _, _, _, ER, by refine KW ?_; exact Kd.R_mono (Kd.R_far (p := ⟨aD, 5, none⟩) (Kd.R_far (p := ⟨aD, 4, none⟩) (Kd.R_far (p := ⟨aD, 3, none⟩) (Kd.R_far (p := ⟨aD, 2, none⟩) (Kd.R_far (p := ⟨aD, 1, none⟩) (Kd.R_far (p := ⟨aD, 0, none⟩) (Kd.R_types aQ.out aE.out (by decide)) (fun _ hk => hk.2) (.int .i64 aJ)) (fun _ hk => hk.2) (.slice bQ bB.length bR)) (fun _ hk => hk.2) (.int .i64 aK)) (fun _ hk => hk.2) (.slice cA bO.length cB)) (fun _ hk => hk.2) (.slice cC aY.length cD)) (fun _ hk => hk.2) (.slice cH aZ.length cI)) (fun _ hk => trivial), by refine KW ?_; exact Kd.R_mono (Kd.R_far (p := ⟨aD, 5, none⟩) (Kd.R_far (p := ⟨aD, 4, none⟩) (Kd.R_far (p := ⟨aD, 3, none⟩) (Kd.R_far (p := ⟨aD, 2, none⟩) (Kd.R_far (p := ⟨aD, 1, none⟩) (Kd.R_far (p := ⟨aD, 0, none⟩) (Kd.R_types bP.out aE.out (by decide)) (fun _ hk => hk.2) (.int .i64 aJ)) (fun _ hk => hk.2) (.slice bQ bB.length bR)) (fun _ hk => hk.2) (.int .i64 aK)) (fun _ hk => hk.2) (.slice cA bO.length cB)) (fun _ hk => hk.2) (.slice cC aY.length cD)) (fun _ hk => hk.2) (.slice cH aZ.length cI)) (fun _ hk => trivial), by refine KX ?_; exact Kd.S_mono (Kd.S_far (p := ⟨aD, 5, none⟩) (Kd.S_far (p := ⟨aD, 4, none⟩) (Kd.S_far (p := ⟨aD, 3, none⟩) (Kd.S_far (p := ⟨aD, 2, none⟩) (Kd.S_far (p := ⟨aD, 1, none⟩) (Kd.S_far (p := ⟨aD, 0, none⟩) (Kd.S_types bY.out aE.out (by decide)) (fun _ hk => hk.2) (.int .i64 aJ)) (fun _ hk => hk.2) (.slice bQ bB.length bR)) (fun _ hk => hk.2) (.int .i64 aK)) (fun _ hk => hk.2) (.slice cA bO.length cB)) (fun _ hk => hk.2) (.slice cC aY.length cD)) (fun _ hk => hk.2) (.slice cH aZ.length cI)) (fun _ hk => hk.1.2), by refine KX ?_; exact Kd.S_mono (Kd.S_far (p := ⟨aD, 5, none⟩) (Kd.S_far (p := ⟨aD, 4, none⟩) (Kd.S_far (p := ⟨aD, 3, none⟩) (Kd.S_far (p := ⟨aD, 2, none⟩) (Kd.S_far (p := ⟨aD, 1, none⟩) (Kd.S_far (p := ⟨aD, 0, none⟩) (Kd.S_types cR.out aE.out (by decide)) (fun _ hk => hk.2) (.int .i64 aJ)) (fun _ hk => hk.2) (.slice bQ bB.length bR)) (fun _ hk => hk.2) (.int .i64 aK)) (fun _ hk => hk.2) (.slice cA bO.length cB)) (fun _ hk => hk.2) (.slice cC aY.length cD)) (fun _ hk => hk.2) (.slice cH aZ.length cI)) (fun _ hk => hk.1.2), K2 HB aH.out aI.out⟩
  ·rw [if_neg c3] at H
   exact absurd H (by simp)
 ·rw [if_neg c2] at H
  exact absurd H (by simp)
def spec_l10New.f (k : Nat) (a0_0 : Int) (l0_1 : List (S92)) (a0_2 : Int) (l0_3 : List (S105)) (l0_4 : List (S48)) (l0_5 : List (S48)) (a1_0 : Int) (a1_1 : Int) (a1_2 : ByteArray) (a1_3 : ByteArray) (a1_4 : Int) (a1_5 : Int) (a1_6 : Int) (a1_7 : Int) (a1_8 : Int) (a1_9 : Int) (l1_10 : List Int) : Option (Bool) := (spec_SaOk.f k a1_0 a1_1 a1_2 a1_3 a1_4 a1_5 a1_6 a1_7 a1_8 a1_9 l1_10).bind fun t103 => (if t103 = true then (if a1_8 = 0 then (if a1_9 = 0 then (some (a1_4 == a0_0)) else (some false)) else (some false)) else (some false))
theorem spec_l10New.calls (k : Nat) (bC : Int) (bD : Option Addr) (bE : Nat) (aW : List (S92)) (bF : Int) (bG : Option Addr) (bH : Nat) (aX : List (S105)) (bI : Option Addr) (bJ : Nat) (aY : List (S48)) (bK : Option Addr) (bL : Nat) (aZ : List (S48)) (aN : Int) (aO : Int) (aP : ByteArray) (aQ : ByteArray) (aJ : Int) (aR : Int) (aS : Int) (aT : Int) (aH : Int) (aI : Int) (aL : Option Addr) (aM : Nat) (aC : List Int) (r : Bool) (w : World) (bR : Kd.C k92 w bD aW.length aW) (bS : aW.length ≤ bE) (bT : Kd.C k105 w bG aX.length aX) (bU : aX.length ≤ bH) (bV : Kd.C k48 w bI aY.length aY) (bW : aY.length ≤ bJ) (bX : Kd.C k48 w bK aZ.length aZ) (bY : aZ.length ≤ bL) (bM : Kd.C (Kd.int .i64) w aL aC.length aC) (bN : aC.length ≤ aM) (h : spec_l10New.f k bC aW bF aX aY aZ aN aO aP aQ aJ aR aS aT aH aI aC = some r) :
  Calls Tryz.prog 25 #[.agg #[.int .i64 bC, .slice bD aW.length bE, .int .i64 bF, .slice bG aX.length bH, .slice bI aY.length bJ, .slice bK aZ.length bL], .agg #[.int .i64 aN, .int .i64 aO, .string aP, .string aQ, .int .i64 aJ, .int .i64 aR, .int .i64 aS, .int .i64 aT, .int .i64 aH, .int .i64 aI, .slice aL aC.length aM]] w fun e w' => e = .returned (.bool r) ∧ Below w.heap.size w w' := by
 have gC := Tryz.underlying42
 have gD := Tryz.underlying48
 have fM := Aside0.mk bR
 have fN := Aside0.mk bS
 clear bR bS
 have fO := Aside0.mk bT
 have fP := Aside0.mk bU
 clear bT bU
 have fQ := Aside0.mk bV
 have fR := Aside0.mk bW
 clear bV bW
 have fS := Aside0.mk bX
 have fT := Aside0.mk bY
 clear bX bY
 have bA := Aside0.mk bM
 have bB := Aside0.mk bN
 clear bM bN
 have HB := am (Below.refl w.heap.size w)
 have H : ((spec_SaOk.f k aN aO aP aQ aJ aR aS aT aH aI aC).bind fun bQ => (if bQ = true then (if aH = 0 then (if aI = 0 then (some (aJ == bC)) else (some false)) else (some false)) else (some false))) = some r := h
 clear h
 replace H := bm H
 obtain ⟨bQ, fU, H⟩ := H
 replace H : (if bQ = true then (if aH = 0 then (if aI = 0 then (some (aJ == bC)) else (some false)) else (some false)) else (some false)) = some r := H
 have A3 := Aside0.mk fU
 clear fU
 by_cases c4 : bQ = true
 ·subst c4
  have H1 := pf H
  clear H
  have H := H1
  clear H1
  by_cases c5 : aH = 0
  ·rw [if_pos c5] at H
   have c5b0 : (aH == 0) = true := beq_iff_eq.mpr c5
   have c5b1 : (aH != 0) = false := bne_eq_false_iff_eq.mpr c5
   clear c5
   by_cases c6 : aI = 0
   ·rw [if_pos c6] at H
    have c6b0 : (aI == 0) = true := beq_iff_eq.mpr c6
    have c6b1 : (aI != 0) = false := bne_eq_false_iff_eq.mpr c6
    clear c6
    obtain rfl := sj H
    go_enter Tryz.func25, Tryz.ntmps25
    go_wp2_with (first | ((with_reducible refine gate_dst (N := 2) rfl ?_); refine box_event rfl (N := 2) rfl (cs := #[.int .i64 bC, .slice bD aW.length bE, .int .i64 bF, .slice bG aX.length bH, .slice bI aY.length bJ, .slice bK aZ.length bL]) (t := 42) BX ?_; intro bO hg w7 aG hb; have aA := am (aG); have aU := am (GH HB hg); have aB := aU; replace HB := bl (KL HB) hb; clear hb aG hg) | ((with_reducible refine gate_dst (N := 3) rfl ?_); refine box_event rfl (N := 3) rfl (cs := #[.int .i64 aN, .int .i64 aO, .string aP, .string aQ, .int .i64 aJ, .int .i64 aR, .int .i64 aS, .int .i64 aT, .int .i64 aH, .int .i64 aI, .slice aL aC.length aM]) (t := 48) BX ?_; intro bP hg w8 aG hb; have aD := am (aG); have aV := am (GH1 HB aB.out hg); have aK := aV; replace HB := bl (K1 HB aB.out) hb; have aE := am (NL aA hg); have aF := am (NG aA hg); replace aA := am (BB aA hb); clear hb aG hg; have gE := aF.out; have gF := aE.out; have ⟨_, _, _, _, _, _, _, _, _, _, _, _⟩ := y11 w8 aD.out) | ((with_reducible refine gate_callee (f := 56) rfl ?_); refine goesL_ (some 6) rfl rfl Tryz.func56 (by kernel_rfl) rfl #[.agg #[.int .i64 aN, .int .i64 aO, .string aP, .string aQ, .int .i64 aJ, .int .i64 aR, .int .i64 aS, .int .i64 aT, .int .i64 aH, .int .i64 aI, .slice aL aC.length aM]] rfl MT ?_; (with_reducible refine (spec_SaOk.calls k aN aO aP aQ aJ aR aS aT aH aI _ _ aC true _ ?_ ?_ A3.out).mono ?_); exact KD bA HB; exact bB.out; rintro e fV ⟨rfl, hb⟩; refine ⟨_, rfl, ?_⟩; replace aA := am (BB aA hb); replace aD := am (BB aD hb); replace HB := bl (K2 HB aB.out aK.out) hb; (try clear hb); have ⟨_, _, _, _, _, _, _, _, _, _, _, _⟩ := y11 fV aD.out; have ⟨_, _, _, _, _, _, _⟩ := y6 fV aA.out))
    go_ret
    exact ⟨ER, K2 HB aB.out aK.out⟩
   ·rw [if_neg c6] at H
    have c6b0 : (aI == 0) = false := beq_eq_false_iff_ne.mpr c6
    have c6b1 : (aI != 0) = true := bne_iff_ne.mpr c6
    obtain rfl := sj H
    go_enter Tryz.func25, Tryz.ntmps25
    go_wp2_with (first | ((with_reducible refine gate_dst (N := 2) rfl ?_); refine box_event rfl (N := 2) rfl (cs := #[.int .i64 bC, .slice bD aW.length bE, .int .i64 bF, .slice bG aX.length bH, .slice bI aY.length bJ, .slice bK aZ.length bL]) (t := 42) BX ?_; intro bO hg gL aG hb; have aA := am (aG); have aU := am (GH HB hg); have aB := aU; replace HB := bl (KL HB) hb; clear hb aG hg) | ((with_reducible refine gate_dst (N := 3) rfl ?_); refine box_event rfl (N := 3) rfl (cs := #[.int .i64 aN, .int .i64 aO, .string aP, .string aQ, .int .i64 aJ, .int .i64 aR, .int .i64 aS, .int .i64 aT, .int .i64 aH, .int .i64 aI, .slice aL aC.length aM]) (t := 48) BX ?_; intro bP hg gG aG hb; have aD := am (aG); have aV := am (GH1 HB aB.out hg); have aK := aV; replace HB := bl (K1 HB aB.out) hb; have aE := am (NL aA hg); have aF := am (NG aA hg); replace aA := am (BB aA hb); clear hb aG hg; have fW := aF.out; have fX := aE.out; have ⟨_, _, _, _, _, _, _, _, _, _, _, _⟩ := y11 gG aD.out) | ((with_reducible refine gate_callee (f := 56) rfl ?_); refine goesL_ (some 6) rfl rfl Tryz.func56 (by kernel_rfl) rfl #[.agg #[.int .i64 aN, .int .i64 aO, .string aP, .string aQ, .int .i64 aJ, .int .i64 aR, .int .i64 aS, .int .i64 aT, .int .i64 aH, .int .i64 aI, .slice aL aC.length aM]] rfl MT ?_; (with_reducible refine (spec_SaOk.calls k aN aO aP aQ aJ aR aS aT aH aI _ _ aC true _ ?_ ?_ A3.out).mono ?_); exact KD bA HB; exact bB.out; rintro e gH ⟨rfl, hb⟩; refine ⟨_, rfl, ?_⟩; replace aA := am (BB aA hb); replace aD := am (BB aD hb); replace HB := bl (K2 HB aB.out aK.out) hb; (try clear hb); have ⟨_, _, _, _, _, _, _, _, _, _, _, _⟩ := y11 gH aD.out))
    go_ret
    exact ⟨ER, K2 HB aB.out aK.out⟩
  ·rw [if_neg c5] at H
   have c5b0 : (aH == 0) = false := beq_eq_false_iff_ne.mpr c5
   have c5b1 : (aH != 0) = true := bne_iff_ne.mpr c5
   obtain rfl := sj H
   go_enter Tryz.func25, Tryz.ntmps25
   go_wp2_with (first | ((with_reducible refine gate_dst (N := 2) rfl ?_); refine box_event rfl (N := 2) rfl (cs := #[.int .i64 bC, .slice bD aW.length bE, .int .i64 bF, .slice bG aX.length bH, .slice bI aY.length bJ, .slice bK aZ.length bL]) (t := 42) BX ?_; intro bO hg gM aG hb; have aA := am (aG); have aU := am (GH HB hg); have aB := aU; replace HB := bl (KL HB) hb; clear hb aG hg) | ((with_reducible refine gate_dst (N := 3) rfl ?_); refine box_event rfl (N := 3) rfl (cs := #[.int .i64 aN, .int .i64 aO, .string aP, .string aQ, .int .i64 aJ, .int .i64 aR, .int .i64 aS, .int .i64 aT, .int .i64 aH, .int .i64 aI, .slice aL aC.length aM]) (t := 48) BX ?_; intro bP hg gI aG hb; have aD := am (aG); have aV := am (GH1 HB aB.out hg); have aK := aV; replace HB := bl (K1 HB aB.out) hb; have aE := am (NL aA hg); have aF := am (NG aA hg); replace aA := am (BB aA hb); clear hb aG hg; have fY := aF.out; have fZ := aE.out; have ⟨_, _, _, _, _, _, _, _, _, _, _, _⟩ := y11 gI aD.out) | ((with_reducible refine gate_callee (f := 56) rfl ?_); refine goesL_ (some 6) rfl rfl Tryz.func56 (by kernel_rfl) rfl #[.agg #[.int .i64 aN, .int .i64 aO, .string aP, .string aQ, .int .i64 aJ, .int .i64 aR, .int .i64 aS, .int .i64 aT, .int .i64 aH, .int .i64 aI, .slice aL aC.length aM]] rfl MT ?_; (with_reducible refine (spec_SaOk.calls k aN aO aP aQ aJ aR aS aT aH aI _ _ aC true _ ?_ ?_ A3.out).mono ?_); exact KD bA HB; exact bB.out; rintro e gJ ⟨rfl, hb⟩; refine ⟨_, rfl, ?_⟩; replace aA := am (BB aA hb); replace aD := am (BB aD hb); replace HB := bl (K2 HB aB.out aK.out) hb; (try clear hb); have ⟨_, _, _, _, _, _, _, _, _, _, _, _⟩ := y11 gJ aD.out))
   go_ret
   exact ⟨ER, K2 HB aB.out aK.out⟩
 ·replace c4 := Bool.eq_false_iff.mpr c4
  subst c4
  have H1 := nf H
  clear H
  have H := H1
  clear H1
  obtain rfl := sj H
  go_enter Tryz.func25, Tryz.ntmps25
  go_wp2_with (first | ((with_reducible refine gate_dst (N := 2) rfl ?_); refine box_event rfl (N := 2) rfl (cs := #[.int .i64 bC, .slice bD aW.length bE, .int .i64 bF, .slice bG aX.length bH, .slice bI aY.length bJ, .slice bK aZ.length bL]) (t := 42) BX ?_; intro bO hg gN aG hb; have aA := am (aG); have aU := am (GH HB hg); have aB := aU; replace HB := bl (KL HB) hb; clear hb aG hg) | ((with_reducible refine gate_dst (N := 3) rfl ?_); refine box_event rfl (N := 3) rfl (cs := #[.int .i64 aN, .int .i64 aO, .string aP, .string aQ, .int .i64 aJ, .int .i64 aR, .int .i64 aS, .int .i64 aT, .int .i64 aH, .int .i64 aI, .slice aL aC.length aM]) (t := 48) BX ?_; intro bP hg gK aG hb; have aD := am (aG); have aV := am (GH1 HB aB.out hg); have aK := aV; replace HB := bl (K1 HB aB.out) hb; have aE := am (NL aA hg); have aF := am (NG aA hg); replace aA := am (BB aA hb); clear hb aG hg; have gA := aF.out; have gB := aE.out; have ⟨_, _, _, _, _, _, _, _, _, _, _, _⟩ := y11 gK aD.out) | ((with_reducible refine gate_callee (f := 56) rfl ?_); refine goesL_ (some 6) rfl rfl Tryz.func56 (by kernel_rfl) rfl #[.agg #[.int .i64 aN, .int .i64 aO, .string aP, .string aQ, .int .i64 aJ, .int .i64 aR, .int .i64 aS, .int .i64 aT, .int .i64 aH, .int .i64 aI, .slice aL aC.length aM]] rfl MT ?_; (with_reducible refine (spec_SaOk.calls k aN aO aP aQ aJ aR aS aT aH aI _ _ aC false _ ?_ ?_ A3.out).mono ?_); exact KD bA HB; exact bB.out; rintro e gO ⟨rfl, hb⟩; refine ⟨_, rfl, ?_⟩; replace aA := am (BB aA hb); replace aD := am (BB aD hb); replace HB := bl (K2 HB aB.out aK.out) hb; (try clear hb)))
  go_ret
  exact ⟨ER, K2 HB aB.out aK.out⟩
def spec_l10Put.f (l0 : List (S48)) (a1 : Int) (a2_0 : Int) (a2_1 : Int) (a2_2 : ByteArray) (a2_3 : ByteArray) (a2_4 : Int) (a2_5 : Int) (a2_6 : Int) (a2_7 : Int) (a2_8 : Int) (a2_9 : Int) (l2_10 : List Int) : Option ((List (S48))) := (some (([] : List (S48)) : List (S48))).bind fun y102 => (if 0 ≤ a1 then (if a1 ≤ (l0.length : Int) then ((some (l0.take (a1 : Int).toNat : List (S48))).bind fun y105 => (if y102.length + y105.length < 1172812402961 then ((some (y102 ++ y105 : List (S48))).bind fun y110 => ((spec_l9Copy.f a2_0 a2_1 a2_2 a2_3 a2_4 a2_5 a2_6 a2_7 a2_8 a2_9 l2_10).bind fun bt113 => (if y110.length < 1172812402961 then ((some (y110 ++ [(⟨bt113.1, bt113.2.1, bt113.2.2.1, bt113.2.2.2.1, bt113.2.2.2.2.1, bt113.2.2.2.2.2.1, bt113.2.2.2.2.2.2.1, bt113.2.2.2.2.2.2.2.1, bt113.2.2.2.2.2.2.2.2.1, (⟨bt113.2.2.2.2.2.2.2.2.2.1, bt113.2.2.2.2.2.2.2.2.2.2⟩ : S46)⟩ : S48)] : List (S48))).bind fun y126 => ((some (l0.drop (a1 : Int).toNat : List (S48))).bind fun y129 => (if y126.length + y129.length < 1172812402961 then (some (y126 ++ y129)) else (none)))) else (none)))) else (none))) else (none)) else (none))
def spec_l10Put.T1 : Bool × List (List Nat × List Nat) := (true, [([], []), ([], []), ([], []), ([1, 2], [1, 2]), ([0, 3], [0, 3]), ([], []), ([5, 4], [5]), ([6], [6]), ([4, 7, 6], [4, 7]), ([], []), ([], []), ([9, 10], [9, 10]), ([8, 11, 8], [8, 11]), ([12, 12, 0, 1, 2, 3, 4, 5, 6, 7, 8, 9, 10, 11, 12], [12])])
def spec_l10Put.B1 : List Nat := [0, 0, 0, 6, 15, 0, 63, 127, 255, 0, 0, 1536, 4095, 8191]
theorem spec_l10Put.tab1 : rtab .any (opsOf Tryz.f26 1) = spec_l10Put.T1 := by kernel_rfl
theorem spec_l10Put.bits1 : waitsOk spec_l10Put.T1.2 spec_l10Put.B1 = true := by kernel_rfl
theorem spec_l10Put.calls (P0_ : Nat → Prop) (A0 : Option Addr) (c0 : Nat) (l0 : List (S48)) (a1 : Int) (aQ : Int) (aT : Int) (aU : ByteArray) (aV : ByteArray) (aW : Int) (aX : Int) (aY : Int) (aZ : Int) (bA : Int) (bB : Int) (aJ : Option Addr) (aK : Nat) (aE : List Int) (r : List (S48)) (w : World) (hs0 : Kd.V k48 48 w w.heap.size (fun k_ => P0_ k_) (.slice A0 l0.length c0) l0) (cC : Kd.C (Kd.int .i64) w aJ aE.length aE) (cD : aE.length ≤ aK) (h : spec_l10Put.f l0 a1 aQ aT aU aV aW aX aY aZ bA bB aE = some r) :
  Calls Tryz.prog 26 #[.slice A0 l0.length c0, .int .i64 a1, .agg #[.int .i64 aQ, .int .i64 aT, .string aU, .string aV, .int .i64 aW, .int .i64 aX, .int .i64 aY, .int .i64 aZ, .int .i64 bA, .int .i64 bB, .slice aJ aE.length aK]] w fun e w' => ∃ v0_ : Value, e = .returned (v0_) ∧ Kd.N k48 48 w' w.heap.size (fun k_ => (P0_ k_ ∨ w.heap.size ≤ k_)) v0_ r ∧ Below w.heap.size w w' := by
 have dJ := Tryz.underlying48
 have bH := am (show Kd.V k48 48 w w.heap.size (fun k_ => (P0_ k_ ∨ w.heap.size ≤ k_)) (.slice A0 l0.length c0) l0 from Kd.V_mono hs0 (fun k_ hk => .inl hk))
 have cO := Aside0.mk cC
 have cP := Aside0.mk cD
 clear cC cD
 have HB := am (Below.refl w.heap.size w)
 have H : ((some (([] : List (S48)) : List (S48))).bind fun bG => (if 0 ≤ a1 then (if a1 ≤ (l0.length : Int) then ((some (l0.take (a1 : Int).toNat : List (S48))).bind fun bD => (if bG.length + bD.length < 1172812402961 then ((some (bG ++ bD : List (S48))).bind fun bC => ((spec_l9Copy.f aQ aT aU aV aW aX aY aZ bA bB aE).bind fun aC => (if bC.length < 1172812402961 then ((some (bC ++ [(⟨aC.1, aC.2.1, aC.2.2.1, aC.2.2.2.1, aC.2.2.2.2.1, aC.2.2.2.2.2.1, aC.2.2.2.2.2.2.1, aC.2.2.2.2.2.2.2.1, aC.2.2.2.2.2.2.2.2.1, (⟨aC.2.2.2.2.2.2.2.2.2.1, aC.2.2.2.2.2.2.2.2.2.2⟩ : S46)⟩ : S48)] : List (S48))).bind fun aI => ((some (l0.drop (a1 : Int).toNat : List (S48))).bind fun aG => (if aI.length + aG.length < 1172812402961 then (some (aI ++ aG)) else (none)))) else (none)))) else (none))) else (none)) else (none))) = some r := h
 clear h
 obtain ⟨bG, bJ⟩ : ∃ y_ : List (S48), y_ = (([] : List (S48))) := ⟨_, rfl⟩
 replace H : (if 0 ≤ a1 then (if a1 ≤ (l0.length : Int) then ((some (l0.take (a1 : Int).toNat : List (S48))).bind fun bD => (if bG.length + bD.length < 1172812402961 then ((some (bG ++ bD : List (S48))).bind fun bC => ((spec_l9Copy.f aQ aT aU aV aW aX aY aZ bA bB aE).bind fun aC => (if bC.length < 1172812402961 then ((some (bC ++ [(⟨aC.1, aC.2.1, aC.2.2.1, aC.2.2.2.1, aC.2.2.2.2.1, aC.2.2.2.2.2.1, aC.2.2.2.2.2.2.1, aC.2.2.2.2.2.2.2.1, aC.2.2.2.2.2.2.2.2.1, (⟨aC.2.2.2.2.2.2.2.2.2.1, aC.2.2.2.2.2.2.2.2.2.2⟩ : S46)⟩ : S48)] : List (S48))).bind fun aI => ((some (l0.drop (a1 : Int).toNat : List (S48))).bind fun aG => (if aI.length + aG.length < 1172812402961 then (some (aI ++ aG)) else (none)))) else (none)))) else (none))) else (none)) else (none)) = some r := by first | (rw [bJ]; with_reducible exact H) | (have H2_ := (Option.bind_some _ _).symm.trans H; rw [bJ]; with_reducible exact H2_) | (have H2_ := (Option.bind_some _ _).symm.trans H; with_reducible exact H2_) | with_reducible exact H | (rw [bJ]; exact H) | exact H
 have Ny102 := Aside0.mk bJ
 clear bJ
 by_cases c4 : 0 ≤ a1
 ·rw [if_pos c4] at H
  have c4b0 := eq_true c4
  have c4b1 : decide (0 ≤ a1) = true := decide_eq_true c4
  clear c4
  by_cases c5 : a1 ≤ (l0.length : Int)
  ·rw [if_pos c5] at H
   have c5b0 := eq_true c5
   have c5b1 : decide (a1 ≤ (l0.length : Int)) = true := decide_eq_true c5
   clear c5
   obtain ⟨bD, bK⟩ : ∃ y_ : List (S48), y_ = (l0.take (a1 : Int).toNat) := ⟨_, rfl⟩
   replace H : (if bG.length + bD.length < 1172812402961 then ((some (bG ++ bD : List (S48))).bind fun bC => ((spec_l9Copy.f aQ aT aU aV aW aX aY aZ bA bB aE).bind fun aC => (if bC.length < 1172812402961 then ((some (bC ++ [(⟨aC.1, aC.2.1, aC.2.2.1, aC.2.2.2.1, aC.2.2.2.2.1, aC.2.2.2.2.2.1, aC.2.2.2.2.2.2.1, aC.2.2.2.2.2.2.2.1, aC.2.2.2.2.2.2.2.2.1, (⟨aC.2.2.2.2.2.2.2.2.2.1, aC.2.2.2.2.2.2.2.2.2.2⟩ : S46)⟩ : S48)] : List (S48))).bind fun aI => ((some (l0.drop (a1 : Int).toNat : List (S48))).bind fun aG => (if aI.length + aG.length < 1172812402961 then (some (aI ++ aG)) else (none)))) else (none)))) else (none)) = some r := by first | (rw [bK]; with_reducible exact H) | (have H2_ := (Option.bind_some _ _).symm.trans H; rw [bK]; with_reducible exact H2_) | (have H2_ := (Option.bind_some _ _).symm.trans H; with_reducible exact H2_) | with_reducible exact H | (rw [bK]; exact H) | exact H
   have Ny105 := Aside0.mk bK
   clear bK
   by_cases c6 : bG.length + bD.length < 1172812402961
   ·rw [if_pos c6] at H
    have LMc6 := Aside0.mk c6
    clear c6
    obtain ⟨bC, bL⟩ : ∃ y_ : List (S48), y_ = (bG ++ bD) := ⟨_, rfl⟩
    replace H : ((spec_l9Copy.f aQ aT aU aV aW aX aY aZ bA bB aE).bind fun aC => (if bC.length < 1172812402961 then ((some (bC ++ [(⟨aC.1, aC.2.1, aC.2.2.1, aC.2.2.2.1, aC.2.2.2.2.1, aC.2.2.2.2.2.1, aC.2.2.2.2.2.2.1, aC.2.2.2.2.2.2.2.1, aC.2.2.2.2.2.2.2.2.1, (⟨aC.2.2.2.2.2.2.2.2.2.1, aC.2.2.2.2.2.2.2.2.2.2⟩ : S46)⟩ : S48)] : List (S48))).bind fun aI => ((some (l0.drop (a1 : Int).toNat : List (S48))).bind fun aG => (if aI.length + aG.length < 1172812402961 then (some (aI ++ aG)) else (none)))) else (none))) = some r := by first | (rw [bL]; with_reducible exact H) | (have H2_ := (Option.bind_some _ _).symm.trans H; rw [bL]; with_reducible exact H2_) | (have H2_ := (Option.bind_some _ _).symm.trans H; with_reducible exact H2_) | with_reducible exact H | (rw [bL]; exact H) | exact H
    have Ny110 := Aside0.mk bL
    clear bL
    replace H := bm H
    obtain ⟨⟨bS, bT, bU, bV, bW, bX, bY, bZ, cA, cB, bI⟩, dE, H⟩ := H
    replace H : (if bC.length < 1172812402961 then ((some (bC ++ [(⟨bS, bT, bU, bV, bW, bX, bY, bZ, cA, (⟨cB, bI⟩ : S46)⟩ : S48)] : List (S48))).bind fun aI => ((some (l0.drop (a1 : Int).toNat : List (S48))).bind fun aG => (if aI.length + aG.length < 1172812402961 then (some (aI ++ aG)) else (none)))) else (none)) = some r := H
    have A7 := Aside0.mk dE
    clear dE
    by_cases c8 : bC.length < 1172812402961
    ·rw [if_pos c8] at H
     have LMc8 := Aside0.mk c8
     clear c8
     obtain ⟨aI, bM⟩ : ∃ y_ : List (S48), y_ = (bC ++ [(⟨bS, bT, bU, bV, bW, bX, bY, bZ, cA, (⟨cB, bI⟩ : S46)⟩ : S48)]) := ⟨_, rfl⟩
     replace H : ((some (l0.drop (a1 : Int).toNat : List (S48))).bind fun aG => (if aI.length + aG.length < 1172812402961 then (some (aI ++ aG)) else (none))) = some r := by first | (rw [bM]; with_reducible exact H) | (have H2_ := (Option.bind_some _ _).symm.trans H; rw [bM]; with_reducible exact H2_) | (have H2_ := (Option.bind_some _ _).symm.trans H; with_reducible exact H2_) | with_reducible exact H | (rw [bM]; exact H) | exact H
     have Ny126 := Aside0.mk bM
     clear bM
     have c9b0 := eq_true (OD : 0 ≤ a1)
     have c10b0 := eq_true (OD : a1 ≤ (l0.length : Int))
     obtain ⟨aG, bN⟩ : ∃ y_ : List (S48), y_ = (l0.drop (a1 : Int).toNat) := ⟨_, rfl⟩
     replace H : (if aI.length + aG.length < 1172812402961 then (some (aI ++ aG)) else (none)) = some r := by first | (rw [bN]; with_reducible exact H) | (have H2_ := (Option.bind_some _ _).symm.trans H; rw [bN]; with_reducible exact H2_) | (have H2_ := (Option.bind_some _ _).symm.trans H; with_reducible exact H2_) | with_reducible exact H | (rw [bN]; exact H) | exact H
     have Ny129 := Aside0.mk bN
     clear bN
     by_cases cZ : aI.length + aG.length < 1172812402961
     ·rw [if_pos cZ] at H
      have LMc11 := Aside0.mk cZ
      clear cZ
      obtain ⟨dA, bO⟩ : ∃ y_ : List (S48), y_ = (aI ++ aG) := ⟨_, rfl⟩
      replace H : (some dA) = some r := by first | (rw [bO]; with_reducible exact H) | (have H2_ := (Option.bind_some _ _).symm.trans H; rw [bO]; with_reducible exact H2_) | (have H2_ := (Option.bind_some _ _).symm.trans H; with_reducible exact H2_) | with_reducible exact H | (rw [bO]; exact H) | exact H
      have Ny134 := Aside0.mk bO
      clear bO
      obtain rfl := sj H
      go_enter Tryz.func26, Tryz.ntmps26
      try go_wp2_with (first | ((with_reducible refine gate_dst (N := 5) rfl ?_); refine box_event rfl (N := 5) rfl (cs := #[.int .i64 aQ, .int .i64 aT, .string aU, .string aV, .int .i64 aW, .int .i64 aX, .int .i64 aY, .int .i64 aZ, .int .i64 bA, .int .i64 bB, .slice aJ aE.length aK]) (t := 48) BX ?_; intro aD hg dK cV hb; replace bH := am (Kd.V_below (Kd.V_elderB (by (with_reducible repeat (first | apply Kd.V_alloc | apply Kd.V_drewN | apply Kd.V_drew)); exact bH.out) aD (Nat.le_of_eq hg.symm)) hb); have aA := am (cV); have cW := am (GH HB hg); have aH := cW; replace HB := bl (KL HB) hb; clear hb cV hg))
      replace bH := am (Kd.V_drew bH.out)
      replace aA := am (blk_drew aA.out)
      replace HB := am (below_drew1 HB.out)
      have dB : (a1 : Int) ≤ ((l0.length : Int) : Int) := OD
      obtain ⟨i014, cM, _, hsz14, _⟩ := info_parts info48
      have hroom14 : l0.length ≤ c0 := (Kd.V_reads' bH.out).2.1
      have hC14 : Kd.F k48 _ _ A0 l0.length l0 := (Kd.V_at (base := w.heap.size) bH.out).2.2
      have hcut14 := cut_to (P := Tryz.prog) 40 48 .i64 Tryz.underlying40 cM A0 l0.length c0 a1 (OD) dB hroom14
      have cQ := Kd.F_take (m := (a1 : Int).toNat) hC14 (by omega)
      have cR : bD.length = (a1 : Int).toNat := (by rw [Ny105.out, List.length_take]; omega)
      rw [← Ny105.out] at cQ
      rw [← cR] at hcut14
      have aM := am (show Kd.V k48 48 _ w.heap.size _ (.slice A0 bD.length c0) bD from Kd.V_mk (by omega) cQ)
      have dF := am (show bD.length ≤ c0 from by omega)
      clear cQ hC14 hroom14 cM hsz14
      have KY14 := Aside0.mk cR
      clear cR
      replace dB := eq_true dB
      have dC : (a1 : Int) ≤ ((l0.length : Int) : Int) := OD
      obtain ⟨i015, cN, _, hsz15, _⟩ := info_parts info48
      have hroom15 : l0.length ≤ c0 := (Kd.V_reads' bH.out).2.1
      have hC15 : Kd.F k48 _ _ A0 l0.length l0 := (Kd.V_at (base := w.heap.size) bH.out).2.2
      have dD : (0 : Int) ≤ (a1 : Int) := OD
      have hcut15 := cut_from (P := Tryz.prog) 40 48 .i64 Tryz.underlying40 cN 11 hsz15 A0 l0.length c0 a1 dD dC
      have cE := Kd.F_cut (m := (a1 : Int).toNat) (c := c0) hC15 (by omega) hroom15
      obtain ⟨dG, hA15⟩ : ∃ A1, A1 = (if c0 = (a1 : Int).toNat then A0 else (A0 : Option Addr).map (·.add ((a1 : Int).toNat * 11))) := ⟨_, rfl⟩
      obtain ⟨dH, cI⟩ : ∃ c1, c1 = c0 - (a1 : Int).toNat := ⟨_, rfl⟩
      have cF : aG.length = l0.length - (a1 : Int).toNat := (by rw [Ny129.out, List.length_drop] <;> omega)
      rw [show (l0).drop (a1 : Int).toNat = aG from Ny129.out.symm] at cE
      replace cE : Kd.F k48 _ _ dG aG.length aG := (by rw [hA15]; exact cE)
      rw [← cF, ← hA15, ← cI] at hcut15
      have aN := am (show Kd.V k48 48 _ w.heap.size _ (.slice dG aG.length dH) aG from Kd.V_mk (by rw [cF, cI]; exact Nat.sub_le_sub_right hroom15 _) cE)
      have dI := am (show aG.length ≤ dH from by rw [cF, cI]; exact Nat.sub_le_sub_right hroom15 _)
      clear cE hC15 hroom15 cN hsz15 cI
      have KY15 := Aside0.mk cF
      have KA15 := Aside0.mk hA15
      clear cF hA15
      replace dC := eq_true dC
      refine start_ (n := 14) (S := fun w' => de11 w' aD (.int .i64 aQ) (.int .i64 aT) (.string aU) (.string aV) (.int .i64 aW) (.int .i64 aX) (.int .i64 aY) (.int .i64 aZ) (.int .i64 bA) (.int .i64 bB) (.slice aJ aE.length aK)) (ds := []) (tf 0 14) (by kernel_rfl) rfl rfl ⟨z0 _ aA.out, z1 _ aA.out, z2 _ aA.out, z3 _ aA.out, z4 _ aA.out, z5 _ aA.out, z6 _ aA.out, z7 _ aA.out, z8 _ aA.out, z9 _ aA.out, z10 _ aA.out⟩ (fun bE => ?_); refine with_tabW spec_l10Put.tab1 spec_l10Put.bits1 (fun bQ dL => ?_)
      generalize dK.drew = dM at bH aA HB aM aN bE ⊢
      refine pv bQ 1 8 (tr [0, 1, 1, 12]) ?_
      refine pv bQ 2 9 (tr [0, 1, 2, 11]) ?_
      refine pv bQ 3 10 (tr [0, 1, 3, 10]) ?_
      refine pv bQ 9 16 (tr [0, 1, 3, 5, 1, 4]) ?_
      refine pv bQ 10 17 (tr [0, 1, 3, 5, 2, 3]) ?_
      refine pv bQ 11 18 (tr [0, 1, 3, 5, 3, 2]) ?_
      refine tk 5 (some 12) (tr [0, 1, 3, 1, 1, 3, 3, 2]) (take_ofW bQ.out dL.out (by kernel_rfl)) bE ?_
      refine one_ (i := 0) (N := some 7) (tr [4, 1, 1, 3, 3, 2]) rfl rfl (one_of bQ.out (by kernel_rfl)) (by decide) (fun K hK => ?_)
      refine Kd.N_lit_step k48 _ 48 ?hg (N' := 7) ?hd (xs := ([] : List (S48))) (inner := []) (ok := (fun k_ => (P0_ k_ ∨ w.heap.size ≤ k_) ∧ k_ ≠ aD)) (okp := (fun k_ => (P0_ k_ ∨ w.heap.size ≤ k_) ∧ k_ ≠ aD)) ?hr ?hp (fun _ hk => hk) ((show ∀ k_, dM.heap.size ≤ k_ → (fun k_ => (P0_ k_ ∨ w.heap.size ≤ k_) ∧ k_ ≠ aD) k_ from fun k_ hk => ⟨(.inr (Nat.le_trans (below_size (K1 HB aH.out)) hk)), Kd.freshB (g := aD) (o := .cells #[.int .i64 aQ, .int .i64 aT, .string aU, .string aV, .int .i64 aW, .int .i64 aX, .int .i64 aY, .int .i64 aZ, .int .i64 bA, .int .i64 bB, .slice aJ aE.length aK] 48 (0, 0)) (KB aA) k_ hk⟩) _ (Nat.le_refl _)) (Below.refl _ _) (Nat.le_refl _) (by simp) ?_; (case hd => rfl); (case hg => rfl); (case hr => first | (go_simp; done) | (go_simp; rfl)); (case hp => exact (Reps.none _ _))
      intro cS dP bP hb hg_ hnew_
      clear hg_ hnew_
      (first | rw [← Ny102.out] at bP | (simp only [Int.reduceToNat] at bP; rw [← Ny102.out] at bP))
      replace bH := am (Kd.V_elder' (by (with_reducible repeat (first | apply Kd.V_alloc | apply Kd.V_drewN | apply Kd.V_drew)); exact bH.out) (Kd.N_base bP) hb)
      replace aM := am (Kd.V_elder' (by (with_reducible repeat (first | apply Kd.V_alloc | apply Kd.V_drewN | apply Kd.V_drew)); exact aM.out) (Kd.N_base bP) hb)
      replace aN := am (Kd.V_elder' (by (with_reducible repeat (first | apply Kd.V_alloc | apply Kd.V_drewN | apply Kd.V_drew)); exact aN.out) (Kd.N_base bP) hb)
      have cG := am (Kd.N_lower bP (below_size (K1 HB aH.out)))
      replace aA := am (BB aA hb)
      replace HB := bl (K1 HB aH.out) hb
      clear hb bP
      refine hK.out _ _ ⟨z0 _ aA.out, z1 _ aA.out, z2 _ aA.out, z3 _ aA.out, z4 _ aA.out, z5 _ aA.out, z6 _ aA.out, z7 _ aA.out, z8 _ aA.out, z9 _ aA.out, z10 _ aA.out⟩ (fun bE => ?_)
      clear hK K
      refine nm (some 7) ?_
      refine one_ (i := 4) (N := some 11) (tr [6, 3, 3, 2]) rfl rfl (one_of bQ.out (by kernel_rfl)) (by decide) (fun K hK => ?_)
      refine Kd.N_append_rows_step k48 (w0 := w) w.heap.size (by rfl) (.tmp 7) (.tmp 10) 40 48 (.agg #[(.int .i64 0), (.int .i64 0), (.string ⟨#[]⟩), (.string ⟨#[]⟩), (.int .i64 0), (.int .i64 0), (.int .i64 0), (.int .i64 0), (.int .i64 0), (.int .i64 0), (.slice none 0 0)]) 120 rfl Tryz.underlying40 info48 rfl (by decide) (by omega) cS bG bD _ _ _ (fun k_ => (P0_ k_ ∨ w.heap.size ≤ k_) ∧ k_ ≠ aD) (fun k_ => ((fun k_ => (P0_ k_ ∨ w.heap.size ≤ k_) ∧ k_ ≠ aD)) k_ ∧ some k_ ≠ (cS : Value).ownBlock) rfl rfl ?aO ?aR (fun _ hk => hk) ?aF ?aB ?aS ?aL ?_
      (case aR => exact (by skip; exact Kd.V_F (Kd.V_mono (ok' := (fun k_ => ((fun k_ => (P0_ k_ ∨ w.heap.size ≤ k_) ∧ k_ ≠ aD)) k_ ∧ some k_ ≠ (cS : Value).ownBlock)) (aM.out) (fun k_ hk => ⟨⟨hk.1.1, hk.1.2⟩, hk.2⟩))))
      (case aB => exact (K1 HB aH.out))
      (case aF => exact (fun k_ hk => ⟨(.inr (Nat.le_trans (below_size (K1 HB aH.out)) hk)), Kd.freshB (g := aD) (o := .cells #[.int .i64 aQ, .int .i64 aT, .string aU, .string aV, .int .i64 aW, .int .i64 aX, .int .i64 aY, .int .i64 aZ, .int .i64 bA, .int .i64 bB, .slice aJ aE.length aK] 48 (0, 0)) (KB aA) k_ hk⟩))
      (case aO => exact (by (with_reducible repeat (first | apply Kd.N_alloc | apply Kd.N_drewN | apply Kd.N_drew)); exact cG.out))
      (case aS => exact (below_size (K1 HB aH.out)))
      (case aL => have := LMc6.out; omega)
      intro cJ dQ ho hb hg hat
      rw [← Ny110.out] at ho
      replace bH := am (Kd.V_afterv (ok := (fun k_ => (P0_ k_ ∨ w.heap.size ≤ k_) ∧ k_ ≠ aD)) (by (with_reducible repeat (first | apply Kd.V_alloc | apply Kd.V_drewN | apply Kd.V_drew)); exact bH.out) hg hat)
      replace aA := am (blk_grown (g := aD) (o := .cells #[.int .i64 aQ, .int .i64 aT, .string aU, .string aV, .int .i64 aW, .int .i64 aX, .int .i64 aY, .int .i64 aZ, .int .i64 bA, .int .i64 bB, .slice aJ aE.length aK] 48 (0, 0)) (KB aA) hg (Kd.N_away cG.out (fun _ hk => hk.2)))
      replace aM := am (Kd.V_afterv (ok := (fun k_ => (P0_ k_ ∨ w.heap.size ≤ k_) ∧ k_ ≠ aD)) (by (with_reducible repeat (first | apply Kd.V_alloc | apply Kd.V_drewN | apply Kd.V_drew)); exact aM.out) hg hat)
      replace aN := am (Kd.V_afterv (ok := (fun k_ => (P0_ k_ ∨ w.heap.size ≤ k_) ∧ k_ ≠ aD)) (by (with_reducible repeat (first | apply Kd.V_alloc | apply Kd.V_drewN | apply Kd.V_drew)); exact aN.out) hg hat)
      replace HB := am (hb)
      have bF := am (ho)
      clear cG
      clear ho hb hg hat
      refine hK.out _ _ ⟨z0 _ aA.out, z1 _ aA.out, z2 _ aA.out, z3 _ aA.out, z4 _ aA.out, z5 _ aA.out, z6 _ aA.out, z7 _ aA.out, z8 _ aA.out, z9 _ aA.out, z10 _ aA.out⟩ (fun bE => ?_)
      clear hK K
      refine nm (some 11) ?_
      refine one_ (i := 6) (N := some 13) (tr [7, 2, 3, 2]) rfl rfl (one_of bQ.out (by kernel_rfl)) (by decide) (fun K hK => ?_)
      refine goes_ Tryz.func50 (by kernel_rfl) rfl #[.agg #[.int .i64 aQ, .int .i64 aT, .string aU, .string aV, .int .i64 aW, .int .i64 aX, .int .i64 aY, .int .i64 aZ, .int .i64 bA, .int .i64 bB, .slice aJ aE.length aK]] (by rfl) rfl rfl MT ?_
      with_reducible refine (spec_l9Copy.calls aQ aT aU aV aW aX aY aZ bA bB _ _ aE bS bT bU bV bW bX bY bZ cA cB bI _ ?_ ?_ A7.out).mono ?_
      exact KD cO HB
      exact cP.out
      rintro e dR ⟨dN, rfl, cU, hb⟩
      refine ⟨_, rfl, ?_⟩
      replace bH := am (Kd.V_elder' (by (with_reducible repeat (first | apply Kd.V_alloc | apply Kd.V_drewN | apply Kd.V_drew)); exact bH.out) (Kd.R_base cU) hb)
      replace aM := am (Kd.V_elder' (by (with_reducible repeat (first | apply Kd.V_alloc | apply Kd.V_drewN | apply Kd.V_drew)); exact aM.out) (Kd.R_base cU) hb)
      replace aN := am (Kd.V_elder' (by (with_reducible repeat (first | apply Kd.V_alloc | apply Kd.V_drewN | apply Kd.V_drew)); exact aN.out) (Kd.R_base cU) hb)
      replace bF := am (Kd.N_elder' (by (with_reducible repeat (first | apply Kd.N_alloc | apply Kd.N_drewN | apply Kd.N_drew)); exact bF.out) (Kd.R_base cU) hb)
      have bR := am (Kd.R_lower (Kd.R_newM (M := fun k_ => (w.heap.size ≤ k_)) cU (below_size (K1 HB aH.out)) (fun k_ h_ => h_)) (below_size (K1 HB aH.out)))
      replace aA := am (BB aA hb)
      replace HB := bl (K1 HB aH.out) hb
      (try clear hb)
      (try clear hb2)
      (try clear hk)
      (try clear hi)
      (try clear cU)
      obtain ⟨cK, cL, cX⟩ := Kd.R_slice bR.out
      (first | subst cX | (injection cX with f1_ f2_ f3_; have f4_ := f1_.symm; have f5_ := f3_.symm; clear f1_ f2_ f3_; subst f4_; subst f5_))
      refine hK.out _ _ ⟨z0 _ aA.out, z1 _ aA.out, z2 _ aA.out, z3 _ aA.out, z4 _ aA.out, z5 _ aA.out, z6 _ aA.out, z7 _ aA.out, z8 _ aA.out, z9 _ aA.out, z10 _ aA.out⟩ (fun bE => ?_)
      clear hK K
      refine nm (some 13) ?_
      refine one_ (i := 7) (N := some 14) (tr [8, 1, 3, 2]) rfl rfl (one_of bQ.out (by kernel_rfl)) (by decide) (fun K hK => ?_)
      refine value_ (w1 := ?_) (v := ?_) (by rfl) rfl ?_ ?_
      rotate_left 2
      ·go_simp
       constructor
       ·rfl
       ·rfl
      refine hK.out _ _ ⟨(blk_cell (blk_alloc aA.out _) 0).trans rfl, (blk_cell (blk_alloc aA.out _) 1).trans rfl, (blk_cell (blk_alloc aA.out _) 2).trans rfl, (blk_cell (blk_alloc aA.out _) 3).trans rfl, (blk_cell (blk_alloc aA.out _) 4).trans rfl, (blk_cell (blk_alloc aA.out _) 5).trans rfl, (blk_cell (blk_alloc aA.out _) 6).trans rfl, (blk_cell (blk_alloc aA.out _) 7).trans rfl, (blk_cell (blk_alloc aA.out _) 8).trans rfl, (blk_cell (blk_alloc aA.out _) 9).trans rfl, (blk_cell (blk_alloc aA.out _) 10).trans rfl⟩ (fun bE => ?_)
      clear hK K
      refine nm (some 14) ?_
      refine one_ (i := 8) (N := some 15) (tf 12 2) rfl rfl (one_of bQ.out (by kernel_rfl)) (by decide) (fun K hK => ?_)
      refine Kd.N_append_step k48 (w0 := w) w.heap.size (by rfl) (.tmp 11) (.tmp 14) 40 48 (.agg #[(.int .i64 0), (.int .i64 0), (.string ⟨#[]⟩), (.string ⟨#[]⟩), (.int .i64 0), (.int .i64 0), (.int .i64 0), (.int .i64 0), (.int .i64 0), (.int .i64 0), (.slice none 0 0)]) 120 rfl Tryz.underlying40 info48 rfl (by decide) (by omega) cJ bC (⟨bS, bT, bU, bV, bW, bX, bY, bZ, cA, (⟨cB, bI⟩ : S46)⟩ : S48) [.int .i64 bS, .int .i64 bT, .string bU, .string bV, .int .i64 bW, .int .i64 bX, .int .i64 bY, .int .i64 bZ, .int .i64 cA, .int .i64 cB, .slice cK bI.length cL] (fun k_ => (P0_ k_ ∨ w.heap.size ≤ k_) ∧ k_ ≠ aD) (fun k_ => ((fun k_ => (P0_ k_ ∨ w.heap.size ≤ k_) ∧ k_ ≠ aD)) k_ ∧ some k_ ≠ (cJ : Value).ownBlock) rfl rfl ?aP (fun _ hk => hk) ?aF ?aO ?aB ?aS ?aL ?_
      (case aP => exact (k48_mkF _ _ (⟨bS, bT, bU, bV, bW, bX, bY, bZ, cA, (⟨cB, bI⟩ : S46)⟩ : S48) (Kd.R_reads' (Kd.R_mono (ok' := (fun k_ => ((fun k_ => (P0_ k_ ∨ w.heap.size ≤ k_) ∧ k_ ≠ aD)) k_ ∧ some k_ ≠ (cJ : Value).ownBlock)) (Kd.R_types (Kd.R_apart' (bR.out) (Kd.N_typed bF.out) (by decide)) aA.out (by decide)) (fun k_ hk => ⟨⟨(.inr (hk.1.1.1)), hk.2⟩, hk.1.2⟩))).2.1 (Kd.R_F (Kd.R_mono (ok' := (fun k_ => ((fun k_ => (P0_ k_ ∨ w.heap.size ≤ k_) ∧ k_ ≠ aD)) k_ ∧ some k_ ≠ (cJ : Value).ownBlock)) (Kd.R_types (Kd.R_apart' (bR.out) (Kd.N_typed bF.out) (by decide)) aA.out (by decide)) (fun k_ hk => ⟨⟨(.inr (hk.1.1.1)), hk.2⟩, hk.1.2⟩)))))
      (case aB => exact (K1 HB aH.out))
      (case aF => exact (fun k_ hk => ⟨(.inr (Nat.le_trans (below_size (K1 HB aH.out)) hk)), Kd.freshB (g := aD) (o := .cells #[.int .i64 aQ, .int .i64 aT, .string aU, .string aV, .int .i64 aW, .int .i64 aX, .int .i64 aY, .int .i64 aZ, .int .i64 bA, .int .i64 bB, .slice aJ aE.length aK] 48 (0, 0)) (KB aA) k_ hk⟩))
      (case aO => exact (by (with_reducible repeat (first | apply Kd.N_alloc | apply Kd.N_drewN | apply Kd.N_drew)); exact Kd.N_mono bF.out (fun _ hk => ⟨hk.1.1, hk.1.2⟩)))
      (case aS => exact (below_size (K1 HB aH.out)))
      (case aL => have := LMc8.out; omega)
      intro cT dS ho hb hg hat
      rw [← Ny126.out] at ho
      replace bH := am (Kd.V_afterv (ok := (fun k_ => (P0_ k_ ∨ w.heap.size ≤ k_) ∧ some k_ ≠ (.slice cK bI.length cL : Value).ownBlock ∧ k_ ≠ aD)) (by (with_reducible repeat (first | apply Kd.V_alloc | apply Kd.V_drewN | apply Kd.V_drew)); exact Kd.V_mono bH.out (fun _ hk => ⟨⟨hk.1.1.1, ⟨hk.2, hk.1.1.2⟩⟩, hk.1.2⟩)) hg hat)
      replace aA := am (blk_grown (g := aD) (o := .cells #[.int .i64 aQ, .int .i64 aT, .string aU, .string aV, .int .i64 aW, .int .i64 aX, .int .i64 aY, .int .i64 aZ, .int .i64 bA, .int .i64 bB, .slice aJ aE.length aK] 48 (0, 0)) (KB aA) hg (Kd.N_away bF.out (fun _ hk => hk.1.2)))
      replace aM := am (Kd.V_afterv (ok := (fun k_ => (P0_ k_ ∨ w.heap.size ≤ k_) ∧ some k_ ≠ (.slice cK bI.length cL : Value).ownBlock ∧ k_ ≠ aD)) (by (with_reducible repeat (first | apply Kd.V_alloc | apply Kd.V_drewN | apply Kd.V_drew)); exact Kd.V_mono aM.out (fun _ hk => ⟨⟨hk.1.1.1, ⟨hk.2, hk.1.1.2⟩⟩, hk.1.2⟩)) hg hat)
      replace aN := am (Kd.V_afterv (ok := (fun k_ => (P0_ k_ ∨ w.heap.size ≤ k_) ∧ some k_ ≠ (.slice cK bI.length cL : Value).ownBlock ∧ k_ ≠ aD)) (by (with_reducible repeat (first | apply Kd.V_alloc | apply Kd.V_drewN | apply Kd.V_drew)); exact Kd.V_mono aN.out (fun _ hk => ⟨⟨hk.1.1.1, ⟨hk.2, hk.1.1.2⟩⟩, hk.1.2⟩)) hg hat)
      replace HB := am (hb)
      have cH := am (ho)
      clear bF bR
      clear ho hb hg hat
      refine hK.out _ _ ⟨z0 _ aA.out, z1 _ aA.out, z2 _ aA.out, z3 _ aA.out, z4 _ aA.out, z5 _ aA.out, z6 _ aA.out, z7 _ aA.out, z8 _ aA.out, z9 _ aA.out, z10 _ aA.out⟩ (fun bE => ?_)
      clear hK K
      refine nm (some 15) ?_
      refine one_ (i := 12) (N := some 19) (tf 13 1) rfl rfl (one_of bQ.out (by kernel_rfl)) (by decide) (fun K hK => ?_)
      refine Kd.N_append_rows_step k48 (w0 := w) w.heap.size (by rfl) (.tmp 15) (.tmp 18) 40 48 (.agg #[(.int .i64 0), (.int .i64 0), (.string ⟨#[]⟩), (.string ⟨#[]⟩), (.int .i64 0), (.int .i64 0), (.int .i64 0), (.int .i64 0), (.int .i64 0), (.int .i64 0), (.slice none 0 0)]) 120 rfl Tryz.underlying40 info48 rfl (by decide) (by omega) cT aI aG _ _ _ (fun k_ => (P0_ k_ ∨ w.heap.size ≤ k_) ∧ k_ ≠ aD) (fun k_ => ((fun k_ => (P0_ k_ ∨ w.heap.size ≤ k_) ∧ k_ ≠ aD)) k_ ∧ some k_ ≠ (cT : Value).ownBlock) rfl rfl ?aO ?aR (fun _ hk => hk) ?aF ?aB ?aS ?aL ?_
      (case aR => exact (by skip; exact Kd.V_F (Kd.V_mono (ok' := (fun k_ => ((fun k_ => (P0_ k_ ∨ w.heap.size ≤ k_) ∧ k_ ≠ aD)) k_ ∧ some k_ ≠ (cT : Value).ownBlock)) (aN.out) (fun k_ hk => ⟨⟨hk.1.1, hk.1.2.2⟩, hk.2⟩))))
      (case aB => exact (K1 HB aH.out))
      (case aF => exact (fun k_ hk => ⟨(.inr (Nat.le_trans (below_size (K1 HB aH.out)) hk)), Kd.freshB (g := aD) (o := .cells #[.int .i64 aQ, .int .i64 aT, .string aU, .string aV, .int .i64 aW, .int .i64 aX, .int .i64 aY, .int .i64 aZ, .int .i64 bA, .int .i64 bB, .slice aJ aE.length aK] 48 (0, 0)) (KB aA) k_ hk⟩))
      (case aO => exact (by (with_reducible repeat (first | apply Kd.N_alloc | apply Kd.N_drewN | apply Kd.N_drew)); exact cH.out))
      (case aS => exact (below_size (K1 HB aH.out)))
      (case aL => have := LMc11.out; omega)
      intro dO dT ho hb hg hat
      rw [← Ny134.out] at ho
      replace bH := am (Kd.V_afterv (ok := (fun k_ => (P0_ k_ ∨ w.heap.size ≤ k_) ∧ k_ ≠ aD)) (by (with_reducible repeat (first | apply Kd.V_alloc | apply Kd.V_drewN | apply Kd.V_drew)); exact Kd.V_mono bH.out (fun _ hk => ⟨⟨hk.1.1, hk.1.2.2⟩, hk.2⟩)) hg hat)
      replace aA := am (blk_grown (g := aD) (o := .cells #[.int .i64 aQ, .int .i64 aT, .string aU, .string aV, .int .i64 aW, .int .i64 aX, .int .i64 aY, .int .i64 aZ, .int .i64 bA, .int .i64 bB, .slice aJ aE.length aK] 48 (0, 0)) (KB aA) hg (Kd.N_away cH.out (fun _ hk => hk.2)))
      replace aM := am (Kd.V_afterv (ok := (fun k_ => (P0_ k_ ∨ w.heap.size ≤ k_) ∧ k_ ≠ aD)) (by (with_reducible repeat (first | apply Kd.V_alloc | apply Kd.V_drewN | apply Kd.V_drew)); exact Kd.V_mono aM.out (fun _ hk => ⟨⟨hk.1.1, hk.1.2.2⟩, hk.2⟩)) hg hat)
      replace aN := am (Kd.V_afterv (ok := (fun k_ => (P0_ k_ ∨ w.heap.size ≤ k_) ∧ k_ ≠ aD)) (by (with_reducible repeat (first | apply Kd.V_alloc | apply Kd.V_drewN | apply Kd.V_drew)); exact Kd.V_mono aN.out (fun _ hk => ⟨⟨hk.1.1, hk.1.2.2⟩, hk.2⟩)) hg hat)
      replace HB := am (hb)
      have cY := am (ho)
      clear cH
      clear ho hb hg hat
      refine hK.out _ _ ⟨z0 _ aA.out, z1 _ aA.out, z2 _ aA.out, z3 _ aA.out, z4 _ aA.out, z5 _ aA.out, z6 _ aA.out, z7 _ aA.out, z8 _ aA.out, z9 _ aA.out, z10 _ aA.out⟩ (fun bE => ?_)
      clear hK K
      refine nm (some 19) ?_
      refine pv bQ 13 6 (tf 14 0) ?_
      refine done_ (done_of bQ.out (by kernel_rfl)) ?_
      try go_wp2
      go_ret
      exact ⟨_, ER, by (with_reducible repeat (first | apply Kd.N_alloc | apply Kd.N_drewN | apply Kd.N_drew)); exact Kd.N_mono cY.out (fun _ hk => hk.1), K1 HB aH.out⟩
     ·rw [if_neg cZ] at H
      exact absurd H (by simp)
    ·rw [if_neg c8] at H
     exact absurd H (by simp)
   ·rw [if_neg c6] at H
    exact absurd H (by simp)
  ·rw [if_neg c5] at H
   exact absurd H (by simp)
 ·rw [if_neg c4] at H
  exact absurd H (by simp)
end Go.Proofs.YtgoblfacfjnanaaGreat.PAll
end
