/- Contracts of the functions that the statement reaches. -/
import Derived.Lib.LazyBuf
import Derived.Test.YtgoblfacfjnanaaGreatCFnExactGateKeyIn3
import Derived.Test.YtgoblfacfjnanaaGreatCFnExactGateKeyIn4
set_option maxHeartbeats 8000000
set_option maxRecDepth 100000
section
namespace Go.Proofs.YtgoblfacfjnanaaGreat.PAll
open Go.RowKit Go.Proofs.YtgoblfacfjnanaaGreatW.PrintWords Go.Proofs.YtgoblfacfjnanaaGreatW.PrintLast Go.Proofs.YtgoblfacfjnanaaGreatW.PrintMore
attribute [local go_sem] max2_int min2_int max_two min_two max_three min_three max_four min_four
set_option linter.unusedVariables false
set_option linter.unusedSimpArgs false
def laws_eqCall.f (a0_0 : Int) (a0_1 : Int) (a0_2 : Int) (a1_0 : Int) (a1_1 : Int) (a1_2 : Int) : Option (Bool) := if a0_0 = a1_0 then (if a0_1 = a1_1 then (if a0_2 = a1_2 then (some true) else (some false)) else (some false)) else (some false)
theorem laws_eqCall.calls (aF : Int) (aG : Int) (aH : Int) (aI : Int) (aJ : Int) (aK : Int) (r : Bool) (w : World) (h : laws_eqCall.f aF aG aH aI aJ aK = some r) :
  Calls Tryz.prog 113 #[.agg #[.int .i64 aF, .int .i64 aG, .int .i64 aH], .agg #[.int .i64 aI, .int .i64 aJ, .int .i64 aK]] w fun e w' => e = .returned (.bool r) ∧ Below w.heap.size w w' := by
 have bX := Tryz.underlying103
 have HB := am (Below.refl w.heap.size w)
 have H : (if aF = aI then (if aG = aJ then (if aH = aK then (some true) else (some false)) else (some false)) else (some false)) = some r := h
 clear h
 by_cases c3 : aF = aI
 ·rw [if_pos c3] at H
  have c3b0 : (aF == aI) = true := beq_iff_eq.mpr c3
  have c3b1 : (aF != aI) = false := bne_eq_false_iff_eq.mpr c3
  clear c3
  by_cases c4 : aG = aJ
  ·rw [if_pos c4] at H
   have c4b0 : (aG == aJ) = true := beq_iff_eq.mpr c4
   have c4b1 : (aG != aJ) = false := bne_eq_false_iff_eq.mpr c4
   clear c4
   by_cases c5 : aH = aK
   ·rw [if_pos c5] at H
    have c5b0 : (aH == aK) = true := beq_iff_eq.mpr c5
    have c5b1 : (aH != aK) = false := bne_eq_false_iff_eq.mpr c5
    clear c5
    obtain rfl := sj H
    go_enter Tryz.func113, Tryz.ntmps113
    go_wp2_with (first | ((with_reducible refine gate_dst (N := 2) rfl ?_); refine box_event rfl (N := 2) rfl (cs := #[.int .i64 aF, .int .i64 aG, .int .i64 aH]) (t := 103) BX ?_; intro aP hg w6 aD hb; have aA := am (aD); have aL := am (GH HB hg); have aE := aL; replace HB := bl (KL HB) hb; clear hb aD hg) | ((with_reducible refine gate_dst (N := 3) rfl ?_); refine box_event rfl (N := 3) rfl (cs := #[.int .i64 aI, .int .i64 aJ, .int .i64 aK]) (t := 103) BX ?_; intro aQ hg w7 aD hb; have aM := am (aD); have aN := am (GH1 HB aE.out hg); have aO := aN; replace HB := bl (K1 HB aE.out) hb; have aB := am (NL aA hg); have aC := am (NG aA hg); replace aA := am (BB aA hb); clear hb aD hg; have cH := aB.out; have cI := aC.out; have ⟨_, _, _, _⟩ := y3 w7 aA.out; have ⟨_, _, _, _⟩ := y3 w7 aM.out))
    go_ret
    exact ⟨ER, K2 HB aE.out aO.out⟩
   ·rw [if_neg c5] at H
    have c5b0 : (aH == aK) = false := beq_eq_false_iff_ne.mpr c5
    have c5b1 : (aH != aK) = true := bne_iff_ne.mpr c5
    obtain rfl := sj H
    go_enter Tryz.func113, Tryz.ntmps113
    go_wp2_with (first | ((with_reducible refine gate_dst (N := 2) rfl ?_); refine box_event rfl (N := 2) rfl (cs := #[.int .i64 aF, .int .i64 aG, .int .i64 aH]) (t := 103) BX ?_; intro aP hg cJ aD hb; have aA := am (aD); have aL := am (GH HB hg); have aE := aL; replace HB := bl (KL HB) hb; clear hb aD hg) | ((with_reducible refine gate_dst (N := 3) rfl ?_); refine box_event rfl (N := 3) rfl (cs := #[.int .i64 aI, .int .i64 aJ, .int .i64 aK]) (t := 103) BX ?_; intro aQ hg bY aD hb; have aM := am (aD); have aN := am (GH1 HB aE.out hg); have aO := aN; replace HB := bl (K1 HB aE.out) hb; have aB := am (NL aA hg); have aC := am (NG aA hg); replace aA := am (BB aA hb); clear hb aD hg; have bZ := aB.out; have cA := aC.out; have ⟨_, _, _, _⟩ := y3 bY aA.out; have ⟨_, _, _, _⟩ := y3 bY aM.out))
    go_ret
    exact ⟨ER, K2 HB aE.out aO.out⟩
  ·rw [if_neg c4] at H
   have c4b0 : (aG == aJ) = false := beq_eq_false_iff_ne.mpr c4
   have c4b1 : (aG != aJ) = true := bne_iff_ne.mpr c4
   obtain rfl := sj H
   go_enter Tryz.func113, Tryz.ntmps113
   go_wp2_with (first | ((with_reducible refine gate_dst (N := 2) rfl ?_); refine box_event rfl (N := 2) rfl (cs := #[.int .i64 aF, .int .i64 aG, .int .i64 aH]) (t := 103) BX ?_; intro aP hg cK aD hb; have aA := am (aD); have aL := am (GH HB hg); have aE := aL; replace HB := bl (KL HB) hb; clear hb aD hg) | ((with_reducible refine gate_dst (N := 3) rfl ?_); refine box_event rfl (N := 3) rfl (cs := #[.int .i64 aI, .int .i64 aJ, .int .i64 aK]) (t := 103) BX ?_; intro aQ hg cB aD hb; have aM := am (aD); have aN := am (GH1 HB aE.out hg); have aO := aN; replace HB := bl (K1 HB aE.out) hb; have aB := am (NL aA hg); have aC := am (NG aA hg); replace aA := am (BB aA hb); clear hb aD hg; have cC := aB.out; have cD := aC.out; have ⟨_, _, _, _⟩ := y3 cB aA.out; have ⟨_, _, _, _⟩ := y3 cB aM.out))
   go_ret
   exact ⟨ER, K2 HB aE.out aO.out⟩
 ·rw [if_neg c3] at H
  have c3b0 : (aF == aI) = false := beq_eq_false_iff_ne.mpr c3
  have c3b1 : (aF != aI) = true := bne_iff_ne.mpr c3
  obtain rfl := sj H
  go_enter Tryz.func113, Tryz.ntmps113
  go_wp2_with (first | ((with_reducible refine gate_dst (N := 2) rfl ?_); refine box_event rfl (N := 2) rfl (cs := #[.int .i64 aF, .int .i64 aG, .int .i64 aH]) (t := 103) BX ?_; intro aP hg cL aD hb; have aA := am (aD); have aL := am (GH HB hg); have aE := aL; replace HB := bl (KL HB) hb; clear hb aD hg) | ((with_reducible refine gate_dst (N := 3) rfl ?_); refine box_event rfl (N := 3) rfl (cs := #[.int .i64 aI, .int .i64 aJ, .int .i64 aK]) (t := 103) BX ?_; intro aQ hg cE aD hb; have aM := am (aD); have aN := am (GH1 HB aE.out hg); have aO := aN; replace HB := bl (K1 HB aE.out) hb; have aB := am (NL aA hg); have aC := am (NG aA hg); replace aA := am (BB aA hb); clear hb aD hg; have cF := aB.out; have cG := aC.out; have ⟨_, _, _, _⟩ := y3 cE aA.out; have ⟨_, _, _, _⟩ := y3 cE aM.out))
  go_ret
  exact ⟨ER, K2 HB aE.out aO.out⟩
def laws_toBlock.f (a0_0 : Int) (a0_1 : Int) : Option (Int × Int) := some (a0_0, a0_1)
theorem laws_toBlock.calls (aF : Int) (aL : Int) (r1 : Int) (r2 : Int) (w : World) (h : laws_toBlock.f aF aL = some (r1, r2)) :
  Calls Tryz.prog 87 #[.agg #[.int .i64 aF, .int .i64 aL]] w fun e w' => e = .returned (.agg #[.int .i64 r1, .int .i64 r2]) ∧ Below w.heap.size w w' := by
 have bE := Tryz.underlying94
 have bF := Tryz.underlying90
 have HB := am (Below.refl w.heap.size w)
 have H : (some (aF, aL)) = some (r1, r2) := h
 clear h
 simp only [Option.some.injEq, Prod.mk.injEq] at H
 obtain ⟨rfl, rfl⟩ := H
 go_enter Tryz.func87, Tryz.ntmps87
 go_wp2_with (first | ((with_reducible refine gate_dst (N := 1) rfl ?_); refine box_event rfl (N := 1) rfl (cs := #[.int .i64 aF, .int .i64 aL]) (t := 94) BX ?_; intro bC hg w2 aD hb; have aA := am (aD); have aN := am (GH HB hg); have aE := aN; replace HB := bl (KL HB) hb; clear hb aD hg) | ((with_reducible refine gate_dst (N := 2) rfl ?_); refine box_event rfl (N := 2) rfl (cs := #[.int .i64 0, .int .i64 0]) (t := 90) BX ?_; intro aO hg w3 aD hb; have aC := am (aD); have aP := am (GH1 HB aE.out hg); have aM := aP; replace HB := bl (K1 HB aE.out) hb; have aG := am (NL aA hg); have aH := am (NG aA hg); replace aA := am (BB aA hb); clear hb aD hg) | ((with_reducible refine gate_dst (N := 3) rfl ?_); refine box_event rfl (N := 3) rfl (cs := #[.int .i64 0, .int .i64 0]) (t := 90) BX ?_; intro bD hg w4 aD hb; have aQ := am (aD); have aR := am (GH2 HB aE.out aM.out hg); have aS := aR; replace HB := bl (K2 HB aE.out aM.out) hb; have aI := am (NL aA hg); have aJ := am (NG aA hg); replace aA := am (BB aA hb); have aB := am (NL aC hg); have aK := am (NG aC hg); replace aC := am (BB aC hb); clear hb aD hg; have bG := aG.out; have bH := aH.out; have bI := aI.out; have bJ := aJ.out; have ⟨_, _, _⟩ := y2 w4 aA.out; have bK := aK.out; have bL := aB.out; have ⟨_, _, _⟩ := y2 w4 aQ.out; have ⟨_, _, _⟩ := y2 w4 aC.out))
 refine bodyPost_ret (results_cell_row rfl _ _ aO 90 #[.int .i64 aF, .int .i64 aL] (0, 0) _ rfl (by refine BD ?_; refine blk_put (cs := #[.int .i64 aF, .int .i64 0]) ?_ 1 _ rfl; refine BD ?_; refine blk_put (cs := #[.int .i64 0, .int .i64 0]) ?_ 0 _ rfl; refine BD ?_; refine blk_far ?_ aB.out _; refine BD ?_; refine blk_far ?_ aB.out _; refine BD ?_; exact aC.out) Tryz.underlying90 rfl (by kernel_rfl)) rfl ?_
 exact ⟨ER, K3 HB aE.out aM.out aS.out⟩
def laws_toRule.f (a0_0 : Int) (a0_1 : Int) (a0_2 : Int) (a0_3 : Int) (a0_4 : Int) (a0_5 : Int) (a0_6 : Int) (a0_7 : Int) : Option (Int × Int × Int × Int × Int × Int × Int × Int) := (laws_toBlock.f a0_2 a0_3).bind fun bt104 => ((laws_toBlock.f a0_4 a0_5).bind fun bt106 => (some (a0_0, a0_1, bt104.1, bt104.2, bt106.1, bt106.2, a0_6, a0_7)))
theorem laws_toRule.calls (aC : Int) (aE : Int) (aO : Int) (aP : Int) (aK : Int) (aL : Int) (aJ : Int) (aM : Int) (r1 : Int) (r2 : Int) (r3 : Int) (r4 : Int) (r5 : Int) (r6 : Int) (r7 : Int) (r8 : Int) (w : World) (h : laws_toRule.f aC aE aO aP aK aL aJ aM = some (r1, r2, r3, r4, r5, r6, r7, r8)) :
  Calls Tryz.prog 58 #[.agg #[.int .i64 aC, .int .i64 aE, .int .i64 aO, .int .i64 aP, .int .i64 aK, .int .i64 aL, .int .i64 aJ, .int .i64 aM]] w fun e w' => e = .returned (.agg #[.int .i64 r1, .int .i64 r2, .int .i64 r3, .int .i64 r4, .int .i64 r5, .int .i64 r6, .int .i64 r7, .int .i64 r8]) ∧ Below w.heap.size w w' := by
 have dY := Tryz.underlying96
 have dZ := Tryz.underlying92
 have eA := Tryz.underlying94
 have eB := Tryz.underlying90
 have HB := am (Below.refl w.heap.size w)
 have H : ((laws_toBlock.f aO aP).bind fun bB => ((laws_toBlock.f aK aL).bind fun aQ => (some (aC, aE, bB.1, bB.2, aQ.1, aQ.2, aJ, aM)))) = some (r1, r2, r3, r4, r5, r6, r7, r8) := h
 clear h
 replace H := bm H
 obtain ⟨⟨aG, aN⟩, dT, H⟩ := H
 replace H : ((laws_toBlock.f aK aL).bind fun aQ => (some (aC, aE, aG, aN, aQ.1, aQ.2, aJ, aM))) = some (r1, r2, r3, r4, r5, r6, r7, r8) := H
 have A2 := Aside0.mk dT
 clear dT
 replace H := bm H
 obtain ⟨⟨aT, aY⟩, dU, H⟩ := H
 replace H : (some (aC, aE, aG, aN, aT, aY, aJ, aM)) = some (r1, r2, r3, r4, r5, r6, r7, r8) := H
 have A3 := Aside0.mk dU
 clear dU
 simp only [Option.some.injEq, Prod.mk.injEq] at H
 obtain ⟨rfl, rfl, rfl, rfl, rfl, rfl, rfl, rfl⟩ := H
 go_enter Tryz.func58, Tryz.ntmps58
 go_wp2_with (first | ((with_reducible refine gate_dst (N := 1) rfl ?_); refine box_event rfl (N := 1) rfl (cs := #[.int .i64 aC, .int .i64 aE, .int .i64 aO, .int .i64 aP, .int .i64 aK, .int .i64 aL, .int .i64 aJ, .int .i64 aM]) (t := 96) BX ?_; intro bC hg w4 aR hb; have aB := am (aR); have bE := am (GH HB hg); have aH := bE; replace HB := bl (KL HB) hb; clear hb aR hg) | ((with_reducible refine gate_dst (N := 2) rfl ?_); refine box_event rfl (N := 2) rfl (cs := #[.int .i64 0, .int .i64 0, .int .i64 0, .int .i64 0, .int .i64 0, .int .i64 0, .int .i64 0, .int .i64 0]) (t := 92) BX ?_; intro aZ hg w5 aR hb; have aF := am (aR); have bF := am (GH1 HB aH.out hg); have aS := bF; replace HB := bl (K1 HB aH.out) hb; have aU := am (NL aB hg); have aV := am (NG aB hg); replace aB := am (BB aB hb); clear hb aR hg) | ((with_reducible refine gate_dst (N := 3) rfl ?_); refine box_event rfl (N := 3) rfl (cs := #[.int .i64 0, .int .i64 0, .int .i64 0, .int .i64 0, .int .i64 0, .int .i64 0, .int .i64 0, .int .i64 0]) (t := 92) BX ?_; intro bD hg w6 aR hb; have aI := am (aR); have bG := am (GH2 HB aH.out aS.out hg); have bA := bG; replace HB := bl (K2 HB aH.out aS.out) hb; have aD := am (NL aB hg); have aW := am (NG aB hg); replace aB := am (BB aB hb); have aA := am (NL aF hg); have aX := am (NG aF hg); replace aF := am (BB aF hb); clear hb aR hg; have eC := aU.out; have eD := aV.out; have eE := aD.out; have eF := aW.out; have ⟨_, _, _, _, _, _, _, _, _⟩ := y8 w6 aB.out; have dV := aX.out; have dW := aA.out; have ⟨_, _, _, _, _, _, _, _, _⟩ := y8 w6 aI.out) | ((with_reducible refine gate_callee (f := 87) rfl ?_); refine goesL_ (some 12) rfl rfl Tryz.func87 (by kernel_rfl) rfl #[.agg #[.int .i64 aO, .int .i64 aP]] rfl MT ?_; (with_reducible refine (laws_toBlock.calls aO aP aG aN _ A2.out).mono ?_); rintro e dX ⟨rfl, hb⟩; refine ⟨_, rfl, ?_⟩; replace aB := am (blk_below (g := bC) (o := .cells #[.int .i64 aC, .int .i64 aE, .int .i64 aO, .int .i64 aP, .int .i64 aK, .int .i64 aL, .int .i64 aJ, .int .i64 aM] 96 (0, 0)) (by refine BD ?_; refine blk_far ?_ aD.out _; refine BD ?_; refine blk_far ?_ aD.out _; refine BD ?_; exact aB.out) hb); replace aF := am (blk_below (g := aZ) (o := .cells #[.int .i64 0, .int .i64 0, .int .i64 0, .int .i64 0, .int .i64 0, .int .i64 0, .int .i64 0, .int .i64 0] 92 (0, 0)) (by refine BD ?_; refine blk_far ?_ aA.out _; refine BD ?_; refine blk_far ?_ aA.out _; refine BD ?_; exact aF.out) hb); replace aI := am (blk_below (g := bD) (o := .cells #[.int .i64 aC, .int .i64 aE, .int .i64 0, .int .i64 0, .int .i64 0, .int .i64 0, .int .i64 0, .int .i64 0] 92 (0, 0)) (by refine BD ?_; refine blk_put (cs := #[.int .i64 aC, .int .i64 0, .int .i64 0, .int .i64 0, .int .i64 0, .int .i64 0, .int .i64 0, .int .i64 0]) ?_ 1 _ rfl; refine BD ?_; refine blk_put (cs := #[.int .i64 0, .int .i64 0, .int .i64 0, .int .i64 0, .int .i64 0, .int .i64 0, .int .i64 0, .int .i64 0]) ?_ 0 _ rfl; refine BD ?_; exact aI.out) hb); replace HB := bl (K3 HB aH.out aS.out bA.out) hb; (try clear hb); (try clear hb2); (try clear hk); (try clear hi); have ⟨_, _, _, _, _, _, _, _, _⟩ := y8 dX aI.out; have ⟨_, _, _, _, _, _, _, _, _⟩ := y8 dX aB.out) | ((with_reducible refine gate_callee (f := 87) rfl ?_); refine goesL_ (some 16) rfl rfl Tryz.func87 (by kernel_rfl) rfl #[.agg #[.int .i64 aK, .int .i64 aL]] rfl MT ?_; (with_reducible refine (laws_toBlock.calls aK aL aT aY _ A3.out).mono ?_); rintro e dS ⟨rfl, hb⟩; refine ⟨_, rfl, ?_⟩; replace aB := am (blk_below (g := bC) (o := .cells #[.int .i64 aC, .int .i64 aE, .int .i64 aO, .int .i64 aP, .int .i64 aK, .int .i64 aL, .int .i64 aJ, .int .i64 aM] 96 (0, 0)) (by refine BD ?_; refine blk_far ?_ aD.out _; refine BD ?_; refine blk_far ?_ aD.out _; refine BD ?_; exact aB.out) hb); replace aF := am (blk_below (g := aZ) (o := .cells #[.int .i64 0, .int .i64 0, .int .i64 0, .int .i64 0, .int .i64 0, .int .i64 0, .int .i64 0, .int .i64 0] 92 (0, 0)) (by refine BD ?_; refine blk_far ?_ aA.out _; refine BD ?_; refine blk_far ?_ aA.out _; refine BD ?_; exact aF.out) hb); replace aI := am (blk_below (g := bD) (o := .cells #[.int .i64 aC, .int .i64 aE, .int .i64 aG, .int .i64 aN, .int .i64 0, .int .i64 0, .int .i64 0, .int .i64 0] 92 (0, 0)) (by refine BD ?_; refine blk_put (cs := #[.int .i64 aC, .int .i64 aE, .int .i64 aG, .int .i64 0, .int .i64 0, .int .i64 0, .int .i64 0, .int .i64 0]) ?_ 3 _ rfl; refine BD ?_; refine blk_put (cs := #[.int .i64 aC, .int .i64 aE, .int .i64 0, .int .i64 0, .int .i64 0, .int .i64 0, .int .i64 0, .int .i64 0]) ?_ 2 _ rfl; refine BD ?_; exact aI.out) hb); replace HB := bl (K3 HB aH.out aS.out bA.out) hb; (try clear hb); (try clear hb2); (try clear hk); (try clear hi); have ⟨_, _, _, _, _, _, _, _, _⟩ := y8 dS aI.out; have ⟨_, _, _, _, _, _, _, _, _⟩ := y8 dS aB.out; have ⟨_, _, _, _, _, _, _, _, _⟩ := y8 dS aF.out))
 refine bodyPost_ret (results_cell_row rfl _ _ aZ 92 #[.int .i64 aC, .int .i64 aE, .int .i64 aG, .int .i64 aN, .int .i64 aT, .int .i64 aY, .int .i64 aJ, .int .i64 aM] (0, 0) _ rfl (by refine BD ?_; refine blk_put (cs := #[.int .i64 aC, .int .i64 aE, .int .i64 aG, .int .i64 aN, .int .i64 aT, .int .i64 aY, .int .i64 aJ, .int .i64 0]) ?_ 7 _ rfl; refine BD ?_; refine blk_put (cs := #[.int .i64 aC, .int .i64 aE, .int .i64 aG, .int .i64 aN, .int .i64 aT, .int .i64 aY, .int .i64 0, .int .i64 0]) ?_ 6 _ rfl; refine BD ?_; refine blk_put (cs := #[.int .i64 aC, .int .i64 aE, .int .i64 aG, .int .i64 aN, .int .i64 aT, .int .i64 0, .int .i64 0, .int .i64 0]) ?_ 5 _ rfl; refine BD ?_; refine blk_put (cs := #[.int .i64 aC, .int .i64 aE, .int .i64 aG, .int .i64 aN, .int .i64 0, .int .i64 0, .int .i64 0, .int .i64 0]) ?_ 4 _ rfl; refine BD ?_; refine blk_put (cs := #[.int .i64 aC, .int .i64 aE, .int .i64 aG, .int .i64 0, .int .i64 0, .int .i64 0, .int .i64 0, .int .i64 0]) ?_ 3 _ rfl; refine BD ?_; refine blk_put (cs := #[.int .i64 aC, .int .i64 aE, .int .i64 0, .int .i64 0, .int .i64 0, .int .i64 0, .int .i64 0, .int .i64 0]) ?_ 2 _ rfl; refine BD ?_; refine blk_put (cs := #[.int .i64 aC, .int .i64 0, .int .i64 0, .int .i64 0, .int .i64 0, .int .i64 0, .int .i64 0, .int .i64 0]) ?_ 1 _ rfl; refine BD ?_; refine blk_put (cs := #[.int .i64 0, .int .i64 0, .int .i64 0, .int .i64 0, .int .i64 0, .int .i64 0, .int .i64 0, .int .i64 0]) ?_ 0 _ rfl; refine BD ?_; refine blk_far ?_ aA.out _; refine BD ?_; refine blk_far ?_ aA.out _; refine BD ?_; refine blk_far ?_ aA.out _; refine BD ?_; refine blk_far ?_ aA.out _; refine BD ?_; exact aF.out) Tryz.underlying92 rfl (by kernel_rfl)) rfl ?_
 exact ⟨ER, K3 HB aH.out aS.out bA.out⟩
def laws_toRuleS.l0 : Nat → List (S96) → List (S92) → Int → Option ((List (S92)))
 | 0, _, _, _ => none
 | k + 1, x0, x3, x4 => if x4 < (x0.length : Int) then (if 0 ≤ x4 then ((laws_toRule.f ((rd_T96 x0 x4).f0) ((rd_T96 x0 x4).f1) ((rd_T96 x0 x4).f2.f0) ((rd_T96 x0 x4).f2.f1) ((rd_T96 x0 x4).f3.f0) ((rd_T96 x0 x4).f3.f1) ((rd_T96 x0 x4).f4) ((rd_T96 x0 x4).f5)).bind fun bt105 => (if x4 < (x3.length : Int) then (laws_toRuleS.l0 k x0 (x3.set (x4 : Int).toNat (⟨bt105.1, bt105.2.1, (⟨bt105.2.2.1, bt105.2.2.2.1⟩ : S90), (⟨bt105.2.2.2.2.1, bt105.2.2.2.2.2.1⟩ : S90), bt105.2.2.2.2.2.2.1, bt105.2.2.2.2.2.2.2⟩ : S92)) (wrap64 (x4 + 1))) else (none))) else (none)) else (some x3)
def laws_toRuleS.f (k : Nat) (l0 : List (S96)) : Option ((List (S92))) := if 0 ≤ (l0.length : Int) then (if ((l0.length : Int) : Int).toNat ≤ 4398046511104 then (laws_toRuleS.l0 k l0 (List.replicate ((l0.length : Int) : Int).toNat z92) 0) else (none)) else (none)
theorem laws_toRuleS.calls (k : Nat) (A0 : Option Addr) (c0 : Nat) (l0 : List (S96)) (r : List (S92)) (w : World) (cU : Kd.C k96 w A0 l0.length l0) (cV : l0.length ≤ c0) (h : laws_toRuleS.f k l0 = some r) :
  Calls Tryz.prog 27 #[.slice A0 l0.length c0] w fun e w' => ∃ v0_ : Value, e = .returned (v0_) ∧ Kd.R k92 92 w' w.heap.size (fun _ => True) v0_ r ∧ Below w.heap.size w w' := by
 have cY := Tryz.underlying96
 have cZ := Tryz.underlying92
 have dA := Aside0.mk cU
 have dB := Aside0.mk cV
 clear cU cV
 have HB := am (Below.refl w.heap.size w)
 have H : (if 0 ≤ (l0.length : Int) then (if ((l0.length : Int) : Int).toNat ≤ 4398046511104 then (laws_toRuleS.l0 k l0 (List.replicate ((l0.length : Int) : Int).toNat z92) 0) else (none)) else (none)) = some r := h
 clear h
 by_cases c2 : 0 ≤ (l0.length : Int)
 ·rw [if_pos c2] at H
  have c2b0 := eq_true c2
  have c2b1 : decide (0 ≤ (l0.length : Int)) = true := decide_eq_true c2
  clear c2
  by_cases c3 : ((l0.length : Int) : Int).toNat ≤ 4398046511104
  ·rw [if_pos c3] at H
   have c3b0 := eq_true c3
   have c3b1 : decide (((l0.length : Int) : Int).toNat ≤ 4398046511104) = true := decide_eq_true c3
   clear c3
   obtain ⟨bT, aI⟩ : ∃ y_ : List (S92), y_ = (List.replicate ((l0.length : Int) : Int).toNat z92) := ⟨_, rfl⟩
   replace H : (laws_toRuleS.l0 k l0 bT 0) = some r := by first | (rw [aI]; with_reducible exact H) | (have H2_ := (Option.bind_some _ _).symm.trans H; rw [aI]; with_reducible exact H2_) | (have H2_ := (Option.bind_some _ _).symm.trans H; with_reducible exact H2_) | with_reducible exact H | (rw [aI]; exact H) | exact H
   have Ny101 := Aside0.mk aI
   clear aI
   have H' := Aside0.mk H
   clear H
   go_enter Tryz.func27, Tryz.ntmps27
   go_wp2_with (first | ((with_reducible refine gate_dst (N := 7) rfl ?_); refine Kd.R_make k92 _ 92 rfl (N := 7) rfl 36 _ _ rfl (l0.length : Int) rfl rfl Tryz.underlying36 (.agg #[(.int .i64 0), (.int .i64 0), (.int .i64 0), (.int .i64 0), (.int .i64 0), (.int .i64 0), (.int .i64 0), (.int .i64 0)]) 64 info92 rfl (by decide) (by omega) z92 (ok := fun _ => True) (okp := fun _ => True) (k92_mkM _ _ _ z92 ) (fun _ hk => hk) trivial (OD) (Nat.le_trans (Nat.mul_le_mul_right _ (OD : (l0.length : Int).toNat ≤ 4398046511104)) (by omega)) (Below.refl _ _) (Nat.le_refl _) ?_; intro bZ w4 bU hb hg_ hnew_; clear hg_ hnew_; (first | rw [← Ny101.out] at bU | (simp only [Int.reduceToNat] at bU; rw [← Ny101.out] at bU)); have bV := am (Kd.R_lower bU (below_size (KL HB))); replace HB := bl (KL HB) hb; clear hb bU))
   go_loopg [4] k (fun kq v4 w' => ∃ (aB : List (S92)) (aA : Int), v4 = .int .i64 aA ∧ Aside0 (laws_toRuleS.l0 kq l0 aB aA = some r) ∧ Aside0 (kq ≤ k) ∧ Aside0 (Kd.R k92 92 w' w.heap.size (fun _ => True) bZ aB) ∧ Aside0 (Below w.heap.size w w'))
   case atStart => exact ⟨(bT), (0), (by first | rfl | (simp; done) | (simp [*]; done)), H', ⟨Nat.le_refl _⟩, ⟨KR bV⟩, ⟨KL HB⟩⟩
   case round =>
    clear H'
    try clear c2
    try clear c2b0
    try clear c2b1
    try clear p2
    try clear c3
    try clear c3b0
    try clear c3b1
    obtain ⟨aB, aA, rfl, HA, HK1, aG, HB⟩ := hrel
    cases gk with
    | zero => exact absurd HA.out (by simp [laws_toRuleS.l0])
    | succ k1 =>
     have H := HA.out
     clear HA
     simp only [laws_toRuleS.l0] at H
     by_cases c6 : aA < (l0.length : Int)
     ·rw [if_pos c6] at H
      have c6b0 : decide (aA < (l0.length : Int)) = true := decide_eq_true c6
      clear c6
      by_cases c7 : 0 ≤ aA
      ·rw [if_pos c7] at H
       have c7b0 : decide (0 ≤ aA) = true := decide_eq_true c7
       clear c7
       replace H := bm H
       obtain ⟨⟨aK, aL, aM, aN, aO, aP, aQ, aR⟩, cW, H⟩ := H
       replace H : (if aA < (aB.length : Int) then (laws_toRuleS.l0 k1 l0 (aB.set (aA : Int).toNat (⟨aK, aL, (⟨aM, aN⟩ : S90), (⟨aO, aP⟩ : S90), aQ, aR⟩ : S92)) (wrap64 (aA + 1))) else (none)) = some r := H
       have A8 := Aside0.mk cW
       clear cW
       by_cases c9 : aA < (aB.length : Int)
       ·rw [if_pos c9] at H
        have c9b0 : decide (aA < (aB.length : Int)) = true := decide_eq_true c9
        clear c9
        obtain ⟨bA, aJ⟩ : ∃ y_ : List (S92), y_ = (aB.set (aA : Int).toNat (⟨aK, aL, (⟨aM, aN⟩ : S90), (⟨aO, aP⟩ : S90), aQ, aR⟩ : S92)) := ⟨_, rfl⟩
        replace H : (laws_toRuleS.l0 k1 l0 bA (wrap64 (aA + 1))) = some r := by first | (rw [aJ]; with_reducible exact H) | (have H2_ := (Option.bind_some _ _).symm.trans H; rw [aJ]; with_reducible exact H2_) | (have H2_ := (Option.bind_some _ _).symm.trans H; with_reducible exact H2_) | with_reducible exact H | (rw [aJ]; exact H) | exact H
        have Ny113 := Aside0.mk aJ
        clear aJ
        have H' := Aside0.mk H
        clear H
        have bB : 0 ≤ (aA : Int) := OD
        have bC : aA < (l0.length : Int) := OD
        obtain ⟨_, cA, aS, aT, aU, aV, aW, aX, aY, aZ⟩ := at_T96 dA.out aA bB bC
        cases cA
        replace aS := CX HB.out aS
        replace aT := CX HB.out aT
        replace aU := CX HB.out aU
        replace aV := CX HB.out aV
        replace aW := CX HB.out aW
        replace aX := CX HB.out aX
        replace aY := CX HB.out aY
        replace aZ := CX HB.out aZ
        replace bB := eq_true bB
        replace bC := eq_true bC
        go_wp2_with (first | ((with_reducible refine gate_callee (f := 58) rfl ?_); refine goesL_ (some 20) rfl rfl Tryz.func58 (by kernel_rfl) rfl #[.agg #[.int .i64 ((rd_T96 l0 aA).f0), .int .i64 ((rd_T96 l0 aA).f1), .int .i64 ((rd_T96 l0 aA).f2.f0), .int .i64 ((rd_T96 l0 aA).f2.f1), .int .i64 ((rd_T96 l0 aA).f3.f0), .int .i64 ((rd_T96 l0 aA).f3.f1), .int .i64 ((rd_T96 l0 aA).f4), .int .i64 ((rd_T96 l0 aA).f5)]] rfl MT ?_; (with_reducible refine (laws_toRule.calls ((rd_T96 l0 aA).f0) ((rd_T96 l0 aA).f1) ((rd_T96 l0 aA).f2.f0) ((rd_T96 l0 aA).f2.f1) ((rd_T96 l0 aA).f3.f0) ((rd_T96 l0 aA).f3.f1) ((rd_T96 l0 aA).f4) ((rd_T96 l0 aA).f5) aK aL aM aN aO aP aQ aR _ A8.out).mono ?_); rintro e aH ⟨rfl, hb⟩; refine ⟨_, rfl, ?_⟩; replace aG := am (Kd.R_below (KR aG) hb); replace HB := bl (KL HB) hb; (try clear hb); have cB : 0 ≤ (aA : Int) := OD; have cC : (aA : Int) < ((aB.length : Int) : Int) := OD; obtain ⟨go10, bW, bX, bY, gl10, cl10, HG10⟩ := Kd.R_form aG.out (by omega); (first | cases bX | (injection bX with ea_ en_ ec_; (first | subst ea_ | (injection ea_ with ea_; subst ea_)); subst ec_; clear en_)); have GB10 := Aside0.mk bY; have GG10 := Aside0.mk HG10; clear bY gl10 HG10; obtain ⟨ce10, hcl10, hM10, aD, aE⟩ := Kd.R_elem aG.out z92 (aA : Int) cB cC; obtain rfl := k92_openM hM10; have cD : aH.cell? ⟨go10, (aA : Int).toNat * 8, none⟩ = some (.int .i64 ((rd_T92 aB aA).f0)) := aD 0 _ rfl; have cE : aH.cell? ⟨go10, (aA : Int).toNat * 8 + 1, none⟩ = some (.int .i64 ((rd_T92 aB aA).f1)) := aD 1 _ rfl; have cF : aH.cell? ⟨go10, (aA : Int).toNat * 8 + 2, none⟩ = some (.int .i64 ((rd_T92 aB aA).f2.f0)) := aD 2 _ rfl; have cG : aH.cell? ⟨go10, (aA : Int).toNat * 8 + 3, none⟩ = some (.int .i64 ((rd_T92 aB aA).f2.f1)) := aD 3 _ rfl; have cH : aH.cell? ⟨go10, (aA : Int).toNat * 8 + 4, none⟩ = some (.int .i64 ((rd_T92 aB aA).f3.f0)) := aD 4 _ rfl; have cI : aH.cell? ⟨go10, (aA : Int).toNat * 8 + 5, none⟩ = some (.int .i64 ((rd_T92 aB aA).f3.f1)) := aD 5 _ rfl; have cJ : aH.cell? ⟨go10, (aA : Int).toNat * 8 + 6, none⟩ = some (.int .i64 ((rd_T92 aB aA).f4)) := aD 6 _ rfl; have cK : aH.cell? ⟨go10, (aA : Int).toNat * 8 + 7, none⟩ = some (.int .i64 ((rd_T92 aB aA).f5)) := aD 7 _ rfl; have cL : aH.frozen? ⟨go10, (aA : Int).toNat * 8, none⟩ = false := aE 0; have cM : aH.frozen? ⟨go10, (aA : Int).toNat * 8 + 1, none⟩ = false := aE 1; have cN : aH.frozen? ⟨go10, (aA : Int).toNat * 8 + 2, none⟩ = false := aE 2; have cO : aH.frozen? ⟨go10, (aA : Int).toNat * 8 + 3, none⟩ = false := aE 3; have cP : aH.frozen? ⟨go10, (aA : Int).toNat * 8 + 4, none⟩ = false := aE 4; have cQ : aH.frozen? ⟨go10, (aA : Int).toNat * 8 + 5, none⟩ = false := aE 5; have cR : aH.frozen? ⟨go10, (aA : Int).toNat * 8 + 6, none⟩ = false := aE 6; have cS : aH.frozen? ⟨go10, (aA : Int).toNat * 8 + 7, none⟩ = false := aE 7; clear hcl10 aD aE hM10; replace cB := eq_true cB; replace cC := eq_true cC; have HX12 := am (show Kd.R k92 92 aH w.heap.size (fun _ => True) (.slice (some ⟨go10, 0, none⟩) aB.length bW) aB from (KR aG)); obtain ⟨ce12, hcl12, hM12, aC, aF⟩ := Kd.R_elem HX12.out z92 (aA : Int) (OD) (by have h_ : (aA : Int) < ((aB.length : Int) : Int) := OD; first | exact h_ | (have e_ := (Kd.R_reads' aG.out).1; omega) | simpa using h_); obtain rfl := k92_openM hM12; have HP12 := Kd.R_seg HX12.out (aA : Int) (OD) (by have h_ : (aA : Int) < ((aB.length : Int) : Int) := OD; first | exact h_ | (have e_ := (Kd.R_reads' aG.out).1; omega) | simpa using h_) (seg := [.int .i64 aK, .int .i64 aL, .int .i64 aM, .int .i64 aN, .int .i64 aO, .int .i64 aP, .int .i64 aQ, .int .i64 aR]) (j := 0) hcl12 aC (show 8 ≤ 8 from by decide) (x' := (⟨aK, aL, (⟨aM, aN⟩ : S90), (⟨aO, aP⟩ : S90), aQ, aR⟩ : S92)) (k92_mkM _ _ _ (⟨aK, aL, (⟨aM, aN⟩ : S90), (⟨aO, aP⟩ : S90), aQ, aR⟩ : S92) ) (fun _ hk => hk); have bD := aC 0 _ rfl; (try simp only [show (k92).sz = 8 from rfl, Nat.mul_one, Nat.add_zero] at bD); have bE := aF 0; (try simp only [show (k92).sz = 8 from rfl, Nat.mul_one, Nat.add_zero] at bE); have bF := aC 1 _ rfl; (try simp only [show (k92).sz = 8 from rfl, Nat.mul_one, Nat.add_zero] at bF); have bG := aF 1; (try simp only [show (k92).sz = 8 from rfl, Nat.mul_one, Nat.add_zero] at bG); have bH := aC 2 _ rfl; (try simp only [show (k92).sz = 8 from rfl, Nat.mul_one, Nat.add_zero] at bH); have bI := aF 2; (try simp only [show (k92).sz = 8 from rfl, Nat.mul_one, Nat.add_zero] at bI); have bJ := aC 3 _ rfl; (try simp only [show (k92).sz = 8 from rfl, Nat.mul_one, Nat.add_zero] at bJ); have bK := aF 3; (try simp only [show (k92).sz = 8 from rfl, Nat.mul_one, Nat.add_zero] at bK); have bL := aC 4 _ rfl; (try simp only [show (k92).sz = 8 from rfl, Nat.mul_one, Nat.add_zero] at bL); have bM := aF 4; (try simp only [show (k92).sz = 8 from rfl, Nat.mul_one, Nat.add_zero] at bM); have bN := aC 5 _ rfl; (try simp only [show (k92).sz = 8 from rfl, Nat.mul_one, Nat.add_zero] at bN); have bO := aF 5; (try simp only [show (k92).sz = 8 from rfl, Nat.mul_one, Nat.add_zero] at bO); have bP := aC 6 _ rfl; (try simp only [show (k92).sz = 8 from rfl, Nat.mul_one, Nat.add_zero] at bP); have bQ := aF 6; (try simp only [show (k92).sz = 8 from rfl, Nat.mul_one, Nat.add_zero] at bQ); have bR := aC 7 _ rfl; (try simp only [show (k92).sz = 8 from rfl, Nat.mul_one, Nat.add_zero] at bR); have bS := aF 7; (try simp only [show (k92).sz = 8 from rfl, Nat.mul_one, Nat.add_zero] at bS); clear hcl12 aC aF hM12) | ((with_reducible refine gate_store (t := 92) (p := 21) rfl ?_); refine store_event (t := 92) (p := 21) (v := ?vo_w13) (w1 := ((((((((aH.setCell ⟨go10, (aA : Int).toNat * 8, none⟩ (.int .i64 aK)).setCell ⟨go10, (aA : Int).toNat * 8 + 1, none⟩ (.int .i64 aL)).setCell ⟨go10, (aA : Int).toNat * 8 + 2, none⟩ (.int .i64 aM)).setCell ⟨go10, (aA : Int).toNat * 8 + 3, none⟩ (.int .i64 aN)).setCell ⟨go10, (aA : Int).toNat * 8 + 4, none⟩ (.int .i64 aO)).setCell ⟨go10, (aA : Int).toNat * 8 + 5, none⟩ (.int .i64 aP)).setCell ⟨go10, (aA : Int).toNat * 8 + 6, none⟩ (.int .i64 aQ)).setCell ⟨go10, (aA : Int).toNat * 8 + 7, none⟩ (.int .i64 aR))) ?hg ?ho ?hn ?hr ?_; (case ho => rfl); (case hg => rfl); (case hn => rfl); (case hr => first | (go_simp; done) | (go_simp; rfl)); intro cT hw; have hg : aH.grownBy cT (some go10) := (by rw [hw]; exact HP12.2); have hp_ : Kd.R k92 92 cT w.heap.size (fun _ => True) (.slice (some ⟨go10, 0, none⟩) aB.length bW) bA := (by rw [hw, Ny113.out]; exact HP12.1); clear HP12; replace aG := am (hp_); replace HB := am ((by rw [hw]; exact below_set (below_set (below_set (below_set (below_set (below_set (below_set (below_set (HB.out) GB10.out) GB10.out) GB10.out) GB10.out) GB10.out) GB10.out) GB10.out) GB10.out : Below w.heap.size w cT)); clear hg hw hp_))
        go_roundg k1
        case measure => have := HK1.out; omega
        case rel => exact ⟨(bA), (wrap64 (aA + 1)), (by first | rfl | (simp; done) | (simp [*]; done)), H', ⟨by have := HK1.out; omega⟩, ⟨KR aG⟩, ⟨KL HB⟩⟩
       ·rw [if_neg c9] at H
        exact absurd H (by simp)
      ·rw [if_neg c7] at H
       exact absurd H (by simp)
     ·rw [if_neg c6] at H
      have c6b0 : decide (aA < (l0.length : Int)) = false := decide_eq_false c6
      clear c6
      obtain rfl := sj H
      go_wp2
      go_ret
      exact ⟨_, ER, by refine KW ?_; exact aG.out, KL HB⟩
  ·rw [if_neg c3] at H
   exact absurd H (by simp)
 ·rw [if_neg c2] at H
  exact absurd H (by simp)
def laws_toCall.f (a0_0 : Int) (a0_1 : Int) (a0_2 : Int) : Option (Int × Int × Int) := some (a0_0, a0_1, a0_2)
theorem laws_toCall.calls (aF : Int) (aG : Int) (aM : Int) (r1 : Int) (r2 : Int) (r3 : Int) (w : World) (h : laws_toCall.f aF aG aM = some (r1, r2, r3)) :
  Calls Tryz.prog 103 #[.agg #[.int .i64 aF, .int .i64 aG, .int .i64 aM]] w fun e w' => e = .returned (.agg #[.int .i64 r1, .int .i64 r2, .int .i64 r3]) ∧ Below w.heap.size w w' := by
 have bG := Tryz.underlying122
 have bH := Tryz.underlying103
 have HB := am (Below.refl w.heap.size w)
 have H : (some (aF, aG, aM)) = some (r1, r2, r3) := h
 clear h
 simp only [Option.some.injEq, Prod.mk.injEq] at H
 obtain ⟨rfl, rfl, rfl⟩ := H
 go_enter Tryz.func103, Tryz.ntmps103
 go_wp2_with (first | ((with_reducible refine gate_dst (N := 1) rfl ?_); refine box_event rfl (N := 1) rfl (cs := #[.int .i64 aF, .int .i64 aG, .int .i64 aM]) (t := 122) BX ?_; intro bI hg w2 aD hb; have aB := am (aD); have aO := am (GH HB hg); have aE := aO; replace HB := bl (KL HB) hb; clear hb aD hg) | ((with_reducible refine gate_dst (N := 2) rfl ?_); refine box_event rfl (N := 2) rfl (cs := #[.int .i64 0, .int .i64 0, .int .i64 0]) (t := 103) BX ?_; intro aP hg w3 aD hb; have aC := am (aD); have aQ := am (GH1 HB aE.out hg); have aN := aQ; replace HB := bl (K1 HB aE.out) hb; have aH := am (NL aB hg); have aI := am (NG aB hg); replace aB := am (BB aB hb); clear hb aD hg) | ((with_reducible refine gate_dst (N := 3) rfl ?_); refine box_event rfl (N := 3) rfl (cs := #[.int .i64 0, .int .i64 0, .int .i64 0]) (t := 103) BX ?_; intro bJ hg w4 aD hb; have aR := am (aD); have aS := am (GH2 HB aE.out aN.out hg); have aT := aS; replace HB := bl (K2 HB aE.out aN.out) hb; have aJ := am (NL aB hg); have aK := am (NG aB hg); replace aB := am (BB aB hb); have aA := am (NL aC hg); have aL := am (NG aC hg); replace aC := am (BB aC hb); clear hb aD hg; have bK := aH.out; have bL := aI.out; have bM := aJ.out; have bN := aK.out; have ⟨_, _, _, _⟩ := y3 w4 aB.out; have bO := aL.out; have bP := aA.out; have ⟨_, _, _, _⟩ := y3 w4 aR.out; have ⟨_, _, _, _⟩ := y3 w4 aC.out))
 refine bodyPost_ret (results_cell_row rfl _ _ aP 103 #[.int .i64 aF, .int .i64 aG, .int .i64 aM] (0, 0) _ rfl (by refine BD ?_; refine blk_put (cs := #[.int .i64 aF, .int .i64 aG, .int .i64 0]) ?_ 2 _ rfl; refine BD ?_; refine blk_put (cs := #[.int .i64 aF, .int .i64 0, .int .i64 0]) ?_ 1 _ rfl; refine BD ?_; refine blk_put (cs := #[.int .i64 0, .int .i64 0, .int .i64 0]) ?_ 0 _ rfl; refine BD ?_; refine blk_far ?_ aA.out _; refine BD ?_; refine blk_far ?_ aA.out _; refine BD ?_; refine blk_far ?_ aA.out _; refine BD ?_; exact aC.out) Tryz.underlying103 rfl (by kernel_rfl)) rfl ?_
 exact ⟨ER, K3 HB aE.out aN.out aT.out⟩
def laws_toSeen.f (a0_0 : Int) (a0_1 : Int) (a0_2 : Int) (a0_3 : Int) : Option (Int × Int × Int × Int) := (laws_toCall.f a0_0 a0_1 a0_2).bind fun bt104 => (some (bt104.1, bt104.2.1, bt104.2.2, a0_3))
theorem laws_toSeen.calls (aG : Int) (aH : Int) (aI : Int) (aJ : Int) (r1 : Int) (r2 : Int) (r3 : Int) (r4 : Int) (w : World) (h : laws_toSeen.f aG aH aI aJ = some (r1, r2, r3, r4)) :
  Calls Tryz.prog 88 #[.agg #[.int .i64 aG, .int .i64 aH, .int .i64 aI, .int .i64 aJ]] w fun e w' => e = .returned (.agg #[.int .i64 r1, .int .i64 r2, .int .i64 r3, .int .i64 r4]) ∧ Below w.heap.size w w' := by
 have bT := Tryz.underlying124
 have bU := Tryz.underlying105
 have bV := Tryz.underlying122
 have bW := Tryz.underlying103
 have HB := am (Below.refl w.heap.size w)
 have H : ((laws_toCall.f aG aH aI).bind fun aQ => (some (aQ.1, aQ.2.1, aQ.2.2, aJ))) = some (r1, r2, r3, r4) := h
 clear h
 replace H := bm H
 obtain ⟨⟨aK, aR, aT⟩, bX, H⟩ := H
 replace H : (some (aK, aR, aT, aJ)) = some (r1, r2, r3, r4) := H
 have A2 := Aside0.mk bX
 clear bX
 simp only [Option.some.injEq, Prod.mk.injEq] at H
 obtain ⟨rfl, rfl, rfl, rfl⟩ := H
 go_enter Tryz.func88, Tryz.ntmps88
 go_wp2_with (first | ((with_reducible refine gate_dst (N := 1) rfl ?_); refine box_event rfl (N := 1) rfl (cs := #[.int .i64 aG, .int .i64 aH, .int .i64 aI, .int .i64 aJ]) (t := 124) BX ?_; intro bY hg w3 aE hb; have aB := am (aE); have aV := am (GH HB hg); have aD := aV; replace HB := bl (KL HB) hb; clear hb aE hg) | ((with_reducible refine gate_dst (N := 2) rfl ?_); refine box_event rfl (N := 2) rfl (cs := #[.int .i64 0, .int .i64 0, .int .i64 0, .int .i64 0]) (t := 105) BX ?_; intro aW hg w4 aE hb; have aC := am (aE); have aX := am (GH1 HB aD.out hg); have aF := aX; replace HB := bl (K1 HB aD.out) hb; have aL := am (NL aB hg); have aM := am (NG aB hg); replace aB := am (BB aB hb); clear hb aE hg) | ((with_reducible refine gate_dst (N := 3) rfl ?_); refine box_event rfl (N := 3) rfl (cs := #[.int .i64 0, .int .i64 0, .int .i64 0, .int .i64 0]) (t := 105) BX ?_; intro bZ hg w5 aE hb; have aS := am (aE); have aY := am (GH2 HB aD.out aF.out hg); have aU := aY; replace HB := bl (K2 HB aD.out aF.out) hb; have aN := am (NL aB hg); have aO := am (NG aB hg); replace aB := am (BB aB hb); have aA := am (NL aC hg); have aP := am (NG aC hg); replace aC := am (BB aC hb); clear hb aE hg; have cC := aL.out; have cD := aM.out; have cE := aN.out; have cF := aO.out; have ⟨_, _, _, _, _⟩ := y4 w5 aB.out) | ((with_reducible refine gate_callee (f := 103) rfl ?_); refine goesL_ (some 6) rfl rfl Tryz.func103 (by kernel_rfl) rfl #[.agg #[.int .i64 aG, .int .i64 aH, .int .i64 aI]] rfl MT ?_; (with_reducible refine (laws_toCall.calls aG aH aI aK aR aT _ A2.out).mono ?_); rintro e w9 ⟨rfl, hb⟩; refine ⟨_, rfl, ?_⟩; replace aB := am (BB aB hb); replace aC := am (BB aC hb); replace aS := am (BB aS hb); replace HB := bl (K3 HB aD.out aF.out aU.out) hb; (try clear hb); have cA := aP.out; have cB := aA.out; have ⟨_, _, _, _, _⟩ := y4 w9 aS.out; have ⟨_, _, _, _, _⟩ := y4 w9 aB.out; have ⟨_, _, _, _, _⟩ := y4 w9 aC.out))
 refine bodyPost_ret (results_cell_row rfl _ _ aW 105 #[.int .i64 aK, .int .i64 aR, .int .i64 aT, .int .i64 aJ] (0, 0) _ rfl (by refine BD ?_; refine blk_put (cs := #[.int .i64 aK, .int .i64 aR, .int .i64 aT, .int .i64 0]) ?_ 3 _ rfl; refine BD ?_; refine blk_put (cs := #[.int .i64 aK, .int .i64 aR, .int .i64 0, .int .i64 0]) ?_ 2 _ rfl; refine BD ?_; refine blk_put (cs := #[.int .i64 aK, .int .i64 0, .int .i64 0, .int .i64 0]) ?_ 1 _ rfl; refine BD ?_; refine blk_put (cs := #[.int .i64 0, .int .i64 0, .int .i64 0, .int .i64 0]) ?_ 0 _ rfl; refine BD ?_; refine blk_far ?_ aA.out _; refine BD ?_; refine blk_far ?_ aA.out _; refine BD ?_; refine blk_far ?_ aA.out _; refine BD ?_; refine blk_far ?_ aA.out _; refine BD ?_; exact aC.out) Tryz.underlying105 rfl (by kernel_rfl)) rfl ?_
 exact ⟨ER, K3 HB aD.out aF.out aU.out⟩
def laws_toSeenS.l0 : Nat → List (S124) → List (S105) → Int → Option ((List (S105)))
 | 0, _, _, _ => none
 | k + 1, x0, x3, x4 => if x4 < (x0.length : Int) then (if 0 ≤ x4 then ((laws_toSeen.f ((rd_T124 x0 x4).f0.f0) ((rd_T124 x0 x4).f0.f1) ((rd_T124 x0 x4).f0.f2) ((rd_T124 x0 x4).f1)).bind fun bt105 => (if x4 < (x3.length : Int) then (laws_toSeenS.l0 k x0 (x3.set (x4 : Int).toNat (⟨(⟨bt105.1, bt105.2.1, bt105.2.2.1⟩ : S103), bt105.2.2.2⟩ : S105)) (wrap64 (x4 + 1))) else (none))) else (none)) else (some x3)
def laws_toSeenS.f (k : Nat) (l0 : List (S124)) : Option ((List (S105))) := if 0 ≤ (l0.length : Int) then (if ((l0.length : Int) : Int).toNat ≤ 8796093022208 then (laws_toSeenS.l0 k l0 (List.replicate ((l0.length : Int) : Int).toNat z105) 0) else (none)) else (none)
theorem laws_toSeenS.calls (k : Nat) (A0 : Option Addr) (c0 : Nat) (l0 : List (S124)) (r : List (S105)) (w : World) (bW : Kd.C k124 w A0 l0.length l0) (bX : l0.length ≤ c0) (h : laws_toSeenS.f k l0 = some r) :
  Calls Tryz.prog 59 #[.slice A0 l0.length c0] w fun e w' => ∃ v0_ : Value, e = .returned (v0_) ∧ Kd.R k105 105 w' w.heap.size (fun _ => True) v0_ r ∧ Below w.heap.size w w' := by
 have bY := Tryz.underlying124
 have bZ := Tryz.underlying105
 have cC := Aside0.mk bW
 have cD := Aside0.mk bX
 clear bW bX
 have HB := am (Below.refl w.heap.size w)
 have H : (if 0 ≤ (l0.length : Int) then (if ((l0.length : Int) : Int).toNat ≤ 8796093022208 then (laws_toSeenS.l0 k l0 (List.replicate ((l0.length : Int) : Int).toNat z105) 0) else (none)) else (none)) = some r := h
 clear h
 by_cases c2 : 0 ≤ (l0.length : Int)
 ·rw [if_pos c2] at H
  have c2b0 := eq_true c2
  have c2b1 : decide (0 ≤ (l0.length : Int)) = true := decide_eq_true c2
  clear c2
  by_cases c3 : ((l0.length : Int) : Int).toNat ≤ 8796093022208
  ·rw [if_pos c3] at H
   have c3b0 := eq_true c3
   have c3b1 : decide (((l0.length : Int) : Int).toNat ≤ 8796093022208) = true := decide_eq_true c3
   clear c3
   obtain ⟨bD, aE⟩ : ∃ y_ : List (S105), y_ = (List.replicate ((l0.length : Int) : Int).toNat z105) := ⟨_, rfl⟩
   replace H : (laws_toSeenS.l0 k l0 bD 0) = some r := by first | (rw [aE]; with_reducible exact H) | (have H2_ := (Option.bind_some _ _).symm.trans H; rw [aE]; with_reducible exact H2_) | (have H2_ := (Option.bind_some _ _).symm.trans H; with_reducible exact H2_) | with_reducible exact H | (rw [aE]; exact H) | exact H
   have Ny101 := Aside0.mk aE
   clear aE
   have H' := Aside0.mk H
   clear H
   go_enter Tryz.func59, Tryz.ntmps59
   go_wp2_with (first | ((with_reducible refine gate_dst (N := 7) rfl ?_); refine Kd.R_make k105 _ 105 rfl (N := 7) rfl 37 _ _ rfl (l0.length : Int) rfl rfl Tryz.underlying37 (.agg #[(.int .i64 0), (.int .i64 0), (.int .i64 0), (.int .i64 0)]) 32 info105 rfl (by decide) (by omega) z105 (ok := fun _ => True) (okp := fun _ => True) (k105_mkM _ _ _ z105 ) (fun _ hk => hk) trivial (OD) (Nat.le_trans (Nat.mul_le_mul_right _ (OD : (l0.length : Int).toNat ≤ 8796093022208)) (by omega)) (Below.refl _ _) (Nat.le_refl _) ?_; intro bJ w4 bE hb hg_ hnew_; clear hg_ hnew_; (first | rw [← Ny101.out] at bE | (simp only [Int.reduceToNat] at bE; rw [← Ny101.out] at bE)); have bF := am (Kd.R_lower bE (below_size (KL HB))); replace HB := bl (KL HB) hb; clear hb bE))
   go_loopg [4] k (fun kq v4 w' => ∃ (aB : List (S105)) (aA : Int), v4 = .int .i64 aA ∧ Aside0 (laws_toSeenS.l0 kq l0 aB aA = some r) ∧ Aside0 (kq ≤ k) ∧ Aside0 (Kd.R k105 105 w' w.heap.size (fun _ => True) bJ aB) ∧ Aside0 (Below w.heap.size w w'))
   case atStart => exact ⟨(bD), (0), (by first | rfl | (simp; done) | (simp [*]; done)), H', ⟨Nat.le_refl _⟩, ⟨KR bF⟩, ⟨KL HB⟩⟩
   case round =>
    clear H'
    try clear c2
    try clear c2b0
    try clear c2b1
    try clear p2
    try clear c3
    try clear c3b0
    try clear c3b1
    try clear c5
    obtain ⟨aB, aA, rfl, HA, HK1, aC, HB⟩ := hrel
    cases gk with
    | zero => exact absurd HA.out (by simp [laws_toSeenS.l0])
    | succ k1 =>
     have H := HA.out
     clear HA
     simp only [laws_toSeenS.l0] at H
     by_cases c6 : aA < (l0.length : Int)
     ·rw [if_pos c6] at H
      have c6b0 : decide (aA < (l0.length : Int)) = true := decide_eq_true c6
      clear c6
      by_cases c7 : 0 ≤ aA
      ·rw [if_pos c7] at H
       have c7b0 : decide (0 ≤ aA) = true := decide_eq_true c7
       clear c7
       replace H := bm H
       obtain ⟨⟨aJ, aK, aL, aM⟩, cA, H⟩ := H
       replace H : (if aA < (aB.length : Int) then (laws_toSeenS.l0 k1 l0 (aB.set (aA : Int).toNat (⟨(⟨aJ, aK, aL⟩ : S103), aM⟩ : S105)) (wrap64 (aA + 1))) else (none)) = some r := H
       have A8 := Aside0.mk cA
       clear cA
       by_cases c9 : aA < (aB.length : Int)
       ·rw [if_pos c9] at H
        have c9b0 : decide (aA < (aB.length : Int)) = true := decide_eq_true c9
        clear c9
        obtain ⟨aS, aF⟩ : ∃ y_ : List (S105), y_ = (aB.set (aA : Int).toNat (⟨(⟨aJ, aK, aL⟩ : S103), aM⟩ : S105)) := ⟨_, rfl⟩
        replace H : (laws_toSeenS.l0 k1 l0 aS (wrap64 (aA + 1))) = some r := by first | (rw [aF]; with_reducible exact H) | (have H2_ := (Option.bind_some _ _).symm.trans H; rw [aF]; with_reducible exact H2_) | (have H2_ := (Option.bind_some _ _).symm.trans H; with_reducible exact H2_) | with_reducible exact H | (rw [aF]; exact H) | exact H
        have Ny109 := Aside0.mk aF
        clear aF
        have H' := Aside0.mk H
        clear H
        have aT : 0 ≤ (aA : Int) := OD
        have aU : aA < (l0.length : Int) := OD
        obtain ⟨_, bK, aN, aO, aP, aQ⟩ := at_T124 cC.out aA aT aU
        cases bK
        replace aN := CX HB.out aN
        replace aO := CX HB.out aO
        replace aP := CX HB.out aP
        replace aQ := CX HB.out aQ
        replace aT := eq_true aT
        replace aU := eq_true aU
        go_wp2_with (first | ((with_reducible refine gate_callee (f := 88) rfl ?_); refine goesL_ (some 20) rfl rfl Tryz.func88 (by kernel_rfl) rfl #[.agg #[.int .i64 ((rd_T124 l0 aA).f0.f0), .int .i64 ((rd_T124 l0 aA).f0.f1), .int .i64 ((rd_T124 l0 aA).f0.f2), .int .i64 ((rd_T124 l0 aA).f1)]] rfl MT ?_; (with_reducible refine (laws_toSeen.calls ((rd_T124 l0 aA).f0.f0) ((rd_T124 l0 aA).f0.f1) ((rd_T124 l0 aA).f0.f2) ((rd_T124 l0 aA).f1) aJ aK aL aM _ A8.out).mono ?_); rintro e aR ⟨rfl, hb⟩; refine ⟨_, rfl, ?_⟩; replace aC := am (Kd.R_below (KR aC) hb); replace HB := bl (KL HB) hb; (try clear hb); have bL : 0 ≤ (aA : Int) := OD; have bM : (aA : Int) < ((aB.length : Int) : Int) := OD; obtain ⟨go10, bG, bH, bI, gl10, cl10, HG10⟩ := Kd.R_form aC.out (by omega); (first | cases bH | (injection bH with ea_ en_ ec_; (first | subst ea_ | (injection ea_ with ea_; subst ea_)); subst ec_; clear en_)); have GB10 := Aside0.mk bI; have GG10 := Aside0.mk HG10; clear bI gl10 HG10; obtain ⟨ce10, hcl10, hM10, aG, aH⟩ := Kd.R_elem aC.out z105 (aA : Int) bL bM; obtain rfl := k105_openM hM10; have bN : aR.cell? ⟨go10, (aA : Int).toNat * 4, none⟩ = some (.int .i64 ((rd_T105 aB aA).f0.f0)) := aG 0 _ rfl; have bO : aR.cell? ⟨go10, (aA : Int).toNat * 4 + 1, none⟩ = some (.int .i64 ((rd_T105 aB aA).f0.f1)) := aG 1 _ rfl; have bP : aR.cell? ⟨go10, (aA : Int).toNat * 4 + 2, none⟩ = some (.int .i64 ((rd_T105 aB aA).f0.f2)) := aG 2 _ rfl; have bQ : aR.cell? ⟨go10, (aA : Int).toNat * 4 + 3, none⟩ = some (.int .i64 ((rd_T105 aB aA).f1)) := aG 3 _ rfl; have bR : aR.frozen? ⟨go10, (aA : Int).toNat * 4, none⟩ = false := aH 0; have bS : aR.frozen? ⟨go10, (aA : Int).toNat * 4 + 1, none⟩ = false := aH 1; have bT : aR.frozen? ⟨go10, (aA : Int).toNat * 4 + 2, none⟩ = false := aH 2; have bU : aR.frozen? ⟨go10, (aA : Int).toNat * 4 + 3, none⟩ = false := aH 3; clear hcl10 aG aH hM10; replace bL := eq_true bL; replace bM := eq_true bM; have HX12 := am (show Kd.R k105 105 aR w.heap.size (fun _ => True) (.slice (some ⟨go10, 0, none⟩) aB.length bG) aB from (KR aC)); obtain ⟨ce12, hcl12, hM12, aD, aI⟩ := Kd.R_elem HX12.out z105 (aA : Int) (OD) (by have h_ : (aA : Int) < ((aB.length : Int) : Int) := OD; first | exact h_ | (have e_ := (Kd.R_reads' aC.out).1; omega) | simpa using h_); obtain rfl := k105_openM hM12; have HP12 := Kd.R_seg HX12.out (aA : Int) (OD) (by have h_ : (aA : Int) < ((aB.length : Int) : Int) := OD; first | exact h_ | (have e_ := (Kd.R_reads' aC.out).1; omega) | simpa using h_) (seg := [.int .i64 aJ, .int .i64 aK, .int .i64 aL, .int .i64 aM]) (j := 0) hcl12 aD (show 4 ≤ 4 from by decide) (x' := (⟨(⟨aJ, aK, aL⟩ : S103), aM⟩ : S105)) (k105_mkM _ _ _ (⟨(⟨aJ, aK, aL⟩ : S103), aM⟩ : S105) ) (fun _ hk => hk); have aV := aD 0 _ rfl; (try simp only [show (k105).sz = 4 from rfl, Nat.mul_one, Nat.add_zero] at aV); have aW := aI 0; (try simp only [show (k105).sz = 4 from rfl, Nat.mul_one, Nat.add_zero] at aW); have aX := aD 1 _ rfl; (try simp only [show (k105).sz = 4 from rfl, Nat.mul_one, Nat.add_zero] at aX); have aY := aI 1; (try simp only [show (k105).sz = 4 from rfl, Nat.mul_one, Nat.add_zero] at aY); have aZ := aD 2 _ rfl; (try simp only [show (k105).sz = 4 from rfl, Nat.mul_one, Nat.add_zero] at aZ); have bA := aI 2; (try simp only [show (k105).sz = 4 from rfl, Nat.mul_one, Nat.add_zero] at bA); have bB := aD 3 _ rfl; (try simp only [show (k105).sz = 4 from rfl, Nat.mul_one, Nat.add_zero] at bB); have bC := aI 3; (try simp only [show (k105).sz = 4 from rfl, Nat.mul_one, Nat.add_zero] at bC); clear hcl12 aD aI hM12) | ((with_reducible refine gate_store (t := 105) (p := 21) rfl ?_); refine store_event (t := 105) (p := 21) (v := ?vo_w13) (w1 := ((((aR.setCell ⟨go10, (aA : Int).toNat * 4, none⟩ (.int .i64 aJ)).setCell ⟨go10, (aA : Int).toNat * 4 + 1, none⟩ (.int .i64 aK)).setCell ⟨go10, (aA : Int).toNat * 4 + 2, none⟩ (.int .i64 aL)).setCell ⟨go10, (aA : Int).toNat * 4 + 3, none⟩ (.int .i64 aM))) ?hg ?ho ?hn ?hr ?_; (case ho => rfl); (case hg => rfl); (case hn => rfl); (case hr => first | (go_simp; done) | (go_simp; rfl)); intro bV hw; have hg : aR.grownBy bV (some go10) := (by rw [hw]; exact HP12.2); have hp_ : Kd.R k105 105 bV w.heap.size (fun _ => True) (.slice (some ⟨go10, 0, none⟩) aB.length bG) aS := (by rw [hw, Ny109.out]; exact HP12.1); clear HP12; replace aC := am (hp_); replace HB := am ((by rw [hw]; exact below_set (below_set (below_set (below_set (HB.out) GB10.out) GB10.out) GB10.out) GB10.out : Below w.heap.size w bV)); clear hg hw hp_))
        go_roundg k1
        case measure => have := HK1.out; omega
        case rel => exact ⟨(aS), (wrap64 (aA + 1)), (by first | rfl | (simp; done) | (simp [*]; done)), H', ⟨by have := HK1.out; omega⟩, ⟨KR aC⟩, ⟨KL HB⟩⟩
       ·rw [if_neg c9] at H
        exact absurd H (by simp)
      ·rw [if_neg c7] at H
       exact absurd H (by simp)
     ·rw [if_neg c6] at H
      have c6b0 : decide (aA < (l0.length : Int)) = false := decide_eq_false c6
      clear c6
      obtain rfl := sj H
      go_wp2
      go_ret
      exact ⟨_, ER, by refine KW ?_; exact aC.out, KL HB⟩
  ·rw [if_neg c3] at H
   exact absurd H (by simp)
 ·rw [if_neg c2] at H
  exact absurd H (by simp)
def laws_toCache.f (k : Nat) (a0_0 : Int) (l0_1 : List (S124)) : Option (Int × (List (S105))) := (laws_toSeenS.f k l0_1).bind fun t104 => (some (a0_0, t104))
theorem laws_toCache.calls (k : Nat) (aE : Int) (aR : Option Addr) (aS : Nat) (aF : List (S124)) (r1 : Int) (r2 : List (S105)) (w : World) (aT : Kd.C k124 w aR aF.length aF) (aU : aF.length ≤ aS) (h : laws_toCache.f k aE aF = some (r1, r2)) :
  Calls Tryz.prog 28 #[.agg #[.int .i64 aE, .slice aR aF.length aS]] w fun e w' => ∃ v1_ : Value, e = .returned (.agg #[.int .i64 r1, v1_]) ∧ Kd.R k105 105 w' w.heap.size (fun _ => True) v1_ r2 ∧ Below w.heap.size w w' := by
 have bV := Tryz.underlying25
 have bW := Tryz.underlying39
 have aZ := Aside0.mk aT
 have bA := Aside0.mk aU
 clear aT aU
 have HB := am (Below.refl w.heap.size w)
 have H : ((laws_toSeenS.f k aF).bind fun aK => (some (aE, aK))) = some (r1, r2) := h
 clear h
 replace H := bm H
 obtain ⟨aK, bS, H⟩ := H
 replace H : (some (aE, aK)) = some (r1, r2) := H
 have A2 := Aside0.mk bS
 clear bS
 simp only [Option.some.injEq, Prod.mk.injEq] at H
 obtain ⟨rfl, rfl⟩ := H
 go_enter Tryz.func28, Tryz.ntmps28
 go_wp2_with (first | ((with_reducible refine gate_dst (N := 1) rfl ?_); refine box_event rfl (N := 1) rfl (cs := #[.int .i64 aE, .slice aR aF.length aS]) (t := 25) BX ?_; intro bB hg w3 aI hb; have aA := am (aI); have bC := am (GH HB hg); have aD := bC; replace HB := bl (KL HB) hb; clear hb aI hg) | ((with_reducible refine gate_dst (N := 2) rfl ?_); refine box_event rfl (N := 2) rfl (cs := #[.int .i64 0, .slice none 0 0]) (t := 39) BX ?_; intro aL hg w4 aI hb; have aB := am (aI); have bD := am (GH1 HB aD.out hg); have aG := bD; replace HB := bl (K1 HB aD.out) hb; have aN := am (NL aA hg); have aO := am (NG aA hg); replace aA := am (BB aA hb); clear hb aI hg) | ((with_reducible refine gate_dst (N := 3) rfl ?_); refine box_event rfl (N := 3) rfl (cs := #[.int .i64 0, .slice none 0 0]) (t := 39) BX ?_; intro aV hg w5 aI hb; have aJ := am (aI); have bE := am (GH2 HB aD.out aG.out hg); have aM := bE; replace HB := bl (K2 HB aD.out aG.out) hb; have aH := am (NL aA hg); have aP := am (NG aA hg); replace aA := am (BB aA hb); have aC := am (NL aB hg); have aQ := am (NG aB hg); replace aB := am (BB aB hb); clear hb aI hg; have bX := aN.out; have bY := aO.out; have bZ := aH.out; have cA := aP.out; have ⟨_, _, _⟩ := y2 w5 aA.out; have cB := aQ.out; have cC := aC.out; have ⟨_, _, _⟩ := y2 w5 aJ.out) | ((with_reducible refine gate_callee (f := 59) rfl ?_); refine goesL_ (some 9) rfl rfl Tryz.func59 (by kernel_rfl) rfl #[.slice aR aF.length aS] rfl MT ?_; (with_reducible refine (laws_toSeenS.calls k _ _ aF aK _ ?_ ?_ A2.out).mono ?_); exact Kd.C_below aZ.out (K3 HB aD.out aG.out aM.out); exact bA.out; rintro e bT ⟨cD, rfl, bU, hb⟩; refine ⟨_, rfl, ?_⟩; have aW := am (Kd.R_lower bU (below_size (K3 HB aD.out aG.out aM.out))); replace aA := am (blk_below (g := bB) (o := .cells #[.int .i64 aE, .slice aR aF.length aS] 25 (0, 0)) (by refine BD ?_; refine blk_far ?_ aH.out _; refine BD ?_; exact aA.out) hb); replace aB := am (blk_below (g := aL) (o := .cells #[.int .i64 0, .slice none 0 0] 39 (0, 0)) (by refine BD ?_; refine blk_far ?_ aC.out _; refine BD ?_; exact aB.out) hb); replace aJ := am (blk_below (g := aV) (o := .cells #[.int .i64 aE, .slice none 0 0] 39 (0, 0)) (by refine BD ?_; refine blk_put (cs := #[.int .i64 0, .slice none 0 0]) ?_ 0 _ rfl; refine BD ?_; exact aJ.out) hb); replace HB := bl (K3 HB aD.out aG.out aM.out) hb; (try clear hb); (try clear hb2); (try clear hk); (try clear hi); (try clear bU); obtain ⟨aX, aY, bR⟩ := Kd.R_slice aW.out; subst bR; have ⟨_, _, _⟩ := y2 bT aJ.out; have ⟨_, _, _⟩ := y2 bT aB.out))
 refine bodyPost_ret (results_cell_row rfl _ _ aL 39 #[.int .i64 aE, .slice aX aK.length aY] (0, 0) _ rfl (by refine BD ?_; refine blk_put (cs := #[.int .i64 aE, .slice none 0 0]) ?_ 1 _ rfl; refine BD ?_; refine blk_put (cs := #[.int .i64 0, .slice none 0 0]) ?_ 0 _ rfl; refine BD ?_; refine blk_far ?_ aC.out _; refine BD ?_; exact aB.out) Tryz.underlying39 rfl (by kernel_rfl)) rfl ?_
 exact ⟨_, ER, by refine KW ?_; exact Kd.R_mono (Kd.R_far (p := ⟨aL, 1, none⟩) (Kd.R_far (p := ⟨aL, 0, none⟩) (Kd.R_far (p := ⟨aV, 1, none⟩) (Kd.R_types (Kd.R_types aW.out aJ.out (by decide)) aB.out (by decide)) (fun _ hk => hk.1.2) (.slice aX aK.length aY)) (fun _ hk => hk.2) (.int .i64 aE)) (fun _ hk => hk.2) (.slice aX aK.length aY)) (fun _ hk => trivial), K3 HB aD.out aG.out aM.out⟩
def laws_toIntS.l0 : Nat → List Int → List Int → Int → Option (List Int)
 | 0, _, _, _ => none
 | k + 1, x0, x3, x4 => if x4 < (x0.length : Int) then (if 0 ≤ x4 then (if x4 < (x3.length : Int) then (laws_toIntS.l0 k x0 (x3.set (x4 : Int).toNat (rd x0 x4)) (wrap64 (x4 + 1))) else (none)) else (none)) else (some x3)
def laws_toIntS.f (k : Nat) (l0 : List Int) : Option (List Int) := if 0 ≤ (l0.length : Int) then (if ((l0.length : Int) : Int).toNat ≤ 35184372088832 then (laws_toIntS.l0 k l0 (List.replicate ((l0.length : Int) : Int).toNat 0) 0) else (none)) else (none)
theorem laws_toIntS.calls (k : Nat) (A0 : Option Addr) (c0 : Nat) (l0 : List Int) (r : List Int) (w : World) (aP : Kd.C (Kd.int .i64) w A0 l0.length l0) (aQ : l0.length ≤ c0) (h : laws_toIntS.f k l0 = some r) :
  Calls Tryz.prog 60 #[.slice A0 l0.length c0] w fun e w' => ∃ v0_ : Value, e = .returned (v0_) ∧ Kd.R (Kd.int .i64) 3 w' w.heap.size (fun _ => True) v0_ r ∧ Below w.heap.size w w' := by
 have aW := Aside0.mk aP
 have aY := Aside0.mk aQ
 clear aP aQ
 have HB := am (Below.refl w.heap.size w)
 have H : (if 0 ≤ (l0.length : Int) then (if ((l0.length : Int) : Int).toNat ≤ 35184372088832 then (laws_toIntS.l0 k l0 (List.replicate ((l0.length : Int) : Int).toNat 0) 0) else (none)) else (none)) = some r := h
 clear h
 by_cases c2 : 0 ≤ (l0.length : Int)
 ·rw [if_pos c2] at H
  have c2b0 := eq_true c2
  have c2b1 : decide (0 ≤ (l0.length : Int)) = true := decide_eq_true c2
  clear c2
  by_cases c3 : ((l0.length : Int) : Int).toNat ≤ 35184372088832
  ·rw [if_pos c3] at H
   have c3b0 := eq_true c3
   have c3b1 : decide (((l0.length : Int) : Int).toNat ≤ 35184372088832) = true := decide_eq_true c3
   clear c3
   obtain ⟨aJ, aB⟩ : ∃ y_ : List Int, y_ = (List.replicate ((l0.length : Int) : Int).toNat 0) := ⟨_, rfl⟩
   replace H : (laws_toIntS.l0 k l0 aJ 0) = some r := by first | (rw [aB]; with_reducible exact H) | (have H2_ := (Option.bind_some _ _).symm.trans H; rw [aB]; with_reducible exact H2_) | (have H2_ := (Option.bind_some _ _).symm.trans H; with_reducible exact H2_) | with_reducible exact H | (rw [aB]; exact H) | exact H
   have Ny101 := Aside0.mk aB
   clear aB
   have H' := Aside0.mk H
   clear H
   go_enter Tryz.func60, Tryz.ntmps60
   go_wp2_with (first | ((with_reducible refine gate_dst (N := 7) rfl ?_); refine Kd.R_make (Kd.int .i64) _ 3 rfl (N := 7) rfl 29 _ _ rfl (l0.length : Int) rfl rfl Tryz.underlying29 (.int .i64 0) 8 info3 rfl (by decide) (by omega) 0 (ok := fun _ => True) (okp := fun _ => True) rfl (fun _ hk => hk) trivial (OD) (Nat.le_trans (Nat.mul_le_mul_right _ (OD : (l0.length : Int).toNat ≤ 35184372088832)) (by omega)) (Below.refl _ _) (Nat.le_refl _) ?_; intro aM w4 aK hb hg_ hnew_; clear hg_ hnew_; (first | rw [← Ny101.out] at aK | (simp only [Int.reduceToNat] at aK; rw [← Ny101.out] at aK)); have aL := am (Kd.R_lower aK (below_size (KL HB))); replace HB := bl (KL HB) hb; clear hb aK))
   go_loopg [4] k (fun kq v4 w' => ∃ (aC : List Int) (aA : Int), v4 = .int .i64 aA ∧ Aside0 (laws_toIntS.l0 kq l0 aC aA = some r) ∧ Aside0 (kq ≤ k) ∧ Aside0 (Kd.R (Kd.int .i64) 3 w' w.heap.size (fun _ => True) aM aC) ∧ Aside0 (Below w.heap.size w w'))
   case atStart => exact ⟨(aJ), (0), (by first | rfl | (simp; done) | (simp [*]; done)), H', ⟨Nat.le_refl _⟩, ⟨KR aL⟩, ⟨KL HB⟩⟩
   case round =>
    clear H'
    try clear c2
    try clear c2b0
    try clear c2b1
    try clear p2
    try clear c3
    try clear c3b0
    try clear c3b1
    obtain ⟨aC, aA, rfl, HA, HK1, aF, HB⟩ := hrel
    cases gk with
    | zero => exact absurd HA.out (by simp [laws_toIntS.l0])
    | succ k1 =>
     have H := HA.out
     clear HA
     simp only [laws_toIntS.l0] at H
     by_cases c6 : aA < (l0.length : Int)
     ·rw [if_pos c6] at H
      have c6b0 : decide (aA < (l0.length : Int)) = true := decide_eq_true c6
      clear c6
      by_cases c7 : 0 ≤ aA
      ·rw [if_pos c7] at H
       have c7b0 : decide (0 ≤ aA) = true := decide_eq_true c7
       clear c7
       by_cases c8 : aA < (aC.length : Int)
       ·rw [if_pos c8] at H
        have c8b0 : decide (aA < (aC.length : Int)) = true := decide_eq_true c8
        clear c8
        obtain ⟨aG, aD⟩ : ∃ y_ : List Int, y_ = (aC.set (aA : Int).toNat (rd l0 aA)) := ⟨_, rfl⟩
        replace H : (laws_toIntS.l0 k1 l0 aG (wrap64 (aA + 1))) = some r := by first | (rw [aD]; with_reducible exact H) | (have H2_ := (Option.bind_some _ _).symm.trans H; rw [aD]; with_reducible exact H2_) | (have H2_ := (Option.bind_some _ _).symm.trans H; with_reducible exact H2_) | with_reducible exact H | (rw [aD]; exact H) | exact H
        have Ny105 := Aside0.mk aD
        clear aD
        have H' := Aside0.mk H
        clear H
        have aH : 0 ≤ (aA : Int) := OD
        have aI : aA < (l0.length : Int) := OD
        obtain ⟨_, aN, aE⟩ := Kd.at_int aW.out aA aH aI
        cases aN
        replace aE := CX HB.out aE
        replace aH := eq_true aH
        replace aI := eq_true aI
        have p9 : 0 ≤ (aA : Int) := OD
        have q9 : (aA : Int) < ((aC.length : Int) : Int) := OD
        obtain ⟨go9, aX, aS, aT, gl9, cl9, HG9⟩ := Kd.R_form aF.out (by omega)
        (first | cases aS | (injection aS with ea_ en_ ec_; (first | subst ea_ | (injection ea_ with ea_; subst ea_)); subst ec_; clear en_))
        have GB9 := Aside0.mk aT
        have GG9 := Aside0.mk HG9
        clear aT gl9 HG9
        obtain ⟨_, _⟩ := Kd.R_celln 0 aF.out (aA : Int) p9 q9
        replace p9 := eq_true p9
        replace q9 := eq_true q9
        have HP10 := Kd.R_putg aF.out (aA : Int) (rd l0 aA)
        go_wp2_with (first | ((with_reducible refine gate_store (t := 3) (p := 20) rfl ?_); refine store_event (t := 3) (p := 20) (v := ?vo_w11) (w1 := (wr.setCell ⟨go9, (aA : Int).toNat, none⟩ (.int .i64 (rd l0 aA)))) ?hg ?ho ?hn ?hr ?_; (case ho => rfl); (case hg => rfl); (case hn => rfl); (case hr => first | (go_simp; done) | (go_simp; rfl)); intro aO hw; have hg : wr.grownBy aO (some go9) := (by rw [hw]; exact HP10.2); have hp_ : Kd.R (Kd.int .i64) 3 aO w.heap.size (fun _ => True) (.slice (some ⟨go9, 0, none⟩) aC.length aX) aG := (by rw [hw, Ny105.out]; exact HP10.1); clear HP10; replace aF := am (hp_); replace HB := am ((by rw [hw]; exact below_set (HB.out) GB9.out : Below w.heap.size w aO)); clear hg hw hp_))
        go_roundg k1
        case measure => have := HK1.out; omega
        case rel => exact ⟨(aG), (wrap64 (aA + 1)), (by first | rfl | (simp; done) | (simp [*]; done)), H', ⟨by have := HK1.out; omega⟩, ⟨KR aF⟩, ⟨KL HB⟩⟩
       ·rw [if_neg c8] at H
        exact absurd H (by simp)
      ·rw [if_neg c7] at H
       exact absurd H (by simp)
     ·rw [if_neg c6] at H
      have c6b0 : decide (aA < (l0.length : Int)) = false := decide_eq_false c6
      clear c6
      obtain rfl := sj H
      go_wp2
      go_ret
      exact ⟨_, ER, by refine KW ?_; exact aF.out, KL HB⟩
  ·rw [if_neg c3] at H
   exact absurd H (by simp)
 ·rw [if_neg c2] at H
  exact absurd H (by simp)
def laws_toWindow.f (k : Nat) (a0_0 : Int) (l0_1 : List Int) : Option (Int × List Int) := (laws_toIntS.f k l0_1).bind fun t104 => (some (a0_0, t104))
theorem laws_toWindow.calls (k : Nat) (aE : Int) (aR : Option Addr) (aS : Nat) (aF : List Int) (r1 : Int) (r2 : List Int) (w : World) (aT : Kd.C (Kd.int .i64) w aR aF.length aF) (aU : aF.length ≤ aS) (h : laws_toWindow.f k aE aF = some (r1, r2)) :
  Calls Tryz.prog 30 #[.agg #[.int .i64 aE, .slice aR aF.length aS]] w fun e w' => ∃ v1_ : Value, e = .returned (.agg #[.int .i64 r1, v1_]) ∧ Kd.R (Kd.int .i64) 3 w' w.heap.size (fun _ => True) v1_ r2 ∧ Below w.heap.size w w' := by
 have bV := Tryz.underlying31
 have bW := Tryz.underlying46
 have aZ := Aside0.mk aT
 have bA := Aside0.mk aU
 clear aT aU
 have HB := am (Below.refl w.heap.size w)
 have H : ((laws_toIntS.f k aF).bind fun aK => (some (aE, aK))) = some (r1, r2) := h
 clear h
 replace H := bm H
 obtain ⟨aK, bS, H⟩ := H
 replace H : (some (aE, aK)) = some (r1, r2) := H
 have A2 := Aside0.mk bS
 clear bS
 simp only [Option.some.injEq, Prod.mk.injEq] at H
 obtain ⟨rfl, rfl⟩ := H
 go_enter Tryz.func30, Tryz.ntmps30
 go_wp2_with (first | ((with_reducible refine gate_dst (N := 1) rfl ?_); refine box_event rfl (N := 1) rfl (cs := #[.int .i64 aE, .slice aR aF.length aS]) (t := 31) BX ?_; intro bB hg w3 aI hb; have aA := am (aI); have bC := am (GH HB hg); have aD := bC; replace HB := bl (KL HB) hb; clear hb aI hg) | ((with_reducible refine gate_dst (N := 2) rfl ?_); refine box_event rfl (N := 2) rfl (cs := #[.int .i64 0, .slice none 0 0]) (t := 46) BX ?_; intro aL hg w4 aI hb; have aB := am (aI); have bD := am (GH1 HB aD.out hg); have aG := bD; replace HB := bl (K1 HB aD.out) hb; have aN := am (NL aA hg); have aO := am (NG aA hg); replace aA := am (BB aA hb); clear hb aI hg) | ((with_reducible refine gate_dst (N := 3) rfl ?_); refine box_event rfl (N := 3) rfl (cs := #[.int .i64 0, .slice none 0 0]) (t := 46) BX ?_; intro aV hg w5 aI hb; have aJ := am (aI); have bE := am (GH2 HB aD.out aG.out hg); have aM := bE; replace HB := bl (K2 HB aD.out aG.out) hb; have aH := am (NL aA hg); have aP := am (NG aA hg); replace aA := am (BB aA hb); have aC := am (NL aB hg); have aQ := am (NG aB hg); replace aB := am (BB aB hb); clear hb aI hg; have bX := aN.out; have bY := aO.out; have bZ := aH.out; have cA := aP.out; have ⟨_, _, _⟩ := y2 w5 aA.out; have cB := aQ.out; have cC := aC.out; have ⟨_, _, _⟩ := y2 w5 aJ.out) | ((with_reducible refine gate_callee (f := 60) rfl ?_); refine goesL_ (some 9) rfl rfl Tryz.func60 (by kernel_rfl) rfl #[.slice aR aF.length aS] rfl MT ?_; (with_reducible refine (laws_toIntS.calls k _ _ aF aK _ ?_ ?_ A2.out).mono ?_); exact Kd.C_below aZ.out (K3 HB aD.out aG.out aM.out); exact bA.out; rintro e bT ⟨cD, rfl, bU, hb⟩; refine ⟨_, rfl, ?_⟩; have aW := am (Kd.R_lower bU (below_size (K3 HB aD.out aG.out aM.out))); replace aA := am (blk_below (g := bB) (o := .cells #[.int .i64 aE, .slice aR aF.length aS] 31 (0, 0)) (by refine BD ?_; refine blk_far ?_ aH.out _; refine BD ?_; exact aA.out) hb); replace aB := am (blk_below (g := aL) (o := .cells #[.int .i64 0, .slice none 0 0] 46 (0, 0)) (by refine BD ?_; refine blk_far ?_ aC.out _; refine BD ?_; exact aB.out) hb); replace aJ := am (blk_below (g := aV) (o := .cells #[.int .i64 aE, .slice none 0 0] 46 (0, 0)) (by refine BD ?_; refine blk_put (cs := #[.int .i64 0, .slice none 0 0]) ?_ 0 _ rfl; refine BD ?_; exact aJ.out) hb); replace HB := bl (K3 HB aD.out aG.out aM.out) hb; (try clear hb); (try clear hb2); (try clear hk); (try clear hi); (try clear bU); obtain ⟨aX, aY, bR⟩ := Kd.R_slice aW.out; subst bR; have ⟨_, _, _⟩ := y2 bT aJ.out; have ⟨_, _, _⟩ := y2 bT aB.out))
 refine bodyPost_ret (results_cell_row rfl _ _ aL 46 #[.int .i64 aE, .slice aX aK.length aY] (0, 0) _ rfl (by refine BD ?_; refine blk_put (cs := #[.int .i64 aE, .slice none 0 0]) ?_ 1 _ rfl; refine BD ?_; refine blk_put (cs := #[.int .i64 0, .slice none 0 0]) ?_ 0 _ rfl; refine BD ?_; refine blk_far ?_ aC.out _; refine BD ?_; exact aB.out) Tryz.underlying46 rfl (by kernel_rfl)) rfl ?_
 exact ⟨_, ER, by refine KW ?_; exact Kd.R_mono (Kd.R_far (p := ⟨aL, 1, none⟩) (Kd.R_far (p := ⟨aL, 0, none⟩) (Kd.R_far (p := ⟨aV, 1, none⟩) (Kd.R_types (Kd.R_types aW.out aJ.out (by decide)) aB.out (by decide)) (fun _ hk => hk.1.2) (.slice aX aK.length aY)) (fun _ hk => hk.2) (.int .i64 aE)) (fun _ hk => hk.2) (.slice aX aK.length aY)) (fun _ hk => trivial), K3 HB aD.out aG.out aM.out⟩
def laws_toSa.f (k : Nat) (a0_0 : Int) (a0_1 : Int) (a0_2 : ByteArray) (a0_3 : ByteArray) (a0_4 : Int) (a0_5 : Int) (a0_6 : Int) (a0_7 : Int) (a0_8 : Int) (a0_9 : Int) (l0_10 : List Int) : Option (Int × Int × ByteArray × ByteArray × Int × Int × Int × Int × Int × Int × List Int) := (laws_toWindow.f k a0_9 l0_10).bind fun bt104 => (some (a0_0, a0_1, a0_2, a0_3, a0_4, a0_5, a0_6, a0_7, a0_8, bt104.1, bt104.2))
theorem laws_toSa.calls (k : Nat) (aC : Int) (aD : Int) (aE : ByteArray) (aF : ByteArray) (aH : Int) (aI : Int) (aL : Int) (aN : Int) (aP : Int) (aV : Int) (aR : Option Addr) (aS : Nat) (aK : List Int) (r1 : Int) (r2 : Int) (r3 : ByteArray) (r4 : ByteArray) (r5 : Int) (r6 : Int) (r7 : Int) (r8 : Int) (r9 : Int) (r10 : Int) (r11 : List Int) (w : World) (bC : Kd.C (Kd.int .i64) w aR aK.length aK) (bD : aK.length ≤ aS) (h : laws_toSa.f k aC aD aE aF aH aI aL aN aP aV aK = some (r1, r2, r3, r4, r5, r6, r7, r8, r9, r10, r11)) :
  Calls Tryz.prog 9 #[.agg #[.int .i64 aC, .int .i64 aD, .string aE, .string aF, .int .i64 aH, .int .i64 aI, .int .i64 aL, .int .i64 aN, .int .i64 aP, .int .i64 aV, .slice aR aK.length aS]] w fun e w' => ∃ v10_ : Value, e = .returned (.agg #[.int .i64 r1, .int .i64 r2, .string r3, .string r4, .int .i64 r5, .int .i64 r6, .int .i64 r7, .int .i64 r8, .int .i64 r9, .int .i64 r10, v10_]) ∧ Kd.R (Kd.int .i64) 3 w' w.heap.size (fun _ => True) v10_ r11 ∧ Below w.heap.size w w' := by
 have dQ := Tryz.underlying33
 have dR := Tryz.underlying48
 have dS := Tryz.underlying31
 have dT := Tryz.underlying46
 have bI := Aside0.mk bC
 have bJ := Aside0.mk bD
 clear bC bD
 have HB := am (Below.refl w.heap.size w)
 have H : ((laws_toWindow.f k aV aK).bind fun bG => (some (aC, aD, aE, aF, aH, aI, aL, aN, aP, bG.1, bG.2))) = some (r1, r2, r3, r4, r5, r6, r7, r8, r9, r10, r11) := h
 clear h
 replace H := bm H
 obtain ⟨⟨aX, bE⟩, dN, H⟩ := H
 replace H : (some (aC, aD, aE, aF, aH, aI, aL, aN, aP, aX, bE)) = some (r1, r2, r3, r4, r5, r6, r7, r8, r9, r10, r11) := H
 have A2 := Aside0.mk dN
 clear dN
 simp only [Option.some.injEq, Prod.mk.injEq] at H
 obtain ⟨rfl, rfl, rfl, rfl, rfl, rfl, rfl, rfl, rfl, rfl, rfl⟩ := H
 go_enter Tryz.func9, Tryz.ntmps9
 go_wp2_with (first | ((with_reducible refine gate_dst (N := 1) rfl ?_); refine box_event rfl (N := 1) rfl (cs := #[.int .i64 aC, .int .i64 aD, .string aE, .string aF, .int .i64 aH, .int .i64 aI, .int .i64 aL, .int .i64 aN, .int .i64 aP, .int .i64 aV, .slice aR aK.length aS]) (t := 33) BX ?_; intro bM hg w3 aT hb; have aJ := am (aT); have bN := am (GH HB hg); have aO := bN; replace HB := bl (KL HB) hb; clear hb aT hg) | ((with_reducible refine gate_dst (N := 2) rfl ?_); refine box_event rfl (N := 2) rfl (cs := #[.int .i64 0, .int .i64 0, .string (⟨#[]⟩ : ByteArray), .string (⟨#[]⟩ : ByteArray), .int .i64 0, .int .i64 0, .int .i64 0, .int .i64 0, .int .i64 0, .int .i64 0, .slice none 0 0]) (t := 48) BX ?_; intro aG hg w4 aT hb; have aM := am (aT); have bO := am (GH1 HB aO.out hg); have aQ := bO; replace HB := bl (K1 HB aO.out) hb; have aY := am (NL aJ hg); have aZ := am (NG aJ hg); replace aJ := am (BB aJ hb); clear hb aT hg) | ((with_reducible refine gate_dst (N := 3) rfl ?_); refine box_event rfl (N := 3) rfl (cs := #[.int .i64 0, .int .i64 0, .string (⟨#[]⟩ : ByteArray), .string (⟨#[]⟩ : ByteArray), .int .i64 0, .int .i64 0, .int .i64 0, .int .i64 0, .int .i64 0, .int .i64 0, .slice none 0 0]) (t := 48) BX ?_; intro bF hg w5 aT hb; have aU := am (aT); have bP := am (GH2 HB aO.out aQ.out hg); have aW := bP; replace HB := bl (K2 HB aO.out aQ.out) hb; have aB := am (NL aJ hg); have bA := am (NG aJ hg); replace aJ := am (BB aJ hb); have aA := am (NL aM hg); have bB := am (NG aM hg); replace aM := am (BB aM hb); clear hb aT hg; have dU := aY.out; have dV := aZ.out; have dW := aB.out; have dX := bA.out; have ⟨_, _, _, _, _, _, _, _, _, _, _, _⟩ := y11 w5 aJ.out; have dY := bB.out; have dZ := aA.out; have ⟨_, _, _, _, _, _, _, _, _, _, _, _⟩ := y11 w5 aU.out) | ((with_reducible refine gate_callee (f := 30) rfl ?_); refine goesL_ (some 33) rfl rfl Tryz.func30 (by kernel_rfl) rfl #[.agg #[.int .i64 aV, .slice aR aK.length aS]] rfl MT ?_; (with_reducible refine (laws_toWindow.calls k aV _ _ aK aX bE _ ?_ ?_ A2.out).mono ?_); exact Kd.C_below bI.out (K3 HB aO.out aQ.out aW.out); exact bJ.out; rintro e dO ⟨eA, rfl, dP, hb⟩; refine ⟨_, rfl, ?_⟩; have bH := am (Kd.R_lower dP (below_size (K3 HB aO.out aQ.out aW.out))); replace aJ := am (blk_below (g := bM) (o := .cells #[.int .i64 aC, .int .i64 aD, .string aE, .string aF, .int .i64 aH, .int .i64 aI, .int .i64 aL, .int .i64 aN, .int .i64 aP, .int .i64 aV, .slice aR aK.length aS] 33 (0, 0)) (by refine BD ?_; refine blk_far ?_ aB.out _; refine BD ?_; refine blk_far ?_ aB.out _; refine BD ?_; refine blk_far ?_ aB.out _; refine BD ?_; refine blk_far ?_ aB.out _; refine BD ?_; refine blk_far ?_ aB.out _; refine BD ?_; refine blk_far ?_ aB.out _; refine BD ?_; refine blk_far ?_ aB.out _; refine BD ?_; refine blk_far ?_ aB.out _; refine BD ?_; refine blk_far ?_ aB.out _; refine BD ?_; exact aJ.out) hb); replace aM := am (blk_below (g := aG) (o := .cells #[.int .i64 0, .int .i64 0, .string (⟨#[]⟩ : ByteArray), .string (⟨#[]⟩ : ByteArray), .int .i64 0, .int .i64 0, .int .i64 0, .int .i64 0, .int .i64 0, .int .i64 0, .slice none 0 0] 48 (0, 0)) (by refine BD ?_; refine blk_far ?_ aA.out _; refine BD ?_; refine blk_far ?_ aA.out _; refine BD ?_; refine blk_far ?_ aA.out _; refine BD ?_; refine blk_far ?_ aA.out _; refine BD ?_; refine blk_far ?_ aA.out _; refine BD ?_; refine blk_far ?_ aA.out _; refine BD ?_; refine blk_far ?_ aA.out _; refine BD ?_; refine blk_far ?_ aA.out _; refine BD ?_; refine blk_far ?_ aA.out _; refine BD ?_; exact aM.out) hb); replace aU := am (blk_below (g := bF) (o := .cells #[.int .i64 aC, .int .i64 aD, .string aE, .string aF, .int .i64 aH, .int .i64 aI, .int .i64 aL, .int .i64 aN, .int .i64 aP, .int .i64 0, .slice none 0 0] 48 (0, 0)) (by refine BD ?_; refine blk_put (cs := #[.int .i64 aC, .int .i64 aD, .string aE, .string aF, .int .i64 aH, .int .i64 aI, .int .i64 aL, .int .i64 aN, .int .i64 0, .int .i64 0, .slice none 0 0]) ?_ 8 _ rfl; refine BD ?_; refine blk_put (cs := #[.int .i64 aC, .int .i64 aD, .string aE, .string aF, .int .i64 aH, .int .i64 aI, .int .i64 aL, .int .i64 0, .int .i64 0, .int .i64 0, .slice none 0 0]) ?_ 7 _ rfl; refine BD ?_; refine blk_put (cs := #[.int .i64 aC, .int .i64 aD, .string aE, .string aF, .int .i64 aH, .int .i64 aI, .int .i64 0, .int .i64 0, .int .i64 0, .int .i64 0, .slice none 0 0]) ?_ 6 _ rfl; refine BD ?_; refine blk_put (cs := #[.int .i64 aC, .int .i64 aD, .string aE, .string aF, .int .i64 aH, .int .i64 0, .int .i64 0, .int .i64 0, .int .i64 0, .int .i64 0, .slice none 0 0]) ?_ 5 _ rfl; refine BD ?_; refine blk_put (cs := #[.int .i64 aC, .int .i64 aD, .string aE, .string aF, .int .i64 0, .int .i64 0, .int .i64 0, .int .i64 0, .int .i64 0, .int .i64 0, .slice none 0 0]) ?_ 4 _ rfl; refine BD ?_; refine blk_put (cs := #[.int .i64 aC, .int .i64 aD, .string aE, .string (⟨#[]⟩ : ByteArray), .int .i64 0, .int .i64 0, .int .i64 0, .int .i64 0, .int .i64 0, .int .i64 0, .slice none 0 0]) ?_ 3 _ rfl; refine BD ?_; refine blk_put (cs := #[.int .i64 aC, .int .i64 aD, .string (⟨#[]⟩ : ByteArray), .string (⟨#[]⟩ : ByteArray), .int .i64 0, .int .i64 0, .int .i64 0, .int .i64 0, .int .i64 0, .int .i64 0, .slice none 0 0]) ?_ 2 _ rfl; refine BD ?_; refine blk_put (cs := #[.int .i64 aC, .int .i64 0, .string (⟨#[]⟩ : ByteArray), .string (⟨#[]⟩ : ByteArray), .int .i64 0, .int .i64 0, .int .i64 0, .int .i64 0, .int .i64 0, .int .i64 0, .slice none 0 0]) ?_ 1 _ rfl; refine BD ?_; refine blk_put (cs := #[.int .i64 0, .int .i64 0, .string (⟨#[]⟩ : ByteArray), .string (⟨#[]⟩ : ByteArray), .int .i64 0, .int .i64 0, .int .i64 0, .int .i64 0, .int .i64 0, .int .i64 0, .slice none 0 0]) ?_ 0 _ rfl; refine BD ?_; exact aU.out) hb); replace HB := bl (K3 HB aO.out aQ.out aW.out) hb; (try clear hb); (try clear hb2); (try clear hk); (try clear hi); (try clear dP); have ⟨_, _, _, _, _, _, _, _, _, _, _, _⟩ := y11 dO aU.out; obtain ⟨bK, bL, dM⟩ := Kd.R_slice bH.out; subst dM; have ⟨_, _, _, _, _, _, _, _, _, _, _, _⟩ := y11 dO aM.out))
 refine bodyPost_ret (results_cell_row rfl _ _ aG 48 #[.int .i64 aC, .int .i64 aD, .string aE, .string aF, .int .i64 aH, .int .i64 aI, .int .i64 aL, .int .i64 aN, .int .i64 aP, .int .i64 aX, .slice bK bE.length bL] (0, 0) _ rfl (by refine BD ?_; refine blk_put (cs := #[.int .i64 aC, .int .i64 aD, .string aE, .string aF, .int .i64 aH, .int .i64 aI, .int .i64 aL, .int .i64 aN, .int .i64 aP, .int .i64 aX, .slice none 0 0]) ?_ 10 _ rfl; refine BD ?_; refine blk_put (cs := #[.int .i64 aC, .int .i64 aD, .string aE, .string aF, .int .i64 aH, .int .i64 aI, .int .i64 aL, .int .i64 aN, .int .i64 aP, .int .i64 0, .slice none 0 0]) ?_ 9 _ rfl; refine BD ?_; refine blk_put (cs := #[.int .i64 aC, .int .i64 aD, .string aE, .string aF, .int .i64 aH, .int .i64 aI, .int .i64 aL, .int .i64 aN, .int .i64 0, .int .i64 0, .slice none 0 0]) ?_ 8 _ rfl; refine BD ?_; refine blk_put (cs := #[.int .i64 aC, .int .i64 aD, .string aE, .string aF, .int .i64 aH, .int .i64 aI, .int .i64 aL, .int .i64 0, .int .i64 0, .int .i64 0, .slice none 0 0]) ?_ 7 _ rfl; refine BD ?_; refine blk_put (cs := #[.int .i64 aC, .int .i64 aD, .string aE, .string aF, .int .i64 aH, .int .i64 aI, .int .i64 0, .int .i64 0, .int .i64 0, .int .i64 0, .slice none 0 0]) ?_ 6 _ rfl; refine BD ?_; refine blk_put (cs := #[.int .i64 aC, .int .i64 aD, .string aE, .string aF, .int .i64 aH, .int .i64 0, .int .i64 0, .int .i64 0, .int .i64 0, .int .i64 0, .slice none 0 0]) ?_ 5 _ rfl; refine BD ?_; refine blk_put (cs := #[.int .i64 aC, .int .i64 aD, .string aE, .string aF, .int .i64 0, .int .i64 0, .int .i64 0, .int .i64 0, .int .i64 0, .int .i64 0, .slice none 0 0]) ?_ 4 _ rfl; refine BD ?_; refine blk_put (cs := #[.int .i64 aC, .int .i64 aD, .string aE, .string (⟨#[]⟩ : ByteArray), .int .i64 0, .int .i64 0, .int .i64 0, .int .i64 0, .int .i64 0, .int .i64 0, .slice none 0 0]) ?_ 3 _ rfl; refine BD ?_; refine blk_put (cs := #[.int .i64 aC, .int .i64 aD, .string (⟨#[]⟩ : ByteArray), .string (⟨#[]⟩ : ByteArray), .int .i64 0, .int .i64 0, .int .i64 0, .int .i64 0, .int .i64 0, .int .i64 0, .slice none 0 0]) ?_ 2 _ rfl; refine BD ?_; refine blk_put (cs := #[.int .i64 aC, .int .i64 0, .string (⟨#[]⟩ : ByteArray), .string (⟨#[]⟩ : ByteArray), .int .i64 0, .int .i64 0, .int .i64 0, .int .i64 0, .int .i64 0, .int .i64 0, .slice none 0 0]) ?_ 1 _ rfl; refine BD ?_; refine blk_put (cs := #[.int .i64 0, .int .i64 0, .string (⟨#[]⟩ : ByteArray), .string (⟨#[]⟩ : ByteArray), .int .i64 0, .int .i64 0, .int .i64 0, .int .i64 0, .int .i64 0, .int .i64 0, .slice none 0 0]) ?_ 0 _ rfl; refine BD ?_; refine blk_far ?_ aA.out _; refine BD ?_; refine blk_far ?_ aA.out _; refine BD ?_; exact aM.out) Tryz.underlying48 rfl (by kernel_rfl)) rfl ?_
 exact ⟨_, ER, by refine KW ?_; exact Kd.R_mono (Kd.R_far (p := ⟨aG, 10, none⟩) (Kd.R_far (p := ⟨aG, 9, none⟩) (Kd.R_far (p := ⟨aG, 8, none⟩) (Kd.R_far (p := ⟨aG, 7, none⟩) (Kd.R_far (p := ⟨aG, 6, none⟩) (Kd.R_far (p := ⟨aG, 5, none⟩) (Kd.R_far (p := ⟨aG, 4, none⟩) (Kd.R_far (p := ⟨aG, 3, none⟩) (Kd.R_far (p := ⟨aG, 2, none⟩) (Kd.R_far (p := ⟨aG, 1, none⟩) (Kd.R_far (p := ⟨aG, 0, none⟩) (Kd.R_far (p := ⟨bF, 10, none⟩) (Kd.R_far (p := ⟨bF, 9, none⟩) (Kd.R_types (Kd.R_types bH.out aU.out (by decide)) aM.out (by decide)) (fun _ hk => hk.1.2) (.int .i64 aX)) (fun _ hk => hk.1.2) (.slice bK bE.length bL)) (fun _ hk => hk.2) (.int .i64 aC)) (fun _ hk => hk.2) (.int .i64 aD)) (fun _ hk => hk.2) (.string aE)) (fun _ hk => hk.2) (.string aF)) (fun _ hk => hk.2) (.int .i64 aH)) (fun _ hk => hk.2) (.int .i64 aI)) (fun _ hk => hk.2) (.int .i64 aL)) (fun _ hk => hk.2) (.int .i64 aN)) (fun _ hk => hk.2) (.int .i64 aP)) (fun _ hk => hk.2) (.int .i64 aX)) (fun _ hk => hk.2) (.slice bK bE.length bL)) (fun _ hk => trivial), K3 HB aO.out aQ.out aW.out⟩
def laws_toSaS.l0 : Nat → List (S33) → List (S48) → Int → Option ((List (S48)))
 | 0, _, _, _ => none
 | k + 1, x0, x3, x4 => if x4 < (x0.length : Int) then (if 0 ≤ x4 then ((laws_toSa.f k ((rd_T33 x0 x4).f0) ((rd_T33 x0 x4).f1) ((rd_T33 x0 x4).f2) ((rd_T33 x0 x4).f3) ((rd_T33 x0 x4).f4) ((rd_T33 x0 x4).f5) ((rd_T33 x0 x4).f6) ((rd_T33 x0 x4).f7) ((rd_T33 x0 x4).f8) ((rd_T33 x0 x4).f9.f0) ((rd_T33 x0 x4).f9.f1)).bind fun bt105 => (if x4 < (x3.length : Int) then (laws_toSaS.l0 k x0 (x3.set (x4 : Int).toNat (⟨bt105.1, bt105.2.1, bt105.2.2.1, bt105.2.2.2.1, bt105.2.2.2.2.1, bt105.2.2.2.2.2.1, bt105.2.2.2.2.2.2.1, bt105.2.2.2.2.2.2.2.1, bt105.2.2.2.2.2.2.2.2.1, (⟨bt105.2.2.2.2.2.2.2.2.2.1, bt105.2.2.2.2.2.2.2.2.2.2⟩ : S46)⟩ : S48)) (wrap64 (x4 + 1))) else (none))) else (none)) else (some x3)
def laws_toSaS.f (k : Nat) (l0 : List (S33)) : Option ((List (S48))) := if 0 ≤ (l0.length : Int) then (if ((l0.length : Int) : Int).toNat ≤ 2345624805922 then (laws_toSaS.l0 k l0 (List.replicate ((l0.length : Int) : Int).toNat z48) 0) else (none)) else (none)
theorem laws_toSaS.calls (k : Nat) (A0 : Option Addr) (c0 : Nat) (l0 : List (S33)) (r : List (S48)) (w : World) (dV : Kd.C k33 w A0 l0.length l0) (dW : l0.length ≤ c0) (h : laws_toSaS.f k l0 = some r) :
  Calls Tryz.prog 29 #[.slice A0 l0.length c0] w fun e w' => ∃ v0_ : Value, e = .returned (v0_) ∧ Kd.S k48 48 w' w.heap.size (fun _ => True) v0_ r ∧ Below w.heap.size w w' := by
 have dZ := Tryz.underlying33
 have eA := Tryz.underlying48
 have eB := Aside0.mk dV
 have eC := Aside0.mk dW
 clear dV dW
 have HB := am (Below.refl w.heap.size w)
 have H : (if 0 ≤ (l0.length : Int) then (if ((l0.length : Int) : Int).toNat ≤ 2345624805922 then (laws_toSaS.l0 k l0 (List.replicate ((l0.length : Int) : Int).toNat z48) 0) else (none)) else (none)) = some r := h
 clear h
 by_cases c2 : 0 ≤ (l0.length : Int)
 ·rw [if_pos c2] at H
  have c2b0 := eq_true c2
  have c2b1 : decide (0 ≤ (l0.length : Int)) = true := decide_eq_true c2
  clear c2
  by_cases c3 : ((l0.length : Int) : Int).toNat ≤ 2345624805922
  ·rw [if_pos c3] at H
   have c3b0 := eq_true c3
   have c3b1 : decide (((l0.length : Int) : Int).toNat ≤ 2345624805922) = true := decide_eq_true c3
   clear c3
   obtain ⟨cN, aI⟩ : ∃ y_ : List (S48), y_ = (List.replicate ((l0.length : Int) : Int).toNat z48) := ⟨_, rfl⟩
   replace H : (laws_toSaS.l0 k l0 cN 0) = some r := by first | (rw [aI]; with_reducible exact H) | (have H2_ := (Option.bind_some _ _).symm.trans H; rw [aI]; with_reducible exact H2_) | (have H2_ := (Option.bind_some _ _).symm.trans H; with_reducible exact H2_) | with_reducible exact H | (rw [aI]; exact H) | exact H
   have Ny101 := Aside0.mk aI
   clear aI
   have H' := Aside0.mk H
   clear H
   go_enter Tryz.func29, Tryz.ntmps29
   go_wp2_with (first | ((with_reducible refine gate_dst (N := 7) rfl ?_); refine Kd.S_make k48 _ 48 rfl (N := 7) rfl 40 _ _ rfl (l0.length : Int) rfl rfl Tryz.underlying40 (.agg #[(.int .i64 0), (.int .i64 0), (.string ⟨#[]⟩), (.string ⟨#[]⟩), (.int .i64 0), (.int .i64 0), (.int .i64 0), (.int .i64 0), (.int .i64 0), (.int .i64 0), (.slice none 0 0)]) 120 info48 rfl (by decide) (by omega) z48 (ok := fun _ => True) (okp := fun _ => True) (k48_mkM _ _ _ z48 (Kd.R_nil _ _ _ _ _)) (fun _ hk => hk) trivial (OD) (Nat.le_trans (Nat.mul_le_mul_right _ (OD : (l0.length : Int).toNat ≤ 2345624805922)) (by omega)) (Below.refl _ _) (Nat.le_refl _) ?_; intro cW w4 cO hb hg_ hnew_; clear hg_ hnew_; (first | rw [← Ny101.out] at cO | (simp only [Int.reduceToNat] at cO; rw [← Ny101.out] at cO)); have cP := am (Kd.S_lower cO (below_size (KL HB))); replace HB := bl (KL HB) hb; clear hb cO))
   go_loopg [4] k (fun kq v4 w' => ∃ (aB : List (S48)) (aA : Int), v4 = .int .i64 aA ∧ Aside0 (laws_toSaS.l0 kq l0 aB aA = some r) ∧ Aside0 (kq ≤ k) ∧ Aside0 (Kd.S k48 48 w' w.heap.size (fun _ => True) cW aB) ∧ Aside0 (Below w.heap.size w w'))
   case atStart => exact ⟨(cN), (0), (by first | rfl | (simp; done) | (simp [*]; done)), H', ⟨Nat.le_refl _⟩, ⟨by refine KX ?_; exact cP.out⟩, ⟨KL HB⟩⟩
   case round =>
    clear H'
    try clear c2
    try clear c2b0
    try clear c2b1
    try clear p2
    try clear c3
    try clear c3b0
    try clear c3b1
    obtain ⟨aB, aA, rfl, HA, HK1, aG, HB⟩ := hrel
    cases gk with
    | zero => exact absurd HA.out (by simp [laws_toSaS.l0])
    | succ k1 =>
     have H := HA.out
     clear HA
     simp only [laws_toSaS.l0] at H
     by_cases c6 : aA < (l0.length : Int)
     ·rw [if_pos c6] at H
      have c6b0 : decide (aA < (l0.length : Int)) = true := decide_eq_true c6
      clear c6
      by_cases c7 : 0 ≤ aA
      ·rw [if_pos c7] at H
       have c7b0 : decide (0 ≤ aA) = true := decide_eq_true c7
       clear c7
       replace H := bm H
       obtain ⟨⟨aN, aO, aP, aQ, aR, aS, aT, aU, aV, aW, bI⟩, dX, H⟩ := H
       replace H : (if aA < (aB.length : Int) then (laws_toSaS.l0 k1 l0 (aB.set (aA : Int).toNat (⟨aN, aO, aP, aQ, aR, aS, aT, aU, aV, (⟨aW, bI⟩ : S46)⟩ : S48)) (wrap64 (aA + 1))) else (none)) = some r := H
       have A8 := Aside0.mk dX
       clear dX
       by_cases c9 : aA < (aB.length : Int)
       ·rw [if_pos c9] at H
        have c9b0 : decide (aA < (aB.length : Int)) = true := decide_eq_true c9
        clear c9
        obtain ⟨bQ, aJ⟩ : ∃ y_ : List (S48), y_ = (aB.set (aA : Int).toNat (⟨aN, aO, aP, aQ, aR, aS, aT, aU, aV, (⟨aW, bI⟩ : S46)⟩ : S48)) := ⟨_, rfl⟩
        replace H : (laws_toSaS.l0 k1 l0 bQ (wrap64 (aA + 1))) = some r := by first | (rw [aJ]; with_reducible exact H) | (have H2_ := (Option.bind_some _ _).symm.trans H; rw [aJ]; with_reducible exact H2_) | (have H2_ := (Option.bind_some _ _).symm.trans H; with_reducible exact H2_) | with_reducible exact H | (rw [aJ]; exact H) | exact H
        have Ny118 := Aside0.mk aJ
        clear aJ
        have H' := Aside0.mk H
        clear H
        have bR : 0 ≤ (aA : Int) := OD
        have bS : aA < (l0.length : Int) := OD
        obtain ⟨_, bM, bN, cX, aX, aY, aZ, bA, bB, bC, bD, bE, bF, bG, aK, aL, aM⟩ := at_T33 eB.out aA bR bS
        cases cX
        replace aX := CX HB.out aX
        replace aY := CX HB.out aY
        replace aZ := CX HB.out aZ
        replace bA := CX HB.out bA
        replace bB := CX HB.out bB
        replace bC := CX HB.out bC
        replace bD := CX HB.out bD
        replace bE := CX HB.out bE
        replace bF := CX HB.out bF
        replace bG := CX HB.out bG
        replace aK := CX HB.out aK
        have bJ := Aside0.mk aM
        have bK := Aside0.mk aL
        clear aM aL
        replace bR := eq_true bR
        replace bS := eq_true bS
        go_wp2_with (first | ((with_reducible refine gate_callee (f := 9) rfl ?_); refine goesL_ (some 20) rfl rfl Tryz.func9 (by kernel_rfl) rfl #[.agg #[.int .i64 ((rd_T33 l0 aA).f0), .int .i64 ((rd_T33 l0 aA).f1), .string ((rd_T33 l0 aA).f2), .string ((rd_T33 l0 aA).f3), .int .i64 ((rd_T33 l0 aA).f4), .int .i64 ((rd_T33 l0 aA).f5), .int .i64 ((rd_T33 l0 aA).f6), .int .i64 ((rd_T33 l0 aA).f7), .int .i64 ((rd_T33 l0 aA).f8), .int .i64 ((rd_T33 l0 aA).f9.f0), .slice bM ((rd_T33 l0 aA).f9.f1).length bN]] rfl MT ?_; (with_reducible refine (laws_toSa.calls k1 ((rd_T33 l0 aA).f0) ((rd_T33 l0 aA).f1) ((rd_T33 l0 aA).f2) ((rd_T33 l0 aA).f3) ((rd_T33 l0 aA).f4) ((rd_T33 l0 aA).f5) ((rd_T33 l0 aA).f6) ((rd_T33 l0 aA).f7) ((rd_T33 l0 aA).f8) ((rd_T33 l0 aA).f9.f0) _ _ ((rd_T33 l0 aA).f9.f1) aN aO aP aQ aR aS aT aU aV aW bI _ ?_ ?_ A8.out).mono ?_); exact KD bJ HB; exact bK.out; rintro e aH ⟨bH, rfl, cT, hb⟩; refine ⟨_, rfl, ?_⟩; have HSv116 : ∀ (a : Addr) (w : World), (store a bH).run Tryz.prog w = stored Tryz.prog w a bH .plain := fun a w => run_store _ _ _ _ _ (R_one cT); replace aG := am (Kd.S_elder' (by refine KX ?_; exact aG.out) (Kd.R_base cT) hb); have bL := am (Kd.R_lower cT (below_size (KL HB))); replace HB := bl (KL HB) hb; (try clear hb); (try clear hb2); (try clear hk); (try clear hi); (try clear cT); have cY : 0 ≤ (aA : Int) := OD; have cZ : (aA : Int) < ((aB.length : Int) : Int) := OD; obtain ⟨go10, cQ, cR, cS, gl10, cl10, HG10⟩ := Kd.S_form aG.out (by omega); (first | cases cR | (injection cR with ea_ en_ ec_; (first | subst ea_ | (injection ea_ with ea_; subst ea_)); subst ec_; clear en_)); have GB10 := Aside0.mk cS; have GG10 := Aside0.mk HG10; clear cS gl10 HG10; obtain ⟨_, ce10, hcl10, hM10, aC, aD, _, _⟩ := Kd.S_elem aG.out z48 (aA : Int) cY cZ; obtain ⟨ve10_10, rfl, ge10_10⟩ := k48_openM hM10; have dA : aH.cell? ⟨go10, (aA : Int).toNat * 11, none⟩ = some (.int .i64 ((rd_T48 aB aA).f0)) := aC 0 _ rfl; have dB : aH.cell? ⟨go10, (aA : Int).toNat * 11 + 1, none⟩ = some (.int .i64 ((rd_T48 aB aA).f1)) := aC 1 _ rfl; have dC : aH.cell? ⟨go10, (aA : Int).toNat * 11 + 2, none⟩ = some (.string ((rd_T48 aB aA).f2)) := aC 2 _ rfl; have dD : aH.cell? ⟨go10, (aA : Int).toNat * 11 + 3, none⟩ = some (.string ((rd_T48 aB aA).f3)) := aC 3 _ rfl; have dE : aH.cell? ⟨go10, (aA : Int).toNat * 11 + 4, none⟩ = some (.int .i64 ((rd_T48 aB aA).f4)) := aC 4 _ rfl; have dF : aH.cell? ⟨go10, (aA : Int).toNat * 11 + 5, none⟩ = some (.int .i64 ((rd_T48 aB aA).f5)) := aC 5 _ rfl; have dG : aH.cell? ⟨go10, (aA : Int).toNat * 11 + 6, none⟩ = some (.int .i64 ((rd_T48 aB aA).f6)) := aC 6 _ rfl; have dH : aH.cell? ⟨go10, (aA : Int).toNat * 11 + 7, none⟩ = some (.int .i64 ((rd_T48 aB aA).f7)) := aC 7 _ rfl; have dI : aH.cell? ⟨go10, (aA : Int).toNat * 11 + 8, none⟩ = some (.int .i64 ((rd_T48 aB aA).f8)) := aC 8 _ rfl; have dJ : aH.cell? ⟨go10, (aA : Int).toNat * 11 + 9, none⟩ = some (.int .i64 ((rd_T48 aB aA).f9.f0)) := aC 9 _ rfl; have cU : aH.cell? ⟨go10, (aA : Int).toNat * 11 + 10, none⟩ = some (ve10_10) := aC 10 _ rfl; have dK : aH.frozen? ⟨go10, (aA : Int).toNat * 11, none⟩ = false := aD 0; have dL : aH.frozen? ⟨go10, (aA : Int).toNat * 11 + 1, none⟩ = false := aD 1; have dM : aH.frozen? ⟨go10, (aA : Int).toNat * 11 + 2, none⟩ = false := aD 2; have dN : aH.frozen? ⟨go10, (aA : Int).toNat * 11 + 3, none⟩ = false := aD 3; have dO : aH.frozen? ⟨go10, (aA : Int).toNat * 11 + 4, none⟩ = false := aD 4; have dP : aH.frozen? ⟨go10, (aA : Int).toNat * 11 + 5, none⟩ = false := aD 5; have dQ : aH.frozen? ⟨go10, (aA : Int).toNat * 11 + 6, none⟩ = false := aD 6; have dR : aH.frozen? ⟨go10, (aA : Int).toNat * 11 + 7, none⟩ = false := aD 7; have dS : aH.frozen? ⟨go10, (aA : Int).toNat * 11 + 8, none⟩ = false := aD 8; have dT : aH.frozen? ⟨go10, (aA : Int).toNat * 11 + 9, none⟩ = false := aD 9; have cV : aH.frozen? ⟨go10, (aA : Int).toNat * 11 + 10, none⟩ = false := aD 10; clear hcl10 aC aD hM10; replace cY := eq_true cY; replace cZ := eq_true cZ; have n_ := am (Kd.S_mono (ok' := (fun k_ => some k_ ≠ (bH : Value).ownBlock)) aG.out (fun k_ hk => hk.2)); clear aG; have aG := n_; clear n_; have HX12 := am (show Kd.S k48 48 aH w.heap.size (fun k_ => ((fun _ => True)) k_ ∧ ¬ ((fun k_ => some k_ = (bH : Value).ownBlock)) k_) (.slice (some ⟨go10, 0, none⟩) aB.length cQ) aB from (by refine KX ?_; exact Kd.S_mono aG.out (fun k_ hk => ⟨trivial, fun e_ => hk e_⟩))); obtain ⟨oki12, ce12, hcl12, hM12, aE, aF, hoki12, hH12⟩ := Kd.S_elem HX12.out z48 (aA : Int) (OD) (by have h_ : (aA : Int) < ((aB.length : Int) : Int) := OD; first | exact h_ | (have e_ := (Kd.S_reads' aG.out).1; omega) | simpa using h_); obtain ⟨ve12_10, rfl, ge12_10⟩ := k48_openM hM12; have HP12 := Kd.S_seg hH12 (OD) (by have h_ : (aA : Int) < ((aB.length : Int) : Int) := OD; first | exact h_ | (have e_ := (Kd.S_reads' aG.out).1; omega) | simpa using h_) (seg := [.int .i64 aN, .int .i64 aO, .string aP, .string aQ, .int .i64 aR, .int .i64 aS, .int .i64 aT, .int .i64 aU, .int .i64 aV, .int .i64 aW, bH]) (j := 0) (show 11 ≤ 11 from by decide) (x' := (⟨aN, aO, aP, aQ, aR, aS, aT, aU, aV, (⟨aW, bI⟩ : S46)⟩ : S48)) (k48_mkM _ _ _ (⟨aN, aO, aP, aQ, aR, aS, aT, aU, aV, (⟨aW, bI⟩ : S46)⟩ : S48) (Kd.R_mono (Kd.R_tight rfl (Kd.R_mono (ok' := fun k_ => ((fun _ => True)) k_ ∧ k_ ≠ go10) (Kd.R_apart' (bL.out) (Kd.S_typed aG.out) (by decide)) (fun k_ hk => ⟨trivial, fun e_ => (hk.2) (by rw [e_]; rfl)⟩))) (fun _ h_ => Or.inr (h_)))) (fun _ hk => hk) (fun k_ hk_ => ((Kd.R_mono (ok' := fun k_ => ((fun _ => True)) k_ ∧ k_ ≠ go10) (Kd.R_apart' (bL.out) (Kd.S_typed aG.out) (by decide)) (fun k_ hk => ⟨trivial, fun e_ => (hk.2) (by rw [e_]; rfl)⟩))).1 k_ hk_.symm); have bT := aE 0 _ rfl; (try simp only [show (k48).sz = 11 from rfl, Nat.mul_one, Nat.add_zero] at bT); have bU := aF 0; (try simp only [show (k48).sz = 11 from rfl, Nat.mul_one, Nat.add_zero] at bU); have bV := aE 1 _ rfl; (try simp only [show (k48).sz = 11 from rfl, Nat.mul_one, Nat.add_zero] at bV); have bW := aF 1; (try simp only [show (k48).sz = 11 from rfl, Nat.mul_one, Nat.add_zero] at bW); have bX := aE 2 _ rfl; (try simp only [show (k48).sz = 11 from rfl, Nat.mul_one, Nat.add_zero] at bX); have bY := aF 2; (try simp only [show (k48).sz = 11 from rfl, Nat.mul_one, Nat.add_zero] at bY); have bZ := aE 3 _ rfl; (try simp only [show (k48).sz = 11 from rfl, Nat.mul_one, Nat.add_zero] at bZ); have cA := aF 3; (try simp only [show (k48).sz = 11 from rfl, Nat.mul_one, Nat.add_zero] at cA); have cB := aE 4 _ rfl; (try simp only [show (k48).sz = 11 from rfl, Nat.mul_one, Nat.add_zero] at cB); have cC := aF 4; (try simp only [show (k48).sz = 11 from rfl, Nat.mul_one, Nat.add_zero] at cC); have cD := aE 5 _ rfl; (try simp only [show (k48).sz = 11 from rfl, Nat.mul_one, Nat.add_zero] at cD); have cE := aF 5; (try simp only [show (k48).sz = 11 from rfl, Nat.mul_one, Nat.add_zero] at cE); have cF := aE 6 _ rfl; (try simp only [show (k48).sz = 11 from rfl, Nat.mul_one, Nat.add_zero] at cF); have cG := aF 6; (try simp only [show (k48).sz = 11 from rfl, Nat.mul_one, Nat.add_zero] at cG); have cH := aE 7 _ rfl; (try simp only [show (k48).sz = 11 from rfl, Nat.mul_one, Nat.add_zero] at cH); have cI := aF 7; (try simp only [show (k48).sz = 11 from rfl, Nat.mul_one, Nat.add_zero] at cI); have cJ := aE 8 _ rfl; (try simp only [show (k48).sz = 11 from rfl, Nat.mul_one, Nat.add_zero] at cJ); have cK := aF 8; (try simp only [show (k48).sz = 11 from rfl, Nat.mul_one, Nat.add_zero] at cK); have cL := aE 9 _ rfl; (try simp only [show (k48).sz = 11 from rfl, Nat.mul_one, Nat.add_zero] at cL); have cM := aF 9; (try simp only [show (k48).sz = 11 from rfl, Nat.mul_one, Nat.add_zero] at cM); have bO := aE 10 _ rfl; (try simp only [show (k48).sz = 11 from rfl, Nat.mul_one, Nat.add_zero] at bO); have bP := aF 10; (try simp only [show (k48).sz = 11 from rfl, Nat.mul_one, Nat.add_zero] at bP); clear hcl12 aE aF hM12 hoki12 hH12) | ((with_reducible refine gate_store (t := 48) (p := 21) rfl ?_); refine store_event (t := 48) (p := 21) (v := ?vo_w13) (w1 := (((((((((((aH.setCell ⟨go10, (aA : Int).toNat * 11, none⟩ (.int .i64 aN)).setCell ⟨go10, (aA : Int).toNat * 11 + 1, none⟩ (.int .i64 aO)).setCell ⟨go10, (aA : Int).toNat * 11 + 2, none⟩ (.string aP)).setCell ⟨go10, (aA : Int).toNat * 11 + 3, none⟩ (.string aQ)).setCell ⟨go10, (aA : Int).toNat * 11 + 4, none⟩ (.int .i64 aR)).setCell ⟨go10, (aA : Int).toNat * 11 + 5, none⟩ (.int .i64 aS)).setCell ⟨go10, (aA : Int).toNat * 11 + 6, none⟩ (.int .i64 aT)).setCell ⟨go10, (aA : Int).toNat * 11 + 7, none⟩ (.int .i64 aU)).setCell ⟨go10, (aA : Int).toNat * 11 + 8, none⟩ (.int .i64 aV)).setCell ⟨go10, (aA : Int).toNat * 11 + 9, none⟩ (.int .i64 aW)).setCell ⟨go10, (aA : Int).toNat * 11 + 10, none⟩ (bH))) ?hg ?ho ?hn ?hr ?_; (case ho => rfl); (case hg => rfl); (case hn => rfl); (case hr => first | (go_simp; done) | (go_simp; rfl)); intro dU hw; have hg : aH.grownBy dU (some go10) := (by rw [hw]; exact HP12.2); have hp_ : Kd.S k48 48 dU w.heap.size (fun _ => True) (.slice (some ⟨go10, 0, none⟩) aB.length cQ) bQ := (by rw [hw, Ny118.out]; exact HP12.1); clear HP12; replace aG := am (hp_); replace HB := am ((by rw [hw]; exact below_set (below_set (below_set (below_set (below_set (below_set (below_set (below_set (below_set (below_set (below_set (HB.out) GB10.out) GB10.out) GB10.out) GB10.out) GB10.out) GB10.out) GB10.out) GB10.out) GB10.out) GB10.out) GB10.out : Below w.heap.size w dU)); clear bL; clear hg hw hp_))
        go_roundg k1
        case measure => have := HK1.out; omega
        case rel => exact ⟨(bQ), (wrap64 (aA + 1)), (by first | rfl | (simp; done) | (simp [*]; done)), H', ⟨by have := HK1.out; omega⟩, ⟨by refine KX ?_; exact aG.out⟩, ⟨KL HB⟩⟩
       ·rw [if_neg c9] at H
        exact absurd H (by simp)
      ·rw [if_neg c7] at H
       exact absurd H (by simp)
     ·rw [if_neg c6] at H
      have c6b0 : decide (aA < (l0.length : Int)) = false := decide_eq_false c6
      clear c6
      obtain rfl := sj H
      go_wp2
      go_ret
      exact ⟨_, ER, by refine KX ?_; exact aG.out, KL HB⟩
  ·rw [if_neg c3] at H
   exact absurd H (by simp)
 ·rw [if_neg c2] at H
  exact absurd H (by simp)
def impl_in.f (a0 : Int) (a1 : Int) (a2 : Int) : Option (Bool) := if a0 ≥ a1 then (some (decide (a0 ≤ a2))) else (some false)
theorem impl_in.calls (a0 : Int) (a1 : Int) (a2 : Int) (r : Bool) (w : World) (h : impl_in.f a0 a1 a2 = some r) :
  Calls Tryz.prog 61 #[.int .i64 a0, .int .i64 a1, .int .i64 a2] w fun e w' => e = .returned (.bool r) ∧ Drawn0 w w' := by
 have H : (if a0 ≥ a1 then (some (decide (a0 ≤ a2))) else (some false)) = some r := h
 clear h
 by_cases c4 : a0 ≥ a1
 ·rw [if_pos c4] at H
  have c4b0 : decide (a1 ≤ a0) = true := decide_eq_true c4
  clear c4
  obtain rfl := sj H
  go_enter Tryz.func61, Tryz.ntmps61
  go_wp2
  go_ret
  exact ⟨by first | rfl | (simp; done) | (simp [*]; done), by repeat (first | exact Drawn0.refl _ | apply Drawn0.step)⟩
 ·rw [if_neg c4] at H
  have c4b0 : decide (a1 ≤ a0) = false := decide_eq_false c4
  clear c4
  obtain rfl := sj H
  go_enter Tryz.func61, Tryz.ntmps61
  go_wp2
  go_ret
  exact ⟨by first | rfl | (simp; done) | (simp [*]; done), by repeat (first | exact Drawn0.refl _ | apply Drawn0.step)⟩
def impl_isAddr.f (a0 : Int) : Option (Bool) := (impl_in.f a0 0 4294967295).bind fun t101 => (some t101)
theorem impl_isAddr.calls (a0 : Int) (r : Bool) (w : World) (h : impl_isAddr.f a0 = some r) :
  Calls Tryz.prog 107 #[.int .i64 a0] w fun e w' => e = .returned (.bool r) ∧ Drawn0 w w' := by
 have H : ((impl_in.f a0 0 4294967295).bind fun aA => (some aA)) = some r := h
 clear h
 replace H := bm H
 obtain ⟨aA, aB, H⟩ := H
 replace H : (some aA) = some r := H
 have A2 := Aside0.mk aB
 clear aB
 obtain rfl := sj H
 go_enter Tryz.func107, Tryz.ntmps107
 go_wp2_with (first | ((with_reducible refine gate_callee (f := 61) rfl ?_); refine goesL_ (some 4) rfl rfl Tryz.func61 (by kernel_rfl) rfl #[.int .i64 a0, .int .i64 0, .int .i64 4294967295] rfl MT ?_; (with_reducible refine (impl_in.calls a0 0 4294967295 aA _ A2.out).mono ?_); rintro e w' ⟨rfl, ⟨nd, rfl⟩⟩; refine ⟨_, rfl, ?_⟩))
 go_ret
 exact ⟨by first | rfl | (simp; done) | (simp [*]; done), by repeat (first | exact Drawn0.refl _ | apply Drawn0.step)⟩
def impl_Block_size.f (a0_0 : Int) (a0_1 : Int) : Option (Int) := if 0 ≤ (wrap64 (32 - a0_1)) then (some (shl .i64 1 (wrap64 (32 - a0_1)))) else (none)
theorem impl_Block_size.calls (aB : Int) (aA : Int) (r : Int) (w : World) (h : impl_Block_size.f aB aA = some r) :
  Calls Tryz.prog 119 #[.agg #[.int .i64 aB, .int .i64 aA]] w fun e w' => e = .returned (.int .i64 r) ∧ Below w.heap.size w w' := by
 have aK := Tryz.underlying90
 have HB := am (Below.refl w.heap.size w)
 have H : (if 0 ≤ (wrap64 (32 - aA)) then (some (shl .i64 1 (wrap64 (32 - aA)))) else (none)) = some r := h
 clear h
 obtain ⟨ji2, hji2⟩ : ∃ j_ : Int, (wrap64 (32 - aA)) = j_ := ⟨_, rfl⟩
 replace H : (if 0 ≤ (ji2) then (some (shl .i64 1 (ji2))) else (none)) = some r := by first | (rw [hji2] at H; exact H) | (simp only [hji2] at H ⊢; exact H)
 have hji2w : (IntKind.i64.wrap (32 - aA)) = ji2 := (i64_w _).trans hji2
 by_cases c3 : 0 ≤ (ji2)
 ·rw [if_pos c3] at H
  have c3b0 := eq_true c3
  have c3b1 : decide (0 ≤ (ji2)) = true := decide_eq_true c3
  clear c3
  obtain ⟨ji4, hji4⟩ : ∃ j_ : Int, (shl .i64 1 (ji2)) = j_ := ⟨_, rfl⟩
  replace H : (some ji4) = some r := by first | (rw [hji4] at H; exact H) | (simp only [hji4] at H ⊢; exact H)
  have hji4_ : (IntKind.i64.wrap (1 * 2 ^ min (ji2).toNat 64)) = ji4 := hji4
  have hji4z : (ji2) ≤ 64 → (IntKind.i64.wrap (1 * 2 ^ (ji2).toNat)) = ji4 := shl_small hji4
  have hji4u : (IntKind.i64.wrap (2 ^ min (ji2).toNat 64)) = ji4 := by have h_ := hji4_; rw [Int.one_mul] at h_; exact h_
  have hji4v : (ji2) ≤ 64 → (IntKind.i64.wrap (2 ^ (ji2).toNat)) = ji4 := fun hle_ => by have h_ := hji4z hle_; rw [Int.one_mul] at h_; exact h_
  have hji4y : (wrap64 (1 * 2 ^ min (ji2).toNat 64)) = ji4 := (i64_w _).symm.trans hji4_
  have hji4x : (ji2) ≤ 64 → (wrap64 (1 * 2 ^ (ji2).toNat)) = ji4 := fun h_ => (i64_w _).symm.trans (hji4z h_)
  obtain rfl := sj H
  go_enter Tryz.func119, Tryz.ntmps119
  go_wp2_with (first | ((with_reducible refine gate_dst (N := 1) rfl ?_); refine box_event rfl (N := 1) rfl (cs := #[.int .i64 aB, .int .i64 aA]) (t := 90) BX ?_; intro aJ hg w5 aC hb; have aD := am (aC); have aE := am (GH HB hg); have aF := aE; replace HB := bl (KL HB) hb; clear hb aC hg; have ⟨_, _, _⟩ := y2 w5 aD.out))
  go_ret
  exact ⟨by first | rfl | (simp [errW_none, errW_some] <;> rfl) | (simp only [← hji2, ← hji4]; first | rfl | (simp [errW_none, errW_some] <;> rfl)) | (simp [*, errW_none, errW_some] <;> rfl), K1 HB aF.out⟩
 ·rw [if_neg c3] at H
  exact absurd H (by simp)
def impl_BlockOk.f (a0_0 : Int) (a0_1 : Int) : Option (Bool) := (impl_isAddr.f a0_0).bind fun t102 => (if t102 = true then ((impl_in.f a0_1 0 32).bind fun t103 => (if t103 = true then ((impl_Block_size.f a0_0 a0_1).bind fun t104 => (if t104 = 0 then (none) else (some ((Int.tmod a0_0 t104) == 0)))) else (some false))) else (some false))
def impl_BlockOk.T1 : Bool × List (List Nat × List Nat) := (true, [([], []), ([0], [0]), ([1], [1]), ([2, 2], [2]), ([3], [3]), ([4, 3], [3, 4]), ([5, 3, 3], [3, 5]), ([3, 6], [3, 6]), ([7, 6], [7]), ([8], [8]), ([9, 8], [8, 9]), ([8], [8]), ([11, 8, 8], [8, 11]), ([10, 12, 8], [8, 10, 12]), ([13, 8], [8, 13]), ([8, 14], [8, 14]), ([15, 12, 0, 1, 2, 3, 4, 5, 6, 7, 8, 9, 10, 11, 12, 13, 14, 15], [15])])
def impl_BlockOk.B1 : List Nat := [0, 1, 3, 7, 15, 31, 63, 127, 255, 511, 1023, 511, 2559, 8191, 16383, 32767, 65535]
theorem impl_BlockOk.tab1 : rtab .any (opsOf Tryz.f116 1) = impl_BlockOk.T1 := by kernel_rfl
theorem impl_BlockOk.bits1 : waitsOk impl_BlockOk.T1.2 impl_BlockOk.B1 = true := by kernel_rfl
theorem impl_BlockOk.calls (aD : Int) (aE : Int) (r : Bool) (w : World) (h : impl_BlockOk.f aD aE = some r) :
  Calls Tryz.prog 116 #[.agg #[.int .i64 aD, .int .i64 aE]] w fun e w' => e = .returned (.bool r) ∧ Below w.heap.size w w' := by
 have aQ := Tryz.underlying90
 have HB := am (Below.refl w.heap.size w)
 have H : ((impl_isAddr.f aD).bind fun aL => (if aL = true then ((impl_in.f aE 0 32).bind fun aK => (if aK = true then ((impl_Block_size.f aD aE).bind fun aF => (if aF = 0 then (none) else (some ((Int.tmod aD aF) == 0)))) else (some false))) else (some false))) = some r := h
 clear h
 replace H := bm H
 obtain ⟨aL, aN, H⟩ := H
 replace H : (if aL = true then ((impl_in.f aE 0 32).bind fun aK => (if aK = true then ((impl_Block_size.f aD aE).bind fun aF => (if aF = 0 then (none) else (some ((Int.tmod aD aF) == 0)))) else (some false))) else (some false)) = some r := H
 have A2 := Aside0.mk aN
 clear aN
 by_cases c3 : aL = true
 ·subst c3
  have H1 := pf H
  clear H
  have H := H1
  clear H1
  replace H := bm H
  obtain ⟨aK, aO, H⟩ := H
  replace H : (if aK = true then ((impl_Block_size.f aD aE).bind fun aF => (if aF = 0 then (none) else (some ((Int.tmod aD aF) == 0)))) else (some false)) = some r := H
  have A4 := Aside0.mk aO
  clear aO
  by_cases c5 : aK = true
  ·subst c5
   have H1 := pf H
   clear H
   have H := H1
   clear H1
   replace H := bm H
   obtain ⟨aF, aP, H⟩ := H
   replace H : (if aF = 0 then (none) else (some ((Int.tmod aD aF) == 0))) = some r := H
   have A6 := Aside0.mk aP
   clear aP
   by_cases c7 : aF = 0
   ·rw [if_pos c7] at H
    exact absurd H (by simp)
   ·rw [if_neg c7] at H
    have c7b0 : (aF == 0) = false := beq_eq_false_iff_ne.mpr c7
    have c7b1 : (aF != 0) = true := bne_iff_ne.mpr c7
    obtain rfl := sj H
    go_enter Tryz.func116, Tryz.ntmps116
    try go_wp2_with (first | ((with_reducible refine gate_dst (N := 1) rfl ?_); refine box_event rfl (N := 1) rfl (cs := #[.int .i64 aD, .int .i64 aE]) (t := 90) BX ?_; intro aH hg w8 aI hb; have aA := am (aI); have aJ := am (GH HB hg); have aG := aJ; replace HB := bl (KL HB) hb; clear hb aI hg))
    replace aA := am (blk_drew aA.out)
    replace HB := am (below_drew1 HB.out)
    refine start_ (n := 17) (S := fun w' => de2 w' aH (.int .i64 aD) (.int .i64 aE)) (ds := []) (tf 0 17) (by kernel_rfl) rfl rfl ⟨z0 _ aA.out, z1 _ aA.out⟩ (fun aB => ?_); refine with_tabW impl_BlockOk.tab1 impl_BlockOk.bits1 (fun aC aM => ?_)
    generalize w8.drew = w9 at aA HB aB ⊢
    refine pv aC 0 3 (tf 1 16) ?_
    refine tk 1 (some 4) (tf 2 15) (take_ofW aC.out aM.out (by kernel_rfl)) aB ?_
    refine one_ (i := 2) (N := some 5) (tf 3 14) rfl rfl (one_of aC.out (by kernel_rfl)) (by decide) (fun K hK => ?_)
    refine goes_ Tryz.func107 (by kernel_rfl) rfl #[.int .i64 aD] (by rfl) rfl rfl MT ?_
    with_reducible refine (impl_isAddr.calls aD true _ A2.out).mono ?_
    rintro e w' ⟨rfl, ⟨nd, rfl⟩⟩
    refine ⟨_, rfl, ?_⟩
    refine hK.out _ _ ⟨z0 _ aA.out, z1 _ aA.out⟩ (fun aB => ?_)
    clear hK K
    refine nm (some 5) ?_
    refine pv aC 3 6 (tf 4 13) ?_
    refine pv aC 4 7 (tf 5 12) ?_
    refine tk 5 (some 8) (tf 6 11) (take_ofW aC.out aM.out (by kernel_rfl)) aB ?_
    refine one_ (i := 6) (N := some 9) (tf 7 10) rfl rfl (one_of aC.out (by kernel_rfl)) (by decide) (fun K hK => ?_)
    refine goes_ Tryz.func61 (by kernel_rfl) rfl #[.int .i64 aE, .int .i64 0, .int .i64 32] (by rfl) rfl rfl MT ?_
    with_reducible refine (impl_in.calls aE 0 32 true _ A4.out).mono ?_
    rintro e w' ⟨rfl, ⟨nd, rfl⟩⟩
    refine ⟨_, rfl, ?_⟩
    refine hK.out _ _ ⟨z0 _ aA.out, z1 _ aA.out⟩ (fun aB => ?_)
    clear hK K
    refine nm (some 9) ?_
    refine pv aC 7 10 (tf 8 9) ?_
    refine pv aC 8 11 (tf 9 8) ?_
    refine pv aC 9 12 (tf 10 7) ?_
    refine tk 10 (some 13) (tf 11 6) (take_ofW aC.out aM.out (by kernel_rfl)) aB ?_
    refine tk 11 (some 14) (tf 12 5) (take_ofW aC.out aM.out (by kernel_rfl)) aB ?_
    refine one_ (i := 12) (N := some 15) (tf 13 4) rfl rfl (one_of aC.out (by kernel_rfl)) (by decide) (fun K hK => ?_)
    refine goes_ Tryz.func119 (by kernel_rfl) rfl #[.agg #[.int .i64 aD, .int .i64 aE]] (by rfl) rfl rfl MT ?_
    with_reducible refine (impl_Block_size.calls aD aE aF _ A6.out).mono ?_
    rintro e aT ⟨rfl, hb⟩
    refine ⟨_, rfl, ?_⟩
    replace aA := am (BB aA hb)
    replace HB := bl (K1 HB aG.out) hb
    (try clear hb)
    (try clear hb2)
    (try clear hk)
    (try clear hi)
    refine hK.out _ _ ⟨z0 _ aA.out, z1 _ aA.out⟩ (fun aB => ?_)
    clear hK K
    refine nm (some 15) ?_
    refine pv aC 13 16 (tf 14 3) ?_
    refine pv aC 14 17 (tf 15 2) ?_
    refine pv aC 15 18 (tf 16 1) ?_
    refine pv aC 16 2 (tf 17 0) ?_
    refine done_ (done_of aC.out (by kernel_rfl)) ?_
    try go_wp2
    go_ret
    exact ⟨ER, K1 HB aG.out⟩
  ·replace c5 := Bool.eq_false_iff.mpr c5
   subst c5
   have H1 := nf H
   clear H
   have H := H1
   clear H1
   obtain rfl := sj H
   go_enter Tryz.func116, Tryz.ntmps116
   try go_wp2_with (first | ((with_reducible refine gate_dst (N := 1) rfl ?_); refine box_event rfl (N := 1) rfl (cs := #[.int .i64 aD, .int .i64 aE]) (t := 90) BX ?_; intro aH hg aR aI hb; have aA := am (aI); have aJ := am (GH HB hg); have aG := aJ; replace HB := bl (KL HB) hb; clear hb aI hg))
   replace aA := am (blk_drew aA.out)
   replace HB := am (below_drew1 HB.out)
   refine start_ (n := 17) (S := fun w' => de2 w' aH (.int .i64 aD) (.int .i64 aE)) (ds := []) (tf 0 17) (by kernel_rfl) rfl rfl ⟨z0 _ aA.out, z1 _ aA.out⟩ (fun aB => ?_); refine with_tabW impl_BlockOk.tab1 impl_BlockOk.bits1 (fun aC aM => ?_)
   generalize aR.drew = aU at aA HB aB ⊢
   refine pv aC 0 3 (tf 1 16) ?_
   refine tk 1 (some 4) (tf 2 15) (take_ofW aC.out aM.out (by kernel_rfl)) aB ?_
   refine one_ (i := 2) (N := some 5) (tf 3 14) rfl rfl (one_of aC.out (by kernel_rfl)) (by decide) (fun K hK => ?_)
   refine goes_ Tryz.func107 (by kernel_rfl) rfl #[.int .i64 aD] (by rfl) rfl rfl MT ?_
   with_reducible refine (impl_isAddr.calls aD true _ A2.out).mono ?_
   rintro e w' ⟨rfl, ⟨nd, rfl⟩⟩
   refine ⟨_, rfl, ?_⟩
   refine hK.out _ _ ⟨z0 _ aA.out, z1 _ aA.out⟩ (fun aB => ?_)
   clear hK K
   refine nm (some 5) ?_
   refine pv aC 3 6 (tf 4 13) ?_
   refine pv aC 4 7 (tf 5 12) ?_
   refine tk 5 (some 8) (tf 6 11) (take_ofW aC.out aM.out (by kernel_rfl)) aB ?_
   refine one_ (i := 6) (N := some 9) (tf 7 10) rfl rfl (one_of aC.out (by kernel_rfl)) (by decide) (fun K hK => ?_)
   refine goes_ Tryz.func61 (by kernel_rfl) rfl #[.int .i64 aE, .int .i64 0, .int .i64 32] (by rfl) rfl rfl MT ?_
   with_reducible refine (impl_in.calls aE 0 32 false _ A4.out).mono ?_
   rintro e w' ⟨rfl, ⟨nd, rfl⟩⟩
   refine ⟨_, rfl, ?_⟩
   refine hK.out _ _ ⟨z0 _ aA.out, z1 _ aA.out⟩ (fun aB => ?_)
   clear hK K
   refine nm (some 9) ?_
   refine pv aC 7 10 (tf 8 9) ?_
   refine pv aC 8 11 (tf 9 8) ?_
   refine pw aC 9 12 (tf 10 7) ?_
   refine pw aC 10 13 (tf 11 6) ?_
   refine pw aC 11 14 (tf 12 5) ?_
   refine pw aC 12 15 (tf 13 4) ?_
   refine pw aC 13 16 (tf 14 3) ?_
   refine pw aC 14 17 (tf 15 2) ?_
   refine pv aC 15 18 (tf 16 1) ?_
   refine pv aC 16 2 (tf 17 0) ?_
   refine done_ (done_of aC.out (by kernel_rfl)) ?_
   try go_wp2
   go_ret
   exact ⟨ER, K1 HB aG.out⟩
 ·replace c3 := Bool.eq_false_iff.mpr c3
  subst c3
  have H1 := nf H
  clear H
  have H := H1
  clear H1
  obtain rfl := sj H
  go_enter Tryz.func116, Tryz.ntmps116
  try go_wp2_with (first | ((with_reducible refine gate_dst (N := 1) rfl ?_); refine box_event rfl (N := 1) rfl (cs := #[.int .i64 aD, .int .i64 aE]) (t := 90) BX ?_; intro aH hg aS aI hb; have aA := am (aI); have aJ := am (GH HB hg); have aG := aJ; replace HB := bl (KL HB) hb; clear hb aI hg))
  replace aA := am (blk_drew aA.out)
  replace HB := am (below_drew1 HB.out)
  refine start_ (n := 17) (S := fun w' => de2 w' aH (.int .i64 aD) (.int .i64 aE)) (ds := []) (tf 0 17) (by kernel_rfl) rfl rfl ⟨z0 _ aA.out, z1 _ aA.out⟩ (fun aB => ?_); refine with_tabW impl_BlockOk.tab1 impl_BlockOk.bits1 (fun aC aM => ?_)
  generalize aS.drew = aV at aA HB aB ⊢
  refine pv aC 0 3 (tf 1 16) ?_
  refine tk 1 (some 4) (tf 2 15) (take_ofW aC.out aM.out (by kernel_rfl)) aB ?_
  refine one_ (i := 2) (N := some 5) (tf 3 14) rfl rfl (one_of aC.out (by kernel_rfl)) (by decide) (fun K hK => ?_)
  refine goes_ Tryz.func107 (by kernel_rfl) rfl #[.int .i64 aD] (by rfl) rfl rfl MT ?_
  with_reducible refine (impl_isAddr.calls aD false _ A2.out).mono ?_
  rintro e w' ⟨rfl, ⟨nd, rfl⟩⟩
  refine ⟨_, rfl, ?_⟩
  refine hK.out _ _ ⟨z0 _ aA.out, z1 _ aA.out⟩ (fun aB => ?_)
  clear hK K
  refine nm (some 5) ?_
  refine pv aC 3 6 (tf 4 13) ?_
  refine pw aC 4 7 (tf 5 12) ?_
  refine pw aC 5 8 (tf 6 11) ?_
  refine pw aC 6 9 (tf 7 10) ?_
  refine pv aC 7 10 (tf 8 9) ?_
  refine pv aC 8 11 (tf 9 8) ?_
  refine pw aC 9 12 (tf 10 7) ?_
  refine pw aC 10 13 (tf 11 6) ?_
  refine pw aC 11 14 (tf 12 5) ?_
  refine pw aC 12 15 (tf 13 4) ?_
  refine pw aC 13 16 (tf 14 3) ?_
  refine pw aC 14 17 (tf 15 2) ?_
  refine pv aC 15 18 (tf 16 1) ?_
  refine pv aC 16 2 (tf 17 0) ?_
  refine done_ (done_of aC.out (by kernel_rfl)) ?_
  try go_wp2
  go_ret
  exact ⟨ER, K1 HB aG.out⟩
def impl_Rule_right.j0 : Nat → Bool → Int → Int → Int → Int → Int → Int → Int → Int → Option (Bool)
 | 0, _, _, _, _, _, _, _, _, _ => none
 | k + 1, x3, x102000, x102001, x102002, x102003, x102004, x102005, x102006, x102007 => (impl_BlockOk.f x102002 x102003).bind fun t103 => (if t103 = true then ((impl_BlockOk.f x102004 x102005).bind fun t104 => (if t104 = true then ((impl_in.f x102006 0 x102007).bind fun t105 => (if t105 = true then (if x102007 ≤ 65535 then ((impl_in.f x102000 0 2).bind fun t106 => (if t106 = true then (some x3) else (some false))) else (some false)) else (some false))) else (some false))) else (some false))
def impl_Rule_right.f (k : Nat) (a0_0 : Int) (a0_1 : Int) (a0_2 : Int) (a0_3 : Int) (a0_4 : Int) (a0_5 : Int) (a0_6 : Int) (a0_7 : Int) : Option (Bool) := if a0_1 = 0 then (impl_Rule_right.j0 k true a0_0 a0_1 a0_2 a0_3 a0_4 a0_5 a0_6 a0_7) else (if a0_0 = 2 then ((impl_in.f a0_1 0 3).bind fun t102 => (impl_Rule_right.j0 k t102 a0_0 a0_1 a0_2 a0_3 a0_4 a0_5 a0_6 a0_7)) else (impl_Rule_right.j0 k false a0_0 a0_1 a0_2 a0_3 a0_4 a0_5 a0_6 a0_7))
theorem impl_Rule_right.calls (k : Nat) (aF : Int) (aG : Int) (aC : Int) (aD : Int) (aH : Int) (aI : Int) (aJ : Int) (aE : Int) (r : Bool) (w : World) (h : impl_Rule_right.f k aF aG aC aD aH aI aJ aE = some r) :
  Calls Tryz.prog 106 #[.agg #[.int .i64 aF, .int .i64 aG, .int .i64 aC, .int .i64 aD, .int .i64 aH, .int .i64 aI, .int .i64 aJ, .int .i64 aE]] w fun e w' => e = .returned (.bool r) ∧ Below w.heap.size w w' := by
 have hO := Tryz.underlying92
 have hP := Tryz.underlying90
 have HB := am (Below.refl w.heap.size w)
 have H : (if aG = 0 then (impl_Rule_right.j0 k true aF aG aC aD aH aI aJ aE) else (if aF = 2 then ((impl_in.f aG 0 3).bind fun aN => (impl_Rule_right.j0 k aN aF aG aC aD aH aI aJ aE)) else (impl_Rule_right.j0 k false aF aG aC aD aH aI aJ aE))) = some r := h
 clear h
 have hL := Aside0.mk H
 clear H
 go_enter Tryz.func106, Tryz.ntmps106
 go_upto_region 1 with (first | ((with_reducible refine gate_dst (N := 1) rfl ?_); refine box_event rfl (N := 1) rfl (cs := #[.int .i64 aF, .int .i64 aG, .int .i64 aC, .int .i64 aD, .int .i64 aH, .int .i64 aI, .int .i64 aJ, .int .i64 aE]) (t := 92) BX ?_; intro bS hg w3 bT hb; have aA := am (bT); have bU := am (GH HB hg); have aB := bU; replace HB := bl (KL HB) hb; clear hb bT hg))
 (try simp only [Act.put, List.setIfInBounds_toArray, List.set_cons_zero, List.set_cons_succ])
 go_cut [3] (fun v3 wc => ∃ (kq : Nat) (aL : Bool), v3 = .bool aL ∧ Aside0 (impl_Rule_right.j0 kq aL aF aG aC aD aH aI aJ aE = some r) ∧ Aside0 (kq ≤ k) ∧ Aside0 (wc.heap[bS]? = some (.cells #[.int .i64 aF, .int .i64 aG, .int .i64 aC, .int .i64 aD, .int .i64 aH, .int .i64 aI, .int .i64 aJ, .int .i64 aE] 92 (0, 0))) ∧ Aside0 (Below w.heap.size w wc))
 case first =>
  have H := hL.out
  clear hL
  by_cases c4 : aG = 0
  ·rw [if_pos c4] at H
   have c4b0 : (aG == 0) = true := beq_iff_eq.mpr c4
   have c4b1 : (aG != 0) = false := bne_eq_false_iff_eq.mpr c4
   clear c4
   (first | rw [c4b0] | (simp only [i64_w, i32_w]; rw [c4b0]) | skip)
   have H' := Aside0.mk H
   clear H
   obtain ⟨aP, aQ, aR, aS, aT, aU, aV, aW, aX⟩ := y8 w3 aA.out
   go_wp2
   go_meet
   case rel => exact ⟨_, (true), (by first | rfl | (simp; done) | (simp [*]; done)), H', ⟨by first | omega | exact Nat.le_refl _⟩, ⟨KB aA⟩, ⟨K1 HB aB.out⟩⟩
  ·rw [if_neg c4] at H
   have c4b0 : (aG == 0) = false := beq_eq_false_iff_ne.mpr c4
   have c4b1 : (aG != 0) = true := bne_iff_ne.mpr c4
   (first | rw [c4b0] | (simp only [i64_w, i32_w]; rw [c4b0]) | skip)
   by_cases c6 : aF = 2
   ·rw [if_pos c6] at H
    have c6b0 : (aF == 2) = true := beq_iff_eq.mpr c6
    have c6b1 : (aF != 2) = false := bne_eq_false_iff_eq.mpr c6
    clear c6
    replace H := bm H
    obtain ⟨aN, hM, H⟩ := H
    replace H : (impl_Rule_right.j0 k aN aF aG aC aD aH aI aJ aE) = some r := H
    have A7 := Aside0.mk hM
    clear hM
    have H' := Aside0.mk H
    clear H
    obtain ⟨aY, aZ, bA, bB, bC, bD, bE, bF, bG⟩ := y8 w3 aA.out
    go_wp2_with (first | (go_at_call 61; (with_reducible refine (impl_in.calls aG 0 3 aN _ A7.out).mono ?_); rintro e w' ⟨rfl, ⟨nd, rfl⟩⟩))
    go_meet
    case rel => exact ⟨_, (aN), (by first | rfl | (simp; done) | (simp [*]; done)), H', ⟨by first | omega | exact Nat.le_refl _⟩, ⟨KB aA⟩, ⟨K1 HB aB.out⟩⟩
   ·rw [if_neg c6] at H
    have c6b0 : (aF == 2) = false := beq_eq_false_iff_ne.mpr c6
    have c6b1 : (aF != 2) = true := bne_iff_ne.mpr c6
    have H' := Aside0.mk H
    clear H
    obtain ⟨bH, bI, bJ, bK, bL, bM, bN, bO, bP⟩ := y8 w3 aA.out
    go_wp2
    go_meet
    case rel => exact ⟨_, (false), (by first | rfl | (simp; done) | (simp [*]; done)), H', ⟨by first | omega | exact Nat.le_refl _⟩, ⟨KB aA⟩, ⟨K1 HB aB.out⟩⟩
 case rest =>
  clear hL
  try clear c1
  try clear p2
  try clear c4
  try clear c4b0
  try clear c4b1
  try clear c6
  try clear c6b0
  try clear c6b1
  try clear aP aQ aR aS aT aU aV aW aX
  try clear aY aZ bA bB bC bD bE bF bG
  try clear bH bI bJ bK bL bM bN bO bP
  obtain ⟨kq, aL, rfl, HA, HJ1, aA, HB⟩ := hcut
  cases kq with
  | zero => exact absurd HA.out (by simp [impl_Rule_right.j0])
  | succ kj1 =>
   have H := HA.out
   clear HA
   simp only [impl_Rule_right.j0] at H
   replace H := bm H
   obtain ⟨bV, bW, H⟩ := H
   replace H : (if bV = true then ((impl_BlockOk.f aH aI).bind fun aO => (if aO = true then ((impl_in.f aJ 0 aE).bind fun aM => (if aM = true then (if aE ≤ 65535 then ((impl_in.f aF 0 2).bind fun aK => (if aK = true then (some aL) else (some false))) else (some false)) else (some false))) else (some false))) else (some false)) = some r := H
   have bQ := Aside0.mk bW
   clear bW
   by_cases cB : bV = true
   ·subst cB
    have H1 := pf H
    clear H
    have H := H1
    clear H1
    replace H := bm H
    obtain ⟨aO, bX, H⟩ := H
    replace H : (if aO = true then ((impl_in.f aJ 0 aE).bind fun aM => (if aM = true then (if aE ≤ 65535 then ((impl_in.f aF 0 2).bind fun aK => (if aK = true then (some aL) else (some false))) else (some false)) else (some false))) else (some false)) = some r := H
    have bY := Aside0.mk bX
    clear bX
    by_cases cC : aO = true
    ·subst cC
     have H1 := pf H
     clear H
     have H := H1
     clear H1
     replace H := bm H
     obtain ⟨aM, bZ, H⟩ := H
     replace H : (if aM = true then (if aE ≤ 65535 then ((impl_in.f aF 0 2).bind fun aK => (if aK = true then (some aL) else (some false))) else (some false)) else (some false)) = some r := H
     have cD := Aside0.mk bZ
     clear bZ
     by_cases cE : aM = true
     ·subst cE
      have H1 := pf H
      clear H
      have H := H1
      clear H1
      by_cases bR : aE ≤ 65535
      ·rw [if_pos bR] at H
       have c16b0 : decide (aE ≤ 65535) = true := decide_eq_true bR
       clear bR
       replace H := bm H
       obtain ⟨aK, cA, H⟩ := H
       replace H : (if aK = true then (some aL) else (some false)) = some r := H
       have hN := Aside0.mk cA
       clear cA
       by_cases cF : aK = true
       ·subst cF
        have H1 := pf H
        clear H
        have H := H1
        clear H1
        obtain rfl := sj H
        have ⟨_, _, _, _, _, _, _, _, _⟩ := y8 wc aA.out
        go_wp2_with (first | ((with_reducible refine gate_callee (f := 116) rfl ?_); refine goesL_ (some 19) rfl rfl Tryz.func116 (by kernel_rfl) rfl #[.agg #[.int .i64 aC, .int .i64 aD]] rfl MT ?_; (with_reducible refine (impl_BlockOk.calls aC aD true _ bQ.out).mono ?_); rintro e hQ ⟨rfl, hb⟩; refine ⟨_, rfl, ?_⟩; replace aA := am (BB aA hb); replace HB := bl (K1 HB aB.out) hb; (try clear hb); have ⟨_, _, _, _, _, _, _, _, _⟩ := y8 hQ aA.out) | (go_at_call 116; (with_reducible refine (impl_BlockOk.calls aH aI true _ bY.out).mono ?_); rintro e hR ⟨rfl, hb⟩; replace aA := am (BB aA hb); replace HB := bl (K1 HB aB.out) hb; (try clear hb); have ⟨_, _, _, _, _, _, _, _, _⟩ := y8 hR aA.out) | (go_at_call 61; (with_reducible refine (impl_in.calls aJ 0 aE true _ cD.out).mono ?_); rintro e w' ⟨rfl, ⟨nd, rfl⟩⟩) | (go_at_call 61; (with_reducible refine (impl_in.calls aF 0 2 true _ hN.out).mono ?_); rintro e w' ⟨rfl, ⟨nd, rfl⟩⟩))
        go_ret
        exact ⟨ER, K1 HB aB.out⟩
       ·replace cF := Bool.eq_false_iff.mpr cF
        subst cF
        have H1 := nf H
        clear H
        have H := H1
        clear H1
        obtain rfl := sj H
        have ⟨_, _, _, _, _, _, _, _, _⟩ := y8 wc aA.out
        go_wp2_with (first | ((with_reducible refine gate_callee (f := 116) rfl ?_); refine goesL_ (some 19) rfl rfl Tryz.func116 (by kernel_rfl) rfl #[.agg #[.int .i64 aC, .int .i64 aD]] rfl MT ?_; (with_reducible refine (impl_BlockOk.calls aC aD true _ bQ.out).mono ?_); rintro e hS ⟨rfl, hb⟩; refine ⟨_, rfl, ?_⟩; replace aA := am (BB aA hb); replace HB := bl (K1 HB aB.out) hb; (try clear hb); have ⟨_, _, _, _, _, _, _, _, _⟩ := y8 hS aA.out) | (go_at_call 116; (with_reducible refine (impl_BlockOk.calls aH aI true _ bY.out).mono ?_); rintro e hT ⟨rfl, hb⟩; replace aA := am (BB aA hb); replace HB := bl (K1 HB aB.out) hb; (try clear hb); have ⟨_, _, _, _, _, _, _, _, _⟩ := y8 hT aA.out) | (go_at_call 61; (with_reducible refine (impl_in.calls aJ 0 aE true _ cD.out).mono ?_); rintro e w' ⟨rfl, ⟨nd, rfl⟩⟩) | (go_at_call 61; (with_reducible refine (impl_in.calls aF 0 2 false _ hN.out).mono ?_); rintro e w' ⟨rfl, ⟨nd, rfl⟩⟩))
        go_ret
        exact ⟨ER, K1 HB aB.out⟩
      ·rw [if_neg bR] at H
       have c16b0 : decide (aE ≤ 65535) = false := decide_eq_false bR
       clear bR
       obtain rfl := sj H
       have ⟨_, _, _, _, _, _, _, _, _⟩ := y8 wc aA.out
       go_wp2_with (first | ((with_reducible refine gate_callee (f := 116) rfl ?_); refine goesL_ (some 19) rfl rfl Tryz.func116 (by kernel_rfl) rfl #[.agg #[.int .i64 aC, .int .i64 aD]] rfl MT ?_; (with_reducible refine (impl_BlockOk.calls aC aD true _ bQ.out).mono ?_); rintro e hU ⟨rfl, hb⟩; refine ⟨_, rfl, ?_⟩; replace aA := am (BB aA hb); replace HB := bl (K1 HB aB.out) hb; (try clear hb); have ⟨_, _, _, _, _, _, _, _, _⟩ := y8 hU aA.out) | (go_at_call 116; (with_reducible refine (impl_BlockOk.calls aH aI true _ bY.out).mono ?_); rintro e hV ⟨rfl, hb⟩; replace aA := am (BB aA hb); replace HB := bl (K1 HB aB.out) hb; (try clear hb); have ⟨_, _, _, _, _, _, _, _, _⟩ := y8 hV aA.out) | (go_at_call 61; (with_reducible refine (impl_in.calls aJ 0 aE true _ cD.out).mono ?_); rintro e w' ⟨rfl, ⟨nd, rfl⟩⟩))
       go_ret
       exact ⟨ER, K1 HB aB.out⟩
     ·replace cE := Bool.eq_false_iff.mpr cE
      subst cE
      have H1 := nf H
      clear H
      have H := H1
      clear H1
      obtain rfl := sj H
      have ⟨_, _, _, _, _, _, _, _, _⟩ := y8 wc aA.out
      go_wp2_with (first | ((with_reducible refine gate_callee (f := 116) rfl ?_); refine goesL_ (some 19) rfl rfl Tryz.func116 (by kernel_rfl) rfl #[.agg #[.int .i64 aC, .int .i64 aD]] rfl MT ?_; (with_reducible refine (impl_BlockOk.calls aC aD true _ bQ.out).mono ?_); rintro e hW ⟨rfl, hb⟩; refine ⟨_, rfl, ?_⟩; replace aA := am (BB aA hb); replace HB := bl (K1 HB aB.out) hb; (try clear hb); have ⟨_, _, _, _, _, _, _, _, _⟩ := y8 hW aA.out) | (go_at_call 116; (with_reducible refine (impl_BlockOk.calls aH aI true _ bY.out).mono ?_); rintro e hX ⟨rfl, hb⟩; replace aA := am (BB aA hb); replace HB := bl (K1 HB aB.out) hb; (try clear hb); have ⟨_, _, _, _, _, _, _, _, _⟩ := y8 hX aA.out) | (go_at_call 61; (with_reducible refine (impl_in.calls aJ 0 aE false _ cD.out).mono ?_); rintro e w' ⟨rfl, ⟨nd, rfl⟩⟩))
      go_ret
      exact ⟨ER, K1 HB aB.out⟩
    ·replace cC := Bool.eq_false_iff.mpr cC
     subst cC
     have H1 := nf H
     clear H
     have H := H1
     clear H1
     obtain rfl := sj H
     have ⟨_, _, _, _, _, _, _, _, _⟩ := y8 wc aA.out
     go_wp2_with (first | ((with_reducible refine gate_callee (f := 116) rfl ?_); refine goesL_ (some 19) rfl rfl Tryz.func116 (by kernel_rfl) rfl #[.agg #[.int .i64 aC, .int .i64 aD]] rfl MT ?_; (with_reducible refine (impl_BlockOk.calls aC aD true _ bQ.out).mono ?_); rintro e hY ⟨rfl, hb⟩; refine ⟨_, rfl, ?_⟩; replace aA := am (BB aA hb); replace HB := bl (K1 HB aB.out) hb; (try clear hb); have ⟨_, _, _, _, _, _, _, _, _⟩ := y8 hY aA.out) | (go_at_call 116; (with_reducible refine (impl_BlockOk.calls aH aI false _ bY.out).mono ?_); rintro e hZ ⟨rfl, hb⟩; replace aA := am (BB aA hb); replace HB := bl (K1 HB aB.out) hb; (try clear hb)))
     go_ret
     exact ⟨ER, K1 HB aB.out⟩
   ·replace cB := Bool.eq_false_iff.mpr cB
    subst cB
    have H1 := nf H
    clear H
    have H := H1
    clear H1
    obtain rfl := sj H
    have ⟨_, _, _, _, _, _, _, _, _⟩ := y8 wc aA.out
    go_wp2_with (first | ((with_reducible refine gate_callee (f := 116) rfl ?_); refine goesL_ (some 19) rfl rfl Tryz.func116 (by kernel_rfl) rfl #[.agg #[.int .i64 aC, .int .i64 aD]] rfl MT ?_; (with_reducible refine (impl_BlockOk.calls aC aD false _ bQ.out).mono ?_); rintro e iA ⟨rfl, hb⟩; refine ⟨_, rfl, ?_⟩; replace aA := am (BB aA hb); replace HB := bl (K1 HB aB.out) hb; (try clear hb)))
    go_ret
    exact ⟨ER, K1 HB aB.out⟩
def impl_isCall.f (a0_0 : Int) (a0_1 : Int) (a0_2 : Int) : Option (Bool) := (impl_isAddr.f a0_0).bind fun t102 => (if t102 = true then ((impl_isAddr.f a0_1).bind fun t103 => (if t103 = true then ((impl_in.f a0_2 0 65535).bind fun t104 => (some t104)) else (some false))) else (some false))
theorem impl_isCall.calls (aA : Int) (aB : Int) (aC : Int) (r : Bool) (w : World) (h : impl_isCall.f aA aB aC = some r) :
  Calls Tryz.prog 91 #[.agg #[.int .i64 aA, .int .i64 aB, .int .i64 aC]] w fun e w' => e = .returned (.bool r) ∧ Below w.heap.size w w' := by
 have aX := Tryz.underlying103
 have HB := am (Below.refl w.heap.size w)
 have H : ((impl_isAddr.f aA).bind fun aJ => (if aJ = true then ((impl_isAddr.f aB).bind fun aI => (if aI = true then ((impl_in.f aC 0 65535).bind fun aD => (some aD)) else (some false))) else (some false))) = some r := h
 clear h
 replace H := bm H
 obtain ⟨aJ, aY, H⟩ := H
 replace H : (if aJ = true then ((impl_isAddr.f aB).bind fun aI => (if aI = true then ((impl_in.f aC 0 65535).bind fun aD => (some aD)) else (some false))) else (some false)) = some r := H
 have A2 := Aside0.mk aY
 clear aY
 by_cases c3 : aJ = true
 ·subst c3
  have H1 := pf H
  clear H
  have H := H1
  clear H1
  replace H := bm H
  obtain ⟨aI, aZ, H⟩ := H
  replace H : (if aI = true then ((impl_in.f aC 0 65535).bind fun aD => (some aD)) else (some false)) = some r := H
  have A4 := Aside0.mk aZ
  clear aZ
  by_cases c5 : aI = true
  ·subst c5
   have H1 := pf H
   clear H
   have H := H1
   clear H1
   replace H := bm H
   obtain ⟨aD, bA, H⟩ := H
   replace H : (some aD) = some r := H
   have A6 := Aside0.mk bA
   clear bA
   obtain rfl := sj H
   go_enter Tryz.func91, Tryz.ntmps91
   go_wp2_with (first | ((with_reducible refine gate_dst (N := 1) rfl ?_); refine box_event rfl (N := 1) rfl (cs := #[.int .i64 aA, .int .i64 aB, .int .i64 aC]) (t := 103) BX ?_; intro aK hg w7 aE hb; have aF := am (aE); have aG := am (GH HB hg); have aH := aG; replace HB := bl (KL HB) hb; clear hb aE hg; have ⟨_, _, _, _⟩ := y3 w7 aF.out) | ((with_reducible refine gate_callee (f := 107) rfl ?_); refine goesL_ (some 5) rfl rfl Tryz.func107 (by kernel_rfl) rfl #[.int .i64 aA] rfl MT ?_; (with_reducible refine (impl_isAddr.calls aA true _ A2.out).mono ?_); rintro e w' ⟨rfl, ⟨nd, rfl⟩⟩; refine ⟨_, rfl, ?_⟩) | (go_at_call 107; (with_reducible refine (impl_isAddr.calls aB true _ A4.out).mono ?_); rintro e w' ⟨rfl, ⟨nd, rfl⟩⟩) | (go_at_call 61; (with_reducible refine (impl_in.calls aC 0 65535 aD _ A6.out).mono ?_); rintro e w' ⟨rfl, ⟨nd, rfl⟩⟩))
   go_ret
   exact ⟨ER, K1 HB aH.out⟩
  ·replace c5 := Bool.eq_false_iff.mpr c5
   subst c5
   have H1 := nf H
   clear H
   have H := H1
   clear H1
   obtain rfl := sj H
   go_enter Tryz.func91, Tryz.ntmps91
   go_wp2_with (first | ((with_reducible refine gate_dst (N := 1) rfl ?_); refine box_event rfl (N := 1) rfl (cs := #[.int .i64 aA, .int .i64 aB, .int .i64 aC]) (t := 103) BX ?_; intro aK hg w9 aE hb; have aF := am (aE); have aG := am (GH HB hg); have aH := aG; replace HB := bl (KL HB) hb; clear hb aE hg; have ⟨_, _, _, _⟩ := y3 w9 aF.out) | ((with_reducible refine gate_callee (f := 107) rfl ?_); refine goesL_ (some 5) rfl rfl Tryz.func107 (by kernel_rfl) rfl #[.int .i64 aA] rfl MT ?_; (with_reducible refine (impl_isAddr.calls aA true _ A2.out).mono ?_); rintro e w' ⟨rfl, ⟨nd, rfl⟩⟩; refine ⟨_, rfl, ?_⟩) | (go_at_call 107; (with_reducible refine (impl_isAddr.calls aB false _ A4.out).mono ?_); rintro e w' ⟨rfl, ⟨nd, rfl⟩⟩))
   go_ret
   exact ⟨ER, K1 HB aH.out⟩
 ·replace c3 := Bool.eq_false_iff.mpr c3
  subst c3
  have H1 := nf H
  clear H
  have H := H1
  clear H1
  obtain rfl := sj H
  go_enter Tryz.func91, Tryz.ntmps91
  go_wp2_with (first | ((with_reducible refine gate_dst (N := 1) rfl ?_); refine box_event rfl (N := 1) rfl (cs := #[.int .i64 aA, .int .i64 aB, .int .i64 aC]) (t := 103) BX ?_; intro aK hg bB aE hb; have aF := am (aE); have aG := am (GH HB hg); have aH := aG; replace HB := bl (KL HB) hb; clear hb aE hg; have ⟨_, _, _, _⟩ := y3 bB aF.out) | ((with_reducible refine gate_callee (f := 107) rfl ?_); refine goesL_ (some 5) rfl rfl Tryz.func107 (by kernel_rfl) rfl #[.int .i64 aA] rfl MT ?_; (with_reducible refine (impl_isAddr.calls aA false _ A2.out).mono ?_); rintro e w' ⟨rfl, ⟨nd, rfl⟩⟩; refine ⟨_, rfl, ?_⟩))
  go_ret
  exact ⟨ER, K1 HB aH.out⟩
def impl_Block_last.f (a0_0 : Int) (a0_1 : Int) : Option (Int) := (impl_Block_size.f a0_0 a0_1).bind fun t102 => (some (wrap64 ((wrap64 (a0_0 + t102)) - 1)))
theorem impl_Block_last.calls (aB : Int) (aC : Int) (r : Int) (w : World) (h : impl_Block_last.f aB aC = some r) :
  Calls Tryz.prog 120 #[.agg #[.int .i64 aB, .int .i64 aC]] w fun e w' => e = .returned (.int .i64 r) ∧ Below w.heap.size w w' := by
 have aK := Tryz.underlying90
 have HB := am (Below.refl w.heap.size w)
 have H : ((impl_Block_size.f aB aC).bind fun aE => (some (wrap64 ((wrap64 (aB + aE)) - 1)))) = some r := h
 clear h
 replace H := bm H
 obtain ⟨aE, aJ, H⟩ := H
 replace H : (some (wrap64 ((wrap64 (aB + aE)) - 1))) = some r := H
 have A2 := Aside0.mk aJ
 clear aJ
 obtain rfl := sj H
 go_enter Tryz.func120, Tryz.ntmps120
 try go_wp2_with (first | ((with_reducible refine gate_dst (N := 1) rfl ?_); refine box_event rfl (N := 1) rfl (cs := #[.int .i64 aB, .int .i64 aC]) (t := 90) BX ?_; intro aG hg w3 aH hb; have aA := am (aH); have aI := am (GH HB hg); have aF := aI; replace HB := bl (KL HB) hb; clear hb aH hg))
 replace aA := am (blk_drew aA.out)
 replace HB := am (below_drew1 HB.out)
 refine start_ (n := 7) (S := fun w' => de2 w' aG (.int .i64 aB) (.int .i64 aC)) (ds := []) (tf 0 7) (by kernel_rfl) rfl rfl ⟨z0 _ aA.out, z1 _ aA.out⟩ (fun aD => ?_)
 generalize w3.drew = w4 at aA HB aD ⊢
 refine pure_ (i := 0) (N := some 3) (v := ?_) (a' := ?_) (tf 1 6) rfl rfl (by kernel_rfl) (fun _ _ _ h => h) (Or.inl ⟨by rfl, ?_⟩) ?_ ?_; rotate_left; (· intro w'; go_simp; with_reducible rfl); rotate_left; (· simp only [Act.put, List.setIfInBounds_toArray, List.set_cons_zero, List.set_cons_succ, i64_w, i32_w]; rfl)
 refine take_ (i := 1) (N := some 4) (v := ?_) (a' := ?_) (tf 2 5) rfl rfl (by kernel_rfl) (fun _ _ _ h => h) (Or.inl ⟨by rfl, ?_⟩) aD ?_ ?_
 rotate_left
 ·rintro w' ⟨s0, s1⟩
  go_simp
  with_reducible rfl
 rotate_left
 ·simp only [Act.put, List.setIfInBounds_toArray, List.set_cons_zero, List.set_cons_succ, i64_w, i32_w]
  rfl
 refine take_ (i := 2) (N := some 5) (v := ?_) (a' := ?_) (tf 3 4) rfl rfl (by kernel_rfl) (fun _ _ _ h => h) (Or.inl ⟨by rfl, ?_⟩) aD ?_ ?_
 rotate_left
 ·rintro w' ⟨s0, s1⟩
  go_simp
  with_reducible rfl
 rotate_left
 ·simp only [Act.put, List.setIfInBounds_toArray, List.set_cons_zero, List.set_cons_succ, i64_w, i32_w]
  rfl
 refine one_ (i := 3) (N := some 6) (tf 4 3) rfl rfl (by kernel_rfl) (by decide) (fun K hK => ?_)
 refine goes_ Tryz.func119 (by kernel_rfl) rfl #[.agg #[.int .i64 aB, .int .i64 aC]] (by rfl) rfl rfl MT ?_
 with_reducible refine (impl_Block_size.calls aB aC aE _ A2.out).mono ?_
 rintro e w5 ⟨rfl, hb⟩
 refine ⟨_, rfl, ?_⟩
 replace aA := am (BB aA hb)
 replace HB := bl (K1 HB aF.out) hb
 (try clear hb)
 (try clear hb2)
 (try clear hk)
 (try clear hi)
 refine hK.out _ _ ⟨z0 _ aA.out, z1 _ aA.out⟩ (fun aD => ?_)
 clear hK K
 refine nm (some 6) ?_
 refine pure_ (i := 4) (N := some 7) (v := ?_) (a' := ?_) (tf 5 2) rfl rfl (by kernel_rfl) (fun _ _ _ h => h) (Or.inl ⟨by rfl, ?_⟩) ?_ ?_; rotate_left; (· intro w'; go_simp; with_reducible rfl); rotate_left; (· simp only [Act.put, List.setIfInBounds_toArray, List.set_cons_zero, List.set_cons_succ, i64_w, i32_w]; rfl)
 refine pure_ (i := 5) (N := some 8) (v := ?_) (a' := ?_) (tf 6 1) rfl rfl (by kernel_rfl) (fun _ _ _ h => h) (Or.inl ⟨by rfl, ?_⟩) ?_ ?_; rotate_left; (· intro w'; go_simp; with_reducible rfl); rotate_left; (· simp only [Act.put, List.setIfInBounds_toArray, List.set_cons_zero, List.set_cons_succ, i64_w, i32_w]; rfl)
 refine pure_ (i := 6) (N := some 2) (v := ?_) (a' := ?_) (tf 7 0) rfl rfl (by kernel_rfl) (fun _ _ _ h => h) (Or.inl ⟨by rfl, ?_⟩) ?_ ?_; rotate_left; (· intro w'; go_simp; with_reducible rfl); rotate_left; (· simp only [Act.put, List.setIfInBounds_toArray, List.set_cons_zero, List.set_cons_succ, i64_w, i32_w]; rfl)
 refine done_ (by kernel_rfl) ?_
 try go_wp2
 go_ret
 exact ⟨ER, K1 HB aF.out⟩
def impl_Block_has.f (a0_0 : Int) (a0_1 : Int) (a1 : Int) : Option (Bool) := (impl_Block_last.f a0_0 a0_1).bind fun t102 => ((impl_in.f a1 a0_0 t102).bind fun t103 => (some t103))
theorem impl_Block_has.calls (aB : Int) (aD : Int) (a1 : Int) (r : Bool) (w : World) (h : impl_Block_has.f aB aD a1 = some r) :
  Calls Tryz.prog 117 #[.agg #[.int .i64 aB, .int .i64 aD], .int .i64 a1] w fun e w' => e = .returned (.bool r) ∧ Below w.heap.size w w' := by
 have aM := Tryz.underlying90
 have HB := am (Below.refl w.heap.size w)
 have H : ((impl_Block_last.f aB aD).bind fun aE => ((impl_in.f a1 aB aE).bind fun aF => (some aF))) = some r := h
 clear h
 replace H := bm H
 obtain ⟨aE, aK, H⟩ := H
 replace H : ((impl_in.f a1 aB aE).bind fun aF => (some aF)) = some r := H
 have A3 := Aside0.mk aK
 clear aK
 replace H := bm H
 obtain ⟨aF, aL, H⟩ := H
 replace H : (some aF) = some r := H
 have A4 := Aside0.mk aL
 clear aL
 obtain rfl := sj H
 go_enter Tryz.func117, Tryz.ntmps117
 try go_wp2_with (first | ((with_reducible refine gate_dst (N := 2) rfl ?_); refine box_event rfl (N := 2) rfl (cs := #[.int .i64 aB, .int .i64 aD]) (t := 90) BX ?_; intro aH hg w5 aI hb; have aA := am (aI); have aJ := am (GH HB hg); have aG := aJ; replace HB := bl (KL HB) hb; clear hb aI hg))
 replace aA := am (blk_drew aA.out)
 replace HB := am (below_drew1 HB.out)
 refine start_ (n := 7) (S := fun w' => de2 w' aH (.int .i64 aB) (.int .i64 aD)) (ds := []) (tf 0 7) (by kernel_rfl) rfl rfl ⟨z0 _ aA.out, z1 _ aA.out⟩ (fun aC => ?_)
 generalize w5.drew = w6 at aA HB aC ⊢
 refine pure_ (i := 0) (N := some 5) (v := ?_) (a' := ?_) (tf 1 6) rfl rfl (by kernel_rfl) (fun _ _ _ h => h) (Or.inl ⟨by rfl, ?_⟩) ?_ ?_; rotate_left; (· intro w'; go_simp; with_reducible rfl); rotate_left; (· simp only [Act.put, List.setIfInBounds_toArray, List.set_cons_zero, List.set_cons_succ, i64_w, i32_w]; rfl)
 refine pure_ (i := 1) (N := some 6) (v := ?_) (a' := ?_) (tf 2 5) rfl rfl (by kernel_rfl) (fun _ _ _ h => h) (Or.inl ⟨by rfl, ?_⟩) ?_ ?_; rotate_left; (· intro w'; go_simp; with_reducible rfl); rotate_left; (· simp only [Act.put, List.setIfInBounds_toArray, List.set_cons_zero, List.set_cons_succ, i64_w, i32_w]; rfl)
 refine take_ (i := 2) (N := some 7) (v := ?_) (a' := ?_) (tf 3 4) rfl rfl (by kernel_rfl) (fun _ _ _ h => h) (Or.inl ⟨by rfl, ?_⟩) aC ?_ ?_
 rotate_left
 ·rintro w' ⟨s0, s1⟩
  go_simp
  with_reducible rfl
 rotate_left
 ·simp only [Act.put, List.setIfInBounds_toArray, List.set_cons_zero, List.set_cons_succ, i64_w, i32_w]
  rfl
 refine take_ (i := 3) (N := some 8) (v := ?_) (a' := ?_) (tf 4 3) rfl rfl (by kernel_rfl) (fun _ _ _ h => h) (Or.inl ⟨by rfl, ?_⟩) aC ?_ ?_
 rotate_left
 ·rintro w' ⟨s0, s1⟩
  go_simp
  with_reducible rfl
 rotate_left
 ·simp only [Act.put, List.setIfInBounds_toArray, List.set_cons_zero, List.set_cons_succ, i64_w, i32_w]
  rfl
 refine one_ (i := 4) (N := some 9) (tf 5 2) rfl rfl (by kernel_rfl) (by decide) (fun K hK => ?_)
 refine goes_ Tryz.func120 (by kernel_rfl) rfl #[.agg #[.int .i64 aB, .int .i64 aD]] (by rfl) rfl rfl MT ?_
 with_reducible refine (impl_Block_last.calls aB aD aE _ A3.out).mono ?_
 rintro e w7 ⟨rfl, hb⟩
 refine ⟨_, rfl, ?_⟩
 replace aA := am (BB aA hb)
 replace HB := bl (K1 HB aG.out) hb
 (try clear hb)
 (try clear hb2)
 (try clear hk)
 (try clear hi)
 refine hK.out _ _ ⟨z0 _ aA.out, z1 _ aA.out⟩ (fun aC => ?_)
 clear hK K
 refine nm (some 9) ?_
 refine one_ (i := 5) (N := some 10) (tf 6 1) rfl rfl (by kernel_rfl) (by decide) (fun K hK => ?_)
 refine goes_ Tryz.func61 (by kernel_rfl) rfl #[.int .i64 a1, .int .i64 aB, .int .i64 aE] (by rfl) rfl rfl MT ?_
 with_reducible refine (impl_in.calls a1 aB aE aF _ A4.out).mono ?_
 rintro e w' ⟨rfl, ⟨nd, rfl⟩⟩
 refine ⟨_, rfl, ?_⟩
 refine hK.out _ _ ⟨z0 _ aA.out, z1 _ aA.out⟩ (fun aC => ?_)
 clear hK K
 refine nm (some 10) ?_
 refine pure_ (i := 6) (N := some 4) (v := ?_) (a' := ?_) (tf 7 0) rfl rfl (by kernel_rfl) (fun _ _ _ h => h) (Or.inl ⟨by rfl, ?_⟩) ?_ ?_; rotate_left; (· intro w'; go_simp; with_reducible rfl); rotate_left; (· simp only [Act.put, List.setIfInBounds_toArray, List.set_cons_zero, List.set_cons_succ, i64_w, i32_w]; rfl)
 refine done_ (by kernel_rfl) ?_
 try go_wp2
 go_ret
 exact ⟨ER, K1 HB aG.out⟩
def impl_Rule_matches.f (a0_0 : Int) (a0_1 : Int) (a0_2 : Int) (a0_3 : Int) (a0_4 : Int) (a0_5 : Int) (a0_6 : Int) (a0_7 : Int) (a1_0 : Int) (a1_1 : Int) (a1_2 : Int) : Option (Bool) := (impl_Block_has.f a0_2 a0_3 a1_0).bind fun t103 => (if t103 = true then ((impl_Block_has.f a0_4 a0_5 a1_1).bind fun t104 => (if t104 = true then ((impl_in.f a1_2 a0_6 a0_7).bind fun t105 => (some t105)) else (some false))) else (some false))
theorem impl_Rule_matches.calls (aU : Int) (aV : Int) (aH : Int) (aI : Int) (aK : Int) (aL : Int) (aM : Int) (aN : Int) (aJ : Int) (aO : Int) (aP : Int) (r : Bool) (w : World) (h : impl_Rule_matches.f aU aV aH aI aK aL aM aN aJ aO aP = some r) :
  Calls Tryz.prog 110 #[.agg #[.int .i64 aU, .int .i64 aV, .int .i64 aH, .int .i64 aI, .int .i64 aK, .int .i64 aL, .int .i64 aM, .int .i64 aN], .agg #[.int .i64 aJ, .int .i64 aO, .int .i64 aP]] w fun e w' => e = .returned (.bool r) ∧ Below w.heap.size w w' := by
 have eO := Tryz.underlying92
 have dZ := Tryz.underlying103
 have eP := Tryz.underlying90
 have HB := am (Below.refl w.heap.size w)
 have H : ((impl_Block_has.f aH aI aJ).bind fun aW => (if aW = true then ((impl_Block_has.f aK aL aO).bind fun aT => (if aT = true then ((impl_in.f aP aM aN).bind fun aQ => (some aQ)) else (some false))) else (some false))) = some r := h
 clear h
 replace H := bm H
 obtain ⟨aW, eA, H⟩ := H
 replace H : (if aW = true then ((impl_Block_has.f aK aL aO).bind fun aT => (if aT = true then ((impl_in.f aP aM aN).bind fun aQ => (some aQ)) else (some false))) else (some false)) = some r := H
 have A3 := Aside0.mk eA
 clear eA
 by_cases c4 : aW = true
 ·subst c4
  have H1 := pf H
  clear H
  have H := H1
  clear H1
  replace H := bm H
  obtain ⟨aT, eB, H⟩ := H
  replace H : (if aT = true then ((impl_in.f aP aM aN).bind fun aQ => (some aQ)) else (some false)) = some r := H
  have A5 := Aside0.mk eB
  clear eB
  by_cases c6 : aT = true
  ·subst c6
   have H1 := pf H
   clear H
   have H := H1
   clear H1
   replace H := bm H
   obtain ⟨aQ, eC, H⟩ := H
   replace H : (some aQ) = some r := H
   have A7 := Aside0.mk eC
   clear eC
   obtain rfl := sj H
   go_enter Tryz.func110, Tryz.ntmps110
   go_wp2_with (first | ((with_reducible refine gate_dst (N := 2) rfl ?_); refine box_event rfl (N := 2) rfl (cs := #[.int .i64 aU, .int .i64 aV, .int .i64 aH, .int .i64 aI, .int .i64 aK, .int .i64 aL, .int .i64 aM, .int .i64 aN]) (t := 92) BX ?_; intro aX hg w8 aF hb; have aA := am (aF); have aR := am (GH HB hg); have aC := aR; replace HB := bl (KL HB) hb; clear hb aF hg) | ((with_reducible refine gate_dst (N := 3) rfl ?_); refine box_event rfl (N := 3) rfl (cs := #[.int .i64 aJ, .int .i64 aO, .int .i64 aP]) (t := 103) BX ?_; intro aY hg w9 aF hb; have aB := am (aF); have aS := am (GH1 HB aC.out hg); have aG := aS; replace HB := bl (K1 HB aC.out) hb; have aD := am (NL aA hg); have aE := am (NG aA hg); replace aA := am (BB aA hb); clear hb aF hg; have eD := aD.out; have eE := aE.out; have ⟨_, _, _, _, _, _, _, _, _⟩ := y8 w9 aA.out; have ⟨_, _, _, _⟩ := y3 w9 aB.out) | ((with_reducible refine gate_callee (f := 117) rfl ?_); refine goesL_ (some 9) rfl rfl Tryz.func117 (by kernel_rfl) rfl #[.agg #[.int .i64 aH, .int .i64 aI], .int .i64 aJ] rfl MT ?_; (with_reducible refine (impl_Block_has.calls aH aI aJ true _ A3.out).mono ?_); rintro e eF ⟨rfl, hb⟩; refine ⟨_, rfl, ?_⟩; replace aA := am (BB aA hb); replace aB := am (BB aB hb); replace HB := bl (K2 HB aC.out aG.out) hb; (try clear hb); have ⟨_, _, _, _, _, _, _, _, _⟩ := y8 eF aA.out; have ⟨_, _, _, _⟩ := y3 eF aB.out) | (go_at_call 117; (with_reducible refine (impl_Block_has.calls aK aL aO true _ A5.out).mono ?_); rintro e eG ⟨rfl, hb⟩; replace aA := am (BB aA hb); replace aB := am (BB aB hb); replace HB := bl (K2 HB aC.out aG.out) hb; (try clear hb); have ⟨_, _, _, _⟩ := y3 eG aB.out; have ⟨_, _, _, _, _, _, _, _, _⟩ := y8 eG aA.out) | (go_at_call 61; (with_reducible refine (impl_in.calls aP aM aN aQ _ A7.out).mono ?_); rintro e w' ⟨rfl, ⟨nd, rfl⟩⟩))
   go_ret
   exact ⟨ER, K2 HB aC.out aG.out⟩
  ·replace c6 := Bool.eq_false_iff.mpr c6
   subst c6
   have H1 := nf H
   clear H
   have H := H1
   clear H1
   obtain rfl := sj H
   go_enter Tryz.func110, Tryz.ntmps110
   go_wp2_with (first | ((with_reducible refine gate_dst (N := 2) rfl ?_); refine box_event rfl (N := 2) rfl (cs := #[.int .i64 aU, .int .i64 aV, .int .i64 aH, .int .i64 aI, .int .i64 aK, .int .i64 aL, .int .i64 aM, .int .i64 aN]) (t := 92) BX ?_; intro aX hg eQ aF hb; have aA := am (aF); have aR := am (GH HB hg); have aC := aR; replace HB := bl (KL HB) hb; clear hb aF hg) | ((with_reducible refine gate_dst (N := 3) rfl ?_); refine box_event rfl (N := 3) rfl (cs := #[.int .i64 aJ, .int .i64 aO, .int .i64 aP]) (t := 103) BX ?_; intro aY hg eH aF hb; have aB := am (aF); have aS := am (GH1 HB aC.out hg); have aG := aS; replace HB := bl (K1 HB aC.out) hb; have aD := am (NL aA hg); have aE := am (NG aA hg); replace aA := am (BB aA hb); clear hb aF hg; have eI := aD.out; have eJ := aE.out; have ⟨_, _, _, _, _, _, _, _, _⟩ := y8 eH aA.out; have ⟨_, _, _, _⟩ := y3 eH aB.out) | ((with_reducible refine gate_callee (f := 117) rfl ?_); refine goesL_ (some 9) rfl rfl Tryz.func117 (by kernel_rfl) rfl #[.agg #[.int .i64 aH, .int .i64 aI], .int .i64 aJ] rfl MT ?_; (with_reducible refine (impl_Block_has.calls aH aI aJ true _ A3.out).mono ?_); rintro e eK ⟨rfl, hb⟩; refine ⟨_, rfl, ?_⟩; replace aA := am (BB aA hb); replace aB := am (BB aB hb); replace HB := bl (K2 HB aC.out aG.out) hb; (try clear hb); have ⟨_, _, _, _, _, _, _, _, _⟩ := y8 eK aA.out; have ⟨_, _, _, _⟩ := y3 eK aB.out) | (go_at_call 117; (with_reducible refine (impl_Block_has.calls aK aL aO false _ A5.out).mono ?_); rintro e eR ⟨rfl, hb⟩; replace aA := am (BB aA hb); replace aB := am (BB aB hb); replace HB := bl (K2 HB aC.out aG.out) hb; (try clear hb)))
   go_ret
   exact ⟨ER, K2 HB aC.out aG.out⟩
 ·replace c4 := Bool.eq_false_iff.mpr c4
  subst c4
  have H1 := nf H
  clear H
  have H := H1
  clear H1
  obtain rfl := sj H
  go_enter Tryz.func110, Tryz.ntmps110
  go_wp2_with (first | ((with_reducible refine gate_dst (N := 2) rfl ?_); refine box_event rfl (N := 2) rfl (cs := #[.int .i64 aU, .int .i64 aV, .int .i64 aH, .int .i64 aI, .int .i64 aK, .int .i64 aL, .int .i64 aM, .int .i64 aN]) (t := 92) BX ?_; intro aX hg eS aF hb; have aA := am (aF); have aR := am (GH HB hg); have aC := aR; replace HB := bl (KL HB) hb; clear hb aF hg) | ((with_reducible refine gate_dst (N := 3) rfl ?_); refine box_event rfl (N := 3) rfl (cs := #[.int .i64 aJ, .int .i64 aO, .int .i64 aP]) (t := 103) BX ?_; intro aY hg eL aF hb; have aB := am (aF); have aS := am (GH1 HB aC.out hg); have aG := aS; replace HB := bl (K1 HB aC.out) hb; have aD := am (NL aA hg); have aE := am (NG aA hg); replace aA := am (BB aA hb); clear hb aF hg; have eM := aD.out; have eN := aE.out; have ⟨_, _, _, _, _, _, _, _, _⟩ := y8 eL aA.out; have ⟨_, _, _, _⟩ := y3 eL aB.out) | ((with_reducible refine gate_callee (f := 117) rfl ?_); refine goesL_ (some 9) rfl rfl Tryz.func117 (by kernel_rfl) rfl #[.agg #[.int .i64 aH, .int .i64 aI], .int .i64 aJ] rfl MT ?_; (with_reducible refine (impl_Block_has.calls aH aI aJ false _ A3.out).mono ?_); rintro e eT ⟨rfl, hb⟩; refine ⟨_, rfl, ?_⟩; replace aA := am (BB aA hb); replace aB := am (BB aB hb); replace HB := bl (K2 HB aC.out aG.out) hb; (try clear hb)))
  go_ret
  exact ⟨ER, K2 HB aC.out aG.out⟩
theorem eqA103 (d : Nat) (w : World) (x0 y0 : Int) (x1 y1 : Int) (x2 y2 : Int) :
  (Op.equalIn (d + 2) 103 (.agg #[.int .i64 x0, .int .i64 x1, .int .i64 x2]) (.agg #[.int .i64 y0, .int .i64 y1, .int .i64 y2])).run Tryz.prog w = .ok (x0 == y0 && (x1 == y1 && (x2 == y2))) w := by
 refine eqA_of Tryz.underlying103 (by kernel_rfl) ?_
 refine eqf_cons (by rfl) (by go_simp; rfl) (by go_simp; rfl) (by go_simp) ?_
 refine eqf_cons (by rfl) (by go_simp; rfl) (by go_simp; rfl) (by go_simp) ?_
 exact eqf_last (by rfl) (by go_simp; rfl) (by go_simp; rfl) (by go_simp)
def impl_tunOf.f (a0_0 : Int) (a0_1 : Int) (a0_2 : ByteArray) (a0_3 : ByteArray) (a0_4 : Int) (a0_5 : Int) (a0_6 : Int) (a0_7 : Int) (a0_8 : Int) (a0_9 : Int) (l0_10 : List Int) : Option (Int) := some a0_1
theorem impl_tunOf.calls (aG : Int) (aF : Int) (aH : ByteArray) (aI : ByteArray) (aJ : Int) (aK : Int) (aL : Int) (aM : Int) (aN : Int) (aO : Int) (aB : Option Addr) (aC : Nat) (aA : List Int) (r : Int) (w : World) (aD : Kd.C (Kd.int .i64) w aB aA.length aA) (aE : aA.length ≤ aC) (h : impl_tunOf.f aG aF aH aI aJ aK aL aM aN aO aA = some r) :
  Calls Tryz.prog 51 #[.agg #[.int .i64 aG, .int .i64 aF, .string aH, .string aI, .int .i64 aJ, .int .i64 aK, .int .i64 aL, .int .i64 aM, .int .i64 aN, .int .i64 aO, .slice aB aA.length aC]] w fun e w' => e = .returned (.int .i64 r) ∧ Below w.heap.size w w' := by
 have bI := Tryz.underlying48
 have aU := Aside0.mk aD
 have aV := Aside0.mk aE
 clear aD aE
 have HB := am (Below.refl w.heap.size w)
 have H : (some aF) = some r := h
 clear h
 obtain rfl := sj H
 go_enter Tryz.func51, Tryz.ntmps51
 go_wp2_with (first | ((with_reducible refine gate_dst (N := 1) rfl ?_); refine box_event rfl (N := 1) rfl (cs := #[.int .i64 aG, .int .i64 aF, .string aH, .string aI, .int .i64 aJ, .int .i64 aK, .int .i64 aL, .int .i64 aM, .int .i64 aN, .int .i64 aO, .slice aB aA.length aC]) (t := 48) BX ?_; intro bH hg w2 aP hb; have aQ := am (aP); have aR := am (GH HB hg); have aS := aR; replace HB := bl (KL HB) hb; clear hb aP hg; have ⟨_, _, _, _, _, _, _, _, _, _, _, _⟩ := y11 w2 aQ.out))
 go_ret
 exact ⟨ER, K1 HB aS.out⟩
def impl_keysOk.f (a0 : ByteArray) (a1 : ByteArray) : Option (Bool) := if (a0.size : Int) = 16 then ((impl_in.f (a1.size : Int) 1 64).bind fun t101 => (some t101)) else (some false)
theorem impl_keysOk.calls (a0 : ByteArray) (a1 : ByteArray) (r : Bool) (w : World) (h : impl_keysOk.f a0 a1 = some r) :
  Calls Tryz.prog 94 #[.string a0, .string a1] w fun e w' => e = .returned (.bool r) ∧ Drawn0 w w' := by
 have H : (if (a0.size : Int) = 16 then ((impl_in.f (a1.size : Int) 1 64).bind fun aA => (some aA)) else (some false)) = some r := h
 clear h
 by_cases c3 : (a0.size : Int) = 16
 ·rw [if_pos c3] at H
  have c3b0 : ((a0.size : Int) == 16) = true := beq_iff_eq.mpr c3
  have c3b1 : ((a0.size : Int) != 16) = false := bne_eq_false_iff_eq.mpr c3
  clear c3
  replace H := bm H
  obtain ⟨aA, aB, H⟩ := H
  replace H : (some aA) = some r := H
  have A4 := Aside0.mk aB
  clear aB
  obtain rfl := sj H
  go_enter Tryz.func94, Tryz.ntmps94
  go_wp2_with (first | (go_at_call 61; (with_reducible refine (impl_in.calls (a1.size : Int) 1 64 aA _ A4.out).mono ?_); rintro e w' ⟨rfl, ⟨nd, rfl⟩⟩))
  go_ret
  exact ⟨by first | rfl | (simp; done) | (simp [*]; done), by repeat (first | exact Drawn0.refl _ | apply Drawn0.step)⟩
 ·rw [if_neg c3] at H
  have c3b0 : ((a0.size : Int) == 16) = false := beq_eq_false_iff_ne.mpr c3
  have c3b1 : ((a0.size : Int) != 16) = true := bne_iff_ne.mpr c3
  obtain rfl := sj H
  go_enter Tryz.func94, Tryz.ntmps94
  go_wp2
  go_ret
  exact ⟨by first | rfl | (simp; done) | (simp [*]; done), by repeat (first | exact Drawn0.refl _ | apply Drawn0.step)⟩
def impl_WindowOk.l0 : Nat → List Int → Int → Int → Int → List Int → Option (Bool)
 | 0, _, _, _, _, _ => none
 | k + 1, x13, x14, x15, x102000, x102001 => if x15 < x14 then (if 0 ≤ x15 then (if x15 < (x13.length : Int) then (if (rd x13 x15) < 1 then (some false) else (if (rd x13 x15) ≤ (wrap64 (x102000 - 16)) then (some false) else (if x15 > 0 then (if 0 ≤ (wrap64 (x15 - 1)) then (if (wrap64 (x15 - 1)) < (x102001.length : Int) then (if (rd x13 x15) ≤ (rd x102001 (wrap64 (x15 - 1))) then (some false) else (impl_WindowOk.l0 k x13 x14 (wrap64 (x15 + 1)) x102000 x102001)) else (none)) else (none)) else (impl_WindowOk.l0 k x13 x14 (wrap64 (x15 + 1)) x102000 x102001)))) else (none)) else (none)) else (if 0 ≤ (wrap64 ((x102001.length : Int) - 1)) then (if (wrap64 ((x102001.length : Int) - 1)) < (x102001.length : Int) then (if (rd x102001 (wrap64 ((x102001.length : Int) - 1))) = x102000 then (some (decide (x102000 ≤ 1000000))) else (some false)) else (none)) else (none))
def impl_WindowOk.f (k : Nat) (a0_0 : Int) (l0_1 : List Int) : Option (Bool) := if (l0_1.length : Int) = 0 then (some (a0_0 == 0)) else (impl_WindowOk.l0 k l0_1 (l0_1.length : Int) 0 a0_0 l0_1)
theorem impl_WindowOk.calls (k : Nat) (aE : Int) (aP : Option Addr) (aQ : Nat) (aA : List Int) (r : Bool) (w : World) (bD : Kd.C (Kd.int .i64) w aP aA.length aA) (bE : aA.length ≤ aQ) (h : impl_WindowOk.f k aE aA = some r) :
  Calls Tryz.prog 95 #[.agg #[.int .i64 aE, .slice aP aA.length aQ]] w fun e w' => e = .returned (.bool r) ∧ Below w.heap.size w w' := by
 have cK := Tryz.underlying46
 have aK := Aside0.mk bD
 have cJ := Aside0.mk bE
 clear bD bE
 have HB := am (Below.refl w.heap.size w)
 have H : (if (aA.length : Int) = 0 then (some (aE == 0)) else (impl_WindowOk.l0 k aA (aA.length : Int) 0 aE aA)) = some r := h
 clear h
 by_cases c2 : (aA.length : Int) = 0
 ·rw [if_pos c2] at H
  have c2b0 : ((aA.length : Int) == 0) = true := beq_iff_eq.mpr c2
  have c2b1 : ((aA.length : Int) != 0) = false := bne_eq_false_iff_eq.mpr c2
  clear c2
  obtain rfl := sj H
  go_enter Tryz.func95, Tryz.ntmps95
  go_wp2_with (first | ((with_reducible refine gate_dst (N := 1) rfl ?_); refine box_event rfl (N := 1) rfl (cs := #[.int .i64 aE, .slice aP aA.length aQ]) (t := 46) BX ?_; intro aN hg w3 aI hb; have aD := am (aI); have aJ := am (GH HB hg); have aF := aJ; replace HB := bl (KL HB) hb; clear hb aI hg; obtain ⟨aS, aT, aU⟩ := y2 w3 aD.out))
  repeat (go_quiet (first | ((with_reducible refine gate_dst (N := 1) rfl ?_); refine box_event rfl (N := 1) rfl (cs := #[.int .i64 aE, .slice aP aA.length aQ]) (t := 46) BX ?_; intro aN hg w3 aI hb; have aD := am (aI); have aJ := am (GH HB hg); have aF := aJ; replace HB := bl (KL HB) hb; clear hb aI hg; obtain ⟨aS, aT, aU⟩ := y2 w3 aD.out)); try go_wp2_with (first | ((with_reducible refine gate_dst (N := 1) rfl ?_); refine box_event rfl (N := 1) rfl (cs := #[.int .i64 aE, .slice aP aA.length aQ]) (t := 46) BX ?_; intro aN hg w3 aI hb; have aD := am (aI); have aJ := am (GH HB hg); have aF := aJ; replace HB := bl (KL HB) hb; clear hb aI hg; obtain ⟨aS, aT, aU⟩ := y2 w3 aD.out)))
  go_ret
  exact ⟨ER, K1 HB aF.out⟩
 ·rw [if_neg c2] at H
  have c2b0 : ((aA.length : Int) == 0) = false := beq_eq_false_iff_ne.mpr c2
  have c2b1 : ((aA.length : Int) != 0) = true := bne_iff_ne.mpr c2
  have c2b2 : ¬ (aA = []) := fun h_ => c2 (by rw [h_]; rfl)
  have H' := Aside0.mk H
  clear H
  go_enter Tryz.func95, Tryz.ntmps95
  go_wp2_with (first | ((with_reducible refine gate_dst (N := 1) rfl ?_); refine box_event rfl (N := 1) rfl (cs := #[.int .i64 aE, .slice aP aA.length aQ]) (t := 46) BX ?_; intro aN hg w5 aI hb; have aD := am (aI); have aJ := am (GH HB hg); have aF := aJ; replace HB := bl (KL HB) hb; clear hb aI hg; obtain ⟨aV, aW, aX⟩ := y2 w5 aD.out))
  repeat (go_quiet (first | ((with_reducible refine gate_dst (N := 1) rfl ?_); refine box_event rfl (N := 1) rfl (cs := #[.int .i64 aE, .slice aP aA.length aQ]) (t := 46) BX ?_; intro aN hg w5 aI hb; have aD := am (aI); have aJ := am (GH HB hg); have aF := aJ; replace HB := bl (KL HB) hb; clear hb aI hg; obtain ⟨aV, aW, aX⟩ := y2 w5 aD.out)); try go_wp2_with (first | ((with_reducible refine gate_dst (N := 1) rfl ?_); refine box_event rfl (N := 1) rfl (cs := #[.int .i64 aE, .slice aP aA.length aQ]) (t := 46) BX ?_; intro aN hg w5 aI hb; have aD := am (aI); have aJ := am (GH HB hg); have aF := aJ; replace HB := bl (KL HB) hb; clear hb aI hg; obtain ⟨aV, aW, aX⟩ := y2 w5 aD.out)))
  go_loopg [15] k (fun kq cL w' => ∃ (aB : Int), cL = .int .i64 aB ∧ Aside0 (impl_WindowOk.l0 kq aA (aA.length : Int) aB aE aA = some r) ∧ Aside0 (kq ≤ k) ∧ Aside0 (w'.heap[aN]? = some (.cells #[.int .i64 aE, (.slice aP aA.length aQ)] 46 (0, 0))) ∧ Aside0 (Below w.heap.size w w'))
  case atStart => exact ⟨(0), (by first | rfl | (simp; done) | (simp [*]; done)), H', ⟨Nat.le_refl _⟩, ⟨KB aD⟩, ⟨K1 HB aF.out⟩⟩
  case round =>
   clear H'
   try clear c2
   try clear c2b0
   try clear c2b1
   try clear c2b2
   try clear p2
   try clear aS aT aU
   try clear aV aW aX
   obtain ⟨aB, rfl, HA, HK1, aD, HB⟩ := hrel
   cases gk with
   | zero => exact absurd HA.out (by simp [impl_WindowOk.l0])
   | succ k1 =>
    have H := HA.out
    clear HA
    simp only [impl_WindowOk.l0] at H
    by_cases c7 : aB < (aA.length : Int)
    ·rw [if_pos c7] at H
     have c7b0 : decide (aB < (aA.length : Int)) = true := decide_eq_true c7
     clear c7
     by_cases c8 : 0 ≤ aB
     ·rw [if_pos c8] at H
      have c8b0 : decide (0 ≤ aB) = true := decide_eq_true c8
      clear c8
      by_cases c9 : aB < (aA.length : Int)
      ·rw [if_pos c9] at H
       have c9b0 : decide (aB < (aA.length : Int)) = true := decide_eq_true c9
       clear c9
       by_cases bI : (rd aA aB) < 1
       ·rw [if_pos bI] at H
        have c10b0 : decide ((rd aA aB) < 1) = true := decide_eq_true bI
        clear bI
        obtain rfl := sj H
        have aG : 0 ≤ (aB : Int) := OD
        have aH : aB < (aA.length : Int) := OD
        obtain ⟨aO, aR, aC⟩ := Kd.at_int aK.out aB aG aH
        cases aR
        replace aC := CX HB.out aC
        replace aG := eq_true aG
        replace aH := eq_true aH
        go_wp2
        repeat (go_quiet (fail); try go_wp2)
        go_ret
        exact ⟨ER, K1 HB aF.out⟩
       ·rw [if_neg bI] at H
        have c10b0 : decide ((rd aA aB) < 1) = false := decide_eq_false bI
        clear bI
        by_cases bJ : (rd aA aB) ≤ (wrap64 (aE - 16))
        ·rw [if_pos bJ] at H
         have c11b0 : decide ((rd aA aB) ≤ (wrap64 (aE - 16))) = true := decide_eq_true bJ
         clear bJ
         obtain rfl := sj H
         have aG : 0 ≤ (aB : Int) := OD
         have aH : aB < (aA.length : Int) := OD
         obtain ⟨aO, aR, aC⟩ := Kd.at_int aK.out aB aG aH
         cases aR
         replace aC := CX HB.out aC
         replace aG := eq_true aG
         replace aH := eq_true aH
         have ⟨_, _, _⟩ := y2 wr aD.out
         go_wp2
         repeat (go_quiet (fail); try go_wp2)
         go_ret
         exact ⟨ER, K1 HB aF.out⟩
        ·rw [if_neg bJ] at H
         have c11b0 : decide ((rd aA aB) ≤ (wrap64 (aE - 16))) = false := decide_eq_false bJ
         clear bJ
         by_cases bK : aB > 0
         ·rw [if_pos bK] at H
          have c13b0 : decide (0 < aB) = true := decide_eq_true bK
          clear bK
          obtain ⟨ji14, hji14⟩ : ∃ j_ : Int, (wrap64 (aB - 1)) = j_ := ⟨_, rfl⟩
          replace H : (if 0 ≤ (ji14) then (if (ji14) < (aA.length : Int) then (if (rd aA aB) ≤ (rd aA (ji14)) then (some false) else (impl_WindowOk.l0 k1 aA (aA.length : Int) (wrap64 (aB + 1)) aE aA)) else (none)) else (none)) = some r := by first | (rw [hji14] at H; exact H) | (simp only [hji14] at H ⊢; exact H)
          have hji14w : (IntKind.i64.wrap (aB - 1)) = ji14 := (i64_w _).trans hji14
          by_cases bQ : 0 ≤ (ji14)
          ·rw [if_pos bQ] at H
           have c15b0 : decide (0 ≤ (ji14)) = true := decide_eq_true bQ
           clear bQ
           by_cases bR : (ji14) < (aA.length : Int)
           ·rw [if_pos bR] at H
            have c16b0 : decide ((ji14) < (aA.length : Int)) = true := decide_eq_true bR
            clear bR
            by_cases bL : (rd aA aB) ≤ (rd aA (ji14))
            ·rw [if_pos bL] at H
             have c17b0 : decide ((rd aA aB) ≤ (rd aA (ji14))) = true := decide_eq_true bL
             clear bL
             obtain rfl := sj H
             have aG : 0 ≤ (aB : Int) := OD
             have aH : aB < (aA.length : Int) := OD
             obtain ⟨aO, aR, aC⟩ := Kd.at_int aK.out aB aG aH
             cases aR
             replace aC := CX HB.out aC
             replace aG := eq_true aG
             replace aH := eq_true aH
             have ⟨_, _, _⟩ := y2 wr aD.out
             have aY : 0 ≤ ((ji14) : Int) := OD
             have aZ : (ji14) < (aA.length : Int) := OD
             obtain ⟨bC, bF, aL⟩ := Kd.at_int aK.out (ji14) aY aZ
             obtain rfl : aO = bC := (by injection bF)
             replace aL := CX HB.out aL
             replace aY := eq_true aY
             replace aZ := eq_true aZ
             go_wp2
             repeat (go_quiet (fail); try go_wp2)
             go_ret
             exact ⟨by first | rfl | (simp [errW_none, errW_some] <;> rfl) | (simp only [← hji14]; first | rfl | (simp [errW_none, errW_some] <;> rfl)) | (simp [*, errW_none, errW_some] <;> rfl), K1 HB aF.out⟩
            ·rw [if_neg bL] at H
             have c17b0 : decide ((rd aA aB) ≤ (rd aA (ji14))) = false := decide_eq_false bL
             clear bL
             have H' := Aside0.mk H
             clear H
             have aG : 0 ≤ (aB : Int) := OD
             have aH : aB < (aA.length : Int) := OD
             obtain ⟨aO, aR, aC⟩ := Kd.at_int aK.out aB aG aH
             cases aR
             replace aC := CX HB.out aC
             replace aG := eq_true aG
             replace aH := eq_true aH
             have ⟨_, _, _⟩ := y2 wr aD.out
             have aY : 0 ≤ ((ji14) : Int) := OD
             have aZ : (ji14) < (aA.length : Int) := OD
             obtain ⟨bC, bF, aL⟩ := Kd.at_int aK.out (ji14) aY aZ
             obtain rfl : aO = bC := (by injection bF)
             replace aL := CX HB.out aL
             replace aY := eq_true aY
             replace aZ := eq_true aZ
             go_wp2
             repeat (go_quiet (fail); try go_wp2)
             go_roundg k1
             case measure => have := HK1.out; omega
             case rel => exact ⟨(wrap64 (aB + 1)), (by first | rfl | (simp; done) | (simp [*]; done)), H', ⟨by have := HK1.out; omega⟩, ⟨KB aD⟩, ⟨K1 HB aF.out⟩⟩
           ·rw [if_neg bR] at H
            exact absurd H (by simp)
          ·rw [if_neg bQ] at H
           exact absurd H (by simp)
         ·rw [if_neg bK] at H
          have c13b0 : decide (0 < aB) = false := decide_eq_false bK
          clear bK
          have H' := Aside0.mk H
          clear H
          have aG : 0 ≤ (aB : Int) := OD
          have aH : aB < (aA.length : Int) := OD
          obtain ⟨aO, aR, aC⟩ := Kd.at_int aK.out aB aG aH
          cases aR
          replace aC := CX HB.out aC
          replace aG := eq_true aG
          replace aH := eq_true aH
          have ⟨_, _, _⟩ := y2 wr aD.out
          go_wp2
          repeat (go_quiet (fail); try go_wp2)
          go_roundg k1
          case measure => have := HK1.out; omega
          case rel => exact ⟨(wrap64 (aB + 1)), (by first | rfl | (simp; done) | (simp [*]; done)), H', ⟨by have := HK1.out; omega⟩, ⟨KB aD⟩, ⟨K1 HB aF.out⟩⟩
      ·rw [if_neg c9] at H
       exact absurd H (by simp)
     ·rw [if_neg c8] at H
      exact absurd H (by simp)
    ·rw [if_neg c7] at H
     have c7b0 : decide (aB < (aA.length : Int)) = false := decide_eq_false c7
     clear c7
     obtain ⟨ji21, hji21⟩ : ∃ j_ : Int, (wrap64 ((aA.length : Int) - 1)) = j_ := ⟨_, rfl⟩
     replace H : (if 0 ≤ (ji21) then (if (ji21) < (aA.length : Int) then (if (rd aA (ji21)) = aE then (some (decide (aE ≤ 1000000))) else (some false)) else (none)) else (none)) = some r := by first | (rw [hji21] at H; exact H) | (simp only [hji21] at H ⊢; exact H)
     have hji21w : (IntKind.i64.wrap ((aA.length : Int) - 1)) = ji21 := (i64_w _).trans hji21
     by_cases cB : 0 ≤ (ji21)
     ·rw [if_pos cB] at H
      have c22b0 : decide (0 ≤ (ji21)) = true := decide_eq_true cB
      clear cB
      by_cases cC : (ji21) < (aA.length : Int)
      ·rw [if_pos cC] at H
       have c23b0 : decide ((ji21) < (aA.length : Int)) = true := decide_eq_true cC
       clear cC
       by_cases bG : (rd aA (ji21)) = aE
       ·rw [if_pos bG] at H
        have c24b0 : ((rd aA (ji21)) == aE) = true := beq_iff_eq.mpr bG
        have c24b1 : ((rd aA (ji21)) != aE) = false := bne_eq_false_iff_eq.mpr bG
        clear bG
        obtain rfl := sj H
        have ⟨_, _, _⟩ := y2 wr aD.out
        have bA : 0 ≤ ((ji21) : Int) := OD
        have bB : (ji21) < (aA.length : Int) := OD
        obtain ⟨bM, bH, aM⟩ := Kd.at_int aK.out (ji21) bA bB
        cases bH
        replace aM := CX HB.out aM
        replace bA := eq_true bA
        replace bB := eq_true bB
        go_wp2
        repeat (go_quiet (fail); try go_wp2)
        go_ret
        exact ⟨by first | rfl | (simp [errW_none, errW_some] <;> rfl) | (simp only [← hji21]; first | rfl | (simp [errW_none, errW_some] <;> rfl)) | (simp [*, errW_none, errW_some] <;> rfl), K1 HB aF.out⟩
       ·rw [if_neg bG] at H
        have c24b0 : ((rd aA (ji21)) == aE) = false := beq_eq_false_iff_ne.mpr bG
        have c24b1 : ((rd aA (ji21)) != aE) = true := bne_iff_ne.mpr bG
        obtain rfl := sj H
        have ⟨_, _, _⟩ := y2 wr aD.out
        have bA : 0 ≤ ((ji21) : Int) := OD
        have bB : (ji21) < (aA.length : Int) := OD
        obtain ⟨bM, bH, aM⟩ := Kd.at_int aK.out (ji21) bA bB
        cases bH
        replace aM := CX HB.out aM
        replace bA := eq_true bA
        replace bB := eq_true bB
        go_wp2
        repeat (go_quiet (fail); try go_wp2)
        go_ret
        exact ⟨by first | rfl | (simp [errW_none, errW_some] <;> rfl) | (simp only [← hji21]; first | rfl | (simp [errW_none, errW_some] <;> rfl)) | (simp [*, errW_none, errW_some] <;> rfl), K1 HB aF.out⟩
      ·rw [if_neg cC] at H
       exact absurd H (by simp)
     ·rw [if_neg cB] at H
      exact absurd H (by simp)
def impl_SaOk.j0 : Nat → Bool → Int → Int → ByteArray → ByteArray → Int → Int → Int → Int → Int → Int → List Int → Option (Bool)
 | 0, _, _, _, _, _, _, _, _, _, _, _, _ => none
 | k + 1, x3, x102000, x102001, x102002, x102003, x102004, x102005, x102006, x102007, x102008, x102009, x102010 => (impl_in.f x102004 0 1000000).bind fun t105 => (if t105 = true then ((impl_in.f x102006 1 1000000).bind fun t106 => (if t106 = true then ((impl_in.f x102005 1 x102006).bind fun t107 => (if t107 = true then ((impl_in.f x102007 1 1000000).bind fun t108 => (if x3 = true then (if t108 = true then ((impl_in.f x102008 0 x102006).bind fun t109 => (if t109 = true then ((impl_WindowOk.f k x102009 x102010).bind fun t110 => (some t110)) else (some false))) else (some false)) else (some false))) else (if x3 = true then (some false) else (some false)))) else (if x3 = true then (some false) else (some false)))) else (if x3 = true then (some false) else (some false)))
def impl_SaOk.f (k : Nat) (a0_0 : Int) (a0_1 : Int) (a0_2 : ByteArray) (a0_3 : ByteArray) (a0_4 : Int) (a0_5 : Int) (a0_6 : Int) (a0_7 : Int) (a0_8 : Int) (a0_9 : Int) (l0_10 : List Int) : Option (Bool) := (impl_in.f a0_0 1 999).bind fun t102 => (if t102 = true then ((impl_in.f a0_1 0 3).bind fun t103 => (if t103 = true then ((impl_keysOk.f a0_2 a0_3).bind fun t104 => (impl_SaOk.j0 k t104 a0_0 a0_1 a0_2 a0_3 a0_4 a0_5 a0_6 a0_7 a0_8 a0_9 l0_10)) else (impl_SaOk.j0 k false a0_0 a0_1 a0_2 a0_3 a0_4 a0_5 a0_6 a0_7 a0_8 a0_9 l0_10))) else (impl_SaOk.j0 k false a0_0 a0_1 a0_2 a0_3 a0_4 a0_5 a0_6 a0_7 a0_8 a0_9 l0_10))
theorem impl_SaOk.calls (k : Nat) (aG : Int) (aK : Int) (aL : ByteArray) (aM : ByteArray) (aC : Int) (aF : Int) (aA : Int) (aH : Int) (aI : Int) (aJ : Int) (aS : Option Addr) (aT : Nat) (aB : List Int) (r : Bool) (w : World) (aW : Kd.C (Kd.int .i64) w aS aB.length aB) (aX : aB.length ≤ aT) (h : impl_SaOk.f k aG aK aL aM aC aF aA aH aI aJ aB = some r) :
  Calls Tryz.prog 69 #[.agg #[.int .i64 aG, .int .i64 aK, .string aL, .string aM, .int .i64 aC, .int .i64 aF, .int .i64 aA, .int .i64 aH, .int .i64 aI, .int .i64 aJ, .slice aS aB.length aT]] w fun e w' => e = .returned (.bool r) ∧ Below w.heap.size w w' := by
 have iE := Tryz.underlying48
 have iF := Tryz.underlying46
 have cB := Aside0.mk aW
 have cC := Aside0.mk aX
 clear aW aX
 have HB := am (Below.refl w.heap.size w)
 have H : ((impl_in.f aG 1 999).bind fun bB => (if bB = true then ((impl_in.f aK 0 3).bind fun aU => (if aU = true then ((impl_keysOk.f aL aM).bind fun aQ => (impl_SaOk.j0 k aQ aG aK aL aM aC aF aA aH aI aJ aB)) else (impl_SaOk.j0 k false aG aK aL aM aC aF aA aH aI aJ aB))) else (impl_SaOk.j0 k false aG aK aL aM aC aF aA aH aI aJ aB))) = some r := h
 clear h
 have hZ := Aside0.mk H
 clear H
 go_enter Tryz.func69, Tryz.ntmps69
 go_upto_region 1 with (first | ((with_reducible refine gate_dst (N := 1) rfl ?_); refine box_event rfl (N := 1) rfl (cs := #[.int .i64 aG, .int .i64 aK, .string aL, .string aM, .int .i64 aC, .int .i64 aF, .int .i64 aA, .int .i64 aH, .int .i64 aI, .int .i64 aJ, .slice aS aB.length aT]) (t := 48) BX ?_; intro cP hg w3 cQ hb; have aD := am (cQ); have cR := am (GH HB hg); have aE := cR; replace HB := bl (KL HB) hb; clear hb cQ hg))
 (try simp only [Act.put, List.setIfInBounds_toArray, List.set_cons_zero, List.set_cons_succ])
 go_cut [3] (fun v3 wc => ∃ (kq : Nat) (aN : Bool), v3 = .bool aN ∧ Aside0 (impl_SaOk.j0 kq aN aG aK aL aM aC aF aA aH aI aJ aB = some r) ∧ Aside0 (kq ≤ k) ∧ Aside0 (wc.heap[cP]? = some (.cells #[.int .i64 aG, .int .i64 aK, .string aL, .string aM, .int .i64 aC, .int .i64 aF, .int .i64 aA, .int .i64 aH, .int .i64 aI, .int .i64 aJ, (.slice aS aB.length aT)] 48 (0, 0))) ∧ Aside0 (Below w.heap.size w wc))
 case first =>
  have H := hZ.out
  clear hZ
  replace H := bm H
  obtain ⟨bB, iA, H⟩ := H
  replace H : (if bB = true then ((impl_in.f aK 0 3).bind fun aU => (if aU = true then ((impl_keysOk.f aL aM).bind fun aQ => (impl_SaOk.j0 k aQ aG aK aL aM aC aF aA aH aI aJ aB)) else (impl_SaOk.j0 k false aG aK aL aM aC aF aA aH aI aJ aB))) else (impl_SaOk.j0 k false aG aK aL aM aC aF aA aH aI aJ aB)) = some r := H
  have A4 := Aside0.mk iA
  clear iA
  by_cases c5 : bB = true
  ·subst c5
   have H1 := pf H
   clear H
   have H := H1
   clear H1
   replace H := bm H
   obtain ⟨aU, iB, H⟩ := H
   replace H : (if aU = true then ((impl_keysOk.f aL aM).bind fun aQ => (impl_SaOk.j0 k aQ aG aK aL aM aC aF aA aH aI aJ aB)) else (impl_SaOk.j0 k false aG aK aL aM aC aF aA aH aI aJ aB)) = some r := H
   have A6 := Aside0.mk iB
   clear iB
   by_cases c7 : aU = true
   ·subst c7
    have H1 := pf H
    clear H
    have H := H1
    clear H1
    replace H := bm H
    obtain ⟨aQ, iC, H⟩ := H
    replace H : (impl_SaOk.j0 k aQ aG aK aL aM aC aF aA aH aI aJ aB) = some r := H
    have A8 := Aside0.mk iC
    clear iC
    have H' := Aside0.mk H
    clear H
    obtain ⟨cD, cE, cF, cG, cH, cI, cJ, cK, cL, cM, bC, cN⟩ := y11 w3 aD.out
    go_wp2_with (first | ((with_reducible refine gate_callee (f := 61) rfl ?_); refine goesL_ (some 7) rfl rfl Tryz.func61 (by kernel_rfl) rfl #[.int .i64 aG, .int .i64 1, .int .i64 999] rfl MT ?_; (with_reducible refine (impl_in.calls aG 1 999 true _ A4.out).mono ?_); rintro e w' ⟨rfl, ⟨nd, rfl⟩⟩; refine ⟨_, rfl, ?_⟩) | (go_at_call 61; (with_reducible refine (impl_in.calls aK 0 3 true _ A6.out).mono ?_); rintro e w' ⟨rfl, ⟨nd, rfl⟩⟩) | (go_at_call 94; (with_reducible refine (impl_keysOk.calls aL aM aQ _ A8.out).mono ?_); rintro e w' ⟨rfl, ⟨nd, rfl⟩⟩))
    go_meet
    case rel => exact ⟨_, (aQ), (by first | rfl | (simp; done) | (simp [*]; done)), H', ⟨by first | omega | exact Nat.le_refl _⟩, ⟨KB aD⟩, ⟨K1 HB aE.out⟩⟩
   ·replace c7 := Bool.eq_false_iff.mpr c7
    subst c7
    have H1 := nf H
    clear H
    have H := H1
    clear H1
    have H' := Aside0.mk H
    clear H
    obtain ⟨bD, bE, bF, bG, bH, bI, bJ, bK, bL, bM, aY, bN⟩ := y11 w3 aD.out
    go_wp2_with (first | ((with_reducible refine gate_callee (f := 61) rfl ?_); refine goesL_ (some 7) rfl rfl Tryz.func61 (by kernel_rfl) rfl #[.int .i64 aG, .int .i64 1, .int .i64 999] rfl MT ?_; (with_reducible refine (impl_in.calls aG 1 999 true _ A4.out).mono ?_); rintro e w' ⟨rfl, ⟨nd, rfl⟩⟩; refine ⟨_, rfl, ?_⟩) | (go_at_call 61; (with_reducible refine (impl_in.calls aK 0 3 false _ A6.out).mono ?_); rintro e w' ⟨rfl, ⟨nd, rfl⟩⟩))
    go_meet
    case rel => exact ⟨_, (false), (by first | rfl | (simp; done) | (simp [*]; done)), H', ⟨by first | omega | exact Nat.le_refl _⟩, ⟨KB aD⟩, ⟨K1 HB aE.out⟩⟩
  ·replace c5 := Bool.eq_false_iff.mpr c5
   subst c5
   have H1 := nf H
   clear H
   have H := H1
   clear H1
   have H' := Aside0.mk H
   clear H
   obtain ⟨bO, bP, bQ, bR, bS, bT, bU, bV, bW, bX, aZ, bY⟩ := y11 w3 aD.out
   go_wp2_with (first | ((with_reducible refine gate_callee (f := 61) rfl ?_); refine goesL_ (some 7) rfl rfl Tryz.func61 (by kernel_rfl) rfl #[.int .i64 aG, .int .i64 1, .int .i64 999] rfl MT ?_; (with_reducible refine (impl_in.calls aG 1 999 false _ A4.out).mono ?_); rintro e w' ⟨rfl, ⟨nd, rfl⟩⟩; refine ⟨_, rfl, ?_⟩))
   go_meet
   case rel => exact ⟨_, (false), (by first | rfl | (simp; done) | (simp [*]; done)), H', ⟨by first | omega | exact Nat.le_refl _⟩, ⟨KB aD⟩, ⟨K1 HB aE.out⟩⟩
 case rest =>
  clear hZ
  try clear p2
  try clear c5
  try clear c6
  try clear c7
  try clear bD bE aY bF bG bH bI bJ bK bL bM bN
  try clear bO bP aZ bQ bR bS bT bU bV bW bX bY
  try clear cD cE bC cF cG cH cI cJ cK cL cM cN
  obtain ⟨kq, aN, rfl, HA, HJ1, aD, HB⟩ := hcut
  cases kq with
  | zero => exact absurd HA.out (by simp [impl_SaOk.j0])
  | succ kj1 =>
   have H := HA.out
   clear HA
   simp only [impl_SaOk.j0] at H
   replace H := bm H
   obtain ⟨cS, cT, H⟩ := H
   replace H : (if cS = true then ((impl_in.f aA 1 1000000).bind fun bZ => (if bZ = true then ((impl_in.f aF 1 aA).bind fun aV => (if aV = true then ((impl_in.f aH 1 1000000).bind fun aR => (if aN = true then (if aR = true then ((impl_in.f aI 0 aA).bind fun aP => (if aP = true then ((impl_WindowOk.f kj1 aJ aB).bind fun aO => (some aO)) else (some false))) else (some false)) else (some false))) else (if aN = true then (some false) else (some false)))) else (if aN = true then (some false) else (some false)))) else (if aN = true then (some false) else (some false))) = some r := H
   have bA := Aside0.mk cT
   clear cT
   by_cases dJ : cS = true
   ·subst dJ
    have H1 := pf H
    clear H
    have H := H1
    clear H1
    replace H := bm H
    obtain ⟨bZ, cU, H⟩ := H
    replace H : (if bZ = true then ((impl_in.f aF 1 aA).bind fun aV => (if aV = true then ((impl_in.f aH 1 1000000).bind fun aR => (if aN = true then (if aR = true then ((impl_in.f aI 0 aA).bind fun aP => (if aP = true then ((impl_WindowOk.f kj1 aJ aB).bind fun aO => (some aO)) else (some false))) else (some false)) else (some false))) else (if aN = true then (some false) else (some false)))) else (if aN = true then (some false) else (some false))) = some r := H
    have cA := Aside0.mk cU
    clear cU
    by_cases dK : bZ = true
    ·subst dK
     have H1 := pf H
     clear H
     have H := H1
     clear H1
     replace H := bm H
     obtain ⟨aV, cV, H⟩ := H
     replace H : (if aV = true then ((impl_in.f aH 1 1000000).bind fun aR => (if aN = true then (if aR = true then ((impl_in.f aI 0 aA).bind fun aP => (if aP = true then ((impl_WindowOk.f kj1 aJ aB).bind fun aO => (some aO)) else (some false))) else (some false)) else (some false))) else (if aN = true then (some false) else (some false))) = some r := H
     have cO := Aside0.mk cV
     clear cV
     by_cases dL : aV = true
     ·subst dL
      have H1 := pf H
      clear H
      have H := H1
      clear H1
      replace H := bm H
      obtain ⟨aR, cW, H⟩ := H
      replace H : (if aN = true then (if aR = true then ((impl_in.f aI 0 aA).bind fun aP => (if aP = true then ((impl_WindowOk.f kj1 aJ aB).bind fun aO => (some aO)) else (some false))) else (some false)) else (some false)) = some r := H
      have dM := Aside0.mk cW
      clear cW
      by_cases dN : aN = true
      ·subst dN
       have H1 := pf H
       clear H
       have H := H1
       clear H1
       by_cases dO : aR = true
       ·subst dO
        have H1 := pf H
        clear H
        have H := H1
        clear H1
        replace H := bm H
        obtain ⟨aP, cX, H⟩ := H
        replace H : (if aP = true then ((impl_WindowOk.f kj1 aJ aB).bind fun aO => (some aO)) else (some false)) = some r := H
        have iD := Aside0.mk cX
        clear cX
        by_cases dP : aP = true
        ·subst dP
         have H1 := pf H
         clear H
         have H := H1
         clear H1
         replace H := bm H
         obtain ⟨aO, cY, H⟩ := H
         replace H : (some aO) = some r := H
         have iG := Aside0.mk cY
         clear cY
         obtain rfl := sj H
         have ⟨_, _, _, _, _, _, _, _, _, _, _, _⟩ := y11 wc aD.out
         go_wp2_with (first | ((with_reducible refine gate_callee (f := 61) rfl ?_); refine goesL_ (some 22) rfl rfl Tryz.func61 (by kernel_rfl) rfl #[.int .i64 aC, .int .i64 0, .int .i64 1000000] rfl MT ?_; (with_reducible refine (impl_in.calls aC 0 1000000 true _ bA.out).mono ?_); rintro e w' ⟨rfl, ⟨nd, rfl⟩⟩; refine ⟨_, rfl, ?_⟩) | (go_at_call 61; (with_reducible refine (impl_in.calls aA 1 1000000 true _ cA.out).mono ?_); rintro e w' ⟨rfl, ⟨nd, rfl⟩⟩) | (go_at_call 61; (with_reducible refine (impl_in.calls aF 1 aA true _ cO.out).mono ?_); rintro e w' ⟨rfl, ⟨nd, rfl⟩⟩) | (go_at_call 61; (with_reducible refine (impl_in.calls aH 1 1000000 true _ dM.out).mono ?_); rintro e w' ⟨rfl, ⟨nd, rfl⟩⟩) | (go_at_call 61; (with_reducible refine (impl_in.calls aI 0 aA true _ iD.out).mono ?_); rintro e w' ⟨rfl, ⟨nd, rfl⟩⟩) | (go_at_call 95; (with_reducible refine (impl_WindowOk.calls kj1 aJ _ _ aB aO _ ?_ ?_ iG.out).mono ?_); (repeat (first | exact (Kd.C_below cB.out (K1 HB aE.out)) | (with_reducible refine Kd.C_alloc ?_ _) | (with_reducible refine Kd.C_drewN ?_ _) | (with_reducible refine Kd.C_drew ?_))); exact cC.out; rintro e iH ⟨rfl, hb⟩; replace aD := am (BB aD hb); replace HB := bl (K1 HB aE.out) hb; (try clear hb)))
         go_ret
         exact ⟨ER, K1 HB aE.out⟩
        ·replace dP := Bool.eq_false_iff.mpr dP
         subst dP
         have H1 := nf H
         clear H
         have H := H1
         clear H1
         obtain rfl := sj H
         have ⟨_, _, _, _, _, _, _, _, _, _, _, _⟩ := y11 wc aD.out
         go_wp2_with (first | ((with_reducible refine gate_callee (f := 61) rfl ?_); refine goesL_ (some 22) rfl rfl Tryz.func61 (by kernel_rfl) rfl #[.int .i64 aC, .int .i64 0, .int .i64 1000000] rfl MT ?_; (with_reducible refine (impl_in.calls aC 0 1000000 true _ bA.out).mono ?_); rintro e w' ⟨rfl, ⟨nd, rfl⟩⟩; refine ⟨_, rfl, ?_⟩) | (go_at_call 61; (with_reducible refine (impl_in.calls aA 1 1000000 true _ cA.out).mono ?_); rintro e w' ⟨rfl, ⟨nd, rfl⟩⟩) | (go_at_call 61; (with_reducible refine (impl_in.calls aF 1 aA true _ cO.out).mono ?_); rintro e w' ⟨rfl, ⟨nd, rfl⟩⟩) | (go_at_call 61; (with_reducible refine (impl_in.calls aH 1 1000000 true _ dM.out).mono ?_); rintro e w' ⟨rfl, ⟨nd, rfl⟩⟩) | (go_at_call 61; (with_reducible refine (impl_in.calls aI 0 aA false _ iD.out).mono ?_); rintro e w' ⟨rfl, ⟨nd, rfl⟩⟩))
         go_ret
         exact ⟨ER, K1 HB aE.out⟩
       ·replace dO := Bool.eq_false_iff.mpr dO
        subst dO
        have H1 := nf H
        clear H
        have H := H1
        clear H1
        obtain rfl := sj H
        have ⟨_, _, _, _, _, _, _, _, _, _, _, _⟩ := y11 wc aD.out
        go_wp2_with (first | ((with_reducible refine gate_callee (f := 61) rfl ?_); refine goesL_ (some 22) rfl rfl Tryz.func61 (by kernel_rfl) rfl #[.int .i64 aC, .int .i64 0, .int .i64 1000000] rfl MT ?_; (with_reducible refine (impl_in.calls aC 0 1000000 true _ bA.out).mono ?_); rintro e w' ⟨rfl, ⟨nd, rfl⟩⟩; refine ⟨_, rfl, ?_⟩) | (go_at_call 61; (with_reducible refine (impl_in.calls aA 1 1000000 true _ cA.out).mono ?_); rintro e w' ⟨rfl, ⟨nd, rfl⟩⟩) | (go_at_call 61; (with_reducible refine (impl_in.calls aF 1 aA true _ cO.out).mono ?_); rintro e w' ⟨rfl, ⟨nd, rfl⟩⟩) | (go_at_call 61; (with_reducible refine (impl_in.calls aH 1 1000000 false _ dM.out).mono ?_); rintro e w' ⟨rfl, ⟨nd, rfl⟩⟩))
        go_ret
        exact ⟨ER, K1 HB aE.out⟩
      ·replace dN := Bool.eq_false_iff.mpr dN
       subst dN
       have H1 := nf H
       clear H
       have H := H1
       clear H1
       obtain rfl := sj H
       have ⟨_, _, _, _, _, _, _, _, _, _, _, _⟩ := y11 wc aD.out
       go_wp2_with (first | ((with_reducible refine gate_callee (f := 61) rfl ?_); refine goesL_ (some 22) rfl rfl Tryz.func61 (by kernel_rfl) rfl #[.int .i64 aC, .int .i64 0, .int .i64 1000000] rfl MT ?_; (with_reducible refine (impl_in.calls aC 0 1000000 true _ bA.out).mono ?_); rintro e w' ⟨rfl, ⟨nd, rfl⟩⟩; refine ⟨_, rfl, ?_⟩) | (go_at_call 61; (with_reducible refine (impl_in.calls aA 1 1000000 true _ cA.out).mono ?_); rintro e w' ⟨rfl, ⟨nd, rfl⟩⟩) | (go_at_call 61; (with_reducible refine (impl_in.calls aF 1 aA true _ cO.out).mono ?_); rintro e w' ⟨rfl, ⟨nd, rfl⟩⟩) | (go_at_call 61; (with_reducible refine (impl_in.calls aH 1 1000000 aR _ dM.out).mono ?_); rintro e w' ⟨rfl, ⟨nd, rfl⟩⟩))
       go_ret
       exact ⟨ER, K1 HB aE.out⟩
     ·replace dL := Bool.eq_false_iff.mpr dL
      subst dL
      have H1 := nf H
      clear H
      have H := H1
      clear H1
      by_cases fI : aN = true
      ·subst fI
       have H1 := pf H
       clear H
       have H := H1
       clear H1
       obtain rfl := sj H
       have ⟨_, _, _, _, _, _, _, _, _, _, _, _⟩ := y11 wc aD.out
       go_wp2_with (first | ((with_reducible refine gate_callee (f := 61) rfl ?_); refine goesL_ (some 22) rfl rfl Tryz.func61 (by kernel_rfl) rfl #[.int .i64 aC, .int .i64 0, .int .i64 1000000] rfl MT ?_; (with_reducible refine (impl_in.calls aC 0 1000000 true _ bA.out).mono ?_); rintro e w' ⟨rfl, ⟨nd, rfl⟩⟩; refine ⟨_, rfl, ?_⟩) | (go_at_call 61; (with_reducible refine (impl_in.calls aA 1 1000000 true _ cA.out).mono ?_); rintro e w' ⟨rfl, ⟨nd, rfl⟩⟩) | (go_at_call 61; (with_reducible refine (impl_in.calls aF 1 aA false _ cO.out).mono ?_); rintro e w' ⟨rfl, ⟨nd, rfl⟩⟩))
       go_ret
       exact ⟨ER, K1 HB aE.out⟩
      ·replace fI := Bool.eq_false_iff.mpr fI
       subst fI
       have H1 := nf H
       clear H
       have H := H1
       clear H1
       obtain rfl := sj H
       have ⟨_, _, _, _, _, _, _, _, _, _, _, _⟩ := y11 wc aD.out
       go_wp2_with (first | ((with_reducible refine gate_callee (f := 61) rfl ?_); refine goesL_ (some 22) rfl rfl Tryz.func61 (by kernel_rfl) rfl #[.int .i64 aC, .int .i64 0, .int .i64 1000000] rfl MT ?_; (with_reducible refine (impl_in.calls aC 0 1000000 true _ bA.out).mono ?_); rintro e w' ⟨rfl, ⟨nd, rfl⟩⟩; refine ⟨_, rfl, ?_⟩) | (go_at_call 61; (with_reducible refine (impl_in.calls aA 1 1000000 true _ cA.out).mono ?_); rintro e w' ⟨rfl, ⟨nd, rfl⟩⟩) | (go_at_call 61; (with_reducible refine (impl_in.calls aF 1 aA false _ cO.out).mono ?_); rintro e w' ⟨rfl, ⟨nd, rfl⟩⟩))
       go_ret
       exact ⟨ER, K1 HB aE.out⟩
    ·replace dK := Bool.eq_false_iff.mpr dK
     subst dK
     have H1 := nf H
     clear H
     have H := H1
     clear H1
     by_cases gF : aN = true
     ·subst gF
      have H1 := pf H
      clear H
      have H := H1
      clear H1
      obtain rfl := sj H
      have ⟨_, _, _, _, _, _, _, _, _, _, _, _⟩ := y11 wc aD.out
      go_wp2_with (first | ((with_reducible refine gate_callee (f := 61) rfl ?_); refine goesL_ (some 22) rfl rfl Tryz.func61 (by kernel_rfl) rfl #[.int .i64 aC, .int .i64 0, .int .i64 1000000] rfl MT ?_; (with_reducible refine (impl_in.calls aC 0 1000000 true _ bA.out).mono ?_); rintro e w' ⟨rfl, ⟨nd, rfl⟩⟩; refine ⟨_, rfl, ?_⟩) | (go_at_call 61; (with_reducible refine (impl_in.calls aA 1 1000000 false _ cA.out).mono ?_); rintro e w' ⟨rfl, ⟨nd, rfl⟩⟩))
      go_ret
      exact ⟨ER, K1 HB aE.out⟩
     ·replace gF := Bool.eq_false_iff.mpr gF
      subst gF
      have H1 := nf H
      clear H
      have H := H1
      clear H1
      obtain rfl := sj H
      have ⟨_, _, _, _, _, _, _, _, _, _, _, _⟩ := y11 wc aD.out
      go_wp2_with (first | ((with_reducible refine gate_callee (f := 61) rfl ?_); refine goesL_ (some 22) rfl rfl Tryz.func61 (by kernel_rfl) rfl #[.int .i64 aC, .int .i64 0, .int .i64 1000000] rfl MT ?_; (with_reducible refine (impl_in.calls aC 0 1000000 true _ bA.out).mono ?_); rintro e w' ⟨rfl, ⟨nd, rfl⟩⟩; refine ⟨_, rfl, ?_⟩) | (go_at_call 61; (with_reducible refine (impl_in.calls aA 1 1000000 false _ cA.out).mono ?_); rintro e w' ⟨rfl, ⟨nd, rfl⟩⟩))
      go_ret
      exact ⟨ER, K1 HB aE.out⟩
   ·replace dJ := Bool.eq_false_iff.mpr dJ
    subst dJ
    have H1 := nf H
    clear H
    have H := H1
    clear H1
    by_cases hC : aN = true
    ·subst hC
     have H1 := pf H
     clear H
     have H := H1
     clear H1
     obtain rfl := sj H
     have ⟨_, _, _, _, _, _, _, _, _, _, _, _⟩ := y11 wc aD.out
     go_wp2_with (first | ((with_reducible refine gate_callee (f := 61) rfl ?_); refine goesL_ (some 22) rfl rfl Tryz.func61 (by kernel_rfl) rfl #[.int .i64 aC, .int .i64 0, .int .i64 1000000] rfl MT ?_; (with_reducible refine (impl_in.calls aC 0 1000000 false _ bA.out).mono ?_); rintro e w' ⟨rfl, ⟨nd, rfl⟩⟩; refine ⟨_, rfl, ?_⟩))
     go_ret
     exact ⟨ER, K1 HB aE.out⟩
    ·replace hC := Bool.eq_false_iff.mpr hC
     subst hC
     have H1 := nf H
     clear H
     have H := H1
     clear H1
     obtain rfl := sj H
     have ⟨_, _, _, _, _, _, _, _, _, _, _, _⟩ := y11 wc aD.out
     go_wp2_with (first | ((with_reducible refine gate_callee (f := 61) rfl ?_); refine goesL_ (some 22) rfl rfl Tryz.func61 (by kernel_rfl) rfl #[.int .i64 aC, .int .i64 0, .int .i64 1000000] rfl MT ?_; (with_reducible refine (impl_in.calls aC 0 1000000 false _ bA.out).mono ?_); rintro e w' ⟨rfl, ⟨nd, rfl⟩⟩; refine ⟨_, rfl, ?_⟩))
     go_ret
     exact ⟨ER, K1 HB aE.out⟩
mutual
def impl_ascending_tunOf.l0 (qfn : Int → Int → ByteArray → ByteArray → Int → Int → Int → Int → Int → Int → List Int → Option Int) : Nat → List (S48) → Int → List (S48) → Int → Int → Option (Bool)
 | 0, _, _, _, _, _ => none
 | k + 1, x0, x1, x9, x10, x11 => if x11 < x10 then (if 0 ≤ x11 then (if x11 < (x9.length : Int) then ((impl_SaOk.f k ((rd_T48 x9 x11).f0) ((rd_T48 x9 x11).f1) ((rd_T48 x9 x11).f2) ((rd_T48 x9 x11).f3) ((rd_T48 x9 x11).f4) ((rd_T48 x9 x11).f5) ((rd_T48 x9 x11).f6) ((rd_T48 x9 x11).f7) ((rd_T48 x9 x11).f8) ((rd_T48 x9 x11).f9.f0) ((rd_T48 x9 x11).f9.f1)).bind fun t103 => (if t103 = true then (if ((rd_T48 x9 x11).f4) > x1 then (impl_ascending_tunOf.j1 qfn k x0 x1 x9 x10 x11 true) else (if x11 > 0 then (if 0 ≤ (wrap64 (x11 - 1)) then (if (wrap64 (x11 - 1)) < (x0.length : Int) then ((qfn ((rd_T48 x0 (wrap64 (x11 - 1))).f0) ((rd_T48 x0 (wrap64 (x11 - 1))).f1) ((rd_T48 x0 (wrap64 (x11 - 1))).f2) ((rd_T48 x0 (wrap64 (x11 - 1))).f3) ((rd_T48 x0 (wrap64 (x11 - 1))).f4) ((rd_T48 x0 (wrap64 (x11 - 1))).f5) ((rd_T48 x0 (wrap64 (x11 - 1))).f6) ((rd_T48 x0 (wrap64 (x11 - 1))).f7) ((rd_T48 x0 (wrap64 (x11 - 1))).f8) ((rd_T48 x0 (wrap64 (x11 - 1))).f9.f0) ((rd_T48 x0 (wrap64 (x11 - 1))).f9.f1)).bind fun t105 => ((qfn ((rd_T48 x9 x11).f0) ((rd_T48 x9 x11).f1) ((rd_T48 x9 x11).f2) ((rd_T48 x9 x11).f3) ((rd_T48 x9 x11).f4) ((rd_T48 x9 x11).f5) ((rd_T48 x9 x11).f6) ((rd_T48 x9 x11).f7) ((rd_T48 x9 x11).f8) ((rd_T48 x9 x11).f9.f0) ((rd_T48 x9 x11).f9.f1)).bind fun t106 => (impl_ascending_tunOf.j1 qfn k x0 x1 x9 x10 x11 (decide (t105 ≥ t106))))) else (none)) else (none)) else (impl_ascending_tunOf.j1 qfn k x0 x1 x9 x10 x11 false))) else (impl_ascending_tunOf.j1 qfn k x0 x1 x9 x10 x11 true))) else (none)) else (none)) else (some true)
def impl_ascending_tunOf.j1 (qfn : Int → Int → ByteArray → ByteArray → Int → Int → Int → Int → Int → Int → List Int → Option Int) : Nat → List (S48) → Int → List (S48) → Int → Int → Bool → Option (Bool)
 | 0, _, _, _, _, _, _ => none
 | k + 1, x0, x1, x9, x10, x11, x41 => if x41 = true then (some false) else (impl_ascending_tunOf.l0 qfn k x0 x1 x9 x10 (wrap64 (x11 + 1)))
end
def impl_ascending_tunOf.g (qfn : Int → Int → ByteArray → ByteArray → Int → Int → Int → Int → Int → Int → List Int → Option Int) (k : Nat) (l0 : List (S48)) (a1 : Int)  : Option (Bool) := impl_ascending_tunOf.l0 qfn k l0 a1 l0 (l0.length : Int) 0
def impl_ascending_tunOf.T4 : Bool × List (List Nat × List Nat) := (true, [([], []), ([0], [0]), ([1], [1]), ([2, 1], [2]), ([3], [3]), ([4, 3], [3, 4]), ([3], [3]), ([5, 6, 3], [3, 5, 6]), ([3, 7], [3, 7]), ([8, 3], [8]), ([9], [9]), ([10, 9], [9, 10]), ([11, 9, 9], [9, 11]), ([12], [12]), ([12], [12]), ([12], [12]), ([15, 12], [12, 15]), ([14, 16, 12], [12, 14, 16]), ([17, 12], [12, 17]), ([13, 18, 12, 12], [12, 13, 18]), ([12], [12]), ([12], [12]), ([20, 21, 19, 12], [12, 20, 21]), ([19, 22, 12], [12, 19, 22]), ([12, 23, 9], [9, 12, 23]), ([9, 24], [9, 24])])
def impl_ascending_tunOf.B4 : List Nat := [0, 1, 3, 7, 15, 31, 15, 127, 255, 511, 1023, 2047, 4095, 8191, 8191, 8191, 40959, 122879, 253951, 524287, 8191, 8191, 4194303, 8388607, 16777215, 33554431]
theorem impl_ascending_tunOf.tab4 : rtab .any (opsOf Tryz.f63 4) = impl_ascending_tunOf.T4 := by kernel_rfl
theorem impl_ascending_tunOf.bits4 : waitsOk impl_ascending_tunOf.T4.2 impl_ascending_tunOf.B4 = true := by kernel_rfl
theorem impl_ascending_tunOf.gcalls (qfn : Int → Int → ByteArray → ByteArray → Int → Int → Int → Int → Int → Int → List Int → Option Int) {fo : Nat} {fn : Func} (hpf : Tryz.prog.funcs[fo]? = some fn) (hpn : (fn.name == "runtime.NumGoroutine") = false) (hpb : fn.body.isSome = true) (hpc : ∀ (a0 a1 : Int) (a2 a3 : ByteArray) (a4 a5 a6 a7 a8 a9 : Int) (A : Option Addr) (c : Nat) (l : List Int) (r : Int) (w : World), Kd.C (Kd.int .i64) w A l.length l → l.length ≤ c → qfn a0 a1 a2 a3 a4 a5 a6 a7 a8 a9 l = some r → Calls Tryz.prog fo #[.agg #[.int .i64 a0, .int .i64 a1, .string a2, .string a3, .int .i64 a4, .int .i64 a5, .int .i64 a6, .int .i64 a7, .int .i64 a8, .int .i64 a9, .slice A l.length c]] w fun e w' => e = .returned (.int .i64 r) ∧ Below w.heap.size w w') (k : Nat) (A0 : Option Addr) (c0 : Nat) (l0 : List (S48)) (a1 : Int)  (r : Bool) (w : World) (hr0 : Kd.C k48 w A0 l0.length l0) (hc0 : l0.length ≤ c0) (h : impl_ascending_tunOf.g qfn k l0 a1 = some r) :
  Calls Tryz.prog 63 #[.slice A0 l0.length c0, .int .i64 a1, .func (.func fo) #[] #[]] w fun e w' => e = .returned (.bool r) ∧ Below w.heap.size w w' := by
 have hu48 := Tryz.underlying48
 have HR0 := Aside0.mk hr0
 have HC0 := Aside0.mk hc0
 clear hr0 hc0
 have HB := am (Below.refl w.heap.size w)
 have H : (impl_ascending_tunOf.l0 qfn k l0 a1 l0 (l0.length : Int) 0) = some r := h
 clear h
 have H' := Aside0.mk H
 clear H
 go_enter Tryz.func63, Tryz.ntmps63
 go_wp2
 go_loopg [11] k (fun kq v11 w' => ∃ (x11_1 : Int), v11 = .int .i64 x11_1 ∧ Aside0 (impl_ascending_tunOf.l0 qfn kq l0 a1 l0 (l0.length : Int) x11_1 = some r) ∧ Aside0 (kq ≤ k) ∧ Aside0 (Below w.heap.size w w'))
 case atStart => exact ⟨(0), (by first | rfl | (simp; done) | (simp [*]; done)), H', ⟨Nat.le_refl _⟩, ⟨KL HB⟩⟩
 case round =>
  clear H'
  try clear p2
  obtain ⟨x11_1, rfl, HA, HK1, HB⟩ := hrel
  cases gk with
  | zero => exact absurd HA.out (by simp [impl_ascending_tunOf.l0])
  | succ k1 =>
   have H := HA.out
   clear HA
   simp only [impl_ascending_tunOf.l0] at H
   by_cases c4 : x11_1 < (l0.length : Int)
   ·rw [if_pos c4] at H
    have c4b0 : decide (x11_1 < (l0.length : Int)) = true := decide_eq_true c4
    clear c4
    by_cases c5 : 0 ≤ x11_1
    ·rw [if_pos c5] at H
     have c5b0 : decide (0 ≤ x11_1) = true := decide_eq_true c5
     clear c5
     by_cases c6 : x11_1 < (l0.length : Int)
     ·rw [if_pos c6] at H
      have c6b0 : decide (x11_1 < (l0.length : Int)) = true := decide_eq_true c6
      clear c6
      have HC7 := Aside0.mk H
      clear H
      have p101 : 0 ≤ (x11_1 : Int) := OD
      have q101 : x11_1 < (l0.length : Int) := OD
      obtain ⟨ad101, A101_10, c101_10, e101, hx101_0, hx101_1, hx101_2, hx101_3, hx101_4, hx101_5, hx101_6, hx101_7, hx101_8, hx101_9, hx101_10, hl101_10, hi101_10⟩ := at_T48 HR0.out x11_1 p101 q101
      cases e101
      replace hx101_0 := CX HB.out hx101_0
      replace hx101_1 := CX HB.out hx101_1
      replace hx101_2 := CX HB.out hx101_2
      replace hx101_3 := CX HB.out hx101_3
      replace hx101_4 := CX HB.out hx101_4
      replace hx101_5 := CX HB.out hx101_5
      replace hx101_6 := CX HB.out hx101_6
      replace hx101_7 := CX HB.out hx101_7
      replace hx101_8 := CX HB.out hx101_8
      replace hx101_9 := CX HB.out hx101_9
      replace hx101_10 := CX HB.out hx101_10
      have HR101_10 := Aside0.mk hi101_10
      have HC101_10 := Aside0.mk hl101_10
      clear hi101_10 hl101_10
      replace p101 := eq_true p101
      replace q101 := eq_true q101
      go_upto_region 4 with (first | ((with_reducible refine gate_dst (N := 8) rfl ?_); refine box_event rfl (N := 8) rfl (cs := #[.int .i64 0, .int .i64 0, .string (⟨#[]⟩ : ByteArray), .string (⟨#[]⟩ : ByteArray), .int .i64 0, .int .i64 0, .int .i64 0, .int .i64 0, .int .i64 0, .int .i64 0, .slice none 0 0]) (t := 48) BX ?_; intro gb102 hg w8 hbox hb; have BK102 := am (hbox); have GW102 := am (GH HB hg); have GE102 := GW102; replace HB := bl (KL HB) hb; clear hb hbox hg; obtain ⟨hcz9_0, hcz9_1, hcz9_2, hcz9_3, hcz9_4, hcz9_5, hcz9_6, hcz9_7, hcz9_8, hcz9_9, hcz9_10, hfz9_0⟩ := y11 w8 BK102.out))
      (try simp only [Act.put, List.setIfInBounds_toArray, List.set_cons_zero, List.set_cons_succ])
      go_cut [41] (fun v41 wc => ∃ (kq : Nat) (x41_6 : Bool), v41 = .bool x41_6 ∧ Aside0 (impl_ascending_tunOf.j1 qfn kq l0 a1 l0 (l0.length : Int) x11_1 x41_6 = some r) ∧ Aside0 (kq ≤ k1) ∧ Aside0 (wc.heap[gb102]? = some (.cells #[.int .i64 ((rd_T48 l0 x11_1).f0), .int .i64 ((rd_T48 l0 x11_1).f1), .string ((rd_T48 l0 x11_1).f2), .string ((rd_T48 l0 x11_1).f3), .int .i64 ((rd_T48 l0 x11_1).f4), .int .i64 ((rd_T48 l0 x11_1).f5), .int .i64 ((rd_T48 l0 x11_1).f6), .int .i64 ((rd_T48 l0 x11_1).f7), .int .i64 ((rd_T48 l0 x11_1).f8), .int .i64 ((rd_T48 l0 x11_1).f9.f0), (.slice A101_10 ((rd_T48 l0 x11_1).f9.f1).length c101_10)] 48 (0, 0))) ∧ Aside0 (Below w.heap.size w wc))
      case first =>
       have H := HC7.out
       clear HC7
       replace H := bm H
       obtain ⟨t103, A100, H⟩ := H
       replace H : (if t103 = true then (if ((rd_T48 l0 x11_1).f4) > a1 then (impl_ascending_tunOf.j1 qfn k1 l0 a1 l0 (l0.length : Int) x11_1 true) else (if x11_1 > 0 then (if 0 ≤ (wrap64 (x11_1 - 1)) then (if (wrap64 (x11_1 - 1)) < (l0.length : Int) then ((qfn ((rd_T48 l0 (wrap64 (x11_1 - 1))).f0) ((rd_T48 l0 (wrap64 (x11_1 - 1))).f1) ((rd_T48 l0 (wrap64 (x11_1 - 1))).f2) ((rd_T48 l0 (wrap64 (x11_1 - 1))).f3) ((rd_T48 l0 (wrap64 (x11_1 - 1))).f4) ((rd_T48 l0 (wrap64 (x11_1 - 1))).f5) ((rd_T48 l0 (wrap64 (x11_1 - 1))).f6) ((rd_T48 l0 (wrap64 (x11_1 - 1))).f7) ((rd_T48 l0 (wrap64 (x11_1 - 1))).f8) ((rd_T48 l0 (wrap64 (x11_1 - 1))).f9.f0) ((rd_T48 l0 (wrap64 (x11_1 - 1))).f9.f1)).bind fun t105 => ((qfn ((rd_T48 l0 x11_1).f0) ((rd_T48 l0 x11_1).f1) ((rd_T48 l0 x11_1).f2) ((rd_T48 l0 x11_1).f3) ((rd_T48 l0 x11_1).f4) ((rd_T48 l0 x11_1).f5) ((rd_T48 l0 x11_1).f6) ((rd_T48 l0 x11_1).f7) ((rd_T48 l0 x11_1).f8) ((rd_T48 l0 x11_1).f9.f0) ((rd_T48 l0 x11_1).f9.f1)).bind fun t106 => (impl_ascending_tunOf.j1 qfn k1 l0 a1 l0 (l0.length : Int) x11_1 (decide (t105 ≥ t106))))) else (none)) else (none)) else (impl_ascending_tunOf.j1 qfn k1 l0 a1 l0 (l0.length : Int) x11_1 false))) else (impl_ascending_tunOf.j1 qfn k1 l0 a1 l0 (l0.length : Int) x11_1 true)) = some r := H
       have A10 := Aside0.mk A100
       clear A100
       by_cases c11 : t103 = true
       ·subst c11
        have H1 := pf H
        clear H
        have H := H1
        clear H1
        by_cases c12 : ((rd_T48 l0 x11_1).f4) > a1
        ·rw [if_pos c12] at H
         have c12b0 : decide (a1 < ((rd_T48 l0 x11_1).f4)) = true := decide_eq_true c12
         clear c12
         (first | rw [c12b0] | (simp only [i64_w, i32_w]; rw [c12b0]) | skip)
         have H' := Aside0.mk H
         clear H
         try go_wp2
         generalize hq_ : (((((((((((w8.setCell ⟨gb102, 0, none⟩ (.int .i64 ((rd_T48 l0 x11_1).f0))).setCell ⟨gb102, 1, none⟩ (.int .i64 ((rd_T48 l0 x11_1).f1))).setCell ⟨gb102, 2, none⟩ (.string ((rd_T48 l0 x11_1).f2))).setCell ⟨gb102, 3, none⟩ (.string ((rd_T48 l0 x11_1).f3))).setCell ⟨gb102, 4, none⟩ (.int .i64 ((rd_T48 l0 x11_1).f4))).setCell ⟨gb102, 5, none⟩ (.int .i64 ((rd_T48 l0 x11_1).f5))).setCell ⟨gb102, 6, none⟩ (.int .i64 ((rd_T48 l0 x11_1).f6))).setCell ⟨gb102, 7, none⟩ (.int .i64 ((rd_T48 l0 x11_1).f7))).setCell ⟨gb102, 8, none⟩ (.int .i64 ((rd_T48 l0 x11_1).f8))).setCell ⟨gb102, 9, none⟩ (.int .i64 ((rd_T48 l0 x11_1).f9.f0))).setCell ⟨gb102, 10, none⟩ (.slice A101_10 ((rd_T48 l0 x11_1).f9.f1).length c101_10)) = w13
         have n0_ : Aside0 (w13.heap[gb102]? = some (.cells #[.int .i64 ((rd_T48 l0 x11_1).f0), .int .i64 ((rd_T48 l0 x11_1).f1), .string ((rd_T48 l0 x11_1).f2), .string ((rd_T48 l0 x11_1).f3), .int .i64 ((rd_T48 l0 x11_1).f4), .int .i64 ((rd_T48 l0 x11_1).f5), .int .i64 ((rd_T48 l0 x11_1).f6), .int .i64 ((rd_T48 l0 x11_1).f7), .int .i64 ((rd_T48 l0 x11_1).f8), .int .i64 ((rd_T48 l0 x11_1).f9.f0), .slice A101_10 ((rd_T48 l0 x11_1).f9.f1).length c101_10] 48 (0, 0))) := ⟨by rw [← hq_]; exact P11 BK102⟩
         have n1_ : Aside0 (Below w.heap.size w w13) := ⟨by rw [← hq_]; exact K1 HB GE102.out⟩
         clear hq_
         (try clear BK102)
         (try clear HB)
         have BK102 := n0_
         have HB := n1_
         clear n0_ n1_
         replace BK102 := am (blk_drew BK102.out)
         replace HB := am (below_drew1 HB.out)
         refine start_ (n := 26) (S := fun w' => de11 w' gb102 (.int .i64 ((rd_T48 l0 x11_1).f0)) (.int .i64 ((rd_T48 l0 x11_1).f1)) (.string ((rd_T48 l0 x11_1).f2)) (.string ((rd_T48 l0 x11_1).f3)) (.int .i64 ((rd_T48 l0 x11_1).f4)) (.int .i64 ((rd_T48 l0 x11_1).f5)) (.int .i64 ((rd_T48 l0 x11_1).f6)) (.int .i64 ((rd_T48 l0 x11_1).f7)) (.int .i64 ((rd_T48 l0 x11_1).f8)) (.int .i64 ((rd_T48 l0 x11_1).f9.f0)) (.slice A101_10 ((rd_T48 l0 x11_1).f9.f1).length c101_10)) (ds := []) (tf 0 26) (by kernel_rfl) rfl rfl ⟨z0 _ BK102.out, z1 _ BK102.out, z2 _ BK102.out, z3 _ BK102.out, z4 _ BK102.out, z5 _ BK102.out, z6 _ BK102.out, z7 _ BK102.out, z8 _ BK102.out, z9 _ BK102.out, z10 _ BK102.out⟩ (fun hHeld => ?_); refine with_tabW impl_ascending_tunOf.tab4 impl_ascending_tunOf.bits4 (fun HT_ HW_ => ?_)
         generalize w13.drew = w14 at BK102 HB hHeld ⊢
         refine tk 0 (some 16) (tf 1 25) (take_ofW HT_.out HW_.out (by kernel_rfl)) hHeld ?_
         refine one_ (i := 1) (N := some 17) (tf 2 24) rfl rfl (one_of HT_.out (by kernel_rfl)) (by decide) (fun K hK => ?_)
         refine goes_ Tryz.func69 (by kernel_rfl) rfl #[.agg #[.int .i64 ((rd_T48 l0 x11_1).f0), .int .i64 ((rd_T48 l0 x11_1).f1), .string ((rd_T48 l0 x11_1).f2), .string ((rd_T48 l0 x11_1).f3), .int .i64 ((rd_T48 l0 x11_1).f4), .int .i64 ((rd_T48 l0 x11_1).f5), .int .i64 ((rd_T48 l0 x11_1).f6), .int .i64 ((rd_T48 l0 x11_1).f7), .int .i64 ((rd_T48 l0 x11_1).f8), .int .i64 ((rd_T48 l0 x11_1).f9.f0), .slice A101_10 ((rd_T48 l0 x11_1).f9.f1).length c101_10]] (by rfl) rfl rfl MT ?_
         with_reducible refine (impl_SaOk.calls k1 ((rd_T48 l0 x11_1).f0) ((rd_T48 l0 x11_1).f1) ((rd_T48 l0 x11_1).f2) ((rd_T48 l0 x11_1).f3) ((rd_T48 l0 x11_1).f4) ((rd_T48 l0 x11_1).f5) ((rd_T48 l0 x11_1).f6) ((rd_T48 l0 x11_1).f7) ((rd_T48 l0 x11_1).f8) ((rd_T48 l0 x11_1).f9.f0) _ _ ((rd_T48 l0 x11_1).f9.f1) true _ ?_ ?_ A10.out).mono ?_
         exact KD HR101_10 HB
         exact HC101_10.out
         rintro e w15 ⟨rfl, hb⟩
         refine ⟨_, rfl, ?_⟩
         replace BK102 := am (BB BK102 hb)
         replace HB := bl (K1 HB GE102.out) hb
         (try clear hb)
         (try clear hb2)
         (try clear hk)
         (try clear hi)
         refine hK.out _ _ ⟨z0 _ BK102.out, z1 _ BK102.out, z2 _ BK102.out, z3 _ BK102.out, z4 _ BK102.out, z5 _ BK102.out, z6 _ BK102.out, z7 _ BK102.out, z8 _ BK102.out, z9 _ BK102.out, z10 _ BK102.out⟩ (fun hHeld => ?_)
         clear hK K
         refine nm (some 17) ?_
         refine pv HT_ 2 18 (tf 3 23) ?_
         refine pv HT_ 3 19 (tf 4 22) ?_
         refine pv HT_ 4 20 (tf 5 21) ?_
         refine pv HT_ 6 22 (tr [5, 1, 1, 19]) ?_
         refine tk 5 (some 21) (tf 7 19) (take_ofW HT_.out HW_.out (by kernel_rfl)) hHeld ?_
         refine pv HT_ 7 23 (tf 8 18) ?_
         refine pv HT_ 8 24 (tf 9 17) ?_
         refine pv HT_ 9 25 (tf 10 16) ?_
         refine pw HT_ 10 26 (tf 11 15) ?_
         refine pw HT_ 11 27 (tf 12 14) ?_
         refine pw HT_ 12 28 (tf 13 13) ?_
         refine pw HT_ 13 29 (tf 14 12) ?_
         refine pw HT_ 14 30 (tf 15 11) ?_
         refine pw HT_ 15 31 (tf 16 10) ?_
         refine pw HT_ 16 32 (tf 17 9) ?_
         refine pw HT_ 17 33 (tf 18 8) ?_
         refine pw HT_ 18 34 (tf 19 7) ?_
         refine pw HT_ 19 35 (tf 20 6) ?_
         refine pw HT_ 20 36 (tf 21 5) ?_
         refine pw HT_ 21 37 (tf 22 4) ?_
         refine pw HT_ 22 38 (tf 23 3) ?_
         refine pw HT_ 23 39 (tf 24 2) ?_
         refine pw HT_ 24 40 (tf 25 1) ?_
         refine pv HT_ 25 41 (tf 26 0) ?_
         refine done_ (done_of HT_.out (by kernel_rfl)) ?_
         try go_wp2
         go_meet
         case rel => exact ⟨_, (true), (by first | rfl | (simp; done) | (simp [*]; done)), H', ⟨by have := HK1.out; first | omega | exact Nat.le_refl _⟩, ⟨KB BK102⟩, ⟨K1 HB GE102.out⟩⟩
        ·rw [if_neg c12] at H
         have c12b0 : decide (a1 < ((rd_T48 l0 x11_1).f4)) = false := decide_eq_false c12
         clear c12
         (first | rw [c12b0] | (simp only [i64_w, i32_w]; rw [c12b0]) | skip)
         by_cases c16 : x11_1 > 0
         ·rw [if_pos c16] at H
          have c16b0 : decide (0 < x11_1) = true := decide_eq_true c16
          clear c16
          obtain ⟨ji17, hji17⟩ : ∃ j_ : Int, (wrap64 (x11_1 - 1)) = j_ := ⟨_, rfl⟩
          replace H : (if 0 ≤ (ji17) then (if (ji17) < (l0.length : Int) then ((qfn ((rd_T48 l0 (ji17)).f0) ((rd_T48 l0 (ji17)).f1) ((rd_T48 l0 (ji17)).f2) ((rd_T48 l0 (ji17)).f3) ((rd_T48 l0 (ji17)).f4) ((rd_T48 l0 (ji17)).f5) ((rd_T48 l0 (ji17)).f6) ((rd_T48 l0 (ji17)).f7) ((rd_T48 l0 (ji17)).f8) ((rd_T48 l0 (ji17)).f9.f0) ((rd_T48 l0 (ji17)).f9.f1)).bind fun t105 => ((qfn ((rd_T48 l0 x11_1).f0) ((rd_T48 l0 x11_1).f1) ((rd_T48 l0 x11_1).f2) ((rd_T48 l0 x11_1).f3) ((rd_T48 l0 x11_1).f4) ((rd_T48 l0 x11_1).f5) ((rd_T48 l0 x11_1).f6) ((rd_T48 l0 x11_1).f7) ((rd_T48 l0 x11_1).f8) ((rd_T48 l0 x11_1).f9.f0) ((rd_T48 l0 x11_1).f9.f1)).bind fun t106 => (impl_ascending_tunOf.j1 qfn k1 l0 a1 l0 (l0.length : Int) x11_1 (decide (t105 ≥ t106))))) else (none)) else (none)) = some r := by first | (rw [hji17] at H; exact H) | (simp only [hji17] at H ⊢; exact H)
          (try rw [hji17] at A10)
          have hji17w : (IntKind.i64.wrap (x11_1 - 1)) = ji17 := (i64_w _).trans hji17
          by_cases c18 : 0 ≤ (ji17)
          ·rw [if_pos c18] at H
           have c18b0 : decide (0 ≤ (ji17)) = true := decide_eq_true c18
           clear c18
           by_cases c19 : (ji17) < (l0.length : Int)
           ·rw [if_pos c19] at H
            have c19b0 : decide ((ji17) < (l0.length : Int)) = true := decide_eq_true c19
            clear c19
            replace H := bm H
            obtain ⟨t105, A200, H⟩ := H
            replace H : ((qfn ((rd_T48 l0 x11_1).f0) ((rd_T48 l0 x11_1).f1) ((rd_T48 l0 x11_1).f2) ((rd_T48 l0 x11_1).f3) ((rd_T48 l0 x11_1).f4) ((rd_T48 l0 x11_1).f5) ((rd_T48 l0 x11_1).f6) ((rd_T48 l0 x11_1).f7) ((rd_T48 l0 x11_1).f8) ((rd_T48 l0 x11_1).f9.f0) ((rd_T48 l0 x11_1).f9.f1)).bind fun t106 => (impl_ascending_tunOf.j1 qfn k1 l0 a1 l0 (l0.length : Int) x11_1 (decide (t105 ≥ t106)))) = some r := H
            have A20 := Aside0.mk A200
            clear A200
            replace H := bm H
            obtain ⟨t106, A210, H⟩ := H
            replace H : (impl_ascending_tunOf.j1 qfn k1 l0 a1 l0 (l0.length : Int) x11_1 (decide (t105 ≥ t106))) = some r := H
            have A21 := Aside0.mk A210
            clear A210
            have H' := Aside0.mk H
            clear H
            try go_wp2
            generalize hq_ : (((((((((((w8.setCell ⟨gb102, 0, none⟩ (.int .i64 ((rd_T48 l0 x11_1).f0))).setCell ⟨gb102, 1, none⟩ (.int .i64 ((rd_T48 l0 x11_1).f1))).setCell ⟨gb102, 2, none⟩ (.string ((rd_T48 l0 x11_1).f2))).setCell ⟨gb102, 3, none⟩ (.string ((rd_T48 l0 x11_1).f3))).setCell ⟨gb102, 4, none⟩ (.int .i64 ((rd_T48 l0 x11_1).f4))).setCell ⟨gb102, 5, none⟩ (.int .i64 ((rd_T48 l0 x11_1).f5))).setCell ⟨gb102, 6, none⟩ (.int .i64 ((rd_T48 l0 x11_1).f6))).setCell ⟨gb102, 7, none⟩ (.int .i64 ((rd_T48 l0 x11_1).f7))).setCell ⟨gb102, 8, none⟩ (.int .i64 ((rd_T48 l0 x11_1).f8))).setCell ⟨gb102, 9, none⟩ (.int .i64 ((rd_T48 l0 x11_1).f9.f0))).setCell ⟨gb102, 10, none⟩ (.slice A101_10 ((rd_T48 l0 x11_1).f9.f1).length c101_10)) = w22
            have n0_ : Aside0 (w22.heap[gb102]? = some (.cells #[.int .i64 ((rd_T48 l0 x11_1).f0), .int .i64 ((rd_T48 l0 x11_1).f1), .string ((rd_T48 l0 x11_1).f2), .string ((rd_T48 l0 x11_1).f3), .int .i64 ((rd_T48 l0 x11_1).f4), .int .i64 ((rd_T48 l0 x11_1).f5), .int .i64 ((rd_T48 l0 x11_1).f6), .int .i64 ((rd_T48 l0 x11_1).f7), .int .i64 ((rd_T48 l0 x11_1).f8), .int .i64 ((rd_T48 l0 x11_1).f9.f0), .slice A101_10 ((rd_T48 l0 x11_1).f9.f1).length c101_10] 48 (0, 0))) := ⟨by rw [← hq_]; exact P11 BK102⟩
            have n1_ : Aside0 (Below w.heap.size w w22) := ⟨by rw [← hq_]; exact K1 HB GE102.out⟩
            clear hq_
            (try clear BK102)
            (try clear HB)
            have BK102 := n0_
            have HB := n1_
            clear n0_ n1_
            replace BK102 := am (blk_drew BK102.out)
            replace HB := am (below_drew1 HB.out)
            have p104 : 0 ≤ ((ji17) : Int) := OD
            have q104 : (ji17) < (l0.length : Int) := OD
            obtain ⟨ad104, A104_10, c104_10, e104, hx104_0, hx104_1, hx104_2, hx104_3, hx104_4, hx104_5, hx104_6, hx104_7, hx104_8, hx104_9, hx104_10, hl104_10, hi104_10⟩ := at_T48 HR0.out (ji17) p104 q104
            have hw104_10 := hx104_10
            have hw104_9 := hx104_9
            have hw104_8 := hx104_8
            have hw104_7 := hx104_7
            have hw104_6 := hx104_6
            have hw104_5 := hx104_5
            have hw104_4 := hx104_4
            have hw104_3 := hx104_3
            have hw104_2 := hx104_2
            have hw104_1 := hx104_1
            have hw104_0 := hx104_0
            obtain rfl : ad101 = ad104 := (by injection e104)
            replace hx104_0 := CX HB.out hx104_0
            replace hx104_1 := CX HB.out hx104_1
            replace hx104_2 := CX HB.out hx104_2
            replace hx104_3 := CX HB.out hx104_3
            replace hx104_4 := CX HB.out hx104_4
            replace hx104_5 := CX HB.out hx104_5
            replace hx104_6 := CX HB.out hx104_6
            replace hx104_7 := CX HB.out hx104_7
            replace hx104_8 := CX HB.out hx104_8
            replace hx104_9 := CX HB.out hx104_9
            replace hx104_10 := CX HB.out hx104_10
            have HR104_10 := Aside0.mk hi104_10
            have HC104_10 := Aside0.mk hl104_10
            clear hi104_10 hl104_10
            replace p104 := eq_true p104
            replace q104 := eq_true q104
            refine start_ (n := 26) (S := fun w' => ce11 w' gb102 (.int .i64 ((rd_T48 l0 x11_1).f0)) (.int .i64 ((rd_T48 l0 x11_1).f1)) (.string ((rd_T48 l0 x11_1).f2)) (.string ((rd_T48 l0 x11_1).f3)) (.int .i64 ((rd_T48 l0 x11_1).f4)) (.int .i64 ((rd_T48 l0 x11_1).f5)) (.int .i64 ((rd_T48 l0 x11_1).f6)) (.int .i64 ((rd_T48 l0 x11_1).f7)) (.int .i64 ((rd_T48 l0 x11_1).f8)) (.int .i64 ((rd_T48 l0 x11_1).f9.f0)) (.slice A101_10 ((rd_T48 l0 x11_1).f9.f1).length c101_10) (w'.cell? (ad101.add (((ji17)).toNat * 11)) = some (.int .i64 ((rd_T48 l0 (ji17)).f0)) ∧ w'.cell? ⟨(ad101.add (((ji17)).toNat * 11)).block, (ad101.add (((ji17)).toNat * 11)).off + 1, none⟩ = some (.int .i64 ((rd_T48 l0 (ji17)).f1)) ∧ w'.cell? ⟨(ad101.add (((ji17)).toNat * 11)).block, (ad101.add (((ji17)).toNat * 11)).off + 2, none⟩ = some (.string ((rd_T48 l0 (ji17)).f2)) ∧ w'.cell? ⟨(ad101.add (((ji17)).toNat * 11)).block, (ad101.add (((ji17)).toNat * 11)).off + 3, none⟩ = some (.string ((rd_T48 l0 (ji17)).f3)) ∧ w'.cell? ⟨(ad101.add (((ji17)).toNat * 11)).block, (ad101.add (((ji17)).toNat * 11)).off + 4, none⟩ = some (.int .i64 ((rd_T48 l0 (ji17)).f4)) ∧ w'.cell? ⟨(ad101.add (((ji17)).toNat * 11)).block, (ad101.add (((ji17)).toNat * 11)).off + 5, none⟩ = some (.int .i64 ((rd_T48 l0 (ji17)).f5)) ∧ w'.cell? ⟨(ad101.add (((ji17)).toNat * 11)).block, (ad101.add (((ji17)).toNat * 11)).off + 6, none⟩ = some (.int .i64 ((rd_T48 l0 (ji17)).f6)) ∧ w'.cell? ⟨(ad101.add (((ji17)).toNat * 11)).block, (ad101.add (((ji17)).toNat * 11)).off + 7, none⟩ = some (.int .i64 ((rd_T48 l0 (ji17)).f7)) ∧ w'.cell? ⟨(ad101.add (((ji17)).toNat * 11)).block, (ad101.add (((ji17)).toNat * 11)).off + 8, none⟩ = some (.int .i64 ((rd_T48 l0 (ji17)).f8)) ∧ w'.cell? ⟨(ad101.add (((ji17)).toNat * 11)).block, (ad101.add (((ji17)).toNat * 11)).off + 9, none⟩ = some (.int .i64 ((rd_T48 l0 (ji17)).f9.f0)) ∧ w'.cell? ⟨(ad101.add (((ji17)).toNat * 11)).block, (ad101.add (((ji17)).toNat * 11)).off + 10, none⟩ = some (.slice A104_10 ((rd_T48 l0 (ji17)).f9.f1).length c104_10))) (ds := []) (tf 0 26) (by kernel_rfl) rfl rfl ⟨z0 _ BK102.out, z1 _ BK102.out, z2 _ BK102.out, z3 _ BK102.out, z4 _ BK102.out, z5 _ BK102.out, z6 _ BK102.out, z7 _ BK102.out, z8 _ BK102.out, z9 _ BK102.out, z10 _ BK102.out, (CY HB.out hw104_0), (CY HB.out hw104_1), (CY HB.out hw104_2), (CY HB.out hw104_3), (CY HB.out hw104_4), (CY HB.out hw104_5), (CY HB.out hw104_6), (CY HB.out hw104_7), (CY HB.out hw104_8), (CY HB.out hw104_9), (CY HB.out hw104_10)⟩ (fun hHeld => ?_); refine with_tabW impl_ascending_tunOf.tab4 impl_ascending_tunOf.bits4 (fun HT_ HW_ => ?_)
            generalize w22.drew = w23 at BK102 HB HR104_10 hx104_0 hx104_1 hx104_10 hx104_2 hx104_3 hx104_4 hx104_5 hx104_6 hx104_7 hx104_8 hx104_9 hHeld ⊢
            refine tk 0 (some 16) (tf 1 25) (take_ofW HT_.out HW_.out (by kernel_rfl)) hHeld ?_
            refine one_ (i := 1) (N := some 17) (tf 2 24) rfl rfl (one_of HT_.out (by kernel_rfl)) (by decide) (fun K hK => ?_)
            refine goes_ Tryz.func69 (by kernel_rfl) rfl #[.agg #[.int .i64 ((rd_T48 l0 x11_1).f0), .int .i64 ((rd_T48 l0 x11_1).f1), .string ((rd_T48 l0 x11_1).f2), .string ((rd_T48 l0 x11_1).f3), .int .i64 ((rd_T48 l0 x11_1).f4), .int .i64 ((rd_T48 l0 x11_1).f5), .int .i64 ((rd_T48 l0 x11_1).f6), .int .i64 ((rd_T48 l0 x11_1).f7), .int .i64 ((rd_T48 l0 x11_1).f8), .int .i64 ((rd_T48 l0 x11_1).f9.f0), .slice A101_10 ((rd_T48 l0 x11_1).f9.f1).length c101_10]] (by rfl) rfl rfl MT ?_
            with_reducible refine (impl_SaOk.calls k1 ((rd_T48 l0 x11_1).f0) ((rd_T48 l0 x11_1).f1) ((rd_T48 l0 x11_1).f2) ((rd_T48 l0 x11_1).f3) ((rd_T48 l0 x11_1).f4) ((rd_T48 l0 x11_1).f5) ((rd_T48 l0 x11_1).f6) ((rd_T48 l0 x11_1).f7) ((rd_T48 l0 x11_1).f8) ((rd_T48 l0 x11_1).f9.f0) _ _ ((rd_T48 l0 x11_1).f9.f1) true _ ?_ ?_ A10.out).mono ?_
            exact KD HR101_10 HB
            exact HC101_10.out
            rintro e w24 ⟨rfl, hb⟩
            refine ⟨_, rfl, ?_⟩
            replace BK102 := am (BB BK102 hb)
            replace HB := bl (K1 HB GE102.out) hb
            (try clear hb)
            (try clear hb2)
            (try clear hk)
            (try clear hi)
            refine hK.out _ _ ⟨z0 _ BK102.out, z1 _ BK102.out, z2 _ BK102.out, z3 _ BK102.out, z4 _ BK102.out, z5 _ BK102.out, z6 _ BK102.out, z7 _ BK102.out, z8 _ BK102.out, z9 _ BK102.out, z10 _ BK102.out, (CY HB.out hw104_0), (CY HB.out hw104_1), (CY HB.out hw104_2), (CY HB.out hw104_3), (CY HB.out hw104_4), (CY HB.out hw104_5), (CY HB.out hw104_6), (CY HB.out hw104_7), (CY HB.out hw104_8), (CY HB.out hw104_9), (CY HB.out hw104_10)⟩ (fun hHeld => ?_)
            clear hK K
            refine nm (some 17) ?_
            refine pv HT_ 2 18 (tf 3 23) ?_
            refine pv HT_ 3 19 (tf 4 22) ?_
            refine pv HT_ 4 20 (tf 5 21) ?_
            refine pv HT_ 6 22 (tr [5, 1, 1, 19]) ?_
            refine tk 5 (some 21) (tf 7 19) (take_ofW HT_.out HW_.out (by kernel_rfl)) hHeld ?_
            refine pv HT_ 7 23 (tf 8 18) ?_
            refine pv HT_ 8 24 (tf 9 17) ?_
            refine pv HT_ 9 25 (tf 10 16) ?_
            refine pv HT_ 10 26 (tf 11 15) ?_
            refine pv HT_ 11 27 (tf 12 14) ?_
            refine pv HT_ 12 28 (tf 13 13) ?_
            refine pv HT_ 13 29 (tf 14 12) ?_
            refine pv HT_ 14 30 (tf 15 11) ?_
            refine pv HT_ 15 31 (tf 16 10) ?_
            refine pv HT_ 16 32 (tf 17 9) ?_
            refine pv HT_ 17 33 (tf 18 8) ?_
            refine pv HT_ 20 36 (tr [18, 2, 1, 5]) ?_
            refine tk 18 (some 34) (tr [19, 1, 1, 5]) (take_ofW HT_.out HW_.out (by kernel_rfl)) hHeld ?_
            refine tk 21 (some 37) (tr [19, 1, 2, 4]) (take_ofW HT_.out HW_.out (by kernel_rfl)) hHeld ?_
            refine one_ (i := 19) (N := some 35) (tf 22 4) rfl rfl (one_of HT_.out (by kernel_rfl)) (by decide) (fun K hK => ?_)
            refine goesW_ hpf hpn hpb #[.agg #[.int .i64 ((rd_T48 l0 (ji17)).f0), .int .i64 ((rd_T48 l0 (ji17)).f1), .string ((rd_T48 l0 (ji17)).f2), .string ((rd_T48 l0 (ji17)).f3), .int .i64 ((rd_T48 l0 (ji17)).f4), .int .i64 ((rd_T48 l0 (ji17)).f5), .int .i64 ((rd_T48 l0 (ji17)).f6), .int .i64 ((rd_T48 l0 (ji17)).f7), .int .i64 ((rd_T48 l0 (ji17)).f8), .int .i64 ((rd_T48 l0 (ji17)).f9.f0), .slice A104_10 ((rd_T48 l0 (ji17)).f9.f1).length c104_10]] (by rfl) rfl rfl (by first | rfl | (simp [Act.eval, Act.put]; done)) (by (try simp only [List.map_toArray, List.map_cons, List.map_nil]); first | done | (simp only [hji17]; rfl) | rfl | (simp only [List.length_drop, List.length_take]; rfl)) ?_
            with_reducible refine (hpc ((rd_T48 l0 (ji17)).f0) ((rd_T48 l0 (ji17)).f1) ((rd_T48 l0 (ji17)).f2) ((rd_T48 l0 (ji17)).f3) ((rd_T48 l0 (ji17)).f4) ((rd_T48 l0 (ji17)).f5) ((rd_T48 l0 (ji17)).f6) ((rd_T48 l0 (ji17)).f7) ((rd_T48 l0 (ji17)).f8) ((rd_T48 l0 (ji17)).f9.f0) _ _ ((rd_T48 l0 (ji17)).f9.f1) t105 _ ?_ ?_ A20.out).mono ?_
            exact KD HR104_10 HB
            exact HC104_10.out
            rintro e w25 ⟨rfl, hb⟩
            refine ⟨_, rfl, ?_⟩
            replace BK102 := am (BB BK102 hb)
            replace HB := bl (K1 HB GE102.out) hb
            (try clear hb)
            (try clear hb2)
            (try clear hk)
            (try clear hi)
            refine hK.out _ _ ⟨z0 _ BK102.out, z1 _ BK102.out, z2 _ BK102.out, z3 _ BK102.out, z4 _ BK102.out, z5 _ BK102.out, z6 _ BK102.out, z7 _ BK102.out, z8 _ BK102.out, z9 _ BK102.out, z10 _ BK102.out, (CY HB.out hw104_0), (CY HB.out hw104_1), (CY HB.out hw104_2), (CY HB.out hw104_3), (CY HB.out hw104_4), (CY HB.out hw104_5), (CY HB.out hw104_6), (CY HB.out hw104_7), (CY HB.out hw104_8), (CY HB.out hw104_9), (CY HB.out hw104_10)⟩ (fun hHeld => ?_)
            clear hK K
            refine nm (some 35) ?_
            refine one_ (i := 22) (N := some 38) (tf 23 3) rfl rfl (one_of HT_.out (by kernel_rfl)) (by decide) (fun K hK => ?_)
            refine goesW_ hpf hpn hpb #[.agg #[.int .i64 ((rd_T48 l0 x11_1).f0), .int .i64 ((rd_T48 l0 x11_1).f1), .string ((rd_T48 l0 x11_1).f2), .string ((rd_T48 l0 x11_1).f3), .int .i64 ((rd_T48 l0 x11_1).f4), .int .i64 ((rd_T48 l0 x11_1).f5), .int .i64 ((rd_T48 l0 x11_1).f6), .int .i64 ((rd_T48 l0 x11_1).f7), .int .i64 ((rd_T48 l0 x11_1).f8), .int .i64 ((rd_T48 l0 x11_1).f9.f0), .slice A101_10 ((rd_T48 l0 x11_1).f9.f1).length c101_10]] (by rfl) rfl rfl (by first | rfl | (simp [Act.eval, Act.put]; done)) MT ?_
            with_reducible refine (hpc ((rd_T48 l0 x11_1).f0) ((rd_T48 l0 x11_1).f1) ((rd_T48 l0 x11_1).f2) ((rd_T48 l0 x11_1).f3) ((rd_T48 l0 x11_1).f4) ((rd_T48 l0 x11_1).f5) ((rd_T48 l0 x11_1).f6) ((rd_T48 l0 x11_1).f7) ((rd_T48 l0 x11_1).f8) ((rd_T48 l0 x11_1).f9.f0) _ _ ((rd_T48 l0 x11_1).f9.f1) t106 _ ?_ ?_ A21.out).mono ?_
            exact KD HR101_10 HB
            exact HC101_10.out
            rintro e w26 ⟨rfl, hb⟩
            refine ⟨_, rfl, ?_⟩
            replace BK102 := am (BB BK102 hb)
            replace HB := bl (K1 HB GE102.out) hb
            (try clear hb)
            (try clear hb2)
            (try clear hk)
            (try clear hi)
            refine hK.out _ _ ⟨z0 _ BK102.out, z1 _ BK102.out, z2 _ BK102.out, z3 _ BK102.out, z4 _ BK102.out, z5 _ BK102.out, z6 _ BK102.out, z7 _ BK102.out, z8 _ BK102.out, z9 _ BK102.out, z10 _ BK102.out, (CY HB.out hw104_0), (CY HB.out hw104_1), (CY HB.out hw104_2), (CY HB.out hw104_3), (CY HB.out hw104_4), (CY HB.out hw104_5), (CY HB.out hw104_6), (CY HB.out hw104_7), (CY HB.out hw104_8), (CY HB.out hw104_9), (CY HB.out hw104_10)⟩ (fun hHeld => ?_)
            clear hK K
            refine nm (some 38) ?_
            refine pv HT_ 23 39 (tf 24 2) ?_
            refine pv HT_ 24 40 (tf 25 1) ?_
            refine pv HT_ 25 41 (tf 26 0) ?_
            refine done_ (done_of HT_.out (by kernel_rfl)) ?_
            try go_wp2
            go_meet
            case rel => exact ⟨_, (decide (t105 ≥ t106)), (by first | rfl | (simp; done) | (simp [*]; done)), H', ⟨by have := HK1.out; first | omega | exact Nat.le_refl _⟩, ⟨KB BK102⟩, ⟨K1 HB GE102.out⟩⟩
           ·rw [if_neg c19] at H
            exact absurd H (by simp)
          ·rw [if_neg c18] at H
           exact absurd H (by simp)
         ·rw [if_neg c16] at H
          have c16b0 : decide (0 < x11_1) = false := decide_eq_false c16
          clear c16
          have H' := Aside0.mk H
          clear H
          try go_wp2
          generalize hq_ : (((((((((((w8.setCell ⟨gb102, 0, none⟩ (.int .i64 ((rd_T48 l0 x11_1).f0))).setCell ⟨gb102, 1, none⟩ (.int .i64 ((rd_T48 l0 x11_1).f1))).setCell ⟨gb102, 2, none⟩ (.string ((rd_T48 l0 x11_1).f2))).setCell ⟨gb102, 3, none⟩ (.string ((rd_T48 l0 x11_1).f3))).setCell ⟨gb102, 4, none⟩ (.int .i64 ((rd_T48 l0 x11_1).f4))).setCell ⟨gb102, 5, none⟩ (.int .i64 ((rd_T48 l0 x11_1).f5))).setCell ⟨gb102, 6, none⟩ (.int .i64 ((rd_T48 l0 x11_1).f6))).setCell ⟨gb102, 7, none⟩ (.int .i64 ((rd_T48 l0 x11_1).f7))).setCell ⟨gb102, 8, none⟩ (.int .i64 ((rd_T48 l0 x11_1).f8))).setCell ⟨gb102, 9, none⟩ (.int .i64 ((rd_T48 l0 x11_1).f9.f0))).setCell ⟨gb102, 10, none⟩ (.slice A101_10 ((rd_T48 l0 x11_1).f9.f1).length c101_10)) = w27
          have n0_ : Aside0 (w27.heap[gb102]? = some (.cells #[.int .i64 ((rd_T48 l0 x11_1).f0), .int .i64 ((rd_T48 l0 x11_1).f1), .string ((rd_T48 l0 x11_1).f2), .string ((rd_T48 l0 x11_1).f3), .int .i64 ((rd_T48 l0 x11_1).f4), .int .i64 ((rd_T48 l0 x11_1).f5), .int .i64 ((rd_T48 l0 x11_1).f6), .int .i64 ((rd_T48 l0 x11_1).f7), .int .i64 ((rd_T48 l0 x11_1).f8), .int .i64 ((rd_T48 l0 x11_1).f9.f0), .slice A101_10 ((rd_T48 l0 x11_1).f9.f1).length c101_10] 48 (0, 0))) := ⟨by rw [← hq_]; exact P11 BK102⟩
          have n1_ : Aside0 (Below w.heap.size w w27) := ⟨by rw [← hq_]; exact K1 HB GE102.out⟩
          clear hq_
          (try clear BK102)
          (try clear HB)
          have BK102 := n0_
          have HB := n1_
          clear n0_ n1_
          replace BK102 := am (blk_drew BK102.out)
          replace HB := am (below_drew1 HB.out)
          refine start_ (n := 26) (S := fun w' => de11 w' gb102 (.int .i64 ((rd_T48 l0 x11_1).f0)) (.int .i64 ((rd_T48 l0 x11_1).f1)) (.string ((rd_T48 l0 x11_1).f2)) (.string ((rd_T48 l0 x11_1).f3)) (.int .i64 ((rd_T48 l0 x11_1).f4)) (.int .i64 ((rd_T48 l0 x11_1).f5)) (.int .i64 ((rd_T48 l0 x11_1).f6)) (.int .i64 ((rd_T48 l0 x11_1).f7)) (.int .i64 ((rd_T48 l0 x11_1).f8)) (.int .i64 ((rd_T48 l0 x11_1).f9.f0)) (.slice A101_10 ((rd_T48 l0 x11_1).f9.f1).length c101_10)) (ds := []) (tf 0 26) (by kernel_rfl) rfl rfl ⟨z0 _ BK102.out, z1 _ BK102.out, z2 _ BK102.out, z3 _ BK102.out, z4 _ BK102.out, z5 _ BK102.out, z6 _ BK102.out, z7 _ BK102.out, z8 _ BK102.out, z9 _ BK102.out, z10 _ BK102.out⟩ (fun hHeld => ?_); refine with_tabW impl_ascending_tunOf.tab4 impl_ascending_tunOf.bits4 (fun HT_ HW_ => ?_)
          generalize w27.drew = w28 at BK102 HB hHeld ⊢
          refine tk 0 (some 16) (tf 1 25) (take_ofW HT_.out HW_.out (by kernel_rfl)) hHeld ?_
          refine one_ (i := 1) (N := some 17) (tf 2 24) rfl rfl (one_of HT_.out (by kernel_rfl)) (by decide) (fun K hK => ?_)
          refine goes_ Tryz.func69 (by kernel_rfl) rfl #[.agg #[.int .i64 ((rd_T48 l0 x11_1).f0), .int .i64 ((rd_T48 l0 x11_1).f1), .string ((rd_T48 l0 x11_1).f2), .string ((rd_T48 l0 x11_1).f3), .int .i64 ((rd_T48 l0 x11_1).f4), .int .i64 ((rd_T48 l0 x11_1).f5), .int .i64 ((rd_T48 l0 x11_1).f6), .int .i64 ((rd_T48 l0 x11_1).f7), .int .i64 ((rd_T48 l0 x11_1).f8), .int .i64 ((rd_T48 l0 x11_1).f9.f0), .slice A101_10 ((rd_T48 l0 x11_1).f9.f1).length c101_10]] (by rfl) rfl rfl MT ?_
          with_reducible refine (impl_SaOk.calls k1 ((rd_T48 l0 x11_1).f0) ((rd_T48 l0 x11_1).f1) ((rd_T48 l0 x11_1).f2) ((rd_T48 l0 x11_1).f3) ((rd_T48 l0 x11_1).f4) ((rd_T48 l0 x11_1).f5) ((rd_T48 l0 x11_1).f6) ((rd_T48 l0 x11_1).f7) ((rd_T48 l0 x11_1).f8) ((rd_T48 l0 x11_1).f9.f0) _ _ ((rd_T48 l0 x11_1).f9.f1) true _ ?_ ?_ A10.out).mono ?_
          exact KD HR101_10 HB
          exact HC101_10.out
          rintro e w29 ⟨rfl, hb⟩
          refine ⟨_, rfl, ?_⟩
          replace BK102 := am (BB BK102 hb)
          replace HB := bl (K1 HB GE102.out) hb
          (try clear hb)
          (try clear hb2)
          (try clear hk)
          (try clear hi)
          refine hK.out _ _ ⟨z0 _ BK102.out, z1 _ BK102.out, z2 _ BK102.out, z3 _ BK102.out, z4 _ BK102.out, z5 _ BK102.out, z6 _ BK102.out, z7 _ BK102.out, z8 _ BK102.out, z9 _ BK102.out, z10 _ BK102.out⟩ (fun hHeld => ?_)
          clear hK K
          refine nm (some 17) ?_
          refine pv HT_ 2 18 (tf 3 23) ?_
          refine pv HT_ 3 19 (tf 4 22) ?_
          refine pv HT_ 4 20 (tf 5 21) ?_
          refine pv HT_ 6 22 (tr [5, 1, 1, 19]) ?_
          refine tk 5 (some 21) (tf 7 19) (take_ofW HT_.out HW_.out (by kernel_rfl)) hHeld ?_
          refine pv HT_ 7 23 (tf 8 18) ?_
          refine pv HT_ 8 24 (tf 9 17) ?_
          refine pv HT_ 9 25 (tf 10 16) ?_
          refine pv HT_ 10 26 (tf 11 15) ?_
          refine pv HT_ 11 27 (tf 12 14) ?_
          refine pv HT_ 12 28 (tf 13 13) ?_
          refine pw HT_ 13 29 (tf 14 12) ?_
          refine pw HT_ 14 30 (tf 15 11) ?_
          refine pw HT_ 15 31 (tf 16 10) ?_
          refine pw HT_ 16 32 (tf 17 9) ?_
          refine pw HT_ 17 33 (tf 18 8) ?_
          refine pw HT_ 18 34 (tf 19 7) ?_
          refine pw HT_ 19 35 (tf 20 6) ?_
          refine pw HT_ 20 36 (tf 21 5) ?_
          refine pw HT_ 21 37 (tf 22 4) ?_
          refine pw HT_ 22 38 (tf 23 3) ?_
          refine pw HT_ 23 39 (tf 24 2) ?_
          refine pv HT_ 24 40 (tf 25 1) ?_
          refine pv HT_ 25 41 (tf 26 0) ?_
          refine done_ (done_of HT_.out (by kernel_rfl)) ?_
          try go_wp2
          go_meet
          case rel => exact ⟨_, (false), (by first | rfl | (simp; done) | (simp [*]; done)), H', ⟨by have := HK1.out; first | omega | exact Nat.le_refl _⟩, ⟨KB BK102⟩, ⟨K1 HB GE102.out⟩⟩
       ·replace c11 := Bool.eq_false_iff.mpr c11
        subst c11
        have H1 := nf H
        clear H
        have H := H1
        clear H1
        have H' := Aside0.mk H
        clear H
        try go_wp2
        generalize hq_ : (((((((((((w8.setCell ⟨gb102, 0, none⟩ (.int .i64 ((rd_T48 l0 x11_1).f0))).setCell ⟨gb102, 1, none⟩ (.int .i64 ((rd_T48 l0 x11_1).f1))).setCell ⟨gb102, 2, none⟩ (.string ((rd_T48 l0 x11_1).f2))).setCell ⟨gb102, 3, none⟩ (.string ((rd_T48 l0 x11_1).f3))).setCell ⟨gb102, 4, none⟩ (.int .i64 ((rd_T48 l0 x11_1).f4))).setCell ⟨gb102, 5, none⟩ (.int .i64 ((rd_T48 l0 x11_1).f5))).setCell ⟨gb102, 6, none⟩ (.int .i64 ((rd_T48 l0 x11_1).f6))).setCell ⟨gb102, 7, none⟩ (.int .i64 ((rd_T48 l0 x11_1).f7))).setCell ⟨gb102, 8, none⟩ (.int .i64 ((rd_T48 l0 x11_1).f8))).setCell ⟨gb102, 9, none⟩ (.int .i64 ((rd_T48 l0 x11_1).f9.f0))).setCell ⟨gb102, 10, none⟩ (.slice A101_10 ((rd_T48 l0 x11_1).f9.f1).length c101_10)) = w30
        have n0_ : Aside0 (w30.heap[gb102]? = some (.cells #[.int .i64 ((rd_T48 l0 x11_1).f0), .int .i64 ((rd_T48 l0 x11_1).f1), .string ((rd_T48 l0 x11_1).f2), .string ((rd_T48 l0 x11_1).f3), .int .i64 ((rd_T48 l0 x11_1).f4), .int .i64 ((rd_T48 l0 x11_1).f5), .int .i64 ((rd_T48 l0 x11_1).f6), .int .i64 ((rd_T48 l0 x11_1).f7), .int .i64 ((rd_T48 l0 x11_1).f8), .int .i64 ((rd_T48 l0 x11_1).f9.f0), .slice A101_10 ((rd_T48 l0 x11_1).f9.f1).length c101_10] 48 (0, 0))) := ⟨by rw [← hq_]; exact P11 BK102⟩
        have n1_ : Aside0 (Below w.heap.size w w30) := ⟨by rw [← hq_]; exact K1 HB GE102.out⟩
        clear hq_
        (try clear BK102)
        (try clear HB)
        have BK102 := n0_
        have HB := n1_
        clear n0_ n1_
        replace BK102 := am (blk_drew BK102.out)
        replace HB := am (below_drew1 HB.out)
        refine start_ (n := 26) (S := fun w' => de11 w' gb102 (.int .i64 ((rd_T48 l0 x11_1).f0)) (.int .i64 ((rd_T48 l0 x11_1).f1)) (.string ((rd_T48 l0 x11_1).f2)) (.string ((rd_T48 l0 x11_1).f3)) (.int .i64 ((rd_T48 l0 x11_1).f4)) (.int .i64 ((rd_T48 l0 x11_1).f5)) (.int .i64 ((rd_T48 l0 x11_1).f6)) (.int .i64 ((rd_T48 l0 x11_1).f7)) (.int .i64 ((rd_T48 l0 x11_1).f8)) (.int .i64 ((rd_T48 l0 x11_1).f9.f0)) (.slice A101_10 ((rd_T48 l0 x11_1).f9.f1).length c101_10)) (ds := []) (tf 0 26) (by kernel_rfl) rfl rfl ⟨z0 _ BK102.out, z1 _ BK102.out, z2 _ BK102.out, z3 _ BK102.out, z4 _ BK102.out, z5 _ BK102.out, z6 _ BK102.out, z7 _ BK102.out, z8 _ BK102.out, z9 _ BK102.out, z10 _ BK102.out⟩ (fun hHeld => ?_); refine with_tabW impl_ascending_tunOf.tab4 impl_ascending_tunOf.bits4 (fun HT_ HW_ => ?_)
        generalize w30.drew = w31 at BK102 HB hHeld ⊢
        refine tk 0 (some 16) (tf 1 25) (take_ofW HT_.out HW_.out (by kernel_rfl)) hHeld ?_
        refine one_ (i := 1) (N := some 17) (tf 2 24) rfl rfl (one_of HT_.out (by kernel_rfl)) (by decide) (fun K hK => ?_)
        refine goes_ Tryz.func69 (by kernel_rfl) rfl #[.agg #[.int .i64 ((rd_T48 l0 x11_1).f0), .int .i64 ((rd_T48 l0 x11_1).f1), .string ((rd_T48 l0 x11_1).f2), .string ((rd_T48 l0 x11_1).f3), .int .i64 ((rd_T48 l0 x11_1).f4), .int .i64 ((rd_T48 l0 x11_1).f5), .int .i64 ((rd_T48 l0 x11_1).f6), .int .i64 ((rd_T48 l0 x11_1).f7), .int .i64 ((rd_T48 l0 x11_1).f8), .int .i64 ((rd_T48 l0 x11_1).f9.f0), .slice A101_10 ((rd_T48 l0 x11_1).f9.f1).length c101_10]] (by rfl) rfl rfl MT ?_
        with_reducible refine (impl_SaOk.calls k1 ((rd_T48 l0 x11_1).f0) ((rd_T48 l0 x11_1).f1) ((rd_T48 l0 x11_1).f2) ((rd_T48 l0 x11_1).f3) ((rd_T48 l0 x11_1).f4) ((rd_T48 l0 x11_1).f5) ((rd_T48 l0 x11_1).f6) ((rd_T48 l0 x11_1).f7) ((rd_T48 l0 x11_1).f8) ((rd_T48 l0 x11_1).f9.f0) _ _ ((rd_T48 l0 x11_1).f9.f1) false _ ?_ ?_ A10.out).mono ?_
        exact KD HR101_10 HB
        exact HC101_10.out
        rintro e w32 ⟨rfl, hb⟩
        refine ⟨_, rfl, ?_⟩
        replace BK102 := am (BB BK102 hb)
        replace HB := bl (K1 HB GE102.out) hb
        (try clear hb)
        (try clear hb2)
        (try clear hk)
        (try clear hi)
        refine hK.out _ _ ⟨z0 _ BK102.out, z1 _ BK102.out, z2 _ BK102.out, z3 _ BK102.out, z4 _ BK102.out, z5 _ BK102.out, z6 _ BK102.out, z7 _ BK102.out, z8 _ BK102.out, z9 _ BK102.out, z10 _ BK102.out⟩ (fun hHeld => ?_)
        clear hK K
        refine nm (some 17) ?_
        refine pv HT_ 2 18 (tf 3 23) ?_
        refine pv HT_ 3 19 (tf 4 22) ?_
        refine pw HT_ 4 20 (tf 5 21) ?_
        refine pw HT_ 5 21 (tf 6 20) ?_
        refine pw HT_ 6 22 (tf 7 19) ?_
        refine pw HT_ 7 23 (tf 8 18) ?_
        refine pv HT_ 8 24 (tf 9 17) ?_
        refine pv HT_ 9 25 (tf 10 16) ?_
        refine pw HT_ 10 26 (tf 11 15) ?_
        refine pw HT_ 11 27 (tf 12 14) ?_
        refine pw HT_ 12 28 (tf 13 13) ?_
        refine pw HT_ 13 29 (tf 14 12) ?_
        refine pw HT_ 14 30 (tf 15 11) ?_
        refine pw HT_ 15 31 (tf 16 10) ?_
        refine pw HT_ 16 32 (tf 17 9) ?_
        refine pw HT_ 17 33 (tf 18 8) ?_
        refine pw HT_ 18 34 (tf 19 7) ?_
        refine pw HT_ 19 35 (tf 20 6) ?_
        refine pw HT_ 20 36 (tf 21 5) ?_
        refine pw HT_ 21 37 (tf 22 4) ?_
        refine pw HT_ 22 38 (tf 23 3) ?_
        refine pw HT_ 23 39 (tf 24 2) ?_
        refine pw HT_ 24 40 (tf 25 1) ?_
        refine pv HT_ 25 41 (tf 26 0) ?_
        refine done_ (done_of HT_.out (by kernel_rfl)) ?_
        try go_wp2
        go_meet
        case rel => exact ⟨_, (true), (by first | rfl | (simp; done) | (simp [*]; done)), H', ⟨by have := HK1.out; first | omega | exact Nat.le_refl _⟩, ⟨KB BK102⟩, ⟨K1 HB GE102.out⟩⟩
      case rest =>
       clear HC7
       try clear c1
       try clear p2
       try clear c5
       try clear c6
       try clear c10
       try clear c11
       try clear c16
       try clear c16b0
       try clear c18
       try clear c19
       obtain ⟨kq, x41_6, rfl, HA, HJ6, BK102, HB⟩ := hcut
       cases kq with
       | zero => exact absurd HA.out (by simp [impl_ascending_tunOf.j1])
       | succ kj6 =>
        have H := HA.out
        clear HA
        simp only [impl_ascending_tunOf.j1] at H
        by_cases c33 : x41_6 = true
        ·subst c33
         have H1 := pf H
         clear H
         have H := H1
         clear H1
         obtain rfl := sj H
         go_wp2
         go_ret
         exact ⟨ER, K1 HB GE102.out⟩
        ·replace c33 := Bool.eq_false_iff.mpr c33
         subst c33
         have H1 := nf H
         clear H
         have H := H1
         clear H1
         have H' := Aside0.mk H
         clear H
         go_wp2
         go_roundg kj6
         case measure => have := HK1.out; have := HJ6.out; omega
         case rel => exact ⟨(wrap64 (x11_1 + 1)), (by first | rfl | (simp; done) | (simp [*]; done)), H', ⟨by have := HK1.out; have := HJ6.out; omega⟩, ⟨K1 HB GE102.out⟩⟩
     ·rw [if_neg c6] at H
      exact absurd H (by simp)
    ·rw [if_neg c5] at H
     exact absurd H (by simp)
   ·rw [if_neg c4] at H
    have c4b0 : decide (x11_1 < (l0.length : Int)) = false := decide_eq_false c4
    clear c4
    obtain rfl := sj H
    go_wp2
    go_ret
    exact ⟨ER, KL HB⟩
def impl_ascending_tunOf.f (k : Nat) (l0 : List (S48)) (a1 : Int) : Option (Bool) := impl_ascending_tunOf.g impl_tunOf.f k l0 a1
theorem impl_ascending_tunOf.calls (k : Nat) (A0 : Option Addr) (c0 : Nat) (l0 : List (S48)) (a1 : Int) (r : Bool) (w : World) (hr : Kd.C k48 w A0 l0.length l0) (hc : l0.length ≤ c0) (h : impl_ascending_tunOf.f k l0 a1 = some r) : Calls Tryz.prog 63 #[.slice A0 l0.length c0, .int .i64 a1, .func (.func 51) #[] #[]] w fun e w' => e = .returned (.bool r) ∧ Below w.heap.size w w' := impl_ascending_tunOf.gcalls impl_tunOf.f Tryz.func51 (by kernel_rfl) rfl impl_tunOf.calls k A0 c0 l0 a1 r w hr hc h
def impl_spiOf.f (a0_0 : Int) (a0_1 : Int) (a0_2 : ByteArray) (a0_3 : ByteArray) (a0_4 : Int) (a0_5 : Int) (a0_6 : Int) (a0_7 : Int) (a0_8 : Int) (a0_9 : Int) (l0_10 : List Int) : Option (Int) := some a0_0
theorem impl_spiOf.calls (aF : Int) (aG : Int) (aH : ByteArray) (aI : ByteArray) (aJ : Int) (aK : Int) (aL : Int) (aM : Int) (aN : Int) (aO : Int) (aB : Option Addr) (aC : Nat) (aA : List Int) (r : Int) (w : World) (aD : Kd.C (Kd.int .i64) w aB aA.length aA) (aE : aA.length ≤ aC) (h : impl_spiOf.f aF aG aH aI aJ aK aL aM aN aO aA = some r) :
  Calls Tryz.prog 34 #[.agg #[.int .i64 aF, .int .i64 aG, .string aH, .string aI, .int .i64 aJ, .int .i64 aK, .int .i64 aL, .int .i64 aM, .int .i64 aN, .int .i64 aO, .slice aB aA.length aC]] w fun e w' => e = .returned (.int .i64 r) ∧ Below w.heap.size w w' := by
 have bI := Tryz.underlying48
 have aU := Aside0.mk aD
 have aV := Aside0.mk aE
 clear aD aE
 have HB := am (Below.refl w.heap.size w)
 have H : (some aF) = some r := h
 clear h
 obtain rfl := sj H
 go_enter Tryz.func34, Tryz.ntmps34
 go_wp2_with (first | ((with_reducible refine gate_dst (N := 1) rfl ?_); refine box_event rfl (N := 1) rfl (cs := #[.int .i64 aF, .int .i64 aG, .string aH, .string aI, .int .i64 aJ, .int .i64 aK, .int .i64 aL, .int .i64 aM, .int .i64 aN, .int .i64 aO, .slice aB aA.length aC]) (t := 48) BX ?_; intro bH hg w2 aP hb; have aQ := am (aP); have aR := am (GH HB hg); have aS := aR; replace HB := bl (KL HB) hb; clear hb aP hg; have ⟨_, _, _, _, _, _, _, _, _, _, _, _⟩ := y11 w2 aQ.out))
 go_ret
 exact ⟨ER, K1 HB aS.out⟩
def impl_ascending_spiOf.f (k : Nat) (l0 : List (S48)) (a1 : Int) : Option (Bool) := impl_ascending_tunOf.g impl_spiOf.f k l0 a1
theorem impl_ascending_spiOf.calls (k : Nat) (A0 : Option Addr) (c0 : Nat) (l0 : List (S48)) (a1 : Int) (r : Bool) (w : World) (hr : Kd.C k48 w A0 l0.length l0) (hc : l0.length ≤ c0) (h : impl_ascending_spiOf.f k l0 a1 = some r) : Calls Tryz.prog 63 #[.slice A0 l0.length c0, .int .i64 a1, .func (.func 34) #[] #[]] w fun e w' => e = .returned (.bool r) ∧ Below w.heap.size w w' := impl_ascending_tunOf.gcalls impl_spiOf.f Tryz.func34 (by kernel_rfl) rfl impl_spiOf.calls k A0 c0 l0 a1 r w hr hc h
def slices_Clone_Rule.f (l0 : List (S92)) : Option (List (S92)) := if l0.length < 2199023255552 then some l0 else none
theorem slices_Clone_Rule.calls (A0 : Option Addr) (c0 : Nat) (l0 : List (S92)) (r : List (S92)) (w : World) (aD : Kd.C k92 w A0 l0.length l0) (aG : l0.length ≤ c0) (h : slices_Clone_Rule.f l0 = some r) :
  Calls Tryz.prog 64 #[.slice A0 l0.length c0] w fun e w' => ∃ v0_ : Value, e = .returned (v0_) ∧ Kd.R k92 92 w' w.heap.size (fun _ => True) v0_ r ∧ Below w.heap.size w w' := by
 have hlim : l0.length < 2199023255552 ∧ l0 = r := by
  unfold slices_Clone_Rule.f at h
  by_cases c : l0.length < 2199023255552
  ·rw [if_pos c] at h; exact ⟨c, Option.some.inj h⟩
  ·rw [if_neg c] at h; cases h
 obtain ⟨hlim, rfl⟩ := hlim
 have HL := Aside0.mk hlim
 have aK : ∀ (w : World) (a : Option Addr) (n c : Nat), (binOp .eql 36 (.slice a n c) (.slice none 0 0)).run Tryz.prog w = .ok (.bool a.isNone) w := fun w a n c => Go.run_eql_slice_nil w _ _ a n c Tryz.underlying36
 cases A0 with
 | none =>
  have hz : l0 = [] := by
   cases l0 with
   | nil => rfl
   | cons x l => obtain ⟨ad, e, _⟩ := aD.2.2 (by simp); cases e
  subst hz
  clear aD aG h hlim
  go_enter Tryz.func64, Tryz.ntmps64
  go_wp2
  go_ret
  exact ⟨_, rfl, Kd.R_nil _ _ _ _ _, Below.refl _ _⟩
 | some a =>
  have aI := Aside0.mk aD
  have HB := am (Below.refl w.heap.size w)
  clear aD aG h hlim
  go_enter Tryz.func64, Tryz.ntmps64
  go_wp2_with (first | ((with_reducible refine gate_dst (N := 5) rfl ?_); refine Kd.R_lit k92 _ 92 ?hg (N := 5) ?hd (xs := ([] : List (S92))) (inner := []) (ok := fun _ => True) (okp := fun _ => True) ?hr ?hp (fun _ hk => hk) trivial (Below.refl _ _) (Nat.le_refl _) (by simp) ?_; (case hd => rfl); (case hg => rfl); (case hr => first | (go_simp; done) | (go_simp; rfl)); (case hp => exact (Reps.none _ _)); intro aE w3 aH hb hg_ hnew_; clear hg_ hnew_; have aA := am (Kd.R_lower aH (below_size (KL HB))); replace HB := bl (KL HB) hb; clear hb aH) | ((with_reducible refine gate_builtin (b := .append) (xs := #[.tmp 5, .tmp 6]) rfl ?_); at_builtin; refine Kd.R_append_rows k92 (w0 := w) w.heap.size rfl (.tmp 5) (.tmp 6) 36 92 (.agg #[(.int .i64 0), (.int .i64 0), (.int .i64 0), (.int .i64 0), (.int .i64 0), (.int .i64 0), (.int .i64 0), (.int .i64 0)]) 64 rfl Tryz.underlying36 info92 rfl (by decide) (by omega) aE [] l0 _ _ _ (fun _ => True) (fun _ => False) rfl rfl ?aO ?aR (fun _ _ h => h) (fun _ h => h.elim) ?aF ?aB ?aS ?aL ?_; (case aR => exact KD aI HB); (case aB => exact (KL HB)); (case aF => exact (fun _ _ => trivial)); (case aO => exact (KR aA)); (case aS => exact (below_size (KL HB))); (case aL => have := HL.out; simp only [List.length_nil]; omega); intro aJ w5 ho hb hg hat; rw [List.nil_append] at ho; replace HB := am (hb); have aC := am (ho); clear aA; clear ho hb hg hat))
  go_ret
  exact ⟨_, rfl, by refine KW ?_; exact aC.out, KL HB⟩
def slices_Clone_Seen.f (l0 : List (S105)) : Option (List (S105)) := if l0.length < 4398046511104 then some l0 else none
theorem slices_Clone_Seen.calls (A0 : Option Addr) (c0 : Nat) (l0 : List (S105)) (r : List (S105)) (w : World) (aD : Kd.C k105 w A0 l0.length l0) (aG : l0.length ≤ c0) (h : slices_Clone_Seen.f l0 = some r) :
  Calls Tryz.prog 65 #[.slice A0 l0.length c0] w fun e w' => ∃ v0_ : Value, e = .returned (v0_) ∧ Kd.R k105 105 w' w.heap.size (fun _ => True) v0_ r ∧ Below w.heap.size w w' := by
 have hlim : l0.length < 4398046511104 ∧ l0 = r := by
  unfold slices_Clone_Seen.f at h
  by_cases c : l0.length < 4398046511104
  ·rw [if_pos c] at h; exact ⟨c, Option.some.inj h⟩
  ·rw [if_neg c] at h; cases h
 obtain ⟨hlim, rfl⟩ := hlim
 have HL := Aside0.mk hlim
 have aK : ∀ (w : World) (a : Option Addr) (n c : Nat), (binOp .eql 37 (.slice a n c) (.slice none 0 0)).run Tryz.prog w = .ok (.bool a.isNone) w := fun w a n c => Go.run_eql_slice_nil w _ _ a n c Tryz.underlying37
 cases A0 with
 | none =>
  have hz : l0 = [] := by
   cases l0 with
   | nil => rfl
   | cons x l => obtain ⟨ad, e, _⟩ := aD.2.2 (by simp); cases e
  subst hz
  clear aD aG h hlim
  go_enter Tryz.func65, Tryz.ntmps65
  go_wp2
  go_ret
  exact ⟨_, rfl, Kd.R_nil _ _ _ _ _, Below.refl _ _⟩
 | some a =>
  have aI := Aside0.mk aD
  have HB := am (Below.refl w.heap.size w)
  clear aD aG h hlim
  go_enter Tryz.func65, Tryz.ntmps65
  go_wp2_with (first | ((with_reducible refine gate_dst (N := 5) rfl ?_); refine Kd.R_lit k105 _ 105 ?hg (N := 5) ?hd (xs := ([] : List (S105))) (inner := []) (ok := fun _ => True) (okp := fun _ => True) ?hr ?hp (fun _ hk => hk) trivial (Below.refl _ _) (Nat.le_refl _) (by simp) ?_; (case hd => rfl); (case hg => rfl); (case hr => first | (go_simp; done) | (go_simp; rfl)); (case hp => exact (Reps.none _ _)); intro aE w3 aH hb hg_ hnew_; clear hg_ hnew_; have aA := am (Kd.R_lower aH (below_size (KL HB))); replace HB := bl (KL HB) hb; clear hb aH) | ((with_reducible refine gate_builtin (b := .append) (xs := #[.tmp 5, .tmp 6]) rfl ?_); at_builtin; refine Kd.R_append_rows k105 (w0 := w) w.heap.size rfl (.tmp 5) (.tmp 6) 37 105 (.agg #[(.int .i64 0), (.int .i64 0), (.int .i64 0), (.int .i64 0)]) 32 rfl Tryz.underlying37 info105 rfl (by decide) (by omega) aE [] l0 _ _ _ (fun _ => True) (fun _ => False) rfl rfl ?aO ?aR (fun _ _ h => h) (fun _ h => h.elim) ?aF ?aB ?aS ?aL ?_; (case aR => exact KD aI HB); (case aB => exact (KL HB)); (case aF => exact (fun _ _ => trivial)); (case aO => exact (KR aA)); (case aS => exact (below_size (KL HB))); (case aL => have := HL.out; simp only [List.length_nil]; omega); intro aJ w5 ho hb hg hat; rw [List.nil_append] at ho; replace HB := am (hb); have aC := am (ho); clear aA; clear ho hb hg hat))
  go_ret
  exact ⟨_, rfl, by refine KW ?_; exact aC.out, KL HB⟩
def slices_Clone_int.f (l0 : List Int) : Option (List Int) := if l0.length < 17592186044416 then some l0 else none
theorem slices_Clone_int.calls (A0 : Option Addr) (c0 : Nat) (l0 : List Int) (r : List Int) (w : World) (aD : Kd.C (Kd.int .i64) w A0 l0.length l0) (aG : l0.length ≤ c0) (h : slices_Clone_int.f l0 = some r) :
  Calls Tryz.prog 97 #[.slice A0 l0.length c0] w fun e w' => ∃ v0_ : Value, e = .returned (v0_) ∧ Kd.R (Kd.int .i64) 3 w' w.heap.size (fun _ => True) v0_ r ∧ Below w.heap.size w w' := by
 have hlim : l0.length < 17592186044416 ∧ l0 = r := by
  unfold slices_Clone_int.f at h
  by_cases c : l0.length < 17592186044416
  ·rw [if_pos c] at h; exact ⟨c, Option.some.inj h⟩
  ·rw [if_neg c] at h; cases h
 obtain ⟨hlim, rfl⟩ := hlim
 have HL := Aside0.mk hlim
 have aK : ∀ (w : World) (a : Option Addr) (n c : Nat), (binOp .eql 29 (.slice a n c) (.slice none 0 0)).run Tryz.prog w = .ok (.bool a.isNone) w := fun w a n c => Go.run_eql_slice_nil w _ _ a n c Tryz.underlying29
 cases A0 with
 | none =>
  have hz : l0 = [] := by
   cases l0 with
   | nil => rfl
   | cons x l => obtain ⟨ad, e, _⟩ := aD.2.2 (by simp); cases e
  subst hz
  clear aD aG h hlim
  go_enter Tryz.func97, Tryz.ntmps97
  go_wp2
  go_ret
  exact ⟨_, rfl, Kd.R_nil _ _ _ _ _, Below.refl _ _⟩
 | some a =>
  have aI := Aside0.mk aD
  have HB := am (Below.refl w.heap.size w)
  clear aD aG h hlim
  go_enter Tryz.func97, Tryz.ntmps97
  go_wp2_with (first | ((with_reducible refine gate_dst (N := 5) rfl ?_); refine Kd.R_lit (Kd.int .i64) _ 3 ?hg (N := 5) ?hd (xs := ([] : List Int)) (inner := []) (ok := fun _ => True) (okp := fun _ => True) ?hr ?hp (fun _ hk => hk) trivial (Below.refl _ _) (Nat.le_refl _) (by simp) ?_; (case hd => rfl); (case hg => rfl); (case hr => first | (go_simp; done) | (go_simp; rfl)); (case hp => exact (Reps.none _ _)); intro aE w3 aH hb hg_ hnew_; clear hg_ hnew_; have aA := am (Kd.R_lower aH (below_size (KL HB))); replace HB := bl (KL HB) hb; clear hb aH) | ((with_reducible refine gate_builtin (b := .append) (xs := #[.tmp 5, .tmp 6]) rfl ?_); at_builtin; refine Kd.R_append_rows (Kd.int .i64) (w0 := w) w.heap.size rfl (.tmp 5) (.tmp 6) 29 3 (.int .i64 0) 8 rfl Tryz.underlying29 info3 rfl (by decide) (by omega) aE [] l0 _ _ _ (fun _ => True) (fun _ => False) rfl rfl ?aO ?aR (fun _ _ h => h) (fun _ h => h.elim) ?aF ?aB ?aS ?aL ?_; (case aR => exact KD aI HB); (case aB => exact (KL HB)); (case aF => exact (fun _ _ => trivial)); (case aO => exact (KR aA)); (case aS => exact (below_size (KL HB))); (case aL => have := HL.out; simp only [List.length_nil]; omega); intro aJ w5 ho hb hg hat; rw [List.nil_append] at ho; replace HB := am (hb); have aC := am (ho); clear aA; clear ho hb hg hat))
  go_ret
  exact ⟨_, rfl, by refine KW ?_; exact aC.out, KL HB⟩
def impl_Window_copied.f (a0_0 : Int) (l0_1 : List Int) : Option (Int × List Int) := (slices_Clone_int.f l0_1).bind fun t103 => (some (a0_0, t103))
theorem impl_Window_copied.calls (aH : Int) (aK : Option Addr) (aL : Nat) (aF : List Int) (r1 : Int) (r2 : List Int) (w : World) (aO : Kd.C (Kd.int .i64) w aK aF.length aF) (aP : aF.length ≤ aL) (h : impl_Window_copied.f aH aF = some (r1, r2)) :
  Calls Tryz.prog 72 #[.agg #[.int .i64 aH, .slice aK aF.length aL]] w fun e w' => ∃ v1_ : Value, e = .returned (.agg #[.int .i64 r1, v1_]) ∧ Kd.R (Kd.int .i64) 3 w' w.heap.size (fun _ => True) v1_ r2 ∧ Below w.heap.size w w' := by
 have bB := Tryz.underlying46
 have aR := Aside0.mk aO
 have aS := Aside0.mk aP
 clear aO aP
 have HB := am (Below.refl w.heap.size w)
 have H : ((slices_Clone_int.f aF).bind fun aJ => (some (aH, aJ))) = some (r1, r2) := h
 clear h
 replace H := bm H
 obtain ⟨aJ, aW, H⟩ := H
 replace H : (some (aH, aJ)) = some (r1, r2) := H
 have A2 := Aside0.mk aW
 clear aW
 simp only [Option.some.injEq, Prod.mk.injEq] at H
 obtain ⟨rfl, rfl⟩ := H
 go_enter Tryz.func72, Tryz.ntmps72
 try go_wp2_with (first | ((with_reducible refine gate_dst (N := 1) rfl ?_); refine box_event rfl (N := 1) rfl (cs := #[.int .i64 aH, .slice aK aF.length aL]) (t := 46) BX ?_; intro aT hg w3 aM hb; have aB := am (aM); have aU := am (GH HB hg); have aI := aU; replace HB := bl (KL HB) hb; clear hb aM hg) | ((with_reducible refine gate_dst (N := 2) rfl ?_); refine box_event rfl (N := 2) rfl (cs := #[.int .i64 0, .slice none 0 0]) (t := 46) BX ?_; intro aD hg w4 aM hb; have aC := am (aM); have aV := am (GH1 HB aI.out hg); have aN := aV; replace HB := bl (K1 HB aI.out) hb; have aA := am (NL aB hg); have aG := am (NG aB hg); replace aB := am (BB aB hb); clear hb aM hg))
 replace aB := am (blk_drew aB.out)
 replace aC := am (blk_drew aC.out)
 replace HB := am (below_drew1 HB.out)
 refine start_ (n := 7) (S := fun w' => de2 w' aT (.int .i64 aH) (.slice aK aF.length aL)) (ds := []) (tf 0 7) (by kernel_rfl) rfl rfl ⟨z0 _ aB.out, z1 _ aB.out⟩ (fun aE => ?_)
 generalize w4.drew = w5 at aB aC HB aE ⊢
 refine pure_ (i := 0) (N := some 3) (v := ?_) (a' := ?_) (tf 1 6) rfl rfl (by kernel_rfl) (fun _ _ _ h => h) (Or.inl ⟨by rfl, ?_⟩) ?_ ?_; rotate_left; (· intro w'; go_simp; with_reducible rfl); rotate_left; (· simp only [Act.put, List.setIfInBounds_toArray, List.set_cons_zero, List.set_cons_succ, i64_w, i32_w]; rfl)
 refine pure_ (i := 2) (N := some 5) (v := ?_) (a' := ?_) (tr [1, 1, 1, 4]) rfl rfl (by kernel_rfl) (fun _ _ _ h => h) (Or.inl ⟨by rfl, ?_⟩) ?_ ?_; rotate_left; (· intro w'; go_simp; with_reducible rfl); rotate_left; (· simp only [Act.put, List.setIfInBounds_toArray, List.set_cons_zero, List.set_cons_succ, i64_w, i32_w]; rfl)
 refine take_ (i := 1) (N := some 4) (v := ?_) (a' := ?_) (tf 3 4) rfl rfl (by kernel_rfl) (fun _ _ _ h => h) (Or.inl ⟨by rfl, ?_⟩) aE ?_ ?_
 rotate_left
 ·rintro w' ⟨s0, s1⟩
  go_simp
  with_reducible rfl
 rotate_left
 ·simp only [Act.put, List.setIfInBounds_toArray, List.set_cons_zero, List.set_cons_succ, i64_w, i32_w]
  rfl
 refine take_ (i := 3) (N := some 6) (v := ?_) (a' := ?_) (tf 4 3) rfl rfl (by kernel_rfl) (fun _ _ _ h => h) (Or.inl ⟨by rfl, ?_⟩) aE ?_ ?_
 rotate_left
 ·rintro w' ⟨s0, s1⟩
  go_simp
  with_reducible rfl
 rotate_left
 ·simp only [Act.put, List.setIfInBounds_toArray, List.set_cons_zero, List.set_cons_succ, i64_w, i32_w]
  rfl
 refine one_ (i := 4) (N := some 7) (tf 5 2) rfl rfl (by kernel_rfl) (by decide) (fun K hK => ?_)
 refine goes_ Tryz.func97 (by kernel_rfl) rfl #[.slice aK aF.length aL] (by rfl) rfl rfl MT ?_
 with_reducible refine (slices_Clone_int.calls _ _ aF aJ _ ?_ ?_ A2.out).mono ?_
 exact KD aR HB
 exact aS.out
 rintro e w6 ⟨bC, rfl, aX, hb⟩
 refine ⟨_, rfl, ?_⟩
 have aQ := am (Kd.R_lower aX (below_size (K2 HB aI.out aN.out)))
 replace aB := am (BB aB hb)
 replace aC := am (BB aC hb)
 replace HB := bl (K2 HB aI.out aN.out) hb
 (try clear hb)
 (try clear hb2)
 (try clear hk)
 (try clear hi)
 (try clear aX)
 obtain ⟨aY, aZ, bA⟩ := Kd.R_slice aQ.out
 (first | subst bA | (injection bA with f1_ f2_ f3_; have f4_ := f1_.symm; have f5_ := f3_.symm; clear f1_ f2_ f3_; subst f4_; subst f5_))
 refine hK.out _ _ ⟨z0 _ aB.out, z1 _ aB.out⟩ (fun aE => ?_)
 clear hK K
 refine nm (some 7) ?_
 refine pure_ (i := 5) (N := some 8) (v := ?_) (a' := ?_) (tf 6 1) rfl rfl (by kernel_rfl) (fun _ _ _ h => h) (Or.inl ⟨by rfl, ?_⟩) ?_ ?_; rotate_left; (· intro w'; go_simp; with_reducible rfl); rotate_left; (· simp only [Act.put, List.setIfInBounds_toArray, List.set_cons_zero, List.set_cons_succ, i64_w, i32_w]; rfl)
 refine one_ (i := 6) (N := none) (tf 7 0) rfl rfl (by kernel_rfl) (by decide) (fun K hK => ?_)
 have hs8 : w6.cell? ⟨aD, 0, none⟩ = some (.int .i64 0) := z0 _ aC.out
 have hfs8 := blk_frozen aC.out 0
 have hns8_0 := aA.out
 have hms8_0 := aG.out
 have hs9 : w6.cell? ⟨aD, 1, none⟩ = some (.slice none 0 0) := z1 _ aC.out
 have hfs9 := blk_frozen aC.out 1
 have hns9_0 := aA.out
 have hms9_0 := aG.out
 refine skip_ (w1 := ?_) (by rfl) rfl ?_ ?_
 rotate_left
 ·go_simp
  rfl
 refine hK.out _ _ ⟨((cell_far (p := ⟨aD, _, none⟩) aA.out _).trans (((cell_far (p := ⟨aD, _, none⟩) aA.out _).trans (aE.1)))), ((cell_far (p := ⟨aD, _, none⟩) aA.out _).trans (((cell_far (p := ⟨aD, _, none⟩) aA.out _).trans (aE.2))))⟩ (fun aE => ?_)
 clear hK K
 refine done_ (by kernel_rfl) ?_
 try go_wp2
 refine bodyPost_ret (results_cell_row rfl _ _ aD 46 #[.int .i64 aH, .slice aY aJ.length aZ] (0, 0) _ rfl (by refine BD ?_; refine blk_put (cs := #[.int .i64 aH, .slice none 0 0]) ?_ 1 _ rfl; refine BD ?_; refine blk_put (cs := #[.int .i64 0, .slice none 0 0]) ?_ 0 _ rfl; refine BD ?_; exact aC.out) Tryz.underlying46 rfl (by kernel_rfl)) rfl ?_
 exact ⟨_, ER, by refine KW ?_; exact Kd.R_mono (Kd.R_far (p := ⟨aD, 1, none⟩) (Kd.R_far (p := ⟨aD, 0, none⟩) (Kd.R_types aQ.out aC.out (by decide)) (fun _ hk => hk.2) (.int .i64 aH)) (fun _ hk => hk.2) (.slice aY aJ.length aZ)) (fun _ hk => trivial), K2 HB aI.out aN.out⟩
def impl_Sa_copied.f (a0_0 : Int) (a0_1 : Int) (a0_2 : ByteArray) (a0_3 : ByteArray) (a0_4 : Int) (a0_5 : Int) (a0_6 : Int) (a0_7 : Int) (a0_8 : Int) (a0_9 : Int) (l0_10 : List Int) : Option (Int × Int × ByteArray × ByteArray × Int × Int × Int × Int × Int × Int × List Int) := (impl_Window_copied.f a0_9 l0_10).bind fun bt103 => (some (a0_0, a0_1, a0_2, a0_3, a0_4, a0_5, a0_6, a0_7, a0_8, bt103.1, bt103.2))
theorem impl_Sa_copied.calls (aB : Int) (aC : Int) (aD : ByteArray) (aE : ByteArray) (aH : Int) (aJ : Int) (aK : Int) (aL : Int) (aM : Int) (aR : Int) (aP : Option Addr) (aQ : Nat) (aF : List Int) (r1 : Int) (r2 : Int) (r3 : ByteArray) (r4 : ByteArray) (r5 : Int) (r6 : Int) (r7 : Int) (r8 : Int) (r9 : Int) (r10 : Int) (r11 : List Int) (w : World) (aU : Kd.C (Kd.int .i64) w aP aF.length aF) (aV : aF.length ≤ aQ) (h : impl_Sa_copied.f aB aC aD aE aH aJ aK aL aM aR aF = some (r1, r2, r3, r4, r5, r6, r7, r8, r9, r10, r11)) :
  Calls Tryz.prog 37 #[.agg #[.int .i64 aB, .int .i64 aC, .string aD, .string aE, .int .i64 aH, .int .i64 aJ, .int .i64 aK, .int .i64 aL, .int .i64 aM, .int .i64 aR, .slice aP aF.length aQ]] w fun e w' => ∃ v10_ : Value, e = .returned (.agg #[.int .i64 r1, .int .i64 r2, .string r3, .string r4, .int .i64 r5, .int .i64 r6, .int .i64 r7, .int .i64 r8, .int .i64 r9, .int .i64 r10, v10_]) ∧ Kd.R (Kd.int .i64) 3 w' w.heap.size (fun _ => True) v10_ r11 ∧ Below w.heap.size w w' := by
 have cU := Tryz.underlying48
 have cV := Tryz.underlying46
 have bC := Aside0.mk aU
 have bD := Aside0.mk aV
 clear aU aV
 have HB := am (Below.refl w.heap.size w)
 have H : ((impl_Window_copied.f aR aF).bind fun aZ => (some (aB, aC, aD, aE, aH, aJ, aK, aL, aM, aZ.1, aZ.2))) = some (r1, r2, r3, r4, r5, r6, r7, r8, r9, r10, r11) := h
 clear h
 replace H := bm H
 obtain ⟨⟨aS, aW⟩, cS, H⟩ := H
 replace H : (some (aB, aC, aD, aE, aH, aJ, aK, aL, aM, aS, aW)) = some (r1, r2, r3, r4, r5, r6, r7, r8, r9, r10, r11) := H
 have A2 := Aside0.mk cS
 clear cS
 simp only [Option.some.injEq, Prod.mk.injEq] at H
 obtain ⟨rfl, rfl, rfl, rfl, rfl, rfl, rfl, rfl, rfl, rfl, rfl⟩ := H
 go_enter Tryz.func37, Tryz.ntmps37
 go_wp2_with (first | ((with_reducible refine gate_dst (N := 1) rfl ?_); refine box_event rfl (N := 1) rfl (cs := #[.int .i64 aB, .int .i64 aC, .string aD, .string aE, .int .i64 aH, .int .i64 aJ, .int .i64 aK, .int .i64 aL, .int .i64 aM, .int .i64 aR, .slice aP aF.length aQ]) (t := 48) BX ?_; intro bA hg w3 aX hb; have aG := am (aX); have bE := am (GH HB hg); have aN := bE; replace HB := bl (KL HB) hb; clear hb aX hg) | ((with_reducible refine gate_dst (N := 2) rfl ?_); refine box_event rfl (N := 2) rfl (cs := #[.int .i64 0, .int .i64 0, .string (⟨#[]⟩ : ByteArray), .string (⟨#[]⟩ : ByteArray), .int .i64 0, .int .i64 0, .int .i64 0, .int .i64 0, .int .i64 0, .int .i64 0, .slice none 0 0]) (t := 48) BX ?_; intro aA hg w4 aX hb; have aO := am (aX); have bF := am (GH1 HB aN.out hg); have aY := bF; replace HB := bl (K1 HB aN.out) hb; have aT := am (NL aG hg); have aI := am (NG aG hg); replace aG := am (BB aG hb); clear hb aX hg; have cW := aT.out; have cX := aI.out; have ⟨_, _, _, _, _, _, _, _, _, _, _, _⟩ := y11 w4 aG.out) | ((with_reducible refine gate_callee (f := 72) rfl ?_); refine goesL_ (some 5) rfl rfl Tryz.func72 (by kernel_rfl) rfl #[.agg #[.int .i64 aR, .slice aP aF.length aQ]] rfl MT ?_; (with_reducible refine (impl_Window_copied.calls aR _ _ aF aS aW _ ?_ ?_ A2.out).mono ?_); exact KD bC HB; exact bD.out; rintro e w7 ⟨cY, rfl, cT, hb⟩; refine ⟨_, rfl, ?_⟩; have bB := am (Kd.R_lower cT (below_size (K2 HB aN.out aY.out))); replace aG := am (BB aG hb); replace aO := am (BB aO hb); replace HB := bl (K2 HB aN.out aY.out) hb; (try clear hb); (try clear cT); have ⟨_, _, _, _, _, _, _, _, _, _, _, _⟩ := y11 w7 aG.out; obtain ⟨cQ, cR, cZ⟩ := Kd.R_slice bB.out; subst cZ; have ⟨_, _, _, _, _, _, _, _, _, _, _, _⟩ := y11 w7 aO.out))
 refine bodyPost_ret (results_cell_row rfl _ _ aA 48 #[.int .i64 aB, .int .i64 aC, .string aD, .string aE, .int .i64 aH, .int .i64 aJ, .int .i64 aK, .int .i64 aL, .int .i64 aM, .int .i64 aS, .slice cQ aW.length cR] (0, 0) _ rfl (by refine BD ?_; refine blk_put (cs := #[.int .i64 aB, .int .i64 aC, .string aD, .string aE, .int .i64 aH, .int .i64 aJ, .int .i64 aK, .int .i64 aL, .int .i64 aM, .int .i64 aS, .slice none 0 0]) ?_ 10 _ rfl; refine BD ?_; refine blk_put (cs := #[.int .i64 aB, .int .i64 aC, .string aD, .string aE, .int .i64 aH, .int .i64 aJ, .int .i64 aK, .int .i64 aL, .int .i64 aM, .int .i64 0, .slice none 0 0]) ?_ 9 _ rfl; refine BD ?_; refine blk_put (cs := #[.int .i64 aB, .int .i64 aC, .string aD, .string aE, .int .i64 aH, .int .i64 aJ, .int .i64 aK, .int .i64 aL, .int .i64 0, .int .i64 0, .slice none 0 0]) ?_ 8 _ rfl; refine BD ?_; refine blk_put (cs := #[.int .i64 aB, .int .i64 aC, .string aD, .string aE, .int .i64 aH, .int .i64 aJ, .int .i64 aK, .int .i64 0, .int .i64 0, .int .i64 0, .slice none 0 0]) ?_ 7 _ rfl; refine BD ?_; refine blk_put (cs := #[.int .i64 aB, .int .i64 aC, .string aD, .string aE, .int .i64 aH, .int .i64 aJ, .int .i64 0, .int .i64 0, .int .i64 0, .int .i64 0, .slice none 0 0]) ?_ 6 _ rfl; refine BD ?_; refine blk_put (cs := #[.int .i64 aB, .int .i64 aC, .string aD, .string aE, .int .i64 aH, .int .i64 0, .int .i64 0, .int .i64 0, .int .i64 0, .int .i64 0, .slice none 0 0]) ?_ 5 _ rfl; refine BD ?_; refine blk_put (cs := #[.int .i64 aB, .int .i64 aC, .string aD, .string aE, .int .i64 0, .int .i64 0, .int .i64 0, .int .i64 0, .int .i64 0, .int .i64 0, .slice none 0 0]) ?_ 4 _ rfl; refine BD ?_; refine blk_put (cs := #[.int .i64 aB, .int .i64 aC, .string aD, .string (⟨#[]⟩ : ByteArray), .int .i64 0, .int .i64 0, .int .i64 0, .int .i64 0, .int .i64 0, .int .i64 0, .slice none 0 0]) ?_ 3 _ rfl; refine BD ?_; refine blk_put (cs := #[.int .i64 aB, .int .i64 aC, .string (⟨#[]⟩ : ByteArray), .string (⟨#[]⟩ : ByteArray), .int .i64 0, .int .i64 0, .int .i64 0, .int .i64 0, .int .i64 0, .int .i64 0, .slice none 0 0]) ?_ 2 _ rfl; refine BD ?_; refine blk_put (cs := #[.int .i64 aB, .int .i64 0, .string (⟨#[]⟩ : ByteArray), .string (⟨#[]⟩ : ByteArray), .int .i64 0, .int .i64 0, .int .i64 0, .int .i64 0, .int .i64 0, .int .i64 0, .slice none 0 0]) ?_ 1 _ rfl; refine BD ?_; refine blk_put (cs := #[.int .i64 0, .int .i64 0, .string (⟨#[]⟩ : ByteArray), .string (⟨#[]⟩ : ByteArray), .int .i64 0, .int .i64 0, .int .i64 0, .int .i64 0, .int .i64 0, .int .i64 0, .slice none 0 0]) ?_ 0 _ rfl; refine BD ?_; refine blk_far ?_ aI.out _; refine BD ?_; refine blk_far ?_ aI.out _; refine BD ?_; exact aO.out) Tryz.underlying48 rfl (by kernel_rfl)) rfl ?_
 exact ⟨_, ER, by refine KW ?_; exact Kd.R_mono (Kd.R_far (p := ⟨aA, 10, none⟩) (Kd.R_far (p := ⟨aA, 9, none⟩) (Kd.R_far (p := ⟨aA, 8, none⟩) (Kd.R_far (p := ⟨aA, 7, none⟩) (Kd.R_far (p := ⟨aA, 6, none⟩) (Kd.R_far (p := ⟨aA, 5, none⟩) (Kd.R_far (p := ⟨aA, 4, none⟩) (Kd.R_far (p := ⟨aA, 3, none⟩) (Kd.R_far (p := ⟨aA, 2, none⟩) (Kd.R_far (p := ⟨aA, 1, none⟩) (Kd.R_far (p := ⟨aA, 0, none⟩) (Kd.R_far (p := ⟨bA, 10, none⟩) (Kd.R_far (p := ⟨bA, 9, none⟩) (Kd.R_types (Kd.R_types bB.out aG.out (by decide)) aO.out (by decide)) (fun _ hk => hk.1.2) (.int .i64 aS)) (fun _ hk => hk.1.2) (.slice cQ aW.length cR)) (fun _ hk => hk.2) (.int .i64 aB)) (fun _ hk => hk.2) (.int .i64 aC)) (fun _ hk => hk.2) (.string aD)) (fun _ hk => hk.2) (.string aE)) (fun _ hk => hk.2) (.int .i64 aH)) (fun _ hk => hk.2) (.int .i64 aJ)) (fun _ hk => hk.2) (.int .i64 aK)) (fun _ hk => hk.2) (.int .i64 aL)) (fun _ hk => hk.2) (.int .i64 aM)) (fun _ hk => hk.2) (.int .i64 aS)) (fun _ hk => hk.2) (.slice cQ aW.length cR)) (fun _ hk => trivial), K2 HB aN.out aY.out⟩
def impl_copies.l0 : Nat → List (S48) → List (S48) → Int → Int → Option ((List (S48)))
 | 0, _, _, _, _ => none
 | k + 1, x3, x6, x7, x8 => if x8 < x7 then (if 0 ≤ x8 then (if x8 < (x6.length : Int) then ((impl_Sa_copied.f ((rd_T48 x6 x8).f0) ((rd_T48 x6 x8).f1) ((rd_T48 x6 x8).f2) ((rd_T48 x6 x8).f3) ((rd_T48 x6 x8).f4) ((rd_T48 x6 x8).f5) ((rd_T48 x6 x8).f6) ((rd_T48 x6 x8).f7) ((rd_T48 x6 x8).f8) ((rd_T48 x6 x8).f9.f0) ((rd_T48 x6 x8).f9.f1)).bind fun bt103 => (if x3.length < 1172812402961 then (impl_copies.l0 k (x3 ++ [(⟨bt103.1, bt103.2.1, bt103.2.2.1, bt103.2.2.2.1, bt103.2.2.2.2.1, bt103.2.2.2.2.2.1, bt103.2.2.2.2.2.2.1, bt103.2.2.2.2.2.2.2.1, bt103.2.2.2.2.2.2.2.2.1, (⟨bt103.2.2.2.2.2.2.2.2.2.1, bt103.2.2.2.2.2.2.2.2.2.2⟩ : S46)⟩ : S48)]) x6 x7 (wrap64 (x8 + 1))) else (none))) else (none)) else (none)) else (some x3)
def impl_copies.f (k : Nat) (l0 : List (S48)) : Option ((List (S48))) := impl_copies.l0 k ([] : List (S48)) l0 (l0.length : Int) 0
theorem impl_copies.calls (k : Nat) (A0 : Option Addr) (c0 : Nat) (l0 : List (S48)) (r : List (S48)) (w : World) (cN : Kd.C k48 w A0 l0.length l0) (cO : l0.length ≤ c0) (h : impl_copies.f k l0 = some r) :
  Calls Tryz.prog 66 #[.slice A0 l0.length c0] w fun e w' => ∃ v0_ : Value, e = .returned (v0_) ∧ Kd.S k48 48 w' w.heap.size (fun _ => True) v0_ r ∧ Below w.heap.size w w' := by
 have cR := Tryz.underlying48
 have cS := Aside0.mk cN
 have cV := Aside0.mk cO
 clear cN cO
 have HB := am (Below.refl w.heap.size w)
 have H : (impl_copies.l0 k ([] : List (S48)) l0 (l0.length : Int) 0) = some r := h
 clear h
 have H' := Aside0.mk H
 clear H
 go_enter Tryz.func66, Tryz.ntmps66
 go_wp2
 go_loopg [3, 8] k (fun kq v3 v8 w' => ∃ (aJ : List (S48)) (aA : Int), v8 = .int .i64 aA ∧ Aside0 (impl_copies.l0 kq aJ l0 (l0.length : Int) aA = some r) ∧ Aside0 (kq ≤ k) ∧ Aside0 (Kd.S k48 48 w' w.heap.size (fun _ => True) v3 aJ) ∧ Aside0 (Below w.heap.size w w'))
 case atStart => exact ⟨(([] : List (S48))), (0), (by first | rfl | (simp; done) | (simp [*]; done)), H', ⟨Nat.le_refl _⟩, ⟨by first | exact Kd.S_nil _ _ _ _ _ | exact Kd.N_nil _ _ _ _ _ | exact Kd.V_nil _ _ _ _ _ | exact Kd.Q_nil _ _ _ _ _ | exact Kd.R_nil _ _ _ _ _⟩, ⟨KL HB⟩⟩
 case round =>
  clear H'
  obtain ⟨aJ, aA, rfl, HA, HK1, aH, HB⟩ := hrel
  cases gk with
  | zero => exact absurd HA.out (by simp [impl_copies.l0])
  | succ k1 =>
   have H := HA.out
   clear HA
   simp only [impl_copies.l0] at H
   by_cases c2 : aA < (l0.length : Int)
   ·rw [if_pos c2] at H
    have c2b0 : decide (aA < (l0.length : Int)) = true := decide_eq_true c2
    clear c2
    by_cases c3 : 0 ≤ aA
    ·rw [if_pos c3] at H
     have c3b0 : decide (0 ≤ aA) = true := decide_eq_true c3
     clear c3
     by_cases c4 : aA < (l0.length : Int)
     ·rw [if_pos c4] at H
      have c4b0 : decide (aA < (l0.length : Int)) = true := decide_eq_true c4
      clear c4
      replace H := bm H
      obtain ⟨⟨bE, bF, bG, bH, bI, bJ, bK, bL, bM, bN, aR⟩, cP, H⟩ := H
      replace H : (if aJ.length < 1172812402961 then (impl_copies.l0 k1 (aJ ++ [(⟨bE, bF, bG, bH, bI, bJ, bK, bL, bM, (⟨bN, aR⟩ : S46)⟩ : S48)]) l0 (l0.length : Int) (wrap64 (aA + 1))) else (none)) = some r := H
      have A5 := Aside0.mk cP
      clear cP
      by_cases c6 : aJ.length < 1172812402961
      ·rw [if_pos c6] at H
       have LMc6 := Aside0.mk c6
       clear c6
       obtain ⟨bS, aK⟩ : ∃ y_ : List (S48), y_ = (aJ ++ [(⟨bE, bF, bG, bH, bI, bJ, bK, bL, bM, (⟨bN, aR⟩ : S46)⟩ : S48)]) := ⟨_, rfl⟩
       replace H : (impl_copies.l0 k1 bS l0 (l0.length : Int) (wrap64 (aA + 1))) = some r := by first | (rw [aK]; with_reducible exact H) | (have H2_ := (Option.bind_some _ _).symm.trans H; rw [aK]; with_reducible exact H2_) | (have H2_ := (Option.bind_some _ _).symm.trans H; with_reducible exact H2_) | with_reducible exact H | (rw [aK]; exact H) | exact H
       have Ny116 := Aside0.mk aK
       clear aK
       have H' := Aside0.mk H
       clear H
       have bQ : 0 ≤ (aA : Int) := OD
       have bR : aA < (l0.length : Int) := OD
       obtain ⟨_, aD, aE, bZ, aT, aU, aV, aW, aX, aY, aZ, bA, bB, bC, aM, aN, aQ⟩ := at_T48 cS.out aA bQ bR
       cases bZ
       replace aT := CX HB.out aT
       replace aU := CX HB.out aU
       replace aV := CX HB.out aV
       replace aW := CX HB.out aW
       replace aX := CX HB.out aX
       replace aY := CX HB.out aY
       replace aZ := CX HB.out aZ
       replace bA := CX HB.out bA
       replace bB := CX HB.out bB
       replace bC := CX HB.out bC
       replace aM := CX HB.out aM
       have bO := Aside0.mk aQ
       have bP := Aside0.mk aN
       clear aQ aN
       replace bQ := eq_true bQ
       replace bR := eq_true bR
       go_wp2_with (first | ((with_reducible refine gate_dst (N := 5) rfl ?_); refine box_event rfl (N := 5) rfl (cs := #[.int .i64 0, .int .i64 0, .string (⟨#[]⟩ : ByteArray), .string (⟨#[]⟩ : ByteArray), .int .i64 0, .int .i64 0, .int .i64 0, .int .i64 0, .int .i64 0, .int .i64 0, .slice none 0 0]) (t := 48) BX ?_; intro aC hg w7 bT hb; replace aH := am (Kd.S_below (Kd.S_elderB (by refine KX ?_; exact aH.out) aC (Nat.le_of_eq hg.symm)) hb); have aG := am (bT); have bU := am (GH HB hg); have aI := bU; replace HB := bl (KL HB) hb; clear hb bT hg; have ⟨_, _, _, _, _, _, _, _, _, _, _, _⟩ := y11 w7 aG.out) | ((with_reducible refine gate_callee (f := 37) rfl ?_); refine goesL_ (some 14) rfl rfl Tryz.func37 (by kernel_rfl) rfl #[.agg #[.int .i64 ((rd_T48 l0 aA).f0), .int .i64 ((rd_T48 l0 aA).f1), .string ((rd_T48 l0 aA).f2), .string ((rd_T48 l0 aA).f3), .int .i64 ((rd_T48 l0 aA).f4), .int .i64 ((rd_T48 l0 aA).f5), .int .i64 ((rd_T48 l0 aA).f6), .int .i64 ((rd_T48 l0 aA).f7), .int .i64 ((rd_T48 l0 aA).f8), .int .i64 ((rd_T48 l0 aA).f9.f0), .slice aD ((rd_T48 l0 aA).f9.f1).length aE]] rfl MT ?_; (with_reducible refine (impl_Sa_copied.calls ((rd_T48 l0 aA).f0) ((rd_T48 l0 aA).f1) ((rd_T48 l0 aA).f2) ((rd_T48 l0 aA).f3) ((rd_T48 l0 aA).f4) ((rd_T48 l0 aA).f5) ((rd_T48 l0 aA).f6) ((rd_T48 l0 aA).f7) ((rd_T48 l0 aA).f8) ((rd_T48 l0 aA).f9.f0) _ _ ((rd_T48 l0 aA).f9.f1) bE bF bG bH bI bJ bK bL bM bN aR _ ?_ ?_ A5.out).mono ?_); exact Kd.C_below bO.out (K1 HB aI.out); exact bP.out; rintro e w9 ⟨cT, rfl, cL, hb⟩; refine ⟨_, rfl, ?_⟩; replace aH := am (Kd.S_elder' (by refine KX ?_; exact (Kd.S_mono (Kd.S_far (p := ⟨aC, 10, none⟩) (Kd.S_far (p := ⟨aC, 9, none⟩) (Kd.S_far (p := ⟨aC, 8, none⟩) (Kd.S_far (p := ⟨aC, 7, none⟩) (Kd.S_far (p := ⟨aC, 6, none⟩) (Kd.S_far (p := ⟨aC, 5, none⟩) (Kd.S_far (p := ⟨aC, 4, none⟩) (Kd.S_far (p := ⟨aC, 3, none⟩) (Kd.S_far (p := ⟨aC, 2, none⟩) (Kd.S_far (p := ⟨aC, 1, none⟩) (Kd.S_far (p := ⟨aC, 0, none⟩) (Kd.S_mono aH.out (fun k_ hk => (⟨hk, hk.2⟩ : _ ∧ k_ ≠ aC))) (fun _ hk => hk.2) (.int .i64 ((rd_T48 l0 aA).f0))) (fun _ hk => hk.2) (.int .i64 ((rd_T48 l0 aA).f1))) (fun _ hk => hk.2) (.string ((rd_T48 l0 aA).f2))) (fun _ hk => hk.2) (.string ((rd_T48 l0 aA).f3))) (fun _ hk => hk.2) (.int .i64 ((rd_T48 l0 aA).f4))) (fun _ hk => hk.2) (.int .i64 ((rd_T48 l0 aA).f5))) (fun _ hk => hk.2) (.int .i64 ((rd_T48 l0 aA).f6))) (fun _ hk => hk.2) (.int .i64 ((rd_T48 l0 aA).f7))) (fun _ hk => hk.2) (.int .i64 ((rd_T48 l0 aA).f8))) (fun _ hk => hk.2) (.int .i64 ((rd_T48 l0 aA).f9.f0))) (fun _ hk => hk.2) (.slice aD ((rd_T48 l0 aA).f9.f1).length aE)) (fun _ h_ => h_.1))) (Kd.R_base cL) hb); have bD := am (Kd.R_lower cL (below_size (K1 HB aI.out))); replace aG := am (blk_below (g := aC) (o := .cells #[.int .i64 ((rd_T48 l0 aA).f0), .int .i64 ((rd_T48 l0 aA).f1), .string ((rd_T48 l0 aA).f2), .string ((rd_T48 l0 aA).f3), .int .i64 ((rd_T48 l0 aA).f4), .int .i64 ((rd_T48 l0 aA).f5), .int .i64 ((rd_T48 l0 aA).f6), .int .i64 ((rd_T48 l0 aA).f7), .int .i64 ((rd_T48 l0 aA).f8), .int .i64 ((rd_T48 l0 aA).f9.f0), .slice aD ((rd_T48 l0 aA).f9.f1).length aE] 48 (0, 0)) (by refine BD ?_; refine blk_put (cs := #[.int .i64 ((rd_T48 l0 aA).f0), .int .i64 ((rd_T48 l0 aA).f1), .string ((rd_T48 l0 aA).f2), .string ((rd_T48 l0 aA).f3), .int .i64 ((rd_T48 l0 aA).f4), .int .i64 ((rd_T48 l0 aA).f5), .int .i64 ((rd_T48 l0 aA).f6), .int .i64 ((rd_T48 l0 aA).f7), .int .i64 ((rd_T48 l0 aA).f8), .int .i64 ((rd_T48 l0 aA).f9.f0), .slice none 0 0]) ?_ 10 _ rfl; refine BD ?_; refine blk_put (cs := #[.int .i64 ((rd_T48 l0 aA).f0), .int .i64 ((rd_T48 l0 aA).f1), .string ((rd_T48 l0 aA).f2), .string ((rd_T48 l0 aA).f3), .int .i64 ((rd_T48 l0 aA).f4), .int .i64 ((rd_T48 l0 aA).f5), .int .i64 ((rd_T48 l0 aA).f6), .int .i64 ((rd_T48 l0 aA).f7), .int .i64 ((rd_T48 l0 aA).f8), .int .i64 0, .slice none 0 0]) ?_ 9 _ rfl; refine BD ?_; refine blk_put (cs := #[.int .i64 ((rd_T48 l0 aA).f0), .int .i64 ((rd_T48 l0 aA).f1), .string ((rd_T48 l0 aA).f2), .string ((rd_T48 l0 aA).f3), .int .i64 ((rd_T48 l0 aA).f4), .int .i64 ((rd_T48 l0 aA).f5), .int .i64 ((rd_T48 l0 aA).f6), .int .i64 ((rd_T48 l0 aA).f7), .int .i64 0, .int .i64 0, .slice none 0 0]) ?_ 8 _ rfl; refine BD ?_; refine blk_put (cs := #[.int .i64 ((rd_T48 l0 aA).f0), .int .i64 ((rd_T48 l0 aA).f1), .string ((rd_T48 l0 aA).f2), .string ((rd_T48 l0 aA).f3), .int .i64 ((rd_T48 l0 aA).f4), .int .i64 ((rd_T48 l0 aA).f5), .int .i64 ((rd_T48 l0 aA).f6), .int .i64 0, .int .i64 0, .int .i64 0, .slice none 0 0]) ?_ 7 _ rfl; refine BD ?_; refine blk_put (cs := #[.int .i64 ((rd_T48 l0 aA).f0), .int .i64 ((rd_T48 l0 aA).f1), .string ((rd_T48 l0 aA).f2), .string ((rd_T48 l0 aA).f3), .int .i64 ((rd_T48 l0 aA).f4), .int .i64 ((rd_T48 l0 aA).f5), .int .i64 0, .int .i64 0, .int .i64 0, .int .i64 0, .slice none 0 0]) ?_ 6 _ rfl; refine BD ?_; refine blk_put (cs := #[.int .i64 ((rd_T48 l0 aA).f0), .int .i64 ((rd_T48 l0 aA).f1), .string ((rd_T48 l0 aA).f2), .string ((rd_T48 l0 aA).f3), .int .i64 ((rd_T48 l0 aA).f4), .int .i64 0, .int .i64 0, .int .i64 0, .int .i64 0, .int .i64 0, .slice none 0 0]) ?_ 5 _ rfl; refine BD ?_; refine blk_put (cs := #[.int .i64 ((rd_T48 l0 aA).f0), .int .i64 ((rd_T48 l0 aA).f1), .string ((rd_T48 l0 aA).f2), .string ((rd_T48 l0 aA).f3), .int .i64 0, .int .i64 0, .int .i64 0, .int .i64 0, .int .i64 0, .int .i64 0, .slice none 0 0]) ?_ 4 _ rfl; refine BD ?_; refine blk_put (cs := #[.int .i64 ((rd_T48 l0 aA).f0), .int .i64 ((rd_T48 l0 aA).f1), .string ((rd_T48 l0 aA).f2), .string (⟨#[]⟩ : ByteArray), .int .i64 0, .int .i64 0, .int .i64 0, .int .i64 0, .int .i64 0, .int .i64 0, .slice none 0 0]) ?_ 3 _ rfl; refine BD ?_; refine blk_put (cs := #[.int .i64 ((rd_T48 l0 aA).f0), .int .i64 ((rd_T48 l0 aA).f1), .string (⟨#[]⟩ : ByteArray), .string (⟨#[]⟩ : ByteArray), .int .i64 0, .int .i64 0, .int .i64 0, .int .i64 0, .int .i64 0, .int .i64 0, .slice none 0 0]) ?_ 2 _ rfl; refine BD ?_; refine blk_put (cs := #[.int .i64 ((rd_T48 l0 aA).f0), .int .i64 0, .string (⟨#[]⟩ : ByteArray), .string (⟨#[]⟩ : ByteArray), .int .i64 0, .int .i64 0, .int .i64 0, .int .i64 0, .int .i64 0, .int .i64 0, .slice none 0 0]) ?_ 1 _ rfl; refine BD ?_; refine blk_put (cs := #[.int .i64 0, .int .i64 0, .string (⟨#[]⟩ : ByteArray), .string (⟨#[]⟩ : ByteArray), .int .i64 0, .int .i64 0, .int .i64 0, .int .i64 0, .int .i64 0, .int .i64 0, .slice none 0 0]) ?_ 0 _ rfl; refine BD ?_; exact aG.out) hb); replace HB := bl (K1 HB aI.out) hb; (try clear hb); (try clear hb2); (try clear hk); (try clear hi); (try clear cL); obtain ⟨bV, bW, cM⟩ := Kd.R_slice bD.out; subst cM) | ((with_reducible refine gate_builtin (b := .append) (xs := #[.tmp 12, .tmp 15]) rfl ?_); at_builtin; refine Kd.S_append k48 (w0 := w) w.heap.size rfl (.tmp 12) (.tmp 15) 40 48 (.agg #[(.int .i64 0), (.int .i64 0), (.string ⟨#[]⟩), (.string ⟨#[]⟩), (.int .i64 0), (.int .i64 0), (.int .i64 0), (.int .i64 0), (.int .i64 0), (.int .i64 0), (.slice none 0 0)]) 120 rfl Tryz.underlying40 info48 rfl (by decide) (by omega) u3 aJ (⟨bE, bF, bG, bH, bI, bJ, bK, bL, bM, (⟨bN, aR⟩ : S46)⟩ : S48) [.int .i64 bE, .int .i64 bF, .string bG, .string bH, .int .i64 bI, .int .i64 bJ, .int .i64 bK, .int .i64 bL, .int .i64 bM, .int .i64 bN, .slice bV aR.length bW] (fun k_ => k_ ≠ aC) (fun k_ => some k_ = (.slice bV aR.length bW : Value).ownBlock) rfl rfl ?aP (fun k_ hk_ => ((Kd.R_mono (ok' := fun k_ => ((fun k_ => k_ ≠ aC)) k_ ∧ some k_ ≠ (u3 : Value).ownBlock) (Kd.R_types (Kd.R_apart' (bD.out) (Kd.S_typed aH.out) (by decide)) aG.out (by decide)) (fun k_ hk => ⟨hk.2, hk.1.2⟩))).1 k_ hk_.symm) ?aF ?aO ?aB ?aS ?aL ?_; (case aP => exact k48_mkM _ _ _ (⟨bE, bF, bG, bH, bI, bJ, bK, bL, bM, (⟨bN, aR⟩ : S46)⟩ : S48) (Kd.R_mono (Kd.R_tight rfl (Kd.R_mono (ok' := fun k_ => ((fun k_ => k_ ≠ aC)) k_ ∧ some k_ ≠ (u3 : Value).ownBlock) (Kd.R_types (Kd.R_apart' (bD.out) (Kd.S_typed aH.out) (by decide)) aG.out (by decide)) (fun k_ hk => ⟨hk.2, hk.1.2⟩))) (fun _ h_ => h_))); (case aB => exact (K1 HB aI.out)); (case aF => exact (fun k_ hk => Kd.freshB (g := aC) (o := .cells #[.int .i64 ((rd_T48 l0 aA).f0), .int .i64 ((rd_T48 l0 aA).f1), .string ((rd_T48 l0 aA).f2), .string ((rd_T48 l0 aA).f3), .int .i64 ((rd_T48 l0 aA).f4), .int .i64 ((rd_T48 l0 aA).f5), .int .i64 ((rd_T48 l0 aA).f6), .int .i64 ((rd_T48 l0 aA).f7), .int .i64 ((rd_T48 l0 aA).f8), .int .i64 ((rd_T48 l0 aA).f9.f0), .slice aD ((rd_T48 l0 aA).f9.f1).length aE] 48 (0, 0)) (KB aG) k_ hk)); (case aO => exact (by refine KX ?_; exact Kd.S_mono aH.out (fun k_ hk => ⟨hk.1.2, fun e_ => hk.2 e_⟩))); (case aS => exact (below_size (K1 HB aI.out))); (case aL => have := LMc6.out; omega); intro cU cW ho hb hg hat; rw [← Ny116.out] at ho; replace aG := am (blk_grown (g := aC) (o := .cells #[.int .i64 ((rd_T48 l0 aA).f0), .int .i64 ((rd_T48 l0 aA).f1), .string ((rd_T48 l0 aA).f2), .string ((rd_T48 l0 aA).f3), .int .i64 ((rd_T48 l0 aA).f4), .int .i64 ((rd_T48 l0 aA).f5), .int .i64 ((rd_T48 l0 aA).f6), .int .i64 ((rd_T48 l0 aA).f7), .int .i64 ((rd_T48 l0 aA).f8), .int .i64 ((rd_T48 l0 aA).f9.f0), .slice aD ((rd_T48 l0 aA).f9.f1).length aE] 48 (0, 0)) (KB aG) hg (Kd.S_away aH.out (fun _ hk => hk.1.2))); replace HB := am (hb); have bX := am (ho); clear aH bD; clear ho hb hg hat))
       go_roundg k1
       case measure => have := HK1.out; omega
       case rel => exact ⟨(bS), (wrap64 (aA + 1)), (by first | rfl | (simp; done) | (simp [*]; done)), H', ⟨by have := HK1.out; omega⟩, ⟨by refine KX ?_; exact Kd.S_mono bX.out (fun _ hk => trivial)⟩, ⟨K1 HB aI.out⟩⟩
      ·rw [if_neg c6] at H
       exact absurd H (by simp)
     ·rw [if_neg c4] at H
      exact absurd H (by simp)
    ·rw [if_neg c3] at H
     exact absurd H (by simp)
   ·rw [if_neg c2] at H
    have c2b0 : decide (aA < (l0.length : Int)) = false := decide_eq_false c2
    clear c2
    obtain rfl := sj H
    go_wp2
    go_ret
    exact ⟨_, ER, by refine KX ?_; exact aH.out, KL HB⟩
end Go.Proofs.YtgoblfacfjnanaaGreat.PAll
end
