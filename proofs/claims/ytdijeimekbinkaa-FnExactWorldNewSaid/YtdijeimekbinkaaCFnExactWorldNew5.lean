/- Contracts of the functions that the statement reaches. -/
import Derived.Test.YtdijeimekbinkaaCFnExactWorldNew3
import Derived.Test.YtdijeimekbinkaaCFnExactWorldNew4
set_option maxHeartbeats 8000000
set_option maxRecDepth 100000
section
namespace Go.Proofs.Ytdijeimekbinkaa.PAll
open Go.RowKit Go.Proofs.YtdijeimekbinkaaW.PrintWords Go.Proofs.YtdijeimekbinkaaW.PrintLast Go.Proofs.YtdijeimekbinkaaW.PrintMore
attribute [local go_sem] max2_int min2_int max_two min_two max_three min_three max_four min_four
set_option linter.unusedVariables false
set_option linter.unusedSimpArgs false
def laws_eqBlock.f (a0_0 : Int) (a0_1 : Int) (a1_0 : Int) (a1_1 : Int) : Option (Bool) := if a0_0 = a1_0 then (if a0_1 = a1_1 then (some true) else (some false)) else (some false)
theorem laws_eqBlock.calls (aF : Int) (aG : Int) (aH : Int) (aI : Int) (r : Bool) (w : World) (h : laws_eqBlock.f aF aG aH aI = some r) :
  Calls Try.prog 40 #[.agg #[.int .i64 aF, .int .i64 aG], .agg #[.int .i64 aH, .int .i64 aI]] w fun e w' => e = .returned (.bool r) ∧ Below w.heap.size w w' := by
 have bN := Try.underlying61
 have HB := am (Below.refl w.heap.size w)
 have H : (if aF = aH then (if aG = aI then (some true) else (some false)) else (some false)) = some r := h
 clear h
 by_cases c3 : aF = aH
 ·rw [if_pos c3] at H
  have c3b0 : (aF == aH) = true := beq_iff_eq.mpr c3
  have c3b1 : (aF != aH) = false := bne_eq_false_iff_eq.mpr c3
  clear c3
  by_cases c4 : aG = aI
  ·rw [if_pos c4] at H
   have c4b0 : (aG == aI) = true := beq_iff_eq.mpr c4
   have c4b1 : (aG != aI) = false := bne_eq_false_iff_eq.mpr c4
   clear c4
   obtain rfl := sj H
   go_enter Try.func40, Try.ntmps40
   go_wp2_with (first | ((with_reducible refine gate_dst (N := 2) rfl ?_); refine box_event rfl (N := 2) rfl (cs := #[.int .i64 aF, .int .i64 aG]) (t := 61) BX ?_; intro aN hg w5 aD hb; have aA := am (aD); have aJ := am (GH HB hg); have aE := aJ; replace HB := bl (KL HB) hb; clear hb aD hg) | ((with_reducible refine gate_dst (N := 3) rfl ?_); refine box_event rfl (N := 3) rfl (cs := #[.int .i64 aH, .int .i64 aI]) (t := 61) BX ?_; intro aO hg w6 aD hb; have aK := am (aD); have aL := am (GH1 HB aE.out hg); have aM := aL; replace HB := bl (K1 HB aE.out) hb; have aB := am (NL aA hg); have aC := am (NG aA hg); replace aA := am (BB aA hb); clear hb aD hg; have bO := aB.out; have bP := aC.out; have ⟨_, _, _⟩ := y2 w6 aA.out; have ⟨_, _, _⟩ := y2 w6 aK.out))
   go_ret
   exact ⟨ER, K2 HB aE.out aM.out⟩
  ·rw [if_neg c4] at H
   have c4b0 : (aG == aI) = false := beq_eq_false_iff_ne.mpr c4
   have c4b1 : (aG != aI) = true := bne_iff_ne.mpr c4
   obtain rfl := sj H
   go_enter Try.func40, Try.ntmps40
   go_wp2_with (first | ((with_reducible refine gate_dst (N := 2) rfl ?_); refine box_event rfl (N := 2) rfl (cs := #[.int .i64 aF, .int .i64 aG]) (t := 61) BX ?_; intro aN hg bQ aD hb; have aA := am (aD); have aJ := am (GH HB hg); have aE := aJ; replace HB := bl (KL HB) hb; clear hb aD hg) | ((with_reducible refine gate_dst (N := 3) rfl ?_); refine box_event rfl (N := 3) rfl (cs := #[.int .i64 aH, .int .i64 aI]) (t := 61) BX ?_; intro aO hg bH aD hb; have aK := am (aD); have aL := am (GH1 HB aE.out hg); have aM := aL; replace HB := bl (K1 HB aE.out) hb; have aB := am (NL aA hg); have aC := am (NG aA hg); replace aA := am (BB aA hb); clear hb aD hg; have bI := aB.out; have bJ := aC.out; have ⟨_, _, _⟩ := y2 bH aA.out; have ⟨_, _, _⟩ := y2 bH aK.out))
   go_ret
   exact ⟨ER, K2 HB aE.out aM.out⟩
 ·rw [if_neg c3] at H
  have c3b0 : (aF == aH) = false := beq_eq_false_iff_ne.mpr c3
  have c3b1 : (aF != aH) = true := bne_iff_ne.mpr c3
  obtain rfl := sj H
  go_enter Try.func40, Try.ntmps40
  go_wp2_with (first | ((with_reducible refine gate_dst (N := 2) rfl ?_); refine box_event rfl (N := 2) rfl (cs := #[.int .i64 aF, .int .i64 aG]) (t := 61) BX ?_; intro aN hg bR aD hb; have aA := am (aD); have aJ := am (GH HB hg); have aE := aJ; replace HB := bl (KL HB) hb; clear hb aD hg) | ((with_reducible refine gate_dst (N := 3) rfl ?_); refine box_event rfl (N := 3) rfl (cs := #[.int .i64 aH, .int .i64 aI]) (t := 61) BX ?_; intro aO hg bK aD hb; have aK := am (aD); have aL := am (GH1 HB aE.out hg); have aM := aL; replace HB := bl (K1 HB aE.out) hb; have aB := am (NL aA hg); have aC := am (NG aA hg); replace aA := am (BB aA hb); clear hb aD hg; have bL := aB.out; have bM := aC.out; have ⟨_, _, _⟩ := y2 bK aA.out; have ⟨_, _, _⟩ := y2 bK aK.out))
  go_ret
  exact ⟨ER, K2 HB aE.out aM.out⟩
def laws_eqRule.f (a0_0 : Int) (a0_1 : Int) (a0_2 : Int) (a0_3 : Int) (a0_4 : Int) (a0_5 : Int) (a0_6 : Int) (a0_7 : Int) (a1_0 : Int) (a1_1 : Int) (a1_2 : Int) (a1_3 : Int) (a1_4 : Int) (a1_5 : Int) (a1_6 : Int) (a1_7 : Int) : Option (Bool) := if a0_0 = a1_0 then (if a0_1 = a1_1 then ((laws_eqBlock.f a0_2 a0_3 a1_2 a1_3).bind fun t103 => (if t103 = true then ((laws_eqBlock.f a0_4 a0_5 a1_4 a1_5).bind fun t104 => (if t104 = true then (if a0_6 = a1_6 then (if a0_7 = a1_7 then (some true) else (some false)) else (some false)) else (some false))) else (some false))) else (some false)) else (some false)
theorem laws_eqRule.calls (aV : Int) (aW : Int) (aH : Int) (aI : Int) (aN : Int) (aO : Int) (aR : Int) (aS : Int) (aX : Int) (aY : Int) (aJ : Int) (aK : Int) (aP : Int) (aQ : Int) (aT : Int) (aU : Int) (r : Bool) (w : World) (h : laws_eqRule.f aV aW aH aI aN aO aR aS aX aY aJ aK aP aQ aT aU = some r) :
  Calls Try.prog 32 #[.agg #[.int .i64 aV, .int .i64 aW, .int .i64 aH, .int .i64 aI, .int .i64 aN, .int .i64 aO, .int .i64 aR, .int .i64 aS], .agg #[.int .i64 aX, .int .i64 aY, .int .i64 aJ, .int .i64 aK, .int .i64 aP, .int .i64 aQ, .int .i64 aT, .int .i64 aU]] w fun e w' => e = .returned (.bool r) ∧ Below w.heap.size w w' := by
 have mA := Try.underlying63
 have mB := Try.underlying61
 have HB := am (Below.refl w.heap.size w)
 have H : (if aV = aX then (if aW = aY then ((laws_eqBlock.f aH aI aJ aK).bind fun bC => (if bC = true then ((laws_eqBlock.f aN aO aP aQ).bind fun bB => (if bB = true then (if aR = aT then (if aS = aU then (some true) else (some false)) else (some false)) else (some false))) else (some false))) else (some false)) else (some false)) = some r := h
 clear h
 by_cases c3 : aV = aX
 ·rw [if_pos c3] at H
  have c3b0 : (aV == aX) = true := beq_iff_eq.mpr c3
  have c3b1 : (aV != aX) = false := bne_eq_false_iff_eq.mpr c3
  clear c3
  by_cases c4 : aW = aY
  ·rw [if_pos c4] at H
   have c4b0 : (aW == aY) = true := beq_iff_eq.mpr c4
   have c4b1 : (aW != aY) = false := bne_eq_false_iff_eq.mpr c4
   clear c4
   replace H := bm H
   obtain ⟨bC, kW, H⟩ := H
   replace H : (if bC = true then ((laws_eqBlock.f aN aO aP aQ).bind fun bB => (if bB = true then (if aR = aT then (if aS = aU then (some true) else (some false)) else (some false)) else (some false))) else (some false)) = some r := H
   have A5 := Aside0.mk kW
   clear kW
   by_cases c6 : bC = true
   ·subst c6
    have H1 := pf H
    clear H
    have H := H1
    clear H1
    replace H := bm H
    obtain ⟨bB, kX, H⟩ := H
    replace H : (if bB = true then (if aR = aT then (if aS = aU then (some true) else (some false)) else (some false)) else (some false)) = some r := H
    have A7 := Aside0.mk kX
    clear kX
    by_cases c8 : bB = true
    ·subst c8
     have H1 := pf H
     clear H
     have H := H1
     clear H1
     by_cases c9 : aR = aT
     ·rw [if_pos c9] at H
      have c9b0 : (aR == aT) = true := beq_iff_eq.mpr c9
      have c9b1 : (aR != aT) = false := bne_eq_false_iff_eq.mpr c9
      clear c9
      by_cases bD : aS = aU
      ·rw [if_pos bD] at H
       have c10b0 : (aS == aU) = true := beq_iff_eq.mpr bD
       have c10b1 : (aS != aU) = false := bne_eq_false_iff_eq.mpr bD
       clear bD
       obtain rfl := sj H
       go_enter Try.func32, Try.ntmps32
       go_wp2_with (first | ((with_reducible refine gate_dst (N := 2) rfl ?_); refine box_event rfl (N := 2) rfl (cs := #[.int .i64 aV, .int .i64 aW, .int .i64 aH, .int .i64 aI, .int .i64 aN, .int .i64 aO, .int .i64 aR, .int .i64 aS]) (t := 63) BX ?_; intro aZ hg mC aF hb; have aA := am (aF); have aL := am (GH HB hg); have aC := aL; replace HB := bl (KL HB) hb; clear hb aF hg) | ((with_reducible refine gate_dst (N := 3) rfl ?_); refine box_event rfl (N := 3) rfl (cs := #[.int .i64 aX, .int .i64 aY, .int .i64 aJ, .int .i64 aK, .int .i64 aP, .int .i64 aQ, .int .i64 aT, .int .i64 aU]) (t := 63) BX ?_; intro bA hg kY aF hb; have aB := am (aF); have aM := am (GH1 HB aC.out hg); have aG := aM; replace HB := bl (K1 HB aC.out) hb; have aD := am (NL aA hg); have aE := am (NG aA hg); replace aA := am (BB aA hb); clear hb aF hg; have kZ := aD.out; have lA := aE.out; have ⟨_, _, _, _, _, _, _, _, _⟩ := y8 kY aA.out; have ⟨_, _, _, _, _, _, _, _, _⟩ := y8 kY aB.out) | ((with_reducible refine gate_callee (f := 40) rfl ?_); refine goesL_ (some 19) rfl rfl Try.func40 (by kernel_rfl) rfl #[.agg #[.int .i64 aH, .int .i64 aI], .agg #[.int .i64 aJ, .int .i64 aK]] rfl MT ?_; (with_reducible refine (laws_eqBlock.calls aH aI aJ aK true _ A5.out).mono ?_); rintro e lB ⟨rfl, hb⟩; refine ⟨_, rfl, ?_⟩; replace aA := am (BB aA hb); replace aB := am (BB aB hb); replace HB := bl (K2 HB aC.out aG.out) hb; (try clear hb); have ⟨_, _, _, _, _, _, _, _, _⟩ := y8 lB aA.out; have ⟨_, _, _, _, _, _, _, _, _⟩ := y8 lB aB.out) | ((with_reducible refine gate_callee (f := 40) rfl ?_); refine goesL_ (some 25) rfl rfl Try.func40 (by kernel_rfl) rfl #[.agg #[.int .i64 aN, .int .i64 aO], .agg #[.int .i64 aP, .int .i64 aQ]] rfl MT ?_; (with_reducible refine (laws_eqBlock.calls aN aO aP aQ true _ A7.out).mono ?_); rintro e lC ⟨rfl, hb⟩; refine ⟨_, rfl, ?_⟩; replace aA := am (BB aA hb); replace aB := am (BB aB hb); replace HB := bl (K2 HB aC.out aG.out) hb; (try clear hb); have ⟨_, _, _, _, _, _, _, _, _⟩ := y8 lC aA.out; have ⟨_, _, _, _, _, _, _, _, _⟩ := y8 lC aB.out))
       go_ret
       exact ⟨ER, K2 HB aC.out aG.out⟩
      ·rw [if_neg bD] at H
       have c10b0 : (aS == aU) = false := beq_eq_false_iff_ne.mpr bD
       have c10b1 : (aS != aU) = true := bne_iff_ne.mpr bD
       obtain rfl := sj H
       go_enter Try.func32, Try.ntmps32
       go_wp2_with (first | ((with_reducible refine gate_dst (N := 2) rfl ?_); refine box_event rfl (N := 2) rfl (cs := #[.int .i64 aV, .int .i64 aW, .int .i64 aH, .int .i64 aI, .int .i64 aN, .int .i64 aO, .int .i64 aR, .int .i64 aS]) (t := 63) BX ?_; intro aZ hg mD aF hb; have aA := am (aF); have aL := am (GH HB hg); have aC := aL; replace HB := bl (KL HB) hb; clear hb aF hg) | ((with_reducible refine gate_dst (N := 3) rfl ?_); refine box_event rfl (N := 3) rfl (cs := #[.int .i64 aX, .int .i64 aY, .int .i64 aJ, .int .i64 aK, .int .i64 aP, .int .i64 aQ, .int .i64 aT, .int .i64 aU]) (t := 63) BX ?_; intro bA hg lD aF hb; have aB := am (aF); have aM := am (GH1 HB aC.out hg); have aG := aM; replace HB := bl (K1 HB aC.out) hb; have aD := am (NL aA hg); have aE := am (NG aA hg); replace aA := am (BB aA hb); clear hb aF hg; have lE := aD.out; have lF := aE.out; have ⟨_, _, _, _, _, _, _, _, _⟩ := y8 lD aA.out; have ⟨_, _, _, _, _, _, _, _, _⟩ := y8 lD aB.out) | ((with_reducible refine gate_callee (f := 40) rfl ?_); refine goesL_ (some 19) rfl rfl Try.func40 (by kernel_rfl) rfl #[.agg #[.int .i64 aH, .int .i64 aI], .agg #[.int .i64 aJ, .int .i64 aK]] rfl MT ?_; (with_reducible refine (laws_eqBlock.calls aH aI aJ aK true _ A5.out).mono ?_); rintro e lG ⟨rfl, hb⟩; refine ⟨_, rfl, ?_⟩; replace aA := am (BB aA hb); replace aB := am (BB aB hb); replace HB := bl (K2 HB aC.out aG.out) hb; (try clear hb); have ⟨_, _, _, _, _, _, _, _, _⟩ := y8 lG aA.out; have ⟨_, _, _, _, _, _, _, _, _⟩ := y8 lG aB.out) | ((with_reducible refine gate_callee (f := 40) rfl ?_); refine goesL_ (some 25) rfl rfl Try.func40 (by kernel_rfl) rfl #[.agg #[.int .i64 aN, .int .i64 aO], .agg #[.int .i64 aP, .int .i64 aQ]] rfl MT ?_; (with_reducible refine (laws_eqBlock.calls aN aO aP aQ true _ A7.out).mono ?_); rintro e lH ⟨rfl, hb⟩; refine ⟨_, rfl, ?_⟩; replace aA := am (BB aA hb); replace aB := am (BB aB hb); replace HB := bl (K2 HB aC.out aG.out) hb; (try clear hb); have ⟨_, _, _, _, _, _, _, _, _⟩ := y8 lH aA.out; have ⟨_, _, _, _, _, _, _, _, _⟩ := y8 lH aB.out))
       go_ret
       exact ⟨ER, K2 HB aC.out aG.out⟩
     ·rw [if_neg c9] at H
      have c9b0 : (aR == aT) = false := beq_eq_false_iff_ne.mpr c9
      have c9b1 : (aR != aT) = true := bne_iff_ne.mpr c9
      obtain rfl := sj H
      go_enter Try.func32, Try.ntmps32
      go_wp2_with (first | ((with_reducible refine gate_dst (N := 2) rfl ?_); refine box_event rfl (N := 2) rfl (cs := #[.int .i64 aV, .int .i64 aW, .int .i64 aH, .int .i64 aI, .int .i64 aN, .int .i64 aO, .int .i64 aR, .int .i64 aS]) (t := 63) BX ?_; intro aZ hg mE aF hb; have aA := am (aF); have aL := am (GH HB hg); have aC := aL; replace HB := bl (KL HB) hb; clear hb aF hg) | ((with_reducible refine gate_dst (N := 3) rfl ?_); refine box_event rfl (N := 3) rfl (cs := #[.int .i64 aX, .int .i64 aY, .int .i64 aJ, .int .i64 aK, .int .i64 aP, .int .i64 aQ, .int .i64 aT, .int .i64 aU]) (t := 63) BX ?_; intro bA hg lI aF hb; have aB := am (aF); have aM := am (GH1 HB aC.out hg); have aG := aM; replace HB := bl (K1 HB aC.out) hb; have aD := am (NL aA hg); have aE := am (NG aA hg); replace aA := am (BB aA hb); clear hb aF hg; have lJ := aD.out; have lK := aE.out; have ⟨_, _, _, _, _, _, _, _, _⟩ := y8 lI aA.out; have ⟨_, _, _, _, _, _, _, _, _⟩ := y8 lI aB.out) | ((with_reducible refine gate_callee (f := 40) rfl ?_); refine goesL_ (some 19) rfl rfl Try.func40 (by kernel_rfl) rfl #[.agg #[.int .i64 aH, .int .i64 aI], .agg #[.int .i64 aJ, .int .i64 aK]] rfl MT ?_; (with_reducible refine (laws_eqBlock.calls aH aI aJ aK true _ A5.out).mono ?_); rintro e lL ⟨rfl, hb⟩; refine ⟨_, rfl, ?_⟩; replace aA := am (BB aA hb); replace aB := am (BB aB hb); replace HB := bl (K2 HB aC.out aG.out) hb; (try clear hb); have ⟨_, _, _, _, _, _, _, _, _⟩ := y8 lL aA.out; have ⟨_, _, _, _, _, _, _, _, _⟩ := y8 lL aB.out) | ((with_reducible refine gate_callee (f := 40) rfl ?_); refine goesL_ (some 25) rfl rfl Try.func40 (by kernel_rfl) rfl #[.agg #[.int .i64 aN, .int .i64 aO], .agg #[.int .i64 aP, .int .i64 aQ]] rfl MT ?_; (with_reducible refine (laws_eqBlock.calls aN aO aP aQ true _ A7.out).mono ?_); rintro e lM ⟨rfl, hb⟩; refine ⟨_, rfl, ?_⟩; replace aA := am (BB aA hb); replace aB := am (BB aB hb); replace HB := bl (K2 HB aC.out aG.out) hb; (try clear hb); have ⟨_, _, _, _, _, _, _, _, _⟩ := y8 lM aA.out; have ⟨_, _, _, _, _, _, _, _, _⟩ := y8 lM aB.out))
      go_ret
      exact ⟨ER, K2 HB aC.out aG.out⟩
    ·replace c8 := Bool.eq_false_iff.mpr c8
     subst c8
     have H1 := nf H
     clear H
     have H := H1
     clear H1
     obtain rfl := sj H
     go_enter Try.func32, Try.ntmps32
     go_wp2_with (first | ((with_reducible refine gate_dst (N := 2) rfl ?_); refine box_event rfl (N := 2) rfl (cs := #[.int .i64 aV, .int .i64 aW, .int .i64 aH, .int .i64 aI, .int .i64 aN, .int .i64 aO, .int .i64 aR, .int .i64 aS]) (t := 63) BX ?_; intro aZ hg mF aF hb; have aA := am (aF); have aL := am (GH HB hg); have aC := aL; replace HB := bl (KL HB) hb; clear hb aF hg) | ((with_reducible refine gate_dst (N := 3) rfl ?_); refine box_event rfl (N := 3) rfl (cs := #[.int .i64 aX, .int .i64 aY, .int .i64 aJ, .int .i64 aK, .int .i64 aP, .int .i64 aQ, .int .i64 aT, .int .i64 aU]) (t := 63) BX ?_; intro bA hg lN aF hb; have aB := am (aF); have aM := am (GH1 HB aC.out hg); have aG := aM; replace HB := bl (K1 HB aC.out) hb; have aD := am (NL aA hg); have aE := am (NG aA hg); replace aA := am (BB aA hb); clear hb aF hg; have lO := aD.out; have lP := aE.out; have ⟨_, _, _, _, _, _, _, _, _⟩ := y8 lN aA.out; have ⟨_, _, _, _, _, _, _, _, _⟩ := y8 lN aB.out) | ((with_reducible refine gate_callee (f := 40) rfl ?_); refine goesL_ (some 19) rfl rfl Try.func40 (by kernel_rfl) rfl #[.agg #[.int .i64 aH, .int .i64 aI], .agg #[.int .i64 aJ, .int .i64 aK]] rfl MT ?_; (with_reducible refine (laws_eqBlock.calls aH aI aJ aK true _ A5.out).mono ?_); rintro e lQ ⟨rfl, hb⟩; refine ⟨_, rfl, ?_⟩; replace aA := am (BB aA hb); replace aB := am (BB aB hb); replace HB := bl (K2 HB aC.out aG.out) hb; (try clear hb); have ⟨_, _, _, _, _, _, _, _, _⟩ := y8 lQ aA.out; have ⟨_, _, _, _, _, _, _, _, _⟩ := y8 lQ aB.out) | ((with_reducible refine gate_callee (f := 40) rfl ?_); refine goesL_ (some 25) rfl rfl Try.func40 (by kernel_rfl) rfl #[.agg #[.int .i64 aN, .int .i64 aO], .agg #[.int .i64 aP, .int .i64 aQ]] rfl MT ?_; (with_reducible refine (laws_eqBlock.calls aN aO aP aQ false _ A7.out).mono ?_); rintro e mG ⟨rfl, hb⟩; refine ⟨_, rfl, ?_⟩; replace aA := am (BB aA hb); replace aB := am (BB aB hb); replace HB := bl (K2 HB aC.out aG.out) hb; (try clear hb)))
     go_ret
     exact ⟨ER, K2 HB aC.out aG.out⟩
   ·replace c6 := Bool.eq_false_iff.mpr c6
    subst c6
    have H1 := nf H
    clear H
    have H := H1
    clear H1
    obtain rfl := sj H
    go_enter Try.func32, Try.ntmps32
    go_wp2_with (first | ((with_reducible refine gate_dst (N := 2) rfl ?_); refine box_event rfl (N := 2) rfl (cs := #[.int .i64 aV, .int .i64 aW, .int .i64 aH, .int .i64 aI, .int .i64 aN, .int .i64 aO, .int .i64 aR, .int .i64 aS]) (t := 63) BX ?_; intro aZ hg mH aF hb; have aA := am (aF); have aL := am (GH HB hg); have aC := aL; replace HB := bl (KL HB) hb; clear hb aF hg) | ((with_reducible refine gate_dst (N := 3) rfl ?_); refine box_event rfl (N := 3) rfl (cs := #[.int .i64 aX, .int .i64 aY, .int .i64 aJ, .int .i64 aK, .int .i64 aP, .int .i64 aQ, .int .i64 aT, .int .i64 aU]) (t := 63) BX ?_; intro bA hg lR aF hb; have aB := am (aF); have aM := am (GH1 HB aC.out hg); have aG := aM; replace HB := bl (K1 HB aC.out) hb; have aD := am (NL aA hg); have aE := am (NG aA hg); replace aA := am (BB aA hb); clear hb aF hg; have lS := aD.out; have lT := aE.out; have ⟨_, _, _, _, _, _, _, _, _⟩ := y8 lR aA.out; have ⟨_, _, _, _, _, _, _, _, _⟩ := y8 lR aB.out) | ((with_reducible refine gate_callee (f := 40) rfl ?_); refine goesL_ (some 19) rfl rfl Try.func40 (by kernel_rfl) rfl #[.agg #[.int .i64 aH, .int .i64 aI], .agg #[.int .i64 aJ, .int .i64 aK]] rfl MT ?_; (with_reducible refine (laws_eqBlock.calls aH aI aJ aK false _ A5.out).mono ?_); rintro e mI ⟨rfl, hb⟩; refine ⟨_, rfl, ?_⟩; replace aA := am (BB aA hb); replace aB := am (BB aB hb); replace HB := bl (K2 HB aC.out aG.out) hb; (try clear hb)))
    go_ret
    exact ⟨ER, K2 HB aC.out aG.out⟩
  ·rw [if_neg c4] at H
   have c4b0 : (aW == aY) = false := beq_eq_false_iff_ne.mpr c4
   have c4b1 : (aW != aY) = true := bne_iff_ne.mpr c4
   obtain rfl := sj H
   go_enter Try.func32, Try.ntmps32
   go_wp2_with (first | ((with_reducible refine gate_dst (N := 2) rfl ?_); refine box_event rfl (N := 2) rfl (cs := #[.int .i64 aV, .int .i64 aW, .int .i64 aH, .int .i64 aI, .int .i64 aN, .int .i64 aO, .int .i64 aR, .int .i64 aS]) (t := 63) BX ?_; intro aZ hg mJ aF hb; have aA := am (aF); have aL := am (GH HB hg); have aC := aL; replace HB := bl (KL HB) hb; clear hb aF hg) | ((with_reducible refine gate_dst (N := 3) rfl ?_); refine box_event rfl (N := 3) rfl (cs := #[.int .i64 aX, .int .i64 aY, .int .i64 aJ, .int .i64 aK, .int .i64 aP, .int .i64 aQ, .int .i64 aT, .int .i64 aU]) (t := 63) BX ?_; intro bA hg lU aF hb; have aB := am (aF); have aM := am (GH1 HB aC.out hg); have aG := aM; replace HB := bl (K1 HB aC.out) hb; have aD := am (NL aA hg); have aE := am (NG aA hg); replace aA := am (BB aA hb); clear hb aF hg; have lV := aD.out; have lW := aE.out; have ⟨_, _, _, _, _, _, _, _, _⟩ := y8 lU aA.out; have ⟨_, _, _, _, _, _, _, _, _⟩ := y8 lU aB.out))
   go_ret
   exact ⟨ER, K2 HB aC.out aG.out⟩
 ·rw [if_neg c3] at H
  have c3b0 : (aV == aX) = false := beq_eq_false_iff_ne.mpr c3
  have c3b1 : (aV != aX) = true := bne_iff_ne.mpr c3
  obtain rfl := sj H
  go_enter Try.func32, Try.ntmps32
  go_wp2_with (first | ((with_reducible refine gate_dst (N := 2) rfl ?_); refine box_event rfl (N := 2) rfl (cs := #[.int .i64 aV, .int .i64 aW, .int .i64 aH, .int .i64 aI, .int .i64 aN, .int .i64 aO, .int .i64 aR, .int .i64 aS]) (t := 63) BX ?_; intro aZ hg mK aF hb; have aA := am (aF); have aL := am (GH HB hg); have aC := aL; replace HB := bl (KL HB) hb; clear hb aF hg) | ((with_reducible refine gate_dst (N := 3) rfl ?_); refine box_event rfl (N := 3) rfl (cs := #[.int .i64 aX, .int .i64 aY, .int .i64 aJ, .int .i64 aK, .int .i64 aP, .int .i64 aQ, .int .i64 aT, .int .i64 aU]) (t := 63) BX ?_; intro bA hg lX aF hb; have aB := am (aF); have aM := am (GH1 HB aC.out hg); have aG := aM; replace HB := bl (K1 HB aC.out) hb; have aD := am (NL aA hg); have aE := am (NG aA hg); replace aA := am (BB aA hb); clear hb aF hg; have lY := aD.out; have lZ := aE.out; have ⟨_, _, _, _, _, _, _, _, _⟩ := y8 lX aA.out; have ⟨_, _, _, _, _, _, _, _, _⟩ := y8 lX aB.out))
  go_ret
  exact ⟨ER, K2 HB aC.out aG.out⟩
def laws_eqRuleS.l0 : Nat → List (S63) → List (S63) → Int → Option (Bool)
 | 0, _, _, _ => none
 | k + 1, x0, x1, x5 => if x5 < (x0.length : Int) then (if 0 ≤ x5 then (if x5 < (x1.length : Int) then ((laws_eqRule.f ((rd_T63 x0 x5).f0) ((rd_T63 x0 x5).f1) ((rd_T63 x0 x5).f2.f0) ((rd_T63 x0 x5).f2.f1) ((rd_T63 x0 x5).f3.f0) ((rd_T63 x0 x5).f3.f1) ((rd_T63 x0 x5).f4) ((rd_T63 x0 x5).f5) ((rd_T63 x1 x5).f0) ((rd_T63 x1 x5).f1) ((rd_T63 x1 x5).f2.f0) ((rd_T63 x1 x5).f2.f1) ((rd_T63 x1 x5).f3.f0) ((rd_T63 x1 x5).f3.f1) ((rd_T63 x1 x5).f4) ((rd_T63 x1 x5).f5)).bind fun t103 => (if t103 = true then (laws_eqRuleS.l0 k x0 x1 (wrap64 (x5 + 1))) else (some false))) else (none)) else (none)) else (some true)
def laws_eqRuleS.f (k : Nat) (l0 : List (S63)) (l1 : List (S63)) : Option (Bool) := if (l0.length : Int) = (l1.length : Int) then (laws_eqRuleS.l0 k l0 l1 0) else (some false)
def laws_eqRuleS.T6 : Bool × List (List Nat × List Nat) := (true, [([], []), ([], []), ([0, 1], [0, 1]), ([2], [2]), ([], []), ([], []), ([4, 5], [4, 5]), ([6], [6]), ([3, 7], [3, 7]), ([8], [8])])
def laws_eqRuleS.B6 : List Nat := [0, 0, 3, 7, 0, 0, 48, 112, 255, 511]
theorem laws_eqRuleS.tab6 : rtab .any (opsOf Try.f20 6) = laws_eqRuleS.T6 := by kernel_rfl
theorem laws_eqRuleS.bits6 : waitsOk laws_eqRuleS.T6.2 laws_eqRuleS.B6 = true := by kernel_rfl
theorem laws_eqRuleS.calls (k : Nat) (A0 : Option Addr) (c0 : Nat) (l0 : List (S63)) (A1 : Option Addr) (c1 : Nat) (l1 : List (S63)) (r : Bool) (w : World) (bT : Kd.C k63 w A0 l0.length l0) (bU : l0.length ≤ c0) (bV : Kd.C k63 w A1 l1.length l1) (bW : l1.length ≤ c1) (h : laws_eqRuleS.f k l0 l1 = some r) :
  Calls Try.prog 20 #[.slice A0 l0.length c0, .slice A1 l1.length c1] w fun e w' => e = .returned (.bool r) ∧ Below w.heap.size w w' := by
 have cA := Try.underlying63
 have bX := Aside0.mk bT
 have cB := Aside0.mk bU
 clear bT bU
 have bY := Aside0.mk bV
 have cC := Aside0.mk bW
 clear bV bW
 have HB := am (Below.refl w.heap.size w)
 have H : (if (l0.length : Int) = (l1.length : Int) then (laws_eqRuleS.l0 k l0 l1 0) else (some false)) = some r := h
 clear h
 by_cases c3 : (l0.length : Int) = (l1.length : Int)
 ·rw [if_pos c3] at H
  have c3b0 : ((l0.length : Int) == (l1.length : Int)) = true := beq_iff_eq.mpr c3
  have c3b1 : ((l0.length : Int) != (l1.length : Int)) = false := bne_eq_false_iff_eq.mpr c3
  have c3b2 : (l0.length == l1.length) = true := by first | simpa using c3 | (simp at c3 ⊢; omega)
  clear c3
  have H' := Aside0.mk H
  clear H
  go_enter Try.func20, Try.ntmps20
  go_wp2
  go_loopg [5] k (fun kq v5 w' => ∃ (aA : Int), v5 = .int .i64 aA ∧ Aside0 (laws_eqRuleS.l0 kq l0 l1 aA = some r) ∧ Aside0 (kq ≤ k) ∧ Aside0 (Below w.heap.size w w'))
  case atStart => exact ⟨(0), (by first | rfl | (simp; done) | (simp [*]; done)), H', ⟨Nat.le_refl _⟩, ⟨KL HB⟩⟩
  case round =>
   clear H'
   try clear c1
   try clear c2
   try clear p2
   try clear c3
   try clear c3b0
   try clear c3b1
   try clear c3b2
   obtain ⟨aA, rfl, HA, HK1, HB⟩ := hrel
   cases gk with
   | zero => exact absurd HA.out (by simp [laws_eqRuleS.l0])
   | succ k1 =>
    have H := HA.out
    clear HA
    simp only [laws_eqRuleS.l0] at H
    by_cases c4 : aA < (l0.length : Int)
    ·rw [if_pos c4] at H
     have c4b0 : decide (aA < (l0.length : Int)) = true := decide_eq_true c4
     clear c4
     by_cases c5 : 0 ≤ aA
     ·rw [if_pos c5] at H
      have c5b0 : decide (0 ≤ aA) = true := decide_eq_true c5
      clear c5
      by_cases c6 : aA < (l1.length : Int)
      ·rw [if_pos c6] at H
       have c6b0 : decide (aA < (l1.length : Int)) = true := decide_eq_true c6
       clear c6
       replace H := bm H
       obtain ⟨bR, bZ, H⟩ := H
       replace H : (if bR = true then (laws_eqRuleS.l0 k1 l0 l1 (wrap64 (aA + 1))) else (some false)) = some r := H
       have A7 := Aside0.mk bZ
       clear bZ
       by_cases c8 : bR = true
       ·subst c8
        have H1 := pf H
        clear H
        have H := H1
        clear H1
        have H' := Aside0.mk H
        clear H
        try go_wp2
        replace HB := am (below_drew1 HB.out)
        have bL : 0 ≤ (aA : Int) := OD
        have bM : aA < (l0.length : Int) := OD
        obtain ⟨aB, bP, aD, aE, aF, aG, aH, aI, aJ, aK⟩ := at_T63 bX.out aA bL bM
        have aT := aK
        have aU := aJ
        have aV := aI
        have aW := aH
        have aX := aG
        have aY := aF
        have aZ := aE
        have bA := aD
        cases bP
        replace aD := CX HB.out aD
        replace aE := CX HB.out aE
        replace aF := CX HB.out aF
        replace aG := CX HB.out aG
        replace aH := CX HB.out aH
        replace aI := CX HB.out aI
        replace aJ := CX HB.out aJ
        replace aK := CX HB.out aK
        replace bL := eq_true bL
        replace bM := eq_true bM
        have bN : 0 ≤ (aA : Int) := OD
        have bO : aA < (l1.length : Int) := OD
        obtain ⟨aC, bQ, aL, aM, aN, aO, aP, aQ, aR, aS⟩ := at_T63 bY.out aA bN bO
        have bB := aS
        have bC := aR
        have bD := aQ
        have bE := aP
        have bF := aO
        have bG := aN
        have bH := aM
        have bI := aL
        cases bQ
        replace aL := CX HB.out aL
        replace aM := CX HB.out aM
        replace aN := CX HB.out aN
        replace aO := CX HB.out aO
        replace aP := CX HB.out aP
        replace aQ := CX HB.out aQ
        replace aR := CX HB.out aR
        replace aS := CX HB.out aS
        replace bN := eq_true bN
        replace bO := eq_true bO
        refine start_ (n := 10) (S := fun w' => w'.cell? (aB.add ((aA).toNat * 8)) = some (.int .i64 ((rd_T63 l0 aA).f0)) ∧ w'.cell? ⟨(aB.add ((aA).toNat * 8)).block, (aB.add ((aA).toNat * 8)).off + 1, none⟩ = some (.int .i64 ((rd_T63 l0 aA).f1)) ∧ w'.cell? ⟨(aB.add ((aA).toNat * 8)).block, (aB.add ((aA).toNat * 8)).off + 2, none⟩ = some (.int .i64 ((rd_T63 l0 aA).f2.f0)) ∧ w'.cell? ⟨(aB.add ((aA).toNat * 8)).block, (aB.add ((aA).toNat * 8)).off + 3, none⟩ = some (.int .i64 ((rd_T63 l0 aA).f2.f1)) ∧ w'.cell? ⟨(aB.add ((aA).toNat * 8)).block, (aB.add ((aA).toNat * 8)).off + 4, none⟩ = some (.int .i64 ((rd_T63 l0 aA).f3.f0)) ∧ w'.cell? ⟨(aB.add ((aA).toNat * 8)).block, (aB.add ((aA).toNat * 8)).off + 5, none⟩ = some (.int .i64 ((rd_T63 l0 aA).f3.f1)) ∧ w'.cell? ⟨(aB.add ((aA).toNat * 8)).block, (aB.add ((aA).toNat * 8)).off + 6, none⟩ = some (.int .i64 ((rd_T63 l0 aA).f4)) ∧ w'.cell? ⟨(aB.add ((aA).toNat * 8)).block, (aB.add ((aA).toNat * 8)).off + 7, none⟩ = some (.int .i64 ((rd_T63 l0 aA).f5)) ∧ w'.cell? (aC.add ((aA).toNat * 8)) = some (.int .i64 ((rd_T63 l1 aA).f0)) ∧ w'.cell? ⟨(aC.add ((aA).toNat * 8)).block, (aC.add ((aA).toNat * 8)).off + 1, none⟩ = some (.int .i64 ((rd_T63 l1 aA).f1)) ∧ w'.cell? ⟨(aC.add ((aA).toNat * 8)).block, (aC.add ((aA).toNat * 8)).off + 2, none⟩ = some (.int .i64 ((rd_T63 l1 aA).f2.f0)) ∧ w'.cell? ⟨(aC.add ((aA).toNat * 8)).block, (aC.add ((aA).toNat * 8)).off + 3, none⟩ = some (.int .i64 ((rd_T63 l1 aA).f2.f1)) ∧ w'.cell? ⟨(aC.add ((aA).toNat * 8)).block, (aC.add ((aA).toNat * 8)).off + 4, none⟩ = some (.int .i64 ((rd_T63 l1 aA).f3.f0)) ∧ w'.cell? ⟨(aC.add ((aA).toNat * 8)).block, (aC.add ((aA).toNat * 8)).off + 5, none⟩ = some (.int .i64 ((rd_T63 l1 aA).f3.f1)) ∧ w'.cell? ⟨(aC.add ((aA).toNat * 8)).block, (aC.add ((aA).toNat * 8)).off + 6, none⟩ = some (.int .i64 ((rd_T63 l1 aA).f4)) ∧ w'.cell? ⟨(aC.add ((aA).toNat * 8)).block, (aC.add ((aA).toNat * 8)).off + 7, none⟩ = some (.int .i64 ((rd_T63 l1 aA).f5))) (ds := []) (tf 0 10) (by kernel_rfl) rfl rfl ⟨(CY HB.out bA), (CY HB.out aZ), (CY HB.out aY), (CY HB.out aX), (CY HB.out aW), (CY HB.out aV), (CY HB.out aU), (CY HB.out aT), (CY HB.out bI), (CY HB.out bH), (CY HB.out bG), (CY HB.out bF), (CY HB.out bE), (CY HB.out bD), (CY HB.out bC), (CY HB.out bB)⟩ (fun bJ => ?_); refine with_tabW laws_eqRuleS.tab6 laws_eqRuleS.bits6 (fun bK bS => ?_)
        generalize wr.drew = w9 at HB aD aE aF aG aH aI aJ aK aL aM aN aO aP aQ aR aS bJ ⊢
        refine pv bK 0 17 (tf 1 9) ?_
        refine pv bK 1 18 (tf 2 8) ?_
        refine pv bK 2 19 (tf 3 7) ?_
        refine pv bK 4 21 (tr [3, 1, 1, 5]) ?_
        refine pv bK 5 22 (tr [3, 1, 2, 4]) ?_
        refine pv bK 6 23 (tr [3, 1, 3, 3]) ?_
        refine tk 3 (some 20) (tf 7 3) (take_ofW bK.out bS.out (by kernel_rfl)) bJ ?_
        refine tk 7 (some 24) (tf 8 2) (take_ofW bK.out bS.out (by kernel_rfl)) bJ ?_
        refine one_ (i := 8) (N := some 25) (tf 9 1) rfl rfl (one_of bK.out (by kernel_rfl)) (by decide) (fun K hK => ?_)
        refine goes_ Try.func32 (by kernel_rfl) rfl #[.agg #[.int .i64 ((rd_T63 l0 aA).f0), .int .i64 ((rd_T63 l0 aA).f1), .int .i64 ((rd_T63 l0 aA).f2.f0), .int .i64 ((rd_T63 l0 aA).f2.f1), .int .i64 ((rd_T63 l0 aA).f3.f0), .int .i64 ((rd_T63 l0 aA).f3.f1), .int .i64 ((rd_T63 l0 aA).f4), .int .i64 ((rd_T63 l0 aA).f5)], .agg #[.int .i64 ((rd_T63 l1 aA).f0), .int .i64 ((rd_T63 l1 aA).f1), .int .i64 ((rd_T63 l1 aA).f2.f0), .int .i64 ((rd_T63 l1 aA).f2.f1), .int .i64 ((rd_T63 l1 aA).f3.f0), .int .i64 ((rd_T63 l1 aA).f3.f1), .int .i64 ((rd_T63 l1 aA).f4), .int .i64 ((rd_T63 l1 aA).f5)]] (by rfl) rfl rfl MT ?_
        with_reducible refine (laws_eqRule.calls ((rd_T63 l0 aA).f0) ((rd_T63 l0 aA).f1) ((rd_T63 l0 aA).f2.f0) ((rd_T63 l0 aA).f2.f1) ((rd_T63 l0 aA).f3.f0) ((rd_T63 l0 aA).f3.f1) ((rd_T63 l0 aA).f4) ((rd_T63 l0 aA).f5) ((rd_T63 l1 aA).f0) ((rd_T63 l1 aA).f1) ((rd_T63 l1 aA).f2.f0) ((rd_T63 l1 aA).f2.f1) ((rd_T63 l1 aA).f3.f0) ((rd_T63 l1 aA).f3.f1) ((rd_T63 l1 aA).f4) ((rd_T63 l1 aA).f5) true _ A7.out).mono ?_
        rintro e cD ⟨rfl, hb⟩
        refine ⟨_, rfl, ?_⟩
        replace HB := bl (KL HB) hb
        (try clear hb)
        (try clear hb2)
        (try clear hk)
        (try clear hi)
        refine hK.out _ _ ⟨(CY HB.out bA), (CY HB.out aZ), (CY HB.out aY), (CY HB.out aX), (CY HB.out aW), (CY HB.out aV), (CY HB.out aU), (CY HB.out aT), (CY HB.out bI), (CY HB.out bH), (CY HB.out bG), (CY HB.out bF), (CY HB.out bE), (CY HB.out bD), (CY HB.out bC), (CY HB.out bB)⟩ (fun bJ => ?_)
        clear hK K
        refine nm (some 25) ?_
        refine pv bK 9 26 (tf 10 0) ?_
        refine done_ (done_of bK.out (by kernel_rfl)) ?_
        try go_wp2
        go_roundg k1
        case measure => have := HK1.out; omega
        case rel => exact ⟨(wrap64 (aA + 1)), (by first | rfl | (simp; done) | (simp [*]; done)), H', ⟨by have := HK1.out; omega⟩, ⟨KL HB⟩⟩
       ·replace c8 := Bool.eq_false_iff.mpr c8
        subst c8
        have H1 := nf H
        clear H
        have H := H1
        clear H1
        obtain rfl := sj H
        try go_wp2
        replace HB := am (below_drew1 HB.out)
        have bL : 0 ≤ (aA : Int) := OD
        have bM : aA < (l0.length : Int) := OD
        obtain ⟨aB, bP, aD, aE, aF, aG, aH, aI, aJ, aK⟩ := at_T63 bX.out aA bL bM
        have aT := aK
        have aU := aJ
        have aV := aI
        have aW := aH
        have aX := aG
        have aY := aF
        have aZ := aE
        have bA := aD
        cases bP
        replace aD := CX HB.out aD
        replace aE := CX HB.out aE
        replace aF := CX HB.out aF
        replace aG := CX HB.out aG
        replace aH := CX HB.out aH
        replace aI := CX HB.out aI
        replace aJ := CX HB.out aJ
        replace aK := CX HB.out aK
        replace bL := eq_true bL
        replace bM := eq_true bM
        have bN : 0 ≤ (aA : Int) := OD
        have bO : aA < (l1.length : Int) := OD
        obtain ⟨aC, bQ, aL, aM, aN, aO, aP, aQ, aR, aS⟩ := at_T63 bY.out aA bN bO
        have bB := aS
        have bC := aR
        have bD := aQ
        have bE := aP
        have bF := aO
        have bG := aN
        have bH := aM
        have bI := aL
        cases bQ
        replace aL := CX HB.out aL
        replace aM := CX HB.out aM
        replace aN := CX HB.out aN
        replace aO := CX HB.out aO
        replace aP := CX HB.out aP
        replace aQ := CX HB.out aQ
        replace aR := CX HB.out aR
        replace aS := CX HB.out aS
        replace bN := eq_true bN
        replace bO := eq_true bO
        refine start_ (n := 10) (S := fun w' => w'.cell? (aB.add ((aA).toNat * 8)) = some (.int .i64 ((rd_T63 l0 aA).f0)) ∧ w'.cell? ⟨(aB.add ((aA).toNat * 8)).block, (aB.add ((aA).toNat * 8)).off + 1, none⟩ = some (.int .i64 ((rd_T63 l0 aA).f1)) ∧ w'.cell? ⟨(aB.add ((aA).toNat * 8)).block, (aB.add ((aA).toNat * 8)).off + 2, none⟩ = some (.int .i64 ((rd_T63 l0 aA).f2.f0)) ∧ w'.cell? ⟨(aB.add ((aA).toNat * 8)).block, (aB.add ((aA).toNat * 8)).off + 3, none⟩ = some (.int .i64 ((rd_T63 l0 aA).f2.f1)) ∧ w'.cell? ⟨(aB.add ((aA).toNat * 8)).block, (aB.add ((aA).toNat * 8)).off + 4, none⟩ = some (.int .i64 ((rd_T63 l0 aA).f3.f0)) ∧ w'.cell? ⟨(aB.add ((aA).toNat * 8)).block, (aB.add ((aA).toNat * 8)).off + 5, none⟩ = some (.int .i64 ((rd_T63 l0 aA).f3.f1)) ∧ w'.cell? ⟨(aB.add ((aA).toNat * 8)).block, (aB.add ((aA).toNat * 8)).off + 6, none⟩ = some (.int .i64 ((rd_T63 l0 aA).f4)) ∧ w'.cell? ⟨(aB.add ((aA).toNat * 8)).block, (aB.add ((aA).toNat * 8)).off + 7, none⟩ = some (.int .i64 ((rd_T63 l0 aA).f5)) ∧ w'.cell? (aC.add ((aA).toNat * 8)) = some (.int .i64 ((rd_T63 l1 aA).f0)) ∧ w'.cell? ⟨(aC.add ((aA).toNat * 8)).block, (aC.add ((aA).toNat * 8)).off + 1, none⟩ = some (.int .i64 ((rd_T63 l1 aA).f1)) ∧ w'.cell? ⟨(aC.add ((aA).toNat * 8)).block, (aC.add ((aA).toNat * 8)).off + 2, none⟩ = some (.int .i64 ((rd_T63 l1 aA).f2.f0)) ∧ w'.cell? ⟨(aC.add ((aA).toNat * 8)).block, (aC.add ((aA).toNat * 8)).off + 3, none⟩ = some (.int .i64 ((rd_T63 l1 aA).f2.f1)) ∧ w'.cell? ⟨(aC.add ((aA).toNat * 8)).block, (aC.add ((aA).toNat * 8)).off + 4, none⟩ = some (.int .i64 ((rd_T63 l1 aA).f3.f0)) ∧ w'.cell? ⟨(aC.add ((aA).toNat * 8)).block, (aC.add ((aA).toNat * 8)).off + 5, none⟩ = some (.int .i64 ((rd_T63 l1 aA).f3.f1)) ∧ w'.cell? ⟨(aC.add ((aA).toNat * 8)).block, (aC.add ((aA).toNat * 8)).off + 6, none⟩ = some (.int .i64 ((rd_T63 l1 aA).f4)) ∧ w'.cell? ⟨(aC.add ((aA).toNat * 8)).block, (aC.add ((aA).toNat * 8)).off + 7, none⟩ = some (.int .i64 ((rd_T63 l1 aA).f5))) (ds := []) (tf 0 10) (by kernel_rfl) rfl rfl ⟨(CY HB.out bA), (CY HB.out aZ), (CY HB.out aY), (CY HB.out aX), (CY HB.out aW), (CY HB.out aV), (CY HB.out aU), (CY HB.out aT), (CY HB.out bI), (CY HB.out bH), (CY HB.out bG), (CY HB.out bF), (CY HB.out bE), (CY HB.out bD), (CY HB.out bC), (CY HB.out bB)⟩ (fun bJ => ?_); refine with_tabW laws_eqRuleS.tab6 laws_eqRuleS.bits6 (fun bK bS => ?_)
        generalize wr.drew = cE at HB aD aE aF aG aH aI aJ aK aL aM aN aO aP aQ aR aS bJ ⊢
        refine pv bK 0 17 (tf 1 9) ?_
        refine pv bK 1 18 (tf 2 8) ?_
        refine pv bK 2 19 (tf 3 7) ?_
        refine pv bK 4 21 (tr [3, 1, 1, 5]) ?_
        refine pv bK 5 22 (tr [3, 1, 2, 4]) ?_
        refine pv bK 6 23 (tr [3, 1, 3, 3]) ?_
        refine tk 3 (some 20) (tf 7 3) (take_ofW bK.out bS.out (by kernel_rfl)) bJ ?_
        refine tk 7 (some 24) (tf 8 2) (take_ofW bK.out bS.out (by kernel_rfl)) bJ ?_
        refine one_ (i := 8) (N := some 25) (tf 9 1) rfl rfl (one_of bK.out (by kernel_rfl)) (by decide) (fun K hK => ?_)
        refine goes_ Try.func32 (by kernel_rfl) rfl #[.agg #[.int .i64 ((rd_T63 l0 aA).f0), .int .i64 ((rd_T63 l0 aA).f1), .int .i64 ((rd_T63 l0 aA).f2.f0), .int .i64 ((rd_T63 l0 aA).f2.f1), .int .i64 ((rd_T63 l0 aA).f3.f0), .int .i64 ((rd_T63 l0 aA).f3.f1), .int .i64 ((rd_T63 l0 aA).f4), .int .i64 ((rd_T63 l0 aA).f5)], .agg #[.int .i64 ((rd_T63 l1 aA).f0), .int .i64 ((rd_T63 l1 aA).f1), .int .i64 ((rd_T63 l1 aA).f2.f0), .int .i64 ((rd_T63 l1 aA).f2.f1), .int .i64 ((rd_T63 l1 aA).f3.f0), .int .i64 ((rd_T63 l1 aA).f3.f1), .int .i64 ((rd_T63 l1 aA).f4), .int .i64 ((rd_T63 l1 aA).f5)]] (by rfl) rfl rfl MT ?_
        with_reducible refine (laws_eqRule.calls ((rd_T63 l0 aA).f0) ((rd_T63 l0 aA).f1) ((rd_T63 l0 aA).f2.f0) ((rd_T63 l0 aA).f2.f1) ((rd_T63 l0 aA).f3.f0) ((rd_T63 l0 aA).f3.f1) ((rd_T63 l0 aA).f4) ((rd_T63 l0 aA).f5) ((rd_T63 l1 aA).f0) ((rd_T63 l1 aA).f1) ((rd_T63 l1 aA).f2.f0) ((rd_T63 l1 aA).f2.f1) ((rd_T63 l1 aA).f3.f0) ((rd_T63 l1 aA).f3.f1) ((rd_T63 l1 aA).f4) ((rd_T63 l1 aA).f5) false _ A7.out).mono ?_
        rintro e cF ⟨rfl, hb⟩
        refine ⟨_, rfl, ?_⟩
        replace HB := bl (KL HB) hb
        (try clear hb)
        (try clear hb2)
        (try clear hk)
        (try clear hi)
        refine hK.out _ _ ⟨(CY HB.out bA), (CY HB.out aZ), (CY HB.out aY), (CY HB.out aX), (CY HB.out aW), (CY HB.out aV), (CY HB.out aU), (CY HB.out aT), (CY HB.out bI), (CY HB.out bH), (CY HB.out bG), (CY HB.out bF), (CY HB.out bE), (CY HB.out bD), (CY HB.out bC), (CY HB.out bB)⟩ (fun bJ => ?_)
        clear hK K
        refine nm (some 25) ?_
        refine pv bK 9 26 (tf 10 0) ?_
        refine done_ (done_of bK.out (by kernel_rfl)) ?_
        try go_wp2
        go_ret
        exact ⟨ER, KL HB⟩
      ·rw [if_neg c6] at H
       exact absurd H (by simp)
     ·rw [if_neg c5] at H
      exact absurd H (by simp)
    ·rw [if_neg c4] at H
     have c4b0 : decide (aA < (l0.length : Int)) = false := decide_eq_false c4
     clear c4
     obtain rfl := sj H
     go_wp2
     go_ret
     exact ⟨ER, KL HB⟩
 ·rw [if_neg c3] at H
  have c3b0 : ((l0.length : Int) == (l1.length : Int)) = false := beq_eq_false_iff_ne.mpr c3
  have c3b1 : ((l0.length : Int) != (l1.length : Int)) = true := bne_iff_ne.mpr c3
  have c3b2 : (l0.length == l1.length) = false := by first | simpa using c3 | (simp at c3 ⊢; omega)
  obtain rfl := sj H
  go_enter Try.func20, Try.ntmps20
  go_wp2
  go_ret
  exact ⟨ER, KL HB⟩
def laws_eqCall.f (a0_0 : Int) (a0_1 : Int) (a0_2 : Int) (a1_0 : Int) (a1_1 : Int) (a1_2 : Int) : Option (Bool) := if a0_0 = a1_0 then (if a0_1 = a1_1 then (if a0_2 = a1_2 then (some true) else (some false)) else (some false)) else (some false)
theorem laws_eqCall.calls (aF : Int) (aG : Int) (aH : Int) (aI : Int) (aJ : Int) (aK : Int) (r : Bool) (w : World) (h : laws_eqCall.f aF aG aH aI aJ aK = some r) :
  Calls Try.prog 43 #[.agg #[.int .i64 aF, .int .i64 aG, .int .i64 aH], .agg #[.int .i64 aI, .int .i64 aJ, .int .i64 aK]] w fun e w' => e = .returned (.bool r) ∧ Below w.heap.size w w' := by
 have cG := Try.underlying78
 have HB := am (Below.refl w.heap.size w)
 have H : (if aF = aI then (if aG = aJ then (if aH = aK then (some true) else (some false)) else (some false)) else (some false)) = some r := h
 clear h
 by_cases c3 : aF = aI
 ·rw [if_pos c3] at H
  have c3b0 : (aF == aI) = true := beq_iff_eq.mpr c3
  have c3b1 : (aF != aI) = false := bne_eq_false_iff_eq.mpr c3
  clear c3
  by_cases c4 : aG = aJ
  ·rw [if_pos c4] at H
   have c4b0 : (aG == aJ) = true := beq_iff_eq.mpr c4
   have c4b1 : (aG != aJ) = false := bne_eq_false_iff_eq.mpr c4
   clear c4
   by_cases c5 : aH = aK
   ·rw [if_pos c5] at H
    have c5b0 : (aH == aK) = true := beq_iff_eq.mpr c5
    have c5b1 : (aH != aK) = false := bne_eq_false_iff_eq.mpr c5
    clear c5
    obtain rfl := sj H
    go_enter Try.func43, Try.ntmps43
    go_wp2_with (first | ((with_reducible refine gate_dst (N := 2) rfl ?_); refine box_event rfl (N := 2) rfl (cs := #[.int .i64 aF, .int .i64 aG, .int .i64 aH]) (t := 78) BX ?_; intro aP hg w6 aD hb; have aA := am (aD); have aL := am (GH HB hg); have aE := aL; replace HB := bl (KL HB) hb; clear hb aD hg) | ((with_reducible refine gate_dst (N := 3) rfl ?_); refine box_event rfl (N := 3) rfl (cs := #[.int .i64 aI, .int .i64 aJ, .int .i64 aK]) (t := 78) BX ?_; intro aQ hg w7 aD hb; have aM := am (aD); have aN := am (GH1 HB aE.out hg); have aO := aN; replace HB := bl (K1 HB aE.out) hb; have aB := am (NL aA hg); have aC := am (NG aA hg); replace aA := am (BB aA hb); clear hb aD hg; have cH := aB.out; have cI := aC.out; have ⟨_, _, _, _⟩ := y3 w7 aA.out; have ⟨_, _, _, _⟩ := y3 w7 aM.out))
    go_ret
    exact ⟨ER, K2 HB aE.out aO.out⟩
   ·rw [if_neg c5] at H
    have c5b0 : (aH == aK) = false := beq_eq_false_iff_ne.mpr c5
    have c5b1 : (aH != aK) = true := bne_iff_ne.mpr c5
    obtain rfl := sj H
    go_enter Try.func43, Try.ntmps43
    go_wp2_with (first | ((with_reducible refine gate_dst (N := 2) rfl ?_); refine box_event rfl (N := 2) rfl (cs := #[.int .i64 aF, .int .i64 aG, .int .i64 aH]) (t := 78) BX ?_; intro aP hg cJ aD hb; have aA := am (aD); have aL := am (GH HB hg); have aE := aL; replace HB := bl (KL HB) hb; clear hb aD hg) | ((with_reducible refine gate_dst (N := 3) rfl ?_); refine box_event rfl (N := 3) rfl (cs := #[.int .i64 aI, .int .i64 aJ, .int .i64 aK]) (t := 78) BX ?_; intro aQ hg bX aD hb; have aM := am (aD); have aN := am (GH1 HB aE.out hg); have aO := aN; replace HB := bl (K1 HB aE.out) hb; have aB := am (NL aA hg); have aC := am (NG aA hg); replace aA := am (BB aA hb); clear hb aD hg; have bY := aB.out; have bZ := aC.out; have ⟨_, _, _, _⟩ := y3 bX aA.out; have ⟨_, _, _, _⟩ := y3 bX aM.out))
    go_ret
    exact ⟨ER, K2 HB aE.out aO.out⟩
  ·rw [if_neg c4] at H
   have c4b0 : (aG == aJ) = false := beq_eq_false_iff_ne.mpr c4
   have c4b1 : (aG != aJ) = true := bne_iff_ne.mpr c4
   obtain rfl := sj H
   go_enter Try.func43, Try.ntmps43
   go_wp2_with (first | ((with_reducible refine gate_dst (N := 2) rfl ?_); refine box_event rfl (N := 2) rfl (cs := #[.int .i64 aF, .int .i64 aG, .int .i64 aH]) (t := 78) BX ?_; intro aP hg cK aD hb; have aA := am (aD); have aL := am (GH HB hg); have aE := aL; replace HB := bl (KL HB) hb; clear hb aD hg) | ((with_reducible refine gate_dst (N := 3) rfl ?_); refine box_event rfl (N := 3) rfl (cs := #[.int .i64 aI, .int .i64 aJ, .int .i64 aK]) (t := 78) BX ?_; intro aQ hg cA aD hb; have aM := am (aD); have aN := am (GH1 HB aE.out hg); have aO := aN; replace HB := bl (K1 HB aE.out) hb; have aB := am (NL aA hg); have aC := am (NG aA hg); replace aA := am (BB aA hb); clear hb aD hg; have cB := aB.out; have cC := aC.out; have ⟨_, _, _, _⟩ := y3 cA aA.out; have ⟨_, _, _, _⟩ := y3 cA aM.out))
   go_ret
   exact ⟨ER, K2 HB aE.out aO.out⟩
 ·rw [if_neg c3] at H
  have c3b0 : (aF == aI) = false := beq_eq_false_iff_ne.mpr c3
  have c3b1 : (aF != aI) = true := bne_iff_ne.mpr c3
  obtain rfl := sj H
  go_enter Try.func43, Try.ntmps43
  go_wp2_with (first | ((with_reducible refine gate_dst (N := 2) rfl ?_); refine box_event rfl (N := 2) rfl (cs := #[.int .i64 aF, .int .i64 aG, .int .i64 aH]) (t := 78) BX ?_; intro aP hg cL aD hb; have aA := am (aD); have aL := am (GH HB hg); have aE := aL; replace HB := bl (KL HB) hb; clear hb aD hg) | ((with_reducible refine gate_dst (N := 3) rfl ?_); refine box_event rfl (N := 3) rfl (cs := #[.int .i64 aI, .int .i64 aJ, .int .i64 aK]) (t := 78) BX ?_; intro aQ hg cD aD hb; have aM := am (aD); have aN := am (GH1 HB aE.out hg); have aO := aN; replace HB := bl (K1 HB aE.out) hb; have aB := am (NL aA hg); have aC := am (NG aA hg); replace aA := am (BB aA hb); clear hb aD hg; have cE := aB.out; have cF := aC.out; have ⟨_, _, _, _⟩ := y3 cD aA.out; have ⟨_, _, _, _⟩ := y3 cD aM.out))
  go_ret
  exact ⟨ER, K2 HB aE.out aO.out⟩
def laws_eqSeen.f (a0_0 : Int) (a0_1 : Int) (a0_2 : Int) (a0_3 : Int) (a1_0 : Int) (a1_1 : Int) (a1_2 : Int) (a1_3 : Int) : Option (Bool) := (laws_eqCall.f a0_0 a0_1 a0_2 a1_0 a1_1 a1_2).bind fun t103 => (if t103 = true then (if a0_3 = a1_3 then (some true) else (some false)) else (some false))
theorem laws_eqSeen.calls (aH : Int) (aI : Int) (aJ : Int) (aK : Int) (aL : Int) (aM : Int) (aN : Int) (aO : Int) (r : Bool) (w : World) (h : laws_eqSeen.f aH aI aJ aK aL aM aN aO = some r) :
  Calls Try.prog 41 #[.agg #[.int .i64 aH, .int .i64 aI, .int .i64 aJ, .int .i64 aK], .agg #[.int .i64 aL, .int .i64 aM, .int .i64 aN, .int .i64 aO]] w fun e w' => e = .returned (.bool r) ∧ Below w.heap.size w w' := by
 have dB := Try.underlying80
 have dC := Try.underlying78
 have HB := am (Below.refl w.heap.size w)
 have H : ((laws_eqCall.f aH aI aJ aL aM aN).bind fun aR => (if aR = true then (if aK = aO then (some true) else (some false)) else (some false))) = some r := h
 clear h
 replace H := bm H
 obtain ⟨aR, cS, H⟩ := H
 replace H : (if aR = true then (if aK = aO then (some true) else (some false)) else (some false)) = some r := H
 have A3 := Aside0.mk cS
 clear cS
 by_cases c4 : aR = true
 ·subst c4
  have H1 := pf H
  clear H
  have H := H1
  clear H1
  by_cases c5 : aK = aO
  ·rw [if_pos c5] at H
   have c5b0 : (aK == aO) = true := beq_iff_eq.mpr c5
   have c5b1 : (aK != aO) = false := bne_eq_false_iff_eq.mpr c5
   clear c5
   obtain rfl := sj H
   go_enter Try.func41, Try.ntmps41
   go_wp2_with (first | ((with_reducible refine gate_dst (N := 2) rfl ?_); refine box_event rfl (N := 2) rfl (cs := #[.int .i64 aH, .int .i64 aI, .int .i64 aJ, .int .i64 aK]) (t := 80) BX ?_; intro aS hg w6 aF hb; have aA := am (aF); have aP := am (GH HB hg); have aB := aP; replace HB := bl (KL HB) hb; clear hb aF hg) | ((with_reducible refine gate_dst (N := 3) rfl ?_); refine box_event rfl (N := 3) rfl (cs := #[.int .i64 aL, .int .i64 aM, .int .i64 aN, .int .i64 aO]) (t := 80) BX ?_; intro aT hg w7 aF hb; have aC := am (aF); have aQ := am (GH1 HB aB.out hg); have aG := aQ; replace HB := bl (K1 HB aB.out) hb; have aD := am (NL aA hg); have aE := am (NG aA hg); replace aA := am (BB aA hb); clear hb aF hg; have dD := aD.out; have dE := aE.out; have ⟨_, _, _, _, _⟩ := y4 w7 aA.out; have ⟨_, _, _, _, _⟩ := y4 w7 aC.out) | ((with_reducible refine gate_callee (f := 43) rfl ?_); refine goesL_ (some 9) rfl rfl Try.func43 (by kernel_rfl) rfl #[.agg #[.int .i64 aH, .int .i64 aI, .int .i64 aJ], .agg #[.int .i64 aL, .int .i64 aM, .int .i64 aN]] rfl MT ?_; (with_reducible refine (laws_eqCall.calls aH aI aJ aL aM aN true _ A3.out).mono ?_); rintro e cT ⟨rfl, hb⟩; refine ⟨_, rfl, ?_⟩; replace aA := am (BB aA hb); replace aC := am (BB aC hb); replace HB := bl (K2 HB aB.out aG.out) hb; (try clear hb); have ⟨_, _, _, _, _⟩ := y4 cT aA.out; have ⟨_, _, _, _, _⟩ := y4 cT aC.out))
   go_ret
   exact ⟨ER, K2 HB aB.out aG.out⟩
  ·rw [if_neg c5] at H
   have c5b0 : (aK == aO) = false := beq_eq_false_iff_ne.mpr c5
   have c5b1 : (aK != aO) = true := bne_iff_ne.mpr c5
   obtain rfl := sj H
   go_enter Try.func41, Try.ntmps41
   go_wp2_with (first | ((with_reducible refine gate_dst (N := 2) rfl ?_); refine box_event rfl (N := 2) rfl (cs := #[.int .i64 aH, .int .i64 aI, .int .i64 aJ, .int .i64 aK]) (t := 80) BX ?_; intro aS hg dF aF hb; have aA := am (aF); have aP := am (GH HB hg); have aB := aP; replace HB := bl (KL HB) hb; clear hb aF hg) | ((with_reducible refine gate_dst (N := 3) rfl ?_); refine box_event rfl (N := 3) rfl (cs := #[.int .i64 aL, .int .i64 aM, .int .i64 aN, .int .i64 aO]) (t := 80) BX ?_; intro aT hg cU aF hb; have aC := am (aF); have aQ := am (GH1 HB aB.out hg); have aG := aQ; replace HB := bl (K1 HB aB.out) hb; have aD := am (NL aA hg); have aE := am (NG aA hg); replace aA := am (BB aA hb); clear hb aF hg; have cV := aD.out; have cW := aE.out; have ⟨_, _, _, _, _⟩ := y4 cU aA.out; have ⟨_, _, _, _, _⟩ := y4 cU aC.out) | ((with_reducible refine gate_callee (f := 43) rfl ?_); refine goesL_ (some 9) rfl rfl Try.func43 (by kernel_rfl) rfl #[.agg #[.int .i64 aH, .int .i64 aI, .int .i64 aJ], .agg #[.int .i64 aL, .int .i64 aM, .int .i64 aN]] rfl MT ?_; (with_reducible refine (laws_eqCall.calls aH aI aJ aL aM aN true _ A3.out).mono ?_); rintro e cX ⟨rfl, hb⟩; refine ⟨_, rfl, ?_⟩; replace aA := am (BB aA hb); replace aC := am (BB aC hb); replace HB := bl (K2 HB aB.out aG.out) hb; (try clear hb); have ⟨_, _, _, _, _⟩ := y4 cX aA.out; have ⟨_, _, _, _, _⟩ := y4 cX aC.out))
   go_ret
   exact ⟨ER, K2 HB aB.out aG.out⟩
 ·replace c4 := Bool.eq_false_iff.mpr c4
  subst c4
  have H1 := nf H
  clear H
  have H := H1
  clear H1
  obtain rfl := sj H
  go_enter Try.func41, Try.ntmps41
  go_wp2_with (first | ((with_reducible refine gate_dst (N := 2) rfl ?_); refine box_event rfl (N := 2) rfl (cs := #[.int .i64 aH, .int .i64 aI, .int .i64 aJ, .int .i64 aK]) (t := 80) BX ?_; intro aS hg dG aF hb; have aA := am (aF); have aP := am (GH HB hg); have aB := aP; replace HB := bl (KL HB) hb; clear hb aF hg) | ((with_reducible refine gate_dst (N := 3) rfl ?_); refine box_event rfl (N := 3) rfl (cs := #[.int .i64 aL, .int .i64 aM, .int .i64 aN, .int .i64 aO]) (t := 80) BX ?_; intro aT hg cY aF hb; have aC := am (aF); have aQ := am (GH1 HB aB.out hg); have aG := aQ; replace HB := bl (K1 HB aB.out) hb; have aD := am (NL aA hg); have aE := am (NG aA hg); replace aA := am (BB aA hb); clear hb aF hg; have cZ := aD.out; have dA := aE.out; have ⟨_, _, _, _, _⟩ := y4 cY aA.out; have ⟨_, _, _, _, _⟩ := y4 cY aC.out) | ((with_reducible refine gate_callee (f := 43) rfl ?_); refine goesL_ (some 9) rfl rfl Try.func43 (by kernel_rfl) rfl #[.agg #[.int .i64 aH, .int .i64 aI, .int .i64 aJ], .agg #[.int .i64 aL, .int .i64 aM, .int .i64 aN]] rfl MT ?_; (with_reducible refine (laws_eqCall.calls aH aI aJ aL aM aN false _ A3.out).mono ?_); rintro e dH ⟨rfl, hb⟩; refine ⟨_, rfl, ?_⟩; replace aA := am (BB aA hb); replace aC := am (BB aC hb); replace HB := bl (K2 HB aB.out aG.out) hb; (try clear hb)))
  go_ret
  exact ⟨ER, K2 HB aB.out aG.out⟩
def laws_eqSeenS.l0 : Nat → List (S80) → List (S80) → Int → Option (Bool)
 | 0, _, _, _ => none
 | k + 1, x0, x1, x5 => if x5 < (x0.length : Int) then (if 0 ≤ x5 then (if x5 < (x1.length : Int) then ((laws_eqSeen.f ((rd_T80 x0 x5).f0.f0) ((rd_T80 x0 x5).f0.f1) ((rd_T80 x0 x5).f0.f2) ((rd_T80 x0 x5).f1) ((rd_T80 x1 x5).f0.f0) ((rd_T80 x1 x5).f0.f1) ((rd_T80 x1 x5).f0.f2) ((rd_T80 x1 x5).f1)).bind fun t103 => (if t103 = true then (laws_eqSeenS.l0 k x0 x1 (wrap64 (x5 + 1))) else (some false))) else (none)) else (none)) else (some true)
def laws_eqSeenS.f (k : Nat) (l0 : List (S80)) (l1 : List (S80)) : Option (Bool) := if (l0.length : Int) = (l1.length : Int) then (laws_eqSeenS.l0 k l0 l1 0) else (some false)
def laws_eqSeenS.T6 : Bool × List (List Nat × List Nat) := (true, [([], []), ([], []), ([0, 1], [0, 1]), ([2], [2]), ([], []), ([], []), ([4, 5], [4, 5]), ([6], [6]), ([3, 7], [3, 7]), ([8], [8])])
def laws_eqSeenS.B6 : List Nat := [0, 0, 3, 7, 0, 0, 48, 112, 255, 511]
theorem laws_eqSeenS.tab6 : rtab .any (opsOf Try.f33 6) = laws_eqSeenS.T6 := by kernel_rfl
theorem laws_eqSeenS.bits6 : waitsOk laws_eqSeenS.T6.2 laws_eqSeenS.B6 = true := by kernel_rfl
theorem laws_eqSeenS.calls (k : Nat) (A0 : Option Addr) (c0 : Nat) (l0 : List (S80)) (A1 : Option Addr) (c1 : Nat) (l1 : List (S80)) (r : Bool) (w : World) (bD : Kd.C k80 w A0 l0.length l0) (bE : l0.length ≤ c0) (bF : Kd.C k80 w A1 l1.length l1) (bG : l1.length ≤ c1) (h : laws_eqSeenS.f k l0 l1 = some r) :
  Calls Try.prog 33 #[.slice A0 l0.length c0, .slice A1 l1.length c1] w fun e w' => e = .returned (.bool r) ∧ Below w.heap.size w w' := by
 have bK := Try.underlying80
 have bH := Aside0.mk bD
 have bL := Aside0.mk bE
 clear bD bE
 have bI := Aside0.mk bF
 have bM := Aside0.mk bG
 clear bF bG
 have HB := am (Below.refl w.heap.size w)
 have H : (if (l0.length : Int) = (l1.length : Int) then (laws_eqSeenS.l0 k l0 l1 0) else (some false)) = some r := h
 clear h
 by_cases c3 : (l0.length : Int) = (l1.length : Int)
 ·rw [if_pos c3] at H
  have c3b0 : ((l0.length : Int) == (l1.length : Int)) = true := beq_iff_eq.mpr c3
  have c3b1 : ((l0.length : Int) != (l1.length : Int)) = false := bne_eq_false_iff_eq.mpr c3
  have c3b2 : (l0.length == l1.length) = true := by first | simpa using c3 | (simp at c3 ⊢; omega)
  clear c3
  have H' := Aside0.mk H
  clear H
  go_enter Try.func33, Try.ntmps33
  go_wp2
  go_loopg [5] k (fun kq v5 w' => ∃ (aA : Int), v5 = .int .i64 aA ∧ Aside0 (laws_eqSeenS.l0 kq l0 l1 aA = some r) ∧ Aside0 (kq ≤ k) ∧ Aside0 (Below w.heap.size w w'))
  case atStart => exact ⟨(0), (by first | rfl | (simp; done) | (simp [*]; done)), H', ⟨Nat.le_refl _⟩, ⟨KL HB⟩⟩
  case round =>
   clear H'
   try clear c1
   try clear p2
   try clear c3
   try clear c3b0
   try clear c3b1
   try clear c3b2
   obtain ⟨aA, rfl, HA, HK1, HB⟩ := hrel
   cases gk with
   | zero => exact absurd HA.out (by simp [laws_eqSeenS.l0])
   | succ k1 =>
    have H := HA.out
    clear HA
    simp only [laws_eqSeenS.l0] at H
    by_cases c4 : aA < (l0.length : Int)
    ·rw [if_pos c4] at H
     have c4b0 : decide (aA < (l0.length : Int)) = true := decide_eq_true c4
     clear c4
     by_cases c5 : 0 ≤ aA
     ·rw [if_pos c5] at H
      have c5b0 : decide (0 ≤ aA) = true := decide_eq_true c5
      clear c5
      by_cases c6 : aA < (l1.length : Int)
      ·rw [if_pos c6] at H
       have c6b0 : decide (aA < (l1.length : Int)) = true := decide_eq_true c6
       clear c6
       replace H := bm H
       obtain ⟨bB, bJ, H⟩ := H
       replace H : (if bB = true then (laws_eqSeenS.l0 k1 l0 l1 (wrap64 (aA + 1))) else (some false)) = some r := H
       have A7 := Aside0.mk bJ
       clear bJ
       by_cases c8 : bB = true
       ·subst c8
        have H1 := pf H
        clear H
        have H := H1
        clear H1
        have H' := Aside0.mk H
        clear H
        try go_wp2
        replace HB := am (below_drew1 HB.out)
        have aV : 0 ≤ (aA : Int) := OD
        have aW : aA < (l0.length : Int) := OD
        obtain ⟨aJ, aZ, aB, aC, aD, aE⟩ := at_T80 bH.out aA aV aW
        have aL := aE
        have aM := aD
        have aN := aC
        have aO := aB
        cases aZ
        replace aB := CX HB.out aB
        replace aC := CX HB.out aC
        replace aD := CX HB.out aD
        replace aE := CX HB.out aE
        replace aV := eq_true aV
        replace aW := eq_true aW
        have aX : 0 ≤ (aA : Int) := OD
        have aY : aA < (l1.length : Int) := OD
        obtain ⟨aK, bA, aF, aG, aH, aI⟩ := at_T80 bI.out aA aX aY
        have aP := aI
        have aQ := aH
        have aR := aG
        have aS := aF
        cases bA
        replace aF := CX HB.out aF
        replace aG := CX HB.out aG
        replace aH := CX HB.out aH
        replace aI := CX HB.out aI
        replace aX := eq_true aX
        replace aY := eq_true aY
        refine start_ (n := 10) (S := fun w' => w'.cell? (aJ.add ((aA).toNat * 4)) = some (.int .i64 ((rd_T80 l0 aA).f0.f0)) ∧ w'.cell? ⟨(aJ.add ((aA).toNat * 4)).block, (aJ.add ((aA).toNat * 4)).off + 1, none⟩ = some (.int .i64 ((rd_T80 l0 aA).f0.f1)) ∧ w'.cell? ⟨(aJ.add ((aA).toNat * 4)).block, (aJ.add ((aA).toNat * 4)).off + 2, none⟩ = some (.int .i64 ((rd_T80 l0 aA).f0.f2)) ∧ w'.cell? ⟨(aJ.add ((aA).toNat * 4)).block, (aJ.add ((aA).toNat * 4)).off + 3, none⟩ = some (.int .i64 ((rd_T80 l0 aA).f1)) ∧ w'.cell? (aK.add ((aA).toNat * 4)) = some (.int .i64 ((rd_T80 l1 aA).f0.f0)) ∧ w'.cell? ⟨(aK.add ((aA).toNat * 4)).block, (aK.add ((aA).toNat * 4)).off + 1, none⟩ = some (.int .i64 ((rd_T80 l1 aA).f0.f1)) ∧ w'.cell? ⟨(aK.add ((aA).toNat * 4)).block, (aK.add ((aA).toNat * 4)).off + 2, none⟩ = some (.int .i64 ((rd_T80 l1 aA).f0.f2)) ∧ w'.cell? ⟨(aK.add ((aA).toNat * 4)).block, (aK.add ((aA).toNat * 4)).off + 3, none⟩ = some (.int .i64 ((rd_T80 l1 aA).f1))) (ds := []) (tf 0 10) (by kernel_rfl) rfl rfl ⟨(CY HB.out aO), (CY HB.out aN), (CY HB.out aM), (CY HB.out aL), (CY HB.out aS), (CY HB.out aR), (CY HB.out aQ), (CY HB.out aP)⟩ (fun aT => ?_); refine with_tabW laws_eqSeenS.tab6 laws_eqSeenS.bits6 (fun aU bC => ?_)
        generalize wr.drew = w9 at HB aB aC aD aE aF aG aH aI aT ⊢
        refine pv aU 0 17 (tf 1 9) ?_
        refine pv aU 1 18 (tf 2 8) ?_
        refine pv aU 2 19 (tf 3 7) ?_
        refine pv aU 4 21 (tr [3, 1, 1, 5]) ?_
        refine pv aU 5 22 (tr [3, 1, 2, 4]) ?_
        refine pv aU 6 23 (tr [3, 1, 3, 3]) ?_
        refine tk 3 (some 20) (tf 7 3) (take_ofW aU.out bC.out (by kernel_rfl)) aT ?_
        refine tk 7 (some 24) (tf 8 2) (take_ofW aU.out bC.out (by kernel_rfl)) aT ?_
        refine one_ (i := 8) (N := some 25) (tf 9 1) rfl rfl (one_of aU.out (by kernel_rfl)) (by decide) (fun K hK => ?_)
        refine goes_ Try.func41 (by kernel_rfl) rfl #[.agg #[.int .i64 ((rd_T80 l0 aA).f0.f0), .int .i64 ((rd_T80 l0 aA).f0.f1), .int .i64 ((rd_T80 l0 aA).f0.f2), .int .i64 ((rd_T80 l0 aA).f1)], .agg #[.int .i64 ((rd_T80 l1 aA).f0.f0), .int .i64 ((rd_T80 l1 aA).f0.f1), .int .i64 ((rd_T80 l1 aA).f0.f2), .int .i64 ((rd_T80 l1 aA).f1)]] (by rfl) rfl rfl MT ?_
        with_reducible refine (laws_eqSeen.calls ((rd_T80 l0 aA).f0.f0) ((rd_T80 l0 aA).f0.f1) ((rd_T80 l0 aA).f0.f2) ((rd_T80 l0 aA).f1) ((rd_T80 l1 aA).f0.f0) ((rd_T80 l1 aA).f0.f1) ((rd_T80 l1 aA).f0.f2) ((rd_T80 l1 aA).f1) true _ A7.out).mono ?_
        rintro e bN ⟨rfl, hb⟩
        refine ⟨_, rfl, ?_⟩
        replace HB := bl (KL HB) hb
        (try clear hb)
        (try clear hb2)
        (try clear hk)
        (try clear hi)
        refine hK.out _ _ ⟨(CY HB.out aO), (CY HB.out aN), (CY HB.out aM), (CY HB.out aL), (CY HB.out aS), (CY HB.out aR), (CY HB.out aQ), (CY HB.out aP)⟩ (fun aT => ?_)
        clear hK K
        refine nm (some 25) ?_
        refine pv aU 9 26 (tf 10 0) ?_
        refine done_ (done_of aU.out (by kernel_rfl)) ?_
        try go_wp2
        go_roundg k1
        case measure => have := HK1.out; omega
        case rel => exact ⟨(wrap64 (aA + 1)), (by first | rfl | (simp; done) | (simp [*]; done)), H', ⟨by have := HK1.out; omega⟩, ⟨KL HB⟩⟩
       ·replace c8 := Bool.eq_false_iff.mpr c8
        subst c8
        have H1 := nf H
        clear H
        have H := H1
        clear H1
        obtain rfl := sj H
        try go_wp2
        replace HB := am (below_drew1 HB.out)
        have aV : 0 ≤ (aA : Int) := OD
        have aW : aA < (l0.length : Int) := OD
        obtain ⟨aJ, aZ, aB, aC, aD, aE⟩ := at_T80 bH.out aA aV aW
        have aL := aE
        have aM := aD
        have aN := aC
        have aO := aB
        cases aZ
        replace aB := CX HB.out aB
        replace aC := CX HB.out aC
        replace aD := CX HB.out aD
        replace aE := CX HB.out aE
        replace aV := eq_true aV
        replace aW := eq_true aW
        have aX : 0 ≤ (aA : Int) := OD
        have aY : aA < (l1.length : Int) := OD
        obtain ⟨aK, bA, aF, aG, aH, aI⟩ := at_T80 bI.out aA aX aY
        have aP := aI
        have aQ := aH
        have aR := aG
        have aS := aF
        cases bA
        replace aF := CX HB.out aF
        replace aG := CX HB.out aG
        replace aH := CX HB.out aH
        replace aI := CX HB.out aI
        replace aX := eq_true aX
        replace aY := eq_true aY
        refine start_ (n := 10) (S := fun w' => w'.cell? (aJ.add ((aA).toNat * 4)) = some (.int .i64 ((rd_T80 l0 aA).f0.f0)) ∧ w'.cell? ⟨(aJ.add ((aA).toNat * 4)).block, (aJ.add ((aA).toNat * 4)).off + 1, none⟩ = some (.int .i64 ((rd_T80 l0 aA).f0.f1)) ∧ w'.cell? ⟨(aJ.add ((aA).toNat * 4)).block, (aJ.add ((aA).toNat * 4)).off + 2, none⟩ = some (.int .i64 ((rd_T80 l0 aA).f0.f2)) ∧ w'.cell? ⟨(aJ.add ((aA).toNat * 4)).block, (aJ.add ((aA).toNat * 4)).off + 3, none⟩ = some (.int .i64 ((rd_T80 l0 aA).f1)) ∧ w'.cell? (aK.add ((aA).toNat * 4)) = some (.int .i64 ((rd_T80 l1 aA).f0.f0)) ∧ w'.cell? ⟨(aK.add ((aA).toNat * 4)).block, (aK.add ((aA).toNat * 4)).off + 1, none⟩ = some (.int .i64 ((rd_T80 l1 aA).f0.f1)) ∧ w'.cell? ⟨(aK.add ((aA).toNat * 4)).block, (aK.add ((aA).toNat * 4)).off + 2, none⟩ = some (.int .i64 ((rd_T80 l1 aA).f0.f2)) ∧ w'.cell? ⟨(aK.add ((aA).toNat * 4)).block, (aK.add ((aA).toNat * 4)).off + 3, none⟩ = some (.int .i64 ((rd_T80 l1 aA).f1))) (ds := []) (tf 0 10) (by kernel_rfl) rfl rfl ⟨(CY HB.out aO), (CY HB.out aN), (CY HB.out aM), (CY HB.out aL), (CY HB.out aS), (CY HB.out aR), (CY HB.out aQ), (CY HB.out aP)⟩ (fun aT => ?_); refine with_tabW laws_eqSeenS.tab6 laws_eqSeenS.bits6 (fun aU bC => ?_)
        generalize wr.drew = bO at HB aB aC aD aE aF aG aH aI aT ⊢
        refine pv aU 0 17 (tf 1 9) ?_
        refine pv aU 1 18 (tf 2 8) ?_
        refine pv aU 2 19 (tf 3 7) ?_
        refine pv aU 4 21 (tr [3, 1, 1, 5]) ?_
        refine pv aU 5 22 (tr [3, 1, 2, 4]) ?_
        refine pv aU 6 23 (tr [3, 1, 3, 3]) ?_
        refine tk 3 (some 20) (tf 7 3) (take_ofW aU.out bC.out (by kernel_rfl)) aT ?_
        refine tk 7 (some 24) (tf 8 2) (take_ofW aU.out bC.out (by kernel_rfl)) aT ?_
        refine one_ (i := 8) (N := some 25) (tf 9 1) rfl rfl (one_of aU.out (by kernel_rfl)) (by decide) (fun K hK => ?_)
        refine goes_ Try.func41 (by kernel_rfl) rfl #[.agg #[.int .i64 ((rd_T80 l0 aA).f0.f0), .int .i64 ((rd_T80 l0 aA).f0.f1), .int .i64 ((rd_T80 l0 aA).f0.f2), .int .i64 ((rd_T80 l0 aA).f1)], .agg #[.int .i64 ((rd_T80 l1 aA).f0.f0), .int .i64 ((rd_T80 l1 aA).f0.f1), .int .i64 ((rd_T80 l1 aA).f0.f2), .int .i64 ((rd_T80 l1 aA).f1)]] (by rfl) rfl rfl MT ?_
        with_reducible refine (laws_eqSeen.calls ((rd_T80 l0 aA).f0.f0) ((rd_T80 l0 aA).f0.f1) ((rd_T80 l0 aA).f0.f2) ((rd_T80 l0 aA).f1) ((rd_T80 l1 aA).f0.f0) ((rd_T80 l1 aA).f0.f1) ((rd_T80 l1 aA).f0.f2) ((rd_T80 l1 aA).f1) false _ A7.out).mono ?_
        rintro e bP ⟨rfl, hb⟩
        refine ⟨_, rfl, ?_⟩
        replace HB := bl (KL HB) hb
        (try clear hb)
        (try clear hb2)
        (try clear hk)
        (try clear hi)
        refine hK.out _ _ ⟨(CY HB.out aO), (CY HB.out aN), (CY HB.out aM), (CY HB.out aL), (CY HB.out aS), (CY HB.out aR), (CY HB.out aQ), (CY HB.out aP)⟩ (fun aT => ?_)
        clear hK K
        refine nm (some 25) ?_
        refine pv aU 9 26 (tf 10 0) ?_
        refine done_ (done_of aU.out (by kernel_rfl)) ?_
        try go_wp2
        go_ret
        exact ⟨ER, KL HB⟩
      ·rw [if_neg c6] at H
       exact absurd H (by simp)
     ·rw [if_neg c5] at H
      exact absurd H (by simp)
    ·rw [if_neg c4] at H
     have c4b0 : decide (aA < (l0.length : Int)) = false := decide_eq_false c4
     clear c4
     obtain rfl := sj H
     go_wp2
     go_ret
     exact ⟨ER, KL HB⟩
 ·rw [if_neg c3] at H
  have c3b0 : ((l0.length : Int) == (l1.length : Int)) = false := beq_eq_false_iff_ne.mpr c3
  have c3b1 : ((l0.length : Int) != (l1.length : Int)) = true := bne_iff_ne.mpr c3
  have c3b2 : (l0.length == l1.length) = false := by first | simpa using c3 | (simp at c3 ⊢; omega)
  obtain rfl := sj H
  go_enter Try.func33, Try.ntmps33
  go_wp2
  go_ret
  exact ⟨ER, KL HB⟩
def laws_eqCache.f (k : Nat) (a0_0 : Int) (l0_1 : List (S80)) (a1_0 : Int) (l1_1 : List (S80)) : Option (Bool) := if a0_0 = a1_0 then ((laws_eqSeenS.f k l0_1 l1_1).bind fun t103 => (if t103 = true then (some true) else (some false))) else (some false)
theorem laws_eqCache.calls (k : Nat) (aI : Int) (aN : Option Addr) (aO : Nat) (aG : List (S80)) (aJ : Int) (aP : Option Addr) (aQ : Nat) (aH : List (S80)) (r : Bool) (w : World) (aS : Kd.C k80 w aN aG.length aG) (aT : aG.length ≤ aO) (aU : Kd.C k80 w aP aH.length aH) (aV : aH.length ≤ aQ) (h : laws_eqCache.f k aI aG aJ aH = some r) :
  Calls Try.prog 21 #[.agg #[.int .i64 aI, .slice aN aG.length aO], .agg #[.int .i64 aJ, .slice aP aH.length aQ]] w fun e w' => e = .returned (.bool r) ∧ Below w.heap.size w w' := by
 have cB := Try.underlying25
 have aW := Aside0.mk aS
 have aX := Aside0.mk aT
 clear aS aT
 have aY := Aside0.mk aU
 have aZ := Aside0.mk aV
 clear aU aV
 have HB := am (Below.refl w.heap.size w)
 have H : (if aI = aJ then ((laws_eqSeenS.f k aG aH).bind fun aR => (if aR = true then (some true) else (some false))) else (some false)) = some r := h
 clear h
 by_cases c3 : aI = aJ
 ·rw [if_pos c3] at H
  have c3b0 : (aI == aJ) = true := beq_iff_eq.mpr c3
  have c3b1 : (aI != aJ) = false := bne_eq_false_iff_eq.mpr c3
  clear c3
  replace H := bm H
  obtain ⟨aR, bU, H⟩ := H
  replace H : (if aR = true then (some true) else (some false)) = some r := H
  have A4 := Aside0.mk bU
  clear bU
  by_cases c5 : aR = true
  ·subst c5
   have H1 := pf H
   clear H
   have H := H1
   clear H1
   obtain rfl := sj H
   go_enter Try.func21, Try.ntmps21
   go_wp2_with (first | ((with_reducible refine gate_dst (N := 2) rfl ?_); refine box_event rfl (N := 2) rfl (cs := #[.int .i64 aI, .slice aN aG.length aO]) (t := 25) BX ?_; intro bA hg w6 aE hb; have aA := am (aE); have aL := am (GH HB hg); have aB := aL; replace HB := bl (KL HB) hb; clear hb aE hg) | ((with_reducible refine gate_dst (N := 3) rfl ?_); refine box_event rfl (N := 3) rfl (cs := #[.int .i64 aJ, .slice aP aH.length aQ]) (t := 25) BX ?_; intro bB hg w7 aE hb; have aF := am (aE); have aM := am (GH1 HB aB.out hg); have aK := aM; replace HB := bl (K1 HB aB.out) hb; have aC := am (NL aA hg); have aD := am (NG aA hg); replace aA := am (BB aA hb); clear hb aE hg; have cC := aC.out; have cD := aD.out; have ⟨_, _, _⟩ := y2 w7 aA.out; have ⟨_, _, _⟩ := y2 w7 aF.out) | ((with_reducible refine gate_callee (f := 33) rfl ?_); refine goesL_ (some 14) rfl rfl Try.func33 (by kernel_rfl) rfl #[.slice aN aG.length aO, .slice aP aH.length aQ] rfl MT ?_; (with_reducible refine (laws_eqSeenS.calls k _ _ aG _ _ aH true _ ?_ ?_ ?_ ?_ A4.out).mono ?_); exact KD aW HB; exact aX.out; exact KD aY HB; exact aZ.out; rintro e cE ⟨rfl, hb⟩; refine ⟨_, rfl, ?_⟩; replace aA := am (BB aA hb); replace aF := am (BB aF hb); replace HB := bl (K2 HB aB.out aK.out) hb; (try clear hb)))
   go_ret
   exact ⟨ER, K2 HB aB.out aK.out⟩
  ·replace c5 := Bool.eq_false_iff.mpr c5
   subst c5
   have H1 := nf H
   clear H
   have H := H1
   clear H1
   obtain rfl := sj H
   go_enter Try.func21, Try.ntmps21
   go_wp2_with (first | ((with_reducible refine gate_dst (N := 2) rfl ?_); refine box_event rfl (N := 2) rfl (cs := #[.int .i64 aI, .slice aN aG.length aO]) (t := 25) BX ?_; intro bA hg cF aE hb; have aA := am (aE); have aL := am (GH HB hg); have aB := aL; replace HB := bl (KL HB) hb; clear hb aE hg) | ((with_reducible refine gate_dst (N := 3) rfl ?_); refine box_event rfl (N := 3) rfl (cs := #[.int .i64 aJ, .slice aP aH.length aQ]) (t := 25) BX ?_; intro bB hg bV aE hb; have aF := am (aE); have aM := am (GH1 HB aB.out hg); have aK := aM; replace HB := bl (K1 HB aB.out) hb; have aC := am (NL aA hg); have aD := am (NG aA hg); replace aA := am (BB aA hb); clear hb aE hg; have bW := aC.out; have bX := aD.out; have ⟨_, _, _⟩ := y2 bV aA.out; have ⟨_, _, _⟩ := y2 bV aF.out) | ((with_reducible refine gate_callee (f := 33) rfl ?_); refine goesL_ (some 14) rfl rfl Try.func33 (by kernel_rfl) rfl #[.slice aN aG.length aO, .slice aP aH.length aQ] rfl MT ?_; (with_reducible refine (laws_eqSeenS.calls k _ _ aG _ _ aH false _ ?_ ?_ ?_ ?_ A4.out).mono ?_); exact KD aW HB; exact aX.out; exact KD aY HB; exact aZ.out; rintro e cG ⟨rfl, hb⟩; refine ⟨_, rfl, ?_⟩; replace aA := am (BB aA hb); replace aF := am (BB aF hb); replace HB := bl (K2 HB aB.out aK.out) hb; (try clear hb)))
   go_ret
   exact ⟨ER, K2 HB aB.out aK.out⟩
 ·rw [if_neg c3] at H
  have c3b0 : (aI == aJ) = false := beq_eq_false_iff_ne.mpr c3
  have c3b1 : (aI != aJ) = true := bne_iff_ne.mpr c3
  obtain rfl := sj H
  go_enter Try.func21, Try.ntmps21
  go_wp2_with (first | ((with_reducible refine gate_dst (N := 2) rfl ?_); refine box_event rfl (N := 2) rfl (cs := #[.int .i64 aI, .slice aN aG.length aO]) (t := 25) BX ?_; intro bA hg cH aE hb; have aA := am (aE); have aL := am (GH HB hg); have aB := aL; replace HB := bl (KL HB) hb; clear hb aE hg) | ((with_reducible refine gate_dst (N := 3) rfl ?_); refine box_event rfl (N := 3) rfl (cs := #[.int .i64 aJ, .slice aP aH.length aQ]) (t := 25) BX ?_; intro bB hg bY aE hb; have aF := am (aE); have aM := am (GH1 HB aB.out hg); have aK := aM; replace HB := bl (K1 HB aB.out) hb; have aC := am (NL aA hg); have aD := am (NG aA hg); replace aA := am (BB aA hb); clear hb aE hg; have bZ := aC.out; have cA := aD.out; have ⟨_, _, _⟩ := y2 bY aA.out; have ⟨_, _, _⟩ := y2 bY aF.out))
  go_ret
  exact ⟨ER, K2 HB aB.out aK.out⟩
def laws_eqIntS.l0 : Nat → List Int → List Int → Int → Option (Bool)
 | 0, _, _, _ => none
 | k + 1, x0, x1, x5 => if x5 < (x0.length : Int) then (if 0 ≤ x5 then (if x5 < (x1.length : Int) then (if (rd x0 x5) = (rd x1 x5) then (laws_eqIntS.l0 k x0 x1 (wrap64 (x5 + 1))) else (some false)) else (none)) else (none)) else (some true)
def laws_eqIntS.f (k : Nat) (l0 : List Int) (l1 : List Int) : Option (Bool) := if (l0.length : Int) = (l1.length : Int) then (laws_eqIntS.l0 k l0 l1 0) else (some false)
theorem laws_eqIntS.calls (k : Nat) (A0 : Option Addr) (c0 : Nat) (l0 : List Int) (A1 : Option Addr) (c1 : Nat) (l1 : List Int) (r : Bool) (w : World) (aL : Kd.C (Kd.int .i64) w A0 l0.length l0) (aM : l0.length ≤ c0) (aN : Kd.C (Kd.int .i64) w A1 l1.length l1) (aO : l1.length ≤ c1) (h : laws_eqIntS.f k l0 l1 = some r) :
  Calls Try.prog 44 #[.slice A0 l0.length c0, .slice A1 l1.length c1] w fun e w' => e = .returned (.bool r) ∧ Drawn0 w w' := by
 have aP := Aside0.mk aL
 have aR := Aside0.mk aM
 clear aL aM
 have aQ := Aside0.mk aN
 have aS := Aside0.mk aO
 clear aN aO
 have H : (if (l0.length : Int) = (l1.length : Int) then (laws_eqIntS.l0 k l0 l1 0) else (some false)) = some r := h
 clear h
 by_cases c3 : (l0.length : Int) = (l1.length : Int)
 ·rw [if_pos c3] at H
  have c3b0 : ((l0.length : Int) == (l1.length : Int)) = true := beq_iff_eq.mpr c3
  have c3b1 : ((l0.length : Int) != (l1.length : Int)) = false := bne_eq_false_iff_eq.mpr c3
  have c3b2 : (l0.length == l1.length) = true := by first | simpa using c3 | (simp at c3 ⊢; omega)
  clear c3
  have H' := Aside0.mk H
  clear H
  go_enter Try.func44, Try.ntmps44
  go_wp2
  repeat (go_quiet (fail); try go_wp2)
  go_loopg [5] k (fun kq v5 w' => ∃ (aA : Int), v5 = .int .i64 aA ∧ Aside0 (laws_eqIntS.l0 kq l0 l1 aA = some r) ∧ Aside0 (kq ≤ k) ∧ Drawn0 w w')
  case atStart => exact ⟨(0), (by first | rfl | (simp; done) | (simp [*]; done)), H', ⟨Nat.le_refl _⟩, by repeat (first | exact Drawn0.refl _ | apply Drawn0.step)⟩
  case round =>
   clear H'
   try clear c1
   try clear p2
   try clear c3
   try clear c3b0
   try clear c3b1
   try clear c3b2
   obtain ⟨aA, rfl, HA, HK1, ⟨m1, rfl⟩⟩ := hrel
   cases gk with
   | zero => exact absurd HA.out (by simp [laws_eqIntS.l0])
   | succ k1 =>
    have H := HA.out
    clear HA
    simp only [laws_eqIntS.l0] at H
    by_cases c4 : aA < (l0.length : Int)
    ·rw [if_pos c4] at H
     have c4b0 : decide (aA < (l0.length : Int)) = true := decide_eq_true c4
     clear c4
     by_cases c5 : 0 ≤ aA
     ·rw [if_pos c5] at H
      have c5b0 : decide (0 ≤ aA) = true := decide_eq_true c5
      clear c5
      by_cases c6 : aA < (l1.length : Int)
      ·rw [if_pos c6] at H
       have c6b0 : decide (aA < (l1.length : Int)) = true := decide_eq_true c6
       clear c6
       by_cases c7 : (rd l0 aA) = (rd l1 aA)
       ·rw [if_pos c7] at H
        have c7b0 : ((rd l0 aA) == (rd l1 aA)) = true := beq_iff_eq.mpr c7
        have c7b1 : ((rd l0 aA) != (rd l1 aA)) = false := bne_eq_false_iff_eq.mpr c7
        clear c7
        have H' := Aside0.mk H
        clear H
        have aB : 0 ≤ (aA : Int) := OD
        have aC : aA < (l0.length : Int) := OD
        obtain ⟨aJ, aH, aF⟩ := Kd.at_int aP.out aA aB aC
        cases aH
        replace aB := eq_true aB
        replace aC := eq_true aC
        have aD : 0 ≤ (aA : Int) := OD
        have aE : aA < (l1.length : Int) := OD
        obtain ⟨aK, aI, aG⟩ := Kd.at_int aQ.out aA aD aE
        cases aI
        replace aD := eq_true aD
        replace aE := eq_true aE
        go_wp2
        repeat (go_quiet (fail); try go_wp2)
        go_roundg k1
        case measure => have := HK1.out; omega
        case rel => exact ⟨(wrap64 (aA + 1)), (by first | rfl | (simp; done) | (simp [*]; done)), H', ⟨by have := HK1.out; omega⟩, by repeat (first | exact Drawn0.refl _ | apply Drawn0.step)⟩
       ·rw [if_neg c7] at H
        have c7b0 : ((rd l0 aA) == (rd l1 aA)) = false := beq_eq_false_iff_ne.mpr c7
        have c7b1 : ((rd l0 aA) != (rd l1 aA)) = true := bne_iff_ne.mpr c7
        obtain rfl := sj H
        have aB : 0 ≤ (aA : Int) := OD
        have aC : aA < (l0.length : Int) := OD
        obtain ⟨aJ, aH, aF⟩ := Kd.at_int aP.out aA aB aC
        cases aH
        replace aB := eq_true aB
        replace aC := eq_true aC
        have aD : 0 ≤ (aA : Int) := OD
        have aE : aA < (l1.length : Int) := OD
        obtain ⟨aK, aI, aG⟩ := Kd.at_int aQ.out aA aD aE
        cases aI
        replace aD := eq_true aD
        replace aE := eq_true aE
        go_wp2
        repeat (go_quiet (fail); try go_wp2)
        go_ret
        exact ⟨by first | rfl | (simp; done) | (simp [*]; done), by repeat (first | exact Drawn0.refl _ | apply Drawn0.step)⟩
      ·rw [if_neg c6] at H
       exact absurd H (by simp)
     ·rw [if_neg c5] at H
      exact absurd H (by simp)
    ·rw [if_neg c4] at H
     have c4b0 : decide (aA < (l0.length : Int)) = false := decide_eq_false c4
     clear c4
     obtain rfl := sj H
     go_wp2
     repeat (go_quiet (fail); try go_wp2)
     go_ret
     exact ⟨by first | rfl | (simp; done) | (simp [*]; done), by repeat (first | exact Drawn0.refl _ | apply Drawn0.step)⟩
 ·rw [if_neg c3] at H
  have c3b0 : ((l0.length : Int) == (l1.length : Int)) = false := beq_eq_false_iff_ne.mpr c3
  have c3b1 : ((l0.length : Int) != (l1.length : Int)) = true := bne_iff_ne.mpr c3
  have c3b2 : (l0.length == l1.length) = false := by first | simpa using c3 | (simp at c3 ⊢; omega)
  obtain rfl := sj H
  go_enter Try.func44, Try.ntmps44
  go_wp2
  repeat (go_quiet (fail); try go_wp2)
  go_ret
  exact ⟨by first | rfl | (simp; done) | (simp [*]; done), by repeat (first | exact Drawn0.refl _ | apply Drawn0.step)⟩
def laws_eqWindow.f (k : Nat) (a0_0 : Int) (l0_1 : List Int) (a1_0 : Int) (l1_1 : List Int) : Option (Bool) := if a0_0 = a1_0 then ((laws_eqIntS.f k l0_1 l1_1).bind fun t103 => (if t103 = true then (some true) else (some false))) else (some false)
theorem laws_eqWindow.calls (k : Nat) (aH : Int) (aN : Option Addr) (aO : Nat) (aF : List Int) (aI : Int) (aP : Option Addr) (aQ : Nat) (aG : List Int) (r : Bool) (w : World) (aS : Kd.C (Kd.int .i64) w aN aF.length aF) (aT : aF.length ≤ aO) (aU : Kd.C (Kd.int .i64) w aP aG.length aG) (aV : aG.length ≤ aQ) (h : laws_eqWindow.f k aH aF aI aG = some r) :
  Calls Try.prog 42 #[.agg #[.int .i64 aH, .slice aN aF.length aO], .agg #[.int .i64 aI, .slice aP aG.length aQ]] w fun e w' => e = .returned (.bool r) ∧ Below w.heap.size w w' := by
 have cB := Try.underlying68
 have aW := Aside0.mk aS
 have aX := Aside0.mk aT
 clear aS aT
 have aY := Aside0.mk aU
 have aZ := Aside0.mk aV
 clear aU aV
 have HB := am (Below.refl w.heap.size w)
 have H : (if aH = aI then ((laws_eqIntS.f k aF aG).bind fun aR => (if aR = true then (some true) else (some false))) else (some false)) = some r := h
 clear h
 by_cases c3 : aH = aI
 ·rw [if_pos c3] at H
  have c3b0 : (aH == aI) = true := beq_iff_eq.mpr c3
  have c3b1 : (aH != aI) = false := bne_eq_false_iff_eq.mpr c3
  clear c3
  replace H := bm H
  obtain ⟨aR, bU, H⟩ := H
  replace H : (if aR = true then (some true) else (some false)) = some r := H
  have A4 := Aside0.mk bU
  clear bU
  by_cases c5 : aR = true
  ·subst c5
   have H1 := pf H
   clear H
   have H := H1
   clear H1
   obtain rfl := sj H
   go_enter Try.func42, Try.ntmps42
   go_wp2_with (first | ((with_reducible refine gate_dst (N := 2) rfl ?_); refine box_event rfl (N := 2) rfl (cs := #[.int .i64 aH, .slice aN aF.length aO]) (t := 68) BX ?_; intro bA hg w6 aD hb; have aA := am (aD); have aJ := am (GH HB hg); have aE := aJ; replace HB := bl (KL HB) hb; clear hb aD hg) | ((with_reducible refine gate_dst (N := 3) rfl ?_); refine box_event rfl (N := 3) rfl (cs := #[.int .i64 aI, .slice aP aG.length aQ]) (t := 68) BX ?_; intro bB hg w7 aD hb; have aK := am (aD); have aL := am (GH1 HB aE.out hg); have aM := aL; replace HB := bl (K1 HB aE.out) hb; have aB := am (NL aA hg); have aC := am (NG aA hg); replace aA := am (BB aA hb); clear hb aD hg; have cC := aB.out; have cD := aC.out; have ⟨_, _, _⟩ := y2 w7 aA.out; have ⟨_, _, _⟩ := y2 w7 aK.out) | ((with_reducible refine gate_callee (f := 44) rfl ?_); refine goesL_ (some 14) rfl rfl Try.func44 (by kernel_rfl) rfl #[.slice aN aF.length aO, .slice aP aG.length aQ] rfl MT ?_; (with_reducible refine (laws_eqIntS.calls k _ _ aF _ _ aG true _ ?_ ?_ ?_ ?_ A4.out).mono ?_); exact KD aW HB; exact aX.out; exact KD aY HB; exact aZ.out; rintro e w' ⟨rfl, ⟨nd, rfl⟩⟩; refine ⟨_, rfl, ?_⟩))
   go_ret
   exact ⟨ER, K2 HB aE.out aM.out⟩
  ·replace c5 := Bool.eq_false_iff.mpr c5
   subst c5
   have H1 := nf H
   clear H
   have H := H1
   clear H1
   obtain rfl := sj H
   go_enter Try.func42, Try.ntmps42
   go_wp2_with (first | ((with_reducible refine gate_dst (N := 2) rfl ?_); refine box_event rfl (N := 2) rfl (cs := #[.int .i64 aH, .slice aN aF.length aO]) (t := 68) BX ?_; intro bA hg cE aD hb; have aA := am (aD); have aJ := am (GH HB hg); have aE := aJ; replace HB := bl (KL HB) hb; clear hb aD hg) | ((with_reducible refine gate_dst (N := 3) rfl ?_); refine box_event rfl (N := 3) rfl (cs := #[.int .i64 aI, .slice aP aG.length aQ]) (t := 68) BX ?_; intro bB hg bV aD hb; have aK := am (aD); have aL := am (GH1 HB aE.out hg); have aM := aL; replace HB := bl (K1 HB aE.out) hb; have aB := am (NL aA hg); have aC := am (NG aA hg); replace aA := am (BB aA hb); clear hb aD hg; have bW := aB.out; have bX := aC.out; have ⟨_, _, _⟩ := y2 bV aA.out; have ⟨_, _, _⟩ := y2 bV aK.out) | ((with_reducible refine gate_callee (f := 44) rfl ?_); refine goesL_ (some 14) rfl rfl Try.func44 (by kernel_rfl) rfl #[.slice aN aF.length aO, .slice aP aG.length aQ] rfl MT ?_; (with_reducible refine (laws_eqIntS.calls k _ _ aF _ _ aG false _ ?_ ?_ ?_ ?_ A4.out).mono ?_); exact KD aW HB; exact aX.out; exact KD aY HB; exact aZ.out; rintro e w' ⟨rfl, ⟨nd, rfl⟩⟩; refine ⟨_, rfl, ?_⟩))
   go_ret
   exact ⟨ER, K2 HB aE.out aM.out⟩
 ·rw [if_neg c3] at H
  have c3b0 : (aH == aI) = false := beq_eq_false_iff_ne.mpr c3
  have c3b1 : (aH != aI) = true := bne_iff_ne.mpr c3
  obtain rfl := sj H
  go_enter Try.func42, Try.ntmps42
  go_wp2_with (first | ((with_reducible refine gate_dst (N := 2) rfl ?_); refine box_event rfl (N := 2) rfl (cs := #[.int .i64 aH, .slice aN aF.length aO]) (t := 68) BX ?_; intro bA hg cF aD hb; have aA := am (aD); have aJ := am (GH HB hg); have aE := aJ; replace HB := bl (KL HB) hb; clear hb aD hg) | ((with_reducible refine gate_dst (N := 3) rfl ?_); refine box_event rfl (N := 3) rfl (cs := #[.int .i64 aI, .slice aP aG.length aQ]) (t := 68) BX ?_; intro bB hg bY aD hb; have aK := am (aD); have aL := am (GH1 HB aE.out hg); have aM := aL; replace HB := bl (K1 HB aE.out) hb; have aB := am (NL aA hg); have aC := am (NG aA hg); replace aA := am (BB aA hb); clear hb aD hg; have bZ := aB.out; have cA := aC.out; have ⟨_, _, _⟩ := y2 bY aA.out; have ⟨_, _, _⟩ := y2 bY aK.out))
  go_ret
  exact ⟨ER, K2 HB aE.out aM.out⟩
def laws_eqSa.f (k : Nat) (a0_0 : Int) (a0_1 : Int) (a0_2 : ByteArray) (a0_3 : ByteArray) (a0_4 : Int) (a0_5 : Int) (a0_6 : Int) (a0_7 : Int) (a0_8 : Int) (a0_9 : Int) (l0_10 : List Int) (a1_0 : Int) (a1_1 : Int) (a1_2 : ByteArray) (a1_3 : ByteArray) (a1_4 : Int) (a1_5 : Int) (a1_6 : Int) (a1_7 : Int) (a1_8 : Int) (a1_9 : Int) (l1_10 : List Int) : Option (Bool) := if a0_0 = a1_0 then (if a0_1 = a1_1 then (if a0_2.toList = a1_2.toList then (if a0_3.toList = a1_3.toList then (if a0_4 = a1_4 then (if a0_5 = a1_5 then (if a0_6 = a1_6 then (if a0_7 = a1_7 then (if a0_8 = a1_8 then ((laws_eqWindow.f k a0_9 l0_10 a1_9 l1_10).bind fun t103 => (if t103 = true then (some true) else (some false))) else (some false)) else (some false)) else (some false)) else (some false)) else (some false)) else (some false)) else (some false)) else (some false)) else (some false)
theorem laws_eqSa.calls (k : Nat) (aP : Int) (aQ : Int) (aR : ByteArray) (aS : ByteArray) (aT : Int) (aU : Int) (aV : Int) (aW : Int) (aX : Int) (bH : Int) (aL : Option Addr) (aM : Nat) (aH : List Int) (aY : Int) (aZ : Int) (bA : ByteArray) (bB : ByteArray) (bC : Int) (bD : Int) (bE : Int) (bF : Int) (bG : Int) (bI : Int) (aN : Option Addr) (aO : Nat) (aI : List Int) (r : Bool) (w : World) (bL : Kd.C (Kd.int .i64) w aL aH.length aH) (bM : aH.length ≤ aM) (bN : Kd.C (Kd.int .i64) w aN aI.length aI) (bO : aI.length ≤ aO) (h : laws_eqSa.f k aP aQ aR aS aT aU aV aW aX bH aH aY aZ bA bB bC bD bE bF bG bI aI = some r) :
  Calls Try.prog 34 #[.agg #[.int .i64 aP, .int .i64 aQ, .string aR, .string aS, .int .i64 aT, .int .i64 aU, .int .i64 aV, .int .i64 aW, .int .i64 aX, .int .i64 bH, .slice aL aH.length aM], .agg #[.int .i64 aY, .int .i64 aZ, .string bA, .string bB, .int .i64 bC, .int .i64 bD, .int .i64 bE, .int .i64 bF, .int .i64 bG, .int .i64 bI, .slice aN aI.length aO]] w fun e w' => e = .returned (.bool r) ∧ Below w.heap.size w w' := by
 have nK := Try.underlying70
 have nL := Try.underlying68
 have bP := Aside0.mk bL
 have bQ := Aside0.mk bM
 clear bL bM
 have bR := Aside0.mk bN
 have bS := Aside0.mk bO
 clear bN bO
 have HB := am (Below.refl w.heap.size w)
 have H : (if aP = aY then (if aQ = aZ then (if aR.toList = bA.toList then (if aS.toList = bB.toList then (if aT = bC then (if aU = bD then (if aV = bE then (if aW = bF then (if aX = bG then ((laws_eqWindow.f k bH aH bI aI).bind fun bT => (if bT = true then (some true) else (some false))) else (some false)) else (some false)) else (some false)) else (some false)) else (some false)) else (some false)) else (some false)) else (some false)) else (some false)) = some r := h
 clear h
 by_cases c3 : aP = aY
 ·rw [if_pos c3] at H
  have c3b0 : (aP == aY) = true := beq_iff_eq.mpr c3
  have c3b1 : (aP != aY) = false := bne_eq_false_iff_eq.mpr c3
  clear c3
  by_cases c4 : aQ = aZ
  ·rw [if_pos c4] at H
   have c4b0 : (aQ == aZ) = true := beq_iff_eq.mpr c4
   have c4b1 : (aQ != aZ) = false := bne_eq_false_iff_eq.mpr c4
   clear c4
   by_cases c5 : aR.toList = bA.toList
   ·rw [if_pos c5] at H
    have c5b0 : (aR.toList == bA.toList) = true := beq_iff_eq.mpr c5
    have c5b1 : (aR.toList != bA.toList) = false := bne_eq_false_iff_eq.mpr c5
    clear c5
    by_cases c6 : aS.toList = bB.toList
    ·rw [if_pos c6] at H
     have c6b0 : (aS.toList == bB.toList) = true := beq_iff_eq.mpr c6
     have c6b1 : (aS.toList != bB.toList) = false := bne_eq_false_iff_eq.mpr c6
     clear c6
     by_cases c7 : aT = bC
     ·rw [if_pos c7] at H
      have c7b0 : (aT == bC) = true := beq_iff_eq.mpr c7
      have c7b1 : (aT != bC) = false := bne_eq_false_iff_eq.mpr c7
      clear c7
      by_cases c8 : aU = bD
      ·rw [if_pos c8] at H
       have c8b0 : (aU == bD) = true := beq_iff_eq.mpr c8
       have c8b1 : (aU != bD) = false := bne_eq_false_iff_eq.mpr c8
       clear c8
       by_cases c9 : aV = bE
       ·rw [if_pos c9] at H
        have c9b0 : (aV == bE) = true := beq_iff_eq.mpr c9
        have c9b1 : (aV != bE) = false := bne_eq_false_iff_eq.mpr c9
        clear c9
        by_cases bU : aW = bF
        ·rw [if_pos bU] at H
         have c10b0 : (aW == bF) = true := beq_iff_eq.mpr bU
         have c10b1 : (aW != bF) = false := bne_eq_false_iff_eq.mpr bU
         clear bU
         by_cases bV : aX = bG
         ·rw [if_pos bV] at H
          have c11b0 : (aX == bG) = true := beq_iff_eq.mpr bV
          have c11b1 : (aX != bG) = false := bne_eq_false_iff_eq.mpr bV
          clear bV
          replace H := bm H
          obtain ⟨bT, bW, H⟩ := H
          replace H : (if bT = true then (some true) else (some false)) = some r := H
          have mC := Aside0.mk bW
          clear bW
          by_cases cT : bT = true
          ·subst cT
           have H1 := pf H
           clear H
           have H := H1
           clear H1
           obtain rfl := sj H
           go_enter Try.func34, Try.ntmps34
           go_wp2_with (first | ((with_reducible refine gate_dst (N := 2) rfl ?_); refine box_event rfl (N := 2) rfl (cs := #[.int .i64 aP, .int .i64 aQ, .string aR, .string aS, .int .i64 aT, .int .i64 aU, .int .i64 aV, .int .i64 aW, .int .i64 aX, .int .i64 bH, .slice aL aH.length aM]) (t := 70) BX ?_; intro bJ hg nM aE hb; have aA := am (aE); have aJ := am (GH HB hg); have aD := aJ; replace HB := bl (KL HB) hb; clear hb aE hg) | ((with_reducible refine gate_dst (N := 3) rfl ?_); refine box_event rfl (N := 3) rfl (cs := #[.int .i64 aY, .int .i64 aZ, .string bA, .string bB, .int .i64 bC, .int .i64 bD, .int .i64 bE, .int .i64 bF, .int .i64 bG, .int .i64 bI, .slice aN aI.length aO]) (t := 70) BX ?_; intro bK hg mD aE hb; have aF := am (aE); have aK := am (GH1 HB aD.out hg); have aG := aK; replace HB := bl (K1 HB aD.out) hb; have aB := am (NL aA hg); have aC := am (NG aA hg); replace aA := am (BB aA hb); clear hb aE hg; have mE := aB.out; have mF := aC.out; have ⟨_, _, _, _, _, _, _, _, _, _, _, _⟩ := y11 mD aA.out; have ⟨_, _, _, _, _, _, _, _, _, _, _, _⟩ := y11 mD aF.out) | ((with_reducible refine gate_callee (f := 42) rfl ?_); refine goesL_ (some 54) rfl rfl Try.func42 (by kernel_rfl) rfl #[.agg #[.int .i64 bH, .slice aL aH.length aM], .agg #[.int .i64 bI, .slice aN aI.length aO]] rfl MT ?_; (with_reducible refine (laws_eqWindow.calls k bH _ _ aH bI _ _ aI true _ ?_ ?_ ?_ ?_ mC.out).mono ?_); exact KD bP HB; exact bQ.out; exact KD bR HB; exact bS.out; rintro e nN ⟨rfl, hb⟩; refine ⟨_, rfl, ?_⟩; replace aA := am (BB aA hb); replace aF := am (BB aF hb); replace HB := bl (K2 HB aD.out aG.out) hb; (try clear hb)))
           go_ret
           exact ⟨ER, K2 HB aD.out aG.out⟩
          ·replace cT := Bool.eq_false_iff.mpr cT
           subst cT
           have H1 := nf H
           clear H
           have H := H1
           clear H1
           obtain rfl := sj H
           go_enter Try.func34, Try.ntmps34
           go_wp2_with (first | ((with_reducible refine gate_dst (N := 2) rfl ?_); refine box_event rfl (N := 2) rfl (cs := #[.int .i64 aP, .int .i64 aQ, .string aR, .string aS, .int .i64 aT, .int .i64 aU, .int .i64 aV, .int .i64 aW, .int .i64 aX, .int .i64 bH, .slice aL aH.length aM]) (t := 70) BX ?_; intro bJ hg nO aE hb; have aA := am (aE); have aJ := am (GH HB hg); have aD := aJ; replace HB := bl (KL HB) hb; clear hb aE hg) | ((with_reducible refine gate_dst (N := 3) rfl ?_); refine box_event rfl (N := 3) rfl (cs := #[.int .i64 aY, .int .i64 aZ, .string bA, .string bB, .int .i64 bC, .int .i64 bD, .int .i64 bE, .int .i64 bF, .int .i64 bG, .int .i64 bI, .slice aN aI.length aO]) (t := 70) BX ?_; intro bK hg mG aE hb; have aF := am (aE); have aK := am (GH1 HB aD.out hg); have aG := aK; replace HB := bl (K1 HB aD.out) hb; have aB := am (NL aA hg); have aC := am (NG aA hg); replace aA := am (BB aA hb); clear hb aE hg; have mH := aB.out; have mI := aC.out; have ⟨_, _, _, _, _, _, _, _, _, _, _, _⟩ := y11 mG aA.out; have ⟨_, _, _, _, _, _, _, _, _, _, _, _⟩ := y11 mG aF.out) | ((with_reducible refine gate_callee (f := 42) rfl ?_); refine goesL_ (some 54) rfl rfl Try.func42 (by kernel_rfl) rfl #[.agg #[.int .i64 bH, .slice aL aH.length aM], .agg #[.int .i64 bI, .slice aN aI.length aO]] rfl MT ?_; (with_reducible refine (laws_eqWindow.calls k bH _ _ aH bI _ _ aI false _ ?_ ?_ ?_ ?_ mC.out).mono ?_); exact KD bP HB; exact bQ.out; exact KD bR HB; exact bS.out; rintro e nP ⟨rfl, hb⟩; refine ⟨_, rfl, ?_⟩; replace aA := am (BB aA hb); replace aF := am (BB aF hb); replace HB := bl (K2 HB aD.out aG.out) hb; (try clear hb)))
           go_ret
           exact ⟨ER, K2 HB aD.out aG.out⟩
         ·rw [if_neg bV] at H
          have c11b0 : (aX == bG) = false := beq_eq_false_iff_ne.mpr bV
          have c11b1 : (aX != bG) = true := bne_iff_ne.mpr bV
          obtain rfl := sj H
          go_enter Try.func34, Try.ntmps34
          go_wp2_with (first | ((with_reducible refine gate_dst (N := 2) rfl ?_); refine box_event rfl (N := 2) rfl (cs := #[.int .i64 aP, .int .i64 aQ, .string aR, .string aS, .int .i64 aT, .int .i64 aU, .int .i64 aV, .int .i64 aW, .int .i64 aX, .int .i64 bH, .slice aL aH.length aM]) (t := 70) BX ?_; intro bJ hg nQ aE hb; have aA := am (aE); have aJ := am (GH HB hg); have aD := aJ; replace HB := bl (KL HB) hb; clear hb aE hg) | ((with_reducible refine gate_dst (N := 3) rfl ?_); refine box_event rfl (N := 3) rfl (cs := #[.int .i64 aY, .int .i64 aZ, .string bA, .string bB, .int .i64 bC, .int .i64 bD, .int .i64 bE, .int .i64 bF, .int .i64 bG, .int .i64 bI, .slice aN aI.length aO]) (t := 70) BX ?_; intro bK hg mJ aE hb; have aF := am (aE); have aK := am (GH1 HB aD.out hg); have aG := aK; replace HB := bl (K1 HB aD.out) hb; have aB := am (NL aA hg); have aC := am (NG aA hg); replace aA := am (BB aA hb); clear hb aE hg; have mK := aB.out; have mL := aC.out; have ⟨_, _, _, _, _, _, _, _, _, _, _, _⟩ := y11 mJ aA.out; have ⟨_, _, _, _, _, _, _, _, _, _, _, _⟩ := y11 mJ aF.out))
          go_ret
          exact ⟨ER, K2 HB aD.out aG.out⟩
        ·rw [if_neg bU] at H
         have c10b0 : (aW == bF) = false := beq_eq_false_iff_ne.mpr bU
         have c10b1 : (aW != bF) = true := bne_iff_ne.mpr bU
         obtain rfl := sj H
         go_enter Try.func34, Try.ntmps34
         go_wp2_with (first | ((with_reducible refine gate_dst (N := 2) rfl ?_); refine box_event rfl (N := 2) rfl (cs := #[.int .i64 aP, .int .i64 aQ, .string aR, .string aS, .int .i64 aT, .int .i64 aU, .int .i64 aV, .int .i64 aW, .int .i64 aX, .int .i64 bH, .slice aL aH.length aM]) (t := 70) BX ?_; intro bJ hg nR aE hb; have aA := am (aE); have aJ := am (GH HB hg); have aD := aJ; replace HB := bl (KL HB) hb; clear hb aE hg) | ((with_reducible refine gate_dst (N := 3) rfl ?_); refine box_event rfl (N := 3) rfl (cs := #[.int .i64 aY, .int .i64 aZ, .string bA, .string bB, .int .i64 bC, .int .i64 bD, .int .i64 bE, .int .i64 bF, .int .i64 bG, .int .i64 bI, .slice aN aI.length aO]) (t := 70) BX ?_; intro bK hg mM aE hb; have aF := am (aE); have aK := am (GH1 HB aD.out hg); have aG := aK; replace HB := bl (K1 HB aD.out) hb; have aB := am (NL aA hg); have aC := am (NG aA hg); replace aA := am (BB aA hb); clear hb aE hg; have mN := aB.out; have mO := aC.out; have ⟨_, _, _, _, _, _, _, _, _, _, _, _⟩ := y11 mM aA.out; have ⟨_, _, _, _, _, _, _, _, _, _, _, _⟩ := y11 mM aF.out))
         go_ret
         exact ⟨ER, K2 HB aD.out aG.out⟩
       ·rw [if_neg c9] at H
        have c9b0 : (aV == bE) = false := beq_eq_false_iff_ne.mpr c9
        have c9b1 : (aV != bE) = true := bne_iff_ne.mpr c9
        obtain rfl := sj H
        go_enter Try.func34, Try.ntmps34
        go_wp2_with (first | ((with_reducible refine gate_dst (N := 2) rfl ?_); refine box_event rfl (N := 2) rfl (cs := #[.int .i64 aP, .int .i64 aQ, .string aR, .string aS, .int .i64 aT, .int .i64 aU, .int .i64 aV, .int .i64 aW, .int .i64 aX, .int .i64 bH, .slice aL aH.length aM]) (t := 70) BX ?_; intro bJ hg nS aE hb; have aA := am (aE); have aJ := am (GH HB hg); have aD := aJ; replace HB := bl (KL HB) hb; clear hb aE hg) | ((with_reducible refine gate_dst (N := 3) rfl ?_); refine box_event rfl (N := 3) rfl (cs := #[.int .i64 aY, .int .i64 aZ, .string bA, .string bB, .int .i64 bC, .int .i64 bD, .int .i64 bE, .int .i64 bF, .int .i64 bG, .int .i64 bI, .slice aN aI.length aO]) (t := 70) BX ?_; intro bK hg mP aE hb; have aF := am (aE); have aK := am (GH1 HB aD.out hg); have aG := aK; replace HB := bl (K1 HB aD.out) hb; have aB := am (NL aA hg); have aC := am (NG aA hg); replace aA := am (BB aA hb); clear hb aE hg; have mQ := aB.out; have mR := aC.out; have ⟨_, _, _, _, _, _, _, _, _, _, _, _⟩ := y11 mP aA.out; have ⟨_, _, _, _, _, _, _, _, _, _, _, _⟩ := y11 mP aF.out))
        go_ret
        exact ⟨ER, K2 HB aD.out aG.out⟩
      ·rw [if_neg c8] at H
       have c8b0 : (aU == bD) = false := beq_eq_false_iff_ne.mpr c8
       have c8b1 : (aU != bD) = true := bne_iff_ne.mpr c8
       obtain rfl := sj H
       go_enter Try.func34, Try.ntmps34
       go_wp2_with (first | ((with_reducible refine gate_dst (N := 2) rfl ?_); refine box_event rfl (N := 2) rfl (cs := #[.int .i64 aP, .int .i64 aQ, .string aR, .string aS, .int .i64 aT, .int .i64 aU, .int .i64 aV, .int .i64 aW, .int .i64 aX, .int .i64 bH, .slice aL aH.length aM]) (t := 70) BX ?_; intro bJ hg nT aE hb; have aA := am (aE); have aJ := am (GH HB hg); have aD := aJ; replace HB := bl (KL HB) hb; clear hb aE hg) | ((with_reducible refine gate_dst (N := 3) rfl ?_); refine box_event rfl (N := 3) rfl (cs := #[.int .i64 aY, .int .i64 aZ, .string bA, .string bB, .int .i64 bC, .int .i64 bD, .int .i64 bE, .int .i64 bF, .int .i64 bG, .int .i64 bI, .slice aN aI.length aO]) (t := 70) BX ?_; intro bK hg mS aE hb; have aF := am (aE); have aK := am (GH1 HB aD.out hg); have aG := aK; replace HB := bl (K1 HB aD.out) hb; have aB := am (NL aA hg); have aC := am (NG aA hg); replace aA := am (BB aA hb); clear hb aE hg; have mT := aB.out; have mU := aC.out; have ⟨_, _, _, _, _, _, _, _, _, _, _, _⟩ := y11 mS aA.out; have ⟨_, _, _, _, _, _, _, _, _, _, _, _⟩ := y11 mS aF.out))
       go_ret
       exact ⟨ER, K2 HB aD.out aG.out⟩
     ·rw [if_neg c7] at H
      have c7b0 : (aT == bC) = false := beq_eq_false_iff_ne.mpr c7
      have c7b1 : (aT != bC) = true := bne_iff_ne.mpr c7
      obtain rfl := sj H
      go_enter Try.func34, Try.ntmps34
      go_wp2_with (first | ((with_reducible refine gate_dst (N := 2) rfl ?_); refine box_event rfl (N := 2) rfl (cs := #[.int .i64 aP, .int .i64 aQ, .string aR, .string aS, .int .i64 aT, .int .i64 aU, .int .i64 aV, .int .i64 aW, .int .i64 aX, .int .i64 bH, .slice aL aH.length aM]) (t := 70) BX ?_; intro bJ hg nU aE hb; have aA := am (aE); have aJ := am (GH HB hg); have aD := aJ; replace HB := bl (KL HB) hb; clear hb aE hg) | ((with_reducible refine gate_dst (N := 3) rfl ?_); refine box_event rfl (N := 3) rfl (cs := #[.int .i64 aY, .int .i64 aZ, .string bA, .string bB, .int .i64 bC, .int .i64 bD, .int .i64 bE, .int .i64 bF, .int .i64 bG, .int .i64 bI, .slice aN aI.length aO]) (t := 70) BX ?_; intro bK hg mV aE hb; have aF := am (aE); have aK := am (GH1 HB aD.out hg); have aG := aK; replace HB := bl (K1 HB aD.out) hb; have aB := am (NL aA hg); have aC := am (NG aA hg); replace aA := am (BB aA hb); clear hb aE hg; have mW := aB.out; have mX := aC.out; have ⟨_, _, _, _, _, _, _, _, _, _, _, _⟩ := y11 mV aA.out; have ⟨_, _, _, _, _, _, _, _, _, _, _, _⟩ := y11 mV aF.out))
      go_ret
      exact ⟨ER, K2 HB aD.out aG.out⟩
    ·rw [if_neg c6] at H
     have c6b0 : (aS.toList == bB.toList) = false := beq_eq_false_iff_ne.mpr c6
     have c6b1 : (aS.toList != bB.toList) = true := bne_iff_ne.mpr c6
     obtain rfl := sj H
     go_enter Try.func34, Try.ntmps34
     go_wp2_with (first | ((with_reducible refine gate_dst (N := 2) rfl ?_); refine box_event rfl (N := 2) rfl (cs := #[.int .i64 aP, .int .i64 aQ, .string aR, .string aS, .int .i64 aT, .int .i64 aU, .int .i64 aV, .int .i64 aW, .int .i64 aX, .int .i64 bH, .slice aL aH.length aM]) (t := 70) BX ?_; intro bJ hg nV aE hb; have aA := am (aE); have aJ := am (GH HB hg); have aD := aJ; replace HB := bl (KL HB) hb; clear hb aE hg) | ((with_reducible refine gate_dst (N := 3) rfl ?_); refine box_event rfl (N := 3) rfl (cs := #[.int .i64 aY, .int .i64 aZ, .string bA, .string bB, .int .i64 bC, .int .i64 bD, .int .i64 bE, .int .i64 bF, .int .i64 bG, .int .i64 bI, .slice aN aI.length aO]) (t := 70) BX ?_; intro bK hg mY aE hb; have aF := am (aE); have aK := am (GH1 HB aD.out hg); have aG := aK; replace HB := bl (K1 HB aD.out) hb; have aB := am (NL aA hg); have aC := am (NG aA hg); replace aA := am (BB aA hb); clear hb aE hg; have mZ := aB.out; have nA := aC.out; have ⟨_, _, _, _, _, _, _, _, _, _, _, _⟩ := y11 mY aA.out; have ⟨_, _, _, _, _, _, _, _, _, _, _, _⟩ := y11 mY aF.out))
     go_ret
     exact ⟨ER, K2 HB aD.out aG.out⟩
   ·rw [if_neg c5] at H
    have c5b0 : (aR.toList == bA.toList) = false := beq_eq_false_iff_ne.mpr c5
    have c5b1 : (aR.toList != bA.toList) = true := bne_iff_ne.mpr c5
    obtain rfl := sj H
    go_enter Try.func34, Try.ntmps34
    go_wp2_with (first | ((with_reducible refine gate_dst (N := 2) rfl ?_); refine box_event rfl (N := 2) rfl (cs := #[.int .i64 aP, .int .i64 aQ, .string aR, .string aS, .int .i64 aT, .int .i64 aU, .int .i64 aV, .int .i64 aW, .int .i64 aX, .int .i64 bH, .slice aL aH.length aM]) (t := 70) BX ?_; intro bJ hg nW aE hb; have aA := am (aE); have aJ := am (GH HB hg); have aD := aJ; replace HB := bl (KL HB) hb; clear hb aE hg) | ((with_reducible refine gate_dst (N := 3) rfl ?_); refine box_event rfl (N := 3) rfl (cs := #[.int .i64 aY, .int .i64 aZ, .string bA, .string bB, .int .i64 bC, .int .i64 bD, .int .i64 bE, .int .i64 bF, .int .i64 bG, .int .i64 bI, .slice aN aI.length aO]) (t := 70) BX ?_; intro bK hg nB aE hb; have aF := am (aE); have aK := am (GH1 HB aD.out hg); have aG := aK; replace HB := bl (K1 HB aD.out) hb; have aB := am (NL aA hg); have aC := am (NG aA hg); replace aA := am (BB aA hb); clear hb aE hg; have nC := aB.out; have nD := aC.out; have ⟨_, _, _, _, _, _, _, _, _, _, _, _⟩ := y11 nB aA.out; have ⟨_, _, _, _, _, _, _, _, _, _, _, _⟩ := y11 nB aF.out))
    go_ret
    exact ⟨ER, K2 HB aD.out aG.out⟩
  ·rw [if_neg c4] at H
   have c4b0 : (aQ == aZ) = false := beq_eq_false_iff_ne.mpr c4
   have c4b1 : (aQ != aZ) = true := bne_iff_ne.mpr c4
   obtain rfl := sj H
   go_enter Try.func34, Try.ntmps34
   go_wp2_with (first | ((with_reducible refine gate_dst (N := 2) rfl ?_); refine box_event rfl (N := 2) rfl (cs := #[.int .i64 aP, .int .i64 aQ, .string aR, .string aS, .int .i64 aT, .int .i64 aU, .int .i64 aV, .int .i64 aW, .int .i64 aX, .int .i64 bH, .slice aL aH.length aM]) (t := 70) BX ?_; intro bJ hg nX aE hb; have aA := am (aE); have aJ := am (GH HB hg); have aD := aJ; replace HB := bl (KL HB) hb; clear hb aE hg) | ((with_reducible refine gate_dst (N := 3) rfl ?_); refine box_event rfl (N := 3) rfl (cs := #[.int .i64 aY, .int .i64 aZ, .string bA, .string bB, .int .i64 bC, .int .i64 bD, .int .i64 bE, .int .i64 bF, .int .i64 bG, .int .i64 bI, .slice aN aI.length aO]) (t := 70) BX ?_; intro bK hg nE aE hb; have aF := am (aE); have aK := am (GH1 HB aD.out hg); have aG := aK; replace HB := bl (K1 HB aD.out) hb; have aB := am (NL aA hg); have aC := am (NG aA hg); replace aA := am (BB aA hb); clear hb aE hg; have nF := aB.out; have nG := aC.out; have ⟨_, _, _, _, _, _, _, _, _, _, _, _⟩ := y11 nE aA.out; have ⟨_, _, _, _, _, _, _, _, _, _, _, _⟩ := y11 nE aF.out))
   go_ret
   exact ⟨ER, K2 HB aD.out aG.out⟩
 ·rw [if_neg c3] at H
  have c3b0 : (aP == aY) = false := beq_eq_false_iff_ne.mpr c3
  have c3b1 : (aP != aY) = true := bne_iff_ne.mpr c3
  obtain rfl := sj H
  go_enter Try.func34, Try.ntmps34
  go_wp2_with (first | ((with_reducible refine gate_dst (N := 2) rfl ?_); refine box_event rfl (N := 2) rfl (cs := #[.int .i64 aP, .int .i64 aQ, .string aR, .string aS, .int .i64 aT, .int .i64 aU, .int .i64 aV, .int .i64 aW, .int .i64 aX, .int .i64 bH, .slice aL aH.length aM]) (t := 70) BX ?_; intro bJ hg nY aE hb; have aA := am (aE); have aJ := am (GH HB hg); have aD := aJ; replace HB := bl (KL HB) hb; clear hb aE hg) | ((with_reducible refine gate_dst (N := 3) rfl ?_); refine box_event rfl (N := 3) rfl (cs := #[.int .i64 aY, .int .i64 aZ, .string bA, .string bB, .int .i64 bC, .int .i64 bD, .int .i64 bE, .int .i64 bF, .int .i64 bG, .int .i64 bI, .slice aN aI.length aO]) (t := 70) BX ?_; intro bK hg nH aE hb; have aF := am (aE); have aK := am (GH1 HB aD.out hg); have aG := aK; replace HB := bl (K1 HB aD.out) hb; have aB := am (NL aA hg); have aC := am (NG aA hg); replace aA := am (BB aA hb); clear hb aE hg; have nI := aB.out; have nJ := aC.out; have ⟨_, _, _, _, _, _, _, _, _, _, _, _⟩ := y11 nH aA.out; have ⟨_, _, _, _, _, _, _, _, _, _, _, _⟩ := y11 nH aF.out))
  go_ret
  exact ⟨ER, K2 HB aD.out aG.out⟩
def laws_eqSaS.l0 : Nat → List (S70) → List (S70) → Int → Option (Bool)
 | 0, _, _, _ => none
 | k + 1, x0, x1, x5 => if x5 < (x0.length : Int) then (if 0 ≤ x5 then (if x5 < (x1.length : Int) then ((laws_eqSa.f k ((rd_T70 x0 x5).f0) ((rd_T70 x0 x5).f1) ((rd_T70 x0 x5).f2) ((rd_T70 x0 x5).f3) ((rd_T70 x0 x5).f4) ((rd_T70 x0 x5).f5) ((rd_T70 x0 x5).f6) ((rd_T70 x0 x5).f7) ((rd_T70 x0 x5).f8) ((rd_T70 x0 x5).f9.f0) ((rd_T70 x0 x5).f9.f1) ((rd_T70 x1 x5).f0) ((rd_T70 x1 x5).f1) ((rd_T70 x1 x5).f2) ((rd_T70 x1 x5).f3) ((rd_T70 x1 x5).f4) ((rd_T70 x1 x5).f5) ((rd_T70 x1 x5).f6) ((rd_T70 x1 x5).f7) ((rd_T70 x1 x5).f8) ((rd_T70 x1 x5).f9.f0) ((rd_T70 x1 x5).f9.f1)).bind fun t103 => (if t103 = true then (laws_eqSaS.l0 k x0 x1 (wrap64 (x5 + 1))) else (some false))) else (none)) else (none)) else (some true)
def laws_eqSaS.f (k : Nat) (l0 : List (S70)) (l1 : List (S70)) : Option (Bool) := if (l0.length : Int) = (l1.length : Int) then (laws_eqSaS.l0 k l0 l1 0) else (some false)
def laws_eqSaS.T6 : Bool × List (List Nat × List Nat) := (true, [([], []), ([], []), ([0, 1], [0, 1]), ([2], [2]), ([], []), ([], []), ([4, 5], [4, 5]), ([6], [6]), ([3, 7], [3, 7]), ([8], [8])])
def laws_eqSaS.B6 : List Nat := [0, 0, 3, 7, 0, 0, 48, 112, 255, 511]
theorem laws_eqSaS.tab6 : rtab .any (opsOf Try.f22 6) = laws_eqSaS.T6 := by kernel_rfl
theorem laws_eqSaS.bits6 : waitsOk laws_eqSaS.T6.2 laws_eqSaS.B6 = true := by kernel_rfl
theorem laws_eqSaS.calls (k : Nat) (A0 : Option Addr) (c0 : Nat) (l0 : List (S70)) (A1 : Option Addr) (c1 : Nat) (l1 : List (S70)) (r : Bool) (w : World) (cR : Kd.C k70 w A0 l0.length l0) (cS : l0.length ≤ c0) (cT : Kd.C k70 w A1 l1.length l1) (cU : l1.length ≤ c1) (h : laws_eqSaS.f k l0 l1 = some r) :
  Calls Try.prog 22 #[.slice A0 l0.length c0, .slice A1 l1.length c1] w fun e w' => e = .returned (.bool r) ∧ Below w.heap.size w w' := by
 have cY := Try.underlying70
 have cV := Aside0.mk cR
 have cZ := Aside0.mk cS
 clear cR cS
 have cW := Aside0.mk cT
 have dA := Aside0.mk cU
 clear cT cU
 have HB := am (Below.refl w.heap.size w)
 have H : (if (l0.length : Int) = (l1.length : Int) then (laws_eqSaS.l0 k l0 l1 0) else (some false)) = some r := h
 clear h
 by_cases c3 : (l0.length : Int) = (l1.length : Int)
 ·rw [if_pos c3] at H
  have c3b0 : ((l0.length : Int) == (l1.length : Int)) = true := beq_iff_eq.mpr c3
  have c3b1 : ((l0.length : Int) != (l1.length : Int)) = false := bne_eq_false_iff_eq.mpr c3
  have c3b2 : (l0.length == l1.length) = true := by first | simpa using c3 | (simp at c3 ⊢; omega)
  clear c3
  have H' := Aside0.mk H
  clear H
  go_enter Try.func22, Try.ntmps22
  go_wp2
  go_loopg [5] k (fun kq v5 w' => ∃ (aA : Int), v5 = .int .i64 aA ∧ Aside0 (laws_eqSaS.l0 kq l0 l1 aA = some r) ∧ Aside0 (kq ≤ k) ∧ Aside0 (Below w.heap.size w w'))
  case atStart => exact ⟨(0), (by first | rfl | (simp; done) | (simp [*]; done)), H', ⟨Nat.le_refl _⟩, ⟨KL HB⟩⟩
  case round =>
   clear H'
   try clear c1
   try clear c2
   try clear p2
   try clear c3
   try clear c3b0
   try clear c3b1
   try clear c3b2
   obtain ⟨aA, rfl, HA, HK1, HB⟩ := hrel
   cases gk with
   | zero => exact absurd HA.out (by simp [laws_eqSaS.l0])
   | succ k1 =>
    have H := HA.out
    clear HA
    simp only [laws_eqSaS.l0] at H
    by_cases c4 : aA < (l0.length : Int)
    ·rw [if_pos c4] at H
     have c4b0 : decide (aA < (l0.length : Int)) = true := decide_eq_true c4
     clear c4
     by_cases c5 : 0 ≤ aA
     ·rw [if_pos c5] at H
      have c5b0 : decide (0 ≤ aA) = true := decide_eq_true c5
      clear c5
      by_cases c6 : aA < (l1.length : Int)
      ·rw [if_pos c6] at H
       have c6b0 : decide (aA < (l1.length : Int)) = true := decide_eq_true c6
       clear c6
       replace H := bm H
       obtain ⟨cP, cX, H⟩ := H
       replace H : (if cP = true then (laws_eqSaS.l0 k1 l0 l1 (wrap64 (aA + 1))) else (some false)) = some r := H
       have A7 := Aside0.mk cX
       clear cX
       by_cases c8 : cP = true
       ·subst c8
        have H1 := pf H
        clear H
        have H := H1
        clear H1
        have H' := Aside0.mk H
        clear H
        try go_wp2
        replace HB := am (below_drew1 HB.out)
        have cJ : 0 ≤ (aA : Int) := OD
        have cK : aA < (l0.length : Int) := OD
        obtain ⟨aB, bH, bI, cN, aF, aG, aH, aI, aJ, aK, aL, aM, aN, aO, aD, aZ, bA⟩ := at_T70 cV.out aA cJ cK
        have bB := aD
        have bJ := aO
        have bK := aN
        have bL := aM
        have bM := aL
        have bN := aK
        have bO := aJ
        have bP := aI
        have bQ := aH
        have bR := aG
        have bS := aF
        cases cN
        replace aF := CX HB.out aF
        replace aG := CX HB.out aG
        replace aH := CX HB.out aH
        replace aI := CX HB.out aI
        replace aJ := CX HB.out aJ
        replace aK := CX HB.out aK
        replace aL := CX HB.out aL
        replace aM := CX HB.out aM
        replace aN := CX HB.out aN
        replace aO := CX HB.out aO
        replace aD := CX HB.out aD
        have bC := Aside0.mk bA
        have cG := Aside0.mk aZ
        clear bA aZ
        replace cJ := eq_true cJ
        replace cK := eq_true cK
        have cL : 0 ≤ (aA : Int) := OD
        have cM : aA < (l1.length : Int) := OD
        obtain ⟨aC, bT, bU, cO, aP, aQ, aR, aS, aT, aU, aV, aW, aX, aY, aE, bD, bE⟩ := at_T70 cW.out aA cL cM
        have bF := aE
        have bV := aY
        have bW := aX
        have bX := aW
        have bY := aV
        have bZ := aU
        have cA := aT
        have cB := aS
        have cC := aR
        have cD := aQ
        have cE := aP
        cases cO
        replace aP := CX HB.out aP
        replace aQ := CX HB.out aQ
        replace aR := CX HB.out aR
        replace aS := CX HB.out aS
        replace aT := CX HB.out aT
        replace aU := CX HB.out aU
        replace aV := CX HB.out aV
        replace aW := CX HB.out aW
        replace aX := CX HB.out aX
        replace aY := CX HB.out aY
        replace aE := CX HB.out aE
        have bG := Aside0.mk bE
        have cH := Aside0.mk bD
        clear bE bD
        replace cL := eq_true cL
        replace cM := eq_true cM
        refine start_ (n := 10) (S := fun w' => w'.cell? (aB.add ((aA).toNat * 11)) = some (.int .i64 ((rd_T70 l0 aA).f0)) ∧ w'.cell? ⟨(aB.add ((aA).toNat * 11)).block, (aB.add ((aA).toNat * 11)).off + 1, none⟩ = some (.int .i64 ((rd_T70 l0 aA).f1)) ∧ w'.cell? ⟨(aB.add ((aA).toNat * 11)).block, (aB.add ((aA).toNat * 11)).off + 2, none⟩ = some (.string ((rd_T70 l0 aA).f2)) ∧ w'.cell? ⟨(aB.add ((aA).toNat * 11)).block, (aB.add ((aA).toNat * 11)).off + 3, none⟩ = some (.string ((rd_T70 l0 aA).f3)) ∧ w'.cell? ⟨(aB.add ((aA).toNat * 11)).block, (aB.add ((aA).toNat * 11)).off + 4, none⟩ = some (.int .i64 ((rd_T70 l0 aA).f4)) ∧ w'.cell? ⟨(aB.add ((aA).toNat * 11)).block, (aB.add ((aA).toNat * 11)).off + 5, none⟩ = some (.int .i64 ((rd_T70 l0 aA).f5)) ∧ w'.cell? ⟨(aB.add ((aA).toNat * 11)).block, (aB.add ((aA).toNat * 11)).off + 6, none⟩ = some (.int .i64 ((rd_T70 l0 aA).f6)) ∧ w'.cell? ⟨(aB.add ((aA).toNat * 11)).block, (aB.add ((aA).toNat * 11)).off + 7, none⟩ = some (.int .i64 ((rd_T70 l0 aA).f7)) ∧ w'.cell? ⟨(aB.add ((aA).toNat * 11)).block, (aB.add ((aA).toNat * 11)).off + 8, none⟩ = some (.int .i64 ((rd_T70 l0 aA).f8)) ∧ w'.cell? ⟨(aB.add ((aA).toNat * 11)).block, (aB.add ((aA).toNat * 11)).off + 9, none⟩ = some (.int .i64 ((rd_T70 l0 aA).f9.f0)) ∧ w'.cell? ⟨(aB.add ((aA).toNat * 11)).block, (aB.add ((aA).toNat * 11)).off + 10, none⟩ = some (.slice bH ((rd_T70 l0 aA).f9.f1).length bI) ∧ w'.cell? (aC.add ((aA).toNat * 11)) = some (.int .i64 ((rd_T70 l1 aA).f0)) ∧ w'.cell? ⟨(aC.add ((aA).toNat * 11)).block, (aC.add ((aA).toNat * 11)).off + 1, none⟩ = some (.int .i64 ((rd_T70 l1 aA).f1)) ∧ w'.cell? ⟨(aC.add ((aA).toNat * 11)).block, (aC.add ((aA).toNat * 11)).off + 2, none⟩ = some (.string ((rd_T70 l1 aA).f2)) ∧ w'.cell? ⟨(aC.add ((aA).toNat * 11)).block, (aC.add ((aA).toNat * 11)).off + 3, none⟩ = some (.string ((rd_T70 l1 aA).f3)) ∧ w'.cell? ⟨(aC.add ((aA).toNat * 11)).block, (aC.add ((aA).toNat * 11)).off + 4, none⟩ = some (.int .i64 ((rd_T70 l1 aA).f4)) ∧ w'.cell? ⟨(aC.add ((aA).toNat * 11)).block, (aC.add ((aA).toNat * 11)).off + 5, none⟩ = some (.int .i64 ((rd_T70 l1 aA).f5)) ∧ w'.cell? ⟨(aC.add ((aA).toNat * 11)).block, (aC.add ((aA).toNat * 11)).off + 6, none⟩ = some (.int .i64 ((rd_T70 l1 aA).f6)) ∧ w'.cell? ⟨(aC.add ((aA).toNat * 11)).block, (aC.add ((aA).toNat * 11)).off + 7, none⟩ = some (.int .i64 ((rd_T70 l1 aA).f7)) ∧ w'.cell? ⟨(aC.add ((aA).toNat * 11)).block, (aC.add ((aA).toNat * 11)).off + 8, none⟩ = some (.int .i64 ((rd_T70 l1 aA).f8)) ∧ w'.cell? ⟨(aC.add ((aA).toNat * 11)).block, (aC.add ((aA).toNat * 11)).off + 9, none⟩ = some (.int .i64 ((rd_T70 l1 aA).f9.f0)) ∧ w'.cell? ⟨(aC.add ((aA).toNat * 11)).block, (aC.add ((aA).toNat * 11)).off + 10, none⟩ = some (.slice bT ((rd_T70 l1 aA).f9.f1).length bU)) (ds := []) (tf 0 10) (by kernel_rfl) rfl rfl ⟨(CY HB.out bS), (CY HB.out bR), (CY HB.out bQ), (CY HB.out bP), (CY HB.out bO), (CY HB.out bN), (CY HB.out bM), (CY HB.out bL), (CY HB.out bK), (CY HB.out bJ), (CY HB.out bB), (CY HB.out cE), (CY HB.out cD), (CY HB.out cC), (CY HB.out cB), (CY HB.out cA), (CY HB.out bZ), (CY HB.out bY), (CY HB.out bX), (CY HB.out bW), (CY HB.out bV), (CY HB.out bF)⟩ (fun cF => ?_); refine with_tabW laws_eqSaS.tab6 laws_eqSaS.bits6 (fun cI cQ => ?_)
        generalize wr.drew = w9 at HB bC bG aF aG aD aH aI aJ aK aL aM aN aO aP aQ aE aR aS aT aU aV aW aX aY cF ⊢
        refine pv cI 0 17 (tf 1 9) ?_
        refine pv cI 1 18 (tf 2 8) ?_
        refine pv cI 2 19 (tf 3 7) ?_
        refine pv cI 4 21 (tr [3, 1, 1, 5]) ?_
        refine pv cI 5 22 (tr [3, 1, 2, 4]) ?_
        refine pv cI 6 23 (tr [3, 1, 3, 3]) ?_
        refine tk 3 (some 20) (tf 7 3) (take_ofW cI.out cQ.out (by kernel_rfl)) cF ?_
        refine tk 7 (some 24) (tf 8 2) (take_ofW cI.out cQ.out (by kernel_rfl)) cF ?_
        refine one_ (i := 8) (N := some 25) (tf 9 1) rfl rfl (one_of cI.out (by kernel_rfl)) (by decide) (fun K hK => ?_)
        refine goes_ Try.func34 (by kernel_rfl) rfl #[.agg #[.int .i64 ((rd_T70 l0 aA).f0), .int .i64 ((rd_T70 l0 aA).f1), .string ((rd_T70 l0 aA).f2), .string ((rd_T70 l0 aA).f3), .int .i64 ((rd_T70 l0 aA).f4), .int .i64 ((rd_T70 l0 aA).f5), .int .i64 ((rd_T70 l0 aA).f6), .int .i64 ((rd_T70 l0 aA).f7), .int .i64 ((rd_T70 l0 aA).f8), .int .i64 ((rd_T70 l0 aA).f9.f0), .slice bH ((rd_T70 l0 aA).f9.f1).length bI], .agg #[.int .i64 ((rd_T70 l1 aA).f0), .int .i64 ((rd_T70 l1 aA).f1), .string ((rd_T70 l1 aA).f2), .string ((rd_T70 l1 aA).f3), .int .i64 ((rd_T70 l1 aA).f4), .int .i64 ((rd_T70 l1 aA).f5), .int .i64 ((rd_T70 l1 aA).f6), .int .i64 ((rd_T70 l1 aA).f7), .int .i64 ((rd_T70 l1 aA).f8), .int .i64 ((rd_T70 l1 aA).f9.f0), .slice bT ((rd_T70 l1 aA).f9.f1).length bU]] (by rfl) rfl rfl MT ?_
        with_reducible refine (laws_eqSa.calls k1 ((rd_T70 l0 aA).f0) ((rd_T70 l0 aA).f1) ((rd_T70 l0 aA).f2) ((rd_T70 l0 aA).f3) ((rd_T70 l0 aA).f4) ((rd_T70 l0 aA).f5) ((rd_T70 l0 aA).f6) ((rd_T70 l0 aA).f7) ((rd_T70 l0 aA).f8) ((rd_T70 l0 aA).f9.f0) _ _ ((rd_T70 l0 aA).f9.f1) ((rd_T70 l1 aA).f0) ((rd_T70 l1 aA).f1) ((rd_T70 l1 aA).f2) ((rd_T70 l1 aA).f3) ((rd_T70 l1 aA).f4) ((rd_T70 l1 aA).f5) ((rd_T70 l1 aA).f6) ((rd_T70 l1 aA).f7) ((rd_T70 l1 aA).f8) ((rd_T70 l1 aA).f9.f0) _ _ ((rd_T70 l1 aA).f9.f1) true _ ?_ ?_ ?_ ?_ A7.out).mono ?_
        exact KD bC HB
        exact cG.out
        exact KD bG HB
        exact cH.out
        rintro e dB ⟨rfl, hb⟩
        refine ⟨_, rfl, ?_⟩
        replace HB := bl (KL HB) hb
        (try clear hb)
        (try clear hb2)
        (try clear hk)
        (try clear hi)
        refine hK.out _ _ ⟨(CY HB.out bS), (CY HB.out bR), (CY HB.out bQ), (CY HB.out bP), (CY HB.out bO), (CY HB.out bN), (CY HB.out bM), (CY HB.out bL), (CY HB.out bK), (CY HB.out bJ), (CY HB.out bB), (CY HB.out cE), (CY HB.out cD), (CY HB.out cC), (CY HB.out cB), (CY HB.out cA), (CY HB.out bZ), (CY HB.out bY), (CY HB.out bX), (CY HB.out bW), (CY HB.out bV), (CY HB.out bF)⟩ (fun cF => ?_)
        clear hK K
        refine nm (some 25) ?_
        refine pv cI 9 26 (tf 10 0) ?_
        refine done_ (done_of cI.out (by kernel_rfl)) ?_
        try go_wp2
        go_roundg k1
        case measure => have := HK1.out; omega
        case rel => exact ⟨(wrap64 (aA + 1)), (by first | rfl | (simp; done) | (simp [*]; done)), H', ⟨by have := HK1.out; omega⟩, ⟨KL HB⟩⟩
       ·replace c8 := Bool.eq_false_iff.mpr c8
        subst c8
        have H1 := nf H
        clear H
        have H := H1
        clear H1
        obtain rfl := sj H
        try go_wp2
        replace HB := am (below_drew1 HB.out)
        have cJ : 0 ≤ (aA : Int) := OD
        have cK : aA < (l0.length : Int) := OD
        obtain ⟨aB, bH, bI, cN, aF, aG, aH, aI, aJ, aK, aL, aM, aN, aO, aD, aZ, bA⟩ := at_T70 cV.out aA cJ cK
        have bB := aD
        have bJ := aO
        have bK := aN
        have bL := aM
        have bM := aL
        have bN := aK
        have bO := aJ
        have bP := aI
        have bQ := aH
        have bR := aG
        have bS := aF
        cases cN
        replace aF := CX HB.out aF
        replace aG := CX HB.out aG
        replace aH := CX HB.out aH
        replace aI := CX HB.out aI
        replace aJ := CX HB.out aJ
        replace aK := CX HB.out aK
        replace aL := CX HB.out aL
        replace aM := CX HB.out aM
        replace aN := CX HB.out aN
        replace aO := CX HB.out aO
        replace aD := CX HB.out aD
        have bC := Aside0.mk bA
        have cG := Aside0.mk aZ
        clear bA aZ
        replace cJ := eq_true cJ
        replace cK := eq_true cK
        have cL : 0 ≤ (aA : Int) := OD
        have cM : aA < (l1.length : Int) := OD
        obtain ⟨aC, bT, bU, cO, aP, aQ, aR, aS, aT, aU, aV, aW, aX, aY, aE, bD, bE⟩ := at_T70 cW.out aA cL cM
        have bF := aE
        have bV := aY
        have bW := aX
        have bX := aW
        have bY := aV
        have bZ := aU
        have cA := aT
        have cB := aS
        have cC := aR
        have cD := aQ
        have cE := aP
        cases cO
        replace aP := CX HB.out aP
        replace aQ := CX HB.out aQ
        replace aR := CX HB.out aR
        replace aS := CX HB.out aS
        replace aT := CX HB.out aT
        replace aU := CX HB.out aU
        replace aV := CX HB.out aV
        replace aW := CX HB.out aW
        replace aX := CX HB.out aX
        replace aY := CX HB.out aY
        replace aE := CX HB.out aE
        have bG := Aside0.mk bE
        have cH := Aside0.mk bD
        clear bE bD
        replace cL := eq_true cL
        replace cM := eq_true cM
        refine start_ (n := 10) (S := fun w' => w'.cell? (aB.add ((aA).toNat * 11)) = some (.int .i64 ((rd_T70 l0 aA).f0)) ∧ w'.cell? ⟨(aB.add ((aA).toNat * 11)).block, (aB.add ((aA).toNat * 11)).off + 1, none⟩ = some (.int .i64 ((rd_T70 l0 aA).f1)) ∧ w'.cell? ⟨(aB.add ((aA).toNat * 11)).block, (aB.add ((aA).toNat * 11)).off + 2, none⟩ = some (.string ((rd_T70 l0 aA).f2)) ∧ w'.cell? ⟨(aB.add ((aA).toNat * 11)).block, (aB.add ((aA).toNat * 11)).off + 3, none⟩ = some (.string ((rd_T70 l0 aA).f3)) ∧ w'.cell? ⟨(aB.add ((aA).toNat * 11)).block, (aB.add ((aA).toNat * 11)).off + 4, none⟩ = some (.int .i64 ((rd_T70 l0 aA).f4)) ∧ w'.cell? ⟨(aB.add ((aA).toNat * 11)).block, (aB.add ((aA).toNat * 11)).off + 5, none⟩ = some (.int .i64 ((rd_T70 l0 aA).f5)) ∧ w'.cell? ⟨(aB.add ((aA).toNat * 11)).block, (aB.add ((aA).toNat * 11)).off + 6, none⟩ = some (.int .i64 ((rd_T70 l0 aA).f6)) ∧ w'.cell? ⟨(aB.add ((aA).toNat * 11)).block, (aB.add ((aA).toNat * 11)).off + 7, none⟩ = some (.int .i64 ((rd_T70 l0 aA).f7)) ∧ w'.cell? ⟨(aB.add ((aA).toNat * 11)).block, (aB.add ((aA).toNat * 11)).off + 8, none⟩ = some (.int .i64 ((rd_T70 l0 aA).f8)) ∧ w'.cell? ⟨(aB.add ((aA).toNat * 11)).block, (aB.add ((aA).toNat * 11)).off + 9, none⟩ = some (.int .i64 ((rd_T70 l0 aA).f9.f0)) ∧ w'.cell? ⟨(aB.add ((aA).toNat * 11)).block, (aB.add ((aA).toNat * 11)).off + 10, none⟩ = some (.slice bH ((rd_T70 l0 aA).f9.f1).length bI) ∧ w'.cell? (aC.add ((aA).toNat * 11)) = some (.int .i64 ((rd_T70 l1 aA).f0)) ∧ w'.cell? ⟨(aC.add ((aA).toNat * 11)).block, (aC.add ((aA).toNat * 11)).off + 1, none⟩ = some (.int .i64 ((rd_T70 l1 aA).f1)) ∧ w'.cell? ⟨(aC.add ((aA).toNat * 11)).block, (aC.add ((aA).toNat * 11)).off + 2, none⟩ = some (.string ((rd_T70 l1 aA).f2)) ∧ w'.cell? ⟨(aC.add ((aA).toNat * 11)).block, (aC.add ((aA).toNat * 11)).off + 3, none⟩ = some (.string ((rd_T70 l1 aA).f3)) ∧ w'.cell? ⟨(aC.add ((aA).toNat * 11)).block, (aC.add ((aA).toNat * 11)).off + 4, none⟩ = some (.int .i64 ((rd_T70 l1 aA).f4)) ∧ w'.cell? ⟨(aC.add ((aA).toNat * 11)).block, (aC.add ((aA).toNat * 11)).off + 5, none⟩ = some (.int .i64 ((rd_T70 l1 aA).f5)) ∧ w'.cell? ⟨(aC.add ((aA).toNat * 11)).block, (aC.add ((aA).toNat * 11)).off + 6, none⟩ = some (.int .i64 ((rd_T70 l1 aA).f6)) ∧ w'.cell? ⟨(aC.add ((aA).toNat * 11)).block, (aC.add ((aA).toNat * 11)).off + 7, none⟩ = some (.int .i64 ((rd_T70 l1 aA).f7)) ∧ w'.cell? ⟨(aC.add ((aA).toNat * 11)).block, (aC.add ((aA).toNat * 11)).off + 8, none⟩ = some (.int .i64 ((rd_T70 l1 aA).f8)) ∧ w'.cell? ⟨(aC.add ((aA).toNat * 11)).block, (aC.add ((aA).toNat * 11)).off + 9, none⟩ = some (.int .i64 ((rd_T70 l1 aA).f9.f0)) ∧ w'.cell? ⟨(aC.add ((aA).toNat * 11)).block, (aC.add ((aA).toNat * 11)).off + 10, none⟩ = some (.slice bT ((rd_T70 l1 aA).f9.f1).length bU)) (ds := []) (tf 0 10) (by kernel_rfl) rfl rfl ⟨(CY HB.out bS), (CY HB.out bR), (CY HB.out bQ), (CY HB.out bP), (CY HB.out bO), (CY HB.out bN), (CY HB.out bM), (CY HB.out bL), (CY HB.out bK), (CY HB.out bJ), (CY HB.out bB), (CY HB.out cE), (CY HB.out cD), (CY HB.out cC), (CY HB.out cB), (CY HB.out cA), (CY HB.out bZ), (CY HB.out bY), (CY HB.out bX), (CY HB.out bW), (CY HB.out bV), (CY HB.out bF)⟩ (fun cF => ?_); refine with_tabW laws_eqSaS.tab6 laws_eqSaS.bits6 (fun cI cQ => ?_)
        generalize wr.drew = dC at HB bC bG aF aG aD aH aI aJ aK aL aM aN aO aP aQ aE aR aS aT aU aV aW aX aY cF ⊢
        refine pv cI 0 17 (tf 1 9) ?_
        refine pv cI 1 18 (tf 2 8) ?_
        refine pv cI 2 19 (tf 3 7) ?_
        refine pv cI 4 21 (tr [3, 1, 1, 5]) ?_
        refine pv cI 5 22 (tr [3, 1, 2, 4]) ?_
        refine pv cI 6 23 (tr [3, 1, 3, 3]) ?_
        refine tk 3 (some 20) (tf 7 3) (take_ofW cI.out cQ.out (by kernel_rfl)) cF ?_
        refine tk 7 (some 24) (tf 8 2) (take_ofW cI.out cQ.out (by kernel_rfl)) cF ?_
        refine one_ (i := 8) (N := some 25) (tf 9 1) rfl rfl (one_of cI.out (by kernel_rfl)) (by decide) (fun K hK => ?_)
        refine goes_ Try.func34 (by kernel_rfl) rfl #[.agg #[.int .i64 ((rd_T70 l0 aA).f0), .int .i64 ((rd_T70 l0 aA).f1), .string ((rd_T70 l0 aA).f2), .string ((rd_T70 l0 aA).f3), .int .i64 ((rd_T70 l0 aA).f4), .int .i64 ((rd_T70 l0 aA).f5), .int .i64 ((rd_T70 l0 aA).f6), .int .i64 ((rd_T70 l0 aA).f7), .int .i64 ((rd_T70 l0 aA).f8), .int .i64 ((rd_T70 l0 aA).f9.f0), .slice bH ((rd_T70 l0 aA).f9.f1).length bI], .agg #[.int .i64 ((rd_T70 l1 aA).f0), .int .i64 ((rd_T70 l1 aA).f1), .string ((rd_T70 l1 aA).f2), .string ((rd_T70 l1 aA).f3), .int .i64 ((rd_T70 l1 aA).f4), .int .i64 ((rd_T70 l1 aA).f5), .int .i64 ((rd_T70 l1 aA).f6), .int .i64 ((rd_T70 l1 aA).f7), .int .i64 ((rd_T70 l1 aA).f8), .int .i64 ((rd_T70 l1 aA).f9.f0), .slice bT ((rd_T70 l1 aA).f9.f1).length bU]] (by rfl) rfl rfl MT ?_
        with_reducible refine (laws_eqSa.calls k1 ((rd_T70 l0 aA).f0) ((rd_T70 l0 aA).f1) ((rd_T70 l0 aA).f2) ((rd_T70 l0 aA).f3) ((rd_T70 l0 aA).f4) ((rd_T70 l0 aA).f5) ((rd_T70 l0 aA).f6) ((rd_T70 l0 aA).f7) ((rd_T70 l0 aA).f8) ((rd_T70 l0 aA).f9.f0) _ _ ((rd_T70 l0 aA).f9.f1) ((rd_T70 l1 aA).f0) ((rd_T70 l1 aA).f1) ((rd_T70 l1 aA).f2) ((rd_T70 l1 aA).f3) ((rd_T70 l1 aA).f4) ((rd_T70 l1 aA).f5) ((rd_T70 l1 aA).f6) ((rd_T70 l1 aA).f7) ((rd_T70 l1 aA).f8) ((rd_T70 l1 aA).f9.f0) _ _ ((rd_T70 l1 aA).f9.f1) false _ ?_ ?_ ?_ ?_ A7.out).mono ?_
        exact KD bC HB
        exact cG.out
        exact KD bG HB
        exact cH.out
        rintro e dD ⟨rfl, hb⟩
        refine ⟨_, rfl, ?_⟩
        replace HB := bl (KL HB) hb
        (try clear hb)
        (try clear hb2)
        (try clear hk)
        (try clear hi)
        refine hK.out _ _ ⟨(CY HB.out bS), (CY HB.out bR), (CY HB.out bQ), (CY HB.out bP), (CY HB.out bO), (CY HB.out bN), (CY HB.out bM), (CY HB.out bL), (CY HB.out bK), (CY HB.out bJ), (CY HB.out bB), (CY HB.out cE), (CY HB.out cD), (CY HB.out cC), (CY HB.out cB), (CY HB.out cA), (CY HB.out bZ), (CY HB.out bY), (CY HB.out bX), (CY HB.out bW), (CY HB.out bV), (CY HB.out bF)⟩ (fun cF => ?_)
        clear hK K
        refine nm (some 25) ?_
        refine pv cI 9 26 (tf 10 0) ?_
        refine done_ (done_of cI.out (by kernel_rfl)) ?_
        try go_wp2
        go_ret
        exact ⟨ER, KL HB⟩
      ·rw [if_neg c6] at H
       exact absurd H (by simp)
     ·rw [if_neg c5] at H
      exact absurd H (by simp)
    ·rw [if_neg c4] at H
     have c4b0 : decide (aA < (l0.length : Int)) = false := decide_eq_false c4
     clear c4
     obtain rfl := sj H
     go_wp2
     go_ret
     exact ⟨ER, KL HB⟩
 ·rw [if_neg c3] at H
  have c3b0 : ((l0.length : Int) == (l1.length : Int)) = false := beq_eq_false_iff_ne.mpr c3
  have c3b1 : ((l0.length : Int) != (l1.length : Int)) = true := bne_iff_ne.mpr c3
  have c3b2 : (l0.length == l1.length) = false := by first | simpa using c3 | (simp at c3 ⊢; omega)
  obtain rfl := sj H
  go_enter Try.func22, Try.ntmps22
  go_wp2
  go_ret
  exact ⟨ER, KL HB⟩
def laws_eqGate.f (k : Nat) (a0_0 : Int) (l0_1 : List (S63)) (a0_2 : Int) (l0_3 : List (S80)) (l0_4 : List (S70)) (l0_5 : List (S70)) (a1_0 : Int) (l1_1 : List (S63)) (a1_2 : Int) (l1_3 : List (S80)) (l1_4 : List (S70)) (l1_5 : List (S70)) : Option (Bool) := if a0_0 = a1_0 then ((laws_eqRuleS.f k l0_1 l1_1).bind fun t103 => (if t103 = true then ((laws_eqCache.f k a0_2 l0_3 a1_2 l1_3).bind fun t104 => (if t104 = true then ((laws_eqSaS.f k l0_4 l1_4).bind fun t105 => (if t105 = true then ((laws_eqSaS.f k l0_5 l1_5).bind fun t106 => (if t106 = true then (some true) else (some false))) else (some false))) else (some false))) else (some false))) else (some false)
theorem laws_eqGate.calls (k : Nat) (aT : Int) (aV : Option Addr) (aW : Nat) (aH : List (S63)) (aP : Int) (aZ : Option Addr) (bA : Nat) (aJ : List (S80)) (bD : Option Addr) (bE : Nat) (aL : List (S70)) (bH : Option Addr) (bI : Nat) (aN : List (S70)) (aU : Int) (aX : Option Addr) (aY : Nat) (aI : List (S63)) (aQ : Int) (bB : Option Addr) (bC : Nat) (aK : List (S80)) (bF : Option Addr) (bG : Nat) (aM : List (S70)) (bJ : Option Addr) (bK : Nat) (aO : List (S70)) (r : Bool) (w : World) (cD : Kd.C k63 w aV aH.length aH) (cE : aH.length ≤ aW) (cF : Kd.C k80 w aZ aJ.length aJ) (cG : aJ.length ≤ bA) (cH : Kd.C k70 w bD aL.length aL) (cI : aL.length ≤ bE) (cJ : Kd.C k70 w bH aN.length aN) (cK : aN.length ≤ bI) (cL : Kd.C k63 w aX aI.length aI) (cM : aI.length ≤ aY) (cN : Kd.C k80 w bB aK.length aK) (cO : aK.length ≤ bC) (cP : Kd.C k70 w bF aM.length aM) (cQ : aM.length ≤ bG) (cR : Kd.C k70 w bJ aO.length aO) (cS : aO.length ≤ bK) (h : laws_eqGate.f k aT aH aP aJ aL aN aU aI aQ aK aM aO = some r) :
  Calls Try.prog 11 #[.agg #[.int .i64 aT, .slice aV aH.length aW, .int .i64 aP, .slice aZ aJ.length bA, .slice bD aL.length bE, .slice bH aN.length bI], .agg #[.int .i64 aU, .slice aX aI.length aY, .int .i64 aQ, .slice bB aK.length bC, .slice bF aM.length bG, .slice bJ aO.length bK]] w fun e w' => e = .returned (.bool r) ∧ Below w.heap.size w w' := by
 have mG := Try.underlying28
 have mH := Try.underlying25
 have bM := Aside0.mk cD
 have bN := Aside0.mk cE
 clear cD cE
 have bT := Aside0.mk cF
 have bU := Aside0.mk cG
 clear cF cG
 have bY := Aside0.mk cH
 have bZ := Aside0.mk cI
 clear cH cI
 have cT := Aside0.mk cJ
 have cU := Aside0.mk cK
 clear cJ cK
 have bO := Aside0.mk cL
 have bP := Aside0.mk cM
 clear cL cM
 have bV := Aside0.mk cN
 have bW := Aside0.mk cO
 clear cN cO
 have cA := Aside0.mk cP
 have cB := Aside0.mk cQ
 clear cP cQ
 have cV := Aside0.mk cR
 have cW := Aside0.mk cS
 clear cR cS
 have HB := am (Below.refl w.heap.size w)
 have H : (if aT = aU then ((laws_eqRuleS.f k aH aI).bind fun cC => (if cC = true then ((laws_eqCache.f k aP aJ aQ aK).bind fun bX => (if bX = true then ((laws_eqSaS.f k aL aM).bind fun bQ => (if bQ = true then ((laws_eqSaS.f k aN aO).bind fun bL => (if bL = true then (some true) else (some false))) else (some false))) else (some false))) else (some false))) else (some false)) = some r := h
 clear h
 by_cases c3 : aT = aU
 ·rw [if_pos c3] at H
  have c3b0 : (aT == aU) = true := beq_iff_eq.mpr c3
  have c3b1 : (aT != aU) = false := bne_eq_false_iff_eq.mpr c3
  clear c3
  replace H := bm H
  obtain ⟨cC, lB, H⟩ := H
  replace H : (if cC = true then ((laws_eqCache.f k aP aJ aQ aK).bind fun bX => (if bX = true then ((laws_eqSaS.f k aL aM).bind fun bQ => (if bQ = true then ((laws_eqSaS.f k aN aO).bind fun bL => (if bL = true then (some true) else (some false))) else (some false))) else (some false))) else (some false)) = some r := H
  have A4 := Aside0.mk lB
  clear lB
  by_cases c5 : cC = true
  ·subst c5
   have H1 := pf H
   clear H
   have H := H1
   clear H1
   replace H := bm H
   obtain ⟨bX, lC, H⟩ := H
   replace H : (if bX = true then ((laws_eqSaS.f k aL aM).bind fun bQ => (if bQ = true then ((laws_eqSaS.f k aN aO).bind fun bL => (if bL = true then (some true) else (some false))) else (some false))) else (some false)) = some r := H
   have A6 := Aside0.mk lC
   clear lC
   by_cases c7 : bX = true
   ·subst c7
    have H1 := pf H
    clear H
    have H := H1
    clear H1
    replace H := bm H
    obtain ⟨bQ, lD, H⟩ := H
    replace H : (if bQ = true then ((laws_eqSaS.f k aN aO).bind fun bL => (if bL = true then (some true) else (some false))) else (some false)) = some r := H
    have A8 := Aside0.mk lD
    clear lD
    by_cases c9 : bQ = true
    ·subst c9
     have H1 := pf H
     clear H
     have H := H1
     clear H1
     replace H := bm H
     obtain ⟨bL, cX, H⟩ := H
     replace H : (if bL = true then (some true) else (some false)) = some r := H
     have lE := Aside0.mk cX
     clear cX
     by_cases cY : bL = true
     ·subst cY
      have H1 := pf H
      clear H
      have H := H1
      clear H1
      obtain rfl := sj H
      go_enter Try.func11, Try.ntmps11
      go_wp2_with (first | ((with_reducible refine gate_dst (N := 2) rfl ?_); refine box_event rfl (N := 2) rfl (cs := #[.int .i64 aT, .slice aV aH.length aW, .int .i64 aP, .slice aZ aJ.length bA, .slice bD aL.length bE, .slice bH aN.length bI]) (t := 28) BX ?_; intro bR hg mI aG hb; have aA := am (aG); have aR := am (GH HB hg); have aC := aR; replace HB := bl (KL HB) hb; clear hb aG hg) | ((with_reducible refine gate_dst (N := 3) rfl ?_); refine box_event rfl (N := 3) rfl (cs := #[.int .i64 aU, .slice aX aI.length aY, .int .i64 aQ, .slice bB aK.length bC, .slice bF aM.length bG, .slice bJ aO.length bK]) (t := 28) BX ?_; intro bS hg lF aG hb; have aB := am (aG); have aS := am (GH1 HB aC.out hg); have aF := aS; replace HB := bl (K1 HB aC.out) hb; have aD := am (NL aA hg); have aE := am (NG aA hg); replace aA := am (BB aA hb); clear hb aG hg; have lG := aD.out; have lH := aE.out; have ⟨_, _, _, _, _, _, _⟩ := y6 lF aA.out; have ⟨_, _, _, _, _, _, _⟩ := y6 lF aB.out) | ((with_reducible refine gate_callee (f := 20) rfl ?_); refine goesL_ (some 14) rfl rfl Try.func20 (by kernel_rfl) rfl #[.slice aV aH.length aW, .slice aX aI.length aY] rfl MT ?_; (with_reducible refine (laws_eqRuleS.calls k _ _ aH _ _ aI true _ ?_ ?_ ?_ ?_ A4.out).mono ?_); exact KD bM HB; exact bN.out; exact KD bO HB; exact bP.out; rintro e lI ⟨rfl, hb⟩; refine ⟨_, rfl, ?_⟩; replace aA := am (BB aA hb); replace aB := am (BB aB hb); replace HB := bl (K2 HB aC.out aF.out) hb; (try clear hb); have ⟨_, _, _, _, _, _, _⟩ := y6 lI aA.out; have ⟨_, _, _, _, _, _, _⟩ := y6 lI aB.out) | ((with_reducible refine gate_callee (f := 21) rfl ?_); refine goesL_ (some 20) rfl rfl Try.func21 (by kernel_rfl) rfl #[.agg #[.int .i64 aP, .slice aZ aJ.length bA], .agg #[.int .i64 aQ, .slice bB aK.length bC]] rfl MT ?_; (with_reducible refine (laws_eqCache.calls k aP _ _ aJ aQ _ _ aK true _ ?_ ?_ ?_ ?_ A6.out).mono ?_); exact KD bT HB; exact bU.out; exact KD bV HB; exact bW.out; rintro e lJ ⟨rfl, hb⟩; refine ⟨_, rfl, ?_⟩; replace aA := am (BB aA hb); replace aB := am (BB aB hb); replace HB := bl (K2 HB aC.out aF.out) hb; (try clear hb); have ⟨_, _, _, _, _, _, _⟩ := y6 lJ aA.out; have ⟨_, _, _, _, _, _, _⟩ := y6 lJ aB.out) | ((with_reducible refine gate_callee (f := 22) rfl ?_); refine goesL_ (some 26) rfl rfl Try.func22 (by kernel_rfl) rfl #[.slice bD aL.length bE, .slice bF aM.length bG] rfl MT ?_; (with_reducible refine (laws_eqSaS.calls k _ _ aL _ _ aM true _ ?_ ?_ ?_ ?_ A8.out).mono ?_); exact KD bY HB; exact bZ.out; exact KD cA HB; exact cB.out; rintro e lK ⟨rfl, hb⟩; refine ⟨_, rfl, ?_⟩; replace aA := am (BB aA hb); replace aB := am (BB aB hb); replace HB := bl (K2 HB aC.out aF.out) hb; (try clear hb); have ⟨_, _, _, _, _, _, _⟩ := y6 lK aA.out; have ⟨_, _, _, _, _, _, _⟩ := y6 lK aB.out) | ((with_reducible refine gate_callee (f := 22) rfl ?_); refine goesL_ (some 32) rfl rfl Try.func22 (by kernel_rfl) rfl #[.slice bH aN.length bI, .slice bJ aO.length bK] rfl MT ?_; (with_reducible refine (laws_eqSaS.calls k _ _ aN _ _ aO true _ ?_ ?_ ?_ ?_ lE.out).mono ?_); exact KD cT HB; exact cU.out; exact KD cV HB; exact cW.out; rintro e mJ ⟨rfl, hb⟩; refine ⟨_, rfl, ?_⟩; replace aA := am (BB aA hb); replace aB := am (BB aB hb); replace HB := bl (K2 HB aC.out aF.out) hb; (try clear hb)))
      go_ret
      exact ⟨ER, K2 HB aC.out aF.out⟩
     ·replace cY := Bool.eq_false_iff.mpr cY
      subst cY
      have H1 := nf H
      clear H
      have H := H1
      clear H1
      obtain rfl := sj H
      go_enter Try.func11, Try.ntmps11
      go_wp2_with (first | ((with_reducible refine gate_dst (N := 2) rfl ?_); refine box_event rfl (N := 2) rfl (cs := #[.int .i64 aT, .slice aV aH.length aW, .int .i64 aP, .slice aZ aJ.length bA, .slice bD aL.length bE, .slice bH aN.length bI]) (t := 28) BX ?_; intro bR hg mK aG hb; have aA := am (aG); have aR := am (GH HB hg); have aC := aR; replace HB := bl (KL HB) hb; clear hb aG hg) | ((with_reducible refine gate_dst (N := 3) rfl ?_); refine box_event rfl (N := 3) rfl (cs := #[.int .i64 aU, .slice aX aI.length aY, .int .i64 aQ, .slice bB aK.length bC, .slice bF aM.length bG, .slice bJ aO.length bK]) (t := 28) BX ?_; intro bS hg lL aG hb; have aB := am (aG); have aS := am (GH1 HB aC.out hg); have aF := aS; replace HB := bl (K1 HB aC.out) hb; have aD := am (NL aA hg); have aE := am (NG aA hg); replace aA := am (BB aA hb); clear hb aG hg; have lM := aD.out; have lN := aE.out; have ⟨_, _, _, _, _, _, _⟩ := y6 lL aA.out; have ⟨_, _, _, _, _, _, _⟩ := y6 lL aB.out) | ((with_reducible refine gate_callee (f := 20) rfl ?_); refine goesL_ (some 14) rfl rfl Try.func20 (by kernel_rfl) rfl #[.slice aV aH.length aW, .slice aX aI.length aY] rfl MT ?_; (with_reducible refine (laws_eqRuleS.calls k _ _ aH _ _ aI true _ ?_ ?_ ?_ ?_ A4.out).mono ?_); exact KD bM HB; exact bN.out; exact KD bO HB; exact bP.out; rintro e lO ⟨rfl, hb⟩; refine ⟨_, rfl, ?_⟩; replace aA := am (BB aA hb); replace aB := am (BB aB hb); replace HB := bl (K2 HB aC.out aF.out) hb; (try clear hb); have ⟨_, _, _, _, _, _, _⟩ := y6 lO aA.out; have ⟨_, _, _, _, _, _, _⟩ := y6 lO aB.out) | ((with_reducible refine gate_callee (f := 21) rfl ?_); refine goesL_ (some 20) rfl rfl Try.func21 (by kernel_rfl) rfl #[.agg #[.int .i64 aP, .slice aZ aJ.length bA], .agg #[.int .i64 aQ, .slice bB aK.length bC]] rfl MT ?_; (with_reducible refine (laws_eqCache.calls k aP _ _ aJ aQ _ _ aK true _ ?_ ?_ ?_ ?_ A6.out).mono ?_); exact KD bT HB; exact bU.out; exact KD bV HB; exact bW.out; rintro e lP ⟨rfl, hb⟩; refine ⟨_, rfl, ?_⟩; replace aA := am (BB aA hb); replace aB := am (BB aB hb); replace HB := bl (K2 HB aC.out aF.out) hb; (try clear hb); have ⟨_, _, _, _, _, _, _⟩ := y6 lP aA.out; have ⟨_, _, _, _, _, _, _⟩ := y6 lP aB.out) | ((with_reducible refine gate_callee (f := 22) rfl ?_); refine goesL_ (some 26) rfl rfl Try.func22 (by kernel_rfl) rfl #[.slice bD aL.length bE, .slice bF aM.length bG] rfl MT ?_; (with_reducible refine (laws_eqSaS.calls k _ _ aL _ _ aM true _ ?_ ?_ ?_ ?_ A8.out).mono ?_); exact KD bY HB; exact bZ.out; exact KD cA HB; exact cB.out; rintro e lQ ⟨rfl, hb⟩; refine ⟨_, rfl, ?_⟩; replace aA := am (BB aA hb); replace aB := am (BB aB hb); replace HB := bl (K2 HB aC.out aF.out) hb; (try clear hb); have ⟨_, _, _, _, _, _, _⟩ := y6 lQ aA.out; have ⟨_, _, _, _, _, _, _⟩ := y6 lQ aB.out) | ((with_reducible refine gate_callee (f := 22) rfl ?_); refine goesL_ (some 32) rfl rfl Try.func22 (by kernel_rfl) rfl #[.slice bH aN.length bI, .slice bJ aO.length bK] rfl MT ?_; (with_reducible refine (laws_eqSaS.calls k _ _ aN _ _ aO false _ ?_ ?_ ?_ ?_ lE.out).mono ?_); exact KD cT HB; exact cU.out; exact KD cV HB; exact cW.out; rintro e mL ⟨rfl, hb⟩; refine ⟨_, rfl, ?_⟩; replace aA := am (BB aA hb); replace aB := am (BB aB hb); replace HB := bl (K2 HB aC.out aF.out) hb; (try clear hb)))
      go_ret
      exact ⟨ER, K2 HB aC.out aF.out⟩
    ·replace c9 := Bool.eq_false_iff.mpr c9
     subst c9
     have H1 := nf H
     clear H
     have H := H1
     clear H1
     obtain rfl := sj H
     go_enter Try.func11, Try.ntmps11
     go_wp2_with (first | ((with_reducible refine gate_dst (N := 2) rfl ?_); refine box_event rfl (N := 2) rfl (cs := #[.int .i64 aT, .slice aV aH.length aW, .int .i64 aP, .slice aZ aJ.length bA, .slice bD aL.length bE, .slice bH aN.length bI]) (t := 28) BX ?_; intro bR hg mM aG hb; have aA := am (aG); have aR := am (GH HB hg); have aC := aR; replace HB := bl (KL HB) hb; clear hb aG hg) | ((with_reducible refine gate_dst (N := 3) rfl ?_); refine box_event rfl (N := 3) rfl (cs := #[.int .i64 aU, .slice aX aI.length aY, .int .i64 aQ, .slice bB aK.length bC, .slice bF aM.length bG, .slice bJ aO.length bK]) (t := 28) BX ?_; intro bS hg lR aG hb; have aB := am (aG); have aS := am (GH1 HB aC.out hg); have aF := aS; replace HB := bl (K1 HB aC.out) hb; have aD := am (NL aA hg); have aE := am (NG aA hg); replace aA := am (BB aA hb); clear hb aG hg; have lS := aD.out; have lT := aE.out; have ⟨_, _, _, _, _, _, _⟩ := y6 lR aA.out; have ⟨_, _, _, _, _, _, _⟩ := y6 lR aB.out) | ((with_reducible refine gate_callee (f := 20) rfl ?_); refine goesL_ (some 14) rfl rfl Try.func20 (by kernel_rfl) rfl #[.slice aV aH.length aW, .slice aX aI.length aY] rfl MT ?_; (with_reducible refine (laws_eqRuleS.calls k _ _ aH _ _ aI true _ ?_ ?_ ?_ ?_ A4.out).mono ?_); exact KD bM HB; exact bN.out; exact KD bO HB; exact bP.out; rintro e lU ⟨rfl, hb⟩; refine ⟨_, rfl, ?_⟩; replace aA := am (BB aA hb); replace aB := am (BB aB hb); replace HB := bl (K2 HB aC.out aF.out) hb; (try clear hb); have ⟨_, _, _, _, _, _, _⟩ := y6 lU aA.out; have ⟨_, _, _, _, _, _, _⟩ := y6 lU aB.out) | ((with_reducible refine gate_callee (f := 21) rfl ?_); refine goesL_ (some 20) rfl rfl Try.func21 (by kernel_rfl) rfl #[.agg #[.int .i64 aP, .slice aZ aJ.length bA], .agg #[.int .i64 aQ, .slice bB aK.length bC]] rfl MT ?_; (with_reducible refine (laws_eqCache.calls k aP _ _ aJ aQ _ _ aK true _ ?_ ?_ ?_ ?_ A6.out).mono ?_); exact KD bT HB; exact bU.out; exact KD bV HB; exact bW.out; rintro e lV ⟨rfl, hb⟩; refine ⟨_, rfl, ?_⟩; replace aA := am (BB aA hb); replace aB := am (BB aB hb); replace HB := bl (K2 HB aC.out aF.out) hb; (try clear hb); have ⟨_, _, _, _, _, _, _⟩ := y6 lV aA.out; have ⟨_, _, _, _, _, _, _⟩ := y6 lV aB.out) | ((with_reducible refine gate_callee (f := 22) rfl ?_); refine goesL_ (some 26) rfl rfl Try.func22 (by kernel_rfl) rfl #[.slice bD aL.length bE, .slice bF aM.length bG] rfl MT ?_; (with_reducible refine (laws_eqSaS.calls k _ _ aL _ _ aM false _ ?_ ?_ ?_ ?_ A8.out).mono ?_); exact KD bY HB; exact bZ.out; exact KD cA HB; exact cB.out; rintro e mN ⟨rfl, hb⟩; refine ⟨_, rfl, ?_⟩; replace aA := am (BB aA hb); replace aB := am (BB aB hb); replace HB := bl (K2 HB aC.out aF.out) hb; (try clear hb)))
     go_ret
     exact ⟨ER, K2 HB aC.out aF.out⟩
   ·replace c7 := Bool.eq_false_iff.mpr c7
    subst c7
    have H1 := nf H
    clear H
    have H := H1
    clear H1
    obtain rfl := sj H
    go_enter Try.func11, Try.ntmps11
    go_wp2_with (first | ((with_reducible refine gate_dst (N := 2) rfl ?_); refine box_event rfl (N := 2) rfl (cs := #[.int .i64 aT, .slice aV aH.length aW, .int .i64 aP, .slice aZ aJ.length bA, .slice bD aL.length bE, .slice bH aN.length bI]) (t := 28) BX ?_; intro bR hg mO aG hb; have aA := am (aG); have aR := am (GH HB hg); have aC := aR; replace HB := bl (KL HB) hb; clear hb aG hg) | ((with_reducible refine gate_dst (N := 3) rfl ?_); refine box_event rfl (N := 3) rfl (cs := #[.int .i64 aU, .slice aX aI.length aY, .int .i64 aQ, .slice bB aK.length bC, .slice bF aM.length bG, .slice bJ aO.length bK]) (t := 28) BX ?_; intro bS hg lW aG hb; have aB := am (aG); have aS := am (GH1 HB aC.out hg); have aF := aS; replace HB := bl (K1 HB aC.out) hb; have aD := am (NL aA hg); have aE := am (NG aA hg); replace aA := am (BB aA hb); clear hb aG hg; have lX := aD.out; have lY := aE.out; have ⟨_, _, _, _, _, _, _⟩ := y6 lW aA.out; have ⟨_, _, _, _, _, _, _⟩ := y6 lW aB.out) | ((with_reducible refine gate_callee (f := 20) rfl ?_); refine goesL_ (some 14) rfl rfl Try.func20 (by kernel_rfl) rfl #[.slice aV aH.length aW, .slice aX aI.length aY] rfl MT ?_; (with_reducible refine (laws_eqRuleS.calls k _ _ aH _ _ aI true _ ?_ ?_ ?_ ?_ A4.out).mono ?_); exact KD bM HB; exact bN.out; exact KD bO HB; exact bP.out; rintro e lZ ⟨rfl, hb⟩; refine ⟨_, rfl, ?_⟩; replace aA := am (BB aA hb); replace aB := am (BB aB hb); replace HB := bl (K2 HB aC.out aF.out) hb; (try clear hb); have ⟨_, _, _, _, _, _, _⟩ := y6 lZ aA.out; have ⟨_, _, _, _, _, _, _⟩ := y6 lZ aB.out) | ((with_reducible refine gate_callee (f := 21) rfl ?_); refine goesL_ (some 20) rfl rfl Try.func21 (by kernel_rfl) rfl #[.agg #[.int .i64 aP, .slice aZ aJ.length bA], .agg #[.int .i64 aQ, .slice bB aK.length bC]] rfl MT ?_; (with_reducible refine (laws_eqCache.calls k aP _ _ aJ aQ _ _ aK false _ ?_ ?_ ?_ ?_ A6.out).mono ?_); exact KD bT HB; exact bU.out; exact KD bV HB; exact bW.out; rintro e mP ⟨rfl, hb⟩; refine ⟨_, rfl, ?_⟩; replace aA := am (BB aA hb); replace aB := am (BB aB hb); replace HB := bl (K2 HB aC.out aF.out) hb; (try clear hb)))
    go_ret
    exact ⟨ER, K2 HB aC.out aF.out⟩
  ·replace c5 := Bool.eq_false_iff.mpr c5
   subst c5
   have H1 := nf H
   clear H
   have H := H1
   clear H1
   obtain rfl := sj H
   go_enter Try.func11, Try.ntmps11
   go_wp2_with (first | ((with_reducible refine gate_dst (N := 2) rfl ?_); refine box_event rfl (N := 2) rfl (cs := #[.int .i64 aT, .slice aV aH.length aW, .int .i64 aP, .slice aZ aJ.length bA, .slice bD aL.length bE, .slice bH aN.length bI]) (t := 28) BX ?_; intro bR hg mQ aG hb; have aA := am (aG); have aR := am (GH HB hg); have aC := aR; replace HB := bl (KL HB) hb; clear hb aG hg) | ((with_reducible refine gate_dst (N := 3) rfl ?_); refine box_event rfl (N := 3) rfl (cs := #[.int .i64 aU, .slice aX aI.length aY, .int .i64 aQ, .slice bB aK.length bC, .slice bF aM.length bG, .slice bJ aO.length bK]) (t := 28) BX ?_; intro bS hg mA aG hb; have aB := am (aG); have aS := am (GH1 HB aC.out hg); have aF := aS; replace HB := bl (K1 HB aC.out) hb; have aD := am (NL aA hg); have aE := am (NG aA hg); replace aA := am (BB aA hb); clear hb aG hg; have mB := aD.out; have mC := aE.out; have ⟨_, _, _, _, _, _, _⟩ := y6 mA aA.out; have ⟨_, _, _, _, _, _, _⟩ := y6 mA aB.out) | ((with_reducible refine gate_callee (f := 20) rfl ?_); refine goesL_ (some 14) rfl rfl Try.func20 (by kernel_rfl) rfl #[.slice aV aH.length aW, .slice aX aI.length aY] rfl MT ?_; (with_reducible refine (laws_eqRuleS.calls k _ _ aH _ _ aI false _ ?_ ?_ ?_ ?_ A4.out).mono ?_); exact KD bM HB; exact bN.out; exact KD bO HB; exact bP.out; rintro e mR ⟨rfl, hb⟩; refine ⟨_, rfl, ?_⟩; replace aA := am (BB aA hb); replace aB := am (BB aB hb); replace HB := bl (K2 HB aC.out aF.out) hb; (try clear hb)))
   go_ret
   exact ⟨ER, K2 HB aC.out aF.out⟩
 ·rw [if_neg c3] at H
  have c3b0 : (aT == aU) = false := beq_eq_false_iff_ne.mpr c3
  have c3b1 : (aT != aU) = true := bne_iff_ne.mpr c3
  obtain rfl := sj H
  go_enter Try.func11, Try.ntmps11
  go_wp2_with (first | ((with_reducible refine gate_dst (N := 2) rfl ?_); refine box_event rfl (N := 2) rfl (cs := #[.int .i64 aT, .slice aV aH.length aW, .int .i64 aP, .slice aZ aJ.length bA, .slice bD aL.length bE, .slice bH aN.length bI]) (t := 28) BX ?_; intro bR hg mS aG hb; have aA := am (aG); have aR := am (GH HB hg); have aC := aR; replace HB := bl (KL HB) hb; clear hb aG hg) | ((with_reducible refine gate_dst (N := 3) rfl ?_); refine box_event rfl (N := 3) rfl (cs := #[.int .i64 aU, .slice aX aI.length aY, .int .i64 aQ, .slice bB aK.length bC, .slice bF aM.length bG, .slice bJ aO.length bK]) (t := 28) BX ?_; intro bS hg mD aG hb; have aB := am (aG); have aS := am (GH1 HB aC.out hg); have aF := aS; replace HB := bl (K1 HB aC.out) hb; have aD := am (NL aA hg); have aE := am (NG aA hg); replace aA := am (BB aA hb); clear hb aG hg; have mE := aD.out; have mF := aE.out; have ⟨_, _, _, _, _, _, _⟩ := y6 mD aA.out; have ⟨_, _, _, _, _, _, _⟩ := y6 mD aB.out))
  go_ret
  exact ⟨ER, K2 HB aC.out aF.out⟩
def laws_eqAir.f (a0_0 : ByteArray) (a0_1 : Bool) (a1_0 : ByteArray) (a1_1 : Bool) : Option (Bool) := if a0_0.toList = a1_0.toList then (if (a0_1 != a1_1) = true then (some false) else (some true)) else (some false)
theorem laws_eqAir.calls (aH : ByteArray) (aF : Bool) (aI : ByteArray) (aG : Bool) (r : Bool) (w : World) (h : laws_eqAir.f aH aF aI aG = some r) :
  Calls Try.prog 23 #[.agg #[.string aH, .bool aF], .agg #[.string aI, .bool aG]] w fun e w' => e = .returned (.bool r) ∧ Below w.heap.size w w' := by
 have bN := Try.underlying49
 have HB := am (Below.refl w.heap.size w)
 have H : (if aH.toList = aI.toList then (if (aF != aG) = true then (some false) else (some true)) else (some false)) = some r := h
 clear h
 by_cases c3 : aH.toList = aI.toList
 ·rw [if_pos c3] at H
  have c3b0 : (aH.toList == aI.toList) = true := beq_iff_eq.mpr c3
  have c3b1 : (aH.toList != aI.toList) = false := bne_eq_false_iff_eq.mpr c3
  clear c3
  by_cases c4 : (aF != aG) = true
  ·rw [if_pos c4] at H
   have c4b0 : (aF != aG) = true := c4
   (try (have c4b1 : decide (aF = aG) = false := by simpa using c4))
   (try (have c4b2 : (aF == aG) = false := by simpa using c4))
   (try (have c4b3 : ¬ (aF = aG) := by simpa using c4))
   clear c4
   obtain rfl := sj H
   go_enter Try.func23, Try.ntmps23
   go_wp2_with (first | ((with_reducible refine gate_dst (N := 2) rfl ?_); refine box_event rfl (N := 2) rfl (cs := #[.string aH, .bool aF]) (t := 49) BX ?_; intro aN hg w5 aD hb; have aA := am (aD); have aJ := am (GH HB hg); have aE := aJ; replace HB := bl (KL HB) hb; clear hb aD hg) | ((with_reducible refine gate_dst (N := 3) rfl ?_); refine box_event rfl (N := 3) rfl (cs := #[.string aI, .bool aG]) (t := 49) BX ?_; intro aO hg w6 aD hb; have aK := am (aD); have aL := am (GH1 HB aE.out hg); have aM := aL; replace HB := bl (K1 HB aE.out) hb; have aB := am (NL aA hg); have aC := am (NG aA hg); replace aA := am (BB aA hb); clear hb aD hg; have bO := aB.out; have bP := aC.out; have ⟨_, _, _⟩ := y2 w6 aA.out; have ⟨_, _, _⟩ := y2 w6 aK.out))
   go_ret
   exact ⟨ER, K2 HB aE.out aM.out⟩
  ·rw [if_neg c4] at H
   have c4b0 : (aF != aG) = false := by simpa using c4
   (try (have c4b1 : decide (aF = aG) = true := by simpa using c4))
   (try (have c4b2 : (aF == aG) = true := by simpa using c4))
   clear c4
   obtain rfl := sj H
   go_enter Try.func23, Try.ntmps23
   go_wp2_with (first | ((with_reducible refine gate_dst (N := 2) rfl ?_); refine box_event rfl (N := 2) rfl (cs := #[.string aH, .bool aF]) (t := 49) BX ?_; intro aN hg bQ aD hb; have aA := am (aD); have aJ := am (GH HB hg); have aE := aJ; replace HB := bl (KL HB) hb; clear hb aD hg) | ((with_reducible refine gate_dst (N := 3) rfl ?_); refine box_event rfl (N := 3) rfl (cs := #[.string aI, .bool aG]) (t := 49) BX ?_; intro aO hg bH aD hb; have aK := am (aD); have aL := am (GH1 HB aE.out hg); have aM := aL; replace HB := bl (K1 HB aE.out) hb; have aB := am (NL aA hg); have aC := am (NG aA hg); replace aA := am (BB aA hb); clear hb aD hg; have bI := aB.out; have bJ := aC.out; have ⟨_, _, _⟩ := y2 bH aA.out; have ⟨_, _, _⟩ := y2 bH aK.out))
   go_ret
   exact ⟨ER, K2 HB aE.out aM.out⟩
 ·rw [if_neg c3] at H
  have c3b0 : (aH.toList == aI.toList) = false := beq_eq_false_iff_ne.mpr c3
  have c3b1 : (aH.toList != aI.toList) = true := bne_iff_ne.mpr c3
  obtain rfl := sj H
  go_enter Try.func23, Try.ntmps23
  go_wp2_with (first | ((with_reducible refine gate_dst (N := 2) rfl ?_); refine box_event rfl (N := 2) rfl (cs := #[.string aH, .bool aF]) (t := 49) BX ?_; intro aN hg bR aD hb; have aA := am (aD); have aJ := am (GH HB hg); have aE := aJ; replace HB := bl (KL HB) hb; clear hb aD hg) | ((with_reducible refine gate_dst (N := 3) rfl ?_); refine box_event rfl (N := 3) rfl (cs := #[.string aI, .bool aG]) (t := 49) BX ?_; intro aO hg bK aD hb; have aK := am (aD); have aL := am (GH1 HB aE.out hg); have aM := aL; replace HB := bl (K1 HB aE.out) hb; have aB := am (NL aA hg); have aC := am (NG aA hg); replace aA := am (BB aA hb); clear hb aD hg; have bL := aB.out; have bM := aC.out; have ⟨_, _, _⟩ := y2 bK aA.out; have ⟨_, _, _⟩ := y2 bK aK.out))
  go_ret
  exact ⟨ER, K2 HB aE.out aM.out⟩
def laws_eqAirS.l0 : Nat → List (S49) → List (S49) → Int → Option (Bool)
 | 0, _, _, _ => none
 | k + 1, x0, x1, x5 => if x5 < (x0.length : Int) then (if 0 ≤ x5 then (if x5 < (x1.length : Int) then ((laws_eqAir.f ((rd_T49 x0 x5).f0) ((rd_T49 x0 x5).f1) ((rd_T49 x1 x5).f0) ((rd_T49 x1 x5).f1)).bind fun t103 => (if t103 = true then (laws_eqAirS.l0 k x0 x1 (wrap64 (x5 + 1))) else (some false))) else (none)) else (none)) else (some true)
def laws_eqAirS.f (k : Nat) (l0 : List (S49)) (l1 : List (S49)) : Option (Bool) := if (l0.length : Int) = (l1.length : Int) then (laws_eqAirS.l0 k l0 l1 0) else (some false)
def laws_eqAirS.T6 : Bool × List (List Nat × List Nat) := (true, [([], []), ([], []), ([0, 1], [0, 1]), ([2], [2]), ([], []), ([], []), ([4, 5], [4, 5]), ([6], [6]), ([3, 7], [3, 7]), ([8], [8])])
def laws_eqAirS.B6 : List Nat := [0, 0, 3, 7, 0, 0, 48, 112, 255, 511]
theorem laws_eqAirS.tab6 : rtab .any (opsOf Try.f12 6) = laws_eqAirS.T6 := by kernel_rfl
theorem laws_eqAirS.bits6 : waitsOk laws_eqAirS.T6.2 laws_eqAirS.B6 = true := by kernel_rfl
theorem laws_eqAirS.calls (k : Nat) (A0 : Option Addr) (c0 : Nat) (l0 : List (S49)) (A1 : Option Addr) (c1 : Nat) (l1 : List (S49)) (r : Bool) (w : World) (aV : Kd.C k49 w A0 l0.length l0) (aW : l0.length ≤ c0) (aX : Kd.C k49 w A1 l1.length l1) (aY : l1.length ≤ c1) (h : laws_eqAirS.f k l0 l1 = some r) :
  Calls Try.prog 12 #[.slice A0 l0.length c0, .slice A1 l1.length c1] w fun e w' => e = .returned (.bool r) ∧ Below w.heap.size w w' := by
 have bC := Try.underlying49
 have aZ := Aside0.mk aV
 have bD := Aside0.mk aW
 clear aV aW
 have bA := Aside0.mk aX
 have bE := Aside0.mk aY
 clear aX aY
 have HB := am (Below.refl w.heap.size w)
 have H : (if (l0.length : Int) = (l1.length : Int) then (laws_eqAirS.l0 k l0 l1 0) else (some false)) = some r := h
 clear h
 by_cases c3 : (l0.length : Int) = (l1.length : Int)
 ·rw [if_pos c3] at H
  have c3b0 : ((l0.length : Int) == (l1.length : Int)) = true := beq_iff_eq.mpr c3
  have c3b1 : ((l0.length : Int) != (l1.length : Int)) = false := bne_eq_false_iff_eq.mpr c3
  have c3b2 : (l0.length == l1.length) = true := by first | simpa using c3 | (simp at c3 ⊢; omega)
  clear c3
  have H' := Aside0.mk H
  clear H
  go_enter Try.func12, Try.ntmps12
  go_wp2
  go_loopg [5] k (fun kq v5 w' => ∃ (aA : Int), v5 = .int .i64 aA ∧ Aside0 (laws_eqAirS.l0 kq l0 l1 aA = some r) ∧ Aside0 (kq ≤ k) ∧ Aside0 (Below w.heap.size w w'))
  case atStart => exact ⟨(0), (by first | rfl | (simp; done) | (simp [*]; done)), H', ⟨Nat.le_refl _⟩, ⟨KL HB⟩⟩
  case round =>
   clear H'
   try clear c1
   try clear p2
   try clear c3
   try clear c3b0
   try clear c3b1
   try clear c3b2
   obtain ⟨aA, rfl, HA, HK1, HB⟩ := hrel
   cases gk with
   | zero => exact absurd HA.out (by simp [laws_eqAirS.l0])
   | succ k1 =>
    have H := HA.out
    clear HA
    simp only [laws_eqAirS.l0] at H
    by_cases c4 : aA < (l0.length : Int)
    ·rw [if_pos c4] at H
     have c4b0 : decide (aA < (l0.length : Int)) = true := decide_eq_true c4
     clear c4
     by_cases c5 : 0 ≤ aA
     ·rw [if_pos c5] at H
      have c5b0 : decide (0 ≤ aA) = true := decide_eq_true c5
      clear c5
      by_cases c6 : aA < (l1.length : Int)
      ·rw [if_pos c6] at H
       have c6b0 : decide (aA < (l1.length : Int)) = true := decide_eq_true c6
       clear c6
       replace H := bm H
       obtain ⟨aT, bB, H⟩ := H
       replace H : (if aT = true then (laws_eqAirS.l0 k1 l0 l1 (wrap64 (aA + 1))) else (some false)) = some r := H
       have A7 := Aside0.mk bB
       clear bB
       by_cases c8 : aT = true
       ·subst c8
        have H1 := pf H
        clear H
        have H := H1
        clear H1
        have H' := Aside0.mk H
        clear H
        try go_wp2
        replace HB := am (below_drew1 HB.out)
        have aN : 0 ≤ (aA : Int) := OD
        have aO : aA < (l0.length : Int) := OD
        obtain ⟨aK, aR, aB, aC⟩ := at_T49 aZ.out aA aN aO
        have aF := aC
        have aG := aB
        cases aR
        replace aB := CX HB.out aB
        replace aC := CX HB.out aC
        replace aN := eq_true aN
        replace aO := eq_true aO
        have aP : 0 ≤ (aA : Int) := OD
        have aQ : aA < (l1.length : Int) := OD
        obtain ⟨aL, aS, aD, aE⟩ := at_T49 bA.out aA aP aQ
        have aH := aE
        have aI := aD
        cases aS
        replace aD := CX HB.out aD
        replace aE := CX HB.out aE
        replace aP := eq_true aP
        replace aQ := eq_true aQ
        refine start_ (n := 10) (S := fun w' => w'.cell? (aK.add ((aA).toNat * 2)) = some (.string ((rd_T49 l0 aA).f0)) ∧ w'.cell? ⟨(aK.add ((aA).toNat * 2)).block, (aK.add ((aA).toNat * 2)).off + 1, none⟩ = some (.bool ((rd_T49 l0 aA).f1)) ∧ w'.cell? (aL.add ((aA).toNat * 2)) = some (.string ((rd_T49 l1 aA).f0)) ∧ w'.cell? ⟨(aL.add ((aA).toNat * 2)).block, (aL.add ((aA).toNat * 2)).off + 1, none⟩ = some (.bool ((rd_T49 l1 aA).f1))) (ds := []) (tf 0 10) (by kernel_rfl) rfl rfl ⟨(CY HB.out aG), (CY HB.out aF), (CY HB.out aI), (CY HB.out aH)⟩ (fun aJ => ?_); refine with_tabW laws_eqAirS.tab6 laws_eqAirS.bits6 (fun aM aU => ?_)
        generalize wr.drew = w9 at HB aB aC aD aE aJ ⊢
        refine pv aM 0 17 (tf 1 9) ?_
        refine pv aM 1 18 (tf 2 8) ?_
        refine pv aM 2 19 (tf 3 7) ?_
        refine pv aM 4 21 (tr [3, 1, 1, 5]) ?_
        refine pv aM 5 22 (tr [3, 1, 2, 4]) ?_
        refine pv aM 6 23 (tr [3, 1, 3, 3]) ?_
        refine tk 3 (some 20) (tf 7 3) (take_ofW aM.out aU.out (by kernel_rfl)) aJ ?_
        refine tk 7 (some 24) (tf 8 2) (take_ofW aM.out aU.out (by kernel_rfl)) aJ ?_
        refine one_ (i := 8) (N := some 25) (tf 9 1) rfl rfl (one_of aM.out (by kernel_rfl)) (by decide) (fun K hK => ?_)
        refine goes_ Try.func23 (by kernel_rfl) rfl #[.agg #[.string ((rd_T49 l0 aA).f0), .bool ((rd_T49 l0 aA).f1)], .agg #[.string ((rd_T49 l1 aA).f0), .bool ((rd_T49 l1 aA).f1)]] (by rfl) rfl rfl MT ?_
        with_reducible refine (laws_eqAir.calls ((rd_T49 l0 aA).f0) ((rd_T49 l0 aA).f1) ((rd_T49 l1 aA).f0) ((rd_T49 l1 aA).f1) true _ A7.out).mono ?_
        rintro e bF ⟨rfl, hb⟩
        refine ⟨_, rfl, ?_⟩
        replace HB := bl (KL HB) hb
        (try clear hb)
        (try clear hb2)
        (try clear hk)
        (try clear hi)
        refine hK.out _ _ ⟨(CY HB.out aG), (CY HB.out aF), (CY HB.out aI), (CY HB.out aH)⟩ (fun aJ => ?_)
        clear hK K
        refine nm (some 25) ?_
        refine pv aM 9 26 (tf 10 0) ?_
        refine done_ (done_of aM.out (by kernel_rfl)) ?_
        try go_wp2
        go_roundg k1
        case measure => have := HK1.out; omega
        case rel => exact ⟨(wrap64 (aA + 1)), (by first | rfl | (simp; done) | (simp [*]; done)), H', ⟨by have := HK1.out; omega⟩, ⟨KL HB⟩⟩
       ·replace c8 := Bool.eq_false_iff.mpr c8
        subst c8
        have H1 := nf H
        clear H
        have H := H1
        clear H1
        obtain rfl := sj H
        try go_wp2
        replace HB := am (below_drew1 HB.out)
        have aN : 0 ≤ (aA : Int) := OD
        have aO : aA < (l0.length : Int) := OD
        obtain ⟨aK, aR, aB, aC⟩ := at_T49 aZ.out aA aN aO
        have aF := aC
        have aG := aB
        cases aR
        replace aB := CX HB.out aB
        replace aC := CX HB.out aC
        replace aN := eq_true aN
        replace aO := eq_true aO
        have aP : 0 ≤ (aA : Int) := OD
        have aQ : aA < (l1.length : Int) := OD
        obtain ⟨aL, aS, aD, aE⟩ := at_T49 bA.out aA aP aQ
        have aH := aE
        have aI := aD
        cases aS
        replace aD := CX HB.out aD
        replace aE := CX HB.out aE
        replace aP := eq_true aP
        replace aQ := eq_true aQ
        refine start_ (n := 10) (S := fun w' => w'.cell? (aK.add ((aA).toNat * 2)) = some (.string ((rd_T49 l0 aA).f0)) ∧ w'.cell? ⟨(aK.add ((aA).toNat * 2)).block, (aK.add ((aA).toNat * 2)).off + 1, none⟩ = some (.bool ((rd_T49 l0 aA).f1)) ∧ w'.cell? (aL.add ((aA).toNat * 2)) = some (.string ((rd_T49 l1 aA).f0)) ∧ w'.cell? ⟨(aL.add ((aA).toNat * 2)).block, (aL.add ((aA).toNat * 2)).off + 1, none⟩ = some (.bool ((rd_T49 l1 aA).f1))) (ds := []) (tf 0 10) (by kernel_rfl) rfl rfl ⟨(CY HB.out aG), (CY HB.out aF), (CY HB.out aI), (CY HB.out aH)⟩ (fun aJ => ?_); refine with_tabW laws_eqAirS.tab6 laws_eqAirS.bits6 (fun aM aU => ?_)
        generalize wr.drew = bG at HB aB aC aD aE aJ ⊢
        refine pv aM 0 17 (tf 1 9) ?_
        refine pv aM 1 18 (tf 2 8) ?_
        refine pv aM 2 19 (tf 3 7) ?_
        refine pv aM 4 21 (tr [3, 1, 1, 5]) ?_
        refine pv aM 5 22 (tr [3, 1, 2, 4]) ?_
        refine pv aM 6 23 (tr [3, 1, 3, 3]) ?_
        refine tk 3 (some 20) (tf 7 3) (take_ofW aM.out aU.out (by kernel_rfl)) aJ ?_
        refine tk 7 (some 24) (tf 8 2) (take_ofW aM.out aU.out (by kernel_rfl)) aJ ?_
        refine one_ (i := 8) (N := some 25) (tf 9 1) rfl rfl (one_of aM.out (by kernel_rfl)) (by decide) (fun K hK => ?_)
        refine goes_ Try.func23 (by kernel_rfl) rfl #[.agg #[.string ((rd_T49 l0 aA).f0), .bool ((rd_T49 l0 aA).f1)], .agg #[.string ((rd_T49 l1 aA).f0), .bool ((rd_T49 l1 aA).f1)]] (by rfl) rfl rfl MT ?_
        with_reducible refine (laws_eqAir.calls ((rd_T49 l0 aA).f0) ((rd_T49 l0 aA).f1) ((rd_T49 l1 aA).f0) ((rd_T49 l1 aA).f1) false _ A7.out).mono ?_
        rintro e bH ⟨rfl, hb⟩
        refine ⟨_, rfl, ?_⟩
        replace HB := bl (KL HB) hb
        (try clear hb)
        (try clear hb2)
        (try clear hk)
        (try clear hi)
        refine hK.out _ _ ⟨(CY HB.out aG), (CY HB.out aF), (CY HB.out aI), (CY HB.out aH)⟩ (fun aJ => ?_)
        clear hK K
        refine nm (some 25) ?_
        refine pv aM 9 26 (tf 10 0) ?_
        refine done_ (done_of aM.out (by kernel_rfl)) ?_
        try go_wp2
        go_ret
        exact ⟨ER, KL HB⟩
      ·rw [if_neg c6] at H
       exact absurd H (by simp)
     ·rw [if_neg c5] at H
      exact absurd H (by simp)
    ·rw [if_neg c4] at H
     have c4b0 : decide (aA < (l0.length : Int)) = false := decide_eq_false c4
     clear c4
     obtain rfl := sj H
     go_wp2
     go_ret
     exact ⟨ER, KL HB⟩
 ·rw [if_neg c3] at H
  have c3b0 : ((l0.length : Int) == (l1.length : Int)) = false := beq_eq_false_iff_ne.mpr c3
  have c3b1 : ((l0.length : Int) != (l1.length : Int)) = true := bne_iff_ne.mpr c3
  have c3b2 : (l0.length == l1.length) = false := by first | simpa using c3 | (simp at c3 ⊢; omega)
  obtain rfl := sj H
  go_enter Try.func12, Try.ntmps12
  go_wp2
  go_ret
  exact ⟨ER, KL HB⟩
def laws_eqPacket.f (a0_0 : Int) (a0_1 : Int) (a0_2 : Int) (a0_3 : ByteArray) (a1_0 : Int) (a1_1 : Int) (a1_2 : Int) (a1_3 : ByteArray) : Option (Bool) := if a0_0 = a1_0 then (if a0_1 = a1_1 then (if a0_2 = a1_2 then (if a0_3.toList = a1_3.toList then (some true) else (some false)) else (some false)) else (some false)) else (some false)
theorem laws_eqPacket.calls (aJ : Int) (aK : Int) (aL : Int) (aM : ByteArray) (aN : Int) (aO : Int) (aP : Int) (aQ : ByteArray) (r : Bool) (w : World) (h : laws_eqPacket.f aJ aK aL aM aN aO aP aQ = some r) :
  Calls Try.prog 35 #[.agg #[.int .i64 aJ, .int .i64 aK, .int .i64 aL, .string aM], .agg #[.int .i64 aN, .int .i64 aO, .int .i64 aP, .string aQ]] w fun e w' => e = .returned (.bool r) ∧ Below w.heap.size w w' := by
 have dD := Try.underlying52
 have HB := am (Below.refl w.heap.size w)
 have H : (if aJ = aN then (if aK = aO then (if aL = aP then (if aM.toList = aQ.toList then (some true) else (some false)) else (some false)) else (some false)) else (some false)) = some r := h
 clear h
 by_cases c3 : aJ = aN
 ·rw [if_pos c3] at H
  have c3b0 : (aJ == aN) = true := beq_iff_eq.mpr c3
  have c3b1 : (aJ != aN) = false := bne_eq_false_iff_eq.mpr c3
  clear c3
  by_cases c4 : aK = aO
  ·rw [if_pos c4] at H
   have c4b0 : (aK == aO) = true := beq_iff_eq.mpr c4
   have c4b1 : (aK != aO) = false := bne_eq_false_iff_eq.mpr c4
   clear c4
   by_cases c5 : aL = aP
   ·rw [if_pos c5] at H
    have c5b0 : (aL == aP) = true := beq_iff_eq.mpr c5
    have c5b1 : (aL != aP) = false := bne_eq_false_iff_eq.mpr c5
    clear c5
    by_cases c6 : aM.toList = aQ.toList
    ·rw [if_pos c6] at H
     have c6b0 : (aM.toList == aQ.toList) = true := beq_iff_eq.mpr c6
     have c6b1 : (aM.toList != aQ.toList) = false := bne_eq_false_iff_eq.mpr c6
     clear c6
     obtain rfl := sj H
     go_enter Try.func35, Try.ntmps35
     go_wp2_with (first | ((with_reducible refine gate_dst (N := 2) rfl ?_); refine box_event rfl (N := 2) rfl (cs := #[.int .i64 aJ, .int .i64 aK, .int .i64 aL, .string aM]) (t := 52) BX ?_; intro aR hg w7 aD hb; have aA := am (aD); have aF := am (GH HB hg); have aE := aF; replace HB := bl (KL HB) hb; clear hb aD hg) | ((with_reducible refine gate_dst (N := 3) rfl ?_); refine box_event rfl (N := 3) rfl (cs := #[.int .i64 aN, .int .i64 aO, .int .i64 aP, .string aQ]) (t := 52) BX ?_; intro aS hg w8 aD hb; have aG := am (aD); have aH := am (GH1 HB aE.out hg); have aI := aH; replace HB := bl (K1 HB aE.out) hb; have aB := am (NL aA hg); have aC := am (NG aA hg); replace aA := am (BB aA hb); clear hb aD hg; have dE := aB.out; have dF := aC.out; have ⟨_, _, _, _, _⟩ := y4 w8 aA.out; have ⟨_, _, _, _, _⟩ := y4 w8 aG.out))
     go_ret
     exact ⟨ER, K2 HB aE.out aI.out⟩
    ·rw [if_neg c6] at H
     have c6b0 : (aM.toList == aQ.toList) = false := beq_eq_false_iff_ne.mpr c6
     have c6b1 : (aM.toList != aQ.toList) = true := bne_iff_ne.mpr c6
     obtain rfl := sj H
     go_enter Try.func35, Try.ntmps35
     go_wp2_with (first | ((with_reducible refine gate_dst (N := 2) rfl ?_); refine box_event rfl (N := 2) rfl (cs := #[.int .i64 aJ, .int .i64 aK, .int .i64 aL, .string aM]) (t := 52) BX ?_; intro aR hg dG aD hb; have aA := am (aD); have aF := am (GH HB hg); have aE := aF; replace HB := bl (KL HB) hb; clear hb aD hg) | ((with_reducible refine gate_dst (N := 3) rfl ?_); refine box_event rfl (N := 3) rfl (cs := #[.int .i64 aN, .int .i64 aO, .int .i64 aP, .string aQ]) (t := 52) BX ?_; intro aS hg cR aD hb; have aG := am (aD); have aH := am (GH1 HB aE.out hg); have aI := aH; replace HB := bl (K1 HB aE.out) hb; have aB := am (NL aA hg); have aC := am (NG aA hg); replace aA := am (BB aA hb); clear hb aD hg; have cS := aB.out; have cT := aC.out; have ⟨_, _, _, _, _⟩ := y4 cR aA.out; have ⟨_, _, _, _, _⟩ := y4 cR aG.out))
     go_ret
     exact ⟨ER, K2 HB aE.out aI.out⟩
   ·rw [if_neg c5] at H
    have c5b0 : (aL == aP) = false := beq_eq_false_iff_ne.mpr c5
    have c5b1 : (aL != aP) = true := bne_iff_ne.mpr c5
    obtain rfl := sj H
    go_enter Try.func35, Try.ntmps35
    go_wp2_with (first | ((with_reducible refine gate_dst (N := 2) rfl ?_); refine box_event rfl (N := 2) rfl (cs := #[.int .i64 aJ, .int .i64 aK, .int .i64 aL, .string aM]) (t := 52) BX ?_; intro aR hg dH aD hb; have aA := am (aD); have aF := am (GH HB hg); have aE := aF; replace HB := bl (KL HB) hb; clear hb aD hg) | ((with_reducible refine gate_dst (N := 3) rfl ?_); refine box_event rfl (N := 3) rfl (cs := #[.int .i64 aN, .int .i64 aO, .int .i64 aP, .string aQ]) (t := 52) BX ?_; intro aS hg cU aD hb; have aG := am (aD); have aH := am (GH1 HB aE.out hg); have aI := aH; replace HB := bl (K1 HB aE.out) hb; have aB := am (NL aA hg); have aC := am (NG aA hg); replace aA := am (BB aA hb); clear hb aD hg; have cV := aB.out; have cW := aC.out; have ⟨_, _, _, _, _⟩ := y4 cU aA.out; have ⟨_, _, _, _, _⟩ := y4 cU aG.out))
    go_ret
    exact ⟨ER, K2 HB aE.out aI.out⟩
  ·rw [if_neg c4] at H
   have c4b0 : (aK == aO) = false := beq_eq_false_iff_ne.mpr c4
   have c4b1 : (aK != aO) = true := bne_iff_ne.mpr c4
   obtain rfl := sj H
   go_enter Try.func35, Try.ntmps35
   go_wp2_with (first | ((with_reducible refine gate_dst (N := 2) rfl ?_); refine box_event rfl (N := 2) rfl (cs := #[.int .i64 aJ, .int .i64 aK, .int .i64 aL, .string aM]) (t := 52) BX ?_; intro aR hg dI aD hb; have aA := am (aD); have aF := am (GH HB hg); have aE := aF; replace HB := bl (KL HB) hb; clear hb aD hg) | ((with_reducible refine gate_dst (N := 3) rfl ?_); refine box_event rfl (N := 3) rfl (cs := #[.int .i64 aN, .int .i64 aO, .int .i64 aP, .string aQ]) (t := 52) BX ?_; intro aS hg cX aD hb; have aG := am (aD); have aH := am (GH1 HB aE.out hg); have aI := aH; replace HB := bl (K1 HB aE.out) hb; have aB := am (NL aA hg); have aC := am (NG aA hg); replace aA := am (BB aA hb); clear hb aD hg; have cY := aB.out; have cZ := aC.out; have ⟨_, _, _, _, _⟩ := y4 cX aA.out; have ⟨_, _, _, _, _⟩ := y4 cX aG.out))
   go_ret
   exact ⟨ER, K2 HB aE.out aI.out⟩
 ·rw [if_neg c3] at H
  have c3b0 : (aJ == aN) = false := beq_eq_false_iff_ne.mpr c3
  have c3b1 : (aJ != aN) = true := bne_iff_ne.mpr c3
  obtain rfl := sj H
  go_enter Try.func35, Try.ntmps35
  go_wp2_with (first | ((with_reducible refine gate_dst (N := 2) rfl ?_); refine box_event rfl (N := 2) rfl (cs := #[.int .i64 aJ, .int .i64 aK, .int .i64 aL, .string aM]) (t := 52) BX ?_; intro aR hg dJ aD hb; have aA := am (aD); have aF := am (GH HB hg); have aE := aF; replace HB := bl (KL HB) hb; clear hb aD hg) | ((with_reducible refine gate_dst (N := 3) rfl ?_); refine box_event rfl (N := 3) rfl (cs := #[.int .i64 aN, .int .i64 aO, .int .i64 aP, .string aQ]) (t := 52) BX ?_; intro aS hg dA aD hb; have aG := am (aD); have aH := am (GH1 HB aE.out hg); have aI := aH; replace HB := bl (K1 HB aE.out) hb; have aB := am (NL aA hg); have aC := am (NG aA hg); replace aA := am (BB aA hb); clear hb aD hg; have dB := aB.out; have dC := aC.out; have ⟨_, _, _, _, _⟩ := y4 dA aA.out; have ⟨_, _, _, _, _⟩ := y4 dA aG.out))
  go_ret
  exact ⟨ER, K2 HB aE.out aI.out⟩
def laws_eqSent.f (a0_0 : Int) (a0_1 : Int) (a0_2 : Int) (a0_3 : ByteArray) (a0_4 : Int) (a0_5 : Int) (a0_6 : Int) (a1_0 : Int) (a1_1 : Int) (a1_2 : Int) (a1_3 : ByteArray) (a1_4 : Int) (a1_5 : Int) (a1_6 : Int) : Option (Bool) := (laws_eqPacket.f a0_0 a0_1 a0_2 a0_3 a1_0 a1_1 a1_2 a1_3).bind fun t103 => (if t103 = true then (if a0_4 = a1_4 then (if a0_5 = a1_5 then (if a0_6 = a1_6 then (some true) else (some false)) else (some false)) else (some false)) else (some false))
theorem laws_eqSent.calls (aH : Int) (aI : Int) (aJ : Int) (aK : ByteArray) (aP : Int) (aQ : Int) (aR : Int) (aL : Int) (aM : Int) (aN : Int) (aO : ByteArray) (aS : Int) (aT : Int) (aU : Int) (r : Bool) (w : World) (h : laws_eqSent.f aH aI aJ aK aP aQ aR aL aM aN aO aS aT aU = some r) :
  Calls Try.prog 24 #[.agg #[.int .i64 aH, .int .i64 aI, .int .i64 aJ, .string aK, .int .i64 aP, .int .i64 aQ, .int .i64 aR], .agg #[.int .i64 aL, .int .i64 aM, .int .i64 aN, .string aO, .int .i64 aS, .int .i64 aT, .int .i64 aU]] w fun e w' => e = .returned (.bool r) ∧ Below w.heap.size w w' := by
 have hH := Try.underlying54
 have hI := Try.underlying52
 have HB := am (Below.refl w.heap.size w)
 have H : ((laws_eqPacket.f aH aI aJ aK aL aM aN aO).bind fun aZ => (if aZ = true then (if aP = aS then (if aQ = aT then (if aR = aU then (some true) else (some false)) else (some false)) else (some false)) else (some false))) = some r := h
 clear h
 replace H := bm H
 obtain ⟨aZ, gO, H⟩ := H
 replace H : (if aZ = true then (if aP = aS then (if aQ = aT then (if aR = aU then (some true) else (some false)) else (some false)) else (some false)) else (some false)) = some r := H
 have A3 := Aside0.mk gO
 clear gO
 by_cases c4 : aZ = true
 ·subst c4
  have H1 := pf H
  clear H
  have H := H1
  clear H1
  by_cases c5 : aP = aS
  ·rw [if_pos c5] at H
   have c5b0 : (aP == aS) = true := beq_iff_eq.mpr c5
   have c5b1 : (aP != aS) = false := bne_eq_false_iff_eq.mpr c5
   clear c5
   by_cases c6 : aQ = aT
   ·rw [if_pos c6] at H
    have c6b0 : (aQ == aT) = true := beq_iff_eq.mpr c6
    have c6b1 : (aQ != aT) = false := bne_eq_false_iff_eq.mpr c6
    clear c6
    by_cases c7 : aR = aU
    ·rw [if_pos c7] at H
     have c7b0 : (aR == aU) = true := beq_iff_eq.mpr c7
     have c7b1 : (aR != aU) = false := bne_eq_false_iff_eq.mpr c7
     clear c7
     obtain rfl := sj H
     go_enter Try.func24, Try.ntmps24
     go_wp2_with (first | ((with_reducible refine gate_dst (N := 2) rfl ?_); refine box_event rfl (N := 2) rfl (cs := #[.int .i64 aH, .int .i64 aI, .int .i64 aJ, .string aK, .int .i64 aP, .int .i64 aQ, .int .i64 aR]) (t := 54) BX ?_; intro aX hg w8 aF hb; have aA := am (aF); have aV := am (GH HB hg); have aB := aV; replace HB := bl (KL HB) hb; clear hb aF hg) | ((with_reducible refine gate_dst (N := 3) rfl ?_); refine box_event rfl (N := 3) rfl (cs := #[.int .i64 aL, .int .i64 aM, .int .i64 aN, .string aO, .int .i64 aS, .int .i64 aT, .int .i64 aU]) (t := 54) BX ?_; intro aY hg w9 aF hb; have aC := am (aF); have aW := am (GH1 HB aB.out hg); have aG := aW; replace HB := bl (K1 HB aB.out) hb; have aD := am (NL aA hg); have aE := am (NG aA hg); replace aA := am (BB aA hb); clear hb aF hg; have gP := aD.out; have gQ := aE.out; have ⟨_, _, _, _, _, _, _, _⟩ := y7 w9 aA.out; have ⟨_, _, _, _, _, _, _, _⟩ := y7 w9 aC.out) | ((with_reducible refine gate_callee (f := 35) rfl ?_); refine goesL_ (some 9) rfl rfl Try.func35 (by kernel_rfl) rfl #[.agg #[.int .i64 aH, .int .i64 aI, .int .i64 aJ, .string aK], .agg #[.int .i64 aL, .int .i64 aM, .int .i64 aN, .string aO]] rfl MT ?_; (with_reducible refine (laws_eqPacket.calls aH aI aJ aK aL aM aN aO true _ A3.out).mono ?_); rintro e gR ⟨rfl, hb⟩; refine ⟨_, rfl, ?_⟩; replace aA := am (BB aA hb); replace aC := am (BB aC hb); replace HB := bl (K2 HB aB.out aG.out) hb; (try clear hb); have ⟨_, _, _, _, _, _, _, _⟩ := y7 gR aA.out; have ⟨_, _, _, _, _, _, _, _⟩ := y7 gR aC.out))
     go_ret
     exact ⟨ER, K2 HB aB.out aG.out⟩
    ·rw [if_neg c7] at H
     have c7b0 : (aR == aU) = false := beq_eq_false_iff_ne.mpr c7
     have c7b1 : (aR != aU) = true := bne_iff_ne.mpr c7
     obtain rfl := sj H
     go_enter Try.func24, Try.ntmps24
     go_wp2_with (first | ((with_reducible refine gate_dst (N := 2) rfl ?_); refine box_event rfl (N := 2) rfl (cs := #[.int .i64 aH, .int .i64 aI, .int .i64 aJ, .string aK, .int .i64 aP, .int .i64 aQ, .int .i64 aR]) (t := 54) BX ?_; intro aX hg hJ aF hb; have aA := am (aF); have aV := am (GH HB hg); have aB := aV; replace HB := bl (KL HB) hb; clear hb aF hg) | ((with_reducible refine gate_dst (N := 3) rfl ?_); refine box_event rfl (N := 3) rfl (cs := #[.int .i64 aL, .int .i64 aM, .int .i64 aN, .string aO, .int .i64 aS, .int .i64 aT, .int .i64 aU]) (t := 54) BX ?_; intro aY hg gS aF hb; have aC := am (aF); have aW := am (GH1 HB aB.out hg); have aG := aW; replace HB := bl (K1 HB aB.out) hb; have aD := am (NL aA hg); have aE := am (NG aA hg); replace aA := am (BB aA hb); clear hb aF hg; have gT := aD.out; have gU := aE.out; have ⟨_, _, _, _, _, _, _, _⟩ := y7 gS aA.out; have ⟨_, _, _, _, _, _, _, _⟩ := y7 gS aC.out) | ((with_reducible refine gate_callee (f := 35) rfl ?_); refine goesL_ (some 9) rfl rfl Try.func35 (by kernel_rfl) rfl #[.agg #[.int .i64 aH, .int .i64 aI, .int .i64 aJ, .string aK], .agg #[.int .i64 aL, .int .i64 aM, .int .i64 aN, .string aO]] rfl MT ?_; (with_reducible refine (laws_eqPacket.calls aH aI aJ aK aL aM aN aO true _ A3.out).mono ?_); rintro e gV ⟨rfl, hb⟩; refine ⟨_, rfl, ?_⟩; replace aA := am (BB aA hb); replace aC := am (BB aC hb); replace HB := bl (K2 HB aB.out aG.out) hb; (try clear hb); have ⟨_, _, _, _, _, _, _, _⟩ := y7 gV aA.out; have ⟨_, _, _, _, _, _, _, _⟩ := y7 gV aC.out))
     go_ret
     exact ⟨ER, K2 HB aB.out aG.out⟩
   ·rw [if_neg c6] at H
    have c6b0 : (aQ == aT) = false := beq_eq_false_iff_ne.mpr c6
    have c6b1 : (aQ != aT) = true := bne_iff_ne.mpr c6
    obtain rfl := sj H
    go_enter Try.func24, Try.ntmps24
    go_wp2_with (first | ((with_reducible refine gate_dst (N := 2) rfl ?_); refine box_event rfl (N := 2) rfl (cs := #[.int .i64 aH, .int .i64 aI, .int .i64 aJ, .string aK, .int .i64 aP, .int .i64 aQ, .int .i64 aR]) (t := 54) BX ?_; intro aX hg hK aF hb; have aA := am (aF); have aV := am (GH HB hg); have aB := aV; replace HB := bl (KL HB) hb; clear hb aF hg) | ((with_reducible refine gate_dst (N := 3) rfl ?_); refine box_event rfl (N := 3) rfl (cs := #[.int .i64 aL, .int .i64 aM, .int .i64 aN, .string aO, .int .i64 aS, .int .i64 aT, .int .i64 aU]) (t := 54) BX ?_; intro aY hg gW aF hb; have aC := am (aF); have aW := am (GH1 HB aB.out hg); have aG := aW; replace HB := bl (K1 HB aB.out) hb; have aD := am (NL aA hg); have aE := am (NG aA hg); replace aA := am (BB aA hb); clear hb aF hg; have gX := aD.out; have gY := aE.out; have ⟨_, _, _, _, _, _, _, _⟩ := y7 gW aA.out; have ⟨_, _, _, _, _, _, _, _⟩ := y7 gW aC.out) | ((with_reducible refine gate_callee (f := 35) rfl ?_); refine goesL_ (some 9) rfl rfl Try.func35 (by kernel_rfl) rfl #[.agg #[.int .i64 aH, .int .i64 aI, .int .i64 aJ, .string aK], .agg #[.int .i64 aL, .int .i64 aM, .int .i64 aN, .string aO]] rfl MT ?_; (with_reducible refine (laws_eqPacket.calls aH aI aJ aK aL aM aN aO true _ A3.out).mono ?_); rintro e gZ ⟨rfl, hb⟩; refine ⟨_, rfl, ?_⟩; replace aA := am (BB aA hb); replace aC := am (BB aC hb); replace HB := bl (K2 HB aB.out aG.out) hb; (try clear hb); have ⟨_, _, _, _, _, _, _, _⟩ := y7 gZ aA.out; have ⟨_, _, _, _, _, _, _, _⟩ := y7 gZ aC.out))
    go_ret
    exact ⟨ER, K2 HB aB.out aG.out⟩
  ·rw [if_neg c5] at H
   have c5b0 : (aP == aS) = false := beq_eq_false_iff_ne.mpr c5
   have c5b1 : (aP != aS) = true := bne_iff_ne.mpr c5
   obtain rfl := sj H
   go_enter Try.func24, Try.ntmps24
   go_wp2_with (first | ((with_reducible refine gate_dst (N := 2) rfl ?_); refine box_event rfl (N := 2) rfl (cs := #[.int .i64 aH, .int .i64 aI, .int .i64 aJ, .string aK, .int .i64 aP, .int .i64 aQ, .int .i64 aR]) (t := 54) BX ?_; intro aX hg hL aF hb; have aA := am (aF); have aV := am (GH HB hg); have aB := aV; replace HB := bl (KL HB) hb; clear hb aF hg) | ((with_reducible refine gate_dst (N := 3) rfl ?_); refine box_event rfl (N := 3) rfl (cs := #[.int .i64 aL, .int .i64 aM, .int .i64 aN, .string aO, .int .i64 aS, .int .i64 aT, .int .i64 aU]) (t := 54) BX ?_; intro aY hg hA aF hb; have aC := am (aF); have aW := am (GH1 HB aB.out hg); have aG := aW; replace HB := bl (K1 HB aB.out) hb; have aD := am (NL aA hg); have aE := am (NG aA hg); replace aA := am (BB aA hb); clear hb aF hg; have hB := aD.out; have hC := aE.out; have ⟨_, _, _, _, _, _, _, _⟩ := y7 hA aA.out; have ⟨_, _, _, _, _, _, _, _⟩ := y7 hA aC.out) | ((with_reducible refine gate_callee (f := 35) rfl ?_); refine goesL_ (some 9) rfl rfl Try.func35 (by kernel_rfl) rfl #[.agg #[.int .i64 aH, .int .i64 aI, .int .i64 aJ, .string aK], .agg #[.int .i64 aL, .int .i64 aM, .int .i64 aN, .string aO]] rfl MT ?_; (with_reducible refine (laws_eqPacket.calls aH aI aJ aK aL aM aN aO true _ A3.out).mono ?_); rintro e hD ⟨rfl, hb⟩; refine ⟨_, rfl, ?_⟩; replace aA := am (BB aA hb); replace aC := am (BB aC hb); replace HB := bl (K2 HB aB.out aG.out) hb; (try clear hb); have ⟨_, _, _, _, _, _, _, _⟩ := y7 hD aA.out; have ⟨_, _, _, _, _, _, _, _⟩ := y7 hD aC.out))
   go_ret
   exact ⟨ER, K2 HB aB.out aG.out⟩
 ·replace c4 := Bool.eq_false_iff.mpr c4
  subst c4
  have H1 := nf H
  clear H
  have H := H1
  clear H1
  obtain rfl := sj H
  go_enter Try.func24, Try.ntmps24
  go_wp2_with (first | ((with_reducible refine gate_dst (N := 2) rfl ?_); refine box_event rfl (N := 2) rfl (cs := #[.int .i64 aH, .int .i64 aI, .int .i64 aJ, .string aK, .int .i64 aP, .int .i64 aQ, .int .i64 aR]) (t := 54) BX ?_; intro aX hg hM aF hb; have aA := am (aF); have aV := am (GH HB hg); have aB := aV; replace HB := bl (KL HB) hb; clear hb aF hg) | ((with_reducible refine gate_dst (N := 3) rfl ?_); refine box_event rfl (N := 3) rfl (cs := #[.int .i64 aL, .int .i64 aM, .int .i64 aN, .string aO, .int .i64 aS, .int .i64 aT, .int .i64 aU]) (t := 54) BX ?_; intro aY hg hE aF hb; have aC := am (aF); have aW := am (GH1 HB aB.out hg); have aG := aW; replace HB := bl (K1 HB aB.out) hb; have aD := am (NL aA hg); have aE := am (NG aA hg); replace aA := am (BB aA hb); clear hb aF hg; have hF := aD.out; have hG := aE.out; have ⟨_, _, _, _, _, _, _, _⟩ := y7 hE aA.out; have ⟨_, _, _, _, _, _, _, _⟩ := y7 hE aC.out) | ((with_reducible refine gate_callee (f := 35) rfl ?_); refine goesL_ (some 9) rfl rfl Try.func35 (by kernel_rfl) rfl #[.agg #[.int .i64 aH, .int .i64 aI, .int .i64 aJ, .string aK], .agg #[.int .i64 aL, .int .i64 aM, .int .i64 aN, .string aO]] rfl MT ?_; (with_reducible refine (laws_eqPacket.calls aH aI aJ aK aL aM aN aO false _ A3.out).mono ?_); rintro e hN ⟨rfl, hb⟩; refine ⟨_, rfl, ?_⟩; replace aA := am (BB aA hb); replace aC := am (BB aC hb); replace HB := bl (K2 HB aB.out aG.out) hb; (try clear hb)))
  go_ret
  exact ⟨ER, K2 HB aB.out aG.out⟩
def laws_eqSentS.l0 : Nat → List (S54) → List (S54) → Int → Option (Bool)
 | 0, _, _, _ => none
 | k + 1, x0, x1, x5 => if x5 < (x0.length : Int) then (if 0 ≤ x5 then (if x5 < (x1.length : Int) then ((laws_eqSent.f ((rd_T54 x0 x5).f0.f0) ((rd_T54 x0 x5).f0.f1) ((rd_T54 x0 x5).f0.f2) ((rd_T54 x0 x5).f0.f3) ((rd_T54 x0 x5).f1) ((rd_T54 x0 x5).f2) ((rd_T54 x0 x5).f3) ((rd_T54 x1 x5).f0.f0) ((rd_T54 x1 x5).f0.f1) ((rd_T54 x1 x5).f0.f2) ((rd_T54 x1 x5).f0.f3) ((rd_T54 x1 x5).f1) ((rd_T54 x1 x5).f2) ((rd_T54 x1 x5).f3)).bind fun t103 => (if t103 = true then (laws_eqSentS.l0 k x0 x1 (wrap64 (x5 + 1))) else (some false))) else (none)) else (none)) else (some true)
def laws_eqSentS.f (k : Nat) (l0 : List (S54)) (l1 : List (S54)) : Option (Bool) := if (l0.length : Int) = (l1.length : Int) then (laws_eqSentS.l0 k l0 l1 0) else (some false)
def laws_eqSentS.T6 : Bool × List (List Nat × List Nat) := (true, [([], []), ([], []), ([0, 1], [0, 1]), ([2], [2]), ([], []), ([], []), ([4, 5], [4, 5]), ([6], [6]), ([3, 7], [3, 7]), ([8], [8])])
def laws_eqSentS.B6 : List Nat := [0, 0, 3, 7, 0, 0, 48, 112, 255, 511]
theorem laws_eqSentS.tab6 : rtab .any (opsOf Try.f13 6) = laws_eqSentS.T6 := by kernel_rfl
theorem laws_eqSentS.bits6 : waitsOk laws_eqSentS.T6.2 laws_eqSentS.B6 = true := by kernel_rfl
theorem laws_eqSentS.calls (k : Nat) (A0 : Option Addr) (c0 : Nat) (l0 : List (S54)) (A1 : Option Addr) (c1 : Nat) (l1 : List (S54)) (r : Bool) (w : World) (bP : Kd.C k54 w A0 l0.length l0) (bQ : l0.length ≤ c0) (bR : Kd.C k54 w A1 l1.length l1) (bS : l1.length ≤ c1) (h : laws_eqSentS.f k l0 l1 = some r) :
  Calls Try.prog 13 #[.slice A0 l0.length c0, .slice A1 l1.length c1] w fun e w' => e = .returned (.bool r) ∧ Below w.heap.size w w' := by
 have bW := Try.underlying54
 have bT := Aside0.mk bP
 have bX := Aside0.mk bQ
 clear bP bQ
 have bU := Aside0.mk bR
 have bY := Aside0.mk bS
 clear bR bS
 have HB := am (Below.refl w.heap.size w)
 have H : (if (l0.length : Int) = (l1.length : Int) then (laws_eqSentS.l0 k l0 l1 0) else (some false)) = some r := h
 clear h
 by_cases c3 : (l0.length : Int) = (l1.length : Int)
 ·rw [if_pos c3] at H
  have c3b0 : ((l0.length : Int) == (l1.length : Int)) = true := beq_iff_eq.mpr c3
  have c3b1 : ((l0.length : Int) != (l1.length : Int)) = false := bne_eq_false_iff_eq.mpr c3
  have c3b2 : (l0.length == l1.length) = true := by first | simpa using c3 | (simp at c3 ⊢; omega)
  clear c3
  have H' := Aside0.mk H
  clear H
  go_enter Try.func13, Try.ntmps13
  go_wp2
  go_loopg [5] k (fun kq v5 w' => ∃ (aA : Int), v5 = .int .i64 aA ∧ Aside0 (laws_eqSentS.l0 kq l0 l1 aA = some r) ∧ Aside0 (kq ≤ k) ∧ Aside0 (Below w.heap.size w w'))
  case atStart => exact ⟨(0), (by first | rfl | (simp; done) | (simp [*]; done)), H', ⟨Nat.le_refl _⟩, ⟨KL HB⟩⟩
  case round =>
   clear H'
   try clear c1
   try clear p2
   try clear c3
   try clear c3b0
   try clear c3b1
   try clear c3b2
   obtain ⟨aA, rfl, HA, HK1, HB⟩ := hrel
   cases gk with
   | zero => exact absurd HA.out (by simp [laws_eqSentS.l0])
   | succ k1 =>
    have H := HA.out
    clear HA
    simp only [laws_eqSentS.l0] at H
    by_cases c4 : aA < (l0.length : Int)
    ·rw [if_pos c4] at H
     have c4b0 : decide (aA < (l0.length : Int)) = true := decide_eq_true c4
     clear c4
     by_cases c5 : 0 ≤ aA
     ·rw [if_pos c5] at H
      have c5b0 : decide (0 ≤ aA) = true := decide_eq_true c5
      clear c5
      by_cases c6 : aA < (l1.length : Int)
      ·rw [if_pos c6] at H
       have c6b0 : decide (aA < (l1.length : Int)) = true := decide_eq_true c6
       clear c6
       replace H := bm H
       obtain ⟨bN, bV, H⟩ := H
       replace H : (if bN = true then (laws_eqSentS.l0 k1 l0 l1 (wrap64 (aA + 1))) else (some false)) = some r := H
       have A7 := Aside0.mk bV
       clear bV
       by_cases c8 : bN = true
       ·subst c8
        have H1 := pf H
        clear H
        have H := H1
        clear H1
        have H' := Aside0.mk H
        clear H
        try go_wp2
        replace HB := am (below_drew1 HB.out)
        have bH : 0 ≤ (aA : Int) := OD
        have bI : aA < (l0.length : Int) := OD
        obtain ⟨aB, bL, aD, aE, aF, aG, aH, aI, aJ⟩ := at_T54 bT.out aA bH bI
        have aR := aJ
        have aS := aI
        have aT := aH
        have aU := aG
        have aV := aF
        have aW := aE
        have aX := aD
        cases bL
        replace aD := CX HB.out aD
        replace aE := CX HB.out aE
        replace aF := CX HB.out aF
        replace aG := CX HB.out aG
        replace aH := CX HB.out aH
        replace aI := CX HB.out aI
        replace aJ := CX HB.out aJ
        replace bH := eq_true bH
        replace bI := eq_true bI
        have bJ : 0 ≤ (aA : Int) := OD
        have bK : aA < (l1.length : Int) := OD
        obtain ⟨aC, bM, aK, aL, aM, aN, aO, aP, aQ⟩ := at_T54 bU.out aA bJ bK
        have aY := aQ
        have aZ := aP
        have bA := aO
        have bB := aN
        have bC := aM
        have bD := aL
        have bE := aK
        cases bM
        replace aK := CX HB.out aK
        replace aL := CX HB.out aL
        replace aM := CX HB.out aM
        replace aN := CX HB.out aN
        replace aO := CX HB.out aO
        replace aP := CX HB.out aP
        replace aQ := CX HB.out aQ
        replace bJ := eq_true bJ
        replace bK := eq_true bK
        refine start_ (n := 10) (S := fun w' => w'.cell? (aB.add ((aA).toNat * 7)) = some (.int .i64 ((rd_T54 l0 aA).f0.f0)) ∧ w'.cell? ⟨(aB.add ((aA).toNat * 7)).block, (aB.add ((aA).toNat * 7)).off + 1, none⟩ = some (.int .i64 ((rd_T54 l0 aA).f0.f1)) ∧ w'.cell? ⟨(aB.add ((aA).toNat * 7)).block, (aB.add ((aA).toNat * 7)).off + 2, none⟩ = some (.int .i64 ((rd_T54 l0 aA).f0.f2)) ∧ w'.cell? ⟨(aB.add ((aA).toNat * 7)).block, (aB.add ((aA).toNat * 7)).off + 3, none⟩ = some (.string ((rd_T54 l0 aA).f0.f3)) ∧ w'.cell? ⟨(aB.add ((aA).toNat * 7)).block, (aB.add ((aA).toNat * 7)).off + 4, none⟩ = some (.int .i64 ((rd_T54 l0 aA).f1)) ∧ w'.cell? ⟨(aB.add ((aA).toNat * 7)).block, (aB.add ((aA).toNat * 7)).off + 5, none⟩ = some (.int .i64 ((rd_T54 l0 aA).f2)) ∧ w'.cell? ⟨(aB.add ((aA).toNat * 7)).block, (aB.add ((aA).toNat * 7)).off + 6, none⟩ = some (.int .i64 ((rd_T54 l0 aA).f3)) ∧ w'.cell? (aC.add ((aA).toNat * 7)) = some (.int .i64 ((rd_T54 l1 aA).f0.f0)) ∧ w'.cell? ⟨(aC.add ((aA).toNat * 7)).block, (aC.add ((aA).toNat * 7)).off + 1, none⟩ = some (.int .i64 ((rd_T54 l1 aA).f0.f1)) ∧ w'.cell? ⟨(aC.add ((aA).toNat * 7)).block, (aC.add ((aA).toNat * 7)).off + 2, none⟩ = some (.int .i64 ((rd_T54 l1 aA).f0.f2)) ∧ w'.cell? ⟨(aC.add ((aA).toNat * 7)).block, (aC.add ((aA).toNat * 7)).off + 3, none⟩ = some (.string ((rd_T54 l1 aA).f0.f3)) ∧ w'.cell? ⟨(aC.add ((aA).toNat * 7)).block, (aC.add ((aA).toNat * 7)).off + 4, none⟩ = some (.int .i64 ((rd_T54 l1 aA).f1)) ∧ w'.cell? ⟨(aC.add ((aA).toNat * 7)).block, (aC.add ((aA).toNat * 7)).off + 5, none⟩ = some (.int .i64 ((rd_T54 l1 aA).f2)) ∧ w'.cell? ⟨(aC.add ((aA).toNat * 7)).block, (aC.add ((aA).toNat * 7)).off + 6, none⟩ = some (.int .i64 ((rd_T54 l1 aA).f3))) (ds := []) (tf 0 10) (by kernel_rfl) rfl rfl ⟨(CY HB.out aX), (CY HB.out aW), (CY HB.out aV), (CY HB.out aU), (CY HB.out aT), (CY HB.out aS), (CY HB.out aR), (CY HB.out bE), (CY HB.out bD), (CY HB.out bC), (CY HB.out bB), (CY HB.out bA), (CY HB.out aZ), (CY HB.out aY)⟩ (fun bF => ?_); refine with_tabW laws_eqSentS.tab6 laws_eqSentS.bits6 (fun bG bO => ?_)
        generalize wr.drew = w9 at HB aD aE aF aG aH aI aJ aK aL aM aN aO aP aQ bF ⊢
        refine pv bG 0 17 (tf 1 9) ?_
        refine pv bG 1 18 (tf 2 8) ?_
        refine pv bG 2 19 (tf 3 7) ?_
        refine pv bG 4 21 (tr [3, 1, 1, 5]) ?_
        refine pv bG 5 22 (tr [3, 1, 2, 4]) ?_
        refine pv bG 6 23 (tr [3, 1, 3, 3]) ?_
        refine tk 3 (some 20) (tf 7 3) (take_ofW bG.out bO.out (by kernel_rfl)) bF ?_
        refine tk 7 (some 24) (tf 8 2) (take_ofW bG.out bO.out (by kernel_rfl)) bF ?_
        refine one_ (i := 8) (N := some 25) (tf 9 1) rfl rfl (one_of bG.out (by kernel_rfl)) (by decide) (fun K hK => ?_)
        refine goes_ Try.func24 (by kernel_rfl) rfl #[.agg #[.int .i64 ((rd_T54 l0 aA).f0.f0), .int .i64 ((rd_T54 l0 aA).f0.f1), .int .i64 ((rd_T54 l0 aA).f0.f2), .string ((rd_T54 l0 aA).f0.f3), .int .i64 ((rd_T54 l0 aA).f1), .int .i64 ((rd_T54 l0 aA).f2), .int .i64 ((rd_T54 l0 aA).f3)], .agg #[.int .i64 ((rd_T54 l1 aA).f0.f0), .int .i64 ((rd_T54 l1 aA).f0.f1), .int .i64 ((rd_T54 l1 aA).f0.f2), .string ((rd_T54 l1 aA).f0.f3), .int .i64 ((rd_T54 l1 aA).f1), .int .i64 ((rd_T54 l1 aA).f2), .int .i64 ((rd_T54 l1 aA).f3)]] (by rfl) rfl rfl MT ?_
        with_reducible refine (laws_eqSent.calls ((rd_T54 l0 aA).f0.f0) ((rd_T54 l0 aA).f0.f1) ((rd_T54 l0 aA).f0.f2) ((rd_T54 l0 aA).f0.f3) ((rd_T54 l0 aA).f1) ((rd_T54 l0 aA).f2) ((rd_T54 l0 aA).f3) ((rd_T54 l1 aA).f0.f0) ((rd_T54 l1 aA).f0.f1) ((rd_T54 l1 aA).f0.f2) ((rd_T54 l1 aA).f0.f3) ((rd_T54 l1 aA).f1) ((rd_T54 l1 aA).f2) ((rd_T54 l1 aA).f3) true _ A7.out).mono ?_
        rintro e bZ ⟨rfl, hb⟩
        refine ⟨_, rfl, ?_⟩
        replace HB := bl (KL HB) hb
        (try clear hb)
        (try clear hb2)
        (try clear hk)
        (try clear hi)
        refine hK.out _ _ ⟨(CY HB.out aX), (CY HB.out aW), (CY HB.out aV), (CY HB.out aU), (CY HB.out aT), (CY HB.out aS), (CY HB.out aR), (CY HB.out bE), (CY HB.out bD), (CY HB.out bC), (CY HB.out bB), (CY HB.out bA), (CY HB.out aZ), (CY HB.out aY)⟩ (fun bF => ?_)
        clear hK K
        refine nm (some 25) ?_
        refine pv bG 9 26 (tf 10 0) ?_
        refine done_ (done_of bG.out (by kernel_rfl)) ?_
        try go_wp2
        go_roundg k1
        case measure => have := HK1.out; omega
        case rel => exact ⟨(wrap64 (aA + 1)), (by first | rfl | (simp; done) | (simp [*]; done)), H', ⟨by have := HK1.out; omega⟩, ⟨KL HB⟩⟩
       ·replace c8 := Bool.eq_false_iff.mpr c8
        subst c8
        have H1 := nf H
        clear H
        have H := H1
        clear H1
        obtain rfl := sj H
        try go_wp2
        replace HB := am (below_drew1 HB.out)
        have bH : 0 ≤ (aA : Int) := OD
        have bI : aA < (l0.length : Int) := OD
        obtain ⟨aB, bL, aD, aE, aF, aG, aH, aI, aJ⟩ := at_T54 bT.out aA bH bI
        have aR := aJ
        have aS := aI
        have aT := aH
        have aU := aG
        have aV := aF
        have aW := aE
        have aX := aD
        cases bL
        replace aD := CX HB.out aD
        replace aE := CX HB.out aE
        replace aF := CX HB.out aF
        replace aG := CX HB.out aG
        replace aH := CX HB.out aH
        replace aI := CX HB.out aI
        replace aJ := CX HB.out aJ
        replace bH := eq_true bH
        replace bI := eq_true bI
        have bJ : 0 ≤ (aA : Int) := OD
        have bK : aA < (l1.length : Int) := OD
        obtain ⟨aC, bM, aK, aL, aM, aN, aO, aP, aQ⟩ := at_T54 bU.out aA bJ bK
        have aY := aQ
        have aZ := aP
        have bA := aO
        have bB := aN
        have bC := aM
        have bD := aL
        have bE := aK
        cases bM
        replace aK := CX HB.out aK
        replace aL := CX HB.out aL
        replace aM := CX HB.out aM
        replace aN := CX HB.out aN
        replace aO := CX HB.out aO
        replace aP := CX HB.out aP
        replace aQ := CX HB.out aQ
        replace bJ := eq_true bJ
        replace bK := eq_true bK
        refine start_ (n := 10) (S := fun w' => w'.cell? (aB.add ((aA).toNat * 7)) = some (.int .i64 ((rd_T54 l0 aA).f0.f0)) ∧ w'.cell? ⟨(aB.add ((aA).toNat * 7)).block, (aB.add ((aA).toNat * 7)).off + 1, none⟩ = some (.int .i64 ((rd_T54 l0 aA).f0.f1)) ∧ w'.cell? ⟨(aB.add ((aA).toNat * 7)).block, (aB.add ((aA).toNat * 7)).off + 2, none⟩ = some (.int .i64 ((rd_T54 l0 aA).f0.f2)) ∧ w'.cell? ⟨(aB.add ((aA).toNat * 7)).block, (aB.add ((aA).toNat * 7)).off + 3, none⟩ = some (.string ((rd_T54 l0 aA).f0.f3)) ∧ w'.cell? ⟨(aB.add ((aA).toNat * 7)).block, (aB.add ((aA).toNat * 7)).off + 4, none⟩ = some (.int .i64 ((rd_T54 l0 aA).f1)) ∧ w'.cell? ⟨(aB.add ((aA).toNat * 7)).block, (aB.add ((aA).toNat * 7)).off + 5, none⟩ = some (.int .i64 ((rd_T54 l0 aA).f2)) ∧ w'.cell? ⟨(aB.add ((aA).toNat * 7)).block, (aB.add ((aA).toNat * 7)).off + 6, none⟩ = some (.int .i64 ((rd_T54 l0 aA).f3)) ∧ w'.cell? (aC.add ((aA).toNat * 7)) = some (.int .i64 ((rd_T54 l1 aA).f0.f0)) ∧ w'.cell? ⟨(aC.add ((aA).toNat * 7)).block, (aC.add ((aA).toNat * 7)).off + 1, none⟩ = some (.int .i64 ((rd_T54 l1 aA).f0.f1)) ∧ w'.cell? ⟨(aC.add ((aA).toNat * 7)).block, (aC.add ((aA).toNat * 7)).off + 2, none⟩ = some (.int .i64 ((rd_T54 l1 aA).f0.f2)) ∧ w'.cell? ⟨(aC.add ((aA).toNat * 7)).block, (aC.add ((aA).toNat * 7)).off + 3, none⟩ = some (.string ((rd_T54 l1 aA).f0.f3)) ∧ w'.cell? ⟨(aC.add ((aA).toNat * 7)).block, (aC.add ((aA).toNat * 7)).off + 4, none⟩ = some (.int .i64 ((rd_T54 l1 aA).f1)) ∧ w'.cell? ⟨(aC.add ((aA).toNat * 7)).block, (aC.add ((aA).toNat * 7)).off + 5, none⟩ = some (.int .i64 ((rd_T54 l1 aA).f2)) ∧ w'.cell? ⟨(aC.add ((aA).toNat * 7)).block, (aC.add ((aA).toNat * 7)).off + 6, none⟩ = some (.int .i64 ((rd_T54 l1 aA).f3))) (ds := []) (tf 0 10) (by kernel_rfl) rfl rfl ⟨(CY HB.out aX), (CY HB.out aW), (CY HB.out aV), (CY HB.out aU), (CY HB.out aT), (CY HB.out aS), (CY HB.out aR), (CY HB.out bE), (CY HB.out bD), (CY HB.out bC), (CY HB.out bB), (CY HB.out bA), (CY HB.out aZ), (CY HB.out aY)⟩ (fun bF => ?_); refine with_tabW laws_eqSentS.tab6 laws_eqSentS.bits6 (fun bG bO => ?_)
        generalize wr.drew = cA at HB aD aE aF aG aH aI aJ aK aL aM aN aO aP aQ bF ⊢
        refine pv bG 0 17 (tf 1 9) ?_
        refine pv bG 1 18 (tf 2 8) ?_
        refine pv bG 2 19 (tf 3 7) ?_
        refine pv bG 4 21 (tr [3, 1, 1, 5]) ?_
        refine pv bG 5 22 (tr [3, 1, 2, 4]) ?_
        refine pv bG 6 23 (tr [3, 1, 3, 3]) ?_
        refine tk 3 (some 20) (tf 7 3) (take_ofW bG.out bO.out (by kernel_rfl)) bF ?_
        refine tk 7 (some 24) (tf 8 2) (take_ofW bG.out bO.out (by kernel_rfl)) bF ?_
        refine one_ (i := 8) (N := some 25) (tf 9 1) rfl rfl (one_of bG.out (by kernel_rfl)) (by decide) (fun K hK => ?_)
        refine goes_ Try.func24 (by kernel_rfl) rfl #[.agg #[.int .i64 ((rd_T54 l0 aA).f0.f0), .int .i64 ((rd_T54 l0 aA).f0.f1), .int .i64 ((rd_T54 l0 aA).f0.f2), .string ((rd_T54 l0 aA).f0.f3), .int .i64 ((rd_T54 l0 aA).f1), .int .i64 ((rd_T54 l0 aA).f2), .int .i64 ((rd_T54 l0 aA).f3)], .agg #[.int .i64 ((rd_T54 l1 aA).f0.f0), .int .i64 ((rd_T54 l1 aA).f0.f1), .int .i64 ((rd_T54 l1 aA).f0.f2), .string ((rd_T54 l1 aA).f0.f3), .int .i64 ((rd_T54 l1 aA).f1), .int .i64 ((rd_T54 l1 aA).f2), .int .i64 ((rd_T54 l1 aA).f3)]] (by rfl) rfl rfl MT ?_
        with_reducible refine (laws_eqSent.calls ((rd_T54 l0 aA).f0.f0) ((rd_T54 l0 aA).f0.f1) ((rd_T54 l0 aA).f0.f2) ((rd_T54 l0 aA).f0.f3) ((rd_T54 l0 aA).f1) ((rd_T54 l0 aA).f2) ((rd_T54 l0 aA).f3) ((rd_T54 l1 aA).f0.f0) ((rd_T54 l1 aA).f0.f1) ((rd_T54 l1 aA).f0.f2) ((rd_T54 l1 aA).f0.f3) ((rd_T54 l1 aA).f1) ((rd_T54 l1 aA).f2) ((rd_T54 l1 aA).f3) false _ A7.out).mono ?_
        rintro e cB ⟨rfl, hb⟩
        refine ⟨_, rfl, ?_⟩
        replace HB := bl (KL HB) hb
        (try clear hb)
        (try clear hb2)
        (try clear hk)
        (try clear hi)
        refine hK.out _ _ ⟨(CY HB.out aX), (CY HB.out aW), (CY HB.out aV), (CY HB.out aU), (CY HB.out aT), (CY HB.out aS), (CY HB.out aR), (CY HB.out bE), (CY HB.out bD), (CY HB.out bC), (CY HB.out bB), (CY HB.out bA), (CY HB.out aZ), (CY HB.out aY)⟩ (fun bF => ?_)
        clear hK K
        refine nm (some 25) ?_
        refine pv bG 9 26 (tf 10 0) ?_
        refine done_ (done_of bG.out (by kernel_rfl)) ?_
        try go_wp2
        go_ret
        exact ⟨ER, KL HB⟩
      ·rw [if_neg c6] at H
       exact absurd H (by simp)
     ·rw [if_neg c5] at H
      exact absurd H (by simp)
    ·rw [if_neg c4] at H
     have c4b0 : decide (aA < (l0.length : Int)) = false := decide_eq_false c4
     clear c4
     obtain rfl := sj H
     go_wp2
     go_ret
     exact ⟨ER, KL HB⟩
 ·rw [if_neg c3] at H
  have c3b0 : ((l0.length : Int) == (l1.length : Int)) = false := beq_eq_false_iff_ne.mpr c3
  have c3b1 : ((l0.length : Int) != (l1.length : Int)) = true := bne_iff_ne.mpr c3
  have c3b2 : (l0.length == l1.length) = false := by first | simpa using c3 | (simp at c3 ⊢; omega)
  obtain rfl := sj H
  go_enter Try.func13, Try.ntmps13
  go_wp2
  go_ret
  exact ⟨ER, KL HB⟩
def laws_eqWorld.f (k : Nat) (a0_0 : Int) (l0_1 : List (S63)) (a0_2 : Int) (l0_3 : List (S80)) (l0_4 : List (S70)) (l0_5 : List (S70)) (a0_6 : Int) (l0_7 : List (S63)) (a0_8 : Int) (l0_9 : List (S80)) (l0_10 : List (S70)) (l0_11 : List (S70)) (l0_12 : List (S49)) (l0_13 : List (S54)) (l0_14 : List (S54)) (a1_0 : Int) (l1_1 : List (S63)) (a1_2 : Int) (l1_3 : List (S80)) (l1_4 : List (S70)) (l1_5 : List (S70)) (a1_6 : Int) (l1_7 : List (S63)) (a1_8 : Int) (l1_9 : List (S80)) (l1_10 : List (S70)) (l1_11 : List (S70)) (l1_12 : List (S49)) (l1_13 : List (S54)) (l1_14 : List (S54)) : Option (Bool) := (laws_eqGate.f k a0_0 l0_1 a0_2 l0_3 l0_4 l0_5 a1_0 l1_1 a1_2 l1_3 l1_4 l1_5).bind fun t103 => (if t103 = true then ((laws_eqGate.f k a0_6 l0_7 a0_8 l0_9 l0_10 l0_11 a1_6 l1_7 a1_8 l1_9 l1_10 l1_11).bind fun t104 => (if t104 = true then ((laws_eqAirS.f k l0_12 l1_12).bind fun t105 => (if t105 = true then ((laws_eqSentS.f k l0_13 l1_13).bind fun t106 => (if t106 = true then ((laws_eqSentS.f k l0_14 l1_14).bind fun t107 => (if t107 = true then (some true) else (some false))) else (some false))) else (some false))) else (some false))) else (some false))
theorem laws_eqWorld.calls (k : Nat) (bD : Int) (cH : Option Addr) (cI : Nat) (aR : List (S63)) (bE : Int) (cJ : Option Addr) (cK : Nat) (aS : List (S80)) (cL : Option Addr) (cM : Nat) (aT : List (S70)) (cN : Option Addr) (cO : Nat) (aU : List (S70)) (bH : Int) (cX : Option Addr) (cY : Nat) (aZ : List (S63)) (bI : Int) (cZ : Option Addr) (dA : Nat) (bA : List (S80)) (bJ : Option Addr) (bK : Nat) (aG : List (S70)) (bL : Option Addr) (bM : Nat) (aH : List (S70)) (bT : Option Addr) (bU : Nat) (aL : List (S49)) (bX : Option Addr) (bY : Nat) (aN : List (S54)) (cD : Option Addr) (cE : Nat) (aP : List (S54)) (bF : Int) (cP : Option Addr) (cQ : Nat) (aV : List (S63)) (bG : Int) (cR : Option Addr) (cS : Nat) (aW : List (S80)) (cT : Option Addr) (cU : Nat) (aX : List (S70)) (cV : Option Addr) (cW : Nat) (aY : List (S70)) (bN : Int) (dB : Option Addr) (dC : Nat) (bB : List (S63)) (bO : Int) (dD : Option Addr) (dE : Nat) (bC : List (S80)) (bP : Option Addr) (bQ : Nat) (aI : List (S70)) (bR : Option Addr) (bS : Nat) (aJ : List (S70)) (bV : Option Addr) (bW : Nat) (aM : List (S49)) (bZ : Option Addr) (cA : Nat) (aO : List (S54)) (cF : Option Addr) (cG : Nat) (aQ : List (S54)) (r : Bool) (w : World) (fY : Kd.C k63 w cH aR.length aR) (fZ : aR.length ≤ cI) (gA : Kd.C k80 w cJ aS.length aS) (gB : aS.length ≤ cK) (gC : Kd.C k70 w cL aT.length aT) (gD : aT.length ≤ cM) (gE : Kd.C k70 w cN aU.length aU) (gF : aU.length ≤ cO) (gG : Kd.C k63 w cX aZ.length aZ) (gH : aZ.length ≤ cY) (gI : Kd.C k80 w cZ bA.length bA) (gJ : bA.length ≤ dA) (eZ : Kd.C k70 w bJ aG.length aG) (fA : aG.length ≤ bK) (fB : Kd.C k70 w bL aH.length aH) (fC : aH.length ≤ bM) (fD : Kd.C k49 w bT aL.length aL) (fE : aL.length ≤ bU) (fF : Kd.C k54 w bX aN.length aN) (fG : aN.length ≤ bY) (fH : Kd.C k54 w cD aP.length aP) (fI : aP.length ≤ cE) (gK : Kd.C k63 w cP aV.length aV) (gL : aV.length ≤ cQ) (gM : Kd.C k80 w cR aW.length aW) (gN : aW.length ≤ cS) (gO : Kd.C k70 w cT aX.length aX) (gP : aX.length ≤ cU) (gQ : Kd.C k70 w cV aY.length aY) (gR : aY.length ≤ cW) (gS : Kd.C k63 w dB bB.length bB) (gT : bB.length ≤ dC) (gU : Kd.C k80 w dD bC.length bC) (gV : bC.length ≤ dE) (fJ : Kd.C k70 w bP aI.length aI) (fK : aI.length ≤ bQ) (fL : Kd.C k70 w bR aJ.length aJ) (fM : aJ.length ≤ bS) (fN : Kd.C k49 w bV aM.length aM) (fO : aM.length ≤ bW) (fP : Kd.C k54 w bZ aO.length aO) (fQ : aO.length ≤ cA) (fR : Kd.C k54 w cF aQ.length aQ) (fS : aQ.length ≤ cG) (h : laws_eqWorld.f k bD aR bE aS aT aU bH aZ bI bA aG aH aL aN aP bF aV bG aW aX aY bN bB bO bC aI aJ aM aO aQ = some r) :
  Calls Try.prog 6 #[.agg #[.int .i64 bD, .slice cH aR.length cI, .int .i64 bE, .slice cJ aS.length cK, .slice cL aT.length cM, .slice cN aU.length cO, .int .i64 bH, .slice cX aZ.length cY, .int .i64 bI, .slice cZ bA.length dA, .slice bJ aG.length bK, .slice bL aH.length bM, .slice bT aL.length bU, .slice bX aN.length bY, .slice cD aP.length cE], .agg #[.int .i64 bF, .slice cP aV.length cQ, .int .i64 bG, .slice cR aW.length cS, .slice cT aX.length cU, .slice cV aY.length cW, .int .i64 bN, .slice dB bB.length dC, .int .i64 bO, .slice dD bC.length dE, .slice bP aI.length bQ, .slice bR aJ.length bS, .slice bV aM.length bW, .slice bZ aO.length cA, .slice cF aQ.length cG]] w fun e w' => e = .returned (.bool r) ∧ Below w.heap.size w w' := by
 have hu32 := Try.underlying32
 have hu28 := Try.underlying28
 have dP := Aside0.mk fY
 have dQ := Aside0.mk fZ
 clear fY fZ
 have dR := Aside0.mk gA
 have dS := Aside0.mk gB
 clear gA gB
 have dT := Aside0.mk gC
 have dU := Aside0.mk gD
 clear gC gD
 have dV := Aside0.mk gE
 have dW := Aside0.mk gF
 clear gE gF
 have eJ := Aside0.mk gG
 have eK := Aside0.mk gH
 clear gG gH
 have eL := Aside0.mk gI
 have eM := Aside0.mk gJ
 clear gI gJ
 have dG := Aside0.mk eZ
 have dH := Aside0.mk fA
 clear eZ fA
 have dI := Aside0.mk fB
 have dJ := Aside0.mk fC
 clear fB fC
 have eF := Aside0.mk fD
 have eG := Aside0.mk fE
 clear fD fE
 have eU := Aside0.mk fF
 have eV := Aside0.mk fG
 clear fF fG
 have fT := Aside0.mk fH
 have fU := Aside0.mk fI
 clear fH fI
 have dX := Aside0.mk gK
 have dY := Aside0.mk gL
 clear gK gL
 have dZ := Aside0.mk gM
 have eA := Aside0.mk gN
 clear gM gN
 have eB := Aside0.mk gO
 have eC := Aside0.mk gP
 clear gO gP
 have eD := Aside0.mk gQ
 have eE := Aside0.mk gR
 clear gQ gR
 have eN := Aside0.mk gS
 have eO := Aside0.mk gT
 clear gS gT
 have eP := Aside0.mk gU
 have eQ := Aside0.mk gV
 clear gU gV
 have dK := Aside0.mk fJ
 have dL := Aside0.mk fK
 clear fJ fK
 have dM := Aside0.mk fL
 have dN := Aside0.mk fM
 clear fL fM
 have eH := Aside0.mk fN
 have eI := Aside0.mk fO
 clear fN fO
 have eW := Aside0.mk fP
 have eX := Aside0.mk fQ
 clear fP fQ
 have fV := Aside0.mk fR
 have fW := Aside0.mk fS
 clear fR fS
 have HB := am (Below.refl w.heap.size w)
 have H : ((laws_eqGate.f k bD aR bE aS aT aU bF aV bG aW aX aY).bind fun fX => (if fX = true then ((laws_eqGate.f k bH aZ bI bA aG aH bN bB bO bC aI aJ).bind fun eY => (if eY = true then ((laws_eqAirS.f k aL aM).bind fun eR => (if eR = true then ((laws_eqSentS.f k aN aO).bind fun dO => (if dO = true then ((laws_eqSentS.f k aP aQ).bind fun dF => (if dF = true then (some true) else (some false))) else (some false))) else (some false))) else (some false))) else (some false))) = some r := h
 clear h
 replace H := bm H
 obtain ⟨fX, A30, H⟩ := H
 replace H : (if fX = true then ((laws_eqGate.f k bH aZ bI bA aG aH bN bB bO bC aI aJ).bind fun eY => (if eY = true then ((laws_eqAirS.f k aL aM).bind fun eR => (if eR = true then ((laws_eqSentS.f k aN aO).bind fun dO => (if dO = true then ((laws_eqSentS.f k aP aQ).bind fun dF => (if dF = true then (some true) else (some false))) else (some false))) else (some false))) else (some false))) else (some false)) = some r := H
 have A3 := Aside0.mk A30
 clear A30
 by_cases c4 : fX = true
 ·subst c4
  have H1 := pf H
  clear H
  have H := H1
  clear H1
  replace H := bm H
  obtain ⟨eY, A50, H⟩ := H
  replace H : (if eY = true then ((laws_eqAirS.f k aL aM).bind fun eR => (if eR = true then ((laws_eqSentS.f k aN aO).bind fun dO => (if dO = true then ((laws_eqSentS.f k aP aQ).bind fun dF => (if dF = true then (some true) else (some false))) else (some false))) else (some false))) else (some false)) = some r := H
  have A5 := Aside0.mk A50
  clear A50
  by_cases c6 : eY = true
  ·subst c6
   have H1 := pf H
   clear H
   have H := H1
   clear H1
   replace H := bm H
   obtain ⟨eR, A70, H⟩ := H
   replace H : (if eR = true then ((laws_eqSentS.f k aN aO).bind fun dO => (if dO = true then ((laws_eqSentS.f k aP aQ).bind fun dF => (if dF = true then (some true) else (some false))) else (some false))) else (some false)) = some r := H
   have A7 := Aside0.mk A70
   clear A70
   by_cases c8 : eR = true
   ·subst c8
    have H1 := pf H
    clear H
    have H := H1
    clear H1
    replace H := bm H
    obtain ⟨dO, A90, H⟩ := H
    replace H : (if dO = true then ((laws_eqSentS.f k aP aQ).bind fun dF => (if dF = true then (some true) else (some false))) else (some false)) = some r := H
    have A9 := Aside0.mk A90
    clear A90
    by_cases oP : dO = true
    ·subst oP
     have H1 := pf H
     clear H
     have H := H1
     clear H1
     replace H := bm H
     obtain ⟨dF, gW, H⟩ := H
     replace H : (if dF = true then (some true) else (some false)) = some r := H
     have A11 := Aside0.mk gW
     clear gW
     by_cases oQ : dF = true
     ·subst oQ
      have H1 := pf H
      clear H
      have H := H1
      clear H1
      obtain rfl := sj H
      go_enter Try.func6, Try.ntmps6
      go_wp2_with (first | ((with_reducible refine gate_dst (N := 2) rfl ?_); refine box_event rfl (N := 2) rfl (cs := #[.int .i64 bD, .slice cH aR.length cI, .int .i64 bE, .slice cJ aS.length cK, .slice cL aT.length cM, .slice cN aU.length cO, .int .i64 bH, .slice cX aZ.length cY, .int .i64 bI, .slice cZ bA.length dA, .slice bJ aG.length bK, .slice bL aH.length bM, .slice bT aL.length bU, .slice bX aN.length bY, .slice cD aP.length cE]) (t := 32) BX ?_; intro eS hg w13 aK hb; have aA := am (aK); have cB := am (GH HB hg); have aC := cB; replace HB := bl (KL HB) hb; clear hb aK hg) | ((with_reducible refine gate_dst (N := 3) rfl ?_); refine box_event rfl (N := 3) rfl (cs := #[.int .i64 bF, .slice cP aV.length cQ, .int .i64 bG, .slice cR aW.length cS, .slice cT aX.length cU, .slice cV aY.length cW, .int .i64 bN, .slice dB bB.length dC, .int .i64 bO, .slice dD bC.length dE, .slice bP aI.length bQ, .slice bR aJ.length bS, .slice bV aM.length bW, .slice bZ aO.length cA, .slice cF aQ.length cG]) (t := 32) BX ?_; intro eT hg w14 aK hb; have aB := am (aK); have cC := am (GH1 HB aC.out hg); have aD := cC; replace HB := bl (K1 HB aC.out) hb; have aE := am (NL aA hg); have aF := am (NG aA hg); replace aA := am (BB aA hb); clear hb aK hg; have hnb15 := aE.out; have hnc15 := aF.out; have ⟨_, _, _, _, _, _, _, _, _, _, _, _, _, _, _, _⟩ := y15 w14 aA.out; have ⟨_, _, _, _, _, _, _, _, _, _, _, _, _, _, _, _⟩ := y15 w14 aB.out) | ((with_reducible refine gate_callee (f := 11) rfl ?_); refine goesL_ (some 9) rfl rfl Try.func11 (by kernel_rfl) rfl #[.agg #[.int .i64 bD, .slice cH aR.length cI, .int .i64 bE, .slice cJ aS.length cK, .slice cL aT.length cM, .slice cN aU.length cO], .agg #[.int .i64 bF, .slice cP aV.length cQ, .int .i64 bG, .slice cR aW.length cS, .slice cT aX.length cU, .slice cV aY.length cW]] rfl MT ?_; (with_reducible refine (laws_eqGate.calls k bD _ _ aR bE _ _ aS _ _ aT _ _ aU bF _ _ aV bG _ _ aW _ _ aX _ _ aY true _ ?_ ?_ ?_ ?_ ?_ ?_ ?_ ?_ ?_ ?_ ?_ ?_ ?_ ?_ ?_ ?_ A3.out).mono ?_); exact KD dP HB; exact dQ.out; exact KD dR HB; exact dS.out; exact KD dT HB; exact dU.out; exact KD dV HB; exact dW.out; exact KD dX HB; exact dY.out; exact KD dZ HB; exact eA.out; exact KD eB HB; exact eC.out; exact KD eD HB; exact eE.out; rintro e w18 ⟨rfl, hb⟩; refine ⟨_, rfl, ?_⟩; replace aA := am (BB aA hb); replace aB := am (BB aB hb); replace HB := bl (K2 HB aC.out aD.out) hb; (try clear hb); have ⟨_, _, _, _, _, _, _, _, _, _, _, _, _, _, _, _⟩ := y15 w18 aA.out; have ⟨_, _, _, _, _, _, _, _, _, _, _, _, _, _, _, _⟩ := y15 w18 aB.out) | ((with_reducible refine gate_callee (f := 11) rfl ?_); refine goesL_ (some 15) rfl rfl Try.func11 (by kernel_rfl) rfl #[.agg #[.int .i64 bH, .slice cX aZ.length cY, .int .i64 bI, .slice cZ bA.length dA, .slice bJ aG.length bK, .slice bL aH.length bM], .agg #[.int .i64 bN, .slice dB bB.length dC, .int .i64 bO, .slice dD bC.length dE, .slice bP aI.length bQ, .slice bR aJ.length bS]] rfl MT ?_; (with_reducible refine (laws_eqGate.calls k bH _ _ aZ bI _ _ bA _ _ aG _ _ aH bN _ _ bB bO _ _ bC _ _ aI _ _ aJ true _ ?_ ?_ ?_ ?_ ?_ ?_ ?_ ?_ ?_ ?_ ?_ ?_ ?_ ?_ ?_ ?_ A5.out).mono ?_); exact KD eJ HB; exact eK.out; exact KD eL HB; exact eM.out; exact KD dG HB; exact dH.out; exact KD dI HB; exact dJ.out; exact KD eN HB; exact eO.out; exact KD eP HB; exact eQ.out; exact KD dK HB; exact dL.out; exact KD dM HB; exact dN.out; rintro e w21 ⟨rfl, hb⟩; refine ⟨_, rfl, ?_⟩; replace aA := am (BB aA hb); replace aB := am (BB aB hb); replace HB := bl (K2 HB aC.out aD.out) hb; (try clear hb); have ⟨_, _, _, _, _, _, _, _, _, _, _, _, _, _, _, _⟩ := y15 w21 aA.out; have ⟨_, _, _, _, _, _, _, _, _, _, _, _, _, _, _, _⟩ := y15 w21 aB.out) | ((with_reducible refine gate_callee (f := 12) rfl ?_); refine goesL_ (some 21) rfl rfl Try.func12 (by kernel_rfl) rfl #[.slice bT aL.length bU, .slice bV aM.length bW] rfl MT ?_; (with_reducible refine (laws_eqAirS.calls k _ _ aL _ _ aM true _ ?_ ?_ ?_ ?_ A7.out).mono ?_); exact KD eF HB; exact eG.out; exact KD eH HB; exact eI.out; rintro e w24 ⟨rfl, hb⟩; refine ⟨_, rfl, ?_⟩; replace aA := am (BB aA hb); replace aB := am (BB aB hb); replace HB := bl (K2 HB aC.out aD.out) hb; (try clear hb); have ⟨_, _, _, _, _, _, _, _, _, _, _, _, _, _, _, _⟩ := y15 w24 aA.out; have ⟨_, _, _, _, _, _, _, _, _, _, _, _, _, _, _, _⟩ := y15 w24 aB.out) | ((with_reducible refine gate_callee (f := 13) rfl ?_); refine goesL_ (some 27) rfl rfl Try.func13 (by kernel_rfl) rfl #[.slice bX aN.length bY, .slice bZ aO.length cA] rfl MT ?_; (with_reducible refine (laws_eqSentS.calls k _ _ aN _ _ aO true _ ?_ ?_ ?_ ?_ A9.out).mono ?_); exact KD eU HB; exact eV.out; exact KD eW HB; exact eX.out; rintro e w27 ⟨rfl, hb⟩; refine ⟨_, rfl, ?_⟩; replace aA := am (BB aA hb); replace aB := am (BB aB hb); replace HB := bl (K2 HB aC.out aD.out) hb; (try clear hb); have ⟨_, _, _, _, _, _, _, _, _, _, _, _, _, _, _, _⟩ := y15 w27 aA.out; have ⟨_, _, _, _, _, _, _, _, _, _, _, _, _, _, _, _⟩ := y15 w27 aB.out) | ((with_reducible refine gate_callee (f := 13) rfl ?_); refine goesL_ (some 33) rfl rfl Try.func13 (by kernel_rfl) rfl #[.slice cD aP.length cE, .slice cF aQ.length cG] rfl MT ?_; (with_reducible refine (laws_eqSentS.calls k _ _ aP _ _ aQ true _ ?_ ?_ ?_ ?_ A11.out).mono ?_); exact KD fT HB; exact fU.out; exact KD fV HB; exact fW.out; rintro e w30 ⟨rfl, hb⟩; refine ⟨_, rfl, ?_⟩; replace aA := am (BB aA hb); replace aB := am (BB aB hb); replace HB := bl (K2 HB aC.out aD.out) hb; (try clear hb)))
      go_ret
      exact ⟨ER, K2 HB aC.out aD.out⟩
     ·replace oQ := Bool.eq_false_iff.mpr oQ
      subst oQ
      have H1 := nf H
      clear H
      have H := H1
      clear H1
      obtain rfl := sj H
      go_enter Try.func6, Try.ntmps6
      go_wp2_with (first | ((with_reducible refine gate_dst (N := 2) rfl ?_); refine box_event rfl (N := 2) rfl (cs := #[.int .i64 bD, .slice cH aR.length cI, .int .i64 bE, .slice cJ aS.length cK, .slice cL aT.length cM, .slice cN aU.length cO, .int .i64 bH, .slice cX aZ.length cY, .int .i64 bI, .slice cZ bA.length dA, .slice bJ aG.length bK, .slice bL aH.length bM, .slice bT aL.length bU, .slice bX aN.length bY, .slice cD aP.length cE]) (t := 32) BX ?_; intro eS hg w31 aK hb; have aA := am (aK); have cB := am (GH HB hg); have aC := cB; replace HB := bl (KL HB) hb; clear hb aK hg) | ((with_reducible refine gate_dst (N := 3) rfl ?_); refine box_event rfl (N := 3) rfl (cs := #[.int .i64 bF, .slice cP aV.length cQ, .int .i64 bG, .slice cR aW.length cS, .slice cT aX.length cU, .slice cV aY.length cW, .int .i64 bN, .slice dB bB.length dC, .int .i64 bO, .slice dD bC.length dE, .slice bP aI.length bQ, .slice bR aJ.length bS, .slice bV aM.length bW, .slice bZ aO.length cA, .slice cF aQ.length cG]) (t := 32) BX ?_; intro eT hg w32 aK hb; have aB := am (aK); have cC := am (GH1 HB aC.out hg); have aD := cC; replace HB := bl (K1 HB aC.out) hb; have aE := am (NL aA hg); have aF := am (NG aA hg); replace aA := am (BB aA hb); clear hb aK hg; have hnb33 := aE.out; have hnc33 := aF.out; have ⟨_, _, _, _, _, _, _, _, _, _, _, _, _, _, _, _⟩ := y15 w32 aA.out; have ⟨_, _, _, _, _, _, _, _, _, _, _, _, _, _, _, _⟩ := y15 w32 aB.out) | ((with_reducible refine gate_callee (f := 11) rfl ?_); refine goesL_ (some 9) rfl rfl Try.func11 (by kernel_rfl) rfl #[.agg #[.int .i64 bD, .slice cH aR.length cI, .int .i64 bE, .slice cJ aS.length cK, .slice cL aT.length cM, .slice cN aU.length cO], .agg #[.int .i64 bF, .slice cP aV.length cQ, .int .i64 bG, .slice cR aW.length cS, .slice cT aX.length cU, .slice cV aY.length cW]] rfl MT ?_; (with_reducible refine (laws_eqGate.calls k bD _ _ aR bE _ _ aS _ _ aT _ _ aU bF _ _ aV bG _ _ aW _ _ aX _ _ aY true _ ?_ ?_ ?_ ?_ ?_ ?_ ?_ ?_ ?_ ?_ ?_ ?_ ?_ ?_ ?_ ?_ A3.out).mono ?_); exact KD dP HB; exact dQ.out; exact KD dR HB; exact dS.out; exact KD dT HB; exact dU.out; exact KD dV HB; exact dW.out; exact KD dX HB; exact dY.out; exact KD dZ HB; exact eA.out; exact KD eB HB; exact eC.out; exact KD eD HB; exact eE.out; rintro e w36 ⟨rfl, hb⟩; refine ⟨_, rfl, ?_⟩; replace aA := am (BB aA hb); replace aB := am (BB aB hb); replace HB := bl (K2 HB aC.out aD.out) hb; (try clear hb); have ⟨_, _, _, _, _, _, _, _, _, _, _, _, _, _, _, _⟩ := y15 w36 aA.out; have ⟨_, _, _, _, _, _, _, _, _, _, _, _, _, _, _, _⟩ := y15 w36 aB.out) | ((with_reducible refine gate_callee (f := 11) rfl ?_); refine goesL_ (some 15) rfl rfl Try.func11 (by kernel_rfl) rfl #[.agg #[.int .i64 bH, .slice cX aZ.length cY, .int .i64 bI, .slice cZ bA.length dA, .slice bJ aG.length bK, .slice bL aH.length bM], .agg #[.int .i64 bN, .slice dB bB.length dC, .int .i64 bO, .slice dD bC.length dE, .slice bP aI.length bQ, .slice bR aJ.length bS]] rfl MT ?_; (with_reducible refine (laws_eqGate.calls k bH _ _ aZ bI _ _ bA _ _ aG _ _ aH bN _ _ bB bO _ _ bC _ _ aI _ _ aJ true _ ?_ ?_ ?_ ?_ ?_ ?_ ?_ ?_ ?_ ?_ ?_ ?_ ?_ ?_ ?_ ?_ A5.out).mono ?_); exact KD eJ HB; exact eK.out; exact KD eL HB; exact eM.out; exact KD dG HB; exact dH.out; exact KD dI HB; exact dJ.out; exact KD eN HB; exact eO.out; exact KD eP HB; exact eQ.out; exact KD dK HB; exact dL.out; exact KD dM HB; exact dN.out; rintro e w39 ⟨rfl, hb⟩; refine ⟨_, rfl, ?_⟩; replace aA := am (BB aA hb); replace aB := am (BB aB hb); replace HB := bl (K2 HB aC.out aD.out) hb; (try clear hb); have ⟨_, _, _, _, _, _, _, _, _, _, _, _, _, _, _, _⟩ := y15 w39 aA.out; have ⟨_, _, _, _, _, _, _, _, _, _, _, _, _, _, _, _⟩ := y15 w39 aB.out) | ((with_reducible refine gate_callee (f := 12) rfl ?_); refine goesL_ (some 21) rfl rfl Try.func12 (by kernel_rfl) rfl #[.slice bT aL.length bU, .slice bV aM.length bW] rfl MT ?_; (with_reducible refine (laws_eqAirS.calls k _ _ aL _ _ aM true _ ?_ ?_ ?_ ?_ A7.out).mono ?_); exact KD eF HB; exact eG.out; exact KD eH HB; exact eI.out; rintro e w42 ⟨rfl, hb⟩; refine ⟨_, rfl, ?_⟩; replace aA := am (BB aA hb); replace aB := am (BB aB hb); replace HB := bl (K2 HB aC.out aD.out) hb; (try clear hb); have ⟨_, _, _, _, _, _, _, _, _, _, _, _, _, _, _, _⟩ := y15 w42 aA.out; have ⟨_, _, _, _, _, _, _, _, _, _, _, _, _, _, _, _⟩ := y15 w42 aB.out) | ((with_reducible refine gate_callee (f := 13) rfl ?_); refine goesL_ (some 27) rfl rfl Try.func13 (by kernel_rfl) rfl #[.slice bX aN.length bY, .slice bZ aO.length cA] rfl MT ?_; (with_reducible refine (laws_eqSentS.calls k _ _ aN _ _ aO true _ ?_ ?_ ?_ ?_ A9.out).mono ?_); exact KD eU HB; exact eV.out; exact KD eW HB; exact eX.out; rintro e w45 ⟨rfl, hb⟩; refine ⟨_, rfl, ?_⟩; replace aA := am (BB aA hb); replace aB := am (BB aB hb); replace HB := bl (K2 HB aC.out aD.out) hb; (try clear hb); have ⟨_, _, _, _, _, _, _, _, _, _, _, _, _, _, _, _⟩ := y15 w45 aA.out; have ⟨_, _, _, _, _, _, _, _, _, _, _, _, _, _, _, _⟩ := y15 w45 aB.out) | ((with_reducible refine gate_callee (f := 13) rfl ?_); refine goesL_ (some 33) rfl rfl Try.func13 (by kernel_rfl) rfl #[.slice cD aP.length cE, .slice cF aQ.length cG] rfl MT ?_; (with_reducible refine (laws_eqSentS.calls k _ _ aP _ _ aQ false _ ?_ ?_ ?_ ?_ A11.out).mono ?_); exact KD fT HB; exact fU.out; exact KD fV HB; exact fW.out; rintro e w48 ⟨rfl, hb⟩; refine ⟨_, rfl, ?_⟩; replace aA := am (BB aA hb); replace aB := am (BB aB hb); replace HB := bl (K2 HB aC.out aD.out) hb; (try clear hb)))
      go_ret
      exact ⟨ER, K2 HB aC.out aD.out⟩
    ·replace oP := Bool.eq_false_iff.mpr oP
     subst oP
     have H1 := nf H
     clear H
     have H := H1
     clear H1
     obtain rfl := sj H
     go_enter Try.func6, Try.ntmps6
     go_wp2_with (first | ((with_reducible refine gate_dst (N := 2) rfl ?_); refine box_event rfl (N := 2) rfl (cs := #[.int .i64 bD, .slice cH aR.length cI, .int .i64 bE, .slice cJ aS.length cK, .slice cL aT.length cM, .slice cN aU.length cO, .int .i64 bH, .slice cX aZ.length cY, .int .i64 bI, .slice cZ bA.length dA, .slice bJ aG.length bK, .slice bL aH.length bM, .slice bT aL.length bU, .slice bX aN.length bY, .slice cD aP.length cE]) (t := 32) BX ?_; intro eS hg w49 aK hb; have aA := am (aK); have cB := am (GH HB hg); have aC := cB; replace HB := bl (KL HB) hb; clear hb aK hg) | ((with_reducible refine gate_dst (N := 3) rfl ?_); refine box_event rfl (N := 3) rfl (cs := #[.int .i64 bF, .slice cP aV.length cQ, .int .i64 bG, .slice cR aW.length cS, .slice cT aX.length cU, .slice cV aY.length cW, .int .i64 bN, .slice dB bB.length dC, .int .i64 bO, .slice dD bC.length dE, .slice bP aI.length bQ, .slice bR aJ.length bS, .slice bV aM.length bW, .slice bZ aO.length cA, .slice cF aQ.length cG]) (t := 32) BX ?_; intro eT hg w50 aK hb; have aB := am (aK); have cC := am (GH1 HB aC.out hg); have aD := cC; replace HB := bl (K1 HB aC.out) hb; have aE := am (NL aA hg); have aF := am (NG aA hg); replace aA := am (BB aA hb); clear hb aK hg; have hnb51 := aE.out; have hnc51 := aF.out; have ⟨_, _, _, _, _, _, _, _, _, _, _, _, _, _, _, _⟩ := y15 w50 aA.out; have ⟨_, _, _, _, _, _, _, _, _, _, _, _, _, _, _, _⟩ := y15 w50 aB.out) | ((with_reducible refine gate_callee (f := 11) rfl ?_); refine goesL_ (some 9) rfl rfl Try.func11 (by kernel_rfl) rfl #[.agg #[.int .i64 bD, .slice cH aR.length cI, .int .i64 bE, .slice cJ aS.length cK, .slice cL aT.length cM, .slice cN aU.length cO], .agg #[.int .i64 bF, .slice cP aV.length cQ, .int .i64 bG, .slice cR aW.length cS, .slice cT aX.length cU, .slice cV aY.length cW]] rfl MT ?_; (with_reducible refine (laws_eqGate.calls k bD _ _ aR bE _ _ aS _ _ aT _ _ aU bF _ _ aV bG _ _ aW _ _ aX _ _ aY true _ ?_ ?_ ?_ ?_ ?_ ?_ ?_ ?_ ?_ ?_ ?_ ?_ ?_ ?_ ?_ ?_ A3.out).mono ?_); exact KD dP HB; exact dQ.out; exact KD dR HB; exact dS.out; exact KD dT HB; exact dU.out; exact KD dV HB; exact dW.out; exact KD dX HB; exact dY.out; exact KD dZ HB; exact eA.out; exact KD eB HB; exact eC.out; exact KD eD HB; exact eE.out; rintro e w54 ⟨rfl, hb⟩; refine ⟨_, rfl, ?_⟩; replace aA := am (BB aA hb); replace aB := am (BB aB hb); replace HB := bl (K2 HB aC.out aD.out) hb; (try clear hb); have ⟨_, _, _, _, _, _, _, _, _, _, _, _, _, _, _, _⟩ := y15 w54 aA.out; have ⟨_, _, _, _, _, _, _, _, _, _, _, _, _, _, _, _⟩ := y15 w54 aB.out) | ((with_reducible refine gate_callee (f := 11) rfl ?_); refine goesL_ (some 15) rfl rfl Try.func11 (by kernel_rfl) rfl #[.agg #[.int .i64 bH, .slice cX aZ.length cY, .int .i64 bI, .slice cZ bA.length dA, .slice bJ aG.length bK, .slice bL aH.length bM], .agg #[.int .i64 bN, .slice dB bB.length dC, .int .i64 bO, .slice dD bC.length dE, .slice bP aI.length bQ, .slice bR aJ.length bS]] rfl MT ?_; (with_reducible refine (laws_eqGate.calls k bH _ _ aZ bI _ _ bA _ _ aG _ _ aH bN _ _ bB bO _ _ bC _ _ aI _ _ aJ true _ ?_ ?_ ?_ ?_ ?_ ?_ ?_ ?_ ?_ ?_ ?_ ?_ ?_ ?_ ?_ ?_ A5.out).mono ?_); exact KD eJ HB; exact eK.out; exact KD eL HB; exact eM.out; exact KD dG HB; exact dH.out; exact KD dI HB; exact dJ.out; exact KD eN HB; exact eO.out; exact KD eP HB; exact eQ.out; exact KD dK HB; exact dL.out; exact KD dM HB; exact dN.out; rintro e w57 ⟨rfl, hb⟩; refine ⟨_, rfl, ?_⟩; replace aA := am (BB aA hb); replace aB := am (BB aB hb); replace HB := bl (K2 HB aC.out aD.out) hb; (try clear hb); have ⟨_, _, _, _, _, _, _, _, _, _, _, _, _, _, _, _⟩ := y15 w57 aA.out; have ⟨_, _, _, _, _, _, _, _, _, _, _, _, _, _, _, _⟩ := y15 w57 aB.out) | ((with_reducible refine gate_callee (f := 12) rfl ?_); refine goesL_ (some 21) rfl rfl Try.func12 (by kernel_rfl) rfl #[.slice bT aL.length bU, .slice bV aM.length bW] rfl MT ?_; (with_reducible refine (laws_eqAirS.calls k _ _ aL _ _ aM true _ ?_ ?_ ?_ ?_ A7.out).mono ?_); exact KD eF HB; exact eG.out; exact KD eH HB; exact eI.out; rintro e w60 ⟨rfl, hb⟩; refine ⟨_, rfl, ?_⟩; replace aA := am (BB aA hb); replace aB := am (BB aB hb); replace HB := bl (K2 HB aC.out aD.out) hb; (try clear hb); have ⟨_, _, _, _, _, _, _, _, _, _, _, _, _, _, _, _⟩ := y15 w60 aA.out; have ⟨_, _, _, _, _, _, _, _, _, _, _, _, _, _, _, _⟩ := y15 w60 aB.out) | ((with_reducible refine gate_callee (f := 13) rfl ?_); refine goesL_ (some 27) rfl rfl Try.func13 (by kernel_rfl) rfl #[.slice bX aN.length bY, .slice bZ aO.length cA] rfl MT ?_; (with_reducible refine (laws_eqSentS.calls k _ _ aN _ _ aO false _ ?_ ?_ ?_ ?_ A9.out).mono ?_); exact KD eU HB; exact eV.out; exact KD eW HB; exact eX.out; rintro e w63 ⟨rfl, hb⟩; refine ⟨_, rfl, ?_⟩; replace aA := am (BB aA hb); replace aB := am (BB aB hb); replace HB := bl (K2 HB aC.out aD.out) hb; (try clear hb)))
     go_ret
     exact ⟨ER, K2 HB aC.out aD.out⟩
   ·replace c8 := Bool.eq_false_iff.mpr c8
    subst c8
    have H1 := nf H
    clear H
    have H := H1
    clear H1
    obtain rfl := sj H
    go_enter Try.func6, Try.ntmps6
    go_wp2_with (first | ((with_reducible refine gate_dst (N := 2) rfl ?_); refine box_event rfl (N := 2) rfl (cs := #[.int .i64 bD, .slice cH aR.length cI, .int .i64 bE, .slice cJ aS.length cK, .slice cL aT.length cM, .slice cN aU.length cO, .int .i64 bH, .slice cX aZ.length cY, .int .i64 bI, .slice cZ bA.length dA, .slice bJ aG.length bK, .slice bL aH.length bM, .slice bT aL.length bU, .slice bX aN.length bY, .slice cD aP.length cE]) (t := 32) BX ?_; intro eS hg w64 aK hb; have aA := am (aK); have cB := am (GH HB hg); have aC := cB; replace HB := bl (KL HB) hb; clear hb aK hg) | ((with_reducible refine gate_dst (N := 3) rfl ?_); refine box_event rfl (N := 3) rfl (cs := #[.int .i64 bF, .slice cP aV.length cQ, .int .i64 bG, .slice cR aW.length cS, .slice cT aX.length cU, .slice cV aY.length cW, .int .i64 bN, .slice dB bB.length dC, .int .i64 bO, .slice dD bC.length dE, .slice bP aI.length bQ, .slice bR aJ.length bS, .slice bV aM.length bW, .slice bZ aO.length cA, .slice cF aQ.length cG]) (t := 32) BX ?_; intro eT hg w65 aK hb; have aB := am (aK); have cC := am (GH1 HB aC.out hg); have aD := cC; replace HB := bl (K1 HB aC.out) hb; have aE := am (NL aA hg); have aF := am (NG aA hg); replace aA := am (BB aA hb); clear hb aK hg; have hnb66 := aE.out; have hnc66 := aF.out; have ⟨_, _, _, _, _, _, _, _, _, _, _, _, _, _, _, _⟩ := y15 w65 aA.out; have ⟨_, _, _, _, _, _, _, _, _, _, _, _, _, _, _, _⟩ := y15 w65 aB.out) | ((with_reducible refine gate_callee (f := 11) rfl ?_); refine goesL_ (some 9) rfl rfl Try.func11 (by kernel_rfl) rfl #[.agg #[.int .i64 bD, .slice cH aR.length cI, .int .i64 bE, .slice cJ aS.length cK, .slice cL aT.length cM, .slice cN aU.length cO], .agg #[.int .i64 bF, .slice cP aV.length cQ, .int .i64 bG, .slice cR aW.length cS, .slice cT aX.length cU, .slice cV aY.length cW]] rfl MT ?_; (with_reducible refine (laws_eqGate.calls k bD _ _ aR bE _ _ aS _ _ aT _ _ aU bF _ _ aV bG _ _ aW _ _ aX _ _ aY true _ ?_ ?_ ?_ ?_ ?_ ?_ ?_ ?_ ?_ ?_ ?_ ?_ ?_ ?_ ?_ ?_ A3.out).mono ?_); exact KD dP HB; exact dQ.out; exact KD dR HB; exact dS.out; exact KD dT HB; exact dU.out; exact KD dV HB; exact dW.out; exact KD dX HB; exact dY.out; exact KD dZ HB; exact eA.out; exact KD eB HB; exact eC.out; exact KD eD HB; exact eE.out; rintro e w69 ⟨rfl, hb⟩; refine ⟨_, rfl, ?_⟩; replace aA := am (BB aA hb); replace aB := am (BB aB hb); replace HB := bl (K2 HB aC.out aD.out) hb; (try clear hb); have ⟨_, _, _, _, _, _, _, _, _, _, _, _, _, _, _, _⟩ := y15 w69 aA.out; have ⟨_, _, _, _, _, _, _, _, _, _, _, _, _, _, _, _⟩ := y15 w69 aB.out) | ((with_reducible refine gate_callee (f := 11) rfl ?_); refine goesL_ (some 15) rfl rfl Try.func11 (by kernel_rfl) rfl #[.agg #[.int .i64 bH, .slice cX aZ.length cY, .int .i64 bI, .slice cZ bA.length dA, .slice bJ aG.length bK, .slice bL aH.length bM], .agg #[.int .i64 bN, .slice dB bB.length dC, .int .i64 bO, .slice dD bC.length dE, .slice bP aI.length bQ, .slice bR aJ.length bS]] rfl MT ?_; (with_reducible refine (laws_eqGate.calls k bH _ _ aZ bI _ _ bA _ _ aG _ _ aH bN _ _ bB bO _ _ bC _ _ aI _ _ aJ true _ ?_ ?_ ?_ ?_ ?_ ?_ ?_ ?_ ?_ ?_ ?_ ?_ ?_ ?_ ?_ ?_ A5.out).mono ?_); exact KD eJ HB; exact eK.out; exact KD eL HB; exact eM.out; exact KD dG HB; exact dH.out; exact KD dI HB; exact dJ.out; exact KD eN HB; exact eO.out; exact KD eP HB; exact eQ.out; exact KD dK HB; exact dL.out; exact KD dM HB; exact dN.out; rintro e w72 ⟨rfl, hb⟩; refine ⟨_, rfl, ?_⟩; replace aA := am (BB aA hb); replace aB := am (BB aB hb); replace HB := bl (K2 HB aC.out aD.out) hb; (try clear hb); have ⟨_, _, _, _, _, _, _, _, _, _, _, _, _, _, _, _⟩ := y15 w72 aA.out; have ⟨_, _, _, _, _, _, _, _, _, _, _, _, _, _, _, _⟩ := y15 w72 aB.out) | ((with_reducible refine gate_callee (f := 12) rfl ?_); refine goesL_ (some 21) rfl rfl Try.func12 (by kernel_rfl) rfl #[.slice bT aL.length bU, .slice bV aM.length bW] rfl MT ?_; (with_reducible refine (laws_eqAirS.calls k _ _ aL _ _ aM false _ ?_ ?_ ?_ ?_ A7.out).mono ?_); exact KD eF HB; exact eG.out; exact KD eH HB; exact eI.out; rintro e w75 ⟨rfl, hb⟩; refine ⟨_, rfl, ?_⟩; replace aA := am (BB aA hb); replace aB := am (BB aB hb); replace HB := bl (K2 HB aC.out aD.out) hb; (try clear hb)))
    go_ret
    exact ⟨ER, K2 HB aC.out aD.out⟩
  ·replace c6 := Bool.eq_false_iff.mpr c6
   subst c6
   have H1 := nf H
   clear H
   have H := H1
   clear H1
   obtain rfl := sj H
   go_enter Try.func6, Try.ntmps6
   go_wp2_with (first | ((with_reducible refine gate_dst (N := 2) rfl ?_); refine box_event rfl (N := 2) rfl (cs := #[.int .i64 bD, .slice cH aR.length cI, .int .i64 bE, .slice cJ aS.length cK, .slice cL aT.length cM, .slice cN aU.length cO, .int .i64 bH, .slice cX aZ.length cY, .int .i64 bI, .slice cZ bA.length dA, .slice bJ aG.length bK, .slice bL aH.length bM, .slice bT aL.length bU, .slice bX aN.length bY, .slice cD aP.length cE]) (t := 32) BX ?_; intro eS hg w76 aK hb; have aA := am (aK); have cB := am (GH HB hg); have aC := cB; replace HB := bl (KL HB) hb; clear hb aK hg) | ((with_reducible refine gate_dst (N := 3) rfl ?_); refine box_event rfl (N := 3) rfl (cs := #[.int .i64 bF, .slice cP aV.length cQ, .int .i64 bG, .slice cR aW.length cS, .slice cT aX.length cU, .slice cV aY.length cW, .int .i64 bN, .slice dB bB.length dC, .int .i64 bO, .slice dD bC.length dE, .slice bP aI.length bQ, .slice bR aJ.length bS, .slice bV aM.length bW, .slice bZ aO.length cA, .slice cF aQ.length cG]) (t := 32) BX ?_; intro eT hg w77 aK hb; have aB := am (aK); have cC := am (GH1 HB aC.out hg); have aD := cC; replace HB := bl (K1 HB aC.out) hb; have aE := am (NL aA hg); have aF := am (NG aA hg); replace aA := am (BB aA hb); clear hb aK hg; have hnb78 := aE.out; have hnc78 := aF.out; have ⟨_, _, _, _, _, _, _, _, _, _, _, _, _, _, _, _⟩ := y15 w77 aA.out; have ⟨_, _, _, _, _, _, _, _, _, _, _, _, _, _, _, _⟩ := y15 w77 aB.out) | ((with_reducible refine gate_callee (f := 11) rfl ?_); refine goesL_ (some 9) rfl rfl Try.func11 (by kernel_rfl) rfl #[.agg #[.int .i64 bD, .slice cH aR.length cI, .int .i64 bE, .slice cJ aS.length cK, .slice cL aT.length cM, .slice cN aU.length cO], .agg #[.int .i64 bF, .slice cP aV.length cQ, .int .i64 bG, .slice cR aW.length cS, .slice cT aX.length cU, .slice cV aY.length cW]] rfl MT ?_; (with_reducible refine (laws_eqGate.calls k bD _ _ aR bE _ _ aS _ _ aT _ _ aU bF _ _ aV bG _ _ aW _ _ aX _ _ aY true _ ?_ ?_ ?_ ?_ ?_ ?_ ?_ ?_ ?_ ?_ ?_ ?_ ?_ ?_ ?_ ?_ A3.out).mono ?_); exact KD dP HB; exact dQ.out; exact KD dR HB; exact dS.out; exact KD dT HB; exact dU.out; exact KD dV HB; exact dW.out; exact KD dX HB; exact dY.out; exact KD dZ HB; exact eA.out; exact KD eB HB; exact eC.out; exact KD eD HB; exact eE.out; rintro e w81 ⟨rfl, hb⟩; refine ⟨_, rfl, ?_⟩; replace aA := am (BB aA hb); replace aB := am (BB aB hb); replace HB := bl (K2 HB aC.out aD.out) hb; (try clear hb); have ⟨_, _, _, _, _, _, _, _, _, _, _, _, _, _, _, _⟩ := y15 w81 aA.out; have ⟨_, _, _, _, _, _, _, _, _, _, _, _, _, _, _, _⟩ := y15 w81 aB.out) | ((with_reducible refine gate_callee (f := 11) rfl ?_); refine goesL_ (some 15) rfl rfl Try.func11 (by kernel_rfl) rfl #[.agg #[.int .i64 bH, .slice cX aZ.length cY, .int .i64 bI, .slice cZ bA.length dA, .slice bJ aG.length bK, .slice bL aH.length bM], .agg #[.int .i64 bN, .slice dB bB.length dC, .int .i64 bO, .slice dD bC.length dE, .slice bP aI.length bQ, .slice bR aJ.length bS]] rfl MT ?_; (with_reducible refine (laws_eqGate.calls k bH _ _ aZ bI _ _ bA _ _ aG _ _ aH bN _ _ bB bO _ _ bC _ _ aI _ _ aJ false _ ?_ ?_ ?_ ?_ ?_ ?_ ?_ ?_ ?_ ?_ ?_ ?_ ?_ ?_ ?_ ?_ A5.out).mono ?_); exact KD eJ HB; exact eK.out; exact KD eL HB; exact eM.out; exact KD dG HB; exact dH.out; exact KD dI HB; exact dJ.out; exact KD eN HB; exact eO.out; exact KD eP HB; exact eQ.out; exact KD dK HB; exact dL.out; exact KD dM HB; exact dN.out; rintro e w84 ⟨rfl, hb⟩; refine ⟨_, rfl, ?_⟩; replace aA := am (BB aA hb); replace aB := am (BB aB hb); replace HB := bl (K2 HB aC.out aD.out) hb; (try clear hb)))
   go_ret
   exact ⟨ER, K2 HB aC.out aD.out⟩
 ·replace c4 := Bool.eq_false_iff.mpr c4
  subst c4
  have H1 := nf H
  clear H
  have H := H1
  clear H1
  obtain rfl := sj H
  go_enter Try.func6, Try.ntmps6
  go_wp2_with (first | ((with_reducible refine gate_dst (N := 2) rfl ?_); refine box_event rfl (N := 2) rfl (cs := #[.int .i64 bD, .slice cH aR.length cI, .int .i64 bE, .slice cJ aS.length cK, .slice cL aT.length cM, .slice cN aU.length cO, .int .i64 bH, .slice cX aZ.length cY, .int .i64 bI, .slice cZ bA.length dA, .slice bJ aG.length bK, .slice bL aH.length bM, .slice bT aL.length bU, .slice bX aN.length bY, .slice cD aP.length cE]) (t := 32) BX ?_; intro eS hg w85 aK hb; have aA := am (aK); have cB := am (GH HB hg); have aC := cB; replace HB := bl (KL HB) hb; clear hb aK hg) | ((with_reducible refine gate_dst (N := 3) rfl ?_); refine box_event rfl (N := 3) rfl (cs := #[.int .i64 bF, .slice cP aV.length cQ, .int .i64 bG, .slice cR aW.length cS, .slice cT aX.length cU, .slice cV aY.length cW, .int .i64 bN, .slice dB bB.length dC, .int .i64 bO, .slice dD bC.length dE, .slice bP aI.length bQ, .slice bR aJ.length bS, .slice bV aM.length bW, .slice bZ aO.length cA, .slice cF aQ.length cG]) (t := 32) BX ?_; intro eT hg w86 aK hb; have aB := am (aK); have cC := am (GH1 HB aC.out hg); have aD := cC; replace HB := bl (K1 HB aC.out) hb; have aE := am (NL aA hg); have aF := am (NG aA hg); replace aA := am (BB aA hb); clear hb aK hg; have hnb87 := aE.out; have hnc87 := aF.out; have ⟨_, _, _, _, _, _, _, _, _, _, _, _, _, _, _, _⟩ := y15 w86 aA.out; have ⟨_, _, _, _, _, _, _, _, _, _, _, _, _, _, _, _⟩ := y15 w86 aB.out) | ((with_reducible refine gate_callee (f := 11) rfl ?_); refine goesL_ (some 9) rfl rfl Try.func11 (by kernel_rfl) rfl #[.agg #[.int .i64 bD, .slice cH aR.length cI, .int .i64 bE, .slice cJ aS.length cK, .slice cL aT.length cM, .slice cN aU.length cO], .agg #[.int .i64 bF, .slice cP aV.length cQ, .int .i64 bG, .slice cR aW.length cS, .slice cT aX.length cU, .slice cV aY.length cW]] rfl MT ?_; (with_reducible refine (laws_eqGate.calls k bD _ _ aR bE _ _ aS _ _ aT _ _ aU bF _ _ aV bG _ _ aW _ _ aX _ _ aY false _ ?_ ?_ ?_ ?_ ?_ ?_ ?_ ?_ ?_ ?_ ?_ ?_ ?_ ?_ ?_ ?_ A3.out).mono ?_); exact KD dP HB; exact dQ.out; exact KD dR HB; exact dS.out; exact KD dT HB; exact dU.out; exact KD dV HB; exact dW.out; exact KD dX HB; exact dY.out; exact KD dZ HB; exact eA.out; exact KD eB HB; exact eC.out; exact KD eD HB; exact eE.out; rintro e w90 ⟨rfl, hb⟩; refine ⟨_, rfl, ?_⟩; replace aA := am (BB aA hb); replace aB := am (BB aB hb); replace HB := bl (K2 HB aC.out aD.out) hb; (try clear hb)))
  go_ret
  exact ⟨ER, K2 HB aC.out aD.out⟩
def laws_markSeenS.l0 : Nat → List (S80) → Int → Int → Option (Int × (List (S80)))
 | 0, _, _, _ => none
 | k + 1, x0, x1, x5 => if x5 < (x0.length : Int) then (if 0 ≤ x5 then ((some (x0.set (x5 : Int).toNat (⟨(⟨x1, (rd_T80 x0 x5).f0.f1, (rd_T80 x0 x5).f0.f2⟩ : S78), (rd_T80 x0 x5).f1⟩ : S80) : List (S80))).bind fun y101 => ((some (y101.set (x5 : Int).toNat (⟨(⟨(rd_T80 y101 x5).f0.f0, wrap64 (x1 + 1), (rd_T80 y101 x5).f0.f2⟩ : S78), (rd_T80 y101 x5).f1⟩ : S80) : List (S80))).bind fun y102 => ((some (y102.set (x5 : Int).toNat (⟨(⟨(rd_T80 y102 x5).f0.f0, (rd_T80 y102 x5).f0.f1, wrap64 ((wrap64 (x1 + 1)) + 1)⟩ : S78), (rd_T80 y102 x5).f1⟩ : S80) : List (S80))).bind fun y103 => (laws_markSeenS.l0 k (y103.set (x5 : Int).toNat (⟨(⟨(rd_T80 y103 x5).f0.f0, (rd_T80 y103 x5).f0.f1, (rd_T80 y103 x5).f0.f2⟩ : S78), wrap64 ((wrap64 ((wrap64 (x1 + 1)) + 1)) + 1)⟩ : S80)) (wrap64 ((wrap64 ((wrap64 ((wrap64 (x1 + 1)) + 1)) + 1)) + 1)) (wrap64 (x5 + 1)))))) else (none)) else (some (x1, x0))
def laws_markSeenS.f (k : Nat) (l0 : List (S80)) (a1 : Int) : Option (Int × (List (S80))) := laws_markSeenS.l0 k l0 a1 0
theorem laws_markSeenS.calls (k : Nat) (P0_ : Nat → Prop) (u9000_ : Value) (l0 : List (S80)) (a1 : Int) (r1 : Int) (r2 : List (S80)) (w0 w : World) (hB : Below w0.heap.size w0 w) (cY : Kd.R k80 80 w w0.heap.size P0_ u9000_ l0) (h : laws_markSeenS.f k l0 a1 = some (r1, r2)) :
  Calls Try.prog 36 #[u9000_, .int .i64 a1] w fun e w' => e = .returned (.int .i64 r1) ∧ Kd.R k80 80 w' w0.heap.size (fun k_ => (P0_ k_ ∨ w.heap.size ≤ k_)) u9000_ r2 ∧ Below w0.heap.size w0 w' ∧ Kept w w' (fun k_ => P0_ k_) := by
 have cZ := am (show Kd.R k80 80 w w0.heap.size (fun k_ => (P0_ k_ ∨ w.heap.size ≤ k_)) u9000_ l0 from Kd.R_mono cY (fun k_ hk => (.inl hk)))
 have HK := am (Kept.refl w (fun k_ => P0_ k_))
 have HW0 := Aside0.mk hB.size
 have HB := Aside0.mk hB
 clear hB
 have H : (laws_markSeenS.l0 k l0 a1 0) = some (r1, r2) := h
 clear h
 have H' := Aside0.mk H
 clear H
 go_enter Try.func36, Try.ntmps36
 go_wp2
 go_loopg [1, 5] k (fun kq v1 v5 w' => ∃ (aB : List (S80)) (aC : Int) (aA : Int), v1 = .int .i64 aC ∧ v5 = .int .i64 aA ∧ Aside0 (laws_markSeenS.l0 kq aB aC aA = some (r1, r2)) ∧ Aside0 (kq ≤ k) ∧ Aside0 (Kd.R k80 80 w' w0.heap.size (fun k_ => (P0_ k_ ∨ w.heap.size ≤ k_)) u9000_ aB) ∧ Aside0 (Kept w w' (fun k_ => P0_ k_)) ∧ Aside0 (Below w0.heap.size w0 w'))
 case atStart => exact ⟨(l0), (a1), (0), (by first | rfl | (simp; done) | (simp [*]; done)), (by first | rfl | (simp; done) | (simp [*]; done)), H', ⟨Nat.le_refl _⟩, ⟨KR cZ⟩, ⟨by repeat (first | (with_reducible first | exact HK.out | apply Kept.alloc | apply Kept.drewN | apply Kept.drew) | exact HK.out)⟩, ⟨KL HB⟩⟩
 case round =>
  clear H'
  try clear p2
  obtain ⟨aB, aC, aA, rfl, rfl, HA, HK1, aD, HK, HB⟩ := hrel
  cases gk with
  | zero => exact absurd HA.out (by simp [laws_markSeenS.l0])
  | succ k1 =>
   have H := HA.out
   clear HA
   simp only [laws_markSeenS.l0] at H
   by_cases c3 : aA < (aB.length : Int)
   ·rw [if_pos c3] at H
    have c3b0 : decide (aA < (aB.length : Int)) = true := decide_eq_true c3
    clear c3
    by_cases c4 : 0 ≤ aA
    ·rw [if_pos c4] at H
     have c4b0 : decide (0 ≤ aA) = true := decide_eq_true c4
     clear c4
     obtain ⟨aG, aH⟩ : ∃ y_ : List (S80), y_ = (aB.set (aA : Int).toNat (⟨(⟨aC, (rd_T80 aB aA).f0.f1, (rd_T80 aB aA).f0.f2⟩ : S78), (rd_T80 aB aA).f1⟩ : S80)) := ⟨_, rfl⟩
     replace H : ((some (aG.set (aA : Int).toNat (⟨(⟨(rd_T80 aG aA).f0.f0, wrap64 (aC + 1), (rd_T80 aG aA).f0.f2⟩ : S78), (rd_T80 aG aA).f1⟩ : S80) : List (S80))).bind fun aF => ((some (aF.set (aA : Int).toNat (⟨(⟨(rd_T80 aF aA).f0.f0, (rd_T80 aF aA).f0.f1, wrap64 ((wrap64 (aC + 1)) + 1)⟩ : S78), (rd_T80 aF aA).f1⟩ : S80) : List (S80))).bind fun aE => (laws_markSeenS.l0 k1 (aE.set (aA : Int).toNat (⟨(⟨(rd_T80 aE aA).f0.f0, (rd_T80 aE aA).f0.f1, (rd_T80 aE aA).f0.f2⟩ : S78), wrap64 ((wrap64 ((wrap64 (aC + 1)) + 1)) + 1)⟩ : S80)) (wrap64 ((wrap64 ((wrap64 ((wrap64 (aC + 1)) + 1)) + 1)) + 1)) (wrap64 (aA + 1))))) = some (r1, r2) := by first | (rw [aH]; with_reducible exact H) | (have H2_ := (Option.bind_some _ _).symm.trans H; rw [aH]; with_reducible exact H2_) | (have H2_ := (Option.bind_some _ _).symm.trans H; with_reducible exact H2_) | with_reducible exact H | (rw [aH]; exact H) | exact H
     have Ny101 := Aside0.mk aH
     clear aH
     obtain ⟨aF, aI⟩ : ∃ y_ : List (S80), y_ = (aG.set (aA : Int).toNat (⟨(⟨(rd_T80 aG aA).f0.f0, wrap64 (aC + 1), (rd_T80 aG aA).f0.f2⟩ : S78), (rd_T80 aG aA).f1⟩ : S80)) := ⟨_, rfl⟩
     replace H : ((some (aF.set (aA : Int).toNat (⟨(⟨(rd_T80 aF aA).f0.f0, (rd_T80 aF aA).f0.f1, wrap64 ((wrap64 (aC + 1)) + 1)⟩ : S78), (rd_T80 aF aA).f1⟩ : S80) : List (S80))).bind fun aE => (laws_markSeenS.l0 k1 (aE.set (aA : Int).toNat (⟨(⟨(rd_T80 aE aA).f0.f0, (rd_T80 aE aA).f0.f1, (rd_T80 aE aA).f0.f2⟩ : S78), wrap64 ((wrap64 ((wrap64 (aC + 1)) + 1)) + 1)⟩ : S80)) (wrap64 ((wrap64 ((wrap64 ((wrap64 (aC + 1)) + 1)) + 1)) + 1)) (wrap64 (aA + 1)))) = some (r1, r2) := by first | (rw [aI]; with_reducible exact H) | (have H2_ := (Option.bind_some _ _).symm.trans H; rw [aI]; with_reducible exact H2_) | (have H2_ := (Option.bind_some _ _).symm.trans H; with_reducible exact H2_) | with_reducible exact H | (rw [aI]; exact H) | exact H
     have Ny102 := Aside0.mk aI
     clear aI
     obtain ⟨aE, aJ⟩ : ∃ y_ : List (S80), y_ = (aF.set (aA : Int).toNat (⟨(⟨(rd_T80 aF aA).f0.f0, (rd_T80 aF aA).f0.f1, wrap64 ((wrap64 (aC + 1)) + 1)⟩ : S78), (rd_T80 aF aA).f1⟩ : S80)) := ⟨_, rfl⟩
     replace H : (laws_markSeenS.l0 k1 (aE.set (aA : Int).toNat (⟨(⟨(rd_T80 aE aA).f0.f0, (rd_T80 aE aA).f0.f1, (rd_T80 aE aA).f0.f2⟩ : S78), wrap64 ((wrap64 ((wrap64 (aC + 1)) + 1)) + 1)⟩ : S80)) (wrap64 ((wrap64 ((wrap64 ((wrap64 (aC + 1)) + 1)) + 1)) + 1)) (wrap64 (aA + 1))) = some (r1, r2) := by first | (rw [aJ]; with_reducible exact H) | (have H2_ := (Option.bind_some _ _).symm.trans H; rw [aJ]; with_reducible exact H2_) | (have H2_ := (Option.bind_some _ _).symm.trans H; with_reducible exact H2_) | with_reducible exact H | (rw [aJ]; exact H) | exact H
     have Ny103 := Aside0.mk aJ
     clear aJ
     obtain ⟨bF, aK⟩ : ∃ y_ : List (S80), y_ = (aE.set (aA : Int).toNat (⟨(⟨(rd_T80 aE aA).f0.f0, (rd_T80 aE aA).f0.f1, (rd_T80 aE aA).f0.f2⟩ : S78), wrap64 ((wrap64 ((wrap64 (aC + 1)) + 1)) + 1)⟩ : S80)) := ⟨_, rfl⟩
     replace H : (laws_markSeenS.l0 k1 bF (wrap64 ((wrap64 ((wrap64 ((wrap64 (aC + 1)) + 1)) + 1)) + 1)) (wrap64 (aA + 1))) = some (r1, r2) := by first | (rw [aK]; with_reducible exact H) | (have H2_ := (Option.bind_some _ _).symm.trans H; rw [aK]; with_reducible exact H2_) | (have H2_ := (Option.bind_some _ _).symm.trans H; with_reducible exact H2_) | with_reducible exact H | (rw [aK]; exact H) | exact H
     have Ny104 := Aside0.mk aK
     clear aK
     have H' := Aside0.mk H
     clear H
     obtain ⟨_, bA, dA⟩ := Kd.R_slice aD.out
     subst dA
     have p5 : 0 ≤ (aA : Int) := OD
     have q5 : (aA : Int) < ((aB.length : Int) : Int) := OD
     obtain ⟨go5, _, bQ, bR, gl5, cl5, HG5⟩ := Kd.R_form aD.out (by omega)
     (first | cases bQ | (injection bQ with ea_ en_ ec_; (first | subst ea_ | (injection ea_ with ea_; subst ea_)); subst ec_; clear en_))
     have GB5 := Aside0.mk bR
     have GG5 := Aside0.mk HG5
     clear bR gl5 HG5
     have HMgo5 := am (show (P0_ go5 ∨ w.heap.size ≤ go5) from (aD.out.1 _ rfl))
     obtain ⟨ce5, hcl5, hM5, aO, aP⟩ := Kd.R_elem aD.out z80 (aA : Int) p5 q5
     obtain rfl := k80_openM hM5
     have bS : wr.cell? ⟨go5, (aA : Int).toNat * 4, none⟩ = some (.int .i64 ((rd_T80 aB aA).f0.f0)) := aO 0 _ rfl
     have bT : wr.cell? ⟨go5, (aA : Int).toNat * 4 + 1, none⟩ = some (.int .i64 ((rd_T80 aB aA).f0.f1)) := aO 1 _ rfl
     have bU : wr.cell? ⟨go5, (aA : Int).toNat * 4 + 2, none⟩ = some (.int .i64 ((rd_T80 aB aA).f0.f2)) := aO 2 _ rfl
     have bV : wr.cell? ⟨go5, (aA : Int).toNat * 4 + 3, none⟩ = some (.int .i64 ((rd_T80 aB aA).f1)) := aO 3 _ rfl
     have bW : wr.frozen? ⟨go5, (aA : Int).toNat * 4, none⟩ = false := aP 0
     have bX : wr.frozen? ⟨go5, (aA : Int).toNat * 4 + 1, none⟩ = false := aP 1
     have bY : wr.frozen? ⟨go5, (aA : Int).toNat * 4 + 2, none⟩ = false := aP 2
     have bZ : wr.frozen? ⟨go5, (aA : Int).toNat * 4 + 3, none⟩ = false := aP 3
     clear hcl5 aO aP hM5
     replace p5 := eq_true p5
     replace q5 := eq_true q5
     have HX10 := am (show Kd.R k80 80 wr w0.heap.size (fun k_ => (P0_ k_ ∨ w.heap.size ≤ k_)) (.slice (some ⟨go5, 0, none⟩) aB.length bA) aB from (KR aD))
     obtain ⟨ce10, hcl10, hM10, aQ, bB⟩ := Kd.R_elem HX10.out z80 (aA : Int) (OD) (by have h_ : (aA : Int) < ((aB.length : Int) : Int) := OD; first | exact h_ | (have e_ := (Kd.R_reads' aD.out).1; omega) | simpa using h_)
     obtain rfl := k80_openM hM10
     have HP10 := Kd.R_seg HX10.out (aA : Int) (OD) (by have h_ : (aA : Int) < ((aB.length : Int) : Int) := OD; first | exact h_ | (have e_ := (Kd.R_reads' aD.out).1; omega) | simpa using h_) (seg := [.int .i64 aC]) (j := 0) hcl10 aQ (show 1 ≤ 4 from by decide) (x' := (⟨(⟨aC, (rd_T80 aB aA).f0.f1, (rd_T80 aB aA).f0.f2⟩ : S78), (rd_T80 aB aA).f1⟩ : S80)) (k80_mkM _ _ _ (⟨(⟨aC, (rd_T80 aB aA).f0.f1, (rd_T80 aB aA).f0.f2⟩ : S78), (rd_T80 aB aA).f1⟩ : S80) ) (fun _ hk => hk)
     have bG := aQ 0 _ rfl
     (try simp only [show (k80).sz = 4 from rfl, Nat.mul_one, Nat.add_zero] at bG)
     have bH := bB 0
     (try simp only [show (k80).sz = 4 from rfl, Nat.mul_one, Nat.add_zero] at bH)
     clear hcl10 aQ bB hM10
     go_wp2_with (first | ((with_reducible refine gate_store (t := 3) (p := 17) rfl ?_); refine store_event (t := 3) (p := 17) (v := ?vo_w11) (w1 := (wr.setCell ⟨go5, (aA : Int).toNat * 4, none⟩ (.int .i64 aC))) ?hg ?ho ?hn ?hr ?_; (case ho => rfl); (case hg => rfl); (case hn => rfl); (case hr => first | (go_simp; done) | (go_simp; rfl)); intro aL hw; have hg : wr.grownBy aL (some go5) := (by rw [hw]; exact HP10.2); have hp_ : Kd.R k80 80 aL w0.heap.size (fun k_ => (P0_ k_ ∨ w.heap.size ≤ k_)) (.slice (some ⟨go5, 0, none⟩) aB.length bA) aG := (by rw [hw, Ny101.out]; exact HP10.1); clear HP10; replace HB := am ((by rw [hw]; exact below_set (HB.out) GB5.out : Below w0.heap.size w0 aL)); replace HK := am (Kept.of_grown (S := (fun k_ => P0_ k_)) hg (by repeat (first | (with_reducible first | exact HK.out | apply Kept.alloc | apply Kept.drewN | apply Kept.drew) | exact HK.out)) (fun k_ e_ => (aD.out.1 k_ e_))); replace aD := am (hp_); clear hg hw hp_; have p6 : 0 ≤ (aA : Int) := OD; have q6 : (aA : Int) < ((aB.length : Int) : Int) := OD; obtain ⟨ce6, hcl6, hM6, aR, aS⟩ := Kd.R_elem aD.out z80 (aA : Int) p6 q6; obtain rfl := k80_openM hM6; have cA : aL.cell? ⟨go5, (aA : Int).toNat * 4, none⟩ = some (.int .i64 ((rd_T80 aG aA).f0.f0)) := aR 0 _ rfl; have cB : aL.cell? ⟨go5, (aA : Int).toNat * 4 + 1, none⟩ = some (.int .i64 ((rd_T80 aG aA).f0.f1)) := aR 1 _ rfl; have cC : aL.cell? ⟨go5, (aA : Int).toNat * 4 + 2, none⟩ = some (.int .i64 ((rd_T80 aG aA).f0.f2)) := aR 2 _ rfl; have cD : aL.cell? ⟨go5, (aA : Int).toNat * 4 + 3, none⟩ = some (.int .i64 ((rd_T80 aG aA).f1)) := aR 3 _ rfl; have cE : aL.frozen? ⟨go5, (aA : Int).toNat * 4, none⟩ = false := aS 0; have cF : aL.frozen? ⟨go5, (aA : Int).toNat * 4 + 1, none⟩ = false := aS 1; have cG : aL.frozen? ⟨go5, (aA : Int).toNat * 4 + 2, none⟩ = false := aS 2; have cH : aL.frozen? ⟨go5, (aA : Int).toNat * 4 + 3, none⟩ = false := aS 3; clear hcl6 aR aS hM6; replace p6 := eq_true p6; replace q6 := eq_true q6; have HX12 := am (show Kd.R k80 80 aL w0.heap.size (fun k_ => (P0_ k_ ∨ w.heap.size ≤ k_)) (.slice (some ⟨go5, 0, none⟩) aB.length bA) aG from (KR aD)); obtain ⟨ce12, hcl12, hM12, aT, bC⟩ := Kd.R_elem HX12.out z80 (aA : Int) (OD) (by have h_ : (aA : Int) < ((aB.length : Int) : Int) := OD; first | exact h_ | (have e_ := (Kd.R_reads' aD.out).1; omega) | simpa using h_); obtain rfl := k80_openM hM12; have HP12 := Kd.R_seg HX12.out (aA : Int) (OD) (by have h_ : (aA : Int) < ((aB.length : Int) : Int) := OD; first | exact h_ | (have e_ := (Kd.R_reads' aD.out).1; omega) | simpa using h_) (seg := [.int .i64 (wrap64 (aC + 1))]) (j := 1) hcl12 aT (show 2 ≤ 4 from by decide) (x' := (⟨(⟨(rd_T80 aG aA).f0.f0, wrap64 (aC + 1), (rd_T80 aG aA).f0.f2⟩ : S78), (rd_T80 aG aA).f1⟩ : S80)) (k80_mkM _ _ _ (⟨(⟨(rd_T80 aG aA).f0.f0, wrap64 (aC + 1), (rd_T80 aG aA).f0.f2⟩ : S78), (rd_T80 aG aA).f1⟩ : S80) ) (fun _ hk => hk); have bI := aT 1 _ rfl; (try simp only [show (k80).sz = 4 from rfl, Nat.mul_one, Nat.add_zero] at bI); have bJ := bC 1; (try simp only [show (k80).sz = 4 from rfl, Nat.mul_one, Nat.add_zero] at bJ); clear hcl12 aT bC hM12) | ((with_reducible refine gate_store (t := 3) (p := 25) rfl ?_); refine store_event (t := 3) (p := 25) (v := ?vo_w13) (w1 := (aL.setCell ⟨go5, (aA : Int).toNat * 4 + 1, none⟩ (.int .i64 (wrap64 (aC + 1))))) ?hg ?ho ?hn ?hr ?_; (case ho => rfl); (case hg => rfl); (case hn => rfl); (case hr => first | (go_simp; done) | (go_simp; rfl)); intro aM hw; have hg : aL.grownBy aM (some go5) := (by rw [hw]; exact HP12.2); have hp_ : Kd.R k80 80 aM w0.heap.size (fun k_ => (P0_ k_ ∨ w.heap.size ≤ k_)) (.slice (some ⟨go5, 0, none⟩) aB.length bA) aF := (by rw [hw, Ny102.out]; exact HP12.1); clear HP12; replace HB := am ((by rw [hw]; exact below_set (HB.out) GB5.out : Below w0.heap.size w0 aM)); replace HK := am (Kept.of_grown (S := (fun k_ => P0_ k_)) hg (by repeat (first | (with_reducible first | exact HK.out | apply Kept.alloc | apply Kept.drewN | apply Kept.drew) | exact HK.out)) (fun k_ e_ => (aD.out.1 k_ e_))); replace aD := am (hp_); clear hg hw hp_; have p7 : 0 ≤ (aA : Int) := OD; have q7 : (aA : Int) < ((aB.length : Int) : Int) := OD; obtain ⟨ce7, hcl7, hM7, aU, aV⟩ := Kd.R_elem aD.out z80 (aA : Int) p7 q7; obtain rfl := k80_openM hM7; have cI : aM.cell? ⟨go5, (aA : Int).toNat * 4, none⟩ = some (.int .i64 ((rd_T80 aF aA).f0.f0)) := aU 0 _ rfl; have cJ : aM.cell? ⟨go5, (aA : Int).toNat * 4 + 1, none⟩ = some (.int .i64 ((rd_T80 aF aA).f0.f1)) := aU 1 _ rfl; have cK : aM.cell? ⟨go5, (aA : Int).toNat * 4 + 2, none⟩ = some (.int .i64 ((rd_T80 aF aA).f0.f2)) := aU 2 _ rfl; have cL : aM.cell? ⟨go5, (aA : Int).toNat * 4 + 3, none⟩ = some (.int .i64 ((rd_T80 aF aA).f1)) := aU 3 _ rfl; have cM : aM.frozen? ⟨go5, (aA : Int).toNat * 4, none⟩ = false := aV 0; have cN : aM.frozen? ⟨go5, (aA : Int).toNat * 4 + 1, none⟩ = false := aV 1; have cO : aM.frozen? ⟨go5, (aA : Int).toNat * 4 + 2, none⟩ = false := aV 2; have cP : aM.frozen? ⟨go5, (aA : Int).toNat * 4 + 3, none⟩ = false := aV 3; clear hcl7 aU aV hM7; replace p7 := eq_true p7; replace q7 := eq_true q7; have HX14 := am (show Kd.R k80 80 aM w0.heap.size (fun k_ => (P0_ k_ ∨ w.heap.size ≤ k_)) (.slice (some ⟨go5, 0, none⟩) aB.length bA) aF from (KR aD)); obtain ⟨ce14, hcl14, hM14, aW, bD⟩ := Kd.R_elem HX14.out z80 (aA : Int) (OD) (by have h_ : (aA : Int) < ((aB.length : Int) : Int) := OD; first | exact h_ | (have e_ := (Kd.R_reads' aD.out).1; omega) | simpa using h_); obtain rfl := k80_openM hM14; have HP14 := Kd.R_seg HX14.out (aA : Int) (OD) (by have h_ : (aA : Int) < ((aB.length : Int) : Int) := OD; first | exact h_ | (have e_ := (Kd.R_reads' aD.out).1; omega) | simpa using h_) (seg := [.int .i64 (wrap64 ((wrap64 (aC + 1)) + 1))]) (j := 2) hcl14 aW (show 3 ≤ 4 from by decide) (x' := (⟨(⟨(rd_T80 aF aA).f0.f0, (rd_T80 aF aA).f0.f1, wrap64 ((wrap64 (aC + 1)) + 1)⟩ : S78), (rd_T80 aF aA).f1⟩ : S80)) (k80_mkM _ _ _ (⟨(⟨(rd_T80 aF aA).f0.f0, (rd_T80 aF aA).f0.f1, wrap64 ((wrap64 (aC + 1)) + 1)⟩ : S78), (rd_T80 aF aA).f1⟩ : S80) ) (fun _ hk => hk); have bK := aW 2 _ rfl; (try simp only [show (k80).sz = 4 from rfl, Nat.mul_one, Nat.add_zero] at bK); have bL := bD 2; (try simp only [show (k80).sz = 4 from rfl, Nat.mul_one, Nat.add_zero] at bL); clear hcl14 aW bD hM14) | ((with_reducible refine gate_store (t := 3) (p := 33) rfl ?_); refine store_event (t := 3) (p := 33) (v := ?vo_w15) (w1 := (aM.setCell ⟨go5, (aA : Int).toNat * 4 + 2, none⟩ (.int .i64 (wrap64 ((wrap64 (aC + 1)) + 1))))) ?hg ?ho ?hn ?hr ?_; (case ho => rfl); (case hg => rfl); (case hn => rfl); (case hr => first | (go_simp; done) | (go_simp; rfl)); intro aN hw; have hg : aM.grownBy aN (some go5) := (by rw [hw]; exact HP14.2); have hp_ : Kd.R k80 80 aN w0.heap.size (fun k_ => (P0_ k_ ∨ w.heap.size ≤ k_)) (.slice (some ⟨go5, 0, none⟩) aB.length bA) aE := (by rw [hw, Ny103.out]; exact HP14.1); clear HP14; replace HB := am ((by rw [hw]; exact below_set (HB.out) GB5.out : Below w0.heap.size w0 aN)); replace HK := am (Kept.of_grown (S := (fun k_ => P0_ k_)) hg (by repeat (first | (with_reducible first | exact HK.out | apply Kept.alloc | apply Kept.drewN | apply Kept.drew) | exact HK.out)) (fun k_ e_ => (aD.out.1 k_ e_))); replace aD := am (hp_); clear hg hw hp_; have p8 : 0 ≤ (aA : Int) := OD; have q8 : (aA : Int) < ((aB.length : Int) : Int) := OD; obtain ⟨ce8, hcl8, hM8, aX, aY⟩ := Kd.R_elem aD.out z80 (aA : Int) p8 q8; obtain rfl := k80_openM hM8; have cQ : aN.cell? ⟨go5, (aA : Int).toNat * 4, none⟩ = some (.int .i64 ((rd_T80 aE aA).f0.f0)) := aX 0 _ rfl; have cR : aN.cell? ⟨go5, (aA : Int).toNat * 4 + 1, none⟩ = some (.int .i64 ((rd_T80 aE aA).f0.f1)) := aX 1 _ rfl; have cS : aN.cell? ⟨go5, (aA : Int).toNat * 4 + 2, none⟩ = some (.int .i64 ((rd_T80 aE aA).f0.f2)) := aX 2 _ rfl; have cT : aN.cell? ⟨go5, (aA : Int).toNat * 4 + 3, none⟩ = some (.int .i64 ((rd_T80 aE aA).f1)) := aX 3 _ rfl; have cU : aN.frozen? ⟨go5, (aA : Int).toNat * 4, none⟩ = false := aY 0; have cV : aN.frozen? ⟨go5, (aA : Int).toNat * 4 + 1, none⟩ = false := aY 1; have cW : aN.frozen? ⟨go5, (aA : Int).toNat * 4 + 2, none⟩ = false := aY 2; have cX : aN.frozen? ⟨go5, (aA : Int).toNat * 4 + 3, none⟩ = false := aY 3; clear hcl8 aX aY hM8; replace p8 := eq_true p8; replace q8 := eq_true q8; have HX16 := am (show Kd.R k80 80 aN w0.heap.size (fun k_ => (P0_ k_ ∨ w.heap.size ≤ k_)) (.slice (some ⟨go5, 0, none⟩) aB.length bA) aE from (KR aD)); obtain ⟨ce16, hcl16, hM16, aZ, bE⟩ := Kd.R_elem HX16.out z80 (aA : Int) (OD) (by have h_ : (aA : Int) < ((aB.length : Int) : Int) := OD; first | exact h_ | (have e_ := (Kd.R_reads' aD.out).1; omega) | simpa using h_); obtain rfl := k80_openM hM16; have HP16 := Kd.R_seg HX16.out (aA : Int) (OD) (by have h_ : (aA : Int) < ((aB.length : Int) : Int) := OD; first | exact h_ | (have e_ := (Kd.R_reads' aD.out).1; omega) | simpa using h_) (seg := [.int .i64 (wrap64 ((wrap64 ((wrap64 (aC + 1)) + 1)) + 1))]) (j := 3) hcl16 aZ (show 4 ≤ 4 from by decide) (x' := (⟨(⟨(rd_T80 aE aA).f0.f0, (rd_T80 aE aA).f0.f1, (rd_T80 aE aA).f0.f2⟩ : S78), wrap64 ((wrap64 ((wrap64 (aC + 1)) + 1)) + 1)⟩ : S80)) (k80_mkM _ _ _ (⟨(⟨(rd_T80 aE aA).f0.f0, (rd_T80 aE aA).f0.f1, (rd_T80 aE aA).f0.f2⟩ : S78), wrap64 ((wrap64 ((wrap64 (aC + 1)) + 1)) + 1)⟩ : S80) ) (fun _ hk => hk); have bM := aZ 3 _ rfl; (try simp only [show (k80).sz = 4 from rfl, Nat.mul_one, Nat.add_zero] at bM); have bN := bE 3; (try simp only [show (k80).sz = 4 from rfl, Nat.mul_one, Nat.add_zero] at bN); clear hcl16 aZ bE hM16) | ((with_reducible refine gate_store (t := 3) (p := 40) rfl ?_); refine store_event (t := 3) (p := 40) (v := ?vo_w17) (w1 := (aN.setCell ⟨go5, (aA : Int).toNat * 4 + 3, none⟩ (.int .i64 (wrap64 ((wrap64 ((wrap64 (aC + 1)) + 1)) + 1))))) ?hg ?ho ?hn ?hr ?_; (case ho => rfl); (case hg => rfl); (case hn => rfl); (case hr => first | (go_simp; done) | (go_simp; rfl)); intro bO hw; have hg : aN.grownBy bO (some go5) := (by rw [hw]; exact HP16.2); have hp_ : Kd.R k80 80 bO w0.heap.size (fun k_ => (P0_ k_ ∨ w.heap.size ≤ k_)) (.slice (some ⟨go5, 0, none⟩) aB.length bA) bF := (by rw [hw, Ny104.out]; exact HP16.1); clear HP16; replace HB := am ((by rw [hw]; exact below_set (HB.out) GB5.out : Below w0.heap.size w0 bO)); replace HK := am (Kept.of_grown (S := (fun k_ => P0_ k_)) hg (by repeat (first | (with_reducible first | exact HK.out | apply Kept.alloc | apply Kept.drewN | apply Kept.drew) | exact HK.out)) (fun k_ e_ => (aD.out.1 k_ e_))); replace aD := am (hp_); clear hg hw hp_))
     go_roundg k1
     case measure => have := HK1.out; omega
     case rel => exact ⟨(bF), (wrap64 ((wrap64 ((wrap64 ((wrap64 (aC + 1)) + 1)) + 1)) + 1)), (wrap64 (aA + 1)), (by first | rfl | (simp; done) | (simp [*]; done)), (by first | rfl | (simp; done) | (simp [*]; done)), H', ⟨by have := HK1.out; omega⟩, ⟨KR aD⟩, ⟨by repeat (first | (with_reducible first | exact HK.out | apply Kept.alloc | apply Kept.drewN | apply Kept.drew) | exact HK.out)⟩, ⟨KL HB⟩⟩
    ·rw [if_neg c4] at H
     exact absurd H (by simp)
   ·rw [if_neg c3] at H
    have c3b0 : decide (aA < (aB.length : Int)) = false := decide_eq_false c3
    clear c3
    simp only [Option.some.injEq, Prod.mk.injEq] at H
    obtain ⟨rfl, rfl⟩ := H
    obtain ⟨_, _, bP⟩ := Kd.R_slice aD.out
    subst bP
    go_wp2
    go_ret
    exact ⟨ER, by refine KW ?_; exact aD.out, KL HB, by repeat (first | (with_reducible first | exact HK.out | apply Kept.alloc | apply Kept.drewN | apply Kept.drew) | exact HK.out)⟩
def laws_markCache.f (k : Nat) (a0_0 : Int) (l0_1 : List (S80)) (a1 : Int) : Option (Int × (List (S80))) := (laws_markSeenS.f k l0_1 a1).bind fun bt102 => (some (bt102.1, bt102.2))
theorem laws_markCache.calls (k : Nat) (aH : Int) (P0_1_ : Nat → Prop) (u9000_ : Value) (aB : List (S80)) (a1 : Int) (r1 : Int) (r2 : List (S80)) (w0 w : World) (hB : Below w0.heap.size w0 w) (aI : Kd.R k80 80 w w0.heap.size P0_1_ u9000_ aB) (h : laws_markCache.f k aH aB a1 = some (r1, r2)) :
  Calls Try.prog 26 #[.agg #[.int .i64 aH, u9000_], .int .i64 a1] w fun e w' => e = .returned (.int .i64 r1) ∧ Kd.R k80 80 w' w0.heap.size (fun k_ => (P0_1_ k_ ∨ w.heap.size ≤ k_)) u9000_ r2 ∧ Below w0.heap.size w0 w' ∧ Kept w w' (fun k_ => P0_1_ k_) := by
 have aT := Try.underlying25
 have aA := am (show Kd.R k80 80 w w0.heap.size (fun k_ => (P0_1_ k_ ∨ w.heap.size ≤ k_)) u9000_ aB from Kd.R_mono aI (fun k_ hk => (.inl hk)))
 have HK := am (Kept.refl w (fun k_ => P0_1_ k_))
 have HW0 := Aside0.mk hB.size
 have HB := Aside0.mk hB
 clear hB
 have H : ((laws_markSeenS.f k aB a1).bind fun aD => (some (aD.1, aD.2))) = some (r1, r2) := h
 clear h
 replace H := bm H
 obtain ⟨⟨aJ, aK⟩, aR, H⟩ := H
 replace H : (some (aJ, aK)) = some (r1, r2) := H
 have A3 := Aside0.mk aR
 clear aR
 simp only [Option.some.injEq, Prod.mk.injEq] at H
 obtain ⟨rfl, rfl⟩ := H
 obtain ⟨aM, aN, aU⟩ := Kd.R_slice aA.out
 subst aU
 go_enter Try.func26, Try.ntmps26
 go_wp2_with (first | ((with_reducible refine gate_dst (N := 2) rfl ?_); refine box_event rfl (N := 2) rfl (cs := #[.int .i64 aH, .slice aM aB.length aN]) (t := 25) BX ?_; intro aE hg w5 aL hb; replace aA := am (Kd.R_below (KR aA) hb); have aC := am (aL); have aF := am ((by rw [hg]; exact (by first | exact HK.out.1 | exact (show Kept w _ (fun k_ => P0_1_ k_) from by repeat (first | (with_reducible first | exact HK.out | apply Kept.alloc | apply Kept.drewN | apply Kept.drew) | exact HK.out)).1) : w.heap.size ≤ aE)); replace HK := am (Kept.below (S := (fun k_ => P0_1_ k_)) (by repeat (first | (with_reducible first | exact HK.out | apply Kept.alloc | apply Kept.drewN | apply Kept.drew) | exact HK.out)) hb); have aG := am ((by rw [hg]; exact (below_size (KL HB)) : w0.heap.size ≤ aE)); replace HB := bl (KL HB) hb; clear hb aL hg; have ⟨_, _, _⟩ := y2 w5 aC.out) | ((with_reducible refine gate_callee (f := 36) rfl ?_); refine goesL_ (some 8) rfl rfl Try.func36 (by kernel_rfl) rfl #[.slice aM aB.length aN, .int .i64 a1] rfl MT ?_; (with_reducible refine (laws_markSeenS.calls k (fun k_ => some k_ = (.slice aM aB.length aN : Value).ownBlock) (.slice aM aB.length aN) aB a1 aJ aK w0 _ ?_ ?_ A3.out).mono ?_); exact K1 HB aG.out; exact Kd.R_tight rfl aA.out; rintro e w7 ⟨rfl, aS, hb, hkp⟩; refine ⟨_, rfl, ?_⟩; replace aC := am (blk_kept (KB aC) hkp (fun hs_ => (fun e_ => (Kd.R_ne aA.out aC.out (by decide)) e_) hs_)); replace HK := am (Kept.then_ (S := (fun k_ => P0_1_ k_)) (by repeat (first | (with_reducible first | exact HK.out | apply Kept.alloc | apply Kept.drewN | apply Kept.drew | refine Kept.setCell ?_ (.inr aF.out) _) | exact HK.out)) hkp (fun k_ hs_ => (fun e_ => (aA.out.1 k_ e_.symm)) hs_)); replace aA := am (Kd.R_reok rfl aS (fun k_ e_ => aA.out.1 k_ e_)); replace HB := am (hb); (try clear hb); (try clear hkp); (try clear aS)))
 go_ret
 exact ⟨ER, by refine KW ?_; exact aA.out, K1 HB aG.out, by repeat (first | (with_reducible first | exact HK.out | apply Kept.alloc | apply Kept.drewN | apply Kept.drew | refine Kept.setCell ?_ (.inr aF.out) _) | exact HK.out)⟩
def laws_markText.l0 : Nat → Int → ByteArray → Option (ByteArray)
 | 0, _, _ => none
 | k + 1, x0, x3 => if x0 > 0 then ((some (([(wrap64 (48 + (Int.tmod x0 10))) % 256] : List Int) : List Int)).bind fun y101 => (if (strOfNums y101).size + x3.size ≤ 9223372036854775807 then (laws_markText.l0 k (wrap64 (Int.tdiv x0 10)) ((strOfNums y101) ++ x3)) else (none))) else (if 1 + x3.size ≤ 9223372036854775807 then (some ((⟨#[109]⟩ : ByteArray) ++ x3)) else (none))
def laws_markText.f (k : Nat) (a0 : Int) : Option (ByteArray) := if a0 ≤ 0 then (some (⟨#[109, 48]⟩ : ByteArray)) else (laws_markText.l0 k a0 (⟨#[]⟩ : ByteArray))
theorem laws_markText.calls (k : Nat) (a0 : Int) (r : ByteArray) (w : World) (h : laws_markText.f k a0 = some r) :
  Calls Try.prog 28 #[.int .i64 a0] w fun e w' => e = .returned (.string r) ∧ Below w.heap.size w w' := by
 have HB := am (Below.refl w.heap.size w)
 have H : (if a0 ≤ 0 then (some (⟨#[109, 48]⟩ : ByteArray)) else (laws_markText.l0 k a0 (⟨#[]⟩ : ByteArray))) = some r := h
 clear h
 by_cases c2 : a0 ≤ 0
 ·rw [if_pos c2] at H
  have c2b0 : decide (a0 ≤ 0) = true := decide_eq_true c2
  clear c2
  obtain rfl := sj H
  go_enter Try.func28, Try.ntmps28
  go_wp2
  go_ret
  exact ⟨ER, KL HB⟩
 ·rw [if_neg c2] at H
  have c2b0 : decide (a0 ≤ 0) = false := decide_eq_false c2
  clear c2
  have H' := Aside0.mk H
  clear H
  go_enter Try.func28, Try.ntmps28
  go_wp2
  go_loopg [0, 3] k (fun kq v0 v3 w' => ∃ (aA : Int) (aB : ByteArray), v0 = .int .i64 aA ∧ v3 = .string aB ∧ Aside0 (laws_markText.l0 kq aA aB = some r) ∧ Aside0 (kq ≤ k) ∧ Aside0 (Below w.heap.size w w'))
  case atStart => exact ⟨(a0), ((⟨#[]⟩ : ByteArray)), (by first | rfl | (simp; done) | (simp [*]; done)), (by first | rfl | (simp; done) | (simp [*]; done)), H', ⟨Nat.le_refl _⟩, ⟨KL HB⟩⟩
  case round =>
   clear H'
   try clear c2
   try clear c2b0
   try clear p2
   obtain ⟨aA, aB, rfl, rfl, HA, HK1, HB⟩ := hrel
   cases gk with
   | zero => exact absurd HA.out (by simp [laws_markText.l0])
   | succ k1 =>
    have H := HA.out
    clear HA
    simp only [laws_markText.l0] at H
    by_cases c3 : aA > 0
    ·rw [if_pos c3] at H
     have c3b0 : decide (0 < aA) = true := decide_eq_true c3
     clear c3
     obtain ⟨aD, aC⟩ : ∃ y_ : List Int, y_ = (([(wrap64 (48 + (Int.tmod aA 10))) % 256] : List Int)) := ⟨_, rfl⟩
     replace H : (if (strOfNums aD).size + aB.size ≤ 9223372036854775807 then (laws_markText.l0 k1 (wrap64 (Int.tdiv aA 10)) ((strOfNums aD) ++ aB)) else (none)) = some r := by first | (rw [aC]; with_reducible exact H) | (have H2_ := (Option.bind_some _ _).symm.trans H; rw [aC]; with_reducible exact H2_) | (have H2_ := (Option.bind_some _ _).symm.trans H; with_reducible exact H2_) | with_reducible exact H | (rw [aC]; exact H) | exact H
     have Ny101 := Aside0.mk aC
     clear aC
     by_cases c4 : (strOfNums aD).size + aB.size ≤ 9223372036854775807
     ·rw [if_pos c4] at H
      have c4b0 := eq_true c4
      have c4b1 : decide ((strOfNums aD).size + aB.size ≤ 9223372036854775807) = true := decide_eq_true c4
      try have c4b2 : (9223372036854775807 < (strOfNums aD).size + aB.size) = False := eq_false (Nat.not_lt.2 c4)
      have H' := Aside0.mk H
      clear H
      go_wp2_with (first | ((with_reducible refine gate_dst (N := 12) rfl ?_); refine Kd.R_lit (Kd.int .u8) _ 5 ?hg (N := 12) ?hd (xs := ([(wrap64 (48 + (Int.tmod aA 10))) % 256] : List Int)) (inner := [.int .u8 ((wrap64 (48 + (Int.tmod aA 10))) % 256)]) (ok := fun _ => True) (okp := fun _ => True) ?hr ?hp (fun _ hk => hk) trivial (Below.refl _ _) (Nat.le_refl _) (by simp) ?_; (case hd => rfl); (case hg => rfl); (case hr => first | (go_simp; done) | (go_simp; rfl)); (case hp => exact (Reps.one (show Kd.M (Kd.int .u8) _ _ _ ((wrap64 (48 + (Int.tmod aA 10))) % 256) [.int .u8 ((wrap64 (48 + (Int.tmod aA 10))) % 256)] from rfl) (Reps.none _ _))); intro aG w5 aE hb hg_ hnew_; clear hg_ hnew_; (first | rw [← Ny101.out] at aE | (simp only [Int.reduceToNat] at aE; rw [← Ny101.out] at aE)); have aF := am (Kd.R_lower aE (below_size (KL HB))); replace HB := bl (KL HB) hb; clear hb aE; have hcv7 := own_string (P := Try.prog) Try.underlying74 Try.underlying5 Try.underlying9 (Kd.own_of_R aF.out)))
      go_roundg k1
      case measure => have := HK1.out; omega
      case rel => exact ⟨(wrap64 (Int.tdiv aA 10)), ((strOfNums aD) ++ aB), (by first | rfl | (simp; done) | (simp [*]; done)), (by first | rfl | (simp; done) | (simp [*]; done)), H', ⟨by have := HK1.out; omega⟩, ⟨KL HB⟩⟩
     ·rw [if_neg c4] at H
      exact absurd H (by simp)
    ·rw [if_neg c3] at H
     have c3b0 : decide (0 < aA) = false := decide_eq_false c3
     clear c3
     by_cases c8 : 1 + aB.size ≤ 9223372036854775807
     ·rw [if_pos c8] at H
      have c8b0 := eq_true c8
      have c8b1 : decide (1 + aB.size ≤ 9223372036854775807) = true := decide_eq_true c8
      try have c8b2 : (9223372036854775807 < 1 + aB.size) = False := eq_false (Nat.not_lt.2 c8)
      obtain rfl := sj H
      go_wp2
      go_ret
      exact ⟨ER, KL HB⟩
     ·rw [if_neg c8] at H
      exact absurd H (by simp)
def laws_markAirS.l0 : Nat → List (S49) → Int → Int → Option (Int × (List (S49)))
 | 0, _, _, _ => none
 | k + 1, x0, x1, x5 => if x5 < (x0.length : Int) then ((laws_markText.f k x1).bind fun t101 => (if 0 ≤ x5 then ((some (x0.set (x5 : Int).toNat (⟨t101, (rd_T49 x0 x5).f1⟩ : S49) : List (S49))).bind fun y102 => (laws_markAirS.l0 k (y102.set (x5 : Int).toNat (⟨(rd_T49 y102 x5).f0, ((Int.tmod (wrap64 (x1 + 1)) 3) == 0)⟩ : S49)) (wrap64 ((wrap64 (x1 + 1)) + 1)) (wrap64 (x5 + 1)))) else (none))) else (some (x1, x0))
def laws_markAirS.f (k : Nat) (l0 : List (S49)) (a1 : Int) : Option (Int × (List (S49))) := laws_markAirS.l0 k l0 a1 0
theorem laws_markAirS.calls (k : Nat) (P0_ : Nat → Prop) (u9000_ : Value) (l0 : List (S49)) (a1 : Int) (r1 : Int) (r2 : List (S49)) (w0 w : World) (hB : Below w0.heap.size w0 w) (bK : Kd.R k49 49 w w0.heap.size P0_ u9000_ l0) (h : laws_markAirS.f k l0 a1 = some (r1, r2)) :
  Calls Try.prog 15 #[u9000_, .int .i64 a1] w fun e w' => e = .returned (.int .i64 r1) ∧ Kd.R k49 49 w' w0.heap.size (fun k_ => (P0_ k_ ∨ w.heap.size ≤ k_)) u9000_ r2 ∧ Below w0.heap.size w0 w' ∧ Kept w w' (fun k_ => P0_ k_) := by
 have bL := am (show Kd.R k49 49 w w0.heap.size (fun k_ => (P0_ k_ ∨ w.heap.size ≤ k_)) u9000_ l0 from Kd.R_mono bK (fun k_ hk => (.inl hk)))
 have HK := am (Kept.refl w (fun k_ => P0_ k_))
 have HW0 := Aside0.mk hB.size
 have HB := Aside0.mk hB
 clear hB
 have H : (laws_markAirS.l0 k l0 a1 0) = some (r1, r2) := h
 clear h
 have H' := Aside0.mk H
 clear H
 go_enter Try.func15, Try.ntmps15
 go_wp2
 go_loopg [1, 5] k (fun kq v1 v5 w' => ∃ (aB : List (S49)) (aD : Int) (aA : Int), v1 = .int .i64 aD ∧ v5 = .int .i64 aA ∧ Aside0 (laws_markAirS.l0 kq aB aD aA = some (r1, r2)) ∧ Aside0 (kq ≤ k) ∧ Aside0 (Kd.R k49 49 w' w0.heap.size (fun k_ => (P0_ k_ ∨ w.heap.size ≤ k_)) u9000_ aB) ∧ Aside0 (Kept w w' (fun k_ => P0_ k_)) ∧ Aside0 (Below w0.heap.size w0 w'))
 case atStart => exact ⟨(l0), (a1), (0), (by first | rfl | (simp; done) | (simp [*]; done)), (by first | rfl | (simp; done) | (simp [*]; done)), H', ⟨Nat.le_refl _⟩, ⟨KR bL⟩, ⟨by repeat (first | (with_reducible first | exact HK.out | apply Kept.alloc | apply Kept.drewN | apply Kept.drew) | exact HK.out)⟩, ⟨KL HB⟩⟩
 case round =>
  clear H'
  try clear c1
  try clear p2
  obtain ⟨aB, aD, aA, rfl, rfl, HA, HK1, aC, HK, HB⟩ := hrel
  cases gk with
  | zero => exact absurd HA.out (by simp [laws_markAirS.l0])
  | succ k1 =>
   have H := HA.out
   clear HA
   simp only [laws_markAirS.l0] at H
   by_cases c3 : aA < (aB.length : Int)
   ·rw [if_pos c3] at H
    have c3b0 : decide (aA < (aB.length : Int)) = true := decide_eq_true c3
    clear c3
    replace H := bm H
    obtain ⟨aH, aZ, H⟩ := H
    replace H : (if 0 ≤ aA then ((some (aB.set (aA : Int).toNat (⟨aH, (rd_T49 aB aA).f1⟩ : S49) : List (S49))).bind fun aE => (laws_markAirS.l0 k1 (aE.set (aA : Int).toNat (⟨(rd_T49 aE aA).f0, ((Int.tmod (wrap64 (aD + 1)) 3) == 0)⟩ : S49)) (wrap64 ((wrap64 (aD + 1)) + 1)) (wrap64 (aA + 1)))) else (none)) = some (r1, r2) := H
    have A4 := Aside0.mk aZ
    clear aZ
    by_cases c5 : 0 ≤ aA
    ·rw [if_pos c5] at H
     have c5b0 : decide (0 ≤ aA) = true := decide_eq_true c5
     clear c5
     obtain ⟨aE, aF⟩ : ∃ y_ : List (S49), y_ = (aB.set (aA : Int).toNat (⟨aH, (rd_T49 aB aA).f1⟩ : S49)) := ⟨_, rfl⟩
     replace H : (laws_markAirS.l0 k1 (aE.set (aA : Int).toNat (⟨(rd_T49 aE aA).f0, ((Int.tmod (wrap64 (aD + 1)) 3) == 0)⟩ : S49)) (wrap64 ((wrap64 (aD + 1)) + 1)) (wrap64 (aA + 1))) = some (r1, r2) := by first | (rw [aF]; with_reducible exact H) | (have H2_ := (Option.bind_some _ _).symm.trans H; rw [aF]; with_reducible exact H2_) | (have H2_ := (Option.bind_some _ _).symm.trans H; with_reducible exact H2_) | with_reducible exact H | (rw [aF]; exact H) | exact H
     have Ny102 := Aside0.mk aF
     clear aF
     obtain ⟨aN, aG⟩ : ∃ y_ : List (S49), y_ = (aE.set (aA : Int).toNat (⟨(rd_T49 aE aA).f0, ((Int.tmod (wrap64 (aD + 1)) 3) == 0)⟩ : S49)) := ⟨_, rfl⟩
     replace H : (laws_markAirS.l0 k1 aN (wrap64 ((wrap64 (aD + 1)) + 1)) (wrap64 (aA + 1))) = some (r1, r2) := by first | (rw [aG]; with_reducible exact H) | (have H2_ := (Option.bind_some _ _).symm.trans H; rw [aG]; with_reducible exact H2_) | (have H2_ := (Option.bind_some _ _).symm.trans H; with_reducible exact H2_) | with_reducible exact H | (rw [aG]; exact H) | exact H
     have Ny103 := Aside0.mk aG
     clear aG
     have H' := Aside0.mk H
     clear H
     obtain ⟨_, aW, bM⟩ := Kd.R_slice aC.out
     subst bM
     go_wp2_with (first | ((with_reducible refine gate_callee (f := 28) rfl ?_); refine goesL_ (some 15) rfl rfl Try.func28 (by kernel_rfl) rfl #[.int .i64 aD] rfl MT ?_; (with_reducible refine (laws_markText.calls k1 aD aH _ A4.out).mono ?_); rintro e w9 ⟨rfl, hb⟩; refine ⟨_, rfl, ?_⟩; replace aC := am (Kd.R_below (KR aC) hb); replace HK := am (Kept.below (S := (fun k_ => P0_ k_)) (by repeat (first | (with_reducible first | exact HK.out | apply Kept.alloc | apply Kept.drewN | apply Kept.drew) | exact HK.out)) hb); replace HB := bl (KL HB) hb; (try clear hb); (try clear hb2); (try clear hk); (try clear hi); have p6 : 0 ≤ (aA : Int) := OD; have q6 : (aA : Int) < ((aB.length : Int) : Int) := OD; obtain ⟨go6, _, bA, bB, gl6, cl6, HG6⟩ := Kd.R_form aC.out (by omega); (first | cases bA | (injection bA with ea_ en_ ec_; (first | subst ea_ | (injection ea_ with ea_; subst ea_)); subst ec_; clear en_)); have GB6 := Aside0.mk bB; have GG6 := Aside0.mk HG6; clear bB gl6 HG6; have HMgo6 := am (show (P0_ go6 ∨ w.heap.size ≤ go6) from (aC.out.1 _ rfl)); obtain ⟨ce6, hcl6, hM6, aO, aP⟩ := Kd.R_elem aC.out z49 (aA : Int) p6 q6; obtain rfl := k49_openM hM6; have bC : w9.cell? ⟨go6, (aA : Int).toNat * 2, none⟩ = some (.string ((rd_T49 aB aA).f0)) := aO 0 _ rfl; have bD : w9.cell? ⟨go6, (aA : Int).toNat * 2 + 1, none⟩ = some (.bool ((rd_T49 aB aA).f1)) := aO 1 _ rfl; have bE : w9.frozen? ⟨go6, (aA : Int).toNat * 2, none⟩ = false := aP 0; have bF : w9.frozen? ⟨go6, (aA : Int).toNat * 2 + 1, none⟩ = false := aP 1; clear hcl6 aO aP hM6; replace p6 := eq_true p6; replace q6 := eq_true q6; have HX10 := am (show Kd.R k49 49 w9 w0.heap.size (fun k_ => (P0_ k_ ∨ w.heap.size ≤ k_)) (.slice (some ⟨go6, 0, none⟩) aB.length aW) aB from (KR aC)); obtain ⟨ce10, hcl10, hM10, aI, aL⟩ := Kd.R_elem HX10.out z49 (aA : Int) (OD) (by have h_ : (aA : Int) < ((aB.length : Int) : Int) := OD; first | exact h_ | (have e_ := (Kd.R_reads' aC.out).1; omega) | simpa using h_); obtain rfl := k49_openM hM10; have HP10 := Kd.R_seg HX10.out (aA : Int) (OD) (by have h_ : (aA : Int) < ((aB.length : Int) : Int) := OD; first | exact h_ | (have e_ := (Kd.R_reads' aC.out).1; omega) | simpa using h_) (seg := [.string aH]) (j := 0) hcl10 aI (show 1 ≤ 2 from by decide) (x' := (⟨aH, (rd_T49 aB aA).f1⟩ : S49)) (k49_mkM _ _ _ (⟨aH, (rd_T49 aB aA).f1⟩ : S49) ) (fun _ hk => hk); have aQ := aI 0 _ rfl; (try simp only [show (k49).sz = 2 from rfl, Nat.mul_one, Nat.add_zero] at aQ); have aR := aL 0; (try simp only [show (k49).sz = 2 from rfl, Nat.mul_one, Nat.add_zero] at aR); clear hcl10 aI aL hM10) | ((with_reducible refine gate_store (t := 9) (p := 17) rfl ?_); refine store_event (t := 9) (p := 17) (v := ?vo_w11) (w1 := (w9.setCell ⟨go6, (aA : Int).toNat * 2, none⟩ (.string aH))) ?hg ?ho ?hn ?hr ?_; (case ho => rfl); (case hg => rfl); (case hn => rfl); (case hr => first | (go_simp; done) | (go_simp; rfl)); intro aK hw; have hg : w9.grownBy aK (some go6) := (by rw [hw]; exact HP10.2); have hp_ : Kd.R k49 49 aK w0.heap.size (fun k_ => (P0_ k_ ∨ w.heap.size ≤ k_)) (.slice (some ⟨go6, 0, none⟩) aB.length aW) aE := (by rw [hw, Ny102.out]; exact HP10.1); clear HP10; replace HB := am ((by rw [hw]; exact below_set (HB.out) GB6.out : Below w0.heap.size w0 aK)); replace HK := am (Kept.of_grown (S := (fun k_ => P0_ k_)) hg (by repeat (first | (with_reducible first | exact HK.out | apply Kept.alloc | apply Kept.drewN | apply Kept.drew) | exact HK.out)) (fun k_ e_ => (aC.out.1 k_ e_))); replace aC := am (hp_); clear hg hw hp_; have p7 : 0 ≤ (aA : Int) := OD; have q7 : (aA : Int) < ((aB.length : Int) : Int) := OD; obtain ⟨ce7, hcl7, hM7, aS, aT⟩ := Kd.R_elem aC.out z49 (aA : Int) p7 q7; obtain rfl := k49_openM hM7; have bG : aK.cell? ⟨go6, (aA : Int).toNat * 2, none⟩ = some (.string ((rd_T49 aE aA).f0)) := aS 0 _ rfl; have bH : aK.cell? ⟨go6, (aA : Int).toNat * 2 + 1, none⟩ = some (.bool ((rd_T49 aE aA).f1)) := aS 1 _ rfl; have bI : aK.frozen? ⟨go6, (aA : Int).toNat * 2, none⟩ = false := aT 0; have bJ : aK.frozen? ⟨go6, (aA : Int).toNat * 2 + 1, none⟩ = false := aT 1; clear hcl7 aS aT hM7; replace p7 := eq_true p7; replace q7 := eq_true q7; have HX12 := am (show Kd.R k49 49 aK w0.heap.size (fun k_ => (P0_ k_ ∨ w.heap.size ≤ k_)) (.slice (some ⟨go6, 0, none⟩) aB.length aW) aE from (KR aC)); obtain ⟨ce12, hcl12, hM12, aJ, aM⟩ := Kd.R_elem HX12.out z49 (aA : Int) (OD) (by have h_ : (aA : Int) < ((aB.length : Int) : Int) := OD; first | exact h_ | (have e_ := (Kd.R_reads' aC.out).1; omega) | simpa using h_); obtain rfl := k49_openM hM12; have HP12 := Kd.R_seg HX12.out (aA : Int) (OD) (by have h_ : (aA : Int) < ((aB.length : Int) : Int) := OD; first | exact h_ | (have e_ := (Kd.R_reads' aC.out).1; omega) | simpa using h_) (seg := [.bool ((Int.tmod (wrap64 (aD + 1)) 3) == 0)]) (j := 1) hcl12 aJ (show 2 ≤ 2 from by decide) (x' := (⟨(rd_T49 aE aA).f0, ((Int.tmod (wrap64 (aD + 1)) 3) == 0)⟩ : S49)) (k49_mkM _ _ _ (⟨(rd_T49 aE aA).f0, ((Int.tmod (wrap64 (aD + 1)) 3) == 0)⟩ : S49) ) (fun _ hk => hk); have aU := aJ 1 _ rfl; (try simp only [show (k49).sz = 2 from rfl, Nat.mul_one, Nat.add_zero] at aU); have aV := aM 1; (try simp only [show (k49).sz = 2 from rfl, Nat.mul_one, Nat.add_zero] at aV); clear hcl12 aJ aM hM12) | ((with_reducible refine gate_store (t := 4) (p := 26) rfl ?_); refine store_event (t := 4) (p := 26) (v := ?vo_w13) (w1 := (aK.setCell ⟨go6, (aA : Int).toNat * 2 + 1, none⟩ (.bool ((Int.tmod (wrap64 (aD + 1)) 3) == 0)))) ?hg ?ho ?hn ?hr ?_; (case ho => rfl); (case hg => rfl); (case hn => rfl); (case hr => first | (go_simp; done) | (go_simp; rfl)); intro aX hw; have hg : aK.grownBy aX (some go6) := (by rw [hw]; exact HP12.2); have hp_ : Kd.R k49 49 aX w0.heap.size (fun k_ => (P0_ k_ ∨ w.heap.size ≤ k_)) (.slice (some ⟨go6, 0, none⟩) aB.length aW) aN := (by rw [hw, Ny103.out]; exact HP12.1); clear HP12; replace HB := am ((by rw [hw]; exact below_set (HB.out) GB6.out : Below w0.heap.size w0 aX)); replace HK := am (Kept.of_grown (S := (fun k_ => P0_ k_)) hg (by repeat (first | (with_reducible first | exact HK.out | apply Kept.alloc | apply Kept.drewN | apply Kept.drew) | exact HK.out)) (fun k_ e_ => (aC.out.1 k_ e_))); replace aC := am (hp_); clear hg hw hp_))
     go_roundg k1
     case measure => have := HK1.out; omega
     case rel => exact ⟨(aN), (wrap64 ((wrap64 (aD + 1)) + 1)), (wrap64 (aA + 1)), (by first | rfl | (simp; done) | (simp [*]; done)), (by first | rfl | (simp; done) | (simp [*]; done)), H', ⟨by have := HK1.out; omega⟩, ⟨KR aC⟩, ⟨by repeat (first | (with_reducible first | exact HK.out | apply Kept.alloc | apply Kept.drewN | apply Kept.drew) | exact HK.out)⟩, ⟨KL HB⟩⟩
    ·rw [if_neg c5] at H
     exact absurd H (by simp)
   ·rw [if_neg c3] at H
    have c3b0 : decide (aA < (aB.length : Int)) = false := decide_eq_false c3
    clear c3
    simp only [Option.some.injEq, Prod.mk.injEq] at H
    obtain ⟨rfl, rfl⟩ := H
    obtain ⟨_, _, aY⟩ := Kd.R_slice aC.out
    subst aY
    go_wp2
    go_ret
    exact ⟨ER, by refine KW ?_; exact aC.out, KL HB, by repeat (first | (with_reducible first | exact HK.out | apply Kept.alloc | apply Kept.drewN | apply Kept.drew) | exact HK.out)⟩
end Go.Proofs.Ytdijeimekbinkaa.PAll
end
