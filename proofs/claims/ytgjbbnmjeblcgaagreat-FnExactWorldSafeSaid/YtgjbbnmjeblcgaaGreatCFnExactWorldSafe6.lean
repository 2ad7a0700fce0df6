/- Contracts of the functions that the statement reaches. -/
import Derived.Test.YtgjbbnmjeblcgaaGreatCFnExactWorldSafe3
import Derived.Test.YtgjbbnmjeblcgaaGreatCFnExactWorldSafe4
import Derived.Test.YtgjbbnmjeblcgaaGreatCFnExactWorldSafe5
set_option maxHeartbeats 8000000
set_option maxRecDepth 100000
section
namespace Go.Proofs.YtgjbbnmjeblcgaaGreat.PAll
open Go.RowKit Go.Proofs.YtgjbbnmjeblcgaaGreatW.PrintWords Go.Proofs.YtgjbbnmjeblcgaaGreatW.PrintLast Go.Proofs.YtgjbbnmjeblcgaaGreatW.PrintMore
attribute [local go_sem] max2_int min2_int max_two min_two max_three min_three max_four min_four
set_option linter.unusedVariables false
set_option linter.unusedSimpArgs false
def laws_eqGate.f (k : Nat) (a0_0 : Int) (l0_1 : List (S107)) (a0_2 : Int) (l0_3 : List (S128)) (l0_4 : List (S103)) (l0_5 : List (S103)) (a1_0 : Int) (l1_1 : List (S107)) (a1_2 : Int) (l1_3 : List (S128)) (l1_4 : List (S103)) (l1_5 : List (S103)) : Option (Bool) := if a0_0 = a1_0 then ((laws_eqRuleS.f k l0_1 l1_1).bind fun t103 => (if t103 = true then ((laws_eqCache.f k a0_2 l0_3 a1_2 l1_3).bind fun t104 => (if t104 = true then ((laws_eqSaS.f k l0_4 l1_4).bind fun t105 => (if t105 = true then ((laws_eqSaS.f k l0_5 l1_5).bind fun t106 => (if t106 = true then (some true) else (some false))) else (some false))) else (some false))) else (some false))) else (some false)
theorem laws_eqGate.calls (k : Nat) (aT : Int) (aV : Option Addr) (aW : Nat) (aH : List (S107)) (aP : Int) (aZ : Option Addr) (bA : Nat) (aJ : List (S128)) (bD : Option Addr) (bE : Nat) (aL : List (S103)) (bH : Option Addr) (bI : Nat) (aN : List (S103)) (aU : Int) (aX : Option Addr) (aY : Nat) (aI : List (S107)) (aQ : Int) (bB : Option Addr) (bC : Nat) (aK : List (S128)) (bF : Option Addr) (bG : Nat) (aM : List (S103)) (bJ : Option Addr) (bK : Nat) (aO : List (S103)) (r : Bool) (w : World) (cD : Kd.C k107 w aV aH.length aH) (cE : aH.length ≤ aW) (cF : Kd.C k128 w aZ aJ.length aJ) (cG : aJ.length ≤ bA) (cH : Kd.C k103 w bD aL.length aL) (cI : aL.length ≤ bE) (cJ : Kd.C k103 w bH aN.length aN) (cK : aN.length ≤ bI) (cL : Kd.C k107 w aX aI.length aI) (cM : aI.length ≤ aY) (cN : Kd.C k128 w bB aK.length aK) (cO : aK.length ≤ bC) (cP : Kd.C k103 w bF aM.length aM) (cQ : aM.length ≤ bG) (cR : Kd.C k103 w bJ aO.length aO) (cS : aO.length ≤ bK) (h : laws_eqGate.f k aT aH aP aJ aL aN aU aI aQ aK aM aO = some r) :
  Calls Tryz.prog 18 #[.agg #[.int .i64 aT, .slice aV aH.length aW, .int .i64 aP, .slice aZ aJ.length bA, .slice bD aL.length bE, .slice bH aN.length bI], .agg #[.int .i64 aU, .slice aX aI.length aY, .int .i64 aQ, .slice bB aK.length bC, .slice bF aM.length bG, .slice bJ aO.length bK]] w fun e w' => e = .returned (.bool r) ∧ Below w.heap.size w w' := by
 have mG := Tryz.underlying41
 have mH := Tryz.underlying38
 have bM := Aside0.mk cD
 have bN := Aside0.mk cE
 clear cD cE
 have bT := Aside0.mk cF
 have bU := Aside0.mk cG
 clear cF cG
 have bY := Aside0.mk cH
 have bZ := Aside0.mk cI
 clear cH cI
 have cT := Aside0.mk cJ
 have cU := Aside0.mk cK
 clear cJ cK
 have bO := Aside0.mk cL
 have bP := Aside0.mk cM
 clear cL cM
 have bV := Aside0.mk cN
 have bW := Aside0.mk cO
 clear cN cO
 have cA := Aside0.mk cP
 have cB := Aside0.mk cQ
 clear cP cQ
 have cV := Aside0.mk cR
 have cW := Aside0.mk cS
 clear cR cS
 have HB := am (Below.refl w.heap.size w)
 have H : (if aT = aU then ((laws_eqRuleS.f k aH aI).bind fun cC => (if cC = true then ((laws_eqCache.f k aP aJ aQ aK).bind fun bX => (if bX = true then ((laws_eqSaS.f k aL aM).bind fun bQ => (if bQ = true then ((laws_eqSaS.f k aN aO).bind fun bL => (if bL = true then (some true) else (some false))) else (some false))) else (some false))) else (some false))) else (some false)) = some r := h
 clear h
 by_cases c3 : aT = aU
 ·rw [if_pos c3] at H
  have c3b0 : (aT == aU) = true := beq_iff_eq.mpr c3
  have c3b1 : (aT != aU) = false := bne_eq_false_iff_eq.mpr c3
  clear c3
  replace H := bm H
  obtain ⟨cC, lB, H⟩ := H
  replace H : (if cC = true then ((laws_eqCache.f k aP aJ aQ aK).bind fun bX => (if bX = true then ((laws_eqSaS.f k aL aM).bind fun bQ => (if bQ = true then ((laws_eqSaS.f k aN aO).bind fun bL => (if bL = true then (some true) else (some false))) else (some false))) else (some false))) else (some false)) = some r := H
  have A4 := Aside0.mk lB
  clear lB
  by_cases c5 : cC = true
  ·subst c5
   have H1 := pf H
   clear H
   have H := H1
   clear H1
   replace H := bm H
   obtain ⟨bX, lC, H⟩ := H
   replace H : (if bX = true then ((laws_eqSaS.f k aL aM).bind fun bQ => (if bQ = true then ((laws_eqSaS.f k aN aO).bind fun bL => (if bL = true then (some true) else (some false))) else (some false))) else (some false)) = some r := H
   have A6 := Aside0.mk lC
   clear lC
   by_cases c7 : bX = true
   ·subst c7
    have H1 := pf H
    clear H
    have H := H1
    clear H1
    replace H := bm H
    obtain ⟨bQ, lD, H⟩ := H
    replace H : (if bQ = true then ((laws_eqSaS.f k aN aO).bind fun bL => (if bL = true then (some true) else (some false))) else (some false)) = some r := H
    have A8 := Aside0.mk lD
    clear lD
    by_cases c9 : bQ = true
    ·subst c9
     have H1 := pf H
     clear H
     have H := H1
     clear H1
     replace H := bm H
     obtain ⟨bL, cX, H⟩ := H
     replace H : (if bL = true then (some true) else (some false)) = some r := H
     have lE := Aside0.mk cX
     clear cX
     by_cases cY : bL = true
     ·subst cY
      have H1 := pf H
      clear H
      have H := H1
      clear H1
      obtain rfl := sj H
      go_enter Tryz.func18, Tryz.ntmps18
      go_wp2_with (first | ((with_reducible refine gate_dst (N := 2) rfl ?_); refine box_event rfl (N := 2) rfl (cs := #[.int .i64 aT, .slice aV aH.length aW, .int .i64 aP, .slice aZ aJ.length bA, .slice bD aL.length bE, .slice bH aN.length bI]) (t := 41) BX ?_; intro bR hg mI aG hb; have aA := am (aG); have aR := am (GH HB hg); have aC := aR; replace HB := bl (KL HB) hb; clear hb aG hg) | ((with_reducible refine gate_dst (N := 3) rfl ?_); refine box_event rfl (N := 3) rfl (cs := #[.int .i64 aU, .slice aX aI.length aY, .int .i64 aQ, .slice bB aK.length bC, .slice bF aM.length bG, .slice bJ aO.length bK]) (t := 41) BX ?_; intro bS hg lF aG hb; have aB := am (aG); have aS := am (GH1 HB aC.out hg); have aF := aS; replace HB := bl (K1 HB aC.out) hb; have aD := am (NL aA hg); have aE := am (NG aA hg); replace aA := am (BB aA hb); clear hb aG hg; have lG := aD.out; have lH := aE.out; have ⟨_, _, _, _, _, _, _⟩ := y6 lF aA.out; have ⟨_, _, _, _, _, _, _⟩ := y6 lF aB.out) | ((with_reducible refine gate_callee (f := 36) rfl ?_); refine goesL_ (some 14) rfl rfl Tryz.func36 (by kernel_rfl) rfl #[.slice aV aH.length aW, .slice aX aI.length aY] rfl MT ?_; (with_reducible refine (laws_eqRuleS.calls k _ _ aH _ _ aI true _ ?_ ?_ ?_ ?_ A4.out).mono ?_); exact KD bM HB; exact bN.out; exact KD bO HB; exact bP.out; rintro e lI ⟨rfl, hb⟩; refine ⟨_, rfl, ?_⟩; replace aA := am (BB aA hb); replace aB := am (BB aB hb); replace HB := bl (K2 HB aC.out aF.out) hb; (try clear hb); have ⟨_, _, _, _, _, _, _⟩ := y6 lI aA.out; have ⟨_, _, _, _, _, _, _⟩ := y6 lI aB.out) | ((with_reducible refine gate_callee (f := 37) rfl ?_); refine goesL_ (some 20) rfl rfl Tryz.func37 (by kernel_rfl) rfl #[.agg #[.int .i64 aP, .slice aZ aJ.length bA], .agg #[.int .i64 aQ, .slice bB aK.length bC]] rfl MT ?_; (with_reducible refine (laws_eqCache.calls k aP _ _ aJ aQ _ _ aK true _ ?_ ?_ ?_ ?_ A6.out).mono ?_); exact KD bT HB; exact bU.out; exact KD bV HB; exact bW.out; rintro e lJ ⟨rfl, hb⟩; refine ⟨_, rfl, ?_⟩; replace aA := am (BB aA hb); replace aB := am (BB aB hb); replace HB := bl (K2 HB aC.out aF.out) hb; (try clear hb); have ⟨_, _, _, _, _, _, _⟩ := y6 lJ aA.out; have ⟨_, _, _, _, _, _, _⟩ := y6 lJ aB.out) | ((with_reducible refine gate_callee (f := 38) rfl ?_); refine goesL_ (some 26) rfl rfl Tryz.func38 (by kernel_rfl) rfl #[.slice bD aL.length bE, .slice bF aM.length bG] rfl MT ?_; (with_reducible refine (laws_eqSaS.calls k _ _ aL _ _ aM true _ ?_ ?_ ?_ ?_ A8.out).mono ?_); exact KD bY HB; exact bZ.out; exact KD cA HB; exact cB.out; rintro e lK ⟨rfl, hb⟩; refine ⟨_, rfl, ?_⟩; replace aA := am (BB aA hb); replace aB := am (BB aB hb); replace HB := bl (K2 HB aC.out aF.out) hb; (try clear hb); have ⟨_, _, _, _, _, _, _⟩ := y6 lK aA.out; have ⟨_, _, _, _, _, _, _⟩ := y6 lK aB.out) | ((with_reducible refine gate_callee (f := 38) rfl ?_); refine goesL_ (some 32) rfl rfl Tryz.func38 (by kernel_rfl) rfl #[.slice bH aN.length bI, .slice bJ aO.length bK] rfl MT ?_; (with_reducible refine (laws_eqSaS.calls k _ _ aN _ _ aO true _ ?_ ?_ ?_ ?_ lE.out).mono ?_); exact KD cT HB; exact cU.out; exact KD cV HB; exact cW.out; rintro e mJ ⟨rfl, hb⟩; refine ⟨_, rfl, ?_⟩; replace aA := am (BB aA hb); replace aB := am (BB aB hb); replace HB := bl (K2 HB aC.out aF.out) hb; (try clear hb)))
      go_ret
      exact ⟨ER, K2 HB aC.out aF.out⟩
     ·replace cY := Bool.eq_false_iff.mpr cY
      subst cY
      have H1 := nf H
      clear H
      have H := H1
      clear H1
      obtain rfl := sj H
      go_enter Tryz.func18, Tryz.ntmps18
      go_wp2_with (first | ((with_reducible refine gate_dst (N := 2) rfl ?_); refine box_event rfl (N := 2) rfl (cs := #[.int .i64 aT, .slice aV aH.length aW, .int .i64 aP, .slice aZ aJ.length bA, .slice bD aL.length bE, .slice bH aN.length bI]) (t := 41) BX ?_; intro bR hg mK aG hb; have aA := am (aG); have aR := am (GH HB hg); have aC := aR; replace HB := bl (KL HB) hb; clear hb aG hg) | ((with_reducible refine gate_dst (N := 3) rfl ?_); refine box_event rfl (N := 3) rfl (cs := #[.int .i64 aU, .slice aX aI.length aY, .int .i64 aQ, .slice bB aK.length bC, .slice bF aM.length bG, .slice bJ aO.length bK]) (t := 41) BX ?_; intro bS hg lL aG hb; have aB := am (aG); have aS := am (GH1 HB aC.out hg); have aF := aS; replace HB := bl (K1 HB aC.out) hb; have aD := am (NL aA hg); have aE := am (NG aA hg); replace aA := am (BB aA hb); clear hb aG hg; have lM := aD.out; have lN := aE.out; have ⟨_, _, _, _, _, _, _⟩ := y6 lL aA.out; have ⟨_, _, _, _, _, _, _⟩ := y6 lL aB.out) | ((with_reducible refine gate_callee (f := 36) rfl ?_); refine goesL_ (some 14) rfl rfl Tryz.func36 (by kernel_rfl) rfl #[.slice aV aH.length aW, .slice aX aI.length aY] rfl MT ?_; (with_reducible refine (laws_eqRuleS.calls k _ _ aH _ _ aI true _ ?_ ?_ ?_ ?_ A4.out).mono ?_); exact KD bM HB; exact bN.out; exact KD bO HB; exact bP.out; rintro e lO ⟨rfl, hb⟩; refine ⟨_, rfl, ?_⟩; replace aA := am (BB aA hb); replace aB := am (BB aB hb); replace HB := bl (K2 HB aC.out aF.out) hb; (try clear hb); have ⟨_, _, _, _, _, _, _⟩ := y6 lO aA.out; have ⟨_, _, _, _, _, _, _⟩ := y6 lO aB.out) | ((with_reducible refine gate_callee (f := 37) rfl ?_); refine goesL_ (some 20) rfl rfl Tryz.func37 (by kernel_rfl) rfl #[.agg #[.int .i64 aP, .slice aZ aJ.length bA], .agg #[.int .i64 aQ, .slice bB aK.length bC]] rfl MT ?_; (with_reducible refine (laws_eqCache.calls k aP _ _ aJ aQ _ _ aK true _ ?_ ?_ ?_ ?_ A6.out).mono ?_); exact KD bT HB; exact bU.out; exact KD bV HB; exact bW.out; rintro e lP ⟨rfl, hb⟩; refine ⟨_, rfl, ?_⟩; replace aA := am (BB aA hb); replace aB := am (BB aB hb); replace HB := bl (K2 HB aC.out aF.out) hb; (try clear hb); have ⟨_, _, _, _, _, _, _⟩ := y6 lP aA.out; have ⟨_, _, _, _, _, _, _⟩ := y6 lP aB.out) | ((with_reducible refine gate_callee (f := 38) rfl ?_); refine goesL_ (some 26) rfl rfl Tryz.func38 (by kernel_rfl) rfl #[.slice bD aL.length bE, .slice bF aM.length bG] rfl MT ?_; (with_reducible refine (laws_eqSaS.calls k _ _ aL _ _ aM true _ ?_ ?_ ?_ ?_ A8.out).mono ?_); exact KD bY HB; exact bZ.out; exact KD cA HB; exact cB.out; rintro e lQ ⟨rfl, hb⟩; refine ⟨_, rfl, ?_⟩; replace aA := am (BB aA hb); replace aB := am (BB aB hb); replace HB := bl (K2 HB aC.out aF.out) hb; (try clear hb); have ⟨_, _, _, _, _, _, _⟩ := y6 lQ aA.out; have ⟨_, _, _, _, _, _, _⟩ := y6 lQ aB.out) | ((with_reducible refine gate_callee (f := 38) rfl ?_); refine goesL_ (some 32) rfl rfl Tryz.func38 (by kernel_rfl) rfl #[.slice bH aN.length bI, .slice bJ aO.length bK] rfl MT ?_; (with_reducible refine (laws_eqSaS.calls k _ _ aN _ _ aO false _ ?_ ?_ ?_ ?_ lE.out).mono ?_); exact KD cT HB; exact cU.out; exact KD cV HB; exact cW.out; rintro e mL ⟨rfl, hb⟩; refine ⟨_, rfl, ?_⟩; replace aA := am (BB aA hb); replace aB := am (BB aB hb); replace HB := bl (K2 HB aC.out aF.out) hb; (try clear hb)))
      go_ret
      exact ⟨ER, K2 HB aC.out aF.out⟩
    ·replace c9 := Bool.eq_false_iff.mpr c9
     subst c9
     have H1 := nf H
     clear H
     have H := H1
     clear H1
     obtain rfl := sj H
     go_enter Tryz.func18, Tryz.ntmps18
     go_wp2_with (first | ((with_reducible refine gate_dst (N := 2) rfl ?_); refine box_event rfl (N := 2) rfl (cs := #[.int .i64 aT, .slice aV aH.length aW, .int .i64 aP, .slice aZ aJ.length bA, .slice bD aL.length bE, .slice bH aN.length bI]) (t := 41) BX ?_; intro bR hg mM aG hb; have aA := am (aG); have aR := am (GH HB hg); have aC := aR; replace HB := bl (KL HB) hb; clear hb aG hg) | ((with_reducible refine gate_dst (N := 3) rfl ?_); refine box_event rfl (N := 3) rfl (cs := #[.int .i64 aU, .slice aX aI.length aY, .int .i64 aQ, .slice bB aK.length bC, .slice bF aM.length bG, .slice bJ aO.length bK]) (t := 41) BX ?_; intro bS hg lR aG hb; have aB := am (aG); have aS := am (GH1 HB aC.out hg); have aF := aS; replace HB := bl (K1 HB aC.out) hb; have aD := am (NL aA hg); have aE := am (NG aA hg); replace aA := am (BB aA hb); clear hb aG hg; have lS := aD.out; have lT := aE.out; have ⟨_, _, _, _, _, _, _⟩ := y6 lR aA.out; have ⟨_, _, _, _, _, _, _⟩ := y6 lR aB.out) | ((with_reducible refine gate_callee (f := 36) rfl ?_); refine goesL_ (some 14) rfl rfl Tryz.func36 (by kernel_rfl) rfl #[.slice aV aH.length aW, .slice aX aI.length aY] rfl MT ?_; (with_reducible refine (laws_eqRuleS.calls k _ _ aH _ _ aI true _ ?_ ?_ ?_ ?_ A4.out).mono ?_); exact KD bM HB; exact bN.out; exact KD bO HB; exact bP.out; rintro e lU ⟨rfl, hb⟩; refine ⟨_, rfl, ?_⟩; replace aA := am (BB aA hb); replace aB := am (BB aB hb); replace HB := bl (K2 HB aC.out aF.out) hb; (try clear hb); have ⟨_, _, _, _, _, _, _⟩ := y6 lU aA.out; have ⟨_, _, _, _, _, _, _⟩ := y6 lU aB.out) | ((with_reducible refine gate_callee (f := 37) rfl ?_); refine goesL_ (some 20) rfl rfl Tryz.func37 (by kernel_rfl) rfl #[.agg #[.int .i64 aP, .slice aZ aJ.length bA], .agg #[.int .i64 aQ, .slice bB aK.length bC]] rfl MT ?_; (with_reducible refine (laws_eqCache.calls k aP _ _ aJ aQ _ _ aK true _ ?_ ?_ ?_ ?_ A6.out).mono ?_); exact KD bT HB; exact bU.out; exact KD bV HB; exact bW.out; rintro e lV ⟨rfl, hb⟩; refine ⟨_, rfl, ?_⟩; replace aA := am (BB aA hb); replace aB := am (BB aB hb); replace HB := bl (K2 HB aC.out aF.out) hb; (try clear hb); have ⟨_, _, _, _, _, _, _⟩ := y6 lV aA.out; have ⟨_, _, _, _, _, _, _⟩ := y6 lV aB.out) | ((with_reducible refine gate_callee (f := 38) rfl ?_); refine goesL_ (some 26) rfl rfl Tryz.func38 (by kernel_rfl) rfl #[.slice bD aL.length bE, .slice bF aM.length bG] rfl MT ?_; (with_reducible refine (laws_eqSaS.calls k _ _ aL _ _ aM false _ ?_ ?_ ?_ ?_ A8.out).mono ?_); exact KD bY HB; exact bZ.out; exact KD cA HB; exact cB.out; rintro e mN ⟨rfl, hb⟩; refine ⟨_, rfl, ?_⟩; replace aA := am (BB aA hb); replace aB := am (BB aB hb); replace HB := bl (K2 HB aC.out aF.out) hb; (try clear hb)))
     go_ret
     exact ⟨ER, K2 HB aC.out aF.out⟩
   ·replace c7 := Bool.eq_false_iff.mpr c7
    subst c7
    have H1 := nf H
    clear H
    have H := H1
    clear H1
    obtain rfl := sj H
    go_enter Tryz.func18, Tryz.ntmps18
    go_wp2_with (first | ((with_reducible refine gate_dst (N := 2) rfl ?_); refine box_event rfl (N := 2) rfl (cs := #[.int .i64 aT, .slice aV aH.length aW, .int .i64 aP, .slice aZ aJ.length bA, .slice bD aL.length bE, .slice bH aN.length bI]) (t := 41) BX ?_; intro bR hg mO aG hb; have aA := am (aG); have aR := am (GH HB hg); have aC := aR; replace HB := bl (KL HB) hb; clear hb aG hg) | ((with_reducible refine gate_dst (N := 3) rfl ?_); refine box_event rfl (N := 3) rfl (cs := #[.int .i64 aU, .slice aX aI.length aY, .int .i64 aQ, .slice bB aK.length bC, .slice bF aM.length bG, .slice bJ aO.length bK]) (t := 41) BX ?_; intro bS hg lW aG hb; have aB := am (aG); have aS := am (GH1 HB aC.out hg); have aF := aS; replace HB := bl (K1 HB aC.out) hb; have aD := am (NL aA hg); have aE := am (NG aA hg); replace aA := am (BB aA hb); clear hb aG hg; have lX := aD.out; have lY := aE.out; have ⟨_, _, _, _, _, _, _⟩ := y6 lW aA.out; have ⟨_, _, _, _, _, _, _⟩ := y6 lW aB.out) | ((with_reducible refine gate_callee (f := 36) rfl ?_); refine goesL_ (some 14) rfl rfl Tryz.func36 (by kernel_rfl) rfl #[.slice aV aH.length aW, .slice aX aI.length aY] rfl MT ?_; (with_reducible refine (laws_eqRuleS.calls k _ _ aH _ _ aI true _ ?_ ?_ ?_ ?_ A4.out).mono ?_); exact KD bM HB; exact bN.out; exact KD bO HB; exact bP.out; rintro e lZ ⟨rfl, hb⟩; refine ⟨_, rfl, ?_⟩; replace aA := am (BB aA hb); replace aB := am (BB aB hb); replace HB := bl (K2 HB aC.out aF.out) hb; (try clear hb); have ⟨_, _, _, _, _, _, _⟩ := y6 lZ aA.out; have ⟨_, _, _, _, _, _, _⟩ := y6 lZ aB.out) | ((with_reducible refine gate_callee (f := 37) rfl ?_); refine goesL_ (some 20) rfl rfl Tryz.func37 (by kernel_rfl) rfl #[.agg #[.int .i64 aP, .slice aZ aJ.length bA], .agg #[.int .i64 aQ, .slice bB aK.length bC]] rfl MT ?_; (with_reducible refine (laws_eqCache.calls k aP _ _ aJ aQ _ _ aK false _ ?_ ?_ ?_ ?_ A6.out).mono ?_); exact KD bT HB; exact bU.out; exact KD bV HB; exact bW.out; rintro e mP ⟨rfl, hb⟩; refine ⟨_, rfl, ?_⟩; replace aA := am (BB aA hb); replace aB := am (BB aB hb); replace HB := bl (K2 HB aC.out aF.out) hb; (try clear hb)))
    go_ret
    exact ⟨ER, K2 HB aC.out aF.out⟩
  ·replace c5 := Bool.eq_false_iff.mpr c5
   subst c5
   have H1 := nf H
   clear H
   have H := H1
   clear H1
   obtain rfl := sj H
   go_enter Tryz.func18, Tryz.ntmps18
   go_wp2_with (first | ((with_reducible refine gate_dst (N := 2) rfl ?_); refine box_event rfl (N := 2) rfl (cs := #[.int .i64 aT, .slice aV aH.length aW, .int .i64 aP, .slice aZ aJ.length bA, .slice bD aL.length bE, .slice bH aN.length bI]) (t := 41) BX ?_; intro bR hg mQ aG hb; have aA := am (aG); have aR := am (GH HB hg); have aC := aR; replace HB := bl (KL HB) hb; clear hb aG hg) | ((with_reducible refine gate_dst (N := 3) rfl ?_); refine box_event rfl (N := 3) rfl (cs := #[.int .i64 aU, .slice aX aI.length aY, .int .i64 aQ, .slice bB aK.length bC, .slice bF aM.length bG, .slice bJ aO.length bK]) (t := 41) BX ?_; intro bS hg mA aG hb; have aB := am (aG); have aS := am (GH1 HB aC.out hg); have aF := aS; replace HB := bl (K1 HB aC.out) hb; have aD := am (NL aA hg); have aE := am (NG aA hg); replace aA := am (BB aA hb); clear hb aG hg; have mB := aD.out; have mC := aE.out; have ⟨_, _, _, _, _, _, _⟩ := y6 mA aA.out; have ⟨_, _, _, _, _, _, _⟩ := y6 mA aB.out) | ((with_reducible refine gate_callee (f := 36) rfl ?_); refine goesL_ (some 14) rfl rfl Tryz.func36 (by kernel_rfl) rfl #[.slice aV aH.length aW, .slice aX aI.length aY] rfl MT ?_; (with_reducible refine (laws_eqRuleS.calls k _ _ aH _ _ aI false _ ?_ ?_ ?_ ?_ A4.out).mono ?_); exact KD bM HB; exact bN.out; exact KD bO HB; exact bP.out; rintro e mR ⟨rfl, hb⟩; refine ⟨_, rfl, ?_⟩; replace aA := am (BB aA hb); replace aB := am (BB aB hb); replace HB := bl (K2 HB aC.out aF.out) hb; (try clear hb)))
   go_ret
   exact ⟨ER, K2 HB aC.out aF.out⟩
 ·rw [if_neg c3] at H
  have c3b0 : (aT == aU) = false := beq_eq_false_iff_ne.mpr c3
  have c3b1 : (aT != aU) = true := bne_iff_ne.mpr c3
  obtain rfl := sj H
  go_enter Tryz.func18, Tryz.ntmps18
  go_wp2_with (first | ((with_reducible refine gate_dst (N := 2) rfl ?_); refine box_event rfl (N := 2) rfl (cs := #[.int .i64 aT, .slice aV aH.length aW, .int .i64 aP, .slice aZ aJ.length bA, .slice bD aL.length bE, .slice bH aN.length bI]) (t := 41) BX ?_; intro bR hg mS aG hb; have aA := am (aG); have aR := am (GH HB hg); have aC := aR; replace HB := bl (KL HB) hb; clear hb aG hg) | ((with_reducible refine gate_dst (N := 3) rfl ?_); refine box_event rfl (N := 3) rfl (cs := #[.int .i64 aU, .slice aX aI.length aY, .int .i64 aQ, .slice bB aK.length bC, .slice bF aM.length bG, .slice bJ aO.length bK]) (t := 41) BX ?_; intro bS hg mD aG hb; have aB := am (aG); have aS := am (GH1 HB aC.out hg); have aF := aS; replace HB := bl (K1 HB aC.out) hb; have aD := am (NL aA hg); have aE := am (NG aA hg); replace aA := am (BB aA hb); clear hb aG hg; have mE := aD.out; have mF := aE.out; have ⟨_, _, _, _, _, _, _⟩ := y6 mD aA.out; have ⟨_, _, _, _, _, _, _⟩ := y6 mD aB.out))
  go_ret
  exact ⟨ER, K2 HB aC.out aF.out⟩
def laws_eqAirS.l0 : Nat → List (S76) → List (S76) → Int → Option (Bool)
 | 0, _, _, _ => none
 | k + 1, x0, x1, x5 => if x5 < (x0.length : Int) then (if 0 ≤ x5 then (if x5 < (x1.length : Int) then ((laws_eqAir.f ((rd_T76 x0 x5).f0) ((rd_T76 x0 x5).f1) ((rd_T76 x1 x5).f0) ((rd_T76 x1 x5).f1)).bind fun t103 => (if t103 = true then (laws_eqAirS.l0 k x0 x1 (wrap64 (x5 + 1))) else (some false))) else (none)) else (none)) else (some true)
def laws_eqAirS.f (k : Nat) (l0 : List (S76)) (l1 : List (S76)) : Option (Bool) := if (l0.length : Int) = (l1.length : Int) then (laws_eqAirS.l0 k l0 l1 0) else (some false)
def laws_eqAirS.T6 : Bool × List (List Nat × List Nat) := (true, [([], []), ([], []), ([0, 1], [0, 1]), ([2], [2]), ([], []), ([], []), ([4, 5], [4, 5]), ([6], [6]), ([3, 7], [3, 7]), ([8], [8])])
def laws_eqAirS.B6 : List Nat := [0, 0, 3, 7, 0, 0, 48, 112, 255, 511]
theorem laws_eqAirS.tab6 : rtab .any (opsOf Tryz.f19 6) = laws_eqAirS.T6 := by kernel_rfl
theorem laws_eqAirS.bits6 : waitsOk laws_eqAirS.T6.2 laws_eqAirS.B6 = true := by kernel_rfl
theorem laws_eqAirS.calls (k : Nat) (A0 : Option Addr) (c0 : Nat) (l0 : List (S76)) (A1 : Option Addr) (c1 : Nat) (l1 : List (S76)) (r : Bool) (w : World) (aV : Kd.C k76 w A0 l0.length l0) (aW : l0.length ≤ c0) (aX : Kd.C k76 w A1 l1.length l1) (aY : l1.length ≤ c1) (h : laws_eqAirS.f k l0 l1 = some r) :
  Calls Tryz.prog 19 #[.slice A0 l0.length c0, .slice A1 l1.length c1] w fun e w' => e = .returned (.bool r) ∧ Below w.heap.size w w' := by
 have bC := Tryz.underlying76
 have aZ := Aside0.mk aV
 have bD := Aside0.mk aW
 clear aV aW
 have bA := Aside0.mk aX
 have bE := Aside0.mk aY
 clear aX aY
 have HB := am (Below.refl w.heap.size w)
 have H : (if (l0.length : Int) = (l1.length : Int) then (laws_eqAirS.l0 k l0 l1 0) else (some false)) = some r := h
 clear h
 by_cases c3 : (l0.length : Int) = (l1.length : Int)
 ·rw [if_pos c3] at H
  have c3b0 : ((l0.length : Int) == (l1.length : Int)) = true := beq_iff_eq.mpr c3
  have c3b1 : ((l0.length : Int) != (l1.length : Int)) = false := bne_eq_false_iff_eq.mpr c3
  have c3b2 : (l0.length == l1.length) = true := by first | simpa using c3 | (simp at c3 ⊢; omega)
  clear c3
  have H' := Aside0.mk H
  clear H
  go_enter Tryz.func19, Tryz.ntmps19
  go_wp2
  go_loopg [5] k (fun kq v5 w' => ∃ (aA : Int), v5 = .int .i64 aA ∧ Aside0 (laws_eqAirS.l0 kq l0 l1 aA = some r) ∧ Aside0 (kq ≤ k) ∧ Aside0 (Below w.heap.size w w'))
  case atStart => exact ⟨(0), (by first | rfl | (simp; done) | (simp [*]; done)), H', ⟨Nat.le_refl _⟩, ⟨KL HB⟩⟩
  case round =>
   clear H'
   try clear c1
   try clear p2
   try clear c3
   try clear c3b0
   try clear c3b1
   try clear c3b2
   obtain ⟨aA, rfl, HA, HK1, HB⟩ := hrel
   cases gk with
   | zero => exact absurd HA.out (by simp [laws_eqAirS.l0])
   | succ k1 =>
    have H := HA.out
    clear HA
    simp only [laws_eqAirS.l0] at H
    by_cases c4 : aA < (l0.length : Int)
    ·rw [if_pos c4] at H
     have c4b0 : decide (aA < (l0.length : Int)) = true := decide_eq_true c4
     clear c4
     by_cases c5 : 0 ≤ aA
     ·rw [if_pos c5] at H
      have c5b0 : decide (0 ≤ aA) = true := decide_eq_true c5
      clear c5
      by_cases c6 : aA < (l1.length : Int)
      ·rw [if_pos c6] at H
       have c6b0 : decide (aA < (l1.length : Int)) = true := decide_eq_true c6
       clear c6
       replace H := bm H
       obtain ⟨aT, bB, H⟩ := H
       replace H : (if aT = true then (laws_eqAirS.l0 k1 l0 l1 (wrap64 (aA + 1))) else (some false)) = some r := H
       have A7 := Aside0.mk bB
       clear bB
       by_cases c8 : aT = true
       ·subst c8
        have H1 := pf H
        clear H
        have H := H1
        clear H1
        have H' := Aside0.mk H
        clear H
        try go_wp2
        replace HB := am (below_drew1 HB.out)
        have aN : 0 ≤ (aA : Int) := OD
        have aO : aA < (l0.length : Int) := OD
        obtain ⟨aK, aR, aB, aC⟩ := at_T76 aZ.out aA aN aO
        have aF := aC
        have aG := aB
        cases aR
        replace aB := CX HB.out aB
        replace aC := CX HB.out aC
        replace aN := eq_true aN
        replace aO := eq_true aO
        have aP : 0 ≤ (aA : Int) := OD
        have aQ : aA < (l1.length : Int) := OD
        obtain ⟨aL, aS, aD, aE⟩ := at_T76 bA.out aA aP aQ
        have aH := aE
        have aI := aD
        cases aS
        replace aD := CX HB.out aD
        replace aE := CX HB.out aE
        replace aP := eq_true aP
        replace aQ := eq_true aQ
        refine start_ (n := 10) (S := fun w' => w'.cell? (aK.add ((aA).toNat * 2)) = some (.string ((rd_T76 l0 aA).f0)) ∧ w'.cell? ⟨(aK.add ((aA).toNat * 2)).block, (aK.add ((aA).toNat * 2)).off + 1, none⟩ = some (.bool ((rd_T76 l0 aA).f1)) ∧ w'.cell? (aL.add ((aA).toNat * 2)) = some (.string ((rd_T76 l1 aA).f0)) ∧ w'.cell? ⟨(aL.add ((aA).toNat * 2)).block, (aL.add ((aA).toNat * 2)).off + 1, none⟩ = some (.bool ((rd_T76 l1 aA).f1))) (ds := []) (tf 0 10) (by kernel_rfl) rfl rfl ⟨(CY HB.out aG), (CY HB.out aF), (CY HB.out aI), (CY HB.out aH)⟩ (fun aJ => ?_); refine with_tabW laws_eqAirS.tab6 laws_eqAirS.bits6 (fun aM aU => ?_)
        generalize wr.drew = w9 at HB aB aC aD aE aJ ⊢
        refine pv aM 0 17 (tf 1 9) ?_
        refine pv aM 1 18 (tf 2 8) ?_
        refine pv aM 2 19 (tf 3 7) ?_
        refine pv aM 4 21 (tr [3, 1, 1, 5]) ?_
        refine pv aM 5 22 (tr [3, 1, 2, 4]) ?_
        refine pv aM 6 23 (tr [3, 1, 3, 3]) ?_
        refine tk 3 (some 20) (tf 7 3) (take_ofW aM.out aU.out (by kernel_rfl)) aJ ?_
        refine tk 7 (some 24) (tf 8 2) (take_ofW aM.out aU.out (by kernel_rfl)) aJ ?_
        refine one_ (i := 8) (N := some 25) (tf 9 1) rfl rfl (one_of aM.out (by kernel_rfl)) (by decide) (fun K hK => ?_)
        refine goes_ Tryz.func39 (by kernel_rfl) rfl #[.agg #[.string ((rd_T76 l0 aA).f0), .bool ((rd_T76 l0 aA).f1)], .agg #[.string ((rd_T76 l1 aA).f0), .bool ((rd_T76 l1 aA).f1)]] (by rfl) rfl rfl MT ?_
        with_reducible refine (laws_eqAir.calls ((rd_T76 l0 aA).f0) ((rd_T76 l0 aA).f1) ((rd_T76 l1 aA).f0) ((rd_T76 l1 aA).f1) true _ A7.out).mono ?_
        rintro e bF ⟨rfl, hb⟩
        refine ⟨_, rfl, ?_⟩
        replace HB := bl (KL HB) hb
        (try clear hb)
        (try clear hb2)
        (try clear hk)
        (try clear hi)
        refine hK.out _ _ ⟨(CY HB.out aG), (CY HB.out aF), (CY HB.out aI), (CY HB.out aH)⟩ (fun aJ => ?_)
        clear hK K
        refine nm (some 25) ?_
        refine pv aM 9 26 (tf 10 0) ?_
        refine done_ (done_of aM.out (by kernel_rfl)) ?_
        try go_wp2
        go_roundg k1
        case measure => have := HK1.out; omega
        case rel => exact ⟨(wrap64 (aA + 1)), (by first | rfl | (simp; done) | (simp [*]; done)), H', ⟨by have := HK1.out; omega⟩, ⟨KL HB⟩⟩
       ·replace c8 := Bool.eq_false_iff.mpr c8
        subst c8
        have H1 := nf H
        clear H
        have H := H1
        clear H1
        obtain rfl := sj H
        try go_wp2
        replace HB := am (below_drew1 HB.out)
        have aN : 0 ≤ (aA : Int) := OD
        have aO : aA < (l0.length : Int) := OD
        obtain ⟨aK, aR, aB, aC⟩ := at_T76 aZ.out aA aN aO
        have aF := aC
        have aG := aB
        cases aR
        replace aB := CX HB.out aB
        replace aC := CX HB.out aC
        replace aN := eq_true aN
        replace aO := eq_true aO
        have aP : 0 ≤ (aA : Int) := OD
        have aQ : aA < (l1.length : Int) := OD
        obtain ⟨aL, aS, aD, aE⟩ := at_T76 bA.out aA aP aQ
        have aH := aE
        have aI := aD
        cases aS
        replace aD := CX HB.out aD
        replace aE := CX HB.out aE
        replace aP := eq_true aP
        replace aQ := eq_true aQ
        refine start_ (n := 10) (S := fun w' => w'.cell? (aK.add ((aA).toNat * 2)) = some (.string ((rd_T76 l0 aA).f0)) ∧ w'.cell? ⟨(aK.add ((aA).toNat * 2)).block, (aK.add ((aA).toNat * 2)).off + 1, none⟩ = some (.bool ((rd_T76 l0 aA).f1)) ∧ w'.cell? (aL.add ((aA).toNat * 2)) = some (.string ((rd_T76 l1 aA).f0)) ∧ w'.cell? ⟨(aL.add ((aA).toNat * 2)).block, (aL.add ((aA).toNat * 2)).off + 1, none⟩ = some (.bool ((rd_T76 l1 aA).f1))) (ds := []) (tf 0 10) (by kernel_rfl) rfl rfl ⟨(CY HB.out aG), (CY HB.out aF), (CY HB.out aI), (CY HB.out aH)⟩ (fun aJ => ?_); refine with_tabW laws_eqAirS.tab6 laws_eqAirS.bits6 (fun aM aU => ?_)
        generalize wr.drew = bG at HB aB aC aD aE aJ ⊢
        refine pv aM 0 17 (tf 1 9) ?_
        refine pv aM 1 18 (tf 2 8) ?_
        refine pv aM 2 19 (tf 3 7) ?_
        refine pv aM 4 21 (tr [3, 1, 1, 5]) ?_
        refine pv aM 5 22 (tr [3, 1, 2, 4]) ?_
        refine pv aM 6 23 (tr [3, 1, 3, 3]) ?_
        refine tk 3 (some 20) (tf 7 3) (take_ofW aM.out aU.out (by kernel_rfl)) aJ ?_
        refine tk 7 (some 24) (tf 8 2) (take_ofW aM.out aU.out (by kernel_rfl)) aJ ?_
        refine one_ (i := 8) (N := some 25) (tf 9 1) rfl rfl (one_of aM.out (by kernel_rfl)) (by decide) (fun K hK => ?_)
        refine goes_ Tryz.func39 (by kernel_rfl) rfl #[.agg #[.string ((rd_T76 l0 aA).f0), .bool ((rd_T76 l0 aA).f1)], .agg #[.string ((rd_T76 l1 aA).f0), .bool ((rd_T76 l1 aA).f1)]] (by rfl) rfl rfl MT ?_
        with_reducible refine (laws_eqAir.calls ((rd_T76 l0 aA).f0) ((rd_T76 l0 aA).f1) ((rd_T76 l1 aA).f0) ((rd_T76 l1 aA).f1) false _ A7.out).mono ?_
        rintro e bH ⟨rfl, hb⟩
        refine ⟨_, rfl, ?_⟩
        replace HB := bl (KL HB) hb
        (try clear hb)
        (try clear hb2)
        (try clear hk)
        (try clear hi)
        refine hK.out _ _ ⟨(CY HB.out aG), (CY HB.out aF), (CY HB.out aI), (CY HB.out aH)⟩ (fun aJ => ?_)
        clear hK K
        refine nm (some 25) ?_
        refine pv aM 9 26 (tf 10 0) ?_
        refine done_ (done_of aM.out (by kernel_rfl)) ?_
        try go_wp2
        go_ret
        exact ⟨ER, KL HB⟩
      ·rw [if_neg c6] at H
       exact absurd H (by simp)
     ·rw [if_neg c5] at H
      exact absurd H (by simp)
    ·rw [if_neg c4] at H
     have c4b0 : decide (aA < (l0.length : Int)) = false := decide_eq_false c4
     clear c4
     obtain rfl := sj H
     go_wp2
     go_ret
     exact ⟨ER, KL HB⟩
 ·rw [if_neg c3] at H
  have c3b0 : ((l0.length : Int) == (l1.length : Int)) = false := beq_eq_false_iff_ne.mpr c3
  have c3b1 : ((l0.length : Int) != (l1.length : Int)) = true := bne_iff_ne.mpr c3
  have c3b2 : (l0.length == l1.length) = false := by first | simpa using c3 | (simp at c3 ⊢; omega)
  obtain rfl := sj H
  go_enter Tryz.func19, Tryz.ntmps19
  go_wp2
  go_ret
  exact ⟨ER, KL HB⟩
def laws_eqPacket.f (a0_0 : Int) (a0_1 : Int) (a0_2 : Int) (a0_3 : ByteArray) (a1_0 : Int) (a1_1 : Int) (a1_2 : Int) (a1_3 : ByteArray) : Option (Bool) := if a0_0 = a1_0 then (if a0_1 = a1_1 then (if a0_2 = a1_2 then (if a0_3.toList = a1_3.toList then (some true) else (some false)) else (some false)) else (some false)) else (some false)
theorem laws_eqPacket.calls (aJ : Int) (aK : Int) (aL : Int) (aM : ByteArray) (aN : Int) (aO : Int) (aP : Int) (aQ : ByteArray) (r : Bool) (w : World) (h : laws_eqPacket.f aJ aK aL aM aN aO aP aQ = some r) :
  Calls Tryz.prog 60 #[.agg #[.int .i64 aJ, .int .i64 aK, .int .i64 aL, .string aM], .agg #[.int .i64 aN, .int .i64 aO, .int .i64 aP, .string aQ]] w fun e w' => e = .returned (.bool r) ∧ Below w.heap.size w w' := by
 have dD := Tryz.underlying53
 have HB := am (Below.refl w.heap.size w)
 have H : (if aJ = aN then (if aK = aO then (if aL = aP then (if aM.toList = aQ.toList then (some true) else (some false)) else (some false)) else (some false)) else (some false)) = some r := h
 clear h
 by_cases c3 : aJ = aN
 ·rw [if_pos c3] at H
  have c3b0 : (aJ == aN) = true := beq_iff_eq.mpr c3
  have c3b1 : (aJ != aN) = false := bne_eq_false_iff_eq.mpr c3
  clear c3
  by_cases c4 : aK = aO
  ·rw [if_pos c4] at H
   have c4b0 : (aK == aO) = true := beq_iff_eq.mpr c4
   have c4b1 : (aK != aO) = false := bne_eq_false_iff_eq.mpr c4
   clear c4
   by_cases c5 : aL = aP
   ·rw [if_pos c5] at H
    have c5b0 : (aL == aP) = true := beq_iff_eq.mpr c5
    have c5b1 : (aL != aP) = false := bne_eq_false_iff_eq.mpr c5
    clear c5
    by_cases c6 : aM.toList = aQ.toList
    ·rw [if_pos c6] at H
     have c6b0 : (aM.toList == aQ.toList) = true := beq_iff_eq.mpr c6
     have c6b1 : (aM.toList != aQ.toList) = false := bne_eq_false_iff_eq.mpr c6
     clear c6
     obtain rfl := sj H
     go_enter Tryz.func60, Tryz.ntmps60
     go_wp2_with (first | ((with_reducible refine gate_dst (N := 2) rfl ?_); refine box_event rfl (N := 2) rfl (cs := #[.int .i64 aJ, .int .i64 aK, .int .i64 aL, .string aM]) (t := 53) BX ?_; intro aR hg w7 aD hb; have aA := am (aD); have aF := am (GH HB hg); have aE := aF; replace HB := bl (KL HB) hb; clear hb aD hg) | ((with_reducible refine gate_dst (N := 3) rfl ?_); refine box_event rfl (N := 3) rfl (cs := #[.int .i64 aN, .int .i64 aO, .int .i64 aP, .string aQ]) (t := 53) BX ?_; intro aS hg w8 aD hb; have aG := am (aD); have aH := am (GH1 HB aE.out hg); have aI := aH; replace HB := bl (K1 HB aE.out) hb; have aB := am (NL aA hg); have aC := am (NG aA hg); replace aA := am (BB aA hb); clear hb aD hg; have dE := aB.out; have dF := aC.out; have ⟨_, _, _, _, _⟩ := y4 w8 aA.out; have ⟨_, _, _, _, _⟩ := y4 w8 aG.out))
     go_ret
     exact ⟨ER, K2 HB aE.out aI.out⟩
    ·rw [if_neg c6] at H
     have c6b0 : (aM.toList == aQ.toList) = false := beq_eq_false_iff_ne.mpr c6
     have c6b1 : (aM.toList != aQ.toList) = true := bne_iff_ne.mpr c6
     obtain rfl := sj H
     go_enter Tryz.func60, Tryz.ntmps60
     go_wp2_with (first | ((with_reducible refine gate_dst (N := 2) rfl ?_); refine box_event rfl (N := 2) rfl (cs := #[.int .i64 aJ, .int .i64 aK, .int .i64 aL, .string aM]) (t := 53) BX ?_; intro aR hg dG aD hb; have aA := am (aD); have aF := am (GH HB hg); have aE := aF; replace HB := bl (KL HB) hb; clear hb aD hg) | ((with_reducible refine gate_dst (N := 3) rfl ?_); refine box_event rfl (N := 3) rfl (cs := #[.int .i64 aN, .int .i64 aO, .int .i64 aP, .string aQ]) (t := 53) BX ?_; intro aS hg cR aD hb; have aG := am (aD); have aH := am (GH1 HB aE.out hg); have aI := aH; replace HB := bl (K1 HB aE.out) hb; have aB := am (NL aA hg); have aC := am (NG aA hg); replace aA := am (BB aA hb); clear hb aD hg; have cS := aB.out; have cT := aC.out; have ⟨_, _, _, _, _⟩ := y4 cR aA.out; have ⟨_, _, _, _, _⟩ := y4 cR aG.out))
     go_ret
     exact ⟨ER, K2 HB aE.out aI.out⟩
   ·rw [if_neg c5] at H
    have c5b0 : (aL == aP) = false := beq_eq_false_iff_ne.mpr c5
    have c5b1 : (aL != aP) = true := bne_iff_ne.mpr c5
    obtain rfl := sj H
    go_enter Tryz.func60, Tryz.ntmps60
    go_wp2_with (first | ((with_reducible refine gate_dst (N := 2) rfl ?_); refine box_event rfl (N := 2) rfl (cs := #[.int .i64 aJ, .int .i64 aK, .int .i64 aL, .string aM]) (t := 53) BX ?_; intro aR hg dH aD hb; have aA := am (aD); have aF := am (GH HB hg); have aE := aF; replace HB := bl (KL HB) hb; clear hb aD hg) | ((with_reducible refine gate_dst (N := 3) rfl ?_); refine box_event rfl (N := 3) rfl (cs := #[.int .i64 aN, .int .i64 aO, .int .i64 aP, .string aQ]) (t := 53) BX ?_; intro aS hg cU aD hb; have aG := am (aD); have aH := am (GH1 HB aE.out hg); have aI := aH; replace HB := bl (K1 HB aE.out) hb; have aB := am (NL aA hg); have aC := am (NG aA hg); replace aA := am (BB aA hb); clear hb aD hg; have cV := aB.out; have cW := aC.out; have ⟨_, _, _, _, _⟩ := y4 cU aA.out; have ⟨_, _, _, _, _⟩ := y4 cU aG.out))
    go_ret
    exact ⟨ER, K2 HB aE.out aI.out⟩
  ·rw [if_neg c4] at H
   have c4b0 : (aK == aO) = false := beq_eq_false_iff_ne.mpr c4
   have c4b1 : (aK != aO) = true := bne_iff_ne.mpr c4
   obtain rfl := sj H
   go_enter Tryz.func60, Tryz.ntmps60
   go_wp2_with (first | ((with_reducible refine gate_dst (N := 2) rfl ?_); refine box_event rfl (N := 2) rfl (cs := #[.int .i64 aJ, .int .i64 aK, .int .i64 aL, .string aM]) (t := 53) BX ?_; intro aR hg dI aD hb; have aA := am (aD); have aF := am (GH HB hg); have aE := aF; replace HB := bl (KL HB) hb; clear hb aD hg) | ((with_reducible refine gate_dst (N := 3) rfl ?_); refine box_event rfl (N := 3) rfl (cs := #[.int .i64 aN, .int .i64 aO, .int .i64 aP, .string aQ]) (t := 53) BX ?_; intro aS hg cX aD hb; have aG := am (aD); have aH := am (GH1 HB aE.out hg); have aI := aH; replace HB := bl (K1 HB aE.out) hb; have aB := am (NL aA hg); have aC := am (NG aA hg); replace aA := am (BB aA hb); clear hb aD hg; have cY := aB.out; have cZ := aC.out; have ⟨_, _, _, _, _⟩ := y4 cX aA.out; have ⟨_, _, _, _, _⟩ := y4 cX aG.out))
   go_ret
   exact ⟨ER, K2 HB aE.out aI.out⟩
 ·rw [if_neg c3] at H
  have c3b0 : (aJ == aN) = false := beq_eq_false_iff_ne.mpr c3
  have c3b1 : (aJ != aN) = true := bne_iff_ne.mpr c3
  obtain rfl := sj H
  go_enter Tryz.func60, Tryz.ntmps60
  go_wp2_with (first | ((with_reducible refine gate_dst (N := 2) rfl ?_); refine box_event rfl (N := 2) rfl (cs := #[.int .i64 aJ, .int .i64 aK, .int .i64 aL, .string aM]) (t := 53) BX ?_; intro aR hg dJ aD hb; have aA := am (aD); have aF := am (GH HB hg); have aE := aF; replace HB := bl (KL HB) hb; clear hb aD hg) | ((with_reducible refine gate_dst (N := 3) rfl ?_); refine box_event rfl (N := 3) rfl (cs := #[.int .i64 aN, .int .i64 aO, .int .i64 aP, .string aQ]) (t := 53) BX ?_; intro aS hg dA aD hb; have aG := am (aD); have aH := am (GH1 HB aE.out hg); have aI := aH; replace HB := bl (K1 HB aE.out) hb; have aB := am (NL aA hg); have aC := am (NG aA hg); replace aA := am (BB aA hb); clear hb aD hg; have dB := aB.out; have dC := aC.out; have ⟨_, _, _, _, _⟩ := y4 dA aA.out; have ⟨_, _, _, _, _⟩ := y4 dA aG.out))
  go_ret
  exact ⟨ER, K2 HB aE.out aI.out⟩
def laws_eqSent.f (a0_0 : Int) (a0_1 : Int) (a0_2 : Int) (a0_3 : ByteArray) (a0_4 : Int) (a0_5 : Int) (a0_6 : Int) (a1_0 : Int) (a1_1 : Int) (a1_2 : Int) (a1_3 : ByteArray) (a1_4 : Int) (a1_5 : Int) (a1_6 : Int) : Option (Bool) := (laws_eqPacket.f a0_0 a0_1 a0_2 a0_3 a1_0 a1_1 a1_2 a1_3).bind fun t103 => (if t103 = true then (if a0_4 = a1_4 then (if a0_5 = a1_5 then (if a0_6 = a1_6 then (some true) else (some false)) else (some false)) else (some false)) else (some false))
theorem laws_eqSent.calls (aH : Int) (aI : Int) (aJ : Int) (aK : ByteArray) (aP : Int) (aQ : Int) (aR : Int) (aL : Int) (aM : Int) (aN : Int) (aO : ByteArray) (aS : Int) (aT : Int) (aU : Int) (r : Bool) (w : World) (h : laws_eqSent.f aH aI aJ aK aP aQ aR aL aM aN aO aS aT aU = some r) :
  Calls Tryz.prog 40 #[.agg #[.int .i64 aH, .int .i64 aI, .int .i64 aJ, .string aK, .int .i64 aP, .int .i64 aQ, .int .i64 aR], .agg #[.int .i64 aL, .int .i64 aM, .int .i64 aN, .string aO, .int .i64 aS, .int .i64 aT, .int .i64 aU]] w fun e w' => e = .returned (.bool r) ∧ Below w.heap.size w w' := by
 have hH := Tryz.underlying55
 have hI := Tryz.underlying53
 have HB := am (Below.refl w.heap.size w)
 have H : ((laws_eqPacket.f aH aI aJ aK aL aM aN aO).bind fun aZ => (if aZ = true then (if aP = aS then (if aQ = aT then (if aR = aU then (some true) else (some false)) else (some false)) else (some false)) else (some false))) = some r := h
 clear h
 replace H := bm H
 obtain ⟨aZ, gO, H⟩ := H
 replace H : (if aZ = true then (if aP = aS then (if aQ = aT then (if aR = aU then (some true) else (some false)) else (some false)) else (some false)) else (some false)) = some r := H
 have A3 := Aside0.mk gO
 clear gO
 by_cases c4 : aZ = true
 ·subst c4
  have H1 := pf H
  clear H
  have H := H1
  clear H1
  by_cases c5 : aP = aS
  ·rw [if_pos c5] at H
   have c5b0 : (aP == aS) = true := beq_iff_eq.mpr c5
   have c5b1 : (aP != aS) = false := bne_eq_false_iff_eq.mpr c5
   clear c5
   by_cases c6 : aQ = aT
   ·rw [if_pos c6] at H
    have c6b0 : (aQ == aT) = true := beq_iff_eq.mpr c6
    have c6b1 : (aQ != aT) = false := bne_eq_false_iff_eq.mpr c6
    clear c6
    by_cases c7 : aR = aU
    ·rw [if_pos c7] at H
     have c7b0 : (aR == aU) = true := beq_iff_eq.mpr c7
     have c7b1 : (aR != aU) = false := bne_eq_false_iff_eq.mpr c7
     clear c7
     obtain rfl := sj H
     go_enter Tryz.func40, Tryz.ntmps40
     go_wp2_with (first | ((with_reducible refine gate_dst (N := 2) rfl ?_); refine box_event rfl (N := 2) rfl (cs := #[.int .i64 aH, .int .i64 aI, .int .i64 aJ, .string aK, .int .i64 aP, .int .i64 aQ, .int .i64 aR]) (t := 55) BX ?_; intro aX hg w8 aF hb; have aA := am (aF); have aV := am (GH HB hg); have aB := aV; replace HB := bl (KL HB) hb; clear hb aF hg) | ((with_reducible refine gate_dst (N := 3) rfl ?_); refine box_event rfl (N := 3) rfl (cs := #[.int .i64 aL, .int .i64 aM, .int .i64 aN, .string aO, .int .i64 aS, .int .i64 aT, .int .i64 aU]) (t := 55) BX ?_; intro aY hg w9 aF hb; have aC := am (aF); have aW := am (GH1 HB aB.out hg); have aG := aW; replace HB := bl (K1 HB aB.out) hb; have aD := am (NL aA hg); have aE := am (NG aA hg); replace aA := am (BB aA hb); clear hb aF hg; have gP := aD.out; have gQ := aE.out; have ⟨_, _, _, _, _, _, _, _⟩ := y7 w9 aA.out; have ⟨_, _, _, _, _, _, _, _⟩ := y7 w9 aC.out) | ((with_reducible refine gate_callee (f := 60) rfl ?_); refine goesL_ (some 9) rfl rfl Tryz.func60 (by kernel_rfl) rfl #[.agg #[.int .i64 aH, .int .i64 aI, .int .i64 aJ, .string aK], .agg #[.int .i64 aL, .int .i64 aM, .int .i64 aN, .string aO]] rfl MT ?_; (with_reducible refine (laws_eqPacket.calls aH aI aJ aK aL aM aN aO true _ A3.out).mono ?_); rintro e gR ⟨rfl, hb⟩; refine ⟨_, rfl, ?_⟩; replace aA := am (BB aA hb); replace aC := am (BB aC hb); replace HB := bl (K2 HB aB.out aG.out) hb; (try clear hb); have ⟨_, _, _, _, _, _, _, _⟩ := y7 gR aA.out; have ⟨_, _, _, _, _, _, _, _⟩ := y7 gR aC.out))
     go_ret
     exact ⟨ER, K2 HB aB.out aG.out⟩
    ·rw [if_neg c7] at H
     have c7b0 : (aR == aU) = false := beq_eq_false_iff_ne.mpr c7
     have c7b1 : (aR != aU) = true := bne_iff_ne.mpr c7
     obtain rfl := sj H
     go_enter Tryz.func40, Tryz.ntmps40
     go_wp2_with (first | ((with_reducible refine gate_dst (N := 2) rfl ?_); refine box_event rfl (N := 2) rfl (cs := #[.int .i64 aH, .int .i64 aI, .int .i64 aJ, .string aK, .int .i64 aP, .int .i64 aQ, .int .i64 aR]) (t := 55) BX ?_; intro aX hg hJ aF hb; have aA := am (aF); have aV := am (GH HB hg); have aB := aV; replace HB := bl (KL HB) hb; clear hb aF hg) | ((with_reducible refine gate_dst (N := 3) rfl ?_); refine box_event rfl (N := 3) rfl (cs := #[.int .i64 aL, .int .i64 aM, .int .i64 aN, .string aO, .int .i64 aS, .int .i64 aT, .int .i64 aU]) (t := 55) BX ?_; intro aY hg gS aF hb; have aC := am (aF); have aW := am (GH1 HB aB.out hg); have aG := aW; replace HB := bl (K1 HB aB.out) hb; have aD := am (NL aA hg); have aE := am (NG aA hg); replace aA := am (BB aA hb); clear hb aF hg; have gT := aD.out; have gU := aE.out; have ⟨_, _, _, _, _, _, _, _⟩ := y7 gS aA.out; have ⟨_, _, _, _, _, _, _, _⟩ := y7 gS aC.out) | ((with_reducible refine gate_callee (f := 60) rfl ?_); refine goesL_ (some 9) rfl rfl Tryz.func60 (by kernel_rfl) rfl #[.agg #[.int .i64 aH, .int .i64 aI, .int .i64 aJ, .string aK], .agg #[.int .i64 aL, .int .i64 aM, .int .i64 aN, .string aO]] rfl MT ?_; (with_reducible refine (laws_eqPacket.calls aH aI aJ aK aL aM aN aO true _ A3.out).mono ?_); rintro e gV ⟨rfl, hb⟩; refine ⟨_, rfl, ?_⟩; replace aA := am (BB aA hb); replace aC := am (BB aC hb); replace HB := bl (K2 HB aB.out aG.out) hb; (try clear hb); have ⟨_, _, _, _, _, _, _, _⟩ := y7 gV aA.out; have ⟨_, _, _, _, _, _, _, _⟩ := y7 gV aC.out))
     go_ret
     exact ⟨ER, K2 HB aB.out aG.out⟩
   ·rw [if_neg c6] at H
    have c6b0 : (aQ == aT) = false := beq_eq_false_iff_ne.mpr c6
    have c6b1 : (aQ != aT) = true := bne_iff_ne.mpr c6
    obtain rfl := sj H
    go_enter Tryz.func40, Tryz.ntmps40
    go_wp2_with (first | ((with_reducible refine gate_dst (N := 2) rfl ?_); refine box_event rfl (N := 2) rfl (cs := #[.int .i64 aH, .int .i64 aI, .int .i64 aJ, .string aK, .int .i64 aP, .int .i64 aQ, .int .i64 aR]) (t := 55) BX ?_; intro aX hg hK aF hb; have aA := am (aF); have aV := am (GH HB hg); have aB := aV; replace HB := bl (KL HB) hb; clear hb aF hg) | ((with_reducible refine gate_dst (N := 3) rfl ?_); refine box_event rfl (N := 3) rfl (cs := #[.int .i64 aL, .int .i64 aM, .int .i64 aN, .string aO, .int .i64 aS, .int .i64 aT, .int .i64 aU]) (t := 55) BX ?_; intro aY hg gW aF hb; have aC := am (aF); have aW := am (GH1 HB aB.out hg); have aG := aW; replace HB := bl (K1 HB aB.out) hb; have aD := am (NL aA hg); have aE := am (NG aA hg); replace aA := am (BB aA hb); clear hb aF hg; have gX := aD.out; have gY := aE.out; have ⟨_, _, _, _, _, _, _, _⟩ := y7 gW aA.out; have ⟨_, _, _, _, _, _, _, _⟩ := y7 gW aC.out) | ((with_reducible refine gate_callee (f := 60) rfl ?_); refine goesL_ (some 9) rfl rfl Tryz.func60 (by kernel_rfl) rfl #[.agg #[.int .i64 aH, .int .i64 aI, .int .i64 aJ, .string aK], .agg #[.int .i64 aL, .int .i64 aM, .int .i64 aN, .string aO]] rfl MT ?_; (with_reducible refine (laws_eqPacket.calls aH aI aJ aK aL aM aN aO true _ A3.out).mono ?_); rintro e gZ ⟨rfl, hb⟩; refine ⟨_, rfl, ?_⟩; replace aA := am (BB aA hb); replace aC := am (BB aC hb); replace HB := bl (K2 HB aB.out aG.out) hb; (try clear hb); have ⟨_, _, _, _, _, _, _, _⟩ := y7 gZ aA.out; have ⟨_, _, _, _, _, _, _, _⟩ := y7 gZ aC.out))
    go_ret
    exact ⟨ER, K2 HB aB.out aG.out⟩
  ·rw [if_neg c5] at H
   have c5b0 : (aP == aS) = false := beq_eq_false_iff_ne.mpr c5
   have c5b1 : (aP != aS) = true := bne_iff_ne.mpr c5
   obtain rfl := sj H
   go_enter Tryz.func40, Tryz.ntmps40
   go_wp2_with (first | ((with_reducible refine gate_dst (N := 2) rfl ?_); refine box_event rfl (N := 2) rfl (cs := #[.int .i64 aH, .int .i64 aI, .int .i64 aJ, .string aK, .int .i64 aP, .int .i64 aQ, .int .i64 aR]) (t := 55) BX ?_; intro aX hg hL aF hb; have aA := am (aF); have aV := am (GH HB hg); have aB := aV; replace HB := bl (KL HB) hb; clear hb aF hg) | ((with_reducible refine gate_dst (N := 3) rfl ?_); refine box_event rfl (N := 3) rfl (cs := #[.int .i64 aL, .int .i64 aM, .int .i64 aN, .string aO, .int .i64 aS, .int .i64 aT, .int .i64 aU]) (t := 55) BX ?_; intro aY hg hA aF hb; have aC := am (aF); have aW := am (GH1 HB aB.out hg); have aG := aW; replace HB := bl (K1 HB aB.out) hb; have aD := am (NL aA hg); have aE := am (NG aA hg); replace aA := am (BB aA hb); clear hb aF hg; have hB := aD.out; have hC := aE.out; have ⟨_, _, _, _, _, _, _, _⟩ := y7 hA aA.out; have ⟨_, _, _, _, _, _, _, _⟩ := y7 hA aC.out) | ((with_reducible refine gate_callee (f := 60) rfl ?_); refine goesL_ (some 9) rfl rfl Tryz.func60 (by kernel_rfl) rfl #[.agg #[.int .i64 aH, .int .i64 aI, .int .i64 aJ, .string aK], .agg #[.int .i64 aL, .int .i64 aM, .int .i64 aN, .string aO]] rfl MT ?_; (with_reducible refine (laws_eqPacket.calls aH aI aJ aK aL aM aN aO true _ A3.out).mono ?_); rintro e hD ⟨rfl, hb⟩; refine ⟨_, rfl, ?_⟩; replace aA := am (BB aA hb); replace aC := am (BB aC hb); replace HB := bl (K2 HB aB.out aG.out) hb; (try clear hb); have ⟨_, _, _, _, _, _, _, _⟩ := y7 hD aA.out; have ⟨_, _, _, _, _, _, _, _⟩ := y7 hD aC.out))
   go_ret
   exact ⟨ER, K2 HB aB.out aG.out⟩
 ·replace c4 := Bool.eq_false_iff.mpr c4
  subst c4
  have H1 := nf H
  clear H
  have H := H1
  clear H1
  obtain rfl := sj H
  go_enter Tryz.func40, Tryz.ntmps40
  go_wp2_with (first | ((with_reducible refine gate_dst (N := 2) rfl ?_); refine box_event rfl (N := 2) rfl (cs := #[.int .i64 aH, .int .i64 aI, .int .i64 aJ, .string aK, .int .i64 aP, .int .i64 aQ, .int .i64 aR]) (t := 55) BX ?_; intro aX hg hM aF hb; have aA := am (aF); have aV := am (GH HB hg); have aB := aV; replace HB := bl (KL HB) hb; clear hb aF hg) | ((with_reducible refine gate_dst (N := 3) rfl ?_); refine box_event rfl (N := 3) rfl (cs := #[.int .i64 aL, .int .i64 aM, .int .i64 aN, .string aO, .int .i64 aS, .int .i64 aT, .int .i64 aU]) (t := 55) BX ?_; intro aY hg hE aF hb; have aC := am (aF); have aW := am (GH1 HB aB.out hg); have aG := aW; replace HB := bl (K1 HB aB.out) hb; have aD := am (NL aA hg); have aE := am (NG aA hg); replace aA := am (BB aA hb); clear hb aF hg; have hF := aD.out; have hG := aE.out; have ⟨_, _, _, _, _, _, _, _⟩ := y7 hE aA.out; have ⟨_, _, _, _, _, _, _, _⟩ := y7 hE aC.out) | ((with_reducible refine gate_callee (f := 60) rfl ?_); refine goesL_ (some 9) rfl rfl Tryz.func60 (by kernel_rfl) rfl #[.agg #[.int .i64 aH, .int .i64 aI, .int .i64 aJ, .string aK], .agg #[.int .i64 aL, .int .i64 aM, .int .i64 aN, .string aO]] rfl MT ?_; (with_reducible refine (laws_eqPacket.calls aH aI aJ aK aL aM aN aO false _ A3.out).mono ?_); rintro e hN ⟨rfl, hb⟩; refine ⟨_, rfl, ?_⟩; replace aA := am (BB aA hb); replace aC := am (BB aC hb); replace HB := bl (K2 HB aB.out aG.out) hb; (try clear hb)))
  go_ret
  exact ⟨ER, K2 HB aB.out aG.out⟩
def laws_eqSentS.l0 : Nat → List (S55) → List (S55) → Int → Option (Bool)
 | 0, _, _, _ => none
 | k + 1, x0, x1, x5 => if x5 < (x0.length : Int) then (if 0 ≤ x5 then (if x5 < (x1.length : Int) then ((laws_eqSent.f ((rd_T55 x0 x5).f0.f0) ((rd_T55 x0 x5).f0.f1) ((rd_T55 x0 x5).f0.f2) ((rd_T55 x0 x5).f0.f3) ((rd_T55 x0 x5).f1) ((rd_T55 x0 x5).f2) ((rd_T55 x0 x5).f3) ((rd_T55 x1 x5).f0.f0) ((rd_T55 x1 x5).f0.f1) ((rd_T55 x1 x5).f0.f2) ((rd_T55 x1 x5).f0.f3) ((rd_T55 x1 x5).f1) ((rd_T55 x1 x5).f2) ((rd_T55 x1 x5).f3)).bind fun t103 => (if t103 = true then (laws_eqSentS.l0 k x0 x1 (wrap64 (x5 + 1))) else (some false))) else (none)) else (none)) else (some true)
def laws_eqSentS.f (k : Nat) (l0 : List (S55)) (l1 : List (S55)) : Option (Bool) := if (l0.length : Int) = (l1.length : Int) then (laws_eqSentS.l0 k l0 l1 0) else (some false)
def laws_eqSentS.T6 : Bool × List (List Nat × List Nat) := (true, [([], []), ([], []), ([0, 1], [0, 1]), ([2], [2]), ([], []), ([], []), ([4, 5], [4, 5]), ([6], [6]), ([3, 7], [3, 7]), ([8], [8])])
def laws_eqSentS.B6 : List Nat := [0, 0, 3, 7, 0, 0, 48, 112, 255, 511]
theorem laws_eqSentS.tab6 : rtab .any (opsOf Tryz.f20 6) = laws_eqSentS.T6 := by kernel_rfl
theorem laws_eqSentS.bits6 : waitsOk laws_eqSentS.T6.2 laws_eqSentS.B6 = true := by kernel_rfl
theorem laws_eqSentS.calls (k : Nat) (A0 : Option Addr) (c0 : Nat) (l0 : List (S55)) (A1 : Option Addr) (c1 : Nat) (l1 : List (S55)) (r : Bool) (w : World) (bP : Kd.C k55 w A0 l0.length l0) (bQ : l0.length ≤ c0) (bR : Kd.C k55 w A1 l1.length l1) (bS : l1.length ≤ c1) (h : laws_eqSentS.f k l0 l1 = some r) :
  Calls Tryz.prog 20 #[.slice A0 l0.length c0, .slice A1 l1.length c1] w fun e w' => e = .returned (.bool r) ∧ Below w.heap.size w w' := by
 have bW := Tryz.underlying55
 have bT := Aside0.mk bP
 have bX := Aside0.mk bQ
 clear bP bQ
 have bU := Aside0.mk bR
 have bY := Aside0.mk bS
 clear bR bS
 have HB := am (Below.refl w.heap.size w)
 have H : (if (l0.length : Int) = (l1.length : Int) then (laws_eqSentS.l0 k l0 l1 0) else (some false)) = some r := h
 clear h
 by_cases c3 : (l0.length : Int) = (l1.length : Int)
 ·rw [if_pos c3] at H
  have c3b0 : ((l0.length : Int) == (l1.length : Int)) = true := beq_iff_eq.mpr c3
  have c3b1 : ((l0.length : Int) != (l1.length : Int)) = false := bne_eq_false_iff_eq.mpr c3
  have c3b2 : (l0.length == l1.length) = true := by first | simpa using c3 | (simp at c3 ⊢; omega)
  clear c3
  have H' := Aside0.mk H
  clear H
  go_enter Tryz.func20, Tryz.ntmps20
  go_wp2
  go_loopg [5] k (fun kq v5 w' => ∃ (aA : Int), v5 = .int .i64 aA ∧ Aside0 (laws_eqSentS.l0 kq l0 l1 aA = some r) ∧ Aside0 (kq ≤ k) ∧ Aside0 (Below w.heap.size w w'))
  case atStart => exact ⟨(0), (by first | rfl | (simp; done) | (simp [*]; done)), H', ⟨Nat.le_refl _⟩, ⟨KL HB⟩⟩
  case round =>
   clear H'
   try clear c1
   try clear c2
   try clear p2
   try clear c3
   try clear c3b0
   try clear c3b1
   try clear c3b2
   obtain ⟨aA, rfl, HA, HK1, HB⟩ := hrel
   cases gk with
   | zero => exact absurd HA.out (by simp [laws_eqSentS.l0])
   | succ k1 =>
    have H := HA.out
    clear HA
    simp only [laws_eqSentS.l0] at H
    by_cases c4 : aA < (l0.length : Int)
    ·rw [if_pos c4] at H
     have c4b0 : decide (aA < (l0.length : Int)) = true := decide_eq_true c4
     clear c4
     by_cases c5 : 0 ≤ aA
     ·rw [if_pos c5] at H
      have c5b0 : decide (0 ≤ aA) = true := decide_eq_true c5
      clear c5
      by_cases c6 : aA < (l1.length : Int)
      ·rw [if_pos c6] at H
       have c6b0 : decide (aA < (l1.length : Int)) = true := decide_eq_true c6
       clear c6
       replace H := bm H
       obtain ⟨bN, bV, H⟩ := H
       replace H : (if bN = true then (laws_eqSentS.l0 k1 l0 l1 (wrap64 (aA + 1))) else (some false)) = some r := H
       have A7 := Aside0.mk bV
       clear bV
       by_cases c8 : bN = true
       ·subst c8
        have H1 := pf H
        clear H
        have H := H1
        clear H1
        have H' := Aside0.mk H
        clear H
        try go_wp2
        replace HB := am (below_drew1 HB.out)
        have bH : 0 ≤ (aA : Int) := OD
        have bI : aA < (l0.length : Int) := OD
        obtain ⟨aB, bL, aD, aE, aF, aG, aH, aI, aJ⟩ := at_T55 bT.out aA bH bI
        have aR := aJ
        have aS := aI
        have aT := aH
        have aU := aG
        have aV := aF
        have aW := aE
        have aX := aD
        cases bL
        replace aD := CX HB.out aD
        replace aE := CX HB.out aE
        replace aF := CX HB.out aF
        replace aG := CX HB.out aG
        replace aH := CX HB.out aH
        replace aI := CX HB.out aI
        replace aJ := CX HB.out aJ
        replace bH := eq_true bH
        replace bI := eq_true bI
        have bJ : 0 ≤ (aA : Int) := OD
        have bK : aA < (l1.length : Int) := OD
        obtain ⟨aC, bM, aK, aL, aM, aN, aO, aP, aQ⟩ := at_T55 bU.out aA bJ bK
        have aY := aQ
        have aZ := aP
        have bA := aO
        have bB := aN
        have bC := aM
        have bD := aL
        have bE := aK
        cases bM
        replace aK := CX HB.out aK
        replace aL := CX HB.out aL
        replace aM := CX HB.out aM
        replace aN := CX HB.out aN
        replace aO := CX HB.out aO
        replace aP := CX HB.out aP
        replace aQ := CX HB.out aQ
        replace bJ := eq_true bJ
        replace bK := eq_true bK
        refine start_ (n := 10) (S := fun w' => w'.cell? (aB.add ((aA).toNat * 7)) = some (.int .i64 ((rd_T55 l0 aA).f0.f0)) ∧ w'.cell? ⟨(aB.add ((aA).toNat * 7)).block, (aB.add ((aA).toNat * 7)).off + 1, none⟩ = some (.int .i64 ((rd_T55 l0 aA).f0.f1)) ∧ w'.cell? ⟨(aB.add ((aA).toNat * 7)).block, (aB.add ((aA).toNat * 7)).off + 2, none⟩ = some (.int .i64 ((rd_T55 l0 aA).f0.f2)) ∧ w'.cell? ⟨(aB.add ((aA).toNat * 7)).block, (aB.add ((aA).toNat * 7)).off + 3, none⟩ = some (.string ((rd_T55 l0 aA).f0.f3)) ∧ w'.cell? ⟨(aB.add ((aA).toNat * 7)).block, (aB.add ((aA).toNat * 7)).off + 4, none⟩ = some (.int .i64 ((rd_T55 l0 aA).f1)) ∧ w'.cell? ⟨(aB.add ((aA).toNat * 7)).block, (aB.add ((aA).toNat * 7)).off + 5, none⟩ = some (.int .i64 ((rd_T55 l0 aA).f2)) ∧ w'.cell? ⟨(aB.add ((aA).toNat * 7)).block, (aB.add ((aA).toNat * 7)).off + 6, none⟩ = some (.int .i64 ((rd_T55 l0 aA).f3)) ∧ w'.cell? (aC.add ((aA).toNat * 7)) = some (.int .i64 ((rd_T55 l1 aA).f0.f0)) ∧ w'.cell? ⟨(aC.add ((aA).toNat * 7)).block, (aC.add ((aA).toNat * 7)).off + 1, none⟩ = some (.int .i64 ((rd_T55 l1 aA).f0.f1)) ∧ w'.cell? ⟨(aC.add ((aA).toNat * 7)).block, (aC.add ((aA).toNat * 7)).off + 2, none⟩ = some (.int .i64 ((rd_T55 l1 aA).f0.f2)) ∧ w'.cell? ⟨(aC.add ((aA).toNat * 7)).block, (aC.add ((aA).toNat * 7)).off + 3, none⟩ = some (.string ((rd_T55 l1 aA).f0.f3)) ∧ w'.cell? ⟨(aC.add ((aA).toNat * 7)).block, (aC.add ((aA).toNat * 7)).off + 4, none⟩ = some (.int .i64 ((rd_T55 l1 aA).f1)) ∧ w'.cell? ⟨(aC.add ((aA).toNat * 7)).block, (aC.add ((aA).toNat * 7)).off + 5, none⟩ = some (.int .i64 ((rd_T55 l1 aA).f2)) ∧ w'.cell? ⟨(aC.add ((aA).toNat * 7)).block, (aC.add ((aA).toNat * 7)).off + 6, none⟩ = some (.int .i64 ((rd_T55 l1 aA).f3))) (ds := []) (tf 0 10) (by kernel_rfl) rfl rfl ⟨(CY HB.out aX), (CY HB.out aW), (CY HB.out aV), (CY HB.out aU), (CY HB.out aT), (CY HB.out aS), (CY HB.out aR), (CY HB.out bE), (CY HB.out bD), (CY HB.out bC), (CY HB.out bB), (CY HB.out bA), (CY HB.out aZ), (CY HB.out aY)⟩ (fun bF => ?_); refine with_tabW laws_eqSentS.tab6 laws_eqSentS.bits6 (fun bG bO => ?_)
        generalize wr.drew = w9 at HB aD aE aF aG aH aI aJ aK aL aM aN aO aP aQ bF ⊢
        refine pv bG 0 17 (tf 1 9) ?_
        refine pv bG 1 18 (tf 2 8) ?_
        refine pv bG 2 19 (tf 3 7) ?_
        refine pv bG 4 21 (tr [3, 1, 1, 5]) ?_
        refine pv bG 5 22 (tr [3, 1, 2, 4]) ?_
        refine pv bG 6 23 (tr [3, 1, 3, 3]) ?_
        refine tk 3 (some 20) (tf 7 3) (take_ofW bG.out bO.out (by kernel_rfl)) bF ?_
        refine tk 7 (some 24) (tf 8 2) (take_ofW bG.out bO.out (by kernel_rfl)) bF ?_
        refine one_ (i := 8) (N := some 25) (tf 9 1) rfl rfl (one_of bG.out (by kernel_rfl)) (by decide) (fun K hK => ?_)
        refine goes_ Tryz.func40 (by kernel_rfl) rfl #[.agg #[.int .i64 ((rd_T55 l0 aA).f0.f0), .int .i64 ((rd_T55 l0 aA).f0.f1), .int .i64 ((rd_T55 l0 aA).f0.f2), .string ((rd_T55 l0 aA).f0.f3), .int .i64 ((rd_T55 l0 aA).f1), .int .i64 ((rd_T55 l0 aA).f2), .int .i64 ((rd_T55 l0 aA).f3)], .agg #[.int .i64 ((rd_T55 l1 aA).f0.f0), .int .i64 ((rd_T55 l1 aA).f0.f1), .int .i64 ((rd_T55 l1 aA).f0.f2), .string ((rd_T55 l1 aA).f0.f3), .int .i64 ((rd_T55 l1 aA).f1), .int .i64 ((rd_T55 l1 aA).f2), .int .i64 ((rd_T55 l1 aA).f3)]] (by rfl) rfl rfl MT ?_
        with_reducible refine (laws_eqSent.calls ((rd_T55 l0 aA).f0.f0) ((rd_T55 l0 aA).f0.f1) ((rd_T55 l0 aA).f0.f2) ((rd_T55 l0 aA).f0.f3) ((rd_T55 l0 aA).f1) ((rd_T55 l0 aA).f2) ((rd_T55 l0 aA).f3) ((rd_T55 l1 aA).f0.f0) ((rd_T55 l1 aA).f0.f1) ((rd_T55 l1 aA).f0.f2) ((rd_T55 l1 aA).f0.f3) ((rd_T55 l1 aA).f1) ((rd_T55 l1 aA).f2) ((rd_T55 l1 aA).f3) true _ A7.out).mono ?_
        rintro e bZ ⟨rfl, hb⟩
        refine ⟨_, rfl, ?_⟩
        replace HB := bl (KL HB) hb
        (try clear hb)
        (try clear hb2)
        (try clear hk)
        (try clear hi)
        refine hK.out _ _ ⟨(CY HB.out aX), (CY HB.out aW), (CY HB.out aV), (CY HB.out aU), (CY HB.out aT), (CY HB.out aS), (CY HB.out aR), (CY HB.out bE), (CY HB.out bD), (CY HB.out bC), (CY HB.out bB), (CY HB.out bA), (CY HB.out aZ), (CY HB.out aY)⟩ (fun bF => ?_)
        clear hK K
        refine nm (some 25) ?_
        refine pv bG 9 26 (tf 10 0) ?_
        refine done_ (done_of bG.out (by kernel_rfl)) ?_
        try go_wp2
        go_roundg k1
        case measure => have := HK1.out; omega
        case rel => exact ⟨(wrap64 (aA + 1)), (by first | rfl | (simp; done) | (simp [*]; done)), H', ⟨by have := HK1.out; omega⟩, ⟨KL HB⟩⟩
       ·replace c8 := Bool.eq_false_iff.mpr c8
        subst c8
        have H1 := nf H
        clear H
        have H := H1
        clear H1
        obtain rfl := sj H
        try go_wp2
        replace HB := am (below_drew1 HB.out)
        have bH : 0 ≤ (aA : Int) := OD
        have bI : aA < (l0.length : Int) := OD
        obtain ⟨aB, bL, aD, aE, aF, aG, aH, aI, aJ⟩ := at_T55 bT.out aA bH bI
        have aR := aJ
        have aS := aI
        have aT := aH
        have aU := aG
        have aV := aF
        have aW := aE
        have aX := aD
        cases bL
        replace aD := CX HB.out aD
        replace aE := CX HB.out aE
        replace aF := CX HB.out aF
        replace aG := CX HB.out aG
        replace aH := CX HB.out aH
        replace aI := CX HB.out aI
        replace aJ := CX HB.out aJ
        replace bH := eq_true bH
        replace bI := eq_true bI
        have bJ : 0 ≤ (aA : Int) := OD
        have bK : aA < (l1.length : Int) := OD
        obtain ⟨aC, bM, aK, aL, aM, aN, aO, aP, aQ⟩ := at_T55 bU.out aA bJ bK
        have aY := aQ
        have aZ := aP
        have bA := aO
        have bB := aN
        have bC := aM
        have bD := aL
        have bE := aK
        cases bM
        replace aK := CX HB.out aK
        replace aL := CX HB.out aL
        replace aM := CX HB.out aM
        replace aN := CX HB.out aN
        replace aO := CX HB.out aO
        replace aP := CX HB.out aP
        replace aQ := CX HB.out aQ
        replace bJ := eq_true bJ
        replace bK := eq_true bK
        refine start_ (n := 10) (S := fun w' => w'.cell? (aB.add ((aA).toNat * 7)) = some (.int .i64 ((rd_T55 l0 aA).f0.f0)) ∧ w'.cell? ⟨(aB.add ((aA).toNat * 7)).block, (aB.add ((aA).toNat * 7)).off + 1, none⟩ = some (.int .i64 ((rd_T55 l0 aA).f0.f1)) ∧ w'.cell? ⟨(aB.add ((aA).toNat * 7)).block, (aB.add ((aA).toNat * 7)).off + 2, none⟩ = some (.int .i64 ((rd_T55 l0 aA).f0.f2)) ∧ w'.cell? ⟨(aB.add ((aA).toNat * 7)).block, (aB.add ((aA).toNat * 7)).off + 3, none⟩ = some (.string ((rd_T55 l0 aA).f0.f3)) ∧ w'.cell? ⟨(aB.add ((aA).toNat * 7)).block, (aB.add ((aA).toNat * 7)).off + 4, none⟩ = some (.int .i64 ((rd_T55 l0 aA).f1)) ∧ w'.cell? ⟨(aB.add ((aA).toNat * 7)).block, (aB.add ((aA).toNat * 7)).off + 5, none⟩ = some (.int .i64 ((rd_T55 l0 aA).f2)) ∧ w'.cell? ⟨(aB.add ((aA).toNat * 7)).block, (aB.add ((aA).toNat * 7)).off + 6, none⟩ = some (.int .i64 ((rd_T55 l0 aA).f3)) ∧ w'.cell? (aC.add ((aA).toNat * 7)) = some (.int .i64 ((rd_T55 l1 aA).f0.f0)) ∧ w'.cell? ⟨(aC.add ((aA).toNat * 7)).block, (aC.add ((aA).toNat * 7)).off + 1, none⟩ = some (.int .i64 ((rd_T55 l1 aA).f0.f1)) ∧ w'.cell? ⟨(aC.add ((aA).toNat * 7)).block, (aC.add ((aA).toNat * 7)).off + 2, none⟩ = some (.int .i64 ((rd_T55 l1 aA).f0.f2)) ∧ w'.cell? ⟨(aC.add ((aA).toNat * 7)).block, (aC.add ((aA).toNat * 7)).off + 3, none⟩ = some (.string ((rd_T55 l1 aA).f0.f3)) ∧ w'.cell? ⟨(aC.add ((aA).toNat * 7)).block, (aC.add ((aA).toNat * 7)).off + 4, none⟩ = some (.int .i64 ((rd_T55 l1 aA).f1)) ∧ w'.cell? ⟨(aC.add ((aA).toNat * 7)).block, (aC.add ((aA).toNat * 7)).off + 5, none⟩ = some (.int .i64 ((rd_T55 l1 aA).f2)) ∧ w'.cell? ⟨(aC.add ((aA).toNat * 7)).block, (aC.add ((aA).toNat * 7)).off + 6, none⟩ = some (.int .i64 ((rd_T55 l1 aA).f3))) (ds := []) (tf 0 10) (by kernel_rfl) rfl rfl ⟨(CY HB.out aX), (CY HB.out aW), (CY HB.out aV), (CY HB.out aU), (CY HB.out aT), (CY HB.out aS), (CY HB.out aR), (CY HB.out bE), (CY HB.out bD), (CY HB.out bC), (CY HB.out bB), (CY HB.out bA), (CY HB.out aZ), (CY HB.out aY)⟩ (fun bF => ?_); refine with_tabW laws_eqSentS.tab6 laws_eqSentS.bits6 (fun bG bO => ?_)
        generalize wr.drew = cA at HB aD aE aF aG aH aI aJ aK aL aM aN aO aP aQ bF ⊢
        refine pv bG 0 17 (tf 1 9) ?_
        refine pv bG 1 18 (tf 2 8) ?_
        refine pv bG 2 19 (tf 3 7) ?_
        refine pv bG 4 21 (tr [3, 1, 1, 5]) ?_
        refine pv bG 5 22 (tr [3, 1, 2, 4]) ?_
        refine pv bG 6 23 (tr [3, 1, 3, 3]) ?_
        refine tk 3 (some 20) (tf 7 3) (take_ofW bG.out bO.out (by kernel_rfl)) bF ?_
        refine tk 7 (some 24) (tf 8 2) (take_ofW bG.out bO.out (by kernel_rfl)) bF ?_
        refine one_ (i := 8) (N := some 25) (tf 9 1) rfl rfl (one_of bG.out (by kernel_rfl)) (by decide) (fun K hK => ?_)
        refine goes_ Tryz.func40 (by kernel_rfl) rfl #[.agg #[.int .i64 ((rd_T55 l0 aA).f0.f0), .int .i64 ((rd_T55 l0 aA).f0.f1), .int .i64 ((rd_T55 l0 aA).f0.f2), .string ((rd_T55 l0 aA).f0.f3), .int .i64 ((rd_T55 l0 aA).f1), .int .i64 ((rd_T55 l0 aA).f2), .int .i64 ((rd_T55 l0 aA).f3)], .agg #[.int .i64 ((rd_T55 l1 aA).f0.f0), .int .i64 ((rd_T55 l1 aA).f0.f1), .int .i64 ((rd_T55 l1 aA).f0.f2), .string ((rd_T55 l1 aA).f0.f3), .int .i64 ((rd_T55 l1 aA).f1), .int .i64 ((rd_T55 l1 aA).f2), .int .i64 ((rd_T55 l1 aA).f3)]] (by rfl) rfl rfl MT ?_
        with_reducible refine (laws_eqSent.calls ((rd_T55 l0 aA).f0.f0) ((rd_T55 l0 aA).f0.f1) ((rd_T55 l0 aA).f0.f2) ((rd_T55 l0 aA).f0.f3) ((rd_T55 l0 aA).f1) ((rd_T55 l0 aA).f2) ((rd_T55 l0 aA).f3) ((rd_T55 l1 aA).f0.f0) ((rd_T55 l1 aA).f0.f1) ((rd_T55 l1 aA).f0.f2) ((rd_T55 l1 aA).f0.f3) ((rd_T55 l1 aA).f1) ((rd_T55 l1 aA).f2) ((rd_T55 l1 aA).f3) false _ A7.out).mono ?_
        rintro e cB ⟨rfl, hb⟩
        refine ⟨_, rfl, ?_⟩
        replace HB := bl (KL HB) hb
        (try clear hb)
        (try clear hb2)
        (try clear hk)
        (try clear hi)
        refine hK.out _ _ ⟨(CY HB.out aX), (CY HB.out aW), (CY HB.out aV), (CY HB.out aU), (CY HB.out aT), (CY HB.out aS), (CY HB.out aR), (CY HB.out bE), (CY HB.out bD), (CY HB.out bC), (CY HB.out bB), (CY HB.out bA), (CY HB.out aZ), (CY HB.out aY)⟩ (fun bF => ?_)
        clear hK K
        refine nm (some 25) ?_
        refine pv bG 9 26 (tf 10 0) ?_
        refine done_ (done_of bG.out (by kernel_rfl)) ?_
        try go_wp2
        go_ret
        exact ⟨ER, KL HB⟩
      ·rw [if_neg c6] at H
       exact absurd H (by simp)
     ·rw [if_neg c5] at H
      exact absurd H (by simp)
    ·rw [if_neg c4] at H
     have c4b0 : decide (aA < (l0.length : Int)) = false := decide_eq_false c4
     clear c4
     obtain rfl := sj H
     go_wp2
     go_ret
     exact ⟨ER, KL HB⟩
 ·rw [if_neg c3] at H
  have c3b0 : ((l0.length : Int) == (l1.length : Int)) = false := beq_eq_false_iff_ne.mpr c3
  have c3b1 : ((l0.length : Int) != (l1.length : Int)) = true := bne_iff_ne.mpr c3
  have c3b2 : (l0.length == l1.length) = false := by first | simpa using c3 | (simp at c3 ⊢; omega)
  obtain rfl := sj H
  go_enter Tryz.func20, Tryz.ntmps20
  go_wp2
  go_ret
  exact ⟨ER, KL HB⟩
def laws_szAirS.l0 : Nat → List (S70) → Int → Int → Option (Int)
 | 0, _, _, _ => none
 | k + 1, x0, x1, x5 => if x5 < (x0.length : Int) then (if 0 ≤ x5 then ((laws_szAir.f ((rd_T70 x0 x5).f0) ((rd_T70 x0 x5).f1) x1).bind fun t102 => (if t102 < 0 then (some (-1)) else (laws_szAirS.l0 k x0 t102 (wrap64 (x5 + 1))))) else (none)) else (some x1)
def laws_szAirS.f (k : Nat) (l0 : List (S70)) (a1 : Int) : Option (Int) := if (wrap64 (a1 - (l0.length : Int))) < 0 then (some (-1)) else (laws_szAirS.l0 k l0 (wrap64 (a1 - (l0.length : Int))) 0)
theorem laws_szAirS.calls (k : Nat) (A0 : Option Addr) (c0 : Nat) (l0 : List (S70)) (a1 : Int) (r : Int) (w : World) (aJ : Kd.C k70 w A0 l0.length l0) (aK : l0.length ≤ c0) (h : laws_szAirS.f k l0 a1 = some r) :
  Calls Tryz.prog 10 #[.slice A0 l0.length c0, .int .i64 a1] w fun e w' => e = .returned (.int .i64 r) ∧ Below w.heap.size w w' := by
 have aN := Tryz.underlying70
 have aL := Aside0.mk aJ
 have aO := Aside0.mk aK
 clear aJ aK
 have HB := am (Below.refl w.heap.size w)
 have H : (if (wrap64 (a1 - (l0.length : Int))) < 0 then (some (-1)) else (laws_szAirS.l0 k l0 (wrap64 (a1 - (l0.length : Int))) 0)) = some r := h
 clear h
 by_cases c3 : (wrap64 (a1 - (l0.length : Int))) < 0
 ·rw [if_pos c3] at H
  have c3b0 : decide ((wrap64 (a1 - (l0.length : Int))) < 0) = true := decide_eq_true c3
  clear c3
  obtain rfl := sj H
  go_enter Tryz.func10, Tryz.ntmps10
  go_wp2
  go_ret
  exact ⟨ER, KL HB⟩
 ·rw [if_neg c3] at H
  have c3b0 : decide ((wrap64 (a1 - (l0.length : Int))) < 0) = false := decide_eq_false c3
  clear c3
  have H' := Aside0.mk H
  clear H
  go_enter Tryz.func10, Tryz.ntmps10
  go_wp2
  go_loopg [1, 5] k (fun kq v1 v5 w' => ∃ (aE : Int) (aA : Int), v1 = .int .i64 aE ∧ v5 = .int .i64 aA ∧ Aside0 (laws_szAirS.l0 kq l0 aE aA = some r) ∧ Aside0 (kq ≤ k) ∧ Aside0 (Below w.heap.size w w'))
  case atStart => exact ⟨(wrap64 (a1 - (l0.length : Int))), (0), (by first | rfl | (simp; done) | (simp [*]; done)), (by first | rfl | (simp; done) | (simp [*]; done)), H', ⟨Nat.le_refl _⟩, ⟨KL HB⟩⟩
  case round =>
   clear H'
   try clear c1
   try clear p2
   try clear c3
   try clear c3b0
   obtain ⟨aE, aA, rfl, rfl, HA, HK1, HB⟩ := hrel
   cases gk with
   | zero => exact absurd HA.out (by simp [laws_szAirS.l0])
   | succ k1 =>
    have H := HA.out
    clear HA
    simp only [laws_szAirS.l0] at H
    by_cases c4 : aA < (l0.length : Int)
    ·rw [if_pos c4] at H
     have c4b0 : decide (aA < (l0.length : Int)) = true := decide_eq_true c4
     clear c4
     by_cases c5 : 0 ≤ aA
     ·rw [if_pos c5] at H
      have c5b0 : decide (0 ≤ aA) = true := decide_eq_true c5
      clear c5
      replace H := bm H
      obtain ⟨aD, aM, H⟩ := H
      replace H : (if aD < 0 then (some (-1)) else (laws_szAirS.l0 k1 l0 aD (wrap64 (aA + 1)))) = some r := H
      have A6 := Aside0.mk aM
      clear aM
      by_cases c7 : aD < 0
      ·rw [if_pos c7] at H
       have c7b0 : decide (aD < 0) = true := decide_eq_true c7
       clear c7
       obtain rfl := sj H
       have aF : 0 ≤ (aA : Int) := OD
       have aG : aA < (l0.length : Int) := OD
       obtain ⟨aI, aH, aB, aC⟩ := at_T70 aL.out aA aF aG
       cases aH
       replace aB := CX HB.out aB
       replace aC := CX HB.out aC
       replace aF := eq_true aF
       replace aG := eq_true aG
       go_wp2_with (first | ((with_reducible refine gate_callee (f := 24) rfl ?_); refine goesL_ (some 23) rfl rfl Tryz.func24 (by kernel_rfl) rfl #[.agg #[.string ((rd_T70 l0 aA).f0), .bool ((rd_T70 l0 aA).f1)], .int .i64 aE] rfl MT ?_; (with_reducible refine (laws_szAir.calls ((rd_T70 l0 aA).f0) ((rd_T70 l0 aA).f1) aE aD _ A6.out).mono ?_); rintro e w8 ⟨rfl, hb⟩; refine ⟨_, rfl, ?_⟩; replace HB := bl (KL HB) hb; (try clear hb)))
       go_ret
       exact ⟨ER, KL HB⟩
      ·rw [if_neg c7] at H
       have c7b0 : decide (aD < 0) = false := decide_eq_false c7
       clear c7
       have H' := Aside0.mk H
       clear H
       have aF : 0 ≤ (aA : Int) := OD
       have aG : aA < (l0.length : Int) := OD
       obtain ⟨aI, aH, aB, aC⟩ := at_T70 aL.out aA aF aG
       cases aH
       replace aB := CX HB.out aB
       replace aC := CX HB.out aC
       replace aF := eq_true aF
       replace aG := eq_true aG
       go_wp2_with (first | ((with_reducible refine gate_callee (f := 24) rfl ?_); refine goesL_ (some 23) rfl rfl Tryz.func24 (by kernel_rfl) rfl #[.agg #[.string ((rd_T70 l0 aA).f0), .bool ((rd_T70 l0 aA).f1)], .int .i64 aE] rfl MT ?_; (with_reducible refine (laws_szAir.calls ((rd_T70 l0 aA).f0) ((rd_T70 l0 aA).f1) aE aD _ A6.out).mono ?_); rintro e w9 ⟨rfl, hb⟩; refine ⟨_, rfl, ?_⟩; replace HB := bl (KL HB) hb; (try clear hb)))
       go_roundg k1
       case measure => have := HK1.out; omega
       case rel => exact ⟨(aD), (wrap64 (aA + 1)), (by first | rfl | (simp; done) | (simp [*]; done)), (by first | rfl | (simp; done) | (simp [*]; done)), H', ⟨by have := HK1.out; omega⟩, ⟨KL HB⟩⟩
     ·rw [if_neg c5] at H
      exact absurd H (by simp)
    ·rw [if_neg c4] at H
     have c4b0 : decide (aA < (l0.length : Int)) = false := decide_eq_false c4
     clear c4
     obtain rfl := sj H
     go_wp2
     go_ret
     exact ⟨ER, KL HB⟩
def laws_szPacket.f (a0_0 : Int) (a0_1 : Int) (a0_2 : Int) (a0_3 : ByteArray) (a1 : Int) : Option (Int) := if (wrap64 (a1 - (a0_3.size : Int))) < 0 then (some (-1)) else (some (wrap64 (a1 - (a0_3.size : Int))))
theorem laws_szPacket.calls (aF : Int) (aG : Int) (aH : Int) (aA : ByteArray) (a1 : Int) (r : Int) (w : World) (h : laws_szPacket.f aF aG aH aA a1 = some r) :
  Calls Tryz.prog 43 #[.agg #[.int .i64 aF, .int .i64 aG, .int .i64 aH, .string aA], .int .i64 a1] w fun e w' => e = .returned (.int .i64 r) ∧ Below w.heap.size w w' := by
 have aT := Tryz.underlying72
 have HB := am (Below.refl w.heap.size w)
 have H : (if (wrap64 (a1 - (aA.size : Int))) < 0 then (some (-1)) else (some (wrap64 (a1 - (aA.size : Int))))) = some r := h
 clear h
 by_cases c3 : (wrap64 (a1 - (aA.size : Int))) < 0
 ·rw [if_pos c3] at H
  have c3b0 : decide ((wrap64 (a1 - (aA.size : Int))) < 0) = true := decide_eq_true c3
  clear c3
  obtain rfl := sj H
  go_enter Tryz.func43, Tryz.ntmps43
  go_wp2_with (first | ((with_reducible refine gate_dst (N := 2) rfl ?_); refine box_event rfl (N := 2) rfl (cs := #[.int .i64 aF, .int .i64 aG, .int .i64 aH, .string aA]) (t := 72) BX ?_; intro aI hg w4 aB hb; have aC := am (aB); have aD := am (GH HB hg); have aE := aD; replace HB := bl (KL HB) hb; clear hb aB hg; have ⟨_, _, _, _, _⟩ := y4 w4 aC.out))
  go_ret
  exact ⟨ER, K1 HB aE.out⟩
 ·rw [if_neg c3] at H
  have c3b0 : decide ((wrap64 (a1 - (aA.size : Int))) < 0) = false := decide_eq_false c3
  clear c3
  obtain rfl := sj H
  go_enter Tryz.func43, Tryz.ntmps43
  go_wp2_with (first | ((with_reducible refine gate_dst (N := 2) rfl ?_); refine box_event rfl (N := 2) rfl (cs := #[.int .i64 aF, .int .i64 aG, .int .i64 aH, .string aA]) (t := 72) BX ?_; intro aI hg w6 aB hb; have aC := am (aB); have aD := am (GH HB hg); have aE := aD; replace HB := bl (KL HB) hb; clear hb aB hg; have ⟨_, _, _, _, _⟩ := y4 w6 aC.out))
  go_ret
  exact ⟨ER, K1 HB aE.out⟩
def laws_szSent.f (a0_0 : Int) (a0_1 : Int) (a0_2 : Int) (a0_3 : ByteArray) (a0_4 : Int) (a0_5 : Int) (a0_6 : Int) (a1 : Int) : Option (Int) := (laws_szPacket.f a0_0 a0_1 a0_2 a0_3 a1).bind fun t102 => (if t102 < 0 then (some (-1)) else (some t102))
theorem laws_szSent.calls (aC : Int) (aD : Int) (aE : Int) (aF : ByteArray) (aJ : Int) (aK : Int) (aL : Int) (a1 : Int) (r : Int) (w : World) (h : laws_szSent.f aC aD aE aF aJ aK aL a1 = some r) :
  Calls Tryz.prog 25 #[.agg #[.int .i64 aC, .int .i64 aD, .int .i64 aE, .string aF, .int .i64 aJ, .int .i64 aK, .int .i64 aL], .int .i64 a1] w fun e w' => e = .returned (.int .i64 r) ∧ Below w.heap.size w w' := by
 have bE := Tryz.underlying74
 have bF := Tryz.underlying72
 have HB := am (Below.refl w.heap.size w)
 have H : ((laws_szPacket.f aC aD aE aF a1).bind fun aB => (if aB < 0 then (some (-1)) else (some aB))) = some r := h
 clear h
 replace H := bm H
 obtain ⟨aB, bD, H⟩ := H
 replace H : (if aB < 0 then (some (-1)) else (some aB)) = some r := H
 have A3 := Aside0.mk bD
 clear bD
 by_cases c4 : aB < 0
 ·rw [if_pos c4] at H
  have c4b0 : decide (aB < 0) = true := decide_eq_true c4
  clear c4
  obtain rfl := sj H
  go_enter Tryz.func25, Tryz.ntmps25
  go_wp2_with (first | ((with_reducible refine gate_dst (N := 2) rfl ?_); refine box_event rfl (N := 2) rfl (cs := #[.int .i64 aC, .int .i64 aD, .int .i64 aE, .string aF, .int .i64 aJ, .int .i64 aK, .int .i64 aL]) (t := 74) BX ?_; intro aM hg w5 aH hb; have aA := am (aH); have aI := am (GH HB hg); have aG := aI; replace HB := bl (KL HB) hb; clear hb aH hg; have ⟨_, _, _, _, _, _, _, _⟩ := y7 w5 aA.out) | ((with_reducible refine gate_callee (f := 43) rfl ?_); refine goesL_ (some 8) rfl rfl Tryz.func43 (by kernel_rfl) rfl #[.agg #[.int .i64 aC, .int .i64 aD, .int .i64 aE, .string aF], .int .i64 a1] rfl MT ?_; (with_reducible refine (laws_szPacket.calls aC aD aE aF a1 aB _ A3.out).mono ?_); rintro e w7 ⟨rfl, hb⟩; refine ⟨_, rfl, ?_⟩; replace aA := am (BB aA hb); replace HB := bl (K1 HB aG.out) hb; (try clear hb)))
  go_ret
  exact ⟨ER, K1 HB aG.out⟩
 ·rw [if_neg c4] at H
  have c4b0 : decide (aB < 0) = false := decide_eq_false c4
  clear c4
  obtain rfl := sj H
  go_enter Tryz.func25, Tryz.ntmps25
  go_wp2_with (first | ((with_reducible refine gate_dst (N := 2) rfl ?_); refine box_event rfl (N := 2) rfl (cs := #[.int .i64 aC, .int .i64 aD, .int .i64 aE, .string aF, .int .i64 aJ, .int .i64 aK, .int .i64 aL]) (t := 74) BX ?_; intro aM hg w8 aH hb; have aA := am (aH); have aI := am (GH HB hg); have aG := aI; replace HB := bl (KL HB) hb; clear hb aH hg; have ⟨_, _, _, _, _, _, _, _⟩ := y7 w8 aA.out) | ((with_reducible refine gate_callee (f := 43) rfl ?_); refine goesL_ (some 8) rfl rfl Tryz.func43 (by kernel_rfl) rfl #[.agg #[.int .i64 aC, .int .i64 aD, .int .i64 aE, .string aF], .int .i64 a1] rfl MT ?_; (with_reducible refine (laws_szPacket.calls aC aD aE aF a1 aB _ A3.out).mono ?_); rintro e bG ⟨rfl, hb⟩; refine ⟨_, rfl, ?_⟩; replace aA := am (BB aA hb); replace HB := bl (K1 HB aG.out) hb; (try clear hb)))
  go_ret
  exact ⟨ER, K1 HB aG.out⟩
def laws_szSentS.l0 : Nat → List (S74) → Int → Int → Option (Int)
 | 0, _, _, _ => none
 | k + 1, x0, x1, x5 => if x5 < (x0.length : Int) then (if 0 ≤ x5 then ((laws_szSent.f ((rd_T74 x0 x5).f0.f0) ((rd_T74 x0 x5).f0.f1) ((rd_T74 x0 x5).f0.f2) ((rd_T74 x0 x5).f0.f3) ((rd_T74 x0 x5).f1) ((rd_T74 x0 x5).f2) ((rd_T74 x0 x5).f3) x1).bind fun t102 => (if t102 < 0 then (some (-1)) else (laws_szSentS.l0 k x0 t102 (wrap64 (x5 + 1))))) else (none)) else (some x1)
def laws_szSentS.f (k : Nat) (l0 : List (S74)) (a1 : Int) : Option (Int) := if (wrap64 (a1 - (l0.length : Int))) < 0 then (some (-1)) else (laws_szSentS.l0 k l0 (wrap64 (a1 - (l0.length : Int))) 0)
theorem laws_szSentS.calls (k : Nat) (A0 : Option Addr) (c0 : Nat) (l0 : List (S74)) (a1 : Int) (r : Int) (w : World) (aO : Kd.C k74 w A0 l0.length l0) (aP : l0.length ≤ c0) (h : laws_szSentS.f k l0 a1 = some r) :
  Calls Tryz.prog 11 #[.slice A0 l0.length c0, .int .i64 a1] w fun e w' => e = .returned (.int .i64 r) ∧ Below w.heap.size w w' := by
 have aS := Tryz.underlying74
 have aQ := Aside0.mk aO
 have aT := Aside0.mk aP
 clear aO aP
 have HB := am (Below.refl w.heap.size w)
 have H : (if (wrap64 (a1 - (l0.length : Int))) < 0 then (some (-1)) else (laws_szSentS.l0 k l0 (wrap64 (a1 - (l0.length : Int))) 0)) = some r := h
 clear h
 by_cases c3 : (wrap64 (a1 - (l0.length : Int))) < 0
 ·rw [if_pos c3] at H
  have c3b0 : decide ((wrap64 (a1 - (l0.length : Int))) < 0) = true := decide_eq_true c3
  clear c3
  obtain rfl := sj H
  go_enter Tryz.func11, Tryz.ntmps11
  go_wp2
  go_ret
  exact ⟨ER, KL HB⟩
 ·rw [if_neg c3] at H
  have c3b0 : decide ((wrap64 (a1 - (l0.length : Int))) < 0) = false := decide_eq_false c3
  clear c3
  have H' := Aside0.mk H
  clear H
  go_enter Tryz.func11, Tryz.ntmps11
  go_wp2
  go_loopg [1, 5] k (fun kq v1 v5 w' => ∃ (aJ : Int) (aA : Int), v1 = .int .i64 aJ ∧ v5 = .int .i64 aA ∧ Aside0 (laws_szSentS.l0 kq l0 aJ aA = some r) ∧ Aside0 (kq ≤ k) ∧ Aside0 (Below w.heap.size w w'))
  case atStart => exact ⟨(wrap64 (a1 - (l0.length : Int))), (0), (by first | rfl | (simp; done) | (simp [*]; done)), (by first | rfl | (simp; done) | (simp [*]; done)), H', ⟨Nat.le_refl _⟩, ⟨KL HB⟩⟩
  case round =>
   clear H'
   try clear c1
   try clear p2
   try clear c3
   try clear c3b0
   obtain ⟨aJ, aA, rfl, rfl, HA, HK1, HB⟩ := hrel
   cases gk with
   | zero => exact absurd HA.out (by simp [laws_szSentS.l0])
   | succ k1 =>
    have H := HA.out
    clear HA
    simp only [laws_szSentS.l0] at H
    by_cases c4 : aA < (l0.length : Int)
    ·rw [if_pos c4] at H
     have c4b0 : decide (aA < (l0.length : Int)) = true := decide_eq_true c4
     clear c4
     by_cases c5 : 0 ≤ aA
     ·rw [if_pos c5] at H
      have c5b0 : decide (0 ≤ aA) = true := decide_eq_true c5
      clear c5
      replace H := bm H
      obtain ⟨aI, aR, H⟩ := H
      replace H : (if aI < 0 then (some (-1)) else (laws_szSentS.l0 k1 l0 aI (wrap64 (aA + 1)))) = some r := H
      have A6 := Aside0.mk aR
      clear aR
      by_cases c7 : aI < 0
      ·rw [if_pos c7] at H
       have c7b0 : decide (aI < 0) = true := decide_eq_true c7
       clear c7
       obtain rfl := sj H
       have aK : 0 ≤ (aA : Int) := OD
       have aL : aA < (l0.length : Int) := OD
       obtain ⟨aN, aM, aB, aC, aD, aE, aF, aG, aH⟩ := at_T74 aQ.out aA aK aL
       cases aM
       replace aB := CX HB.out aB
       replace aC := CX HB.out aC
       replace aD := CX HB.out aD
       replace aE := CX HB.out aE
       replace aF := CX HB.out aF
       replace aG := CX HB.out aG
       replace aH := CX HB.out aH
       replace aK := eq_true aK
       replace aL := eq_true aL
       go_wp2_with (first | ((with_reducible refine gate_callee (f := 25) rfl ?_); refine goesL_ (some 23) rfl rfl Tryz.func25 (by kernel_rfl) rfl #[.agg #[.int .i64 ((rd_T74 l0 aA).f0.f0), .int .i64 ((rd_T74 l0 aA).f0.f1), .int .i64 ((rd_T74 l0 aA).f0.f2), .string ((rd_T74 l0 aA).f0.f3), .int .i64 ((rd_T74 l0 aA).f1), .int .i64 ((rd_T74 l0 aA).f2), .int .i64 ((rd_T74 l0 aA).f3)], .int .i64 aJ] rfl MT ?_; (with_reducible refine (laws_szSent.calls ((rd_T74 l0 aA).f0.f0) ((rd_T74 l0 aA).f0.f1) ((rd_T74 l0 aA).f0.f2) ((rd_T74 l0 aA).f0.f3) ((rd_T74 l0 aA).f1) ((rd_T74 l0 aA).f2) ((rd_T74 l0 aA).f3) aJ aI _ A6.out).mono ?_); rintro e w8 ⟨rfl, hb⟩; refine ⟨_, rfl, ?_⟩; replace HB := bl (KL HB) hb; (try clear hb)))
       go_ret
       exact ⟨ER, KL HB⟩
      ·rw [if_neg c7] at H
       have c7b0 : decide (aI < 0) = false := decide_eq_false c7
       clear c7
       have H' := Aside0.mk H
       clear H
       have aK : 0 ≤ (aA : Int) := OD
       have aL : aA < (l0.length : Int) := OD
       obtain ⟨aN, aM, aB, aC, aD, aE, aF, aG, aH⟩ := at_T74 aQ.out aA aK aL
       cases aM
       replace aB := CX HB.out aB
       replace aC := CX HB.out aC
       replace aD := CX HB.out aD
       replace aE := CX HB.out aE
       replace aF := CX HB.out aF
       replace aG := CX HB.out aG
       replace aH := CX HB.out aH
       replace aK := eq_true aK
       replace aL := eq_true aL
       go_wp2_with (first | ((with_reducible refine gate_callee (f := 25) rfl ?_); refine goesL_ (some 23) rfl rfl Tryz.func25 (by kernel_rfl) rfl #[.agg #[.int .i64 ((rd_T74 l0 aA).f0.f0), .int .i64 ((rd_T74 l0 aA).f0.f1), .int .i64 ((rd_T74 l0 aA).f0.f2), .string ((rd_T74 l0 aA).f0.f3), .int .i64 ((rd_T74 l0 aA).f1), .int .i64 ((rd_T74 l0 aA).f2), .int .i64 ((rd_T74 l0 aA).f3)], .int .i64 aJ] rfl MT ?_; (with_reducible refine (laws_szSent.calls ((rd_T74 l0 aA).f0.f0) ((rd_T74 l0 aA).f0.f1) ((rd_T74 l0 aA).f0.f2) ((rd_T74 l0 aA).f0.f3) ((rd_T74 l0 aA).f1) ((rd_T74 l0 aA).f2) ((rd_T74 l0 aA).f3) aJ aI _ A6.out).mono ?_); rintro e w9 ⟨rfl, hb⟩; refine ⟨_, rfl, ?_⟩; replace HB := bl (KL HB) hb; (try clear hb)))
       go_roundg k1
       case measure => have := HK1.out; omega
       case rel => exact ⟨(aI), (wrap64 (aA + 1)), (by first | rfl | (simp; done) | (simp [*]; done)), (by first | rfl | (simp; done) | (simp [*]; done)), H', ⟨by have := HK1.out; omega⟩, ⟨KL HB⟩⟩
     ·rw [if_neg c5] at H
      exact absurd H (by simp)
    ·rw [if_neg c4] at H
     have c4b0 : decide (aA < (l0.length : Int)) = false := decide_eq_false c4
     clear c4
     obtain rfl := sj H
     go_wp2
     go_ret
     exact ⟨ER, KL HB⟩
def laws_szRuleS.f (l0 : List (S111)) (a1 : Int) : Option (Int) := if (wrap64 (a1 - (l0.length : Int))) < 0 then (some (-1)) else (some (wrap64 (a1 - (l0.length : Int))))
theorem laws_szRuleS.calls (A0 : Option Addr) (c0 : Nat) (l0 : List (S111)) (a1 : Int) (r : Int) (w : World) (aA : Kd.C k111 w A0 l0.length l0) (aB : l0.length ≤ c0) (h : laws_szRuleS.f l0 a1 = some r) :
  Calls Tryz.prog 21 #[.slice A0 l0.length c0, .int .i64 a1] w fun e w' => e = .returned (.int .i64 r) ∧ Drawn0 w w' := by
 have aC := Aside0.mk aA
 have aD := Aside0.mk aB
 clear aA aB
 have H : (if (wrap64 (a1 - (l0.length : Int))) < 0 then (some (-1)) else (some (wrap64 (a1 - (l0.length : Int))))) = some r := h
 clear h
 by_cases c3 : (wrap64 (a1 - (l0.length : Int))) < 0
 ·rw [if_pos c3] at H
  have c3b0 : decide ((wrap64 (a1 - (l0.length : Int))) < 0) = true := decide_eq_true c3
  clear c3
  obtain rfl := sj H
  go_enter Tryz.func21, Tryz.ntmps21
  go_wp2
  go_ret
  exact ⟨by first | rfl | (simp; done) | (simp [*]; done), by repeat (first | exact Drawn0.refl _ | apply Drawn0.step)⟩
 ·rw [if_neg c3] at H
  have c3b0 : decide ((wrap64 (a1 - (l0.length : Int))) < 0) = false := decide_eq_false c3
  clear c3
  obtain rfl := sj H
  go_enter Tryz.func21, Tryz.ntmps21
  go_wp2
  go_ret
  exact ⟨by first | rfl | (simp; done) | (simp [*]; done), by repeat (first | exact Drawn0.refl _ | apply Drawn0.step)⟩
def laws_szSeenS.f (l0 : List (S136)) (a1 : Int) : Option (Int) := if (wrap64 (a1 - (l0.length : Int))) < 0 then (some (-1)) else (some (wrap64 (a1 - (l0.length : Int))))
theorem laws_szSeenS.calls (A0 : Option Addr) (c0 : Nat) (l0 : List (S136)) (a1 : Int) (r : Int) (w : World) (aA : Kd.C k136 w A0 l0.length l0) (aB : l0.length ≤ c0) (h : laws_szSeenS.f l0 a1 = some r) :
  Calls Tryz.prog 41 #[.slice A0 l0.length c0, .int .i64 a1] w fun e w' => e = .returned (.int .i64 r) ∧ Drawn0 w w' := by
 have aC := Aside0.mk aA
 have aD := Aside0.mk aB
 clear aA aB
 have H : (if (wrap64 (a1 - (l0.length : Int))) < 0 then (some (-1)) else (some (wrap64 (a1 - (l0.length : Int))))) = some r := h
 clear h
 by_cases c3 : (wrap64 (a1 - (l0.length : Int))) < 0
 ·rw [if_pos c3] at H
  have c3b0 : decide ((wrap64 (a1 - (l0.length : Int))) < 0) = true := decide_eq_true c3
  clear c3
  obtain rfl := sj H
  go_enter Tryz.func41, Tryz.ntmps41
  go_wp2
  go_ret
  exact ⟨by first | rfl | (simp; done) | (simp [*]; done), by repeat (first | exact Drawn0.refl _ | apply Drawn0.step)⟩
 ·rw [if_neg c3] at H
  have c3b0 : decide ((wrap64 (a1 - (l0.length : Int))) < 0) = false := decide_eq_false c3
  clear c3
  obtain rfl := sj H
  go_enter Tryz.func41, Tryz.ntmps41
  go_wp2
  go_ret
  exact ⟨by first | rfl | (simp; done) | (simp [*]; done), by repeat (first | exact Drawn0.refl _ | apply Drawn0.step)⟩
def laws_szCache.f (a0_0 : Int) (l0_1 : List (S136)) (a1 : Int) : Option (Int) := (laws_szSeenS.f l0_1 a1).bind fun t102 => (if t102 < 0 then (some (-1)) else (some t102))
theorem laws_szCache.calls (aI : Int) (aC : Option Addr) (aD : Nat) (aA : List (S136)) (a1 : Int) (r : Int) (w : World) (aJ : Kd.C k136 w aC aA.length aA) (aK : aA.length ≤ aD) (h : laws_szCache.f aI aA a1 = some r) :
  Calls Tryz.prog 22 #[.agg #[.int .i64 aI, .slice aC aA.length aD], .int .i64 a1] w fun e w' => e = .returned (.int .i64 r) ∧ Below w.heap.size w w' := by
 have aV := Tryz.underlying25
 have aL := Aside0.mk aJ
 have aM := Aside0.mk aK
 clear aJ aK
 have HB := am (Below.refl w.heap.size w)
 have H : ((laws_szSeenS.f aA a1).bind fun aB => (if aB < 0 then (some (-1)) else (some aB))) = some r := h
 clear h
 replace H := bm H
 obtain ⟨aB, aU, H⟩ := H
 replace H : (if aB < 0 then (some (-1)) else (some aB)) = some r := H
 have A3 := Aside0.mk aU
 clear aU
 by_cases c4 : aB < 0
 ·rw [if_pos c4] at H
  have c4b0 : decide (aB < 0) = true := decide_eq_true c4
  clear c4
  obtain rfl := sj H
  go_enter Tryz.func22, Tryz.ntmps22
  go_wp2_with (first | ((with_reducible refine gate_dst (N := 2) rfl ?_); refine box_event rfl (N := 2) rfl (cs := #[.int .i64 aI, .slice aC aA.length aD]) (t := 25) BX ?_; intro aN hg w5 aE hb; have aF := am (aE); have aG := am (GH HB hg); have aH := aG; replace HB := bl (KL HB) hb; clear hb aE hg; have ⟨_, _, _⟩ := y2 w5 aF.out) | ((with_reducible refine gate_callee (f := 41) rfl ?_); refine goesL_ (some 8) rfl rfl Tryz.func41 (by kernel_rfl) rfl #[.slice aC aA.length aD, .int .i64 a1] rfl MT ?_; (with_reducible refine (laws_szSeenS.calls _ _ aA a1 aB _ ?_ ?_ A3.out).mono ?_); exact KD aL HB; exact aM.out; rintro e w' ⟨rfl, ⟨nd, rfl⟩⟩; refine ⟨_, rfl, ?_⟩))
  go_ret
  exact ⟨ER, K1 HB aH.out⟩
 ·rw [if_neg c4] at H
  have c4b0 : decide (aB < 0) = false := decide_eq_false c4
  clear c4
  obtain rfl := sj H
  go_enter Tryz.func22, Tryz.ntmps22
  go_wp2_with (first | ((with_reducible refine gate_dst (N := 2) rfl ?_); refine box_event rfl (N := 2) rfl (cs := #[.int .i64 aI, .slice aC aA.length aD]) (t := 25) BX ?_; intro aN hg w7 aE hb; have aF := am (aE); have aG := am (GH HB hg); have aH := aG; replace HB := bl (KL HB) hb; clear hb aE hg; have ⟨_, _, _⟩ := y2 w7 aF.out) | ((with_reducible refine gate_callee (f := 41) rfl ?_); refine goesL_ (some 8) rfl rfl Tryz.func41 (by kernel_rfl) rfl #[.slice aC aA.length aD, .int .i64 a1] rfl MT ?_; (with_reducible refine (laws_szSeenS.calls _ _ aA a1 aB _ ?_ ?_ A3.out).mono ?_); exact KD aL HB; exact aM.out; rintro e w' ⟨rfl, ⟨nd, rfl⟩⟩; refine ⟨_, rfl, ?_⟩))
  go_ret
  exact ⟨ER, K1 HB aH.out⟩
def laws_szIntS.f (l0 : List Int) (a1 : Int) : Option (Int) := if (wrap64 (a1 - (l0.length : Int))) < 0 then (some (-1)) else (some (wrap64 (a1 - (l0.length : Int))))
theorem laws_szIntS.calls (A0 : Option Addr) (c0 : Nat) (l0 : List Int) (a1 : Int) (r : Int) (w : World) (aA : Kd.C (Kd.int .i64) w A0 l0.length l0) (aB : l0.length ≤ c0) (h : laws_szIntS.f l0 a1 = some r) :
  Calls Tryz.prog 79 #[.slice A0 l0.length c0, .int .i64 a1] w fun e w' => e = .returned (.int .i64 r) ∧ Drawn0 w w' := by
 have aC := Aside0.mk aA
 have aD := Aside0.mk aB
 clear aA aB
 have H : (if (wrap64 (a1 - (l0.length : Int))) < 0 then (some (-1)) else (some (wrap64 (a1 - (l0.length : Int))))) = some r := h
 clear h
 by_cases c3 : (wrap64 (a1 - (l0.length : Int))) < 0
 ·rw [if_pos c3] at H
  have c3b0 : decide ((wrap64 (a1 - (l0.length : Int))) < 0) = true := decide_eq_true c3
  clear c3
  obtain rfl := sj H
  go_enter Tryz.func79, Tryz.ntmps79
  go_wp2
  go_ret
  exact ⟨by first | rfl | (simp; done) | (simp [*]; done), by repeat (first | exact Drawn0.refl _ | apply Drawn0.step)⟩
 ·rw [if_neg c3] at H
  have c3b0 : decide ((wrap64 (a1 - (l0.length : Int))) < 0) = false := decide_eq_false c3
  clear c3
  obtain rfl := sj H
  go_enter Tryz.func79, Tryz.ntmps79
  go_wp2
  go_ret
  exact ⟨by first | rfl | (simp; done) | (simp [*]; done), by repeat (first | exact Drawn0.refl _ | apply Drawn0.step)⟩
def laws_szWindow.f (a0_0 : Int) (l0_1 : List Int) (a1 : Int) : Option (Int) := (laws_szIntS.f l0_1 a1).bind fun t102 => (if t102 < 0 then (some (-1)) else (some t102))
theorem laws_szWindow.calls (aI : Int) (aC : Option Addr) (aD : Nat) (aA : List Int) (a1 : Int) (r : Int) (w : World) (aJ : Kd.C (Kd.int .i64) w aC aA.length aA) (aK : aA.length ≤ aD) (h : laws_szWindow.f aI aA a1 = some r) :
  Calls Tryz.prog 61 #[.agg #[.int .i64 aI, .slice aC aA.length aD], .int .i64 a1] w fun e w' => e = .returned (.int .i64 r) ∧ Below w.heap.size w w' := by
 have aV := Tryz.underlying94
 have aL := Aside0.mk aJ
 have aM := Aside0.mk aK
 clear aJ aK
 have HB := am (Below.refl w.heap.size w)
 have H : ((laws_szIntS.f aA a1).bind fun aB => (if aB < 0 then (some (-1)) else (some aB))) = some r := h
 clear h
 replace H := bm H
 obtain ⟨aB, aU, H⟩ := H
 replace H : (if aB < 0 then (some (-1)) else (some aB)) = some r := H
 have A3 := Aside0.mk aU
 clear aU
 by_cases c4 : aB < 0
 ·rw [if_pos c4] at H
  have c4b0 : decide (aB < 0) = true := decide_eq_true c4
  clear c4
  obtain rfl := sj H
  go_enter Tryz.func61, Tryz.ntmps61
  go_wp2_with (first | ((with_reducible refine gate_dst (N := 2) rfl ?_); refine box_event rfl (N := 2) rfl (cs := #[.int .i64 aI, .slice aC aA.length aD]) (t := 94) BX ?_; intro aN hg w5 aE hb; have aF := am (aE); have aG := am (GH HB hg); have aH := aG; replace HB := bl (KL HB) hb; clear hb aE hg; have ⟨_, _, _⟩ := y2 w5 aF.out) | ((with_reducible refine gate_callee (f := 79) rfl ?_); refine goesL_ (some 8) rfl rfl Tryz.func79 (by kernel_rfl) rfl #[.slice aC aA.length aD, .int .i64 a1] rfl MT ?_; (with_reducible refine (laws_szIntS.calls _ _ aA a1 aB _ ?_ ?_ A3.out).mono ?_); exact KD aL HB; exact aM.out; rintro e w' ⟨rfl, ⟨nd, rfl⟩⟩; refine ⟨_, rfl, ?_⟩))
  go_ret
  exact ⟨ER, K1 HB aH.out⟩
 ·rw [if_neg c4] at H
  have c4b0 : decide (aB < 0) = false := decide_eq_false c4
  clear c4
  obtain rfl := sj H
  go_enter Tryz.func61, Tryz.ntmps61
  go_wp2_with (first | ((with_reducible refine gate_dst (N := 2) rfl ?_); refine box_event rfl (N := 2) rfl (cs := #[.int .i64 aI, .slice aC aA.length aD]) (t := 94) BX ?_; intro aN hg w7 aE hb; have aF := am (aE); have aG := am (GH HB hg); have aH := aG; replace HB := bl (KL HB) hb; clear hb aE hg; have ⟨_, _, _⟩ := y2 w7 aF.out) | ((with_reducible refine gate_callee (f := 79) rfl ?_); refine goesL_ (some 8) rfl rfl Tryz.func79 (by kernel_rfl) rfl #[.slice aC aA.length aD, .int .i64 a1] rfl MT ?_; (with_reducible refine (laws_szIntS.calls _ _ aA a1 aB _ ?_ ?_ A3.out).mono ?_); exact KD aL HB; exact aM.out; rintro e w' ⟨rfl, ⟨nd, rfl⟩⟩; refine ⟨_, rfl, ?_⟩))
  go_ret
  exact ⟨ER, K1 HB aH.out⟩
def laws_szSa.f (a0_0 : Int) (a0_1 : Int) (a0_2 : ByteArray) (a0_3 : ByteArray) (a0_4 : Int) (a0_5 : Int) (a0_6 : Int) (a0_7 : Int) (a0_8 : Int) (a0_9 : Int) (l0_10 : List Int) (a1 : Int) : Option (Int) := if (wrap64 (a1 - (a0_2.size : Int))) < 0 then (some (-1)) else (if (wrap64 ((wrap64 (a1 - (a0_2.size : Int))) - (a0_3.size : Int))) < 0 then (some (-1)) else ((laws_szWindow.f a0_9 l0_10 (wrap64 ((wrap64 (a1 - (a0_2.size : Int))) - (a0_3.size : Int)))).bind fun t102 => (if t102 < 0 then (some (-1)) else (some t102))))
theorem laws_szSa.calls (aL : Int) (aM : Int) (aB : ByteArray) (aD : ByteArray) (aN : Int) (aO : Int) (aP : Int) (aQ : Int) (aR : Int) (aH : Int) (aF : Option Addr) (aG : Nat) (aA : List Int) (a1 : Int) (r : Int) (w : World) (aS : Kd.C (Kd.int .i64) w aF aA.length aA) (aT : aA.length ≤ aG) (h : laws_szSa.f aL aM aB aD aN aO aP aQ aR aH aA a1 = some r) :
  Calls Tryz.prog 42 #[.agg #[.int .i64 aL, .int .i64 aM, .string aB, .string aD, .int .i64 aN, .int .i64 aO, .int .i64 aP, .int .i64 aQ, .int .i64 aR, .int .i64 aH, .slice aF aA.length aG], .int .i64 a1] w fun e w' => e = .returned (.int .i64 r) ∧ Below w.heap.size w w' := by
 have cV := Tryz.underlying96
 have cW := Tryz.underlying94
 have aU := Aside0.mk aS
 have aV := Aside0.mk aT
 clear aS aT
 have HB := am (Below.refl w.heap.size w)
 have H : (if (wrap64 (a1 - (aB.size : Int))) < 0 then (some (-1)) else (if (wrap64 ((wrap64 (a1 - (aB.size : Int))) - (aD.size : Int))) < 0 then (some (-1)) else ((laws_szWindow.f aH aA (wrap64 ((wrap64 (a1 - (aB.size : Int))) - (aD.size : Int)))).bind fun aK => (if aK < 0 then (some (-1)) else (some aK))))) = some r := h
 clear h
 by_cases c3 : (wrap64 (a1 - (aB.size : Int))) < 0
 ·rw [if_pos c3] at H
  have c3b0 : decide ((wrap64 (a1 - (aB.size : Int))) < 0) = true := decide_eq_true c3
  clear c3
  obtain rfl := sj H
  go_enter Tryz.func42, Tryz.ntmps42
  go_wp2_with (first | ((with_reducible refine gate_dst (N := 2) rfl ?_); refine box_event rfl (N := 2) rfl (cs := #[.int .i64 aL, .int .i64 aM, .string aB, .string aD, .int .i64 aN, .int .i64 aO, .int .i64 aP, .int .i64 aQ, .int .i64 aR, .int .i64 aH, .slice aF aA.length aG]) (t := 96) BX ?_; intro aW hg w4 aI hb; have aC := am (aI); have aJ := am (GH HB hg); have aE := aJ; replace HB := bl (KL HB) hb; clear hb aI hg; have ⟨_, _, _, _, _, _, _, _, _, _, _, _⟩ := y11 w4 aC.out))
  go_ret
  exact ⟨ER, K1 HB aE.out⟩
 ·rw [if_neg c3] at H
  have c3b0 : decide ((wrap64 (a1 - (aB.size : Int))) < 0) = false := decide_eq_false c3
  clear c3
  by_cases c6 : (wrap64 ((wrap64 (a1 - (aB.size : Int))) - (aD.size : Int))) < 0
  ·rw [if_pos c6] at H
   have c6b0 : decide ((wrap64 ((wrap64 (a1 - (aB.size : Int))) - (aD.size : Int))) < 0) = true := decide_eq_true c6
   clear c6
   obtain rfl := sj H
   go_enter Tryz.func42, Tryz.ntmps42
   go_wp2_with (first | ((with_reducible refine gate_dst (N := 2) rfl ?_); refine box_event rfl (N := 2) rfl (cs := #[.int .i64 aL, .int .i64 aM, .string aB, .string aD, .int .i64 aN, .int .i64 aO, .int .i64 aP, .int .i64 aQ, .int .i64 aR, .int .i64 aH, .slice aF aA.length aG]) (t := 96) BX ?_; intro aW hg w7 aI hb; have aC := am (aI); have aJ := am (GH HB hg); have aE := aJ; replace HB := bl (KL HB) hb; clear hb aI hg; have ⟨_, _, _, _, _, _, _, _, _, _, _, _⟩ := y11 w7 aC.out))
   go_ret
   exact ⟨ER, K1 HB aE.out⟩
  ·rw [if_neg c6] at H
   have c6b0 : decide ((wrap64 ((wrap64 (a1 - (aB.size : Int))) - (aD.size : Int))) < 0) = false := decide_eq_false c6
   clear c6
   replace H := bm H
   obtain ⟨aK, cU, H⟩ := H
   replace H : (if aK < 0 then (some (-1)) else (some aK)) = some r := H
   have A9 := Aside0.mk cU
   clear cU
   by_cases aX : aK < 0
   ·rw [if_pos aX] at H
    have c10b0 : decide (aK < 0) = true := decide_eq_true aX
    clear aX
    obtain rfl := sj H
    go_enter Tryz.func42, Tryz.ntmps42
    go_wp2_with (first | ((with_reducible refine gate_dst (N := 2) rfl ?_); refine box_event rfl (N := 2) rfl (cs := #[.int .i64 aL, .int .i64 aM, .string aB, .string aD, .int .i64 aN, .int .i64 aO, .int .i64 aP, .int .i64 aQ, .int .i64 aR, .int .i64 aH, .slice aF aA.length aG]) (t := 96) BX ?_; intro aW hg cX aI hb; have aC := am (aI); have aJ := am (GH HB hg); have aE := aJ; replace HB := bl (KL HB) hb; clear hb aI hg; have ⟨_, _, _, _, _, _, _, _, _, _, _, _⟩ := y11 cX aC.out) | ((with_reducible refine gate_callee (f := 61) rfl ?_); refine goesL_ (some 22) rfl rfl Tryz.func61 (by kernel_rfl) rfl #[.agg #[.int .i64 aH, .slice aF aA.length aG], .int .i64 (wrap64 ((wrap64 (a1 - (aB.size : Int))) - (aD.size : Int)))] rfl MT ?_; (with_reducible refine (laws_szWindow.calls aH _ _ aA (wrap64 ((wrap64 (a1 - (aB.size : Int))) - (aD.size : Int))) aK _ ?_ ?_ A9.out).mono ?_); exact KD aU HB; exact aV.out; rintro e cZ ⟨rfl, hb⟩; refine ⟨_, rfl, ?_⟩; replace aC := am (BB aC hb); replace HB := bl (K1 HB aE.out) hb; (try clear hb)))
    go_ret
    exact ⟨ER, K1 HB aE.out⟩
   ·rw [if_neg aX] at H
    have c10b0 : decide (aK < 0) = false := decide_eq_false aX
    clear aX
    obtain rfl := sj H
    go_enter Tryz.func42, Tryz.ntmps42
    go_wp2_with (first | ((with_reducible refine gate_dst (N := 2) rfl ?_); refine box_event rfl (N := 2) rfl (cs := #[.int .i64 aL, .int .i64 aM, .string aB, .string aD, .int .i64 aN, .int .i64 aO, .int .i64 aP, .int .i64 aQ, .int .i64 aR, .int .i64 aH, .slice aF aA.length aG]) (t := 96) BX ?_; intro aW hg cY aI hb; have aC := am (aI); have aJ := am (GH HB hg); have aE := aJ; replace HB := bl (KL HB) hb; clear hb aI hg; have ⟨_, _, _, _, _, _, _, _, _, _, _, _⟩ := y11 cY aC.out) | ((with_reducible refine gate_callee (f := 61) rfl ?_); refine goesL_ (some 22) rfl rfl Tryz.func61 (by kernel_rfl) rfl #[.agg #[.int .i64 aH, .slice aF aA.length aG], .int .i64 (wrap64 ((wrap64 (a1 - (aB.size : Int))) - (aD.size : Int)))] rfl MT ?_; (with_reducible refine (laws_szWindow.calls aH _ _ aA (wrap64 ((wrap64 (a1 - (aB.size : Int))) - (aD.size : Int))) aK _ ?_ ?_ A9.out).mono ?_); exact KD aU HB; exact aV.out; rintro e dA ⟨rfl, hb⟩; refine ⟨_, rfl, ?_⟩; replace aC := am (BB aC hb); replace HB := bl (K1 HB aE.out) hb; (try clear hb)))
    go_ret
    exact ⟨ER, K1 HB aE.out⟩
def laws_szSaS.l0 : Nat → List (S96) → Int → Int → Option (Int)
 | 0, _, _, _ => none
 | k + 1, x0, x1, x5 => if x5 < (x0.length : Int) then (if 0 ≤ x5 then ((laws_szSa.f ((rd_T96 x0 x5).f0) ((rd_T96 x0 x5).f1) ((rd_T96 x0 x5).f2) ((rd_T96 x0 x5).f3) ((rd_T96 x0 x5).f4) ((rd_T96 x0 x5).f5) ((rd_T96 x0 x5).f6) ((rd_T96 x0 x5).f7) ((rd_T96 x0 x5).f8) ((rd_T96 x0 x5).f9.f0) ((rd_T96 x0 x5).f9.f1) x1).bind fun t102 => (if t102 < 0 then (some (-1)) else (laws_szSaS.l0 k x0 t102 (wrap64 (x5 + 1))))) else (none)) else (some x1)
def laws_szSaS.f (k : Nat) (l0 : List (S96)) (a1 : Int) : Option (Int) := if (wrap64 (a1 - (l0.length : Int))) < 0 then (some (-1)) else (laws_szSaS.l0 k l0 (wrap64 (a1 - (l0.length : Int))) 0)
theorem laws_szSaS.calls (k : Nat) (A0 : Option Addr) (c0 : Nat) (l0 : List (S96)) (a1 : Int) (r : Int) (w : World) (aY : Kd.C k96 w A0 l0.length l0) (aZ : l0.length ≤ c0) (h : laws_szSaS.f k l0 a1 = some r) :
  Calls Tryz.prog 23 #[.slice A0 l0.length c0, .int .i64 a1] w fun e w' => e = .returned (.int .i64 r) ∧ Below w.heap.size w w' := by
 have bC := Tryz.underlying96
 have bA := Aside0.mk aY
 have bD := Aside0.mk aZ
 clear aY aZ
 have HB := am (Below.refl w.heap.size w)
 have H : (if (wrap64 (a1 - (l0.length : Int))) < 0 then (some (-1)) else (laws_szSaS.l0 k l0 (wrap64 (a1 - (l0.length : Int))) 0)) = some r := h
 clear h
 by_cases c3 : (wrap64 (a1 - (l0.length : Int))) < 0
 ·rw [if_pos c3] at H
  have c3b0 : decide ((wrap64 (a1 - (l0.length : Int))) < 0) = true := decide_eq_true c3
  clear c3
  obtain rfl := sj H
  go_enter Tryz.func23, Tryz.ntmps23
  go_wp2
  go_ret
  exact ⟨ER, KL HB⟩
 ·rw [if_neg c3] at H
  have c3b0 : decide ((wrap64 (a1 - (l0.length : Int))) < 0) = false := decide_eq_false c3
  clear c3
  have H' := Aside0.mk H
  clear H
  go_enter Tryz.func23, Tryz.ntmps23
  go_wp2
  go_loopg [1, 5] k (fun kq v1 v5 w' => ∃ (aT : Int) (aA : Int), v1 = .int .i64 aT ∧ v5 = .int .i64 aA ∧ Aside0 (laws_szSaS.l0 kq l0 aT aA = some r) ∧ Aside0 (kq ≤ k) ∧ Aside0 (Below w.heap.size w w'))
  case atStart => exact ⟨(wrap64 (a1 - (l0.length : Int))), (0), (by first | rfl | (simp; done) | (simp [*]; done)), (by first | rfl | (simp; done) | (simp [*]; done)), H', ⟨Nat.le_refl _⟩, ⟨KL HB⟩⟩
  case round =>
   clear H'
   try clear c2
   try clear p2
   try clear c3
   try clear c3b0
   obtain ⟨aT, aA, rfl, rfl, HA, HK1, HB⟩ := hrel
   cases gk with
   | zero => exact absurd HA.out (by simp [laws_szSaS.l0])
   | succ k1 =>
    have H := HA.out
    clear HA
    simp only [laws_szSaS.l0] at H
    by_cases c4 : aA < (l0.length : Int)
    ·rw [if_pos c4] at H
     have c4b0 : decide (aA < (l0.length : Int)) = true := decide_eq_true c4
     clear c4
     by_cases c5 : 0 ≤ aA
     ·rw [if_pos c5] at H
      have c5b0 : decide (0 ≤ aA) = true := decide_eq_true c5
      clear c5
      replace H := bm H
      obtain ⟨aS, bB, H⟩ := H
      replace H : (if aS < 0 then (some (-1)) else (laws_szSaS.l0 k1 l0 aS (wrap64 (aA + 1)))) = some r := H
      have A6 := Aside0.mk bB
      clear bB
      by_cases c7 : aS < 0
      ·rw [if_pos c7] at H
       have c7b0 : decide (aS < 0) = true := decide_eq_true c7
       clear c7
       obtain rfl := sj H
       have aU : 0 ≤ (aA : Int) := OD
       have aV : aA < (l0.length : Int) := OD
       obtain ⟨aX, aQ, aR, aW, aE, aF, aG, aH, aI, aJ, aK, aL, aM, aN, aB, aC, aD⟩ := at_T96 bA.out aA aU aV
       cases aW
       replace aE := CX HB.out aE
       replace aF := CX HB.out aF
       replace aG := CX HB.out aG
       replace aH := CX HB.out aH
       replace aI := CX HB.out aI
       replace aJ := CX HB.out aJ
       replace aK := CX HB.out aK
       replace aL := CX HB.out aL
       replace aM := CX HB.out aM
       replace aN := CX HB.out aN
       replace aB := CX HB.out aB
       have aO := Aside0.mk aD
       have aP := Aside0.mk aC
       clear aD aC
       replace aU := eq_true aU
       replace aV := eq_true aV
       go_wp2_with (first | ((with_reducible refine gate_callee (f := 42) rfl ?_); refine goesL_ (some 23) rfl rfl Tryz.func42 (by kernel_rfl) rfl #[.agg #[.int .i64 ((rd_T96 l0 aA).f0), .int .i64 ((rd_T96 l0 aA).f1), .string ((rd_T96 l0 aA).f2), .string ((rd_T96 l0 aA).f3), .int .i64 ((rd_T96 l0 aA).f4), .int .i64 ((rd_T96 l0 aA).f5), .int .i64 ((rd_T96 l0 aA).f6), .int .i64 ((rd_T96 l0 aA).f7), .int .i64 ((rd_T96 l0 aA).f8), .int .i64 ((rd_T96 l0 aA).f9.f0), .slice aQ ((rd_T96 l0 aA).f9.f1).length aR], .int .i64 aT] rfl MT ?_; (with_reducible refine (laws_szSa.calls ((rd_T96 l0 aA).f0) ((rd_T96 l0 aA).f1) ((rd_T96 l0 aA).f2) ((rd_T96 l0 aA).f3) ((rd_T96 l0 aA).f4) ((rd_T96 l0 aA).f5) ((rd_T96 l0 aA).f6) ((rd_T96 l0 aA).f7) ((rd_T96 l0 aA).f8) ((rd_T96 l0 aA).f9.f0) _ _ ((rd_T96 l0 aA).f9.f1) aT aS _ ?_ ?_ A6.out).mono ?_); exact KD aO HB; exact aP.out; rintro e w8 ⟨rfl, hb⟩; refine ⟨_, rfl, ?_⟩; replace HB := bl (KL HB) hb; (try clear hb)))
       go_ret
       exact ⟨ER, KL HB⟩
      ·rw [if_neg c7] at H
       have c7b0 : decide (aS < 0) = false := decide_eq_false c7
       clear c7
       have H' := Aside0.mk H
       clear H
       have aU : 0 ≤ (aA : Int) := OD
       have aV : aA < (l0.length : Int) := OD
       obtain ⟨aX, aQ, aR, aW, aE, aF, aG, aH, aI, aJ, aK, aL, aM, aN, aB, aC, aD⟩ := at_T96 bA.out aA aU aV
       cases aW
       replace aE := CX HB.out aE
       replace aF := CX HB.out aF
       replace aG := CX HB.out aG
       replace aH := CX HB.out aH
       replace aI := CX HB.out aI
       replace aJ := CX HB.out aJ
       replace aK := CX HB.out aK
       replace aL := CX HB.out aL
       replace aM := CX HB.out aM
       replace aN := CX HB.out aN
       replace aB := CX HB.out aB
       have aO := Aside0.mk aD
       have aP := Aside0.mk aC
       clear aD aC
       replace aU := eq_true aU
       replace aV := eq_true aV
       go_wp2_with (first | ((with_reducible refine gate_callee (f := 42) rfl ?_); refine goesL_ (some 23) rfl rfl Tryz.func42 (by kernel_rfl) rfl #[.agg #[.int .i64 ((rd_T96 l0 aA).f0), .int .i64 ((rd_T96 l0 aA).f1), .string ((rd_T96 l0 aA).f2), .string ((rd_T96 l0 aA).f3), .int .i64 ((rd_T96 l0 aA).f4), .int .i64 ((rd_T96 l0 aA).f5), .int .i64 ((rd_T96 l0 aA).f6), .int .i64 ((rd_T96 l0 aA).f7), .int .i64 ((rd_T96 l0 aA).f8), .int .i64 ((rd_T96 l0 aA).f9.f0), .slice aQ ((rd_T96 l0 aA).f9.f1).length aR], .int .i64 aT] rfl MT ?_; (with_reducible refine (laws_szSa.calls ((rd_T96 l0 aA).f0) ((rd_T96 l0 aA).f1) ((rd_T96 l0 aA).f2) ((rd_T96 l0 aA).f3) ((rd_T96 l0 aA).f4) ((rd_T96 l0 aA).f5) ((rd_T96 l0 aA).f6) ((rd_T96 l0 aA).f7) ((rd_T96 l0 aA).f8) ((rd_T96 l0 aA).f9.f0) _ _ ((rd_T96 l0 aA).f9.f1) aT aS _ ?_ ?_ A6.out).mono ?_); exact KD aO HB; exact aP.out; rintro e w9 ⟨rfl, hb⟩; refine ⟨_, rfl, ?_⟩; replace HB := bl (KL HB) hb; (try clear hb)))
       go_roundg k1
       case measure => have := HK1.out; omega
       case rel => exact ⟨(aS), (wrap64 (aA + 1)), (by first | rfl | (simp; done) | (simp [*]; done)), (by first | rfl | (simp; done) | (simp [*]; done)), H', ⟨by have := HK1.out; omega⟩, ⟨KL HB⟩⟩
     ·rw [if_neg c5] at H
      exact absurd H (by simp)
    ·rw [if_neg c4] at H
     have c4b0 : decide (aA < (l0.length : Int)) = false := decide_eq_false c4
     clear c4
     obtain rfl := sj H
     go_wp2
     go_ret
     exact ⟨ER, KL HB⟩
def laws_szGate.f (k : Nat) (a0_0 : Int) (l0_1 : List (S111)) (a0_2 : Int) (l0_3 : List (S136)) (l0_4 : List (S96)) (l0_5 : List (S96)) (a1 : Int) : Option (Int) := (laws_szRuleS.f l0_1 a1).bind fun t102 => (if t102 < 0 then (some (-1)) else ((laws_szCache.f a0_2 l0_3 t102).bind fun t103 => (if t103 < 0 then (some (-1)) else ((laws_szSaS.f k l0_4 t103).bind fun t104 => (if t104 < 0 then (some (-1)) else ((laws_szSaS.f k l0_5 t104).bind fun t105 => (if t105 < 0 then (some (-1)) else (some t105))))))))
theorem laws_szGate.calls (k : Nat) (aX : Int) (aN : Option Addr) (aO : Nat) (aC : List (S111)) (aK : Int) (aP : Option Addr) (aQ : Nat) (aG : List (S136)) (aR : Option Addr) (aS : Nat) (aH : List (S96)) (aT : Option Addr) (aU : Nat) (aJ : List (S96)) (a1 : Int) (r : Int) (w : World) (bD : Kd.C k111 w aN aC.length aC) (bE : aC.length ≤ aO) (bF : Kd.C k136 w aP aG.length aG) (bG : aG.length ≤ aQ) (bH : Kd.C k96 w aR aH.length aH) (bI : aH.length ≤ aS) (bJ : Kd.C k96 w aT aJ.length aJ) (bK : aJ.length ≤ aU) (h : laws_szGate.f k aX aC aK aG aH aJ a1 = some r) :
  Calls Tryz.prog 9 #[.agg #[.int .i64 aX, .slice aN aC.length aO, .int .i64 aK, .slice aP aG.length aQ, .slice aR aH.length aS, .slice aT aJ.length aU], .int .i64 a1] w fun e w' => e = .returned (.int .i64 r) ∧ Below w.heap.size w w' := by
 have eN := Tryz.underlying28
 have eO := Tryz.underlying25
 have aV := Aside0.mk bD
 have aW := Aside0.mk bE
 clear bD bE
 have aY := Aside0.mk bF
 have aZ := Aside0.mk bG
 clear bF bG
 have bB := Aside0.mk bH
 have bC := Aside0.mk bI
 clear bH bI
 have bL := Aside0.mk bJ
 have bM := Aside0.mk bK
 clear bJ bK
 have HB := am (Below.refl w.heap.size w)
 have H : ((laws_szRuleS.f aC a1).bind fun aD => (if aD < 0 then (some (-1)) else ((laws_szCache.f aK aG aD).bind fun aE => (if aE < 0 then (some (-1)) else ((laws_szSaS.f k aH aE).bind fun aF => (if aF < 0 then (some (-1)) else ((laws_szSaS.f k aJ aF).bind fun aI => (if aI < 0 then (some (-1)) else (some aI))))))))) = some r := h
 clear h
 replace H := bm H
 obtain ⟨aD, eK, H⟩ := H
 replace H : (if aD < 0 then (some (-1)) else ((laws_szCache.f aK aG aD).bind fun aE => (if aE < 0 then (some (-1)) else ((laws_szSaS.f k aH aE).bind fun aF => (if aF < 0 then (some (-1)) else ((laws_szSaS.f k aJ aF).bind fun aI => (if aI < 0 then (some (-1)) else (some aI)))))))) = some r := H
 have A3 := Aside0.mk eK
 clear eK
 by_cases c4 : aD < 0
 ·rw [if_pos c4] at H
  have c4b0 : decide (aD < 0) = true := decide_eq_true c4
  clear c4
  obtain rfl := sj H
  go_enter Tryz.func9, Tryz.ntmps9
  go_wp2_with (first | ((with_reducible refine gate_dst (N := 2) rfl ?_); refine box_event rfl (N := 2) rfl (cs := #[.int .i64 aX, .slice aN aC.length aO, .int .i64 aK, .slice aP aG.length aQ, .slice aR aH.length aS, .slice aT aJ.length aU]) (t := 28) BX ?_; intro bA hg w5 aL hb; have aA := am (aL); have aM := am (GH HB hg); have aB := aM; replace HB := bl (KL HB) hb; clear hb aL hg; have ⟨_, _, _, _, _, _, _⟩ := y6 w5 aA.out) | ((with_reducible refine gate_callee (f := 21) rfl ?_); refine goesL_ (some 8) rfl rfl Tryz.func21 (by kernel_rfl) rfl #[.slice aN aC.length aO, .int .i64 a1] rfl MT ?_; (with_reducible refine (laws_szRuleS.calls _ _ aC a1 aD _ ?_ ?_ A3.out).mono ?_); exact KD aV HB; exact aW.out; rintro e w' ⟨rfl, ⟨nd, rfl⟩⟩; refine ⟨_, rfl, ?_⟩))
  go_ret
  exact ⟨ER, K1 HB aB.out⟩
 ·rw [if_neg c4] at H
  have c4b0 : decide (aD < 0) = false := decide_eq_false c4
  clear c4
  replace H := bm H
  obtain ⟨aE, eL, H⟩ := H
  replace H : (if aE < 0 then (some (-1)) else ((laws_szSaS.f k aH aE).bind fun aF => (if aF < 0 then (some (-1)) else ((laws_szSaS.f k aJ aF).bind fun aI => (if aI < 0 then (some (-1)) else (some aI)))))) = some r := H
  have A7 := Aside0.mk eL
  clear eL
  by_cases c8 : aE < 0
  ·rw [if_pos c8] at H
   have c8b0 : decide (aE < 0) = true := decide_eq_true c8
   clear c8
   obtain rfl := sj H
   go_enter Tryz.func9, Tryz.ntmps9
   go_wp2_with (first | ((with_reducible refine gate_dst (N := 2) rfl ?_); refine box_event rfl (N := 2) rfl (cs := #[.int .i64 aX, .slice aN aC.length aO, .int .i64 aK, .slice aP aG.length aQ, .slice aR aH.length aS, .slice aT aJ.length aU]) (t := 28) BX ?_; intro bA hg w9 aL hb; have aA := am (aL); have aM := am (GH HB hg); have aB := aM; replace HB := bl (KL HB) hb; clear hb aL hg; have ⟨_, _, _, _, _, _, _⟩ := y6 w9 aA.out) | ((with_reducible refine gate_callee (f := 21) rfl ?_); refine goesL_ (some 8) rfl rfl Tryz.func21 (by kernel_rfl) rfl #[.slice aN aC.length aO, .int .i64 a1] rfl MT ?_; (with_reducible refine (laws_szRuleS.calls _ _ aC a1 aD _ ?_ ?_ A3.out).mono ?_); exact KD aV HB; exact aW.out; rintro e w' ⟨rfl, ⟨nd, rfl⟩⟩; refine ⟨_, rfl, ?_⟩) | ((with_reducible refine gate_callee (f := 22) rfl ?_); refine goesL_ (some 14) rfl rfl Tryz.func22 (by kernel_rfl) rfl #[.agg #[.int .i64 aK, .slice aP aG.length aQ], .int .i64 aD] rfl MT ?_; (with_reducible refine (laws_szCache.calls aK _ _ aG aD aE _ ?_ ?_ A7.out).mono ?_); (repeat (first | exact (Kd.C_below aY.out (K1 HB aB.out)) | (with_reducible refine Kd.C_alloc ?_ _) | (with_reducible refine Kd.C_drewN ?_ _) | (with_reducible refine Kd.C_drew ?_))); exact aZ.out; rintro e eX ⟨rfl, hb⟩; refine ⟨_, rfl, ?_⟩; replace aA := am (BB aA hb); replace HB := bl (K1 HB aB.out) hb; (try clear hb)))
   go_ret
   exact ⟨ER, K1 HB aB.out⟩
  ·rw [if_neg c8] at H
   have c8b0 : decide (aE < 0) = false := decide_eq_false c8
   clear c8
   replace H := bm H
   obtain ⟨aF, bP, H⟩ := H
   replace H : (if aF < 0 then (some (-1)) else ((laws_szSaS.f k aJ aF).bind fun aI => (if aI < 0 then (some (-1)) else (some aI)))) = some r := H
   have eJ := Aside0.mk bP
   clear bP
   by_cases bN : aF < 0
   ·rw [if_pos bN] at H
    have c13b0 : decide (aF < 0) = true := decide_eq_true bN
    clear bN
    obtain rfl := sj H
    go_enter Tryz.func9, Tryz.ntmps9
    go_wp2_with (first | ((with_reducible refine gate_dst (N := 2) rfl ?_); refine box_event rfl (N := 2) rfl (cs := #[.int .i64 aX, .slice aN aC.length aO, .int .i64 aK, .slice aP aG.length aQ, .slice aR aH.length aS, .slice aT aJ.length aU]) (t := 28) BX ?_; intro bA hg eP aL hb; have aA := am (aL); have aM := am (GH HB hg); have aB := aM; replace HB := bl (KL HB) hb; clear hb aL hg; have ⟨_, _, _, _, _, _, _⟩ := y6 eP aA.out) | ((with_reducible refine gate_callee (f := 21) rfl ?_); refine goesL_ (some 8) rfl rfl Tryz.func21 (by kernel_rfl) rfl #[.slice aN aC.length aO, .int .i64 a1] rfl MT ?_; (with_reducible refine (laws_szRuleS.calls _ _ aC a1 aD _ ?_ ?_ A3.out).mono ?_); exact KD aV HB; exact aW.out; rintro e w' ⟨rfl, ⟨nd, rfl⟩⟩; refine ⟨_, rfl, ?_⟩) | ((with_reducible refine gate_callee (f := 22) rfl ?_); refine goesL_ (some 14) rfl rfl Tryz.func22 (by kernel_rfl) rfl #[.agg #[.int .i64 aK, .slice aP aG.length aQ], .int .i64 aD] rfl MT ?_; (with_reducible refine (laws_szCache.calls aK _ _ aG aD aE _ ?_ ?_ A7.out).mono ?_); (repeat (first | exact (Kd.C_below aY.out (K1 HB aB.out)) | (with_reducible refine Kd.C_alloc ?_ _) | (with_reducible refine Kd.C_drewN ?_ _) | (with_reducible refine Kd.C_drew ?_))); exact aZ.out; rintro e eQ ⟨rfl, hb⟩; refine ⟨_, rfl, ?_⟩; replace aA := am (BB aA hb); replace HB := bl (K1 HB aB.out) hb; (try clear hb); have ⟨_, _, _, _, _, _, _⟩ := y6 eQ aA.out) | ((with_reducible refine gate_callee (f := 23) rfl ?_); refine goesL_ (some 20) rfl rfl Tryz.func23 (by kernel_rfl) rfl #[.slice aR aH.length aS, .int .i64 aE] rfl MT ?_; (with_reducible refine (laws_szSaS.calls k _ _ aH aE aF _ ?_ ?_ eJ.out).mono ?_); exact KD bB HB; exact bC.out; rintro e eY ⟨rfl, hb⟩; refine ⟨_, rfl, ?_⟩; replace aA := am (BB aA hb); replace HB := bl (K1 HB aB.out) hb; (try clear hb)))
    go_ret
    exact ⟨ER, K1 HB aB.out⟩
   ·rw [if_neg bN] at H
    have c13b0 : decide (aF < 0) = false := decide_eq_false bN
    clear bN
    replace H := bm H
    obtain ⟨aI, bQ, H⟩ := H
    replace H : (if aI < 0 then (some (-1)) else (some aI)) = some r := H
    have eM := Aside0.mk bQ
    clear bQ
    by_cases bO : aI < 0
    ·rw [if_pos bO] at H
     have c20b0 : decide (aI < 0) = true := decide_eq_true bO
     clear bO
     obtain rfl := sj H
     go_enter Tryz.func9, Tryz.ntmps9
     go_wp2_with (first | ((with_reducible refine gate_dst (N := 2) rfl ?_); refine box_event rfl (N := 2) rfl (cs := #[.int .i64 aX, .slice aN aC.length aO, .int .i64 aK, .slice aP aG.length aQ, .slice aR aH.length aS, .slice aT aJ.length aU]) (t := 28) BX ?_; intro bA hg eR aL hb; have aA := am (aL); have aM := am (GH HB hg); have aB := aM; replace HB := bl (KL HB) hb; clear hb aL hg; have ⟨_, _, _, _, _, _, _⟩ := y6 eR aA.out) | ((with_reducible refine gate_callee (f := 21) rfl ?_); refine goesL_ (some 8) rfl rfl Tryz.func21 (by kernel_rfl) rfl #[.slice aN aC.length aO, .int .i64 a1] rfl MT ?_; (with_reducible refine (laws_szRuleS.calls _ _ aC a1 aD _ ?_ ?_ A3.out).mono ?_); exact KD aV HB; exact aW.out; rintro e w' ⟨rfl, ⟨nd, rfl⟩⟩; refine ⟨_, rfl, ?_⟩) | ((with_reducible refine gate_callee (f := 22) rfl ?_); refine goesL_ (some 14) rfl rfl Tryz.func22 (by kernel_rfl) rfl #[.agg #[.int .i64 aK, .slice aP aG.length aQ], .int .i64 aD] rfl MT ?_; (with_reducible refine (laws_szCache.calls aK _ _ aG aD aE _ ?_ ?_ A7.out).mono ?_); (repeat (first | exact (Kd.C_below aY.out (K1 HB aB.out)) | (with_reducible refine Kd.C_alloc ?_ _) | (with_reducible refine Kd.C_drewN ?_ _) | (with_reducible refine Kd.C_drew ?_))); exact aZ.out; rintro e eS ⟨rfl, hb⟩; refine ⟨_, rfl, ?_⟩; replace aA := am (BB aA hb); replace HB := bl (K1 HB aB.out) hb; (try clear hb); have ⟨_, _, _, _, _, _, _⟩ := y6 eS aA.out) | ((with_reducible refine gate_callee (f := 23) rfl ?_); refine goesL_ (some 20) rfl rfl Tryz.func23 (by kernel_rfl) rfl #[.slice aR aH.length aS, .int .i64 aE] rfl MT ?_; (with_reducible refine (laws_szSaS.calls k _ _ aH aE aF _ ?_ ?_ eJ.out).mono ?_); exact KD bB HB; exact bC.out; rintro e eT ⟨rfl, hb⟩; refine ⟨_, rfl, ?_⟩; replace aA := am (BB aA hb); replace HB := bl (K1 HB aB.out) hb; (try clear hb); have ⟨_, _, _, _, _, _, _⟩ := y6 eT aA.out) | ((with_reducible refine gate_callee (f := 23) rfl ?_); refine goesL_ (some 26) rfl rfl Tryz.func23 (by kernel_rfl) rfl #[.slice aT aJ.length aU, .int .i64 aF] rfl MT ?_; (with_reducible refine (laws_szSaS.calls k _ _ aJ aF aI _ ?_ ?_ eM.out).mono ?_); exact KD bL HB; exact bM.out; rintro e eZ ⟨rfl, hb⟩; refine ⟨_, rfl, ?_⟩; replace aA := am (BB aA hb); replace HB := bl (K1 HB aB.out) hb; (try clear hb)))
     go_ret
     exact ⟨ER, K1 HB aB.out⟩
    ·rw [if_neg bO] at H
     have c20b0 : decide (aI < 0) = false := decide_eq_false bO
     clear bO
     obtain rfl := sj H
     go_enter Tryz.func9, Tryz.ntmps9
     go_wp2_with (first | ((with_reducible refine gate_dst (N := 2) rfl ?_); refine box_event rfl (N := 2) rfl (cs := #[.int .i64 aX, .slice aN aC.length aO, .int .i64 aK, .slice aP aG.length aQ, .slice aR aH.length aS, .slice aT aJ.length aU]) (t := 28) BX ?_; intro bA hg eU aL hb; have aA := am (aL); have aM := am (GH HB hg); have aB := aM; replace HB := bl (KL HB) hb; clear hb aL hg; have ⟨_, _, _, _, _, _, _⟩ := y6 eU aA.out) | ((with_reducible refine gate_callee (f := 21) rfl ?_); refine goesL_ (some 8) rfl rfl Tryz.func21 (by kernel_rfl) rfl #[.slice aN aC.length aO, .int .i64 a1] rfl MT ?_; (with_reducible refine (laws_szRuleS.calls _ _ aC a1 aD _ ?_ ?_ A3.out).mono ?_); exact KD aV HB; exact aW.out; rintro e w' ⟨rfl, ⟨nd, rfl⟩⟩; refine ⟨_, rfl, ?_⟩) | ((with_reducible refine gate_callee (f := 22) rfl ?_); refine goesL_ (some 14) rfl rfl Tryz.func22 (by kernel_rfl) rfl #[.agg #[.int .i64 aK, .slice aP aG.length aQ], .int .i64 aD] rfl MT ?_; (with_reducible refine (laws_szCache.calls aK _ _ aG aD aE _ ?_ ?_ A7.out).mono ?_); (repeat (first | exact (Kd.C_below aY.out (K1 HB aB.out)) | (with_reducible refine Kd.C_alloc ?_ _) | (with_reducible refine Kd.C_drewN ?_ _) | (with_reducible refine Kd.C_drew ?_))); exact aZ.out; rintro e eV ⟨rfl, hb⟩; refine ⟨_, rfl, ?_⟩; replace aA := am (BB aA hb); replace HB := bl (K1 HB aB.out) hb; (try clear hb); have ⟨_, _, _, _, _, _, _⟩ := y6 eV aA.out) | ((with_reducible refine gate_callee (f := 23) rfl ?_); refine goesL_ (some 20) rfl rfl Tryz.func23 (by kernel_rfl) rfl #[.slice aR aH.length aS, .int .i64 aE] rfl MT ?_; (with_reducible refine (laws_szSaS.calls k _ _ aH aE aF _ ?_ ?_ eJ.out).mono ?_); exact KD bB HB; exact bC.out; rintro e eW ⟨rfl, hb⟩; refine ⟨_, rfl, ?_⟩; replace aA := am (BB aA hb); replace HB := bl (K1 HB aB.out) hb; (try clear hb); have ⟨_, _, _, _, _, _, _⟩ := y6 eW aA.out) | ((with_reducible refine gate_callee (f := 23) rfl ?_); refine goesL_ (some 26) rfl rfl Tryz.func23 (by kernel_rfl) rfl #[.slice aT aJ.length aU, .int .i64 aF] rfl MT ?_; (with_reducible refine (laws_szSaS.calls k _ _ aJ aF aI _ ?_ ?_ eM.out).mono ?_); exact KD bL HB; exact bM.out; rintro e fA ⟨rfl, hb⟩; refine ⟨_, rfl, ?_⟩; replace aA := am (BB aA hb); replace HB := bl (K1 HB aB.out) hb; (try clear hb)))
     go_ret
     exact ⟨ER, K1 HB aB.out⟩
def laws_szWorld.f (k : Nat) (a0_0 : Int) (l0_1 : List (S111)) (a0_2 : Int) (l0_3 : List (S136)) (l0_4 : List (S96)) (l0_5 : List (S96)) (a0_6 : Int) (l0_7 : List (S111)) (a0_8 : Int) (l0_9 : List (S136)) (l0_10 : List (S96)) (l0_11 : List (S96)) (l0_12 : List (S70)) (l0_13 : List (S74)) (l0_14 : List (S74)) (a1 : Int) : Option (Int) := (laws_szGate.f k a0_0 l0_1 a0_2 l0_3 l0_4 l0_5 a1).bind fun t102 => (if t102 < 0 then (some (-1)) else ((laws_szGate.f k a0_6 l0_7 a0_8 l0_9 l0_10 l0_11 t102).bind fun t103 => (if t103 < 0 then (some (-1)) else ((laws_szAirS.f k l0_12 t103).bind fun t104 => (if t104 < 0 then (some (-1)) else ((laws_szSentS.f k l0_13 t104).bind fun t105 => (if t105 < 0 then (some (-1)) else ((laws_szSentS.f k l0_14 t105).bind fun t106 => (if t106 < 0 then (some (-1)) else (some t106))))))))))
theorem laws_szWorld.calls (k : Nat) (aS : Int) (bI : Option Addr) (bJ : Nat) (aH : List (S111)) (aT : Int) (bK : Option Addr) (bL : Nat) (aI : List (S136)) (bM : Option Addr) (bN : Nat) (aJ : List (S96)) (bO : Option Addr) (bP : Nat) (aK : List (S96)) (aU : Int) (bQ : Option Addr) (bR : Nat) (aP : List (S111)) (aV : Int) (bS : Option Addr) (bT : Nat) (aQ : List (S136)) (aW : Option Addr) (aX : Nat) (aC : List (S96)) (aY : Option Addr) (aZ : Nat) (aD : List (S96)) (bA : Option Addr) (bB : Nat) (aE : List (S70)) (bC : Option Addr) (bD : Nat) (aF : List (S74)) (bG : Option Addr) (bH : Nat) (aG : List (S74)) (a1 : Int) (r : Int) (w : World) (dB : Kd.C k111 w bI aH.length aH) (dC : aH.length ≤ bJ) (dD : Kd.C k136 w bK aI.length aI) (dE : aI.length ≤ bL) (dF : Kd.C k96 w bM aJ.length aJ) (dG : aJ.length ≤ bN) (dH : Kd.C k96 w bO aK.length aK) (dI : aK.length ≤ bP) (dJ : Kd.C k111 w bQ aP.length aP) (dK : aP.length ≤ bR) (dL : Kd.C k136 w bS aQ.length aQ) (dM : aQ.length ≤ bT) (cP : Kd.C k96 w aW aC.length aC) (cQ : aC.length ≤ aX) (cR : Kd.C k96 w aY aD.length aD) (cS : aD.length ≤ aZ) (cT : Kd.C k70 w bA aE.length aE) (cU : aE.length ≤ bB) (cV : Kd.C k74 w bC aF.length aF) (cW : aF.length ≤ bD) (cX : Kd.C k74 w bG aG.length aG) (cY : aG.length ≤ bH) (h : laws_szWorld.f k aS aH aT aI aJ aK aU aP aV aQ aC aD aE aF aG a1 = some r) :
  Calls Tryz.prog 4 #[.agg #[.int .i64 aS, .slice bI aH.length bJ, .int .i64 aT, .slice bK aI.length bL, .slice bM aJ.length bN, .slice bO aK.length bP, .int .i64 aU, .slice bQ aP.length bR, .int .i64 aV, .slice bS aQ.length bT, .slice aW aC.length aX, .slice aY aD.length aZ, .slice bA aE.length bB, .slice bC aF.length bD, .slice bG aG.length bH], .int .i64 a1] w fun e w' => e = .returned (.int .i64 r) ∧ Below w.heap.size w w' := by
 have qG := Tryz.underlying32
 have qH := Tryz.underlying28
 have bY := Aside0.mk dB
 have bZ := Aside0.mk dC
 clear dB dC
 have cA := Aside0.mk dD
 have cB := Aside0.mk dE
 clear dD dE
 have cC := Aside0.mk dF
 have cD := Aside0.mk dG
 clear dF dG
 have cE := Aside0.mk dH
 have cF := Aside0.mk dI
 clear dH dI
 have cI := Aside0.mk dJ
 have cJ := Aside0.mk dK
 clear dJ dK
 have cK := Aside0.mk dL
 have cL := Aside0.mk dM
 clear dL dM
 have bU := Aside0.mk cP
 have bV := Aside0.mk cQ
 clear cP cQ
 have bW := Aside0.mk cR
 have bX := Aside0.mk cS
 clear cR cS
 have cG := Aside0.mk cT
 have cH := Aside0.mk cU
 clear cT cU
 have cN := Aside0.mk cV
 have cO := Aside0.mk cW
 clear cV cW
 have cZ := Aside0.mk cX
 have dA := Aside0.mk cY
 clear cX cY
 have HB := am (Below.refl w.heap.size w)
 have H : ((laws_szGate.f k aS aH aT aI aJ aK a1).bind fun aL => (if aL < 0 then (some (-1)) else ((laws_szGate.f k aU aP aV aQ aC aD aL).bind fun aM => (if aM < 0 then (some (-1)) else ((laws_szAirS.f k aE aM).bind fun aN => (if aN < 0 then (some (-1)) else ((laws_szSentS.f k aF aN).bind fun aO => (if aO < 0 then (some (-1)) else ((laws_szSentS.f k aG aO).bind fun aR => (if aR < 0 then (some (-1)) else (some aR))))))))))) = some r := h
 clear h
 replace H := bm H
 obtain ⟨aL, qD, H⟩ := H
 replace H : (if aL < 0 then (some (-1)) else ((laws_szGate.f k aU aP aV aQ aC aD aL).bind fun aM => (if aM < 0 then (some (-1)) else ((laws_szAirS.f k aE aM).bind fun aN => (if aN < 0 then (some (-1)) else ((laws_szSentS.f k aF aN).bind fun aO => (if aO < 0 then (some (-1)) else ((laws_szSentS.f k aG aO).bind fun aR => (if aR < 0 then (some (-1)) else (some aR)))))))))) = some r := H
 have A3 := Aside0.mk qD
 clear qD
 by_cases c4 : aL < 0
 ·rw [if_pos c4] at H
  have c4b0 : decide (aL < 0) = true := decide_eq_true c4
  clear c4
  obtain rfl := sj H
  go_enter Tryz.func4, Tryz.ntmps4
  go_wp2_with (first | ((with_reducible refine gate_dst (N := 2) rfl ?_); refine box_event rfl (N := 2) rfl (cs := #[.int .i64 aS, .slice bI aH.length bJ, .int .i64 aT, .slice bK aI.length bL, .slice bM aJ.length bN, .slice bO aK.length bP, .int .i64 aU, .slice bQ aP.length bR, .int .i64 aV, .slice bS aQ.length bT, .slice aW aC.length aX, .slice aY aD.length aZ, .slice bA aE.length bB, .slice bC aF.length bD, .slice bG aG.length bH]) (t := 32) BX ?_; intro cM hg w5 bE hb; have aA := am (bE); have bF := am (GH HB hg); have aB := bF; replace HB := bl (KL HB) hb; clear hb bE hg; have ⟨_, _, _, _, _, _, _, _, _, _, _, _, _, _, _, _⟩ := y15 w5 aA.out) | ((with_reducible refine gate_callee (f := 9) rfl ?_); refine goesL_ (some 8) rfl rfl Tryz.func9 (by kernel_rfl) rfl #[.agg #[.int .i64 aS, .slice bI aH.length bJ, .int .i64 aT, .slice bK aI.length bL, .slice bM aJ.length bN, .slice bO aK.length bP], .int .i64 a1] rfl MT ?_; (with_reducible refine (laws_szGate.calls k aS _ _ aH aT _ _ aI _ _ aJ _ _ aK a1 aL _ ?_ ?_ ?_ ?_ ?_ ?_ ?_ ?_ A3.out).mono ?_); exact KD bY HB; exact bZ.out; exact KD cA HB; exact cB.out; exact KD cC HB; exact cD.out; exact KD cE HB; exact cF.out; rintro e w7 ⟨rfl, hb⟩; refine ⟨_, rfl, ?_⟩; replace aA := am (BB aA hb); replace HB := bl (K1 HB aB.out) hb; (try clear hb)))
  go_ret
  exact ⟨ER, K1 HB aB.out⟩
 ·rw [if_neg c4] at H
  have c4b0 : decide (aL < 0) = false := decide_eq_false c4
  clear c4
  replace H := bm H
  obtain ⟨aM, qE, H⟩ := H
  replace H : (if aM < 0 then (some (-1)) else ((laws_szAirS.f k aE aM).bind fun aN => (if aN < 0 then (some (-1)) else ((laws_szSentS.f k aF aN).bind fun aO => (if aO < 0 then (some (-1)) else ((laws_szSentS.f k aG aO).bind fun aR => (if aR < 0 then (some (-1)) else (some aR)))))))) = some r := H
  have A8 := Aside0.mk qE
  clear qE
  by_cases c9 : aM < 0
  ·rw [if_pos c9] at H
   have c9b0 : decide (aM < 0) = true := decide_eq_true c9
   clear c9
   obtain rfl := sj H
   go_enter Tryz.func4, Tryz.ntmps4
   go_wp2_with (first | ((with_reducible refine gate_dst (N := 2) rfl ?_); refine box_event rfl (N := 2) rfl (cs := #[.int .i64 aS, .slice bI aH.length bJ, .int .i64 aT, .slice bK aI.length bL, .slice bM aJ.length bN, .slice bO aK.length bP, .int .i64 aU, .slice bQ aP.length bR, .int .i64 aV, .slice bS aQ.length bT, .slice aW aC.length aX, .slice aY aD.length aZ, .slice bA aE.length bB, .slice bC aF.length bD, .slice bG aG.length bH]) (t := 32) BX ?_; intro cM hg qI bE hb; have aA := am (bE); have bF := am (GH HB hg); have aB := bF; replace HB := bl (KL HB) hb; clear hb bE hg; have ⟨_, _, _, _, _, _, _, _, _, _, _, _, _, _, _, _⟩ := y15 qI aA.out) | ((with_reducible refine gate_callee (f := 9) rfl ?_); refine goesL_ (some 8) rfl rfl Tryz.func9 (by kernel_rfl) rfl #[.agg #[.int .i64 aS, .slice bI aH.length bJ, .int .i64 aT, .slice bK aI.length bL, .slice bM aJ.length bN, .slice bO aK.length bP], .int .i64 a1] rfl MT ?_; (with_reducible refine (laws_szGate.calls k aS _ _ aH aT _ _ aI _ _ aJ _ _ aK a1 aL _ ?_ ?_ ?_ ?_ ?_ ?_ ?_ ?_ A3.out).mono ?_); exact KD bY HB; exact bZ.out; exact KD cA HB; exact cB.out; exact KD cC HB; exact cD.out; exact KD cE HB; exact cF.out; rintro e qJ ⟨rfl, hb⟩; refine ⟨_, rfl, ?_⟩; replace aA := am (BB aA hb); replace HB := bl (K1 HB aB.out) hb; (try clear hb); have ⟨_, _, _, _, _, _, _, _, _, _, _, _, _, _, _, _⟩ := y15 qJ aA.out) | ((with_reducible refine gate_callee (f := 9) rfl ?_); refine goesL_ (some 14) rfl rfl Tryz.func9 (by kernel_rfl) rfl #[.agg #[.int .i64 aU, .slice bQ aP.length bR, .int .i64 aV, .slice bS aQ.length bT, .slice aW aC.length aX, .slice aY aD.length aZ], .int .i64 aL] rfl MT ?_; (with_reducible refine (laws_szGate.calls k aU _ _ aP aV _ _ aQ _ _ aC _ _ aD aL aM _ ?_ ?_ ?_ ?_ ?_ ?_ ?_ ?_ A8.out).mono ?_); exact KD cI HB; exact cJ.out; exact KD cK HB; exact cL.out; exact KD bU HB; exact bV.out; exact KD bW HB; exact bX.out; rintro e rB ⟨rfl, hb⟩; refine ⟨_, rfl, ?_⟩; replace aA := am (BB aA hb); replace HB := bl (K1 HB aB.out) hb; (try clear hb)))
   go_ret
   exact ⟨ER, K1 HB aB.out⟩
  ·rw [if_neg c9] at H
   have c9b0 : decide (aM < 0) = false := decide_eq_false c9
   clear c9
   replace H := bm H
   obtain ⟨aN, eA, H⟩ := H
   replace H : (if aN < 0 then (some (-1)) else ((laws_szSentS.f k aF aN).bind fun aO => (if aO < 0 then (some (-1)) else ((laws_szSentS.f k aG aO).bind fun aR => (if aR < 0 then (some (-1)) else (some aR)))))) = some r := H
   have iL := Aside0.mk eA
   clear eA
   by_cases dN : aN < 0
   ·rw [if_pos dN] at H
    have c16b0 : decide (aN < 0) = true := decide_eq_true dN
    clear dN
    obtain rfl := sj H
    go_enter Tryz.func4, Tryz.ntmps4
    go_wp2_with (first | ((with_reducible refine gate_dst (N := 2) rfl ?_); refine box_event rfl (N := 2) rfl (cs := #[.int .i64 aS, .slice bI aH.length bJ, .int .i64 aT, .slice bK aI.length bL, .slice bM aJ.length bN, .slice bO aK.length bP, .int .i64 aU, .slice bQ aP.length bR, .int .i64 aV, .slice bS aQ.length bT, .slice aW aC.length aX, .slice aY aD.length aZ, .slice bA aE.length bB, .slice bC aF.length bD, .slice bG aG.length bH]) (t := 32) BX ?_; intro cM hg qK bE hb; have aA := am (bE); have bF := am (GH HB hg); have aB := bF; replace HB := bl (KL HB) hb; clear hb bE hg; have ⟨_, _, _, _, _, _, _, _, _, _, _, _, _, _, _, _⟩ := y15 qK aA.out) | ((with_reducible refine gate_callee (f := 9) rfl ?_); refine goesL_ (some 8) rfl rfl Tryz.func9 (by kernel_rfl) rfl #[.agg #[.int .i64 aS, .slice bI aH.length bJ, .int .i64 aT, .slice bK aI.length bL, .slice bM aJ.length bN, .slice bO aK.length bP], .int .i64 a1] rfl MT ?_; (with_reducible refine (laws_szGate.calls k aS _ _ aH aT _ _ aI _ _ aJ _ _ aK a1 aL _ ?_ ?_ ?_ ?_ ?_ ?_ ?_ ?_ A3.out).mono ?_); exact KD bY HB; exact bZ.out; exact KD cA HB; exact cB.out; exact KD cC HB; exact cD.out; exact KD cE HB; exact cF.out; rintro e qL ⟨rfl, hb⟩; refine ⟨_, rfl, ?_⟩; replace aA := am (BB aA hb); replace HB := bl (K1 HB aB.out) hb; (try clear hb); have ⟨_, _, _, _, _, _, _, _, _, _, _, _, _, _, _, _⟩ := y15 qL aA.out) | ((with_reducible refine gate_callee (f := 9) rfl ?_); refine goesL_ (some 14) rfl rfl Tryz.func9 (by kernel_rfl) rfl #[.agg #[.int .i64 aU, .slice bQ aP.length bR, .int .i64 aV, .slice bS aQ.length bT, .slice aW aC.length aX, .slice aY aD.length aZ], .int .i64 aL] rfl MT ?_; (with_reducible refine (laws_szGate.calls k aU _ _ aP aV _ _ aQ _ _ aC _ _ aD aL aM _ ?_ ?_ ?_ ?_ ?_ ?_ ?_ ?_ A8.out).mono ?_); exact KD cI HB; exact cJ.out; exact KD cK HB; exact cL.out; exact KD bU HB; exact bV.out; exact KD bW HB; exact bX.out; rintro e qM ⟨rfl, hb⟩; refine ⟨_, rfl, ?_⟩; replace aA := am (BB aA hb); replace HB := bl (K1 HB aB.out) hb; (try clear hb); have ⟨_, _, _, _, _, _, _, _, _, _, _, _, _, _, _, _⟩ := y15 qM aA.out) | ((with_reducible refine gate_callee (f := 10) rfl ?_); refine goesL_ (some 20) rfl rfl Tryz.func10 (by kernel_rfl) rfl #[.slice bA aE.length bB, .int .i64 aM] rfl MT ?_; (with_reducible refine (laws_szAirS.calls k _ _ aE aM aN _ ?_ ?_ iL.out).mono ?_); exact KD cG HB; exact cH.out; rintro e rC ⟨rfl, hb⟩; refine ⟨_, rfl, ?_⟩; replace aA := am (BB aA hb); replace HB := bl (K1 HB aB.out) hb; (try clear hb)))
    go_ret
    exact ⟨ER, K1 HB aB.out⟩
   ·rw [if_neg dN] at H
    have c16b0 : decide (aN < 0) = false := decide_eq_false dN
    clear dN
    replace H := bm H
    obtain ⟨aO, eQ, H⟩ := H
    replace H : (if aO < 0 then (some (-1)) else ((laws_szSentS.f k aG aO).bind fun aR => (if aR < 0 then (some (-1)) else (some aR)))) = some r := H
    have qC := Aside0.mk eQ
    clear eQ
    by_cases dO : aO < 0
    ·rw [if_pos dO] at H
     have c25b0 : decide (aO < 0) = true := decide_eq_true dO
     clear dO
     obtain rfl := sj H
     go_enter Tryz.func4, Tryz.ntmps4
     go_wp2_with (first | ((with_reducible refine gate_dst (N := 2) rfl ?_); refine box_event rfl (N := 2) rfl (cs := #[.int .i64 aS, .slice bI aH.length bJ, .int .i64 aT, .slice bK aI.length bL, .slice bM aJ.length bN, .slice bO aK.length bP, .int .i64 aU, .slice bQ aP.length bR, .int .i64 aV, .slice bS aQ.length bT, .slice aW aC.length aX, .slice aY aD.length aZ, .slice bA aE.length bB, .slice bC aF.length bD, .slice bG aG.length bH]) (t := 32) BX ?_; intro cM hg qN bE hb; have aA := am (bE); have bF := am (GH HB hg); have aB := bF; replace HB := bl (KL HB) hb; clear hb bE hg; have ⟨_, _, _, _, _, _, _, _, _, _, _, _, _, _, _, _⟩ := y15 qN aA.out) | ((with_reducible refine gate_callee (f := 9) rfl ?_); refine goesL_ (some 8) rfl rfl Tryz.func9 (by kernel_rfl) rfl #[.agg #[.int .i64 aS, .slice bI aH.length bJ, .int .i64 aT, .slice bK aI.length bL, .slice bM aJ.length bN, .slice bO aK.length bP], .int .i64 a1] rfl MT ?_; (with_reducible refine (laws_szGate.calls k aS _ _ aH aT _ _ aI _ _ aJ _ _ aK a1 aL _ ?_ ?_ ?_ ?_ ?_ ?_ ?_ ?_ A3.out).mono ?_); exact KD bY HB; exact bZ.out; exact KD cA HB; exact cB.out; exact KD cC HB; exact cD.out; exact KD cE HB; exact cF.out; rintro e qO ⟨rfl, hb⟩; refine ⟨_, rfl, ?_⟩; replace aA := am (BB aA hb); replace HB := bl (K1 HB aB.out) hb; (try clear hb); have ⟨_, _, _, _, _, _, _, _, _, _, _, _, _, _, _, _⟩ := y15 qO aA.out) | ((with_reducible refine gate_callee (f := 9) rfl ?_); refine goesL_ (some 14) rfl rfl Tryz.func9 (by kernel_rfl) rfl #[.agg #[.int .i64 aU, .slice bQ aP.length bR, .int .i64 aV, .slice bS aQ.length bT, .slice aW aC.length aX, .slice aY aD.length aZ], .int .i64 aL] rfl MT ?_; (with_reducible refine (laws_szGate.calls k aU _ _ aP aV _ _ aQ _ _ aC _ _ aD aL aM _ ?_ ?_ ?_ ?_ ?_ ?_ ?_ ?_ A8.out).mono ?_); exact KD cI HB; exact cJ.out; exact KD cK HB; exact cL.out; exact KD bU HB; exact bV.out; exact KD bW HB; exact bX.out; rintro e qP ⟨rfl, hb⟩; refine ⟨_, rfl, ?_⟩; replace aA := am (BB aA hb); replace HB := bl (K1 HB aB.out) hb; (try clear hb); have ⟨_, _, _, _, _, _, _, _, _, _, _, _, _, _, _, _⟩ := y15 qP aA.out) | ((with_reducible refine gate_callee (f := 10) rfl ?_); refine goesL_ (some 20) rfl rfl Tryz.func10 (by kernel_rfl) rfl #[.slice bA aE.length bB, .int .i64 aM] rfl MT ?_; (with_reducible refine (laws_szAirS.calls k _ _ aE aM aN _ ?_ ?_ iL.out).mono ?_); exact KD cG HB; exact cH.out; rintro e qQ ⟨rfl, hb⟩; refine ⟨_, rfl, ?_⟩; replace aA := am (BB aA hb); replace HB := bl (K1 HB aB.out) hb; (try clear hb); have ⟨_, _, _, _, _, _, _, _, _, _, _, _, _, _, _, _⟩ := y15 qQ aA.out) | ((with_reducible refine gate_callee (f := 11) rfl ?_); refine goesL_ (some 26) rfl rfl Tryz.func11 (by kernel_rfl) rfl #[.slice bC aF.length bD, .int .i64 aN] rfl MT ?_; (with_reducible refine (laws_szSentS.calls k _ _ aF aN aO _ ?_ ?_ qC.out).mono ?_); exact KD cN HB; exact cO.out; rintro e rD ⟨rfl, hb⟩; refine ⟨_, rfl, ?_⟩; replace aA := am (BB aA hb); replace HB := bl (K1 HB aB.out) hb; (try clear hb)))
     go_ret
     exact ⟨ER, K1 HB aB.out⟩
    ·rw [if_neg dO] at H
     have c25b0 : decide (aO < 0) = false := decide_eq_false dO
     clear dO
     replace H := bm H
     obtain ⟨aR, fL, H⟩ := H
     replace H : (if aR < 0 then (some (-1)) else (some aR)) = some r := H
     have qF := Aside0.mk fL
     clear fL
     by_cases dP : aR < 0
     ·rw [if_pos dP] at H
      have c36b0 : decide (aR < 0) = true := decide_eq_true dP
      clear dP
      obtain rfl := sj H
      go_enter Tryz.func4, Tryz.ntmps4
      go_wp2_with (first | ((with_reducible refine gate_dst (N := 2) rfl ?_); refine box_event rfl (N := 2) rfl (cs := #[.int .i64 aS, .slice bI aH.length bJ, .int .i64 aT, .slice bK aI.length bL, .slice bM aJ.length bN, .slice bO aK.length bP, .int .i64 aU, .slice bQ aP.length bR, .int .i64 aV, .slice bS aQ.length bT, .slice aW aC.length aX, .slice aY aD.length aZ, .slice bA aE.length bB, .slice bC aF.length bD, .slice bG aG.length bH]) (t := 32) BX ?_; intro cM hg qR bE hb; have aA := am (bE); have bF := am (GH HB hg); have aB := bF; replace HB := bl (KL HB) hb; clear hb bE hg; have ⟨_, _, _, _, _, _, _, _, _, _, _, _, _, _, _, _⟩ := y15 qR aA.out) | ((with_reducible refine gate_callee (f := 9) rfl ?_); refine goesL_ (some 8) rfl rfl Tryz.func9 (by kernel_rfl) rfl #[.agg #[.int .i64 aS, .slice bI aH.length bJ, .int .i64 aT, .slice bK aI.length bL, .slice bM aJ.length bN, .slice bO aK.length bP], .int .i64 a1] rfl MT ?_; (with_reducible refine (laws_szGate.calls k aS _ _ aH aT _ _ aI _ _ aJ _ _ aK a1 aL _ ?_ ?_ ?_ ?_ ?_ ?_ ?_ ?_ A3.out).mono ?_); exact KD bY HB; exact bZ.out; exact KD cA HB; exact cB.out; exact KD cC HB; exact cD.out; exact KD cE HB; exact cF.out; rintro e qS ⟨rfl, hb⟩; refine ⟨_, rfl, ?_⟩; replace aA := am (BB aA hb); replace HB := bl (K1 HB aB.out) hb; (try clear hb); have ⟨_, _, _, _, _, _, _, _, _, _, _, _, _, _, _, _⟩ := y15 qS aA.out) | ((with_reducible refine gate_callee (f := 9) rfl ?_); refine goesL_ (some 14) rfl rfl Tryz.func9 (by kernel_rfl) rfl #[.agg #[.int .i64 aU, .slice bQ aP.length bR, .int .i64 aV, .slice bS aQ.length bT, .slice aW aC.length aX, .slice aY aD.length aZ], .int .i64 aL] rfl MT ?_; (with_reducible refine (laws_szGate.calls k aU _ _ aP aV _ _ aQ _ _ aC _ _ aD aL aM _ ?_ ?_ ?_ ?_ ?_ ?_ ?_ ?_ A8.out).mono ?_); exact KD cI HB; exact cJ.out; exact KD cK HB; exact cL.out; exact KD bU HB; exact bV.out; exact KD bW HB; exact bX.out; rintro e qT ⟨rfl, hb⟩; refine ⟨_, rfl, ?_⟩; replace aA := am (BB aA hb); replace HB := bl (K1 HB aB.out) hb; (try clear hb); have ⟨_, _, _, _, _, _, _, _, _, _, _, _, _, _, _, _⟩ := y15 qT aA.out) | ((with_reducible refine gate_callee (f := 10) rfl ?_); refine goesL_ (some 20) rfl rfl Tryz.func10 (by kernel_rfl) rfl #[.slice bA aE.length bB, .int .i64 aM] rfl MT ?_; (with_reducible refine (laws_szAirS.calls k _ _ aE aM aN _ ?_ ?_ iL.out).mono ?_); exact KD cG HB; exact cH.out; rintro e qU ⟨rfl, hb⟩; refine ⟨_, rfl, ?_⟩; replace aA := am (BB aA hb); replace HB := bl (K1 HB aB.out) hb; (try clear hb); have ⟨_, _, _, _, _, _, _, _, _, _, _, _, _, _, _, _⟩ := y15 qU aA.out) | ((with_reducible refine gate_callee (f := 11) rfl ?_); refine goesL_ (some 26) rfl rfl Tryz.func11 (by kernel_rfl) rfl #[.slice bC aF.length bD, .int .i64 aN] rfl MT ?_; (with_reducible refine (laws_szSentS.calls k _ _ aF aN aO _ ?_ ?_ qC.out).mono ?_); exact KD cN HB; exact cO.out; rintro e qV ⟨rfl, hb⟩; refine ⟨_, rfl, ?_⟩; replace aA := am (BB aA hb); replace HB := bl (K1 HB aB.out) hb; (try clear hb); have ⟨_, _, _, _, _, _, _, _, _, _, _, _, _, _, _, _⟩ := y15 qV aA.out) | ((with_reducible refine gate_callee (f := 11) rfl ?_); refine goesL_ (some 32) rfl rfl Tryz.func11 (by kernel_rfl) rfl #[.slice bG aG.length bH, .int .i64 aO] rfl MT ?_; (with_reducible refine (laws_szSentS.calls k _ _ aG aO aR _ ?_ ?_ qF.out).mono ?_); exact KD cZ HB; exact dA.out; rintro e rE ⟨rfl, hb⟩; refine ⟨_, rfl, ?_⟩; replace aA := am (BB aA hb); replace HB := bl (K1 HB aB.out) hb; (try clear hb)))
      go_ret
      exact ⟨ER, K1 HB aB.out⟩
     ·rw [if_neg dP] at H
      have c36b0 : decide (aR < 0) = false := decide_eq_false dP
      clear dP
      obtain rfl := sj H
      go_enter Tryz.func4, Tryz.ntmps4
      go_wp2_with (first | ((with_reducible refine gate_dst (N := 2) rfl ?_); refine box_event rfl (N := 2) rfl (cs := #[.int .i64 aS, .slice bI aH.length bJ, .int .i64 aT, .slice bK aI.length bL, .slice bM aJ.length bN, .slice bO aK.length bP, .int .i64 aU, .slice bQ aP.length bR, .int .i64 aV, .slice bS aQ.length bT, .slice aW aC.length aX, .slice aY aD.length aZ, .slice bA aE.length bB, .slice bC aF.length bD, .slice bG aG.length bH]) (t := 32) BX ?_; intro cM hg qW bE hb; have aA := am (bE); have bF := am (GH HB hg); have aB := bF; replace HB := bl (KL HB) hb; clear hb bE hg; have ⟨_, _, _, _, _, _, _, _, _, _, _, _, _, _, _, _⟩ := y15 qW aA.out) | ((with_reducible refine gate_callee (f := 9) rfl ?_); refine goesL_ (some 8) rfl rfl Tryz.func9 (by kernel_rfl) rfl #[.agg #[.int .i64 aS, .slice bI aH.length bJ, .int .i64 aT, .slice bK aI.length bL, .slice bM aJ.length bN, .slice bO aK.length bP], .int .i64 a1] rfl MT ?_; (with_reducible refine (laws_szGate.calls k aS _ _ aH aT _ _ aI _ _ aJ _ _ aK a1 aL _ ?_ ?_ ?_ ?_ ?_ ?_ ?_ ?_ A3.out).mono ?_); exact KD bY HB; exact bZ.out; exact KD cA HB; exact cB.out; exact KD cC HB; exact cD.out; exact KD cE HB; exact cF.out; rintro e qX ⟨rfl, hb⟩; refine ⟨_, rfl, ?_⟩; replace aA := am (BB aA hb); replace HB := bl (K1 HB aB.out) hb; (try clear hb); have ⟨_, _, _, _, _, _, _, _, _, _, _, _, _, _, _, _⟩ := y15 qX aA.out) | ((with_reducible refine gate_callee (f := 9) rfl ?_); refine goesL_ (some 14) rfl rfl Tryz.func9 (by kernel_rfl) rfl #[.agg #[.int .i64 aU, .slice bQ aP.length bR, .int .i64 aV, .slice bS aQ.length bT, .slice aW aC.length aX, .slice aY aD.length aZ], .int .i64 aL] rfl MT ?_; (with_reducible refine (laws_szGate.calls k aU _ _ aP aV _ _ aQ _ _ aC _ _ aD aL aM _ ?_ ?_ ?_ ?_ ?_ ?_ ?_ ?_ A8.out).mono ?_); exact KD cI HB; exact cJ.out; exact KD cK HB; exact cL.out; exact KD bU HB; exact bV.out; exact KD bW HB; exact bX.out; rintro e qY ⟨rfl, hb⟩; refine ⟨_, rfl, ?_⟩; replace aA := am (BB aA hb); replace HB := bl (K1 HB aB.out) hb; (try clear hb); have ⟨_, _, _, _, _, _, _, _, _, _, _, _, _, _, _, _⟩ := y15 qY aA.out) | ((with_reducible refine gate_callee (f := 10) rfl ?_); refine goesL_ (some 20) rfl rfl Tryz.func10 (by kernel_rfl) rfl #[.slice bA aE.length bB, .int .i64 aM] rfl MT ?_; (with_reducible refine (laws_szAirS.calls k _ _ aE aM aN _ ?_ ?_ iL.out).mono ?_); exact KD cG HB; exact cH.out; rintro e qZ ⟨rfl, hb⟩; refine ⟨_, rfl, ?_⟩; replace aA := am (BB aA hb); replace HB := bl (K1 HB aB.out) hb; (try clear hb); have ⟨_, _, _, _, _, _, _, _, _, _, _, _, _, _, _, _⟩ := y15 qZ aA.out) | ((with_reducible refine gate_callee (f := 11) rfl ?_); refine goesL_ (some 26) rfl rfl Tryz.func11 (by kernel_rfl) rfl #[.slice bC aF.length bD, .int .i64 aN] rfl MT ?_; (with_reducible refine (laws_szSentS.calls k _ _ aF aN aO _ ?_ ?_ qC.out).mono ?_); exact KD cN HB; exact cO.out; rintro e rA ⟨rfl, hb⟩; refine ⟨_, rfl, ?_⟩; replace aA := am (BB aA hb); replace HB := bl (K1 HB aB.out) hb; (try clear hb); have ⟨_, _, _, _, _, _, _, _, _, _, _, _, _, _, _, _⟩ := y15 rA aA.out) | ((with_reducible refine gate_callee (f := 11) rfl ?_); refine goesL_ (some 32) rfl rfl Tryz.func11 (by kernel_rfl) rfl #[.slice bG aG.length bH, .int .i64 aO] rfl MT ?_; (with_reducible refine (laws_szSentS.calls k _ _ aG aO aR _ ?_ ?_ qF.out).mono ?_); exact KD cZ HB; exact dA.out; rintro e rF ⟨rfl, hb⟩; refine ⟨_, rfl, ?_⟩; replace aA := am (BB aA hb); replace HB := bl (K1 HB aB.out) hb; (try clear hb)))
      go_ret
      exact ⟨ER, K1 HB aB.out⟩
theorem eqA53 (d : Nat) (w : World) (x0 y0 : Int) (x1 y1 : Int) (x2 y2 : Int) (x3 y3 : ByteArray) :
  (Op.equalIn (d + 2) 53 (.agg #[.int .i64 x0, .int .i64 x1, .int .i64 x2, .string x3]) (.agg #[.int .i64 y0, .int .i64 y1, .int .i64 y2, .string y3])).run Tryz.prog w = .ok (x0 == y0 && (x1 == y1 && (x2 == y2 && (x3.toList == y3.toList)))) w := by
 refine eqA_of Tryz.underlying53 (by kernel_rfl) ?_
 refine eqf_cons (by rfl) (by go_simp; rfl) (by go_simp; rfl) (by go_simp) ?_
 refine eqf_cons (by rfl) (by go_simp; rfl) (by go_simp; rfl) (by go_simp) ?_
 refine eqf_cons (by rfl) (by go_simp; rfl) (by go_simp; rfl) (by go_simp) ?_
 exact eqf_last (by rfl) (by go_simp; rfl) (by go_simp; rfl) (by go_simp)
theorem eqA55 (d : Nat) (w : World) (x0 y0 : Int) (x1 y1 : Int) (x2 y2 : Int) (x3 y3 : ByteArray) (x4 y4 : Int) (x5 y5 : Int) (x6 y6 : Int) :
  (Op.equalIn (d + 3) 55 (.agg #[.int .i64 x0, .int .i64 x1, .int .i64 x2, .string x3, .int .i64 x4, .int .i64 x5, .int .i64 x6]) (.agg #[.int .i64 y0, .int .i64 y1, .int .i64 y2, .string y3, .int .i64 y4, .int .i64 y5, .int .i64 y6])).run Tryz.prog w = .ok ((x0 == y0 && (x1 == y1 && (x2 == y2 && (x3.toList == y3.toList)))) && (x4 == y4 && (x5 == y5 && (x6 == y6)))) w := by
 refine eqA_of Tryz.underlying55 (by kernel_rfl) ?_
 refine eqf_cons (by rfl) (by go_simp) (by go_simp) (eqA53 (d + 0) w _ _ _ _ _ _ _ _) ?_
 refine eqf_cons (by rfl) (by go_simp; rfl) (by go_simp; rfl) (by go_simp) ?_
 refine eqf_cons (by rfl) (by go_simp; rfl) (by go_simp; rfl) (by go_simp) ?_
 exact eqf_last (by rfl) (by go_simp; rfl) (by go_simp; rfl) (by go_simp)
theorem eqA126 (d : Nat) (w : World) (x0 y0 : Int) (x1 y1 : Int) (x2 y2 : Int) :
  (Op.equalIn (d + 2) 126 (.agg #[.int .i64 x0, .int .i64 x1, .int .i64 x2]) (.agg #[.int .i64 y0, .int .i64 y1, .int .i64 y2])).run Tryz.prog w = .ok (x0 == y0 && (x1 == y1 && (x2 == y2))) w := by
 refine eqA_of Tryz.underlying126 (by kernel_rfl) ?_
 refine eqf_cons (by rfl) (by go_simp; rfl) (by go_simp; rfl) (by go_simp) ?_
 refine eqf_cons (by rfl) (by go_simp; rfl) (by go_simp; rfl) (by go_simp) ?_
 exact eqf_last (by rfl) (by go_simp; rfl) (by go_simp; rfl) (by go_simp)
def spec_l1Two.l0 : Nat → Int → Int → Option (Int)
 | 0, _, _ => none
 | k + 1, x0, x3 => if x0 > 0 then (spec_l1Two.l0 k (wrap64 (x0 - 1)) (wrap64 (x3 * 2))) else (some x3)
def spec_l1Two.f (k : Nat) (a0 : Int) : Option (Int) := spec_l1Two.l0 k a0 1
theorem spec_l1Two.calls (k : Nat) (a0 : Int) (r : Int) (w : World) (h : spec_l1Two.f k a0 = some r) :
  Calls Tryz.prog 104 #[.int .i64 a0] w fun e w' => e = .returned (.int .i64 r) ∧ Drawn0 w w' := by
 have H : (spec_l1Two.l0 k a0 1) = some r := h
 clear h
 have H' := Aside0.mk H
 clear H
 go_enter Tryz.func104, Tryz.ntmps104
 go_wp2
 go_loopg [0, 3] k (fun kq v0 v3 w' => ∃ (aA : Int) (aB : Int), v0 = .int .i64 aA ∧ v3 = .int .i64 aB ∧ Aside0 (spec_l1Two.l0 kq aA aB = some r) ∧ Aside0 (kq ≤ k) ∧ Drawn0 w w')
 case atStart => exact ⟨(a0), (1), (by first | rfl | (simp; done) | (simp [*]; done)), (by first | rfl | (simp; done) | (simp [*]; done)), H', ⟨Nat.le_refl _⟩, by repeat (first | exact Drawn0.refl _ | apply Drawn0.step)⟩
 case round =>
  clear H'
  try clear c1
  obtain ⟨aA, aB, rfl, rfl, HA, HK1, ⟨m1, rfl⟩⟩ := hrel
  cases gk with
  | zero => exact absurd HA.out (by simp [spec_l1Two.l0])
  | succ k1 =>
   have H := HA.out
   clear HA
   simp only [spec_l1Two.l0] at H
   by_cases c2 : aA > 0
   ·rw [if_pos c2] at H
    have c2b0 : decide (0 < aA) = true := decide_eq_true c2
    clear c2
    have H' := Aside0.mk H
    clear H
    go_wp2
    go_roundg k1
    case measure => have := HK1.out; omega
    case rel => exact ⟨(wrap64 (aA - 1)), (wrap64 (aB * 2)), (by first | rfl | (simp; done) | (simp [*]; done)), (by first | rfl | (simp; done) | (simp [*]; done)), H', ⟨by have := HK1.out; omega⟩, by repeat (first | exact Drawn0.refl _ | apply Drawn0.step)⟩
   ·rw [if_neg c2] at H
    have c2b0 : decide (0 < aA) = false := decide_eq_false c2
    clear c2
    obtain rfl := sj H
    go_wp2
    go_ret
    exact ⟨by first | rfl | (simp; done) | (simp [*]; done), by repeat (first | exact Drawn0.refl _ | apply Drawn0.step)⟩
def spec_l1Size.f (k : Nat) (a0 : Int) : Option (Int) := (spec_l1Two.f k (wrap64 (32 - a0))).bind fun t101 => (some t101)
theorem spec_l1Size.calls (k : Nat) (a0 : Int) (r : Int) (w : World) (h : spec_l1Size.f k a0 = some r) :
  Calls Tryz.prog 101 #[.int .i64 a0] w fun e w' => e = .returned (.int .i64 r) ∧ Drawn0 w w' := by
 have H : ((spec_l1Two.f k (wrap64 (32 - a0))).bind fun aA => (some aA)) = some r := h
 clear h
 replace H := bm H
 obtain ⟨aA, aB, H⟩ := H
 replace H : (some aA) = some r := H
 have A2 := Aside0.mk aB
 clear aB
 obtain rfl := sj H
 go_enter Tryz.func101, Tryz.ntmps101
 go_wp2_with (first | ((with_reducible refine gate_callee (f := 104) rfl ?_); refine goesL_ (some 5) rfl rfl Tryz.func104 (by kernel_rfl) rfl #[.int .i64 (wrap64 (32 - a0))] rfl MT ?_; (with_reducible refine (spec_l1Two.calls k (wrap64 (32 - a0)) aA _ A2.out).mono ?_); rintro e w' ⟨rfl, ⟨nd, rfl⟩⟩; refine ⟨_, rfl, ?_⟩))
 go_ret
 exact ⟨by first | rfl | (simp; done) | (simp [*]; done), by repeat (first | exact Drawn0.refl _ | apply Drawn0.step)⟩
def spec_l1Addr.f (a0 : Int) : Option (Bool) := (spec_l1In.f a0 0 4294967295).bind fun t101 => (some t101)
theorem spec_l1Addr.calls (a0 : Int) (r : Bool) (w : World) (h : spec_l1Addr.f a0 = some r) :
  Calls Tryz.prog 81 #[.int .i64 a0] w fun e w' => e = .returned (.bool r) ∧ Drawn0 w w' := by
 have H : ((spec_l1In.f a0 0 4294967295).bind fun aA => (some aA)) = some r := h
 clear h
 replace H := bm H
 obtain ⟨aA, aB, H⟩ := H
 replace H : (some aA) = some r := H
 have A2 := Aside0.mk aB
 clear aB
 obtain rfl := sj H
 go_enter Tryz.func81, Tryz.ntmps81
 go_wp2_with (first | ((with_reducible refine gate_callee (f := 44) rfl ?_); refine goesL_ (some 4) rfl rfl Tryz.func44 (by kernel_rfl) rfl #[.int .i64 a0, .int .i64 0, .int .i64 4294967295] rfl MT ?_; (with_reducible refine (spec_l1In.calls a0 0 4294967295 aA _ A2.out).mono ?_); rintro e w' ⟨rfl, ⟨nd, rfl⟩⟩; refine ⟨_, rfl, ?_⟩))
 go_ret
 exact ⟨by first | rfl | (simp; done) | (simp [*]; done), by repeat (first | exact Drawn0.refl _ | apply Drawn0.step)⟩
def spec_BlockOk.f (k : Nat) (a0_0 : Int) (a0_1 : Int) : Option (Bool) := (spec_l1Addr.f a0_0).bind fun t102 => (if t102 = true then ((spec_l1In.f a0_1 0 32).bind fun t103 => (if t103 = true then ((spec_l1Size.f k a0_1).bind fun t104 => (if t104 = 0 then (none) else (some ((Int.tmod a0_0 t104) == 0)))) else (some false))) else (some false))
theorem spec_BlockOk.calls (k : Nat) (aD : Int) (aE : Int) (r : Bool) (w : World) (h : spec_BlockOk.f k aD aE = some r) :
  Calls Tryz.prog 97 #[.agg #[.int .i64 aD, .int .i64 aE]] w fun e w' => e = .returned (.bool r) ∧ Below w.heap.size w w' := by
 have aV := Tryz.underlying105
 have HB := am (Below.refl w.heap.size w)
 have H : ((spec_l1Addr.f aD).bind fun aS => (if aS = true then ((spec_l1In.f aE 0 32).bind fun aO => (if aO = true then ((spec_l1Size.f k aE).bind fun aF => (if aF = 0 then (none) else (some ((Int.tmod aD aF) == 0)))) else (some false))) else (some false))) = some r := h
 clear h
 replace H := bm H
 obtain ⟨aS, aW, H⟩ := H
 replace H : (if aS = true then ((spec_l1In.f aE 0 32).bind fun aO => (if aO = true then ((spec_l1Size.f k aE).bind fun aF => (if aF = 0 then (none) else (some ((Int.tmod aD aF) == 0)))) else (some false))) else (some false)) = some r := H
 have A2 := Aside0.mk aW
 clear aW
 by_cases c3 : aS = true
 ·subst c3
  have H1 := pf H
  clear H
  have H := H1
  clear H1
  replace H := bm H
  obtain ⟨aO, aX, H⟩ := H
  replace H : (if aO = true then ((spec_l1Size.f k aE).bind fun aF => (if aF = 0 then (none) else (some ((Int.tmod aD aF) == 0)))) else (some false)) = some r := H
  have A4 := Aside0.mk aX
  clear aX
  by_cases c5 : aO = true
  ·subst c5
   have H1 := pf H
   clear H
   have H := H1
   clear H1
   replace H := bm H
   obtain ⟨aF, aY, H⟩ := H
   replace H : (if aF = 0 then (none) else (some ((Int.tmod aD aF) == 0))) = some r := H
   have A6 := Aside0.mk aY
   clear aY
   by_cases c7 : aF = 0
   ·rw [if_pos c7] at H
    exact absurd H (by simp)
   ·rw [if_neg c7] at H
    have c7b0 : (aF == 0) = false := beq_eq_false_iff_ne.mpr c7
    have c7b1 : (aF != 0) = true := bne_iff_ne.mpr c7
    obtain rfl := sj H
    go_enter Tryz.func97, Tryz.ntmps97
    go_wp2_with (first | ((with_reducible refine gate_dst (N := 1) rfl ?_); refine box_event rfl (N := 1) rfl (cs := #[.int .i64 aD, .int .i64 aE]) (t := 105) BX ?_; intro aH hg w8 aA hb; have aB := am (aA); have aC := am (GH HB hg); have aG := aC; replace HB := bl (KL HB) hb; clear hb aA hg; obtain ⟨aP, aQ, aR⟩ := y2 w8 aB.out) | (go_at_call 81; (with_reducible refine (spec_l1Addr.calls aD true _ A2.out).mono ?_); rintro e w' ⟨rfl, ⟨nd, rfl⟩⟩; (try first | exact ⟨rfl, _, World.drewN_drewN _ _ _⟩ | exact ⟨rfl, _, Eq.trans (World.drewN_drewN _ _ _) (congrArg (World.drewN _) (Nat.add_assoc _ _ _))⟩)) | (go_at_call 44; (with_reducible refine (spec_l1In.calls aE 0 32 true _ A4.out).mono ?_); rintro e w' ⟨rfl, ⟨nd, rfl⟩⟩; (try first | exact ⟨rfl, _, World.drewN_drewN _ _ _⟩ | exact ⟨rfl, _, Eq.trans (World.drewN_drewN _ _ _) (congrArg (World.drewN _) (Nat.add_assoc _ _ _))⟩)) | (go_at_call 101; (with_reducible refine (spec_l1Size.calls k aE aF _ A6.out).mono ?_); rintro e w' ⟨rfl, ⟨nd, rfl⟩⟩; (try first | exact ⟨rfl, _, World.drewN_drewN _ _ _⟩ | exact ⟨rfl, _, Eq.trans (World.drewN_drewN _ _ _) (congrArg (World.drewN _) (Nat.add_assoc _ _ _))⟩)))
    repeat (go_quiet (first | ((with_reducible refine gate_dst (N := 1) rfl ?_); refine box_event rfl (N := 1) rfl (cs := #[.int .i64 aD, .int .i64 aE]) (t := 105) BX ?_; intro aH hg w8 aA hb; have aB := am (aA); have aC := am (GH HB hg); have aG := aC; replace HB := bl (KL HB) hb; clear hb aA hg; obtain ⟨aP, aQ, aR⟩ := y2 w8 aB.out) | (go_at_call 81; (with_reducible refine (spec_l1Addr.calls aD true _ A2.out).mono ?_); rintro e w' ⟨rfl, ⟨nd, rfl⟩⟩; (try first | exact ⟨rfl, _, World.drewN_drewN _ _ _⟩ | exact ⟨rfl, _, Eq.trans (World.drewN_drewN _ _ _) (congrArg (World.drewN _) (Nat.add_assoc _ _ _))⟩)) | (go_at_call 44; (with_reducible refine (spec_l1In.calls aE 0 32 true _ A4.out).mono ?_); rintro e w' ⟨rfl, ⟨nd, rfl⟩⟩; (try first | exact ⟨rfl, _, World.drewN_drewN _ _ _⟩ | exact ⟨rfl, _, Eq.trans (World.drewN_drewN _ _ _) (congrArg (World.drewN _) (Nat.add_assoc _ _ _))⟩)) | (go_at_call 101; (with_reducible refine (spec_l1Size.calls k aE aF _ A6.out).mono ?_); rintro e w' ⟨rfl, ⟨nd, rfl⟩⟩; (try first | exact ⟨rfl, _, World.drewN_drewN _ _ _⟩ | exact ⟨rfl, _, Eq.trans (World.drewN_drewN _ _ _) (congrArg (World.drewN _) (Nat.add_assoc _ _ _))⟩))); try go_wp2_with (first | ((with_reducible refine gate_dst (N := 1) rfl ?_); refine box_event rfl (N := 1) rfl (cs := #[.int .i64 aD, .int .i64 aE]) (t := 105) BX ?_; intro aH hg w8 aA hb; have aB := am (aA); have aC := am (GH HB hg); have aG := aC; replace HB := bl (KL HB) hb; clear hb aA hg; obtain ⟨aP, aQ, aR⟩ := y2 w8 aB.out) | (go_at_call 81; (with_reducible refine (spec_l1Addr.calls aD true _ A2.out).mono ?_); rintro e w' ⟨rfl, ⟨nd, rfl⟩⟩; (try first | exact ⟨rfl, _, World.drewN_drewN _ _ _⟩ | exact ⟨rfl, _, Eq.trans (World.drewN_drewN _ _ _) (congrArg (World.drewN _) (Nat.add_assoc _ _ _))⟩)) | (go_at_call 44; (with_reducible refine (spec_l1In.calls aE 0 32 true _ A4.out).mono ?_); rintro e w' ⟨rfl, ⟨nd, rfl⟩⟩; (try first | exact ⟨rfl, _, World.drewN_drewN _ _ _⟩ | exact ⟨rfl, _, Eq.trans (World.drewN_drewN _ _ _) (congrArg (World.drewN _) (Nat.add_assoc _ _ _))⟩)) | (go_at_call 101; (with_reducible refine (spec_l1Size.calls k aE aF _ A6.out).mono ?_); rintro e w' ⟨rfl, ⟨nd, rfl⟩⟩; (try first | exact ⟨rfl, _, World.drewN_drewN _ _ _⟩ | exact ⟨rfl, _, Eq.trans (World.drewN_drewN _ _ _) (congrArg (World.drewN _) (Nat.add_assoc _ _ _))⟩))))
    go_ret
    exact ⟨ER, K1 HB aG.out⟩
  ·replace c5 := Bool.eq_false_iff.mpr c5
   subst c5
   have H1 := nf H
   clear H
   have H := H1
   clear H1
   obtain rfl := sj H
   go_enter Tryz.func97, Tryz.ntmps97
   go_wp2_with (first | ((with_reducible refine gate_dst (N := 1) rfl ?_); refine box_event rfl (N := 1) rfl (cs := #[.int .i64 aD, .int .i64 aE]) (t := 105) BX ?_; intro aH hg aT aA hb; have aB := am (aA); have aC := am (GH HB hg); have aG := aC; replace HB := bl (KL HB) hb; clear hb aA hg; obtain ⟨aI, aJ, aK⟩ := y2 aT aB.out) | (go_at_call 81; (with_reducible refine (spec_l1Addr.calls aD true _ A2.out).mono ?_); rintro e w' ⟨rfl, ⟨nd, rfl⟩⟩; (try first | exact ⟨rfl, _, World.drewN_drewN _ _ _⟩ | exact ⟨rfl, _, Eq.trans (World.drewN_drewN _ _ _) (congrArg (World.drewN _) (Nat.add_assoc _ _ _))⟩)) | (go_at_call 44; (with_reducible refine (spec_l1In.calls aE 0 32 false _ A4.out).mono ?_); rintro e w' ⟨rfl, ⟨nd, rfl⟩⟩; (try first | exact ⟨rfl, _, World.drewN_drewN _ _ _⟩ | exact ⟨rfl, _, Eq.trans (World.drewN_drewN _ _ _) (congrArg (World.drewN _) (Nat.add_assoc _ _ _))⟩)))
   repeat (go_quiet (first | ((with_reducible refine gate_dst (N := 1) rfl ?_); refine box_event rfl (N := 1) rfl (cs := #[.int .i64 aD, .int .i64 aE]) (t := 105) BX ?_; intro aH hg aT aA hb; have aB := am (aA); have aC := am (GH HB hg); have aG := aC; replace HB := bl (KL HB) hb; clear hb aA hg; obtain ⟨aI, aJ, aK⟩ := y2 aT aB.out) | (go_at_call 81; (with_reducible refine (spec_l1Addr.calls aD true _ A2.out).mono ?_); rintro e w' ⟨rfl, ⟨nd, rfl⟩⟩; (try first | exact ⟨rfl, _, World.drewN_drewN _ _ _⟩ | exact ⟨rfl, _, Eq.trans (World.drewN_drewN _ _ _) (congrArg (World.drewN _) (Nat.add_assoc _ _ _))⟩)) | (go_at_call 44; (with_reducible refine (spec_l1In.calls aE 0 32 false _ A4.out).mono ?_); rintro e w' ⟨rfl, ⟨nd, rfl⟩⟩; (try first | exact ⟨rfl, _, World.drewN_drewN _ _ _⟩ | exact ⟨rfl, _, Eq.trans (World.drewN_drewN _ _ _) (congrArg (World.drewN _) (Nat.add_assoc _ _ _))⟩))); try go_wp2_with (first | ((with_reducible refine gate_dst (N := 1) rfl ?_); refine box_event rfl (N := 1) rfl (cs := #[.int .i64 aD, .int .i64 aE]) (t := 105) BX ?_; intro aH hg aT aA hb; have aB := am (aA); have aC := am (GH HB hg); have aG := aC; replace HB := bl (KL HB) hb; clear hb aA hg; obtain ⟨aI, aJ, aK⟩ := y2 aT aB.out) | (go_at_call 81; (with_reducible refine (spec_l1Addr.calls aD true _ A2.out).mono ?_); rintro e w' ⟨rfl, ⟨nd, rfl⟩⟩; (try first | exact ⟨rfl, _, World.drewN_drewN _ _ _⟩ | exact ⟨rfl, _, Eq.trans (World.drewN_drewN _ _ _) (congrArg (World.drewN _) (Nat.add_assoc _ _ _))⟩)) | (go_at_call 44; (with_reducible refine (spec_l1In.calls aE 0 32 false _ A4.out).mono ?_); rintro e w' ⟨rfl, ⟨nd, rfl⟩⟩; (try first | exact ⟨rfl, _, World.drewN_drewN _ _ _⟩ | exact ⟨rfl, _, Eq.trans (World.drewN_drewN _ _ _) (congrArg (World.drewN _) (Nat.add_assoc _ _ _))⟩))))
   go_ret
   exact ⟨ER, K1 HB aG.out⟩
 ·replace c3 := Bool.eq_false_iff.mpr c3
  subst c3
  have H1 := nf H
  clear H
  have H := H1
  clear H1
  obtain rfl := sj H
  go_enter Tryz.func97, Tryz.ntmps97
  go_wp2_with (first | ((with_reducible refine gate_dst (N := 1) rfl ?_); refine box_event rfl (N := 1) rfl (cs := #[.int .i64 aD, .int .i64 aE]) (t := 105) BX ?_; intro aH hg aU aA hb; have aB := am (aA); have aC := am (GH HB hg); have aG := aC; replace HB := bl (KL HB) hb; clear hb aA hg; obtain ⟨aL, aM, aN⟩ := y2 aU aB.out) | (go_at_call 81; (with_reducible refine (spec_l1Addr.calls aD false _ A2.out).mono ?_); rintro e w' ⟨rfl, ⟨nd, rfl⟩⟩; (try first | exact ⟨rfl, _, World.drewN_drewN _ _ _⟩ | exact ⟨rfl, _, Eq.trans (World.drewN_drewN _ _ _) (congrArg (World.drewN _) (Nat.add_assoc _ _ _))⟩)))
  repeat (go_quiet (first | ((with_reducible refine gate_dst (N := 1) rfl ?_); refine box_event rfl (N := 1) rfl (cs := #[.int .i64 aD, .int .i64 aE]) (t := 105) BX ?_; intro aH hg aU aA hb; have aB := am (aA); have aC := am (GH HB hg); have aG := aC; replace HB := bl (KL HB) hb; clear hb aA hg; obtain ⟨aL, aM, aN⟩ := y2 aU aB.out) | (go_at_call 81; (with_reducible refine (spec_l1Addr.calls aD false _ A2.out).mono ?_); rintro e w' ⟨rfl, ⟨nd, rfl⟩⟩; (try first | exact ⟨rfl, _, World.drewN_drewN _ _ _⟩ | exact ⟨rfl, _, Eq.trans (World.drewN_drewN _ _ _) (congrArg (World.drewN _) (Nat.add_assoc _ _ _))⟩))); try go_wp2_with (first | ((with_reducible refine gate_dst (N := 1) rfl ?_); refine box_event rfl (N := 1) rfl (cs := #[.int .i64 aD, .int .i64 aE]) (t := 105) BX ?_; intro aH hg aU aA hb; have aB := am (aA); have aC := am (GH HB hg); have aG := aC; replace HB := bl (KL HB) hb; clear hb aA hg; obtain ⟨aL, aM, aN⟩ := y2 aU aB.out) | (go_at_call 81; (with_reducible refine (spec_l1Addr.calls aD false _ A2.out).mono ?_); rintro e w' ⟨rfl, ⟨nd, rfl⟩⟩; (try first | exact ⟨rfl, _, World.drewN_drewN _ _ _⟩ | exact ⟨rfl, _, Eq.trans (World.drewN_drewN _ _ _) (congrArg (World.drewN _) (Nat.add_assoc _ _ _))⟩))))
  go_ret
  exact ⟨ER, K1 HB aG.out⟩
def spec_l4Ok.j0 : Nat → Bool → Int → Int → Int → Int → Int → Int → Int → Int → Option (Bool)
 | 0, _, _, _, _, _, _, _, _, _ => none
 | k + 1, x31, x102000, x102001, x102002, x102003, x102004, x102005, x102006, x102007 => if x31 = true then (some false) else (if x102000 = 2 then ((spec_l1In.f x102001 0 3).bind fun t106 => (some t106)) else (some (x102001 == 0)))
def spec_l4Ok.f (k : Nat) (a0_0 : Int) (a0_1 : Int) (a0_2 : Int) (a0_3 : Int) (a0_4 : Int) (a0_5 : Int) (a0_6 : Int) (a0_7 : Int) : Option (Bool) := (spec_BlockOk.f k a0_2 a0_3).bind fun t102 => (if t102 = true then ((spec_BlockOk.f k a0_4 a0_5).bind fun t103 => (if t103 = true then ((spec_l1In.f a0_6 0 a0_7).bind fun t104 => (if t104 = true then (if a0_7 > 65535 then (spec_l4Ok.j0 k true a0_0 a0_1 a0_2 a0_3 a0_4 a0_5 a0_6 a0_7) else ((spec_l1In.f a0_0 0 2).bind fun t105 => (spec_l4Ok.j0 k (!t105) a0_0 a0_1 a0_2 a0_3 a0_4 a0_5 a0_6 a0_7))) else (spec_l4Ok.j0 k true a0_0 a0_1 a0_2 a0_3 a0_4 a0_5 a0_6 a0_7))) else (spec_l4Ok.j0 k true a0_0 a0_1 a0_2 a0_3 a0_4 a0_5 a0_6 a0_7))) else (spec_l4Ok.j0 k true a0_0 a0_1 a0_2 a0_3 a0_4 a0_5 a0_6 a0_7))
theorem spec_l4Ok.calls (k : Nat) (aE : Int) (aJ : Int) (aC : Int) (aD : Int) (aF : Int) (aG : Int) (aH : Int) (aB : Int) (r : Bool) (w : World) (h : spec_l4Ok.f k aE aJ aC aD aF aG aH aB = some r) :
  Calls Tryz.prog 80 #[.agg #[.int .i64 aE, .int .i64 aJ, .int .i64 aC, .int .i64 aD, .int .i64 aF, .int .i64 aG, .int .i64 aH, .int .i64 aB]] w fun e w' => e = .returned (.bool r) ∧ Below w.heap.size w w' := by
 have fV := Tryz.underlying107
 have fW := Tryz.underlying105
 have HB := am (Below.refl w.heap.size w)
 have H : ((spec_BlockOk.f k aC aD).bind fun aO => (if aO = true then ((spec_BlockOk.f k aF aG).bind fun aN => (if aN = true then ((spec_l1In.f aH 0 aB).bind fun aL => (if aL = true then (if aB > 65535 then (spec_l4Ok.j0 k true aE aJ aC aD aF aG aH aB) else ((spec_l1In.f aE 0 2).bind fun aK => (spec_l4Ok.j0 k (!aK) aE aJ aC aD aF aG aH aB))) else (spec_l4Ok.j0 k true aE aJ aC aD aF aG aH aB))) else (spec_l4Ok.j0 k true aE aJ aC aD aF aG aH aB))) else (spec_l4Ok.j0 k true aE aJ aC aD aF aG aH aB))) = some r := h
 clear h
 have fU := Aside0.mk H
 clear H
 go_enter Tryz.func80, Tryz.ntmps80
 go_upto_region 1 with (first | ((with_reducible refine gate_dst (N := 1) rfl ?_); refine box_event rfl (N := 1) rfl (cs := #[.int .i64 aE, .int .i64 aJ, .int .i64 aC, .int .i64 aD, .int .i64 aF, .int .i64 aG, .int .i64 aH, .int .i64 aB]) (t := 107) BX ?_; intro eV hg w3 eW hb; have aA := am (eW); have eX := am (GH HB hg); have aI := eX; replace HB := bl (KL HB) hb; clear hb eW hg))
 (try simp only [Act.put, List.setIfInBounds_toArray, List.set_cons_zero, List.set_cons_succ])
 go_cut [31] (fun gA wc => ∃ (kq : Nat) (aM : Bool), gA = .bool aM ∧ Aside0 (spec_l4Ok.j0 kq aM aE aJ aC aD aF aG aH aB = some r) ∧ Aside0 (kq ≤ k) ∧ Aside0 (wc.heap[eV]? = some (.cells #[.int .i64 aE, .int .i64 aJ, .int .i64 aC, .int .i64 aD, .int .i64 aF, .int .i64 aG, .int .i64 aH, .int .i64 aB] 107 (0, 0))) ∧ Aside0 (Below w.heap.size w wc))
 case first =>
  have H := fU.out
  clear fU
  replace H := bm H
  obtain ⟨aO, fX, H⟩ := H
  replace H : (if aO = true then ((spec_BlockOk.f k aF aG).bind fun aN => (if aN = true then ((spec_l1In.f aH 0 aB).bind fun aL => (if aL = true then (if aB > 65535 then (spec_l4Ok.j0 k true aE aJ aC aD aF aG aH aB) else ((spec_l1In.f aE 0 2).bind fun aK => (spec_l4Ok.j0 k (!aK) aE aJ aC aD aF aG aH aB))) else (spec_l4Ok.j0 k true aE aJ aC aD aF aG aH aB))) else (spec_l4Ok.j0 k true aE aJ aC aD aF aG aH aB))) else (spec_l4Ok.j0 k true aE aJ aC aD aF aG aH aB)) = some r := H
  have A4 := Aside0.mk fX
  clear fX
  by_cases c5 : aO = true
  ·subst c5
   have H1 := pf H
   clear H
   have H := H1
   clear H1
   replace H := bm H
   obtain ⟨aN, fY, H⟩ := H
   replace H : (if aN = true then ((spec_l1In.f aH 0 aB).bind fun aL => (if aL = true then (if aB > 65535 then (spec_l4Ok.j0 k true aE aJ aC aD aF aG aH aB) else ((spec_l1In.f aE 0 2).bind fun aK => (spec_l4Ok.j0 k (!aK) aE aJ aC aD aF aG aH aB))) else (spec_l4Ok.j0 k true aE aJ aC aD aF aG aH aB))) else (spec_l4Ok.j0 k true aE aJ aC aD aF aG aH aB)) = some r := H
   have A6 := Aside0.mk fY
   clear fY
   by_cases c7 : aN = true
   ·subst c7
    have H1 := pf H
    clear H
    have H := H1
    clear H1
    replace H := bm H
    obtain ⟨aL, fZ, H⟩ := H
    replace H : (if aL = true then (if aB > 65535 then (spec_l4Ok.j0 k true aE aJ aC aD aF aG aH aB) else ((spec_l1In.f aE 0 2).bind fun aK => (spec_l4Ok.j0 k (!aK) aE aJ aC aD aF aG aH aB))) else (spec_l4Ok.j0 k true aE aJ aC aD aF aG aH aB)) = some r := H
    have A8 := Aside0.mk fZ
    clear fZ
    by_cases c9 : aL = true
    ·subst c9
     have H1 := pf H
     clear H
     have H := H1
     clear H1
     by_cases eT : aB > 65535
     ·rw [if_pos eT] at H
      have c10b0 : decide (65535 < aB) = true := decide_eq_true eT
      clear eT
      (first | rw [c10b0] | (simp only [i64_w, i32_w]; rw [c10b0]) | skip)
      have H' := Aside0.mk H
      clear H
      obtain ⟨aP, aQ, aR, aS, aT, aU, aV, aW, aX⟩ := y8 w3 aA.out
      go_wp2_with (first | ((with_reducible refine gate_callee (f := 97) rfl ?_); refine goesL_ (some 5) rfl rfl Tryz.func97 (by kernel_rfl) rfl #[.agg #[.int .i64 aC, .int .i64 aD]] rfl MT ?_; (with_reducible refine (spec_BlockOk.calls k aC aD true _ A4.out).mono ?_); rintro e gB ⟨rfl, hb⟩; refine ⟨_, rfl, ?_⟩; replace aA := am (BB aA hb); replace HB := bl (K1 HB aI.out) hb; (try clear hb); obtain ⟨aY, aZ, bA, bB, bC, bD, bE, bF, bG⟩ := y8 gB aA.out) | (go_at_call 97; (with_reducible refine (spec_BlockOk.calls k aF aG true _ A6.out).mono ?_); rintro e gC ⟨rfl, hb⟩; replace aA := am (BB aA hb); replace HB := bl (K1 HB aI.out) hb; (try clear hb); obtain ⟨bH, bI, bJ, bK, bL, bM, bN, bO, bP⟩ := y8 gC aA.out) | (go_at_call 44; (with_reducible refine (spec_l1In.calls aH 0 aB true _ A8.out).mono ?_); rintro e w' ⟨rfl, ⟨nd, rfl⟩⟩))
      go_meet
      case rel => exact ⟨_, (true), (by first | rfl | (simp; done) | (simp [*]; done)), H', ⟨by first | omega | exact Nat.le_refl _⟩, ⟨KB aA⟩, ⟨K1 HB aI.out⟩⟩
     ·rw [if_neg eT] at H
      have c10b0 : decide (65535 < aB) = false := decide_eq_false eT
      clear eT
      (first | rw [c10b0] | (simp only [i64_w, i32_w]; rw [c10b0]) | skip)
      replace H := bm H
      obtain ⟨aK, eY, H⟩ := H
      replace H : (spec_l4Ok.j0 k (!aK) aE aJ aC aD aF aG aH aB) = some r := H
      have gD := Aside0.mk eY
      clear eY
      have H' := Aside0.mk H
      clear H
      obtain ⟨bQ, bR, bS, bT, bU, bV, bW, bX, bY⟩ := y8 w3 aA.out
      go_wp2_with (first | ((with_reducible refine gate_callee (f := 97) rfl ?_); refine goesL_ (some 5) rfl rfl Tryz.func97 (by kernel_rfl) rfl #[.agg #[.int .i64 aC, .int .i64 aD]] rfl MT ?_; (with_reducible refine (spec_BlockOk.calls k aC aD true _ A4.out).mono ?_); rintro e gE ⟨rfl, hb⟩; refine ⟨_, rfl, ?_⟩; replace aA := am (BB aA hb); replace HB := bl (K1 HB aI.out) hb; (try clear hb); obtain ⟨bZ, cA, cB, cC, cD, cE, cF, cG, cH⟩ := y8 gE aA.out) | (go_at_call 97; (with_reducible refine (spec_BlockOk.calls k aF aG true _ A6.out).mono ?_); rintro e gF ⟨rfl, hb⟩; replace aA := am (BB aA hb); replace HB := bl (K1 HB aI.out) hb; (try clear hb); obtain ⟨cI, cJ, cK, cL, cM, cN, cO, cP, cQ⟩ := y8 gF aA.out) | (go_at_call 44; (with_reducible refine (spec_l1In.calls aH 0 aB true _ A8.out).mono ?_); rintro e w' ⟨rfl, ⟨nd, rfl⟩⟩) | (go_at_call 44; (with_reducible refine (spec_l1In.calls aE 0 2 aK _ gD.out).mono ?_); rintro e w' ⟨rfl, ⟨nd, rfl⟩⟩))
      go_meet
      case rel => exact ⟨_, (!aK), (by first | rfl | (simp; done) | (simp [*]; done)), H', ⟨by first | omega | exact Nat.le_refl _⟩, ⟨KB aA⟩, ⟨K1 HB aI.out⟩⟩
    ·replace c9 := Bool.eq_false_iff.mpr c9
     subst c9
     have H1 := nf H
     clear H
     have H := H1
     clear H1
     have H' := Aside0.mk H
     clear H
     obtain ⟨cR, cS, cT, cU, cV, cW, cX, cY, cZ⟩ := y8 w3 aA.out
     go_wp2_with (first | ((with_reducible refine gate_callee (f := 97) rfl ?_); refine goesL_ (some 5) rfl rfl Tryz.func97 (by kernel_rfl) rfl #[.agg #[.int .i64 aC, .int .i64 aD]] rfl MT ?_; (with_reducible refine (spec_BlockOk.calls k aC aD true _ A4.out).mono ?_); rintro e gG ⟨rfl, hb⟩; refine ⟨_, rfl, ?_⟩; replace aA := am (BB aA hb); replace HB := bl (K1 HB aI.out) hb; (try clear hb); obtain ⟨dA, dB, dC, dD, dE, dF, dG, dH, dI⟩ := y8 gG aA.out) | (go_at_call 97; (with_reducible refine (spec_BlockOk.calls k aF aG true _ A6.out).mono ?_); rintro e gH ⟨rfl, hb⟩; replace aA := am (BB aA hb); replace HB := bl (K1 HB aI.out) hb; (try clear hb); obtain ⟨dJ, dK, dL, dM, dN, dO, dP, dQ, dR⟩ := y8 gH aA.out) | (go_at_call 44; (with_reducible refine (spec_l1In.calls aH 0 aB false _ A8.out).mono ?_); rintro e w' ⟨rfl, ⟨nd, rfl⟩⟩))
     go_meet
     case rel => exact ⟨_, (true), (by first | rfl | (simp; done) | (simp [*]; done)), H', ⟨by first | omega | exact Nat.le_refl _⟩, ⟨KB aA⟩, ⟨K1 HB aI.out⟩⟩
   ·replace c7 := Bool.eq_false_iff.mpr c7
    subst c7
    have H1 := nf H
    clear H
    have H := H1
    clear H1
    have H' := Aside0.mk H
    clear H
    obtain ⟨dS, dT, dU, dV, dW, dX, dY, dZ, eA⟩ := y8 w3 aA.out
    go_wp2_with (first | ((with_reducible refine gate_callee (f := 97) rfl ?_); refine goesL_ (some 5) rfl rfl Tryz.func97 (by kernel_rfl) rfl #[.agg #[.int .i64 aC, .int .i64 aD]] rfl MT ?_; (with_reducible refine (spec_BlockOk.calls k aC aD true _ A4.out).mono ?_); rintro e gI ⟨rfl, hb⟩; refine ⟨_, rfl, ?_⟩; replace aA := am (BB aA hb); replace HB := bl (K1 HB aI.out) hb; (try clear hb); obtain ⟨eB, eC, eD, eE, eF, eG, eH, eI, eJ⟩ := y8 gI aA.out) | (go_at_call 97; (with_reducible refine (spec_BlockOk.calls k aF aG false _ A6.out).mono ?_); rintro e gK ⟨rfl, hb⟩; replace aA := am (BB aA hb); replace HB := bl (K1 HB aI.out) hb; (try clear hb)))
    go_meet
    case rel => exact ⟨_, (true), (by first | rfl | (simp; done) | (simp [*]; done)), H', ⟨by first | omega | exact Nat.le_refl _⟩, ⟨KB aA⟩, ⟨K1 HB aI.out⟩⟩
  ·replace c5 := Bool.eq_false_iff.mpr c5
   subst c5
   have H1 := nf H
   clear H
   have H := H1
   clear H1
   have H' := Aside0.mk H
   clear H
   obtain ⟨eK, eL, eM, eN, eO, eP, eQ, eR, eS⟩ := y8 w3 aA.out
   go_wp2_with (first | ((with_reducible refine gate_callee (f := 97) rfl ?_); refine goesL_ (some 5) rfl rfl Tryz.func97 (by kernel_rfl) rfl #[.agg #[.int .i64 aC, .int .i64 aD]] rfl MT ?_; (with_reducible refine (spec_BlockOk.calls k aC aD false _ A4.out).mono ?_); rintro e gL ⟨rfl, hb⟩; refine ⟨_, rfl, ?_⟩; replace aA := am (BB aA hb); replace HB := bl (K1 HB aI.out) hb; (try clear hb)))
   go_meet
   case rel => exact ⟨_, (true), (by first | rfl | (simp; done) | (simp [*]; done)), H', ⟨by first | omega | exact Nat.le_refl _⟩, ⟨KB aA⟩, ⟨K1 HB aI.out⟩⟩
 case rest =>
  clear fU
  try clear c1
  try clear p2
  try clear c5
  try clear c7
  try clear c8
  try clear c9
  try clear eT
  try clear c10b0
  try clear aP aQ aR aS aT aU aV aW aX
  try clear aY aZ bA bB bC bD bE bF bG
  try clear bH bI bJ bK bL bM bN bO bP
  try clear bQ bR bS bT bU bV bW bX bY
  try clear bZ cA cB cC cD cE cF cG cH
  try clear cI cJ cK cL cM cN cO cP cQ
  try clear cR cS cT cU cV cW cX cY cZ
  try clear dA dB dC dD dE dF dG dH dI
  try clear dJ dK dL dM dN dO dP dQ dR
  try clear dS dT dU dV dW dX dY dZ eA
  try clear eB eC eD eE eF eG eH eI eJ
  try clear eK eL eM eN eO eP eQ eR eS
  obtain ⟨kq, aM, rfl, HA, HJ1, aA, HB⟩ := hcut
  cases kq with
  | zero => exact absurd HA.out (by simp [spec_l4Ok.j0])
  | succ kj1 =>
   have H := HA.out
   clear HA
   simp only [spec_l4Ok.j0] at H
   by_cases fB : aM = true
   ·subst fB
    have H1 := pf H
    clear H
    have H := H1
    clear H1
    obtain rfl := sj H
    go_wp2
    go_ret
    exact ⟨ER, K1 HB aI.out⟩
   ·replace fB := Bool.eq_false_iff.mpr fB
    subst fB
    have H1 := nf H
    clear H
    have H := H1
    clear H1
    by_cases eU : aE = 2
    ·rw [if_pos eU] at H
     have c34b0 : (aE == 2) = true := beq_iff_eq.mpr eU
     have c34b1 : (aE != 2) = false := bne_eq_false_iff_eq.mpr eU
     clear eU
     replace H := bm H
     obtain ⟨eZ, fA, H⟩ := H
     replace H : (some eZ) = some r := H
     have gJ := Aside0.mk fA
     clear fA
     obtain rfl := sj H
     have ⟨_, _, _, _, _, _, _, _, _⟩ := y8 wc aA.out
     go_wp2_with (first | ((with_reducible refine gate_callee (f := 44) rfl ?_); refine goesL_ (some 37) rfl rfl Tryz.func44 (by kernel_rfl) rfl #[.int .i64 aJ, .int .i64 0, .int .i64 3] rfl MT ?_; (with_reducible refine (spec_l1In.calls aJ 0 3 eZ _ gJ.out).mono ?_); rintro e w' ⟨rfl, ⟨nd, rfl⟩⟩; refine ⟨_, rfl, ?_⟩))
     go_ret
     exact ⟨ER, K1 HB aI.out⟩
    ·rw [if_neg eU] at H
     have c34b0 : (aE == 2) = false := beq_eq_false_iff_ne.mpr eU
     have c34b1 : (aE != 2) = true := bne_iff_ne.mpr eU
     obtain rfl := sj H
     have ⟨_, _, _, _, _, _, _, _, _⟩ := y8 wc aA.out
     go_wp2
     go_ret
     exact ⟨ER, K1 HB aI.out⟩
def spec_RulesOk.l0 : Nat → List (S107) → Int → Option (Bool)
 | 0, _, _ => none
 | k + 1, x0, x3 => if x3 < (x0.length : Int) then (if 0 ≤ x3 then ((spec_l4Ok.f k ((rd_T107 x0 x3).f0) ((rd_T107 x0 x3).f1) ((rd_T107 x0 x3).f2.f0) ((rd_T107 x0 x3).f2.f1) ((rd_T107 x0 x3).f3.f0) ((rd_T107 x0 x3).f3.f1) ((rd_T107 x0 x3).f4) ((rd_T107 x0 x3).f5)).bind fun t102 => (if t102 = true then (spec_RulesOk.l0 k x0 (wrap64 (x3 + 1))) else (some false))) else (none)) else (some (decide ((x0.length : Int) ≤ 8)))
def spec_RulesOk.f (k : Nat) (l0 : List (S107)) : Option (Bool) := spec_RulesOk.l0 k l0 0
theorem spec_RulesOk.calls (k : Nat) (A0 : Option Addr) (c0 : Nat) (l0 : List (S107)) (r : Bool) (w : World) (aO : Kd.C k107 w A0 l0.length l0) (aP : l0.length ≤ c0) (h : spec_RulesOk.f k l0 = some r) :
  Calls Tryz.prog 62 #[.slice A0 l0.length c0] w fun e w' => e = .returned (.bool r) ∧ Below w.heap.size w w' := by
 have aQ := Tryz.underlying107
 have aR := Aside0.mk aO
 have aT := Aside0.mk aP
 clear aO aP
 have HB := am (Below.refl w.heap.size w)
 have H : (spec_RulesOk.l0 k l0 0) = some r := h
 clear h
 have H' := Aside0.mk H
 clear H
 go_enter Tryz.func62, Tryz.ntmps62
 go_wp2
 go_loopg [3] k (fun kq v3 w' => ∃ (aA : Int), v3 = .int .i64 aA ∧ Aside0 (spec_RulesOk.l0 kq l0 aA = some r) ∧ Aside0 (kq ≤ k) ∧ Aside0 (Below w.heap.size w w'))
 case atStart => exact ⟨(0), (by first | rfl | (simp; done) | (simp [*]; done)), H', ⟨Nat.le_refl _⟩, ⟨KL HB⟩⟩
 case round =>
  clear H'
  obtain ⟨aA, rfl, HA, HK1, HB⟩ := hrel
  cases gk with
  | zero => exact absurd HA.out (by simp [spec_RulesOk.l0])
  | succ k1 =>
   have H := HA.out
   clear HA
   simp only [spec_RulesOk.l0] at H
   by_cases c2 : aA < (l0.length : Int)
   ·rw [if_pos c2] at H
    have c2b0 : decide (aA < (l0.length : Int)) = true := decide_eq_true c2
    clear c2
    by_cases c3 : 0 ≤ aA
    ·rw [if_pos c3] at H
     have c3b0 : decide (0 ≤ aA) = true := decide_eq_true c3
     clear c3
     replace H := bm H
     obtain ⟨aM, aS, H⟩ := H
     replace H : (if aM = true then (spec_RulesOk.l0 k1 l0 (wrap64 (aA + 1))) else (some false)) = some r := H
     have A4 := Aside0.mk aS
     clear aS
     by_cases c5 : aM = true
     ·subst c5
      have H1 := pf H
      clear H
      have H := H1
      clear H1
      have H' := Aside0.mk H
      clear H
      have aJ : 0 ≤ (aA : Int) := OD
      have aK : aA < (l0.length : Int) := OD
      obtain ⟨aN, aL, aB, aC, aD, aE, aF, aG, aH, aI⟩ := at_T107 aR.out aA aJ aK
      cases aL
      replace aB := CX HB.out aB
      replace aC := CX HB.out aC
      replace aD := CX HB.out aD
      replace aE := CX HB.out aE
      replace aF := CX HB.out aF
      replace aG := CX HB.out aG
      replace aH := CX HB.out aH
      replace aI := CX HB.out aI
      replace aJ := eq_true aJ
      replace aK := eq_true aK
      go_wp2_with (first | ((with_reducible refine gate_callee (f := 80) rfl ?_); refine goesL_ (some 14) rfl rfl Tryz.func80 (by kernel_rfl) rfl #[.agg #[.int .i64 ((rd_T107 l0 aA).f0), .int .i64 ((rd_T107 l0 aA).f1), .int .i64 ((rd_T107 l0 aA).f2.f0), .int .i64 ((rd_T107 l0 aA).f2.f1), .int .i64 ((rd_T107 l0 aA).f3.f0), .int .i64 ((rd_T107 l0 aA).f3.f1), .int .i64 ((rd_T107 l0 aA).f4), .int .i64 ((rd_T107 l0 aA).f5)]] rfl MT ?_; (with_reducible refine (spec_l4Ok.calls k1 ((rd_T107 l0 aA).f0) ((rd_T107 l0 aA).f1) ((rd_T107 l0 aA).f2.f0) ((rd_T107 l0 aA).f2.f1) ((rd_T107 l0 aA).f3.f0) ((rd_T107 l0 aA).f3.f1) ((rd_T107 l0 aA).f4) ((rd_T107 l0 aA).f5) true _ A4.out).mono ?_); rintro e w6 ⟨rfl, hb⟩; refine ⟨_, rfl, ?_⟩; replace HB := bl (KL HB) hb; (try clear hb)))
      go_roundg k1
      case measure => have := HK1.out; omega
      case rel => exact ⟨(wrap64 (aA + 1)), (by first | rfl | (simp; done) | (simp [*]; done)), H', ⟨by have := HK1.out; omega⟩, ⟨KL HB⟩⟩
     ·replace c5 := Bool.eq_false_iff.mpr c5
      subst c5
      have H1 := nf H
      clear H
      have H := H1
      clear H1
      obtain rfl := sj H
      have aJ : 0 ≤ (aA : Int) := OD
      have aK : aA < (l0.length : Int) := OD
      obtain ⟨aN, aL, aB, aC, aD, aE, aF, aG, aH, aI⟩ := at_T107 aR.out aA aJ aK
      cases aL
      replace aB := CX HB.out aB
      replace aC := CX HB.out aC
      replace aD := CX HB.out aD
      replace aE := CX HB.out aE
      replace aF := CX HB.out aF
      replace aG := CX HB.out aG
      replace aH := CX HB.out aH
      replace aI := CX HB.out aI
      replace aJ := eq_true aJ
      replace aK := eq_true aK
      go_wp2_with (first | ((with_reducible refine gate_callee (f := 80) rfl ?_); refine goesL_ (some 14) rfl rfl Tryz.func80 (by kernel_rfl) rfl #[.agg #[.int .i64 ((rd_T107 l0 aA).f0), .int .i64 ((rd_T107 l0 aA).f1), .int .i64 ((rd_T107 l0 aA).f2.f0), .int .i64 ((rd_T107 l0 aA).f2.f1), .int .i64 ((rd_T107 l0 aA).f3.f0), .int .i64 ((rd_T107 l0 aA).f3.f1), .int .i64 ((rd_T107 l0 aA).f4), .int .i64 ((rd_T107 l0 aA).f5)]] rfl MT ?_; (with_reducible refine (spec_l4Ok.calls k1 ((rd_T107 l0 aA).f0) ((rd_T107 l0 aA).f1) ((rd_T107 l0 aA).f2.f0) ((rd_T107 l0 aA).f2.f1) ((rd_T107 l0 aA).f3.f0) ((rd_T107 l0 aA).f3.f1) ((rd_T107 l0 aA).f4) ((rd_T107 l0 aA).f5) false _ A4.out).mono ?_); rintro e w7 ⟨rfl, hb⟩; refine ⟨_, rfl, ?_⟩; replace HB := bl (KL HB) hb; (try clear hb)))
      go_ret
      exact ⟨ER, KL HB⟩
    ·rw [if_neg c3] at H
     exact absurd H (by simp)
   ·rw [if_neg c2] at H
    have c2b0 : decide (aA < (l0.length : Int)) = false := decide_eq_false c2
    clear c2
    obtain rfl := sj H
    go_wp2
    go_ret
    exact ⟨ER, KL HB⟩
def spec_l4Call.f (a0_0 : Int) (a0_1 : Int) (a0_2 : Int) : Option (Bool) := (spec_l1Addr.f a0_0).bind fun t102 => (if t102 = true then ((spec_l1Addr.f a0_1).bind fun t103 => (if t103 = true then ((spec_l1In.f a0_2 0 65535).bind fun t104 => (some t104)) else (some false))) else (some false))
theorem spec_l4Call.calls (aA : Int) (aB : Int) (aC : Int) (r : Bool) (w : World) (h : spec_l4Call.f aA aB aC = some r) :
  Calls Tryz.prog 63 #[.agg #[.int .i64 aA, .int .i64 aB, .int .i64 aC]] w fun e w' => e = .returned (.bool r) ∧ Below w.heap.size w w' := by
 have aX := Tryz.underlying126
 have HB := am (Below.refl w.heap.size w)
 have H : ((spec_l1Addr.f aA).bind fun aJ => (if aJ = true then ((spec_l1Addr.f aB).bind fun aI => (if aI = true then ((spec_l1In.f aC 0 65535).bind fun aD => (some aD)) else (some false))) else (some false))) = some r := h
 clear h
 replace H := bm H
 obtain ⟨aJ, aY, H⟩ := H
 replace H : (if aJ = true then ((spec_l1Addr.f aB).bind fun aI => (if aI = true then ((spec_l1In.f aC 0 65535).bind fun aD => (some aD)) else (some false))) else (some false)) = some r := H
 have A2 := Aside0.mk aY
 clear aY
 by_cases c3 : aJ = true
 ·subst c3
  have H1 := pf H
  clear H
  have H := H1
  clear H1
  replace H := bm H
  obtain ⟨aI, aZ, H⟩ := H
  replace H : (if aI = true then ((spec_l1In.f aC 0 65535).bind fun aD => (some aD)) else (some false)) = some r := H
  have A4 := Aside0.mk aZ
  clear aZ
  by_cases c5 : aI = true
  ·subst c5
   have H1 := pf H
   clear H
   have H := H1
   clear H1
   replace H := bm H
   obtain ⟨aD, bA, H⟩ := H
   replace H : (some aD) = some r := H
   have A6 := Aside0.mk bA
   clear bA
   obtain rfl := sj H
   go_enter Tryz.func63, Tryz.ntmps63
   go_wp2_with (first | ((with_reducible refine gate_dst (N := 1) rfl ?_); refine box_event rfl (N := 1) rfl (cs := #[.int .i64 aA, .int .i64 aB, .int .i64 aC]) (t := 126) BX ?_; intro aK hg w7 aE hb; have aF := am (aE); have aG := am (GH HB hg); have aH := aG; replace HB := bl (KL HB) hb; clear hb aE hg; have ⟨_, _, _, _⟩ := y3 w7 aF.out) | ((with_reducible refine gate_callee (f := 81) rfl ?_); refine goesL_ (some 5) rfl rfl Tryz.func81 (by kernel_rfl) rfl #[.int .i64 aA] rfl MT ?_; (with_reducible refine (spec_l1Addr.calls aA true _ A2.out).mono ?_); rintro e w' ⟨rfl, ⟨nd, rfl⟩⟩; refine ⟨_, rfl, ?_⟩) | (go_at_call 81; (with_reducible refine (spec_l1Addr.calls aB true _ A4.out).mono ?_); rintro e w' ⟨rfl, ⟨nd, rfl⟩⟩) | (go_at_call 44; (with_reducible refine (spec_l1In.calls aC 0 65535 aD _ A6.out).mono ?_); rintro e w' ⟨rfl, ⟨nd, rfl⟩⟩))
   go_ret
   exact ⟨ER, K1 HB aH.out⟩
  ·replace c5 := Bool.eq_false_iff.mpr c5
   subst c5
   have H1 := nf H
   clear H
   have H := H1
   clear H1
   obtain rfl := sj H
   go_enter Tryz.func63, Tryz.ntmps63
   go_wp2_with (first | ((with_reducible refine gate_dst (N := 1) rfl ?_); refine box_event rfl (N := 1) rfl (cs := #[.int .i64 aA, .int .i64 aB, .int .i64 aC]) (t := 126) BX ?_; intro aK hg w9 aE hb; have aF := am (aE); have aG := am (GH HB hg); have aH := aG; replace HB := bl (KL HB) hb; clear hb aE hg; have ⟨_, _, _, _⟩ := y3 w9 aF.out) | ((with_reducible refine gate_callee (f := 81) rfl ?_); refine goesL_ (some 5) rfl rfl Tryz.func81 (by kernel_rfl) rfl #[.int .i64 aA] rfl MT ?_; (with_reducible refine (spec_l1Addr.calls aA true _ A2.out).mono ?_); rintro e w' ⟨rfl, ⟨nd, rfl⟩⟩; refine ⟨_, rfl, ?_⟩) | (go_at_call 81; (with_reducible refine (spec_l1Addr.calls aB false _ A4.out).mono ?_); rintro e w' ⟨rfl, ⟨nd, rfl⟩⟩))
   go_ret
   exact ⟨ER, K1 HB aH.out⟩
 ·replace c3 := Bool.eq_false_iff.mpr c3
  subst c3
  have H1 := nf H
  clear H
  have H := H1
  clear H1
  obtain rfl := sj H
  go_enter Tryz.func63, Tryz.ntmps63
  go_wp2_with (first | ((with_reducible refine gate_dst (N := 1) rfl ?_); refine box_event rfl (N := 1) rfl (cs := #[.int .i64 aA, .int .i64 aB, .int .i64 aC]) (t := 126) BX ?_; intro aK hg bB aE hb; have aF := am (aE); have aG := am (GH HB hg); have aH := aG; replace HB := bl (KL HB) hb; clear hb aE hg; have ⟨_, _, _, _⟩ := y3 bB aF.out) | ((with_reducible refine gate_callee (f := 81) rfl ?_); refine goesL_ (some 5) rfl rfl Tryz.func81 (by kernel_rfl) rfl #[.int .i64 aA] rfl MT ?_; (with_reducible refine (spec_l1Addr.calls aA false _ A2.out).mono ?_); rintro e w' ⟨rfl, ⟨nd, rfl⟩⟩; refine ⟨_, rfl, ?_⟩))
  go_ret
  exact ⟨ER, K1 HB aH.out⟩
def spec_l1Last.f (k : Nat) (a0_0 : Int) (a0_1 : Int) : Option (Int) := (spec_l1Size.f k a0_1).bind fun t102 => (some (wrap64 ((wrap64 (a0_0 + t102)) - 1)))
theorem spec_l1Last.calls (k : Nat) (aE : Int) (aA : Int) (r : Int) (w : World) (h : spec_l1Last.f k aE aA = some r) :
  Calls Tryz.prog 98 #[.agg #[.int .i64 aE, .int .i64 aA]] w fun e w' => e = .returned (.int .i64 r) ∧ Below w.heap.size w w' := by
 have aL := Tryz.underlying105
 have HB := am (Below.refl w.heap.size w)
 have H : ((spec_l1Size.f k aA).bind fun aF => (some (wrap64 ((wrap64 (aE + aF)) - 1)))) = some r := h
 clear h
 replace H := bm H
 obtain ⟨aF, aM, H⟩ := H
 replace H : (some (wrap64 ((wrap64 (aE + aF)) - 1))) = some r := H
 have A2 := Aside0.mk aM
 clear aM
 obtain rfl := sj H
 go_enter Tryz.func98, Tryz.ntmps98
 go_wp2_with (first | ((with_reducible refine gate_dst (N := 1) rfl ?_); refine box_event rfl (N := 1) rfl (cs := #[.int .i64 aE, .int .i64 aA]) (t := 105) BX ?_; intro aK hg w3 aB hb; have aC := am (aB); have aD := am (GH HB hg); have aG := aD; replace HB := bl (KL HB) hb; clear hb aB hg; obtain ⟨aH, aI, aJ⟩ := y2 w3 aC.out) | (go_at_call 101; (with_reducible refine (spec_l1Size.calls k aA aF _ A2.out).mono ?_); rintro e w' ⟨rfl, ⟨nd, rfl⟩⟩; (try first | exact ⟨rfl, _, World.drewN_drewN _ _ _⟩ | exact ⟨rfl, _, Eq.trans (World.drewN_drewN _ _ _) (congrArg (World.drewN _) (Nat.add_assoc _ _ _))⟩)))
 repeat (go_quiet (first | ((with_reducible refine gate_dst (N := 1) rfl ?_); refine box_event rfl (N := 1) rfl (cs := #[.int .i64 aE, .int .i64 aA]) (t := 105) BX ?_; intro aK hg w3 aB hb; have aC := am (aB); have aD := am (GH HB hg); have aG := aD; replace HB := bl (KL HB) hb; clear hb aB hg; obtain ⟨aH, aI, aJ⟩ := y2 w3 aC.out) | (go_at_call 101; (with_reducible refine (spec_l1Size.calls k aA aF _ A2.out).mono ?_); rintro e w' ⟨rfl, ⟨nd, rfl⟩⟩; (try first | exact ⟨rfl, _, World.drewN_drewN _ _ _⟩ | exact ⟨rfl, _, Eq.trans (World.drewN_drewN _ _ _) (congrArg (World.drewN _) (Nat.add_assoc _ _ _))⟩))); try go_wp2_with (first | ((with_reducible refine gate_dst (N := 1) rfl ?_); refine box_event rfl (N := 1) rfl (cs := #[.int .i64 aE, .int .i64 aA]) (t := 105) BX ?_; intro aK hg w3 aB hb; have aC := am (aB); have aD := am (GH HB hg); have aG := aD; replace HB := bl (KL HB) hb; clear hb aB hg; obtain ⟨aH, aI, aJ⟩ := y2 w3 aC.out) | (go_at_call 101; (with_reducible refine (spec_l1Size.calls k aA aF _ A2.out).mono ?_); rintro e w' ⟨rfl, ⟨nd, rfl⟩⟩; (try first | exact ⟨rfl, _, World.drewN_drewN _ _ _⟩ | exact ⟨rfl, _, Eq.trans (World.drewN_drewN _ _ _) (congrArg (World.drewN _) (Nat.add_assoc _ _ _))⟩))))
 go_ret
 exact ⟨ER, K1 HB aG.out⟩
def spec_l4About.f (k : Nat) (a0_0 : Int) (a0_1 : Int) (a0_2 : Int) (a0_3 : Int) (a0_4 : Int) (a0_5 : Int) (a0_6 : Int) (a0_7 : Int) (a1_0 : Int) (a1_1 : Int) (a1_2 : Int) : Option (Bool) := (spec_l1Last.f k a0_2 a0_3).bind fun t103 => ((spec_l1In.f a1_0 a0_2 t103).bind fun t104 => (if t104 = true then ((spec_l1Last.f k a0_4 a0_5).bind fun t105 => ((spec_l1In.f a1_1 a0_4 t105).bind fun t106 => (if t106 = true then ((spec_l1In.f a1_2 a0_6 a0_7).bind fun t107 => (some t107)) else (some false)))) else (some false)))
def spec_l4About.T1 : Bool × List (List Nat × List Nat) := (true, [([], []), ([0], [0]), ([], []), ([2], [2]), ([3], [3]), ([], []), ([5], [5]), ([6], [6]), ([1, 4, 7, 7], [1, 4, 7]), ([8, 8], [8]), ([9], [9]), ([10, 9], [9, 10]), ([9], [9]), ([12, 9], [9, 12]), ([13, 9], [9, 13]), ([9], [9]), ([15, 9], [9, 15]), ([16, 9, 9], [9, 16]), ([11, 14, 17, 17, 9], [9, 11, 14, 17]), ([9, 18], [9, 18]), ([19, 18], [19]), ([20], [20]), ([21, 20], [20, 21]), ([20], [20]), ([23, 20], [20, 23]), ([20], [20]), ([25, 20], [20, 25]), ([22, 24, 26, 20, 20], [20, 22, 24, 26]), ([20, 27], [20, 27]), ([28, 27, 0, 1, 2, 3, 4, 5, 6, 7, 8, 9, 10, 11, 12, 13, 14, 15, 16, 17, 18, 19, 20, 21, 22, 23, 24, 25, 26, 27, 28], [28])])
def spec_l4About.B1 : List Nat := [0, 1, 0, 4, 12, 0, 32, 96, 255, 511, 1023, 2047, 1023, 5119, 13311, 1023, 33791, 99327, 262143, 524287, 1048575, 2097151, 4194303, 2097151, 10485759, 2097151, 35651583, 134217727, 268435455, 536870911]
theorem spec_l4About.tab1 : rtab .any (opsOf Tryz.f82 1) = spec_l4About.T1 := by kernel_rfl
theorem spec_l4About.bits1 : waitsOk spec_l4About.T1.2 spec_l4About.B1 = true := by kernel_rfl
theorem spec_l4About.calls (k : Nat) (aX : Int) (aY : Int) (aF : Int) (aL : Int) (aG : Int) (aM : Int) (aN : Int) (aO : Int) (aI : Int) (aJ : Int) (aP : Int) (r : Bool) (w : World) (h : spec_l4About.f k aX aY aF aL aG aM aN aO aI aJ aP = some r) :
  Calls Tryz.prog 82 #[.agg #[.int .i64 aX, .int .i64 aY, .int .i64 aF, .int .i64 aL, .int .i64 aG, .int .i64 aM, .int .i64 aN, .int .i64 aO], .agg #[.int .i64 aI, .int .i64 aJ, .int .i64 aP]] w fun e w' => e = .returned (.bool r) ∧ Below w.heap.size w w' := by
 have bE := Tryz.underlying107
 have bF := Tryz.underlying126
 have bG := Tryz.underlying105
 have HB := am (Below.refl w.heap.size w)
 have H : ((spec_l1Last.f k aF aL).bind fun aR => ((spec_l1In.f aI aF aR).bind fun bD => (if bD = true then ((spec_l1Last.f k aG aM).bind fun aQ => ((spec_l1In.f aJ aG aQ).bind fun aT => (if aT = true then ((spec_l1In.f aP aN aO).bind fun aS => (some aS)) else (some false)))) else (some false)))) = some r := h
 clear h
 replace H := bm H
 obtain ⟨aR, bH, H⟩ := H
 replace H : ((spec_l1In.f aI aF aR).bind fun bD => (if bD = true then ((spec_l1Last.f k aG aM).bind fun aQ => ((spec_l1In.f aJ aG aQ).bind fun aT => (if aT = true then ((spec_l1In.f aP aN aO).bind fun aS => (some aS)) else (some false)))) else (some false))) = some r := H
 have A3 := Aside0.mk bH
 clear bH
 replace H := bm H
 obtain ⟨bD, bI, H⟩ := H
 replace H : (if bD = true then ((spec_l1Last.f k aG aM).bind fun aQ => ((spec_l1In.f aJ aG aQ).bind fun aT => (if aT = true then ((spec_l1In.f aP aN aO).bind fun aS => (some aS)) else (some false)))) else (some false)) = some r := H
 have A4 := Aside0.mk bI
 clear bI
 by_cases c5 : bD = true
 ·subst c5
  have H1 := pf H
  clear H
  have H := H1
  clear H1
  replace H := bm H
  obtain ⟨aQ, bJ, H⟩ := H
  replace H : ((spec_l1In.f aJ aG aQ).bind fun aT => (if aT = true then ((spec_l1In.f aP aN aO).bind fun aS => (some aS)) else (some false))) = some r := H
  have A6 := Aside0.mk bJ
  clear bJ
  replace H := bm H
  obtain ⟨aT, bK, H⟩ := H
  replace H : (if aT = true then ((spec_l1In.f aP aN aO).bind fun aS => (some aS)) else (some false)) = some r := H
  have A7 := Aside0.mk bK
  clear bK
  by_cases c8 : aT = true
  ·subst c8
   have H1 := pf H
   clear H
   have H := H1
   clear H1
   replace H := bm H
   obtain ⟨aS, bL, H⟩ := H
   replace H : (some aS) = some r := H
   have A9 := Aside0.mk bL
   clear bL
   obtain rfl := sj H
   go_enter Tryz.func82, Tryz.ntmps82
   try go_wp2_with (first | ((with_reducible refine gate_dst (N := 2) rfl ?_); refine box_event rfl (N := 2) rfl (cs := #[.int .i64 aX, .int .i64 aY, .int .i64 aF, .int .i64 aL, .int .i64 aG, .int .i64 aM, .int .i64 aN, .int .i64 aO]) (t := 107) BX ?_; intro aZ hg bP aH hb; have aA := am (aH); have bA := am (GH HB hg); have aE := bA; replace HB := bl (KL HB) hb; clear hb aH hg) | ((with_reducible refine gate_dst (N := 3) rfl ?_); refine box_event rfl (N := 3) rfl (cs := #[.int .i64 aI, .int .i64 aJ, .int .i64 aP]) (t := 126) BX ?_; intro bB hg bM aH hb; have aB := am (aH); have bC := am (GH1 HB aE.out hg); have aK := bC; replace HB := bl (K1 HB aE.out) hb; have aU := am (NL aA hg); have aV := am (NG aA hg); replace aA := am (BB aA hb); clear hb aH hg))
   replace aA := am (blk_drew aA.out)
   replace aB := am (blk_drew aB.out)
   replace HB := am (below_drew1 HB.out)
   refine start_ (n := 30) (S := fun w' => ce3 w' bB (.int .i64 aI) (.int .i64 aJ) (.int .i64 aP) (de8 w' aZ (.int .i64 aX) (.int .i64 aY) (.int .i64 aF) (.int .i64 aL) (.int .i64 aG) (.int .i64 aM) (.int .i64 aN) (.int .i64 aO))) (ds := []) (tf 0 30) (by kernel_rfl) rfl rfl ⟨z0 _ aB.out, z1 _ aB.out, z2 _ aB.out, z0 _ aA.out, z1 _ aA.out, z2 _ aA.out, z3 _ aA.out, z4 _ aA.out, z5 _ aA.out, z6 _ aA.out, z7 _ aA.out⟩ (fun aC => ?_); refine with_tabW spec_l4About.tab1 spec_l4About.bits1 (fun aD aW => ?_)
   generalize bM.drew = bQ at aA aB HB aC ⊢
   refine pv aD 0 5 (tf 1 29) ?_
   refine pv aD 2 7 (tr [1, 1, 1, 27]) ?_
   refine pv aD 3 8 (tr [1, 1, 2, 26]) ?_
   refine pv aD 5 10 (tr [1, 1, 2, 1, 1, 24]) ?_
   refine tk 1 (some 6) (tr [4, 1, 1, 24]) (take_ofW aD.out aW.out (by kernel_rfl)) aC ?_
   refine tk 4 (some 9) (tf 6 24) (take_ofW aD.out aW.out (by kernel_rfl)) aC ?_
   refine tk 6 (some 11) (tf 7 23) (take_ofW aD.out aW.out (by kernel_rfl)) aC ?_
   refine one_ (i := 7) (N := some 12) (tf 8 22) rfl rfl (one_of aD.out (by kernel_rfl)) (by decide) (fun K hK => ?_)
   refine goes_ Tryz.func98 (by kernel_rfl) rfl #[.agg #[.int .i64 aF, .int .i64 aL]] (by rfl) rfl rfl MT ?_
   with_reducible refine (spec_l1Last.calls k aF aL aR _ A3.out).mono ?_
   rintro e bR ⟨rfl, hb⟩
   refine ⟨_, rfl, ?_⟩
   replace aA := am (BB aA hb)
   replace aB := am (BB aB hb)
   replace HB := bl (K2 HB aE.out aK.out) hb
   (try clear hb)
   (try clear hb2)
   (try clear hk)
   (try clear hi)
   refine hK.out _ _ ⟨z0 _ aB.out, z1 _ aB.out, z2 _ aB.out, z0 _ aA.out, z1 _ aA.out, z2 _ aA.out, z3 _ aA.out, z4 _ aA.out, z5 _ aA.out, z6 _ aA.out, z7 _ aA.out⟩ (fun aC => ?_)
   clear hK K
   refine nm (some 12) ?_
   refine one_ (i := 8) (N := some 13) (tf 9 21) rfl rfl (one_of aD.out (by kernel_rfl)) (by decide) (fun K hK => ?_)
   refine goes_ Tryz.func44 (by kernel_rfl) rfl #[.int .i64 aI, .int .i64 aF, .int .i64 aR] (by rfl) rfl rfl MT ?_
   with_reducible refine (spec_l1In.calls aI aF aR true _ A4.out).mono ?_
   rintro e w' ⟨rfl, ⟨nd, rfl⟩⟩
   refine ⟨_, rfl, ?_⟩
   refine hK.out _ _ ⟨z0 _ aB.out, z1 _ aB.out, z2 _ aB.out, z0 _ aA.out, z1 _ aA.out, z2 _ aA.out, z3 _ aA.out, z4 _ aA.out, z5 _ aA.out, z6 _ aA.out, z7 _ aA.out⟩ (fun aC => ?_)
   clear hK K
   refine nm (some 13) ?_
   refine pv aD 9 14 (tf 10 20) ?_
   refine pv aD 10 15 (tf 11 19) ?_
   refine pv aD 12 17 (tr [11, 1, 1, 17]) ?_
   refine pv aD 13 18 (tr [11, 1, 2, 16]) ?_
   refine pv aD 15 20 (tr [11, 1, 2, 1, 1, 14]) ?_
   refine tk 11 (some 16) (tr [14, 1, 1, 14]) (take_ofW aD.out aW.out (by kernel_rfl)) aC ?_
   refine tk 14 (some 19) (tf 16 14) (take_ofW aD.out aW.out (by kernel_rfl)) aC ?_
   refine tk 16 (some 21) (tf 17 13) (take_ofW aD.out aW.out (by kernel_rfl)) aC ?_
   refine one_ (i := 17) (N := some 22) (tf 18 12) rfl rfl (one_of aD.out (by kernel_rfl)) (by decide) (fun K hK => ?_)
   refine goes_ Tryz.func98 (by kernel_rfl) rfl #[.agg #[.int .i64 aG, .int .i64 aM]] (by rfl) rfl rfl MT ?_
   with_reducible refine (spec_l1Last.calls k aG aM aQ _ A6.out).mono ?_
   rintro e bS ⟨rfl, hb⟩
   refine ⟨_, rfl, ?_⟩
   replace aA := am (BB aA hb)
   replace aB := am (BB aB hb)
   replace HB := bl (K2 HB aE.out aK.out) hb
   (try clear hb)
   (try clear hb2)
   (try clear hk)
   (try clear hi)
   refine hK.out _ _ ⟨z0 _ aB.out, z1 _ aB.out, z2 _ aB.out, z0 _ aA.out, z1 _ aA.out, z2 _ aA.out, z3 _ aA.out, z4 _ aA.out, z5 _ aA.out, z6 _ aA.out, z7 _ aA.out⟩ (fun aC => ?_)
   clear hK K
   refine nm (some 22) ?_
   refine one_ (i := 18) (N := some 23) (tf 19 11) rfl rfl (one_of aD.out (by kernel_rfl)) (by decide) (fun K hK => ?_)
   refine goes_ Tryz.func44 (by kernel_rfl) rfl #[.int .i64 aJ, .int .i64 aG, .int .i64 aQ] (by rfl) rfl rfl MT ?_
   with_reducible refine (spec_l1In.calls aJ aG aQ true _ A7.out).mono ?_
   rintro e w' ⟨rfl, ⟨nd, rfl⟩⟩
   refine ⟨_, rfl, ?_⟩
   refine hK.out _ _ ⟨z0 _ aB.out, z1 _ aB.out, z2 _ aB.out, z0 _ aA.out, z1 _ aA.out, z2 _ aA.out, z3 _ aA.out, z4 _ aA.out, z5 _ aA.out, z6 _ aA.out, z7 _ aA.out⟩ (fun aC => ?_)
   clear hK K
   refine nm (some 23) ?_
   refine pv aD 19 24 (tf 20 10) ?_
   refine pv aD 20 25 (tf 21 9) ?_
   refine pv aD 21 26 (tf 22 8) ?_
   refine pv aD 23 28 (tr [22, 1, 1, 6]) ?_
   refine pv aD 25 30 (tr [22, 1, 1, 1, 1, 4]) ?_
   refine tk 22 (some 27) (tr [24, 1, 1, 4]) (take_ofW aD.out aW.out (by kernel_rfl)) aC ?_
   refine tk 24 (some 29) (tf 26 4) (take_ofW aD.out aW.out (by kernel_rfl)) aC ?_
   refine tk 26 (some 31) (tf 27 3) (take_ofW aD.out aW.out (by kernel_rfl)) aC ?_
   refine one_ (i := 27) (N := some 32) (tf 28 2) rfl rfl (one_of aD.out (by kernel_rfl)) (by decide) (fun K hK => ?_)
   refine goes_ Tryz.func44 (by kernel_rfl) rfl #[.int .i64 aP, .int .i64 aN, .int .i64 aO] (by rfl) rfl rfl MT ?_
   with_reducible refine (spec_l1In.calls aP aN aO aS _ A9.out).mono ?_
   rintro e w' ⟨rfl, ⟨nd, rfl⟩⟩
   refine ⟨_, rfl, ?_⟩
   refine hK.out _ _ ⟨z0 _ aB.out, z1 _ aB.out, z2 _ aB.out, z0 _ aA.out, z1 _ aA.out, z2 _ aA.out, z3 _ aA.out, z4 _ aA.out, z5 _ aA.out, z6 _ aA.out, z7 _ aA.out⟩ (fun aC => ?_)
   clear hK K
   refine nm (some 32) ?_
   refine pv aD 28 33 (tf 29 1) ?_
   refine pv aD 29 4 (tf 30 0) ?_
   refine done_ (done_of aD.out (by kernel_rfl)) ?_
   try go_wp2
   go_ret
   exact ⟨ER, K2 HB aE.out aK.out⟩
  ·replace c8 := Bool.eq_false_iff.mpr c8
   subst c8
   have H1 := nf H
   clear H
   have H := H1
   clear H1
   obtain rfl := sj H
   go_enter Tryz.func82, Tryz.ntmps82
   try go_wp2_with (first | ((with_reducible refine gate_dst (N := 2) rfl ?_); refine box_event rfl (N := 2) rfl (cs := #[.int .i64 aX, .int .i64 aY, .int .i64 aF, .int .i64 aL, .int .i64 aG, .int .i64 aM, .int .i64 aN, .int .i64 aO]) (t := 107) BX ?_; intro aZ hg bT aH hb; have aA := am (aH); have bA := am (GH HB hg); have aE := bA; replace HB := bl (KL HB) hb; clear hb aH hg) | ((with_reducible refine gate_dst (N := 3) rfl ?_); refine box_event rfl (N := 3) rfl (cs := #[.int .i64 aI, .int .i64 aJ, .int .i64 aP]) (t := 126) BX ?_; intro bB hg bN aH hb; have aB := am (aH); have bC := am (GH1 HB aE.out hg); have aK := bC; replace HB := bl (K1 HB aE.out) hb; have aU := am (NL aA hg); have aV := am (NG aA hg); replace aA := am (BB aA hb); clear hb aH hg))
   replace aA := am (blk_drew aA.out)
   replace aB := am (blk_drew aB.out)
   replace HB := am (below_drew1 HB.out)
   refine start_ (n := 30) (S := fun w' => ce3 w' bB (.int .i64 aI) (.int .i64 aJ) (.int .i64 aP) (de8 w' aZ (.int .i64 aX) (.int .i64 aY) (.int .i64 aF) (.int .i64 aL) (.int .i64 aG) (.int .i64 aM) (.int .i64 aN) (.int .i64 aO))) (ds := []) (tf 0 30) (by kernel_rfl) rfl rfl ⟨z0 _ aB.out, z1 _ aB.out, z2 _ aB.out, z0 _ aA.out, z1 _ aA.out, z2 _ aA.out, z3 _ aA.out, z4 _ aA.out, z5 _ aA.out, z6 _ aA.out, z7 _ aA.out⟩ (fun aC => ?_); refine with_tabW spec_l4About.tab1 spec_l4About.bits1 (fun aD aW => ?_)
   generalize bN.drew = bU at aA aB HB aC ⊢
   refine pv aD 0 5 (tf 1 29) ?_
   refine pv aD 2 7 (tr [1, 1, 1, 27]) ?_
   refine pv aD 3 8 (tr [1, 1, 2, 26]) ?_
   refine pv aD 5 10 (tr [1, 1, 2, 1, 1, 24]) ?_
   refine tk 1 (some 6) (tr [4, 1, 1, 24]) (take_ofW aD.out aW.out (by kernel_rfl)) aC ?_
   refine tk 4 (some 9) (tf 6 24) (take_ofW aD.out aW.out (by kernel_rfl)) aC ?_
   refine tk 6 (some 11) (tf 7 23) (take_ofW aD.out aW.out (by kernel_rfl)) aC ?_
   refine one_ (i := 7) (N := some 12) (tf 8 22) rfl rfl (one_of aD.out (by kernel_rfl)) (by decide) (fun K hK => ?_)
   refine goes_ Tryz.func98 (by kernel_rfl) rfl #[.agg #[.int .i64 aF, .int .i64 aL]] (by rfl) rfl rfl MT ?_
   with_reducible refine (spec_l1Last.calls k aF aL aR _ A3.out).mono ?_
   rintro e bV ⟨rfl, hb⟩
   refine ⟨_, rfl, ?_⟩
   replace aA := am (BB aA hb)
   replace aB := am (BB aB hb)
   replace HB := bl (K2 HB aE.out aK.out) hb
   (try clear hb)
   (try clear hb2)
   (try clear hk)
   (try clear hi)
   refine hK.out _ _ ⟨z0 _ aB.out, z1 _ aB.out, z2 _ aB.out, z0 _ aA.out, z1 _ aA.out, z2 _ aA.out, z3 _ aA.out, z4 _ aA.out, z5 _ aA.out, z6 _ aA.out, z7 _ aA.out⟩ (fun aC => ?_)
   clear hK K
   refine nm (some 12) ?_
   refine one_ (i := 8) (N := some 13) (tf 9 21) rfl rfl (one_of aD.out (by kernel_rfl)) (by decide) (fun K hK => ?_)
   refine goes_ Tryz.func44 (by kernel_rfl) rfl #[.int .i64 aI, .int .i64 aF, .int .i64 aR] (by rfl) rfl rfl MT ?_
   with_reducible refine (spec_l1In.calls aI aF aR true _ A4.out).mono ?_
   rintro e w' ⟨rfl, ⟨nd, rfl⟩⟩
   refine ⟨_, rfl, ?_⟩
   refine hK.out _ _ ⟨z0 _ aB.out, z1 _ aB.out, z2 _ aB.out, z0 _ aA.out, z1 _ aA.out, z2 _ aA.out, z3 _ aA.out, z4 _ aA.out, z5 _ aA.out, z6 _ aA.out, z7 _ aA.out⟩ (fun aC => ?_)
   clear hK K
   refine nm (some 13) ?_
   refine pv aD 9 14 (tf 10 20) ?_
   refine pv aD 10 15 (tf 11 19) ?_
   refine pv aD 12 17 (tr [11, 1, 1, 17]) ?_
   refine pv aD 13 18 (tr [11, 1, 2, 16]) ?_
   refine pv aD 15 20 (tr [11, 1, 2, 1, 1, 14]) ?_
   refine tk 11 (some 16) (tr [14, 1, 1, 14]) (take_ofW aD.out aW.out (by kernel_rfl)) aC ?_
   refine tk 14 (some 19) (tf 16 14) (take_ofW aD.out aW.out (by kernel_rfl)) aC ?_
   refine tk 16 (some 21) (tf 17 13) (take_ofW aD.out aW.out (by kernel_rfl)) aC ?_
   refine one_ (i := 17) (N := some 22) (tf 18 12) rfl rfl (one_of aD.out (by kernel_rfl)) (by decide) (fun K hK => ?_)
   refine goes_ Tryz.func98 (by kernel_rfl) rfl #[.agg #[.int .i64 aG, .int .i64 aM]] (by rfl) rfl rfl MT ?_
   with_reducible refine (spec_l1Last.calls k aG aM aQ _ A6.out).mono ?_
   rintro e bW ⟨rfl, hb⟩
   refine ⟨_, rfl, ?_⟩
   replace aA := am (BB aA hb)
   replace aB := am (BB aB hb)
   replace HB := bl (K2 HB aE.out aK.out) hb
   (try clear hb)
   (try clear hb2)
   (try clear hk)
   (try clear hi)
   refine hK.out _ _ ⟨z0 _ aB.out, z1 _ aB.out, z2 _ aB.out, z0 _ aA.out, z1 _ aA.out, z2 _ aA.out, z3 _ aA.out, z4 _ aA.out, z5 _ aA.out, z6 _ aA.out, z7 _ aA.out⟩ (fun aC => ?_)
   clear hK K
   refine nm (some 22) ?_
   refine one_ (i := 18) (N := some 23) (tf 19 11) rfl rfl (one_of aD.out (by kernel_rfl)) (by decide) (fun K hK => ?_)
   refine goes_ Tryz.func44 (by kernel_rfl) rfl #[.int .i64 aJ, .int .i64 aG, .int .i64 aQ] (by rfl) rfl rfl MT ?_
   with_reducible refine (spec_l1In.calls aJ aG aQ false _ A7.out).mono ?_
   rintro e w' ⟨rfl, ⟨nd, rfl⟩⟩
   refine ⟨_, rfl, ?_⟩
   refine hK.out _ _ ⟨z0 _ aB.out, z1 _ aB.out, z2 _ aB.out, z0 _ aA.out, z1 _ aA.out, z2 _ aA.out, z3 _ aA.out, z4 _ aA.out, z5 _ aA.out, z6 _ aA.out, z7 _ aA.out⟩ (fun aC => ?_)
   clear hK K
   refine nm (some 23) ?_
   refine pv aD 19 24 (tf 20 10) ?_
   refine pv aD 20 25 (tf 21 9) ?_
   refine pw aD 21 26 (tf 22 8) ?_
   refine pw aD 22 27 (tf 23 7) ?_
   refine pw aD 23 28 (tf 24 6) ?_
   refine pw aD 24 29 (tf 25 5) ?_
   refine pw aD 25 30 (tf 26 4) ?_
   refine pw aD 26 31 (tf 27 3) ?_
   refine pw aD 27 32 (tf 28 2) ?_
   refine pv aD 28 33 (tf 29 1) ?_
   refine pv aD 29 4 (tf 30 0) ?_
   refine done_ (done_of aD.out (by kernel_rfl)) ?_
   try go_wp2
   go_ret
   exact ⟨ER, K2 HB aE.out aK.out⟩
 ·replace c5 := Bool.eq_false_iff.mpr c5
  subst c5
  have H1 := nf H
  clear H
  have H := H1
  clear H1
  obtain rfl := sj H
  go_enter Tryz.func82, Tryz.ntmps82
  try go_wp2_with (first | ((with_reducible refine gate_dst (N := 2) rfl ?_); refine box_event rfl (N := 2) rfl (cs := #[.int .i64 aX, .int .i64 aY, .int .i64 aF, .int .i64 aL, .int .i64 aG, .int .i64 aM, .int .i64 aN, .int .i64 aO]) (t := 107) BX ?_; intro aZ hg bX aH hb; have aA := am (aH); have bA := am (GH HB hg); have aE := bA; replace HB := bl (KL HB) hb; clear hb aH hg) | ((with_reducible refine gate_dst (N := 3) rfl ?_); refine box_event rfl (N := 3) rfl (cs := #[.int .i64 aI, .int .i64 aJ, .int .i64 aP]) (t := 126) BX ?_; intro bB hg bO aH hb; have aB := am (aH); have bC := am (GH1 HB aE.out hg); have aK := bC; replace HB := bl (K1 HB aE.out) hb; have aU := am (NL aA hg); have aV := am (NG aA hg); replace aA := am (BB aA hb); clear hb aH hg))
  replace aA := am (blk_drew aA.out)
  replace aB := am (blk_drew aB.out)
  replace HB := am (below_drew1 HB.out)
  refine start_ (n := 30) (S := fun w' => ce3 w' bB (.int .i64 aI) (.int .i64 aJ) (.int .i64 aP) (de8 w' aZ (.int .i64 aX) (.int .i64 aY) (.int .i64 aF) (.int .i64 aL) (.int .i64 aG) (.int .i64 aM) (.int .i64 aN) (.int .i64 aO))) (ds := []) (tf 0 30) (by kernel_rfl) rfl rfl ⟨z0 _ aB.out, z1 _ aB.out, z2 _ aB.out, z0 _ aA.out, z1 _ aA.out, z2 _ aA.out, z3 _ aA.out, z4 _ aA.out, z5 _ aA.out, z6 _ aA.out, z7 _ aA.out⟩ (fun aC => ?_); refine with_tabW spec_l4About.tab1 spec_l4About.bits1 (fun aD aW => ?_)
  generalize bO.drew = bY at aA aB HB aC ⊢
  refine pv aD 0 5 (tf 1 29) ?_
  refine pv aD 2 7 (tr [1, 1, 1, 27]) ?_
  refine pv aD 3 8 (tr [1, 1, 2, 26]) ?_
  refine pv aD 5 10 (tr [1, 1, 2, 1, 1, 24]) ?_
  refine tk 1 (some 6) (tr [4, 1, 1, 24]) (take_ofW aD.out aW.out (by kernel_rfl)) aC ?_
  refine tk 4 (some 9) (tf 6 24) (take_ofW aD.out aW.out (by kernel_rfl)) aC ?_
  refine tk 6 (some 11) (tf 7 23) (take_ofW aD.out aW.out (by kernel_rfl)) aC ?_
  refine one_ (i := 7) (N := some 12) (tf 8 22) rfl rfl (one_of aD.out (by kernel_rfl)) (by decide) (fun K hK => ?_)
  refine goes_ Tryz.func98 (by kernel_rfl) rfl #[.agg #[.int .i64 aF, .int .i64 aL]] (by rfl) rfl rfl MT ?_
  with_reducible refine (spec_l1Last.calls k aF aL aR _ A3.out).mono ?_
  rintro e bZ ⟨rfl, hb⟩
  refine ⟨_, rfl, ?_⟩
  replace aA := am (BB aA hb)
  replace aB := am (BB aB hb)
  replace HB := bl (K2 HB aE.out aK.out) hb
  (try clear hb)
  (try clear hb2)
  (try clear hk)
  (try clear hi)
  refine hK.out _ _ ⟨z0 _ aB.out, z1 _ aB.out, z2 _ aB.out, z0 _ aA.out, z1 _ aA.out, z2 _ aA.out, z3 _ aA.out, z4 _ aA.out, z5 _ aA.out, z6 _ aA.out, z7 _ aA.out⟩ (fun aC => ?_)
  clear hK K
  refine nm (some 12) ?_
  refine one_ (i := 8) (N := some 13) (tf 9 21) rfl rfl (one_of aD.out (by kernel_rfl)) (by decide) (fun K hK => ?_)
  refine goes_ Tryz.func44 (by kernel_rfl) rfl #[.int .i64 aI, .int .i64 aF, .int .i64 aR] (by rfl) rfl rfl MT ?_
  with_reducible refine (spec_l1In.calls aI aF aR false _ A4.out).mono ?_
  rintro e w' ⟨rfl, ⟨nd, rfl⟩⟩
  refine ⟨_, rfl, ?_⟩
  refine hK.out _ _ ⟨z0 _ aB.out, z1 _ aB.out, z2 _ aB.out, z0 _ aA.out, z1 _ aA.out, z2 _ aA.out, z3 _ aA.out, z4 _ aA.out, z5 _ aA.out, z6 _ aA.out, z7 _ aA.out⟩ (fun aC => ?_)
  clear hK K
  refine nm (some 13) ?_
  refine pv aD 9 14 (tf 10 20) ?_
  refine pw aD 10 15 (tf 11 19) ?_
  refine pw aD 11 16 (tf 12 18) ?_
  refine pw aD 12 17 (tf 13 17) ?_
  refine pw aD 13 18 (tf 14 16) ?_
  refine pw aD 14 19 (tf 15 15) ?_
  refine pw aD 15 20 (tf 16 14) ?_
  refine pw aD 16 21 (tf 17 13) ?_
  refine pw aD 17 22 (tf 18 12) ?_
  refine pw aD 18 23 (tf 19 11) ?_
  refine pv aD 19 24 (tf 20 10) ?_
  refine pv aD 20 25 (tf 21 9) ?_
  refine pw aD 21 26 (tf 22 8) ?_
  refine pw aD 22 27 (tf 23 7) ?_
  refine pw aD 23 28 (tf 24 6) ?_
  refine pw aD 24 29 (tf 25 5) ?_
  refine pw aD 25 30 (tf 26 4) ?_
  refine pw aD 26 31 (tf 27 3) ?_
  refine pw aD 27 32 (tf 28 2) ?_
  refine pv aD 28 33 (tf 29 1) ?_
  refine pv aD 29 4 (tf 30 0) ?_
  refine done_ (done_of aD.out (by kernel_rfl)) ?_
  try go_wp2
  go_ret
  exact ⟨ER, K2 HB aE.out aK.out⟩
def spec_l4First.l0 : Nat → List (S107) → Int → Int → Int → Int → Option (Int)
 | 0, _, _, _, _, _ => none
 | k + 1, x0, x5, x102000, x102001, x102002 => if x5 < (x0.length : Int) then (if 0 ≤ x5 then ((spec_l4About.f k ((rd_T107 x0 x5).f0) ((rd_T107 x0 x5).f1) ((rd_T107 x0 x5).f2.f0) ((rd_T107 x0 x5).f2.f1) ((rd_T107 x0 x5).f3.f0) ((rd_T107 x0 x5).f3.f1) ((rd_T107 x0 x5).f4) ((rd_T107 x0 x5).f5) x102000 x102001 x102002).bind fun t103 => (if t103 = true then (some x5) else (spec_l4First.l0 k x0 (wrap64 (x5 + 1)) x102000 x102001 x102002))) else (none)) else (some (-1))
def spec_l4First.f (k : Nat) (l0 : List (S107)) (a1_0 : Int) (a1_1 : Int) (a1_2 : Int) : Option (Int) := spec_l4First.l0 k l0 0 a1_0 a1_1 a1_2
theorem spec_l4First.calls (k : Nat) (A0 : Option Addr) (c0 : Nat) (l0 : List (S107)) (aU : Int) (aV : Int) (aW : Int) (r : Int) (w : World) (bF : Kd.C k107 w A0 l0.length l0) (bG : l0.length ≤ c0) (h : spec_l4First.f k l0 aU aV aW = some r) :
  Calls Tryz.prog 64 #[.slice A0 l0.length c0, .agg #[.int .i64 aU, .int .i64 aV, .int .i64 aW]] w fun e w' => e = .returned (.int .i64 r) ∧ Below w.heap.size w w' := by
 have bH := Tryz.underlying126
 have bI := Tryz.underlying107
 have bJ := Aside0.mk bF
 have bL := Aside0.mk bG
 clear bF bG
 have HB := am (Below.refl w.heap.size w)
 have H : (spec_l4First.l0 k l0 0 aU aV aW) = some r := h
 clear h
 have H' := Aside0.mk H
 clear H
 go_enter Tryz.func64, Tryz.ntmps64
 go_wp2_with (first | ((with_reducible refine gate_dst (N := 3) rfl ?_); refine box_event rfl (N := 3) rfl (cs := #[.int .i64 aU, .int .i64 aV, .int .i64 aW]) (t := 126) BX ?_; intro bA hg w3 bC hb; have aC := am (bC); have bD := am (GH HB hg); have aX := bD; replace HB := bl (KL HB) hb; clear hb bC hg))
 go_loopg [5] k (fun kq v5 w' => ∃ (aA : Int), v5 = .int .i64 aA ∧ Aside0 (spec_l4First.l0 kq l0 aA aU aV aW = some r) ∧ Aside0 (kq ≤ k) ∧ Aside0 (w'.heap[bA]? = some (.cells #[.int .i64 aU, .int .i64 aV, .int .i64 aW] 126 (0, 0))) ∧ Aside0 (Below w.heap.size w w'))
 case atStart => exact ⟨(0), (by first | rfl | (simp; done) | (simp [*]; done)), H', ⟨Nat.le_refl _⟩, ⟨KB aC⟩, ⟨K1 HB aX.out⟩⟩
 case round =>
  clear H'
  try clear p2
  obtain ⟨aA, rfl, HA, HK1, aC, HB⟩ := hrel
  cases gk with
  | zero => exact absurd HA.out (by simp [spec_l4First.l0])
  | succ k1 =>
   have H := HA.out
   clear HA
   simp only [spec_l4First.l0] at H
   by_cases c4 : aA < (l0.length : Int)
   ·rw [if_pos c4] at H
    have c4b0 : decide (aA < (l0.length : Int)) = true := decide_eq_true c4
    clear c4
    by_cases c5 : 0 ≤ aA
    ·rw [if_pos c5] at H
     have c5b0 : decide (0 ≤ aA) = true := decide_eq_true c5
     clear c5
     replace H := bm H
     obtain ⟨bE, bK, H⟩ := H
     replace H : (if bE = true then (some aA) else (spec_l4First.l0 k1 l0 (wrap64 (aA + 1)) aU aV aW)) = some r := H
     have A6 := Aside0.mk bK
     clear bK
     by_cases c7 : bE = true
     ·subst c7
      have H1 := pf H
      clear H
      have H := H1
      clear H1
      obtain rfl := sj H
      try go_wp2
      replace aC := am (blk_drew aC.out)
      replace HB := am (below_drew1 HB.out)
      have aY : 0 ≤ (aA : Int) := OD
      have aZ : aA < (l0.length : Int) := OD
      obtain ⟨aB, bB, aD, aE, aF, aG, aH, aI, aJ, aK⟩ := at_T107 bJ.out aA aY aZ
      have aL := aK
      have aM := aJ
      have aN := aI
      have aO := aH
      have aP := aG
      have aQ := aF
      have aR := aE
      have aS := aD
      cases bB
      replace aD := CX HB.out aD
      replace aE := CX HB.out aE
      replace aF := CX HB.out aF
      replace aG := CX HB.out aG
      replace aH := CX HB.out aH
      replace aI := CX HB.out aI
      replace aJ := CX HB.out aJ
      replace aK := CX HB.out aK
      replace aY := eq_true aY
      replace aZ := eq_true aZ
      refine start_ (n := 6) (S := fun w' => ce3 w' bA (.int .i64 aU) (.int .i64 aV) (.int .i64 aW) (w'.cell? (aB.add ((aA).toNat * 8)) = some (.int .i64 ((rd_T107 l0 aA).f0)) ∧ w'.cell? ⟨(aB.add ((aA).toNat * 8)).block, (aB.add ((aA).toNat * 8)).off + 1, none⟩ = some (.int .i64 ((rd_T107 l0 aA).f1)) ∧ w'.cell? ⟨(aB.add ((aA).toNat * 8)).block, (aB.add ((aA).toNat * 8)).off + 2, none⟩ = some (.int .i64 ((rd_T107 l0 aA).f2.f0)) ∧ w'.cell? ⟨(aB.add ((aA).toNat * 8)).block, (aB.add ((aA).toNat * 8)).off + 3, none⟩ = some (.int .i64 ((rd_T107 l0 aA).f2.f1)) ∧ w'.cell? ⟨(aB.add ((aA).toNat * 8)).block, (aB.add ((aA).toNat * 8)).off + 4, none⟩ = some (.int .i64 ((rd_T107 l0 aA).f3.f0)) ∧ w'.cell? ⟨(aB.add ((aA).toNat * 8)).block, (aB.add ((aA).toNat * 8)).off + 5, none⟩ = some (.int .i64 ((rd_T107 l0 aA).f3.f1)) ∧ w'.cell? ⟨(aB.add ((aA).toNat * 8)).block, (aB.add ((aA).toNat * 8)).off + 6, none⟩ = some (.int .i64 ((rd_T107 l0 aA).f4)) ∧ w'.cell? ⟨(aB.add ((aA).toNat * 8)).block, (aB.add ((aA).toNat * 8)).off + 7, none⟩ = some (.int .i64 ((rd_T107 l0 aA).f5)))) (ds := []) (tf 0 6) (by kernel_rfl) rfl rfl ⟨z0 _ aC.out, z1 _ aC.out, z2 _ aC.out, (CY HB.out aS), (CY HB.out aR), (CY HB.out aQ), (CY HB.out aP), (CY HB.out aO), (CY HB.out aN), (CY HB.out aM), (CY HB.out aL)⟩ (fun aT => ?_)
      generalize wr.drew = w8 at aC HB aD aE aF aG aH aI aJ aK aT ⊢
      refine pure_ (i := 0) (N := some 12) (v := ?_) (a' := ?_) (tf 1 5) rfl rfl (by kernel_rfl) (fun _ _ _ h => h) (Or.inl ⟨by rfl, ?_⟩) ?_ ?_; rotate_left; (· intro w'; go_simp; with_reducible rfl); rotate_left; (· simp only [Act.put, List.setIfInBounds_toArray, List.set_cons_zero, List.set_cons_succ, i64_w, i32_w]; rfl)
      refine pure_ (i := 1) (N := some 13) (v := ?_) (a' := ?_) (tf 2 4) rfl rfl (by kernel_rfl) (fun _ _ _ h => h) (Or.inl ⟨by rfl, ?_⟩) ?_ ?_; rotate_left; (· intro w'; go_simp; with_reducible rfl); rotate_left; (· simp only [Act.put, List.setIfInBounds_toArray, List.set_cons_zero, List.set_cons_succ, i64_w, i32_w]; rfl)
      refine pure_ (i := 2) (N := some 14) (v := ?_) (a' := ?_) (tf 3 3) rfl rfl (by kernel_rfl) (fun _ _ _ h => h) (Or.inl ⟨by rfl, ?_⟩) ?_ ?_; rotate_left; (· intro w'; go_simp; with_reducible rfl); rotate_left; (· simp only [Act.put, List.setIfInBounds_toArray, List.set_cons_zero, List.set_cons_succ, i64_w, i32_w]; rfl)
      refine take_ (i := 3) (N := some 15) (v := ?_) (a' := ?_) (tf 4 2) rfl rfl (by kernel_rfl) (fun _ _ _ h => h) (Or.inl ⟨by rfl, ?_⟩) aT ?_ ?_
      rotate_left
      ·rintro w' ⟨s0, s1, s2, s3, s4, s5, s6, s7, s8, s9, s10⟩
       go_simp
       with_reducible rfl
      rotate_left
      ·simp only [Act.put, List.setIfInBounds_toArray, List.set_cons_zero, List.set_cons_succ, i64_w, i32_w]
       rfl
      refine take_ (i := 4) (N := some 16) (v := ?_) (a' := ?_) (tf 5 1) rfl rfl (by kernel_rfl) (fun _ _ _ h => h) (Or.inl ⟨by rfl, ?_⟩) aT ?_ ?_
      rotate_left
      ·rintro w' ⟨s0, s1, s2, s3, s4, s5, s6, s7, s8, s9, s10⟩
       go_simp
       with_reducible rfl
      rotate_left
      ·simp only [Act.put, List.setIfInBounds_toArray, List.set_cons_zero, List.set_cons_succ, i64_w, i32_w]
       rfl
      refine one_ (i := 5) (N := some 17) (tf 6 0) rfl rfl (by kernel_rfl) (by decide) (fun K hK => ?_)
      refine goes_ Tryz.func82 (by kernel_rfl) rfl #[.agg #[.int .i64 ((rd_T107 l0 aA).f0), .int .i64 ((rd_T107 l0 aA).f1), .int .i64 ((rd_T107 l0 aA).f2.f0), .int .i64 ((rd_T107 l0 aA).f2.f1), .int .i64 ((rd_T107 l0 aA).f3.f0), .int .i64 ((rd_T107 l0 aA).f3.f1), .int .i64 ((rd_T107 l0 aA).f4), .int .i64 ((rd_T107 l0 aA).f5)], .agg #[.int .i64 aU, .int .i64 aV, .int .i64 aW]] (by rfl) rfl rfl MT ?_
      with_reducible refine (spec_l4About.calls k1 ((rd_T107 l0 aA).f0) ((rd_T107 l0 aA).f1) ((rd_T107 l0 aA).f2.f0) ((rd_T107 l0 aA).f2.f1) ((rd_T107 l0 aA).f3.f0) ((rd_T107 l0 aA).f3.f1) ((rd_T107 l0 aA).f4) ((rd_T107 l0 aA).f5) aU aV aW true _ A6.out).mono ?_
      rintro e w9 ⟨rfl, hb⟩
      refine ⟨_, rfl, ?_⟩
      replace aC := am (BB aC hb)
      replace HB := bl (K1 HB aX.out) hb
      (try clear hb)
      (try clear hb2)
      (try clear hk)
      (try clear hi)
      refine hK.out _ _ ⟨z0 _ aC.out, z1 _ aC.out, z2 _ aC.out, (CY HB.out aS), (CY HB.out aR), (CY HB.out aQ), (CY HB.out aP), (CY HB.out aO), (CY HB.out aN), (CY HB.out aM), (CY HB.out aL)⟩ (fun aT => ?_)
      clear hK K
      refine nm (some 17) ?_
      refine done_ (by kernel_rfl) ?_
      try go_wp2
      go_ret
      exact ⟨ER, K1 HB aX.out⟩
     ·replace c7 := Bool.eq_false_iff.mpr c7
      subst c7
      have H1 := nf H
      clear H
      have H := H1
      clear H1
      have H' := Aside0.mk H
      clear H
      try go_wp2
      replace aC := am (blk_drew aC.out)
      replace HB := am (below_drew1 HB.out)
      have aY : 0 ≤ (aA : Int) := OD
      have aZ : aA < (l0.length : Int) := OD
      obtain ⟨aB, bB, aD, aE, aF, aG, aH, aI, aJ, aK⟩ := at_T107 bJ.out aA aY aZ
      have aL := aK
      have aM := aJ
      have aN := aI
      have aO := aH
      have aP := aG
      have aQ := aF
      have aR := aE
      have aS := aD
      cases bB
      replace aD := CX HB.out aD
      replace aE := CX HB.out aE
      replace aF := CX HB.out aF
      replace aG := CX HB.out aG
      replace aH := CX HB.out aH
      replace aI := CX HB.out aI
      replace aJ := CX HB.out aJ
      replace aK := CX HB.out aK
      replace aY := eq_true aY
      replace aZ := eq_true aZ
      refine start_ (n := 6) (S := fun w' => ce3 w' bA (.int .i64 aU) (.int .i64 aV) (.int .i64 aW) (w'.cell? (aB.add ((aA).toNat * 8)) = some (.int .i64 ((rd_T107 l0 aA).f0)) ∧ w'.cell? ⟨(aB.add ((aA).toNat * 8)).block, (aB.add ((aA).toNat * 8)).off + 1, none⟩ = some (.int .i64 ((rd_T107 l0 aA).f1)) ∧ w'.cell? ⟨(aB.add ((aA).toNat * 8)).block, (aB.add ((aA).toNat * 8)).off + 2, none⟩ = some (.int .i64 ((rd_T107 l0 aA).f2.f0)) ∧ w'.cell? ⟨(aB.add ((aA).toNat * 8)).block, (aB.add ((aA).toNat * 8)).off + 3, none⟩ = some (.int .i64 ((rd_T107 l0 aA).f2.f1)) ∧ w'.cell? ⟨(aB.add ((aA).toNat * 8)).block, (aB.add ((aA).toNat * 8)).off + 4, none⟩ = some (.int .i64 ((rd_T107 l0 aA).f3.f0)) ∧ w'.cell? ⟨(aB.add ((aA).toNat * 8)).block, (aB.add ((aA).toNat * 8)).off + 5, none⟩ = some (.int .i64 ((rd_T107 l0 aA).f3.f1)) ∧ w'.cell? ⟨(aB.add ((aA).toNat * 8)).block, (aB.add ((aA).toNat * 8)).off + 6, none⟩ = some (.int .i64 ((rd_T107 l0 aA).f4)) ∧ w'.cell? ⟨(aB.add ((aA).toNat * 8)).block, (aB.add ((aA).toNat * 8)).off + 7, none⟩ = some (.int .i64 ((rd_T107 l0 aA).f5)))) (ds := []) (tf 0 6) (by kernel_rfl) rfl rfl ⟨z0 _ aC.out, z1 _ aC.out, z2 _ aC.out, (CY HB.out aS), (CY HB.out aR), (CY HB.out aQ), (CY HB.out aP), (CY HB.out aO), (CY HB.out aN), (CY HB.out aM), (CY HB.out aL)⟩ (fun aT => ?_)
      generalize wr.drew = bM at aC HB aD aE aF aG aH aI aJ aK aT ⊢
      refine pure_ (i := 0) (N := some 12) (v := ?_) (a' := ?_) (tf 1 5) rfl rfl (by kernel_rfl) (fun _ _ _ h => h) (Or.inl ⟨by rfl, ?_⟩) ?_ ?_; rotate_left; (· intro w'; go_simp; with_reducible rfl); rotate_left; (· simp only [Act.put, List.setIfInBounds_toArray, List.set_cons_zero, List.set_cons_succ, i64_w, i32_w]; rfl)
      refine pure_ (i := 1) (N := some 13) (v := ?_) (a' := ?_) (tf 2 4) rfl rfl (by kernel_rfl) (fun _ _ _ h => h) (Or.inl ⟨by rfl, ?_⟩) ?_ ?_; rotate_left; (· intro w'; go_simp; with_reducible rfl); rotate_left; (· simp only [Act.put, List.setIfInBounds_toArray, List.set_cons_zero, List.set_cons_succ, i64_w, i32_w]; rfl)
      refine pure_ (i := 2) (N := some 14) (v := ?_) (a' := ?_) (tf 3 3) rfl rfl (by kernel_rfl) (fun _ _ _ h => h) (Or.inl ⟨by rfl, ?_⟩) ?_ ?_; rotate_left; (· intro w'; go_simp; with_reducible rfl); rotate_left; (· simp only [Act.put, List.setIfInBounds_toArray, List.set_cons_zero, List.set_cons_succ, i64_w, i32_w]; rfl)
      refine take_ (i := 3) (N := some 15) (v := ?_) (a' := ?_) (tf 4 2) rfl rfl (by kernel_rfl) (fun _ _ _ h => h) (Or.inl ⟨by rfl, ?_⟩) aT ?_ ?_
      rotate_left
      ·rintro w' ⟨s0, s1, s2, s3, s4, s5, s6, s7, s8, s9, s10⟩
       go_simp
       with_reducible rfl
      rotate_left
      ·simp only [Act.put, List.setIfInBounds_toArray, List.set_cons_zero, List.set_cons_succ, i64_w, i32_w]
       rfl
      refine take_ (i := 4) (N := some 16) (v := ?_) (a' := ?_) (tf 5 1) rfl rfl (by kernel_rfl) (fun _ _ _ h => h) (Or.inl ⟨by rfl, ?_⟩) aT ?_ ?_
      rotate_left
      ·rintro w' ⟨s0, s1, s2, s3, s4, s5, s6, s7, s8, s9, s10⟩
       go_simp
       with_reducible rfl
      rotate_left
      ·simp only [Act.put, List.setIfInBounds_toArray, List.set_cons_zero, List.set_cons_succ, i64_w, i32_w]
       rfl
      refine one_ (i := 5) (N := some 17) (tf 6 0) rfl rfl (by kernel_rfl) (by decide) (fun K hK => ?_)
      refine goes_ Tryz.func82 (by kernel_rfl) rfl #[.agg #[.int .i64 ((rd_T107 l0 aA).f0), .int .i64 ((rd_T107 l0 aA).f1), .int .i64 ((rd_T107 l0 aA).f2.f0), .int .i64 ((rd_T107 l0 aA).f2.f1), .int .i64 ((rd_T107 l0 aA).f3.f0), .int .i64 ((rd_T107 l0 aA).f3.f1), .int .i64 ((rd_T107 l0 aA).f4), .int .i64 ((rd_T107 l0 aA).f5)], .agg #[.int .i64 aU, .int .i64 aV, .int .i64 aW]] (by rfl) rfl rfl MT ?_
      with_reducible refine (spec_l4About.calls k1 ((rd_T107 l0 aA).f0) ((rd_T107 l0 aA).f1) ((rd_T107 l0 aA).f2.f0) ((rd_T107 l0 aA).f2.f1) ((rd_T107 l0 aA).f3.f0) ((rd_T107 l0 aA).f3.f1) ((rd_T107 l0 aA).f4) ((rd_T107 l0 aA).f5) aU aV aW false _ A6.out).mono ?_
      rintro e bN ⟨rfl, hb⟩
      refine ⟨_, rfl, ?_⟩
      replace aC := am (BB aC hb)
      replace HB := bl (K1 HB aX.out) hb
      (try clear hb)
      (try clear hb2)
      (try clear hk)
      (try clear hi)
      refine hK.out _ _ ⟨z0 _ aC.out, z1 _ aC.out, z2 _ aC.out, (CY HB.out aS), (CY HB.out aR), (CY HB.out aQ), (CY HB.out aP), (CY HB.out aO), (CY HB.out aN), (CY HB.out aM), (CY HB.out aL)⟩ (fun aT => ?_)
      clear hK K
      refine nm (some 17) ?_
      refine done_ (by kernel_rfl) ?_
      try go_wp2
      go_roundg k1
      case measure => have := HK1.out; omega
      case rel => exact ⟨(wrap64 (aA + 1)), (by first | rfl | (simp; done) | (simp [*]; done)), H', ⟨by have := HK1.out; omega⟩, ⟨KB aC⟩, ⟨K1 HB aX.out⟩⟩
    ·rw [if_neg c5] at H
     exact absurd H (by simp)
   ·rw [if_neg c4] at H
    have c4b0 : decide (aA < (l0.length : Int)) = false := decide_eq_false c4
    clear c4
    obtain rfl := sj H
    go_wp2
    go_ret
    exact ⟨ER, K1 HB aX.out⟩
end Go.Proofs.YtgjbbnmjeblcgaaGreat.PAll
end
section
namespace Go.Proofs.YtgjbbnmjeblcgaaGreat.PAll
open Go.RowKit Go.Proofs.YtgjbbnmjeblcgaaGreatW.PrintWords Go.Proofs.YtgjbbnmjeblcgaaGreatW.PrintLast Go.Proofs.YtgjbbnmjeblcgaaGreatW.PrintMore
attribute [local go_sem] max2_int min2_int max_two min_two max_three min_three max_four min_four
set_option linter.unusedVariables false
set_option linter.unusedSimpArgs false
attribute [local go_sem high] eqA126
mutual
def spec_CacheOk.j0 : Nat → List (S107) → Bool → Int → List (S128) → Option (Bool)
 | 0, _, _, _, _ => none
 | k + 1, x0, x23, x102000, x102001 => if x23 = true then (some false) else (spec_CacheOk.l0 k x0 0 x102000 x102001)
def spec_CacheOk.l0 : Nat → List (S107) → Int → Int → List (S128) → Option (Bool)
 | 0, _, _, _, _ => none
 | k + 1, x0, x5, x102000, x102001 => if x5 < (x102001.length : Int) then (if 0 ≤ x5 then ((spec_l4Call.f ((rd_T128 x102001 x5).f0.f0) ((rd_T128 x102001 x5).f0.f1) ((rd_T128 x102001 x5).f0.f2)).bind fun t105 => (if t105 = true then ((spec_l4First.f k x0 ((rd_T128 x102001 x5).f0.f0) ((rd_T128 x102001 x5).f0.f1) ((rd_T128 x102001 x5).f0.f2)).bind fun t108 => (spec_CacheOk.j2 k x0 x5 (((rd_T128 x102001 x5).f1) != t108) x102000 x102001)) else (spec_CacheOk.j2 k x0 x5 true x102000 x102001))) else (none)) else (some true)
def spec_CacheOk.j2 : Nat → List (S107) → Int → Bool → Int → List (S128) → Option (Bool)
 | 0, _, _, _, _, _ => none
 | k + 1, x0, x5, x55, x102000, x102001 => if x55 = true then (some false) else (spec_CacheOk.l1 k x0 x5 0 x102000 x102001)
def spec_CacheOk.l1 : Nat → List (S107) → Int → Int → Int → List (S128) → Option (Bool)
 | 0, _, _, _, _, _ => none
 | k + 1, x0, x5, x6, x102000, x102001 => if x6 < x5 then (if 0 ≤ x6 then (if x6 < (x102001.length : Int) then (if 0 ≤ x5 then (if x5 < (x102001.length : Int) then (if (((rd_T128 x102001 x6).f0.f0) == ((rd_T128 x102001 x5).f0.f0) && (((rd_T128 x102001 x6).f0.f1) == ((rd_T128 x102001 x5).f0.f1) && (((rd_T128 x102001 x6).f0.f2) == ((rd_T128 x102001 x5).f0.f2)))) = true then (some false) else (spec_CacheOk.l1 k x0 x5 (wrap64 (x6 + 1)) x102000 x102001)) else (none)) else (none)) else (none)) else (none)) else (spec_CacheOk.l0 k x0 (wrap64 (x5 + 1)) x102000 x102001)
end
def spec_CacheOk.f (k : Nat) (l0 : List (S107)) (a1_0 : Int) (l1_1 : List (S128)) : Option (Bool) := (spec_RulesOk.f k l0).bind fun t102 => (if t102 = true then ((spec_l1In.f a1_0 0 16).bind fun t103 => (if t103 = true then (spec_CacheOk.j0 k l0 (decide ((l1_1.length : Int) > a1_0)) a1_0 l1_1) else (spec_CacheOk.j0 k l0 true a1_0 l1_1))) else (spec_CacheOk.j0 k l0 true a1_0 l1_1))
def spec_CacheOk.T6 : Bool × List (List Nat × List Nat) := (true, [([], []), ([0], [0]), ([], []), ([1, 2], [1, 2]), ([3], [3]), ([4], [4]), ([5], [5]), ([6], [6]), ([7, 6], [7]), ([8], [8]), ([9, 8], [8, 9]), ([8], [8]), ([10, 11, 8], [8, 10, 11]), ([12, 8], [8, 12]), ([13, 8], [8, 13]), ([8], [8]), ([8], [8]), ([16, 8], [8, 16]), ([8], [8]), ([17, 18, 8], [8, 17, 18]), ([19, 8], [8, 19]), ([20, 8], [8, 20]), ([15, 21, 8, 8], [8, 15, 21]), ([14, 22, 8], [8, 14, 22]), ([8, 23], [8, 23])])
def spec_CacheOk.B6 : List Nat := [0, 1, 0, 7, 15, 31, 63, 127, 255, 511, 1023, 511, 4095, 8191, 16383, 511, 511, 66047, 511, 459263, 983551, 2032127, 4162047, 8388607, 16777215]
theorem spec_CacheOk.tab6 : rtab .any (opsOf Tryz.f45 6) = spec_CacheOk.T6 := by kernel_rfl
theorem spec_CacheOk.bits6 : waitsOk spec_CacheOk.T6.2 spec_CacheOk.B6 = true := by kernel_rfl
def spec_CacheOk.T11 : Bool × List (List Nat × List Nat) := (true, [([], []), ([0], [0]), ([], []), ([1, 2], [1, 2]), ([3], [3]), ([4], [4]), ([], []), ([6], [6]), ([], []), ([7, 8], [7, 8]), ([9], [9]), ([10], [10]), ([5, 11], [5, 11])])
def spec_CacheOk.B11 : List Nat := [0, 1, 0, 7, 15, 31, 0, 64, 0, 448, 960, 1984, 4095]
theorem spec_CacheOk.tab11 : rtab .any (opsOf Tryz.f45 11) = spec_CacheOk.T11 := by kernel_rfl
theorem spec_CacheOk.bits11 : waitsOk spec_CacheOk.T11.2 spec_CacheOk.B11 = true := by kernel_rfl
theorem spec_CacheOk.calls (k : Nat) (A0 : Option Addr) (c0 : Nat) (l0 : List (S107)) (aI : Int) (cL : Option Addr) (bQ : Nat) (aB : List (S128)) (r : Bool) (w : World) (eJ : Kd.C k107 w A0 l0.length l0) (eK : l0.length ≤ c0) (dD : Kd.C k128 w cL aB.length aB) (dE : aB.length ≤ bQ) (h : spec_CacheOk.f k l0 aI aB = some r) :
  Calls Tryz.prog 45 #[.slice A0 l0.length c0, .agg #[.int .i64 aI, .slice cL aB.length bQ]] w fun e w' => e = .returned (.bool r) ∧ Below w.heap.size w w' := by
 have eS := Tryz.underlying38
 have eL := Tryz.underlying126
 have dW := Aside0.mk eJ
 have dX := Aside0.mk eK
 clear eJ eK
 have bI := Aside0.mk dD
 have eM := Aside0.mk dE
 clear dD dE
 have HB := am (Below.refl w.heap.size w)
 have H : ((spec_RulesOk.f k l0).bind fun dC => (if dC = true then ((spec_l1In.f aI 0 16).bind fun cU => (if cU = true then (spec_CacheOk.j0 k l0 (decide ((aB.length : Int) > aI)) aI aB) else (spec_CacheOk.j0 k l0 true aI aB))) else (spec_CacheOk.j0 k l0 true aI aB))) = some r := h
 clear h
 have eF := Aside0.mk H
 clear H
 go_enter Tryz.func45, Tryz.ntmps45
 go_upto_region 1 with (first | ((with_reducible refine gate_dst (N := 3) rfl ?_); (try (refine gate_guard (by rfl) ?_; dsimp only)); refine box_event rfl (N := 3) rfl (cs := #[.int .i64 aI, .slice cL aB.length bQ]) (t := 38) BX ?_; intro bJ hg w4 dO hb; have aC := am (dO); have dP := am (GH HB hg); have aJ := dP; replace HB := bl (KL HB) hb; clear hb dO hg))
 (try simp only [Act.put, List.setIfInBounds_toArray, List.set_cons_zero, List.set_cons_succ])
 go_cut [23] (fun eT wc => ∃ (kq : Nat) (cQ : Bool), eT = .bool cQ ∧ Aside0 (spec_CacheOk.j0 kq l0 cQ aI aB = some r) ∧ Aside0 (kq ≤ k) ∧ Aside0 (wc.heap[bJ]? = some (.cells #[.int .i64 aI, (.slice cL aB.length bQ)] 38 (0, 0))) ∧ Aside0 (Below w.heap.size w wc))
 case first =>
  have H := eF.out
  clear eF
  replace H := bm H
  obtain ⟨dC, eN, H⟩ := H
  replace H : (if dC = true then ((spec_l1In.f aI 0 16).bind fun cU => (if cU = true then (spec_CacheOk.j0 k l0 (decide ((aB.length : Int) > aI)) aI aB) else (spec_CacheOk.j0 k l0 true aI aB))) else (spec_CacheOk.j0 k l0 true aI aB)) = some r := H
  have A5 := Aside0.mk eN
  clear eN
  by_cases c6 : dC = true
  ·subst c6
   have H1 := pf H
   clear H
   have H := H1
   clear H1
   replace H := bm H
   obtain ⟨cU, eO, H⟩ := H
   replace H : (if cU = true then (spec_CacheOk.j0 k l0 (decide ((aB.length : Int) > aI)) aI aB) else (spec_CacheOk.j0 k l0 true aI aB)) = some r := H
   have A7 := Aside0.mk eO
   clear eO
   by_cases c8 : cU = true
   ·subst c8
    have H1 := pf H
    clear H
    have H := H1
    clear H1
    have H' := Aside0.mk H
    clear H
    go_wp2_with (first | ((with_reducible refine gate_callee (f := 62) rfl ?_); refine goesL_ (some 8) rfl rfl Tryz.func62 (by kernel_rfl) rfl #[.slice A0 l0.length c0] rfl MT ?_; (with_reducible refine (spec_RulesOk.calls k _ _ l0 true _ ?_ ?_ A5.out).mono ?_); exact KD dW HB; exact dX.out; rintro e w9 ⟨rfl, hb⟩; refine ⟨_, rfl, ?_⟩; replace aC := am (BB aC hb); replace HB := bl (K1 HB aJ.out) hb; (try clear hb); obtain ⟨bK, bL, bM⟩ := y2 w9 aC.out) | (go_at_call 44; (with_reducible refine (spec_l1In.calls aI 0 16 true _ A7.out).mono ?_); rintro e w' ⟨rfl, ⟨nd, rfl⟩⟩))
    go_meet
    case rel => exact ⟨_, (decide ((aB.length : Int) > aI)), (by first | rfl | (simp; done) | (simp [*]; done)), H', ⟨by first | omega | exact Nat.le_refl _⟩, ⟨KB aC⟩, ⟨K1 HB aJ.out⟩⟩
   ·replace c8 := Bool.eq_false_iff.mpr c8
    subst c8
    have H1 := nf H
    clear H
    have H := H1
    clear H1
    have H' := Aside0.mk H
    clear H
    go_wp2_with (first | ((with_reducible refine gate_callee (f := 62) rfl ?_); refine goesL_ (some 8) rfl rfl Tryz.func62 (by kernel_rfl) rfl #[.slice A0 l0.length c0] rfl MT ?_; (with_reducible refine (spec_RulesOk.calls k _ _ l0 true _ ?_ ?_ A5.out).mono ?_); exact KD dW HB; exact dX.out; rintro e eU ⟨rfl, hb⟩; refine ⟨_, rfl, ?_⟩; replace aC := am (BB aC hb); replace HB := bl (K1 HB aJ.out) hb; (try clear hb); obtain ⟨bN, bO, bP⟩ := y2 eU aC.out) | (go_at_call 44; (with_reducible refine (spec_l1In.calls aI 0 16 false _ A7.out).mono ?_); rintro e w' ⟨rfl, ⟨nd, rfl⟩⟩))
    go_meet
    case rel => exact ⟨_, (true), (by first | rfl | (simp; done) | (simp [*]; done)), H', ⟨by first | omega | exact Nat.le_refl _⟩, ⟨KB aC⟩, ⟨K1 HB aJ.out⟩⟩
  ·replace c6 := Bool.eq_false_iff.mpr c6
   subst c6
   have H1 := nf H
   clear H
   have H := H1
   clear H1
   have H' := Aside0.mk H
   clear H
   go_wp2_with (first | ((with_reducible refine gate_callee (f := 62) rfl ?_); refine goesL_ (some 8) rfl rfl Tryz.func62 (by kernel_rfl) rfl #[.slice A0 l0.length c0] rfl MT ?_; (with_reducible refine (spec_RulesOk.calls k _ _ l0 false _ ?_ ?_ A5.out).mono ?_); exact KD dW HB; exact dX.out; rintro e eY ⟨rfl, hb⟩; refine ⟨_, rfl, ?_⟩; replace aC := am (BB aC hb); replace HB := bl (K1 HB aJ.out) hb; (try clear hb)))
   go_meet
   case rel => exact ⟨_, (true), (by first | rfl | (simp; done) | (simp [*]; done)), H', ⟨by first | omega | exact Nat.le_refl _⟩, ⟨KB aC⟩, ⟨K1 HB aJ.out⟩⟩
 case rest =>
  clear eF
  try clear c1
  try clear p2
  try clear c4
  try clear c6
  try clear c8
  try clear bK bL bM
  try clear bN bO bP
  obtain ⟨kq, cQ, rfl, HA, HJ2, aC, HB⟩ := hcut
  cases kq with
  | zero => exact absurd HA.out (by simp [spec_CacheOk.j0])
  | succ kj2 =>
   have H := HA.out
   clear HA
   simp only [spec_CacheOk.j0] at H
   by_cases dG : cQ = true
   ·subst dG
    have H1 := pf H
    clear H
    have H := H1
    clear H1
    obtain rfl := sj H
    go_wp2
    go_ret
    exact ⟨ER, K1 HB aJ.out⟩
   ·replace dG := Bool.eq_false_iff.mpr dG
    subst dG
    have H1 := nf H
    clear H
    have H := H1
    clear H1
    have H' := Aside0.mk H
    clear H
    go_wp2
    go_loopg [5] kj2 (fun kq v5 w' => ∃ (aA : Int), v5 = .int .i64 aA ∧ Aside0 (spec_CacheOk.l0 kq l0 aA aI aB = some r) ∧ Aside0 (kq ≤ kj2) ∧ Aside0 (w'.heap[bJ]? = some (.cells #[.int .i64 aI, (.slice cL aB.length bQ)] 38 (0, 0))) ∧ Aside0 (Below w.heap.size w w'))
    case atStart => exact ⟨(0), (by first | rfl | (simp; done) | (simp [*]; done)), H', ⟨Nat.le_refl _⟩, ⟨KB aC⟩, ⟨K1 HB aJ.out⟩⟩
    case round =>
     clear H'
     try clear c1
     try clear p2
     try clear c4
     try clear c6
     try clear c8
     try clear dG
     try clear bK bL bM
     try clear bN bO bP
     try clear p2
     obtain ⟨aA, rfl, HA, HK2, aC, HB⟩ := hrel
     cases gk with
     | zero => exact absurd HA.out (by simp [spec_CacheOk.l0])
     | succ k2 =>
      have H := HA.out
      clear HA
      simp only [spec_CacheOk.l0] at H
      by_cases dF : aA < (aB.length : Int)
      ·rw [if_pos dF] at H
       have c15b0 : decide (aA < (aB.length : Int)) = true := decide_eq_true dF
       clear dF
       have dH := Aside0.mk H
       clear H
       obtain ⟨cR, cS, cT⟩ := y2 wr aC.out
       go_upto_region 6 with (fail)
       go_cut [55] (fun eV wc => ∃ (kq : Nat) (bR : Bool), eV = .bool bR ∧ Aside0 (spec_CacheOk.j2 kq l0 aA bR aI aB = some r) ∧ Aside0 (kq ≤ k2) ∧ Aside0 (wc.heap[bJ]? = some (.cells #[.int .i64 aI, (.slice cL aB.length bQ)] 38 (0, 0))) ∧ Aside0 (Below w.heap.size w wc))
       case first =>
        have H := dH.out
        clear dH
        by_cases dL : 0 ≤ aA
        ·rw [if_pos dL] at H
         have c18b0 : decide (0 ≤ aA) = true := decide_eq_true dL
         clear dL
         (first | rw [c18b0] | (simp only [i64_w, i32_w]; rw [c18b0]) | skip)
         replace H := bm H
         obtain ⟨dQ, dR, H⟩ := H
         replace H : (if dQ = true then ((spec_l4First.f k2 l0 ((rd_T128 aB aA).f0.f0) ((rd_T128 aB aA).f0.f1) ((rd_T128 aB aA).f0.f2)).bind fun cV => (spec_CacheOk.j2 k2 l0 aA (((rd_T128 aB aA).f1) != cV) aI aB)) else (spec_CacheOk.j2 k2 l0 aA true aI aB)) = some r := H
         have eP := Aside0.mk dR
         clear dR
         by_cases dM : dQ = true
         ·subst dM
          have H1 := pf H
          clear H
          have H := H1
          clear H1
          replace H := bm H
          obtain ⟨cV, dS, H⟩ := H
          replace H : (spec_CacheOk.j2 k2 l0 aA (((rd_T128 aB aA).f1) != cV) aI aB) = some r := H
          have eW := Aside0.mk dS
          clear dS
          have H' := Aside0.mk H
          clear H
          try go_wp2
          replace aC := am (blk_drew aC.out)
          replace HB := am (below_drew1 HB.out)
          have bS : 0 ≤ (aA : Int) := OD
          have bT : aA < (aB.length : Int) := OD
          obtain ⟨aE, dI, aK, aL, aM, aN⟩ := at_T128 bI.out aA bS bT
          have aW := aN
          have aX := aM
          have aY := aL
          have aZ := aK
          cases dI
          replace aK := CX HB.out aK
          replace aL := CX HB.out aL
          replace aM := CX HB.out aM
          replace aN := CX HB.out aN
          replace bS := eq_true bS
          replace bT := eq_true bT
          have cW : 0 ≤ (aA : Int) := OD
          have cX : aA < (aB.length : Int) := OD
          obtain ⟨dT, eG, bA, bB, bC, bD⟩ := at_T128 bI.out aA cW cX
          have bU := bD
          have bV := bC
          have bW := bB
          have bX := bA
          obtain rfl : aE = dT := (by injection eG)
          replace bA := CX HB.out bA
          replace bB := CX HB.out bB
          replace bC := CX HB.out bC
          replace bD := CX HB.out bD
          replace cW := eq_true cW
          replace cX := eq_true cX
          have cY : 0 ≤ (aA : Int) := OD
          have cZ : aA < (aB.length : Int) := OD
          obtain ⟨dU, eH, bE, bF, bG, bH⟩ := at_T128 bI.out aA cY cZ
          have bY := bH
          have bZ := bG
          have cA := bF
          have cB := bE
          obtain rfl : aE = dU := (by injection eH)
          replace bE := CX HB.out bE
          replace bF := CX HB.out bF
          replace bG := CX HB.out bG
          replace bH := CX HB.out bH
          replace cY := eq_true cY
          replace cZ := eq_true cZ
          refine start_ (n := 25) (S := fun w' => ce2 w' bJ (.int .i64 aI) (.slice (some aE) aB.length bQ) (w'.cell? (aE.add ((aA).toNat * 4)) = some (.int .i64 ((rd_T128 aB aA).f0.f0)) ∧ w'.cell? ⟨(aE.add ((aA).toNat * 4)).block, (aE.add ((aA).toNat * 4)).off + 1, none⟩ = some (.int .i64 ((rd_T128 aB aA).f0.f1)) ∧ w'.cell? ⟨(aE.add ((aA).toNat * 4)).block, (aE.add ((aA).toNat * 4)).off + 2, none⟩ = some (.int .i64 ((rd_T128 aB aA).f0.f2)) ∧ w'.cell? ⟨(aE.add ((aA).toNat * 4)).block, (aE.add ((aA).toNat * 4)).off + 3, none⟩ = some (.int .i64 ((rd_T128 aB aA).f1)) ∧ w'.cell? (aE.add ((aA).toNat * 4)) = some (.int .i64 ((rd_T128 aB aA).f0.f0)) ∧ w'.cell? ⟨(aE.add ((aA).toNat * 4)).block, (aE.add ((aA).toNat * 4)).off + 1, none⟩ = some (.int .i64 ((rd_T128 aB aA).f0.f1)) ∧ w'.cell? ⟨(aE.add ((aA).toNat * 4)).block, (aE.add ((aA).toNat * 4)).off + 2, none⟩ = some (.int .i64 ((rd_T128 aB aA).f0.f2)) ∧ w'.cell? ⟨(aE.add ((aA).toNat * 4)).block, (aE.add ((aA).toNat * 4)).off + 3, none⟩ = some (.int .i64 ((rd_T128 aB aA).f1)) ∧ w'.cell? (aE.add ((aA).toNat * 4)) = some (.int .i64 ((rd_T128 aB aA).f0.f0)) ∧ w'.cell? ⟨(aE.add ((aA).toNat * 4)).block, (aE.add ((aA).toNat * 4)).off + 1, none⟩ = some (.int .i64 ((rd_T128 aB aA).f0.f1)) ∧ w'.cell? ⟨(aE.add ((aA).toNat * 4)).block, (aE.add ((aA).toNat * 4)).off + 2, none⟩ = some (.int .i64 ((rd_T128 aB aA).f0.f2)) ∧ w'.cell? ⟨(aE.add ((aA).toNat * 4)).block, (aE.add ((aA).toNat * 4)).off + 3, none⟩ = some (.int .i64 ((rd_T128 aB aA).f1)))) (ds := []) (tf 0 25) (by kernel_rfl) rfl rfl ⟨z0 _ aC.out, z1 _ aC.out, (CY HB.out aZ), (CY HB.out aY), (CY HB.out aX), (CY HB.out aW), (CY HB.out bX), (CY HB.out bW), (CY HB.out bV), (CY HB.out bU), (CY HB.out cB), (CY HB.out cA), (CY HB.out bZ), (CY HB.out bY)⟩ (fun aH => ?_); refine with_tabW spec_CacheOk.tab6 spec_CacheOk.bits6 (fun aG cC => ?_)
          generalize wr.drew = eZ at aC HB aK aL aM aN bA bB bC bD bE bF bG bH aH ⊢
          refine pv aG 0 31 (tf 1 24) ?_
          refine pv aG 2 33 (tr [1, 1, 1, 22]) ?_
          refine tk 1 (some 32) (tf 3 22) (take_ofW aG.out cC.out (by kernel_rfl)) aH ?_
          refine pv aG 3 34 (tf 4 21) ?_
          refine pv aG 4 35 (tf 5 20) ?_
          refine tk 5 (some 36) (tf 6 19) (take_ofW aG.out cC.out (by kernel_rfl)) aH ?_
          refine one_ (i := 6) (N := some 37) (tf 7 18) rfl rfl (one_of aG.out (by kernel_rfl)) (by decide) (fun K hK => ?_)
          refine goes_ Tryz.func63 (by kernel_rfl) rfl #[.agg #[.int .i64 ((rd_T128 aB aA).f0.f0), .int .i64 ((rd_T128 aB aA).f0.f1), .int .i64 ((rd_T128 aB aA).f0.f2)]] (by rfl) rfl rfl MT ?_
          with_reducible refine (spec_l4Call.calls ((rd_T128 aB aA).f0.f0) ((rd_T128 aB aA).f0.f1) ((rd_T128 aB aA).f0.f2) true _ eP.out).mono ?_
          rintro e fA ⟨rfl, hb⟩
          refine ⟨_, rfl, ?_⟩
          replace aC := am (BB aC hb)
          replace HB := bl (K1 HB aJ.out) hb
          (try clear hb)
          (try clear hb2)
          (try clear hk)
          (try clear hi)
          refine hK.out _ _ ⟨z0 _ aC.out, z1 _ aC.out, (CY HB.out aZ), (CY HB.out aY), (CY HB.out aX), (CY HB.out aW), (CY HB.out bX), (CY HB.out bW), (CY HB.out bV), (CY HB.out bU), (CY HB.out cB), (CY HB.out cA), (CY HB.out bZ), (CY HB.out bY)⟩ (fun aH => ?_)
          clear hK K
          refine nm (some 37) ?_
          refine pv aG 7 38 (tf 8 17) ?_
          refine pv aG 8 39 (tf 9 16) ?_
          refine pv aG 9 40 (tf 10 15) ?_
          refine pv aG 11 42 (tr [10, 1, 1, 13]) ?_
          refine pv aG 15 46 (tr [10, 1, 1, 3, 1, 9]) ?_
          refine pv aG 16 47 (tr [10, 1, 1, 3, 2, 8]) ?_
          refine pv aG 18 49 (tr [10, 1, 1, 3, 2, 1, 1, 6]) ?_
          refine tk 10 (some 41) (tr [12, 3, 2, 1, 1, 6]) (take_ofW aG.out cC.out (by kernel_rfl)) aH ?_
          refine pv aG 12 43 (tr [13, 2, 2, 1, 1, 6]) ?_
          refine pv aG 13 44 (tr [14, 1, 2, 1, 1, 6]) ?_
          refine tk 14 (some 45) (tr [17, 1, 1, 6]) (take_ofW aG.out cC.out (by kernel_rfl)) aH ?_
          refine tk 17 (some 48) (tf 19 6) (take_ofW aG.out cC.out (by kernel_rfl)) aH ?_
          refine pv aG 19 50 (tf 20 5) ?_
          refine pv aG 20 51 (tf 21 4) ?_
          refine tk 21 (some 52) (tf 22 3) (take_ofW aG.out cC.out (by kernel_rfl)) aH ?_
          refine one_ (i := 22) (N := some 53) (tf 23 2) rfl rfl (one_of aG.out (by kernel_rfl)) (by decide) (fun K hK => ?_)
          refine goes_ Tryz.func64 (by kernel_rfl) rfl #[.slice A0 l0.length c0, .agg #[.int .i64 ((rd_T128 aB aA).f0.f0), .int .i64 ((rd_T128 aB aA).f0.f1), .int .i64 ((rd_T128 aB aA).f0.f2)]] (by rfl) rfl rfl MT ?_
          with_reducible refine (spec_l4First.calls k2 _ _ l0 ((rd_T128 aB aA).f0.f0) ((rd_T128 aB aA).f0.f1) ((rd_T128 aB aA).f0.f2) cV _ ?_ ?_ eW.out).mono ?_
          exact KD dW HB
          exact dX.out
          rintro e fB ⟨rfl, hb⟩
          refine ⟨_, rfl, ?_⟩
          replace aC := am (BB aC hb)
          replace HB := bl (K1 HB aJ.out) hb
          (try clear hb)
          (try clear hb2)
          (try clear hk)
          (try clear hi)
          refine hK.out _ _ ⟨z0 _ aC.out, z1 _ aC.out, (CY HB.out aZ), (CY HB.out aY), (CY HB.out aX), (CY HB.out aW), (CY HB.out bX), (CY HB.out bW), (CY HB.out bV), (CY HB.out bU), (CY HB.out cB), (CY HB.out cA), (CY HB.out bZ), (CY HB.out bY)⟩ (fun aH => ?_)
          clear hK K
          refine nm (some 53) ?_
          refine pv aG 23 54 (tf 24 1) ?_
          refine pv aG 24 55 (tf 25 0) ?_
          refine done_ (done_of aG.out (by kernel_rfl)) ?_
          try go_wp2
          go_meet
          case rel => exact ⟨_, ((((rd_T128 aB aA).f1) != cV)), (by first | rfl | (simp; done) | (simp [*]; done)), H', ⟨by have := HJ2.out; have := HK2.out; first | omega | exact Nat.le_refl _⟩, ⟨KB aC⟩, ⟨K1 HB aJ.out⟩⟩
         ·replace dM := Bool.eq_false_iff.mpr dM
          subst dM
          have H1 := nf H
          clear H
          have H := H1
          clear H1
          have H' := Aside0.mk H
          clear H
          try go_wp2
          replace aC := am (blk_drew aC.out)
          replace HB := am (below_drew1 HB.out)
          have bS : 0 ≤ (aA : Int) := OD
          have bT : aA < (aB.length : Int) := OD
          obtain ⟨aE, dI, aK, aL, aM, aN⟩ := at_T128 bI.out aA bS bT
          have aW := aN
          have aX := aM
          have aY := aL
          have aZ := aK
          cases dI
          replace aK := CX HB.out aK
          replace aL := CX HB.out aL
          replace aM := CX HB.out aM
          replace aN := CX HB.out aN
          replace bS := eq_true bS
          replace bT := eq_true bT
          refine start_ (n := 25) (S := fun w' => ce2 w' bJ (.int .i64 aI) (.slice (some aE) aB.length bQ) (w'.cell? (aE.add ((aA).toNat * 4)) = some (.int .i64 ((rd_T128 aB aA).f0.f0)) ∧ w'.cell? ⟨(aE.add ((aA).toNat * 4)).block, (aE.add ((aA).toNat * 4)).off + 1, none⟩ = some (.int .i64 ((rd_T128 aB aA).f0.f1)) ∧ w'.cell? ⟨(aE.add ((aA).toNat * 4)).block, (aE.add ((aA).toNat * 4)).off + 2, none⟩ = some (.int .i64 ((rd_T128 aB aA).f0.f2)) ∧ w'.cell? ⟨(aE.add ((aA).toNat * 4)).block, (aE.add ((aA).toNat * 4)).off + 3, none⟩ = some (.int .i64 ((rd_T128 aB aA).f1)))) (ds := []) (tf 0 25) (by kernel_rfl) rfl rfl ⟨z0 _ aC.out, z1 _ aC.out, (CY HB.out aZ), (CY HB.out aY), (CY HB.out aX), (CY HB.out aW)⟩ (fun aH => ?_); refine with_tabW spec_CacheOk.tab6 spec_CacheOk.bits6 (fun aG cC => ?_)
          generalize wr.drew = fC at aC HB aK aL aM aN aH ⊢
          refine pv aG 0 31 (tf 1 24) ?_
          refine pv aG 2 33 (tr [1, 1, 1, 22]) ?_
          refine tk 1 (some 32) (tf 3 22) (take_ofW aG.out cC.out (by kernel_rfl)) aH ?_
          refine pv aG 3 34 (tf 4 21) ?_
          refine pv aG 4 35 (tf 5 20) ?_
          refine tk 5 (some 36) (tf 6 19) (take_ofW aG.out cC.out (by kernel_rfl)) aH ?_
          refine one_ (i := 6) (N := some 37) (tf 7 18) rfl rfl (one_of aG.out (by kernel_rfl)) (by decide) (fun K hK => ?_)
          refine goes_ Tryz.func63 (by kernel_rfl) rfl #[.agg #[.int .i64 ((rd_T128 aB aA).f0.f0), .int .i64 ((rd_T128 aB aA).f0.f1), .int .i64 ((rd_T128 aB aA).f0.f2)]] (by rfl) rfl rfl MT ?_
          with_reducible refine (spec_l4Call.calls ((rd_T128 aB aA).f0.f0) ((rd_T128 aB aA).f0.f1) ((rd_T128 aB aA).f0.f2) false _ eP.out).mono ?_
          rintro e fD ⟨rfl, hb⟩
          refine ⟨_, rfl, ?_⟩
          replace aC := am (BB aC hb)
          replace HB := bl (K1 HB aJ.out) hb
          (try clear hb)
          (try clear hb2)
          (try clear hk)
          (try clear hi)
          refine hK.out _ _ ⟨z0 _ aC.out, z1 _ aC.out, (CY HB.out aZ), (CY HB.out aY), (CY HB.out aX), (CY HB.out aW)⟩ (fun aH => ?_)
          clear hK K
          refine nm (some 37) ?_
          refine pv aG 7 38 (tf 8 17) ?_
          refine pv aG 8 39 (tf 9 16) ?_
          refine pw aG 9 40 (tf 10 15) ?_
          refine pw aG 10 41 (tf 11 14) ?_
          refine pw aG 11 42 (tf 12 13) ?_
          refine pw aG 12 43 (tf 13 12) ?_
          refine pw aG 13 44 (tf 14 11) ?_
          refine pw aG 14 45 (tf 15 10) ?_
          refine pw aG 15 46 (tf 16 9) ?_
          refine pw aG 16 47 (tf 17 8) ?_
          refine pw aG 17 48 (tf 18 7) ?_
          refine pw aG 18 49 (tf 19 6) ?_
          refine pw aG 19 50 (tf 20 5) ?_
          refine pw aG 20 51 (tf 21 4) ?_
          refine pw aG 21 52 (tf 22 3) ?_
          refine pw aG 22 53 (tf 23 2) ?_
          refine pw aG 23 54 (tf 24 1) ?_
          refine pv aG 24 55 (tf 25 0) ?_
          refine done_ (done_of aG.out (by kernel_rfl)) ?_
          try go_wp2
          go_meet
          case rel => exact ⟨_, (true), (by first | rfl | (simp; done) | (simp [*]; done)), H', ⟨by have := HJ2.out; have := HK2.out; first | omega | exact Nat.le_refl _⟩, ⟨KB aC⟩, ⟨K1 HB aJ.out⟩⟩
        ·rw [if_neg dL] at H
         exact absurd H (by simp)
       case rest =>
        clear dH
        try clear c1
        try clear p1
        try clear q1
        try clear eX
        try clear c2
        try clear p2
        try clear c4
        try clear c6
        try clear c8
        try clear eQ
        try clear eR
        try clear eI
        try clear dG
        try clear dF
        try clear c15b0
        try clear dL
        try clear c18b0
        try clear dM
        try clear bK bL bM
        try clear bN bO bP
        try clear cR cS cT
        try clear aK
        try clear aL
        try clear aM
        try clear aN
        try clear bA
        try clear bB
        try clear bC
        try clear bD
        try clear bE
        try clear bF
        try clear bG
        try clear bH
        try clear bS
        try clear cW
        try clear cY
        try clear p2
        try clear bT
        try clear cX
        try clear cZ
        obtain ⟨kq, bR, rfl, HA, HJ15, aC, HB⟩ := hcut
        cases kq with
        | zero => exact absurd HA.out (by simp [spec_CacheOk.j2])
        | succ kj15 =>
         have H := HA.out
         clear HA
         simp only [spec_CacheOk.j2] at H
         by_cases dV : bR = true
         ·subst dV
          have H1 := pf H
          clear H
          have H := H1
          clear H1
          obtain rfl := sj H
          go_wp2
          go_ret
          exact ⟨ER, K1 HB aJ.out⟩
         ·replace dV := Bool.eq_false_iff.mpr dV
          subst dV
          have H1 := nf H
          clear H
          have H := H1
          clear H1
          have H' := Aside0.mk H
          clear H
          go_wp2
          go_loopg [6] kj15 (fun kq v6 w' => ∃ (aD : Int), v6 = .int .i64 aD ∧ Aside0 (spec_CacheOk.l1 kq l0 aA aD aI aB = some r) ∧ Aside0 (kq ≤ kj15) ∧ Aside0 (w'.heap[bJ]? = some (.cells #[.int .i64 aI, (.slice cL aB.length bQ)] 38 (0, 0))) ∧ Aside0 (Below w.heap.size w w'))
          case atStart => exact ⟨(0), (by first | rfl | (simp; done) | (simp [*]; done)), H', ⟨Nat.le_refl _⟩, ⟨KB aC⟩, ⟨K1 HB aJ.out⟩⟩
          case round =>
           clear H'
           try clear c1
           try clear p1
           try clear q1
           try clear eX
           try clear c2
           try clear p2
           try clear c4
           try clear c6
           try clear c8
           try clear eQ
           try clear eR
           try clear eI
           try clear dG
           try clear dF
           try clear c15b0
           try clear dL
           try clear c18b0
           try clear dM
           try clear dV
           try clear bK bL bM
           try clear bN bO bP
           try clear cR cS cT
           try clear aK
           try clear aL
           try clear aM
           try clear aN
           try clear bA
           try clear bB
           try clear bC
           try clear bD
           try clear bE
           try clear bF
           try clear bG
           try clear bH
           try clear p1
           try clear eQ
           try clear bS
           try clear cW
           try clear cY
           try clear p2
           try clear q1
           try clear eR
           try clear bT
           try clear cX
           try clear cZ
           obtain ⟨aD, rfl, HA, HK4, aC, HB⟩ := hrel
           cases gk with
           | zero => exact absurd HA.out (by simp [spec_CacheOk.l1])
           | succ k4 =>
            have H := HA.out
            clear HA
            simp only [spec_CacheOk.l1] at H
            by_cases dN : aD < aA
            ·rw [if_pos dN] at H
             have c28b0 : decide (aD < aA) = true := decide_eq_true dN
             clear dN
             by_cases dY : 0 ≤ aD
             ·rw [if_pos dY] at H
              have c29b0 : decide (0 ≤ aD) = true := decide_eq_true dY
              clear dY
              by_cases dZ : aD < (aB.length : Int)
              ·rw [if_pos dZ] at H
               have c30b0 : decide (aD < (aB.length : Int)) = true := decide_eq_true dZ
               clear dZ
               by_cases eA : 0 ≤ aA
               ·rw [if_pos eA] at H
                have c31b0 : decide (0 ≤ aA) = true := decide_eq_true eA
                clear eA
                by_cases eB : aA < (aB.length : Int)
                ·rw [if_pos eB] at H
                 have c32b0 : decide (aA < (aB.length : Int)) = true := decide_eq_true eB
                 clear eB
                 by_cases dA : (((rd_T128 aB aD).f0.f0) == ((rd_T128 aB aA).f0.f0) && (((rd_T128 aB aD).f0.f1) == ((rd_T128 aB aA).f0.f1) && (((rd_T128 aB aD).f0.f2) == ((rd_T128 aB aA).f0.f2)))) = true
                 ·rw [if_pos dA] at H
                  have c33b0 : (((rd_T128 aB aD).f0.f0) == ((rd_T128 aB aA).f0.f0) && (((rd_T128 aB aD).f0.f1) == ((rd_T128 aB aA).f0.f1) && (((rd_T128 aB aD).f0.f2) == ((rd_T128 aB aA).f0.f2)))) = true := dA
                  (try (have c33b1 : decide (((rd_T128 aB aD).f0.f0) = ((rd_T128 aB aA).f0.f0) && (((rd_T128 aB aD).f0.f1) == ((rd_T128 aB aA).f0.f1) && (((rd_T128 aB aD).f0.f2) == ((rd_T128 aB aA).f0.f2)))) = true := by simpa using dA))
                  (try (have c33b2 : (((rd_T128 aB aD).f0.f0) == ((rd_T128 aB aA).f0.f0) && (((rd_T128 aB aD).f0.f1) == ((rd_T128 aB aA).f0.f1) && (((rd_T128 aB aD).f0.f2) == ((rd_T128 aB aA).f0.f2)))) = true := by simpa using dA))
                  clear dA
                  obtain rfl := sj H
                  try go_wp2
                  replace aC := am (blk_drew aC.out)
                  replace HB := am (below_drew1 HB.out)
                  have cM : 0 ≤ (aD : Int) := OD
                  have cN : aD < (aB.length : Int) := OD
                  obtain ⟨aF, dJ, aO, aP, aQ, aR⟩ := at_T128 bI.out aD cM cN
                  have cD := aR
                  have cE := aQ
                  have cF := aP
                  have cG := aO
                  cases dJ
                  replace aO := CX HB.out aO
                  replace aP := CX HB.out aP
                  replace aQ := CX HB.out aQ
                  replace aR := CX HB.out aR
                  replace cM := eq_true cM
                  replace cN := eq_true cN
                  have cO : 0 ≤ (aA : Int) := OD
                  have cP : aA < (aB.length : Int) := OD
                  obtain ⟨dB, dK, aS, aT, aU, aV⟩ := at_T128 bI.out aA cO cP
                  have cH := aV
                  have cI := aU
                  have cJ := aT
                  have cK := aS
                  obtain rfl : aF = dB := (by injection dK)
                  replace aS := CX HB.out aS
                  replace aT := CX HB.out aT
                  replace aU := CX HB.out aU
                  replace aV := CX HB.out aV
                  replace cO := eq_true cO
                  replace cP := eq_true cP
                  refine start_ (n := 13) (S := fun w' => ce2 w' bJ (.int .i64 aI) (.slice (some aF) aB.length bQ) (w'.cell? (aF.add ((aD).toNat * 4)) = some (.int .i64 ((rd_T128 aB aD).f0.f0)) ∧ w'.cell? ⟨(aF.add ((aD).toNat * 4)).block, (aF.add ((aD).toNat * 4)).off + 1, none⟩ = some (.int .i64 ((rd_T128 aB aD).f0.f1)) ∧ w'.cell? ⟨(aF.add ((aD).toNat * 4)).block, (aF.add ((aD).toNat * 4)).off + 2, none⟩ = some (.int .i64 ((rd_T128 aB aD).f0.f2)) ∧ w'.cell? ⟨(aF.add ((aD).toNat * 4)).block, (aF.add ((aD).toNat * 4)).off + 3, none⟩ = some (.int .i64 ((rd_T128 aB aD).f1)) ∧ w'.cell? (aF.add ((aA).toNat * 4)) = some (.int .i64 ((rd_T128 aB aA).f0.f0)) ∧ w'.cell? ⟨(aF.add ((aA).toNat * 4)).block, (aF.add ((aA).toNat * 4)).off + 1, none⟩ = some (.int .i64 ((rd_T128 aB aA).f0.f1)) ∧ w'.cell? ⟨(aF.add ((aA).toNat * 4)).block, (aF.add ((aA).toNat * 4)).off + 2, none⟩ = some (.int .i64 ((rd_T128 aB aA).f0.f2)) ∧ w'.cell? ⟨(aF.add ((aA).toNat * 4)).block, (aF.add ((aA).toNat * 4)).off + 3, none⟩ = some (.int .i64 ((rd_T128 aB aA).f1)))) (ds := []) (tf 0 13) (by kernel_rfl) rfl rfl ⟨z0 _ aC.out, z1 _ aC.out, (CY HB.out cG), (CY HB.out cF), (CY HB.out cE), (CY HB.out cD), (CY HB.out cK), (CY HB.out cJ), (CY HB.out cI), (CY HB.out cH)⟩ (fun aH => ?_); refine with_tabW spec_CacheOk.tab11 spec_CacheOk.bits11 (fun aG cC => ?_)
                  generalize wr.drew = fE at aC HB aO aP aQ aR aS aT aU aV aH ⊢
                  refine pv aG 0 61 (tf 1 12) ?_
                  refine pv aG 2 63 (tr [1, 1, 1, 10]) ?_
                  refine pv aG 6 67 (tr [1, 1, 1, 3, 1, 6]) ?_
                  refine pv aG 8 69 (tr [1, 1, 1, 3, 1, 1, 1, 4]) ?_
                  refine tk 1 (some 62) (tr [3, 3, 1, 1, 1, 4]) (take_ofW aG.out cC.out (by kernel_rfl)) aH ?_
                  refine pv aG 3 64 (tr [4, 2, 1, 1, 1, 4]) ?_
                  refine pv aG 4 65 (tr [5, 1, 1, 1, 1, 4]) ?_
                  refine tk 5 (some 66) (tr [7, 1, 1, 4]) (take_ofW aG.out cC.out (by kernel_rfl)) aH ?_
                  refine tk 7 (some 68) (tf 9 4) (take_ofW aG.out cC.out (by kernel_rfl)) aH ?_
                  refine pv aG 9 70 (tf 10 3) ?_
                  refine pv aG 10 71 (tf 11 2) ?_
                  refine tk 11 (some 72) (tf 12 1) (take_ofW aG.out cC.out (by kernel_rfl)) aH ?_
                  refine pv aG 12 73 (tf 13 0) ?_
                  refine done_ (done_of aG.out (by kernel_rfl)) ?_
                  try go_wp2
                  go_ret
                  exact ⟨ER, K1 HB aJ.out⟩
                 ·rw [if_neg dA] at H
                  have c33b0 : (((rd_T128 aB aD).f0.f0) == ((rd_T128 aB aA).f0.f0) && (((rd_T128 aB aD).f0.f1) == ((rd_T128 aB aA).f0.f1) && (((rd_T128 aB aD).f0.f2) == ((rd_T128 aB aA).f0.f2)))) = false := by simpa using dA
                  (try (have c33b1 : decide (((rd_T128 aB aD).f0.f0) = ((rd_T128 aB aA).f0.f0) && (((rd_T128 aB aD).f0.f1) == ((rd_T128 aB aA).f0.f1) && (((rd_T128 aB aD).f0.f2) == ((rd_T128 aB aA).f0.f2)))) = false := by simpa using dA))
                  (try (have c33b2 : (((rd_T128 aB aD).f0.f0) == ((rd_T128 aB aA).f0.f0) && (((rd_T128 aB aD).f0.f1) == ((rd_T128 aB aA).f0.f1) && (((rd_T128 aB aD).f0.f2) == ((rd_T128 aB aA).f0.f2)))) = false := by simpa using dA))
                  (try (have c33b3 : ¬ (((rd_T128 aB aD).f0.f0) = ((rd_T128 aB aA).f0.f0) && (((rd_T128 aB aD).f0.f1) == ((rd_T128 aB aA).f0.f1) && (((rd_T128 aB aD).f0.f2) == ((rd_T128 aB aA).f0.f2)))) := by simpa using dA))
                  clear dA
                  have H' := Aside0.mk H
                  clear H
                  try go_wp2
                  replace aC := am (blk_drew aC.out)
                  replace HB := am (below_drew1 HB.out)
                  have cM : 0 ≤ (aD : Int) := OD
                  have cN : aD < (aB.length : Int) := OD
                  obtain ⟨aF, dJ, aO, aP, aQ, aR⟩ := at_T128 bI.out aD cM cN
                  have cD := aR
                  have cE := aQ
                  have cF := aP
                  have cG := aO
                  cases dJ
                  replace aO := CX HB.out aO
                  replace aP := CX HB.out aP
                  replace aQ := CX HB.out aQ
                  replace aR := CX HB.out aR
                  replace cM := eq_true cM
                  replace cN := eq_true cN
                  have cO : 0 ≤ (aA : Int) := OD
                  have cP : aA < (aB.length : Int) := OD
                  obtain ⟨dB, dK, aS, aT, aU, aV⟩ := at_T128 bI.out aA cO cP
                  have cH := aV
                  have cI := aU
                  have cJ := aT
                  have cK := aS
                  obtain rfl : aF = dB := (by injection dK)
                  replace aS := CX HB.out aS
                  replace aT := CX HB.out aT
                  replace aU := CX HB.out aU
                  replace aV := CX HB.out aV
                  replace cO := eq_true cO
                  replace cP := eq_true cP
                  refine start_ (n := 13) (S := fun w' => ce2 w' bJ (.int .i64 aI) (.slice (some aF) aB.length bQ) (w'.cell? (aF.add ((aD).toNat * 4)) = some (.int .i64 ((rd_T128 aB aD).f0.f0)) ∧ w'.cell? ⟨(aF.add ((aD).toNat * 4)).block, (aF.add ((aD).toNat * 4)).off + 1, none⟩ = some (.int .i64 ((rd_T128 aB aD).f0.f1)) ∧ w'.cell? ⟨(aF.add ((aD).toNat * 4)).block, (aF.add ((aD).toNat * 4)).off + 2, none⟩ = some (.int .i64 ((rd_T128 aB aD).f0.f2)) ∧ w'.cell? ⟨(aF.add ((aD).toNat * 4)).block, (aF.add ((aD).toNat * 4)).off + 3, none⟩ = some (.int .i64 ((rd_T128 aB aD).f1)) ∧ w'.cell? (aF.add ((aA).toNat * 4)) = some (.int .i64 ((rd_T128 aB aA).f0.f0)) ∧ w'.cell? ⟨(aF.add ((aA).toNat * 4)).block, (aF.add ((aA).toNat * 4)).off + 1, none⟩ = some (.int .i64 ((rd_T128 aB aA).f0.f1)) ∧ w'.cell? ⟨(aF.add ((aA).toNat * 4)).block, (aF.add ((aA).toNat * 4)).off + 2, none⟩ = some (.int .i64 ((rd_T128 aB aA).f0.f2)) ∧ w'.cell? ⟨(aF.add ((aA).toNat * 4)).block, (aF.add ((aA).toNat * 4)).off + 3, none⟩ = some (.int .i64 ((rd_T128 aB aA).f1)))) (ds := []) (tf 0 13) (by kernel_rfl) rfl rfl ⟨z0 _ aC.out, z1 _ aC.out, (CY HB.out cG), (CY HB.out cF), (CY HB.out cE), (CY HB.out cD), (CY HB.out cK), (CY HB.out cJ), (CY HB.out cI), (CY HB.out cH)⟩ (fun aH => ?_); refine with_tabW spec_CacheOk.tab11 spec_CacheOk.bits11 (fun aG cC => ?_)
                  generalize wr.drew = fF at aC HB aO aP aQ aR aS aT aU aV aH ⊢
                  refine pv aG 0 61 (tf 1 12) ?_
                  refine pv aG 2 63 (tr [1, 1, 1, 10]) ?_
                  refine pv aG 6 67 (tr [1, 1, 1, 3, 1, 6]) ?_
                  refine pv aG 8 69 (tr [1, 1, 1, 3, 1, 1, 1, 4]) ?_
                  refine tk 1 (some 62) (tr [3, 3, 1, 1, 1, 4]) (take_ofW aG.out cC.out (by kernel_rfl)) aH ?_
                  refine pv aG 3 64 (tr [4, 2, 1, 1, 1, 4]) ?_
                  refine pv aG 4 65 (tr [5, 1, 1, 1, 1, 4]) ?_
                  refine tk 5 (some 66) (tr [7, 1, 1, 4]) (take_ofW aG.out cC.out (by kernel_rfl)) aH ?_
                  refine tk 7 (some 68) (tf 9 4) (take_ofW aG.out cC.out (by kernel_rfl)) aH ?_
                  refine pv aG 9 70 (tf 10 3) ?_
                  refine pv aG 10 71 (tf 11 2) ?_
                  refine tk 11 (some 72) (tf 12 1) (take_ofW aG.out cC.out (by kernel_rfl)) aH ?_
                  refine pv aG 12 73 (tf 13 0) ?_
                  refine done_ (done_of aG.out (by kernel_rfl)) ?_
                  try go_wp2
                  go_roundg k4
                  case measure => have := HJ2.out; have := HK2.out; have := HJ15.out; have := HK4.out; omega
                  case rel => exact ⟨(wrap64 (aD + 1)), (by first | rfl | (simp; done) | (simp [*]; done)), H', ⟨by have := HJ2.out; have := HK2.out; have := HJ15.out; have := HK4.out; omega⟩, ⟨KB aC⟩, ⟨K1 HB aJ.out⟩⟩
                ·rw [if_neg eB] at H
                 exact absurd H (by simp)
               ·rw [if_neg eA] at H
                exact absurd H (by simp)
              ·rw [if_neg dZ] at H
               exact absurd H (by simp)
             ·rw [if_neg dY] at H
              exact absurd H (by simp)
            ·rw [if_neg dN] at H
             have c28b0 : decide (aD < aA) = false := decide_eq_false dN
             clear dN
             have H' := Aside0.mk H
             clear H
             go_wp2
             go_roundg k4
             case measure => have := HJ2.out; have := HK2.out; have := HJ15.out; have := HK4.out; omega
             case rel => exact ⟨(wrap64 (aA + 1)), (by first | rfl | (simp; done) | (simp [*]; done)), H', ⟨by have := HJ2.out; have := HK2.out; have := HJ15.out; have := HK4.out; omega⟩, ⟨KB aC⟩, ⟨K1 HB aJ.out⟩⟩
      ·rw [if_neg dF] at H
       have c15b0 : decide (aA < (aB.length : Int)) = false := decide_eq_false dF
       clear dF
       obtain rfl := sj H
       have ⟨_, _, _⟩ := y2 wr aC.out
       go_wp2
       go_ret
       exact ⟨ER, K1 HB aJ.out⟩
end Go.Proofs.YtgjbbnmjeblcgaaGreat.PAll
end
section
namespace Go.Proofs.YtgjbbnmjeblcgaaGreat.PAll
open Go.RowKit Go.Proofs.YtgjbbnmjeblcgaaGreatW.PrintWords Go.Proofs.YtgjbbnmjeblcgaaGreatW.PrintLast Go.Proofs.YtgjbbnmjeblcgaaGreatW.PrintMore
attribute [local go_sem] max2_int min2_int max_two min_two max_three min_three max_four min_four
set_option linter.unusedVariables false
set_option linter.unusedSimpArgs false
def spec_l8Keys.f (a0 : ByteArray) (a1 : ByteArray) : Option (Bool) := if (a0.size : Int) = 16 then ((spec_l1In.f (a1.size : Int) 1 64).bind fun t101 => (some t101)) else (some false)
theorem spec_l8Keys.calls (a0 : ByteArray) (a1 : ByteArray) (r : Bool) (w : World) (h : spec_l8Keys.f a0 a1 = some r) :
  Calls Tryz.prog 65 #[.string a0, .string a1] w fun e w' => e = .returned (.bool r) ∧ Drawn0 w w' := by
 have H : (if (a0.size : Int) = 16 then ((spec_l1In.f (a1.size : Int) 1 64).bind fun aA => (some aA)) else (some false)) = some r := h
 clear h
 by_cases c3 : (a0.size : Int) = 16
 ·rw [if_pos c3] at H
  have c3b0 : ((a0.size : Int) == 16) = true := beq_iff_eq.mpr c3
  have c3b1 : ((a0.size : Int) != 16) = false := bne_eq_false_iff_eq.mpr c3
  clear c3
  replace H := bm H
  obtain ⟨aA, aB, H⟩ := H
  replace H : (some aA) = some r := H
  have A4 := Aside0.mk aB
  clear aB
  obtain rfl := sj H
  go_enter Tryz.func65, Tryz.ntmps65
  go_wp2_with (first | (go_at_call 44; (with_reducible refine (spec_l1In.calls (a1.size : Int) 1 64 aA _ A4.out).mono ?_); rintro e w' ⟨rfl, ⟨nd, rfl⟩⟩))
  go_ret
  exact ⟨by first | rfl | (simp; done) | (simp [*]; done), by repeat (first | exact Drawn0.refl _ | apply Drawn0.step)⟩
 ·rw [if_neg c3] at H
  have c3b0 : ((a0.size : Int) == 16) = false := beq_eq_false_iff_ne.mpr c3
  have c3b1 : ((a0.size : Int) != 16) = true := bne_iff_ne.mpr c3
  obtain rfl := sj H
  go_enter Tryz.func65, Tryz.ntmps65
  go_wp2
  go_ret
  exact ⟨by first | rfl | (simp; done) | (simp [*]; done), by repeat (first | exact Drawn0.refl _ | apply Drawn0.step)⟩
def laws_toWorld.f (k : Nat) (a0_0 : Int) (l0_1 : List (S111)) (a0_2 : Int) (l0_3 : List (S136)) (l0_4 : List (S96)) (l0_5 : List (S96)) (a0_6 : Int) (l0_7 : List (S111)) (a0_8 : Int) (l0_9 : List (S136)) (l0_10 : List (S96)) (l0_11 : List (S96)) (l0_12 : List (S70)) (l0_13 : List (S74)) (l0_14 : List (S74)) : Option (Int × (List (S107)) × Int × (List (S128)) × (List (S103)) × (List (S103)) × Int × (List (S107)) × Int × (List (S128)) × (List (S103)) × (List (S103)) × (List (S76)) × (List (S55)) × (List (S55))) := (laws_toGate.f k a0_0 l0_1 a0_2 l0_3 l0_4 l0_5).bind fun bt104 => ((laws_toGate.f k a0_6 l0_7 a0_8 l0_9 l0_10 l0_11).bind fun bt118 => ((laws_toAirS.f k l0_12).bind fun t132 => ((laws_toSentS.f k l0_13).bind fun t135 => ((laws_toSentS.f k l0_14).bind fun t138 => (some (bt104.1, bt104.2.1, bt104.2.2.1, bt104.2.2.2.1, bt104.2.2.2.2.1, bt104.2.2.2.2.2, bt118.1, bt118.2.1, bt118.2.2.1, bt118.2.2.2.1, bt118.2.2.2.2.1, bt118.2.2.2.2.2, t132, t135, t138))))))
def impl_in.f (a0 : Int) (a1 : Int) (a2 : Int) : Option (Bool) := if a0 ≥ a1 then (some (decide (a0 ≤ a2))) else (some false)
theorem impl_in.calls (a0 : Int) (a1 : Int) (a2 : Int) (r : Bool) (w : World) (h : impl_in.f a0 a1 a2 = some r) :
  Calls Tryz.prog 51 #[.int .i64 a0, .int .i64 a1, .int .i64 a2] w fun e w' => e = .returned (.bool r) ∧ Drawn0 w w' := by
 have H : (if a0 ≥ a1 then (some (decide (a0 ≤ a2))) else (some false)) = some r := h
 clear h
 by_cases c4 : a0 ≥ a1
 ·rw [if_pos c4] at H
  have c4b0 : decide (a1 ≤ a0) = true := decide_eq_true c4
  clear c4
  obtain rfl := sj H
  go_enter Tryz.func51, Tryz.ntmps51
  go_wp2
  go_ret
  exact ⟨by first | rfl | (simp; done) | (simp [*]; done), by repeat (first | exact Drawn0.refl _ | apply Drawn0.step)⟩
 ·rw [if_neg c4] at H
  have c4b0 : decide (a1 ≤ a0) = false := decide_eq_false c4
  clear c4
  obtain rfl := sj H
  go_enter Tryz.func51, Tryz.ntmps51
  go_wp2
  go_ret
  exact ⟨by first | rfl | (simp; done) | (simp [*]; done), by repeat (first | exact Drawn0.refl _ | apply Drawn0.step)⟩
def impl_Block_size.f (a0_0 : Int) (a0_1 : Int) : Option (Int) := if 0 ≤ (wrap64 (32 - a0_1)) then (some (shl .i64 1 (wrap64 (32 - a0_1)))) else (none)
theorem impl_Block_size.calls (aB : Int) (aA : Int) (r : Int) (w : World) (h : impl_Block_size.f aB aA = some r) :
  Calls Tryz.prog 102 #[.agg #[.int .i64 aB, .int .i64 aA]] w fun e w' => e = .returned (.int .i64 r) ∧ Below w.heap.size w w' := by
 have aJ := Tryz.underlying105
 have HB := am (Below.refl w.heap.size w)
 have H : (if 0 ≤ (wrap64 (32 - aA)) then (some (shl .i64 1 (wrap64 (32 - aA)))) else (none)) = some r := h
 clear h
 obtain ⟨ji2, hji2⟩ : ∃ j_ : Int, (wrap64 (32 - aA)) = j_ := ⟨_, rfl⟩
 replace H : (if 0 ≤ (ji2) then (some (shl .i64 1 (ji2))) else (none)) = some r := by first | (rw [hji2] at H; exact H) | (simp only [hji2] at H ⊢; exact H)
 have hji2w : (IntKind.i64.wrap (32 - aA)) = ji2 := (i64_w _).trans hji2
 by_cases c3 : 0 ≤ (ji2)
 ·rw [if_pos c3] at H
  have c3b0 := eq_true c3
  have c3b1 : decide (0 ≤ (ji2)) = true := decide_eq_true c3
  clear c3
  obtain ⟨ji4, hji4⟩ : ∃ j_ : Int, (shl .i64 1 (ji2)) = j_ := ⟨_, rfl⟩
  replace H : (some ji4) = some r := by first | (rw [hji4] at H; exact H) | (simp only [hji4] at H ⊢; exact H)
  have hji4_ : (IntKind.i64.wrap (1 * 2 ^ min (ji2).toNat 64)) = ji4 := hji4
  have hji4z : (ji2) ≤ 64 → (IntKind.i64.wrap (1 * 2 ^ (ji2).toNat)) = ji4 := shl_small hji4
  have hji4u : (IntKind.i64.wrap (2 ^ min (ji2).toNat 64)) = ji4 := by have h_ := hji4_; rw [Int.one_mul] at h_; exact h_
  have hji4v : (ji2) ≤ 64 → (IntKind.i64.wrap (2 ^ (ji2).toNat)) = ji4 := fun hle_ => by have h_ := hji4z hle_; rw [Int.one_mul] at h_; exact h_
  have hji4y : (wrap64 (1 * 2 ^ min (ji2).toNat 64)) = ji4 := (i64_w _).symm.trans hji4_
  have hji4x : (ji2) ≤ 64 → (wrap64 (1 * 2 ^ (ji2).toNat)) = ji4 := fun h_ => (i64_w _).symm.trans (hji4z h_)
  obtain rfl := sj H
  go_enter Tryz.func102, Tryz.ntmps102
  go_wp2_with (first | ((with_reducible refine gate_dst (N := 1) rfl ?_); refine box_event rfl (N := 1) rfl (cs := #[.int .i64 aB, .int .i64 aA]) (t := 105) BX ?_; intro aK hg w5 aC hb; have aD := am (aC); have aE := am (GH HB hg); have aF := aE; replace HB := bl (KL HB) hb; clear hb aC hg; have ⟨_, _, _⟩ := y2 w5 aD.out))
  go_ret
  exact ⟨by first | rfl | (simp [errW_none, errW_some] <;> rfl) | (simp only [← hji2, ← hji4]; first | rfl | (simp [errW_none, errW_some] <;> rfl)) | (simp [*, errW_none, errW_some] <;> rfl), K1 HB aF.out⟩
 ·rw [if_neg c3] at H
  exact absurd H (by simp)
end Go.Proofs.YtgjbbnmjeblcgaaGreat.PAll
end
