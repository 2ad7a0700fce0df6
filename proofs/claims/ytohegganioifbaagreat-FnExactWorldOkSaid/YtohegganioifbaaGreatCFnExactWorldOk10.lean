/- Contracts of the functions that the statement reaches. -/
import Derived.Test.YtohegganioifbaaGreatCFnExactWorldOk3
import Derived.Test.YtohegganioifbaaGreatCFnExactWorldOk4
import Derived.Test.YtohegganioifbaaGreatCFnExactWorldOk5
import Derived.Test.YtohegganioifbaaGreatCFnExactWorldOk6
import Derived.Test.YtohegganioifbaaGreatCFnExactWorldOk7
import Derived.Test.YtohegganioifbaaGreatCFnExactWorldOk8
import Derived.Test.YtohegganioifbaaGreatCFnExactWorldOk9
set_option maxHeartbeats 8000000
set_option maxRecDepth 100000
section
namespace Go.Proofs.YtohegganioifbaaGreat.PAll
open Go.RowKit Go.Proofs.YtohegganioifbaaGreatW.PrintWords Go.Proofs.YtohegganioifbaaGreatW.PrintLast Go.Proofs.YtohegganioifbaaGreatW.PrintMore
attribute [local go_sem] max2_int min2_int max_two min_two max_three min_three max_four min_four
set_option linter.unusedVariables false
set_option linter.unusedSimpArgs false
def laws_FnExactWorldOk.f (k : Nat) (a0_0 : Int) (l0_1 : List (S119)) (a0_2 : Int) (l0_3 : List (S137)) (l0_4 : List (S101)) (l0_5 : List (S101)) (a0_6 : Int) (l0_7 : List (S119)) (a0_8 : Int) (l0_9 : List (S137)) (l0_10 : List (S101)) (l0_11 : List (S101)) (l0_12 : List (S67)) (l0_13 : List (S72)) (l0_14 : List (S72)) : Option (Bool) := (laws_szWorld.f k a0_0 l0_1 a0_2 l0_3 l0_4 l0_5 a0_6 l0_7 a0_8 l0_9 l0_10 l0_11 l0_12 l0_13 l0_14 1048576).bind fun t102 => (if t102 < 0 then (some true) else ((laws_toWorld.f k a0_0 l0_1 a0_2 l0_3 l0_4 l0_5 a0_6 l0_7 a0_8 l0_9 l0_10 l0_11 l0_12 l0_13 l0_14).bind fun bt103 => ((spec_WorldOk.f k bt103.1 bt103.2.1 bt103.2.2.1 bt103.2.2.2.1 bt103.2.2.2.2.1 bt103.2.2.2.2.2.1 bt103.2.2.2.2.2.2.1 bt103.2.2.2.2.2.2.2.1 bt103.2.2.2.2.2.2.2.2.1 bt103.2.2.2.2.2.2.2.2.2.1 bt103.2.2.2.2.2.2.2.2.2.2.1 bt103.2.2.2.2.2.2.2.2.2.2.2.1 bt103.2.2.2.2.2.2.2.2.2.2.2.2.1 bt103.2.2.2.2.2.2.2.2.2.2.2.2.2.1 bt103.2.2.2.2.2.2.2.2.2.2.2.2.2.2).bind fun t140 => ((laws_toWorld.f k a0_0 l0_1 a0_2 l0_3 l0_4 l0_5 a0_6 l0_7 a0_8 l0_9 l0_10 l0_11 l0_12 l0_13 l0_14).bind fun bt141 => ((impl_WorldOk.f k bt141.1 bt141.2.1 bt141.2.2.1 bt141.2.2.2.1 bt141.2.2.2.2.1 bt141.2.2.2.2.2.1 bt141.2.2.2.2.2.2.1 bt141.2.2.2.2.2.2.2.1 bt141.2.2.2.2.2.2.2.2.1 bt141.2.2.2.2.2.2.2.2.2.1 bt141.2.2.2.2.2.2.2.2.2.2.1 bt141.2.2.2.2.2.2.2.2.2.2.2.1 bt141.2.2.2.2.2.2.2.2.2.2.2.2.1 bt141.2.2.2.2.2.2.2.2.2.2.2.2.2.1 bt141.2.2.2.2.2.2.2.2.2.2.2.2.2.2).bind fun t179 => (if (t179 != t140) = true then (some false) else ((laws_toWorld.f k a0_0 l0_1 a0_2 l0_3 l0_4 l0_5 a0_6 l0_7 a0_8 l0_9 l0_10 l0_11 l0_12 l0_13 l0_14).bind fun bt180 => ((laws_eqWorld.f k bt141.1 bt141.2.1 bt141.2.2.1 bt141.2.2.2.1 bt141.2.2.2.2.1 bt141.2.2.2.2.2.1 bt141.2.2.2.2.2.2.1 bt141.2.2.2.2.2.2.2.1 bt141.2.2.2.2.2.2.2.2.1 bt141.2.2.2.2.2.2.2.2.2.1 bt141.2.2.2.2.2.2.2.2.2.2.1 bt141.2.2.2.2.2.2.2.2.2.2.2.1 bt141.2.2.2.2.2.2.2.2.2.2.2.2.1 bt141.2.2.2.2.2.2.2.2.2.2.2.2.2.1 bt141.2.2.2.2.2.2.2.2.2.2.2.2.2.2 bt180.1 bt180.2.1 bt180.2.2.1 bt180.2.2.2.1 bt180.2.2.2.2.1 bt180.2.2.2.2.2.1 bt180.2.2.2.2.2.2.1 bt180.2.2.2.2.2.2.2.1 bt180.2.2.2.2.2.2.2.2.1 bt180.2.2.2.2.2.2.2.2.2.1 bt180.2.2.2.2.2.2.2.2.2.2.1 bt180.2.2.2.2.2.2.2.2.2.2.2.1 bt180.2.2.2.2.2.2.2.2.2.2.2.2.1 bt180.2.2.2.2.2.2.2.2.2.2.2.2.2.1 bt180.2.2.2.2.2.2.2.2.2.2.2.2.2.2).bind fun t217 => (if t217 = true then (some true) else (some false))))))))))
theorem laws_FnExactWorldOk.calls (k : Nat) (bH : Int) (dH : Option Addr) (dI : Nat) (aW : List (S119)) (bI : Int) (dJ : Option Addr) (dK : Nat) (aX : List (S137)) (dL : Option Addr) (dM : Nat) (aY : List (S101)) (dN : Option Addr) (dO : Nat) (aZ : List (S101)) (bJ : Int) (dP : Option Addr) (dQ : Nat) (bA : List (S119)) (bK : Int) (dR : Option Addr) (dS : Nat) (bB : List (S137)) (cJ : Option Addr) (cK : Nat) (aG : List (S101)) (cL : Option Addr) (cM : Nat) (aH : List (S101)) (cN : Option Addr) (cO : Nat) (aI : List (S67)) (cP : Option Addr) (cQ : Nat) (aJ : List (S72)) (cR : Option Addr) (cS : Nat) (aK : List (S72)) (r : Bool) (w : World) (hZ : Kd.C k119 w dH aW.length aW) (iA : aW.length ≤ dI) (iB : Kd.C k137 w dJ aX.length aX) (iC : aX.length ≤ dK) (iD : Kd.C k101 w dL aY.length aY) (iE : aY.length ≤ dM) (iF : Kd.C k101 w dN aZ.length aZ) (iG : aZ.length ≤ dO) (iH : Kd.C k119 w dP bA.length bA) (iI : bA.length ≤ dQ) (iJ : Kd.C k137 w dR bB.length bB) (iK : bB.length ≤ dS) (gH : Kd.C k101 w cJ aG.length aG) (gI : aG.length ≤ cK) (gJ : Kd.C k101 w cL aH.length aH) (gK : aH.length ≤ cM) (gL : Kd.C k67 w cN aI.length aI) (gM : aI.length ≤ cO) (gN : Kd.C k72 w cP aJ.length aJ) (gO : aJ.length ≤ cQ) (gP : Kd.C k72 w cR aK.length aK) (gQ : aK.length ≤ cS) (iY : r = true) (h : laws_FnExactWorldOk.f k bH aW bI aX aY aZ bJ bA bK bB aG aH aI aJ aK = some r) :
  Calls Tryz.prog 3 #[.agg #[.int .i64 bH, .slice dH aW.length dI, .int .i64 bI, .slice dJ aX.length dK, .slice dL aY.length dM, .slice dN aZ.length dO, .int .i64 bJ, .slice dP bA.length dQ, .int .i64 bK, .slice dR bB.length dS, .slice cJ aG.length cK, .slice cL aH.length cM, .slice cN aI.length cO, .slice cP aJ.length cQ, .slice cR aK.length cS]] w fun e w' => e = .returned (.bool r) ∧ Below w.heap.size w w' := by
 have oR := Tryz.underlying32
 have oS := Tryz.underlying45
 have eM := Aside0.mk hZ
 have eN := Aside0.mk iA
 clear hZ iA
 have eO := Aside0.mk iB
 have eP := Aside0.mk iC
 clear iB iC
 have eQ := Aside0.mk iD
 have eR := Aside0.mk iE
 clear iD iE
 have eS := Aside0.mk iF
 have eT := Aside0.mk iG
 clear iF iG
 have eU := Aside0.mk iH
 have eV := Aside0.mk iI
 clear iH iI
 have eW := Aside0.mk iJ
 have eX := Aside0.mk iK
 clear iJ iK
 have dT := Aside0.mk gH
 have dU := Aside0.mk gI
 clear gH gI
 have dV := Aside0.mk gJ
 have dW := Aside0.mk gK
 clear gJ gK
 have dX := Aside0.mk gL
 have dY := Aside0.mk gM
 clear gL gM
 have dZ := Aside0.mk gN
 have eA := Aside0.mk gO
 clear gN gO
 have eB := Aside0.mk gP
 have eC := Aside0.mk gQ
 clear gP gQ
 have HB := am (Below.refl w.heap.size w)
 have H : ((laws_szWorld.f k bH aW bI aX aY aZ bJ bA bK bB aG aH aI aJ aK 1048576).bind fun eY => (if eY < 0 then (some true) else ((laws_toWorld.f k bH aW bI aX aY aZ bJ bA bK bB aG aH aI aJ aK).bind fun aL => ((spec_WorldOk.f k aL.1 aL.2.1 aL.2.2.1 aL.2.2.2.1 aL.2.2.2.2.1 aL.2.2.2.2.2.1 aL.2.2.2.2.2.2.1 aL.2.2.2.2.2.2.2.1 aL.2.2.2.2.2.2.2.2.1 aL.2.2.2.2.2.2.2.2.2.1 aL.2.2.2.2.2.2.2.2.2.2.1 aL.2.2.2.2.2.2.2.2.2.2.2.1 aL.2.2.2.2.2.2.2.2.2.2.2.2.1 aL.2.2.2.2.2.2.2.2.2.2.2.2.2.1 aL.2.2.2.2.2.2.2.2.2.2.2.2.2.2).bind fun cE => ((laws_toWorld.f k bH aW bI aX aY aZ bJ bA bK bB aG aH aI aJ aK).bind fun aA => ((impl_WorldOk.f k aA.1 aA.2.1 aA.2.2.1 aA.2.2.2.1 aA.2.2.2.2.1 aA.2.2.2.2.2.1 aA.2.2.2.2.2.2.1 aA.2.2.2.2.2.2.2.1 aA.2.2.2.2.2.2.2.2.1 aA.2.2.2.2.2.2.2.2.2.1 aA.2.2.2.2.2.2.2.2.2.2.1 aA.2.2.2.2.2.2.2.2.2.2.2.1 aA.2.2.2.2.2.2.2.2.2.2.2.2.1 aA.2.2.2.2.2.2.2.2.2.2.2.2.2.1 aA.2.2.2.2.2.2.2.2.2.2.2.2.2.2).bind fun bZ => (if (bZ != cE) = true then (some false) else ((laws_toWorld.f k bH aW bI aX aY aZ bJ bA bK bB aG aH aI aJ aK).bind fun aB => ((laws_eqWorld.f k aA.1 aA.2.1 aA.2.2.1 aA.2.2.2.1 aA.2.2.2.2.1 aA.2.2.2.2.2.1 aA.2.2.2.2.2.2.1 aA.2.2.2.2.2.2.2.1 aA.2.2.2.2.2.2.2.2.1 aA.2.2.2.2.2.2.2.2.2.1 aA.2.2.2.2.2.2.2.2.2.2.1 aA.2.2.2.2.2.2.2.2.2.2.2.1 aA.2.2.2.2.2.2.2.2.2.2.2.2.1 aA.2.2.2.2.2.2.2.2.2.2.2.2.2.1 aA.2.2.2.2.2.2.2.2.2.2.2.2.2.2 aB.1 aB.2.1 aB.2.2.1 aB.2.2.2.1 aB.2.2.2.2.1 aB.2.2.2.2.2.1 aB.2.2.2.2.2.2.1 aB.2.2.2.2.2.2.2.1 aB.2.2.2.2.2.2.2.2.1 aB.2.2.2.2.2.2.2.2.2.1 aB.2.2.2.2.2.2.2.2.2.2.1 aB.2.2.2.2.2.2.2.2.2.2.2.1 aB.2.2.2.2.2.2.2.2.2.2.2.2.1 aB.2.2.2.2.2.2.2.2.2.2.2.2.2.1 aB.2.2.2.2.2.2.2.2.2.2.2.2.2.2).bind fun cX => (if cX = true then (some true) else (some false))))))))))) = some r := h
 clear h
 have HR_ := Aside0.mk iY
 clear iY
 replace H := bm H
 obtain ⟨eY, oL, H⟩ := H
 replace H : (if eY < 0 then (some true) else ((laws_toWorld.f k bH aW bI aX aY aZ bJ bA bK bB aG aH aI aJ aK).bind fun aL => ((spec_WorldOk.f k aL.1 aL.2.1 aL.2.2.1 aL.2.2.2.1 aL.2.2.2.2.1 aL.2.2.2.2.2.1 aL.2.2.2.2.2.2.1 aL.2.2.2.2.2.2.2.1 aL.2.2.2.2.2.2.2.2.1 aL.2.2.2.2.2.2.2.2.2.1 aL.2.2.2.2.2.2.2.2.2.2.1 aL.2.2.2.2.2.2.2.2.2.2.2.1 aL.2.2.2.2.2.2.2.2.2.2.2.2.1 aL.2.2.2.2.2.2.2.2.2.2.2.2.2.1 aL.2.2.2.2.2.2.2.2.2.2.2.2.2.2).bind fun cE => ((laws_toWorld.f k bH aW bI aX aY aZ bJ bA bK bB aG aH aI aJ aK).bind fun aA => ((impl_WorldOk.f k aA.1 aA.2.1 aA.2.2.1 aA.2.2.2.1 aA.2.2.2.2.1 aA.2.2.2.2.2.1 aA.2.2.2.2.2.2.1 aA.2.2.2.2.2.2.2.1 aA.2.2.2.2.2.2.2.2.1 aA.2.2.2.2.2.2.2.2.2.1 aA.2.2.2.2.2.2.2.2.2.2.1 aA.2.2.2.2.2.2.2.2.2.2.2.1 aA.2.2.2.2.2.2.2.2.2.2.2.2.1 aA.2.2.2.2.2.2.2.2.2.2.2.2.2.1 aA.2.2.2.2.2.2.2.2.2.2.2.2.2.2).bind fun bZ => (if (bZ != cE) = true then (some false) else ((laws_toWorld.f k bH aW bI aX aY aZ bJ bA bK bB aG aH aI aJ aK).bind fun aB => ((laws_eqWorld.f k aA.1 aA.2.1 aA.2.2.1 aA.2.2.2.1 aA.2.2.2.2.1 aA.2.2.2.2.2.1 aA.2.2.2.2.2.2.1 aA.2.2.2.2.2.2.2.1 aA.2.2.2.2.2.2.2.2.1 aA.2.2.2.2.2.2.2.2.2.1 aA.2.2.2.2.2.2.2.2.2.2.1 aA.2.2.2.2.2.2.2.2.2.2.2.1 aA.2.2.2.2.2.2.2.2.2.2.2.2.1 aA.2.2.2.2.2.2.2.2.2.2.2.2.2.1 aA.2.2.2.2.2.2.2.2.2.2.2.2.2.2 aB.1 aB.2.1 aB.2.2.1 aB.2.2.2.1 aB.2.2.2.2.1 aB.2.2.2.2.2.1 aB.2.2.2.2.2.2.1 aB.2.2.2.2.2.2.2.1 aB.2.2.2.2.2.2.2.2.1 aB.2.2.2.2.2.2.2.2.2.1 aB.2.2.2.2.2.2.2.2.2.2.1 aB.2.2.2.2.2.2.2.2.2.2.2.1 aB.2.2.2.2.2.2.2.2.2.2.2.2.1 aB.2.2.2.2.2.2.2.2.2.2.2.2.2.1 aB.2.2.2.2.2.2.2.2.2.2.2.2.2.2).bind fun cX => (if cX = true then (some true) else (some false)))))))))) = some r := H
 have A2 := Aside0.mk oL
 clear oL
 by_cases c3 : eY < 0
 ·rw [if_pos c3] at H
  have c3b0 : decide (eY < 0) = true := decide_eq_true c3
  clear c3
  obtain rfl := sj H
  go_enter Tryz.func3, Tryz.ntmps3
  go_wp2_with (first | ((with_reducible refine gate_dst (N := 1) rfl ?_); refine box_event rfl (N := 1) rfl (cs := #[.int .i64 bH, .slice dH aW.length dI, .int .i64 bI, .slice dJ aX.length dK, .slice dL aY.length dM, .slice dN aZ.length dO, .int .i64 bJ, .slice dP bA.length dQ, .int .i64 bK, .slice dR bB.length dS, .slice cJ aG.length cK, .slice cL aH.length cM, .slice cN aI.length cO, .slice cP aJ.length cQ, .slice cR aK.length cS]) (t := 32) BX ?_; intro gR hg w4 eZ hb; have aD := am (eZ); have gS := am (GH HB hg); have aE := gS; replace HB := bl (KL HB) hb; clear hb eZ hg; have ⟨_, _, _, _, _, _, _, _, _, _, _, _, _, _, _, _⟩ := y15 w4 aD.out) | ((with_reducible refine gate_callee (f := 4) rfl ?_); refine goesL_ (some 9) rfl rfl Tryz.func4 (by kernel_rfl) rfl #[.agg #[.int .i64 bH, .slice dH aW.length dI, .int .i64 bI, .slice dJ aX.length dK, .slice dL aY.length dM, .slice dN aZ.length dO, .int .i64 bJ, .slice dP bA.length dQ, .int .i64 bK, .slice dR bB.length dS, .slice cJ aG.length cK, .slice cL aH.length cM, .slice cN aI.length cO, .slice cP aJ.length cQ, .slice cR aK.length cS], .int .i64 1048576] rfl MT ?_; (with_reducible refine (laws_szWorld.calls k bH _ _ aW bI _ _ aX _ _ aY _ _ aZ bJ _ _ bA bK _ _ bB _ _ aG _ _ aH _ _ aI _ _ aJ _ _ aK 1048576 eY _ ?_ ?_ ?_ ?_ ?_ ?_ ?_ ?_ ?_ ?_ ?_ ?_ ?_ ?_ ?_ ?_ ?_ ?_ ?_ ?_ ?_ ?_ A2.out).mono ?_); exact KD eM HB; exact eN.out; exact KD eO HB; exact eP.out; exact KD eQ HB; exact eR.out; exact KD eS HB; exact eT.out; exact KD eU HB; exact eV.out; exact KD eW HB; exact eX.out; exact KD dT HB; exact dU.out; exact KD dV HB; exact dW.out; exact KD dX HB; exact dY.out; exact KD dZ HB; exact eA.out; exact KD eB HB; exact eC.out; rintro e w6 ⟨rfl, hb⟩; refine ⟨_, rfl, ?_⟩; replace aD := am (BB aD hb); replace HB := bl (K1 HB aE.out) hb; (try clear hb)))
  go_ret
  exact ⟨ER, K1 HB aE.out⟩
 ·rw [if_neg c3] at H
  have c3b0 : decide (eY < 0) = false := decide_eq_false c3
  clear c3
  replace H := bm H
  obtain ⟨⟨hF, fX, hG, fY, fA, fB, hH, fZ, hI, gA, fC, fD, gT, gB, gC⟩, oM, H⟩ := H
  replace H : ((spec_WorldOk.f k hF fX hG fY fA fB hH fZ hI gA fC fD gT gB gC).bind fun cE => ((laws_toWorld.f k bH aW bI aX aY aZ bJ bA bK bB aG aH aI aJ aK).bind fun aA => ((impl_WorldOk.f k aA.1 aA.2.1 aA.2.2.1 aA.2.2.2.1 aA.2.2.2.2.1 aA.2.2.2.2.2.1 aA.2.2.2.2.2.2.1 aA.2.2.2.2.2.2.2.1 aA.2.2.2.2.2.2.2.2.1 aA.2.2.2.2.2.2.2.2.2.1 aA.2.2.2.2.2.2.2.2.2.2.1 aA.2.2.2.2.2.2.2.2.2.2.2.1 aA.2.2.2.2.2.2.2.2.2.2.2.2.1 aA.2.2.2.2.2.2.2.2.2.2.2.2.2.1 aA.2.2.2.2.2.2.2.2.2.2.2.2.2.2).bind fun bZ => (if (bZ != cE) = true then (some false) else ((laws_toWorld.f k bH aW bI aX aY aZ bJ bA bK bB aG aH aI aJ aK).bind fun aB => ((laws_eqWorld.f k aA.1 aA.2.1 aA.2.2.1 aA.2.2.2.1 aA.2.2.2.2.1 aA.2.2.2.2.2.1 aA.2.2.2.2.2.2.1 aA.2.2.2.2.2.2.2.1 aA.2.2.2.2.2.2.2.2.1 aA.2.2.2.2.2.2.2.2.2.1 aA.2.2.2.2.2.2.2.2.2.2.1 aA.2.2.2.2.2.2.2.2.2.2.2.1 aA.2.2.2.2.2.2.2.2.2.2.2.2.1 aA.2.2.2.2.2.2.2.2.2.2.2.2.2.1 aA.2.2.2.2.2.2.2.2.2.2.2.2.2.2 aB.1 aB.2.1 aB.2.2.1 aB.2.2.2.1 aB.2.2.2.2.1 aB.2.2.2.2.2.1 aB.2.2.2.2.2.2.1 aB.2.2.2.2.2.2.2.1 aB.2.2.2.2.2.2.2.2.1 aB.2.2.2.2.2.2.2.2.2.1 aB.2.2.2.2.2.2.2.2.2.2.1 aB.2.2.2.2.2.2.2.2.2.2.2.1 aB.2.2.2.2.2.2.2.2.2.2.2.2.1 aB.2.2.2.2.2.2.2.2.2.2.2.2.2.1 aB.2.2.2.2.2.2.2.2.2.2.2.2.2.2).bind fun cX => (if cX = true then (some true) else (some false)))))))) = some r := H
  have A7 := Aside0.mk oM
  clear oM
  replace H := bm H
  obtain ⟨cE, oN, H⟩ := H
  replace H : ((laws_toWorld.f k bH aW bI aX aY aZ bJ bA bK bB aG aH aI aJ aK).bind fun aA => ((impl_WorldOk.f k aA.1 aA.2.1 aA.2.2.1 aA.2.2.2.1 aA.2.2.2.2.1 aA.2.2.2.2.2.1 aA.2.2.2.2.2.2.1 aA.2.2.2.2.2.2.2.1 aA.2.2.2.2.2.2.2.2.1 aA.2.2.2.2.2.2.2.2.2.1 aA.2.2.2.2.2.2.2.2.2.2.1 aA.2.2.2.2.2.2.2.2.2.2.2.1 aA.2.2.2.2.2.2.2.2.2.2.2.2.1 aA.2.2.2.2.2.2.2.2.2.2.2.2.2.1 aA.2.2.2.2.2.2.2.2.2.2.2.2.2.2).bind fun bZ => (if (bZ != cE) = true then (some false) else ((laws_toWorld.f k bH aW bI aX aY aZ bJ bA bK bB aG aH aI aJ aK).bind fun aB => ((laws_eqWorld.f k aA.1 aA.2.1 aA.2.2.1 aA.2.2.2.1 aA.2.2.2.2.1 aA.2.2.2.2.2.1 aA.2.2.2.2.2.2.1 aA.2.2.2.2.2.2.2.1 aA.2.2.2.2.2.2.2.2.1 aA.2.2.2.2.2.2.2.2.2.1 aA.2.2.2.2.2.2.2.2.2.2.1 aA.2.2.2.2.2.2.2.2.2.2.2.1 aA.2.2.2.2.2.2.2.2.2.2.2.2.1 aA.2.2.2.2.2.2.2.2.2.2.2.2.2.1 aA.2.2.2.2.2.2.2.2.2.2.2.2.2.2 aB.1 aB.2.1 aB.2.2.1 aB.2.2.2.1 aB.2.2.2.2.1 aB.2.2.2.2.2.1 aB.2.2.2.2.2.2.1 aB.2.2.2.2.2.2.2.1 aB.2.2.2.2.2.2.2.2.1 aB.2.2.2.2.2.2.2.2.2.1 aB.2.2.2.2.2.2.2.2.2.2.1 aB.2.2.2.2.2.2.2.2.2.2.2.1 aB.2.2.2.2.2.2.2.2.2.2.2.2.1 aB.2.2.2.2.2.2.2.2.2.2.2.2.2.1 aB.2.2.2.2.2.2.2.2.2.2.2.2.2.2).bind fun cX => (if cX = true then (some true) else (some false))))))) = some r := H
  have A8 := Aside0.mk oN
  clear oN
  replace H := bm H
  obtain ⟨⟨bT, bR, bX, bV, bU, bW, cB, cA, cT, cF, cC, cG, dA, dB, dD⟩, oO, H⟩ := H
  replace H : ((impl_WorldOk.f k bT bR bX bV bU bW cB cA cT cF cC cG dA dB dD).bind fun bZ => (if (bZ != cE) = true then (some false) else ((laws_toWorld.f k bH aW bI aX aY aZ bJ bA bK bB aG aH aI aJ aK).bind fun aB => ((laws_eqWorld.f k bT bR bX bV bU bW cB cA cT cF cC cG dA dB dD aB.1 aB.2.1 aB.2.2.1 aB.2.2.2.1 aB.2.2.2.2.1 aB.2.2.2.2.2.1 aB.2.2.2.2.2.2.1 aB.2.2.2.2.2.2.2.1 aB.2.2.2.2.2.2.2.2.1 aB.2.2.2.2.2.2.2.2.2.1 aB.2.2.2.2.2.2.2.2.2.2.1 aB.2.2.2.2.2.2.2.2.2.2.2.1 aB.2.2.2.2.2.2.2.2.2.2.2.2.1 aB.2.2.2.2.2.2.2.2.2.2.2.2.2.1 aB.2.2.2.2.2.2.2.2.2.2.2.2.2.2).bind fun cX => (if cX = true then (some true) else (some false)))))) = some r := H
  have A9 := Aside0.mk oO
  clear oO
  replace H := bm H
  obtain ⟨bZ, iZ, H⟩ := H
  replace H : (if (bZ != cE) = true then (some false) else ((laws_toWorld.f k bH aW bI aX aY aZ bJ bA bK bB aG aH aI aJ aK).bind fun aB => ((laws_eqWorld.f k bT bR bX bV bU bW cB cA cT cF cC cG dA dB dD aB.1 aB.2.1 aB.2.2.1 aB.2.2.2.1 aB.2.2.2.2.1 aB.2.2.2.2.2.1 aB.2.2.2.2.2.2.1 aB.2.2.2.2.2.2.2.1 aB.2.2.2.2.2.2.2.2.1 aB.2.2.2.2.2.2.2.2.2.1 aB.2.2.2.2.2.2.2.2.2.2.1 aB.2.2.2.2.2.2.2.2.2.2.2.1 aB.2.2.2.2.2.2.2.2.2.2.2.2.1 aB.2.2.2.2.2.2.2.2.2.2.2.2.2.1 aB.2.2.2.2.2.2.2.2.2.2.2.2.2.2).bind fun cX => (if cX = true then (some true) else (some false))))) = some r := H
  have oT := Aside0.mk iZ
  clear iZ
  by_cases gU : (bZ != cE) = true
  ·rw [if_pos gU] at H
   have c11b0 : (bZ != cE) = true := gU
   (try (have c11b1 : decide (bZ = cE) = false := by simpa using gU))
   (try (have c11b2 : (bZ == cE) = false := by simpa using gU))
   (try (have c11b3 : ¬ (bZ = cE) := by simpa using gU))
   clear gU
   exact absurd ((sj H).trans HR_.out) (by decide)
  ·rw [if_neg gU] at H
   have c11b0 : (bZ != cE) = false := by simpa using gU
   (try (have c11b1 : decide (bZ = cE) = true := by simpa using gU))
   (try (have c11b2 : (bZ == cE) = true := by simpa using gU))
   clear gU
   replace H := bm H
   obtain ⟨⟨hJ, hL, hM, hN, hO, hP, hQ, hR, hS, hT, hU, hV, hW, hX, hY⟩, jA, H⟩ := H
   replace H : ((laws_eqWorld.f k bT bR bX bV bU bW cB cA cT cF cC cG dA dB dD hJ hL hM hN hO hP hQ hR hS hT hU hV hW hX hY).bind fun cX => (if cX = true then (some true) else (some false))) = some r := H
   have oU := Aside0.mk jA
   clear jA
   replace H := bm H
   obtain ⟨cX, jB, H⟩ := H
   replace H : (if cX = true then (some true) else (some false)) = some r := H
   have oV := Aside0.mk jB
   clear jB
   by_cases kP : cX = true
   ·subst kP
    have H1 := pf H
    clear H
    have H := H1
    clear H1
    obtain rfl := sj H
    go_enter Tryz.func3, Tryz.ntmps3
    try go_wp2_with (first | ((with_reducible refine gate_dst (N := 1) rfl ?_); refine box_event rfl (N := 1) rfl (cs := #[.int .i64 bH, .slice dH aW.length dI, .int .i64 bI, .slice dJ aX.length dK, .slice dL aY.length dM, .slice dN aZ.length dO, .int .i64 bJ, .slice dP bA.length dQ, .int .i64 bK, .slice dR bB.length dS, .slice cJ aG.length cK, .slice cL aH.length cM, .slice cN aI.length cO, .slice cP aJ.length cQ, .slice cR aK.length cS]) (t := 32) BX ?_; intro gR hg oW eZ hb; have aD := am (eZ); have gS := am (GH HB hg); have aE := gS; replace HB := bl (KL HB) hb; clear hb eZ hg; have ⟨_, _, _, _, _, _, _, _, _, _, _, _, _, _, _, _⟩ := y15 oW aD.out) | ((with_reducible refine gate_callee (f := 4) rfl ?_); refine goesL_ (some 9) rfl rfl Tryz.func4 (by kernel_rfl) rfl #[.agg #[.int .i64 bH, .slice dH aW.length dI, .int .i64 bI, .slice dJ aX.length dK, .slice dL aY.length dM, .slice dN aZ.length dO, .int .i64 bJ, .slice dP bA.length dQ, .int .i64 bK, .slice dR bB.length dS, .slice cJ aG.length cK, .slice cL aH.length cM, .slice cN aI.length cO, .slice cP aJ.length cQ, .slice cR aK.length cS], .int .i64 1048576] rfl MT ?_; (with_reducible refine (laws_szWorld.calls k bH _ _ aW bI _ _ aX _ _ aY _ _ aZ bJ _ _ bA bK _ _ bB _ _ aG _ _ aH _ _ aI _ _ aJ _ _ aK 1048576 eY _ ?_ ?_ ?_ ?_ ?_ ?_ ?_ ?_ ?_ ?_ ?_ ?_ ?_ ?_ ?_ ?_ ?_ ?_ ?_ ?_ ?_ ?_ A2.out).mono ?_); exact KD eM HB; exact eN.out; exact KD eO HB; exact eP.out; exact KD eQ HB; exact eR.out; exact KD eS HB; exact eT.out; exact KD eU HB; exact eV.out; exact KD eW HB; exact eX.out; exact KD dT HB; exact dU.out; exact KD dV HB; exact dW.out; exact KD dX HB; exact dY.out; exact KD dZ HB; exact eA.out; exact KD eB HB; exact eC.out; rintro e oX ⟨rfl, hb⟩; refine ⟨_, rfl, ?_⟩; replace aD := am (BB aD hb); replace HB := bl (K1 HB aE.out) hb; (try clear hb); have ⟨_, _, _, _, _, _, _, _, _, _, _, _, _, _, _, _⟩ := y15 oX aD.out) | ((with_reducible refine gate_callee (f := 6) rfl ?_); refine goesL_ (some 13) rfl rfl Tryz.func6 (by kernel_rfl) rfl #[.agg #[.int .i64 bH, .slice dH aW.length dI, .int .i64 bI, .slice dJ aX.length dK, .slice dL aY.length dM, .slice dN aZ.length dO, .int .i64 bJ, .slice dP bA.length dQ, .int .i64 bK, .slice dR bB.length dS, .slice cJ aG.length cK, .slice cL aH.length cM, .slice cN aI.length cO, .slice cP aJ.length cQ, .slice cR aK.length cS]] rfl MT ?_; (with_reducible refine (laws_toWorld.calls k bH _ _ aW bI _ _ aX _ _ aY _ _ aZ bJ _ _ bA bK _ _ bB _ _ aG _ _ aH _ _ aI _ _ aJ _ _ aK hF fX hG fY fA fB hH fZ hI gA fC fD gT gB gC _ ?_ ?_ ?_ ?_ ?_ ?_ ?_ ?_ ?_ ?_ ?_ ?_ ?_ ?_ ?_ ?_ ?_ ?_ ?_ ?_ ?_ ?_ A7.out).mono ?_); exact KD eM HB; exact eN.out; exact KD eO HB; exact eP.out; exact KD eQ HB; exact eR.out; exact KD eS HB; exact eT.out; exact KD eU HB; exact eV.out; exact KD eW HB; exact eX.out; exact KD dT HB; exact dU.out; exact KD dV HB; exact dW.out; exact KD dX HB; exact dY.out; exact KD dZ HB; exact eA.out; exact KD eB HB; exact eC.out; rintro e qI ⟨oY, oZ, pA, pB, pC, pD, pE, pF, pG, pH, pI, rfl, fS, fT, eI, eJ, fU, fV, eK, eL, gV, fW, dC, hb⟩; refine ⟨_, rfl, ?_⟩; have aQ := am (Kd.R_lower fS (below_size (K1 HB aE.out))); have aR := am (Kd.R_lower fT (below_size (K1 HB aE.out))); have aM := am (Kd.S_lower eI (below_size (K1 HB aE.out))); have aN := am (Kd.S_lower eJ (below_size (K1 HB aE.out))); have aS := am (Kd.R_lower fU (below_size (K1 HB aE.out))); have aT := am (Kd.R_lower fV (below_size (K1 HB aE.out))); have aO := am (Kd.S_lower eK (below_size (K1 HB aE.out))); have aP := am (Kd.S_lower eL (below_size (K1 HB aE.out))); have bC := am (Kd.R_lower gV (below_size (K1 HB aE.out))); have aU := am (Kd.R_lower fW (below_size (K1 HB aE.out))); have aV := am (Kd.R_lower dC (below_size (K1 HB aE.out))); replace aD := am (BB aD hb); replace HB := bl (K1 HB aE.out) hb; (try clear hb); (try clear fS); (try clear fT); (try clear eI); (try clear eJ); (try clear fU); (try clear fV); (try clear eK); (try clear eL); (try clear gV); (try clear fW); (try clear dC); obtain ⟨iM, iN, mT⟩ := Kd.R_slice aQ.out; subst mT; obtain ⟨iO, iP, mU⟩ := Kd.R_slice aR.out; subst mU; obtain ⟨gW, gX, mV⟩ := Kd.S_slice aM.out; subst mV; obtain ⟨gY, gZ, mW⟩ := Kd.S_slice aN.out; subst mW; obtain ⟨iQ, iR, mX⟩ := Kd.R_slice aS.out; subst mX; obtain ⟨iS, iT, mY⟩ := Kd.R_slice aT.out; subst mY; obtain ⟨hA, hB, mZ⟩ := Kd.S_slice aO.out; subst mZ; obtain ⟨hC, hD, nA⟩ := Kd.S_slice aP.out; subst nA; obtain ⟨jM, jN, nB⟩ := Kd.R_slice bC.out; subst nB; obtain ⟨iU, iV, nC⟩ := Kd.R_slice aU.out; subst nC; obtain ⟨iW, iX, nD⟩ := Kd.R_slice aV.out; subst nD) | ((with_reducible refine gate_callee (f := 5) rfl ?_); refine goesL_ (some 14) rfl rfl Tryz.func5 (by kernel_rfl) rfl #[.agg #[.int .i64 hF, .slice iM fX.length iN, .int .i64 hG, .slice iO fY.length iP, .slice gW fA.length gX, .slice gY fB.length gZ, .int .i64 hH, .slice iQ fZ.length iR, .int .i64 hI, .slice iS gA.length iT, .slice hA fC.length hB, .slice hC fD.length hD, .slice jM gT.length jN, .slice iU gB.length iV, .slice iW gC.length iX]] rfl MT ?_; (with_reducible refine (spec_WorldOk.calls k hF _ _ fX hG _ _ fY _ _ fA _ _ fB hH _ _ fZ hI _ _ gA _ _ fC _ _ fD _ _ gT _ _ gB _ _ gC cE _ ?_ ?_ ?_ ?_ ?_ ?_ ?_ ?_ ?_ ?_ ?_ ?_ ?_ ?_ ?_ ?_ ?_ ?_ ?_ ?_ ?_ ?_ A8.out).mono ?_); exact KC (Kd.R_reads' aQ.out).2.2; exact (Kd.R_reads' aQ.out).2.1; exact KC (Kd.R_reads' aR.out).2.2; exact (Kd.R_reads' aR.out).2.1; exact KC (Kd.S_reads' aM.out).2.2; exact (Kd.S_reads' aM.out).2.1; exact KC (Kd.S_reads' aN.out).2.2; exact (Kd.S_reads' aN.out).2.1; exact KC (Kd.R_reads' aS.out).2.2; exact (Kd.R_reads' aS.out).2.1; exact KC (Kd.R_reads' aT.out).2.2; exact (Kd.R_reads' aT.out).2.1; exact KC (Kd.S_reads' aO.out).2.2; exact (Kd.S_reads' aO.out).2.1; exact KC (Kd.S_reads' aP.out).2.2; exact (Kd.S_reads' aP.out).2.1; exact KC (Kd.R_reads' bC.out).2.2; exact (Kd.R_reads' bC.out).2.1; exact KC (Kd.R_reads' aU.out).2.2; exact (Kd.R_reads' aU.out).2.1; exact KC (Kd.R_reads' aV.out).2.2; exact (Kd.R_reads' aV.out).2.1; rintro e pJ ⟨rfl, hb⟩; refine ⟨_, rfl, ?_⟩; replace aQ := am (Kd.R_below (KR aQ) hb); replace aR := am (Kd.R_below (KR aR) hb); replace aM := am (Kd.S_below (KX aM.out) hb); replace aN := am (Kd.S_below (KX aN.out) hb); replace aS := am (Kd.R_below (KR aS) hb); replace aT := am (Kd.R_below (KR aT) hb); replace aO := am (Kd.S_below (KX aO.out) hb); replace aP := am (Kd.S_below (KX aP.out) hb); replace bC := am (Kd.R_below (KR bC) hb); replace aU := am (Kd.R_below (KR aU) hb); replace aV := am (Kd.R_below (KR aV) hb); replace aD := am (BB aD hb); replace HB := bl (K1 HB aE.out) hb; (try clear hb); (try clear hb2); (try clear hk); (try clear hi); have ⟨_, _, _, _, _, _, _, _, _, _, _, _, _, _, _, _⟩ := y15 pJ aD.out) | ((with_reducible refine gate_callee (f := 6) rfl ?_); refine goesL_ (some 16) rfl rfl Tryz.func6 (by kernel_rfl) rfl #[.agg #[.int .i64 bH, .slice dH aW.length dI, .int .i64 bI, .slice dJ aX.length dK, .slice dL aY.length dM, .slice dN aZ.length dO, .int .i64 bJ, .slice dP bA.length dQ, .int .i64 bK, .slice dR bB.length dS, .slice cJ aG.length cK, .slice cL aH.length cM, .slice cN aI.length cO, .slice cP aJ.length cQ, .slice cR aK.length cS]] rfl MT ?_; (with_reducible refine (laws_toWorld.calls k bH _ _ aW bI _ _ aX _ _ aY _ _ aZ bJ _ _ bA bK _ _ bB _ _ aG _ _ aH _ _ aI _ _ aJ _ _ aK bT bR bX bV bU bW cB cA cT cF cC cG dA dB dD _ ?_ ?_ ?_ ?_ ?_ ?_ ?_ ?_ ?_ ?_ ?_ ?_ ?_ ?_ ?_ ?_ ?_ ?_ ?_ ?_ ?_ ?_ A9.out).mono ?_); exact KD eM HB; exact eN.out; exact KD eO HB; exact eP.out; exact KD eQ HB; exact eR.out; exact KD eS HB; exact eT.out; exact KD eU HB; exact eV.out; exact KD eW HB; exact eX.out; exact KD dT HB; exact dU.out; exact KD dV HB; exact dW.out; exact KD dX HB; exact dY.out; exact KD dZ HB; exact eA.out; exact KD eB HB; exact eC.out; rintro e qJ ⟨pK, pL, pM, pN, pO, pP, pQ, pR, pS, pT, pU, rfl, fS, fT, eI, eJ, fU, fV, eK, eL, gV, fW, dC, hb⟩; refine ⟨_, rfl, ?_⟩; have bL := am (Kd.R_lower (Kd.R_new' (Kd.R_new' fS (Kd.R_lt (KR aQ))) (Kd.R_lt (KR aS))) (below_size (K1 HB aE.out))); have bM := am (Kd.R_lower (Kd.R_new' (Kd.R_new' fT (Kd.R_lt (KR aR))) (Kd.R_lt (KR aT))) (below_size (K1 HB aE.out))); have bD := am (Kd.S_lower (Kd.S_new' (Kd.S_new' (Kd.S_new' (Kd.S_new' eI (Kd.S_lt (KX aM.out))) (Kd.S_lt (KX aN.out))) (Kd.S_lt (KX aO.out))) (Kd.S_lt (KX aP.out))) (below_size (K1 HB aE.out))); have bE := am (Kd.S_lower (Kd.S_new' (Kd.S_new' (Kd.S_new' (Kd.S_new' eJ (Kd.S_lt (KX aM.out))) (Kd.S_lt (KX aN.out))) (Kd.S_lt (KX aO.out))) (Kd.S_lt (KX aP.out))) (below_size (K1 HB aE.out))); have bN := am (Kd.R_lower (Kd.R_new' (Kd.R_new' fU (Kd.R_lt (KR aQ))) (Kd.R_lt (KR aS))) (below_size (K1 HB aE.out))); replace aQ := am (Kd.R_mono (Kd.R_told (Kd.R_told (Kd.R_old (KR aQ) hb) (Kd.R_base fS)) (Kd.R_base fU)) (fun _ h_ => h_.1)); replace aS := am (Kd.R_mono (Kd.R_told (Kd.R_told (Kd.R_old (KR aS) hb) (Kd.R_base fS)) (Kd.R_base fU)) (fun _ h_ => h_.1)); have bO := am (Kd.R_lower (Kd.R_new' (Kd.R_new' fV (Kd.R_lt (KR aR))) (Kd.R_lt (KR aT))) (below_size (K1 HB aE.out))); replace aR := am (Kd.R_mono (Kd.R_told (Kd.R_told (Kd.R_old (KR aR) hb) (Kd.R_base fT)) (Kd.R_base fV)) (fun _ h_ => h_.1)); replace aT := am (Kd.R_mono (Kd.R_told (Kd.R_told (Kd.R_old (KR aT) hb) (Kd.R_base fT)) (Kd.R_base fV)) (fun _ h_ => h_.1)); have bF := am (Kd.S_lower (Kd.S_new' (Kd.S_new' (Kd.S_new' (Kd.S_new' eK (Kd.S_lt (KX aM.out))) (Kd.S_lt (KX aN.out))) (Kd.S_lt (KX aO.out))) (Kd.S_lt (KX aP.out))) (below_size (K1 HB aE.out))); have bG := am (Kd.S_lower (Kd.S_new' (Kd.S_new' (Kd.S_new' (Kd.S_new' eL (Kd.S_lt (KX aM.out))) (Kd.S_lt (KX aN.out))) (Kd.S_lt (KX aO.out))) (Kd.S_lt (KX aP.out))) (below_size (K1 HB aE.out))); replace aM := am (Kd.S_mono (Kd.S_told (Kd.S_told (Kd.S_told (Kd.S_told (Kd.S_old (KX aM.out) hb) (Kd.S_base eI)) (Kd.S_base eJ)) (Kd.S_base eK)) (Kd.S_base eL)) (fun _ h_ => h_.1)); replace aN := am (Kd.S_mono (Kd.S_told (Kd.S_told (Kd.S_told (Kd.S_told (Kd.S_old (KX aN.out) hb) (Kd.S_base eI)) (Kd.S_base eJ)) (Kd.S_base eK)) (Kd.S_base eL)) (fun _ h_ => h_.1)); replace aO := am (Kd.S_mono (Kd.S_told (Kd.S_told (Kd.S_told (Kd.S_told (Kd.S_old (KX aO.out) hb) (Kd.S_base eI)) (Kd.S_base eJ)) (Kd.S_base eK)) (Kd.S_base eL)) (fun _ h_ => h_.1)); replace aP := am (Kd.S_mono (Kd.S_told (Kd.S_told (Kd.S_told (Kd.S_told (Kd.S_old (KX aP.out) hb) (Kd.S_base eI)) (Kd.S_base eJ)) (Kd.S_base eK)) (Kd.S_base eL)) (fun _ h_ => h_.1)); have bS := am (Kd.R_lower (Kd.R_new' gV (Kd.R_lt (KR bC))) (below_size (K1 HB aE.out))); replace bC := am (Kd.R_elder' (KR bC) (Kd.R_base gV) hb); have bP := am (Kd.R_lower (Kd.R_new' (Kd.R_new' fW (Kd.R_lt (KR aU))) (Kd.R_lt (KR aV))) (below_size (K1 HB aE.out))); have bQ := am (Kd.R_lower (Kd.R_new' (Kd.R_new' dC (Kd.R_lt (KR aU))) (Kd.R_lt (KR aV))) (below_size (K1 HB aE.out))); replace aU := am (Kd.R_mono (Kd.R_told (Kd.R_told (Kd.R_old (KR aU) hb) (Kd.R_base fW)) (Kd.R_base dC)) (fun _ h_ => h_.1)); replace aV := am (Kd.R_mono (Kd.R_told (Kd.R_told (Kd.R_old (KR aV) hb) (Kd.R_base fW)) (Kd.R_base dC)) (fun _ h_ => h_.1)); replace aD := am (BB aD hb); replace HB := bl (K1 HB aE.out) hb; (try clear hb); (try clear hb2); (try clear hk); (try clear hi); (try clear fS); (try clear fT); (try clear eI); (try clear eJ); (try clear fU); (try clear fV); (try clear eK); (try clear eL); (try clear gV); (try clear fW); (try clear dC)) | ((with_reducible refine gate_dst (N := 5) rfl ?_); refine box_event rfl (N := 5) rfl (cs := #[.int .i64 0, .slice none 0 0, .int .i64 0, .slice none 0 0, .slice none 0 0, .slice none 0 0, .int .i64 0, .slice none 0 0, .int .i64 0, .slice none 0 0, .slice none 0 0, .slice none 0 0, .slice none 0 0, .slice none 0 0, .slice none 0 0]) (t := 45) BX ?_; intro iL hg pV eZ hb; replace aQ := am (Kd.R_below (KR aQ) hb); replace aR := am (Kd.R_below (KR aR) hb); replace aM := am (Kd.S_below (KX aM.out) hb); replace aN := am (Kd.S_below (KX aN.out) hb); replace aS := am (Kd.R_below (KR aS) hb); replace aT := am (Kd.R_below (KR aT) hb); replace aO := am (Kd.S_below (KX aO.out) hb); replace aP := am (Kd.S_below (KX aP.out) hb); replace bC := am (Kd.R_below (KR bC) hb); replace aU := am (Kd.R_below (KR aU) hb); replace aV := am (Kd.R_below (KR aV) hb); replace bL := am (Kd.R_below (KR bL) hb); replace bM := am (Kd.R_below (KR bM) hb); replace bD := am (Kd.S_below (KX bD.out) hb); replace bE := am (Kd.S_below (KX bE.out) hb); replace bN := am (Kd.R_below (KR bN) hb); replace bO := am (Kd.R_below (KR bO) hb); replace bF := am (Kd.S_below (KX bF.out) hb); replace bG := am (Kd.S_below (KX bG.out) hb); replace bS := am (Kd.R_below (KR bS) hb); replace bP := am (Kd.R_below (KR bP) hb); replace bQ := am (Kd.R_below (KR bQ) hb); have aC := am (eZ); have jT := am (GH1 HB aE.out hg); have bY := jT; replace HB := bl (K1 HB aE.out) hb; have aF := am (NL aD hg); have gD := am (NG aD hg); replace aD := am (BB aD hb); clear hb eZ hg; have oP := gD.out; have oQ := aF.out; have ⟨_, _, _, _, _, _, _, _, _, _, _, _, _, _, _, _⟩ := y15 pV aC.out; obtain ⟨cH, cD, nE⟩ := Kd.R_slice bL.out; subst nE; obtain ⟨cY, cU, nF⟩ := Kd.R_slice bM.out; subst nF; obtain ⟨cV, cI, nG⟩ := Kd.S_slice bD.out; subst nG; obtain ⟨cZ, cW, nH⟩ := Kd.S_slice bE.out; subst nH; obtain ⟨dF, dE, nI⟩ := Kd.R_slice bN.out; subst nI; obtain ⟨eG, eD, nJ⟩ := Kd.R_slice bO.out; subst nJ; obtain ⟨eE, dG, nK⟩ := Kd.S_slice bF.out; subst nK; obtain ⟨eH, eF, nL⟩ := Kd.S_slice bG.out; subst nL; obtain ⟨gE, fQ, nM⟩ := Kd.R_slice bS.out; subst nM; obtain ⟨gF, fR, nN⟩ := Kd.R_slice bP.out; subst nN; obtain ⟨hE, gG, nO⟩ := Kd.R_slice bQ.out; subst nO) | ((with_reducible refine gate_callee (f := 7) rfl ?_); refine goesL_ (some 18) rfl rfl Tryz.func7 (by kernel_rfl) rfl #[.agg #[.int .i64 bT, .slice cH bR.length cD, .int .i64 bX, .slice cY bV.length cU, .slice cV bU.length cI, .slice cZ bW.length cW, .int .i64 cB, .slice dF cA.length dE, .int .i64 cT, .slice eG cF.length eD, .slice eE cC.length dG, .slice eH cG.length eF, .slice gE dA.length fQ, .slice gF dB.length fR, .slice hE dD.length gG]] rfl MT ?_; (with_reducible refine (impl_WorldOk.calls k bT _ _ bR bX _ _ bV _ _ bU _ _ bW cB _ _ cA cT _ _ cF _ _ cC _ _ cG _ _ dA _ _ dB _ _ dD bZ _ ?_ ?_ ?_ ?_ ?_ ?_ ?_ ?_ ?_ ?_ ?_ ?_ ?_ ?_ ?_ ?_ ?_ ?_ ?_ ?_ ?_ ?_ oT.out).mono ?_); (refine (Kd.R_reads' (e := 115) (base := w.heap.size) (ok := fun k_ => ((some k_ ≠ (.slice dF cA.length dE : Value).ownBlock ∧ some k_ ≠ (.slice iM fX.length iN : Value).ownBlock) ∧ some k_ ≠ (.slice iQ fZ.length iR : Value).ownBlock)) (n := bR.length) (c := cD) ?_).2.2; exact (by refine KW ?_; exact (RF bL.out aC.out))); exact (Kd.R_reads' bL.out).2.1; (refine (Kd.R_reads' (e := 108) (base := w.heap.size) (ok := fun k_ => ((some k_ ≠ (.slice eG cF.length eD : Value).ownBlock ∧ some k_ ≠ (.slice iO fY.length iP : Value).ownBlock) ∧ some k_ ≠ (.slice iS gA.length iT : Value).ownBlock)) (n := bV.length) (c := cU) ?_).2.2; exact (by refine KW ?_; exact (RF bM.out aC.out))); exact (Kd.R_reads' bM.out).2.1; (refine (Kd.S_reads' (e := 80) (base := w.heap.size) (ok := fun k_ => (((((some k_ ≠ (.slice cZ bW.length cW : Value).ownBlock ∧ (some k_ ≠ (.slice eE cC.length dG : Value).ownBlock ∧ some k_ ≠ (.slice eH cG.length eF : Value).ownBlock)) ∧ some k_ ≠ (.slice gW fA.length gX : Value).ownBlock) ∧ some k_ ≠ (.slice gY fB.length gZ : Value).ownBlock) ∧ some k_ ≠ (.slice hA fC.length hB : Value).ownBlock) ∧ some k_ ≠ (.slice hC fD.length hD : Value).ownBlock)) (n := bU.length) (c := cI) ?_).2.2; exact (by refine KX ?_; exact (SF bD.out aC.out))); exact (Kd.S_reads' bD.out).2.1; (refine (Kd.S_reads' (e := 80) (base := w.heap.size) (ok := fun k_ => (((((some k_ ≠ (.slice cV bU.length cI : Value).ownBlock ∧ (some k_ ≠ (.slice eE cC.length dG : Value).ownBlock ∧ some k_ ≠ (.slice eH cG.length eF : Value).ownBlock)) ∧ some k_ ≠ (.slice gW fA.length gX : Value).ownBlock) ∧ some k_ ≠ (.slice gY fB.length gZ : Value).ownBlock) ∧ some k_ ≠ (.slice hA fC.length hB : Value).ownBlock) ∧ some k_ ≠ (.slice hC fD.length hD : Value).ownBlock)) (n := bW.length) (c := cW) ?_).2.2; exact (by refine KX ?_; exact (SF bE.out aC.out))); exact (Kd.S_reads' bE.out).2.1; (refine (Kd.R_reads' (e := 115) (base := w.heap.size) (ok := fun k_ => ((some k_ ≠ (.slice cH bR.length cD : Value).ownBlock ∧ some k_ ≠ (.slice iM fX.length iN : Value).ownBlock) ∧ some k_ ≠ (.slice iQ fZ.length iR : Value).ownBlock)) (n := cA.length) (c := dE) ?_).2.2; exact (by refine KW ?_; exact (RF bN.out aC.out))); exact (Kd.R_reads' bN.out).2.1; (refine (Kd.R_reads' (e := 108) (base := w.heap.size) (ok := fun k_ => ((some k_ ≠ (.slice cY bV.length cU : Value).ownBlock ∧ some k_ ≠ (.slice iO fY.length iP : Value).ownBlock) ∧ some k_ ≠ (.slice iS gA.length iT : Value).ownBlock)) (n := cF.length) (c := eD) ?_).2.2; exact (by refine KW ?_; exact (RF bO.out aC.out))); exact (Kd.R_reads' bO.out).2.1; (refine (Kd.S_reads' (e := 80) (base := w.heap.size) (ok := fun k_ => (((((some k_ ≠ (.slice cV bU.length cI : Value).ownBlock ∧ (some k_ ≠ (.slice cZ bW.length cW : Value).ownBlock ∧ some k_ ≠ (.slice eH cG.length eF : Value).ownBlock)) ∧ some k_ ≠ (.slice gW fA.length gX : Value).ownBlock) ∧ some k_ ≠ (.slice gY fB.length gZ : Value).ownBlock) ∧ some k_ ≠ (.slice hA fC.length hB : Value).ownBlock) ∧ some k_ ≠ (.slice hC fD.length hD : Value).ownBlock)) (n := cC.length) (c := dG) ?_).2.2; exact (by refine KX ?_; exact (SF bF.out aC.out))); exact (Kd.S_reads' bF.out).2.1; (refine (Kd.S_reads' (e := 80) (base := w.heap.size) (ok := fun k_ => (((((some k_ ≠ (.slice cV bU.length cI : Value).ownBlock ∧ (some k_ ≠ (.slice cZ bW.length cW : Value).ownBlock ∧ some k_ ≠ (.slice eE cC.length dG : Value).ownBlock)) ∧ some k_ ≠ (.slice gW fA.length gX : Value).ownBlock) ∧ some k_ ≠ (.slice gY fB.length gZ : Value).ownBlock) ∧ some k_ ≠ (.slice hA fC.length hB : Value).ownBlock) ∧ some k_ ≠ (.slice hC fD.length hD : Value).ownBlock)) (n := cG.length) (c := eF) ?_).2.2; exact (by refine KX ?_; exact (SF bG.out aC.out))); exact (Kd.S_reads' bG.out).2.1; (refine (Kd.R_reads' (e := 54) (base := w.heap.size) (ok := fun k_ => (True ∧ some k_ ≠ (.slice jM gT.length jN : Value).ownBlock)) (n := dA.length) (c := fQ) ?_).2.2; exact (by refine KW ?_; exact (RF bS.out aC.out))); exact (Kd.R_reads' bS.out).2.1; (refine (Kd.R_reads' (e := 87) (base := w.heap.size) (ok := fun k_ => ((some k_ ≠ (.slice hE dD.length gG : Value).ownBlock ∧ some k_ ≠ (.slice iU gB.length iV : Value).ownBlock) ∧ some k_ ≠ (.slice iW gC.length iX : Value).ownBlock)) (n := dB.length) (c := fR) ?_).2.2; exact (by refine KW ?_; exact (RF bP.out aC.out))); exact (Kd.R_reads' bP.out).2.1; (refine (Kd.R_reads' (e := 87) (base := w.heap.size) (ok := fun k_ => ((some k_ ≠ (.slice gF dB.length fR : Value).ownBlock ∧ some k_ ≠ (.slice iU gB.length iV : Value).ownBlock) ∧ some k_ ≠ (.slice iW gC.length iX : Value).ownBlock)) (n := dD.length) (c := gG) ?_).2.2; exact (by refine KW ?_; exact (RF bQ.out aC.out))); exact (Kd.R_reads' bQ.out).2.1; rintro e pW ⟨rfl, hb⟩; refine ⟨_, rfl, ?_⟩; replace aQ := am (Kd.R_below (by refine KW ?_; exact (RF aQ.out aC.out)) hb); replace aR := am (Kd.R_below (by refine KW ?_; exact (RF aR.out aC.out)) hb); replace aM := am (Kd.S_below (by refine KX ?_; exact (SF aM.out aC.out)) hb); replace aN := am (Kd.S_below (by refine KX ?_; exact (SF aN.out aC.out)) hb); replace aS := am (Kd.R_below (by refine KW ?_; exact (RF aS.out aC.out)) hb); replace aT := am (Kd.R_below (by refine KW ?_; exact (RF aT.out aC.out)) hb); replace aO := am (Kd.S_below (by refine KX ?_; exact (SF aO.out aC.out)) hb); replace aP := am (Kd.S_below (by refine KX ?_; exact (SF aP.out aC.out)) hb); replace bC := am (Kd.R_below (by refine KW ?_; exact (RF bC.out aC.out)) hb); replace aU := am (Kd.R_below (by refine KW ?_; exact (RF aU.out aC.out)) hb); replace aV := am (Kd.R_below (by refine KW ?_; exact (RF aV.out aC.out)) hb); replace bL := am (Kd.R_below (by refine KW ?_; exact (RF bL.out aC.out)) hb); replace bM := am (Kd.R_below (by refine KW ?_; exact (RF bM.out aC.out)) hb); replace bD := am (Kd.S_below (by refine KX ?_; exact (SF bD.out aC.out)) hb); replace bE := am (Kd.S_below (by refine KX ?_; exact (SF bE.out aC.out)) hb); replace bN := am (Kd.R_below (by refine KW ?_; exact (RF bN.out aC.out)) hb); replace bO := am (Kd.R_below (by refine KW ?_; exact (RF bO.out aC.out)) hb); replace bF := am (Kd.S_below (by refine KX ?_; exact (SF bF.out aC.out)) hb); replace bG := am (Kd.S_below (by refine KX ?_; exact (SF bG.out aC.out)) hb); replace bS := am (Kd.R_below (by refine KW ?_; exact (RF bS.out aC.out)) hb); replace bP := am (Kd.R_below (by refine KW ?_; exact (RF bP.out aC.out)) hb); replace bQ := am (Kd.R_below (by refine KW ?_; exact (RF bQ.out aC.out)) hb); replace aD := am (blk_below (g := gR) (o := .cells #[.int .i64 bH, .slice dH aW.length dI, .int .i64 bI, .slice dJ aX.length dK, .slice dL aY.length dM, .slice dN aZ.length dO, .int .i64 bJ, .slice dP bA.length dQ, .int .i64 bK, .slice dR bB.length dS, .slice cJ aG.length cK, .slice cL aH.length cM, .slice cN aI.length cO, .slice cP aJ.length cQ, .slice cR aK.length cS] 32 (0, 0)) (by refine BD ?_; refine blk_far ?_ aF.out _; refine BD ?_; refine blk_far ?_ aF.out _; refine BD ?_; refine blk_far ?_ aF.out _; refine BD ?_; refine blk_far ?_ aF.out _; refine BD ?_; refine blk_far ?_ aF.out _; refine BD ?_; refine blk_far ?_ aF.out _; refine BD ?_; refine blk_far ?_ aF.out _; refine BD ?_; refine blk_far ?_ aF.out _; refine BD ?_; refine blk_far ?_ aF.out _; refine BD ?_; refine blk_far ?_ aF.out _; refine BD ?_; refine blk_far ?_ aF.out _; refine BD ?_; refine blk_far ?_ aF.out _; refine BD ?_; refine blk_far ?_ aF.out _; refine BD ?_; refine blk_far ?_ aF.out _; refine BD ?_; refine blk_far ?_ aF.out _; refine BD ?_; exact aD.out) hb); replace aC := am (blk_below (g := iL) (o := .cells #[.int .i64 bT, .slice cH bR.length cD, .int .i64 bX, .slice cY bV.length cU, .slice cV bU.length cI, .slice cZ bW.length cW, .int .i64 cB, .slice dF cA.length dE, .int .i64 cT, .slice eG cF.length eD, .slice eE cC.length dG, .slice eH cG.length eF, .slice gE dA.length fQ, .slice gF dB.length fR, .slice hE dD.length gG] 45 (0, 0)) (by refine BD ?_; refine blk_put (cs := #[.int .i64 bT, .slice cH bR.length cD, .int .i64 bX, .slice cY bV.length cU, .slice cV bU.length cI, .slice cZ bW.length cW, .int .i64 cB, .slice dF cA.length dE, .int .i64 cT, .slice eG cF.length eD, .slice eE cC.length dG, .slice eH cG.length eF, .slice gE dA.length fQ, .slice gF dB.length fR, .slice none 0 0]) ?_ 14 _ rfl; refine BD ?_; refine blk_put (cs := #[.int .i64 bT, .slice cH bR.length cD, .int .i64 bX, .slice cY bV.length cU, .slice cV bU.length cI, .slice cZ bW.length cW, .int .i64 cB, .slice dF cA.length dE, .int .i64 cT, .slice eG cF.length eD, .slice eE cC.length dG, .slice eH cG.length eF, .slice gE dA.length fQ, .slice none 0 0, .slice none 0 0]) ?_ 13 _ rfl; refine BD ?_; refine blk_put (cs := #[.int .i64 bT, .slice cH bR.length cD, .int .i64 bX, .slice cY bV.length cU, .slice cV bU.length cI, .slice cZ bW.length cW, .int .i64 cB, .slice dF cA.length dE, .int .i64 cT, .slice eG cF.length eD, .slice eE cC.length dG, .slice eH cG.length eF, .slice none 0 0, .slice none 0 0, .slice none 0 0]) ?_ 12 _ rfl; refine BD ?_; refine blk_put (cs := #[.int .i64 bT, .slice cH bR.length cD, .int .i64 bX, .slice cY bV.length cU, .slice cV bU.length cI, .slice cZ bW.length cW, .int .i64 cB, .slice dF cA.length dE, .int .i64 cT, .slice eG cF.length eD, .slice eE cC.length dG, .slice none 0 0, .slice none 0 0, .slice none 0 0, .slice none 0 0]) ?_ 11 _ rfl; refine BD ?_; refine blk_put (cs := #[.int .i64 bT, .slice cH bR.length cD, .int .i64 bX, .slice cY bV.length cU, .slice cV bU.length cI, .slice cZ bW.length cW, .int .i64 cB, .slice dF cA.length dE, .int .i64 cT, .slice eG cF.length eD, .slice none 0 0, .slice none 0 0, .slice none 0 0, .slice none 0 0, .slice none 0 0]) ?_ 10 _ rfl; refine BD ?_; refine blk_put (cs := #[.int .i64 bT, .slice cH bR.length cD, .int .i64 bX, .slice cY bV.length cU, .slice cV bU.length cI, .slice cZ bW.length cW, .int .i64 cB, .slice dF cA.length dE, .int .i64 cT, .slice none 0 0, .slice none 0 0, .slice none 0 0, .slice none 0 0, .slice none 0 0, .slice none 0 0]) ?_ 9 _ rfl; refine BD ?_; refine blk_put (cs := #[.int .i64 bT, .slice cH bR.length cD, .int .i64 bX, .slice cY bV.length cU, .slice cV bU.length cI, .slice cZ bW.length cW, .int .i64 cB, .slice dF cA.length dE, .int .i64 0, .slice none 0 0, .slice none 0 0, .slice none 0 0, .slice none 0 0, .slice none 0 0, .slice none 0 0]) ?_ 8 _ rfl; refine BD ?_; refine blk_put (cs := #[.int .i64 bT, .slice cH bR.length cD, .int .i64 bX, .slice cY bV.length cU, .slice cV bU.length cI, .slice cZ bW.length cW, .int .i64 cB, .slice none 0 0, .int .i64 0, .slice none 0 0, .slice none 0 0, .slice none 0 0, .slice none 0 0, .slice none 0 0, .slice none 0 0]) ?_ 7 _ rfl; refine BD ?_; refine blk_put (cs := #[.int .i64 bT, .slice cH bR.length cD, .int .i64 bX, .slice cY bV.length cU, .slice cV bU.length cI, .slice cZ bW.length cW, .int .i64 0, .slice none 0 0, .int .i64 0, .slice none 0 0, .slice none 0 0, .slice none 0 0, .slice none 0 0, .slice none 0 0, .slice none 0 0]) ?_ 6 _ rfl; refine BD ?_; refine blk_put (cs := #[.int .i64 bT, .slice cH bR.length cD, .int .i64 bX, .slice cY bV.length cU, .slice cV bU.length cI, .slice none 0 0, .int .i64 0, .slice none 0 0, .int .i64 0, .slice none 0 0, .slice none 0 0, .slice none 0 0, .slice none 0 0, .slice none 0 0, .slice none 0 0]) ?_ 5 _ rfl; refine BD ?_; refine blk_put (cs := #[.int .i64 bT, .slice cH bR.length cD, .int .i64 bX, .slice cY bV.length cU, .slice none 0 0, .slice none 0 0, .int .i64 0, .slice none 0 0, .int .i64 0, .slice none 0 0, .slice none 0 0, .slice none 0 0, .slice none 0 0, .slice none 0 0, .slice none 0 0]) ?_ 4 _ rfl; refine BD ?_; refine blk_put (cs := #[.int .i64 bT, .slice cH bR.length cD, .int .i64 bX, .slice none 0 0, .slice none 0 0, .slice none 0 0, .int .i64 0, .slice none 0 0, .int .i64 0, .slice none 0 0, .slice none 0 0, .slice none 0 0, .slice none 0 0, .slice none 0 0, .slice none 0 0]) ?_ 3 _ rfl; refine BD ?_; refine blk_put (cs := #[.int .i64 bT, .slice cH bR.length cD, .int .i64 0, .slice none 0 0, .slice none 0 0, .slice none 0 0, .int .i64 0, .slice none 0 0, .int .i64 0, .slice none 0 0, .slice none 0 0, .slice none 0 0, .slice none 0 0, .slice none 0 0, .slice none 0 0]) ?_ 2 _ rfl; refine BD ?_; refine blk_put (cs := #[.int .i64 bT, .slice none 0 0, .int .i64 0, .slice none 0 0, .slice none 0 0, .slice none 0 0, .int .i64 0, .slice none 0 0, .int .i64 0, .slice none 0 0, .slice none 0 0, .slice none 0 0, .slice none 0 0, .slice none 0 0, .slice none 0 0]) ?_ 1 _ rfl; refine BD ?_; refine blk_put (cs := #[.int .i64 0, .slice none 0 0, .int .i64 0, .slice none 0 0, .slice none 0 0, .slice none 0 0, .int .i64 0, .slice none 0 0, .int .i64 0, .slice none 0 0, .slice none 0 0, .slice none 0 0, .slice none 0 0, .slice none 0 0, .slice none 0 0]) ?_ 0 _ rfl; refine BD ?_; exact aC.out) hb); replace HB := bl (K2 HB aE.out bY.out) hb; (try clear hb); (try clear hb2); (try clear hk); (try clear hi)))
    replace aQ := am (Kd.R_drew aQ.out)
    replace aR := am (Kd.R_drew aR.out)
    replace aM := am (Kd.S_drew aM.out)
    replace aN := am (Kd.S_drew aN.out)
    replace aS := am (Kd.R_drew aS.out)
    replace aT := am (Kd.R_drew aT.out)
    replace aO := am (Kd.S_drew aO.out)
    replace aP := am (Kd.S_drew aP.out)
    replace bC := am (Kd.R_drew bC.out)
    replace aU := am (Kd.R_drew aU.out)
    replace aV := am (Kd.R_drew aV.out)
    replace bL := am (Kd.R_drew bL.out)
    replace bM := am (Kd.R_drew bM.out)
    replace bD := am (Kd.S_drew bD.out)
    replace bE := am (Kd.S_drew bE.out)
    replace bN := am (Kd.R_drew bN.out)
    replace bO := am (Kd.R_drew bO.out)
    replace bF := am (Kd.S_drew bF.out)
    replace bG := am (Kd.S_drew bG.out)
    replace bS := am (Kd.R_drew bS.out)
    replace bP := am (Kd.R_drew bP.out)
    replace bQ := am (Kd.R_drew bQ.out)
    replace aD := am (blk_drew aD.out)
    replace aC := am (blk_drew aC.out)
    replace HB := am (below_drew1 HB.out)
    refine start_ (n := 5) (S := fun w' => ce15 w' iL (.int .i64 bT) (.slice cH bR.length cD) (.int .i64 bX) (.slice cY bV.length cU) (.slice cV bU.length cI) (.slice cZ bW.length cW) (.int .i64 cB) (.slice dF cA.length dE) (.int .i64 cT) (.slice eG cF.length eD) (.slice eE cC.length dG) (.slice eH cG.length eF) (.slice gE dA.length fQ) (.slice gF dB.length fR) (.slice hE dD.length gG) (de15 w' gR (.int .i64 bH) (.slice dH aW.length dI) (.int .i64 bI) (.slice dJ aX.length dK) (.slice dL aY.length dM) (.slice dN aZ.length dO) (.int .i64 bJ) (.slice dP bA.length dQ) (.int .i64 bK) (.slice dR bB.length dS) (.slice cJ aG.length cK) (.slice cL aH.length cM) (.slice cN aI.length cO) (.slice cP aJ.length cQ) (.slice cR aK.length cS))) (ds := []) (tf 0 5) (by kernel_rfl) rfl rfl ⟨z0 _ aC.out, z1 _ aC.out, z2 _ aC.out, z3 _ aC.out, z4 _ aC.out, z5 _ aC.out, z6 _ aC.out, z7 _ aC.out, z8 _ aC.out, z9 _ aC.out, z10 _ aC.out, z11 _ aC.out, z12 _ aC.out, z13 _ aC.out, z14 _ aC.out, z0 _ aD.out, z1 _ aD.out, z2 _ aD.out, z3 _ aD.out, z4 _ aD.out, z5 _ aD.out, z6 _ aD.out, z7 _ aD.out, z8 _ aD.out, z9 _ aD.out, z10 _ aD.out, z11 _ aD.out, z12 _ aD.out, z13 _ aD.out, z14 _ aD.out⟩ (fun fE => ?_)
    generalize pW.drew = qK at aQ aR aM aN aS aT aO aP bC aU aV bL bM bD bE bN bO bF bG bS bP bQ aD aC HB fE ⊢
    refine take_ (i := 0) (N := some 22) (v := ?_) (a' := ?_) (tf 1 4) rfl rfl (by kernel_rfl) (fun _ _ _ h => h) (Or.inl ⟨by rfl, ?_⟩) fE ?_ ?_
    rotate_left
    ·rintro w' ⟨s0, s1, s2, s3, s4, s5, s6, s7, s8, s9, s10, s11, s12, s13, s14, s15, s16, s17, s18, s19, s20, s21, s22, s23, s24, s25, s26, s27, s28, s29⟩
     go_simp
     with_reducible rfl
    rotate_left
    ·simp only [Act.put, List.setIfInBounds_toArray, List.set_cons_zero, List.set_cons_succ, i64_w, i32_w]
     rfl
    refine take_ (i := 1) (N := some 23) (v := ?_) (a' := ?_) (tf 2 3) rfl rfl (by kernel_rfl) (fun _ _ _ h => h) (Or.inl ⟨by rfl, ?_⟩) fE ?_ ?_
    rotate_left
    ·rintro w' ⟨s0, s1, s2, s3, s4, s5, s6, s7, s8, s9, s10, s11, s12, s13, s14, s15, s16, s17, s18, s19, s20, s21, s22, s23, s24, s25, s26, s27, s28, s29⟩
     go_simp
     with_reducible rfl
    rotate_left
    ·simp only [Act.put, List.setIfInBounds_toArray, List.set_cons_zero, List.set_cons_succ, i64_w, i32_w]
     rfl
    refine one_ (i := 2) (N := some 24) (tf 3 2) rfl rfl (by kernel_rfl) (by decide) (fun K hK => ?_)
    refine goes_ Tryz.func6 (by kernel_rfl) rfl #[.agg #[.int .i64 bH, .slice dH aW.length dI, .int .i64 bI, .slice dJ aX.length dK, .slice dL aY.length dM, .slice dN aZ.length dO, .int .i64 bJ, .slice dP bA.length dQ, .int .i64 bK, .slice dR bB.length dS, .slice cJ aG.length cK, .slice cL aH.length cM, .slice cN aI.length cO, .slice cP aJ.length cQ, .slice cR aK.length cS]] (by rfl) rfl rfl MT ?_
    with_reducible refine (laws_toWorld.calls k bH _ _ aW bI _ _ aX _ _ aY _ _ aZ bJ _ _ bA bK _ _ bB _ _ aG _ _ aH _ _ aI _ _ aJ _ _ aK hJ hL hM hN hO hP hQ hR hS hT hU hV hW hX hY _ ?_ ?_ ?_ ?_ ?_ ?_ ?_ ?_ ?_ ?_ ?_ ?_ ?_ ?_ ?_ ?_ ?_ ?_ ?_ ?_ ?_ ?_ oU.out).mono ?_
    exact KD eM HB
    exact eN.out
    exact KD eO HB
    exact eP.out
    exact KD eQ HB
    exact eR.out
    exact KD eS HB
    exact eT.out
    exact KD eU HB
    exact eV.out
    exact KD eW HB
    exact eX.out
    exact KD dT HB
    exact dU.out
    exact KD dV HB
    exact dW.out
    exact KD dX HB
    exact dY.out
    exact KD dZ HB
    exact eA.out
    exact KD eB HB
    exact eC.out
    rintro e qL ⟨pX, pY, pZ, qA, qB, qC, qD, qE, qF, qG, qH, rfl, fS, fT, eI, eJ, fU, fV, eK, eL, gV, fW, dC, hb⟩
    refine ⟨_, rfl, ?_⟩
    have fF := am (Kd.R_lower (Kd.R_new' (Kd.R_new' (Kd.R_new' (Kd.R_new' fS (Kd.R_lt (KR aQ))) (Kd.R_lt (KR aS))) (Kd.R_lt (KR bL))) (Kd.R_lt (KR bN))) (below_size (K2 HB aE.out bY.out)))
    have fG := am (Kd.R_lower (Kd.R_new' (Kd.R_new' (Kd.R_new' (Kd.R_new' fT (Kd.R_lt (KR aR))) (Kd.R_lt (KR aT))) (Kd.R_lt (KR bM))) (Kd.R_lt (KR bO))) (below_size (K2 HB aE.out bY.out)))
    have fH := am (Kd.S_lower (Kd.S_new' (Kd.S_new' (Kd.S_new' (Kd.S_new' (Kd.S_new' (Kd.S_new' (Kd.S_new' (Kd.S_new' eI (Kd.S_lt (KX aM.out))) (Kd.S_lt (KX aN.out))) (Kd.S_lt (KX aO.out))) (Kd.S_lt (KX aP.out))) (Kd.S_lt (KX bD.out))) (Kd.S_lt (KX bE.out))) (Kd.S_lt (KX bF.out))) (Kd.S_lt (KX bG.out))) (below_size (K2 HB aE.out bY.out)))
    have fI := am (Kd.S_lower (Kd.S_new' (Kd.S_new' (Kd.S_new' (Kd.S_new' (Kd.S_new' (Kd.S_new' (Kd.S_new' (Kd.S_new' eJ (Kd.S_lt (KX aM.out))) (Kd.S_lt (KX aN.out))) (Kd.S_lt (KX aO.out))) (Kd.S_lt (KX aP.out))) (Kd.S_lt (KX bD.out))) (Kd.S_lt (KX bE.out))) (Kd.S_lt (KX bF.out))) (Kd.S_lt (KX bG.out))) (below_size (K2 HB aE.out bY.out)))
    have fJ := am (Kd.R_lower (Kd.R_new' (Kd.R_new' (Kd.R_new' (Kd.R_new' fU (Kd.R_lt (KR aQ))) (Kd.R_lt (KR aS))) (Kd.R_lt (KR bL))) (Kd.R_lt (KR bN))) (below_size (K2 HB aE.out bY.out)))
    replace aQ := am (Kd.R_mono (Kd.R_told (Kd.R_told (Kd.R_old (KR aQ) hb) (Kd.R_base fS)) (Kd.R_base fU)) (fun _ h_ => h_.1))
    replace aS := am (Kd.R_mono (Kd.R_told (Kd.R_told (Kd.R_old (KR aS) hb) (Kd.R_base fS)) (Kd.R_base fU)) (fun _ h_ => h_.1))
    replace bL := am (Kd.R_mono (Kd.R_told (Kd.R_told (Kd.R_old (KR bL) hb) (Kd.R_base fS)) (Kd.R_base fU)) (fun _ h_ => h_.1))
    replace bN := am (Kd.R_mono (Kd.R_told (Kd.R_told (Kd.R_old (KR bN) hb) (Kd.R_base fS)) (Kd.R_base fU)) (fun _ h_ => h_.1))
    have fK := am (Kd.R_lower (Kd.R_new' (Kd.R_new' (Kd.R_new' (Kd.R_new' fV (Kd.R_lt (KR aR))) (Kd.R_lt (KR aT))) (Kd.R_lt (KR bM))) (Kd.R_lt (KR bO))) (below_size (K2 HB aE.out bY.out)))
    replace aR := am (Kd.R_mono (Kd.R_told (Kd.R_told (Kd.R_old (KR aR) hb) (Kd.R_base fT)) (Kd.R_base fV)) (fun _ h_ => h_.1))
    replace aT := am (Kd.R_mono (Kd.R_told (Kd.R_told (Kd.R_old (KR aT) hb) (Kd.R_base fT)) (Kd.R_base fV)) (fun _ h_ => h_.1))
    replace bM := am (Kd.R_mono (Kd.R_told (Kd.R_told (Kd.R_old (KR bM) hb) (Kd.R_base fT)) (Kd.R_base fV)) (fun _ h_ => h_.1))
    replace bO := am (Kd.R_mono (Kd.R_told (Kd.R_told (Kd.R_old (KR bO) hb) (Kd.R_base fT)) (Kd.R_base fV)) (fun _ h_ => h_.1))
    have fL := am (Kd.S_lower (Kd.S_new' (Kd.S_new' (Kd.S_new' (Kd.S_new' (Kd.S_new' (Kd.S_new' (Kd.S_new' (Kd.S_new' eK (Kd.S_lt (KX aM.out))) (Kd.S_lt (KX aN.out))) (Kd.S_lt (KX aO.out))) (Kd.S_lt (KX aP.out))) (Kd.S_lt (KX bD.out))) (Kd.S_lt (KX bE.out))) (Kd.S_lt (KX bF.out))) (Kd.S_lt (KX bG.out))) (below_size (K2 HB aE.out bY.out)))
    have fM := am (Kd.S_lower (Kd.S_new' (Kd.S_new' (Kd.S_new' (Kd.S_new' (Kd.S_new' (Kd.S_new' (Kd.S_new' (Kd.S_new' eL (Kd.S_lt (KX aM.out))) (Kd.S_lt (KX aN.out))) (Kd.S_lt (KX aO.out))) (Kd.S_lt (KX aP.out))) (Kd.S_lt (KX bD.out))) (Kd.S_lt (KX bE.out))) (Kd.S_lt (KX bF.out))) (Kd.S_lt (KX bG.out))) (below_size (K2 HB aE.out bY.out)))
    replace aM := am (Kd.S_mono (Kd.S_told (Kd.S_told (Kd.S_told (Kd.S_told (Kd.S_old (KX aM.out) hb) (Kd.S_base eI)) (Kd.S_base eJ)) (Kd.S_base eK)) (Kd.S_base eL)) (fun _ h_ => h_.1))
    replace aN := am (Kd.S_mono (Kd.S_told (Kd.S_told (Kd.S_told (Kd.S_told (Kd.S_old (KX aN.out) hb) (Kd.S_base eI)) (Kd.S_base eJ)) (Kd.S_base eK)) (Kd.S_base eL)) (fun _ h_ => h_.1))
    replace aO := am (Kd.S_mono (Kd.S_told (Kd.S_told (Kd.S_told (Kd.S_told (Kd.S_old (KX aO.out) hb) (Kd.S_base eI)) (Kd.S_base eJ)) (Kd.S_base eK)) (Kd.S_base eL)) (fun _ h_ => h_.1))
    replace aP := am (Kd.S_mono (Kd.S_told (Kd.S_told (Kd.S_told (Kd.S_told (Kd.S_old (KX aP.out) hb) (Kd.S_base eI)) (Kd.S_base eJ)) (Kd.S_base eK)) (Kd.S_base eL)) (fun _ h_ => h_.1))
    replace bD := am (Kd.S_mono (Kd.S_told (Kd.S_told (Kd.S_told (Kd.S_told (Kd.S_old (KX bD.out) hb) (Kd.S_base eI)) (Kd.S_base eJ)) (Kd.S_base eK)) (Kd.S_base eL)) (fun _ h_ => h_.1))
    replace bE := am (Kd.S_mono (Kd.S_told (Kd.S_told (Kd.S_told (Kd.S_told (Kd.S_old (KX bE.out) hb) (Kd.S_base eI)) (Kd.S_base eJ)) (Kd.S_base eK)) (Kd.S_base eL)) (fun _ h_ => h_.1))
    replace bF := am (Kd.S_mono (Kd.S_told (Kd.S_told (Kd.S_told (Kd.S_told (Kd.S_old (KX bF.out) hb) (Kd.S_base eI)) (Kd.S_base eJ)) (Kd.S_base eK)) (Kd.S_base eL)) (fun _ h_ => h_.1))
    replace bG := am (Kd.S_mono (Kd.S_told (Kd.S_told (Kd.S_told (Kd.S_told (Kd.S_old (KX bG.out) hb) (Kd.S_base eI)) (Kd.S_base eJ)) (Kd.S_base eK)) (Kd.S_base eL)) (fun _ h_ => h_.1))
    have fN := am (Kd.R_lower (Kd.R_new' (Kd.R_new' gV (Kd.R_lt (KR bC))) (Kd.R_lt (KR bS))) (below_size (K2 HB aE.out bY.out)))
    replace bC := am (Kd.R_elder' (KR bC) (Kd.R_base gV) hb)
    replace bS := am (Kd.R_elder' (KR bS) (Kd.R_base gV) hb)
    have fO := am (Kd.R_lower (Kd.R_new' (Kd.R_new' (Kd.R_new' (Kd.R_new' fW (Kd.R_lt (KR aU))) (Kd.R_lt (KR aV))) (Kd.R_lt (KR bP))) (Kd.R_lt (KR bQ))) (below_size (K2 HB aE.out bY.out)))
    have fP := am (Kd.R_lower (Kd.R_new' (Kd.R_new' (Kd.R_new' (Kd.R_new' dC (Kd.R_lt (KR aU))) (Kd.R_lt (KR aV))) (Kd.R_lt (KR bP))) (Kd.R_lt (KR bQ))) (below_size (K2 HB aE.out bY.out)))
    replace aU := am (Kd.R_mono (Kd.R_told (Kd.R_told (Kd.R_old (KR aU) hb) (Kd.R_base fW)) (Kd.R_base dC)) (fun _ h_ => h_.1))
    replace aV := am (Kd.R_mono (Kd.R_told (Kd.R_told (Kd.R_old (KR aV) hb) (Kd.R_base fW)) (Kd.R_base dC)) (fun _ h_ => h_.1))
    replace bP := am (Kd.R_mono (Kd.R_told (Kd.R_told (Kd.R_old (KR bP) hb) (Kd.R_base fW)) (Kd.R_base dC)) (fun _ h_ => h_.1))
    replace bQ := am (Kd.R_mono (Kd.R_told (Kd.R_told (Kd.R_old (KR bQ) hb) (Kd.R_base fW)) (Kd.R_base dC)) (fun _ h_ => h_.1))
    replace aD := am (BB aD hb)
    replace aC := am (BB aC hb)
    replace HB := bl (K2 HB aE.out bY.out) hb
    (try clear hb)
    (try clear hb2)
    (try clear hk)
    (try clear hi)
    (try clear fS)
    (try clear fT)
    (try clear eI)
    (try clear eJ)
    (try clear fU)
    (try clear fV)
    (try clear eK)
    (try clear eL)
    (try clear gV)
    (try clear fW)
    (try clear dC)
    obtain ⟨nP, nQ, jZ⟩ := Kd.R_slice fF.out
    (first | subst jZ | (injection jZ with f1_ f2_ f3_; have f4_ := f1_.symm; have f5_ := f3_.symm; clear f1_ f2_ f3_; subst f4_; subst f5_))
    obtain ⟨nR, nS, kA⟩ := Kd.R_slice fG.out
    (first | subst kA | (injection kA with f1_ f2_ f3_; have f4_ := f1_.symm; have f5_ := f3_.symm; clear f1_ f2_ f3_; subst f4_; subst f5_))
    obtain ⟨nT, nU, kB⟩ := Kd.S_slice fH.out
    (first | subst kB | (injection kB with f1_ f2_ f3_; have f4_ := f1_.symm; have f5_ := f3_.symm; clear f1_ f2_ f3_; subst f4_; subst f5_))
    obtain ⟨nV, nW, kC⟩ := Kd.S_slice fI.out
    (first | subst kC | (injection kC with f1_ f2_ f3_; have f4_ := f1_.symm; have f5_ := f3_.symm; clear f1_ f2_ f3_; subst f4_; subst f5_))
    obtain ⟨nX, nY, kD⟩ := Kd.R_slice fJ.out
    (first | subst kD | (injection kD with f1_ f2_ f3_; have f4_ := f1_.symm; have f5_ := f3_.symm; clear f1_ f2_ f3_; subst f4_; subst f5_))
    obtain ⟨nZ, oA, kE⟩ := Kd.R_slice fK.out
    (first | subst kE | (injection kE with f1_ f2_ f3_; have f4_ := f1_.symm; have f5_ := f3_.symm; clear f1_ f2_ f3_; subst f4_; subst f5_))
    obtain ⟨oB, oC, kF⟩ := Kd.S_slice fL.out
    (first | subst kF | (injection kF with f1_ f2_ f3_; have f4_ := f1_.symm; have f5_ := f3_.symm; clear f1_ f2_ f3_; subst f4_; subst f5_))
    obtain ⟨oD, oE, kG⟩ := Kd.S_slice fM.out
    (first | subst kG | (injection kG with f1_ f2_ f3_; have f4_ := f1_.symm; have f5_ := f3_.symm; clear f1_ f2_ f3_; subst f4_; subst f5_))
    obtain ⟨oF, oG, kH⟩ := Kd.R_slice fN.out
    (first | subst kH | (injection kH with f1_ f2_ f3_; have f4_ := f1_.symm; have f5_ := f3_.symm; clear f1_ f2_ f3_; subst f4_; subst f5_))
    obtain ⟨oH, oI, kI⟩ := Kd.R_slice fO.out
    (first | subst kI | (injection kI with f1_ f2_ f3_; have f4_ := f1_.symm; have f5_ := f3_.symm; clear f1_ f2_ f3_; subst f4_; subst f5_))
    obtain ⟨oJ, oK, kJ⟩ := Kd.R_slice fP.out
    (first | subst kJ | (injection kJ with f1_ f2_ f3_; have f4_ := f1_.symm; have f5_ := f3_.symm; clear f1_ f2_ f3_; subst f4_; subst f5_))
    refine hK.out _ _ ⟨z0 _ aC.out, z1 _ aC.out, z2 _ aC.out, z3 _ aC.out, z4 _ aC.out, z5 _ aC.out, z6 _ aC.out, z7 _ aC.out, z8 _ aC.out, z9 _ aC.out, z10 _ aC.out, z11 _ aC.out, z12 _ aC.out, z13 _ aC.out, z14 _ aC.out, z0 _ aD.out, z1 _ aD.out, z2 _ aD.out, z3 _ aD.out, z4 _ aD.out, z5 _ aD.out, z6 _ aD.out, z7 _ aD.out, z8 _ aD.out, z9 _ aD.out, z10 _ aD.out, z11 _ aD.out, z12 _ aD.out, z13 _ aD.out, z14 _ aD.out⟩ (fun fE => ?_)
    clear hK K
    refine nm (some 24) ?_
    refine one_ (i := 3) (N := some 25) (tf 4 1) rfl rfl (by kernel_rfl) (by decide) (fun K hK => ?_)
    refine goes_ Tryz.func8 (by kernel_rfl) rfl #[.agg #[.int .i64 bT, .slice cH bR.length cD, .int .i64 bX, .slice cY bV.length cU, .slice cV bU.length cI, .slice cZ bW.length cW, .int .i64 cB, .slice dF cA.length dE, .int .i64 cT, .slice eG cF.length eD, .slice eE cC.length dG, .slice eH cG.length eF, .slice gE dA.length fQ, .slice gF dB.length fR, .slice hE dD.length gG], .agg #[.int .i64 hJ, .slice nP hL.length nQ, .int .i64 hM, .slice nR hN.length nS, .slice nT hO.length nU, .slice nV hP.length nW, .int .i64 hQ, .slice nX hR.length nY, .int .i64 hS, .slice nZ hT.length oA, .slice oB hU.length oC, .slice oD hV.length oE, .slice oF hW.length oG, .slice oH hX.length oI, .slice oJ hY.length oK]] (by rfl) rfl rfl MT ?_
    with_reducible refine (laws_eqWorld.calls k bT _ _ bR bX _ _ bV _ _ bU _ _ bW cB _ _ cA cT _ _ cF _ _ cC _ _ cG _ _ dA _ _ dB _ _ dD hJ _ _ hL hM _ _ hN _ _ hO _ _ hP hQ _ _ hR hS _ _ hT _ _ hU _ _ hV _ _ hW _ _ hX _ _ hY true _ ?_ ?_ ?_ ?_ ?_ ?_ ?_ ?_ ?_ ?_ ?_ ?_ ?_ ?_ ?_ ?_ ?_ ?_ ?_ ?_ ?_ ?_ ?_ ?_ ?_ ?_ ?_ ?_ ?_ ?_ ?_ ?_ ?_ ?_ ?_ ?_ ?_ ?_ ?_ ?_ ?_ ?_ ?_ ?_ oV.out).mono ?_
    exact KC (Kd.R_reads' bL.out).2.2
    exact (Kd.R_reads' bL.out).2.1
    exact KC (Kd.R_reads' bM.out).2.2
    exact (Kd.R_reads' bM.out).2.1
    exact KC (Kd.S_reads' bD.out).2.2
    exact (Kd.S_reads' bD.out).2.1
    exact KC (Kd.S_reads' bE.out).2.2
    exact (Kd.S_reads' bE.out).2.1
    exact KC (Kd.R_reads' bN.out).2.2
    exact (Kd.R_reads' bN.out).2.1
    exact KC (Kd.R_reads' bO.out).2.2
    exact (Kd.R_reads' bO.out).2.1
    exact KC (Kd.S_reads' bF.out).2.2
    exact (Kd.S_reads' bF.out).2.1
    exact KC (Kd.S_reads' bG.out).2.2
    exact (Kd.S_reads' bG.out).2.1
    exact KC (Kd.R_reads' bS.out).2.2
    exact (Kd.R_reads' bS.out).2.1
    exact KC (Kd.R_reads' bP.out).2.2
    exact (Kd.R_reads' bP.out).2.1
    exact KC (Kd.R_reads' bQ.out).2.2
    exact (Kd.R_reads' bQ.out).2.1
    exact KC (Kd.R_reads' fF.out).2.2
    exact (Kd.R_reads' fF.out).2.1
    exact KC (Kd.R_reads' fG.out).2.2
    exact (Kd.R_reads' fG.out).2.1
    exact KC (Kd.S_reads' fH.out).2.2
    exact (Kd.S_reads' fH.out).2.1
    exact KC (Kd.S_reads' fI.out).2.2
    exact (Kd.S_reads' fI.out).2.1
    exact KC (Kd.R_reads' fJ.out).2.2
    exact (Kd.R_reads' fJ.out).2.1
    exact KC (Kd.R_reads' fK.out).2.2
    exact (Kd.R_reads' fK.out).2.1
    exact KC (Kd.S_reads' fL.out).2.2
    exact (Kd.S_reads' fL.out).2.1
    exact KC (Kd.S_reads' fM.out).2.2
    exact (Kd.S_reads' fM.out).2.1
    exact KC (Kd.R_reads' fN.out).2.2
    exact (Kd.R_reads' fN.out).2.1
    exact KC (Kd.R_reads' fO.out).2.2
    exact (Kd.R_reads' fO.out).2.1
    exact KC (Kd.R_reads' fP.out).2.2
    exact (Kd.R_reads' fP.out).2.1
    rintro e qM ⟨rfl, hb⟩
    refine ⟨_, rfl, ?_⟩
    replace aQ := am (Kd.R_below (KR aQ) hb)
    replace aR := am (Kd.R_below (KR aR) hb)
    replace aM := am (Kd.S_below (KX aM.out) hb)
    replace aN := am (Kd.S_below (KX aN.out) hb)
    replace aS := am (Kd.R_below (KR aS) hb)
    replace aT := am (Kd.R_below (KR aT) hb)
    replace aO := am (Kd.S_below (KX aO.out) hb)
    replace aP := am (Kd.S_below (KX aP.out) hb)
    replace bC := am (Kd.R_below (KR bC) hb)
    replace aU := am (Kd.R_below (KR aU) hb)
    replace aV := am (Kd.R_below (KR aV) hb)
    replace bL := am (Kd.R_below (KR bL) hb)
    replace bM := am (Kd.R_below (KR bM) hb)
    replace bD := am (Kd.S_below (KX bD.out) hb)
    replace bE := am (Kd.S_below (KX bE.out) hb)
    replace bN := am (Kd.R_below (KR bN) hb)
    replace bO := am (Kd.R_below (KR bO) hb)
    replace bF := am (Kd.S_below (KX bF.out) hb)
    replace bG := am (Kd.S_below (KX bG.out) hb)
    replace bS := am (Kd.R_below (KR bS) hb)
    replace bP := am (Kd.R_below (KR bP) hb)
    replace bQ := am (Kd.R_below (KR bQ) hb)
    replace fF := am (Kd.R_below (KR fF) hb)
    replace fG := am (Kd.R_below (KR fG) hb)
    replace fH := am (Kd.S_below (KX fH.out) hb)
    replace fI := am (Kd.S_below (KX fI.out) hb)
    replace fJ := am (Kd.R_below (KR fJ) hb)
    replace fK := am (Kd.R_below (KR fK) hb)
    replace fL := am (Kd.S_below (KX fL.out) hb)
    replace fM := am (Kd.S_below (KX fM.out) hb)
    replace fN := am (Kd.R_below (KR fN) hb)
    replace fO := am (Kd.R_below (KR fO) hb)
    replace fP := am (Kd.R_below (KR fP) hb)
    replace aD := am (BB aD hb)
    replace aC := am (BB aC hb)
    replace HB := bl (K2 HB aE.out bY.out) hb
    (try clear hb)
    (try clear hb2)
    (try clear hk)
    (try clear hi)
    refine hK.out _ _ ⟨z0 _ aC.out, z1 _ aC.out, z2 _ aC.out, z3 _ aC.out, z4 _ aC.out, z5 _ aC.out, z6 _ aC.out, z7 _ aC.out, z8 _ aC.out, z9 _ aC.out, z10 _ aC.out, z11 _ aC.out, z12 _ aC.out, z13 _ aC.out, z14 _ aC.out, z0 _ aD.out, z1 _ aD.out, z2 _ aD.out, z3 _ aD.out, z4 _ aD.out, z5 _ aD.out, z6 _ aD.out, z7 _ aD.out, z8 _ aD.out, z9 _ aD.out, z10 _ aD.out, z11 _ aD.out, z12 _ aD.out, z13 _ aD.out, z14 _ aD.out⟩ (fun fE => ?_)
    clear hK K
    refine nm (some 25) ?_
    refine pure_ (i := 4) (N := some 26) (v := ?_) (a' := ?_) (tf 5 0) rfl rfl (by kernel_rfl) (fun _ _ _ h => h) (Or.inl ⟨by rfl, ?_⟩) ?_ ?_; rotate_left; (· intro w'; go_simp; with_reducible rfl); rotate_left; (· simp only [Act.put, List.setIfInBounds_toArray, List.set_cons_zero, List.set_cons_succ, i64_w, i32_w]; rfl)
    refine done_ (by kernel_rfl) ?_
    try go_wp2
    go_ret
    exact ⟨ER, K2 HB aE.out bY.out⟩
   ·replace kP := Bool.eq_false_iff.mpr kP
    subst kP
    have H1 := nf H
    clear H
    have H := H1
    clear H1
    exact absurd ((sj H).trans HR_.out) (by decide)
def laws_FnExactWorldOk.Pure : Prop := ∀ (a0_0 : Int) (l0_1 : List (S119)) (a0_2 : Int) (l0_3 : List (S137)) (l0_4 : List (S101)) (l0_5 : List (S101)) (a0_6 : Int) (l0_7 : List (S119)) (a0_8 : Int) (l0_9 : List (S137)) (l0_10 : List (S101)) (l0_11 : List (S101)) (l0_12 : List (S67)) (l0_13 : List (S72)) (l0_14 : List (S72)), ((Lit.int .i64 a0_0).wf = true) → ((l0_1.length ≤ maxLen ∧ ∀ x_ ∈ l0_1, wfT119 x_)) → ((Lit.int .i64 a0_2).wf = true) → ((l0_3.length ≤ maxLen ∧ ∀ x_ ∈ l0_3, wfT137 x_)) → ((l0_4.length ≤ maxLen ∧ ∀ x_ ∈ l0_4, wfT101 x_)) → ((l0_5.length ≤ maxLen ∧ ∀ x_ ∈ l0_5, wfT101 x_)) → ((Lit.int .i64 a0_6).wf = true) → ((l0_7.length ≤ maxLen ∧ ∀ x_ ∈ l0_7, wfT119 x_)) → ((Lit.int .i64 a0_8).wf = true) → ((l0_9.length ≤ maxLen ∧ ∀ x_ ∈ l0_9, wfT137 x_)) → ((l0_10.length ≤ maxLen ∧ ∀ x_ ∈ l0_10, wfT101 x_)) → ((l0_11.length ≤ maxLen ∧ ∀ x_ ∈ l0_11, wfT101 x_)) → ((l0_12.length ≤ maxLen ∧ ∀ x_ ∈ l0_12, wfT67 x_)) → ((l0_13.length ≤ maxLen ∧ ∀ x_ ∈ l0_13, wfT72 x_)) → ((l0_14.length ≤ maxLen ∧ ∀ x_ ∈ l0_14, wfT72 x_)) → ∃ k, laws_FnExactWorldOk.f k a0_0 l0_1 a0_2 l0_3 l0_4 l0_5 a0_6 l0_7 a0_8 l0_9 l0_10 l0_11 l0_12 l0_13 l0_14 = some true
theorem laws_FnExactWorldOk.walk (P : laws_FnExactWorldOk.Pure) (a0_0 : Int) (A0_1 : Option Addr) (c0_1 : Nat) (l0_1 : List (S119)) (a0_2 : Int) (A0_3 : Option Addr) (c0_3 : Nat) (l0_3 : List (S137)) (A0_4 : Option Addr) (c0_4 : Nat) (l0_4 : List (S101)) (A0_5 : Option Addr) (c0_5 : Nat) (l0_5 : List (S101)) (a0_6 : Int) (A0_7 : Option Addr) (c0_7 : Nat) (l0_7 : List (S119)) (a0_8 : Int) (A0_9 : Option Addr) (c0_9 : Nat) (l0_9 : List (S137)) (A0_10 : Option Addr) (c0_10 : Nat) (l0_10 : List (S101)) (A0_11 : Option Addr) (c0_11 : Nat) (l0_11 : List (S101)) (A0_12 : Option Addr) (c0_12 : Nat) (l0_12 : List (S67)) (A0_13 : Option Addr) (c0_13 : Nat) (l0_13 : List (S72)) (A0_14 : Option Addr) (c0_14 : Nat) (l0_14 : List (S72)) (w : World) (hr0_1 : Kd.C k119 w A0_1 l0_1.length l0_1) (hc0_1 : l0_1.length ≤ c0_1) (hr0_3 : Kd.C k137 w A0_3 l0_3.length l0_3) (hc0_3 : l0_3.length ≤ c0_3) (hr0_4 : Kd.C k101 w A0_4 l0_4.length l0_4) (hc0_4 : l0_4.length ≤ c0_4) (hr0_5 : Kd.C k101 w A0_5 l0_5.length l0_5) (hc0_5 : l0_5.length ≤ c0_5) (hr0_7 : Kd.C k119 w A0_7 l0_7.length l0_7) (hc0_7 : l0_7.length ≤ c0_7) (hr0_9 : Kd.C k137 w A0_9 l0_9.length l0_9) (hc0_9 : l0_9.length ≤ c0_9) (hr0_10 : Kd.C k101 w A0_10 l0_10.length l0_10) (hc0_10 : l0_10.length ≤ c0_10) (hr0_11 : Kd.C k101 w A0_11 l0_11.length l0_11) (hc0_11 : l0_11.length ≤ c0_11) (hr0_12 : Kd.C k67 w A0_12 l0_12.length l0_12) (hc0_12 : l0_12.length ≤ c0_12) (hr0_13 : Kd.C k72 w A0_13 l0_13.length l0_13) (hc0_13 : l0_13.length ≤ c0_13) (hr0_14 : Kd.C k72 w A0_14 l0_14.length l0_14) (hc0_14 : l0_14.length ≤ c0_14) (q0_ : (Lit.int .i64 a0_0).wf = true) (q1_ : (l0_1.length ≤ maxLen ∧ ∀ x_ ∈ l0_1, wfT119 x_)) (q2_ : (Lit.int .i64 a0_2).wf = true) (q3_ : (l0_3.length ≤ maxLen ∧ ∀ x_ ∈ l0_3, wfT137 x_)) (q4_ : (l0_4.length ≤ maxLen ∧ ∀ x_ ∈ l0_4, wfT101 x_)) (q5_ : (l0_5.length ≤ maxLen ∧ ∀ x_ ∈ l0_5, wfT101 x_)) (q6_ : (Lit.int .i64 a0_6).wf = true) (q7_ : (l0_7.length ≤ maxLen ∧ ∀ x_ ∈ l0_7, wfT119 x_)) (q8_ : (Lit.int .i64 a0_8).wf = true) (q9_ : (l0_9.length ≤ maxLen ∧ ∀ x_ ∈ l0_9, wfT137 x_)) (q10_ : (l0_10.length ≤ maxLen ∧ ∀ x_ ∈ l0_10, wfT101 x_)) (q11_ : (l0_11.length ≤ maxLen ∧ ∀ x_ ∈ l0_11, wfT101 x_)) (q12_ : (l0_12.length ≤ maxLen ∧ ∀ x_ ∈ l0_12, wfT67 x_)) (q13_ : (l0_13.length ≤ maxLen ∧ ∀ x_ ∈ l0_13, wfT72 x_)) (q14_ : (l0_14.length ≤ maxLen ∧ ∀ x_ ∈ l0_14, wfT72 x_)) :
  Calls Tryz.prog 3 #[.agg #[.int .i64 a0_0, .slice A0_1 l0_1.length c0_1, .int .i64 a0_2, .slice A0_3 l0_3.length c0_3, .slice A0_4 l0_4.length c0_4, .slice A0_5 l0_5.length c0_5, .int .i64 a0_6, .slice A0_7 l0_7.length c0_7, .int .i64 a0_8, .slice A0_9 l0_9.length c0_9, .slice A0_10 l0_10.length c0_10, .slice A0_11 l0_11.length c0_11, .slice A0_12 l0_12.length c0_12, .slice A0_13 l0_13.length c0_13, .slice A0_14 l0_14.length c0_14]] w fun e w' => e = .returned (.bool true) ∧ Below w.heap.size w w' := by
 obtain ⟨k, h⟩ := P a0_0 l0_1 a0_2 l0_3 l0_4 l0_5 a0_6 l0_7 a0_8 l0_9 l0_10 l0_11 l0_12 l0_13 l0_14 q0_ q1_ q2_ q3_ q4_ q5_ q6_ q7_ q8_ q9_ q10_ q11_ q12_ q13_ q14_
 refine (laws_FnExactWorldOk.calls k a0_0 A0_1 c0_1 l0_1 a0_2 A0_3 c0_3 l0_3 A0_4 c0_4 l0_4 A0_5 c0_5 l0_5 a0_6 A0_7 c0_7 l0_7 a0_8 A0_9 c0_9 l0_9 A0_10 c0_10 l0_10 A0_11 c0_11 l0_11 A0_12 c0_12 l0_12 A0_13 c0_13 l0_13 A0_14 c0_14 l0_14 true w hr0_1 hc0_1 hr0_3 hc0_3 hr0_4 hc0_4 hr0_5 hc0_5 hr0_7 hc0_7 hr0_9 hc0_9 hr0_10 hc0_10 hr0_11 hc0_11 hr0_12 hc0_12 hr0_13 hc0_13 hr0_14 hc0_14 rfl h).mono ?_
 rintro e w' ⟨rfl, hd⟩
 exact ⟨rfl, hd⟩
end Go.Proofs.YtohegganioifbaaGreat.PAll
end
