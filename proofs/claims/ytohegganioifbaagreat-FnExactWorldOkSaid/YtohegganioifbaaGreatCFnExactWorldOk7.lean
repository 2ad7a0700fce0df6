/- Contracts of the functions that the statement reaches. -/
import Derived.Test.YtohegganioifbaaGreatCFnExactWorldOk3
import Derived.Test.YtohegganioifbaaGreatCFnExactWorldOk4
import Derived.Test.YtohegganioifbaaGreatCFnExactWorldOk6
set_option maxHeartbeats 8000000
set_option maxRecDepth 100000
section
namespace Go.Proofs.YtohegganioifbaaGreat.PAll
open Go.RowKit Go.Proofs.YtohegganioifbaaGreatW.PrintWords Go.Proofs.YtohegganioifbaaGreatW.PrintLast Go.Proofs.YtohegganioifbaaGreatW.PrintMore
attribute [local go_sem] max2_int min2_int max_two min_two max_three min_three max_four min_four
set_option linter.unusedVariables false
set_option linter.unusedSimpArgs false
def laws_toWorld.f (k : Nat) (a0_0 : Int) (l0_1 : List (S119)) (a0_2 : Int) (l0_3 : List (S137)) (l0_4 : List (S101)) (l0_5 : List (S101)) (a0_6 : Int) (l0_7 : List (S119)) (a0_8 : Int) (l0_9 : List (S137)) (l0_10 : List (S101)) (l0_11 : List (S101)) (l0_12 : List (S67)) (l0_13 : List (S72)) (l0_14 : List (S72)) : Option (Int × (List (S115)) × Int × (List (S108)) × (List (S80)) × (List (S80)) × Int × (List (S115)) × Int × (List (S108)) × (List (S80)) × (List (S80)) × (List (S54)) × (List (S87)) × (List (S87))) := (laws_toGate.f k a0_0 l0_1 a0_2 l0_3 l0_4 l0_5).bind fun bt104 => ((laws_toGate.f k a0_6 l0_7 a0_8 l0_9 l0_10 l0_11).bind fun bt118 => ((laws_toAirS.f k l0_12).bind fun t132 => ((laws_toSentS.f k l0_13).bind fun t135 => ((laws_toSentS.f k l0_14).bind fun t138 => (some (bt104.1, bt104.2.1, bt104.2.2.1, bt104.2.2.2.1, bt104.2.2.2.2.1, bt104.2.2.2.2.2, bt118.1, bt118.2.1, bt118.2.2.1, bt118.2.2.2.1, bt118.2.2.2.2.1, bt118.2.2.2.2.2, t132, t135, t138))))))
theorem laws_toWorld.calls (k : Nat) (dB : Int) (dF : Option Addr) (dG : Nat) (cH : List (S119)) (dC : Int) (dH : Option Addr) (dI : Nat) (cI : List (S137)) (dJ : Option Addr) (dK : Nat) (cJ : List (S101)) (dL : Option Addr) (dM : Nat) (cK : List (S101)) (cZ : Int) (dN : Option Addr) (dO : Nat) (cD : List (S119)) (dA : Int) (dP : Option Addr) (dQ : Nat) (cE : List (S137)) (cL : Option Addr) (cM : Nat) (bS : List (S101)) (cN : Option Addr) (cO : Nat) (bT : List (S101)) (cP : Option Addr) (cQ : Nat) (bM : List (S67)) (cR : Option Addr) (cS : Nat) (bJ : List (S72)) (cT : Option Addr) (cU : Nat) (bG : List (S72)) (r1 : Int) (r2 : List (S115)) (r3 : Int) (r4 : List (S108)) (r5 : List (S80)) (r6 : List (S80)) (r7 : Int) (r8 : List (S115)) (r9 : Int) (r10 : List (S108)) (r11 : List (S80)) (r12 : List (S80)) (r13 : List (S54)) (r14 : List (S87)) (r15 : List (S87)) (w : World) (eJ : Kd.C k119 w dF cH.length cH) (eK : cH.length ≤ dG) (eL : Kd.C k137 w dH cI.length cI) (eM : cI.length ≤ dI) (eN : Kd.C k101 w dJ cJ.length cJ) (eO : cJ.length ≤ dK) (eP : Kd.C k101 w dL cK.length cK) (eQ : cK.length ≤ dM) (eR : Kd.C k119 w dN cD.length cD) (eS : cD.length ≤ dO) (eT : Kd.C k137 w dP cE.length cE) (eU : cE.length ≤ dQ) (dZ : Kd.C k101 w cL bS.length bS) (eA : bS.length ≤ cM) (eB : Kd.C k101 w cN bT.length bT) (eC : bT.length ≤ cO) (eD : Kd.C k67 w cP bM.length bM) (eE : bM.length ≤ cQ) (eF : Kd.C k72 w cR bJ.length bJ) (eG : bJ.length ≤ cS) (eH : Kd.C k72 w cT bG.length bG) (eI : bG.length ≤ cU) (h : laws_toWorld.f k dB cH dC cI cJ cK cZ cD dA cE bS bT bM bJ bG = some (r1, r2, r3, r4, r5, r6, r7, r8, r9, r10, r11, r12, r13, r14, r15)) :
  Calls Tryz.prog 6 #[.agg #[.int .i64 dB, .slice dF cH.length dG, .int .i64 dC, .slice dH cI.length dI, .slice dJ cJ.length dK, .slice dL cK.length dM, .int .i64 cZ, .slice dN cD.length dO, .int .i64 dA, .slice dP cE.length dQ, .slice cL bS.length cM, .slice cN bT.length cO, .slice cP bM.length cQ, .slice cR bJ.length cS, .slice cT bG.length cU]] w fun e w' => ∃ v1_ v3_ v4_ v5_ v7_ v9_ v10_ v11_ v12_ v13_ v14_ : Value, e = .returned (.agg #[.int .i64 r1, v1_, .int .i64 r3, v3_, v4_, v5_, .int .i64 r7, v7_, .int .i64 r9, v9_, v10_, v11_, v12_, v13_, v14_]) ∧ Kd.R k115 115 w' w.heap.size (fun k_ => some k_ ≠ (v7_ : Value).ownBlock) v1_ r2 ∧ Kd.R k108 108 w' w.heap.size (fun k_ => some k_ ≠ (v9_ : Value).ownBlock) v3_ r4 ∧ Kd.S k80 80 w' w.heap.size (fun k_ => some k_ ≠ (v5_ : Value).ownBlock ∧ some k_ ≠ (v10_ : Value).ownBlock ∧ some k_ ≠ (v11_ : Value).ownBlock) v4_ r5 ∧ Kd.S k80 80 w' w.heap.size (fun k_ => some k_ ≠ (v4_ : Value).ownBlock ∧ some k_ ≠ (v10_ : Value).ownBlock ∧ some k_ ≠ (v11_ : Value).ownBlock) v5_ r6 ∧ Kd.R k115 115 w' w.heap.size (fun k_ => some k_ ≠ (v1_ : Value).ownBlock) v7_ r8 ∧ Kd.R k108 108 w' w.heap.size (fun k_ => some k_ ≠ (v3_ : Value).ownBlock) v9_ r10 ∧ Kd.S k80 80 w' w.heap.size (fun k_ => some k_ ≠ (v4_ : Value).ownBlock ∧ some k_ ≠ (v5_ : Value).ownBlock ∧ some k_ ≠ (v11_ : Value).ownBlock) v10_ r11 ∧ Kd.S k80 80 w' w.heap.size (fun k_ => some k_ ≠ (v4_ : Value).ownBlock ∧ some k_ ≠ (v5_ : Value).ownBlock ∧ some k_ ≠ (v10_ : Value).ownBlock) v11_ r12 ∧ Kd.R k54 54 w' w.heap.size (fun _ => True) v12_ r13 ∧ Kd.R k87 87 w' w.heap.size (fun k_ => some k_ ≠ (v14_ : Value).ownBlock) v13_ r14 ∧ Kd.R k87 87 w' w.heap.size (fun k_ => some k_ ≠ (v13_ : Value).ownBlock) v14_ r15 ∧ Below w.heap.size w w' := by
 have nT := Tryz.underlying32
 have nU := Tryz.underlying45
 have nV := Tryz.underlying28
 have nW := Tryz.underlying41
 have fJ := Aside0.mk eJ
 have fK := Aside0.mk eK
 clear eJ eK
 have fL := Aside0.mk eL
 have fM := Aside0.mk eM
 clear eL eM
 have fN := Aside0.mk eN
 have fO := Aside0.mk eO
 clear eN eO
 have fP := Aside0.mk eP
 have fQ := Aside0.mk eQ
 clear eP eQ
 have fR := Aside0.mk eR
 have fS := Aside0.mk eS
 clear eR eS
 have fT := Aside0.mk eT
 have fU := Aside0.mk eU
 clear eT eU
 have eW := Aside0.mk dZ
 have eX := Aside0.mk eA
 clear dZ eA
 have eY := Aside0.mk eB
 have eZ := Aside0.mk eC
 clear eB eC
 have fA := Aside0.mk eD
 have fB := Aside0.mk eE
 clear eD eE
 have fC := Aside0.mk eF
 have fD := Aside0.mk eG
 clear eF eG
 have fE := Aside0.mk eH
 have fF := Aside0.mk eI
 clear eH eI
 have HB := am (Below.refl w.heap.size w)
 have H : ((laws_toGate.f k dB cH dC cI cJ cK).bind fun dD => ((laws_toGate.f k cZ cD dA cE bS bT).bind fun bU => ((laws_toAirS.f k bM).bind fun bE => ((laws_toSentS.f k bJ).bind fun bH => ((laws_toSentS.f k bG).bind fun aS => (some (dD.1, dD.2.1, dD.2.2.1, dD.2.2.2.1, dD.2.2.2.2.1, dD.2.2.2.2.2, bU.1, bU.2.1, bU.2.2.1, bU.2.2.2.1, bU.2.2.2.2.1, bU.2.2.2.2.2, bE, bH, aS))))))) = some (r1, r2, r3, r4, r5, r6, r7, r8, r9, r10, r11, r12, r13, r14, r15) := h
 clear h
 replace H := bm H
 obtain ⟨⟨aE, aF, aG, aH, aJ, aO⟩, nD, H⟩ := H
 replace H : ((laws_toGate.f k cZ cD dA cE bS bT).bind fun bU => ((laws_toAirS.f k bM).bind fun bE => ((laws_toSentS.f k bJ).bind fun bH => ((laws_toSentS.f k bG).bind fun aS => (some (aE, aF, aG, aH, aJ, aO, bU.1, bU.2.1, bU.2.2.1, bU.2.2.2.1, bU.2.2.2.2.1, bU.2.2.2.2.2, bE, bH, aS)))))) = some (r1, r2, r3, r4, r5, r6, r7, r8, r9, r10, r11, r12, r13, r14, r15) := H
 have A2 := Aside0.mk nD
 clear nD
 replace H := bm H
 obtain ⟨⟨aT, aX, bA, bB, bF, bI⟩, nE, H⟩ := H
 replace H : ((laws_toAirS.f k bM).bind fun bE => ((laws_toSentS.f k bJ).bind fun bH => ((laws_toSentS.f k bG).bind fun aS => (some (aE, aF, aG, aH, aJ, aO, aT, aX, bA, bB, bF, bI, bE, bH, aS))))) = some (r1, r2, r3, r4, r5, r6, r7, r8, r9, r10, r11, r12, r13, r14, r15) := H
 have A3 := Aside0.mk nE
 clear nE
 replace H := bm H
 obtain ⟨bE, nF, H⟩ := H
 replace H : ((laws_toSentS.f k bJ).bind fun bH => ((laws_toSentS.f k bG).bind fun aS => (some (aE, aF, aG, aH, aJ, aO, aT, aX, bA, bB, bF, bI, bE, bH, aS)))) = some (r1, r2, r3, r4, r5, r6, r7, r8, r9, r10, r11, r12, r13, r14, r15) := H
 have A4 := Aside0.mk nF
 clear nF
 replace H := bm H
 obtain ⟨bH, nG, H⟩ := H
 replace H : ((laws_toSentS.f k bG).bind fun aS => (some (aE, aF, aG, aH, aJ, aO, aT, aX, bA, bB, bF, bI, bE, bH, aS))) = some (r1, r2, r3, r4, r5, r6, r7, r8, r9, r10, r11, r12, r13, r14, r15) := H
 have A5 := Aside0.mk nG
 clear nG
 replace H := bm H
 obtain ⟨aS, nH, H⟩ := H
 replace H : (some (aE, aF, aG, aH, aJ, aO, aT, aX, bA, bB, bF, bI, bE, bH, aS)) = some (r1, r2, r3, r4, r5, r6, r7, r8, r9, r10, r11, r12, r13, r14, r15) := H
 have A6 := Aside0.mk nH
 clear nH
 simp only [Option.some.injEq, Prod.mk.injEq] at H
 obtain ⟨rfl, rfl, rfl, rfl, rfl, rfl, rfl, rfl, rfl, rfl, rfl, rfl, rfl, rfl, rfl⟩ := H
 go_enter Tryz.func6, Tryz.ntmps6
 go_wp2_with (first | ((with_reducible refine gate_dst (N := 1) rfl ?_); refine box_event rfl (N := 1) rfl (cs := #[.int .i64 dB, .slice dF cH.length dG, .int .i64 dC, .slice dH cI.length dI, .slice dJ cJ.length dK, .slice dL cK.length dM, .int .i64 cZ, .slice dN cD.length dO, .int .i64 dA, .slice dP cE.length dQ, .slice cL bS.length cM, .slice cN bT.length cO, .slice cP bM.length cQ, .slice cR bJ.length cS, .slice cT bG.length cU]) (t := 32) BX ?_; intro dU hg w7 dR hb; have aU := am (dR); have fV := am (GH HB hg); have aI := fV; replace HB := bl (KL HB) hb; clear hb dR hg) | ((with_reducible refine gate_dst (N := 2) rfl ?_); refine box_event rfl (N := 2) rfl (cs := #[.int .i64 0, .slice none 0 0, .int .i64 0, .slice none 0 0, .slice none 0 0, .slice none 0 0, .int .i64 0, .slice none 0 0, .int .i64 0, .slice none 0 0, .slice none 0 0, .slice none 0 0, .slice none 0 0, .slice none 0 0, .slice none 0 0]) (t := 45) BX ?_; intro aA hg w8 dR hb; have aK := am (dR); have fW := am (GH1 HB aI.out hg); have aN := fW; replace HB := bl (K1 HB aI.out) hb; have dV := am (NL aU hg); have dW := am (NG aU hg); replace aU := am (BB aU hb); clear hb dR hg) | ((with_reducible refine gate_dst (N := 3) rfl ?_); refine box_event rfl (N := 3) rfl (cs := #[.int .i64 0, .slice none 0 0, .int .i64 0, .slice none 0 0, .slice none 0 0, .slice none 0 0, .int .i64 0, .slice none 0 0, .int .i64 0, .slice none 0 0, .slice none 0 0, .slice none 0 0, .slice none 0 0, .slice none 0 0, .slice none 0 0]) (t := 45) BX ?_; intro bN hg w9 dR hb; have aB := am (dR); have fX := am (GH2 HB aI.out aN.out hg); have aR := fX; replace HB := bl (K2 HB aI.out aN.out) hb; have aD := am (NL aU hg); have dX := am (NG aU hg); replace aU := am (BB aU hb); have aC := am (NL aK hg); have dY := am (NG aK hg); replace aK := am (BB aK hb); clear hb dR hg; have nI := dV.out; have nJ := dW.out; have nK := aD.out; have nL := dX.out; have ⟨_, _, _, _, _, _, _, _, _, _, _, _, _, _, _, _⟩ := y15 w9 aU.out) | ((with_reducible refine gate_callee (f := 13) rfl ?_); refine goesL_ (some 6) rfl rfl Tryz.func13 (by kernel_rfl) rfl #[.agg #[.int .i64 dB, .slice dF cH.length dG, .int .i64 dC, .slice dH cI.length dI, .slice dJ cJ.length dK, .slice dL cK.length dM]] rfl MT ?_; (with_reducible refine (laws_toGate.calls k dB _ _ cH dC _ _ cI _ _ cJ _ _ cK aE aF aG aH aJ aO _ ?_ ?_ ?_ ?_ ?_ ?_ ?_ ?_ A2.out).mono ?_); exact KD fJ HB; exact fK.out; exact KD fL HB; exact fM.out; exact KD fN HB; exact fO.out; exact KD fP HB; exact fQ.out; rintro e nM ⟨nX, nY, nZ, oA, rfl, dT, fI, fG, fH, hb⟩; refine ⟨_, rfl, ?_⟩; have bZ := am (Kd.R_lower dT (below_size (K3 HB aI.out aN.out aR.out))); have cA := am (Kd.R_lower fI (below_size (K3 HB aI.out aN.out aR.out))); have bX := am (Kd.S_lower fG (below_size (K3 HB aI.out aN.out aR.out))); have bY := am (Kd.S_lower fH (below_size (K3 HB aI.out aN.out aR.out))); replace aU := am (BB aU hb); replace aK := am (BB aK hb); replace aB := am (BB aB hb); replace HB := bl (K3 HB aI.out aN.out aR.out) hb; (try clear hb); (try clear dT); (try clear fI); (try clear fG); (try clear fH); have nN := dY.out; have nO := aC.out; have ⟨_, _, _, _, _, _, _, _, _, _, _, _, _, _, _, _⟩ := y15 nM aB.out; obtain ⟨aL, aM, mS⟩ := Kd.R_slice bZ.out; subst mS; obtain ⟨aP, aQ, mT⟩ := Kd.R_slice cA.out; subst mT; obtain ⟨aV, aW, mU⟩ := Kd.S_slice bX.out; subst mU; obtain ⟨aY, aZ, mV⟩ := Kd.S_slice bY.out; subst mV; have ⟨_, _, _, _, _, _, _, _, _, _, _, _, _, _, _, _⟩ := y15 nM aU.out) | ((with_reducible refine gate_callee (f := 13) rfl ?_); refine goesL_ (some 10) rfl rfl Tryz.func13 (by kernel_rfl) rfl #[.agg #[.int .i64 cZ, .slice dN cD.length dO, .int .i64 dA, .slice dP cE.length dQ, .slice cL bS.length cM, .slice cN bT.length cO]] rfl MT ?_; (with_reducible refine (laws_toGate.calls k cZ _ _ cD dA _ _ cE _ _ bS _ _ bT aT aX bA bB bF bI _ ?_ ?_ ?_ ?_ ?_ ?_ ?_ ?_ A3.out).mono ?_); exact Kd.C_below fR.out (K3 HB aI.out aN.out aR.out); exact fS.out; exact Kd.C_below fT.out (K3 HB aI.out aN.out aR.out); exact fU.out; exact Kd.C_below eW.out (K3 HB aI.out aN.out aR.out); exact eX.out; exact Kd.C_below eY.out (K3 HB aI.out aN.out aR.out); exact eZ.out; rintro e nP ⟨oB, oC, oD, oE, rfl, dT, fI, fG, fH, hb⟩; refine ⟨_, rfl, ?_⟩; have cV := am (Kd.R_lower (Kd.R_new' dT (Kd.R_lt (by refine KW ?_; exact (RF bZ.out aB.out)))) (below_size (K3 HB aI.out aN.out aR.out))); replace bZ := am (Kd.R_elder' (by refine KW ?_; exact (RF bZ.out aB.out)) (Kd.R_base dT) hb); have cW := am (Kd.R_lower (Kd.R_new' fI (Kd.R_lt (by refine KW ?_; exact (RF cA.out aB.out)))) (below_size (K3 HB aI.out aN.out aR.out))); replace cA := am (Kd.R_elder' (by refine KW ?_; exact (RF cA.out aB.out)) (Kd.R_base fI) hb); have cX := am (Kd.S_lower (Kd.S_new' (Kd.S_new' fG (Kd.S_lt (by refine KX ?_; exact (SF bX.out aB.out)))) (Kd.S_lt (by refine KX ?_; exact (SF bY.out aB.out)))) (below_size (K3 HB aI.out aN.out aR.out))); have cY := am (Kd.S_lower (Kd.S_new' (Kd.S_new' fH (Kd.S_lt (by refine KX ?_; exact (SF bX.out aB.out)))) (Kd.S_lt (by refine KX ?_; exact (SF bY.out aB.out)))) (below_size (K3 HB aI.out aN.out aR.out))); replace bX := am (Kd.S_mono (Kd.S_told (Kd.S_told (Kd.S_old (by refine KX ?_; exact (SF bX.out aB.out)) hb) (Kd.S_base fG)) (Kd.S_base fH)) (fun _ h_ => h_.1)); replace bY := am (Kd.S_mono (Kd.S_told (Kd.S_told (Kd.S_old (by refine KX ?_; exact (SF bY.out aB.out)) hb) (Kd.S_base fG)) (Kd.S_base fH)) (fun _ h_ => h_.1)); replace aU := am (blk_below (g := dU) (o := .cells #[.int .i64 dB, .slice dF cH.length dG, .int .i64 dC, .slice dH cI.length dI, .slice dJ cJ.length dK, .slice dL cK.length dM, .int .i64 cZ, .slice dN cD.length dO, .int .i64 dA, .slice dP cE.length dQ, .slice cL bS.length cM, .slice cN bT.length cO, .slice cP bM.length cQ, .slice cR bJ.length cS, .slice cT bG.length cU] 32 (0, 0)) (by refine BD ?_; refine blk_far ?_ aD.out _; refine BD ?_; refine blk_far ?_ aD.out _; refine BD ?_; refine blk_far ?_ aD.out _; refine BD ?_; refine blk_far ?_ aD.out _; refine BD ?_; refine blk_far ?_ aD.out _; refine BD ?_; refine blk_far ?_ aD.out _; refine BD ?_; exact aU.out) hb); replace aK := am (blk_below (g := aA) (o := .cells #[.int .i64 0, .slice none 0 0, .int .i64 0, .slice none 0 0, .slice none 0 0, .slice none 0 0, .int .i64 0, .slice none 0 0, .int .i64 0, .slice none 0 0, .slice none 0 0, .slice none 0 0, .slice none 0 0, .slice none 0 0, .slice none 0 0] 45 (0, 0)) (by refine BD ?_; refine blk_far ?_ aC.out _; refine BD ?_; refine blk_far ?_ aC.out _; refine BD ?_; refine blk_far ?_ aC.out _; refine BD ?_; refine blk_far ?_ aC.out _; refine BD ?_; refine blk_far ?_ aC.out _; refine BD ?_; refine blk_far ?_ aC.out _; refine BD ?_; exact aK.out) hb); replace aB := am (blk_below (g := bN) (o := .cells #[.int .i64 aE, .slice aL aF.length aM, .int .i64 aG, .slice aP aH.length aQ, .slice aV aJ.length aW, .slice aY aO.length aZ, .int .i64 0, .slice none 0 0, .int .i64 0, .slice none 0 0, .slice none 0 0, .slice none 0 0, .slice none 0 0, .slice none 0 0, .slice none 0 0] 45 (0, 0)) (by refine BD ?_; refine blk_put (cs := #[.int .i64 aE, .slice aL aF.length aM, .int .i64 aG, .slice aP aH.length aQ, .slice aV aJ.length aW, .slice none 0 0, .int .i64 0, .slice none 0 0, .int .i64 0, .slice none 0 0, .slice none 0 0, .slice none 0 0, .slice none 0 0, .slice none 0 0, .slice none 0 0]) ?_ 5 _ rfl; refine BD ?_; refine blk_put (cs := #[.int .i64 aE, .slice aL aF.length aM, .int .i64 aG, .slice aP aH.length aQ, .slice none 0 0, .slice none 0 0, .int .i64 0, .slice none 0 0, .int .i64 0, .slice none 0 0, .slice none 0 0, .slice none 0 0, .slice none 0 0, .slice none 0 0, .slice none 0 0]) ?_ 4 _ rfl; refine BD ?_; refine blk_put (cs := #[.int .i64 aE, .slice aL aF.length aM, .int .i64 aG, .slice none 0 0, .slice none 0 0, .slice none 0 0, .int .i64 0, .slice none 0 0, .int .i64 0, .slice none 0 0, .slice none 0 0, .slice none 0 0, .slice none 0 0, .slice none 0 0, .slice none 0 0]) ?_ 3 _ rfl; refine BD ?_; refine blk_put (cs := #[.int .i64 aE, .slice aL aF.length aM, .int .i64 0, .slice none 0 0, .slice none 0 0, .slice none 0 0, .int .i64 0, .slice none 0 0, .int .i64 0, .slice none 0 0, .slice none 0 0, .slice none 0 0, .slice none 0 0, .slice none 0 0, .slice none 0 0]) ?_ 2 _ rfl; refine BD ?_; refine blk_put (cs := #[.int .i64 aE, .slice none 0 0, .int .i64 0, .slice none 0 0, .slice none 0 0, .slice none 0 0, .int .i64 0, .slice none 0 0, .int .i64 0, .slice none 0 0, .slice none 0 0, .slice none 0 0, .slice none 0 0, .slice none 0 0, .slice none 0 0]) ?_ 1 _ rfl; refine BD ?_; refine blk_put (cs := #[.int .i64 0, .slice none 0 0, .int .i64 0, .slice none 0 0, .slice none 0 0, .slice none 0 0, .int .i64 0, .slice none 0 0, .int .i64 0, .slice none 0 0, .slice none 0 0, .slice none 0 0, .slice none 0 0, .slice none 0 0, .slice none 0 0]) ?_ 0 _ rfl; refine BD ?_; exact aB.out) hb); replace HB := bl (K3 HB aI.out aN.out aR.out) hb; (try clear hb); (try clear hb2); (try clear hk); (try clear hi); (try clear dT); (try clear fI); (try clear fG); (try clear fH); have ⟨_, _, _, _, _, _, _, _, _, _, _, _, _, _, _, _⟩ := y15 nP aB.out; obtain ⟨bC, bD, mW⟩ := Kd.R_slice cV.out; subst mW; obtain ⟨bK, bL, mX⟩ := Kd.R_slice cW.out; subst mX; obtain ⟨bQ, bR, mY⟩ := Kd.S_slice cX.out; subst mY; obtain ⟨bV, bW, mZ⟩ := Kd.S_slice cY.out; subst mZ; have ⟨_, _, _, _, _, _, _, _, _, _, _, _, _, _, _, _⟩ := y15 nP aU.out) | ((with_reducible refine gate_callee (f := 14) rfl ?_); refine goesL_ (some 14) rfl rfl Tryz.func14 (by kernel_rfl) rfl #[.slice cP bM.length cQ] rfl MT ?_; (with_reducible refine (laws_toAirS.calls k _ _ bM bE _ ?_ ?_ A4.out).mono ?_); exact Kd.C_below fA.out (K3 HB aI.out aN.out aR.out); exact fB.out; rintro e nQ ⟨oF, rfl, dT, hb⟩; refine ⟨_, rfl, ?_⟩; replace bZ := am (Kd.R_below (by refine KW ?_; exact (RF bZ.out aB.out)) hb); replace cA := am (Kd.R_below (by refine KW ?_; exact (RF cA.out aB.out)) hb); replace bX := am (Kd.S_below (by refine KX ?_; exact (SF bX.out aB.out)) hb); replace bY := am (Kd.S_below (by refine KX ?_; exact (SF bY.out aB.out)) hb); replace cV := am (Kd.R_below (by refine KW ?_; exact (RF cV.out aB.out)) hb); replace cW := am (Kd.R_below (by refine KW ?_; exact (RF cW.out aB.out)) hb); replace cX := am (Kd.S_below (by refine KX ?_; exact (SF cX.out aB.out)) hb); replace cY := am (Kd.S_below (by refine KX ?_; exact (SF cY.out aB.out)) hb); have dE := am (Kd.R_lower dT (below_size (K3 HB aI.out aN.out aR.out))); replace aU := am (blk_below (g := dU) (o := .cells #[.int .i64 dB, .slice dF cH.length dG, .int .i64 dC, .slice dH cI.length dI, .slice dJ cJ.length dK, .slice dL cK.length dM, .int .i64 cZ, .slice dN cD.length dO, .int .i64 dA, .slice dP cE.length dQ, .slice cL bS.length cM, .slice cN bT.length cO, .slice cP bM.length cQ, .slice cR bJ.length cS, .slice cT bG.length cU] 32 (0, 0)) (by refine BD ?_; refine blk_far ?_ aD.out _; refine BD ?_; refine blk_far ?_ aD.out _; refine BD ?_; refine blk_far ?_ aD.out _; refine BD ?_; refine blk_far ?_ aD.out _; refine BD ?_; refine blk_far ?_ aD.out _; refine BD ?_; refine blk_far ?_ aD.out _; refine BD ?_; exact aU.out) hb); replace aK := am (blk_below (g := aA) (o := .cells #[.int .i64 0, .slice none 0 0, .int .i64 0, .slice none 0 0, .slice none 0 0, .slice none 0 0, .int .i64 0, .slice none 0 0, .int .i64 0, .slice none 0 0, .slice none 0 0, .slice none 0 0, .slice none 0 0, .slice none 0 0, .slice none 0 0] 45 (0, 0)) (by refine BD ?_; refine blk_far ?_ aC.out _; refine BD ?_; refine blk_far ?_ aC.out _; refine BD ?_; refine blk_far ?_ aC.out _; refine BD ?_; refine blk_far ?_ aC.out _; refine BD ?_; refine blk_far ?_ aC.out _; refine BD ?_; refine blk_far ?_ aC.out _; refine BD ?_; exact aK.out) hb); replace aB := am (blk_below (g := bN) (o := .cells #[.int .i64 aE, .slice aL aF.length aM, .int .i64 aG, .slice aP aH.length aQ, .slice aV aJ.length aW, .slice aY aO.length aZ, .int .i64 aT, .slice bC aX.length bD, .int .i64 bA, .slice bK bB.length bL, .slice bQ bF.length bR, .slice bV bI.length bW, .slice none 0 0, .slice none 0 0, .slice none 0 0] 45 (0, 0)) (by refine BD ?_; refine blk_put (cs := #[.int .i64 aE, .slice aL aF.length aM, .int .i64 aG, .slice aP aH.length aQ, .slice aV aJ.length aW, .slice aY aO.length aZ, .int .i64 aT, .slice bC aX.length bD, .int .i64 bA, .slice bK bB.length bL, .slice bQ bF.length bR, .slice none 0 0, .slice none 0 0, .slice none 0 0, .slice none 0 0]) ?_ 11 _ rfl; refine BD ?_; refine blk_put (cs := #[.int .i64 aE, .slice aL aF.length aM, .int .i64 aG, .slice aP aH.length aQ, .slice aV aJ.length aW, .slice aY aO.length aZ, .int .i64 aT, .slice bC aX.length bD, .int .i64 bA, .slice bK bB.length bL, .slice none 0 0, .slice none 0 0, .slice none 0 0, .slice none 0 0, .slice none 0 0]) ?_ 10 _ rfl; refine BD ?_; refine blk_put (cs := #[.int .i64 aE, .slice aL aF.length aM, .int .i64 aG, .slice aP aH.length aQ, .slice aV aJ.length aW, .slice aY aO.length aZ, .int .i64 aT, .slice bC aX.length bD, .int .i64 bA, .slice none 0 0, .slice none 0 0, .slice none 0 0, .slice none 0 0, .slice none 0 0, .slice none 0 0]) ?_ 9 _ rfl; refine BD ?_; refine blk_put (cs := #[.int .i64 aE, .slice aL aF.length aM, .int .i64 aG, .slice aP aH.length aQ, .slice aV aJ.length aW, .slice aY aO.length aZ, .int .i64 aT, .slice bC aX.length bD, .int .i64 0, .slice none 0 0, .slice none 0 0, .slice none 0 0, .slice none 0 0, .slice none 0 0, .slice none 0 0]) ?_ 8 _ rfl; refine BD ?_; refine blk_put (cs := #[.int .i64 aE, .slice aL aF.length aM, .int .i64 aG, .slice aP aH.length aQ, .slice aV aJ.length aW, .slice aY aO.length aZ, .int .i64 aT, .slice none 0 0, .int .i64 0, .slice none 0 0, .slice none 0 0, .slice none 0 0, .slice none 0 0, .slice none 0 0, .slice none 0 0]) ?_ 7 _ rfl; refine BD ?_; refine blk_put (cs := #[.int .i64 aE, .slice aL aF.length aM, .int .i64 aG, .slice aP aH.length aQ, .slice aV aJ.length aW, .slice aY aO.length aZ, .int .i64 0, .slice none 0 0, .int .i64 0, .slice none 0 0, .slice none 0 0, .slice none 0 0, .slice none 0 0, .slice none 0 0, .slice none 0 0]) ?_ 6 _ rfl; refine BD ?_; exact aB.out) hb); replace HB := bl (K3 HB aI.out aN.out aR.out) hb; (try clear hb); (try clear hb2); (try clear hk); (try clear hi); (try clear dT); obtain ⟨cB, cC, nA⟩ := Kd.R_slice dE.out; subst nA; have ⟨_, _, _, _, _, _, _, _, _, _, _, _, _, _, _, _⟩ := y15 nQ aB.out; have ⟨_, _, _, _, _, _, _, _, _, _, _, _, _, _, _, _⟩ := y15 nQ aU.out) | ((with_reducible refine gate_callee (f := 15) rfl ?_); refine goesL_ (some 18) rfl rfl Tryz.func15 (by kernel_rfl) rfl #[.slice cR bJ.length cS] rfl MT ?_; (with_reducible refine (laws_toSentS.calls k _ _ bJ bH _ ?_ ?_ A5.out).mono ?_); exact Kd.C_below fC.out (K3 HB aI.out aN.out aR.out); exact fD.out; rintro e nR ⟨oG, rfl, dT, hb⟩; refine ⟨_, rfl, ?_⟩; replace bZ := am (Kd.R_below (by refine KW ?_; exact (RF bZ.out aB.out)) hb); replace cA := am (Kd.R_below (by refine KW ?_; exact (RF cA.out aB.out)) hb); replace bX := am (Kd.S_below (by refine KX ?_; exact (SF bX.out aB.out)) hb); replace bY := am (Kd.S_below (by refine KX ?_; exact (SF bY.out aB.out)) hb); replace cV := am (Kd.R_below (by refine KW ?_; exact (RF cV.out aB.out)) hb); replace cW := am (Kd.R_below (by refine KW ?_; exact (RF cW.out aB.out)) hb); replace cX := am (Kd.S_below (by refine KX ?_; exact (SF cX.out aB.out)) hb); replace cY := am (Kd.S_below (by refine KX ?_; exact (SF cY.out aB.out)) hb); replace dE := am (Kd.R_below (by refine KW ?_; exact (RF dE.out aB.out)) hb); have dS := am (Kd.R_lower dT (below_size (K3 HB aI.out aN.out aR.out))); replace aU := am (blk_below (g := dU) (o := .cells #[.int .i64 dB, .slice dF cH.length dG, .int .i64 dC, .slice dH cI.length dI, .slice dJ cJ.length dK, .slice dL cK.length dM, .int .i64 cZ, .slice dN cD.length dO, .int .i64 dA, .slice dP cE.length dQ, .slice cL bS.length cM, .slice cN bT.length cO, .slice cP bM.length cQ, .slice cR bJ.length cS, .slice cT bG.length cU] 32 (0, 0)) (by refine BD ?_; refine blk_far ?_ aD.out _; refine BD ?_; exact aU.out) hb); replace aK := am (blk_below (g := aA) (o := .cells #[.int .i64 0, .slice none 0 0, .int .i64 0, .slice none 0 0, .slice none 0 0, .slice none 0 0, .int .i64 0, .slice none 0 0, .int .i64 0, .slice none 0 0, .slice none 0 0, .slice none 0 0, .slice none 0 0, .slice none 0 0, .slice none 0 0] 45 (0, 0)) (by refine BD ?_; refine blk_far ?_ aC.out _; refine BD ?_; exact aK.out) hb); replace aB := am (blk_below (g := bN) (o := .cells #[.int .i64 aE, .slice aL aF.length aM, .int .i64 aG, .slice aP aH.length aQ, .slice aV aJ.length aW, .slice aY aO.length aZ, .int .i64 aT, .slice bC aX.length bD, .int .i64 bA, .slice bK bB.length bL, .slice bQ bF.length bR, .slice bV bI.length bW, .slice cB bE.length cC, .slice none 0 0, .slice none 0 0] 45 (0, 0)) (by refine BD ?_; refine blk_put (cs := #[.int .i64 aE, .slice aL aF.length aM, .int .i64 aG, .slice aP aH.length aQ, .slice aV aJ.length aW, .slice aY aO.length aZ, .int .i64 aT, .slice bC aX.length bD, .int .i64 bA, .slice bK bB.length bL, .slice bQ bF.length bR, .slice bV bI.length bW, .slice none 0 0, .slice none 0 0, .slice none 0 0]) ?_ 12 _ rfl; refine BD ?_; exact aB.out) hb); replace HB := bl (K3 HB aI.out aN.out aR.out) hb; (try clear hb); (try clear hb2); (try clear hk); (try clear hi); (try clear dT); obtain ⟨cF, cG, nB⟩ := Kd.R_slice dS.out; subst nB; have ⟨_, _, _, _, _, _, _, _, _, _, _, _, _, _, _, _⟩ := y15 nR aB.out; have ⟨_, _, _, _, _, _, _, _, _, _, _, _, _, _, _, _⟩ := y15 nR aU.out) | ((with_reducible refine gate_callee (f := 15) rfl ?_); refine goesL_ (some 22) rfl rfl Tryz.func15 (by kernel_rfl) rfl #[.slice cT bG.length cU] rfl MT ?_; (with_reducible refine (laws_toSentS.calls k _ _ bG aS _ ?_ ?_ A6.out).mono ?_); exact Kd.C_below fE.out (K3 HB aI.out aN.out aR.out); exact fF.out; rintro e nS ⟨oH, rfl, dT, hb⟩; refine ⟨_, rfl, ?_⟩; replace bZ := am (Kd.R_below (by refine KW ?_; exact (RF bZ.out aB.out)) hb); replace cA := am (Kd.R_below (by refine KW ?_; exact (RF cA.out aB.out)) hb); replace bX := am (Kd.S_below (by refine KX ?_; exact (SF bX.out aB.out)) hb); replace bY := am (Kd.S_below (by refine KX ?_; exact (SF bY.out aB.out)) hb); replace cV := am (Kd.R_below (by refine KW ?_; exact (RF cV.out aB.out)) hb); replace cW := am (Kd.R_below (by refine KW ?_; exact (RF cW.out aB.out)) hb); replace cX := am (Kd.S_below (by refine KX ?_; exact (SF cX.out aB.out)) hb); replace cY := am (Kd.S_below (by refine KX ?_; exact (SF cY.out aB.out)) hb); replace dE := am (Kd.R_below (by refine KW ?_; exact (RF dE.out aB.out)) hb); have eV := am (Kd.R_lower (Kd.R_new' dT (Kd.R_lt (by refine KW ?_; exact (RF dS.out aB.out)))) (below_size (K3 HB aI.out aN.out aR.out))); replace dS := am (Kd.R_elder' (by refine KW ?_; exact (RF dS.out aB.out)) (Kd.R_base dT) hb); replace aU := am (blk_below (g := dU) (o := .cells #[.int .i64 dB, .slice dF cH.length dG, .int .i64 dC, .slice dH cI.length dI, .slice dJ cJ.length dK, .slice dL cK.length dM, .int .i64 cZ, .slice dN cD.length dO, .int .i64 dA, .slice dP cE.length dQ, .slice cL bS.length cM, .slice cN bT.length cO, .slice cP bM.length cQ, .slice cR bJ.length cS, .slice cT bG.length cU] 32 (0, 0)) (by refine BD ?_; refine blk_far ?_ aD.out _; refine BD ?_; exact aU.out) hb); replace aK := am (blk_below (g := aA) (o := .cells #[.int .i64 0, .slice none 0 0, .int .i64 0, .slice none 0 0, .slice none 0 0, .slice none 0 0, .int .i64 0, .slice none 0 0, .int .i64 0, .slice none 0 0, .slice none 0 0, .slice none 0 0, .slice none 0 0, .slice none 0 0, .slice none 0 0] 45 (0, 0)) (by refine BD ?_; refine blk_far ?_ aC.out _; refine BD ?_; exact aK.out) hb); replace aB := am (blk_below (g := bN) (o := .cells #[.int .i64 aE, .slice aL aF.length aM, .int .i64 aG, .slice aP aH.length aQ, .slice aV aJ.length aW, .slice aY aO.length aZ, .int .i64 aT, .slice bC aX.length bD, .int .i64 bA, .slice bK bB.length bL, .slice bQ bF.length bR, .slice bV bI.length bW, .slice cB bE.length cC, .slice cF bH.length cG, .slice none 0 0] 45 (0, 0)) (by refine BD ?_; refine blk_put (cs := #[.int .i64 aE, .slice aL aF.length aM, .int .i64 aG, .slice aP aH.length aQ, .slice aV aJ.length aW, .slice aY aO.length aZ, .int .i64 aT, .slice bC aX.length bD, .int .i64 bA, .slice bK bB.length bL, .slice bQ bF.length bR, .slice bV bI.length bW, .slice cB bE.length cC, .slice none 0 0, .slice none 0 0]) ?_ 13 _ rfl; refine BD ?_; exact aB.out) hb); replace HB := bl (K3 HB aI.out aN.out aR.out) hb; (try clear hb); (try clear hb2); (try clear hk); (try clear hi); (try clear dT); obtain ⟨bO, bP, nC⟩ := Kd.R_slice eV.out; subst nC; have ⟨_, _, _, _, _, _, _, _, _, _, _, _, _, _, _, _⟩ := y15 nS aB.out; have ⟨_, _, _, _, _, _, _, _, _, _, _, _, _, _, _, _⟩ := y15 nS aK.out))
 refine bodyPost_ret (results_cell_row rfl _ _ aA 45 #[.int .i64 aE, .slice aL aF.length aM, .int .i64 aG, .slice aP aH.length aQ, .slice aV aJ.length aW, .slice aY aO.length aZ, .int .i64 aT, .slice bC aX.length bD, .int .i64 bA, .slice bK bB.length bL, .slice bQ bF.length bR, .slice bV bI.length bW, .slice cB bE.length cC, .slice cF bH.length cG, .slice bO aS.length bP] (0, 0) _ rfl (by refine BD ?_; refine blk_put (cs := #[.int .i64 aE, .slice aL aF.length aM, .int .i64 aG, .slice aP aH.length aQ, .slice aV aJ.length aW, .slice aY aO.length aZ, .int .i64 aT, .slice bC aX.length bD, .int .i64 bA, .slice bK bB.length bL, .slice bQ bF.length bR, .slice bV bI.length bW, .slice cB bE.length cC, .slice cF bH.length cG, .slice none 0 0]) ?_ 14 _ rfl; refine BD ?_; refine blk_put (cs := #[.int .i64 aE, .slice aL aF.length aM, .int .i64 aG, .slice aP aH.length aQ, .slice aV aJ.length aW, .slice aY aO.length aZ, .int .i64 aT, .slice bC aX.length bD, .int .i64 bA, .slice bK bB.length bL, .slice bQ bF.length bR, .slice bV bI.length bW, .slice cB bE.length cC, .slice none 0 0, .slice none 0 0]) ?_ 13 _ rfl; refine BD ?_; refine blk_put (cs := #[.int .i64 aE, .slice aL aF.length aM, .int .i64 aG, .slice aP aH.length aQ, .slice aV aJ.length aW, .slice aY aO.length aZ, .int .i64 aT, .slice bC aX.length bD, .int .i64 bA, .slice bK bB.length bL, .slice bQ bF.length bR, .slice bV bI.length bW, .slice none 0 0, .slice none 0 0, .slice none 0 0]) ?_ 12 _ rfl; refine BD ?_; refine blk_put (cs := #[.int .i64 aE, .slice aL aF.length aM, .int .i64 aG, .slice aP aH.length aQ, .slice aV aJ.length aW, .slice aY aO.length aZ, .int .i64 aT, .slice bC aX.length bD, .int .i64 bA, .slice bK bB.length bL, .slice bQ bF.length bR, .slice none 0 0, .slice none 0 0, .slice none 0 0, .slice none 0 0]) ?_ 11 _ rfl; refine BD ?_; refine blk_put (cs := #[.int .i64 aE, .slice aL aF.length aM, .int .i64 aG, .slice aP aH.length aQ, .slice aV aJ.length aW, .slice aY aO.length aZ, .int .i64 aT, .slice bC aX.length bD, .int .i64 bA, .slice bK bB.length bL, .slice none 0 0, .slice none 0 0, .slice none 0 0, .slice none 0 0, .slice none 0 0]) ?_ 10 _ rfl; refine BD ?_; refine blk_put (cs := #[.int .i64 aE, .slice aL aF.length aM, .int .i64 aG, .slice aP aH.length aQ, .slice aV aJ.length aW, .slice aY aO.length aZ, .int .i64 aT, .slice bC aX.length bD, .int .i64 bA, .slice none 0 0, .slice none 0 0, .slice none 0 0, .slice none 0 0, .slice none 0 0, .slice none 0 0]) ?_ 9 _ rfl; refine BD ?_; refine blk_put (cs := #[.int .i64 aE, .slice aL aF.length aM, .int .i64 aG, .slice aP aH.length aQ, .slice aV aJ.length aW, .slice aY aO.length aZ, .int .i64 aT, .slice bC aX.length bD, .int .i64 0, .slice none 0 0, .slice none 0 0, .slice none 0 0, .slice none 0 0, .slice none 0 0, .slice none 0 0]) ?_ 8 _ rfl; refine BD ?_; refine blk_put (cs := #[.int .i64 aE, .slice aL aF.length aM, .int .i64 aG, .slice aP aH.length aQ, .slice aV aJ.length aW, .slice aY aO.length aZ, .int .i64 aT, .slice none 0 0, .int .i64 0, .slice none 0 0, .slice none 0 0, .slice none 0 0, .slice none 0 0, .slice none 0 0, .slice none 0 0]) ?_ 7 _ rfl; refine BD ?_; refine blk_put (cs := #[.int .i64 aE, .slice aL aF.length aM, .int .i64 aG, .slice aP aH.length aQ, .slice aV aJ.length aW, .slice aY aO.length aZ, .int .i64 0, .slice none 0 0, .int .i64 0, .slice none 0 0, .slice none 0 0, .slice none 0 0, .slice none 0 0, .slice none 0 0, .slice none 0 0]) ?_ 6 _ rfl; refine BD ?_; refine blk_put (cs := #[.int .i64 aE, .slice aL aF.length aM, .int .i64 aG, .slice aP aH.length aQ, .slice aV aJ.length aW, .slice none 0 0, .int .i64 0, .slice none 0 0, .int .i64 0, .slice none 0 0, .slice none 0 0, .slice none 0 0, .slice none 0 0, .slice none 0 0, .slice none 0 0]) ?_ 5 _ rfl; refine BD ?_; refine blk_put (cs := #[.int .i64 aE, .slice aL aF.length aM, .int .i64 aG, .slice aP aH.length aQ, .slice none 0 0, .slice none 0 0, .int .i64 0, .slice none 0 0, .int .i64 0, .slice none 0 0, .slice none 0 0, .slice none 0 0, .slice none 0 0, .slice none 0 0, .slice none 0 0]) ?_ 4 _ rfl; refine BD ?_; refine blk_put (cs := #[.int .i64 aE, .slice aL aF.length aM, .int .i64 aG, .slice none 0 0, .slice none 0 0, .slice none 0 0, .int .i64 0, .slice none 0 0, .int .i64 0, .slice none 0 0, .slice none 0 0, .slice none 0 0, .slice none 0 0, .slice none 0 0, .slice none 0 0]) ?_ 3 _ rfl; refine BD ?_; refine blk_put (cs := #[.int .i64 aE, .slice aL aF.length aM, .int .i64 0, .slice none 0 0, .slice none 0 0, .slice none 0 0, .int .i64 0, .slice none 0 0, .int .i64 0, .slice none 0 0, .slice none 0 0, .slice none 0 0, .slice none 0 0, .slice none 0 0, .slice none 0 0]) ?_ 2 _ rfl; refine BD ?_; refine blk_put (cs := #[.int .i64 aE, .slice none 0 0, .int .i64 0, .slice none 0 0, .slice none 0 0, .slice none 0 0, .int .i64 0, .slice none 0 0, .int .i64 0, .slice none 0 0, .slice none 0 0, .slice none 0 0, .slice none 0 0, .slice none 0 0, .slice none 0 0]) ?_ 1 _ rfl; refine BD ?_; refine blk_put (cs := #[.int .i64 0, .slice none 0 0, .int .i64 0, .slice none 0 0, .slice none 0 0, .slice none 0 0, .int .i64 0, .slice none 0 0, .int .i64 0, .slice none 0 0, .slice none 0 0, .slice none 0 0, .slice none 0 0, .slice none 0 0, .slice none 0 0]) ?_ 0 _ rfl; refine BD ?_; refine blk_far ?_ aC.out _; refine BD ?_; exact aK.out) Tryz.underlying45 rfl (by kernel_rfl)) rfl ?_
 exact ⟨_, _, _, _, _, _, _, _, _, _, _, ER, by refine KW ?_; exact Kd.R_mono (Kd.R_far (p := ⟨aA, 14, none⟩) (Kd.R_far (p := ⟨aA, 13, none⟩) (Kd.R_far (p := ⟨aA, 12, none⟩) (Kd.R_far (p := ⟨aA, 11, none⟩) (Kd.R_far (p := ⟨aA, 10, none⟩) (Kd.R_far (p := ⟨aA, 9, none⟩) (Kd.R_far (p := ⟨aA, 8, none⟩) (Kd.R_far (p := ⟨aA, 7, none⟩) (Kd.R_far (p := ⟨aA, 6, none⟩) (Kd.R_far (p := ⟨aA, 5, none⟩) (Kd.R_far (p := ⟨aA, 4, none⟩) (Kd.R_far (p := ⟨aA, 3, none⟩) (Kd.R_far (p := ⟨aA, 2, none⟩) (Kd.R_far (p := ⟨aA, 1, none⟩) (Kd.R_far (p := ⟨aA, 0, none⟩) (Kd.R_far (p := ⟨bN, 14, none⟩) (Kd.R_types (Kd.R_types bZ.out aB.out (by decide)) aK.out (by decide)) (fun _ hk => hk.1.2) (.slice bO aS.length bP)) (fun _ hk => hk.2) (.int .i64 aE)) (fun _ hk => hk.2) (.slice aL aF.length aM)) (fun _ hk => hk.2) (.int .i64 aG)) (fun _ hk => hk.2) (.slice aP aH.length aQ)) (fun _ hk => hk.2) (.slice aV aJ.length aW)) (fun _ hk => hk.2) (.slice aY aO.length aZ)) (fun _ hk => hk.2) (.int .i64 aT)) (fun _ hk => hk.2) (.slice bC aX.length bD)) (fun _ hk => hk.2) (.int .i64 bA)) (fun _ hk => hk.2) (.slice bK bB.length bL)) (fun _ hk => hk.2) (.slice bQ bF.length bR)) (fun _ hk => hk.2) (.slice bV bI.length bW)) (fun _ hk => hk.2) (.slice cB bE.length cC)) (fun _ hk => hk.2) (.slice cF bH.length cG)) (fun _ hk => hk.2) (.slice bO aS.length bP)) (fun _ hk => hk.1.1.2), by refine KW ?_; exact Kd.R_mono (Kd.R_far (p := ⟨aA, 14, none⟩) (Kd.R_far (p := ⟨aA, 13, none⟩) (Kd.R_far (p := ⟨aA, 12, none⟩) (Kd.R_far (p := ⟨aA, 11, none⟩) (Kd.R_far (p := ⟨aA, 10, none⟩) (Kd.R_far (p := ⟨aA, 9, none⟩) (Kd.R_far (p := ⟨aA, 8, none⟩) (Kd.R_far (p := ⟨aA, 7, none⟩) (Kd.R_far (p := ⟨aA, 6, none⟩) (Kd.R_far (p := ⟨aA, 5, none⟩) (Kd.R_far (p := ⟨aA, 4, none⟩) (Kd.R_far (p := ⟨aA, 3, none⟩) (Kd.R_far (p := ⟨aA, 2, none⟩) (Kd.R_far (p := ⟨aA, 1, none⟩) (Kd.R_far (p := ⟨aA, 0, none⟩) (Kd.R_far (p := ⟨bN, 14, none⟩) (Kd.R_types (Kd.R_types cA.out aB.out (by decide)) aK.out (by decide)) (fun _ hk => hk.1.2) (.slice bO aS.length bP)) (fun _ hk => hk.2) (.int .i64 aE)) (fun _ hk => hk.2) (.slice aL aF.length aM)) (fun _ hk => hk.2) (.int .i64 aG)) (fun _ hk => hk.2) (.slice aP aH.length aQ)) (fun _ hk => hk.2) (.slice aV aJ.length aW)) (fun _ hk => hk.2) (.slice aY aO.length aZ)) (fun _ hk => hk.2) (.int .i64 aT)) (fun _ hk => hk.2) (.slice bC aX.length bD)) (fun _ hk => hk.2) (.int .i64 bA)) (fun _ hk => hk.2) (.slice bK bB.length bL)) (fun _ hk => hk.2) (.slice bQ bF.length bR)) (fun _ hk => hk.2) (.slice bV bI.length bW)) (fun _ hk => hk.2) (.slice cB bE.length cC)) (fun _ hk => hk.2) (.slice cF bH.length cG)) (fun _ hk => hk.2) (.slice bO aS.length bP)) (fun _ hk => hk.1.1.2), by refine KX ?_; exact Kd.S_mono (Kd.S_far (p := ⟨aA, 14, none⟩) (Kd.S_far (p := ⟨aA, 13, none⟩) (Kd.S_far (p := ⟨aA, 12, none⟩) (Kd.S_far (p := ⟨aA, 11, none⟩) (Kd.S_far (p := ⟨aA, 10, none⟩) (Kd.S_far (p := ⟨aA, 9, none⟩) (Kd.S_far (p := ⟨aA, 8, none⟩) (Kd.S_far (p := ⟨aA, 7, none⟩) (Kd.S_far (p := ⟨aA, 6, none⟩) (Kd.S_far (p := ⟨aA, 5, none⟩) (Kd.S_far (p := ⟨aA, 4, none⟩) (Kd.S_far (p := ⟨aA, 3, none⟩) (Kd.S_far (p := ⟨aA, 2, none⟩) (Kd.S_far (p := ⟨aA, 1, none⟩) (Kd.S_far (p := ⟨aA, 0, none⟩) (Kd.S_far (p := ⟨bN, 14, none⟩) (Kd.S_types (Kd.S_types bX.out aB.out (by decide)) aK.out (by decide)) (fun _ hk => hk.1.2) (.slice bO aS.length bP)) (fun _ hk => hk.2) (.int .i64 aE)) (fun _ hk => hk.2) (.slice aL aF.length aM)) (fun _ hk => hk.2) (.int .i64 aG)) (fun _ hk => hk.2) (.slice aP aH.length aQ)) (fun _ hk => hk.2) (.slice aV aJ.length aW)) (fun _ hk => hk.2) (.slice aY aO.length aZ)) (fun _ hk => hk.2) (.int .i64 aT)) (fun _ hk => hk.2) (.slice bC aX.length bD)) (fun _ hk => hk.2) (.int .i64 bA)) (fun _ hk => hk.2) (.slice bK bB.length bL)) (fun _ hk => hk.2) (.slice bQ bF.length bR)) (fun _ hk => hk.2) (.slice bV bI.length bW)) (fun _ hk => hk.2) (.slice cB bE.length cC)) (fun _ hk => hk.2) (.slice cF bH.length cG)) (fun _ hk => hk.2) (.slice bO aS.length bP)) (fun _ hk => ⟨hk.1.1.1.1, ⟨hk.1.1.1.2, hk.1.1.2⟩⟩), by refine KX ?_; exact Kd.S_mono (Kd.S_far (p := ⟨aA, 14, none⟩) (Kd.S_far (p := ⟨aA, 13, none⟩) (Kd.S_far (p := ⟨aA, 12, none⟩) (Kd.S_far (p := ⟨aA, 11, none⟩) (Kd.S_far (p := ⟨aA, 10, none⟩) (Kd.S_far (p := ⟨aA, 9, none⟩) (Kd.S_far (p := ⟨aA, 8, none⟩) (Kd.S_far (p := ⟨aA, 7, none⟩) (Kd.S_far (p := ⟨aA, 6, none⟩) (Kd.S_far (p := ⟨aA, 5, none⟩) (Kd.S_far (p := ⟨aA, 4, none⟩) (Kd.S_far (p := ⟨aA, 3, none⟩) (Kd.S_far (p := ⟨aA, 2, none⟩) (Kd.S_far (p := ⟨aA, 1, none⟩) (Kd.S_far (p := ⟨aA, 0, none⟩) (Kd.S_far (p := ⟨bN, 14, none⟩) (Kd.S_types (Kd.S_types bY.out aB.out (by decide)) aK.out (by decide)) (fun _ hk => hk.1.2) (.slice bO aS.length bP)) (fun _ hk => hk.2) (.int .i64 aE)) (fun _ hk => hk.2) (.slice aL aF.length aM)) (fun _ hk => hk.2) (.int .i64 aG)) (fun _ hk => hk.2) (.slice aP aH.length aQ)) (fun _ hk => hk.2) (.slice aV aJ.length aW)) (fun _ hk => hk.2) (.slice aY aO.length aZ)) (fun _ hk => hk.2) (.int .i64 aT)) (fun _ hk => hk.2) (.slice bC aX.length bD)) (fun _ hk => hk.2) (.int .i64 bA)) (fun _ hk => hk.2) (.slice bK bB.length bL)) (fun _ hk => hk.2) (.slice bQ bF.length bR)) (fun _ hk => hk.2) (.slice bV bI.length bW)) (fun _ hk => hk.2) (.slice cB bE.length cC)) (fun _ hk => hk.2) (.slice cF bH.length cG)) (fun _ hk => hk.2) (.slice bO aS.length bP)) (fun _ hk => ⟨hk.1.1.1.1, ⟨hk.1.1.1.2, hk.1.1.2⟩⟩), by refine KW ?_; exact Kd.R_mono (Kd.R_far (p := ⟨aA, 14, none⟩) (Kd.R_far (p := ⟨aA, 13, none⟩) (Kd.R_far (p := ⟨aA, 12, none⟩) (Kd.R_far (p := ⟨aA, 11, none⟩) (Kd.R_far (p := ⟨aA, 10, none⟩) (Kd.R_far (p := ⟨aA, 9, none⟩) (Kd.R_far (p := ⟨aA, 8, none⟩) (Kd.R_far (p := ⟨aA, 7, none⟩) (Kd.R_far (p := ⟨aA, 6, none⟩) (Kd.R_far (p := ⟨aA, 5, none⟩) (Kd.R_far (p := ⟨aA, 4, none⟩) (Kd.R_far (p := ⟨aA, 3, none⟩) (Kd.R_far (p := ⟨aA, 2, none⟩) (Kd.R_far (p := ⟨aA, 1, none⟩) (Kd.R_far (p := ⟨aA, 0, none⟩) (Kd.R_far (p := ⟨bN, 14, none⟩) (Kd.R_types (Kd.R_types cV.out aB.out (by decide)) aK.out (by decide)) (fun _ hk => hk.1.2) (.slice bO aS.length bP)) (fun _ hk => hk.2) (.int .i64 aE)) (fun _ hk => hk.2) (.slice aL aF.length aM)) (fun _ hk => hk.2) (.int .i64 aG)) (fun _ hk => hk.2) (.slice aP aH.length aQ)) (fun _ hk => hk.2) (.slice aV aJ.length aW)) (fun _ hk => hk.2) (.slice aY aO.length aZ)) (fun _ hk => hk.2) (.int .i64 aT)) (fun _ hk => hk.2) (.slice bC aX.length bD)) (fun _ hk => hk.2) (.int .i64 bA)) (fun _ hk => hk.2) (.slice bK bB.length bL)) (fun _ hk => hk.2) (.slice bQ bF.length bR)) (fun _ hk => hk.2) (.slice bV bI.length bW)) (fun _ hk => hk.2) (.slice cB bE.length cC)) (fun _ hk => hk.2) (.slice cF bH.length cG)) (fun _ hk => hk.2) (.slice bO aS.length bP)) (fun _ hk => hk.1.1.2), by refine KW ?_; exact Kd.R_mono (Kd.R_far (p := ⟨aA, 14, none⟩) (Kd.R_far (p := ⟨aA, 13, none⟩) (Kd.R_far (p := ⟨aA, 12, none⟩) (Kd.R_far (p := ⟨aA, 11, none⟩) (Kd.R_far (p := ⟨aA, 10, none⟩) (Kd.R_far (p := ⟨aA, 9, none⟩) (Kd.R_far (p := ⟨aA, 8, none⟩) (Kd.R_far (p := ⟨aA, 7, none⟩) (Kd.R_far (p := ⟨aA, 6, none⟩) (Kd.R_far (p := ⟨aA, 5, none⟩) (Kd.R_far (p := ⟨aA, 4, none⟩) (Kd.R_far (p := ⟨aA, 3, none⟩) (Kd.R_far (p := ⟨aA, 2, none⟩) (Kd.R_far (p := ⟨aA, 1, none⟩) (Kd.R_far (p := ⟨aA, 0, none⟩) (Kd.R_far (p := ⟨bN, 14, none⟩) (Kd.R_types (Kd.R_types cW.out aB.out (by decide)) aK.out (by decide)) (fun _ hk => hk.1.2) (.slice bO aS.length bP)) (fun _ hk => hk.2) (.int .i64 aE)) (fun _ hk => hk.2) (.slice aL aF.length aM)) (fun _ hk => hk.2) (.int .i64 aG)) (fun _ hk => hk.2) (.slice aP aH.length aQ)) (fun _ hk => hk.2) (.slice aV aJ.length aW)) (fun _ hk => hk.2) (.slice aY aO.length aZ)) (fun _ hk => hk.2) (.int .i64 aT)) (fun _ hk => hk.2) (.slice bC aX.length bD)) (fun _ hk => hk.2) (.int .i64 bA)) (fun _ hk => hk.2) (.slice bK bB.length bL)) (fun _ hk => hk.2) (.slice bQ bF.length bR)) (fun _ hk => hk.2) (.slice bV bI.length bW)) (fun _ hk => hk.2) (.slice cB bE.length cC)) (fun _ hk => hk.2) (.slice cF bH.length cG)) (fun _ hk => hk.2) (.slice bO aS.length bP)) (fun _ hk => hk.1.1.2), by refine KX ?_; exact Kd.S_mono (Kd.S_far (p := ⟨aA, 14, none⟩) (Kd.S_far (p := ⟨aA, 13, none⟩) (Kd.S_far (p := ⟨aA, 12, none⟩) (Kd.S_far (p := ⟨aA, 11, none⟩) (Kd.S_far (p := ⟨aA, 10, none⟩) (Kd.S_far (p := ⟨aA, 9, none⟩) (Kd.S_far (p := ⟨aA, 8, none⟩) (Kd.S_far (p := ⟨aA, 7, none⟩) (Kd.S_far (p := ⟨aA, 6, none⟩) (Kd.S_far (p := ⟨aA, 5, none⟩) (Kd.S_far (p := ⟨aA, 4, none⟩) (Kd.S_far (p := ⟨aA, 3, none⟩) (Kd.S_far (p := ⟨aA, 2, none⟩) (Kd.S_far (p := ⟨aA, 1, none⟩) (Kd.S_far (p := ⟨aA, 0, none⟩) (Kd.S_far (p := ⟨bN, 14, none⟩) (Kd.S_types (Kd.S_types cX.out aB.out (by decide)) aK.out (by decide)) (fun _ hk => hk.1.2) (.slice bO aS.length bP)) (fun _ hk => hk.2) (.int .i64 aE)) (fun _ hk => hk.2) (.slice aL aF.length aM)) (fun _ hk => hk.2) (.int .i64 aG)) (fun _ hk => hk.2) (.slice aP aH.length aQ)) (fun _ hk => hk.2) (.slice aV aJ.length aW)) (fun _ hk => hk.2) (.slice aY aO.length aZ)) (fun _ hk => hk.2) (.int .i64 aT)) (fun _ hk => hk.2) (.slice bC aX.length bD)) (fun _ hk => hk.2) (.int .i64 bA)) (fun _ hk => hk.2) (.slice bK bB.length bL)) (fun _ hk => hk.2) (.slice bQ bF.length bR)) (fun _ hk => hk.2) (.slice bV bI.length bW)) (fun _ hk => hk.2) (.slice cB bE.length cC)) (fun _ hk => hk.2) (.slice cF bH.length cG)) (fun _ hk => hk.2) (.slice bO aS.length bP)) (fun _ hk => ⟨hk.1.1.1.2, ⟨hk.1.1.2, hk.1.1.1.1⟩⟩), by refine KX ?_; exact Kd.S_mono (Kd.S_far (p := ⟨aA, 14, none⟩) (Kd.S_far (p := ⟨aA, 13, none⟩) (Kd.S_far (p := ⟨aA, 12, none⟩) (Kd.S_far (p := ⟨aA, 11, none⟩) (Kd.S_far (p := ⟨aA, 10, none⟩) (Kd.S_far (p := ⟨aA, 9, none⟩) (Kd.S_far (p := ⟨aA, 8, none⟩) (Kd.S_far (p := ⟨aA, 7, none⟩) (Kd.S_far (p := ⟨aA, 6, none⟩) (Kd.S_far (p := ⟨aA, 5, none⟩) (Kd.S_far (p := ⟨aA, 4, none⟩) (Kd.S_far (p := ⟨aA, 3, none⟩) (Kd.S_far (p := ⟨aA, 2, none⟩) (Kd.S_far (p := ⟨aA, 1, none⟩) (Kd.S_far (p := ⟨aA, 0, none⟩) (Kd.S_far (p := ⟨bN, 14, none⟩) (Kd.S_types (Kd.S_types cY.out aB.out (by decide)) aK.out (by decide)) (fun _ hk => hk.1.2) (.slice bO aS.length bP)) (fun _ hk => hk.2) (.int .i64 aE)) (fun _ hk => hk.2) (.slice aL aF.length aM)) (fun _ hk => hk.2) (.int .i64 aG)) (fun _ hk => hk.2) (.slice aP aH.length aQ)) (fun _ hk => hk.2) (.slice aV aJ.length aW)) (fun _ hk => hk.2) (.slice aY aO.length aZ)) (fun _ hk => hk.2) (.int .i64 aT)) (fun _ hk => hk.2) (.slice bC aX.length bD)) (fun _ hk => hk.2) (.int .i64 bA)) (fun _ hk => hk.2) (.slice bK bB.length bL)) (fun _ hk => hk.2) (.slice bQ bF.length bR)) (fun _ hk => hk.2) (.slice bV bI.length bW)) (fun _ hk => hk.2) (.slice cB bE.length cC)) (fun _ hk => hk.2) (.slice cF bH.length cG)) (fun _ hk => hk.2) (.slice bO aS.length bP)) (fun _ hk => ⟨hk.1.1.1.2, ⟨hk.1.1.2, hk.1.1.1.1⟩⟩), by refine KW ?_; exact Kd.R_mono (Kd.R_far (p := ⟨aA, 14, none⟩) (Kd.R_far (p := ⟨aA, 13, none⟩) (Kd.R_far (p := ⟨aA, 12, none⟩) (Kd.R_far (p := ⟨aA, 11, none⟩) (Kd.R_far (p := ⟨aA, 10, none⟩) (Kd.R_far (p := ⟨aA, 9, none⟩) (Kd.R_far (p := ⟨aA, 8, none⟩) (Kd.R_far (p := ⟨aA, 7, none⟩) (Kd.R_far (p := ⟨aA, 6, none⟩) (Kd.R_far (p := ⟨aA, 5, none⟩) (Kd.R_far (p := ⟨aA, 4, none⟩) (Kd.R_far (p := ⟨aA, 3, none⟩) (Kd.R_far (p := ⟨aA, 2, none⟩) (Kd.R_far (p := ⟨aA, 1, none⟩) (Kd.R_far (p := ⟨aA, 0, none⟩) (Kd.R_far (p := ⟨bN, 14, none⟩) (Kd.R_types (Kd.R_types dE.out aB.out (by decide)) aK.out (by decide)) (fun _ hk => hk.1.2) (.slice bO aS.length bP)) (fun _ hk => hk.2) (.int .i64 aE)) (fun _ hk => hk.2) (.slice aL aF.length aM)) (fun _ hk => hk.2) (.int .i64 aG)) (fun _ hk => hk.2) (.slice aP aH.length aQ)) (fun _ hk => hk.2) (.slice aV aJ.length aW)) (fun _ hk => hk.2) (.slice aY aO.length aZ)) (fun _ hk => hk.2) (.int .i64 aT)) (fun _ hk => hk.2) (.slice bC aX.length bD)) (fun _ hk => hk.2) (.int .i64 bA)) (fun _ hk => hk.2) (.slice bK bB.length bL)) (fun _ hk => hk.2) (.slice bQ bF.length bR)) (fun _ hk => hk.2) (.slice bV bI.length bW)) (fun _ hk => hk.2) (.slice cB bE.length cC)) (fun _ hk => hk.2) (.slice cF bH.length cG)) (fun _ hk => hk.2) (.slice bO aS.length bP)) (fun _ hk => trivial), by refine KW ?_; exact Kd.R_mono (Kd.R_far (p := ⟨aA, 14, none⟩) (Kd.R_far (p := ⟨aA, 13, none⟩) (Kd.R_far (p := ⟨aA, 12, none⟩) (Kd.R_far (p := ⟨aA, 11, none⟩) (Kd.R_far (p := ⟨aA, 10, none⟩) (Kd.R_far (p := ⟨aA, 9, none⟩) (Kd.R_far (p := ⟨aA, 8, none⟩) (Kd.R_far (p := ⟨aA, 7, none⟩) (Kd.R_far (p := ⟨aA, 6, none⟩) (Kd.R_far (p := ⟨aA, 5, none⟩) (Kd.R_far (p := ⟨aA, 4, none⟩) (Kd.R_far (p := ⟨aA, 3, none⟩) (Kd.R_far (p := ⟨aA, 2, none⟩) (Kd.R_far (p := ⟨aA, 1, none⟩) (Kd.R_far (p := ⟨aA, 0, none⟩) (Kd.R_far (p := ⟨bN, 14, none⟩) (Kd.R_types (Kd.R_types dS.out aB.out (by decide)) aK.out (by decide)) (fun _ hk => hk.1.2) (.slice bO aS.length bP)) (fun _ hk => hk.2) (.int .i64 aE)) (fun _ hk => hk.2) (.slice aL aF.length aM)) (fun _ hk => hk.2) (.int .i64 aG)) (fun _ hk => hk.2) (.slice aP aH.length aQ)) (fun _ hk => hk.2) (.slice aV aJ.length aW)) (fun _ hk => hk.2) (.slice aY aO.length aZ)) (fun _ hk => hk.2) (.int .i64 aT)) (fun _ hk => hk.2) (.slice bC aX.length bD)) (fun _ hk => hk.2) (.int .i64 bA)) (fun _ hk => hk.2) (.slice bK bB.length bL)) (fun _ hk => hk.2) (.slice bQ bF.length bR)) (fun _ hk => hk.2) (.slice bV bI.length bW)) (fun _ hk => hk.2) (.slice cB bE.length cC)) (fun _ hk => hk.2) (.slice cF bH.length cG)) (fun _ hk => hk.2) (.slice bO aS.length bP)) (fun _ hk => hk.1.1.2), by refine KW ?_; exact Kd.R_mono (Kd.R_far (p := ⟨aA, 14, none⟩) (Kd.R_far (p := ⟨aA, 13, none⟩) (Kd.R_far (p := ⟨aA, 12, none⟩) (Kd.R_far (p := ⟨aA, 11, none⟩) (Kd.R_far (p := ⟨aA, 10, none⟩) (Kd.R_far (p := ⟨aA, 9, none⟩) (Kd.R_far (p := ⟨aA, 8, none⟩) (Kd.R_far (p := ⟨aA, 7, none⟩) (Kd.R_far (p := ⟨aA, 6, none⟩) (Kd.R_far (p := ⟨aA, 5, none⟩) (Kd.R_far (p := ⟨aA, 4, none⟩) (Kd.R_far (p := ⟨aA, 3, none⟩) (Kd.R_far (p := ⟨aA, 2, none⟩) (Kd.R_far (p := ⟨aA, 1, none⟩) (Kd.R_far (p := ⟨aA, 0, none⟩) (Kd.R_far (p := ⟨bN, 14, none⟩) (Kd.R_types (Kd.R_types eV.out aB.out (by decide)) aK.out (by decide)) (fun _ hk => hk.1.2) (.slice bO aS.length bP)) (fun _ hk => hk.2) (.int .i64 aE)) (fun _ hk => hk.2) (.slice aL aF.length aM)) (fun _ hk => hk.2) (.int .i64 aG)) (fun _ hk => hk.2) (.slice aP aH.length aQ)) (fun _ hk => hk.2) (.slice aV aJ.length aW)) (fun _ hk => hk.2) (.slice aY aO.length aZ)) (fun _ hk => hk.2) (.int .i64 aT)) (fun _ hk => hk.2) (.slice bC aX.length bD)) (fun _ hk => hk.2) (.int .i64 bA)) (fun _ hk => hk.2) (.slice bK bB.length bL)) (fun _ hk => hk.2) (.slice bQ bF.length bR)) (fun _ hk => hk.2) (.slice bV bI.length bW)) (fun _ hk => hk.2) (.slice cB bE.length cC)) (fun _ hk => hk.2) (.slice cF bH.length cG)) (fun _ hk => hk.2) (.slice bO aS.length bP)) (fun _ hk => hk.1.1.2), K3 HB aI.out aN.out aR.out⟩
def impl_Rule_right.j0 : Nat → Bool → Int → Int → Int → Int → Int → Int → Int → Int → Option (Bool)
 | 0, _, _, _, _, _, _, _, _, _ => none
 | k + 1, x3, x102000, x102001, x102002, x102003, x102004, x102005, x102006, x102007 => (impl_BlockOk.f x102002 x102003).bind fun t103 => (if t103 = true then ((impl_BlockOk.f x102004 x102005).bind fun t104 => (if t104 = true then ((impl_in.f x102006 0 x102007).bind fun t105 => (if t105 = true then (if x102007 ≤ 65535 then ((impl_in.f x102000 0 2).bind fun t106 => (if t106 = true then (some x3) else (some false))) else (some false)) else (some false))) else (some false))) else (some false))
def impl_Rule_right.f (k : Nat) (a0_0 : Int) (a0_1 : Int) (a0_2 : Int) (a0_3 : Int) (a0_4 : Int) (a0_5 : Int) (a0_6 : Int) (a0_7 : Int) : Option (Bool) := if a0_1 = 0 then (impl_Rule_right.j0 k true a0_0 a0_1 a0_2 a0_3 a0_4 a0_5 a0_6 a0_7) else (if a0_0 = 2 then ((impl_in.f a0_1 0 3).bind fun t102 => (impl_Rule_right.j0 k t102 a0_0 a0_1 a0_2 a0_3 a0_4 a0_5 a0_6 a0_7)) else (impl_Rule_right.j0 k false a0_0 a0_1 a0_2 a0_3 a0_4 a0_5 a0_6 a0_7))
theorem impl_Rule_right.calls (k : Nat) (aF : Int) (aG : Int) (aC : Int) (aD : Int) (aH : Int) (aI : Int) (aJ : Int) (aE : Int) (r : Bool) (w : World) (h : impl_Rule_right.f k aF aG aC aD aH aI aJ aE = some r) :
  Calls Tryz.prog 77 #[.agg #[.int .i64 aF, .int .i64 aG, .int .i64 aC, .int .i64 aD, .int .i64 aH, .int .i64 aI, .int .i64 aJ, .int .i64 aE]] w fun e w' => e = .returned (.bool r) ∧ Below w.heap.size w w' := by
 have hM := Tryz.underlying115
 have hN := Tryz.underlying113
 have HB := am (Below.refl w.heap.size w)
 have H : (if aG = 0 then (impl_Rule_right.j0 k true aF aG aC aD aH aI aJ aE) else (if aF = 2 then ((impl_in.f aG 0 3).bind fun aN => (impl_Rule_right.j0 k aN aF aG aC aD aH aI aJ aE)) else (impl_Rule_right.j0 k false aF aG aC aD aH aI aJ aE))) = some r := h
 clear h
 have hL := Aside0.mk H
 clear H
 go_enter Tryz.func77, Tryz.ntmps77
 go_upto_region 1 with (first | ((with_reducible refine gate_dst (N := 1) rfl ?_); refine box_event rfl (N := 1) rfl (cs := #[.int .i64 aF, .int .i64 aG, .int .i64 aC, .int .i64 aD, .int .i64 aH, .int .i64 aI, .int .i64 aJ, .int .i64 aE]) (t := 115) BX ?_; intro bS hg w3 bT hb; have aA := am (bT); have bU := am (GH HB hg); have aB := bU; replace HB := bl (KL HB) hb; clear hb bT hg))
 (try simp only [Act.put, List.setIfInBounds_toArray, List.set_cons_zero, List.set_cons_succ])
 go_cut [3] (fun v3 wc => ∃ (kq : Nat) (aL : Bool), v3 = .bool aL ∧ Aside0 (impl_Rule_right.j0 kq aL aF aG aC aD aH aI aJ aE = some r) ∧ Aside0 (kq ≤ k) ∧ Aside0 (wc.heap[bS]? = some (.cells #[.int .i64 aF, .int .i64 aG, .int .i64 aC, .int .i64 aD, .int .i64 aH, .int .i64 aI, .int .i64 aJ, .int .i64 aE] 115 (0, 0))) ∧ Aside0 (Below w.heap.size w wc))
 case first =>
  have H := hL.out
  clear hL
  by_cases c4 : aG = 0
  ·rw [if_pos c4] at H
   have c4b0 : (aG == 0) = true := beq_iff_eq.mpr c4
   have c4b1 : (aG != 0) = false := bne_eq_false_iff_eq.mpr c4
   clear c4
   (first | rw [c4b0] | (simp only [i64_w, i32_w]; rw [c4b0]) | skip)
   have H' := Aside0.mk H
   clear H
   obtain ⟨aP, aQ, aR, aS, aT, aU, aV, aW, aX⟩ := y8 w3 aA.out
   go_wp2
   go_meet
   case rel => exact ⟨_, (true), (by first | rfl | (simp; done) | (simp [*]; done)), H', ⟨by first | omega | exact Nat.le_refl _⟩, ⟨KB aA⟩, ⟨K1 HB aB.out⟩⟩
  ·rw [if_neg c4] at H
   have c4b0 : (aG == 0) = false := beq_eq_false_iff_ne.mpr c4
   have c4b1 : (aG != 0) = true := bne_iff_ne.mpr c4
   (first | rw [c4b0] | (simp only [i64_w, i32_w]; rw [c4b0]) | skip)
   by_cases c6 : aF = 2
   ·rw [if_pos c6] at H
    have c6b0 : (aF == 2) = true := beq_iff_eq.mpr c6
    have c6b1 : (aF != 2) = false := bne_eq_false_iff_eq.mpr c6
    clear c6
    replace H := bm H
    obtain ⟨aN, hO, H⟩ := H
    replace H : (impl_Rule_right.j0 k aN aF aG aC aD aH aI aJ aE) = some r := H
    have A7 := Aside0.mk hO
    clear hO
    have H' := Aside0.mk H
    clear H
    obtain ⟨aY, aZ, bA, bB, bC, bD, bE, bF, bG⟩ := y8 w3 aA.out
    go_wp2_with (first | (go_at_call 35; (with_reducible refine (impl_in.calls aG 0 3 aN _ A7.out).mono ?_); rintro e w' ⟨rfl, ⟨nd, rfl⟩⟩))
    go_meet
    case rel => exact ⟨_, (aN), (by first | rfl | (simp; done) | (simp [*]; done)), H', ⟨by first | omega | exact Nat.le_refl _⟩, ⟨KB aA⟩, ⟨K1 HB aB.out⟩⟩
   ·rw [if_neg c6] at H
    have c6b0 : (aF == 2) = false := beq_eq_false_iff_ne.mpr c6
    have c6b1 : (aF != 2) = true := bne_iff_ne.mpr c6
    have H' := Aside0.mk H
    clear H
    obtain ⟨bH, bI, bJ, bK, bL, bM, bN, bO, bP⟩ := y8 w3 aA.out
    go_wp2
    go_meet
    case rel => exact ⟨_, (false), (by first | rfl | (simp; done) | (simp [*]; done)), H', ⟨by first | omega | exact Nat.le_refl _⟩, ⟨KB aA⟩, ⟨K1 HB aB.out⟩⟩
 case rest =>
  clear hL
  try clear p2
  try clear c4
  try clear c4b0
  try clear c4b1
  try clear c6
  try clear c6b0
  try clear c6b1
  try clear c7
  try clear aP aQ aR aS aT aU aV aW aX
  try clear aY aZ bA bB bC bD bE bF bG
  try clear bH bI bJ bK bL bM bN bO bP
  obtain ⟨kq, aL, rfl, HA, HJ1, aA, HB⟩ := hcut
  cases kq with
  | zero => exact absurd HA.out (by simp [impl_Rule_right.j0])
  | succ kj1 =>
   have H := HA.out
   clear HA
   simp only [impl_Rule_right.j0] at H
   replace H := bm H
   obtain ⟨bV, bW, H⟩ := H
   replace H : (if bV = true then ((impl_BlockOk.f aH aI).bind fun aO => (if aO = true then ((impl_in.f aJ 0 aE).bind fun aM => (if aM = true then (if aE ≤ 65535 then ((impl_in.f aF 0 2).bind fun aK => (if aK = true then (some aL) else (some false))) else (some false)) else (some false))) else (some false))) else (some false)) = some r := H
   have bQ := Aside0.mk bW
   clear bW
   by_cases cB : bV = true
   ·subst cB
    have H1 := pf H
    clear H
    have H := H1
    clear H1
    replace H := bm H
    obtain ⟨aO, bX, H⟩ := H
    replace H : (if aO = true then ((impl_in.f aJ 0 aE).bind fun aM => (if aM = true then (if aE ≤ 65535 then ((impl_in.f aF 0 2).bind fun aK => (if aK = true then (some aL) else (some false))) else (some false)) else (some false))) else (some false)) = some r := H
    have bY := Aside0.mk bX
    clear bX
    by_cases cC : aO = true
    ·subst cC
     have H1 := pf H
     clear H
     have H := H1
     clear H1
     replace H := bm H
     obtain ⟨aM, bZ, H⟩ := H
     replace H : (if aM = true then (if aE ≤ 65535 then ((impl_in.f aF 0 2).bind fun aK => (if aK = true then (some aL) else (some false))) else (some false)) else (some false)) = some r := H
     have cD := Aside0.mk bZ
     clear bZ
     by_cases cE : aM = true
     ·subst cE
      have H1 := pf H
      clear H
      have H := H1
      clear H1
      by_cases bR : aE ≤ 65535
      ·rw [if_pos bR] at H
       have c16b0 : decide (aE ≤ 65535) = true := decide_eq_true bR
       clear bR
       replace H := bm H
       obtain ⟨aK, cA, H⟩ := H
       replace H : (if aK = true then (some aL) else (some false)) = some r := H
       have hP := Aside0.mk cA
       clear cA
       by_cases cF : aK = true
       ·subst cF
        have H1 := pf H
        clear H
        have H := H1
        clear H1
        obtain rfl := sj H
        have ⟨_, _, _, _, _, _, _, _, _⟩ := y8 wc aA.out
        go_wp2_with (first | ((with_reducible refine gate_callee (f := 93) rfl ?_); refine goesL_ (some 19) rfl rfl Tryz.func93 (by kernel_rfl) rfl #[.agg #[.int .i64 aC, .int .i64 aD]] rfl MT ?_; (with_reducible refine (impl_BlockOk.calls aC aD true _ bQ.out).mono ?_); rintro e hQ ⟨rfl, hb⟩; refine ⟨_, rfl, ?_⟩; replace aA := am (BB aA hb); replace HB := bl (K1 HB aB.out) hb; (try clear hb); have ⟨_, _, _, _, _, _, _, _, _⟩ := y8 hQ aA.out) | (go_at_call 93; (with_reducible refine (impl_BlockOk.calls aH aI true _ bY.out).mono ?_); rintro e hR ⟨rfl, hb⟩; replace aA := am (BB aA hb); replace HB := bl (K1 HB aB.out) hb; (try clear hb); have ⟨_, _, _, _, _, _, _, _, _⟩ := y8 hR aA.out) | (go_at_call 35; (with_reducible refine (impl_in.calls aJ 0 aE true _ cD.out).mono ?_); rintro e w' ⟨rfl, ⟨nd, rfl⟩⟩) | (go_at_call 35; (with_reducible refine (impl_in.calls aF 0 2 true _ hP.out).mono ?_); rintro e w' ⟨rfl, ⟨nd, rfl⟩⟩))
        go_ret
        exact ⟨ER, K1 HB aB.out⟩
       ·replace cF := Bool.eq_false_iff.mpr cF
        subst cF
        have H1 := nf H
        clear H
        have H := H1
        clear H1
        obtain rfl := sj H
        have ⟨_, _, _, _, _, _, _, _, _⟩ := y8 wc aA.out
        go_wp2_with (first | ((with_reducible refine gate_callee (f := 93) rfl ?_); refine goesL_ (some 19) rfl rfl Tryz.func93 (by kernel_rfl) rfl #[.agg #[.int .i64 aC, .int .i64 aD]] rfl MT ?_; (with_reducible refine (impl_BlockOk.calls aC aD true _ bQ.out).mono ?_); rintro e hS ⟨rfl, hb⟩; refine ⟨_, rfl, ?_⟩; replace aA := am (BB aA hb); replace HB := bl (K1 HB aB.out) hb; (try clear hb); have ⟨_, _, _, _, _, _, _, _, _⟩ := y8 hS aA.out) | (go_at_call 93; (with_reducible refine (impl_BlockOk.calls aH aI true _ bY.out).mono ?_); rintro e hT ⟨rfl, hb⟩; replace aA := am (BB aA hb); replace HB := bl (K1 HB aB.out) hb; (try clear hb); have ⟨_, _, _, _, _, _, _, _, _⟩ := y8 hT aA.out) | (go_at_call 35; (with_reducible refine (impl_in.calls aJ 0 aE true _ cD.out).mono ?_); rintro e w' ⟨rfl, ⟨nd, rfl⟩⟩) | (go_at_call 35; (with_reducible refine (impl_in.calls aF 0 2 false _ hP.out).mono ?_); rintro e w' ⟨rfl, ⟨nd, rfl⟩⟩))
        go_ret
        exact ⟨ER, K1 HB aB.out⟩
      ·rw [if_neg bR] at H
       have c16b0 : decide (aE ≤ 65535) = false := decide_eq_false bR
       clear bR
       obtain rfl := sj H
       have ⟨_, _, _, _, _, _, _, _, _⟩ := y8 wc aA.out
       go_wp2_with (first | ((with_reducible refine gate_callee (f := 93) rfl ?_); refine goesL_ (some 19) rfl rfl Tryz.func93 (by kernel_rfl) rfl #[.agg #[.int .i64 aC, .int .i64 aD]] rfl MT ?_; (with_reducible refine (impl_BlockOk.calls aC aD true _ bQ.out).mono ?_); rintro e hU ⟨rfl, hb⟩; refine ⟨_, rfl, ?_⟩; replace aA := am (BB aA hb); replace HB := bl (K1 HB aB.out) hb; (try clear hb); have ⟨_, _, _, _, _, _, _, _, _⟩ := y8 hU aA.out) | (go_at_call 93; (with_reducible refine (impl_BlockOk.calls aH aI true _ bY.out).mono ?_); rintro e hV ⟨rfl, hb⟩; replace aA := am (BB aA hb); replace HB := bl (K1 HB aB.out) hb; (try clear hb); have ⟨_, _, _, _, _, _, _, _, _⟩ := y8 hV aA.out) | (go_at_call 35; (with_reducible refine (impl_in.calls aJ 0 aE true _ cD.out).mono ?_); rintro e w' ⟨rfl, ⟨nd, rfl⟩⟩))
       go_ret
       exact ⟨ER, K1 HB aB.out⟩
     ·replace cE := Bool.eq_false_iff.mpr cE
      subst cE
      have H1 := nf H
      clear H
      have H := H1
      clear H1
      obtain rfl := sj H
      have ⟨_, _, _, _, _, _, _, _, _⟩ := y8 wc aA.out
      go_wp2_with (first | ((with_reducible refine gate_callee (f := 93) rfl ?_); refine goesL_ (some 19) rfl rfl Tryz.func93 (by kernel_rfl) rfl #[.agg #[.int .i64 aC, .int .i64 aD]] rfl MT ?_; (with_reducible refine (impl_BlockOk.calls aC aD true _ bQ.out).mono ?_); rintro e hW ⟨rfl, hb⟩; refine ⟨_, rfl, ?_⟩; replace aA := am (BB aA hb); replace HB := bl (K1 HB aB.out) hb; (try clear hb); have ⟨_, _, _, _, _, _, _, _, _⟩ := y8 hW aA.out) | (go_at_call 93; (with_reducible refine (impl_BlockOk.calls aH aI true _ bY.out).mono ?_); rintro e hX ⟨rfl, hb⟩; replace aA := am (BB aA hb); replace HB := bl (K1 HB aB.out) hb; (try clear hb); have ⟨_, _, _, _, _, _, _, _, _⟩ := y8 hX aA.out) | (go_at_call 35; (with_reducible refine (impl_in.calls aJ 0 aE false _ cD.out).mono ?_); rintro e w' ⟨rfl, ⟨nd, rfl⟩⟩))
      go_ret
      exact ⟨ER, K1 HB aB.out⟩
    ·replace cC := Bool.eq_false_iff.mpr cC
     subst cC
     have H1 := nf H
     clear H
     have H := H1
     clear H1
     obtain rfl := sj H
     have ⟨_, _, _, _, _, _, _, _, _⟩ := y8 wc aA.out
     go_wp2_with (first | ((with_reducible refine gate_callee (f := 93) rfl ?_); refine goesL_ (some 19) rfl rfl Tryz.func93 (by kernel_rfl) rfl #[.agg #[.int .i64 aC, .int .i64 aD]] rfl MT ?_; (with_reducible refine (impl_BlockOk.calls aC aD true _ bQ.out).mono ?_); rintro e hY ⟨rfl, hb⟩; refine ⟨_, rfl, ?_⟩; replace aA := am (BB aA hb); replace HB := bl (K1 HB aB.out) hb; (try clear hb); have ⟨_, _, _, _, _, _, _, _, _⟩ := y8 hY aA.out) | (go_at_call 93; (with_reducible refine (impl_BlockOk.calls aH aI false _ bY.out).mono ?_); rintro e hZ ⟨rfl, hb⟩; replace aA := am (BB aA hb); replace HB := bl (K1 HB aB.out) hb; (try clear hb)))
     go_ret
     exact ⟨ER, K1 HB aB.out⟩
   ·replace cB := Bool.eq_false_iff.mpr cB
    subst cB
    have H1 := nf H
    clear H
    have H := H1
    clear H1
    obtain rfl := sj H
    have ⟨_, _, _, _, _, _, _, _, _⟩ := y8 wc aA.out
    go_wp2_with (first | ((with_reducible refine gate_callee (f := 93) rfl ?_); refine goesL_ (some 19) rfl rfl Tryz.func93 (by kernel_rfl) rfl #[.agg #[.int .i64 aC, .int .i64 aD]] rfl MT ?_; (with_reducible refine (impl_BlockOk.calls aC aD false _ bQ.out).mono ?_); rintro e iA ⟨rfl, hb⟩; refine ⟨_, rfl, ?_⟩; replace aA := am (BB aA hb); replace HB := bl (K1 HB aB.out) hb; (try clear hb)))
    go_ret
    exact ⟨ER, K1 HB aB.out⟩
def impl_isCall.f (a0_0 : Int) (a0_1 : Int) (a0_2 : Int) : Option (Bool) := (impl_isAddr.f a0_0).bind fun t102 => (if t102 = true then ((impl_isAddr.f a0_1).bind fun t103 => (if t103 = true then ((impl_in.f a0_2 0 65535).bind fun t104 => (some t104)) else (some false))) else (some false))
theorem impl_isCall.calls (aA : Int) (aB : Int) (aC : Int) (r : Bool) (w : World) (h : impl_isCall.f aA aB aC = some r) :
  Calls Tryz.prog 60 #[.agg #[.int .i64 aA, .int .i64 aB, .int .i64 aC]] w fun e w' => e = .returned (.bool r) ∧ Below w.heap.size w w' := by
 have aX := Tryz.underlying106
 have HB := am (Below.refl w.heap.size w)
 have H : ((impl_isAddr.f aA).bind fun aJ => (if aJ = true then ((impl_isAddr.f aB).bind fun aI => (if aI = true then ((impl_in.f aC 0 65535).bind fun aD => (some aD)) else (some false))) else (some false))) = some r := h
 clear h
 replace H := bm H
 obtain ⟨aJ, aY, H⟩ := H
 replace H : (if aJ = true then ((impl_isAddr.f aB).bind fun aI => (if aI = true then ((impl_in.f aC 0 65535).bind fun aD => (some aD)) else (some false))) else (some false)) = some r := H
 have A2 := Aside0.mk aY
 clear aY
 by_cases c3 : aJ = true
 ·subst c3
  have H1 := pf H
  clear H
  have H := H1
  clear H1
  replace H := bm H
  obtain ⟨aI, aZ, H⟩ := H
  replace H : (if aI = true then ((impl_in.f aC 0 65535).bind fun aD => (some aD)) else (some false)) = some r := H
  have A4 := Aside0.mk aZ
  clear aZ
  by_cases c5 : aI = true
  ·subst c5
   have H1 := pf H
   clear H
   have H := H1
   clear H1
   replace H := bm H
   obtain ⟨aD, bA, H⟩ := H
   replace H : (some aD) = some r := H
   have A6 := Aside0.mk bA
   clear bA
   obtain rfl := sj H
   go_enter Tryz.func60, Tryz.ntmps60
   go_wp2_with (first | ((with_reducible refine gate_dst (N := 1) rfl ?_); refine box_event rfl (N := 1) rfl (cs := #[.int .i64 aA, .int .i64 aB, .int .i64 aC]) (t := 106) BX ?_; intro aK hg w7 aE hb; have aF := am (aE); have aG := am (GH HB hg); have aH := aG; replace HB := bl (KL HB) hb; clear hb aE hg; have ⟨_, _, _, _⟩ := y3 w7 aF.out) | ((with_reducible refine gate_callee (f := 78) rfl ?_); refine goesL_ (some 5) rfl rfl Tryz.func78 (by kernel_rfl) rfl #[.int .i64 aA] rfl MT ?_; (with_reducible refine (impl_isAddr.calls aA true _ A2.out).mono ?_); rintro e w' ⟨rfl, ⟨nd, rfl⟩⟩; refine ⟨_, rfl, ?_⟩) | (go_at_call 78; (with_reducible refine (impl_isAddr.calls aB true _ A4.out).mono ?_); rintro e w' ⟨rfl, ⟨nd, rfl⟩⟩) | (go_at_call 35; (with_reducible refine (impl_in.calls aC 0 65535 aD _ A6.out).mono ?_); rintro e w' ⟨rfl, ⟨nd, rfl⟩⟩))
   go_ret
   exact ⟨ER, K1 HB aH.out⟩
  ·replace c5 := Bool.eq_false_iff.mpr c5
   subst c5
   have H1 := nf H
   clear H
   have H := H1
   clear H1
   obtain rfl := sj H
   go_enter Tryz.func60, Tryz.ntmps60
   go_wp2_with (first | ((with_reducible refine gate_dst (N := 1) rfl ?_); refine box_event rfl (N := 1) rfl (cs := #[.int .i64 aA, .int .i64 aB, .int .i64 aC]) (t := 106) BX ?_; intro aK hg w9 aE hb; have aF := am (aE); have aG := am (GH HB hg); have aH := aG; replace HB := bl (KL HB) hb; clear hb aE hg; have ⟨_, _, _, _⟩ := y3 w9 aF.out) | ((with_reducible refine gate_callee (f := 78) rfl ?_); refine goesL_ (some 5) rfl rfl Tryz.func78 (by kernel_rfl) rfl #[.int .i64 aA] rfl MT ?_; (with_reducible refine (impl_isAddr.calls aA true _ A2.out).mono ?_); rintro e w' ⟨rfl, ⟨nd, rfl⟩⟩; refine ⟨_, rfl, ?_⟩) | (go_at_call 78; (with_reducible refine (impl_isAddr.calls aB false _ A4.out).mono ?_); rintro e w' ⟨rfl, ⟨nd, rfl⟩⟩))
   go_ret
   exact ⟨ER, K1 HB aH.out⟩
 ·replace c3 := Bool.eq_false_iff.mpr c3
  subst c3
  have H1 := nf H
  clear H
  have H := H1
  clear H1
  obtain rfl := sj H
  go_enter Tryz.func60, Tryz.ntmps60
  go_wp2_with (first | ((with_reducible refine gate_dst (N := 1) rfl ?_); refine box_event rfl (N := 1) rfl (cs := #[.int .i64 aA, .int .i64 aB, .int .i64 aC]) (t := 106) BX ?_; intro aK hg bB aE hb; have aF := am (aE); have aG := am (GH HB hg); have aH := aG; replace HB := bl (KL HB) hb; clear hb aE hg; have ⟨_, _, _, _⟩ := y3 bB aF.out) | ((with_reducible refine gate_callee (f := 78) rfl ?_); refine goesL_ (some 5) rfl rfl Tryz.func78 (by kernel_rfl) rfl #[.int .i64 aA] rfl MT ?_; (with_reducible refine (impl_isAddr.calls aA false _ A2.out).mono ?_); rintro e w' ⟨rfl, ⟨nd, rfl⟩⟩; refine ⟨_, rfl, ?_⟩))
  go_ret
  exact ⟨ER, K1 HB aH.out⟩
def impl_Block_last.f (a0_0 : Int) (a0_1 : Int) : Option (Int) := (impl_Block_size.f a0_0 a0_1).bind fun t102 => (some (wrap64 ((wrap64 (a0_0 + t102)) - 1)))
theorem impl_Block_last.calls (aB : Int) (aC : Int) (r : Int) (w : World) (h : impl_Block_last.f aB aC = some r) :
  Calls Tryz.prog 99 #[.agg #[.int .i64 aB, .int .i64 aC]] w fun e w' => e = .returned (.int .i64 r) ∧ Below w.heap.size w w' := by
 have aJ := Tryz.underlying113
 have HB := am (Below.refl w.heap.size w)
 have H : ((impl_Block_size.f aB aC).bind fun aE => (some (wrap64 ((wrap64 (aB + aE)) - 1)))) = some r := h
 clear h
 replace H := bm H
 obtain ⟨aE, aK, H⟩ := H
 replace H : (some (wrap64 ((wrap64 (aB + aE)) - 1))) = some r := H
 have A2 := Aside0.mk aK
 clear aK
 obtain rfl := sj H
 go_enter Tryz.func99, Tryz.ntmps99
 try go_wp2_with (first | ((with_reducible refine gate_dst (N := 1) rfl ?_); refine box_event rfl (N := 1) rfl (cs := #[.int .i64 aB, .int .i64 aC]) (t := 113) BX ?_; intro aG hg w3 aH hb; have aA := am (aH); have aI := am (GH HB hg); have aF := aI; replace HB := bl (KL HB) hb; clear hb aH hg))
 replace aA := am (blk_drew aA.out)
 replace HB := am (below_drew1 HB.out)
 refine start_ (n := 7) (S := fun w' => de2 w' aG (.int .i64 aB) (.int .i64 aC)) (ds := []) (tf 0 7) (by kernel_rfl) rfl rfl ⟨z0 _ aA.out, z1 _ aA.out⟩ (fun aD => ?_)
 generalize w3.drew = w4 at aA HB aD ⊢
 refine pure_ (i := 0) (N := some 3) (v := ?_) (a' := ?_) (tf 1 6) rfl rfl (by kernel_rfl) (fun _ _ _ h => h) (Or.inl ⟨by rfl, ?_⟩) ?_ ?_; rotate_left; (· intro w'; go_simp; with_reducible rfl); rotate_left; (· simp only [Act.put, List.setIfInBounds_toArray, List.set_cons_zero, List.set_cons_succ, i64_w, i32_w]; rfl)
 refine take_ (i := 1) (N := some 4) (v := ?_) (a' := ?_) (tf 2 5) rfl rfl (by kernel_rfl) (fun _ _ _ h => h) (Or.inl ⟨by rfl, ?_⟩) aD ?_ ?_
 rotate_left
 ·rintro w' ⟨s0, s1⟩
  go_simp
  with_reducible rfl
 rotate_left
 ·simp only [Act.put, List.setIfInBounds_toArray, List.set_cons_zero, List.set_cons_succ, i64_w, i32_w]
  rfl
 refine take_ (i := 2) (N := some 5) (v := ?_) (a' := ?_) (tf 3 4) rfl rfl (by kernel_rfl) (fun _ _ _ h => h) (Or.inl ⟨by rfl, ?_⟩) aD ?_ ?_
 rotate_left
 ·rintro w' ⟨s0, s1⟩
  go_simp
  with_reducible rfl
 rotate_left
 ·simp only [Act.put, List.setIfInBounds_toArray, List.set_cons_zero, List.set_cons_succ, i64_w, i32_w]
  rfl
 refine one_ (i := 3) (N := some 6) (tf 4 3) rfl rfl (by kernel_rfl) (by decide) (fun K hK => ?_)
 refine goes_ Tryz.func98 (by kernel_rfl) rfl #[.agg #[.int .i64 aB, .int .i64 aC]] (by rfl) rfl rfl MT ?_
 with_reducible refine (impl_Block_size.calls aB aC aE _ A2.out).mono ?_
 rintro e w5 ⟨rfl, hb⟩
 refine ⟨_, rfl, ?_⟩
 replace aA := am (BB aA hb)
 replace HB := bl (K1 HB aF.out) hb
 (try clear hb)
 (try clear hb2)
 (try clear hk)
 (try clear hi)
 refine hK.out _ _ ⟨z0 _ aA.out, z1 _ aA.out⟩ (fun aD => ?_)
 clear hK K
 refine nm (some 6) ?_
 refine pure_ (i := 4) (N := some 7) (v := ?_) (a' := ?_) (tf 5 2) rfl rfl (by kernel_rfl) (fun _ _ _ h => h) (Or.inl ⟨by rfl, ?_⟩) ?_ ?_; rotate_left; (· intro w'; go_simp; with_reducible rfl); rotate_left; (· simp only [Act.put, List.setIfInBounds_toArray, List.set_cons_zero, List.set_cons_succ, i64_w, i32_w]; rfl)
 refine pure_ (i := 5) (N := some 8) (v := ?_) (a' := ?_) (tf 6 1) rfl rfl (by kernel_rfl) (fun _ _ _ h => h) (Or.inl ⟨by rfl, ?_⟩) ?_ ?_; rotate_left; (· intro w'; go_simp; with_reducible rfl); rotate_left; (· simp only [Act.put, List.setIfInBounds_toArray, List.set_cons_zero, List.set_cons_succ, i64_w, i32_w]; rfl)
 refine pure_ (i := 6) (N := some 2) (v := ?_) (a' := ?_) (tf 7 0) rfl rfl (by kernel_rfl) (fun _ _ _ h => h) (Or.inl ⟨by rfl, ?_⟩) ?_ ?_; rotate_left; (· intro w'; go_simp; with_reducible rfl); rotate_left; (· simp only [Act.put, List.setIfInBounds_toArray, List.set_cons_zero, List.set_cons_succ, i64_w, i32_w]; rfl)
 refine done_ (by kernel_rfl) ?_
 try go_wp2
 go_ret
 exact ⟨ER, K1 HB aF.out⟩
def impl_Block_has.f (a0_0 : Int) (a0_1 : Int) (a1 : Int) : Option (Bool) := (impl_Block_last.f a0_0 a0_1).bind fun t102 => ((impl_in.f a1 a0_0 t102).bind fun t103 => (some t103))
theorem impl_Block_has.calls (aB : Int) (aD : Int) (a1 : Int) (r : Bool) (w : World) (h : impl_Block_has.f aB aD a1 = some r) :
  Calls Tryz.prog 94 #[.agg #[.int .i64 aB, .int .i64 aD], .int .i64 a1] w fun e w' => e = .returned (.bool r) ∧ Below w.heap.size w w' := by
 have aK := Tryz.underlying113
 have HB := am (Below.refl w.heap.size w)
 have H : ((impl_Block_last.f aB aD).bind fun aE => ((impl_in.f a1 aB aE).bind fun aF => (some aF))) = some r := h
 clear h
 replace H := bm H
 obtain ⟨aE, aL, H⟩ := H
 replace H : ((impl_in.f a1 aB aE).bind fun aF => (some aF)) = some r := H
 have A3 := Aside0.mk aL
 clear aL
 replace H := bm H
 obtain ⟨aF, aM, H⟩ := H
 replace H : (some aF) = some r := H
 have A4 := Aside0.mk aM
 clear aM
 obtain rfl := sj H
 go_enter Tryz.func94, Tryz.ntmps94
 try go_wp2_with (first | ((with_reducible refine gate_dst (N := 2) rfl ?_); refine box_event rfl (N := 2) rfl (cs := #[.int .i64 aB, .int .i64 aD]) (t := 113) BX ?_; intro aH hg w5 aI hb; have aA := am (aI); have aJ := am (GH HB hg); have aG := aJ; replace HB := bl (KL HB) hb; clear hb aI hg))
 replace aA := am (blk_drew aA.out)
 replace HB := am (below_drew1 HB.out)
 refine start_ (n := 7) (S := fun w' => de2 w' aH (.int .i64 aB) (.int .i64 aD)) (ds := []) (tf 0 7) (by kernel_rfl) rfl rfl ⟨z0 _ aA.out, z1 _ aA.out⟩ (fun aC => ?_)
 generalize w5.drew = w6 at aA HB aC ⊢
 refine pure_ (i := 0) (N := some 5) (v := ?_) (a' := ?_) (tf 1 6) rfl rfl (by kernel_rfl) (fun _ _ _ h => h) (Or.inl ⟨by rfl, ?_⟩) ?_ ?_; rotate_left; (· intro w'; go_simp; with_reducible rfl); rotate_left; (· simp only [Act.put, List.setIfInBounds_toArray, List.set_cons_zero, List.set_cons_succ, i64_w, i32_w]; rfl)
 refine pure_ (i := 1) (N := some 6) (v := ?_) (a' := ?_) (tf 2 5) rfl rfl (by kernel_rfl) (fun _ _ _ h => h) (Or.inl ⟨by rfl, ?_⟩) ?_ ?_; rotate_left; (· intro w'; go_simp; with_reducible rfl); rotate_left; (· simp only [Act.put, List.setIfInBounds_toArray, List.set_cons_zero, List.set_cons_succ, i64_w, i32_w]; rfl)
 refine take_ (i := 2) (N := some 7) (v := ?_) (a' := ?_) (tf 3 4) rfl rfl (by kernel_rfl) (fun _ _ _ h => h) (Or.inl ⟨by rfl, ?_⟩) aC ?_ ?_
 rotate_left
 ·rintro w' ⟨s0, s1⟩
  go_simp
  with_reducible rfl
 rotate_left
 ·simp only [Act.put, List.setIfInBounds_toArray, List.set_cons_zero, List.set_cons_succ, i64_w, i32_w]
  rfl
 refine take_ (i := 3) (N := some 8) (v := ?_) (a' := ?_) (tf 4 3) rfl rfl (by kernel_rfl) (fun _ _ _ h => h) (Or.inl ⟨by rfl, ?_⟩) aC ?_ ?_
 rotate_left
 ·rintro w' ⟨s0, s1⟩
  go_simp
  with_reducible rfl
 rotate_left
 ·simp only [Act.put, List.setIfInBounds_toArray, List.set_cons_zero, List.set_cons_succ, i64_w, i32_w]
  rfl
 refine one_ (i := 4) (N := some 9) (tf 5 2) rfl rfl (by kernel_rfl) (by decide) (fun K hK => ?_)
 refine goes_ Tryz.func99 (by kernel_rfl) rfl #[.agg #[.int .i64 aB, .int .i64 aD]] (by rfl) rfl rfl MT ?_
 with_reducible refine (impl_Block_last.calls aB aD aE _ A3.out).mono ?_
 rintro e w7 ⟨rfl, hb⟩
 refine ⟨_, rfl, ?_⟩
 replace aA := am (BB aA hb)
 replace HB := bl (K1 HB aG.out) hb
 (try clear hb)
 (try clear hb2)
 (try clear hk)
 (try clear hi)
 refine hK.out _ _ ⟨z0 _ aA.out, z1 _ aA.out⟩ (fun aC => ?_)
 clear hK K
 refine nm (some 9) ?_
 refine one_ (i := 5) (N := some 10) (tf 6 1) rfl rfl (by kernel_rfl) (by decide) (fun K hK => ?_)
 refine goes_ Tryz.func35 (by kernel_rfl) rfl #[.int .i64 a1, .int .i64 aB, .int .i64 aE] (by rfl) rfl rfl MT ?_
 with_reducible refine (impl_in.calls a1 aB aE aF _ A4.out).mono ?_
 rintro e w' ⟨rfl, ⟨nd, rfl⟩⟩
 refine ⟨_, rfl, ?_⟩
 refine hK.out _ _ ⟨z0 _ aA.out, z1 _ aA.out⟩ (fun aC => ?_)
 clear hK K
 refine nm (some 10) ?_
 refine pure_ (i := 6) (N := some 4) (v := ?_) (a' := ?_) (tf 7 0) rfl rfl (by kernel_rfl) (fun _ _ _ h => h) (Or.inl ⟨by rfl, ?_⟩) ?_ ?_; rotate_left; (· intro w'; go_simp; with_reducible rfl); rotate_left; (· simp only [Act.put, List.setIfInBounds_toArray, List.set_cons_zero, List.set_cons_succ, i64_w, i32_w]; rfl)
 refine done_ (by kernel_rfl) ?_
 try go_wp2
 go_ret
 exact ⟨ER, K1 HB aG.out⟩
def impl_Rule_matches.f (a0_0 : Int) (a0_1 : Int) (a0_2 : Int) (a0_3 : Int) (a0_4 : Int) (a0_5 : Int) (a0_6 : Int) (a0_7 : Int) (a1_0 : Int) (a1_1 : Int) (a1_2 : Int) : Option (Bool) := (impl_Block_has.f a0_2 a0_3 a1_0).bind fun t103 => (if t103 = true then ((impl_Block_has.f a0_4 a0_5 a1_1).bind fun t104 => (if t104 = true then ((impl_in.f a1_2 a0_6 a0_7).bind fun t105 => (some t105)) else (some false))) else (some false))
theorem impl_Rule_matches.calls (aU : Int) (aV : Int) (aH : Int) (aI : Int) (aK : Int) (aL : Int) (aM : Int) (aN : Int) (aJ : Int) (aO : Int) (aP : Int) (r : Bool) (w : World) (h : impl_Rule_matches.f aU aV aH aI aK aL aM aN aJ aO aP = some r) :
  Calls Tryz.prog 81 #[.agg #[.int .i64 aU, .int .i64 aV, .int .i64 aH, .int .i64 aI, .int .i64 aK, .int .i64 aL, .int .i64 aM, .int .i64 aN], .agg #[.int .i64 aJ, .int .i64 aO, .int .i64 aP]] w fun e w' => e = .returned (.bool r) ∧ Below w.heap.size w w' := by
 have dZ := Tryz.underlying115
 have eA := Tryz.underlying106
 have eB := Tryz.underlying113
 have HB := am (Below.refl w.heap.size w)
 have H : ((impl_Block_has.f aH aI aJ).bind fun aW => (if aW = true then ((impl_Block_has.f aK aL aO).bind fun aT => (if aT = true then ((impl_in.f aP aM aN).bind fun aQ => (some aQ)) else (some false))) else (some false))) = some r := h
 clear h
 replace H := bm H
 obtain ⟨aW, eC, H⟩ := H
 replace H : (if aW = true then ((impl_Block_has.f aK aL aO).bind fun aT => (if aT = true then ((impl_in.f aP aM aN).bind fun aQ => (some aQ)) else (some false))) else (some false)) = some r := H
 have A3 := Aside0.mk eC
 clear eC
 by_cases c4 : aW = true
 ·subst c4
  have H1 := pf H
  clear H
  have H := H1
  clear H1
  replace H := bm H
  obtain ⟨aT, eD, H⟩ := H
  replace H : (if aT = true then ((impl_in.f aP aM aN).bind fun aQ => (some aQ)) else (some false)) = some r := H
  have A5 := Aside0.mk eD
  clear eD
  by_cases c6 : aT = true
  ·subst c6
   have H1 := pf H
   clear H
   have H := H1
   clear H1
   replace H := bm H
   obtain ⟨aQ, eE, H⟩ := H
   replace H : (some aQ) = some r := H
   have A7 := Aside0.mk eE
   clear eE
   obtain rfl := sj H
   go_enter Tryz.func81, Tryz.ntmps81
   go_wp2_with (first | ((with_reducible refine gate_dst (N := 2) rfl ?_); refine box_event rfl (N := 2) rfl (cs := #[.int .i64 aU, .int .i64 aV, .int .i64 aH, .int .i64 aI, .int .i64 aK, .int .i64 aL, .int .i64 aM, .int .i64 aN]) (t := 115) BX ?_; intro aX hg w8 aF hb; have aA := am (aF); have aR := am (GH HB hg); have aC := aR; replace HB := bl (KL HB) hb; clear hb aF hg) | ((with_reducible refine gate_dst (N := 3) rfl ?_); refine box_event rfl (N := 3) rfl (cs := #[.int .i64 aJ, .int .i64 aO, .int .i64 aP]) (t := 106) BX ?_; intro aY hg w9 aF hb; have aB := am (aF); have aS := am (GH1 HB aC.out hg); have aG := aS; replace HB := bl (K1 HB aC.out) hb; have aD := am (NL aA hg); have aE := am (NG aA hg); replace aA := am (BB aA hb); clear hb aF hg; have eF := aD.out; have eG := aE.out; have ⟨_, _, _, _, _, _, _, _, _⟩ := y8 w9 aA.out; have ⟨_, _, _, _⟩ := y3 w9 aB.out) | ((with_reducible refine gate_callee (f := 94) rfl ?_); refine goesL_ (some 9) rfl rfl Tryz.func94 (by kernel_rfl) rfl #[.agg #[.int .i64 aH, .int .i64 aI], .int .i64 aJ] rfl MT ?_; (with_reducible refine (impl_Block_has.calls aH aI aJ true _ A3.out).mono ?_); rintro e eH ⟨rfl, hb⟩; refine ⟨_, rfl, ?_⟩; replace aA := am (BB aA hb); replace aB := am (BB aB hb); replace HB := bl (K2 HB aC.out aG.out) hb; (try clear hb); have ⟨_, _, _, _, _, _, _, _, _⟩ := y8 eH aA.out; have ⟨_, _, _, _⟩ := y3 eH aB.out) | (go_at_call 94; (with_reducible refine (impl_Block_has.calls aK aL aO true _ A5.out).mono ?_); rintro e eI ⟨rfl, hb⟩; replace aA := am (BB aA hb); replace aB := am (BB aB hb); replace HB := bl (K2 HB aC.out aG.out) hb; (try clear hb); have ⟨_, _, _, _⟩ := y3 eI aB.out; have ⟨_, _, _, _, _, _, _, _, _⟩ := y8 eI aA.out) | (go_at_call 35; (with_reducible refine (impl_in.calls aP aM aN aQ _ A7.out).mono ?_); rintro e w' ⟨rfl, ⟨nd, rfl⟩⟩))
   go_ret
   exact ⟨ER, K2 HB aC.out aG.out⟩
  ·replace c6 := Bool.eq_false_iff.mpr c6
   subst c6
   have H1 := nf H
   clear H
   have H := H1
   clear H1
   obtain rfl := sj H
   go_enter Tryz.func81, Tryz.ntmps81
   go_wp2_with (first | ((with_reducible refine gate_dst (N := 2) rfl ?_); refine box_event rfl (N := 2) rfl (cs := #[.int .i64 aU, .int .i64 aV, .int .i64 aH, .int .i64 aI, .int .i64 aK, .int .i64 aL, .int .i64 aM, .int .i64 aN]) (t := 115) BX ?_; intro aX hg eQ aF hb; have aA := am (aF); have aR := am (GH HB hg); have aC := aR; replace HB := bl (KL HB) hb; clear hb aF hg) | ((with_reducible refine gate_dst (N := 3) rfl ?_); refine box_event rfl (N := 3) rfl (cs := #[.int .i64 aJ, .int .i64 aO, .int .i64 aP]) (t := 106) BX ?_; intro aY hg eJ aF hb; have aB := am (aF); have aS := am (GH1 HB aC.out hg); have aG := aS; replace HB := bl (K1 HB aC.out) hb; have aD := am (NL aA hg); have aE := am (NG aA hg); replace aA := am (BB aA hb); clear hb aF hg; have eK := aD.out; have eL := aE.out; have ⟨_, _, _, _, _, _, _, _, _⟩ := y8 eJ aA.out; have ⟨_, _, _, _⟩ := y3 eJ aB.out) | ((with_reducible refine gate_callee (f := 94) rfl ?_); refine goesL_ (some 9) rfl rfl Tryz.func94 (by kernel_rfl) rfl #[.agg #[.int .i64 aH, .int .i64 aI], .int .i64 aJ] rfl MT ?_; (with_reducible refine (impl_Block_has.calls aH aI aJ true _ A3.out).mono ?_); rintro e eM ⟨rfl, hb⟩; refine ⟨_, rfl, ?_⟩; replace aA := am (BB aA hb); replace aB := am (BB aB hb); replace HB := bl (K2 HB aC.out aG.out) hb; (try clear hb); have ⟨_, _, _, _, _, _, _, _, _⟩ := y8 eM aA.out; have ⟨_, _, _, _⟩ := y3 eM aB.out) | (go_at_call 94; (with_reducible refine (impl_Block_has.calls aK aL aO false _ A5.out).mono ?_); rintro e eR ⟨rfl, hb⟩; replace aA := am (BB aA hb); replace aB := am (BB aB hb); replace HB := bl (K2 HB aC.out aG.out) hb; (try clear hb)))
   go_ret
   exact ⟨ER, K2 HB aC.out aG.out⟩
 ·replace c4 := Bool.eq_false_iff.mpr c4
  subst c4
  have H1 := nf H
  clear H
  have H := H1
  clear H1
  obtain rfl := sj H
  go_enter Tryz.func81, Tryz.ntmps81
  go_wp2_with (first | ((with_reducible refine gate_dst (N := 2) rfl ?_); refine box_event rfl (N := 2) rfl (cs := #[.int .i64 aU, .int .i64 aV, .int .i64 aH, .int .i64 aI, .int .i64 aK, .int .i64 aL, .int .i64 aM, .int .i64 aN]) (t := 115) BX ?_; intro aX hg eS aF hb; have aA := am (aF); have aR := am (GH HB hg); have aC := aR; replace HB := bl (KL HB) hb; clear hb aF hg) | ((with_reducible refine gate_dst (N := 3) rfl ?_); refine box_event rfl (N := 3) rfl (cs := #[.int .i64 aJ, .int .i64 aO, .int .i64 aP]) (t := 106) BX ?_; intro aY hg eN aF hb; have aB := am (aF); have aS := am (GH1 HB aC.out hg); have aG := aS; replace HB := bl (K1 HB aC.out) hb; have aD := am (NL aA hg); have aE := am (NG aA hg); replace aA := am (BB aA hb); clear hb aF hg; have eO := aD.out; have eP := aE.out; have ⟨_, _, _, _, _, _, _, _, _⟩ := y8 eN aA.out; have ⟨_, _, _, _⟩ := y3 eN aB.out) | ((with_reducible refine gate_callee (f := 94) rfl ?_); refine goesL_ (some 9) rfl rfl Tryz.func94 (by kernel_rfl) rfl #[.agg #[.int .i64 aH, .int .i64 aI], .int .i64 aJ] rfl MT ?_; (with_reducible refine (impl_Block_has.calls aH aI aJ false _ A3.out).mono ?_); rintro e eT ⟨rfl, hb⟩; refine ⟨_, rfl, ?_⟩; replace aA := am (BB aA hb); replace aB := am (BB aB hb); replace HB := bl (K2 HB aC.out aG.out) hb; (try clear hb)))
  go_ret
  exact ⟨ER, K2 HB aC.out aG.out⟩
def impl_keysOk.f (a0 : ByteArray) (a1 : ByteArray) : Option (Bool) := if (a0.size : Int) = 16 then ((impl_in.f (a1.size : Int) 1 64).bind fun t101 => (some t101)) else (some false)
theorem impl_keysOk.calls (a0 : ByteArray) (a1 : ByteArray) (r : Bool) (w : World) (h : impl_keysOk.f a0 a1 = some r) :
  Calls Tryz.prog 83 #[.string a0, .string a1] w fun e w' => e = .returned (.bool r) ∧ Drawn0 w w' := by
 have H : (if (a0.size : Int) = 16 then ((impl_in.f (a1.size : Int) 1 64).bind fun aA => (some aA)) else (some false)) = some r := h
 clear h
 by_cases c3 : (a0.size : Int) = 16
 ·rw [if_pos c3] at H
  have c3b0 : ((a0.size : Int) == 16) = true := beq_iff_eq.mpr c3
  have c3b1 : ((a0.size : Int) != 16) = false := bne_eq_false_iff_eq.mpr c3
  clear c3
  replace H := bm H
  obtain ⟨aA, aB, H⟩ := H
  replace H : (some aA) = some r := H
  have A4 := Aside0.mk aB
  clear aB
  obtain rfl := sj H
  go_enter Tryz.func83, Tryz.ntmps83
  go_wp2_with (first | (go_at_call 35; (with_reducible refine (impl_in.calls (a1.size : Int) 1 64 aA _ A4.out).mono ?_); rintro e w' ⟨rfl, ⟨nd, rfl⟩⟩))
  go_ret
  exact ⟨by first | rfl | (simp; done) | (simp [*]; done), by repeat (first | exact Drawn0.refl _ | apply Drawn0.step)⟩
 ·rw [if_neg c3] at H
  have c3b0 : ((a0.size : Int) == 16) = false := beq_eq_false_iff_ne.mpr c3
  have c3b1 : ((a0.size : Int) != 16) = true := bne_iff_ne.mpr c3
  obtain rfl := sj H
  go_enter Tryz.func83, Tryz.ntmps83
  go_wp2
  go_ret
  exact ⟨by first | rfl | (simp; done) | (simp [*]; done), by repeat (first | exact Drawn0.refl _ | apply Drawn0.step)⟩
def impl_WindowOk.l0 : Nat → List Int → Int → Int → Int → List Int → Option (Bool)
 | 0, _, _, _, _, _ => none
 | k + 1, x13, x14, x15, x102000, x102001 => if x15 < x14 then (if 0 ≤ x15 then (if x15 < (x13.length : Int) then (if (rd x13 x15) < 1 then (some false) else (if (rd x13 x15) ≤ (wrap64 (x102000 - 16)) then (some false) else (if x15 > 0 then (if 0 ≤ (wrap64 (x15 - 1)) then (if (wrap64 (x15 - 1)) < (x102001.length : Int) then (if (rd x13 x15) ≤ (rd x102001 (wrap64 (x15 - 1))) then (some false) else (impl_WindowOk.l0 k x13 x14 (wrap64 (x15 + 1)) x102000 x102001)) else (none)) else (none)) else (impl_WindowOk.l0 k x13 x14 (wrap64 (x15 + 1)) x102000 x102001)))) else (none)) else (none)) else (if 0 ≤ (wrap64 ((x102001.length : Int) - 1)) then (if (wrap64 ((x102001.length : Int) - 1)) < (x102001.length : Int) then (if (rd x102001 (wrap64 ((x102001.length : Int) - 1))) = x102000 then (some (decide (x102000 ≤ 1000000))) else (some false)) else (none)) else (none))
def impl_WindowOk.f (k : Nat) (a0_0 : Int) (l0_1 : List Int) : Option (Bool) := if (l0_1.length : Int) = 0 then (some (a0_0 == 0)) else (impl_WindowOk.l0 k l0_1 (l0_1.length : Int) 0 a0_0 l0_1)
theorem impl_WindowOk.calls (k : Nat) (aE : Int) (aP : Option Addr) (aQ : Nat) (aA : List Int) (r : Bool) (w : World) (bD : Kd.C (Kd.int .i64) w aP aA.length aA) (bE : aA.length ≤ aQ) (h : impl_WindowOk.f k aE aA = some r) :
  Calls Tryz.prog 84 #[.agg #[.int .i64 aE, .slice aP aA.length aQ]] w fun e w' => e = .returned (.bool r) ∧ Below w.heap.size w w' := by
 have cK := Tryz.underlying78
 have aK := Aside0.mk bD
 have cJ := Aside0.mk bE
 clear bD bE
 have HB := am (Below.refl w.heap.size w)
 have H : (if (aA.length : Int) = 0 then (some (aE == 0)) else (impl_WindowOk.l0 k aA (aA.length : Int) 0 aE aA)) = some r := h
 clear h
 by_cases c2 : (aA.length : Int) = 0
 ·rw [if_pos c2] at H
  have c2b0 : ((aA.length : Int) == 0) = true := beq_iff_eq.mpr c2
  have c2b1 : ((aA.length : Int) != 0) = false := bne_eq_false_iff_eq.mpr c2
  clear c2
  obtain rfl := sj H
  go_enter Tryz.func84, Tryz.ntmps84
  go_wp2_with (first | ((with_reducible refine gate_dst (N := 1) rfl ?_); refine box_event rfl (N := 1) rfl (cs := #[.int .i64 aE, .slice aP aA.length aQ]) (t := 78) BX ?_; intro aN hg w3 aI hb; have aD := am (aI); have aJ := am (GH HB hg); have aF := aJ; replace HB := bl (KL HB) hb; clear hb aI hg; obtain ⟨aS, aT, aU⟩ := y2 w3 aD.out))
  repeat (go_quiet (first | ((with_reducible refine gate_dst (N := 1) rfl ?_); refine box_event rfl (N := 1) rfl (cs := #[.int .i64 aE, .slice aP aA.length aQ]) (t := 78) BX ?_; intro aN hg w3 aI hb; have aD := am (aI); have aJ := am (GH HB hg); have aF := aJ; replace HB := bl (KL HB) hb; clear hb aI hg; obtain ⟨aS, aT, aU⟩ := y2 w3 aD.out)); try go_wp2_with (first | ((with_reducible refine gate_dst (N := 1) rfl ?_); refine box_event rfl (N := 1) rfl (cs := #[.int .i64 aE, .slice aP aA.length aQ]) (t := 78) BX ?_; intro aN hg w3 aI hb; have aD := am (aI); have aJ := am (GH HB hg); have aF := aJ; replace HB := bl (KL HB) hb; clear hb aI hg; obtain ⟨aS, aT, aU⟩ := y2 w3 aD.out)))
  go_ret
  exact ⟨ER, K1 HB aF.out⟩
 ·rw [if_neg c2] at H
  have c2b0 : ((aA.length : Int) == 0) = false := beq_eq_false_iff_ne.mpr c2
  have c2b1 : ((aA.length : Int) != 0) = true := bne_iff_ne.mpr c2
  have c2b2 : ¬ (aA = []) := fun h_ => c2 (by rw [h_]; rfl)
  have H' := Aside0.mk H
  clear H
  go_enter Tryz.func84, Tryz.ntmps84
  go_wp2_with (first | ((with_reducible refine gate_dst (N := 1) rfl ?_); refine box_event rfl (N := 1) rfl (cs := #[.int .i64 aE, .slice aP aA.length aQ]) (t := 78) BX ?_; intro aN hg w5 aI hb; have aD := am (aI); have aJ := am (GH HB hg); have aF := aJ; replace HB := bl (KL HB) hb; clear hb aI hg; obtain ⟨aV, aW, aX⟩ := y2 w5 aD.out))
  repeat (go_quiet (first | ((with_reducible refine gate_dst (N := 1) rfl ?_); refine box_event rfl (N := 1) rfl (cs := #[.int .i64 aE, .slice aP aA.length aQ]) (t := 78) BX ?_; intro aN hg w5 aI hb; have aD := am (aI); have aJ := am (GH HB hg); have aF := aJ; replace HB := bl (KL HB) hb; clear hb aI hg; obtain ⟨aV, aW, aX⟩ := y2 w5 aD.out)); try go_wp2_with (first | ((with_reducible refine gate_dst (N := 1) rfl ?_); refine box_event rfl (N := 1) rfl (cs := #[.int .i64 aE, .slice aP aA.length aQ]) (t := 78) BX ?_; intro aN hg w5 aI hb; have aD := am (aI); have aJ := am (GH HB hg); have aF := aJ; replace HB := bl (KL HB) hb; clear hb aI hg; obtain ⟨aV, aW, aX⟩ := y2 w5 aD.out)))
  go_loopg [15] k (fun kq cL w' => ∃ (aB : Int), cL = .int .i64 aB ∧ Aside0 (impl_WindowOk.l0 kq aA (aA.length : Int) aB aE aA = some r) ∧ Aside0 (kq ≤ k) ∧ Aside0 (w'.heap[aN]? = some (.cells #[.int .i64 aE, (.slice aP aA.length aQ)] 78 (0, 0))) ∧ Aside0 (Below w.heap.size w w'))
  case atStart => exact ⟨(0), (by first | rfl | (simp; done) | (simp [*]; done)), H', ⟨Nat.le_refl _⟩, ⟨KB aD⟩, ⟨K1 HB aF.out⟩⟩
  case round =>
   clear H'
   try clear c2
   try clear c2b0
   try clear c2b1
   try clear c2b2
   try clear p2
   try clear aS aT aU
   try clear aV aW aX
   obtain ⟨aB, rfl, HA, HK1, aD, HB⟩ := hrel
   cases gk with
   | zero => exact absurd HA.out (by simp [impl_WindowOk.l0])
   | succ k1 =>
    have H := HA.out
    clear HA
    simp only [impl_WindowOk.l0] at H
    by_cases c7 : aB < (aA.length : Int)
    ·rw [if_pos c7] at H
     have c7b0 : decide (aB < (aA.length : Int)) = true := decide_eq_true c7
     clear c7
     by_cases c8 : 0 ≤ aB
     ·rw [if_pos c8] at H
      have c8b0 : decide (0 ≤ aB) = true := decide_eq_true c8
      clear c8
      by_cases c9 : aB < (aA.length : Int)
      ·rw [if_pos c9] at H
       have c9b0 : decide (aB < (aA.length : Int)) = true := decide_eq_true c9
       clear c9
       by_cases bI : (rd aA aB) < 1
       ·rw [if_pos bI] at H
        have c10b0 : decide ((rd aA aB) < 1) = true := decide_eq_true bI
        clear bI
        obtain rfl := sj H
        have aG : 0 ≤ (aB : Int) := OD
        have aH : aB < (aA.length : Int) := OD
        obtain ⟨aO, aR, aC⟩ := Kd.at_int aK.out aB aG aH
        cases aR
        replace aC := CX HB.out aC
        replace aG := eq_true aG
        replace aH := eq_true aH
        go_wp2
        repeat (go_quiet (fail); try go_wp2)
        go_ret
        exact ⟨ER, K1 HB aF.out⟩
       ·rw [if_neg bI] at H
        have c10b0 : decide ((rd aA aB) < 1) = false := decide_eq_false bI
        clear bI
        by_cases bJ : (rd aA aB) ≤ (wrap64 (aE - 16))
        ·rw [if_pos bJ] at H
         have c11b0 : decide ((rd aA aB) ≤ (wrap64 (aE - 16))) = true := decide_eq_true bJ
         clear bJ
         obtain rfl := sj H
         have aG : 0 ≤ (aB : Int) := OD
         have aH : aB < (aA.length : Int) := OD
         obtain ⟨aO, aR, aC⟩ := Kd.at_int aK.out aB aG aH
         cases aR
         replace aC := CX HB.out aC
         replace aG := eq_true aG
         replace aH := eq_true aH
         have ⟨_, _, _⟩ := y2 wr aD.out
         go_wp2
         repeat (go_quiet (fail); try go_wp2)
         go_ret
         exact ⟨ER, K1 HB aF.out⟩
        ·rw [if_neg bJ] at H
         have c11b0 : decide ((rd aA aB) ≤ (wrap64 (aE - 16))) = false := decide_eq_false bJ
         clear bJ
         by_cases bK : aB > 0
         ·rw [if_pos bK] at H
          have c13b0 : decide (0 < aB) = true := decide_eq_true bK
          clear bK
          obtain ⟨ji14, hji14⟩ : ∃ j_ : Int, (wrap64 (aB - 1)) = j_ := ⟨_, rfl⟩
          replace H : (if 0 ≤ (ji14) then (if (ji14) < (aA.length : Int) then (if (rd aA aB) ≤ (rd aA (ji14)) then (some false) else (impl_WindowOk.l0 k1 aA (aA.length : Int) (wrap64 (aB + 1)) aE aA)) else (none)) else (none)) = some r := by first | (rw [hji14] at H; exact H) | (simp only [hji14] at H ⊢; exact H)
          have hji14w : (IntKind.i64.wrap (aB - 1)) = ji14 := (i64_w _).trans hji14
          by_cases bQ : 0 ≤ (ji14)
          ·rw [if_pos bQ] at H
           have c15b0 : decide (0 ≤ (ji14)) = true := decide_eq_true bQ
           clear bQ
           by_cases bR : (ji14) < (aA.length : Int)
           ·rw [if_pos bR] at H
            have c16b0 : decide ((ji14) < (aA.length : Int)) = true := decide_eq_true bR
            clear bR
            by_cases bL : (rd aA aB) ≤ (rd aA (ji14))
            ·rw [if_pos bL] at H
             have c17b0 : decide ((rd aA aB) ≤ (rd aA (ji14))) = true := decide_eq_true bL
             clear bL
             obtain rfl := sj H
             have aG : 0 ≤ (aB : Int) := OD
             have aH : aB < (aA.length : Int) := OD
             obtain ⟨aO, aR, aC⟩ := Kd.at_int aK.out aB aG aH
             cases aR
             replace aC := CX HB.out aC
             replace aG := eq_true aG
             replace aH := eq_true aH
             have ⟨_, _, _⟩ := y2 wr aD.out
             have aY : 0 ≤ ((ji14) : Int) := OD
             have aZ : (ji14) < (aA.length : Int) := OD
             obtain ⟨bC, bF, aL⟩ := Kd.at_int aK.out (ji14) aY aZ
             obtain rfl : aO = bC := (by injection bF)
             replace aL := CX HB.out aL
             replace aY := eq_true aY
             replace aZ := eq_true aZ
             go_wp2
             repeat (go_quiet (fail); try go_wp2)
             go_ret
             exact ⟨by first | rfl | (simp [errW_none, errW_some] <;> rfl) | (simp only [← hji14]; first | rfl | (simp [errW_none, errW_some] <;> rfl)) | (simp [*, errW_none, errW_some] <;> rfl), K1 HB aF.out⟩
            ·rw [if_neg bL] at H
             have c17b0 : decide ((rd aA aB) ≤ (rd aA (ji14))) = false := decide_eq_false bL
             clear bL
             have H' := Aside0.mk H
             clear H
             have aG : 0 ≤ (aB : Int) := OD
             have aH : aB < (aA.length : Int) := OD
             obtain ⟨aO, aR, aC⟩ := Kd.at_int aK.out aB aG aH
             cases aR
             replace aC := CX HB.out aC
             replace aG := eq_true aG
             replace aH := eq_true aH
             have ⟨_, _, _⟩ := y2 wr aD.out
             have aY : 0 ≤ ((ji14) : Int) := OD
             have aZ : (ji14) < (aA.length : Int) := OD
             obtain ⟨bC, bF, aL⟩ := Kd.at_int aK.out (ji14) aY aZ
             obtain rfl : aO = bC := (by injection bF)
             replace aL := CX HB.out aL
             replace aY := eq_true aY
             replace aZ := eq_true aZ
             go_wp2
             repeat (go_quiet (fail); try go_wp2)
             go_roundg k1
             case measure => have := HK1.out; omega
             case rel => exact ⟨(wrap64 (aB + 1)), (by first | rfl | (simp; done) | (simp [*]; done)), H', ⟨by have := HK1.out; omega⟩, ⟨KB aD⟩, ⟨K1 HB aF.out⟩⟩
           ·rw [if_neg bR] at H
            exact absurd H (by simp)
          ·rw [if_neg bQ] at H
           exact absurd H (by simp)
         ·rw [if_neg bK] at H
          have c13b0 : decide (0 < aB) = false := decide_eq_false bK
          clear bK
          have H' := Aside0.mk H
          clear H
          have aG : 0 ≤ (aB : Int) := OD
          have aH : aB < (aA.length : Int) := OD
          obtain ⟨aO, aR, aC⟩ := Kd.at_int aK.out aB aG aH
          cases aR
          replace aC := CX HB.out aC
          replace aG := eq_true aG
          replace aH := eq_true aH
          have ⟨_, _, _⟩ := y2 wr aD.out
          go_wp2
          repeat (go_quiet (fail); try go_wp2)
          go_roundg k1
          case measure => have := HK1.out; omega
          case rel => exact ⟨(wrap64 (aB + 1)), (by first | rfl | (simp; done) | (simp [*]; done)), H', ⟨by have := HK1.out; omega⟩, ⟨KB aD⟩, ⟨K1 HB aF.out⟩⟩
      ·rw [if_neg c9] at H
       exact absurd H (by simp)
     ·rw [if_neg c8] at H
      exact absurd H (by simp)
    ·rw [if_neg c7] at H
     have c7b0 : decide (aB < (aA.length : Int)) = false := decide_eq_false c7
     clear c7
     obtain ⟨ji21, hji21⟩ : ∃ j_ : Int, (wrap64 ((aA.length : Int) - 1)) = j_ := ⟨_, rfl⟩
     replace H : (if 0 ≤ (ji21) then (if (ji21) < (aA.length : Int) then (if (rd aA (ji21)) = aE then (some (decide (aE ≤ 1000000))) else (some false)) else (none)) else (none)) = some r := by first | (rw [hji21] at H; exact H) | (simp only [hji21] at H ⊢; exact H)
     have hji21w : (IntKind.i64.wrap ((aA.length : Int) - 1)) = ji21 := (i64_w _).trans hji21
     by_cases cB : 0 ≤ (ji21)
     ·rw [if_pos cB] at H
      have c22b0 : decide (0 ≤ (ji21)) = true := decide_eq_true cB
      clear cB
      by_cases cC : (ji21) < (aA.length : Int)
      ·rw [if_pos cC] at H
       have c23b0 : decide ((ji21) < (aA.length : Int)) = true := decide_eq_true cC
       clear cC
       by_cases bG : (rd aA (ji21)) = aE
       ·rw [if_pos bG] at H
        have c24b0 : ((rd aA (ji21)) == aE) = true := beq_iff_eq.mpr bG
        have c24b1 : ((rd aA (ji21)) != aE) = false := bne_eq_false_iff_eq.mpr bG
        clear bG
        obtain rfl := sj H
        have ⟨_, _, _⟩ := y2 wr aD.out
        have bA : 0 ≤ ((ji21) : Int) := OD
        have bB : (ji21) < (aA.length : Int) := OD
        obtain ⟨bM, bH, aM⟩ := Kd.at_int aK.out (ji21) bA bB
        cases bH
        replace aM := CX HB.out aM
        replace bA := eq_true bA
        replace bB := eq_true bB
        go_wp2
        repeat (go_quiet (fail); try go_wp2)
        go_ret
        exact ⟨by first | rfl | (simp [errW_none, errW_some] <;> rfl) | (simp only [← hji21]; first | rfl | (simp [errW_none, errW_some] <;> rfl)) | (simp [*, errW_none, errW_some] <;> rfl), K1 HB aF.out⟩
       ·rw [if_neg bG] at H
        have c24b0 : ((rd aA (ji21)) == aE) = false := beq_eq_false_iff_ne.mpr bG
        have c24b1 : ((rd aA (ji21)) != aE) = true := bne_iff_ne.mpr bG
        obtain rfl := sj H
        have ⟨_, _, _⟩ := y2 wr aD.out
        have bA : 0 ≤ ((ji21) : Int) := OD
        have bB : (ji21) < (aA.length : Int) := OD
        obtain ⟨bM, bH, aM⟩ := Kd.at_int aK.out (ji21) bA bB
        cases bH
        replace aM := CX HB.out aM
        replace bA := eq_true bA
        replace bB := eq_true bB
        go_wp2
        repeat (go_quiet (fail); try go_wp2)
        go_ret
        exact ⟨by first | rfl | (simp [errW_none, errW_some] <;> rfl) | (simp only [← hji21]; first | rfl | (simp [errW_none, errW_some] <;> rfl)) | (simp [*, errW_none, errW_some] <;> rfl), K1 HB aF.out⟩
      ·rw [if_neg cC] at H
       exact absurd H (by simp)
     ·rw [if_neg cB] at H
      exact absurd H (by simp)
def impl_SaOk.j0 : Nat → Bool → Int → Int → ByteArray → ByteArray → Int → Int → Int → Int → Int → Int → List Int → Option (Bool)
 | 0, _, _, _, _, _, _, _, _, _, _, _, _ => none
 | k + 1, x3, x102000, x102001, x102002, x102003, x102004, x102005, x102006, x102007, x102008, x102009, x102010 => (impl_in.f x102004 0 1000000).bind fun t105 => (if t105 = true then ((impl_in.f x102006 1 1000000).bind fun t106 => (if t106 = true then ((impl_in.f x102005 1 x102006).bind fun t107 => (if t107 = true then ((impl_in.f x102007 1 1000000).bind fun t108 => (if x3 = true then (if t108 = true then ((impl_in.f x102008 0 x102006).bind fun t109 => (if t109 = true then ((impl_WindowOk.f k x102009 x102010).bind fun t110 => (some t110)) else (some false))) else (some false)) else (some false))) else (if x3 = true then (some false) else (some false)))) else (if x3 = true then (some false) else (some false)))) else (if x3 = true then (some false) else (some false)))
def impl_SaOk.f (k : Nat) (a0_0 : Int) (a0_1 : Int) (a0_2 : ByteArray) (a0_3 : ByteArray) (a0_4 : Int) (a0_5 : Int) (a0_6 : Int) (a0_7 : Int) (a0_8 : Int) (a0_9 : Int) (l0_10 : List Int) : Option (Bool) := (impl_in.f a0_0 1 999).bind fun t102 => (if t102 = true then ((impl_in.f a0_1 0 3).bind fun t103 => (if t103 = true then ((impl_keysOk.f a0_2 a0_3).bind fun t104 => (impl_SaOk.j0 k t104 a0_0 a0_1 a0_2 a0_3 a0_4 a0_5 a0_6 a0_7 a0_8 a0_9 l0_10)) else (impl_SaOk.j0 k false a0_0 a0_1 a0_2 a0_3 a0_4 a0_5 a0_6 a0_7 a0_8 a0_9 l0_10))) else (impl_SaOk.j0 k false a0_0 a0_1 a0_2 a0_3 a0_4 a0_5 a0_6 a0_7 a0_8 a0_9 l0_10))
theorem impl_SaOk.calls (k : Nat) (aG : Int) (aK : Int) (aL : ByteArray) (aM : ByteArray) (aC : Int) (aF : Int) (aA : Int) (aH : Int) (aI : Int) (aJ : Int) (aS : Option Addr) (aT : Nat) (aB : List Int) (r : Bool) (w : World) (aW : Kd.C (Kd.int .i64) w aS aB.length aB) (aX : aB.length ≤ aT) (h : impl_SaOk.f k aG aK aL aM aC aF aA aH aI aJ aB = some r) :
  Calls Tryz.prog 63 #[.agg #[.int .i64 aG, .int .i64 aK, .string aL, .string aM, .int .i64 aC, .int .i64 aF, .int .i64 aA, .int .i64 aH, .int .i64 aI, .int .i64 aJ, .slice aS aB.length aT]] w fun e w' => e = .returned (.bool r) ∧ Below w.heap.size w w' := by
 have iE := Tryz.underlying80
 have iF := Tryz.underlying78
 have cB := Aside0.mk aW
 have cC := Aside0.mk aX
 clear aW aX
 have HB := am (Below.refl w.heap.size w)
 have H : ((impl_in.f aG 1 999).bind fun bB => (if bB = true then ((impl_in.f aK 0 3).bind fun aU => (if aU = true then ((impl_keysOk.f aL aM).bind fun aQ => (impl_SaOk.j0 k aQ aG aK aL aM aC aF aA aH aI aJ aB)) else (impl_SaOk.j0 k false aG aK aL aM aC aF aA aH aI aJ aB))) else (impl_SaOk.j0 k false aG aK aL aM aC aF aA aH aI aJ aB))) = some r := h
 clear h
 have hZ := Aside0.mk H
 clear H
 go_enter Tryz.func63, Tryz.ntmps63
 go_upto_region 1 with (first | ((with_reducible refine gate_dst (N := 1) rfl ?_); refine box_event rfl (N := 1) rfl (cs := #[.int .i64 aG, .int .i64 aK, .string aL, .string aM, .int .i64 aC, .int .i64 aF, .int .i64 aA, .int .i64 aH, .int .i64 aI, .int .i64 aJ, .slice aS aB.length aT]) (t := 80) BX ?_; intro cP hg w3 cQ hb; have aD := am (cQ); have cR := am (GH HB hg); have aE := cR; replace HB := bl (KL HB) hb; clear hb cQ hg))
 (try simp only [Act.put, List.setIfInBounds_toArray, List.set_cons_zero, List.set_cons_succ])
 go_cut [3] (fun v3 wc => ∃ (kq : Nat) (aN : Bool), v3 = .bool aN ∧ Aside0 (impl_SaOk.j0 kq aN aG aK aL aM aC aF aA aH aI aJ aB = some r) ∧ Aside0 (kq ≤ k) ∧ Aside0 (wc.heap[cP]? = some (.cells #[.int .i64 aG, .int .i64 aK, .string aL, .string aM, .int .i64 aC, .int .i64 aF, .int .i64 aA, .int .i64 aH, .int .i64 aI, .int .i64 aJ, (.slice aS aB.length aT)] 80 (0, 0))) ∧ Aside0 (Below w.heap.size w wc))
 case first =>
  have H := hZ.out
  clear hZ
  replace H := bm H
  obtain ⟨bB, iA, H⟩ := H
  replace H : (if bB = true then ((impl_in.f aK 0 3).bind fun aU => (if aU = true then ((impl_keysOk.f aL aM).bind fun aQ => (impl_SaOk.j0 k aQ aG aK aL aM aC aF aA aH aI aJ aB)) else (impl_SaOk.j0 k false aG aK aL aM aC aF aA aH aI aJ aB))) else (impl_SaOk.j0 k false aG aK aL aM aC aF aA aH aI aJ aB)) = some r := H
  have A4 := Aside0.mk iA
  clear iA
  by_cases c5 : bB = true
  ·subst c5
   have H1 := pf H
   clear H
   have H := H1
   clear H1
   replace H := bm H
   obtain ⟨aU, iB, H⟩ := H
   replace H : (if aU = true then ((impl_keysOk.f aL aM).bind fun aQ => (impl_SaOk.j0 k aQ aG aK aL aM aC aF aA aH aI aJ aB)) else (impl_SaOk.j0 k false aG aK aL aM aC aF aA aH aI aJ aB)) = some r := H
   have A6 := Aside0.mk iB
   clear iB
   by_cases c7 : aU = true
   ·subst c7
    have H1 := pf H
    clear H
    have H := H1
    clear H1
    replace H := bm H
    obtain ⟨aQ, iC, H⟩ := H
    replace H : (impl_SaOk.j0 k aQ aG aK aL aM aC aF aA aH aI aJ aB) = some r := H
    have A8 := Aside0.mk iC
    clear iC
    have H' := Aside0.mk H
    clear H
    obtain ⟨cD, cE, cF, cG, cH, cI, cJ, cK, cL, cM, bC, cN⟩ := y11 w3 aD.out
    go_wp2_with (first | ((with_reducible refine gate_callee (f := 35) rfl ?_); refine goesL_ (some 7) rfl rfl Tryz.func35 (by kernel_rfl) rfl #[.int .i64 aG, .int .i64 1, .int .i64 999] rfl MT ?_; (with_reducible refine (impl_in.calls aG 1 999 true _ A4.out).mono ?_); rintro e w' ⟨rfl, ⟨nd, rfl⟩⟩; refine ⟨_, rfl, ?_⟩) | (go_at_call 35; (with_reducible refine (impl_in.calls aK 0 3 true _ A6.out).mono ?_); rintro e w' ⟨rfl, ⟨nd, rfl⟩⟩) | (go_at_call 83; (with_reducible refine (impl_keysOk.calls aL aM aQ _ A8.out).mono ?_); rintro e w' ⟨rfl, ⟨nd, rfl⟩⟩))
    go_meet
    case rel => exact ⟨_, (aQ), (by first | rfl | (simp; done) | (simp [*]; done)), H', ⟨by first | omega | exact Nat.le_refl _⟩, ⟨KB aD⟩, ⟨K1 HB aE.out⟩⟩
   ·replace c7 := Bool.eq_false_iff.mpr c7
    subst c7
    have H1 := nf H
    clear H
    have H := H1
    clear H1
    have H' := Aside0.mk H
    clear H
    obtain ⟨bD, bE, bF, bG, bH, bI, bJ, bK, bL, bM, aY, bN⟩ := y11 w3 aD.out
    go_wp2_with (first | ((with_reducible refine gate_callee (f := 35) rfl ?_); refine goesL_ (some 7) rfl rfl Tryz.func35 (by kernel_rfl) rfl #[.int .i64 aG, .int .i64 1, .int .i64 999] rfl MT ?_; (with_reducible refine (impl_in.calls aG 1 999 true _ A4.out).mono ?_); rintro e w' ⟨rfl, ⟨nd, rfl⟩⟩; refine ⟨_, rfl, ?_⟩) | (go_at_call 35; (with_reducible refine (impl_in.calls aK 0 3 false _ A6.out).mono ?_); rintro e w' ⟨rfl, ⟨nd, rfl⟩⟩))
    go_meet
    case rel => exact ⟨_, (false), (by first | rfl | (simp; done) | (simp [*]; done)), H', ⟨by first | omega | exact Nat.le_refl _⟩, ⟨KB aD⟩, ⟨K1 HB aE.out⟩⟩
  ·replace c5 := Bool.eq_false_iff.mpr c5
   subst c5
   have H1 := nf H
   clear H
   have H := H1
   clear H1
   have H' := Aside0.mk H
   clear H
   obtain ⟨bO, bP, bQ, bR, bS, bT, bU, bV, bW, bX, aZ, bY⟩ := y11 w3 aD.out
   go_wp2_with (first | ((with_reducible refine gate_callee (f := 35) rfl ?_); refine goesL_ (some 7) rfl rfl Tryz.func35 (by kernel_rfl) rfl #[.int .i64 aG, .int .i64 1, .int .i64 999] rfl MT ?_; (with_reducible refine (impl_in.calls aG 1 999 false _ A4.out).mono ?_); rintro e w' ⟨rfl, ⟨nd, rfl⟩⟩; refine ⟨_, rfl, ?_⟩))
   go_meet
   case rel => exact ⟨_, (false), (by first | rfl | (simp; done) | (simp [*]; done)), H', ⟨by first | omega | exact Nat.le_refl _⟩, ⟨KB aD⟩, ⟨K1 HB aE.out⟩⟩
 case rest =>
  clear hZ
  try clear p2
  try clear c3
  try clear c5
  try clear c6
  try clear c7
  try clear bD bE aY bF bG bH bI bJ bK bL bM bN
  try clear bO bP aZ bQ bR bS bT bU bV bW bX bY
  try clear cD cE bC cF cG cH cI cJ cK cL cM cN
  obtain ⟨kq, aN, rfl, HA, HJ1, aD, HB⟩ := hcut
  cases kq with
  | zero => exact absurd HA.out (by simp [impl_SaOk.j0])
  | succ kj1 =>
   have H := HA.out
   clear HA
   simp only [impl_SaOk.j0] at H
   replace H := bm H
   obtain ⟨cS, cT, H⟩ := H
   replace H : (if cS = true then ((impl_in.f aA 1 1000000).bind fun bZ => (if bZ = true then ((impl_in.f aF 1 aA).bind fun aV => (if aV = true then ((impl_in.f aH 1 1000000).bind fun aR => (if aN = true then (if aR = true then ((impl_in.f aI 0 aA).bind fun aP => (if aP = true then ((impl_WindowOk.f kj1 aJ aB).bind fun aO => (some aO)) else (some false))) else (some false)) else (some false))) else (if aN = true then (some false) else (some false)))) else (if aN = true then (some false) else (some false)))) else (if aN = true then (some false) else (some false))) = some r := H
   have bA := Aside0.mk cT
   clear cT
   by_cases dJ : cS = true
   ·subst dJ
    have H1 := pf H
    clear H
    have H := H1
    clear H1
    replace H := bm H
    obtain ⟨bZ, cU, H⟩ := H
    replace H : (if bZ = true then ((impl_in.f aF 1 aA).bind fun aV => (if aV = true then ((impl_in.f aH 1 1000000).bind fun aR => (if aN = true then (if aR = true then ((impl_in.f aI 0 aA).bind fun aP => (if aP = true then ((impl_WindowOk.f kj1 aJ aB).bind fun aO => (some aO)) else (some false))) else (some false)) else (some false))) else (if aN = true then (some false) else (some false)))) else (if aN = true then (some false) else (some false))) = some r := H
    have cA := Aside0.mk cU
    clear cU
    by_cases dK : bZ = true
    ·subst dK
     have H1 := pf H
     clear H
     have H := H1
     clear H1
     replace H := bm H
     obtain ⟨aV, cV, H⟩ := H
     replace H : (if aV = true then ((impl_in.f aH 1 1000000).bind fun aR => (if aN = true then (if aR = true then ((impl_in.f aI 0 aA).bind fun aP => (if aP = true then ((impl_WindowOk.f kj1 aJ aB).bind fun aO => (some aO)) else (some false))) else (some false)) else (some false))) else (if aN = true then (some false) else (some false))) = some r := H
     have cO := Aside0.mk cV
     clear cV
     by_cases dL : aV = true
     ·subst dL
      have H1 := pf H
      clear H
      have H := H1
      clear H1
      replace H := bm H
      obtain ⟨aR, cW, H⟩ := H
      replace H : (if aN = true then (if aR = true then ((impl_in.f aI 0 aA).bind fun aP => (if aP = true then ((impl_WindowOk.f kj1 aJ aB).bind fun aO => (some aO)) else (some false))) else (some false)) else (some false)) = some r := H
      have dM := Aside0.mk cW
      clear cW
      by_cases dN : aN = true
      ·subst dN
       have H1 := pf H
       clear H
       have H := H1
       clear H1
       by_cases dO : aR = true
       ·subst dO
        have H1 := pf H
        clear H
        have H := H1
        clear H1
        replace H := bm H
        obtain ⟨aP, cX, H⟩ := H
        replace H : (if aP = true then ((impl_WindowOk.f kj1 aJ aB).bind fun aO => (some aO)) else (some false)) = some r := H
        have iD := Aside0.mk cX
        clear cX
        by_cases dP : aP = true
        ·subst dP
         have H1 := pf H
         clear H
         have H := H1
         clear H1
         replace H := bm H
         obtain ⟨aO, cY, H⟩ := H
         replace H : (some aO) = some r := H
         have iG := Aside0.mk cY
         clear cY
         obtain rfl := sj H
         have ⟨_, _, _, _, _, _, _, _, _, _, _, _⟩ := y11 wc aD.out
         go_wp2_with (first | ((with_reducible refine gate_callee (f := 35) rfl ?_); refine goesL_ (some 22) rfl rfl Tryz.func35 (by kernel_rfl) rfl #[.int .i64 aC, .int .i64 0, .int .i64 1000000] rfl MT ?_; (with_reducible refine (impl_in.calls aC 0 1000000 true _ bA.out).mono ?_); rintro e w' ⟨rfl, ⟨nd, rfl⟩⟩; refine ⟨_, rfl, ?_⟩) | (go_at_call 35; (with_reducible refine (impl_in.calls aA 1 1000000 true _ cA.out).mono ?_); rintro e w' ⟨rfl, ⟨nd, rfl⟩⟩) | (go_at_call 35; (with_reducible refine (impl_in.calls aF 1 aA true _ cO.out).mono ?_); rintro e w' ⟨rfl, ⟨nd, rfl⟩⟩) | (go_at_call 35; (with_reducible refine (impl_in.calls aH 1 1000000 true _ dM.out).mono ?_); rintro e w' ⟨rfl, ⟨nd, rfl⟩⟩) | (go_at_call 35; (with_reducible refine (impl_in.calls aI 0 aA true _ iD.out).mono ?_); rintro e w' ⟨rfl, ⟨nd, rfl⟩⟩) | (go_at_call 84; (with_reducible refine (impl_WindowOk.calls kj1 aJ _ _ aB aO _ ?_ ?_ iG.out).mono ?_); (repeat (first | exact (Kd.C_below cB.out (K1 HB aE.out)) | (with_reducible refine Kd.C_alloc ?_ _) | (with_reducible refine Kd.C_drewN ?_ _) | (with_reducible refine Kd.C_drew ?_))); exact cC.out; rintro e iH ⟨rfl, hb⟩; replace aD := am (BB aD hb); replace HB := bl (K1 HB aE.out) hb; (try clear hb)))
         go_ret
         exact ⟨ER, K1 HB aE.out⟩
        ·replace dP := Bool.eq_false_iff.mpr dP
         subst dP
         have H1 := nf H
         clear H
         have H := H1
         clear H1
         obtain rfl := sj H
         have ⟨_, _, _, _, _, _, _, _, _, _, _, _⟩ := y11 wc aD.out
         go_wp2_with (first | ((with_reducible refine gate_callee (f := 35) rfl ?_); refine goesL_ (some 22) rfl rfl Tryz.func35 (by kernel_rfl) rfl #[.int .i64 aC, .int .i64 0, .int .i64 1000000] rfl MT ?_; (with_reducible refine (impl_in.calls aC 0 1000000 true _ bA.out).mono ?_); rintro e w' ⟨rfl, ⟨nd, rfl⟩⟩; refine ⟨_, rfl, ?_⟩) | (go_at_call 35; (with_reducible refine (impl_in.calls aA 1 1000000 true _ cA.out).mono ?_); rintro e w' ⟨rfl, ⟨nd, rfl⟩⟩) | (go_at_call 35; (with_reducible refine (impl_in.calls aF 1 aA true _ cO.out).mono ?_); rintro e w' ⟨rfl, ⟨nd, rfl⟩⟩) | (go_at_call 35; (with_reducible refine (impl_in.calls aH 1 1000000 true _ dM.out).mono ?_); rintro e w' ⟨rfl, ⟨nd, rfl⟩⟩) | (go_at_call 35; (with_reducible refine (impl_in.calls aI 0 aA false _ iD.out).mono ?_); rintro e w' ⟨rfl, ⟨nd, rfl⟩⟩))
         go_ret
         exact ⟨ER, K1 HB aE.out⟩
       ·replace dO := Bool.eq_false_iff.mpr dO
        subst dO
        have H1 := nf H
        clear H
        have H := H1
        clear H1
        obtain rfl := sj H
        have ⟨_, _, _, _, _, _, _, _, _, _, _, _⟩ := y11 wc aD.out
        go_wp2_with (first | ((with_reducible refine gate_callee (f := 35) rfl ?_); refine goesL_ (some 22) rfl rfl Tryz.func35 (by kernel_rfl) rfl #[.int .i64 aC, .int .i64 0, .int .i64 1000000] rfl MT ?_; (with_reducible refine (impl_in.calls aC 0 1000000 true _ bA.out).mono ?_); rintro e w' ⟨rfl, ⟨nd, rfl⟩⟩; refine ⟨_, rfl, ?_⟩) | (go_at_call 35; (with_reducible refine (impl_in.calls aA 1 1000000 true _ cA.out).mono ?_); rintro e w' ⟨rfl, ⟨nd, rfl⟩⟩) | (go_at_call 35; (with_reducible refine (impl_in.calls aF 1 aA true _ cO.out).mono ?_); rintro e w' ⟨rfl, ⟨nd, rfl⟩⟩) | (go_at_call 35; (with_reducible refine (impl_in.calls aH 1 1000000 false _ dM.out).mono ?_); rintro e w' ⟨rfl, ⟨nd, rfl⟩⟩))
        go_ret
        exact ⟨ER, K1 HB aE.out⟩
      ·replace dN := Bool.eq_false_iff.mpr dN
       subst dN
       have H1 := nf H
       clear H
       have H := H1
       clear H1
       obtain rfl := sj H
       have ⟨_, _, _, _, _, _, _, _, _, _, _, _⟩ := y11 wc aD.out
       go_wp2_with (first | ((with_reducible refine gate_callee (f := 35) rfl ?_); refine goesL_ (some 22) rfl rfl Tryz.func35 (by kernel_rfl) rfl #[.int .i64 aC, .int .i64 0, .int .i64 1000000] rfl MT ?_; (with_reducible refine (impl_in.calls aC 0 1000000 true _ bA.out).mono ?_); rintro e w' ⟨rfl, ⟨nd, rfl⟩⟩; refine ⟨_, rfl, ?_⟩) | (go_at_call 35; (with_reducible refine (impl_in.calls aA 1 1000000 true _ cA.out).mono ?_); rintro e w' ⟨rfl, ⟨nd, rfl⟩⟩) | (go_at_call 35; (with_reducible refine (impl_in.calls aF 1 aA true _ cO.out).mono ?_); rintro e w' ⟨rfl, ⟨nd, rfl⟩⟩) | (go_at_call 35; (with_reducible refine (impl_in.calls aH 1 1000000 aR _ dM.out).mono ?_); rintro e w' ⟨rfl, ⟨nd, rfl⟩⟩))
       go_ret
       exact ⟨ER, K1 HB aE.out⟩
     ·replace dL := Bool.eq_false_iff.mpr dL
      subst dL
      have H1 := nf H
      clear H
      have H := H1
      clear H1
      by_cases fI : aN = true
      ·subst fI
       have H1 := pf H
       clear H
       have H := H1
       clear H1
       obtain rfl := sj H
       have ⟨_, _, _, _, _, _, _, _, _, _, _, _⟩ := y11 wc aD.out
       go_wp2_with (first | ((with_reducible refine gate_callee (f := 35) rfl ?_); refine goesL_ (some 22) rfl rfl Tryz.func35 (by kernel_rfl) rfl #[.int .i64 aC, .int .i64 0, .int .i64 1000000] rfl MT ?_; (with_reducible refine (impl_in.calls aC 0 1000000 true _ bA.out).mono ?_); rintro e w' ⟨rfl, ⟨nd, rfl⟩⟩; refine ⟨_, rfl, ?_⟩) | (go_at_call 35; (with_reducible refine (impl_in.calls aA 1 1000000 true _ cA.out).mono ?_); rintro e w' ⟨rfl, ⟨nd, rfl⟩⟩) | (go_at_call 35; (with_reducible refine (impl_in.calls aF 1 aA false _ cO.out).mono ?_); rintro e w' ⟨rfl, ⟨nd, rfl⟩⟩))
       go_ret
       exact ⟨ER, K1 HB aE.out⟩
      ·replace fI := Bool.eq_false_iff.mpr fI
       subst fI
       have H1 := nf H
       clear H
       have H := H1
       clear H1
       obtain rfl := sj H
       have ⟨_, _, _, _, _, _, _, _, _, _, _, _⟩ := y11 wc aD.out
       go_wp2_with (first | ((with_reducible refine gate_callee (f := 35) rfl ?_); refine goesL_ (some 22) rfl rfl Tryz.func35 (by kernel_rfl) rfl #[.int .i64 aC, .int .i64 0, .int .i64 1000000] rfl MT ?_; (with_reducible refine (impl_in.calls aC 0 1000000 true _ bA.out).mono ?_); rintro e w' ⟨rfl, ⟨nd, rfl⟩⟩; refine ⟨_, rfl, ?_⟩) | (go_at_call 35; (with_reducible refine (impl_in.calls aA 1 1000000 true _ cA.out).mono ?_); rintro e w' ⟨rfl, ⟨nd, rfl⟩⟩) | (go_at_call 35; (with_reducible refine (impl_in.calls aF 1 aA false _ cO.out).mono ?_); rintro e w' ⟨rfl, ⟨nd, rfl⟩⟩))
       go_ret
       exact ⟨ER, K1 HB aE.out⟩
    ·replace dK := Bool.eq_false_iff.mpr dK
     subst dK
     have H1 := nf H
     clear H
     have H := H1
     clear H1
     by_cases gF : aN = true
     ·subst gF
      have H1 := pf H
      clear H
      have H := H1
      clear H1
      obtain rfl := sj H
      have ⟨_, _, _, _, _, _, _, _, _, _, _, _⟩ := y11 wc aD.out
      go_wp2_with (first | ((with_reducible refine gate_callee (f := 35) rfl ?_); refine goesL_ (some 22) rfl rfl Tryz.func35 (by kernel_rfl) rfl #[.int .i64 aC, .int .i64 0, .int .i64 1000000] rfl MT ?_; (with_reducible refine (impl_in.calls aC 0 1000000 true _ bA.out).mono ?_); rintro e w' ⟨rfl, ⟨nd, rfl⟩⟩; refine ⟨_, rfl, ?_⟩) | (go_at_call 35; (with_reducible refine (impl_in.calls aA 1 1000000 false _ cA.out).mono ?_); rintro e w' ⟨rfl, ⟨nd, rfl⟩⟩))
      go_ret
      exact ⟨ER, K1 HB aE.out⟩
     ·replace gF := Bool.eq_false_iff.mpr gF
      subst gF
      have H1 := nf H
      clear H
      have H := H1
      clear H1
      obtain rfl := sj H
      have ⟨_, _, _, _, _, _, _, _, _, _, _, _⟩ := y11 wc aD.out
      go_wp2_with (first | ((with_reducible refine gate_callee (f := 35) rfl ?_); refine goesL_ (some 22) rfl rfl Tryz.func35 (by kernel_rfl) rfl #[.int .i64 aC, .int .i64 0, .int .i64 1000000] rfl MT ?_; (with_reducible refine (impl_in.calls aC 0 1000000 true _ bA.out).mono ?_); rintro e w' ⟨rfl, ⟨nd, rfl⟩⟩; refine ⟨_, rfl, ?_⟩) | (go_at_call 35; (with_reducible refine (impl_in.calls aA 1 1000000 false _ cA.out).mono ?_); rintro e w' ⟨rfl, ⟨nd, rfl⟩⟩))
      go_ret
      exact ⟨ER, K1 HB aE.out⟩
   ·replace dJ := Bool.eq_false_iff.mpr dJ
    subst dJ
    have H1 := nf H
    clear H
    have H := H1
    clear H1
    by_cases hC : aN = true
    ·subst hC
     have H1 := pf H
     clear H
     have H := H1
     clear H1
     obtain rfl := sj H
     have ⟨_, _, _, _, _, _, _, _, _, _, _, _⟩ := y11 wc aD.out
     go_wp2_with (first | ((with_reducible refine gate_callee (f := 35) rfl ?_); refine goesL_ (some 22) rfl rfl Tryz.func35 (by kernel_rfl) rfl #[.int .i64 aC, .int .i64 0, .int .i64 1000000] rfl MT ?_; (with_reducible refine (impl_in.calls aC 0 1000000 false _ bA.out).mono ?_); rintro e w' ⟨rfl, ⟨nd, rfl⟩⟩; refine ⟨_, rfl, ?_⟩))
     go_ret
     exact ⟨ER, K1 HB aE.out⟩
    ·replace hC := Bool.eq_false_iff.mpr hC
     subst hC
     have H1 := nf H
     clear H
     have H := H1
     clear H1
     obtain rfl := sj H
     have ⟨_, _, _, _, _, _, _, _, _, _, _, _⟩ := y11 wc aD.out
     go_wp2_with (first | ((with_reducible refine gate_callee (f := 35) rfl ?_); refine goesL_ (some 22) rfl rfl Tryz.func35 (by kernel_rfl) rfl #[.int .i64 aC, .int .i64 0, .int .i64 1000000] rfl MT ?_; (with_reducible refine (impl_in.calls aC 0 1000000 false _ bA.out).mono ?_); rintro e w' ⟨rfl, ⟨nd, rfl⟩⟩; refine ⟨_, rfl, ?_⟩))
     go_ret
     exact ⟨ER, K1 HB aE.out⟩
mutual
def impl_ascending_tunOf.l0 : Nat → List (S80) → Int → List (S80) → Int → Int → Option (Bool)
 | 0, _, _, _, _, _ => none
 | k + 1, x0, x1, x9, x10, x11 => if x11 < x10 then (if 0 ≤ x11 then (if x11 < (x9.length : Int) then ((impl_SaOk.f k ((rd_T80 x9 x11).f0) ((rd_T80 x9 x11).f1) ((rd_T80 x9 x11).f2) ((rd_T80 x9 x11).f3) ((rd_T80 x9 x11).f4) ((rd_T80 x9 x11).f5) ((rd_T80 x9 x11).f6) ((rd_T80 x9 x11).f7) ((rd_T80 x9 x11).f8) ((rd_T80 x9 x11).f9.f0) ((rd_T80 x9 x11).f9.f1)).bind fun t103 => (if t103 = true then (if ((rd_T80 x9 x11).f4) > x1 then (impl_ascending_tunOf.j1 k x0 x1 x9 x10 x11 true) else (if x11 > 0 then (if 0 ≤ (wrap64 (x11 - 1)) then (if (wrap64 (x11 - 1)) < (x0.length : Int) then ((impl_tunOf.f ((rd_T80 x0 (wrap64 (x11 - 1))).f0) ((rd_T80 x0 (wrap64 (x11 - 1))).f1) ((rd_T80 x0 (wrap64 (x11 - 1))).f2) ((rd_T80 x0 (wrap64 (x11 - 1))).f3) ((rd_T80 x0 (wrap64 (x11 - 1))).f4) ((rd_T80 x0 (wrap64 (x11 - 1))).f5) ((rd_T80 x0 (wrap64 (x11 - 1))).f6) ((rd_T80 x0 (wrap64 (x11 - 1))).f7) ((rd_T80 x0 (wrap64 (x11 - 1))).f8) ((rd_T80 x0 (wrap64 (x11 - 1))).f9.f0) ((rd_T80 x0 (wrap64 (x11 - 1))).f9.f1)).bind fun t105 => ((impl_tunOf.f ((rd_T80 x9 x11).f0) ((rd_T80 x9 x11).f1) ((rd_T80 x9 x11).f2) ((rd_T80 x9 x11).f3) ((rd_T80 x9 x11).f4) ((rd_T80 x9 x11).f5) ((rd_T80 x9 x11).f6) ((rd_T80 x9 x11).f7) ((rd_T80 x9 x11).f8) ((rd_T80 x9 x11).f9.f0) ((rd_T80 x9 x11).f9.f1)).bind fun t106 => (impl_ascending_tunOf.j1 k x0 x1 x9 x10 x11 (decide (t105 ≥ t106))))) else (none)) else (none)) else (impl_ascending_tunOf.j1 k x0 x1 x9 x10 x11 false))) else (impl_ascending_tunOf.j1 k x0 x1 x9 x10 x11 true))) else (none)) else (none)) else (some true)
def impl_ascending_tunOf.j1 : Nat → List (S80) → Int → List (S80) → Int → Int → Bool → Option (Bool)
 | 0, _, _, _, _, _, _ => none
 | k + 1, x0, x1, x9, x10, x11, x41 => if x41 = true then (some false) else (impl_ascending_tunOf.l0 k x0 x1 x9 x10 (wrap64 (x11 + 1)))
end
def impl_ascending_tunOf.f (k : Nat) (l0 : List (S80)) (a1 : Int)  : Option (Bool) := impl_ascending_tunOf.l0 k l0 a1 l0 (l0.length : Int) 0
def impl_ascending_tunOf.T4 : Bool × List (List Nat × List Nat) := (true, [([], []), ([0], [0]), ([1], [1]), ([2, 1], [2]), ([3], [3]), ([4, 3], [3, 4]), ([3], [3]), ([5, 6, 3], [3, 5, 6]), ([3, 7], [3, 7]), ([8, 3], [8]), ([9], [9]), ([10, 9], [9, 10]), ([11, 9, 9], [9, 11]), ([12], [12]), ([12], [12]), ([12], [12]), ([15, 12], [12, 15]), ([14, 16, 12], [12, 14, 16]), ([17, 12], [12, 17]), ([13, 18, 12, 12], [12, 13, 18]), ([12], [12]), ([12], [12]), ([20, 21, 19, 12], [12, 20, 21]), ([19, 22, 12], [12, 19, 22]), ([12, 23, 9], [9, 12, 23]), ([9, 24], [9, 24])])
def impl_ascending_tunOf.B4 : List Nat := [0, 1, 3, 7, 15, 31, 15, 127, 255, 511, 1023, 2047, 4095, 8191, 8191, 8191, 40959, 122879, 253951, 524287, 8191, 8191, 4194303, 8388607, 16777215, 33554431]
theorem impl_ascending_tunOf.tab4 : rtab .any (opsOf Tryz.f37 4) = impl_ascending_tunOf.T4 := by kernel_rfl
theorem impl_ascending_tunOf.bits4 : waitsOk impl_ascending_tunOf.T4.2 impl_ascending_tunOf.B4 = true := by kernel_rfl
theorem impl_ascending_tunOf.calls (k : Nat) (A0 : Option Addr) (c0 : Nat) (l0 : List (S80)) (a1 : Int)  (r : Bool) (w : World) (dP : Kd.C k80 w A0 l0.length l0) (dQ : l0.length ≤ c0) (h : impl_ascending_tunOf.f k l0 a1 = some r) :
  Calls Tryz.prog 37 #[.slice A0 l0.length c0, .int .i64 a1, .func (.func 38) #[] #[]] w fun e w' => e = .returned (.bool r) ∧ Below w.heap.size w w' := by
 have dS := Tryz.underlying80
 have dR := Aside0.mk dP
 have dX := Aside0.mk dQ
 clear dP dQ
 have HB := am (Below.refl w.heap.size w)
 have H : (impl_ascending_tunOf.l0 k l0 a1 l0 (l0.length : Int) 0) = some r := h
 clear h
 have H' := Aside0.mk H
 clear H
 go_enter Tryz.func37, Tryz.ntmps37
 go_wp2
 go_loopg [11] k (fun kq dT w' => ∃ (aA : Int), dT = .int .i64 aA ∧ Aside0 (impl_ascending_tunOf.l0 kq l0 a1 l0 (l0.length : Int) aA = some r) ∧ Aside0 (kq ≤ k) ∧ Aside0 (Below w.heap.size w w'))
 case atStart => exact ⟨(0), (by first | rfl | (simp; done) | (simp [*]; done)), H', ⟨Nat.le_refl _⟩, ⟨KL HB⟩⟩
 case round =>
  clear H'
  try clear p2
  obtain ⟨aA, rfl, HA, HK1, HB⟩ := hrel
  cases gk with
  | zero => exact absurd HA.out (by simp [impl_ascending_tunOf.l0])
  | succ k1 =>
   have H := HA.out
   clear HA
   simp only [impl_ascending_tunOf.l0] at H
   by_cases c4 : aA < (l0.length : Int)
   ·rw [if_pos c4] at H
    have c4b0 : decide (aA < (l0.length : Int)) = true := decide_eq_true c4
    clear c4
    by_cases c5 : 0 ≤ aA
    ·rw [if_pos c5] at H
     have c5b0 : decide (0 ≤ aA) = true := decide_eq_true c5
     clear c5
     by_cases c6 : aA < (l0.length : Int)
     ·rw [if_pos c6] at H
      have c6b0 : decide (aA < (l0.length : Int)) = true := decide_eq_true c6
      clear c6
      have cX := Aside0.mk H
      clear H
      have cE : 0 ≤ (aA : Int) := OD
      have cF : aA < (l0.length : Int) := OD
      obtain ⟨aG, aE, aF, cY, bP, bQ, bR, bS, bT, bU, bV, bW, bX, bY, bI, bJ, bK⟩ := at_T80 dR.out aA cE cF
      cases cY
      replace bP := CX HB.out bP
      replace bQ := CX HB.out bQ
      replace bR := CX HB.out bR
      replace bS := CX HB.out bS
      replace bT := CX HB.out bT
      replace bU := CX HB.out bU
      replace bV := CX HB.out bV
      replace bW := CX HB.out bW
      replace bX := CX HB.out bX
      replace bY := CX HB.out bY
      replace bI := CX HB.out bI
      have aJ := Aside0.mk bK
      have aK := Aside0.mk bJ
      clear bK bJ
      replace cE := eq_true cE
      replace cF := eq_true cF
      go_upto_region 4 with (first | ((with_reducible refine gate_dst (N := 8) rfl ?_); refine box_event rfl (N := 8) rfl (cs := #[.int .i64 0, .int .i64 0, .string (⟨#[]⟩ : ByteArray), .string (⟨#[]⟩ : ByteArray), .int .i64 0, .int .i64 0, .int .i64 0, .int .i64 0, .int .i64 0, .int .i64 0, .slice none 0 0]) (t := 80) BX ?_; intro aC hg w8 cK hb; have aB := am (cK); have cL := am (GH HB hg); have aI := cL; replace HB := bl (KL HB) hb; clear hb cK hg; have ⟨_, _, _, _, _, _, _, _, _, _, _, _⟩ := y11 w8 aB.out))
      (try simp only [Act.put, List.setIfInBounds_toArray, List.set_cons_zero, List.set_cons_succ])
      go_cut [41] (fun dU wc => ∃ (kq : Nat) (bZ : Bool), dU = .bool bZ ∧ Aside0 (impl_ascending_tunOf.j1 kq l0 a1 l0 (l0.length : Int) aA bZ = some r) ∧ Aside0 (kq ≤ k1) ∧ Aside0 (wc.heap[aC]? = some (.cells #[.int .i64 ((rd_T80 l0 aA).f0), .int .i64 ((rd_T80 l0 aA).f1), .string ((rd_T80 l0 aA).f2), .string ((rd_T80 l0 aA).f3), .int .i64 ((rd_T80 l0 aA).f4), .int .i64 ((rd_T80 l0 aA).f5), .int .i64 ((rd_T80 l0 aA).f6), .int .i64 ((rd_T80 l0 aA).f7), .int .i64 ((rd_T80 l0 aA).f8), .int .i64 ((rd_T80 l0 aA).f9.f0), (.slice aE ((rd_T80 l0 aA).f9.f1).length aF)] 80 (0, 0))) ∧ Aside0 (Below w.heap.size w wc))
      case first =>
       have H := cX.out
       clear cX
       replace H := bm H
       obtain ⟨cM, cN, H⟩ := H
       replace H : (if cM = true then (if ((rd_T80 l0 aA).f4) > a1 then (impl_ascending_tunOf.j1 k1 l0 a1 l0 (l0.length : Int) aA true) else (if aA > 0 then (if 0 ≤ (wrap64 (aA - 1)) then (if (wrap64 (aA - 1)) < (l0.length : Int) then ((impl_tunOf.f ((rd_T80 l0 (wrap64 (aA - 1))).f0) ((rd_T80 l0 (wrap64 (aA - 1))).f1) ((rd_T80 l0 (wrap64 (aA - 1))).f2) ((rd_T80 l0 (wrap64 (aA - 1))).f3) ((rd_T80 l0 (wrap64 (aA - 1))).f4) ((rd_T80 l0 (wrap64 (aA - 1))).f5) ((rd_T80 l0 (wrap64 (aA - 1))).f6) ((rd_T80 l0 (wrap64 (aA - 1))).f7) ((rd_T80 l0 (wrap64 (aA - 1))).f8) ((rd_T80 l0 (wrap64 (aA - 1))).f9.f0) ((rd_T80 l0 (wrap64 (aA - 1))).f9.f1)).bind fun bL => ((impl_tunOf.f ((rd_T80 l0 aA).f0) ((rd_T80 l0 aA).f1) ((rd_T80 l0 aA).f2) ((rd_T80 l0 aA).f3) ((rd_T80 l0 aA).f4) ((rd_T80 l0 aA).f5) ((rd_T80 l0 aA).f6) ((rd_T80 l0 aA).f7) ((rd_T80 l0 aA).f8) ((rd_T80 l0 aA).f9.f0) ((rd_T80 l0 aA).f9.f1)).bind fun bH => (impl_ascending_tunOf.j1 k1 l0 a1 l0 (l0.length : Int) aA (decide (bL ≥ bH))))) else (none)) else (none)) else (impl_ascending_tunOf.j1 k1 l0 a1 l0 (l0.length : Int) aA false))) else (impl_ascending_tunOf.j1 k1 l0 a1 l0 (l0.length : Int) aA true)) = some r := H
       have cO := Aside0.mk cN
       clear cN
       by_cases cP : cM = true
       ·subst cP
        have H1 := pf H
        clear H
        have H := H1
        clear H1
        by_cases cJ : ((rd_T80 l0 aA).f4) > a1
        ·rw [if_pos cJ] at H
         have c12b0 : decide (a1 < ((rd_T80 l0 aA).f4)) = true := decide_eq_true cJ
         clear cJ
         (first | rw [c12b0] | (simp only [i64_w, i32_w]; rw [c12b0]) | skip)
         have H' := Aside0.mk H
         clear H
         try go_wp2
         generalize hq_ : (((((((((((w8.setCell ⟨aC, 0, none⟩ (.int .i64 ((rd_T80 l0 aA).f0))).setCell ⟨aC, 1, none⟩ (.int .i64 ((rd_T80 l0 aA).f1))).setCell ⟨aC, 2, none⟩ (.string ((rd_T80 l0 aA).f2))).setCell ⟨aC, 3, none⟩ (.string ((rd_T80 l0 aA).f3))).setCell ⟨aC, 4, none⟩ (.int .i64 ((rd_T80 l0 aA).f4))).setCell ⟨aC, 5, none⟩ (.int .i64 ((rd_T80 l0 aA).f5))).setCell ⟨aC, 6, none⟩ (.int .i64 ((rd_T80 l0 aA).f6))).setCell ⟨aC, 7, none⟩ (.int .i64 ((rd_T80 l0 aA).f7))).setCell ⟨aC, 8, none⟩ (.int .i64 ((rd_T80 l0 aA).f8))).setCell ⟨aC, 9, none⟩ (.int .i64 ((rd_T80 l0 aA).f9.f0))).setCell ⟨aC, 10, none⟩ (.slice aE ((rd_T80 l0 aA).f9.f1).length aF)) = dK
         have n0_ : Aside0 (dK.heap[aC]? = some (.cells #[.int .i64 ((rd_T80 l0 aA).f0), .int .i64 ((rd_T80 l0 aA).f1), .string ((rd_T80 l0 aA).f2), .string ((rd_T80 l0 aA).f3), .int .i64 ((rd_T80 l0 aA).f4), .int .i64 ((rd_T80 l0 aA).f5), .int .i64 ((rd_T80 l0 aA).f6), .int .i64 ((rd_T80 l0 aA).f7), .int .i64 ((rd_T80 l0 aA).f8), .int .i64 ((rd_T80 l0 aA).f9.f0), .slice aE ((rd_T80 l0 aA).f9.f1).length aF] 80 (0, 0))) := ⟨by rw [← hq_]; exact P11 aB⟩
         have n1_ : Aside0 (Below w.heap.size w dK) := ⟨by rw [← hq_]; exact K1 HB aI.out⟩
         clear hq_
         (try clear aB)
         (try clear HB)
         have aB := n0_
         have HB := n1_
         clear n0_ n1_
         replace aB := am (blk_drew aB.out)
         replace HB := am (below_drew1 HB.out)
         refine start_ (n := 26) (S := fun w' => de11 w' aC (.int .i64 ((rd_T80 l0 aA).f0)) (.int .i64 ((rd_T80 l0 aA).f1)) (.string ((rd_T80 l0 aA).f2)) (.string ((rd_T80 l0 aA).f3)) (.int .i64 ((rd_T80 l0 aA).f4)) (.int .i64 ((rd_T80 l0 aA).f5)) (.int .i64 ((rd_T80 l0 aA).f6)) (.int .i64 ((rd_T80 l0 aA).f7)) (.int .i64 ((rd_T80 l0 aA).f8)) (.int .i64 ((rd_T80 l0 aA).f9.f0)) (.slice aE ((rd_T80 l0 aA).f9.f1).length aF)) (ds := []) (tf 0 26) (by kernel_rfl) rfl rfl ⟨z0 _ aB.out, z1 _ aB.out, z2 _ aB.out, z3 _ aB.out, z4 _ aB.out, z5 _ aB.out, z6 _ aB.out, z7 _ aB.out, z8 _ aB.out, z9 _ aB.out, z10 _ aB.out⟩ (fun aH => ?_); refine with_tabW impl_ascending_tunOf.tab4 impl_ascending_tunOf.bits4 (fun aD cC => ?_)
         generalize dK.drew = dY at aB HB aH ⊢
         refine tk 0 (some 16) (tf 1 25) (take_ofW aD.out cC.out (by kernel_rfl)) aH ?_
         refine one_ (i := 1) (N := some 17) (tf 2 24) rfl rfl (one_of aD.out (by kernel_rfl)) (by decide) (fun K hK => ?_)
         refine goes_ Tryz.func63 (by kernel_rfl) rfl #[.agg #[.int .i64 ((rd_T80 l0 aA).f0), .int .i64 ((rd_T80 l0 aA).f1), .string ((rd_T80 l0 aA).f2), .string ((rd_T80 l0 aA).f3), .int .i64 ((rd_T80 l0 aA).f4), .int .i64 ((rd_T80 l0 aA).f5), .int .i64 ((rd_T80 l0 aA).f6), .int .i64 ((rd_T80 l0 aA).f7), .int .i64 ((rd_T80 l0 aA).f8), .int .i64 ((rd_T80 l0 aA).f9.f0), .slice aE ((rd_T80 l0 aA).f9.f1).length aF]] (by rfl) rfl rfl MT ?_
         with_reducible refine (impl_SaOk.calls k1 ((rd_T80 l0 aA).f0) ((rd_T80 l0 aA).f1) ((rd_T80 l0 aA).f2) ((rd_T80 l0 aA).f3) ((rd_T80 l0 aA).f4) ((rd_T80 l0 aA).f5) ((rd_T80 l0 aA).f6) ((rd_T80 l0 aA).f7) ((rd_T80 l0 aA).f8) ((rd_T80 l0 aA).f9.f0) _ _ ((rd_T80 l0 aA).f9.f1) true _ ?_ ?_ cO.out).mono ?_
         exact KD aJ HB
         exact aK.out
         rintro e dZ ⟨rfl, hb⟩
         refine ⟨_, rfl, ?_⟩
         replace aB := am (BB aB hb)
         replace HB := bl (K1 HB aI.out) hb
         (try clear hb)
         (try clear hb2)
         (try clear hk)
         (try clear hi)
         refine hK.out _ _ ⟨z0 _ aB.out, z1 _ aB.out, z2 _ aB.out, z3 _ aB.out, z4 _ aB.out, z5 _ aB.out, z6 _ aB.out, z7 _ aB.out, z8 _ aB.out, z9 _ aB.out, z10 _ aB.out⟩ (fun aH => ?_)
         clear hK K
         refine nm (some 17) ?_
         refine pv aD 2 18 (tf 3 23) ?_
         refine pv aD 3 19 (tf 4 22) ?_
         refine pv aD 4 20 (tf 5 21) ?_
         refine pv aD 6 22 (tr [5, 1, 1, 19]) ?_
         refine tk 5 (some 21) (tf 7 19) (take_ofW aD.out cC.out (by kernel_rfl)) aH ?_
         refine pv aD 7 23 (tf 8 18) ?_
         refine pv aD 8 24 (tf 9 17) ?_
         refine pv aD 9 25 (tf 10 16) ?_
         refine pw aD 10 26 (tf 11 15) ?_
         refine pw aD 11 27 (tf 12 14) ?_
         refine pw aD 12 28 (tf 13 13) ?_
         refine pw aD 13 29 (tf 14 12) ?_
         refine pw aD 14 30 (tf 15 11) ?_
         refine pw aD 15 31 (tf 16 10) ?_
         refine pw aD 16 32 (tf 17 9) ?_
         refine pw aD 17 33 (tf 18 8) ?_
         refine pw aD 18 34 (tf 19 7) ?_
         refine pw aD 19 35 (tf 20 6) ?_
         refine pw aD 20 36 (tf 21 5) ?_
         refine pw aD 21 37 (tf 22 4) ?_
         refine pw aD 22 38 (tf 23 3) ?_
         refine pw aD 23 39 (tf 24 2) ?_
         refine pw aD 24 40 (tf 25 1) ?_
         refine pv aD 25 41 (tf 26 0) ?_
         refine done_ (done_of aD.out (by kernel_rfl)) ?_
         try go_wp2
         go_meet
         case rel => exact ⟨_, (true), (by first | rfl | (simp; done) | (simp [*]; done)), H', ⟨by have := HK1.out; first | omega | exact Nat.le_refl _⟩, ⟨KB aB⟩, ⟨K1 HB aI.out⟩⟩
        ·rw [if_neg cJ] at H
         have c12b0 : decide (a1 < ((rd_T80 l0 aA).f4)) = false := decide_eq_false cJ
         clear cJ
         (first | rw [c12b0] | (simp only [i64_w, i32_w]; rw [c12b0]) | skip)
         by_cases cG : aA > 0
         ·rw [if_pos cG] at H
          have c16b0 : decide (0 < aA) = true := decide_eq_true cG
          clear cG
          obtain ⟨ji17, hji17⟩ : ∃ j_ : Int, (wrap64 (aA - 1)) = j_ := ⟨_, rfl⟩
          replace H : (if 0 ≤ (ji17) then (if (ji17) < (l0.length : Int) then ((impl_tunOf.f ((rd_T80 l0 (ji17)).f0) ((rd_T80 l0 (ji17)).f1) ((rd_T80 l0 (ji17)).f2) ((rd_T80 l0 (ji17)).f3) ((rd_T80 l0 (ji17)).f4) ((rd_T80 l0 (ji17)).f5) ((rd_T80 l0 (ji17)).f6) ((rd_T80 l0 (ji17)).f7) ((rd_T80 l0 (ji17)).f8) ((rd_T80 l0 (ji17)).f9.f0) ((rd_T80 l0 (ji17)).f9.f1)).bind fun bL => ((impl_tunOf.f ((rd_T80 l0 aA).f0) ((rd_T80 l0 aA).f1) ((rd_T80 l0 aA).f2) ((rd_T80 l0 aA).f3) ((rd_T80 l0 aA).f4) ((rd_T80 l0 aA).f5) ((rd_T80 l0 aA).f6) ((rd_T80 l0 aA).f7) ((rd_T80 l0 aA).f8) ((rd_T80 l0 aA).f9.f0) ((rd_T80 l0 aA).f9.f1)).bind fun bH => (impl_ascending_tunOf.j1 k1 l0 a1 l0 (l0.length : Int) aA (decide (bL ≥ bH))))) else (none)) else (none)) = some r := by first | (rw [hji17] at H; exact H) | (simp only [hji17] at H ⊢; exact H)
          (try rw [hji17] at cO)
          have hji17w : (IntKind.i64.wrap (aA - 1)) = ji17 := (i64_w _).trans hji17
          by_cases cQ : 0 ≤ (ji17)
          ·rw [if_pos cQ] at H
           have c18b0 : decide (0 ≤ (ji17)) = true := decide_eq_true cQ
           clear cQ
           by_cases cR : (ji17) < (l0.length : Int)
           ·rw [if_pos cR] at H
            have c19b0 : decide ((ji17) < (l0.length : Int)) = true := decide_eq_true cR
            clear cR
            replace H := bm H
            obtain ⟨bL, cS, H⟩ := H
            replace H : ((impl_tunOf.f ((rd_T80 l0 aA).f0) ((rd_T80 l0 aA).f1) ((rd_T80 l0 aA).f2) ((rd_T80 l0 aA).f3) ((rd_T80 l0 aA).f4) ((rd_T80 l0 aA).f5) ((rd_T80 l0 aA).f6) ((rd_T80 l0 aA).f7) ((rd_T80 l0 aA).f8) ((rd_T80 l0 aA).f9.f0) ((rd_T80 l0 aA).f9.f1)).bind fun bH => (impl_ascending_tunOf.j1 k1 l0 a1 l0 (l0.length : Int) aA (decide (bL ≥ bH)))) = some r := H
            have dV := Aside0.mk cS
            clear cS
            replace H := bm H
            obtain ⟨bH, cT, H⟩ := H
            replace H : (impl_ascending_tunOf.j1 k1 l0 a1 l0 (l0.length : Int) aA (decide (bL ≥ bH))) = some r := H
            have dW := Aside0.mk cT
            clear cT
            have H' := Aside0.mk H
            clear H
            try go_wp2
            generalize hq_ : (((((((((((w8.setCell ⟨aC, 0, none⟩ (.int .i64 ((rd_T80 l0 aA).f0))).setCell ⟨aC, 1, none⟩ (.int .i64 ((rd_T80 l0 aA).f1))).setCell ⟨aC, 2, none⟩ (.string ((rd_T80 l0 aA).f2))).setCell ⟨aC, 3, none⟩ (.string ((rd_T80 l0 aA).f3))).setCell ⟨aC, 4, none⟩ (.int .i64 ((rd_T80 l0 aA).f4))).setCell ⟨aC, 5, none⟩ (.int .i64 ((rd_T80 l0 aA).f5))).setCell ⟨aC, 6, none⟩ (.int .i64 ((rd_T80 l0 aA).f6))).setCell ⟨aC, 7, none⟩ (.int .i64 ((rd_T80 l0 aA).f7))).setCell ⟨aC, 8, none⟩ (.int .i64 ((rd_T80 l0 aA).f8))).setCell ⟨aC, 9, none⟩ (.int .i64 ((rd_T80 l0 aA).f9.f0))).setCell ⟨aC, 10, none⟩ (.slice aE ((rd_T80 l0 aA).f9.f1).length aF)) = dL
            have n0_ : Aside0 (dL.heap[aC]? = some (.cells #[.int .i64 ((rd_T80 l0 aA).f0), .int .i64 ((rd_T80 l0 aA).f1), .string ((rd_T80 l0 aA).f2), .string ((rd_T80 l0 aA).f3), .int .i64 ((rd_T80 l0 aA).f4), .int .i64 ((rd_T80 l0 aA).f5), .int .i64 ((rd_T80 l0 aA).f6), .int .i64 ((rd_T80 l0 aA).f7), .int .i64 ((rd_T80 l0 aA).f8), .int .i64 ((rd_T80 l0 aA).f9.f0), .slice aE ((rd_T80 l0 aA).f9.f1).length aF] 80 (0, 0))) := ⟨by rw [← hq_]; exact P11 aB⟩
            have n1_ : Aside0 (Below w.heap.size w dL) := ⟨by rw [← hq_]; exact K1 HB aI.out⟩
            clear hq_
            (try clear aB)
            (try clear HB)
            have aB := n0_
            have HB := n1_
            clear n0_ n1_
            replace aB := am (blk_drew aB.out)
            replace HB := am (below_drew1 HB.out)
            have cH : 0 ≤ ((ji17) : Int) := OD
            have cI : (ji17) < (l0.length : Int) := OD
            obtain ⟨cU, cA, cB, dM, aN, aO, aP, aQ, aR, aS, aT, aU, aV, aW, aL, bM, bN⟩ := at_T80 dR.out (ji17) cH cI
            have aM := aL
            have aX := aW
            have aY := aV
            have aZ := aU
            have bA := aT
            have bB := aS
            have bC := aR
            have bD := aQ
            have bE := aP
            have bF := aO
            have bG := aN
            obtain rfl : aG = cU := (by injection dM)
            replace aN := CX HB.out aN
            replace aO := CX HB.out aO
            replace aP := CX HB.out aP
            replace aQ := CX HB.out aQ
            replace aR := CX HB.out aR
            replace aS := CX HB.out aS
            replace aT := CX HB.out aT
            replace aU := CX HB.out aU
            replace aV := CX HB.out aV
            replace aW := CX HB.out aW
            replace aL := CX HB.out aL
            have bO := Aside0.mk bN
            have cD := Aside0.mk bM
            clear bN bM
            replace cH := eq_true cH
            replace cI := eq_true cI
            refine start_ (n := 26) (S := fun w' => ce11 w' aC (.int .i64 ((rd_T80 l0 aA).f0)) (.int .i64 ((rd_T80 l0 aA).f1)) (.string ((rd_T80 l0 aA).f2)) (.string ((rd_T80 l0 aA).f3)) (.int .i64 ((rd_T80 l0 aA).f4)) (.int .i64 ((rd_T80 l0 aA).f5)) (.int .i64 ((rd_T80 l0 aA).f6)) (.int .i64 ((rd_T80 l0 aA).f7)) (.int .i64 ((rd_T80 l0 aA).f8)) (.int .i64 ((rd_T80 l0 aA).f9.f0)) (.slice aE ((rd_T80 l0 aA).f9.f1).length aF) (w'.cell? (aG.add (((ji17)).toNat * 11)) = some (.int .i64 ((rd_T80 l0 (ji17)).f0)) ∧ w'.cell? ⟨(aG.add (((ji17)).toNat * 11)).block, (aG.add (((ji17)).toNat * 11)).off + 1, none⟩ = some (.int .i64 ((rd_T80 l0 (ji17)).f1)) ∧ w'.cell? ⟨(aG.add (((ji17)).toNat * 11)).block, (aG.add (((ji17)).toNat * 11)).off + 2, none⟩ = some (.string ((rd_T80 l0 (ji17)).f2)) ∧ w'.cell? ⟨(aG.add (((ji17)).toNat * 11)).block, (aG.add (((ji17)).toNat * 11)).off + 3, none⟩ = some (.string ((rd_T80 l0 (ji17)).f3)) ∧ w'.cell? ⟨(aG.add (((ji17)).toNat * 11)).block, (aG.add (((ji17)).toNat * 11)).off + 4, none⟩ = some (.int .i64 ((rd_T80 l0 (ji17)).f4)) ∧ w'.cell? ⟨(aG.add (((ji17)).toNat * 11)).block, (aG.add (((ji17)).toNat * 11)).off + 5, none⟩ = some (.int .i64 ((rd_T80 l0 (ji17)).f5)) ∧ w'.cell? ⟨(aG.add (((ji17)).toNat * 11)).block, (aG.add (((ji17)).toNat * 11)).off + 6, none⟩ = some (.int .i64 ((rd_T80 l0 (ji17)).f6)) ∧ w'.cell? ⟨(aG.add (((ji17)).toNat * 11)).block, (aG.add (((ji17)).toNat * 11)).off + 7, none⟩ = some (.int .i64 ((rd_T80 l0 (ji17)).f7)) ∧ w'.cell? ⟨(aG.add (((ji17)).toNat * 11)).block, (aG.add (((ji17)).toNat * 11)).off + 8, none⟩ = some (.int .i64 ((rd_T80 l0 (ji17)).f8)) ∧ w'.cell? ⟨(aG.add (((ji17)).toNat * 11)).block, (aG.add (((ji17)).toNat * 11)).off + 9, none⟩ = some (.int .i64 ((rd_T80 l0 (ji17)).f9.f0)) ∧ w'.cell? ⟨(aG.add (((ji17)).toNat * 11)).block, (aG.add (((ji17)).toNat * 11)).off + 10, none⟩ = some (.slice cA ((rd_T80 l0 (ji17)).f9.f1).length cB))) (ds := []) (tf 0 26) (by kernel_rfl) rfl rfl ⟨z0 _ aB.out, z1 _ aB.out, z2 _ aB.out, z3 _ aB.out, z4 _ aB.out, z5 _ aB.out, z6 _ aB.out, z7 _ aB.out, z8 _ aB.out, z9 _ aB.out, z10 _ aB.out, (CY HB.out bG), (CY HB.out bF), (CY HB.out bE), (CY HB.out bD), (CY HB.out bC), (CY HB.out bB), (CY HB.out bA), (CY HB.out aZ), (CY HB.out aY), (CY HB.out aX), (CY HB.out aM)⟩ (fun aH => ?_); refine with_tabW impl_ascending_tunOf.tab4 impl_ascending_tunOf.bits4 (fun aD cC => ?_)
            generalize dL.drew = eA at aB HB bO aN aO aL aP aQ aR aS aT aU aV aW aH ⊢
            refine tk 0 (some 16) (tf 1 25) (take_ofW aD.out cC.out (by kernel_rfl)) aH ?_
            refine one_ (i := 1) (N := some 17) (tf 2 24) rfl rfl (one_of aD.out (by kernel_rfl)) (by decide) (fun K hK => ?_)
            refine goes_ Tryz.func63 (by kernel_rfl) rfl #[.agg #[.int .i64 ((rd_T80 l0 aA).f0), .int .i64 ((rd_T80 l0 aA).f1), .string ((rd_T80 l0 aA).f2), .string ((rd_T80 l0 aA).f3), .int .i64 ((rd_T80 l0 aA).f4), .int .i64 ((rd_T80 l0 aA).f5), .int .i64 ((rd_T80 l0 aA).f6), .int .i64 ((rd_T80 l0 aA).f7), .int .i64 ((rd_T80 l0 aA).f8), .int .i64 ((rd_T80 l0 aA).f9.f0), .slice aE ((rd_T80 l0 aA).f9.f1).length aF]] (by rfl) rfl rfl MT ?_
            with_reducible refine (impl_SaOk.calls k1 ((rd_T80 l0 aA).f0) ((rd_T80 l0 aA).f1) ((rd_T80 l0 aA).f2) ((rd_T80 l0 aA).f3) ((rd_T80 l0 aA).f4) ((rd_T80 l0 aA).f5) ((rd_T80 l0 aA).f6) ((rd_T80 l0 aA).f7) ((rd_T80 l0 aA).f8) ((rd_T80 l0 aA).f9.f0) _ _ ((rd_T80 l0 aA).f9.f1) true _ ?_ ?_ cO.out).mono ?_
            exact KD aJ HB
            exact aK.out
            rintro e eB ⟨rfl, hb⟩
            refine ⟨_, rfl, ?_⟩
            replace aB := am (BB aB hb)
            replace HB := bl (K1 HB aI.out) hb
            (try clear hb)
            (try clear hb2)
            (try clear hk)
            (try clear hi)
            refine hK.out _ _ ⟨z0 _ aB.out, z1 _ aB.out, z2 _ aB.out, z3 _ aB.out, z4 _ aB.out, z5 _ aB.out, z6 _ aB.out, z7 _ aB.out, z8 _ aB.out, z9 _ aB.out, z10 _ aB.out, (CY HB.out bG), (CY HB.out bF), (CY HB.out bE), (CY HB.out bD), (CY HB.out bC), (CY HB.out bB), (CY HB.out bA), (CY HB.out aZ), (CY HB.out aY), (CY HB.out aX), (CY HB.out aM)⟩ (fun aH => ?_)
            clear hK K
            refine nm (some 17) ?_
            refine pv aD 2 18 (tf 3 23) ?_
            refine pv aD 3 19 (tf 4 22) ?_
            refine pv aD 4 20 (tf 5 21) ?_
            refine pv aD 6 22 (tr [5, 1, 1, 19]) ?_
            refine tk 5 (some 21) (tf 7 19) (take_ofW aD.out cC.out (by kernel_rfl)) aH ?_
            refine pv aD 7 23 (tf 8 18) ?_
            refine pv aD 8 24 (tf 9 17) ?_
            refine pv aD 9 25 (tf 10 16) ?_
            refine pv aD 10 26 (tf 11 15) ?_
            refine pv aD 11 27 (tf 12 14) ?_
            refine pv aD 12 28 (tf 13 13) ?_
            refine pv aD 13 29 (tf 14 12) ?_
            refine pv aD 14 30 (tf 15 11) ?_
            refine pv aD 15 31 (tf 16 10) ?_
            refine pv aD 16 32 (tf 17 9) ?_
            refine pv aD 17 33 (tf 18 8) ?_
            refine pv aD 20 36 (tr [18, 2, 1, 5]) ?_
            refine tk 18 (some 34) (tr [19, 1, 1, 5]) (take_ofW aD.out cC.out (by kernel_rfl)) aH ?_
            refine tk 21 (some 37) (tr [19, 1, 2, 4]) (take_ofW aD.out cC.out (by kernel_rfl)) aH ?_
            refine one_ (i := 19) (N := some 35) (tf 22 4) rfl rfl (one_of aD.out (by kernel_rfl)) (by decide) (fun K hK => ?_)
            refine goesW_ Tryz.func38 (by kernel_rfl) rfl #[.agg #[.int .i64 ((rd_T80 l0 (ji17)).f0), .int .i64 ((rd_T80 l0 (ji17)).f1), .string ((rd_T80 l0 (ji17)).f2), .string ((rd_T80 l0 (ji17)).f3), .int .i64 ((rd_T80 l0 (ji17)).f4), .int .i64 ((rd_T80 l0 (ji17)).f5), .int .i64 ((rd_T80 l0 (ji17)).f6), .int .i64 ((rd_T80 l0 (ji17)).f7), .int .i64 ((rd_T80 l0 (ji17)).f8), .int .i64 ((rd_T80 l0 (ji17)).f9.f0), .slice cA ((rd_T80 l0 (ji17)).f9.f1).length cB]] (by rfl) rfl rfl (by first | rfl | (simp [Act.eval, Act.put]; done)) (by (try simp only [List.map_toArray, List.map_cons, List.map_nil]); first | done | (simp only [hji17]; rfl) | rfl | (simp only [List.length_drop, List.length_take]; rfl)) ?_
            with_reducible refine (impl_tunOf.calls ((rd_T80 l0 (ji17)).f0) ((rd_T80 l0 (ji17)).f1) ((rd_T80 l0 (ji17)).f2) ((rd_T80 l0 (ji17)).f3) ((rd_T80 l0 (ji17)).f4) ((rd_T80 l0 (ji17)).f5) ((rd_T80 l0 (ji17)).f6) ((rd_T80 l0 (ji17)).f7) ((rd_T80 l0 (ji17)).f8) ((rd_T80 l0 (ji17)).f9.f0) _ _ ((rd_T80 l0 (ji17)).f9.f1) bL _ ?_ ?_ dV.out).mono ?_
            exact KD bO HB
            exact cD.out
            rintro e eC ⟨rfl, hb⟩
            refine ⟨_, rfl, ?_⟩
            replace aB := am (BB aB hb)
            replace HB := bl (K1 HB aI.out) hb
            (try clear hb)
            (try clear hb2)
            (try clear hk)
            (try clear hi)
            refine hK.out _ _ ⟨z0 _ aB.out, z1 _ aB.out, z2 _ aB.out, z3 _ aB.out, z4 _ aB.out, z5 _ aB.out, z6 _ aB.out, z7 _ aB.out, z8 _ aB.out, z9 _ aB.out, z10 _ aB.out, (CY HB.out bG), (CY HB.out bF), (CY HB.out bE), (CY HB.out bD), (CY HB.out bC), (CY HB.out bB), (CY HB.out bA), (CY HB.out aZ), (CY HB.out aY), (CY HB.out aX), (CY HB.out aM)⟩ (fun aH => ?_)
            clear hK K
            refine nm (some 35) ?_
            refine one_ (i := 22) (N := some 38) (tf 23 3) rfl rfl (one_of aD.out (by kernel_rfl)) (by decide) (fun K hK => ?_)
            refine goesW_ Tryz.func38 (by kernel_rfl) rfl #[.agg #[.int .i64 ((rd_T80 l0 aA).f0), .int .i64 ((rd_T80 l0 aA).f1), .string ((rd_T80 l0 aA).f2), .string ((rd_T80 l0 aA).f3), .int .i64 ((rd_T80 l0 aA).f4), .int .i64 ((rd_T80 l0 aA).f5), .int .i64 ((rd_T80 l0 aA).f6), .int .i64 ((rd_T80 l0 aA).f7), .int .i64 ((rd_T80 l0 aA).f8), .int .i64 ((rd_T80 l0 aA).f9.f0), .slice aE ((rd_T80 l0 aA).f9.f1).length aF]] (by rfl) rfl rfl (by first | rfl | (simp [Act.eval, Act.put]; done)) MT ?_
            with_reducible refine (impl_tunOf.calls ((rd_T80 l0 aA).f0) ((rd_T80 l0 aA).f1) ((rd_T80 l0 aA).f2) ((rd_T80 l0 aA).f3) ((rd_T80 l0 aA).f4) ((rd_T80 l0 aA).f5) ((rd_T80 l0 aA).f6) ((rd_T80 l0 aA).f7) ((rd_T80 l0 aA).f8) ((rd_T80 l0 aA).f9.f0) _ _ ((rd_T80 l0 aA).f9.f1) bH _ ?_ ?_ dW.out).mono ?_
            exact KD aJ HB
            exact aK.out
            rintro e eD ⟨rfl, hb⟩
            refine ⟨_, rfl, ?_⟩
            replace aB := am (BB aB hb)
            replace HB := bl (K1 HB aI.out) hb
            (try clear hb)
            (try clear hb2)
            (try clear hk)
            (try clear hi)
            refine hK.out _ _ ⟨z0 _ aB.out, z1 _ aB.out, z2 _ aB.out, z3 _ aB.out, z4 _ aB.out, z5 _ aB.out, z6 _ aB.out, z7 _ aB.out, z8 _ aB.out, z9 _ aB.out, z10 _ aB.out, (CY HB.out bG), (CY HB.out bF), (CY HB.out bE), (CY HB.out bD), (CY HB.out bC), (CY HB.out bB), (CY HB.out bA), (CY HB.out aZ), (CY HB.out aY), (CY HB.out aX), (CY HB.out aM)⟩ (fun aH => ?_)
            clear hK K
            refine nm (some 38) ?_
            refine pv aD 23 39 (tf 24 2) ?_
            refine pv aD 24 40 (tf 25 1) ?_
            refine pv aD 25 41 (tf 26 0) ?_
            refine done_ (done_of aD.out (by kernel_rfl)) ?_
            try go_wp2
            go_meet
            case rel => exact ⟨_, (decide (bL ≥ bH)), (by first | rfl | (simp; done) | (simp [*]; done)), H', ⟨by have := HK1.out; first | omega | exact Nat.le_refl _⟩, ⟨KB aB⟩, ⟨K1 HB aI.out⟩⟩
           ·rw [if_neg cR] at H
            exact absurd H (by simp)
          ·rw [if_neg cQ] at H
           exact absurd H (by simp)
         ·rw [if_neg cG] at H
          have c16b0 : decide (0 < aA) = false := decide_eq_false cG
          clear cG
          have H' := Aside0.mk H
          clear H
          try go_wp2
          generalize hq_ : (((((((((((w8.setCell ⟨aC, 0, none⟩ (.int .i64 ((rd_T80 l0 aA).f0))).setCell ⟨aC, 1, none⟩ (.int .i64 ((rd_T80 l0 aA).f1))).setCell ⟨aC, 2, none⟩ (.string ((rd_T80 l0 aA).f2))).setCell ⟨aC, 3, none⟩ (.string ((rd_T80 l0 aA).f3))).setCell ⟨aC, 4, none⟩ (.int .i64 ((rd_T80 l0 aA).f4))).setCell ⟨aC, 5, none⟩ (.int .i64 ((rd_T80 l0 aA).f5))).setCell ⟨aC, 6, none⟩ (.int .i64 ((rd_T80 l0 aA).f6))).setCell ⟨aC, 7, none⟩ (.int .i64 ((rd_T80 l0 aA).f7))).setCell ⟨aC, 8, none⟩ (.int .i64 ((rd_T80 l0 aA).f8))).setCell ⟨aC, 9, none⟩ (.int .i64 ((rd_T80 l0 aA).f9.f0))).setCell ⟨aC, 10, none⟩ (.slice aE ((rd_T80 l0 aA).f9.f1).length aF)) = dN
          have n0_ : Aside0 (dN.heap[aC]? = some (.cells #[.int .i64 ((rd_T80 l0 aA).f0), .int .i64 ((rd_T80 l0 aA).f1), .string ((rd_T80 l0 aA).f2), .string ((rd_T80 l0 aA).f3), .int .i64 ((rd_T80 l0 aA).f4), .int .i64 ((rd_T80 l0 aA).f5), .int .i64 ((rd_T80 l0 aA).f6), .int .i64 ((rd_T80 l0 aA).f7), .int .i64 ((rd_T80 l0 aA).f8), .int .i64 ((rd_T80 l0 aA).f9.f0), .slice aE ((rd_T80 l0 aA).f9.f1).length aF] 80 (0, 0))) := ⟨by rw [← hq_]; exact P11 aB⟩
          have n1_ : Aside0 (Below w.heap.size w dN) := ⟨by rw [← hq_]; exact K1 HB aI.out⟩
          clear hq_
          (try clear aB)
          (try clear HB)
          have aB := n0_
          have HB := n1_
          clear n0_ n1_
          replace aB := am (blk_drew aB.out)
          replace HB := am (below_drew1 HB.out)
          refine start_ (n := 26) (S := fun w' => de11 w' aC (.int .i64 ((rd_T80 l0 aA).f0)) (.int .i64 ((rd_T80 l0 aA).f1)) (.string ((rd_T80 l0 aA).f2)) (.string ((rd_T80 l0 aA).f3)) (.int .i64 ((rd_T80 l0 aA).f4)) (.int .i64 ((rd_T80 l0 aA).f5)) (.int .i64 ((rd_T80 l0 aA).f6)) (.int .i64 ((rd_T80 l0 aA).f7)) (.int .i64 ((rd_T80 l0 aA).f8)) (.int .i64 ((rd_T80 l0 aA).f9.f0)) (.slice aE ((rd_T80 l0 aA).f9.f1).length aF)) (ds := []) (tf 0 26) (by kernel_rfl) rfl rfl ⟨z0 _ aB.out, z1 _ aB.out, z2 _ aB.out, z3 _ aB.out, z4 _ aB.out, z5 _ aB.out, z6 _ aB.out, z7 _ aB.out, z8 _ aB.out, z9 _ aB.out, z10 _ aB.out⟩ (fun aH => ?_); refine with_tabW impl_ascending_tunOf.tab4 impl_ascending_tunOf.bits4 (fun aD cC => ?_)
          generalize dN.drew = eE at aB HB aH ⊢
          refine tk 0 (some 16) (tf 1 25) (take_ofW aD.out cC.out (by kernel_rfl)) aH ?_
          refine one_ (i := 1) (N := some 17) (tf 2 24) rfl rfl (one_of aD.out (by kernel_rfl)) (by decide) (fun K hK => ?_)
          refine goes_ Tryz.func63 (by kernel_rfl) rfl #[.agg #[.int .i64 ((rd_T80 l0 aA).f0), .int .i64 ((rd_T80 l0 aA).f1), .string ((rd_T80 l0 aA).f2), .string ((rd_T80 l0 aA).f3), .int .i64 ((rd_T80 l0 aA).f4), .int .i64 ((rd_T80 l0 aA).f5), .int .i64 ((rd_T80 l0 aA).f6), .int .i64 ((rd_T80 l0 aA).f7), .int .i64 ((rd_T80 l0 aA).f8), .int .i64 ((rd_T80 l0 aA).f9.f0), .slice aE ((rd_T80 l0 aA).f9.f1).length aF]] (by rfl) rfl rfl MT ?_
          with_reducible refine (impl_SaOk.calls k1 ((rd_T80 l0 aA).f0) ((rd_T80 l0 aA).f1) ((rd_T80 l0 aA).f2) ((rd_T80 l0 aA).f3) ((rd_T80 l0 aA).f4) ((rd_T80 l0 aA).f5) ((rd_T80 l0 aA).f6) ((rd_T80 l0 aA).f7) ((rd_T80 l0 aA).f8) ((rd_T80 l0 aA).f9.f0) _ _ ((rd_T80 l0 aA).f9.f1) true _ ?_ ?_ cO.out).mono ?_
          exact KD aJ HB
          exact aK.out
          rintro e eF ⟨rfl, hb⟩
          refine ⟨_, rfl, ?_⟩
          replace aB := am (BB aB hb)
          replace HB := bl (K1 HB aI.out) hb
          (try clear hb)
          (try clear hb2)
          (try clear hk)
          (try clear hi)
          refine hK.out _ _ ⟨z0 _ aB.out, z1 _ aB.out, z2 _ aB.out, z3 _ aB.out, z4 _ aB.out, z5 _ aB.out, z6 _ aB.out, z7 _ aB.out, z8 _ aB.out, z9 _ aB.out, z10 _ aB.out⟩ (fun aH => ?_)
          clear hK K
          refine nm (some 17) ?_
          refine pv aD 2 18 (tf 3 23) ?_
          refine pv aD 3 19 (tf 4 22) ?_
          refine pv aD 4 20 (tf 5 21) ?_
          refine pv aD 6 22 (tr [5, 1, 1, 19]) ?_
          refine tk 5 (some 21) (tf 7 19) (take_ofW aD.out cC.out (by kernel_rfl)) aH ?_
          refine pv aD 7 23 (tf 8 18) ?_
          refine pv aD 8 24 (tf 9 17) ?_
          refine pv aD 9 25 (tf 10 16) ?_
          refine pv aD 10 26 (tf 11 15) ?_
          refine pv aD 11 27 (tf 12 14) ?_
          refine pv aD 12 28 (tf 13 13) ?_
          refine pw aD 13 29 (tf 14 12) ?_
          refine pw aD 14 30 (tf 15 11) ?_
          refine pw aD 15 31 (tf 16 10) ?_
          refine pw aD 16 32 (tf 17 9) ?_
          refine pw aD 17 33 (tf 18 8) ?_
          refine pw aD 18 34 (tf 19 7) ?_
          refine pw aD 19 35 (tf 20 6) ?_
          refine pw aD 20 36 (tf 21 5) ?_
          refine pw aD 21 37 (tf 22 4) ?_
          refine pw aD 22 38 (tf 23 3) ?_
          refine pw aD 23 39 (tf 24 2) ?_
          refine pv aD 24 40 (tf 25 1) ?_
          refine pv aD 25 41 (tf 26 0) ?_
          refine done_ (done_of aD.out (by kernel_rfl)) ?_
          try go_wp2
          go_meet
          case rel => exact ⟨_, (false), (by first | rfl | (simp; done) | (simp [*]; done)), H', ⟨by have := HK1.out; first | omega | exact Nat.le_refl _⟩, ⟨KB aB⟩, ⟨K1 HB aI.out⟩⟩
       ·replace cP := Bool.eq_false_iff.mpr cP
        subst cP
        have H1 := nf H
        clear H
        have H := H1
        clear H1
        have H' := Aside0.mk H
        clear H
        try go_wp2
        generalize hq_ : (((((((((((w8.setCell ⟨aC, 0, none⟩ (.int .i64 ((rd_T80 l0 aA).f0))).setCell ⟨aC, 1, none⟩ (.int .i64 ((rd_T80 l0 aA).f1))).setCell ⟨aC, 2, none⟩ (.string ((rd_T80 l0 aA).f2))).setCell ⟨aC, 3, none⟩ (.string ((rd_T80 l0 aA).f3))).setCell ⟨aC, 4, none⟩ (.int .i64 ((rd_T80 l0 aA).f4))).setCell ⟨aC, 5, none⟩ (.int .i64 ((rd_T80 l0 aA).f5))).setCell ⟨aC, 6, none⟩ (.int .i64 ((rd_T80 l0 aA).f6))).setCell ⟨aC, 7, none⟩ (.int .i64 ((rd_T80 l0 aA).f7))).setCell ⟨aC, 8, none⟩ (.int .i64 ((rd_T80 l0 aA).f8))).setCell ⟨aC, 9, none⟩ (.int .i64 ((rd_T80 l0 aA).f9.f0))).setCell ⟨aC, 10, none⟩ (.slice aE ((rd_T80 l0 aA).f9.f1).length aF)) = dO
        have n0_ : Aside0 (dO.heap[aC]? = some (.cells #[.int .i64 ((rd_T80 l0 aA).f0), .int .i64 ((rd_T80 l0 aA).f1), .string ((rd_T80 l0 aA).f2), .string ((rd_T80 l0 aA).f3), .int .i64 ((rd_T80 l0 aA).f4), .int .i64 ((rd_T80 l0 aA).f5), .int .i64 ((rd_T80 l0 aA).f6), .int .i64 ((rd_T80 l0 aA).f7), .int .i64 ((rd_T80 l0 aA).f8), .int .i64 ((rd_T80 l0 aA).f9.f0), .slice aE ((rd_T80 l0 aA).f9.f1).length aF] 80 (0, 0))) := ⟨by rw [← hq_]; exact P11 aB⟩
        have n1_ : Aside0 (Below w.heap.size w dO) := ⟨by rw [← hq_]; exact K1 HB aI.out⟩
        clear hq_
        (try clear aB)
        (try clear HB)
        have aB := n0_
        have HB := n1_
        clear n0_ n1_
        replace aB := am (blk_drew aB.out)
        replace HB := am (below_drew1 HB.out)
        refine start_ (n := 26) (S := fun w' => de11 w' aC (.int .i64 ((rd_T80 l0 aA).f0)) (.int .i64 ((rd_T80 l0 aA).f1)) (.string ((rd_T80 l0 aA).f2)) (.string ((rd_T80 l0 aA).f3)) (.int .i64 ((rd_T80 l0 aA).f4)) (.int .i64 ((rd_T80 l0 aA).f5)) (.int .i64 ((rd_T80 l0 aA).f6)) (.int .i64 ((rd_T80 l0 aA).f7)) (.int .i64 ((rd_T80 l0 aA).f8)) (.int .i64 ((rd_T80 l0 aA).f9.f0)) (.slice aE ((rd_T80 l0 aA).f9.f1).length aF)) (ds := []) (tf 0 26) (by kernel_rfl) rfl rfl ⟨z0 _ aB.out, z1 _ aB.out, z2 _ aB.out, z3 _ aB.out, z4 _ aB.out, z5 _ aB.out, z6 _ aB.out, z7 _ aB.out, z8 _ aB.out, z9 _ aB.out, z10 _ aB.out⟩ (fun aH => ?_); refine with_tabW impl_ascending_tunOf.tab4 impl_ascending_tunOf.bits4 (fun aD cC => ?_)
        generalize dO.drew = eG at aB HB aH ⊢
        refine tk 0 (some 16) (tf 1 25) (take_ofW aD.out cC.out (by kernel_rfl)) aH ?_
        refine one_ (i := 1) (N := some 17) (tf 2 24) rfl rfl (one_of aD.out (by kernel_rfl)) (by decide) (fun K hK => ?_)
        refine goes_ Tryz.func63 (by kernel_rfl) rfl #[.agg #[.int .i64 ((rd_T80 l0 aA).f0), .int .i64 ((rd_T80 l0 aA).f1), .string ((rd_T80 l0 aA).f2), .string ((rd_T80 l0 aA).f3), .int .i64 ((rd_T80 l0 aA).f4), .int .i64 ((rd_T80 l0 aA).f5), .int .i64 ((rd_T80 l0 aA).f6), .int .i64 ((rd_T80 l0 aA).f7), .int .i64 ((rd_T80 l0 aA).f8), .int .i64 ((rd_T80 l0 aA).f9.f0), .slice aE ((rd_T80 l0 aA).f9.f1).length aF]] (by rfl) rfl rfl MT ?_
        with_reducible refine (impl_SaOk.calls k1 ((rd_T80 l0 aA).f0) ((rd_T80 l0 aA).f1) ((rd_T80 l0 aA).f2) ((rd_T80 l0 aA).f3) ((rd_T80 l0 aA).f4) ((rd_T80 l0 aA).f5) ((rd_T80 l0 aA).f6) ((rd_T80 l0 aA).f7) ((rd_T80 l0 aA).f8) ((rd_T80 l0 aA).f9.f0) _ _ ((rd_T80 l0 aA).f9.f1) false _ ?_ ?_ cO.out).mono ?_
        exact KD aJ HB
        exact aK.out
        rintro e eH ⟨rfl, hb⟩
        refine ⟨_, rfl, ?_⟩
        replace aB := am (BB aB hb)
        replace HB := bl (K1 HB aI.out) hb
        (try clear hb)
        (try clear hb2)
        (try clear hk)
        (try clear hi)
        refine hK.out _ _ ⟨z0 _ aB.out, z1 _ aB.out, z2 _ aB.out, z3 _ aB.out, z4 _ aB.out, z5 _ aB.out, z6 _ aB.out, z7 _ aB.out, z8 _ aB.out, z9 _ aB.out, z10 _ aB.out⟩ (fun aH => ?_)
        clear hK K
        refine nm (some 17) ?_
        refine pv aD 2 18 (tf 3 23) ?_
        refine pv aD 3 19 (tf 4 22) ?_
        refine pw aD 4 20 (tf 5 21) ?_
        refine pw aD 5 21 (tf 6 20) ?_
        refine pw aD 6 22 (tf 7 19) ?_
        refine pw aD 7 23 (tf 8 18) ?_
        refine pv aD 8 24 (tf 9 17) ?_
        refine pv aD 9 25 (tf 10 16) ?_
        refine pw aD 10 26 (tf 11 15) ?_
        refine pw aD 11 27 (tf 12 14) ?_
        refine pw aD 12 28 (tf 13 13) ?_
        refine pw aD 13 29 (tf 14 12) ?_
        refine pw aD 14 30 (tf 15 11) ?_
        refine pw aD 15 31 (tf 16 10) ?_
        refine pw aD 16 32 (tf 17 9) ?_
        refine pw aD 17 33 (tf 18 8) ?_
        refine pw aD 18 34 (tf 19 7) ?_
        refine pw aD 19 35 (tf 20 6) ?_
        refine pw aD 20 36 (tf 21 5) ?_
        refine pw aD 21 37 (tf 22 4) ?_
        refine pw aD 22 38 (tf 23 3) ?_
        refine pw aD 23 39 (tf 24 2) ?_
        refine pw aD 24 40 (tf 25 1) ?_
        refine pv aD 25 41 (tf 26 0) ?_
        refine done_ (done_of aD.out (by kernel_rfl)) ?_
        try go_wp2
        go_meet
        case rel => exact ⟨_, (true), (by first | rfl | (simp; done) | (simp [*]; done)), H', ⟨by have := HK1.out; first | omega | exact Nat.le_refl _⟩, ⟨KB aB⟩, ⟨K1 HB aI.out⟩⟩
      case rest =>
       clear cX
       try clear c1
       try clear p2
       try clear c3
       try clear c6
       try clear eI
       try clear cP
       try clear cG
       try clear c16b0
       try clear cQ
       try clear cR
       obtain ⟨kq, bZ, rfl, HA, HJ6, aB, HB⟩ := hcut
       cases kq with
       | zero => exact absurd HA.out (by simp [impl_ascending_tunOf.j1])
       | succ kj6 =>
        have H := HA.out
        clear HA
        simp only [impl_ascending_tunOf.j1] at H
        by_cases cW : bZ = true
        ·subst cW
         have H1 := pf H
         clear H
         have H := H1
         clear H1
         obtain rfl := sj H
         go_wp2
         go_ret
         exact ⟨ER, K1 HB aI.out⟩
        ·replace cW := Bool.eq_false_iff.mpr cW
         subst cW
         have H1 := nf H
         clear H
         have H := H1
         clear H1
         have H' := Aside0.mk H
         clear H
         go_wp2
         go_roundg kj6
         case measure => have := HK1.out; have := HJ6.out; omega
         case rel => exact ⟨(wrap64 (aA + 1)), (by first | rfl | (simp; done) | (simp [*]; done)), H', ⟨by have := HK1.out; have := HJ6.out; omega⟩, ⟨K1 HB aI.out⟩⟩
     ·rw [if_neg c6] at H
      exact absurd H (by simp)
    ·rw [if_neg c5] at H
     exact absurd H (by simp)
   ·rw [if_neg c4] at H
    have c4b0 : decide (aA < (l0.length : Int)) = false := decide_eq_false c4
    clear c4
    obtain rfl := sj H
    go_wp2
    go_ret
    exact ⟨ER, KL HB⟩
def impl_spiOf.f (a0_0 : Int) (a0_1 : Int) (a0_2 : ByteArray) (a0_3 : ByteArray) (a0_4 : Int) (a0_5 : Int) (a0_6 : Int) (a0_7 : Int) (a0_8 : Int) (a0_9 : Int) (l0_10 : List Int) : Option (Int) := some a0_0
theorem impl_spiOf.calls (aF : Int) (aG : Int) (aH : ByteArray) (aI : ByteArray) (aJ : Int) (aK : Int) (aL : Int) (aM : Int) (aN : Int) (aO : Int) (aB : Option Addr) (aC : Nat) (aA : List Int) (r : Int) (w : World) (aD : Kd.C (Kd.int .i64) w aB aA.length aA) (aE : aA.length ≤ aC) (h : impl_spiOf.f aF aG aH aI aJ aK aL aM aN aO aA = some r) :
  Calls Tryz.prog 39 #[.agg #[.int .i64 aF, .int .i64 aG, .string aH, .string aI, .int .i64 aJ, .int .i64 aK, .int .i64 aL, .int .i64 aM, .int .i64 aN, .int .i64 aO, .slice aB aA.length aC]] w fun e w' => e = .returned (.int .i64 r) ∧ Below w.heap.size w w' := by
 have bI := Tryz.underlying80
 have aU := Aside0.mk aD
 have aV := Aside0.mk aE
 clear aD aE
 have HB := am (Below.refl w.heap.size w)
 have H : (some aF) = some r := h
 clear h
 obtain rfl := sj H
 go_enter Tryz.func39, Tryz.ntmps39
 go_wp2_with (first | ((with_reducible refine gate_dst (N := 1) rfl ?_); refine box_event rfl (N := 1) rfl (cs := #[.int .i64 aF, .int .i64 aG, .string aH, .string aI, .int .i64 aJ, .int .i64 aK, .int .i64 aL, .int .i64 aM, .int .i64 aN, .int .i64 aO, .slice aB aA.length aC]) (t := 80) BX ?_; intro bH hg w2 aP hb; have aQ := am (aP); have aR := am (GH HB hg); have aS := aR; replace HB := bl (KL HB) hb; clear hb aP hg; have ⟨_, _, _, _, _, _, _, _, _, _, _, _⟩ := y11 w2 aQ.out))
 go_ret
 exact ⟨ER, K1 HB aS.out⟩
mutual
def impl_ascending_spiOf.l0 : Nat → List (S80) → Int → List (S80) → Int → Int → Option (Bool)
 | 0, _, _, _, _, _ => none
 | k + 1, x0, x1, x9, x10, x11 => if x11 < x10 then (if 0 ≤ x11 then (if x11 < (x9.length : Int) then ((impl_SaOk.f k ((rd_T80 x9 x11).f0) ((rd_T80 x9 x11).f1) ((rd_T80 x9 x11).f2) ((rd_T80 x9 x11).f3) ((rd_T80 x9 x11).f4) ((rd_T80 x9 x11).f5) ((rd_T80 x9 x11).f6) ((rd_T80 x9 x11).f7) ((rd_T80 x9 x11).f8) ((rd_T80 x9 x11).f9.f0) ((rd_T80 x9 x11).f9.f1)).bind fun t103 => (if t103 = true then (if ((rd_T80 x9 x11).f4) > x1 then (impl_ascending_spiOf.j1 k x0 x1 x9 x10 x11 true) else (if x11 > 0 then (if 0 ≤ (wrap64 (x11 - 1)) then (if (wrap64 (x11 - 1)) < (x0.length : Int) then ((impl_spiOf.f ((rd_T80 x0 (wrap64 (x11 - 1))).f0) ((rd_T80 x0 (wrap64 (x11 - 1))).f1) ((rd_T80 x0 (wrap64 (x11 - 1))).f2) ((rd_T80 x0 (wrap64 (x11 - 1))).f3) ((rd_T80 x0 (wrap64 (x11 - 1))).f4) ((rd_T80 x0 (wrap64 (x11 - 1))).f5) ((rd_T80 x0 (wrap64 (x11 - 1))).f6) ((rd_T80 x0 (wrap64 (x11 - 1))).f7) ((rd_T80 x0 (wrap64 (x11 - 1))).f8) ((rd_T80 x0 (wrap64 (x11 - 1))).f9.f0) ((rd_T80 x0 (wrap64 (x11 - 1))).f9.f1)).bind fun t105 => ((impl_spiOf.f ((rd_T80 x9 x11).f0) ((rd_T80 x9 x11).f1) ((rd_T80 x9 x11).f2) ((rd_T80 x9 x11).f3) ((rd_T80 x9 x11).f4) ((rd_T80 x9 x11).f5) ((rd_T80 x9 x11).f6) ((rd_T80 x9 x11).f7) ((rd_T80 x9 x11).f8) ((rd_T80 x9 x11).f9.f0) ((rd_T80 x9 x11).f9.f1)).bind fun t106 => (impl_ascending_spiOf.j1 k x0 x1 x9 x10 x11 (decide (t105 ≥ t106))))) else (none)) else (none)) else (impl_ascending_spiOf.j1 k x0 x1 x9 x10 x11 false))) else (impl_ascending_spiOf.j1 k x0 x1 x9 x10 x11 true))) else (none)) else (none)) else (some true)
def impl_ascending_spiOf.j1 : Nat → List (S80) → Int → List (S80) → Int → Int → Bool → Option (Bool)
 | 0, _, _, _, _, _, _ => none
 | k + 1, x0, x1, x9, x10, x11, x41 => if x41 = true then (some false) else (impl_ascending_spiOf.l0 k x0 x1 x9 x10 (wrap64 (x11 + 1)))
end
def impl_ascending_spiOf.f (k : Nat) (l0 : List (S80)) (a1 : Int)  : Option (Bool) := impl_ascending_spiOf.l0 k l0 a1 l0 (l0.length : Int) 0
def impl_ascending_spiOf.T4 : Bool × List (List Nat × List Nat) := (true, [([], []), ([0], [0]), ([1], [1]), ([2, 1], [2]), ([3], [3]), ([4, 3], [3, 4]), ([3], [3]), ([5, 6, 3], [3, 5, 6]), ([3, 7], [3, 7]), ([8, 3], [8]), ([9], [9]), ([10, 9], [9, 10]), ([11, 9, 9], [9, 11]), ([12], [12]), ([12], [12]), ([12], [12]), ([15, 12], [12, 15]), ([14, 16, 12], [12, 14, 16]), ([17, 12], [12, 17]), ([13, 18, 12, 12], [12, 13, 18]), ([12], [12]), ([12], [12]), ([20, 21, 19, 12], [12, 20, 21]), ([19, 22, 12], [12, 19, 22]), ([12, 23, 9], [9, 12, 23]), ([9, 24], [9, 24])])
def impl_ascending_spiOf.B4 : List Nat := [0, 1, 3, 7, 15, 31, 15, 127, 255, 511, 1023, 2047, 4095, 8191, 8191, 8191, 40959, 122879, 253951, 524287, 8191, 8191, 4194303, 8388607, 16777215, 33554431]
theorem impl_ascending_spiOf.tab4 : rtab .any (opsOf Tryz.f37 4) = impl_ascending_spiOf.T4 := by kernel_rfl
theorem impl_ascending_spiOf.bits4 : waitsOk impl_ascending_spiOf.T4.2 impl_ascending_spiOf.B4 = true := by kernel_rfl
theorem impl_ascending_spiOf.calls (k : Nat) (A0 : Option Addr) (c0 : Nat) (l0 : List (S80)) (a1 : Int)  (r : Bool) (w : World) (dP : Kd.C k80 w A0 l0.length l0) (dQ : l0.length ≤ c0) (h : impl_ascending_spiOf.f k l0 a1 = some r) :
  Calls Tryz.prog 37 #[.slice A0 l0.length c0, .int .i64 a1, .func (.func 39) #[] #[]] w fun e w' => e = .returned (.bool r) ∧ Below w.heap.size w w' := by
 have dS := Tryz.underlying80
 have dR := Aside0.mk dP
 have dX := Aside0.mk dQ
 clear dP dQ
 have HB := am (Below.refl w.heap.size w)
 have H : (impl_ascending_spiOf.l0 k l0 a1 l0 (l0.length : Int) 0) = some r := h
 clear h
 have H' := Aside0.mk H
 clear H
 go_enter Tryz.func37, Tryz.ntmps37
 go_wp2
 go_loopg [11] k (fun kq dT w' => ∃ (aA : Int), dT = .int .i64 aA ∧ Aside0 (impl_ascending_spiOf.l0 kq l0 a1 l0 (l0.length : Int) aA = some r) ∧ Aside0 (kq ≤ k) ∧ Aside0 (Below w.heap.size w w'))
 case atStart => exact ⟨(0), (by first | rfl | (simp; done) | (simp [*]; done)), H', ⟨Nat.le_refl _⟩, ⟨KL HB⟩⟩
 case round =>
  clear H'
  try clear p2
  obtain ⟨aA, rfl, HA, HK1, HB⟩ := hrel
  cases gk with
  | zero => exact absurd HA.out (by simp [impl_ascending_spiOf.l0])
  | succ k1 =>
   have H := HA.out
   clear HA
   simp only [impl_ascending_spiOf.l0] at H
   by_cases c4 : aA < (l0.length : Int)
   ·rw [if_pos c4] at H
    have c4b0 : decide (aA < (l0.length : Int)) = true := decide_eq_true c4
    clear c4
    by_cases c5 : 0 ≤ aA
    ·rw [if_pos c5] at H
     have c5b0 : decide (0 ≤ aA) = true := decide_eq_true c5
     clear c5
     by_cases c6 : aA < (l0.length : Int)
     ·rw [if_pos c6] at H
      have c6b0 : decide (aA < (l0.length : Int)) = true := decide_eq_true c6
      clear c6
      have cX := Aside0.mk H
      clear H
      have cE : 0 ≤ (aA : Int) := OD
      have cF : aA < (l0.length : Int) := OD
      obtain ⟨aG, aE, aF, cY, bP, bQ, bR, bS, bT, bU, bV, bW, bX, bY, bI, bJ, bK⟩ := at_T80 dR.out aA cE cF
      cases cY
      replace bP := CX HB.out bP
      replace bQ := CX HB.out bQ
      replace bR := CX HB.out bR
      replace bS := CX HB.out bS
      replace bT := CX HB.out bT
      replace bU := CX HB.out bU
      replace bV := CX HB.out bV
      replace bW := CX HB.out bW
      replace bX := CX HB.out bX
      replace bY := CX HB.out bY
      replace bI := CX HB.out bI
      have aJ := Aside0.mk bK
      have aK := Aside0.mk bJ
      clear bK bJ
      replace cE := eq_true cE
      replace cF := eq_true cF
      go_upto_region 4 with (first | ((with_reducible refine gate_dst (N := 8) rfl ?_); refine box_event rfl (N := 8) rfl (cs := #[.int .i64 0, .int .i64 0, .string (⟨#[]⟩ : ByteArray), .string (⟨#[]⟩ : ByteArray), .int .i64 0, .int .i64 0, .int .i64 0, .int .i64 0, .int .i64 0, .int .i64 0, .slice none 0 0]) (t := 80) BX ?_; intro aC hg w8 cK hb; have aB := am (cK); have cL := am (GH HB hg); have aI := cL; replace HB := bl (KL HB) hb; clear hb cK hg; have ⟨_, _, _, _, _, _, _, _, _, _, _, _⟩ := y11 w8 aB.out))
      (try simp only [Act.put, List.setIfInBounds_toArray, List.set_cons_zero, List.set_cons_succ])
      go_cut [41] (fun dU wc => ∃ (kq : Nat) (bZ : Bool), dU = .bool bZ ∧ Aside0 (impl_ascending_spiOf.j1 kq l0 a1 l0 (l0.length : Int) aA bZ = some r) ∧ Aside0 (kq ≤ k1) ∧ Aside0 (wc.heap[aC]? = some (.cells #[.int .i64 ((rd_T80 l0 aA).f0), .int .i64 ((rd_T80 l0 aA).f1), .string ((rd_T80 l0 aA).f2), .string ((rd_T80 l0 aA).f3), .int .i64 ((rd_T80 l0 aA).f4), .int .i64 ((rd_T80 l0 aA).f5), .int .i64 ((rd_T80 l0 aA).f6), .int .i64 ((rd_T80 l0 aA).f7), .int .i64 ((rd_T80 l0 aA).f8), .int .i64 ((rd_T80 l0 aA).f9.f0), (.slice aE ((rd_T80 l0 aA).f9.f1).length aF)] 80 (0, 0))) ∧ Aside0 (Below w.heap.size w wc))
      case first =>
       have H := cX.out
       clear cX
       replace H := bm H
       obtain ⟨cM, cN, H⟩ := H
       replace H : (if cM = true then (if ((rd_T80 l0 aA).f4) > a1 then (impl_ascending_spiOf.j1 k1 l0 a1 l0 (l0.length : Int) aA true) else (if aA > 0 then (if 0 ≤ (wrap64 (aA - 1)) then (if (wrap64 (aA - 1)) < (l0.length : Int) then ((impl_spiOf.f ((rd_T80 l0 (wrap64 (aA - 1))).f0) ((rd_T80 l0 (wrap64 (aA - 1))).f1) ((rd_T80 l0 (wrap64 (aA - 1))).f2) ((rd_T80 l0 (wrap64 (aA - 1))).f3) ((rd_T80 l0 (wrap64 (aA - 1))).f4) ((rd_T80 l0 (wrap64 (aA - 1))).f5) ((rd_T80 l0 (wrap64 (aA - 1))).f6) ((rd_T80 l0 (wrap64 (aA - 1))).f7) ((rd_T80 l0 (wrap64 (aA - 1))).f8) ((rd_T80 l0 (wrap64 (aA - 1))).f9.f0) ((rd_T80 l0 (wrap64 (aA - 1))).f9.f1)).bind fun bL => ((impl_spiOf.f ((rd_T80 l0 aA).f0) ((rd_T80 l0 aA).f1) ((rd_T80 l0 aA).f2) ((rd_T80 l0 aA).f3) ((rd_T80 l0 aA).f4) ((rd_T80 l0 aA).f5) ((rd_T80 l0 aA).f6) ((rd_T80 l0 aA).f7) ((rd_T80 l0 aA).f8) ((rd_T80 l0 aA).f9.f0) ((rd_T80 l0 aA).f9.f1)).bind fun bH => (impl_ascending_spiOf.j1 k1 l0 a1 l0 (l0.length : Int) aA (decide (bL ≥ bH))))) else (none)) else (none)) else (impl_ascending_spiOf.j1 k1 l0 a1 l0 (l0.length : Int) aA false))) else (impl_ascending_spiOf.j1 k1 l0 a1 l0 (l0.length : Int) aA true)) = some r := H
       have cO := Aside0.mk cN
       clear cN
       by_cases cP : cM = true
       ·subst cP
        have H1 := pf H
        clear H
        have H := H1
        clear H1
        by_cases cJ : ((rd_T80 l0 aA).f4) > a1
        ·rw [if_pos cJ] at H
         have c12b0 : decide (a1 < ((rd_T80 l0 aA).f4)) = true := decide_eq_true cJ
         clear cJ
         (first | rw [c12b0] | (simp only [i64_w, i32_w]; rw [c12b0]) | skip)
         have H' := Aside0.mk H
         clear H
         try go_wp2
         generalize hq_ : (((((((((((w8.setCell ⟨aC, 0, none⟩ (.int .i64 ((rd_T80 l0 aA).f0))).setCell ⟨aC, 1, none⟩ (.int .i64 ((rd_T80 l0 aA).f1))).setCell ⟨aC, 2, none⟩ (.string ((rd_T80 l0 aA).f2))).setCell ⟨aC, 3, none⟩ (.string ((rd_T80 l0 aA).f3))).setCell ⟨aC, 4, none⟩ (.int .i64 ((rd_T80 l0 aA).f4))).setCell ⟨aC, 5, none⟩ (.int .i64 ((rd_T80 l0 aA).f5))).setCell ⟨aC, 6, none⟩ (.int .i64 ((rd_T80 l0 aA).f6))).setCell ⟨aC, 7, none⟩ (.int .i64 ((rd_T80 l0 aA).f7))).setCell ⟨aC, 8, none⟩ (.int .i64 ((rd_T80 l0 aA).f8))).setCell ⟨aC, 9, none⟩ (.int .i64 ((rd_T80 l0 aA).f9.f0))).setCell ⟨aC, 10, none⟩ (.slice aE ((rd_T80 l0 aA).f9.f1).length aF)) = dK
         have n0_ : Aside0 (dK.heap[aC]? = some (.cells #[.int .i64 ((rd_T80 l0 aA).f0), .int .i64 ((rd_T80 l0 aA).f1), .string ((rd_T80 l0 aA).f2), .string ((rd_T80 l0 aA).f3), .int .i64 ((rd_T80 l0 aA).f4), .int .i64 ((rd_T80 l0 aA).f5), .int .i64 ((rd_T80 l0 aA).f6), .int .i64 ((rd_T80 l0 aA).f7), .int .i64 ((rd_T80 l0 aA).f8), .int .i64 ((rd_T80 l0 aA).f9.f0), .slice aE ((rd_T80 l0 aA).f9.f1).length aF] 80 (0, 0))) := ⟨by rw [← hq_]; exact P11 aB⟩
         have n1_ : Aside0 (Below w.heap.size w dK) := ⟨by rw [← hq_]; exact K1 HB aI.out⟩
         clear hq_
         (try clear aB)
         (try clear HB)
         have aB := n0_
         have HB := n1_
         clear n0_ n1_
         replace aB := am (blk_drew aB.out)
         replace HB := am (below_drew1 HB.out)
         refine start_ (n := 26) (S := fun w' => de11 w' aC (.int .i64 ((rd_T80 l0 aA).f0)) (.int .i64 ((rd_T80 l0 aA).f1)) (.string ((rd_T80 l0 aA).f2)) (.string ((rd_T80 l0 aA).f3)) (.int .i64 ((rd_T80 l0 aA).f4)) (.int .i64 ((rd_T80 l0 aA).f5)) (.int .i64 ((rd_T80 l0 aA).f6)) (.int .i64 ((rd_T80 l0 aA).f7)) (.int .i64 ((rd_T80 l0 aA).f8)) (.int .i64 ((rd_T80 l0 aA).f9.f0)) (.slice aE ((rd_T80 l0 aA).f9.f1).length aF)) (ds := []) (tf 0 26) (by kernel_rfl) rfl rfl ⟨z0 _ aB.out, z1 _ aB.out, z2 _ aB.out, z3 _ aB.out, z4 _ aB.out, z5 _ aB.out, z6 _ aB.out, z7 _ aB.out, z8 _ aB.out, z9 _ aB.out, z10 _ aB.out⟩ (fun aH => ?_); refine with_tabW impl_ascending_spiOf.tab4 impl_ascending_spiOf.bits4 (fun aD cC => ?_)
         generalize dK.drew = dY at aB HB aH ⊢
         refine tk 0 (some 16) (tf 1 25) (take_ofW aD.out cC.out (by kernel_rfl)) aH ?_
         refine one_ (i := 1) (N := some 17) (tf 2 24) rfl rfl (one_of aD.out (by kernel_rfl)) (by decide) (fun K hK => ?_)
         refine goes_ Tryz.func63 (by kernel_rfl) rfl #[.agg #[.int .i64 ((rd_T80 l0 aA).f0), .int .i64 ((rd_T80 l0 aA).f1), .string ((rd_T80 l0 aA).f2), .string ((rd_T80 l0 aA).f3), .int .i64 ((rd_T80 l0 aA).f4), .int .i64 ((rd_T80 l0 aA).f5), .int .i64 ((rd_T80 l0 aA).f6), .int .i64 ((rd_T80 l0 aA).f7), .int .i64 ((rd_T80 l0 aA).f8), .int .i64 ((rd_T80 l0 aA).f9.f0), .slice aE ((rd_T80 l0 aA).f9.f1).length aF]] (by rfl) rfl rfl MT ?_
         with_reducible refine (impl_SaOk.calls k1 ((rd_T80 l0 aA).f0) ((rd_T80 l0 aA).f1) ((rd_T80 l0 aA).f2) ((rd_T80 l0 aA).f3) ((rd_T80 l0 aA).f4) ((rd_T80 l0 aA).f5) ((rd_T80 l0 aA).f6) ((rd_T80 l0 aA).f7) ((rd_T80 l0 aA).f8) ((rd_T80 l0 aA).f9.f0) _ _ ((rd_T80 l0 aA).f9.f1) true _ ?_ ?_ cO.out).mono ?_
         exact KD aJ HB
         exact aK.out
         rintro e dZ ⟨rfl, hb⟩
         refine ⟨_, rfl, ?_⟩
         replace aB := am (BB aB hb)
         replace HB := bl (K1 HB aI.out) hb
         (try clear hb)
         (try clear hb2)
         (try clear hk)
         (try clear hi)
         refine hK.out _ _ ⟨z0 _ aB.out, z1 _ aB.out, z2 _ aB.out, z3 _ aB.out, z4 _ aB.out, z5 _ aB.out, z6 _ aB.out, z7 _ aB.out, z8 _ aB.out, z9 _ aB.out, z10 _ aB.out⟩ (fun aH => ?_)
         clear hK K
         refine nm (some 17) ?_
         refine pv aD 2 18 (tf 3 23) ?_
         refine pv aD 3 19 (tf 4 22) ?_
         refine pv aD 4 20 (tf 5 21) ?_
         refine pv aD 6 22 (tr [5, 1, 1, 19]) ?_
         refine tk 5 (some 21) (tf 7 19) (take_ofW aD.out cC.out (by kernel_rfl)) aH ?_
         refine pv aD 7 23 (tf 8 18) ?_
         refine pv aD 8 24 (tf 9 17) ?_
         refine pv aD 9 25 (tf 10 16) ?_
         refine pw aD 10 26 (tf 11 15) ?_
         refine pw aD 11 27 (tf 12 14) ?_
         refine pw aD 12 28 (tf 13 13) ?_
         refine pw aD 13 29 (tf 14 12) ?_
         refine pw aD 14 30 (tf 15 11) ?_
         refine pw aD 15 31 (tf 16 10) ?_
         refine pw aD 16 32 (tf 17 9) ?_
         refine pw aD 17 33 (tf 18 8) ?_
         refine pw aD 18 34 (tf 19 7) ?_
         refine pw aD 19 35 (tf 20 6) ?_
         refine pw aD 20 36 (tf 21 5) ?_
         refine pw aD 21 37 (tf 22 4) ?_
         refine pw aD 22 38 (tf 23 3) ?_
         refine pw aD 23 39 (tf 24 2) ?_
         refine pw aD 24 40 (tf 25 1) ?_
         refine pv aD 25 41 (tf 26 0) ?_
         refine done_ (done_of aD.out (by kernel_rfl)) ?_
         try go_wp2
         go_meet
         case rel => exact ⟨_, (true), (by first | rfl | (simp; done) | (simp [*]; done)), H', ⟨by have := HK1.out; first | omega | exact Nat.le_refl _⟩, ⟨KB aB⟩, ⟨K1 HB aI.out⟩⟩
        ·rw [if_neg cJ] at H
         have c12b0 : decide (a1 < ((rd_T80 l0 aA).f4)) = false := decide_eq_false cJ
         clear cJ
         (first | rw [c12b0] | (simp only [i64_w, i32_w]; rw [c12b0]) | skip)
         by_cases cG : aA > 0
         ·rw [if_pos cG] at H
          have c16b0 : decide (0 < aA) = true := decide_eq_true cG
          clear cG
          obtain ⟨ji17, hji17⟩ : ∃ j_ : Int, (wrap64 (aA - 1)) = j_ := ⟨_, rfl⟩
          replace H : (if 0 ≤ (ji17) then (if (ji17) < (l0.length : Int) then ((impl_spiOf.f ((rd_T80 l0 (ji17)).f0) ((rd_T80 l0 (ji17)).f1) ((rd_T80 l0 (ji17)).f2) ((rd_T80 l0 (ji17)).f3) ((rd_T80 l0 (ji17)).f4) ((rd_T80 l0 (ji17)).f5) ((rd_T80 l0 (ji17)).f6) ((rd_T80 l0 (ji17)).f7) ((rd_T80 l0 (ji17)).f8) ((rd_T80 l0 (ji17)).f9.f0) ((rd_T80 l0 (ji17)).f9.f1)).bind fun bL => ((impl_spiOf.f ((rd_T80 l0 aA).f0) ((rd_T80 l0 aA).f1) ((rd_T80 l0 aA).f2) ((rd_T80 l0 aA).f3) ((rd_T80 l0 aA).f4) ((rd_T80 l0 aA).f5) ((rd_T80 l0 aA).f6) ((rd_T80 l0 aA).f7) ((rd_T80 l0 aA).f8) ((rd_T80 l0 aA).f9.f0) ((rd_T80 l0 aA).f9.f1)).bind fun bH => (impl_ascending_spiOf.j1 k1 l0 a1 l0 (l0.length : Int) aA (decide (bL ≥ bH))))) else (none)) else (none)) = some r := by first | (rw [hji17] at H; exact H) | (simp only [hji17] at H ⊢; exact H)
          (try rw [hji17] at cO)
          have hji17w : (IntKind.i64.wrap (aA - 1)) = ji17 := (i64_w _).trans hji17
          by_cases cQ : 0 ≤ (ji17)
          ·rw [if_pos cQ] at H
           have c18b0 : decide (0 ≤ (ji17)) = true := decide_eq_true cQ
           clear cQ
           by_cases cR : (ji17) < (l0.length : Int)
           ·rw [if_pos cR] at H
            have c19b0 : decide ((ji17) < (l0.length : Int)) = true := decide_eq_true cR
            clear cR
            replace H := bm H
            obtain ⟨bL, cS, H⟩ := H
            replace H : ((impl_spiOf.f ((rd_T80 l0 aA).f0) ((rd_T80 l0 aA).f1) ((rd_T80 l0 aA).f2) ((rd_T80 l0 aA).f3) ((rd_T80 l0 aA).f4) ((rd_T80 l0 aA).f5) ((rd_T80 l0 aA).f6) ((rd_T80 l0 aA).f7) ((rd_T80 l0 aA).f8) ((rd_T80 l0 aA).f9.f0) ((rd_T80 l0 aA).f9.f1)).bind fun bH => (impl_ascending_spiOf.j1 k1 l0 a1 l0 (l0.length : Int) aA (decide (bL ≥ bH)))) = some r := H
            have dV := Aside0.mk cS
            clear cS
            replace H := bm H
            obtain ⟨bH, cT, H⟩ := H
            replace H : (impl_ascending_spiOf.j1 k1 l0 a1 l0 (l0.length : Int) aA (decide (bL ≥ bH))) = some r := H
            have dW := Aside0.mk cT
            clear cT
            have H' := Aside0.mk H
            clear H
            try go_wp2
            generalize hq_ : (((((((((((w8.setCell ⟨aC, 0, none⟩ (.int .i64 ((rd_T80 l0 aA).f0))).setCell ⟨aC, 1, none⟩ (.int .i64 ((rd_T80 l0 aA).f1))).setCell ⟨aC, 2, none⟩ (.string ((rd_T80 l0 aA).f2))).setCell ⟨aC, 3, none⟩ (.string ((rd_T80 l0 aA).f3))).setCell ⟨aC, 4, none⟩ (.int .i64 ((rd_T80 l0 aA).f4))).setCell ⟨aC, 5, none⟩ (.int .i64 ((rd_T80 l0 aA).f5))).setCell ⟨aC, 6, none⟩ (.int .i64 ((rd_T80 l0 aA).f6))).setCell ⟨aC, 7, none⟩ (.int .i64 ((rd_T80 l0 aA).f7))).setCell ⟨aC, 8, none⟩ (.int .i64 ((rd_T80 l0 aA).f8))).setCell ⟨aC, 9, none⟩ (.int .i64 ((rd_T80 l0 aA).f9.f0))).setCell ⟨aC, 10, none⟩ (.slice aE ((rd_T80 l0 aA).f9.f1).length aF)) = dL
            have n0_ : Aside0 (dL.heap[aC]? = some (.cells #[.int .i64 ((rd_T80 l0 aA).f0), .int .i64 ((rd_T80 l0 aA).f1), .string ((rd_T80 l0 aA).f2), .string ((rd_T80 l0 aA).f3), .int .i64 ((rd_T80 l0 aA).f4), .int .i64 ((rd_T80 l0 aA).f5), .int .i64 ((rd_T80 l0 aA).f6), .int .i64 ((rd_T80 l0 aA).f7), .int .i64 ((rd_T80 l0 aA).f8), .int .i64 ((rd_T80 l0 aA).f9.f0), .slice aE ((rd_T80 l0 aA).f9.f1).length aF] 80 (0, 0))) := ⟨by rw [← hq_]; exact P11 aB⟩
            have n1_ : Aside0 (Below w.heap.size w dL) := ⟨by rw [← hq_]; exact K1 HB aI.out⟩
            clear hq_
            (try clear aB)
            (try clear HB)
            have aB := n0_
            have HB := n1_
            clear n0_ n1_
            replace aB := am (blk_drew aB.out)
            replace HB := am (below_drew1 HB.out)
            have cH : 0 ≤ ((ji17) : Int) := OD
            have cI : (ji17) < (l0.length : Int) := OD
            obtain ⟨cU, cA, cB, dM, aN, aO, aP, aQ, aR, aS, aT, aU, aV, aW, aL, bM, bN⟩ := at_T80 dR.out (ji17) cH cI
            have aM := aL
            have aX := aW
            have aY := aV
            have aZ := aU
            have bA := aT
            have bB := aS
            have bC := aR
            have bD := aQ
            have bE := aP
            have bF := aO
            have bG := aN
            obtain rfl : aG = cU := (by injection dM)
            replace aN := CX HB.out aN
            replace aO := CX HB.out aO
            replace aP := CX HB.out aP
            replace aQ := CX HB.out aQ
            replace aR := CX HB.out aR
            replace aS := CX HB.out aS
            replace aT := CX HB.out aT
            replace aU := CX HB.out aU
            replace aV := CX HB.out aV
            replace aW := CX HB.out aW
            replace aL := CX HB.out aL
            have bO := Aside0.mk bN
            have cD := Aside0.mk bM
            clear bN bM
            replace cH := eq_true cH
            replace cI := eq_true cI
            refine start_ (n := 26) (S := fun w' => ce11 w' aC (.int .i64 ((rd_T80 l0 aA).f0)) (.int .i64 ((rd_T80 l0 aA).f1)) (.string ((rd_T80 l0 aA).f2)) (.string ((rd_T80 l0 aA).f3)) (.int .i64 ((rd_T80 l0 aA).f4)) (.int .i64 ((rd_T80 l0 aA).f5)) (.int .i64 ((rd_T80 l0 aA).f6)) (.int .i64 ((rd_T80 l0 aA).f7)) (.int .i64 ((rd_T80 l0 aA).f8)) (.int .i64 ((rd_T80 l0 aA).f9.f0)) (.slice aE ((rd_T80 l0 aA).f9.f1).length aF) (w'.cell? (aG.add (((ji17)).toNat * 11)) = some (.int .i64 ((rd_T80 l0 (ji17)).f0)) ∧ w'.cell? ⟨(aG.add (((ji17)).toNat * 11)).block, (aG.add (((ji17)).toNat * 11)).off + 1, none⟩ = some (.int .i64 ((rd_T80 l0 (ji17)).f1)) ∧ w'.cell? ⟨(aG.add (((ji17)).toNat * 11)).block, (aG.add (((ji17)).toNat * 11)).off + 2, none⟩ = some (.string ((rd_T80 l0 (ji17)).f2)) ∧ w'.cell? ⟨(aG.add (((ji17)).toNat * 11)).block, (aG.add (((ji17)).toNat * 11)).off + 3, none⟩ = some (.string ((rd_T80 l0 (ji17)).f3)) ∧ w'.cell? ⟨(aG.add (((ji17)).toNat * 11)).block, (aG.add (((ji17)).toNat * 11)).off + 4, none⟩ = some (.int .i64 ((rd_T80 l0 (ji17)).f4)) ∧ w'.cell? ⟨(aG.add (((ji17)).toNat * 11)).block, (aG.add (((ji17)).toNat * 11)).off + 5, none⟩ = some (.int .i64 ((rd_T80 l0 (ji17)).f5)) ∧ w'.cell? ⟨(aG.add (((ji17)).toNat * 11)).block, (aG.add (((ji17)).toNat * 11)).off + 6, none⟩ = some (.int .i64 ((rd_T80 l0 (ji17)).f6)) ∧ w'.cell? ⟨(aG.add (((ji17)).toNat * 11)).block, (aG.add (((ji17)).toNat * 11)).off + 7, none⟩ = some (.int .i64 ((rd_T80 l0 (ji17)).f7)) ∧ w'.cell? ⟨(aG.add (((ji17)).toNat * 11)).block, (aG.add (((ji17)).toNat * 11)).off + 8, none⟩ = some (.int .i64 ((rd_T80 l0 (ji17)).f8)) ∧ w'.cell? ⟨(aG.add (((ji17)).toNat * 11)).block, (aG.add (((ji17)).toNat * 11)).off + 9, none⟩ = some (.int .i64 ((rd_T80 l0 (ji17)).f9.f0)) ∧ w'.cell? ⟨(aG.add (((ji17)).toNat * 11)).block, (aG.add (((ji17)).toNat * 11)).off + 10, none⟩ = some (.slice cA ((rd_T80 l0 (ji17)).f9.f1).length cB))) (ds := []) (tf 0 26) (by kernel_rfl) rfl rfl ⟨z0 _ aB.out, z1 _ aB.out, z2 _ aB.out, z3 _ aB.out, z4 _ aB.out, z5 _ aB.out, z6 _ aB.out, z7 _ aB.out, z8 _ aB.out, z9 _ aB.out, z10 _ aB.out, (CY HB.out bG), (CY HB.out bF), (CY HB.out bE), (CY HB.out bD), (CY HB.out bC), (CY HB.out bB), (CY HB.out bA), (CY HB.out aZ), (CY HB.out aY), (CY HB.out aX), (CY HB.out aM)⟩ (fun aH => ?_); refine with_tabW impl_ascending_spiOf.tab4 impl_ascending_spiOf.bits4 (fun aD cC => ?_)
            generalize dL.drew = eA at aB HB bO aN aO aL aP aQ aR aS aT aU aV aW aH ⊢
            refine tk 0 (some 16) (tf 1 25) (take_ofW aD.out cC.out (by kernel_rfl)) aH ?_
            refine one_ (i := 1) (N := some 17) (tf 2 24) rfl rfl (one_of aD.out (by kernel_rfl)) (by decide) (fun K hK => ?_)
            refine goes_ Tryz.func63 (by kernel_rfl) rfl #[.agg #[.int .i64 ((rd_T80 l0 aA).f0), .int .i64 ((rd_T80 l0 aA).f1), .string ((rd_T80 l0 aA).f2), .string ((rd_T80 l0 aA).f3), .int .i64 ((rd_T80 l0 aA).f4), .int .i64 ((rd_T80 l0 aA).f5), .int .i64 ((rd_T80 l0 aA).f6), .int .i64 ((rd_T80 l0 aA).f7), .int .i64 ((rd_T80 l0 aA).f8), .int .i64 ((rd_T80 l0 aA).f9.f0), .slice aE ((rd_T80 l0 aA).f9.f1).length aF]] (by rfl) rfl rfl MT ?_
            with_reducible refine (impl_SaOk.calls k1 ((rd_T80 l0 aA).f0) ((rd_T80 l0 aA).f1) ((rd_T80 l0 aA).f2) ((rd_T80 l0 aA).f3) ((rd_T80 l0 aA).f4) ((rd_T80 l0 aA).f5) ((rd_T80 l0 aA).f6) ((rd_T80 l0 aA).f7) ((rd_T80 l0 aA).f8) ((rd_T80 l0 aA).f9.f0) _ _ ((rd_T80 l0 aA).f9.f1) true _ ?_ ?_ cO.out).mono ?_
            exact KD aJ HB
            exact aK.out
            rintro e eB ⟨rfl, hb⟩
            refine ⟨_, rfl, ?_⟩
            replace aB := am (BB aB hb)
            replace HB := bl (K1 HB aI.out) hb
            (try clear hb)
            (try clear hb2)
            (try clear hk)
            (try clear hi)
            refine hK.out _ _ ⟨z0 _ aB.out, z1 _ aB.out, z2 _ aB.out, z3 _ aB.out, z4 _ aB.out, z5 _ aB.out, z6 _ aB.out, z7 _ aB.out, z8 _ aB.out, z9 _ aB.out, z10 _ aB.out, (CY HB.out bG), (CY HB.out bF), (CY HB.out bE), (CY HB.out bD), (CY HB.out bC), (CY HB.out bB), (CY HB.out bA), (CY HB.out aZ), (CY HB.out aY), (CY HB.out aX), (CY HB.out aM)⟩ (fun aH => ?_)
            clear hK K
            refine nm (some 17) ?_
            refine pv aD 2 18 (tf 3 23) ?_
            refine pv aD 3 19 (tf 4 22) ?_
            refine pv aD 4 20 (tf 5 21) ?_
            refine pv aD 6 22 (tr [5, 1, 1, 19]) ?_
            refine tk 5 (some 21) (tf 7 19) (take_ofW aD.out cC.out (by kernel_rfl)) aH ?_
            refine pv aD 7 23 (tf 8 18) ?_
            refine pv aD 8 24 (tf 9 17) ?_
            refine pv aD 9 25 (tf 10 16) ?_
            refine pv aD 10 26 (tf 11 15) ?_
            refine pv aD 11 27 (tf 12 14) ?_
            refine pv aD 12 28 (tf 13 13) ?_
            refine pv aD 13 29 (tf 14 12) ?_
            refine pv aD 14 30 (tf 15 11) ?_
            refine pv aD 15 31 (tf 16 10) ?_
            refine pv aD 16 32 (tf 17 9) ?_
            refine pv aD 17 33 (tf 18 8) ?_
            refine pv aD 20 36 (tr [18, 2, 1, 5]) ?_
            refine tk 18 (some 34) (tr [19, 1, 1, 5]) (take_ofW aD.out cC.out (by kernel_rfl)) aH ?_
            refine tk 21 (some 37) (tr [19, 1, 2, 4]) (take_ofW aD.out cC.out (by kernel_rfl)) aH ?_
            refine one_ (i := 19) (N := some 35) (tf 22 4) rfl rfl (one_of aD.out (by kernel_rfl)) (by decide) (fun K hK => ?_)
            refine goesW_ Tryz.func39 (by kernel_rfl) rfl #[.agg #[.int .i64 ((rd_T80 l0 (ji17)).f0), .int .i64 ((rd_T80 l0 (ji17)).f1), .string ((rd_T80 l0 (ji17)).f2), .string ((rd_T80 l0 (ji17)).f3), .int .i64 ((rd_T80 l0 (ji17)).f4), .int .i64 ((rd_T80 l0 (ji17)).f5), .int .i64 ((rd_T80 l0 (ji17)).f6), .int .i64 ((rd_T80 l0 (ji17)).f7), .int .i64 ((rd_T80 l0 (ji17)).f8), .int .i64 ((rd_T80 l0 (ji17)).f9.f0), .slice cA ((rd_T80 l0 (ji17)).f9.f1).length cB]] (by rfl) rfl rfl (by first | rfl | (simp [Act.eval, Act.put]; done)) (by (try simp only [List.map_toArray, List.map_cons, List.map_nil]); first | done | (simp only [hji17]; rfl) | rfl | (simp only [List.length_drop, List.length_take]; rfl)) ?_
            with_reducible refine (impl_spiOf.calls ((rd_T80 l0 (ji17)).f0) ((rd_T80 l0 (ji17)).f1) ((rd_T80 l0 (ji17)).f2) ((rd_T80 l0 (ji17)).f3) ((rd_T80 l0 (ji17)).f4) ((rd_T80 l0 (ji17)).f5) ((rd_T80 l0 (ji17)).f6) ((rd_T80 l0 (ji17)).f7) ((rd_T80 l0 (ji17)).f8) ((rd_T80 l0 (ji17)).f9.f0) _ _ ((rd_T80 l0 (ji17)).f9.f1) bL _ ?_ ?_ dV.out).mono ?_
            exact KD bO HB
            exact cD.out
            rintro e eC ⟨rfl, hb⟩
            refine ⟨_, rfl, ?_⟩
            replace aB := am (BB aB hb)
            replace HB := bl (K1 HB aI.out) hb
            (try clear hb)
            (try clear hb2)
            (try clear hk)
            (try clear hi)
            refine hK.out _ _ ⟨z0 _ aB.out, z1 _ aB.out, z2 _ aB.out, z3 _ aB.out, z4 _ aB.out, z5 _ aB.out, z6 _ aB.out, z7 _ aB.out, z8 _ aB.out, z9 _ aB.out, z10 _ aB.out, (CY HB.out bG), (CY HB.out bF), (CY HB.out bE), (CY HB.out bD), (CY HB.out bC), (CY HB.out bB), (CY HB.out bA), (CY HB.out aZ), (CY HB.out aY), (CY HB.out aX), (CY HB.out aM)⟩ (fun aH => ?_)
            clear hK K
            refine nm (some 35) ?_
            refine one_ (i := 22) (N := some 38) (tf 23 3) rfl rfl (one_of aD.out (by kernel_rfl)) (by decide) (fun K hK => ?_)
            refine goesW_ Tryz.func39 (by kernel_rfl) rfl #[.agg #[.int .i64 ((rd_T80 l0 aA).f0), .int .i64 ((rd_T80 l0 aA).f1), .string ((rd_T80 l0 aA).f2), .string ((rd_T80 l0 aA).f3), .int .i64 ((rd_T80 l0 aA).f4), .int .i64 ((rd_T80 l0 aA).f5), .int .i64 ((rd_T80 l0 aA).f6), .int .i64 ((rd_T80 l0 aA).f7), .int .i64 ((rd_T80 l0 aA).f8), .int .i64 ((rd_T80 l0 aA).f9.f0), .slice aE ((rd_T80 l0 aA).f9.f1).length aF]] (by rfl) rfl rfl (by first | rfl | (simp [Act.eval, Act.put]; done)) MT ?_
            with_reducible refine (impl_spiOf.calls ((rd_T80 l0 aA).f0) ((rd_T80 l0 aA).f1) ((rd_T80 l0 aA).f2) ((rd_T80 l0 aA).f3) ((rd_T80 l0 aA).f4) ((rd_T80 l0 aA).f5) ((rd_T80 l0 aA).f6) ((rd_T80 l0 aA).f7) ((rd_T80 l0 aA).f8) ((rd_T80 l0 aA).f9.f0) _ _ ((rd_T80 l0 aA).f9.f1) bH _ ?_ ?_ dW.out).mono ?_
            exact KD aJ HB
            exact aK.out
            rintro e eD ⟨rfl, hb⟩
            refine ⟨_, rfl, ?_⟩
            replace aB := am (BB aB hb)
            replace HB := bl (K1 HB aI.out) hb
            (try clear hb)
            (try clear hb2)
            (try clear hk)
            (try clear hi)
            refine hK.out _ _ ⟨z0 _ aB.out, z1 _ aB.out, z2 _ aB.out, z3 _ aB.out, z4 _ aB.out, z5 _ aB.out, z6 _ aB.out, z7 _ aB.out, z8 _ aB.out, z9 _ aB.out, z10 _ aB.out, (CY HB.out bG), (CY HB.out bF), (CY HB.out bE), (CY HB.out bD), (CY HB.out bC), (CY HB.out bB), (CY HB.out bA), (CY HB.out aZ), (CY HB.out aY), (CY HB.out aX), (CY HB.out aM)⟩ (fun aH => ?_)
            clear hK K
            refine nm (some 38) ?_
            refine pv aD 23 39 (tf 24 2) ?_
            refine pv aD 24 40 (tf 25 1) ?_
            refine pv aD 25 41 (tf 26 0) ?_
            refine done_ (done_of aD.out (by kernel_rfl)) ?_
            try go_wp2
            go_meet
            case rel => exact ⟨_, (decide (bL ≥ bH)), (by first | rfl | (simp; done) | (simp [*]; done)), H', ⟨by have := HK1.out; first | omega | exact Nat.le_refl _⟩, ⟨KB aB⟩, ⟨K1 HB aI.out⟩⟩
           ·rw [if_neg cR] at H
            exact absurd H (by simp)
          ·rw [if_neg cQ] at H
           exact absurd H (by simp)
         ·rw [if_neg cG] at H
          have c16b0 : decide (0 < aA) = false := decide_eq_false cG
          clear cG
          have H' := Aside0.mk H
          clear H
          try go_wp2
          generalize hq_ : (((((((((((w8.setCell ⟨aC, 0, none⟩ (.int .i64 ((rd_T80 l0 aA).f0))).setCell ⟨aC, 1, none⟩ (.int .i64 ((rd_T80 l0 aA).f1))).setCell ⟨aC, 2, none⟩ (.string ((rd_T80 l0 aA).f2))).setCell ⟨aC, 3, none⟩ (.string ((rd_T80 l0 aA).f3))).setCell ⟨aC, 4, none⟩ (.int .i64 ((rd_T80 l0 aA).f4))).setCell ⟨aC, 5, none⟩ (.int .i64 ((rd_T80 l0 aA).f5))).setCell ⟨aC, 6, none⟩ (.int .i64 ((rd_T80 l0 aA).f6))).setCell ⟨aC, 7, none⟩ (.int .i64 ((rd_T80 l0 aA).f7))).setCell ⟨aC, 8, none⟩ (.int .i64 ((rd_T80 l0 aA).f8))).setCell ⟨aC, 9, none⟩ (.int .i64 ((rd_T80 l0 aA).f9.f0))).setCell ⟨aC, 10, none⟩ (.slice aE ((rd_T80 l0 aA).f9.f1).length aF)) = dN
          have n0_ : Aside0 (dN.heap[aC]? = some (.cells #[.int .i64 ((rd_T80 l0 aA).f0), .int .i64 ((rd_T80 l0 aA).f1), .string ((rd_T80 l0 aA).f2), .string ((rd_T80 l0 aA).f3), .int .i64 ((rd_T80 l0 aA).f4), .int .i64 ((rd_T80 l0 aA).f5), .int .i64 ((rd_T80 l0 aA).f6), .int .i64 ((rd_T80 l0 aA).f7), .int .i64 ((rd_T80 l0 aA).f8), .int .i64 ((rd_T80 l0 aA).f9.f0), .slice aE ((rd_T80 l0 aA).f9.f1).length aF] 80 (0, 0))) := ⟨by rw [← hq_]; exact P11 aB⟩
          have n1_ : Aside0 (Below w.heap.size w dN) := ⟨by rw [← hq_]; exact K1 HB aI.out⟩
          clear hq_
          (try clear aB)
          (try clear HB)
          have aB := n0_
          have HB := n1_
          clear n0_ n1_
          replace aB := am (blk_drew aB.out)
          replace HB := am (below_drew1 HB.out)
          refine start_ (n := 26) (S := fun w' => de11 w' aC (.int .i64 ((rd_T80 l0 aA).f0)) (.int .i64 ((rd_T80 l0 aA).f1)) (.string ((rd_T80 l0 aA).f2)) (.string ((rd_T80 l0 aA).f3)) (.int .i64 ((rd_T80 l0 aA).f4)) (.int .i64 ((rd_T80 l0 aA).f5)) (.int .i64 ((rd_T80 l0 aA).f6)) (.int .i64 ((rd_T80 l0 aA).f7)) (.int .i64 ((rd_T80 l0 aA).f8)) (.int .i64 ((rd_T80 l0 aA).f9.f0)) (.slice aE ((rd_T80 l0 aA).f9.f1).length aF)) (ds := []) (tf 0 26) (by kernel_rfl) rfl rfl ⟨z0 _ aB.out, z1 _ aB.out, z2 _ aB.out, z3 _ aB.out, z4 _ aB.out, z5 _ aB.out, z6 _ aB.out, z7 _ aB.out, z8 _ aB.out, z9 _ aB.out, z10 _ aB.out⟩ (fun aH => ?_); refine with_tabW impl_ascending_spiOf.tab4 impl_ascending_spiOf.bits4 (fun aD cC => ?_)
          generalize dN.drew = eE at aB HB aH ⊢
          refine tk 0 (some 16) (tf 1 25) (take_ofW aD.out cC.out (by kernel_rfl)) aH ?_
          refine one_ (i := 1) (N := some 17) (tf 2 24) rfl rfl (one_of aD.out (by kernel_rfl)) (by decide) (fun K hK => ?_)
          refine goes_ Tryz.func63 (by kernel_rfl) rfl #[.agg #[.int .i64 ((rd_T80 l0 aA).f0), .int .i64 ((rd_T80 l0 aA).f1), .string ((rd_T80 l0 aA).f2), .string ((rd_T80 l0 aA).f3), .int .i64 ((rd_T80 l0 aA).f4), .int .i64 ((rd_T80 l0 aA).f5), .int .i64 ((rd_T80 l0 aA).f6), .int .i64 ((rd_T80 l0 aA).f7), .int .i64 ((rd_T80 l0 aA).f8), .int .i64 ((rd_T80 l0 aA).f9.f0), .slice aE ((rd_T80 l0 aA).f9.f1).length aF]] (by rfl) rfl rfl MT ?_
          with_reducible refine (impl_SaOk.calls k1 ((rd_T80 l0 aA).f0) ((rd_T80 l0 aA).f1) ((rd_T80 l0 aA).f2) ((rd_T80 l0 aA).f3) ((rd_T80 l0 aA).f4) ((rd_T80 l0 aA).f5) ((rd_T80 l0 aA).f6) ((rd_T80 l0 aA).f7) ((rd_T80 l0 aA).f8) ((rd_T80 l0 aA).f9.f0) _ _ ((rd_T80 l0 aA).f9.f1) true _ ?_ ?_ cO.out).mono ?_
          exact KD aJ HB
          exact aK.out
          rintro e eF ⟨rfl, hb⟩
          refine ⟨_, rfl, ?_⟩
          replace aB := am (BB aB hb)
          replace HB := bl (K1 HB aI.out) hb
          (try clear hb)
          (try clear hb2)
          (try clear hk)
          (try clear hi)
          refine hK.out _ _ ⟨z0 _ aB.out, z1 _ aB.out, z2 _ aB.out, z3 _ aB.out, z4 _ aB.out, z5 _ aB.out, z6 _ aB.out, z7 _ aB.out, z8 _ aB.out, z9 _ aB.out, z10 _ aB.out⟩ (fun aH => ?_)
          clear hK K
          refine nm (some 17) ?_
          refine pv aD 2 18 (tf 3 23) ?_
          refine pv aD 3 19 (tf 4 22) ?_
          refine pv aD 4 20 (tf 5 21) ?_
          refine pv aD 6 22 (tr [5, 1, 1, 19]) ?_
          refine tk 5 (some 21) (tf 7 19) (take_ofW aD.out cC.out (by kernel_rfl)) aH ?_
          refine pv aD 7 23 (tf 8 18) ?_
          refine pv aD 8 24 (tf 9 17) ?_
          refine pv aD 9 25 (tf 10 16) ?_
          refine pv aD 10 26 (tf 11 15) ?_
          refine pv aD 11 27 (tf 12 14) ?_
          refine pv aD 12 28 (tf 13 13) ?_
          refine pw aD 13 29 (tf 14 12) ?_
          refine pw aD 14 30 (tf 15 11) ?_
          refine pw aD 15 31 (tf 16 10) ?_
          refine pw aD 16 32 (tf 17 9) ?_
          refine pw aD 17 33 (tf 18 8) ?_
          refine pw aD 18 34 (tf 19 7) ?_
          refine pw aD 19 35 (tf 20 6) ?_
          refine pw aD 20 36 (tf 21 5) ?_
          refine pw aD 21 37 (tf 22 4) ?_
          refine pw aD 22 38 (tf 23 3) ?_
          refine pw aD 23 39 (tf 24 2) ?_
          refine pv aD 24 40 (tf 25 1) ?_
          refine pv aD 25 41 (tf 26 0) ?_
          refine done_ (done_of aD.out (by kernel_rfl)) ?_
          try go_wp2
          go_meet
          case rel => exact ⟨_, (false), (by first | rfl | (simp; done) | (simp [*]; done)), H', ⟨by have := HK1.out; first | omega | exact Nat.le_refl _⟩, ⟨KB aB⟩, ⟨K1 HB aI.out⟩⟩
       ·replace cP := Bool.eq_false_iff.mpr cP
        subst cP
        have H1 := nf H
        clear H
        have H := H1
        clear H1
        have H' := Aside0.mk H
        clear H
        try go_wp2
        generalize hq_ : (((((((((((w8.setCell ⟨aC, 0, none⟩ (.int .i64 ((rd_T80 l0 aA).f0))).setCell ⟨aC, 1, none⟩ (.int .i64 ((rd_T80 l0 aA).f1))).setCell ⟨aC, 2, none⟩ (.string ((rd_T80 l0 aA).f2))).setCell ⟨aC, 3, none⟩ (.string ((rd_T80 l0 aA).f3))).setCell ⟨aC, 4, none⟩ (.int .i64 ((rd_T80 l0 aA).f4))).setCell ⟨aC, 5, none⟩ (.int .i64 ((rd_T80 l0 aA).f5))).setCell ⟨aC, 6, none⟩ (.int .i64 ((rd_T80 l0 aA).f6))).setCell ⟨aC, 7, none⟩ (.int .i64 ((rd_T80 l0 aA).f7))).setCell ⟨aC, 8, none⟩ (.int .i64 ((rd_T80 l0 aA).f8))).setCell ⟨aC, 9, none⟩ (.int .i64 ((rd_T80 l0 aA).f9.f0))).setCell ⟨aC, 10, none⟩ (.slice aE ((rd_T80 l0 aA).f9.f1).length aF)) = dO
        have n0_ : Aside0 (dO.heap[aC]? = some (.cells #[.int .i64 ((rd_T80 l0 aA).f0), .int .i64 ((rd_T80 l0 aA).f1), .string ((rd_T80 l0 aA).f2), .string ((rd_T80 l0 aA).f3), .int .i64 ((rd_T80 l0 aA).f4), .int .i64 ((rd_T80 l0 aA).f5), .int .i64 ((rd_T80 l0 aA).f6), .int .i64 ((rd_T80 l0 aA).f7), .int .i64 ((rd_T80 l0 aA).f8), .int .i64 ((rd_T80 l0 aA).f9.f0), .slice aE ((rd_T80 l0 aA).f9.f1).length aF] 80 (0, 0))) := ⟨by rw [← hq_]; exact P11 aB⟩
        have n1_ : Aside0 (Below w.heap.size w dO) := ⟨by rw [← hq_]; exact K1 HB aI.out⟩
        clear hq_
        (try clear aB)
        (try clear HB)
        have aB := n0_
        have HB := n1_
        clear n0_ n1_
        replace aB := am (blk_drew aB.out)
        replace HB := am (below_drew1 HB.out)
        refine start_ (n := 26) (S := fun w' => de11 w' aC (.int .i64 ((rd_T80 l0 aA).f0)) (.int .i64 ((rd_T80 l0 aA).f1)) (.string ((rd_T80 l0 aA).f2)) (.string ((rd_T80 l0 aA).f3)) (.int .i64 ((rd_T80 l0 aA).f4)) (.int .i64 ((rd_T80 l0 aA).f5)) (.int .i64 ((rd_T80 l0 aA).f6)) (.int .i64 ((rd_T80 l0 aA).f7)) (.int .i64 ((rd_T80 l0 aA).f8)) (.int .i64 ((rd_T80 l0 aA).f9.f0)) (.slice aE ((rd_T80 l0 aA).f9.f1).length aF)) (ds := []) (tf 0 26) (by kernel_rfl) rfl rfl ⟨z0 _ aB.out, z1 _ aB.out, z2 _ aB.out, z3 _ aB.out, z4 _ aB.out, z5 _ aB.out, z6 _ aB.out, z7 _ aB.out, z8 _ aB.out, z9 _ aB.out, z10 _ aB.out⟩ (fun aH => ?_); refine with_tabW impl_ascending_spiOf.tab4 impl_ascending_spiOf.bits4 (fun aD cC => ?_)
        generalize dO.drew = eG at aB HB aH ⊢
        refine tk 0 (some 16) (tf 1 25) (take_ofW aD.out cC.out (by kernel_rfl)) aH ?_
        refine one_ (i := 1) (N := some 17) (tf 2 24) rfl rfl (one_of aD.out (by kernel_rfl)) (by decide) (fun K hK => ?_)
        refine goes_ Tryz.func63 (by kernel_rfl) rfl #[.agg #[.int .i64 ((rd_T80 l0 aA).f0), .int .i64 ((rd_T80 l0 aA).f1), .string ((rd_T80 l0 aA).f2), .string ((rd_T80 l0 aA).f3), .int .i64 ((rd_T80 l0 aA).f4), .int .i64 ((rd_T80 l0 aA).f5), .int .i64 ((rd_T80 l0 aA).f6), .int .i64 ((rd_T80 l0 aA).f7), .int .i64 ((rd_T80 l0 aA).f8), .int .i64 ((rd_T80 l0 aA).f9.f0), .slice aE ((rd_T80 l0 aA).f9.f1).length aF]] (by rfl) rfl rfl MT ?_
        with_reducible refine (impl_SaOk.calls k1 ((rd_T80 l0 aA).f0) ((rd_T80 l0 aA).f1) ((rd_T80 l0 aA).f2) ((rd_T80 l0 aA).f3) ((rd_T80 l0 aA).f4) ((rd_T80 l0 aA).f5) ((rd_T80 l0 aA).f6) ((rd_T80 l0 aA).f7) ((rd_T80 l0 aA).f8) ((rd_T80 l0 aA).f9.f0) _ _ ((rd_T80 l0 aA).f9.f1) false _ ?_ ?_ cO.out).mono ?_
        exact KD aJ HB
        exact aK.out
        rintro e eH ⟨rfl, hb⟩
        refine ⟨_, rfl, ?_⟩
        replace aB := am (BB aB hb)
        replace HB := bl (K1 HB aI.out) hb
        (try clear hb)
        (try clear hb2)
        (try clear hk)
        (try clear hi)
        refine hK.out _ _ ⟨z0 _ aB.out, z1 _ aB.out, z2 _ aB.out, z3 _ aB.out, z4 _ aB.out, z5 _ aB.out, z6 _ aB.out, z7 _ aB.out, z8 _ aB.out, z9 _ aB.out, z10 _ aB.out⟩ (fun aH => ?_)
        clear hK K
        refine nm (some 17) ?_
        refine pv aD 2 18 (tf 3 23) ?_
        refine pv aD 3 19 (tf 4 22) ?_
        refine pw aD 4 20 (tf 5 21) ?_
        refine pw aD 5 21 (tf 6 20) ?_
        refine pw aD 6 22 (tf 7 19) ?_
        refine pw aD 7 23 (tf 8 18) ?_
        refine pv aD 8 24 (tf 9 17) ?_
        refine pv aD 9 25 (tf 10 16) ?_
        refine pw aD 10 26 (tf 11 15) ?_
        refine pw aD 11 27 (tf 12 14) ?_
        refine pw aD 12 28 (tf 13 13) ?_
        refine pw aD 13 29 (tf 14 12) ?_
        refine pw aD 14 30 (tf 15 11) ?_
        refine pw aD 15 31 (tf 16 10) ?_
        refine pw aD 16 32 (tf 17 9) ?_
        refine pw aD 17 33 (tf 18 8) ?_
        refine pw aD 18 34 (tf 19 7) ?_
        refine pw aD 19 35 (tf 20 6) ?_
        refine pw aD 20 36 (tf 21 5) ?_
        refine pw aD 21 37 (tf 22 4) ?_
        refine pw aD 22 38 (tf 23 3) ?_
        refine pw aD 23 39 (tf 24 2) ?_
        refine pw aD 24 40 (tf 25 1) ?_
        refine pv aD 25 41 (tf 26 0) ?_
        refine done_ (done_of aD.out (by kernel_rfl)) ?_
        try go_wp2
        go_meet
        case rel => exact ⟨_, (true), (by first | rfl | (simp; done) | (simp [*]; done)), H', ⟨by have := HK1.out; first | omega | exact Nat.le_refl _⟩, ⟨KB aB⟩, ⟨K1 HB aI.out⟩⟩
      case rest =>
       clear cX
       try clear c1
       try clear p2
       try clear c3
       try clear c6
       try clear eI
       try clear cP
       try clear cG
       try clear c16b0
       try clear cQ
       try clear cR
       obtain ⟨kq, bZ, rfl, HA, HJ6, aB, HB⟩ := hcut
       cases kq with
       | zero => exact absurd HA.out (by simp [impl_ascending_spiOf.j1])
       | succ kj6 =>
        have H := HA.out
        clear HA
        simp only [impl_ascending_spiOf.j1] at H
        by_cases cW : bZ = true
        ·subst cW
         have H1 := pf H
         clear H
         have H := H1
         clear H1
         obtain rfl := sj H
         go_wp2
         go_ret
         exact ⟨ER, K1 HB aI.out⟩
        ·replace cW := Bool.eq_false_iff.mpr cW
         subst cW
         have H1 := nf H
         clear H
         have H := H1
         clear H1
         have H' := Aside0.mk H
         clear H
         go_wp2
         go_roundg kj6
         case measure => have := HK1.out; have := HJ6.out; omega
         case rel => exact ⟨(wrap64 (aA + 1)), (by first | rfl | (simp; done) | (simp [*]; done)), H', ⟨by have := HK1.out; have := HJ6.out; omega⟩, ⟨K1 HB aI.out⟩⟩
     ·rw [if_neg c6] at H
      exact absurd H (by simp)
    ·rw [if_neg c5] at H
     exact absurd H (by simp)
   ·rw [if_neg c4] at H
    have c4b0 : decide (aA < (l0.length : Int)) = false := decide_eq_false c4
    clear c4
    obtain rfl := sj H
    go_wp2
    go_ret
    exact ⟨ER, KL HB⟩
def impl_WorldOk_1.f (a0_0 : ByteArray) (a0_1 : Bool) : Option (Bool) := some (decide ((a0_0.size : Int) > 141))
theorem impl_WorldOk_1.calls (aA : ByteArray) (aB : Bool) (r : Bool) (w : World) (h : impl_WorldOk_1.f aA aB = some r) :
  Calls Tryz.prog 16 #[.agg #[.string aA, .bool aB]] w fun e w' => e = .returned (.bool r) ∧ Below w.heap.size w w' := by
 have aK := Tryz.underlying54
 have HB := am (Below.refl w.heap.size w)
 have H : (some (decide ((aA.size : Int) > 141))) = some r := h
 clear h
 obtain rfl := sj H
 go_enter Tryz.func16, Tryz.ntmps16
 go_wp2_with (first | ((with_reducible refine gate_dst (N := 1) rfl ?_); refine box_event rfl (N := 1) rfl (cs := #[.string aA, .bool aB]) (t := 54) BX ?_; intro aJ hg w2 aC hb; have aD := am (aC); have aE := am (GH HB hg); have aF := aE; replace HB := bl (KL HB) hb; clear hb aC hg; have ⟨_, _, _⟩ := y2 w2 aD.out))
 go_ret
 exact ⟨ER, K1 HB aF.out⟩
def impl_Air_40_WorldOk_cl1.l0 : Nat → List (S54) → Int → Int → Option (Int)
 | 0, _, _, _ => none
 | k + 1, x0, x7, x8 => if x8 < x7 then (if 0 ≤ x8 then (if x8 < (x0.length : Int) then ((impl_WorldOk_1.f ((rd_T54 x0 x8).f0) ((rd_T54 x0 x8).f1)).bind fun t102 => (if t102 = true then (some x8) else (impl_Air_40_WorldOk_cl1.l0 k x0 x7 (wrap64 (x8 + 1))))) else (none)) else (none)) else (some (-1))
def impl_Air_40_WorldOk_cl1.f (k : Nat) (l0 : List (S54))  : Option (Int) := impl_Air_40_WorldOk_cl1.l0 k l0 (l0.length : Int) 0
theorem impl_Air_40_WorldOk_cl1.calls (k : Nat) (A0 : Option Addr) (c0 : Nat) (l0 : List (S54))  (r : Int) (w : World) (aI : Kd.C k54 w A0 l0.length l0) (aJ : l0.length ≤ c0) (h : impl_Air_40_WorldOk_cl1.f k l0 = some r) :
  Calls Tryz.prog 40 #[.slice A0 l0.length c0, .func (.func 16) #[] #[]] w fun e w' => e = .returned (.int .i64 r) ∧ Below w.heap.size w w' := by
 have aM := Tryz.underlying54
 have aK := Aside0.mk aI
 have aN := Aside0.mk aJ
 clear aI aJ
 have HB := am (Below.refl w.heap.size w)
 have H : (impl_Air_40_WorldOk_cl1.l0 k l0 (l0.length : Int) 0) = some r := h
 clear h
 have H' := Aside0.mk H
 clear H
 go_enter Tryz.func40, Tryz.ntmps40
 go_wp2
 go_loopg [8] k (fun kq v8 w' => ∃ (aA : Int), v8 = .int .i64 aA ∧ Aside0 (impl_Air_40_WorldOk_cl1.l0 kq l0 (l0.length : Int) aA = some r) ∧ Aside0 (kq ≤ k) ∧ Aside0 (Below w.heap.size w w'))
 case atStart => exact ⟨(0), (by first | rfl | (simp; done) | (simp [*]; done)), H', ⟨Nat.le_refl _⟩, ⟨KL HB⟩⟩
 case round =>
  clear H'
  try clear p2
  obtain ⟨aA, rfl, HA, HK1, HB⟩ := hrel
  cases gk with
  | zero => exact absurd HA.out (by simp [impl_Air_40_WorldOk_cl1.l0])
  | succ k1 =>
   have H := HA.out
   clear HA
   simp only [impl_Air_40_WorldOk_cl1.l0] at H
   by_cases c3 : aA < (l0.length : Int)
   ·rw [if_pos c3] at H
    have c3b0 : decide (aA < (l0.length : Int)) = true := decide_eq_true c3
    clear c3
    by_cases c4 : 0 ≤ aA
    ·rw [if_pos c4] at H
     have c4b0 : decide (0 ≤ aA) = true := decide_eq_true c4
     clear c4
     by_cases c5 : aA < (l0.length : Int)
     ·rw [if_pos c5] at H
      have c5b0 : decide (aA < (l0.length : Int)) = true := decide_eq_true c5
      clear c5
      replace H := bm H
      obtain ⟨aG, aL, H⟩ := H
      replace H : (if aG = true then (some aA) else (impl_Air_40_WorldOk_cl1.l0 k1 l0 (l0.length : Int) (wrap64 (aA + 1)))) = some r := H
      have A6 := Aside0.mk aL
      clear aL
      by_cases c7 : aG = true
      ·subst c7
       have H1 := pf H
       clear H
       have H := H1
       clear H1
       obtain rfl := sj H
       have aD : 0 ≤ (aA : Int) := OD
       have aE : aA < (l0.length : Int) := OD
       obtain ⟨aH, aF, aB, aC⟩ := at_T54 aK.out aA aD aE
       cases aF
       replace aB := CX HB.out aB
       replace aC := CX HB.out aC
       replace aD := eq_true aD
       replace aE := eq_true aE
       go_wp2_with (first | ((with_reducible refine gate_dst (N := 16) rfl ?_); refine goesV_ (some 16) rfl rfl Tryz.func16 (by kernel_rfl) rfl #[.agg #[.string ((rd_T54 l0 aA).f0), .bool ((rd_T54 l0 aA).f1)]] rfl (by first | rfl | (simp [Act.eval, Act.put]; done)) MT ?_; (with_reducible refine (impl_WorldOk_1.calls ((rd_T54 l0 aA).f0) ((rd_T54 l0 aA).f1) true _ A6.out).mono ?_); rintro e w8 ⟨rfl, hb⟩; refine ⟨_, rfl, ?_⟩; replace HB := bl (KL HB) hb; (try clear hb)))
       go_ret
       exact ⟨ER, KL HB⟩
      ·replace c7 := Bool.eq_false_iff.mpr c7
       subst c7
       have H1 := nf H
       clear H
       have H := H1
       clear H1
       have H' := Aside0.mk H
       clear H
       have aD : 0 ≤ (aA : Int) := OD
       have aE : aA < (l0.length : Int) := OD
       obtain ⟨aH, aF, aB, aC⟩ := at_T54 aK.out aA aD aE
       cases aF
       replace aB := CX HB.out aB
       replace aC := CX HB.out aC
       replace aD := eq_true aD
       replace aE := eq_true aE
       go_wp2_with (first | ((with_reducible refine gate_dst (N := 16) rfl ?_); refine goesV_ (some 16) rfl rfl Tryz.func16 (by kernel_rfl) rfl #[.agg #[.string ((rd_T54 l0 aA).f0), .bool ((rd_T54 l0 aA).f1)]] rfl (by first | rfl | (simp [Act.eval, Act.put]; done)) MT ?_; (with_reducible refine (impl_WorldOk_1.calls ((rd_T54 l0 aA).f0) ((rd_T54 l0 aA).f1) false _ A6.out).mono ?_); rintro e w9 ⟨rfl, hb⟩; refine ⟨_, rfl, ?_⟩; replace HB := bl (KL HB) hb; (try clear hb)))
       go_roundg k1
       case measure => have := HK1.out; omega
       case rel => exact ⟨(wrap64 (aA + 1)), (by first | rfl | (simp; done) | (simp [*]; done)), H', ⟨by have := HK1.out; omega⟩, ⟨KL HB⟩⟩
     ·rw [if_neg c5] at H
      exact absurd H (by simp)
    ·rw [if_neg c4] at H
     exact absurd H (by simp)
   ·rw [if_neg c3] at H
    have c3b0 : decide (aA < (l0.length : Int)) = false := decide_eq_false c3
    clear c3
    obtain rfl := sj H
    go_wp2
    go_ret
    exact ⟨ER, KL HB⟩
def impl_Air_18_WorldOk_cl1.f (k : Nat) (l0 : List (S54))  : Option (Bool) := (impl_Air_40_WorldOk_cl1.f k l0).bind fun t101 => (some (decide (t101 ≥ 0)))
theorem impl_Air_18_WorldOk_cl1.calls (k : Nat) (A0 : Option Addr) (c0 : Nat) (l0 : List (S54))  (r : Bool) (w : World) (aB : Kd.C k54 w A0 l0.length l0) (aC : l0.length ≤ c0) (h : impl_Air_18_WorldOk_cl1.f k l0 = some r) :
  Calls Tryz.prog 18 #[.slice A0 l0.length c0, .func (.func 16) #[] #[]] w fun e w' => e = .returned (.bool r) ∧ Below w.heap.size w w' := by
 have aE := Aside0.mk aB
 have aF := Aside0.mk aC
 clear aB aC
 have HB := am (Below.refl w.heap.size w)
 have H : ((impl_Air_40_WorldOk_cl1.f k l0).bind fun aA => (some (decide (aA ≥ 0)))) = some r := h
 clear h
 replace H := bm H
 obtain ⟨aA, aD, H⟩ := H
 replace H : (some (decide (aA ≥ 0))) = some r := H
 have A3 := Aside0.mk aD
 clear aD
 obtain rfl := sj H
 go_enter Tryz.func18, Tryz.ntmps18
 go_wp2_with (first | ((with_reducible refine gate_callee (f := 40) rfl ?_); refine goesL_ (some 7) rfl rfl Tryz.func40 (by kernel_rfl) rfl #[.slice A0 l0.length c0, .func (.func 16) #[] #[]] rfl MT ?_; (with_reducible refine (impl_Air_40_WorldOk_cl1.calls k _ _ l0  aA _ ?_ ?_ A3.out).mono ?_); exact KC aE.out; exact aF.out; rintro e w4 ⟨rfl, hb⟩; refine ⟨_, rfl, ?_⟩; replace HB := bl (KL HB) hb; (try clear hb)))
 go_ret
 exact ⟨ER, KL HB⟩
def laws_eqBlock.f (a0_0 : Int) (a0_1 : Int) (a1_0 : Int) (a1_1 : Int) : Option (Bool) := if a0_0 = a1_0 then (if a0_1 = a1_1 then (some true) else (some false)) else (some false)
theorem laws_eqBlock.calls (aF : Int) (aG : Int) (aH : Int) (aI : Int) (r : Bool) (w : World) (h : laws_eqBlock.f aF aG aH aI = some r) :
  Calls Tryz.prog 85 #[.agg #[.int .i64 aF, .int .i64 aG], .agg #[.int .i64 aH, .int .i64 aI]] w fun e w' => e = .returned (.bool r) ∧ Below w.heap.size w w' := by
 have bH := Tryz.underlying113
 have HB := am (Below.refl w.heap.size w)
 have H : (if aF = aH then (if aG = aI then (some true) else (some false)) else (some false)) = some r := h
 clear h
 by_cases c3 : aF = aH
 ·rw [if_pos c3] at H
  have c3b0 : (aF == aH) = true := beq_iff_eq.mpr c3
  have c3b1 : (aF != aH) = false := bne_eq_false_iff_eq.mpr c3
  clear c3
  by_cases c4 : aG = aI
  ·rw [if_pos c4] at H
   have c4b0 : (aG == aI) = true := beq_iff_eq.mpr c4
   have c4b1 : (aG != aI) = false := bne_eq_false_iff_eq.mpr c4
   clear c4
   obtain rfl := sj H
   go_enter Tryz.func85, Tryz.ntmps85
   go_wp2_with (first | ((with_reducible refine gate_dst (N := 2) rfl ?_); refine box_event rfl (N := 2) rfl (cs := #[.int .i64 aF, .int .i64 aG]) (t := 113) BX ?_; intro aN hg w5 aD hb; have aA := am (aD); have aJ := am (GH HB hg); have aE := aJ; replace HB := bl (KL HB) hb; clear hb aD hg) | ((with_reducible refine gate_dst (N := 3) rfl ?_); refine box_event rfl (N := 3) rfl (cs := #[.int .i64 aH, .int .i64 aI]) (t := 113) BX ?_; intro aO hg w6 aD hb; have aK := am (aD); have aL := am (GH1 HB aE.out hg); have aM := aL; replace HB := bl (K1 HB aE.out) hb; have aB := am (NL aA hg); have aC := am (NG aA hg); replace aA := am (BB aA hb); clear hb aD hg; have bO := aB.out; have bP := aC.out; have ⟨_, _, _⟩ := y2 w6 aA.out; have ⟨_, _, _⟩ := y2 w6 aK.out))
   go_ret
   exact ⟨ER, K2 HB aE.out aM.out⟩
  ·rw [if_neg c4] at H
   have c4b0 : (aG == aI) = false := beq_eq_false_iff_ne.mpr c4
   have c4b1 : (aG != aI) = true := bne_iff_ne.mpr c4
   obtain rfl := sj H
   go_enter Tryz.func85, Tryz.ntmps85
   go_wp2_with (first | ((with_reducible refine gate_dst (N := 2) rfl ?_); refine box_event rfl (N := 2) rfl (cs := #[.int .i64 aF, .int .i64 aG]) (t := 113) BX ?_; intro aN hg bQ aD hb; have aA := am (aD); have aJ := am (GH HB hg); have aE := aJ; replace HB := bl (KL HB) hb; clear hb aD hg) | ((with_reducible refine gate_dst (N := 3) rfl ?_); refine box_event rfl (N := 3) rfl (cs := #[.int .i64 aH, .int .i64 aI]) (t := 113) BX ?_; intro aO hg bI aD hb; have aK := am (aD); have aL := am (GH1 HB aE.out hg); have aM := aL; replace HB := bl (K1 HB aE.out) hb; have aB := am (NL aA hg); have aC := am (NG aA hg); replace aA := am (BB aA hb); clear hb aD hg; have bJ := aB.out; have bK := aC.out; have ⟨_, _, _⟩ := y2 bI aA.out; have ⟨_, _, _⟩ := y2 bI aK.out))
   go_ret
   exact ⟨ER, K2 HB aE.out aM.out⟩
 ·rw [if_neg c3] at H
  have c3b0 : (aF == aH) = false := beq_eq_false_iff_ne.mpr c3
  have c3b1 : (aF != aH) = true := bne_iff_ne.mpr c3
  obtain rfl := sj H
  go_enter Tryz.func85, Tryz.ntmps85
  go_wp2_with (first | ((with_reducible refine gate_dst (N := 2) rfl ?_); refine box_event rfl (N := 2) rfl (cs := #[.int .i64 aF, .int .i64 aG]) (t := 113) BX ?_; intro aN hg bR aD hb; have aA := am (aD); have aJ := am (GH HB hg); have aE := aJ; replace HB := bl (KL HB) hb; clear hb aD hg) | ((with_reducible refine gate_dst (N := 3) rfl ?_); refine box_event rfl (N := 3) rfl (cs := #[.int .i64 aH, .int .i64 aI]) (t := 113) BX ?_; intro aO hg bL aD hb; have aK := am (aD); have aL := am (GH1 HB aE.out hg); have aM := aL; replace HB := bl (K1 HB aE.out) hb; have aB := am (NL aA hg); have aC := am (NG aA hg); replace aA := am (BB aA hb); clear hb aD hg; have bM := aB.out; have bN := aC.out; have ⟨_, _, _⟩ := y2 bL aA.out; have ⟨_, _, _⟩ := y2 bL aK.out))
  go_ret
  exact ⟨ER, K2 HB aE.out aM.out⟩
def laws_eqRule.f (a0_0 : Int) (a0_1 : Int) (a0_2 : Int) (a0_3 : Int) (a0_4 : Int) (a0_5 : Int) (a0_6 : Int) (a0_7 : Int) (a1_0 : Int) (a1_1 : Int) (a1_2 : Int) (a1_3 : Int) (a1_4 : Int) (a1_5 : Int) (a1_6 : Int) (a1_7 : Int) : Option (Bool) := if a0_0 = a1_0 then (if a0_1 = a1_1 then ((laws_eqBlock.f a0_2 a0_3 a1_2 a1_3).bind fun t103 => (if t103 = true then ((laws_eqBlock.f a0_4 a0_5 a1_4 a1_5).bind fun t104 => (if t104 = true then (if a0_6 = a1_6 then (if a0_7 = a1_7 then (some true) else (some false)) else (some false)) else (some false))) else (some false))) else (some false)) else (some false)
theorem laws_eqRule.calls (aV : Int) (aW : Int) (aH : Int) (aI : Int) (aN : Int) (aO : Int) (aR : Int) (aS : Int) (aX : Int) (aY : Int) (aJ : Int) (aK : Int) (aP : Int) (aQ : Int) (aT : Int) (aU : Int) (r : Bool) (w : World) (h : laws_eqRule.f aV aW aH aI aN aO aR aS aX aY aJ aK aP aQ aT aU = some r) :
  Calls Tryz.prog 64 #[.agg #[.int .i64 aV, .int .i64 aW, .int .i64 aH, .int .i64 aI, .int .i64 aN, .int .i64 aO, .int .i64 aR, .int .i64 aS], .agg #[.int .i64 aX, .int .i64 aY, .int .i64 aJ, .int .i64 aK, .int .i64 aP, .int .i64 aQ, .int .i64 aT, .int .i64 aU]] w fun e w' => e = .returned (.bool r) ∧ Below w.heap.size w w' := by
 have kW := Tryz.underlying115
 have kX := Tryz.underlying113
 have HB := am (Below.refl w.heap.size w)
 have H : (if aV = aX then (if aW = aY then ((laws_eqBlock.f aH aI aJ aK).bind fun bC => (if bC = true then ((laws_eqBlock.f aN aO aP aQ).bind fun bB => (if bB = true then (if aR = aT then (if aS = aU then (some true) else (some false)) else (some false)) else (some false))) else (some false))) else (some false)) else (some false)) = some r := h
 clear h
 by_cases c3 : aV = aX
 ·rw [if_pos c3] at H
  have c3b0 : (aV == aX) = true := beq_iff_eq.mpr c3
  have c3b1 : (aV != aX) = false := bne_eq_false_iff_eq.mpr c3
  clear c3
  by_cases c4 : aW = aY
  ·rw [if_pos c4] at H
   have c4b0 : (aW == aY) = true := beq_iff_eq.mpr c4
   have c4b1 : (aW != aY) = false := bne_eq_false_iff_eq.mpr c4
   clear c4
   replace H := bm H
   obtain ⟨bC, kY, H⟩ := H
   replace H : (if bC = true then ((laws_eqBlock.f aN aO aP aQ).bind fun bB => (if bB = true then (if aR = aT then (if aS = aU then (some true) else (some false)) else (some false)) else (some false))) else (some false)) = some r := H
   have A5 := Aside0.mk kY
   clear kY
   by_cases c6 : bC = true
   ·subst c6
    have H1 := pf H
    clear H
    have H := H1
    clear H1
    replace H := bm H
    obtain ⟨bB, kZ, H⟩ := H
    replace H : (if bB = true then (if aR = aT then (if aS = aU then (some true) else (some false)) else (some false)) else (some false)) = some r := H
    have A7 := Aside0.mk kZ
    clear kZ
    by_cases c8 : bB = true
    ·subst c8
     have H1 := pf H
     clear H
     have H := H1
     clear H1
     by_cases c9 : aR = aT
     ·rw [if_pos c9] at H
      have c9b0 : (aR == aT) = true := beq_iff_eq.mpr c9
      have c9b1 : (aR != aT) = false := bne_eq_false_iff_eq.mpr c9
      clear c9
      by_cases bD : aS = aU
      ·rw [if_pos bD] at H
       have c10b0 : (aS == aU) = true := beq_iff_eq.mpr bD
       have c10b1 : (aS != aU) = false := bne_eq_false_iff_eq.mpr bD
       clear bD
       obtain rfl := sj H
       go_enter Tryz.func64, Tryz.ntmps64
       go_wp2_with (first | ((with_reducible refine gate_dst (N := 2) rfl ?_); refine box_event rfl (N := 2) rfl (cs := #[.int .i64 aV, .int .i64 aW, .int .i64 aH, .int .i64 aI, .int .i64 aN, .int .i64 aO, .int .i64 aR, .int .i64 aS]) (t := 115) BX ?_; intro aZ hg mC aF hb; have aA := am (aF); have aL := am (GH HB hg); have aC := aL; replace HB := bl (KL HB) hb; clear hb aF hg) | ((with_reducible refine gate_dst (N := 3) rfl ?_); refine box_event rfl (N := 3) rfl (cs := #[.int .i64 aX, .int .i64 aY, .int .i64 aJ, .int .i64 aK, .int .i64 aP, .int .i64 aQ, .int .i64 aT, .int .i64 aU]) (t := 115) BX ?_; intro bA hg lA aF hb; have aB := am (aF); have aM := am (GH1 HB aC.out hg); have aG := aM; replace HB := bl (K1 HB aC.out) hb; have aD := am (NL aA hg); have aE := am (NG aA hg); replace aA := am (BB aA hb); clear hb aF hg; have lB := aD.out; have lC := aE.out; have ⟨_, _, _, _, _, _, _, _, _⟩ := y8 lA aA.out; have ⟨_, _, _, _, _, _, _, _, _⟩ := y8 lA aB.out) | ((with_reducible refine gate_callee (f := 85) rfl ?_); refine goesL_ (some 19) rfl rfl Tryz.func85 (by kernel_rfl) rfl #[.agg #[.int .i64 aH, .int .i64 aI], .agg #[.int .i64 aJ, .int .i64 aK]] rfl MT ?_; (with_reducible refine (laws_eqBlock.calls aH aI aJ aK true _ A5.out).mono ?_); rintro e lD ⟨rfl, hb⟩; refine ⟨_, rfl, ?_⟩; replace aA := am (BB aA hb); replace aB := am (BB aB hb); replace HB := bl (K2 HB aC.out aG.out) hb; (try clear hb); have ⟨_, _, _, _, _, _, _, _, _⟩ := y8 lD aA.out; have ⟨_, _, _, _, _, _, _, _, _⟩ := y8 lD aB.out) | ((with_reducible refine gate_callee (f := 85) rfl ?_); refine goesL_ (some 25) rfl rfl Tryz.func85 (by kernel_rfl) rfl #[.agg #[.int .i64 aN, .int .i64 aO], .agg #[.int .i64 aP, .int .i64 aQ]] rfl MT ?_; (with_reducible refine (laws_eqBlock.calls aN aO aP aQ true _ A7.out).mono ?_); rintro e lE ⟨rfl, hb⟩; refine ⟨_, rfl, ?_⟩; replace aA := am (BB aA hb); replace aB := am (BB aB hb); replace HB := bl (K2 HB aC.out aG.out) hb; (try clear hb); have ⟨_, _, _, _, _, _, _, _, _⟩ := y8 lE aA.out; have ⟨_, _, _, _, _, _, _, _, _⟩ := y8 lE aB.out))
       go_ret
       exact ⟨ER, K2 HB aC.out aG.out⟩
      ·rw [if_neg bD] at H
       have c10b0 : (aS == aU) = false := beq_eq_false_iff_ne.mpr bD
       have c10b1 : (aS != aU) = true := bne_iff_ne.mpr bD
       obtain rfl := sj H
       go_enter Tryz.func64, Tryz.ntmps64
       go_wp2_with (first | ((with_reducible refine gate_dst (N := 2) rfl ?_); refine box_event rfl (N := 2) rfl (cs := #[.int .i64 aV, .int .i64 aW, .int .i64 aH, .int .i64 aI, .int .i64 aN, .int .i64 aO, .int .i64 aR, .int .i64 aS]) (t := 115) BX ?_; intro aZ hg mD aF hb; have aA := am (aF); have aL := am (GH HB hg); have aC := aL; replace HB := bl (KL HB) hb; clear hb aF hg) | ((with_reducible refine gate_dst (N := 3) rfl ?_); refine box_event rfl (N := 3) rfl (cs := #[.int .i64 aX, .int .i64 aY, .int .i64 aJ, .int .i64 aK, .int .i64 aP, .int .i64 aQ, .int .i64 aT, .int .i64 aU]) (t := 115) BX ?_; intro bA hg lF aF hb; have aB := am (aF); have aM := am (GH1 HB aC.out hg); have aG := aM; replace HB := bl (K1 HB aC.out) hb; have aD := am (NL aA hg); have aE := am (NG aA hg); replace aA := am (BB aA hb); clear hb aF hg; have lG := aD.out; have lH := aE.out; have ⟨_, _, _, _, _, _, _, _, _⟩ := y8 lF aA.out; have ⟨_, _, _, _, _, _, _, _, _⟩ := y8 lF aB.out) | ((with_reducible refine gate_callee (f := 85) rfl ?_); refine goesL_ (some 19) rfl rfl Tryz.func85 (by kernel_rfl) rfl #[.agg #[.int .i64 aH, .int .i64 aI], .agg #[.int .i64 aJ, .int .i64 aK]] rfl MT ?_; (with_reducible refine (laws_eqBlock.calls aH aI aJ aK true _ A5.out).mono ?_); rintro e lI ⟨rfl, hb⟩; refine ⟨_, rfl, ?_⟩; replace aA := am (BB aA hb); replace aB := am (BB aB hb); replace HB := bl (K2 HB aC.out aG.out) hb; (try clear hb); have ⟨_, _, _, _, _, _, _, _, _⟩ := y8 lI aA.out; have ⟨_, _, _, _, _, _, _, _, _⟩ := y8 lI aB.out) | ((with_reducible refine gate_callee (f := 85) rfl ?_); refine goesL_ (some 25) rfl rfl Tryz.func85 (by kernel_rfl) rfl #[.agg #[.int .i64 aN, .int .i64 aO], .agg #[.int .i64 aP, .int .i64 aQ]] rfl MT ?_; (with_reducible refine (laws_eqBlock.calls aN aO aP aQ true _ A7.out).mono ?_); rintro e lJ ⟨rfl, hb⟩; refine ⟨_, rfl, ?_⟩; replace aA := am (BB aA hb); replace aB := am (BB aB hb); replace HB := bl (K2 HB aC.out aG.out) hb; (try clear hb); have ⟨_, _, _, _, _, _, _, _, _⟩ := y8 lJ aA.out; have ⟨_, _, _, _, _, _, _, _, _⟩ := y8 lJ aB.out))
       go_ret
       exact ⟨ER, K2 HB aC.out aG.out⟩
     ·rw [if_neg c9] at H
      have c9b0 : (aR == aT) = false := beq_eq_false_iff_ne.mpr c9
      have c9b1 : (aR != aT) = true := bne_iff_ne.mpr c9
      obtain rfl := sj H
      go_enter Tryz.func64, Tryz.ntmps64
      go_wp2_with (first | ((with_reducible refine gate_dst (N := 2) rfl ?_); refine box_event rfl (N := 2) rfl (cs := #[.int .i64 aV, .int .i64 aW, .int .i64 aH, .int .i64 aI, .int .i64 aN, .int .i64 aO, .int .i64 aR, .int .i64 aS]) (t := 115) BX ?_; intro aZ hg mE aF hb; have aA := am (aF); have aL := am (GH HB hg); have aC := aL; replace HB := bl (KL HB) hb; clear hb aF hg) | ((with_reducible refine gate_dst (N := 3) rfl ?_); refine box_event rfl (N := 3) rfl (cs := #[.int .i64 aX, .int .i64 aY, .int .i64 aJ, .int .i64 aK, .int .i64 aP, .int .i64 aQ, .int .i64 aT, .int .i64 aU]) (t := 115) BX ?_; intro bA hg lK aF hb; have aB := am (aF); have aM := am (GH1 HB aC.out hg); have aG := aM; replace HB := bl (K1 HB aC.out) hb; have aD := am (NL aA hg); have aE := am (NG aA hg); replace aA := am (BB aA hb); clear hb aF hg; have lL := aD.out; have lM := aE.out; have ⟨_, _, _, _, _, _, _, _, _⟩ := y8 lK aA.out; have ⟨_, _, _, _, _, _, _, _, _⟩ := y8 lK aB.out) | ((with_reducible refine gate_callee (f := 85) rfl ?_); refine goesL_ (some 19) rfl rfl Tryz.func85 (by kernel_rfl) rfl #[.agg #[.int .i64 aH, .int .i64 aI], .agg #[.int .i64 aJ, .int .i64 aK]] rfl MT ?_; (with_reducible refine (laws_eqBlock.calls aH aI aJ aK true _ A5.out).mono ?_); rintro e lN ⟨rfl, hb⟩; refine ⟨_, rfl, ?_⟩; replace aA := am (BB aA hb); replace aB := am (BB aB hb); replace HB := bl (K2 HB aC.out aG.out) hb; (try clear hb); have ⟨_, _, _, _, _, _, _, _, _⟩ := y8 lN aA.out; have ⟨_, _, _, _, _, _, _, _, _⟩ := y8 lN aB.out) | ((with_reducible refine gate_callee (f := 85) rfl ?_); refine goesL_ (some 25) rfl rfl Tryz.func85 (by kernel_rfl) rfl #[.agg #[.int .i64 aN, .int .i64 aO], .agg #[.int .i64 aP, .int .i64 aQ]] rfl MT ?_; (with_reducible refine (laws_eqBlock.calls aN aO aP aQ true _ A7.out).mono ?_); rintro e lO ⟨rfl, hb⟩; refine ⟨_, rfl, ?_⟩; replace aA := am (BB aA hb); replace aB := am (BB aB hb); replace HB := bl (K2 HB aC.out aG.out) hb; (try clear hb); have ⟨_, _, _, _, _, _, _, _, _⟩ := y8 lO aA.out; have ⟨_, _, _, _, _, _, _, _, _⟩ := y8 lO aB.out))
      go_ret
      exact ⟨ER, K2 HB aC.out aG.out⟩
    ·replace c8 := Bool.eq_false_iff.mpr c8
     subst c8
     have H1 := nf H
     clear H
     have H := H1
     clear H1
     obtain rfl := sj H
     go_enter Tryz.func64, Tryz.ntmps64
     go_wp2_with (first | ((with_reducible refine gate_dst (N := 2) rfl ?_); refine box_event rfl (N := 2) rfl (cs := #[.int .i64 aV, .int .i64 aW, .int .i64 aH, .int .i64 aI, .int .i64 aN, .int .i64 aO, .int .i64 aR, .int .i64 aS]) (t := 115) BX ?_; intro aZ hg mF aF hb; have aA := am (aF); have aL := am (GH HB hg); have aC := aL; replace HB := bl (KL HB) hb; clear hb aF hg) | ((with_reducible refine gate_dst (N := 3) rfl ?_); refine box_event rfl (N := 3) rfl (cs := #[.int .i64 aX, .int .i64 aY, .int .i64 aJ, .int .i64 aK, .int .i64 aP, .int .i64 aQ, .int .i64 aT, .int .i64 aU]) (t := 115) BX ?_; intro bA hg lP aF hb; have aB := am (aF); have aM := am (GH1 HB aC.out hg); have aG := aM; replace HB := bl (K1 HB aC.out) hb; have aD := am (NL aA hg); have aE := am (NG aA hg); replace aA := am (BB aA hb); clear hb aF hg; have lQ := aD.out; have lR := aE.out; have ⟨_, _, _, _, _, _, _, _, _⟩ := y8 lP aA.out; have ⟨_, _, _, _, _, _, _, _, _⟩ := y8 lP aB.out) | ((with_reducible refine gate_callee (f := 85) rfl ?_); refine goesL_ (some 19) rfl rfl Tryz.func85 (by kernel_rfl) rfl #[.agg #[.int .i64 aH, .int .i64 aI], .agg #[.int .i64 aJ, .int .i64 aK]] rfl MT ?_; (with_reducible refine (laws_eqBlock.calls aH aI aJ aK true _ A5.out).mono ?_); rintro e lS ⟨rfl, hb⟩; refine ⟨_, rfl, ?_⟩; replace aA := am (BB aA hb); replace aB := am (BB aB hb); replace HB := bl (K2 HB aC.out aG.out) hb; (try clear hb); have ⟨_, _, _, _, _, _, _, _, _⟩ := y8 lS aA.out; have ⟨_, _, _, _, _, _, _, _, _⟩ := y8 lS aB.out) | ((with_reducible refine gate_callee (f := 85) rfl ?_); refine goesL_ (some 25) rfl rfl Tryz.func85 (by kernel_rfl) rfl #[.agg #[.int .i64 aN, .int .i64 aO], .agg #[.int .i64 aP, .int .i64 aQ]] rfl MT ?_; (with_reducible refine (laws_eqBlock.calls aN aO aP aQ false _ A7.out).mono ?_); rintro e mG ⟨rfl, hb⟩; refine ⟨_, rfl, ?_⟩; replace aA := am (BB aA hb); replace aB := am (BB aB hb); replace HB := bl (K2 HB aC.out aG.out) hb; (try clear hb)))
     go_ret
     exact ⟨ER, K2 HB aC.out aG.out⟩
   ·replace c6 := Bool.eq_false_iff.mpr c6
    subst c6
    have H1 := nf H
    clear H
    have H := H1
    clear H1
    obtain rfl := sj H
    go_enter Tryz.func64, Tryz.ntmps64
    go_wp2_with (first | ((with_reducible refine gate_dst (N := 2) rfl ?_); refine box_event rfl (N := 2) rfl (cs := #[.int .i64 aV, .int .i64 aW, .int .i64 aH, .int .i64 aI, .int .i64 aN, .int .i64 aO, .int .i64 aR, .int .i64 aS]) (t := 115) BX ?_; intro aZ hg mH aF hb; have aA := am (aF); have aL := am (GH HB hg); have aC := aL; replace HB := bl (KL HB) hb; clear hb aF hg) | ((with_reducible refine gate_dst (N := 3) rfl ?_); refine box_event rfl (N := 3) rfl (cs := #[.int .i64 aX, .int .i64 aY, .int .i64 aJ, .int .i64 aK, .int .i64 aP, .int .i64 aQ, .int .i64 aT, .int .i64 aU]) (t := 115) BX ?_; intro bA hg lT aF hb; have aB := am (aF); have aM := am (GH1 HB aC.out hg); have aG := aM; replace HB := bl (K1 HB aC.out) hb; have aD := am (NL aA hg); have aE := am (NG aA hg); replace aA := am (BB aA hb); clear hb aF hg; have lU := aD.out; have lV := aE.out; have ⟨_, _, _, _, _, _, _, _, _⟩ := y8 lT aA.out; have ⟨_, _, _, _, _, _, _, _, _⟩ := y8 lT aB.out) | ((with_reducible refine gate_callee (f := 85) rfl ?_); refine goesL_ (some 19) rfl rfl Tryz.func85 (by kernel_rfl) rfl #[.agg #[.int .i64 aH, .int .i64 aI], .agg #[.int .i64 aJ, .int .i64 aK]] rfl MT ?_; (with_reducible refine (laws_eqBlock.calls aH aI aJ aK false _ A5.out).mono ?_); rintro e mI ⟨rfl, hb⟩; refine ⟨_, rfl, ?_⟩; replace aA := am (BB aA hb); replace aB := am (BB aB hb); replace HB := bl (K2 HB aC.out aG.out) hb; (try clear hb)))
    go_ret
    exact ⟨ER, K2 HB aC.out aG.out⟩
  ·rw [if_neg c4] at H
   have c4b0 : (aW == aY) = false := beq_eq_false_iff_ne.mpr c4
   have c4b1 : (aW != aY) = true := bne_iff_ne.mpr c4
   obtain rfl := sj H
   go_enter Tryz.func64, Tryz.ntmps64
   go_wp2_with (first | ((with_reducible refine gate_dst (N := 2) rfl ?_); refine box_event rfl (N := 2) rfl (cs := #[.int .i64 aV, .int .i64 aW, .int .i64 aH, .int .i64 aI, .int .i64 aN, .int .i64 aO, .int .i64 aR, .int .i64 aS]) (t := 115) BX ?_; intro aZ hg mJ aF hb; have aA := am (aF); have aL := am (GH HB hg); have aC := aL; replace HB := bl (KL HB) hb; clear hb aF hg) | ((with_reducible refine gate_dst (N := 3) rfl ?_); refine box_event rfl (N := 3) rfl (cs := #[.int .i64 aX, .int .i64 aY, .int .i64 aJ, .int .i64 aK, .int .i64 aP, .int .i64 aQ, .int .i64 aT, .int .i64 aU]) (t := 115) BX ?_; intro bA hg lW aF hb; have aB := am (aF); have aM := am (GH1 HB aC.out hg); have aG := aM; replace HB := bl (K1 HB aC.out) hb; have aD := am (NL aA hg); have aE := am (NG aA hg); replace aA := am (BB aA hb); clear hb aF hg; have lX := aD.out; have lY := aE.out; have ⟨_, _, _, _, _, _, _, _, _⟩ := y8 lW aA.out; have ⟨_, _, _, _, _, _, _, _, _⟩ := y8 lW aB.out))
   go_ret
   exact ⟨ER, K2 HB aC.out aG.out⟩
 ·rw [if_neg c3] at H
  have c3b0 : (aV == aX) = false := beq_eq_false_iff_ne.mpr c3
  have c3b1 : (aV != aX) = true := bne_iff_ne.mpr c3
  obtain rfl := sj H
  go_enter Tryz.func64, Tryz.ntmps64
  go_wp2_with (first | ((with_reducible refine gate_dst (N := 2) rfl ?_); refine box_event rfl (N := 2) rfl (cs := #[.int .i64 aV, .int .i64 aW, .int .i64 aH, .int .i64 aI, .int .i64 aN, .int .i64 aO, .int .i64 aR, .int .i64 aS]) (t := 115) BX ?_; intro aZ hg mK aF hb; have aA := am (aF); have aL := am (GH HB hg); have aC := aL; replace HB := bl (KL HB) hb; clear hb aF hg) | ((with_reducible refine gate_dst (N := 3) rfl ?_); refine box_event rfl (N := 3) rfl (cs := #[.int .i64 aX, .int .i64 aY, .int .i64 aJ, .int .i64 aK, .int .i64 aP, .int .i64 aQ, .int .i64 aT, .int .i64 aU]) (t := 115) BX ?_; intro bA hg lZ aF hb; have aB := am (aF); have aM := am (GH1 HB aC.out hg); have aG := aM; replace HB := bl (K1 HB aC.out) hb; have aD := am (NL aA hg); have aE := am (NG aA hg); replace aA := am (BB aA hb); clear hb aF hg; have mA := aD.out; have mB := aE.out; have ⟨_, _, _, _, _, _, _, _, _⟩ := y8 lZ aA.out; have ⟨_, _, _, _, _, _, _, _, _⟩ := y8 lZ aB.out))
  go_ret
  exact ⟨ER, K2 HB aC.out aG.out⟩
def laws_eqRuleS.l0 : Nat → List (S115) → List (S115) → Int → Option (Bool)
 | 0, _, _, _ => none
 | k + 1, x0, x1, x5 => if x5 < (x0.length : Int) then (if 0 ≤ x5 then (if x5 < (x1.length : Int) then ((laws_eqRule.f ((rd_T115 x0 x5).f0) ((rd_T115 x0 x5).f1) ((rd_T115 x0 x5).f2.f0) ((rd_T115 x0 x5).f2.f1) ((rd_T115 x0 x5).f3.f0) ((rd_T115 x0 x5).f3.f1) ((rd_T115 x0 x5).f4) ((rd_T115 x0 x5).f5) ((rd_T115 x1 x5).f0) ((rd_T115 x1 x5).f1) ((rd_T115 x1 x5).f2.f0) ((rd_T115 x1 x5).f2.f1) ((rd_T115 x1 x5).f3.f0) ((rd_T115 x1 x5).f3.f1) ((rd_T115 x1 x5).f4) ((rd_T115 x1 x5).f5)).bind fun t103 => (if t103 = true then (laws_eqRuleS.l0 k x0 x1 (wrap64 (x5 + 1))) else (some false))) else (none)) else (none)) else (some true)
def laws_eqRuleS.f (k : Nat) (l0 : List (S115)) (l1 : List (S115)) : Option (Bool) := if (l0.length : Int) = (l1.length : Int) then (laws_eqRuleS.l0 k l0 l1 0) else (some false)
def laws_eqRuleS.T6 : Bool × List (List Nat × List Nat) := (true, [([], []), ([], []), ([0, 1], [0, 1]), ([2], [2]), ([], []), ([], []), ([4, 5], [4, 5]), ([6], [6]), ([3, 7], [3, 7]), ([8], [8])])
def laws_eqRuleS.B6 : List Nat := [0, 0, 3, 7, 0, 0, 48, 112, 255, 511]
theorem laws_eqRuleS.tab6 : rtab .any (opsOf Tryz.f41 6) = laws_eqRuleS.T6 := by kernel_rfl
theorem laws_eqRuleS.bits6 : waitsOk laws_eqRuleS.T6.2 laws_eqRuleS.B6 = true := by kernel_rfl
theorem laws_eqRuleS.calls (k : Nat) (A0 : Option Addr) (c0 : Nat) (l0 : List (S115)) (A1 : Option Addr) (c1 : Nat) (l1 : List (S115)) (r : Bool) (w : World) (bT : Kd.C k115 w A0 l0.length l0) (bU : l0.length ≤ c0) (bV : Kd.C k115 w A1 l1.length l1) (bW : l1.length ≤ c1) (h : laws_eqRuleS.f k l0 l1 = some r) :
  Calls Tryz.prog 41 #[.slice A0 l0.length c0, .slice A1 l1.length c1] w fun e w' => e = .returned (.bool r) ∧ Below w.heap.size w w' := by
 have bX := Tryz.underlying115
 have bY := Aside0.mk bT
 have cB := Aside0.mk bU
 clear bT bU
 have bZ := Aside0.mk bV
 have cC := Aside0.mk bW
 clear bV bW
 have HB := am (Below.refl w.heap.size w)
 have H : (if (l0.length : Int) = (l1.length : Int) then (laws_eqRuleS.l0 k l0 l1 0) else (some false)) = some r := h
 clear h
 by_cases c3 : (l0.length : Int) = (l1.length : Int)
 ·rw [if_pos c3] at H
  have c3b0 : ((l0.length : Int) == (l1.length : Int)) = true := beq_iff_eq.mpr c3
  have c3b1 : ((l0.length : Int) != (l1.length : Int)) = false := bne_eq_false_iff_eq.mpr c3
  have c3b2 : (l0.length == l1.length) = true := by first | simpa using c3 | (simp at c3 ⊢; omega)
  clear c3
  have H' := Aside0.mk H
  clear H
  go_enter Tryz.func41, Tryz.ntmps41
  go_wp2
  go_loopg [5] k (fun kq v5 w' => ∃ (aA : Int), v5 = .int .i64 aA ∧ Aside0 (laws_eqRuleS.l0 kq l0 l1 aA = some r) ∧ Aside0 (kq ≤ k) ∧ Aside0 (Below w.heap.size w w'))
  case atStart => exact ⟨(0), (by first | rfl | (simp; done) | (simp [*]; done)), H', ⟨Nat.le_refl _⟩, ⟨KL HB⟩⟩
  case round =>
   clear H'
   try clear c1
   try clear p2
   try clear c3
   try clear c3b0
   try clear c3b1
   try clear c3b2
   obtain ⟨aA, rfl, HA, HK1, HB⟩ := hrel
   cases gk with
   | zero => exact absurd HA.out (by simp [laws_eqRuleS.l0])
   | succ k1 =>
    have H := HA.out
    clear HA
    simp only [laws_eqRuleS.l0] at H
    by_cases c4 : aA < (l0.length : Int)
    ·rw [if_pos c4] at H
     have c4b0 : decide (aA < (l0.length : Int)) = true := decide_eq_true c4
     clear c4
     by_cases c5 : 0 ≤ aA
     ·rw [if_pos c5] at H
      have c5b0 : decide (0 ≤ aA) = true := decide_eq_true c5
      clear c5
      by_cases c6 : aA < (l1.length : Int)
      ·rw [if_pos c6] at H
       have c6b0 : decide (aA < (l1.length : Int)) = true := decide_eq_true c6
       clear c6
       replace H := bm H
       obtain ⟨bR, cA, H⟩ := H
       replace H : (if bR = true then (laws_eqRuleS.l0 k1 l0 l1 (wrap64 (aA + 1))) else (some false)) = some r := H
       have A7 := Aside0.mk cA
       clear cA
       by_cases c8 : bR = true
       ·subst c8
        have H1 := pf H
        clear H
        have H := H1
        clear H1
        have H' := Aside0.mk H
        clear H
        try go_wp2
        replace HB := am (below_drew1 HB.out)
        have bL : 0 ≤ (aA : Int) := OD
        have bM : aA < (l0.length : Int) := OD
        obtain ⟨aB, bP, aD, aE, aF, aG, aH, aI, aJ, aK⟩ := at_T115 bY.out aA bL bM
        have aT := aK
        have aU := aJ
        have aV := aI
        have aW := aH
        have aX := aG
        have aY := aF
        have aZ := aE
        have bA := aD
        cases bP
        replace aD := CX HB.out aD
        replace aE := CX HB.out aE
        replace aF := CX HB.out aF
        replace aG := CX HB.out aG
        replace aH := CX HB.out aH
        replace aI := CX HB.out aI
        replace aJ := CX HB.out aJ
        replace aK := CX HB.out aK
        replace bL := eq_true bL
        replace bM := eq_true bM
        have bN : 0 ≤ (aA : Int) := OD
        have bO : aA < (l1.length : Int) := OD
        obtain ⟨aC, bQ, aL, aM, aN, aO, aP, aQ, aR, aS⟩ := at_T115 bZ.out aA bN bO
        have bB := aS
        have bC := aR
        have bD := aQ
        have bE := aP
        have bF := aO
        have bG := aN
        have bH := aM
        have bI := aL
        cases bQ
        replace aL := CX HB.out aL
        replace aM := CX HB.out aM
        replace aN := CX HB.out aN
        replace aO := CX HB.out aO
        replace aP := CX HB.out aP
        replace aQ := CX HB.out aQ
        replace aR := CX HB.out aR
        replace aS := CX HB.out aS
        replace bN := eq_true bN
        replace bO := eq_true bO
        refine start_ (n := 10) (S := fun w' => w'.cell? (aB.add ((aA).toNat * 8)) = some (.int .i64 ((rd_T115 l0 aA).f0)) ∧ w'.cell? ⟨(aB.add ((aA).toNat * 8)).block, (aB.add ((aA).toNat * 8)).off + 1, none⟩ = some (.int .i64 ((rd_T115 l0 aA).f1)) ∧ w'.cell? ⟨(aB.add ((aA).toNat * 8)).block, (aB.add ((aA).toNat * 8)).off + 2, none⟩ = some (.int .i64 ((rd_T115 l0 aA).f2.f0)) ∧ w'.cell? ⟨(aB.add ((aA).toNat * 8)).block, (aB.add ((aA).toNat * 8)).off + 3, none⟩ = some (.int .i64 ((rd_T115 l0 aA).f2.f1)) ∧ w'.cell? ⟨(aB.add ((aA).toNat * 8)).block, (aB.add ((aA).toNat * 8)).off + 4, none⟩ = some (.int .i64 ((rd_T115 l0 aA).f3.f0)) ∧ w'.cell? ⟨(aB.add ((aA).toNat * 8)).block, (aB.add ((aA).toNat * 8)).off + 5, none⟩ = some (.int .i64 ((rd_T115 l0 aA).f3.f1)) ∧ w'.cell? ⟨(aB.add ((aA).toNat * 8)).block, (aB.add ((aA).toNat * 8)).off + 6, none⟩ = some (.int .i64 ((rd_T115 l0 aA).f4)) ∧ w'.cell? ⟨(aB.add ((aA).toNat * 8)).block, (aB.add ((aA).toNat * 8)).off + 7, none⟩ = some (.int .i64 ((rd_T115 l0 aA).f5)) ∧ w'.cell? (aC.add ((aA).toNat * 8)) = some (.int .i64 ((rd_T115 l1 aA).f0)) ∧ w'.cell? ⟨(aC.add ((aA).toNat * 8)).block, (aC.add ((aA).toNat * 8)).off + 1, none⟩ = some (.int .i64 ((rd_T115 l1 aA).f1)) ∧ w'.cell? ⟨(aC.add ((aA).toNat * 8)).block, (aC.add ((aA).toNat * 8)).off + 2, none⟩ = some (.int .i64 ((rd_T115 l1 aA).f2.f0)) ∧ w'.cell? ⟨(aC.add ((aA).toNat * 8)).block, (aC.add ((aA).toNat * 8)).off + 3, none⟩ = some (.int .i64 ((rd_T115 l1 aA).f2.f1)) ∧ w'.cell? ⟨(aC.add ((aA).toNat * 8)).block, (aC.add ((aA).toNat * 8)).off + 4, none⟩ = some (.int .i64 ((rd_T115 l1 aA).f3.f0)) ∧ w'.cell? ⟨(aC.add ((aA).toNat * 8)).block, (aC.add ((aA).toNat * 8)).off + 5, none⟩ = some (.int .i64 ((rd_T115 l1 aA).f3.f1)) ∧ w'.cell? ⟨(aC.add ((aA).toNat * 8)).block, (aC.add ((aA).toNat * 8)).off + 6, none⟩ = some (.int .i64 ((rd_T115 l1 aA).f4)) ∧ w'.cell? ⟨(aC.add ((aA).toNat * 8)).block, (aC.add ((aA).toNat * 8)).off + 7, none⟩ = some (.int .i64 ((rd_T115 l1 aA).f5))) (ds := []) (tf 0 10) (by kernel_rfl) rfl rfl ⟨(CY HB.out bA), (CY HB.out aZ), (CY HB.out aY), (CY HB.out aX), (CY HB.out aW), (CY HB.out aV), (CY HB.out aU), (CY HB.out aT), (CY HB.out bI), (CY HB.out bH), (CY HB.out bG), (CY HB.out bF), (CY HB.out bE), (CY HB.out bD), (CY HB.out bC), (CY HB.out bB)⟩ (fun bJ => ?_); refine with_tabW laws_eqRuleS.tab6 laws_eqRuleS.bits6 (fun bK bS => ?_)
        generalize wr.drew = w9 at HB aD aE aF aG aH aI aJ aK aL aM aN aO aP aQ aR aS bJ ⊢
        refine pv bK 0 17 (tf 1 9) ?_
        refine pv bK 1 18 (tf 2 8) ?_
        refine pv bK 2 19 (tf 3 7) ?_
        refine pv bK 4 21 (tr [3, 1, 1, 5]) ?_
        refine pv bK 5 22 (tr [3, 1, 2, 4]) ?_
        refine pv bK 6 23 (tr [3, 1, 3, 3]) ?_
        refine tk 3 (some 20) (tf 7 3) (take_ofW bK.out bS.out (by kernel_rfl)) bJ ?_
        refine tk 7 (some 24) (tf 8 2) (take_ofW bK.out bS.out (by kernel_rfl)) bJ ?_
        refine one_ (i := 8) (N := some 25) (tf 9 1) rfl rfl (one_of bK.out (by kernel_rfl)) (by decide) (fun K hK => ?_)
        refine goes_ Tryz.func64 (by kernel_rfl) rfl #[.agg #[.int .i64 ((rd_T115 l0 aA).f0), .int .i64 ((rd_T115 l0 aA).f1), .int .i64 ((rd_T115 l0 aA).f2.f0), .int .i64 ((rd_T115 l0 aA).f2.f1), .int .i64 ((rd_T115 l0 aA).f3.f0), .int .i64 ((rd_T115 l0 aA).f3.f1), .int .i64 ((rd_T115 l0 aA).f4), .int .i64 ((rd_T115 l0 aA).f5)], .agg #[.int .i64 ((rd_T115 l1 aA).f0), .int .i64 ((rd_T115 l1 aA).f1), .int .i64 ((rd_T115 l1 aA).f2.f0), .int .i64 ((rd_T115 l1 aA).f2.f1), .int .i64 ((rd_T115 l1 aA).f3.f0), .int .i64 ((rd_T115 l1 aA).f3.f1), .int .i64 ((rd_T115 l1 aA).f4), .int .i64 ((rd_T115 l1 aA).f5)]] (by rfl) rfl rfl MT ?_
        with_reducible refine (laws_eqRule.calls ((rd_T115 l0 aA).f0) ((rd_T115 l0 aA).f1) ((rd_T115 l0 aA).f2.f0) ((rd_T115 l0 aA).f2.f1) ((rd_T115 l0 aA).f3.f0) ((rd_T115 l0 aA).f3.f1) ((rd_T115 l0 aA).f4) ((rd_T115 l0 aA).f5) ((rd_T115 l1 aA).f0) ((rd_T115 l1 aA).f1) ((rd_T115 l1 aA).f2.f0) ((rd_T115 l1 aA).f2.f1) ((rd_T115 l1 aA).f3.f0) ((rd_T115 l1 aA).f3.f1) ((rd_T115 l1 aA).f4) ((rd_T115 l1 aA).f5) true _ A7.out).mono ?_
        rintro e cD ⟨rfl, hb⟩
        refine ⟨_, rfl, ?_⟩
        replace HB := bl (KL HB) hb
        (try clear hb)
        (try clear hb2)
        (try clear hk)
        (try clear hi)
        refine hK.out _ _ ⟨(CY HB.out bA), (CY HB.out aZ), (CY HB.out aY), (CY HB.out aX), (CY HB.out aW), (CY HB.out aV), (CY HB.out aU), (CY HB.out aT), (CY HB.out bI), (CY HB.out bH), (CY HB.out bG), (CY HB.out bF), (CY HB.out bE), (CY HB.out bD), (CY HB.out bC), (CY HB.out bB)⟩ (fun bJ => ?_)
        clear hK K
        refine nm (some 25) ?_
        refine pv bK 9 26 (tf 10 0) ?_
        refine done_ (done_of bK.out (by kernel_rfl)) ?_
        try go_wp2
        go_roundg k1
        case measure => have := HK1.out; omega
        case rel => exact ⟨(wrap64 (aA + 1)), (by first | rfl | (simp; done) | (simp [*]; done)), H', ⟨by have := HK1.out; omega⟩, ⟨KL HB⟩⟩
       ·replace c8 := Bool.eq_false_iff.mpr c8
        subst c8
        have H1 := nf H
        clear H
        have H := H1
        clear H1
        obtain rfl := sj H
        try go_wp2
        replace HB := am (below_drew1 HB.out)
        have bL : 0 ≤ (aA : Int) := OD
        have bM : aA < (l0.length : Int) := OD
        obtain ⟨aB, bP, aD, aE, aF, aG, aH, aI, aJ, aK⟩ := at_T115 bY.out aA bL bM
        have aT := aK
        have aU := aJ
        have aV := aI
        have aW := aH
        have aX := aG
        have aY := aF
        have aZ := aE
        have bA := aD
        cases bP
        replace aD := CX HB.out aD
        replace aE := CX HB.out aE
        replace aF := CX HB.out aF
        replace aG := CX HB.out aG
        replace aH := CX HB.out aH
        replace aI := CX HB.out aI
        replace aJ := CX HB.out aJ
        replace aK := CX HB.out aK
        replace bL := eq_true bL
        replace bM := eq_true bM
        have bN : 0 ≤ (aA : Int) := OD
        have bO : aA < (l1.length : Int) := OD
        obtain ⟨aC, bQ, aL, aM, aN, aO, aP, aQ, aR, aS⟩ := at_T115 bZ.out aA bN bO
        have bB := aS
        have bC := aR
        have bD := aQ
        have bE := aP
        have bF := aO
        have bG := aN
        have bH := aM
        have bI := aL
        cases bQ
        replace aL := CX HB.out aL
        replace aM := CX HB.out aM
        replace aN := CX HB.out aN
        replace aO := CX HB.out aO
        replace aP := CX HB.out aP
        replace aQ := CX HB.out aQ
        replace aR := CX HB.out aR
        replace aS := CX HB.out aS
        replace bN := eq_true bN
        replace bO := eq_true bO
        refine start_ (n := 10) (S := fun w' => w'.cell? (aB.add ((aA).toNat * 8)) = some (.int .i64 ((rd_T115 l0 aA).f0)) ∧ w'.cell? ⟨(aB.add ((aA).toNat * 8)).block, (aB.add ((aA).toNat * 8)).off + 1, none⟩ = some (.int .i64 ((rd_T115 l0 aA).f1)) ∧ w'.cell? ⟨(aB.add ((aA).toNat * 8)).block, (aB.add ((aA).toNat * 8)).off + 2, none⟩ = some (.int .i64 ((rd_T115 l0 aA).f2.f0)) ∧ w'.cell? ⟨(aB.add ((aA).toNat * 8)).block, (aB.add ((aA).toNat * 8)).off + 3, none⟩ = some (.int .i64 ((rd_T115 l0 aA).f2.f1)) ∧ w'.cell? ⟨(aB.add ((aA).toNat * 8)).block, (aB.add ((aA).toNat * 8)).off + 4, none⟩ = some (.int .i64 ((rd_T115 l0 aA).f3.f0)) ∧ w'.cell? ⟨(aB.add ((aA).toNat * 8)).block, (aB.add ((aA).toNat * 8)).off + 5, none⟩ = some (.int .i64 ((rd_T115 l0 aA).f3.f1)) ∧ w'.cell? ⟨(aB.add ((aA).toNat * 8)).block, (aB.add ((aA).toNat * 8)).off + 6, none⟩ = some (.int .i64 ((rd_T115 l0 aA).f4)) ∧ w'.cell? ⟨(aB.add ((aA).toNat * 8)).block, (aB.add ((aA).toNat * 8)).off + 7, none⟩ = some (.int .i64 ((rd_T115 l0 aA).f5)) ∧ w'.cell? (aC.add ((aA).toNat * 8)) = some (.int .i64 ((rd_T115 l1 aA).f0)) ∧ w'.cell? ⟨(aC.add ((aA).toNat * 8)).block, (aC.add ((aA).toNat * 8)).off + 1, none⟩ = some (.int .i64 ((rd_T115 l1 aA).f1)) ∧ w'.cell? ⟨(aC.add ((aA).toNat * 8)).block, (aC.add ((aA).toNat * 8)).off + 2, none⟩ = some (.int .i64 ((rd_T115 l1 aA).f2.f0)) ∧ w'.cell? ⟨(aC.add ((aA).toNat * 8)).block, (aC.add ((aA).toNat * 8)).off + 3, none⟩ = some (.int .i64 ((rd_T115 l1 aA).f2.f1)) ∧ w'.cell? ⟨(aC.add ((aA).toNat * 8)).block, (aC.add ((aA).toNat * 8)).off + 4, none⟩ = some (.int .i64 ((rd_T115 l1 aA).f3.f0)) ∧ w'.cell? ⟨(aC.add ((aA).toNat * 8)).block, (aC.add ((aA).toNat * 8)).off + 5, none⟩ = some (.int .i64 ((rd_T115 l1 aA).f3.f1)) ∧ w'.cell? ⟨(aC.add ((aA).toNat * 8)).block, (aC.add ((aA).toNat * 8)).off + 6, none⟩ = some (.int .i64 ((rd_T115 l1 aA).f4)) ∧ w'.cell? ⟨(aC.add ((aA).toNat * 8)).block, (aC.add ((aA).toNat * 8)).off + 7, none⟩ = some (.int .i64 ((rd_T115 l1 aA).f5))) (ds := []) (tf 0 10) (by kernel_rfl) rfl rfl ⟨(CY HB.out bA), (CY HB.out aZ), (CY HB.out aY), (CY HB.out aX), (CY HB.out aW), (CY HB.out aV), (CY HB.out aU), (CY HB.out aT), (CY HB.out bI), (CY HB.out bH), (CY HB.out bG), (CY HB.out bF), (CY HB.out bE), (CY HB.out bD), (CY HB.out bC), (CY HB.out bB)⟩ (fun bJ => ?_); refine with_tabW laws_eqRuleS.tab6 laws_eqRuleS.bits6 (fun bK bS => ?_)
        generalize wr.drew = cE at HB aD aE aF aG aH aI aJ aK aL aM aN aO aP aQ aR aS bJ ⊢
        refine pv bK 0 17 (tf 1 9) ?_
        refine pv bK 1 18 (tf 2 8) ?_
        refine pv bK 2 19 (tf 3 7) ?_
        refine pv bK 4 21 (tr [3, 1, 1, 5]) ?_
        refine pv bK 5 22 (tr [3, 1, 2, 4]) ?_
        refine pv bK 6 23 (tr [3, 1, 3, 3]) ?_
        refine tk 3 (some 20) (tf 7 3) (take_ofW bK.out bS.out (by kernel_rfl)) bJ ?_
        refine tk 7 (some 24) (tf 8 2) (take_ofW bK.out bS.out (by kernel_rfl)) bJ ?_
        refine one_ (i := 8) (N := some 25) (tf 9 1) rfl rfl (one_of bK.out (by kernel_rfl)) (by decide) (fun K hK => ?_)
        refine goes_ Tryz.func64 (by kernel_rfl) rfl #[.agg #[.int .i64 ((rd_T115 l0 aA).f0), .int .i64 ((rd_T115 l0 aA).f1), .int .i64 ((rd_T115 l0 aA).f2.f0), .int .i64 ((rd_T115 l0 aA).f2.f1), .int .i64 ((rd_T115 l0 aA).f3.f0), .int .i64 ((rd_T115 l0 aA).f3.f1), .int .i64 ((rd_T115 l0 aA).f4), .int .i64 ((rd_T115 l0 aA).f5)], .agg #[.int .i64 ((rd_T115 l1 aA).f0), .int .i64 ((rd_T115 l1 aA).f1), .int .i64 ((rd_T115 l1 aA).f2.f0), .int .i64 ((rd_T115 l1 aA).f2.f1), .int .i64 ((rd_T115 l1 aA).f3.f0), .int .i64 ((rd_T115 l1 aA).f3.f1), .int .i64 ((rd_T115 l1 aA).f4), .int .i64 ((rd_T115 l1 aA).f5)]] (by rfl) rfl rfl MT ?_
        with_reducible refine (laws_eqRule.calls ((rd_T115 l0 aA).f0) ((rd_T115 l0 aA).f1) ((rd_T115 l0 aA).f2.f0) ((rd_T115 l0 aA).f2.f1) ((rd_T115 l0 aA).f3.f0) ((rd_T115 l0 aA).f3.f1) ((rd_T115 l0 aA).f4) ((rd_T115 l0 aA).f5) ((rd_T115 l1 aA).f0) ((rd_T115 l1 aA).f1) ((rd_T115 l1 aA).f2.f0) ((rd_T115 l1 aA).f2.f1) ((rd_T115 l1 aA).f3.f0) ((rd_T115 l1 aA).f3.f1) ((rd_T115 l1 aA).f4) ((rd_T115 l1 aA).f5) false _ A7.out).mono ?_
        rintro e cF ⟨rfl, hb⟩
        refine ⟨_, rfl, ?_⟩
        replace HB := bl (KL HB) hb
        (try clear hb)
        (try clear hb2)
        (try clear hk)
        (try clear hi)
        refine hK.out _ _ ⟨(CY HB.out bA), (CY HB.out aZ), (CY HB.out aY), (CY HB.out aX), (CY HB.out aW), (CY HB.out aV), (CY HB.out aU), (CY HB.out aT), (CY HB.out bI), (CY HB.out bH), (CY HB.out bG), (CY HB.out bF), (CY HB.out bE), (CY HB.out bD), (CY HB.out bC), (CY HB.out bB)⟩ (fun bJ => ?_)
        clear hK K
        refine nm (some 25) ?_
        refine pv bK 9 26 (tf 10 0) ?_
        refine done_ (done_of bK.out (by kernel_rfl)) ?_
        try go_wp2
        go_ret
        exact ⟨ER, KL HB⟩
      ·rw [if_neg c6] at H
       exact absurd H (by simp)
     ·rw [if_neg c5] at H
      exact absurd H (by simp)
    ·rw [if_neg c4] at H
     have c4b0 : decide (aA < (l0.length : Int)) = false := decide_eq_false c4
     clear c4
     obtain rfl := sj H
     go_wp2
     go_ret
     exact ⟨ER, KL HB⟩
 ·rw [if_neg c3] at H
  have c3b0 : ((l0.length : Int) == (l1.length : Int)) = false := beq_eq_false_iff_ne.mpr c3
  have c3b1 : ((l0.length : Int) != (l1.length : Int)) = true := bne_iff_ne.mpr c3
  have c3b2 : (l0.length == l1.length) = false := by first | simpa using c3 | (simp at c3 ⊢; omega)
  obtain rfl := sj H
  go_enter Tryz.func41, Tryz.ntmps41
  go_wp2
  go_ret
  exact ⟨ER, KL HB⟩
def laws_eqCall.f (a0_0 : Int) (a0_1 : Int) (a0_2 : Int) (a1_0 : Int) (a1_1 : Int) (a1_2 : Int) : Option (Bool) := if a0_0 = a1_0 then (if a0_1 = a1_1 then (if a0_2 = a1_2 then (some true) else (some false)) else (some false)) else (some false)
theorem laws_eqCall.calls (aF : Int) (aG : Int) (aH : Int) (aI : Int) (aJ : Int) (aK : Int) (r : Bool) (w : World) (h : laws_eqCall.f aF aG aH aI aJ aK = some r) :
  Calls Tryz.prog 95 #[.agg #[.int .i64 aF, .int .i64 aG, .int .i64 aH], .agg #[.int .i64 aI, .int .i64 aJ, .int .i64 aK]] w fun e w' => e = .returned (.bool r) ∧ Below w.heap.size w w' := by
 have bX := Tryz.underlying106
 have HB := am (Below.refl w.heap.size w)
 have H : (if aF = aI then (if aG = aJ then (if aH = aK then (some true) else (some false)) else (some false)) else (some false)) = some r := h
 clear h
 by_cases c3 : aF = aI
 ·rw [if_pos c3] at H
  have c3b0 : (aF == aI) = true := beq_iff_eq.mpr c3
  have c3b1 : (aF != aI) = false := bne_eq_false_iff_eq.mpr c3
  clear c3
  by_cases c4 : aG = aJ
  ·rw [if_pos c4] at H
   have c4b0 : (aG == aJ) = true := beq_iff_eq.mpr c4
   have c4b1 : (aG != aJ) = false := bne_eq_false_iff_eq.mpr c4
   clear c4
   by_cases c5 : aH = aK
   ·rw [if_pos c5] at H
    have c5b0 : (aH == aK) = true := beq_iff_eq.mpr c5
    have c5b1 : (aH != aK) = false := bne_eq_false_iff_eq.mpr c5
    clear c5
    obtain rfl := sj H
    go_enter Tryz.func95, Tryz.ntmps95
    go_wp2_with (first | ((with_reducible refine gate_dst (N := 2) rfl ?_); refine box_event rfl (N := 2) rfl (cs := #[.int .i64 aF, .int .i64 aG, .int .i64 aH]) (t := 106) BX ?_; intro aP hg w6 aD hb; have aA := am (aD); have aL := am (GH HB hg); have aE := aL; replace HB := bl (KL HB) hb; clear hb aD hg) | ((with_reducible refine gate_dst (N := 3) rfl ?_); refine box_event rfl (N := 3) rfl (cs := #[.int .i64 aI, .int .i64 aJ, .int .i64 aK]) (t := 106) BX ?_; intro aQ hg w7 aD hb; have aM := am (aD); have aN := am (GH1 HB aE.out hg); have aO := aN; replace HB := bl (K1 HB aE.out) hb; have aB := am (NL aA hg); have aC := am (NG aA hg); replace aA := am (BB aA hb); clear hb aD hg; have cH := aB.out; have cI := aC.out; have ⟨_, _, _, _⟩ := y3 w7 aA.out; have ⟨_, _, _, _⟩ := y3 w7 aM.out))
    go_ret
    exact ⟨ER, K2 HB aE.out aO.out⟩
   ·rw [if_neg c5] at H
    have c5b0 : (aH == aK) = false := beq_eq_false_iff_ne.mpr c5
    have c5b1 : (aH != aK) = true := bne_iff_ne.mpr c5
    obtain rfl := sj H
    go_enter Tryz.func95, Tryz.ntmps95
    go_wp2_with (first | ((with_reducible refine gate_dst (N := 2) rfl ?_); refine box_event rfl (N := 2) rfl (cs := #[.int .i64 aF, .int .i64 aG, .int .i64 aH]) (t := 106) BX ?_; intro aP hg cJ aD hb; have aA := am (aD); have aL := am (GH HB hg); have aE := aL; replace HB := bl (KL HB) hb; clear hb aD hg) | ((with_reducible refine gate_dst (N := 3) rfl ?_); refine box_event rfl (N := 3) rfl (cs := #[.int .i64 aI, .int .i64 aJ, .int .i64 aK]) (t := 106) BX ?_; intro aQ hg bY aD hb; have aM := am (aD); have aN := am (GH1 HB aE.out hg); have aO := aN; replace HB := bl (K1 HB aE.out) hb; have aB := am (NL aA hg); have aC := am (NG aA hg); replace aA := am (BB aA hb); clear hb aD hg; have bZ := aB.out; have cA := aC.out; have ⟨_, _, _, _⟩ := y3 bY aA.out; have ⟨_, _, _, _⟩ := y3 bY aM.out))
    go_ret
    exact ⟨ER, K2 HB aE.out aO.out⟩
  ·rw [if_neg c4] at H
   have c4b0 : (aG == aJ) = false := beq_eq_false_iff_ne.mpr c4
   have c4b1 : (aG != aJ) = true := bne_iff_ne.mpr c4
   obtain rfl := sj H
   go_enter Tryz.func95, Tryz.ntmps95
   go_wp2_with (first | ((with_reducible refine gate_dst (N := 2) rfl ?_); refine box_event rfl (N := 2) rfl (cs := #[.int .i64 aF, .int .i64 aG, .int .i64 aH]) (t := 106) BX ?_; intro aP hg cK aD hb; have aA := am (aD); have aL := am (GH HB hg); have aE := aL; replace HB := bl (KL HB) hb; clear hb aD hg) | ((with_reducible refine gate_dst (N := 3) rfl ?_); refine box_event rfl (N := 3) rfl (cs := #[.int .i64 aI, .int .i64 aJ, .int .i64 aK]) (t := 106) BX ?_; intro aQ hg cB aD hb; have aM := am (aD); have aN := am (GH1 HB aE.out hg); have aO := aN; replace HB := bl (K1 HB aE.out) hb; have aB := am (NL aA hg); have aC := am (NG aA hg); replace aA := am (BB aA hb); clear hb aD hg; have cC := aB.out; have cD := aC.out; have ⟨_, _, _, _⟩ := y3 cB aA.out; have ⟨_, _, _, _⟩ := y3 cB aM.out))
   go_ret
   exact ⟨ER, K2 HB aE.out aO.out⟩
 ·rw [if_neg c3] at H
  have c3b0 : (aF == aI) = false := beq_eq_false_iff_ne.mpr c3
  have c3b1 : (aF != aI) = true := bne_iff_ne.mpr c3
  obtain rfl := sj H
  go_enter Tryz.func95, Tryz.ntmps95
  go_wp2_with (first | ((with_reducible refine gate_dst (N := 2) rfl ?_); refine box_event rfl (N := 2) rfl (cs := #[.int .i64 aF, .int .i64 aG, .int .i64 aH]) (t := 106) BX ?_; intro aP hg cL aD hb; have aA := am (aD); have aL := am (GH HB hg); have aE := aL; replace HB := bl (KL HB) hb; clear hb aD hg) | ((with_reducible refine gate_dst (N := 3) rfl ?_); refine box_event rfl (N := 3) rfl (cs := #[.int .i64 aI, .int .i64 aJ, .int .i64 aK]) (t := 106) BX ?_; intro aQ hg cE aD hb; have aM := am (aD); have aN := am (GH1 HB aE.out hg); have aO := aN; replace HB := bl (K1 HB aE.out) hb; have aB := am (NL aA hg); have aC := am (NG aA hg); replace aA := am (BB aA hb); clear hb aD hg; have cF := aB.out; have cG := aC.out; have ⟨_, _, _, _⟩ := y3 cE aA.out; have ⟨_, _, _, _⟩ := y3 cE aM.out))
  go_ret
  exact ⟨ER, K2 HB aE.out aO.out⟩
def laws_eqSeen.f (a0_0 : Int) (a0_1 : Int) (a0_2 : Int) (a0_3 : Int) (a1_0 : Int) (a1_1 : Int) (a1_2 : Int) (a1_3 : Int) : Option (Bool) := (laws_eqCall.f a0_0 a0_1 a0_2 a1_0 a1_1 a1_2).bind fun t103 => (if t103 = true then (if a0_3 = a1_3 then (some true) else (some false)) else (some false))
theorem laws_eqSeen.calls (aH : Int) (aI : Int) (aJ : Int) (aK : Int) (aL : Int) (aM : Int) (aN : Int) (aO : Int) (r : Bool) (w : World) (h : laws_eqSeen.f aH aI aJ aK aL aM aN aO = some r) :
  Calls Tryz.prog 86 #[.agg #[.int .i64 aH, .int .i64 aI, .int .i64 aJ, .int .i64 aK], .agg #[.int .i64 aL, .int .i64 aM, .int .i64 aN, .int .i64 aO]] w fun e w' => e = .returned (.bool r) ∧ Below w.heap.size w w' := by
 have cS := Tryz.underlying108
 have cT := Tryz.underlying106
 have HB := am (Below.refl w.heap.size w)
 have H : ((laws_eqCall.f aH aI aJ aL aM aN).bind fun aR => (if aR = true then (if aK = aO then (some true) else (some false)) else (some false))) = some r := h
 clear h
 replace H := bm H
 obtain ⟨aR, cU, H⟩ := H
 replace H : (if aR = true then (if aK = aO then (some true) else (some false)) else (some false)) = some r := H
 have A3 := Aside0.mk cU
 clear cU
 by_cases c4 : aR = true
 ·subst c4
  have H1 := pf H
  clear H
  have H := H1
  clear H1
  by_cases c5 : aK = aO
  ·rw [if_pos c5] at H
   have c5b0 : (aK == aO) = true := beq_iff_eq.mpr c5
   have c5b1 : (aK != aO) = false := bne_eq_false_iff_eq.mpr c5
   clear c5
   obtain rfl := sj H
   go_enter Tryz.func86, Tryz.ntmps86
   go_wp2_with (first | ((with_reducible refine gate_dst (N := 2) rfl ?_); refine box_event rfl (N := 2) rfl (cs := #[.int .i64 aH, .int .i64 aI, .int .i64 aJ, .int .i64 aK]) (t := 108) BX ?_; intro aS hg w6 aF hb; have aA := am (aF); have aP := am (GH HB hg); have aB := aP; replace HB := bl (KL HB) hb; clear hb aF hg) | ((with_reducible refine gate_dst (N := 3) rfl ?_); refine box_event rfl (N := 3) rfl (cs := #[.int .i64 aL, .int .i64 aM, .int .i64 aN, .int .i64 aO]) (t := 108) BX ?_; intro aT hg w7 aF hb; have aC := am (aF); have aQ := am (GH1 HB aB.out hg); have aG := aQ; replace HB := bl (K1 HB aB.out) hb; have aD := am (NL aA hg); have aE := am (NG aA hg); replace aA := am (BB aA hb); clear hb aF hg; have dD := aD.out; have dE := aE.out; have ⟨_, _, _, _, _⟩ := y4 w7 aA.out; have ⟨_, _, _, _, _⟩ := y4 w7 aC.out) | ((with_reducible refine gate_callee (f := 95) rfl ?_); refine goesL_ (some 9) rfl rfl Tryz.func95 (by kernel_rfl) rfl #[.agg #[.int .i64 aH, .int .i64 aI, .int .i64 aJ], .agg #[.int .i64 aL, .int .i64 aM, .int .i64 aN]] rfl MT ?_; (with_reducible refine (laws_eqCall.calls aH aI aJ aL aM aN true _ A3.out).mono ?_); rintro e cV ⟨rfl, hb⟩; refine ⟨_, rfl, ?_⟩; replace aA := am (BB aA hb); replace aC := am (BB aC hb); replace HB := bl (K2 HB aB.out aG.out) hb; (try clear hb); have ⟨_, _, _, _, _⟩ := y4 cV aA.out; have ⟨_, _, _, _, _⟩ := y4 cV aC.out))
   go_ret
   exact ⟨ER, K2 HB aB.out aG.out⟩
  ·rw [if_neg c5] at H
   have c5b0 : (aK == aO) = false := beq_eq_false_iff_ne.mpr c5
   have c5b1 : (aK != aO) = true := bne_iff_ne.mpr c5
   obtain rfl := sj H
   go_enter Tryz.func86, Tryz.ntmps86
   go_wp2_with (first | ((with_reducible refine gate_dst (N := 2) rfl ?_); refine box_event rfl (N := 2) rfl (cs := #[.int .i64 aH, .int .i64 aI, .int .i64 aJ, .int .i64 aK]) (t := 108) BX ?_; intro aS hg dF aF hb; have aA := am (aF); have aP := am (GH HB hg); have aB := aP; replace HB := bl (KL HB) hb; clear hb aF hg) | ((with_reducible refine gate_dst (N := 3) rfl ?_); refine box_event rfl (N := 3) rfl (cs := #[.int .i64 aL, .int .i64 aM, .int .i64 aN, .int .i64 aO]) (t := 108) BX ?_; intro aT hg cW aF hb; have aC := am (aF); have aQ := am (GH1 HB aB.out hg); have aG := aQ; replace HB := bl (K1 HB aB.out) hb; have aD := am (NL aA hg); have aE := am (NG aA hg); replace aA := am (BB aA hb); clear hb aF hg; have cX := aD.out; have cY := aE.out; have ⟨_, _, _, _, _⟩ := y4 cW aA.out; have ⟨_, _, _, _, _⟩ := y4 cW aC.out) | ((with_reducible refine gate_callee (f := 95) rfl ?_); refine goesL_ (some 9) rfl rfl Tryz.func95 (by kernel_rfl) rfl #[.agg #[.int .i64 aH, .int .i64 aI, .int .i64 aJ], .agg #[.int .i64 aL, .int .i64 aM, .int .i64 aN]] rfl MT ?_; (with_reducible refine (laws_eqCall.calls aH aI aJ aL aM aN true _ A3.out).mono ?_); rintro e cZ ⟨rfl, hb⟩; refine ⟨_, rfl, ?_⟩; replace aA := am (BB aA hb); replace aC := am (BB aC hb); replace HB := bl (K2 HB aB.out aG.out) hb; (try clear hb); have ⟨_, _, _, _, _⟩ := y4 cZ aA.out; have ⟨_, _, _, _, _⟩ := y4 cZ aC.out))
   go_ret
   exact ⟨ER, K2 HB aB.out aG.out⟩
 ·replace c4 := Bool.eq_false_iff.mpr c4
  subst c4
  have H1 := nf H
  clear H
  have H := H1
  clear H1
  obtain rfl := sj H
  go_enter Tryz.func86, Tryz.ntmps86
  go_wp2_with (first | ((with_reducible refine gate_dst (N := 2) rfl ?_); refine box_event rfl (N := 2) rfl (cs := #[.int .i64 aH, .int .i64 aI, .int .i64 aJ, .int .i64 aK]) (t := 108) BX ?_; intro aS hg dG aF hb; have aA := am (aF); have aP := am (GH HB hg); have aB := aP; replace HB := bl (KL HB) hb; clear hb aF hg) | ((with_reducible refine gate_dst (N := 3) rfl ?_); refine box_event rfl (N := 3) rfl (cs := #[.int .i64 aL, .int .i64 aM, .int .i64 aN, .int .i64 aO]) (t := 108) BX ?_; intro aT hg dA aF hb; have aC := am (aF); have aQ := am (GH1 HB aB.out hg); have aG := aQ; replace HB := bl (K1 HB aB.out) hb; have aD := am (NL aA hg); have aE := am (NG aA hg); replace aA := am (BB aA hb); clear hb aF hg; have dB := aD.out; have dC := aE.out; have ⟨_, _, _, _, _⟩ := y4 dA aA.out; have ⟨_, _, _, _, _⟩ := y4 dA aC.out) | ((with_reducible refine gate_callee (f := 95) rfl ?_); refine goesL_ (some 9) rfl rfl Tryz.func95 (by kernel_rfl) rfl #[.agg #[.int .i64 aH, .int .i64 aI, .int .i64 aJ], .agg #[.int .i64 aL, .int .i64 aM, .int .i64 aN]] rfl MT ?_; (with_reducible refine (laws_eqCall.calls aH aI aJ aL aM aN false _ A3.out).mono ?_); rintro e dH ⟨rfl, hb⟩; refine ⟨_, rfl, ?_⟩; replace aA := am (BB aA hb); replace aC := am (BB aC hb); replace HB := bl (K2 HB aB.out aG.out) hb; (try clear hb)))
  go_ret
  exact ⟨ER, K2 HB aB.out aG.out⟩
def laws_eqSeenS.l0 : Nat → List (S108) → List (S108) → Int → Option (Bool)
 | 0, _, _, _ => none
 | k + 1, x0, x1, x5 => if x5 < (x0.length : Int) then (if 0 ≤ x5 then (if x5 < (x1.length : Int) then ((laws_eqSeen.f ((rd_T108 x0 x5).f0.f0) ((rd_T108 x0 x5).f0.f1) ((rd_T108 x0 x5).f0.f2) ((rd_T108 x0 x5).f1) ((rd_T108 x1 x5).f0.f0) ((rd_T108 x1 x5).f0.f1) ((rd_T108 x1 x5).f0.f2) ((rd_T108 x1 x5).f1)).bind fun t103 => (if t103 = true then (laws_eqSeenS.l0 k x0 x1 (wrap64 (x5 + 1))) else (some false))) else (none)) else (none)) else (some true)
def laws_eqSeenS.f (k : Nat) (l0 : List (S108)) (l1 : List (S108)) : Option (Bool) := if (l0.length : Int) = (l1.length : Int) then (laws_eqSeenS.l0 k l0 l1 0) else (some false)
def laws_eqSeenS.T6 : Bool × List (List Nat × List Nat) := (true, [([], []), ([], []), ([0, 1], [0, 1]), ([2], [2]), ([], []), ([], []), ([4, 5], [4, 5]), ([6], [6]), ([3, 7], [3, 7]), ([8], [8])])
def laws_eqSeenS.B6 : List Nat := [0, 0, 3, 7, 0, 0, 48, 112, 255, 511]
theorem laws_eqSeenS.tab6 : rtab .any (opsOf Tryz.f65 6) = laws_eqSeenS.T6 := by kernel_rfl
theorem laws_eqSeenS.bits6 : waitsOk laws_eqSeenS.T6.2 laws_eqSeenS.B6 = true := by kernel_rfl
theorem laws_eqSeenS.calls (k : Nat) (A0 : Option Addr) (c0 : Nat) (l0 : List (S108)) (A1 : Option Addr) (c1 : Nat) (l1 : List (S108)) (r : Bool) (w : World) (bD : Kd.C k108 w A0 l0.length l0) (bE : l0.length ≤ c0) (bF : Kd.C k108 w A1 l1.length l1) (bG : l1.length ≤ c1) (h : laws_eqSeenS.f k l0 l1 = some r) :
  Calls Tryz.prog 65 #[.slice A0 l0.length c0, .slice A1 l1.length c1] w fun e w' => e = .returned (.bool r) ∧ Below w.heap.size w w' := by
 have bH := Tryz.underlying108
 have bI := Aside0.mk bD
 have bL := Aside0.mk bE
 clear bD bE
 have bJ := Aside0.mk bF
 have bM := Aside0.mk bG
 clear bF bG
 have HB := am (Below.refl w.heap.size w)
 have H : (if (l0.length : Int) = (l1.length : Int) then (laws_eqSeenS.l0 k l0 l1 0) else (some false)) = some r := h
 clear h
 by_cases c3 : (l0.length : Int) = (l1.length : Int)
 ·rw [if_pos c3] at H
  have c3b0 : ((l0.length : Int) == (l1.length : Int)) = true := beq_iff_eq.mpr c3
  have c3b1 : ((l0.length : Int) != (l1.length : Int)) = false := bne_eq_false_iff_eq.mpr c3
  have c3b2 : (l0.length == l1.length) = true := by first | simpa using c3 | (simp at c3 ⊢; omega)
  clear c3
  have H' := Aside0.mk H
  clear H
  go_enter Tryz.func65, Tryz.ntmps65
  go_wp2
  go_loopg [5] k (fun kq v5 w' => ∃ (aA : Int), v5 = .int .i64 aA ∧ Aside0 (laws_eqSeenS.l0 kq l0 l1 aA = some r) ∧ Aside0 (kq ≤ k) ∧ Aside0 (Below w.heap.size w w'))
  case atStart => exact ⟨(0), (by first | rfl | (simp; done) | (simp [*]; done)), H', ⟨Nat.le_refl _⟩, ⟨KL HB⟩⟩
  case round =>
   clear H'
   try clear c1
   try clear p2
   try clear c3
   try clear c3b0
   try clear c3b1
   try clear c3b2
   obtain ⟨aA, rfl, HA, HK1, HB⟩ := hrel
   cases gk with
   | zero => exact absurd HA.out (by simp [laws_eqSeenS.l0])
   | succ k1 =>
    have H := HA.out
    clear HA
    simp only [laws_eqSeenS.l0] at H
    by_cases c4 : aA < (l0.length : Int)
    ·rw [if_pos c4] at H
     have c4b0 : decide (aA < (l0.length : Int)) = true := decide_eq_true c4
     clear c4
     by_cases c5 : 0 ≤ aA
     ·rw [if_pos c5] at H
      have c5b0 : decide (0 ≤ aA) = true := decide_eq_true c5
      clear c5
      by_cases c6 : aA < (l1.length : Int)
      ·rw [if_pos c6] at H
       have c6b0 : decide (aA < (l1.length : Int)) = true := decide_eq_true c6
       clear c6
       replace H := bm H
       obtain ⟨bB, bK, H⟩ := H
       replace H : (if bB = true then (laws_eqSeenS.l0 k1 l0 l1 (wrap64 (aA + 1))) else (some false)) = some r := H
       have A7 := Aside0.mk bK
       clear bK
       by_cases c8 : bB = true
       ·subst c8
        have H1 := pf H
        clear H
        have H := H1
        clear H1
        have H' := Aside0.mk H
        clear H
        try go_wp2
        replace HB := am (below_drew1 HB.out)
        have aV : 0 ≤ (aA : Int) := OD
        have aW : aA < (l0.length : Int) := OD
        obtain ⟨aJ, aZ, aB, aC, aD, aE⟩ := at_T108 bI.out aA aV aW
        have aL := aE
        have aM := aD
        have aN := aC
        have aO := aB
        cases aZ
        replace aB := CX HB.out aB
        replace aC := CX HB.out aC
        replace aD := CX HB.out aD
        replace aE := CX HB.out aE
        replace aV := eq_true aV
        replace aW := eq_true aW
        have aX : 0 ≤ (aA : Int) := OD
        have aY : aA < (l1.length : Int) := OD
        obtain ⟨aK, bA, aF, aG, aH, aI⟩ := at_T108 bJ.out aA aX aY
        have aP := aI
        have aQ := aH
        have aR := aG
        have aS := aF
        cases bA
        replace aF := CX HB.out aF
        replace aG := CX HB.out aG
        replace aH := CX HB.out aH
        replace aI := CX HB.out aI
        replace aX := eq_true aX
        replace aY := eq_true aY
        refine start_ (n := 10) (S := fun w' => w'.cell? (aJ.add ((aA).toNat * 4)) = some (.int .i64 ((rd_T108 l0 aA).f0.f0)) ∧ w'.cell? ⟨(aJ.add ((aA).toNat * 4)).block, (aJ.add ((aA).toNat * 4)).off + 1, none⟩ = some (.int .i64 ((rd_T108 l0 aA).f0.f1)) ∧ w'.cell? ⟨(aJ.add ((aA).toNat * 4)).block, (aJ.add ((aA).toNat * 4)).off + 2, none⟩ = some (.int .i64 ((rd_T108 l0 aA).f0.f2)) ∧ w'.cell? ⟨(aJ.add ((aA).toNat * 4)).block, (aJ.add ((aA).toNat * 4)).off + 3, none⟩ = some (.int .i64 ((rd_T108 l0 aA).f1)) ∧ w'.cell? (aK.add ((aA).toNat * 4)) = some (.int .i64 ((rd_T108 l1 aA).f0.f0)) ∧ w'.cell? ⟨(aK.add ((aA).toNat * 4)).block, (aK.add ((aA).toNat * 4)).off + 1, none⟩ = some (.int .i64 ((rd_T108 l1 aA).f0.f1)) ∧ w'.cell? ⟨(aK.add ((aA).toNat * 4)).block, (aK.add ((aA).toNat * 4)).off + 2, none⟩ = some (.int .i64 ((rd_T108 l1 aA).f0.f2)) ∧ w'.cell? ⟨(aK.add ((aA).toNat * 4)).block, (aK.add ((aA).toNat * 4)).off + 3, none⟩ = some (.int .i64 ((rd_T108 l1 aA).f1))) (ds := []) (tf 0 10) (by kernel_rfl) rfl rfl ⟨(CY HB.out aO), (CY HB.out aN), (CY HB.out aM), (CY HB.out aL), (CY HB.out aS), (CY HB.out aR), (CY HB.out aQ), (CY HB.out aP)⟩ (fun aT => ?_); refine with_tabW laws_eqSeenS.tab6 laws_eqSeenS.bits6 (fun aU bC => ?_)
        generalize wr.drew = w9 at HB aB aC aD aE aF aG aH aI aT ⊢
        refine pv aU 0 17 (tf 1 9) ?_
        refine pv aU 1 18 (tf 2 8) ?_
        refine pv aU 2 19 (tf 3 7) ?_
        refine pv aU 4 21 (tr [3, 1, 1, 5]) ?_
        refine pv aU 5 22 (tr [3, 1, 2, 4]) ?_
        refine pv aU 6 23 (tr [3, 1, 3, 3]) ?_
        refine tk 3 (some 20) (tf 7 3) (take_ofW aU.out bC.out (by kernel_rfl)) aT ?_
        refine tk 7 (some 24) (tf 8 2) (take_ofW aU.out bC.out (by kernel_rfl)) aT ?_
        refine one_ (i := 8) (N := some 25) (tf 9 1) rfl rfl (one_of aU.out (by kernel_rfl)) (by decide) (fun K hK => ?_)
        refine goes_ Tryz.func86 (by kernel_rfl) rfl #[.agg #[.int .i64 ((rd_T108 l0 aA).f0.f0), .int .i64 ((rd_T108 l0 aA).f0.f1), .int .i64 ((rd_T108 l0 aA).f0.f2), .int .i64 ((rd_T108 l0 aA).f1)], .agg #[.int .i64 ((rd_T108 l1 aA).f0.f0), .int .i64 ((rd_T108 l1 aA).f0.f1), .int .i64 ((rd_T108 l1 aA).f0.f2), .int .i64 ((rd_T108 l1 aA).f1)]] (by rfl) rfl rfl MT ?_
        with_reducible refine (laws_eqSeen.calls ((rd_T108 l0 aA).f0.f0) ((rd_T108 l0 aA).f0.f1) ((rd_T108 l0 aA).f0.f2) ((rd_T108 l0 aA).f1) ((rd_T108 l1 aA).f0.f0) ((rd_T108 l1 aA).f0.f1) ((rd_T108 l1 aA).f0.f2) ((rd_T108 l1 aA).f1) true _ A7.out).mono ?_
        rintro e bN ⟨rfl, hb⟩
        refine ⟨_, rfl, ?_⟩
        replace HB := bl (KL HB) hb
        (try clear hb)
        (try clear hb2)
        (try clear hk)
        (try clear hi)
        refine hK.out _ _ ⟨(CY HB.out aO), (CY HB.out aN), (CY HB.out aM), (CY HB.out aL), (CY HB.out aS), (CY HB.out aR), (CY HB.out aQ), (CY HB.out aP)⟩ (fun aT => ?_)
        clear hK K
        refine nm (some 25) ?_
        refine pv aU 9 26 (tf 10 0) ?_
        refine done_ (done_of aU.out (by kernel_rfl)) ?_
        try go_wp2
        go_roundg k1
        case measure => have := HK1.out; omega
        case rel => exact ⟨(wrap64 (aA + 1)), (by first | rfl | (simp; done) | (simp [*]; done)), H', ⟨by have := HK1.out; omega⟩, ⟨KL HB⟩⟩
       ·replace c8 := Bool.eq_false_iff.mpr c8
        subst c8
        have H1 := nf H
        clear H
        have H := H1
        clear H1
        obtain rfl := sj H
        try go_wp2
        replace HB := am (below_drew1 HB.out)
        have aV : 0 ≤ (aA : Int) := OD
        have aW : aA < (l0.length : Int) := OD
        obtain ⟨aJ, aZ, aB, aC, aD, aE⟩ := at_T108 bI.out aA aV aW
        have aL := aE
        have aM := aD
        have aN := aC
        have aO := aB
        cases aZ
        replace aB := CX HB.out aB
        replace aC := CX HB.out aC
        replace aD := CX HB.out aD
        replace aE := CX HB.out aE
        replace aV := eq_true aV
        replace aW := eq_true aW
        have aX : 0 ≤ (aA : Int) := OD
        have aY : aA < (l1.length : Int) := OD
        obtain ⟨aK, bA, aF, aG, aH, aI⟩ := at_T108 bJ.out aA aX aY
        have aP := aI
        have aQ := aH
        have aR := aG
        have aS := aF
        cases bA
        replace aF := CX HB.out aF
        replace aG := CX HB.out aG
        replace aH := CX HB.out aH
        replace aI := CX HB.out aI
        replace aX := eq_true aX
        replace aY := eq_true aY
        refine start_ (n := 10) (S := fun w' => w'.cell? (aJ.add ((aA).toNat * 4)) = some (.int .i64 ((rd_T108 l0 aA).f0.f0)) ∧ w'.cell? ⟨(aJ.add ((aA).toNat * 4)).block, (aJ.add ((aA).toNat * 4)).off + 1, none⟩ = some (.int .i64 ((rd_T108 l0 aA).f0.f1)) ∧ w'.cell? ⟨(aJ.add ((aA).toNat * 4)).block, (aJ.add ((aA).toNat * 4)).off + 2, none⟩ = some (.int .i64 ((rd_T108 l0 aA).f0.f2)) ∧ w'.cell? ⟨(aJ.add ((aA).toNat * 4)).block, (aJ.add ((aA).toNat * 4)).off + 3, none⟩ = some (.int .i64 ((rd_T108 l0 aA).f1)) ∧ w'.cell? (aK.add ((aA).toNat * 4)) = some (.int .i64 ((rd_T108 l1 aA).f0.f0)) ∧ w'.cell? ⟨(aK.add ((aA).toNat * 4)).block, (aK.add ((aA).toNat * 4)).off + 1, none⟩ = some (.int .i64 ((rd_T108 l1 aA).f0.f1)) ∧ w'.cell? ⟨(aK.add ((aA).toNat * 4)).block, (aK.add ((aA).toNat * 4)).off + 2, none⟩ = some (.int .i64 ((rd_T108 l1 aA).f0.f2)) ∧ w'.cell? ⟨(aK.add ((aA).toNat * 4)).block, (aK.add ((aA).toNat * 4)).off + 3, none⟩ = some (.int .i64 ((rd_T108 l1 aA).f1))) (ds := []) (tf 0 10) (by kernel_rfl) rfl rfl ⟨(CY HB.out aO), (CY HB.out aN), (CY HB.out aM), (CY HB.out aL), (CY HB.out aS), (CY HB.out aR), (CY HB.out aQ), (CY HB.out aP)⟩ (fun aT => ?_); refine with_tabW laws_eqSeenS.tab6 laws_eqSeenS.bits6 (fun aU bC => ?_)
        generalize wr.drew = bO at HB aB aC aD aE aF aG aH aI aT ⊢
        refine pv aU 0 17 (tf 1 9) ?_
        refine pv aU 1 18 (tf 2 8) ?_
        refine pv aU 2 19 (tf 3 7) ?_
        refine pv aU 4 21 (tr [3, 1, 1, 5]) ?_
        refine pv aU 5 22 (tr [3, 1, 2, 4]) ?_
        refine pv aU 6 23 (tr [3, 1, 3, 3]) ?_
        refine tk 3 (some 20) (tf 7 3) (take_ofW aU.out bC.out (by kernel_rfl)) aT ?_
        refine tk 7 (some 24) (tf 8 2) (take_ofW aU.out bC.out (by kernel_rfl)) aT ?_
        refine one_ (i := 8) (N := some 25) (tf 9 1) rfl rfl (one_of aU.out (by kernel_rfl)) (by decide) (fun K hK => ?_)
        refine goes_ Tryz.func86 (by kernel_rfl) rfl #[.agg #[.int .i64 ((rd_T108 l0 aA).f0.f0), .int .i64 ((rd_T108 l0 aA).f0.f1), .int .i64 ((rd_T108 l0 aA).f0.f2), .int .i64 ((rd_T108 l0 aA).f1)], .agg #[.int .i64 ((rd_T108 l1 aA).f0.f0), .int .i64 ((rd_T108 l1 aA).f0.f1), .int .i64 ((rd_T108 l1 aA).f0.f2), .int .i64 ((rd_T108 l1 aA).f1)]] (by rfl) rfl rfl MT ?_
        with_reducible refine (laws_eqSeen.calls ((rd_T108 l0 aA).f0.f0) ((rd_T108 l0 aA).f0.f1) ((rd_T108 l0 aA).f0.f2) ((rd_T108 l0 aA).f1) ((rd_T108 l1 aA).f0.f0) ((rd_T108 l1 aA).f0.f1) ((rd_T108 l1 aA).f0.f2) ((rd_T108 l1 aA).f1) false _ A7.out).mono ?_
        rintro e bP ⟨rfl, hb⟩
        refine ⟨_, rfl, ?_⟩
        replace HB := bl (KL HB) hb
        (try clear hb)
        (try clear hb2)
        (try clear hk)
        (try clear hi)
        refine hK.out _ _ ⟨(CY HB.out aO), (CY HB.out aN), (CY HB.out aM), (CY HB.out aL), (CY HB.out aS), (CY HB.out aR), (CY HB.out aQ), (CY HB.out aP)⟩ (fun aT => ?_)
        clear hK K
        refine nm (some 25) ?_
        refine pv aU 9 26 (tf 10 0) ?_
        refine done_ (done_of aU.out (by kernel_rfl)) ?_
        try go_wp2
        go_ret
        exact ⟨ER, KL HB⟩
      ·rw [if_neg c6] at H
       exact absurd H (by simp)
     ·rw [if_neg c5] at H
      exact absurd H (by simp)
    ·rw [if_neg c4] at H
     have c4b0 : decide (aA < (l0.length : Int)) = false := decide_eq_false c4
     clear c4
     obtain rfl := sj H
     go_wp2
     go_ret
     exact ⟨ER, KL HB⟩
 ·rw [if_neg c3] at H
  have c3b0 : ((l0.length : Int) == (l1.length : Int)) = false := beq_eq_false_iff_ne.mpr c3
  have c3b1 : ((l0.length : Int) != (l1.length : Int)) = true := bne_iff_ne.mpr c3
  have c3b2 : (l0.length == l1.length) = false := by first | simpa using c3 | (simp at c3 ⊢; omega)
  obtain rfl := sj H
  go_enter Tryz.func65, Tryz.ntmps65
  go_wp2
  go_ret
  exact ⟨ER, KL HB⟩
end Go.Proofs.YtohegganioifbaaGreat.PAll
end
