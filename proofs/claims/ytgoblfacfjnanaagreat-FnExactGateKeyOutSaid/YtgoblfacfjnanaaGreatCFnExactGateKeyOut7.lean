/- Contracts of the functions that the statement reaches. -/
import Derived.Test.YtgoblfacfjnanaaGreatCFnExactGateKeyOut3
import Derived.Test.YtgoblfacfjnanaaGreatCFnExactGateKeyOut4
import Derived.Test.YtgoblfacfjnanaaGreatCFnExactGateKeyOut5
set_option maxHeartbeats 8000000
set_option maxRecDepth 100000
section
namespace Go.Proofs.YtgoblfacfjnanaaGreat.PAll
open Go.RowKit Go.Proofs.YtgoblfacfjnanaaGreatW.PrintWords Go.Proofs.YtgoblfacfjnanaaGreatW.PrintLast Go.Proofs.YtgoblfacfjnanaaGreatW.PrintMore
attribute [local go_sem] max2_int min2_int max_two min_two max_three min_three max_four min_four
set_option linter.unusedVariables false
set_option linter.unusedSimpArgs false
def impl_Gate_copied.f (k : Nat) (a0_0 : Int) (l0_1 : List (S92)) (a0_2 : Int) (l0_3 : List (S105)) (l0_4 : List (S48)) (l0_5 : List (S48)) : Option (Int × (List (S92)) × Int × (List (S105)) × (List (S48)) × (List (S48))) := (slices_Clone_Rule.f l0_1).bind fun t103 => ((slices_Clone_Seen.f l0_3).bind fun t106 => ((impl_copies.f k l0_4).bind fun t109 => ((impl_copies.f k l0_5).bind fun t112 => (some (a0_0, t103, a0_2, t106, t109, t112)))))
def impl_Gate_copied.T1 : Bool × List (List Nat × List Nat) := (true, [([], []), ([0], [0]), ([], []), ([2], [2]), ([3], [3]), ([], []), ([5], [5]), ([6], [6]), ([], []), ([8], [8]), ([9], [9]), ([10, 4], [10]), ([7, 11], [7, 11]), ([], []), ([13], [13]), ([14, 11], [14]), ([], []), ([16], [16]), ([17, 15], [17]), ([1, 4, 12, 15, 18], [1, 4, 12, 15, 18]), ([19, 18, 0, 1, 2, 3, 4, 5, 6, 7, 8, 9, 10, 11, 12, 13, 14, 15, 16, 17, 18, 19], [19])])
def impl_Gate_copied.B1 : List Nat := [0, 1, 0, 4, 12, 0, 32, 96, 0, 256, 768, 1820, 4092, 0, 8192, 28444, 0, 65536, 257820, 524287, 1048575]
theorem impl_Gate_copied.tab1 : rtab .any (opsOf Tryz.f32 1) = impl_Gate_copied.T1 := by kernel_rfl
theorem impl_Gate_copied.bits1 : waitsOk impl_Gate_copied.T1.2 impl_Gate_copied.B1 = true := by kernel_rfl
theorem impl_Gate_copied.calls (k : Nat) (aG : Int) (bC : Option Addr) (bD : Nat) (aT : List (S92)) (aH : Int) (bE : Option Addr) (bF : Nat) (aR : List (S105)) (bG : Option Addr) (bH : Nat) (aQ : List (S48)) (bI : Option Addr) (bJ : Nat) (aO : List (S48)) (r1 : Int) (r2 : List (S92)) (r3 : Int) (r4 : List (S105)) (r5 : List (S48)) (r6 : List (S48)) (w : World) (bO : Kd.C k92 w bC aT.length aT) (bP : aT.length ≤ bD) (bQ : Kd.C k105 w bE aR.length aR) (bR : aR.length ≤ bF) (bS : Kd.C k48 w bG aQ.length aQ) (bT : aQ.length ≤ bH) (bU : Kd.C k48 w bI aO.length aO) (bV : aO.length ≤ bJ) (h : impl_Gate_copied.f k aG aT aH aR aQ aO = some (r1, r2, r3, r4, r5, r6)) :
  Calls Tryz.prog 32 #[.agg #[.int .i64 aG, .slice bC aT.length bD, .int .i64 aH, .slice bE aR.length bF, .slice bG aQ.length bH, .slice bI aO.length bJ]] w fun e w' => ∃ v1_ v3_ v4_ v5_ : Value, e = .returned (.agg #[.int .i64 r1, v1_, .int .i64 r3, v3_, v4_, v5_]) ∧ Kd.R k92 92 w' w.heap.size (fun _ => True) v1_ r2 ∧ Kd.R k105 105 w' w.heap.size (fun _ => True) v3_ r4 ∧ (∃ N_, Kd.S k48 48 w' w.heap.size (fun k_ => k_ < N_) v4_ r5 ∧ Kd.S k48 48 w' w.heap.size (fun k_ => N_ ≤ k_) v5_ r6) ∧ Below w.heap.size w w' := by
 have cS := Tryz.underlying42; have cT := Tryz.underlying39; have bZ := Aside0.mk bO; have cA := Aside0.mk bP; clear bO bP; have cB := Aside0.mk bQ; have cC := Aside0.mk bR; clear bQ bR; have cD := Aside0.mk bS; have cE := Aside0.mk bT; clear bS bT; have cF := Aside0.mk bU; have cG := Aside0.mk bV; clear bU bV; have HB := am (Below.refl w.heap.size w); have H : ((slices_Clone_Rule.f aT).bind fun aJ => ((slices_Clone_Seen.f aR).bind fun aK => ((impl_copies.f k aQ).bind fun aL => ((impl_copies.f k aO).bind fun aM => (some (aG, aJ, aH, aK, aL, aM)))))) = some (r1, r2, r3, r4, r5, r6) := h; clear h; replace H := bm H; obtain ⟨aJ, cO, H⟩ := H; replace H : ((slices_Clone_Seen.f aR).bind fun aK => ((impl_copies.f k aQ).bind fun aL => ((impl_copies.f k aO).bind fun aM => (some (aG, aJ, aH, aK, aL, aM))))) = some (r1, r2, r3, r4, r5, r6) := H; have A2 := Aside0.mk cO; clear cO; replace H := bm H; obtain ⟨aK, cP, H⟩ := H; replace H : ((impl_copies.f k aQ).bind fun aL => ((impl_copies.f k aO).bind fun aM => (some (aG, aJ, aH, aK, aL, aM)))) = some (r1, r2, r3, r4, r5, r6) := H; have A3 := Aside0.mk cP; clear cP; replace H := bm H; obtain ⟨aL, cQ, H⟩ := H; replace H : ((impl_copies.f k aO).bind fun aM => (some (aG, aJ, aH, aK, aL, aM))) = some (r1, r2, r3, r4, r5, r6) := H; have A4 := Aside0.mk cQ; clear cQ; replace H := bm H; obtain ⟨aM, cR, H⟩ := H; replace H : (some (aG, aJ, aH, aK, aL, aM)) = some (r1, r2, r3, r4, r5, r6) := H; have A5 := Aside0.mk cR; clear cR; simp only [Option.some.injEq, Prod.mk.injEq] at H; obtain ⟨rfl, rfl, rfl, rfl, rfl, rfl⟩ := H; go_enter Tryz.func32, Tryz.ntmps32
 try go_wp2_with (first | ((with_reducible refine gate_dst (N := 1) rfl ?_); refine box_event rfl (N := 1) rfl (cs := #[.int .i64 aG, .slice bC aT.length bD, .int .i64 aH, .slice bE aR.length bF, .slice bG aQ.length bH, .slice bI aO.length bJ]) (t := 42) BX ?_; intro cH hg w6 bK hb; have aC := am (bK); have cI := am (GH HB hg); have aI := cI; replace HB := bl (KL HB) hb; clear hb bK hg) | ((with_reducible refine gate_dst (N := 2) rfl ?_); refine box_event rfl (N := 2) rfl (cs := #[.int .i64 0, .slice none 0 0, .int .i64 0, .slice none 0 0, .slice none 0 0, .slice none 0 0]) (t := 42) BX ?_; intro aB hg w7 bK hb; have aD := am (bK); have cJ := am (GH1 HB aI.out hg); have aN := cJ; replace HB := bl (K1 HB aI.out) hb; have aA := am (NL aC hg); have aF := am (NG aC hg); replace aC := am (BB aC hb); clear hb bK hg))
 replace aC := am (blk_drew aC.out); replace aD := am (blk_drew aD.out); replace HB := am (below_drew1 HB.out); refine start_ (n := 21) (S := fun w' => de6 w' cH (.int .i64 aG) (.slice bC aT.length bD) (.int .i64 aH) (.slice bE aR.length bF) (.slice bG aQ.length bH) (.slice bI aO.length bJ)) (ds := []) (tf 0 21) (by kernel_rfl) rfl rfl ⟨z0 _ aC.out, z1 _ aC.out, z2 _ aC.out, z3 _ aC.out, z4 _ aC.out, z5 _ aC.out⟩ (fun aE => ?_); refine with_tabW impl_Gate_copied.tab1 impl_Gate_copied.bits1 (fun aS bX => ?_); generalize w7.drew = w8 at aC aD HB aE ⊢; refine pv aS 0 3 (tf 1 20) ?_; refine pv aS 2 5 (tr [1, 1, 1, 18]) ?_; refine pv aS 5 8 (tr [1, 1, 1, 2, 1, 15]) ?_; refine pv aS 6 9 (tr [1, 1, 1, 2, 2, 14]) ?_; refine pv aS 8 11 (tr [1, 1, 1, 2, 2, 1, 1, 12]) ?_; refine pv aS 9 12 (tr [1, 1, 1, 2, 2, 1, 2, 11]) ?_; refine pv aS 13 16 (tr [1, 1, 1, 2, 2, 1, 2, 3, 1, 7]) ?_; refine pv aS 16 19 (tr [1, 1, 1, 2, 2, 1, 2, 3, 1, 2, 1, 4]) ?_; refine tk 1 (some 4) (tr [3, 2, 2, 1, 2, 3, 1, 2, 1, 4]) (take_ofW aS.out bX.out (by kernel_rfl)) aE ?_; refine tk 3 (some 6) (tr [4, 1, 2, 1, 2, 3, 1, 2, 1, 4]) (take_ofW aS.out bX.out (by kernel_rfl)) aE ?_; refine tk 7 (some 10) (tr [4, 1, 5, 3, 1, 2, 1, 4]) (take_ofW aS.out bX.out (by kernel_rfl)) aE ?_; refine tk 10 (some 13) (tr [4, 1, 6, 2, 1, 2, 1, 4]) (take_ofW aS.out bX.out (by kernel_rfl)) aE ?_; refine tk 14 (some 17) (tr [4, 1, 6, 2, 2, 1, 1, 4]) (take_ofW aS.out bX.out (by kernel_rfl)) aE ?_; refine tk 17 (some 20) (tr [4, 1, 6, 2, 2, 1, 2, 3]) (take_ofW aS.out bX.out (by kernel_rfl)) aE ?_; refine one_ (i := 4) (N := some 7) (tr [11, 2, 2, 1, 2, 3]) rfl rfl (one_of aS.out (by kernel_rfl)) (by decide) (fun K hK => ?_); refine goes_ Tryz.func64 (by kernel_rfl) rfl #[.slice bC aT.length bD] (by rfl) rfl rfl MT ?_; with_reducible refine (slices_Clone_Rule.calls _ _ aT aJ _ ?_ ?_ A2.out).mono ?_
 exact KD bZ HB; exact cA.out; rintro e w9 ⟨cU, rfl, bL, hb⟩; refine ⟨_, rfl, ?_⟩; have aP := am (Kd.R_lower bL (below_size (K2 HB aI.out aN.out))); replace aC := am (BB aC hb); replace aD := am (BB aD hb); replace HB := bl (K2 HB aI.out aN.out) hb; (try clear hb)
 (try clear hb2)
 (try clear hk)
 (try clear hi)
 (try clear bL)
 refine hK.out _ _ ⟨z0 _ aC.out, z1 _ aC.out, z2 _ aC.out, z3 _ aC.out, z4 _ aC.out, z5 _ aC.out⟩ (fun aE => ?_); clear hK K; refine nm (some 7) ?_; refine one_ (i := 11) (N := some 14) (tr [12, 1, 2, 1, 2, 3]) rfl rfl (one_of aS.out (by kernel_rfl)) (by decide) (fun K hK => ?_); refine goes_ Tryz.func65 (by kernel_rfl) rfl #[.slice bE aR.length bF] (by rfl) rfl rfl MT ?_; with_reducible refine (slices_Clone_Seen.calls _ _ aR aK _ ?_ ?_ A3.out).mono ?_
 exact KD cB HB; exact cC.out; rintro e cZ ⟨cV, rfl, bL, hb⟩; refine ⟨_, rfl, ?_⟩; replace aP := am (Kd.R_below (KR aP) hb); have aU := am (Kd.R_lower bL (below_size (K2 HB aI.out aN.out))); replace aC := am (BB aC hb); replace aD := am (BB aD hb); replace HB := bl (K2 HB aI.out aN.out) hb; (try clear hb)
 (try clear hb2)
 (try clear hk)
 (try clear hi)
 (try clear bL)
 obtain ⟨aX, aY, cK⟩ := Kd.R_slice aU.out; (first | subst cK | (injection cK with f1_ f2_ f3_; have f4_ := f1_.symm; have f5_ := f3_.symm; clear f1_ f2_ f3_; subst f4_; subst f5_))
 refine hK.out _ _ ⟨z0 _ aC.out, z1 _ aC.out, z2 _ aC.out, z3 _ aC.out, z4 _ aC.out, z5 _ aC.out⟩ (fun aE => ?_); clear hK K; refine nm (some 14) ?_; refine pv aS 12 15 (tr [15, 1, 2, 3]) ?_; refine one_ (i := 15) (N := some 18) (tf 18 3) rfl rfl (one_of aS.out (by kernel_rfl)) (by decide) (fun K hK => ?_); refine goes_ Tryz.func66 (by kernel_rfl) rfl #[.slice bG aQ.length bH] (by rfl) rfl rfl MT ?_; with_reducible refine (impl_copies.calls k _ _ aQ aL _ ?_ ?_ A4.out).mono ?_
 exact KD cD HB; exact cE.out; rintro e cW ⟨cX, rfl, bL, hb⟩; refine ⟨_, rfl, ?_⟩; replace aP := am (Kd.R_below (KR aP) hb); replace aU := am (Kd.R_below (KR aU) hb); have aZ := am (Kd.S_lower bL (below_size (K2 HB aI.out aN.out))); replace aC := am (BB aC hb); replace aD := am (BB aD hb); replace HB := bl (K2 HB aI.out aN.out) hb; (try clear hb)
 (try clear hb2)
 (try clear hk)
 (try clear hi)
 (try clear bL)
 refine hK.out _ _ ⟨z0 _ aC.out, z1 _ aC.out, z2 _ aC.out, z3 _ aC.out, z4 _ aC.out, z5 _ aC.out⟩ (fun aE => ?_); clear hK K; refine nm (some 18) ?_; refine one_ (i := 18) (N := some 21) (tf 19 2) rfl rfl (one_of aS.out (by kernel_rfl)) (by decide) (fun K hK => ?_); refine goes_ Tryz.func66 (by kernel_rfl) rfl #[.slice bI aO.length bJ] (by rfl) rfl rfl MT ?_; with_reducible refine (impl_copies.calls k _ _ aO aM _ ?_ ?_ A5.out).mono ?_
 exact KD cF HB; exact cG.out; rintro e bY ⟨cY, rfl, bL, hb⟩; refine ⟨_, rfl, ?_⟩; replace aP := am (Kd.R_below (KR aP) hb); replace aU := am (Kd.R_below (KR aU) hb); have bW := am (Kd.S_lower (Kd.S_mono (Kd.S_bound bL) (fun _ hk => hk.2.1)) (below_size (K2 HB aI.out aN.out))); replace aZ := am (Kd.S_mono (Kd.S_old (KX aZ.out) hb) (fun _ hk => hk.2)); replace aC := am (BB aC hb); replace aD := am (BB aD hb); replace HB := bl (K2 HB aI.out aN.out) hb; (try clear hb)
 (try clear hb2)
 (try clear hk)
 (try clear hi)
 (try clear bL)
 obtain ⟨bM, bN, cL⟩ := Kd.S_slice bW.out; (first | subst cL | (injection cL with f1_ f2_ f3_; have f4_ := f1_.symm; have f5_ := f3_.symm; clear f1_ f2_ f3_; subst f4_; subst f5_))
 obtain ⟨bA, bB, cM⟩ := Kd.S_slice aZ.out; (first | subst cM | (injection cM with f1_ f2_ f3_; have f4_ := f1_.symm; have f5_ := f3_.symm; clear f1_ f2_ f3_; subst f4_; subst f5_))
 obtain ⟨aV, aW, cN⟩ := Kd.R_slice aP.out; (first | subst cN | (injection cN with f1_ f2_ f3_; have f4_ := f1_.symm; have f5_ := f3_.symm; clear f1_ f2_ f3_; subst f4_; subst f5_))
 refine hK.out _ _ ⟨z0 _ aC.out, z1 _ aC.out, z2 _ aC.out, z3 _ aC.out, z4 _ aC.out, z5 _ aC.out⟩ (fun aE => ?_); clear hK K; refine nm (some 21) ?_; refine pv aS 19 22 (tf 20 1) ?_; refine one_ (i := 20) (N := none) (tf 21 0) rfl rfl (one_of aS.out (by kernel_rfl)) (by decide) (fun K hK => ?_); have hs17 : bY.cell? ⟨aB, 0, none⟩ = some (.int .i64 0) := z0 _ aD.out; have hfs17 := blk_frozen aD.out 0; have hns17_0 := aA.out; have hms17_0 := aF.out; have hs18 : bY.cell? ⟨aB, 1, none⟩ = some (.slice none 0 0) := z1 _ aD.out; have hfs18 := blk_frozen aD.out 1; have hns18_0 := aA.out; have hms18_0 := aF.out; have hs19 : bY.cell? ⟨aB, 2, none⟩ = some (.int .i64 0) := z2 _ aD.out; have hfs19 := blk_frozen aD.out 2; have hns19_0 := aA.out; have hms19_0 := aF.out; have hs20 : bY.cell? ⟨aB, 3, none⟩ = some (.slice none 0 0) := z3 _ aD.out; have hfs20 := blk_frozen aD.out 3; have hns20_0 := aA.out; have hms20_0 := aF.out; have hs21 : bY.cell? ⟨aB, 4, none⟩ = some (.slice none 0 0) := z4 _ aD.out; have hfs21 := blk_frozen aD.out 4; have hns21_0 := aA.out; have hms21_0 := aF.out; have hs22 : bY.cell? ⟨aB, 5, none⟩ = some (.slice none 0 0) := z5 _ aD.out; have hfs22 := blk_frozen aD.out 5; have hns22_0 := aA.out; have hms22_0 := aF.out; refine skip_ (w1 := ?_) (by rfl) rfl ?_ ?_
 rotate_left
 ·go_simp
  rfl
 refine hK.out _ _ ⟨((cell_far (p := ⟨aB, _, none⟩) aA.out _).trans (((cell_far (p := ⟨aB, _, none⟩) aA.out _).trans (((cell_far (p := ⟨aB, _, none⟩) aA.out _).trans (((cell_far (p := ⟨aB, _, none⟩) aA.out _).trans (((cell_far (p := ⟨aB, _, none⟩) aA.out _).trans (((cell_far (p := ⟨aB, _, none⟩) aA.out _).trans (aE.1)))))))))))), ((cell_far (p := ⟨aB, _, none⟩) aA.out _).trans (((cell_far (p := ⟨aB, _, none⟩) aA.out _).trans (((cell_far (p := ⟨aB, _, none⟩) aA.out _).trans (((cell_far (p := ⟨aB, _, none⟩) aA.out _).trans (((cell_far (p := ⟨aB, _, none⟩) aA.out _).trans (((cell_far (p := ⟨aB, _, none⟩) aA.out _).trans (aE.2.1)))))))))))), ((cell_far (p := ⟨aB, _, none⟩) aA.out _).trans (((cell_far (p := ⟨aB, _, none⟩) aA.out _).trans (((cell_far (p := ⟨aB, _, none⟩) aA.out _).trans (((cell_far (p := ⟨aB, _, none⟩) aA.out _).trans (((cell_far (p := ⟨aB, _, none⟩) aA.out _).trans (((cell_far (p := ⟨aB, _, none⟩) aA.out _).trans (aE.2.2.1)))))))))))), ((cell_far (p := ⟨aB, _, none⟩) aA.out _).trans (((cell_far (p := ⟨aB, _, none⟩) aA.out _).trans (((cell_far (p := ⟨aB, _, none⟩) aA.out _).trans (((cell_far (p := ⟨aB, _, none⟩) aA.out _).trans (((cell_far (p := ⟨aB, _, none⟩) aA.out _).trans (((cell_far (p := ⟨aB, _, none⟩) aA.out _).trans (aE.2.2.2.1)))))))))))), ((cell_far (p := ⟨aB, _, none⟩) aA.out _).trans (((cell_far (p := ⟨aB, _, none⟩) aA.out _).trans (((cell_far (p := ⟨aB, _, none⟩) aA.out _).trans (((cell_far (p := ⟨aB, _, none⟩) aA.out _).trans (((cell_far (p := ⟨aB, _, none⟩) aA.out _).trans (((cell_far (p := ⟨aB, _, none⟩) aA.out _).trans (aE.2.2.2.2.1)))))))))))), ((cell_far (p := ⟨aB, _, none⟩) aA.out _).trans (((cell_far (p := ⟨aB, _, none⟩) aA.out _).trans (((cell_far (p := ⟨aB, _, none⟩) aA.out _).trans (((cell_far (p := ⟨aB, _, none⟩) aA.out _).trans (((cell_far (p := ⟨aB, _, none⟩) aA.out _).trans (((cell_far (p := ⟨aB, _, none⟩) aA.out _).trans (aE.2.2.2.2.2))))))))))))⟩ (fun aE => ?_); clear hK K; refine done_ (done_of aS.out (by kernel_rfl)) ?_; try go_wp2
 refine bodyPost_ret (results_cell_row rfl _ _ aB 42 #[.int .i64 aG, .slice aV aJ.length aW, .int .i64 aH, .slice aX aK.length aY, .slice bA aL.length bB, .slice bM aM.length bN] (0, 0) _ rfl (by refine BD ?_; refine blk_put (cs := #[.int .i64 aG, .slice aV aJ.length aW, .int .i64 aH, .slice aX aK.length aY, .slice bA aL.length bB, .slice none 0 0]) ?_ 5 _ rfl; refine BD ?_; refine blk_put (cs := #[.int .i64 aG, .slice aV aJ.length aW, .int .i64 aH, .slice aX aK.length aY, .slice none 0 0, .slice none 0 0]) ?_ 4 _ rfl; refine BD ?_; refine blk_put (cs := #[.int .i64 aG, .slice aV aJ.length aW, .int .i64 aH, .slice none 0 0, .slice none 0 0, .slice none 0 0]) ?_ 3 _ rfl; refine BD ?_; refine blk_put (cs := #[.int .i64 aG, .slice aV aJ.length aW, .int .i64 0, .slice none 0 0, .slice none 0 0, .slice none 0 0]) ?_ 2 _ rfl; refine BD ?_; refine blk_put (cs := #[.int .i64 aG, .slice none 0 0, .int .i64 0, .slice none 0 0, .slice none 0 0, .slice none 0 0]) ?_ 1 _ rfl; refine BD ?_; refine blk_put (cs := #[.int .i64 0, .slice none 0 0, .int .i64 0, .slice none 0 0, .slice none 0 0, .slice none 0 0]) ?_ 0 _ rfl; refine BD ?_; exact aD.out) Tryz.underlying42 rfl (by kernel_rfl)) rfl ?_; exact ⟨_, _, _, _, ER, by refine KW ?_; exact Kd.R_mono (Kd.R_far (p := ⟨aB, 5, none⟩) (Kd.R_far (p := ⟨aB, 4, none⟩) (Kd.R_far (p := ⟨aB, 3, none⟩) (Kd.R_far (p := ⟨aB, 2, none⟩) (Kd.R_far (p := ⟨aB, 1, none⟩) (Kd.R_far (p := ⟨aB, 0, none⟩) (Kd.R_types aP.out aD.out (by decide)) (fun _ hk => hk.2) (.int .i64 aG)) (fun _ hk => hk.2) (.slice aV aJ.length aW)) (fun _ hk => hk.2) (.int .i64 aH)) (fun _ hk => hk.2) (.slice aX aK.length aY)) (fun _ hk => hk.2) (.slice bA aL.length bB)) (fun _ hk => hk.2) (.slice bM aM.length bN)) (fun _ hk => trivial), by refine KW ?_; exact Kd.R_mono (Kd.R_far (p := ⟨aB, 5, none⟩) (Kd.R_far (p := ⟨aB, 4, none⟩) (Kd.R_far (p := ⟨aB, 3, none⟩) (Kd.R_far (p := ⟨aB, 2, none⟩) (Kd.R_far (p := ⟨aB, 1, none⟩) (Kd.R_far (p := ⟨aB, 0, none⟩) (Kd.R_types aU.out aD.out (by decide)) (fun _ hk => hk.2) (.int .i64 aG)) (fun _ hk => hk.2) (.slice aV aJ.length aW)) (fun _ hk => hk.2) (.int .i64 aH)) (fun _ hk => hk.2) (.slice aX aK.length aY)) (fun _ hk => hk.2) (.slice bA aL.length bB)) (fun _ hk => hk.2) (.slice bM aM.length bN)) (fun _ hk => trivial), ⟨cW.heap.size, by refine KX ?_; exact Kd.S_mono (Kd.S_far (p := ⟨aB, 5, none⟩) (Kd.S_far (p := ⟨aB, 4, none⟩) (Kd.S_far (p := ⟨aB, 3, none⟩) (Kd.S_far (p := ⟨aB, 2, none⟩) (Kd.S_far (p := ⟨aB, 1, none⟩) (Kd.S_far (p := ⟨aB, 0, none⟩) (Kd.S_types aZ.out aD.out (by decide)) (fun _ hk => hk.2) (.int .i64 aG)) (fun _ hk => hk.2) (.slice aV aJ.length aW)) (fun _ hk => hk.2) (.int .i64 aH)) (fun _ hk => hk.2) (.slice aX aK.length aY)) (fun _ hk => hk.2) (.slice bA aL.length bB)) (fun _ hk => hk.2) (.slice bM aM.length bN)) (fun _ hk => hk.1), by refine KX ?_; exact Kd.S_mono (Kd.S_far (p := ⟨aB, 5, none⟩) (Kd.S_far (p := ⟨aB, 4, none⟩) (Kd.S_far (p := ⟨aB, 3, none⟩) (Kd.S_far (p := ⟨aB, 2, none⟩) (Kd.S_far (p := ⟨aB, 1, none⟩) (Kd.S_far (p := ⟨aB, 0, none⟩) (Kd.S_types bW.out aD.out (by decide)) (fun _ hk => hk.2) (.int .i64 aG)) (fun _ hk => hk.2) (.slice aV aJ.length aW)) (fun _ hk => hk.2) (.int .i64 aH)) (fun _ hk => hk.2) (.slice aX aK.length aY)) (fun _ hk => hk.2) (.slice bA aL.length bB)) (fun _ hk => hk.2) (.slice bM aM.length bN)) (fun _ hk => hk.1)⟩, K2 HB aI.out aN.out⟩
def impl_Gate_fresh.f (k : Nat) (a0_0 : Int) (l0_1 : List (S92)) (a0_2 : Int) (l0_3 : List (S105)) (l0_4 : List (S48)) (l0_5 : List (S48)) (a1_0 : Int) (a1_1 : Int) (a1_2 : ByteArray) (a1_3 : ByteArray) (a1_4 : Int) (a1_5 : Int) (a1_6 : Int) (a1_7 : Int) (a1_8 : Int) (a1_9 : Int) (l1_10 : List Int) : Option (Bool) := (impl_SaOk.f k a1_0 a1_1 a1_2 a1_3 a1_4 a1_5 a1_6 a1_7 a1_8 a1_9 l1_10).bind fun t103 => (if t103 = true then (if a1_8 = 0 then (if (l1_10.length : Int) = 0 then (some (a1_4 == a0_0)) else (some false)) else (some false)) else (some false))
theorem impl_Gate_fresh.calls (k : Nat) (bC : Int) (bD : Option Addr) (bE : Nat) (aW : List (S92)) (bF : Int) (bG : Option Addr) (bH : Nat) (aX : List (S105)) (bI : Option Addr) (bJ : Nat) (aY : List (S48)) (bK : Option Addr) (bL : Nat) (aZ : List (S48)) (aM : Int) (aN : Int) (aO : ByteArray) (aP : ByteArray) (aI : Int) (aQ : Int) (aR : Int) (aS : Int) (aH : Int) (aT : Int) (aK : Option Addr) (aL : Nat) (aB : List Int) (r : Bool) (w : World) (bR : Kd.C k92 w bD aW.length aW) (bS : aW.length ≤ bE) (bT : Kd.C k105 w bG aX.length aX) (bU : aX.length ≤ bH) (bV : Kd.C k48 w bI aY.length aY) (bW : aY.length ≤ bJ) (bX : Kd.C k48 w bK aZ.length aZ) (bY : aZ.length ≤ bL) (bM : Kd.C (Kd.int .i64) w aK aB.length aB) (bN : aB.length ≤ aL) (h : impl_Gate_fresh.f k bC aW bF aX aY aZ aM aN aO aP aI aQ aR aS aH aT aB = some r) :
  Calls Tryz.prog 35 #[.agg #[.int .i64 bC, .slice bD aW.length bE, .int .i64 bF, .slice bG aX.length bH, .slice bI aY.length bJ, .slice bK aZ.length bL], .agg #[.int .i64 aM, .int .i64 aN, .string aO, .string aP, .int .i64 aI, .int .i64 aQ, .int .i64 aR, .int .i64 aS, .int .i64 aH, .int .i64 aT, .slice aK aB.length aL]] w fun e w' => e = .returned (.bool r) ∧ Below w.heap.size w w' := by
 have gC := Tryz.underlying42; have gD := Tryz.underlying48; have fM := Aside0.mk bR; have fN := Aside0.mk bS; clear bR bS; have fO := Aside0.mk bT; have fP := Aside0.mk bU; clear bT bU; have fQ := Aside0.mk bV; have fR := Aside0.mk bW; clear bV bW; have fS := Aside0.mk bX; have fT := Aside0.mk bY; clear bX bY; have bA := Aside0.mk bM; have bB := Aside0.mk bN; clear bM bN; have HB := am (Below.refl w.heap.size w); have H : ((impl_SaOk.f k aM aN aO aP aI aQ aR aS aH aT aB).bind fun bQ => (if bQ = true then (if aH = 0 then (if (aB.length : Int) = 0 then (some (aI == bC)) else (some false)) else (some false)) else (some false))) = some r := h; clear h; replace H := bm H; obtain ⟨bQ, fU, H⟩ := H; replace H : (if bQ = true then (if aH = 0 then (if (aB.length : Int) = 0 then (some (aI == bC)) else (some false)) else (some false)) else (some false)) = some r := H; have A3 := Aside0.mk fU; clear fU; by_cases c4 : bQ = true
 ·subst c4
  have H1 := pf H; clear H; have H := H1; clear H1; by_cases c5 : aH = 0
  ·rw [if_pos c5] at H
   have c5b0 : (aH == 0) = true := beq_iff_eq.mpr c5; have c5b1 : (aH != 0) = false := bne_eq_false_iff_eq.mpr c5; clear c5; by_cases c6 : (aB.length : Int) = 0
   ·rw [if_pos c6] at H
    have c6b0 : ((aB.length : Int) == 0) = true := beq_iff_eq.mpr c6; have c6b1 : ((aB.length : Int) != 0) = false := bne_eq_false_iff_eq.mpr c6; clear c6; obtain rfl := sj H; go_enter Tryz.func35, Tryz.ntmps35
    go_wp2_with (first | ((with_reducible refine gate_dst (N := 2) rfl ?_); (try (refine gate_guard (by rfl) ?_; dsimp only)); refine box_event rfl (N := 2) rfl (cs := #[.int .i64 bC, .slice bD aW.length bE, .int .i64 bF, .slice bG aX.length bH, .slice bI aY.length bJ, .slice bK aZ.length bL]) (t := 42) BX ?_; intro bO hg w7 aG hb; have aA := am (aG); have aU := am (GH HB hg); have aC := aU; replace HB := bl (KL HB) hb; clear hb aG hg) | ((with_reducible refine gate_dst (N := 3) rfl ?_); (try (refine gate_guard (by rfl) ?_; dsimp only)); refine box_event rfl (N := 3) rfl (cs := #[.int .i64 aM, .int .i64 aN, .string aO, .string aP, .int .i64 aI, .int .i64 aQ, .int .i64 aR, .int .i64 aS, .int .i64 aH, .int .i64 aT, .slice aK aB.length aL]) (t := 48) BX ?_; intro bP hg w8 aG hb; have aD := am (aG); have aV := am (GH1 HB aC.out hg); have aJ := aV; replace HB := bl (K1 HB aC.out) hb; have aE := am (NL aA hg); have aF := am (NG aA hg); replace aA := am (BB aA hb); clear hb aG hg; have gE := aF.out; have gF := aE.out; have ⟨_, _, _, _, _, _, _, _, _, _, _, _⟩ := y11 w8 aD.out) | ((with_reducible refine gate_callee (f := 69) rfl ?_); refine goesL_ (some 6) rfl rfl Tryz.func69 (by kernel_rfl) rfl #[.agg #[.int .i64 aM, .int .i64 aN, .string aO, .string aP, .int .i64 aI, .int .i64 aQ, .int .i64 aR, .int .i64 aS, .int .i64 aH, .int .i64 aT, .slice aK aB.length aL]] rfl MT ?_; (with_reducible refine (impl_SaOk.calls k aM aN aO aP aI aQ aR aS aH aT _ _ aB true _ ?_ ?_ A3.out).mono ?_); exact KD bA HB; exact bB.out; rintro e fV ⟨rfl, hb⟩; refine ⟨_, rfl, ?_⟩; replace aA := am (BB aA hb); replace aD := am (BB aD hb); replace HB := bl (K2 HB aC.out aJ.out) hb; (try clear hb); have ⟨_, _, _, _, _, _, _, _, _, _, _, _⟩ := y11 fV aD.out; have ⟨_, _, _, _, _, _, _⟩ := y6 fV aA.out))
    go_ret
    exact ⟨ER, K2 HB aC.out aJ.out⟩
   ·rw [if_neg c6] at H
    have c6b0 : ((aB.length : Int) == 0) = false := beq_eq_false_iff_ne.mpr c6; have c6b1 : ((aB.length : Int) != 0) = true := bne_iff_ne.mpr c6; have c6b2 : ¬ (aB = []) := fun h_ => c6 (by rw [h_]; rfl)
    obtain rfl := sj H; go_enter Tryz.func35, Tryz.ntmps35
    go_wp2_with (first | ((with_reducible refine gate_dst (N := 2) rfl ?_); (try (refine gate_guard (by rfl) ?_; dsimp only)); refine box_event rfl (N := 2) rfl (cs := #[.int .i64 bC, .slice bD aW.length bE, .int .i64 bF, .slice bG aX.length bH, .slice bI aY.length bJ, .slice bK aZ.length bL]) (t := 42) BX ?_; intro bO hg gL aG hb; have aA := am (aG); have aU := am (GH HB hg); have aC := aU; replace HB := bl (KL HB) hb; clear hb aG hg) | ((with_reducible refine gate_dst (N := 3) rfl ?_); (try (refine gate_guard (by rfl) ?_; dsimp only)); refine box_event rfl (N := 3) rfl (cs := #[.int .i64 aM, .int .i64 aN, .string aO, .string aP, .int .i64 aI, .int .i64 aQ, .int .i64 aR, .int .i64 aS, .int .i64 aH, .int .i64 aT, .slice aK aB.length aL]) (t := 48) BX ?_; intro bP hg gG aG hb; have aD := am (aG); have aV := am (GH1 HB aC.out hg); have aJ := aV; replace HB := bl (K1 HB aC.out) hb; have aE := am (NL aA hg); have aF := am (NG aA hg); replace aA := am (BB aA hb); clear hb aG hg; have fW := aF.out; have fX := aE.out; have ⟨_, _, _, _, _, _, _, _, _, _, _, _⟩ := y11 gG aD.out) | ((with_reducible refine gate_callee (f := 69) rfl ?_); refine goesL_ (some 6) rfl rfl Tryz.func69 (by kernel_rfl) rfl #[.agg #[.int .i64 aM, .int .i64 aN, .string aO, .string aP, .int .i64 aI, .int .i64 aQ, .int .i64 aR, .int .i64 aS, .int .i64 aH, .int .i64 aT, .slice aK aB.length aL]] rfl MT ?_; (with_reducible refine (impl_SaOk.calls k aM aN aO aP aI aQ aR aS aH aT _ _ aB true _ ?_ ?_ A3.out).mono ?_); exact KD bA HB; exact bB.out; rintro e gH ⟨rfl, hb⟩; refine ⟨_, rfl, ?_⟩; replace aA := am (BB aA hb); replace aD := am (BB aD hb); replace HB := bl (K2 HB aC.out aJ.out) hb; (try clear hb); have ⟨_, _, _, _, _, _, _, _, _, _, _, _⟩ := y11 gH aD.out))
    go_ret
    exact ⟨ER, K2 HB aC.out aJ.out⟩
  ·rw [if_neg c5] at H
   have c5b0 : (aH == 0) = false := beq_eq_false_iff_ne.mpr c5; have c5b1 : (aH != 0) = true := bne_iff_ne.mpr c5; obtain rfl := sj H; go_enter Tryz.func35, Tryz.ntmps35
   go_wp2_with (first | ((with_reducible refine gate_dst (N := 2) rfl ?_); (try (refine gate_guard (by rfl) ?_; dsimp only)); refine box_event rfl (N := 2) rfl (cs := #[.int .i64 bC, .slice bD aW.length bE, .int .i64 bF, .slice bG aX.length bH, .slice bI aY.length bJ, .slice bK aZ.length bL]) (t := 42) BX ?_; intro bO hg gM aG hb; have aA := am (aG); have aU := am (GH HB hg); have aC := aU; replace HB := bl (KL HB) hb; clear hb aG hg) | ((with_reducible refine gate_dst (N := 3) rfl ?_); (try (refine gate_guard (by rfl) ?_; dsimp only)); refine box_event rfl (N := 3) rfl (cs := #[.int .i64 aM, .int .i64 aN, .string aO, .string aP, .int .i64 aI, .int .i64 aQ, .int .i64 aR, .int .i64 aS, .int .i64 aH, .int .i64 aT, .slice aK aB.length aL]) (t := 48) BX ?_; intro bP hg gI aG hb; have aD := am (aG); have aV := am (GH1 HB aC.out hg); have aJ := aV; replace HB := bl (K1 HB aC.out) hb; have aE := am (NL aA hg); have aF := am (NG aA hg); replace aA := am (BB aA hb); clear hb aG hg; have fY := aF.out; have fZ := aE.out; have ⟨_, _, _, _, _, _, _, _, _, _, _, _⟩ := y11 gI aD.out) | ((with_reducible refine gate_callee (f := 69) rfl ?_); refine goesL_ (some 6) rfl rfl Tryz.func69 (by kernel_rfl) rfl #[.agg #[.int .i64 aM, .int .i64 aN, .string aO, .string aP, .int .i64 aI, .int .i64 aQ, .int .i64 aR, .int .i64 aS, .int .i64 aH, .int .i64 aT, .slice aK aB.length aL]] rfl MT ?_; (with_reducible refine (impl_SaOk.calls k aM aN aO aP aI aQ aR aS aH aT _ _ aB true _ ?_ ?_ A3.out).mono ?_); exact KD bA HB; exact bB.out; rintro e gJ ⟨rfl, hb⟩; refine ⟨_, rfl, ?_⟩; replace aA := am (BB aA hb); replace aD := am (BB aD hb); replace HB := bl (K2 HB aC.out aJ.out) hb; (try clear hb); have ⟨_, _, _, _, _, _, _, _, _, _, _, _⟩ := y11 gJ aD.out))
   go_ret
   exact ⟨ER, K2 HB aC.out aJ.out⟩
 ·replace c4 := Bool.eq_false_iff.mpr c4
  subst c4; have H1 := nf H; clear H; have H := H1; clear H1; obtain rfl := sj H; go_enter Tryz.func35, Tryz.ntmps35
  go_wp2_with (first | ((with_reducible refine gate_dst (N := 2) rfl ?_); (try (refine gate_guard (by rfl) ?_; dsimp only)); refine box_event rfl (N := 2) rfl (cs := #[.int .i64 bC, .slice bD aW.length bE, .int .i64 bF, .slice bG aX.length bH, .slice bI aY.length bJ, .slice bK aZ.length bL]) (t := 42) BX ?_; intro bO hg gN aG hb; have aA := am (aG); have aU := am (GH HB hg); have aC := aU; replace HB := bl (KL HB) hb; clear hb aG hg) | ((with_reducible refine gate_dst (N := 3) rfl ?_); (try (refine gate_guard (by rfl) ?_; dsimp only)); refine box_event rfl (N := 3) rfl (cs := #[.int .i64 aM, .int .i64 aN, .string aO, .string aP, .int .i64 aI, .int .i64 aQ, .int .i64 aR, .int .i64 aS, .int .i64 aH, .int .i64 aT, .slice aK aB.length aL]) (t := 48) BX ?_; intro bP hg gK aG hb; have aD := am (aG); have aV := am (GH1 HB aC.out hg); have aJ := aV; replace HB := bl (K1 HB aC.out) hb; have aE := am (NL aA hg); have aF := am (NG aA hg); replace aA := am (BB aA hb); clear hb aG hg; have gA := aF.out; have gB := aE.out; have ⟨_, _, _, _, _, _, _, _, _, _, _, _⟩ := y11 gK aD.out) | ((with_reducible refine gate_callee (f := 69) rfl ?_); refine goesL_ (some 6) rfl rfl Tryz.func69 (by kernel_rfl) rfl #[.agg #[.int .i64 aM, .int .i64 aN, .string aO, .string aP, .int .i64 aI, .int .i64 aQ, .int .i64 aR, .int .i64 aS, .int .i64 aH, .int .i64 aT, .slice aK aB.length aL]] rfl MT ?_; (with_reducible refine (impl_SaOk.calls k aM aN aO aP aI aQ aR aS aH aT _ _ aB false _ ?_ ?_ A3.out).mono ?_); exact KD bA HB; exact bB.out; rintro e gO ⟨rfl, hb⟩; refine ⟨_, rfl, ?_⟩; replace aA := am (BB aA hb); replace aD := am (BB aD hb); replace HB := bl (K2 HB aC.out aJ.out) hb; (try clear hb)))
  go_ret
  exact ⟨ER, K2 HB aC.out aJ.out⟩
def laws_eqWindow.f (k : Nat) (a0_0 : Int) (l0_1 : List Int) (a1_0 : Int) (l1_1 : List Int) : Option (Bool) := if a0_0 = a1_0 then ((laws_eqIntS.f k l0_1 l1_1).bind fun t103 => (if t103 = true then (some true) else (some false))) else (some false)
theorem laws_eqWindow.calls (k : Nat) (aH : Int) (aN : Option Addr) (aO : Nat) (aF : List Int) (aI : Int) (aP : Option Addr) (aQ : Nat) (aG : List Int) (r : Bool) (w : World) (aS : Kd.C (Kd.int .i64) w aN aF.length aF) (aT : aF.length ≤ aO) (aU : Kd.C (Kd.int .i64) w aP aG.length aG) (aV : aG.length ≤ aQ) (h : laws_eqWindow.f k aH aF aI aG = some r) :
  Calls Tryz.prog 41 #[.agg #[.int .i64 aH, .slice aN aF.length aO], .agg #[.int .i64 aI, .slice aP aG.length aQ]] w fun e w' => e = .returned (.bool r) ∧ Below w.heap.size w w' := by
 have cB := Tryz.underlying46; have aW := Aside0.mk aS; have aX := Aside0.mk aT; clear aS aT; have aY := Aside0.mk aU; have aZ := Aside0.mk aV; clear aU aV; have HB := am (Below.refl w.heap.size w); have H : (if aH = aI then ((laws_eqIntS.f k aF aG).bind fun aR => (if aR = true then (some true) else (some false))) else (some false)) = some r := h; clear h; by_cases c3 : aH = aI
 ·rw [if_pos c3] at H
  have c3b0 : (aH == aI) = true := beq_iff_eq.mpr c3; have c3b1 : (aH != aI) = false := bne_eq_false_iff_eq.mpr c3; clear c3; replace H := bm H; obtain ⟨aR, bU, H⟩ := H; replace H : (if aR = true then (some true) else (some false)) = some r := H; have A4 := Aside0.mk bU; clear bU; by_cases c5 : aR = true
  ·subst c5
   have H1 := pf H; clear H; have H := H1; clear H1; obtain rfl := sj H; go_enter Tryz.func41, Tryz.ntmps41
   go_wp2_with (first | ((with_reducible refine gate_dst (N := 2) rfl ?_); refine box_event rfl (N := 2) rfl (cs := #[.int .i64 aH, .slice aN aF.length aO]) (t := 46) BX ?_; intro bA hg w6 aD hb; have aA := am (aD); have aJ := am (GH HB hg); have aE := aJ; replace HB := bl (KL HB) hb; clear hb aD hg) | ((with_reducible refine gate_dst (N := 3) rfl ?_); refine box_event rfl (N := 3) rfl (cs := #[.int .i64 aI, .slice aP aG.length aQ]) (t := 46) BX ?_; intro bB hg w7 aD hb; have aK := am (aD); have aL := am (GH1 HB aE.out hg); have aM := aL; replace HB := bl (K1 HB aE.out) hb; have aB := am (NL aA hg); have aC := am (NG aA hg); replace aA := am (BB aA hb); clear hb aD hg; have cC := aB.out; have cD := aC.out; have ⟨_, _, _⟩ := y2 w7 aA.out; have ⟨_, _, _⟩ := y2 w7 aK.out) | ((with_reducible refine gate_callee (f := 75) rfl ?_); refine goesL_ (some 14) rfl rfl Tryz.func75 (by kernel_rfl) rfl #[.slice aN aF.length aO, .slice aP aG.length aQ] rfl MT ?_; (with_reducible refine (laws_eqIntS.calls k _ _ aF _ _ aG true _ ?_ ?_ ?_ ?_ A4.out).mono ?_); exact KD aW HB; exact aX.out; exact KD aY HB; exact aZ.out; rintro e w' ⟨rfl, ⟨nd, rfl⟩⟩; refine ⟨_, rfl, ?_⟩))
   go_ret
   exact ⟨ER, K2 HB aE.out aM.out⟩
  ·replace c5 := Bool.eq_false_iff.mpr c5
   subst c5; have H1 := nf H; clear H; have H := H1; clear H1; obtain rfl := sj H; go_enter Tryz.func41, Tryz.ntmps41
   go_wp2_with (first | ((with_reducible refine gate_dst (N := 2) rfl ?_); refine box_event rfl (N := 2) rfl (cs := #[.int .i64 aH, .slice aN aF.length aO]) (t := 46) BX ?_; intro bA hg cE aD hb; have aA := am (aD); have aJ := am (GH HB hg); have aE := aJ; replace HB := bl (KL HB) hb; clear hb aD hg) | ((with_reducible refine gate_dst (N := 3) rfl ?_); refine box_event rfl (N := 3) rfl (cs := #[.int .i64 aI, .slice aP aG.length aQ]) (t := 46) BX ?_; intro bB hg bV aD hb; have aK := am (aD); have aL := am (GH1 HB aE.out hg); have aM := aL; replace HB := bl (K1 HB aE.out) hb; have aB := am (NL aA hg); have aC := am (NG aA hg); replace aA := am (BB aA hb); clear hb aD hg; have bW := aB.out; have bX := aC.out; have ⟨_, _, _⟩ := y2 bV aA.out; have ⟨_, _, _⟩ := y2 bV aK.out) | ((with_reducible refine gate_callee (f := 75) rfl ?_); refine goesL_ (some 14) rfl rfl Tryz.func75 (by kernel_rfl) rfl #[.slice aN aF.length aO, .slice aP aG.length aQ] rfl MT ?_; (with_reducible refine (laws_eqIntS.calls k _ _ aF _ _ aG false _ ?_ ?_ ?_ ?_ A4.out).mono ?_); exact KD aW HB; exact aX.out; exact KD aY HB; exact aZ.out; rintro e w' ⟨rfl, ⟨nd, rfl⟩⟩; refine ⟨_, rfl, ?_⟩))
   go_ret
   exact ⟨ER, K2 HB aE.out aM.out⟩
 ·rw [if_neg c3] at H
  have c3b0 : (aH == aI) = false := beq_eq_false_iff_ne.mpr c3; have c3b1 : (aH != aI) = true := bne_iff_ne.mpr c3; obtain rfl := sj H; go_enter Tryz.func41, Tryz.ntmps41
  go_wp2_with (first | ((with_reducible refine gate_dst (N := 2) rfl ?_); refine box_event rfl (N := 2) rfl (cs := #[.int .i64 aH, .slice aN aF.length aO]) (t := 46) BX ?_; intro bA hg cF aD hb; have aA := am (aD); have aJ := am (GH HB hg); have aE := aJ; replace HB := bl (KL HB) hb; clear hb aD hg) | ((with_reducible refine gate_dst (N := 3) rfl ?_); refine box_event rfl (N := 3) rfl (cs := #[.int .i64 aI, .slice aP aG.length aQ]) (t := 46) BX ?_; intro bB hg bY aD hb; have aK := am (aD); have aL := am (GH1 HB aE.out hg); have aM := aL; replace HB := bl (K1 HB aE.out) hb; have aB := am (NL aA hg); have aC := am (NG aA hg); replace aA := am (BB aA hb); clear hb aD hg; have bZ := aB.out; have cA := aC.out; have ⟨_, _, _⟩ := y2 bY aA.out; have ⟨_, _, _⟩ := y2 bY aK.out))
  go_ret
  exact ⟨ER, K2 HB aE.out aM.out⟩
def laws_szRuleS.f (l0 : List (S96)) (a1 : Int) : Option (Int) := if (wrap64 (a1 - (l0.length : Int))) < 0 then (some (-1)) else (some (wrap64 (a1 - (l0.length : Int))))
theorem laws_szRuleS.calls (A0 : Option Addr) (c0 : Nat) (l0 : List (S96)) (a1 : Int) (r : Int) (w : World) (aA : Kd.C k96 w A0 l0.length l0) (aB : l0.length ≤ c0) (h : laws_szRuleS.f l0 a1 = some r) :
  Calls Tryz.prog 18 #[.slice A0 l0.length c0, .int .i64 a1] w fun e w' => e = .returned (.int .i64 r) ∧ Drawn0 w w' := by
 have aC := Aside0.mk aA; have aD := Aside0.mk aB; clear aA aB; have H : (if (wrap64 (a1 - (l0.length : Int))) < 0 then (some (-1)) else (some (wrap64 (a1 - (l0.length : Int))))) = some r := h; clear h; by_cases c3 : (wrap64 (a1 - (l0.length : Int))) < 0
 ·rw [if_pos c3] at H
  have c3b0 : decide ((wrap64 (a1 - (l0.length : Int))) < 0) = true := decide_eq_true c3; clear c3; obtain rfl := sj H; go_enter Tryz.func18, Tryz.ntmps18
  go_wp2
  go_ret
  exact ⟨by first | rfl | (simp; done) | (simp [*]; done), by repeat (first | exact Drawn0.refl _ | apply Drawn0.step)⟩
 ·rw [if_neg c3] at H
  have c3b0 : decide ((wrap64 (a1 - (l0.length : Int))) < 0) = false := decide_eq_false c3; clear c3; obtain rfl := sj H; go_enter Tryz.func18, Tryz.ntmps18
  go_wp2
  go_ret
  exact ⟨by first | rfl | (simp; done) | (simp [*]; done), by repeat (first | exact Drawn0.refl _ | apply Drawn0.step)⟩
def laws_szSeenS.f (l0 : List (S124)) (a1 : Int) : Option (Int) := if (wrap64 (a1 - (l0.length : Int))) < 0 then (some (-1)) else (some (wrap64 (a1 - (l0.length : Int))))
theorem laws_szSeenS.calls (A0 : Option Addr) (c0 : Nat) (l0 : List (S124)) (a1 : Int) (r : Int) (w : World) (aA : Kd.C k124 w A0 l0.length l0) (aB : l0.length ≤ c0) (h : laws_szSeenS.f l0 a1 = some r) :
  Calls Tryz.prog 52 #[.slice A0 l0.length c0, .int .i64 a1] w fun e w' => e = .returned (.int .i64 r) ∧ Drawn0 w w' := by
 have aC := Aside0.mk aA; have aD := Aside0.mk aB; clear aA aB; have H : (if (wrap64 (a1 - (l0.length : Int))) < 0 then (some (-1)) else (some (wrap64 (a1 - (l0.length : Int))))) = some r := h; clear h; by_cases c3 : (wrap64 (a1 - (l0.length : Int))) < 0
 ·rw [if_pos c3] at H
  have c3b0 : decide ((wrap64 (a1 - (l0.length : Int))) < 0) = true := decide_eq_true c3; clear c3; obtain rfl := sj H; go_enter Tryz.func52, Tryz.ntmps52
  go_wp2
  go_ret
  exact ⟨by first | rfl | (simp; done) | (simp [*]; done), by repeat (first | exact Drawn0.refl _ | apply Drawn0.step)⟩
 ·rw [if_neg c3] at H
  have c3b0 : decide ((wrap64 (a1 - (l0.length : Int))) < 0) = false := decide_eq_false c3; clear c3; obtain rfl := sj H; go_enter Tryz.func52, Tryz.ntmps52
  go_wp2
  go_ret
  exact ⟨by first | rfl | (simp; done) | (simp [*]; done), by repeat (first | exact Drawn0.refl _ | apply Drawn0.step)⟩
def laws_szCache.f (a0_0 : Int) (l0_1 : List (S124)) (a1 : Int) : Option (Int) := (laws_szSeenS.f l0_1 a1).bind fun t102 => (if t102 < 0 then (some (-1)) else (some t102))
theorem laws_szCache.calls (aI : Int) (aC : Option Addr) (aD : Nat) (aA : List (S124)) (a1 : Int) (r : Int) (w : World) (aJ : Kd.C k124 w aC aA.length aA) (aK : aA.length ≤ aD) (h : laws_szCache.f aI aA a1 = some r) :
  Calls Tryz.prog 19 #[.agg #[.int .i64 aI, .slice aC aA.length aD], .int .i64 a1] w fun e w' => e = .returned (.int .i64 r) ∧ Below w.heap.size w w' := by
 have aV := Tryz.underlying25; have aL := Aside0.mk aJ; have aM := Aside0.mk aK; clear aJ aK; have HB := am (Below.refl w.heap.size w); have H : ((laws_szSeenS.f aA a1).bind fun aB => (if aB < 0 then (some (-1)) else (some aB))) = some r := h; clear h; replace H := bm H; obtain ⟨aB, aU, H⟩ := H; replace H : (if aB < 0 then (some (-1)) else (some aB)) = some r := H; have A3 := Aside0.mk aU; clear aU; by_cases c4 : aB < 0
 ·rw [if_pos c4] at H
  have c4b0 : decide (aB < 0) = true := decide_eq_true c4; clear c4; obtain rfl := sj H; go_enter Tryz.func19, Tryz.ntmps19
  go_wp2_with (first | ((with_reducible refine gate_dst (N := 2) rfl ?_); refine box_event rfl (N := 2) rfl (cs := #[.int .i64 aI, .slice aC aA.length aD]) (t := 25) BX ?_; intro aN hg w5 aE hb; have aF := am (aE); have aG := am (GH HB hg); have aH := aG; replace HB := bl (KL HB) hb; clear hb aE hg; have ⟨_, _, _⟩ := y2 w5 aF.out) | ((with_reducible refine gate_callee (f := 52) rfl ?_); refine goesL_ (some 8) rfl rfl Tryz.func52 (by kernel_rfl) rfl #[.slice aC aA.length aD, .int .i64 a1] rfl MT ?_; (with_reducible refine (laws_szSeenS.calls _ _ aA a1 aB _ ?_ ?_ A3.out).mono ?_); exact KD aL HB; exact aM.out; rintro e w' ⟨rfl, ⟨nd, rfl⟩⟩; refine ⟨_, rfl, ?_⟩))
  go_ret
  exact ⟨ER, K1 HB aH.out⟩
 ·rw [if_neg c4] at H
  have c4b0 : decide (aB < 0) = false := decide_eq_false c4; clear c4; obtain rfl := sj H; go_enter Tryz.func19, Tryz.ntmps19
  go_wp2_with (first | ((with_reducible refine gate_dst (N := 2) rfl ?_); refine box_event rfl (N := 2) rfl (cs := #[.int .i64 aI, .slice aC aA.length aD]) (t := 25) BX ?_; intro aN hg w7 aE hb; have aF := am (aE); have aG := am (GH HB hg); have aH := aG; replace HB := bl (KL HB) hb; clear hb aE hg; have ⟨_, _, _⟩ := y2 w7 aF.out) | ((with_reducible refine gate_callee (f := 52) rfl ?_); refine goesL_ (some 8) rfl rfl Tryz.func52 (by kernel_rfl) rfl #[.slice aC aA.length aD, .int .i64 a1] rfl MT ?_; (with_reducible refine (laws_szSeenS.calls _ _ aA a1 aB _ ?_ ?_ A3.out).mono ?_); exact KD aL HB; exact aM.out; rintro e w' ⟨rfl, ⟨nd, rfl⟩⟩; refine ⟨_, rfl, ?_⟩))
  go_ret
  exact ⟨ER, K1 HB aH.out⟩
def laws_szIntS.f (l0 : List Int) (a1 : Int) : Option (Int) := if (wrap64 (a1 - (l0.length : Int))) < 0 then (some (-1)) else (some (wrap64 (a1 - (l0.length : Int))))
theorem laws_szIntS.calls (A0 : Option Addr) (c0 : Nat) (l0 : List Int) (a1 : Int) (r : Int) (w : World) (aA : Kd.C (Kd.int .i64) w A0 l0.length l0) (aB : l0.length ≤ c0) (h : laws_szIntS.f l0 a1 = some r) :
  Calls Tryz.prog 53 #[.slice A0 l0.length c0, .int .i64 a1] w fun e w' => e = .returned (.int .i64 r) ∧ Drawn0 w w' := by
 have aC := Aside0.mk aA; have aD := Aside0.mk aB; clear aA aB; have H : (if (wrap64 (a1 - (l0.length : Int))) < 0 then (some (-1)) else (some (wrap64 (a1 - (l0.length : Int))))) = some r := h; clear h; by_cases c3 : (wrap64 (a1 - (l0.length : Int))) < 0
 ·rw [if_pos c3] at H
  have c3b0 : decide ((wrap64 (a1 - (l0.length : Int))) < 0) = true := decide_eq_true c3; clear c3; obtain rfl := sj H; go_enter Tryz.func53, Tryz.ntmps53
  go_wp2
  go_ret
  exact ⟨by first | rfl | (simp; done) | (simp [*]; done), by repeat (first | exact Drawn0.refl _ | apply Drawn0.step)⟩
 ·rw [if_neg c3] at H
  have c3b0 : decide ((wrap64 (a1 - (l0.length : Int))) < 0) = false := decide_eq_false c3; clear c3; obtain rfl := sj H; go_enter Tryz.func53, Tryz.ntmps53
  go_wp2
  go_ret
  exact ⟨by first | rfl | (simp; done) | (simp [*]; done), by repeat (first | exact Drawn0.refl _ | apply Drawn0.step)⟩
def laws_szWindow.f (a0_0 : Int) (l0_1 : List Int) (a1 : Int) : Option (Int) := (laws_szIntS.f l0_1 a1).bind fun t102 => (if t102 < 0 then (some (-1)) else (some t102))
theorem laws_szWindow.calls (aI : Int) (aC : Option Addr) (aD : Nat) (aA : List Int) (a1 : Int) (r : Int) (w : World) (aJ : Kd.C (Kd.int .i64) w aC aA.length aA) (aK : aA.length ≤ aD) (h : laws_szWindow.f aI aA a1 = some r) :
  Calls Tryz.prog 21 #[.agg #[.int .i64 aI, .slice aC aA.length aD], .int .i64 a1] w fun e w' => e = .returned (.int .i64 r) ∧ Below w.heap.size w w' := by
 have aV := Tryz.underlying31; have aL := Aside0.mk aJ; have aM := Aside0.mk aK; clear aJ aK; have HB := am (Below.refl w.heap.size w); have H : ((laws_szIntS.f aA a1).bind fun aB => (if aB < 0 then (some (-1)) else (some aB))) = some r := h; clear h; replace H := bm H; obtain ⟨aB, aU, H⟩ := H; replace H : (if aB < 0 then (some (-1)) else (some aB)) = some r := H; have A3 := Aside0.mk aU; clear aU; by_cases c4 : aB < 0
 ·rw [if_pos c4] at H
  have c4b0 : decide (aB < 0) = true := decide_eq_true c4; clear c4; obtain rfl := sj H; go_enter Tryz.func21, Tryz.ntmps21
  go_wp2_with (first | ((with_reducible refine gate_dst (N := 2) rfl ?_); refine box_event rfl (N := 2) rfl (cs := #[.int .i64 aI, .slice aC aA.length aD]) (t := 31) BX ?_; intro aN hg w5 aE hb; have aF := am (aE); have aG := am (GH HB hg); have aH := aG; replace HB := bl (KL HB) hb; clear hb aE hg; have ⟨_, _, _⟩ := y2 w5 aF.out) | ((with_reducible refine gate_callee (f := 53) rfl ?_); refine goesL_ (some 8) rfl rfl Tryz.func53 (by kernel_rfl) rfl #[.slice aC aA.length aD, .int .i64 a1] rfl MT ?_; (with_reducible refine (laws_szIntS.calls _ _ aA a1 aB _ ?_ ?_ A3.out).mono ?_); exact KD aL HB; exact aM.out; rintro e w' ⟨rfl, ⟨nd, rfl⟩⟩; refine ⟨_, rfl, ?_⟩))
  go_ret
  exact ⟨ER, K1 HB aH.out⟩
 ·rw [if_neg c4] at H
  have c4b0 : decide (aB < 0) = false := decide_eq_false c4; clear c4; obtain rfl := sj H; go_enter Tryz.func21, Tryz.ntmps21
  go_wp2_with (first | ((with_reducible refine gate_dst (N := 2) rfl ?_); refine box_event rfl (N := 2) rfl (cs := #[.int .i64 aI, .slice aC aA.length aD]) (t := 31) BX ?_; intro aN hg w7 aE hb; have aF := am (aE); have aG := am (GH HB hg); have aH := aG; replace HB := bl (KL HB) hb; clear hb aE hg; have ⟨_, _, _⟩ := y2 w7 aF.out) | ((with_reducible refine gate_callee (f := 53) rfl ?_); refine goesL_ (some 8) rfl rfl Tryz.func53 (by kernel_rfl) rfl #[.slice aC aA.length aD, .int .i64 a1] rfl MT ?_; (with_reducible refine (laws_szIntS.calls _ _ aA a1 aB _ ?_ ?_ A3.out).mono ?_); exact KD aL HB; exact aM.out; rintro e w' ⟨rfl, ⟨nd, rfl⟩⟩; refine ⟨_, rfl, ?_⟩))
  go_ret
  exact ⟨ER, K1 HB aH.out⟩
def laws_szSa.f (a0_0 : Int) (a0_1 : Int) (a0_2 : ByteArray) (a0_3 : ByteArray) (a0_4 : Int) (a0_5 : Int) (a0_6 : Int) (a0_7 : Int) (a0_8 : Int) (a0_9 : Int) (l0_10 : List Int) (a1 : Int) : Option (Int) := if (wrap64 (a1 - (a0_2.size : Int))) < 0 then (some (-1)) else (if (wrap64 ((wrap64 (a1 - (a0_2.size : Int))) - (a0_3.size : Int))) < 0 then (some (-1)) else ((laws_szWindow.f a0_9 l0_10 (wrap64 ((wrap64 (a1 - (a0_2.size : Int))) - (a0_3.size : Int)))).bind fun t102 => (if t102 < 0 then (some (-1)) else (some t102))))
theorem laws_szSa.calls (aL : Int) (aM : Int) (aB : ByteArray) (aD : ByteArray) (aN : Int) (aO : Int) (aP : Int) (aQ : Int) (aR : Int) (aH : Int) (aF : Option Addr) (aG : Nat) (aA : List Int) (a1 : Int) (r : Int) (w : World) (aS : Kd.C (Kd.int .i64) w aF aA.length aA) (aT : aA.length ≤ aG) (h : laws_szSa.f aL aM aB aD aN aO aP aQ aR aH aA a1 = some r) :
  Calls Tryz.prog 6 #[.agg #[.int .i64 aL, .int .i64 aM, .string aB, .string aD, .int .i64 aN, .int .i64 aO, .int .i64 aP, .int .i64 aQ, .int .i64 aR, .int .i64 aH, .slice aF aA.length aG], .int .i64 a1] w fun e w' => e = .returned (.int .i64 r) ∧ Below w.heap.size w w' := by
 have cV := Tryz.underlying33; have cW := Tryz.underlying31; have aU := Aside0.mk aS; have aV := Aside0.mk aT; clear aS aT; have HB := am (Below.refl w.heap.size w); have H : (if (wrap64 (a1 - (aB.size : Int))) < 0 then (some (-1)) else (if (wrap64 ((wrap64 (a1 - (aB.size : Int))) - (aD.size : Int))) < 0 then (some (-1)) else ((laws_szWindow.f aH aA (wrap64 ((wrap64 (a1 - (aB.size : Int))) - (aD.size : Int)))).bind fun aK => (if aK < 0 then (some (-1)) else (some aK))))) = some r := h; clear h; by_cases c3 : (wrap64 (a1 - (aB.size : Int))) < 0
 ·rw [if_pos c3] at H
  have c3b0 : decide ((wrap64 (a1 - (aB.size : Int))) < 0) = true := decide_eq_true c3; clear c3; obtain rfl := sj H; go_enter Tryz.func6, Tryz.ntmps6
  go_wp2_with (first | ((with_reducible refine gate_dst (N := 2) rfl ?_); refine box_event rfl (N := 2) rfl (cs := #[.int .i64 aL, .int .i64 aM, .string aB, .string aD, .int .i64 aN, .int .i64 aO, .int .i64 aP, .int .i64 aQ, .int .i64 aR, .int .i64 aH, .slice aF aA.length aG]) (t := 33) BX ?_; intro aW hg w4 aI hb; have aC := am (aI); have aJ := am (GH HB hg); have aE := aJ; replace HB := bl (KL HB) hb; clear hb aI hg; have ⟨_, _, _, _, _, _, _, _, _, _, _, _⟩ := y11 w4 aC.out))
  go_ret
  exact ⟨ER, K1 HB aE.out⟩
 ·rw [if_neg c3] at H
  have c3b0 : decide ((wrap64 (a1 - (aB.size : Int))) < 0) = false := decide_eq_false c3; clear c3; by_cases c6 : (wrap64 ((wrap64 (a1 - (aB.size : Int))) - (aD.size : Int))) < 0
  ·rw [if_pos c6] at H
   have c6b0 : decide ((wrap64 ((wrap64 (a1 - (aB.size : Int))) - (aD.size : Int))) < 0) = true := decide_eq_true c6; clear c6; obtain rfl := sj H; go_enter Tryz.func6, Tryz.ntmps6
   go_wp2_with (first | ((with_reducible refine gate_dst (N := 2) rfl ?_); refine box_event rfl (N := 2) rfl (cs := #[.int .i64 aL, .int .i64 aM, .string aB, .string aD, .int .i64 aN, .int .i64 aO, .int .i64 aP, .int .i64 aQ, .int .i64 aR, .int .i64 aH, .slice aF aA.length aG]) (t := 33) BX ?_; intro aW hg w7 aI hb; have aC := am (aI); have aJ := am (GH HB hg); have aE := aJ; replace HB := bl (KL HB) hb; clear hb aI hg; have ⟨_, _, _, _, _, _, _, _, _, _, _, _⟩ := y11 w7 aC.out))
   go_ret
   exact ⟨ER, K1 HB aE.out⟩
  ·rw [if_neg c6] at H
   have c6b0 : decide ((wrap64 ((wrap64 (a1 - (aB.size : Int))) - (aD.size : Int))) < 0) = false := decide_eq_false c6; clear c6; replace H := bm H; obtain ⟨aK, cU, H⟩ := H; replace H : (if aK < 0 then (some (-1)) else (some aK)) = some r := H; have A9 := Aside0.mk cU; clear cU; by_cases aX : aK < 0
   ·rw [if_pos aX] at H
    have c10b0 : decide (aK < 0) = true := decide_eq_true aX; clear aX; obtain rfl := sj H; go_enter Tryz.func6, Tryz.ntmps6
    go_wp2_with (first | ((with_reducible refine gate_dst (N := 2) rfl ?_); refine box_event rfl (N := 2) rfl (cs := #[.int .i64 aL, .int .i64 aM, .string aB, .string aD, .int .i64 aN, .int .i64 aO, .int .i64 aP, .int .i64 aQ, .int .i64 aR, .int .i64 aH, .slice aF aA.length aG]) (t := 33) BX ?_; intro aW hg cX aI hb; have aC := am (aI); have aJ := am (GH HB hg); have aE := aJ; replace HB := bl (KL HB) hb; clear hb aI hg; have ⟨_, _, _, _, _, _, _, _, _, _, _, _⟩ := y11 cX aC.out) | ((with_reducible refine gate_callee (f := 21) rfl ?_); refine goesL_ (some 22) rfl rfl Tryz.func21 (by kernel_rfl) rfl #[.agg #[.int .i64 aH, .slice aF aA.length aG], .int .i64 (wrap64 ((wrap64 (a1 - (aB.size : Int))) - (aD.size : Int)))] rfl MT ?_; (with_reducible refine (laws_szWindow.calls aH _ _ aA (wrap64 ((wrap64 (a1 - (aB.size : Int))) - (aD.size : Int))) aK _ ?_ ?_ A9.out).mono ?_); exact KD aU HB; exact aV.out; rintro e cZ ⟨rfl, hb⟩; refine ⟨_, rfl, ?_⟩; replace aC := am (BB aC hb); replace HB := bl (K1 HB aE.out) hb; (try clear hb)))
    go_ret
    exact ⟨ER, K1 HB aE.out⟩
   ·rw [if_neg aX] at H
    have c10b0 : decide (aK < 0) = false := decide_eq_false aX; clear aX; obtain rfl := sj H; go_enter Tryz.func6, Tryz.ntmps6
    go_wp2_with (first | ((with_reducible refine gate_dst (N := 2) rfl ?_); refine box_event rfl (N := 2) rfl (cs := #[.int .i64 aL, .int .i64 aM, .string aB, .string aD, .int .i64 aN, .int .i64 aO, .int .i64 aP, .int .i64 aQ, .int .i64 aR, .int .i64 aH, .slice aF aA.length aG]) (t := 33) BX ?_; intro aW hg cY aI hb; have aC := am (aI); have aJ := am (GH HB hg); have aE := aJ; replace HB := bl (KL HB) hb; clear hb aI hg; have ⟨_, _, _, _, _, _, _, _, _, _, _, _⟩ := y11 cY aC.out) | ((with_reducible refine gate_callee (f := 21) rfl ?_); refine goesL_ (some 22) rfl rfl Tryz.func21 (by kernel_rfl) rfl #[.agg #[.int .i64 aH, .slice aF aA.length aG], .int .i64 (wrap64 ((wrap64 (a1 - (aB.size : Int))) - (aD.size : Int)))] rfl MT ?_; (with_reducible refine (laws_szWindow.calls aH _ _ aA (wrap64 ((wrap64 (a1 - (aB.size : Int))) - (aD.size : Int))) aK _ ?_ ?_ A9.out).mono ?_); exact KD aU HB; exact aV.out; rintro e dA ⟨rfl, hb⟩; refine ⟨_, rfl, ?_⟩; replace aC := am (BB aC hb); replace HB := bl (K1 HB aE.out) hb; (try clear hb)))
    go_ret
    exact ⟨ER, K1 HB aE.out⟩
def laws_szSaS.l0 : Nat → List (S33) → Int → Int → Option (Int)
 | 0, _, _, _ => none
 | k + 1, x0, x1, x5 => if x5 < (x0.length : Int) then (if 0 ≤ x5 then ((laws_szSa.f ((rd_T33 x0 x5).f0) ((rd_T33 x0 x5).f1) ((rd_T33 x0 x5).f2) ((rd_T33 x0 x5).f3) ((rd_T33 x0 x5).f4) ((rd_T33 x0 x5).f5) ((rd_T33 x0 x5).f6) ((rd_T33 x0 x5).f7) ((rd_T33 x0 x5).f8) ((rd_T33 x0 x5).f9.f0) ((rd_T33 x0 x5).f9.f1) x1).bind fun t102 => (if t102 < 0 then (some (-1)) else (laws_szSaS.l0 k x0 t102 (wrap64 (x5 + 1))))) else (none)) else (some x1)
def laws_szSaS.f (k : Nat) (l0 : List (S33)) (a1 : Int) : Option (Int) := if (wrap64 (a1 - (l0.length : Int))) < 0 then (some (-1)) else (laws_szSaS.l0 k l0 (wrap64 (a1 - (l0.length : Int))) 0)
theorem laws_szSaS.calls (k : Nat) (A0 : Option Addr) (c0 : Nat) (l0 : List (S33)) (a1 : Int) (r : Int) (w : World) (aY : Kd.C k33 w A0 l0.length l0) (aZ : l0.length ≤ c0) (h : laws_szSaS.f k l0 a1 = some r) :
  Calls Tryz.prog 20 #[.slice A0 l0.length c0, .int .i64 a1] w fun e w' => e = .returned (.int .i64 r) ∧ Below w.heap.size w w' := by
 have bC := Tryz.underlying33; have bA := Aside0.mk aY; have bD := Aside0.mk aZ; clear aY aZ; have HB := am (Below.refl w.heap.size w); have H : (if (wrap64 (a1 - (l0.length : Int))) < 0 then (some (-1)) else (laws_szSaS.l0 k l0 (wrap64 (a1 - (l0.length : Int))) 0)) = some r := h; clear h; by_cases c3 : (wrap64 (a1 - (l0.length : Int))) < 0
 ·rw [if_pos c3] at H
  have c3b0 : decide ((wrap64 (a1 - (l0.length : Int))) < 0) = true := decide_eq_true c3; clear c3; obtain rfl := sj H; go_enter Tryz.func20, Tryz.ntmps20
  go_wp2
  go_ret
  exact ⟨ER, KL HB⟩
 ·rw [if_neg c3] at H
  have c3b0 : decide ((wrap64 (a1 - (l0.length : Int))) < 0) = false := decide_eq_false c3; clear c3; have H' := Aside0.mk H; clear H; go_enter Tryz.func20, Tryz.ntmps20
  go_wp2
  go_loopg [1, 5] k (fun kq v1 v5 w' => ∃ (aT : Int) (aA : Int), v1 = .int .i64 aT ∧ v5 = .int .i64 aA ∧ Aside0 (laws_szSaS.l0 kq l0 aT aA = some r) ∧ Aside0 (kq ≤ k) ∧ Aside0 (Below w.heap.size w w'))
  case atStart => exact ⟨(wrap64 (a1 - (l0.length : Int))), (0), (by first | rfl | (simp; done) | (simp [*]; done)), (by first | rfl | (simp; done) | (simp [*]; done)), H', ⟨Nat.le_refl _⟩, ⟨KL HB⟩⟩
  case round =>
   clear H'; try clear c2
   try clear p2
   try clear c3
   try clear c3b0
   obtain ⟨aT, aA, rfl, rfl, HA, HK1, HB⟩ := hrel; cases gk with
   | zero => exact absurd HA.out (by simp [laws_szSaS.l0])
   | succ k1 =>
    have H := HA.out; clear HA; simp only [laws_szSaS.l0] at H; by_cases c4 : aA < (l0.length : Int)
    ·rw [if_pos c4] at H
     have c4b0 : decide (aA < (l0.length : Int)) = true := decide_eq_true c4; clear c4; by_cases c5 : 0 ≤ aA
     ·rw [if_pos c5] at H
      have c5b0 : decide (0 ≤ aA) = true := decide_eq_true c5; clear c5; replace H := bm H; obtain ⟨aS, bB, H⟩ := H; replace H : (if aS < 0 then (some (-1)) else (laws_szSaS.l0 k1 l0 aS (wrap64 (aA + 1)))) = some r := H; have A6 := Aside0.mk bB; clear bB; by_cases c7 : aS < 0
      ·rw [if_pos c7] at H
       have c7b0 : decide (aS < 0) = true := decide_eq_true c7; clear c7; obtain rfl := sj H; have aU : 0 ≤ (aA : Int) := OD; have aV : aA < (l0.length : Int) := OD; obtain ⟨aX, aQ, aR, aW, aE, aF, aG, aH, aI, aJ, aK, aL, aM, aN, aB, aC, aD⟩ := at_T33 bA.out aA aU aV; cases aW
       replace aE := CX HB.out aE; replace aF := CX HB.out aF; replace aG := CX HB.out aG; replace aH := CX HB.out aH; replace aI := CX HB.out aI; replace aJ := CX HB.out aJ; replace aK := CX HB.out aK; replace aL := CX HB.out aL; replace aM := CX HB.out aM; replace aN := CX HB.out aN; replace aB := CX HB.out aB; have aO := Aside0.mk aD; have aP := Aside0.mk aC; clear aD aC; replace aU := eq_true aU; replace aV := eq_true aV; go_wp2_with (first | ((with_reducible refine gate_callee (f := 6) rfl ?_); refine goesL_ (some 23) rfl rfl Tryz.func6 (by kernel_rfl) rfl #[.agg #[.int .i64 ((rd_T33 l0 aA).f0), .int .i64 ((rd_T33 l0 aA).f1), .string ((rd_T33 l0 aA).f2), .string ((rd_T33 l0 aA).f3), .int .i64 ((rd_T33 l0 aA).f4), .int .i64 ((rd_T33 l0 aA).f5), .int .i64 ((rd_T33 l0 aA).f6), .int .i64 ((rd_T33 l0 aA).f7), .int .i64 ((rd_T33 l0 aA).f8), .int .i64 ((rd_T33 l0 aA).f9.f0), .slice aQ ((rd_T33 l0 aA).f9.f1).length aR], .int .i64 aT] rfl MT ?_; (with_reducible refine (laws_szSa.calls ((rd_T33 l0 aA).f0) ((rd_T33 l0 aA).f1) ((rd_T33 l0 aA).f2) ((rd_T33 l0 aA).f3) ((rd_T33 l0 aA).f4) ((rd_T33 l0 aA).f5) ((rd_T33 l0 aA).f6) ((rd_T33 l0 aA).f7) ((rd_T33 l0 aA).f8) ((rd_T33 l0 aA).f9.f0) _ _ ((rd_T33 l0 aA).f9.f1) aT aS _ ?_ ?_ A6.out).mono ?_); exact KD aO HB; exact aP.out; rintro e w8 ⟨rfl, hb⟩; refine ⟨_, rfl, ?_⟩; replace HB := bl (KL HB) hb; (try clear hb)))
       go_ret
       exact ⟨ER, KL HB⟩
      ·rw [if_neg c7] at H
       have c7b0 : decide (aS < 0) = false := decide_eq_false c7; clear c7; have H' := Aside0.mk H; clear H; have aU : 0 ≤ (aA : Int) := OD; have aV : aA < (l0.length : Int) := OD; obtain ⟨aX, aQ, aR, aW, aE, aF, aG, aH, aI, aJ, aK, aL, aM, aN, aB, aC, aD⟩ := at_T33 bA.out aA aU aV; cases aW
       replace aE := CX HB.out aE; replace aF := CX HB.out aF; replace aG := CX HB.out aG; replace aH := CX HB.out aH; replace aI := CX HB.out aI; replace aJ := CX HB.out aJ; replace aK := CX HB.out aK; replace aL := CX HB.out aL; replace aM := CX HB.out aM; replace aN := CX HB.out aN; replace aB := CX HB.out aB; have aO := Aside0.mk aD; have aP := Aside0.mk aC; clear aD aC; replace aU := eq_true aU; replace aV := eq_true aV; go_wp2_with (first | ((with_reducible refine gate_callee (f := 6) rfl ?_); refine goesL_ (some 23) rfl rfl Tryz.func6 (by kernel_rfl) rfl #[.agg #[.int .i64 ((rd_T33 l0 aA).f0), .int .i64 ((rd_T33 l0 aA).f1), .string ((rd_T33 l0 aA).f2), .string ((rd_T33 l0 aA).f3), .int .i64 ((rd_T33 l0 aA).f4), .int .i64 ((rd_T33 l0 aA).f5), .int .i64 ((rd_T33 l0 aA).f6), .int .i64 ((rd_T33 l0 aA).f7), .int .i64 ((rd_T33 l0 aA).f8), .int .i64 ((rd_T33 l0 aA).f9.f0), .slice aQ ((rd_T33 l0 aA).f9.f1).length aR], .int .i64 aT] rfl MT ?_; (with_reducible refine (laws_szSa.calls ((rd_T33 l0 aA).f0) ((rd_T33 l0 aA).f1) ((rd_T33 l0 aA).f2) ((rd_T33 l0 aA).f3) ((rd_T33 l0 aA).f4) ((rd_T33 l0 aA).f5) ((rd_T33 l0 aA).f6) ((rd_T33 l0 aA).f7) ((rd_T33 l0 aA).f8) ((rd_T33 l0 aA).f9.f0) _ _ ((rd_T33 l0 aA).f9.f1) aT aS _ ?_ ?_ A6.out).mono ?_); exact KD aO HB; exact aP.out; rintro e w9 ⟨rfl, hb⟩; refine ⟨_, rfl, ?_⟩; replace HB := bl (KL HB) hb; (try clear hb)))
       go_roundg k1
       case measure => have := HK1.out; omega
       case rel => exact ⟨(aS), (wrap64 (aA + 1)), (by first | rfl | (simp; done) | (simp [*]; done)), (by first | rfl | (simp; done) | (simp [*]; done)), H', ⟨by have := HK1.out; omega⟩, ⟨KL HB⟩⟩
     ·rw [if_neg c5] at H
      exact absurd H (by simp)
    ·rw [if_neg c4] at H
     have c4b0 : decide (aA < (l0.length : Int)) = false := decide_eq_false c4; clear c4; obtain rfl := sj H; go_wp2
     go_ret
     exact ⟨ER, KL HB⟩
def laws_szGate.f (k : Nat) (a0_0 : Int) (l0_1 : List (S96)) (a0_2 : Int) (l0_3 : List (S124)) (l0_4 : List (S33)) (l0_5 : List (S33)) (a1 : Int) : Option (Int) := (laws_szRuleS.f l0_1 a1).bind fun t102 => (if t102 < 0 then (some (-1)) else ((laws_szCache.f a0_2 l0_3 t102).bind fun t103 => (if t103 < 0 then (some (-1)) else ((laws_szSaS.f k l0_4 t103).bind fun t104 => (if t104 < 0 then (some (-1)) else ((laws_szSaS.f k l0_5 t104).bind fun t105 => (if t105 < 0 then (some (-1)) else (some t105))))))))
theorem laws_szGate.calls (k : Nat) (aX : Int) (aN : Option Addr) (aO : Nat) (aC : List (S96)) (aK : Int) (aP : Option Addr) (aQ : Nat) (aG : List (S124)) (aR : Option Addr) (aS : Nat) (aH : List (S33)) (aT : Option Addr) (aU : Nat) (aJ : List (S33)) (a1 : Int) (r : Int) (w : World) (bD : Kd.C k96 w aN aC.length aC) (bE : aC.length ≤ aO) (bF : Kd.C k124 w aP aG.length aG) (bG : aG.length ≤ aQ) (bH : Kd.C k33 w aR aH.length aH) (bI : aH.length ≤ aS) (bJ : Kd.C k33 w aT aJ.length aJ) (bK : aJ.length ≤ aU) (h : laws_szGate.f k aX aC aK aG aH aJ a1 = some r) :
  Calls Tryz.prog 5 #[.agg #[.int .i64 aX, .slice aN aC.length aO, .int .i64 aK, .slice aP aG.length aQ, .slice aR aH.length aS, .slice aT aJ.length aU], .int .i64 a1] w fun e w' => e = .returned (.int .i64 r) ∧ Below w.heap.size w w' := by
 have eN := Tryz.underlying28; have eO := Tryz.underlying25; have aV := Aside0.mk bD; have aW := Aside0.mk bE; clear bD bE; have aY := Aside0.mk bF; have aZ := Aside0.mk bG; clear bF bG; have bB := Aside0.mk bH; have bC := Aside0.mk bI; clear bH bI; have bL := Aside0.mk bJ; have bM := Aside0.mk bK; clear bJ bK; have HB := am (Below.refl w.heap.size w); have H : ((laws_szRuleS.f aC a1).bind fun aD => (if aD < 0 then (some (-1)) else ((laws_szCache.f aK aG aD).bind fun aE => (if aE < 0 then (some (-1)) else ((laws_szSaS.f k aH aE).bind fun aF => (if aF < 0 then (some (-1)) else ((laws_szSaS.f k aJ aF).bind fun aI => (if aI < 0 then (some (-1)) else (some aI))))))))) = some r := h; clear h; replace H := bm H; obtain ⟨aD, eK, H⟩ := H; replace H : (if aD < 0 then (some (-1)) else ((laws_szCache.f aK aG aD).bind fun aE => (if aE < 0 then (some (-1)) else ((laws_szSaS.f k aH aE).bind fun aF => (if aF < 0 then (some (-1)) else ((laws_szSaS.f k aJ aF).bind fun aI => (if aI < 0 then (some (-1)) else (some aI)))))))) = some r := H; have A3 := Aside0.mk eK; clear eK; by_cases c4 : aD < 0
 ·rw [if_pos c4] at H
  have c4b0 : decide (aD < 0) = true := decide_eq_true c4; clear c4; obtain rfl := sj H; go_enter Tryz.func5, Tryz.ntmps5
  go_wp2_with (first | ((with_reducible refine gate_dst (N := 2) rfl ?_); refine box_event rfl (N := 2) rfl (cs := #[.int .i64 aX, .slice aN aC.length aO, .int .i64 aK, .slice aP aG.length aQ, .slice aR aH.length aS, .slice aT aJ.length aU]) (t := 28) BX ?_; intro bA hg w5 aL hb; have aA := am (aL); have aM := am (GH HB hg); have aB := aM; replace HB := bl (KL HB) hb; clear hb aL hg; have ⟨_, _, _, _, _, _, _⟩ := y6 w5 aA.out) | ((with_reducible refine gate_callee (f := 18) rfl ?_); refine goesL_ (some 8) rfl rfl Tryz.func18 (by kernel_rfl) rfl #[.slice aN aC.length aO, .int .i64 a1] rfl MT ?_; (with_reducible refine (laws_szRuleS.calls _ _ aC a1 aD _ ?_ ?_ A3.out).mono ?_); exact KD aV HB; exact aW.out; rintro e w' ⟨rfl, ⟨nd, rfl⟩⟩; refine ⟨_, rfl, ?_⟩))
  go_ret
  exact ⟨ER, K1 HB aB.out⟩
 ·rw [if_neg c4] at H
  have c4b0 : decide (aD < 0) = false := decide_eq_false c4; clear c4; replace H := bm H; obtain ⟨aE, eL, H⟩ := H; replace H : (if aE < 0 then (some (-1)) else ((laws_szSaS.f k aH aE).bind fun aF => (if aF < 0 then (some (-1)) else ((laws_szSaS.f k aJ aF).bind fun aI => (if aI < 0 then (some (-1)) else (some aI)))))) = some r := H; have A7 := Aside0.mk eL; clear eL; by_cases c8 : aE < 0
  ·rw [if_pos c8] at H
   have c8b0 : decide (aE < 0) = true := decide_eq_true c8; clear c8; obtain rfl := sj H; go_enter Tryz.func5, Tryz.ntmps5
   go_wp2_with (first | ((with_reducible refine gate_dst (N := 2) rfl ?_); refine box_event rfl (N := 2) rfl (cs := #[.int .i64 aX, .slice aN aC.length aO, .int .i64 aK, .slice aP aG.length aQ, .slice aR aH.length aS, .slice aT aJ.length aU]) (t := 28) BX ?_; intro bA hg w9 aL hb; have aA := am (aL); have aM := am (GH HB hg); have aB := aM; replace HB := bl (KL HB) hb; clear hb aL hg; have ⟨_, _, _, _, _, _, _⟩ := y6 w9 aA.out) | ((with_reducible refine gate_callee (f := 18) rfl ?_); refine goesL_ (some 8) rfl rfl Tryz.func18 (by kernel_rfl) rfl #[.slice aN aC.length aO, .int .i64 a1] rfl MT ?_; (with_reducible refine (laws_szRuleS.calls _ _ aC a1 aD _ ?_ ?_ A3.out).mono ?_); exact KD aV HB; exact aW.out; rintro e w' ⟨rfl, ⟨nd, rfl⟩⟩; refine ⟨_, rfl, ?_⟩) | ((with_reducible refine gate_callee (f := 19) rfl ?_); refine goesL_ (some 14) rfl rfl Tryz.func19 (by kernel_rfl) rfl #[.agg #[.int .i64 aK, .slice aP aG.length aQ], .int .i64 aD] rfl MT ?_; (with_reducible refine (laws_szCache.calls aK _ _ aG aD aE _ ?_ ?_ A7.out).mono ?_); (repeat (first | exact (Kd.C_below aY.out (K1 HB aB.out)) | (with_reducible refine Kd.C_alloc ?_ _) | (with_reducible refine Kd.C_drewN ?_ _) | (with_reducible refine Kd.C_drew ?_))); exact aZ.out; rintro e eX ⟨rfl, hb⟩; refine ⟨_, rfl, ?_⟩; replace aA := am (BB aA hb); replace HB := bl (K1 HB aB.out) hb; (try clear hb)))
   go_ret
   exact ⟨ER, K1 HB aB.out⟩
  ·rw [if_neg c8] at H
   have c8b0 : decide (aE < 0) = false := decide_eq_false c8; clear c8; replace H := bm H; obtain ⟨aF, bP, H⟩ := H; replace H : (if aF < 0 then (some (-1)) else ((laws_szSaS.f k aJ aF).bind fun aI => (if aI < 0 then (some (-1)) else (some aI)))) = some r := H; have eJ := Aside0.mk bP; clear bP; by_cases bN : aF < 0
   ·rw [if_pos bN] at H
    have c13b0 : decide (aF < 0) = true := decide_eq_true bN; clear bN; obtain rfl := sj H; go_enter Tryz.func5, Tryz.ntmps5
    go_wp2_with (first | ((with_reducible refine gate_dst (N := 2) rfl ?_); refine box_event rfl (N := 2) rfl (cs := #[.int .i64 aX, .slice aN aC.length aO, .int .i64 aK, .slice aP aG.length aQ, .slice aR aH.length aS, .slice aT aJ.length aU]) (t := 28) BX ?_; intro bA hg eP aL hb; have aA := am (aL); have aM := am (GH HB hg); have aB := aM; replace HB := bl (KL HB) hb; clear hb aL hg; have ⟨_, _, _, _, _, _, _⟩ := y6 eP aA.out) | ((with_reducible refine gate_callee (f := 18) rfl ?_); refine goesL_ (some 8) rfl rfl Tryz.func18 (by kernel_rfl) rfl #[.slice aN aC.length aO, .int .i64 a1] rfl MT ?_; (with_reducible refine (laws_szRuleS.calls _ _ aC a1 aD _ ?_ ?_ A3.out).mono ?_); exact KD aV HB; exact aW.out; rintro e w' ⟨rfl, ⟨nd, rfl⟩⟩; refine ⟨_, rfl, ?_⟩) | ((with_reducible refine gate_callee (f := 19) rfl ?_); refine goesL_ (some 14) rfl rfl Tryz.func19 (by kernel_rfl) rfl #[.agg #[.int .i64 aK, .slice aP aG.length aQ], .int .i64 aD] rfl MT ?_; (with_reducible refine (laws_szCache.calls aK _ _ aG aD aE _ ?_ ?_ A7.out).mono ?_); (repeat (first | exact (Kd.C_below aY.out (K1 HB aB.out)) | (with_reducible refine Kd.C_alloc ?_ _) | (with_reducible refine Kd.C_drewN ?_ _) | (with_reducible refine Kd.C_drew ?_))); exact aZ.out; rintro e eQ ⟨rfl, hb⟩; refine ⟨_, rfl, ?_⟩; replace aA := am (BB aA hb); replace HB := bl (K1 HB aB.out) hb; (try clear hb); have ⟨_, _, _, _, _, _, _⟩ := y6 eQ aA.out) | ((with_reducible refine gate_callee (f := 20) rfl ?_); refine goesL_ (some 20) rfl rfl Tryz.func20 (by kernel_rfl) rfl #[.slice aR aH.length aS, .int .i64 aE] rfl MT ?_; (with_reducible refine (laws_szSaS.calls k _ _ aH aE aF _ ?_ ?_ eJ.out).mono ?_); exact KD bB HB; exact bC.out; rintro e eY ⟨rfl, hb⟩; refine ⟨_, rfl, ?_⟩; replace aA := am (BB aA hb); replace HB := bl (K1 HB aB.out) hb; (try clear hb)))
    go_ret
    exact ⟨ER, K1 HB aB.out⟩
   ·rw [if_neg bN] at H
    have c13b0 : decide (aF < 0) = false := decide_eq_false bN; clear bN; replace H := bm H; obtain ⟨aI, bQ, H⟩ := H; replace H : (if aI < 0 then (some (-1)) else (some aI)) = some r := H; have eM := Aside0.mk bQ; clear bQ; by_cases bO : aI < 0
    ·rw [if_pos bO] at H
     have c20b0 : decide (aI < 0) = true := decide_eq_true bO; clear bO; obtain rfl := sj H; go_enter Tryz.func5, Tryz.ntmps5
     go_wp2_with (first | ((with_reducible refine gate_dst (N := 2) rfl ?_); refine box_event rfl (N := 2) rfl (cs := #[.int .i64 aX, .slice aN aC.length aO, .int .i64 aK, .slice aP aG.length aQ, .slice aR aH.length aS, .slice aT aJ.length aU]) (t := 28) BX ?_; intro bA hg eR aL hb; have aA := am (aL); have aM := am (GH HB hg); have aB := aM; replace HB := bl (KL HB) hb; clear hb aL hg; have ⟨_, _, _, _, _, _, _⟩ := y6 eR aA.out) | ((with_reducible refine gate_callee (f := 18) rfl ?_); refine goesL_ (some 8) rfl rfl Tryz.func18 (by kernel_rfl) rfl #[.slice aN aC.length aO, .int .i64 a1] rfl MT ?_; (with_reducible refine (laws_szRuleS.calls _ _ aC a1 aD _ ?_ ?_ A3.out).mono ?_); exact KD aV HB; exact aW.out; rintro e w' ⟨rfl, ⟨nd, rfl⟩⟩; refine ⟨_, rfl, ?_⟩) | ((with_reducible refine gate_callee (f := 19) rfl ?_); refine goesL_ (some 14) rfl rfl Tryz.func19 (by kernel_rfl) rfl #[.agg #[.int .i64 aK, .slice aP aG.length aQ], .int .i64 aD] rfl MT ?_; (with_reducible refine (laws_szCache.calls aK _ _ aG aD aE _ ?_ ?_ A7.out).mono ?_); (repeat (first | exact (Kd.C_below aY.out (K1 HB aB.out)) | (with_reducible refine Kd.C_alloc ?_ _) | (with_reducible refine Kd.C_drewN ?_ _) | (with_reducible refine Kd.C_drew ?_))); exact aZ.out; rintro e eS ⟨rfl, hb⟩; refine ⟨_, rfl, ?_⟩; replace aA := am (BB aA hb); replace HB := bl (K1 HB aB.out) hb; (try clear hb); have ⟨_, _, _, _, _, _, _⟩ := y6 eS aA.out) | ((with_reducible refine gate_callee (f := 20) rfl ?_); refine goesL_ (some 20) rfl rfl Tryz.func20 (by kernel_rfl) rfl #[.slice aR aH.length aS, .int .i64 aE] rfl MT ?_; (with_reducible refine (laws_szSaS.calls k _ _ aH aE aF _ ?_ ?_ eJ.out).mono ?_); exact KD bB HB; exact bC.out; rintro e eT ⟨rfl, hb⟩; refine ⟨_, rfl, ?_⟩; replace aA := am (BB aA hb); replace HB := bl (K1 HB aB.out) hb; (try clear hb); have ⟨_, _, _, _, _, _, _⟩ := y6 eT aA.out) | ((with_reducible refine gate_callee (f := 20) rfl ?_); refine goesL_ (some 26) rfl rfl Tryz.func20 (by kernel_rfl) rfl #[.slice aT aJ.length aU, .int .i64 aF] rfl MT ?_; (with_reducible refine (laws_szSaS.calls k _ _ aJ aF aI _ ?_ ?_ eM.out).mono ?_); exact KD bL HB; exact bM.out; rintro e eZ ⟨rfl, hb⟩; refine ⟨_, rfl, ?_⟩; replace aA := am (BB aA hb); replace HB := bl (K1 HB aB.out) hb; (try clear hb)))
     go_ret
     exact ⟨ER, K1 HB aB.out⟩
    ·rw [if_neg bO] at H
     have c20b0 : decide (aI < 0) = false := decide_eq_false bO; clear bO; obtain rfl := sj H; go_enter Tryz.func5, Tryz.ntmps5
     go_wp2_with (first | ((with_reducible refine gate_dst (N := 2) rfl ?_); refine box_event rfl (N := 2) rfl (cs := #[.int .i64 aX, .slice aN aC.length aO, .int .i64 aK, .slice aP aG.length aQ, .slice aR aH.length aS, .slice aT aJ.length aU]) (t := 28) BX ?_; intro bA hg eU aL hb; have aA := am (aL); have aM := am (GH HB hg); have aB := aM; replace HB := bl (KL HB) hb; clear hb aL hg; have ⟨_, _, _, _, _, _, _⟩ := y6 eU aA.out) | ((with_reducible refine gate_callee (f := 18) rfl ?_); refine goesL_ (some 8) rfl rfl Tryz.func18 (by kernel_rfl) rfl #[.slice aN aC.length aO, .int .i64 a1] rfl MT ?_; (with_reducible refine (laws_szRuleS.calls _ _ aC a1 aD _ ?_ ?_ A3.out).mono ?_); exact KD aV HB; exact aW.out; rintro e w' ⟨rfl, ⟨nd, rfl⟩⟩; refine ⟨_, rfl, ?_⟩) | ((with_reducible refine gate_callee (f := 19) rfl ?_); refine goesL_ (some 14) rfl rfl Tryz.func19 (by kernel_rfl) rfl #[.agg #[.int .i64 aK, .slice aP aG.length aQ], .int .i64 aD] rfl MT ?_; (with_reducible refine (laws_szCache.calls aK _ _ aG aD aE _ ?_ ?_ A7.out).mono ?_); (repeat (first | exact (Kd.C_below aY.out (K1 HB aB.out)) | (with_reducible refine Kd.C_alloc ?_ _) | (with_reducible refine Kd.C_drewN ?_ _) | (with_reducible refine Kd.C_drew ?_))); exact aZ.out; rintro e eV ⟨rfl, hb⟩; refine ⟨_, rfl, ?_⟩; replace aA := am (BB aA hb); replace HB := bl (K1 HB aB.out) hb; (try clear hb); have ⟨_, _, _, _, _, _, _⟩ := y6 eV aA.out) | ((with_reducible refine gate_callee (f := 20) rfl ?_); refine goesL_ (some 20) rfl rfl Tryz.func20 (by kernel_rfl) rfl #[.slice aR aH.length aS, .int .i64 aE] rfl MT ?_; (with_reducible refine (laws_szSaS.calls k _ _ aH aE aF _ ?_ ?_ eJ.out).mono ?_); exact KD bB HB; exact bC.out; rintro e eW ⟨rfl, hb⟩; refine ⟨_, rfl, ?_⟩; replace aA := am (BB aA hb); replace HB := bl (K1 HB aB.out) hb; (try clear hb); have ⟨_, _, _, _, _, _, _⟩ := y6 eW aA.out) | ((with_reducible refine gate_callee (f := 20) rfl ?_); refine goesL_ (some 26) rfl rfl Tryz.func20 (by kernel_rfl) rfl #[.slice aT aJ.length aU, .int .i64 aF] rfl MT ?_; (with_reducible refine (laws_szSaS.calls k _ _ aJ aF aI _ ?_ ?_ eM.out).mono ?_); exact KD bL HB; exact bM.out; rintro e fA ⟨rfl, hb⟩; refine ⟨_, rfl, ?_⟩; replace aA := am (BB aA hb); replace HB := bl (K1 HB aB.out) hb; (try clear hb)))
     go_ret
     exact ⟨ER, K1 HB aB.out⟩
def laws_markText.l0 : Nat → Int → ByteArray → Option (ByteArray)
 | 0, _, _ => none
 | k + 1, x0, x3 => if x0 > 0 then ((some (([(wrap64 (48 + (Int.tmod x0 10))) % 256] : List Int) : List Int)).bind fun y101 => (if (strOfNums y101).size + x3.size ≤ 9223372036854775807 then (laws_markText.l0 k (wrap64 (Int.tdiv x0 10)) ((strOfNums y101) ++ x3)) else (none))) else (if 1 + x3.size ≤ 9223372036854775807 then (some ((⟨#[109]⟩ : ByteArray) ++ x3)) else (none))
def laws_markText.f (k : Nat) (a0 : Int) : Option (ByteArray) := if a0 ≤ 0 then (some (⟨#[109, 48]⟩ : ByteArray)) else (laws_markText.l0 k a0 (⟨#[]⟩ : ByteArray))
theorem laws_markText.calls (k : Nat) (a0 : Int) (r : ByteArray) (w : World) (h : laws_markText.f k a0 = some r) :
  Calls Tryz.prog 77 #[.int .i64 a0] w fun e w' => e = .returned (.string r) ∧ Below w.heap.size w w' := by
 have HB := am (Below.refl w.heap.size w); have H : (if a0 ≤ 0 then (some (⟨#[109, 48]⟩ : ByteArray)) else (laws_markText.l0 k a0 (⟨#[]⟩ : ByteArray))) = some r := h; clear h; by_cases c2 : a0 ≤ 0
 ·rw [if_pos c2] at H
  have c2b0 : decide (a0 ≤ 0) = true := decide_eq_true c2; clear c2; obtain rfl := sj H; go_enter Tryz.func77, Tryz.ntmps77
  go_wp2
  go_ret
  exact ⟨ER, KL HB⟩
 ·rw [if_neg c2] at H
  have c2b0 : decide (a0 ≤ 0) = false := decide_eq_false c2; clear c2; have H' := Aside0.mk H; clear H; go_enter Tryz.func77, Tryz.ntmps77
  go_wp2
  go_loopg [0, 3] k (fun kq v0 v3 w' => ∃ (aA : Int) (aB : ByteArray), v0 = .int .i64 aA ∧ v3 = .string aB ∧ Aside0 (laws_markText.l0 kq aA aB = some r) ∧ Aside0 (kq ≤ k) ∧ Aside0 (Below w.heap.size w w'))
  case atStart => exact ⟨(a0), ((⟨#[]⟩ : ByteArray)), (by first | rfl | (simp; done) | (simp [*]; done)), (by first | rfl | (simp; done) | (simp [*]; done)), H', ⟨Nat.le_refl _⟩, ⟨KL HB⟩⟩
  case round =>
   clear H'; try clear c2
   try clear c2b0
   try clear p2
   obtain ⟨aA, aB, rfl, rfl, HA, HK1, HB⟩ := hrel; cases gk with
   | zero => exact absurd HA.out (by simp [laws_markText.l0])
   | succ k1 =>
    have H := HA.out; clear HA; simp only [laws_markText.l0] at H; by_cases c3 : aA > 0
    ·rw [if_pos c3] at H
     have c3b0 : decide (0 < aA) = true := decide_eq_true c3; clear c3; obtain ⟨aD, aC⟩ : ∃ y_ : List Int, y_ = (([(wrap64 (48 + (Int.tmod aA 10))) % 256] : List Int)) := ⟨_, rfl⟩; replace H : (if (strOfNums aD).size + aB.size ≤ 9223372036854775807 then (laws_markText.l0 k1 (wrap64 (Int.tdiv aA 10)) ((strOfNums aD) ++ aB)) else (none)) = some r := by first | (rw [aC]; with_reducible exact H) | (have H2_ := (Option.bind_some _ _).symm.trans H; rw [aC]; with_reducible exact H2_) | (have H2_ := (Option.bind_some _ _).symm.trans H; with_reducible exact H2_) | with_reducible exact H | (rw [aC]; exact H) | exact H
     have Ny101 := Aside0.mk aC; clear aC; by_cases c4 : (strOfNums aD).size + aB.size ≤ 9223372036854775807
     ·rw [if_pos c4] at H
      have c4b0 := eq_true c4; have c4b1 : decide ((strOfNums aD).size + aB.size ≤ 9223372036854775807) = true := decide_eq_true c4; try have c4b2 : (9223372036854775807 < (strOfNums aD).size + aB.size) = False := eq_false (Nat.not_lt.2 c4)
      have H' := Aside0.mk H; clear H; go_wp2_with (first | ((with_reducible refine gate_dst (N := 12) rfl ?_); refine Kd.R_lit (Kd.int .u8) _ 5 ?hg (N := 12) ?hd (xs := ([(wrap64 (48 + (Int.tmod aA 10))) % 256] : List Int)) (inner := [.int .u8 ((wrap64 (48 + (Int.tmod aA 10))) % 256)]) (ok := fun _ => True) (okp := fun _ => True) ?hr ?hp (fun _ hk => hk) trivial (Below.refl _ _) (Nat.le_refl _) (by simp) ?_; (case hd => rfl); (case hg => rfl); (case hr => first | (go_simp; done) | (go_simp; rfl)); (case hp => exact (Reps.one (show Kd.M (Kd.int .u8) _ _ _ ((wrap64 (48 + (Int.tmod aA 10))) % 256) [.int .u8 ((wrap64 (48 + (Int.tmod aA 10))) % 256)] from rfl) (Reps.none _ _))); intro aG w5 aE hb hg_ hnew_; clear hg_ hnew_; (first | rw [← Ny101.out] at aE | (simp only [Int.reduceToNat] at aE; rw [← Ny101.out] at aE)); have aF := am (Kd.R_lower aE (below_size (KL HB))); replace HB := bl (KL HB) hb; clear hb aE; have hcv7 := own_string (P := Tryz.prog) Tryz.underlying130 Tryz.underlying5 Tryz.underlying9 (Kd.own_of_R aF.out)))
      go_roundg k1
      case measure => have := HK1.out; omega
      case rel => exact ⟨(wrap64 (Int.tdiv aA 10)), ((strOfNums aD) ++ aB), (by first | rfl | (simp; done) | (simp [*]; done)), (by first | rfl | (simp; done) | (simp [*]; done)), H', ⟨by have := HK1.out; omega⟩, ⟨KL HB⟩⟩
     ·rw [if_neg c4] at H
      exact absurd H (by simp)
    ·rw [if_neg c3] at H
     have c3b0 : decide (0 < aA) = false := decide_eq_false c3; clear c3; by_cases c8 : 1 + aB.size ≤ 9223372036854775807
     ·rw [if_pos c8] at H
      have c8b0 := eq_true c8; have c8b1 : decide (1 + aB.size ≤ 9223372036854775807) = true := decide_eq_true c8; try have c8b2 : (9223372036854775807 < 1 + aB.size) = False := eq_false (Nat.not_lt.2 c8)
      obtain rfl := sj H; go_wp2
      go_ret
      exact ⟨ER, KL HB⟩
     ·rw [if_neg c8] at H
      exact absurd H (by simp)
def laws_markIntS.l0 : Nat → List Int → Int → Int → Option (Int × List Int)
 | 0, _, _, _ => none
 | k + 1, x0, x1, x5 => if x5 < (x0.length : Int) then (if 0 ≤ x5 then (laws_markIntS.l0 k (x0.set (x5 : Int).toNat x1) (wrap64 (x1 + 1)) (wrap64 (x5 + 1))) else (none)) else (some (x1, x0))
def laws_markIntS.f (k : Nat) (l0 : List Int) (a1 : Int) : Option (Int × List Int) := laws_markIntS.l0 k l0 a1 0
theorem laws_markIntS.calls (k : Nat) (P0_ : Nat → Prop) (u9000_ : Value) (l0 : List Int) (a1 : Int) (r1 : Int) (r2 : List Int) (w0 w : World) (hB : Below w0.heap.size w0 w) (aK : Kd.R (Kd.int .i64) 3 w w0.heap.size P0_ u9000_ l0) (h : laws_markIntS.f k l0 a1 = some (r1, r2)) :
  Calls Tryz.prog 78 #[u9000_, .int .i64 a1] w fun e w' => e = .returned (.int .i64 r1) ∧ Kd.R (Kd.int .i64) 3 w' w0.heap.size (fun k_ => (P0_ k_ ∨ w.heap.size ≤ k_)) u9000_ r2 ∧ Below w0.heap.size w0 w' ∧ Kept w w' (fun k_ => P0_ k_) := by
 have aL := am (show Kd.R (Kd.int .i64) 3 w w0.heap.size (fun k_ => (P0_ k_ ∨ w.heap.size ≤ k_)) u9000_ l0 from Kd.R_mono aK (fun k_ hk => (.inl hk))); have HK := am (Kept.refl w (fun k_ => P0_ k_)); have HW0 := Aside0.mk hB.size; have HB := Aside0.mk hB; clear hB; have H : (laws_markIntS.l0 k l0 a1 0) = some (r1, r2) := h; clear h; have H' := Aside0.mk H; clear H; go_enter Tryz.func78, Tryz.ntmps78
 go_wp2
 go_loopg [1, 5] k (fun kq v1 v5 w' => ∃ (aC : List Int) (aD : Int) (aA : Int), v1 = .int .i64 aD ∧ v5 = .int .i64 aA ∧ Aside0 (laws_markIntS.l0 kq aC aD aA = some (r1, r2)) ∧ Aside0 (kq ≤ k) ∧ Aside0 (Kd.R (Kd.int .i64) 3 w' w0.heap.size (fun k_ => (P0_ k_ ∨ w.heap.size ≤ k_)) u9000_ aC) ∧ Aside0 (Kept w w' (fun k_ => P0_ k_)) ∧ Aside0 (Below w0.heap.size w0 w'))
 case atStart => exact ⟨(l0), (a1), (0), (by first | rfl | (simp; done) | (simp [*]; done)), (by first | rfl | (simp; done) | (simp [*]; done)), H', ⟨Nat.le_refl _⟩, ⟨KR aL⟩, ⟨by repeat (first | (with_reducible first | exact HK.out | apply Kept.alloc | apply Kept.drewN | apply Kept.drew) | exact HK.out)⟩, ⟨KL HB⟩⟩
 case round =>
  clear H'; try clear p2
  obtain ⟨aC, aD, aA, rfl, rfl, HA, HK1, aB, HK, HB⟩ := hrel; cases gk with
  | zero => exact absurd HA.out (by simp [laws_markIntS.l0])
  | succ k1 =>
   have H := HA.out; clear HA; simp only [laws_markIntS.l0] at H; by_cases c3 : aA < (aC.length : Int)
   ·rw [if_pos c3] at H
    have c3b0 : decide (aA < (aC.length : Int)) = true := decide_eq_true c3; clear c3; by_cases c4 : 0 ≤ aA
    ·rw [if_pos c4] at H
     have c4b0 : decide (0 ≤ aA) = true := decide_eq_true c4; clear c4; obtain ⟨aF, aE⟩ : ∃ y_ : List Int, y_ = (aC.set (aA : Int).toNat aD) := ⟨_, rfl⟩; replace H : (laws_markIntS.l0 k1 aF (wrap64 (aD + 1)) (wrap64 (aA + 1))) = some (r1, r2) := by first | (rw [aE]; with_reducible exact H) | (have H2_ := (Option.bind_some _ _).symm.trans H; rw [aE]; with_reducible exact H2_) | (have H2_ := (Option.bind_some _ _).symm.trans H; with_reducible exact H2_) | with_reducible exact H | (rw [aE]; exact H) | exact H
     have Ny101 := Aside0.mk aE; clear aE; have H' := Aside0.mk H; clear H; obtain ⟨_, aM, aN⟩ := Kd.R_slice aB.out; subst aN; have p5 : 0 ≤ (aA : Int) := OD; have q5 : (aA : Int) < ((aC.length : Int) : Int) := OD; obtain ⟨go5, _, aG, aH, gl5, cl5, HG5⟩ := Kd.R_form aB.out (by omega); (first | cases aG | (injection aG with ea_ en_ ec_; (first | subst ea_ | (injection ea_ with ea_; subst ea_)); subst ec_; clear en_))
     have GB5 := Aside0.mk aH; have GG5 := Aside0.mk HG5; clear aH gl5 HG5; have HMgo5 := am (show (P0_ go5 ∨ w.heap.size ≤ go5) from (aB.out.1 _ rfl)); obtain ⟨_, _⟩ := Kd.R_celln 0 aB.out (aA : Int) p5 q5; replace p5 := eq_true p5; replace q5 := eq_true q5; have HP7 := Kd.R_putg aB.out (aA : Int) aD; go_wp2_with (first | ((with_reducible refine gate_store (t := 3) (p := 15) rfl ?_); refine store_event (t := 3) (p := 15) (v := ?vo_w8) (w1 := (wr.setCell ⟨go5, (aA : Int).toNat, none⟩ (.int .i64 aD))) ?hg ?ho ?hn ?hr ?_; (case ho => rfl); (case hg => rfl); (case hn => rfl); (case hr => first | (go_simp; done) | (go_simp; rfl)); intro w8 hw; have hg : wr.grownBy w8 (some go5) := (by rw [hw]; exact HP7.2); have hp_ : Kd.R (Kd.int .i64) 3 w8 w0.heap.size (fun k_ => (P0_ k_ ∨ w.heap.size ≤ k_)) (.slice (some ⟨go5, 0, none⟩) aC.length aM) aF := (by rw [hw, Ny101.out]; exact HP7.1); clear HP7; replace HB := am ((by rw [hw]; exact below_set (HB.out) GB5.out : Below w0.heap.size w0 w8)); replace HK := am (Kept.of_grown (S := (fun k_ => P0_ k_)) hg (by repeat (first | (with_reducible first | exact HK.out | apply Kept.alloc | apply Kept.drewN | apply Kept.drew) | exact HK.out)) (fun k_ e_ => (aB.out.1 k_ e_))); replace aB := am (hp_); clear hg hw hp_))
     go_roundg k1
     case measure => have := HK1.out; omega
     case rel => exact ⟨(aF), (wrap64 (aD + 1)), (wrap64 (aA + 1)), (by first | rfl | (simp; done) | (simp [*]; done)), (by first | rfl | (simp; done) | (simp [*]; done)), H', ⟨by have := HK1.out; omega⟩, ⟨KR aB⟩, ⟨by repeat (first | (with_reducible first | exact HK.out | apply Kept.alloc | apply Kept.drewN | apply Kept.drew) | exact HK.out)⟩, ⟨KL HB⟩⟩
    ·rw [if_neg c4] at H
     exact absurd H (by simp)
   ·rw [if_neg c3] at H
    have c3b0 : decide (aA < (aC.length : Int)) = false := decide_eq_false c3; clear c3; simp only [Option.some.injEq, Prod.mk.injEq] at H; obtain ⟨rfl, rfl⟩ := H; obtain ⟨_, _, aO⟩ := Kd.R_slice aB.out; subst aO; go_wp2
    go_ret
    exact ⟨ER, by refine KW ?_; exact aB.out, KL HB, by repeat (first | (with_reducible first | exact HK.out | apply Kept.alloc | apply Kept.drewN | apply Kept.drew) | exact HK.out)⟩
def laws_heldIntS.l0 : Nat → List Int → Int → Int → Option (Int)
 | 0, _, _, _ => none
 | k + 1, x0, x1, x5 => if x5 < (x0.length : Int) then (if 0 ≤ x5 then (if (rd x0 x5) = x1 then (laws_heldIntS.l0 k x0 (wrap64 (x1 + 1)) (wrap64 (x5 + 1))) else (some (-1))) else (none)) else (some x1)
def laws_heldIntS.f (k : Nat) (l0 : List Int) (a1 : Int) : Option (Int) := laws_heldIntS.l0 k l0 a1 0
theorem laws_heldIntS.calls (k : Nat) (A0 : Option Addr) (c0 : Nat) (l0 : List Int) (a1 : Int) (r : Int) (w : World) (aH : Kd.C (Kd.int .i64) w A0 l0.length l0) (aI : l0.length ≤ c0) (h : laws_heldIntS.f k l0 a1 = some r) :
  Calls Tryz.prog 80 #[.slice A0 l0.length c0, .int .i64 a1] w fun e w' => e = .returned (.int .i64 r) ∧ Drawn0 w w' := by
 have aJ := Aside0.mk aH; have aK := Aside0.mk aI; clear aH aI; have H : (laws_heldIntS.l0 k l0 a1 0) = some r := h; clear h; have H' := Aside0.mk H; clear H; go_enter Tryz.func80, Tryz.ntmps80
 go_wp2
 go_loopg [1, 5] k (fun kq v1 v5 w' => ∃ (aB : Int) (aA : Int), v1 = .int .i64 aB ∧ v5 = .int .i64 aA ∧ Aside0 (laws_heldIntS.l0 kq l0 aB aA = some r) ∧ Aside0 (kq ≤ k) ∧ Drawn0 w w')
 case atStart => exact ⟨(a1), (0), (by first | rfl | (simp; done) | (simp [*]; done)), (by first | rfl | (simp; done) | (simp [*]; done)), H', ⟨Nat.le_refl _⟩, by repeat (first | exact Drawn0.refl _ | apply Drawn0.step)⟩
 case round =>
  clear H'; try clear p2
  obtain ⟨aB, aA, rfl, rfl, HA, HK1, ⟨m1, rfl⟩⟩ := hrel; cases gk with
  | zero => exact absurd HA.out (by simp [laws_heldIntS.l0])
  | succ k1 =>
   have H := HA.out; clear HA; simp only [laws_heldIntS.l0] at H; by_cases c3 : aA < (l0.length : Int)
   ·rw [if_pos c3] at H
    have c3b0 : decide (aA < (l0.length : Int)) = true := decide_eq_true c3; clear c3; by_cases c4 : 0 ≤ aA
    ·rw [if_pos c4] at H
     have c4b0 : decide (0 ≤ aA) = true := decide_eq_true c4; clear c4; by_cases c5 : (rd l0 aA) = aB
     ·rw [if_pos c5] at H
      have c5b0 : ((rd l0 aA) == aB) = true := beq_iff_eq.mpr c5; have c5b1 : ((rd l0 aA) != aB) = false := bne_eq_false_iff_eq.mpr c5; clear c5; have H' := Aside0.mk H; clear H; have aC : 0 ≤ (aA : Int) := OD; have aD : aA < (l0.length : Int) := OD; obtain ⟨aG, aF, aE⟩ := Kd.at_int aJ.out aA aC aD; cases aF
      replace aC := eq_true aC; replace aD := eq_true aD; go_wp2
      go_roundg k1
      case measure => have := HK1.out; omega
      case rel => exact ⟨(wrap64 (aB + 1)), (wrap64 (aA + 1)), (by first | rfl | (simp; done) | (simp [*]; done)), (by first | rfl | (simp; done) | (simp [*]; done)), H', ⟨by have := HK1.out; omega⟩, by repeat (first | exact Drawn0.refl _ | apply Drawn0.step)⟩
     ·rw [if_neg c5] at H
      have c5b0 : ((rd l0 aA) == aB) = false := beq_eq_false_iff_ne.mpr c5; have c5b1 : ((rd l0 aA) != aB) = true := bne_iff_ne.mpr c5; obtain rfl := sj H; have aC : 0 ≤ (aA : Int) := OD; have aD : aA < (l0.length : Int) := OD; obtain ⟨aG, aF, aE⟩ := Kd.at_int aJ.out aA aC aD; cases aF
      replace aC := eq_true aC; replace aD := eq_true aD; go_wp2
      go_ret
      exact ⟨by first | rfl | (simp; done) | (simp [*]; done), by repeat (first | exact Drawn0.refl _ | apply Drawn0.step)⟩
    ·rw [if_neg c4] at H
     exact absurd H (by simp)
   ·rw [if_neg c3] at H
    have c3b0 : decide (aA < (l0.length : Int)) = false := decide_eq_false c3; clear c3; obtain rfl := sj H; go_wp2
    go_ret
    exact ⟨by first | rfl | (simp; done) | (simp [*]; done), by repeat (first | exact Drawn0.refl _ | apply Drawn0.step)⟩
def laws_eqBlock.f (a0_0 : Int) (a0_1 : Int) (a1_0 : Int) (a1_1 : Int) : Option (Bool) := if a0_0 = a1_0 then (if a0_1 = a1_1 then (some true) else (some false)) else (some false)
theorem laws_eqBlock.calls (aF : Int) (aG : Int) (aH : Int) (aI : Int) (r : Bool) (w : World) (h : laws_eqBlock.f aF aG aH aI = some r) :
  Calls Tryz.prog 98 #[.agg #[.int .i64 aF, .int .i64 aG], .agg #[.int .i64 aH, .int .i64 aI]] w fun e w' => e = .returned (.bool r) ∧ Below w.heap.size w w' := by
 have bN := Tryz.underlying90; have HB := am (Below.refl w.heap.size w); have H : (if aF = aH then (if aG = aI then (some true) else (some false)) else (some false)) = some r := h; clear h; by_cases c3 : aF = aH
 ·rw [if_pos c3] at H
  have c3b0 : (aF == aH) = true := beq_iff_eq.mpr c3; have c3b1 : (aF != aH) = false := bne_eq_false_iff_eq.mpr c3; clear c3; by_cases c4 : aG = aI
  ·rw [if_pos c4] at H
   have c4b0 : (aG == aI) = true := beq_iff_eq.mpr c4; have c4b1 : (aG != aI) = false := bne_eq_false_iff_eq.mpr c4; clear c4; obtain rfl := sj H; go_enter Tryz.func98, Tryz.ntmps98
   go_wp2_with (first | ((with_reducible refine gate_dst (N := 2) rfl ?_); refine box_event rfl (N := 2) rfl (cs := #[.int .i64 aF, .int .i64 aG]) (t := 90) BX ?_; intro aN hg w5 aD hb; have aA := am (aD); have aJ := am (GH HB hg); have aE := aJ; replace HB := bl (KL HB) hb; clear hb aD hg) | ((with_reducible refine gate_dst (N := 3) rfl ?_); refine box_event rfl (N := 3) rfl (cs := #[.int .i64 aH, .int .i64 aI]) (t := 90) BX ?_; intro aO hg w6 aD hb; have aK := am (aD); have aL := am (GH1 HB aE.out hg); have aM := aL; replace HB := bl (K1 HB aE.out) hb; have aB := am (NL aA hg); have aC := am (NG aA hg); replace aA := am (BB aA hb); clear hb aD hg; have bO := aB.out; have bP := aC.out; have ⟨_, _, _⟩ := y2 w6 aA.out; have ⟨_, _, _⟩ := y2 w6 aK.out))
   go_ret
   exact ⟨ER, K2 HB aE.out aM.out⟩
  ·rw [if_neg c4] at H
   have c4b0 : (aG == aI) = false := beq_eq_false_iff_ne.mpr c4; have c4b1 : (aG != aI) = true := bne_iff_ne.mpr c4; obtain rfl := sj H; go_enter Tryz.func98, Tryz.ntmps98
   go_wp2_with (first | ((with_reducible refine gate_dst (N := 2) rfl ?_); refine box_event rfl (N := 2) rfl (cs := #[.int .i64 aF, .int .i64 aG]) (t := 90) BX ?_; intro aN hg bQ aD hb; have aA := am (aD); have aJ := am (GH HB hg); have aE := aJ; replace HB := bl (KL HB) hb; clear hb aD hg) | ((with_reducible refine gate_dst (N := 3) rfl ?_); refine box_event rfl (N := 3) rfl (cs := #[.int .i64 aH, .int .i64 aI]) (t := 90) BX ?_; intro aO hg bH aD hb; have aK := am (aD); have aL := am (GH1 HB aE.out hg); have aM := aL; replace HB := bl (K1 HB aE.out) hb; have aB := am (NL aA hg); have aC := am (NG aA hg); replace aA := am (BB aA hb); clear hb aD hg; have bI := aB.out; have bJ := aC.out; have ⟨_, _, _⟩ := y2 bH aA.out; have ⟨_, _, _⟩ := y2 bH aK.out))
   go_ret
   exact ⟨ER, K2 HB aE.out aM.out⟩
 ·rw [if_neg c3] at H
  have c3b0 : (aF == aH) = false := beq_eq_false_iff_ne.mpr c3; have c3b1 : (aF != aH) = true := bne_iff_ne.mpr c3; obtain rfl := sj H; go_enter Tryz.func98, Tryz.ntmps98
  go_wp2_with (first | ((with_reducible refine gate_dst (N := 2) rfl ?_); refine box_event rfl (N := 2) rfl (cs := #[.int .i64 aF, .int .i64 aG]) (t := 90) BX ?_; intro aN hg bR aD hb; have aA := am (aD); have aJ := am (GH HB hg); have aE := aJ; replace HB := bl (KL HB) hb; clear hb aD hg) | ((with_reducible refine gate_dst (N := 3) rfl ?_); refine box_event rfl (N := 3) rfl (cs := #[.int .i64 aH, .int .i64 aI]) (t := 90) BX ?_; intro aO hg bK aD hb; have aK := am (aD); have aL := am (GH1 HB aE.out hg); have aM := aL; replace HB := bl (K1 HB aE.out) hb; have aB := am (NL aA hg); have aC := am (NG aA hg); replace aA := am (BB aA hb); clear hb aD hg; have bL := aB.out; have bM := aC.out; have ⟨_, _, _⟩ := y2 bK aA.out; have ⟨_, _, _⟩ := y2 bK aK.out))
  go_ret
  exact ⟨ER, K2 HB aE.out aM.out⟩
def laws_markWindow.f (k : Nat) (a0_0 : Int) (l0_1 : List Int) (a1 : Int) : Option (Int × List Int) := (laws_markIntS.f k l0_1 a1).bind fun bt102 => (some (bt102.1, bt102.2))
theorem laws_markWindow.calls (k : Nat) (aH : Int) (P0_1_ : Nat → Prop) (u9000_ : Value) (aB : List Int) (a1 : Int) (r1 : Int) (r2 : List Int) (w0 w : World) (hB : Below w0.heap.size w0 w) (aI : Kd.R (Kd.int .i64) 3 w w0.heap.size P0_1_ u9000_ aB) (h : laws_markWindow.f k aH aB a1 = some (r1, r2)) :
  Calls Tryz.prog 45 #[.agg #[.int .i64 aH, u9000_], .int .i64 a1] w fun e w' => e = .returned (.int .i64 r1) ∧ Kd.R (Kd.int .i64) 3 w' w0.heap.size (fun k_ => (P0_1_ k_ ∨ w.heap.size ≤ k_)) u9000_ r2 ∧ Below w0.heap.size w0 w' ∧ Kept w w' (fun k_ => P0_1_ k_) := by
 have aT := Tryz.underlying46; have aA := am (show Kd.R (Kd.int .i64) 3 w w0.heap.size (fun k_ => (P0_1_ k_ ∨ w.heap.size ≤ k_)) u9000_ aB from Kd.R_mono aI (fun k_ hk => (.inl hk))); have HK := am (Kept.refl w (fun k_ => P0_1_ k_)); have HW0 := Aside0.mk hB.size; have HB := Aside0.mk hB; clear hB; have H : ((laws_markIntS.f k aB a1).bind fun aD => (some (aD.1, aD.2))) = some (r1, r2) := h; clear h; replace H := bm H; obtain ⟨⟨aJ, aK⟩, aR, H⟩ := H; replace H : (some (aJ, aK)) = some (r1, r2) := H; have A3 := Aside0.mk aR; clear aR; simp only [Option.some.injEq, Prod.mk.injEq] at H; obtain ⟨rfl, rfl⟩ := H; obtain ⟨aM, aN, aU⟩ := Kd.R_slice aA.out; subst aU; go_enter Tryz.func45, Tryz.ntmps45
 go_wp2_with (first | ((with_reducible refine gate_dst (N := 2) rfl ?_); refine box_event rfl (N := 2) rfl (cs := #[.int .i64 aH, .slice aM aB.length aN]) (t := 46) BX ?_; intro aE hg w5 aL hb; replace aA := am (Kd.R_below (KR aA) hb); have aC := am (aL); have aF := am ((by rw [hg]; exact (by first | exact HK.out.1 | exact (show Kept w _ (fun k_ => P0_1_ k_) from by repeat (first | (with_reducible first | exact HK.out | apply Kept.alloc | apply Kept.drewN | apply Kept.drew) | exact HK.out)).1) : w.heap.size ≤ aE)); replace HK := am (Kept.below (S := (fun k_ => P0_1_ k_)) (by repeat (first | (with_reducible first | exact HK.out | apply Kept.alloc | apply Kept.drewN | apply Kept.drew) | exact HK.out)) hb); have aG := am ((by rw [hg]; exact (below_size (KL HB)) : w0.heap.size ≤ aE)); replace HB := bl (KL HB) hb; clear hb aL hg; have ⟨_, _, _⟩ := y2 w5 aC.out) | ((with_reducible refine gate_callee (f := 78) rfl ?_); refine goesL_ (some 8) rfl rfl Tryz.func78 (by kernel_rfl) rfl #[.slice aM aB.length aN, .int .i64 a1] rfl MT ?_; (with_reducible refine (laws_markIntS.calls k (fun k_ => some k_ = (.slice aM aB.length aN : Value).ownBlock) (.slice aM aB.length aN) aB a1 aJ aK w0 _ ?_ ?_ A3.out).mono ?_); exact K1 HB aG.out; exact Kd.R_tight rfl aA.out; rintro e w7 ⟨rfl, aS, hb, hkp⟩; refine ⟨_, rfl, ?_⟩; replace aC := am (blk_kept (KB aC) hkp (fun hs_ => (fun e_ => (Kd.R_ne aA.out aC.out (by decide)) e_) hs_)); replace HK := am (Kept.then_ (S := (fun k_ => P0_1_ k_)) (by repeat (first | (with_reducible first | exact HK.out | apply Kept.alloc | apply Kept.drewN | apply Kept.drew | refine Kept.setCell ?_ (.inr aF.out) _) | exact HK.out)) hkp (fun k_ hs_ => (fun e_ => (aA.out.1 k_ e_.symm)) hs_)); replace aA := am (Kd.R_reok rfl aS (fun k_ e_ => aA.out.1 k_ e_)); replace HB := am (hb); (try clear hb); (try clear hkp); (try clear aS)))
 go_ret
 exact ⟨ER, by refine KW ?_; exact aA.out, K1 HB aG.out, by repeat (first | (with_reducible first | exact HK.out | apply Kept.alloc | apply Kept.drewN | apply Kept.drew | refine Kept.setCell ?_ (.inr aF.out) _) | exact HK.out)⟩
def laws_markSa.f (k : Nat) (a0_0 : Int) (a0_1 : Int) (a0_2 : ByteArray) (a0_3 : ByteArray) (a0_4 : Int) (a0_5 : Int) (a0_6 : Int) (a0_7 : Int) (a0_8 : Int) (a0_9 : Int) (l0_10 : List Int) (a1 : Int) : Option (Int × List Int) := (laws_markWindow.f k a0_9 l0_10 a1).bind fun bt102 => (some (bt102.1, bt102.2))
theorem laws_markSa.calls (k : Nat) (aI : Int) (aJ : Int) (aK : ByteArray) (aL : ByteArray) (aM : Int) (aN : Int) (aO : Int) (aP : Int) (aQ : Int) (aD : Int) (P0_10_ : Nat → Prop) (u9000_ : Value) (aB : List Int) (a1 : Int) (r1 : Int) (r2 : List Int) (w0 w : World) (hB : Below w0.heap.size w0 w) (aR : Kd.R (Kd.int .i64) 3 w w0.heap.size P0_10_ u9000_ aB) (h : laws_markSa.f k aI aJ aK aL aM aN aO aP aQ aD aB a1 = some (r1, r2)) :
  Calls Tryz.prog 14 #[.agg #[.int .i64 aI, .int .i64 aJ, .string aK, .string aL, .int .i64 aM, .int .i64 aN, .int .i64 aO, .int .i64 aP, .int .i64 aQ, .int .i64 aD, u9000_], .int .i64 a1] w fun e w' => e = .returned (.int .i64 r1) ∧ Kd.R (Kd.int .i64) 3 w' w0.heap.size (fun k_ => (P0_10_ k_ ∨ w.heap.size ≤ k_)) u9000_ r2 ∧ Below w0.heap.size w0 w' ∧ Kept w w' (fun k_ => P0_10_ k_) := by
 have bL := Tryz.underlying48; have bM := Tryz.underlying46; have aA := am (show Kd.R (Kd.int .i64) 3 w w0.heap.size (fun k_ => (P0_10_ k_ ∨ w.heap.size ≤ k_)) u9000_ aB from Kd.R_mono aR (fun k_ hk => (.inl hk))); have HK := am (Kept.refl w (fun k_ => P0_10_ k_)); have HW0 := Aside0.mk hB.size; have HB := Aside0.mk hB; clear hB; have H : ((laws_markWindow.f k aD aB a1).bind fun aE => (some (aE.1, aE.2))) = some (r1, r2) := h; clear h; replace H := bm H; obtain ⟨⟨aS, aT⟩, bJ, H⟩ := H; replace H : (some (aS, aT)) = some (r1, r2) := H; have A3 := Aside0.mk bJ; clear bJ; simp only [Option.some.injEq, Prod.mk.injEq] at H; obtain ⟨rfl, rfl⟩ := H; obtain ⟨aV, aW, bN⟩ := Kd.R_slice aA.out; subst bN; go_enter Tryz.func14, Tryz.ntmps14
 go_wp2_with (first | ((with_reducible refine gate_dst (N := 2) rfl ?_); refine box_event rfl (N := 2) rfl (cs := #[.int .i64 aI, .int .i64 aJ, .string aK, .string aL, .int .i64 aM, .int .i64 aN, .int .i64 aO, .int .i64 aP, .int .i64 aQ, .int .i64 aD, .slice aV aB.length aW]) (t := 48) BX ?_; intro aF hg w5 aU hb; replace aA := am (Kd.R_below (KR aA) hb); have aC := am (aU); have aG := am ((by rw [hg]; exact (by first | exact HK.out.1 | exact (show Kept w _ (fun k_ => P0_10_ k_) from by repeat (first | (with_reducible first | exact HK.out | apply Kept.alloc | apply Kept.drewN | apply Kept.drew) | exact HK.out)).1) : w.heap.size ≤ aF)); replace HK := am (Kept.below (S := (fun k_ => P0_10_ k_)) (by repeat (first | (with_reducible first | exact HK.out | apply Kept.alloc | apply Kept.drewN | apply Kept.drew) | exact HK.out)) hb); have aH := am ((by rw [hg]; exact (below_size (KL HB)) : w0.heap.size ≤ aF)); replace HB := bl (KL HB) hb; clear hb aU hg; have ⟨_, _, _, _, _, _, _, _, _, _, _, _⟩ := y11 w5 aC.out) | ((with_reducible refine gate_callee (f := 45) rfl ?_); refine goesL_ (some 8) rfl rfl Tryz.func45 (by kernel_rfl) rfl #[.agg #[.int .i64 aD, .slice aV aB.length aW], .int .i64 a1] rfl MT ?_; (with_reducible refine (laws_markWindow.calls k aD (fun k_ => some k_ = (.slice aV aB.length aW : Value).ownBlock) (.slice aV aB.length aW) aB a1 aS aT w0 _ ?_ ?_ A3.out).mono ?_); exact K1 HB aH.out; exact Kd.R_tight rfl aA.out; rintro e w7 ⟨rfl, bK, hb, hkp⟩; refine ⟨_, rfl, ?_⟩; replace aC := am (blk_kept (KB aC) hkp (fun hs_ => (fun e_ => (Kd.R_ne aA.out aC.out (by decide)) e_) hs_)); replace HK := am (Kept.then_ (S := (fun k_ => P0_10_ k_)) (by repeat (first | (with_reducible first | exact HK.out | apply Kept.alloc | apply Kept.drewN | apply Kept.drew | refine Kept.setCell ?_ (.inr aG.out) _) | exact HK.out)) hkp (fun k_ hs_ => (fun e_ => (aA.out.1 k_ e_.symm)) hs_)); replace aA := am (Kd.R_reok rfl bK (fun k_ e_ => aA.out.1 k_ e_)); replace HB := am (hb); (try clear hb); (try clear hkp); (try clear bK)))
 go_ret
 exact ⟨ER, by refine KW ?_; exact aA.out, K1 HB aH.out, by repeat (first | (with_reducible first | exact HK.out | apply Kept.alloc | apply Kept.drewN | apply Kept.drew | refine Kept.setCell ?_ (.inr aG.out) _) | exact HK.out)⟩
def spec_l1In.f (a0 : Int) (a1 : Int) (a2 : Int) : Option (Bool) := if a0 ≥ a1 then (some (decide (a0 ≤ a2))) else (some false)
theorem spec_l1In.calls (a0 : Int) (a1 : Int) (a2 : Int) (r : Bool) (w : World) (h : spec_l1In.f a0 a1 a2 = some r) :
  Calls Tryz.prog 54 #[.int .i64 a0, .int .i64 a1, .int .i64 a2] w fun e w' => e = .returned (.bool r) ∧ Drawn0 w w' := by
 have H : (if a0 ≥ a1 then (some (decide (a0 ≤ a2))) else (some false)) = some r := h; clear h; by_cases c4 : a0 ≥ a1
 ·rw [if_pos c4] at H
  have c4b0 : decide (a1 ≤ a0) = true := decide_eq_true c4; clear c4; obtain rfl := sj H; go_enter Tryz.func54, Tryz.ntmps54
  go_wp2
  go_ret
  exact ⟨by first | rfl | (simp; done) | (simp [*]; done), by repeat (first | exact Drawn0.refl _ | apply Drawn0.step)⟩
 ·rw [if_neg c4] at H
  have c4b0 : decide (a1 ≤ a0) = false := decide_eq_false c4; clear c4; obtain rfl := sj H; go_enter Tryz.func54, Tryz.ntmps54
  go_wp2
  go_ret
  exact ⟨by first | rfl | (simp; done) | (simp [*]; done), by repeat (first | exact Drawn0.refl _ | apply Drawn0.step)⟩
def spec_l1Addr.f (a0 : Int) : Option (Bool) := (spec_l1In.f a0 0 4294967295).bind fun t101 => (some t101)
theorem spec_l1Addr.calls (a0 : Int) (r : Bool) (w : World) (h : spec_l1Addr.f a0 = some r) :
  Calls Tryz.prog 101 #[.int .i64 a0] w fun e w' => e = .returned (.bool r) ∧ Drawn0 w w' := by
 have H : ((spec_l1In.f a0 0 4294967295).bind fun aA => (some aA)) = some r := h; clear h; replace H := bm H; obtain ⟨aA, aB, H⟩ := H; replace H : (some aA) = some r := H; have A2 := Aside0.mk aB; clear aB; obtain rfl := sj H; go_enter Tryz.func101, Tryz.ntmps101
 go_wp2_with (first | ((with_reducible refine gate_callee (f := 54) rfl ?_); refine goesL_ (some 4) rfl rfl Tryz.func54 (by kernel_rfl) rfl #[.int .i64 a0, .int .i64 0, .int .i64 4294967295] rfl MT ?_; (with_reducible refine (spec_l1In.calls a0 0 4294967295 aA _ A2.out).mono ?_); rintro e w' ⟨rfl, ⟨nd, rfl⟩⟩; refine ⟨_, rfl, ?_⟩))
 go_ret
 exact ⟨by first | rfl | (simp; done) | (simp [*]; done), by repeat (first | exact Drawn0.refl _ | apply Drawn0.step)⟩
def spec_l1Two.l0 : Nat → Int → Int → Option (Int)
 | 0, _, _ => none
 | k + 1, x0, x3 => if x0 > 0 then (spec_l1Two.l0 k (wrap64 (x0 - 1)) (wrap64 (x3 * 2))) else (some x3)
def spec_l1Two.f (k : Nat) (a0 : Int) : Option (Int) := spec_l1Two.l0 k a0 1
theorem spec_l1Two.calls (k : Nat) (a0 : Int) (r : Int) (w : World) (h : spec_l1Two.f k a0 = some r) :
  Calls Tryz.prog 121 #[.int .i64 a0] w fun e w' => e = .returned (.int .i64 r) ∧ Drawn0 w w' := by
 have H : (spec_l1Two.l0 k a0 1) = some r := h; clear h; have H' := Aside0.mk H; clear H; go_enter Tryz.func121, Tryz.ntmps121
 go_wp2
 go_loopg [0, 3] k (fun kq v0 v3 w' => ∃ (aA : Int) (aB : Int), v0 = .int .i64 aA ∧ v3 = .int .i64 aB ∧ Aside0 (spec_l1Two.l0 kq aA aB = some r) ∧ Aside0 (kq ≤ k) ∧ Drawn0 w w')
 case atStart => exact ⟨(a0), (1), (by first | rfl | (simp; done) | (simp [*]; done)), (by first | rfl | (simp; done) | (simp [*]; done)), H', ⟨Nat.le_refl _⟩, by repeat (first | exact Drawn0.refl _ | apply Drawn0.step)⟩
 case round =>
  clear H'; try clear c1
  obtain ⟨aA, aB, rfl, rfl, HA, HK1, ⟨m1, rfl⟩⟩ := hrel; cases gk with
  | zero => exact absurd HA.out (by simp [spec_l1Two.l0])
  | succ k1 =>
   have H := HA.out; clear HA; simp only [spec_l1Two.l0] at H; by_cases c2 : aA > 0
   ·rw [if_pos c2] at H
    have c2b0 : decide (0 < aA) = true := decide_eq_true c2; clear c2; have H' := Aside0.mk H; clear H; go_wp2
    go_roundg k1
    case measure => have := HK1.out; omega
    case rel => exact ⟨(wrap64 (aA - 1)), (wrap64 (aB * 2)), (by first | rfl | (simp; done) | (simp [*]; done)), (by first | rfl | (simp; done) | (simp [*]; done)), H', ⟨by have := HK1.out; omega⟩, by repeat (first | exact Drawn0.refl _ | apply Drawn0.step)⟩
   ·rw [if_neg c2] at H
    have c2b0 : decide (0 < aA) = false := decide_eq_false c2; clear c2; obtain rfl := sj H; go_wp2
    go_ret
    exact ⟨by first | rfl | (simp; done) | (simp [*]; done), by repeat (first | exact Drawn0.refl _ | apply Drawn0.step)⟩
def spec_l1Size.f (k : Nat) (a0 : Int) : Option (Int) := (spec_l1Two.f k (wrap64 (32 - a0))).bind fun t101 => (some t101)
theorem spec_l1Size.calls (k : Nat) (a0 : Int) (r : Int) (w : World) (h : spec_l1Size.f k a0 = some r) :
  Calls Tryz.prog 118 #[.int .i64 a0] w fun e w' => e = .returned (.int .i64 r) ∧ Drawn0 w w' := by
 have H : ((spec_l1Two.f k (wrap64 (32 - a0))).bind fun aA => (some aA)) = some r := h; clear h; replace H := bm H; obtain ⟨aA, aB, H⟩ := H; replace H : (some aA) = some r := H; have A2 := Aside0.mk aB; clear aB; obtain rfl := sj H; go_enter Tryz.func118, Tryz.ntmps118
 go_wp2_with (first | ((with_reducible refine gate_callee (f := 121) rfl ?_); refine goesL_ (some 5) rfl rfl Tryz.func121 (by kernel_rfl) rfl #[.int .i64 (wrap64 (32 - a0))] rfl MT ?_; (with_reducible refine (spec_l1Two.calls k (wrap64 (32 - a0)) aA _ A2.out).mono ?_); rintro e w' ⟨rfl, ⟨nd, rfl⟩⟩; refine ⟨_, rfl, ?_⟩))
 go_ret
 exact ⟨by first | rfl | (simp; done) | (simp [*]; done), by repeat (first | exact Drawn0.refl _ | apply Drawn0.step)⟩
def spec_BlockOk.f (k : Nat) (a0_0 : Int) (a0_1 : Int) : Option (Bool) := (spec_l1Addr.f a0_0).bind fun t102 => (if t102 = true then ((spec_l1In.f a0_1 0 32).bind fun t103 => (if t103 = true then ((spec_l1Size.f k a0_1).bind fun t104 => (if t104 = 0 then (none) else (some ((Int.tmod a0_0 t104) == 0)))) else (some false))) else (some false))
theorem spec_BlockOk.calls (k : Nat) (aD : Int) (aE : Int) (r : Bool) (w : World) (h : spec_BlockOk.f k aD aE = some r) :
  Calls Tryz.prog 114 #[.agg #[.int .i64 aD, .int .i64 aE]] w fun e w' => e = .returned (.bool r) ∧ Below w.heap.size w w' := by
 have aY := Tryz.underlying90; have HB := am (Below.refl w.heap.size w); have H : ((spec_l1Addr.f aD).bind fun aS => (if aS = true then ((spec_l1In.f aE 0 32).bind fun aO => (if aO = true then ((spec_l1Size.f k aE).bind fun aF => (if aF = 0 then (none) else (some ((Int.tmod aD aF) == 0)))) else (some false))) else (some false))) = some r := h; clear h; replace H := bm H; obtain ⟨aS, aV, H⟩ := H; replace H : (if aS = true then ((spec_l1In.f aE 0 32).bind fun aO => (if aO = true then ((spec_l1Size.f k aE).bind fun aF => (if aF = 0 then (none) else (some ((Int.tmod aD aF) == 0)))) else (some false))) else (some false)) = some r := H; have A2 := Aside0.mk aV; clear aV; by_cases c3 : aS = true
 ·subst c3
  have H1 := pf H; clear H; have H := H1; clear H1; replace H := bm H; obtain ⟨aO, aW, H⟩ := H; replace H : (if aO = true then ((spec_l1Size.f k aE).bind fun aF => (if aF = 0 then (none) else (some ((Int.tmod aD aF) == 0)))) else (some false)) = some r := H; have A4 := Aside0.mk aW; clear aW; by_cases c5 : aO = true
  ·subst c5
   have H1 := pf H; clear H; have H := H1; clear H1; replace H := bm H; obtain ⟨aF, aX, H⟩ := H; replace H : (if aF = 0 then (none) else (some ((Int.tmod aD aF) == 0))) = some r := H; have A6 := Aside0.mk aX; clear aX; by_cases c7 : aF = 0
   ·rw [if_pos c7] at H
    exact absurd H (by simp)
   ·rw [if_neg c7] at H
    have c7b0 : (aF == 0) = false := beq_eq_false_iff_ne.mpr c7; have c7b1 : (aF != 0) = true := bne_iff_ne.mpr c7; obtain rfl := sj H; go_enter Tryz.func114, Tryz.ntmps114
    go_wp2_with (first | ((with_reducible refine gate_dst (N := 1) rfl ?_); refine box_event rfl (N := 1) rfl (cs := #[.int .i64 aD, .int .i64 aE]) (t := 90) BX ?_; intro aH hg w8 aA hb; have aB := am (aA); have aC := am (GH HB hg); have aG := aC; replace HB := bl (KL HB) hb; clear hb aA hg; obtain ⟨aP, aQ, aR⟩ := y2 w8 aB.out) | (go_at_call 101; (with_reducible refine (spec_l1Addr.calls aD true _ A2.out).mono ?_); rintro e w' ⟨rfl, ⟨nd, rfl⟩⟩; (try first | exact ⟨rfl, _, World.drewN_drewN _ _ _⟩ | exact ⟨rfl, _, Eq.trans (World.drewN_drewN _ _ _) (congrArg (World.drewN _) (Nat.add_assoc _ _ _))⟩)) | (go_at_call 54; (with_reducible refine (spec_l1In.calls aE 0 32 true _ A4.out).mono ?_); rintro e w' ⟨rfl, ⟨nd, rfl⟩⟩; (try first | exact ⟨rfl, _, World.drewN_drewN _ _ _⟩ | exact ⟨rfl, _, Eq.trans (World.drewN_drewN _ _ _) (congrArg (World.drewN _) (Nat.add_assoc _ _ _))⟩)) | (go_at_call 118; (with_reducible refine (spec_l1Size.calls k aE aF _ A6.out).mono ?_); rintro e w' ⟨rfl, ⟨nd, rfl⟩⟩; (try first | exact ⟨rfl, _, World.drewN_drewN _ _ _⟩ | exact ⟨rfl, _, Eq.trans (World.drewN_drewN _ _ _) (congrArg (World.drewN _) (Nat.add_assoc _ _ _))⟩)))
    repeat (go_quiet (first | ((with_reducible refine gate_dst (N := 1) rfl ?_); refine box_event rfl (N := 1) rfl (cs := #[.int .i64 aD, .int .i64 aE]) (t := 90) BX ?_; intro aH hg w8 aA hb; have aB := am (aA); have aC := am (GH HB hg); have aG := aC; replace HB := bl (KL HB) hb; clear hb aA hg; obtain ⟨aP, aQ, aR⟩ := y2 w8 aB.out) | (go_at_call 101; (with_reducible refine (spec_l1Addr.calls aD true _ A2.out).mono ?_); rintro e w' ⟨rfl, ⟨nd, rfl⟩⟩; (try first | exact ⟨rfl, _, World.drewN_drewN _ _ _⟩ | exact ⟨rfl, _, Eq.trans (World.drewN_drewN _ _ _) (congrArg (World.drewN _) (Nat.add_assoc _ _ _))⟩)) | (go_at_call 54; (with_reducible refine (spec_l1In.calls aE 0 32 true _ A4.out).mono ?_); rintro e w' ⟨rfl, ⟨nd, rfl⟩⟩; (try first | exact ⟨rfl, _, World.drewN_drewN _ _ _⟩ | exact ⟨rfl, _, Eq.trans (World.drewN_drewN _ _ _) (congrArg (World.drewN _) (Nat.add_assoc _ _ _))⟩)) | (go_at_call 118; (with_reducible refine (spec_l1Size.calls k aE aF _ A6.out).mono ?_); rintro e w' ⟨rfl, ⟨nd, rfl⟩⟩; (try first | exact ⟨rfl, _, World.drewN_drewN _ _ _⟩ | exact ⟨rfl, _, Eq.trans (World.drewN_drewN _ _ _) (congrArg (World.drewN _) (Nat.add_assoc _ _ _))⟩))); try go_wp2_with (first | ((with_reducible refine gate_dst (N := 1) rfl ?_); refine box_event rfl (N := 1) rfl (cs := #[.int .i64 aD, .int .i64 aE]) (t := 90) BX ?_; intro aH hg w8 aA hb; have aB := am (aA); have aC := am (GH HB hg); have aG := aC; replace HB := bl (KL HB) hb; clear hb aA hg; obtain ⟨aP, aQ, aR⟩ := y2 w8 aB.out) | (go_at_call 101; (with_reducible refine (spec_l1Addr.calls aD true _ A2.out).mono ?_); rintro e w' ⟨rfl, ⟨nd, rfl⟩⟩; (try first | exact ⟨rfl, _, World.drewN_drewN _ _ _⟩ | exact ⟨rfl, _, Eq.trans (World.drewN_drewN _ _ _) (congrArg (World.drewN _) (Nat.add_assoc _ _ _))⟩)) | (go_at_call 54; (with_reducible refine (spec_l1In.calls aE 0 32 true _ A4.out).mono ?_); rintro e w' ⟨rfl, ⟨nd, rfl⟩⟩; (try first | exact ⟨rfl, _, World.drewN_drewN _ _ _⟩ | exact ⟨rfl, _, Eq.trans (World.drewN_drewN _ _ _) (congrArg (World.drewN _) (Nat.add_assoc _ _ _))⟩)) | (go_at_call 118; (with_reducible refine (spec_l1Size.calls k aE aF _ A6.out).mono ?_); rintro e w' ⟨rfl, ⟨nd, rfl⟩⟩; (try first | exact ⟨rfl, _, World.drewN_drewN _ _ _⟩ | exact ⟨rfl, _, Eq.trans (World.drewN_drewN _ _ _) (congrArg (World.drewN _) (Nat.add_assoc _ _ _))⟩))))
    go_ret
    exact ⟨ER, K1 HB aG.out⟩
  ·replace c5 := Bool.eq_false_iff.mpr c5
   subst c5; have H1 := nf H; clear H; have H := H1; clear H1; obtain rfl := sj H; go_enter Tryz.func114, Tryz.ntmps114
   go_wp2_with (first | ((with_reducible refine gate_dst (N := 1) rfl ?_); refine box_event rfl (N := 1) rfl (cs := #[.int .i64 aD, .int .i64 aE]) (t := 90) BX ?_; intro aH hg aT aA hb; have aB := am (aA); have aC := am (GH HB hg); have aG := aC; replace HB := bl (KL HB) hb; clear hb aA hg; obtain ⟨aI, aJ, aK⟩ := y2 aT aB.out) | (go_at_call 101; (with_reducible refine (spec_l1Addr.calls aD true _ A2.out).mono ?_); rintro e w' ⟨rfl, ⟨nd, rfl⟩⟩; (try first | exact ⟨rfl, _, World.drewN_drewN _ _ _⟩ | exact ⟨rfl, _, Eq.trans (World.drewN_drewN _ _ _) (congrArg (World.drewN _) (Nat.add_assoc _ _ _))⟩)) | (go_at_call 54; (with_reducible refine (spec_l1In.calls aE 0 32 false _ A4.out).mono ?_); rintro e w' ⟨rfl, ⟨nd, rfl⟩⟩; (try first | exact ⟨rfl, _, World.drewN_drewN _ _ _⟩ | exact ⟨rfl, _, Eq.trans (World.drewN_drewN _ _ _) (congrArg (World.drewN _) (Nat.add_assoc _ _ _))⟩)))
   repeat (go_quiet (first | ((with_reducible refine gate_dst (N := 1) rfl ?_); refine box_event rfl (N := 1) rfl (cs := #[.int .i64 aD, .int .i64 aE]) (t := 90) BX ?_; intro aH hg aT aA hb; have aB := am (aA); have aC := am (GH HB hg); have aG := aC; replace HB := bl (KL HB) hb; clear hb aA hg; obtain ⟨aI, aJ, aK⟩ := y2 aT aB.out) | (go_at_call 101; (with_reducible refine (spec_l1Addr.calls aD true _ A2.out).mono ?_); rintro e w' ⟨rfl, ⟨nd, rfl⟩⟩; (try first | exact ⟨rfl, _, World.drewN_drewN _ _ _⟩ | exact ⟨rfl, _, Eq.trans (World.drewN_drewN _ _ _) (congrArg (World.drewN _) (Nat.add_assoc _ _ _))⟩)) | (go_at_call 54; (with_reducible refine (spec_l1In.calls aE 0 32 false _ A4.out).mono ?_); rintro e w' ⟨rfl, ⟨nd, rfl⟩⟩; (try first | exact ⟨rfl, _, World.drewN_drewN _ _ _⟩ | exact ⟨rfl, _, Eq.trans (World.drewN_drewN _ _ _) (congrArg (World.drewN _) (Nat.add_assoc _ _ _))⟩))); try go_wp2_with (first | ((with_reducible refine gate_dst (N := 1) rfl ?_); refine box_event rfl (N := 1) rfl (cs := #[.int .i64 aD, .int .i64 aE]) (t := 90) BX ?_; intro aH hg aT aA hb; have aB := am (aA); have aC := am (GH HB hg); have aG := aC; replace HB := bl (KL HB) hb; clear hb aA hg; obtain ⟨aI, aJ, aK⟩ := y2 aT aB.out) | (go_at_call 101; (with_reducible refine (spec_l1Addr.calls aD true _ A2.out).mono ?_); rintro e w' ⟨rfl, ⟨nd, rfl⟩⟩; (try first | exact ⟨rfl, _, World.drewN_drewN _ _ _⟩ | exact ⟨rfl, _, Eq.trans (World.drewN_drewN _ _ _) (congrArg (World.drewN _) (Nat.add_assoc _ _ _))⟩)) | (go_at_call 54; (with_reducible refine (spec_l1In.calls aE 0 32 false _ A4.out).mono ?_); rintro e w' ⟨rfl, ⟨nd, rfl⟩⟩; (try first | exact ⟨rfl, _, World.drewN_drewN _ _ _⟩ | exact ⟨rfl, _, Eq.trans (World.drewN_drewN _ _ _) (congrArg (World.drewN _) (Nat.add_assoc _ _ _))⟩))))
   go_ret
   exact ⟨ER, K1 HB aG.out⟩
 ·replace c3 := Bool.eq_false_iff.mpr c3
  subst c3; have H1 := nf H; clear H; have H := H1; clear H1; obtain rfl := sj H; go_enter Tryz.func114, Tryz.ntmps114
  go_wp2_with (first | ((with_reducible refine gate_dst (N := 1) rfl ?_); refine box_event rfl (N := 1) rfl (cs := #[.int .i64 aD, .int .i64 aE]) (t := 90) BX ?_; intro aH hg aU aA hb; have aB := am (aA); have aC := am (GH HB hg); have aG := aC; replace HB := bl (KL HB) hb; clear hb aA hg; obtain ⟨aL, aM, aN⟩ := y2 aU aB.out) | (go_at_call 101; (with_reducible refine (spec_l1Addr.calls aD false _ A2.out).mono ?_); rintro e w' ⟨rfl, ⟨nd, rfl⟩⟩; (try first | exact ⟨rfl, _, World.drewN_drewN _ _ _⟩ | exact ⟨rfl, _, Eq.trans (World.drewN_drewN _ _ _) (congrArg (World.drewN _) (Nat.add_assoc _ _ _))⟩)))
  repeat (go_quiet (first | ((with_reducible refine gate_dst (N := 1) rfl ?_); refine box_event rfl (N := 1) rfl (cs := #[.int .i64 aD, .int .i64 aE]) (t := 90) BX ?_; intro aH hg aU aA hb; have aB := am (aA); have aC := am (GH HB hg); have aG := aC; replace HB := bl (KL HB) hb; clear hb aA hg; obtain ⟨aL, aM, aN⟩ := y2 aU aB.out) | (go_at_call 101; (with_reducible refine (spec_l1Addr.calls aD false _ A2.out).mono ?_); rintro e w' ⟨rfl, ⟨nd, rfl⟩⟩; (try first | exact ⟨rfl, _, World.drewN_drewN _ _ _⟩ | exact ⟨rfl, _, Eq.trans (World.drewN_drewN _ _ _) (congrArg (World.drewN _) (Nat.add_assoc _ _ _))⟩))); try go_wp2_with (first | ((with_reducible refine gate_dst (N := 1) rfl ?_); refine box_event rfl (N := 1) rfl (cs := #[.int .i64 aD, .int .i64 aE]) (t := 90) BX ?_; intro aH hg aU aA hb; have aB := am (aA); have aC := am (GH HB hg); have aG := aC; replace HB := bl (KL HB) hb; clear hb aA hg; obtain ⟨aL, aM, aN⟩ := y2 aU aB.out) | (go_at_call 101; (with_reducible refine (spec_l1Addr.calls aD false _ A2.out).mono ?_); rintro e w' ⟨rfl, ⟨nd, rfl⟩⟩; (try first | exact ⟨rfl, _, World.drewN_drewN _ _ _⟩ | exact ⟨rfl, _, Eq.trans (World.drewN_drewN _ _ _) (congrArg (World.drewN _) (Nat.add_assoc _ _ _))⟩))))
  go_ret
  exact ⟨ER, K1 HB aG.out⟩
def spec_l4Ok.j0 : Nat → Bool → Int → Int → Int → Int → Int → Int → Int → Int → Option (Bool)
 | 0, _, _, _, _, _, _, _, _, _ => none
 | k + 1, x31, x102000, x102001, x102002, x102003, x102004, x102005, x102006, x102007 => if x31 = true then (some false) else (if x102000 = 2 then ((spec_l1In.f x102001 0 3).bind fun t106 => (some t106)) else (some (x102001 == 0)))
def spec_l4Ok.f (k : Nat) (a0_0 : Int) (a0_1 : Int) (a0_2 : Int) (a0_3 : Int) (a0_4 : Int) (a0_5 : Int) (a0_6 : Int) (a0_7 : Int) : Option (Bool) := (spec_BlockOk.f k a0_2 a0_3).bind fun t102 => (if t102 = true then ((spec_BlockOk.f k a0_4 a0_5).bind fun t103 => (if t103 = true then ((spec_l1In.f a0_6 0 a0_7).bind fun t104 => (if t104 = true then (if a0_7 > 65535 then (spec_l4Ok.j0 k true a0_0 a0_1 a0_2 a0_3 a0_4 a0_5 a0_6 a0_7) else ((spec_l1In.f a0_0 0 2).bind fun t105 => (spec_l4Ok.j0 k (!t105) a0_0 a0_1 a0_2 a0_3 a0_4 a0_5 a0_6 a0_7))) else (spec_l4Ok.j0 k true a0_0 a0_1 a0_2 a0_3 a0_4 a0_5 a0_6 a0_7))) else (spec_l4Ok.j0 k true a0_0 a0_1 a0_2 a0_3 a0_4 a0_5 a0_6 a0_7))) else (spec_l4Ok.j0 k true a0_0 a0_1 a0_2 a0_3 a0_4 a0_5 a0_6 a0_7))
theorem spec_l4Ok.calls (k : Nat) (aE : Int) (aJ : Int) (aC : Int) (aD : Int) (aF : Int) (aG : Int) (aH : Int) (aB : Int) (r : Bool) (w : World) (h : spec_l4Ok.f k aE aJ aC aD aF aG aH aB = some r) :
  Calls Tryz.prog 100 #[.agg #[.int .i64 aE, .int .i64 aJ, .int .i64 aC, .int .i64 aD, .int .i64 aF, .int .i64 aG, .int .i64 aH, .int .i64 aB]] w fun e w' => e = .returned (.bool r) ∧ Below w.heap.size w w' := by
 have fY := Tryz.underlying92; have fZ := Tryz.underlying90; have HB := am (Below.refl w.heap.size w); have H : ((spec_BlockOk.f k aC aD).bind fun aO => (if aO = true then ((spec_BlockOk.f k aF aG).bind fun aN => (if aN = true then ((spec_l1In.f aH 0 aB).bind fun aL => (if aL = true then (if aB > 65535 then (spec_l4Ok.j0 k true aE aJ aC aD aF aG aH aB) else ((spec_l1In.f aE 0 2).bind fun aK => (spec_l4Ok.j0 k (!aK) aE aJ aC aD aF aG aH aB))) else (spec_l4Ok.j0 k true aE aJ aC aD aF aG aH aB))) else (spec_l4Ok.j0 k true aE aJ aC aD aF aG aH aB))) else (spec_l4Ok.j0 k true aE aJ aC aD aF aG aH aB))) = some r := h; clear h; have fU := Aside0.mk H; clear H; go_enter Tryz.func100, Tryz.ntmps100
 go_upto_region 1 with (first | ((with_reducible refine gate_dst (N := 1) rfl ?_); refine box_event rfl (N := 1) rfl (cs := #[.int .i64 aE, .int .i64 aJ, .int .i64 aC, .int .i64 aD, .int .i64 aF, .int .i64 aG, .int .i64 aH, .int .i64 aB]) (t := 92) BX ?_; intro eV hg w3 eW hb; have aA := am (eW); have eX := am (GH HB hg); have aI := eX; replace HB := bl (KL HB) hb; clear hb eW hg))
 (try simp only [Act.put, List.setIfInBounds_toArray, List.set_cons_zero, List.set_cons_succ])
 go_cut [31] (fun gA wc => ∃ (kq : Nat) (aM : Bool), gA = .bool aM ∧ Aside0 (spec_l4Ok.j0 kq aM aE aJ aC aD aF aG aH aB = some r) ∧ Aside0 (kq ≤ k) ∧ Aside0 (wc.heap[eV]? = some (.cells #[.int .i64 aE, .int .i64 aJ, .int .i64 aC, .int .i64 aD, .int .i64 aF, .int .i64 aG, .int .i64 aH, .int .i64 aB] 92 (0, 0))) ∧ Aside0 (Below w.heap.size w wc))
 case first =>
  have H := fU.out; clear fU; replace H := bm H; obtain ⟨aO, fV, H⟩ := H; replace H : (if aO = true then ((spec_BlockOk.f k aF aG).bind fun aN => (if aN = true then ((spec_l1In.f aH 0 aB).bind fun aL => (if aL = true then (if aB > 65535 then (spec_l4Ok.j0 k true aE aJ aC aD aF aG aH aB) else ((spec_l1In.f aE 0 2).bind fun aK => (spec_l4Ok.j0 k (!aK) aE aJ aC aD aF aG aH aB))) else (spec_l4Ok.j0 k true aE aJ aC aD aF aG aH aB))) else (spec_l4Ok.j0 k true aE aJ aC aD aF aG aH aB))) else (spec_l4Ok.j0 k true aE aJ aC aD aF aG aH aB)) = some r := H; have A4 := Aside0.mk fV; clear fV; by_cases c5 : aO = true
  ·subst c5
   have H1 := pf H; clear H; have H := H1; clear H1; replace H := bm H; obtain ⟨aN, fW, H⟩ := H; replace H : (if aN = true then ((spec_l1In.f aH 0 aB).bind fun aL => (if aL = true then (if aB > 65535 then (spec_l4Ok.j0 k true aE aJ aC aD aF aG aH aB) else ((spec_l1In.f aE 0 2).bind fun aK => (spec_l4Ok.j0 k (!aK) aE aJ aC aD aF aG aH aB))) else (spec_l4Ok.j0 k true aE aJ aC aD aF aG aH aB))) else (spec_l4Ok.j0 k true aE aJ aC aD aF aG aH aB)) = some r := H; have A6 := Aside0.mk fW; clear fW; by_cases c7 : aN = true
   ·subst c7
    have H1 := pf H; clear H; have H := H1; clear H1; replace H := bm H; obtain ⟨aL, fX, H⟩ := H; replace H : (if aL = true then (if aB > 65535 then (spec_l4Ok.j0 k true aE aJ aC aD aF aG aH aB) else ((spec_l1In.f aE 0 2).bind fun aK => (spec_l4Ok.j0 k (!aK) aE aJ aC aD aF aG aH aB))) else (spec_l4Ok.j0 k true aE aJ aC aD aF aG aH aB)) = some r := H; have A8 := Aside0.mk fX; clear fX; by_cases c9 : aL = true
    ·subst c9
     have H1 := pf H; clear H; have H := H1; clear H1; by_cases eT : aB > 65535
     ·rw [if_pos eT] at H
      have c10b0 : decide (65535 < aB) = true := decide_eq_true eT; clear eT; (first | rw [c10b0] | (simp only [i64_w, i32_w]; rw [c10b0]) | skip)
      have H' := Aside0.mk H; clear H; obtain ⟨aP, aQ, aR, aS, aT, aU, aV, aW, aX⟩ := y8 w3 aA.out; go_wp2_with (first | ((with_reducible refine gate_callee (f := 114) rfl ?_); refine goesL_ (some 5) rfl rfl Tryz.func114 (by kernel_rfl) rfl #[.agg #[.int .i64 aC, .int .i64 aD]] rfl MT ?_; (with_reducible refine (spec_BlockOk.calls k aC aD true _ A4.out).mono ?_); rintro e gB ⟨rfl, hb⟩; refine ⟨_, rfl, ?_⟩; replace aA := am (BB aA hb); replace HB := bl (K1 HB aI.out) hb; (try clear hb); obtain ⟨aY, aZ, bA, bB, bC, bD, bE, bF, bG⟩ := y8 gB aA.out) | (go_at_call 114; (with_reducible refine (spec_BlockOk.calls k aF aG true _ A6.out).mono ?_); rintro e gC ⟨rfl, hb⟩; replace aA := am (BB aA hb); replace HB := bl (K1 HB aI.out) hb; (try clear hb); obtain ⟨bH, bI, bJ, bK, bL, bM, bN, bO, bP⟩ := y8 gC aA.out) | (go_at_call 54; (with_reducible refine (spec_l1In.calls aH 0 aB true _ A8.out).mono ?_); rintro e w' ⟨rfl, ⟨nd, rfl⟩⟩))
      go_meet
      case rel => exact ⟨_, (true), (by first | rfl | (simp; done) | (simp [*]; done)), H', ⟨by first | omega | exact Nat.le_refl _⟩, ⟨KB aA⟩, ⟨K1 HB aI.out⟩⟩
     ·rw [if_neg eT] at H
      have c10b0 : decide (65535 < aB) = false := decide_eq_false eT; clear eT; (first | rw [c10b0] | (simp only [i64_w, i32_w]; rw [c10b0]) | skip)
      replace H := bm H; obtain ⟨aK, eY, H⟩ := H; replace H : (spec_l4Ok.j0 k (!aK) aE aJ aC aD aF aG aH aB) = some r := H; have gD := Aside0.mk eY; clear eY; have H' := Aside0.mk H; clear H; obtain ⟨bQ, bR, bS, bT, bU, bV, bW, bX, bY⟩ := y8 w3 aA.out; go_wp2_with (first | ((with_reducible refine gate_callee (f := 114) rfl ?_); refine goesL_ (some 5) rfl rfl Tryz.func114 (by kernel_rfl) rfl #[.agg #[.int .i64 aC, .int .i64 aD]] rfl MT ?_; (with_reducible refine (spec_BlockOk.calls k aC aD true _ A4.out).mono ?_); rintro e gE ⟨rfl, hb⟩; refine ⟨_, rfl, ?_⟩; replace aA := am (BB aA hb); replace HB := bl (K1 HB aI.out) hb; (try clear hb); obtain ⟨bZ, cA, cB, cC, cD, cE, cF, cG, cH⟩ := y8 gE aA.out) | (go_at_call 114; (with_reducible refine (spec_BlockOk.calls k aF aG true _ A6.out).mono ?_); rintro e gF ⟨rfl, hb⟩; replace aA := am (BB aA hb); replace HB := bl (K1 HB aI.out) hb; (try clear hb); obtain ⟨cI, cJ, cK, cL, cM, cN, cO, cP, cQ⟩ := y8 gF aA.out) | (go_at_call 54; (with_reducible refine (spec_l1In.calls aH 0 aB true _ A8.out).mono ?_); rintro e w' ⟨rfl, ⟨nd, rfl⟩⟩) | (go_at_call 54; (with_reducible refine (spec_l1In.calls aE 0 2 aK _ gD.out).mono ?_); rintro e w' ⟨rfl, ⟨nd, rfl⟩⟩))
      go_meet
      case rel => exact ⟨_, (!aK), (by first | rfl | (simp; done) | (simp [*]; done)), H', ⟨by first | omega | exact Nat.le_refl _⟩, ⟨KB aA⟩, ⟨K1 HB aI.out⟩⟩
    ·replace c9 := Bool.eq_false_iff.mpr c9
     subst c9; have H1 := nf H; clear H; have H := H1; clear H1; have H' := Aside0.mk H; clear H; obtain ⟨cR, cS, cT, cU, cV, cW, cX, cY, cZ⟩ := y8 w3 aA.out; go_wp2_with (first | ((with_reducible refine gate_callee (f := 114) rfl ?_); refine goesL_ (some 5) rfl rfl Tryz.func114 (by kernel_rfl) rfl #[.agg #[.int .i64 aC, .int .i64 aD]] rfl MT ?_; (with_reducible refine (spec_BlockOk.calls k aC aD true _ A4.out).mono ?_); rintro e gG ⟨rfl, hb⟩; refine ⟨_, rfl, ?_⟩; replace aA := am (BB aA hb); replace HB := bl (K1 HB aI.out) hb; (try clear hb); obtain ⟨dA, dB, dC, dD, dE, dF, dG, dH, dI⟩ := y8 gG aA.out) | (go_at_call 114; (with_reducible refine (spec_BlockOk.calls k aF aG true _ A6.out).mono ?_); rintro e gH ⟨rfl, hb⟩; replace aA := am (BB aA hb); replace HB := bl (K1 HB aI.out) hb; (try clear hb); obtain ⟨dJ, dK, dL, dM, dN, dO, dP, dQ, dR⟩ := y8 gH aA.out) | (go_at_call 54; (with_reducible refine (spec_l1In.calls aH 0 aB false _ A8.out).mono ?_); rintro e w' ⟨rfl, ⟨nd, rfl⟩⟩))
     go_meet
     case rel => exact ⟨_, (true), (by first | rfl | (simp; done) | (simp [*]; done)), H', ⟨by first | omega | exact Nat.le_refl _⟩, ⟨KB aA⟩, ⟨K1 HB aI.out⟩⟩
   ·replace c7 := Bool.eq_false_iff.mpr c7
    subst c7; have H1 := nf H; clear H; have H := H1; clear H1; have H' := Aside0.mk H; clear H; obtain ⟨dS, dT, dU, dV, dW, dX, dY, dZ, eA⟩ := y8 w3 aA.out; go_wp2_with (first | ((with_reducible refine gate_callee (f := 114) rfl ?_); refine goesL_ (some 5) rfl rfl Tryz.func114 (by kernel_rfl) rfl #[.agg #[.int .i64 aC, .int .i64 aD]] rfl MT ?_; (with_reducible refine (spec_BlockOk.calls k aC aD true _ A4.out).mono ?_); rintro e gI ⟨rfl, hb⟩; refine ⟨_, rfl, ?_⟩; replace aA := am (BB aA hb); replace HB := bl (K1 HB aI.out) hb; (try clear hb); obtain ⟨eB, eC, eD, eE, eF, eG, eH, eI, eJ⟩ := y8 gI aA.out) | (go_at_call 114; (with_reducible refine (spec_BlockOk.calls k aF aG false _ A6.out).mono ?_); rintro e gK ⟨rfl, hb⟩; replace aA := am (BB aA hb); replace HB := bl (K1 HB aI.out) hb; (try clear hb)))
    go_meet
    case rel => exact ⟨_, (true), (by first | rfl | (simp; done) | (simp [*]; done)), H', ⟨by first | omega | exact Nat.le_refl _⟩, ⟨KB aA⟩, ⟨K1 HB aI.out⟩⟩
  ·replace c5 := Bool.eq_false_iff.mpr c5
   subst c5; have H1 := nf H; clear H; have H := H1; clear H1; have H' := Aside0.mk H; clear H; obtain ⟨eK, eL, eM, eN, eO, eP, eQ, eR, eS⟩ := y8 w3 aA.out; go_wp2_with (first | ((with_reducible refine gate_callee (f := 114) rfl ?_); refine goesL_ (some 5) rfl rfl Tryz.func114 (by kernel_rfl) rfl #[.agg #[.int .i64 aC, .int .i64 aD]] rfl MT ?_; (with_reducible refine (spec_BlockOk.calls k aC aD false _ A4.out).mono ?_); rintro e gL ⟨rfl, hb⟩; refine ⟨_, rfl, ?_⟩; replace aA := am (BB aA hb); replace HB := bl (K1 HB aI.out) hb; (try clear hb)))
   go_meet
   case rel => exact ⟨_, (true), (by first | rfl | (simp; done) | (simp [*]; done)), H', ⟨by first | omega | exact Nat.le_refl _⟩, ⟨KB aA⟩, ⟨K1 HB aI.out⟩⟩
 case rest =>
  clear fU; try clear c1
  try clear p2
  try clear c5
  try clear c7
  try clear c9
  try clear eT
  try clear c10b0
  try clear gM
  try clear aP aQ aR aS aT aU aV aW aX
  try clear aY aZ bA bB bC bD bE bF bG
  try clear bH bI bJ bK bL bM bN bO bP
  try clear bQ bR bS bT bU bV bW bX bY
  try clear bZ cA cB cC cD cE cF cG cH
  try clear cI cJ cK cL cM cN cO cP cQ
  try clear cR cS cT cU cV cW cX cY cZ
  try clear dA dB dC dD dE dF dG dH dI
  try clear dJ dK dL dM dN dO dP dQ dR
  try clear dS dT dU dV dW dX dY dZ eA
  try clear eB eC eD eE eF eG eH eI eJ
  try clear eK eL eM eN eO eP eQ eR eS
  obtain ⟨kq, aM, rfl, HA, HJ1, aA, HB⟩ := hcut; cases kq with
  | zero => exact absurd HA.out (by simp [spec_l4Ok.j0])
  | succ kj1 =>
   have H := HA.out; clear HA; simp only [spec_l4Ok.j0] at H; by_cases fB : aM = true
   ·subst fB
    have H1 := pf H; clear H; have H := H1; clear H1; obtain rfl := sj H; go_wp2
    go_ret
    exact ⟨ER, K1 HB aI.out⟩
   ·replace fB := Bool.eq_false_iff.mpr fB
    subst fB; have H1 := nf H; clear H; have H := H1; clear H1; by_cases eU : aE = 2
    ·rw [if_pos eU] at H
     have c34b0 : (aE == 2) = true := beq_iff_eq.mpr eU; have c34b1 : (aE != 2) = false := bne_eq_false_iff_eq.mpr eU; clear eU; replace H := bm H; obtain ⟨eZ, fA, H⟩ := H; replace H : (some eZ) = some r := H; have gJ := Aside0.mk fA; clear fA; obtain rfl := sj H; have ⟨_, _, _, _, _, _, _, _, _⟩ := y8 wc aA.out; go_wp2_with (first | ((with_reducible refine gate_callee (f := 54) rfl ?_); refine goesL_ (some 37) rfl rfl Tryz.func54 (by kernel_rfl) rfl #[.int .i64 aJ, .int .i64 0, .int .i64 3] rfl MT ?_; (with_reducible refine (spec_l1In.calls aJ 0 3 eZ _ gJ.out).mono ?_); rintro e w' ⟨rfl, ⟨nd, rfl⟩⟩; refine ⟨_, rfl, ?_⟩))
     go_ret
     exact ⟨ER, K1 HB aI.out⟩
    ·rw [if_neg eU] at H
     have c34b0 : (aE == 2) = false := beq_eq_false_iff_ne.mpr eU; have c34b1 : (aE != 2) = true := bne_iff_ne.mpr eU; obtain rfl := sj H; have ⟨_, _, _, _, _, _, _, _, _⟩ := y8 wc aA.out; go_wp2
     go_ret
     exact ⟨ER, K1 HB aI.out⟩
def spec_RulesOk.l0 : Nat → List (S92) → Int → Option (Bool)
 | 0, _, _ => none
 | k + 1, x0, x3 => if x3 < (x0.length : Int) then (if 0 ≤ x3 then ((spec_l4Ok.f k ((rd_T92 x0 x3).f0) ((rd_T92 x0 x3).f1) ((rd_T92 x0 x3).f2.f0) ((rd_T92 x0 x3).f2.f1) ((rd_T92 x0 x3).f3.f0) ((rd_T92 x0 x3).f3.f1) ((rd_T92 x0 x3).f4) ((rd_T92 x0 x3).f5)).bind fun t102 => (if t102 = true then (spec_RulesOk.l0 k x0 (wrap64 (x3 + 1))) else (some false))) else (none)) else (some (decide ((x0.length : Int) ≤ 8)))
def spec_RulesOk.f (k : Nat) (l0 : List (S92)) : Option (Bool) := spec_RulesOk.l0 k l0 0
theorem spec_RulesOk.calls (k : Nat) (A0 : Option Addr) (c0 : Nat) (l0 : List (S92)) (r : Bool) (w : World) (aO : Kd.C k92 w A0 l0.length l0) (aP : l0.length ≤ c0) (h : spec_RulesOk.f k l0 = some r) :
  Calls Tryz.prog 82 #[.slice A0 l0.length c0] w fun e w' => e = .returned (.bool r) ∧ Below w.heap.size w w' := by
 have aS := Tryz.underlying92; have aQ := Aside0.mk aO; have aT := Aside0.mk aP; clear aO aP; have HB := am (Below.refl w.heap.size w); have H : (spec_RulesOk.l0 k l0 0) = some r := h; clear h; have H' := Aside0.mk H; clear H; go_enter Tryz.func82, Tryz.ntmps82
 go_wp2
 go_loopg [3] k (fun kq v3 w' => ∃ (aA : Int), v3 = .int .i64 aA ∧ Aside0 (spec_RulesOk.l0 kq l0 aA = some r) ∧ Aside0 (kq ≤ k) ∧ Aside0 (Below w.heap.size w w'))
 case atStart => exact ⟨(0), (by first | rfl | (simp; done) | (simp [*]; done)), H', ⟨Nat.le_refl _⟩, ⟨KL HB⟩⟩
 case round =>
  clear H'; obtain ⟨aA, rfl, HA, HK1, HB⟩ := hrel; cases gk with
  | zero => exact absurd HA.out (by simp [spec_RulesOk.l0])
  | succ k1 =>
   have H := HA.out; clear HA; simp only [spec_RulesOk.l0] at H; by_cases c2 : aA < (l0.length : Int)
   ·rw [if_pos c2] at H
    have c2b0 : decide (aA < (l0.length : Int)) = true := decide_eq_true c2; clear c2; by_cases c3 : 0 ≤ aA
    ·rw [if_pos c3] at H
     have c3b0 : decide (0 ≤ aA) = true := decide_eq_true c3; clear c3; replace H := bm H; obtain ⟨aM, aR, H⟩ := H; replace H : (if aM = true then (spec_RulesOk.l0 k1 l0 (wrap64 (aA + 1))) else (some false)) = some r := H; have A4 := Aside0.mk aR; clear aR; by_cases c5 : aM = true
     ·subst c5
      have H1 := pf H; clear H; have H := H1; clear H1; have H' := Aside0.mk H; clear H; have aJ : 0 ≤ (aA : Int) := OD; have aK : aA < (l0.length : Int) := OD; obtain ⟨aN, aL, aB, aC, aD, aE, aF, aG, aH, aI⟩ := at_T92 aQ.out aA aJ aK; cases aL
      replace aB := CX HB.out aB; replace aC := CX HB.out aC; replace aD := CX HB.out aD; replace aE := CX HB.out aE; replace aF := CX HB.out aF; replace aG := CX HB.out aG; replace aH := CX HB.out aH; replace aI := CX HB.out aI; replace aJ := eq_true aJ; replace aK := eq_true aK; go_wp2_with (first | ((with_reducible refine gate_callee (f := 100) rfl ?_); refine goesL_ (some 14) rfl rfl Tryz.func100 (by kernel_rfl) rfl #[.agg #[.int .i64 ((rd_T92 l0 aA).f0), .int .i64 ((rd_T92 l0 aA).f1), .int .i64 ((rd_T92 l0 aA).f2.f0), .int .i64 ((rd_T92 l0 aA).f2.f1), .int .i64 ((rd_T92 l0 aA).f3.f0), .int .i64 ((rd_T92 l0 aA).f3.f1), .int .i64 ((rd_T92 l0 aA).f4), .int .i64 ((rd_T92 l0 aA).f5)]] rfl MT ?_; (with_reducible refine (spec_l4Ok.calls k1 ((rd_T92 l0 aA).f0) ((rd_T92 l0 aA).f1) ((rd_T92 l0 aA).f2.f0) ((rd_T92 l0 aA).f2.f1) ((rd_T92 l0 aA).f3.f0) ((rd_T92 l0 aA).f3.f1) ((rd_T92 l0 aA).f4) ((rd_T92 l0 aA).f5) true _ A4.out).mono ?_); rintro e w6 ⟨rfl, hb⟩; refine ⟨_, rfl, ?_⟩; replace HB := bl (KL HB) hb; (try clear hb)))
      go_roundg k1
      case measure => have := HK1.out; omega
      case rel => exact ⟨(wrap64 (aA + 1)), (by first | rfl | (simp; done) | (simp [*]; done)), H', ⟨by have := HK1.out; omega⟩, ⟨KL HB⟩⟩
     ·replace c5 := Bool.eq_false_iff.mpr c5
      subst c5; have H1 := nf H; clear H; have H := H1; clear H1; obtain rfl := sj H; have aJ : 0 ≤ (aA : Int) := OD; have aK : aA < (l0.length : Int) := OD; obtain ⟨aN, aL, aB, aC, aD, aE, aF, aG, aH, aI⟩ := at_T92 aQ.out aA aJ aK; cases aL
      replace aB := CX HB.out aB; replace aC := CX HB.out aC; replace aD := CX HB.out aD; replace aE := CX HB.out aE; replace aF := CX HB.out aF; replace aG := CX HB.out aG; replace aH := CX HB.out aH; replace aI := CX HB.out aI; replace aJ := eq_true aJ; replace aK := eq_true aK; go_wp2_with (first | ((with_reducible refine gate_callee (f := 100) rfl ?_); refine goesL_ (some 14) rfl rfl Tryz.func100 (by kernel_rfl) rfl #[.agg #[.int .i64 ((rd_T92 l0 aA).f0), .int .i64 ((rd_T92 l0 aA).f1), .int .i64 ((rd_T92 l0 aA).f2.f0), .int .i64 ((rd_T92 l0 aA).f2.f1), .int .i64 ((rd_T92 l0 aA).f3.f0), .int .i64 ((rd_T92 l0 aA).f3.f1), .int .i64 ((rd_T92 l0 aA).f4), .int .i64 ((rd_T92 l0 aA).f5)]] rfl MT ?_; (with_reducible refine (spec_l4Ok.calls k1 ((rd_T92 l0 aA).f0) ((rd_T92 l0 aA).f1) ((rd_T92 l0 aA).f2.f0) ((rd_T92 l0 aA).f2.f1) ((rd_T92 l0 aA).f3.f0) ((rd_T92 l0 aA).f3.f1) ((rd_T92 l0 aA).f4) ((rd_T92 l0 aA).f5) false _ A4.out).mono ?_); rintro e w7 ⟨rfl, hb⟩; refine ⟨_, rfl, ?_⟩; replace HB := bl (KL HB) hb; (try clear hb)))
      go_ret
      exact ⟨ER, KL HB⟩
    ·rw [if_neg c3] at H
     exact absurd H (by simp)
   ·rw [if_neg c2] at H
    have c2b0 : decide (aA < (l0.length : Int)) = false := decide_eq_false c2; clear c2; obtain rfl := sj H; go_wp2
    go_ret
    exact ⟨ER, KL HB⟩
def spec_l4Call.f (a0_0 : Int) (a0_1 : Int) (a0_2 : Int) : Option (Bool) := (spec_l1Addr.f a0_0).bind fun t102 => (if t102 = true then ((spec_l1Addr.f a0_1).bind fun t103 => (if t103 = true then ((spec_l1In.f a0_2 0 65535).bind fun t104 => (some t104)) else (some false))) else (some false))
theorem spec_l4Call.calls (aA : Int) (aB : Int) (aC : Int) (r : Bool) (w : World) (h : spec_l4Call.f aA aB aC = some r) :
  Calls Tryz.prog 83 #[.agg #[.int .i64 aA, .int .i64 aB, .int .i64 aC]] w fun e w' => e = .returned (.bool r) ∧ Below w.heap.size w w' := by
 have aX := Tryz.underlying103; have HB := am (Below.refl w.heap.size w); have H : ((spec_l1Addr.f aA).bind fun aJ => (if aJ = true then ((spec_l1Addr.f aB).bind fun aI => (if aI = true then ((spec_l1In.f aC 0 65535).bind fun aD => (some aD)) else (some false))) else (some false))) = some r := h; clear h; replace H := bm H; obtain ⟨aJ, aY, H⟩ := H; replace H : (if aJ = true then ((spec_l1Addr.f aB).bind fun aI => (if aI = true then ((spec_l1In.f aC 0 65535).bind fun aD => (some aD)) else (some false))) else (some false)) = some r := H; have A2 := Aside0.mk aY; clear aY; by_cases c3 : aJ = true
 ·subst c3
  have H1 := pf H; clear H; have H := H1; clear H1; replace H := bm H; obtain ⟨aI, aZ, H⟩ := H; replace H : (if aI = true then ((spec_l1In.f aC 0 65535).bind fun aD => (some aD)) else (some false)) = some r := H; have A4 := Aside0.mk aZ; clear aZ; by_cases c5 : aI = true
  ·subst c5
   have H1 := pf H; clear H; have H := H1; clear H1; replace H := bm H; obtain ⟨aD, bA, H⟩ := H; replace H : (some aD) = some r := H; have A6 := Aside0.mk bA; clear bA; obtain rfl := sj H; go_enter Tryz.func83, Tryz.ntmps83
   go_wp2_with (first | ((with_reducible refine gate_dst (N := 1) rfl ?_); refine box_event rfl (N := 1) rfl (cs := #[.int .i64 aA, .int .i64 aB, .int .i64 aC]) (t := 103) BX ?_; intro aK hg w7 aE hb; have aF := am (aE); have aG := am (GH HB hg); have aH := aG; replace HB := bl (KL HB) hb; clear hb aE hg; have ⟨_, _, _, _⟩ := y3 w7 aF.out) | ((with_reducible refine gate_callee (f := 101) rfl ?_); refine goesL_ (some 5) rfl rfl Tryz.func101 (by kernel_rfl) rfl #[.int .i64 aA] rfl MT ?_; (with_reducible refine (spec_l1Addr.calls aA true _ A2.out).mono ?_); rintro e w' ⟨rfl, ⟨nd, rfl⟩⟩; refine ⟨_, rfl, ?_⟩) | (go_at_call 101; (with_reducible refine (spec_l1Addr.calls aB true _ A4.out).mono ?_); rintro e w' ⟨rfl, ⟨nd, rfl⟩⟩) | (go_at_call 54; (with_reducible refine (spec_l1In.calls aC 0 65535 aD _ A6.out).mono ?_); rintro e w' ⟨rfl, ⟨nd, rfl⟩⟩))
   go_ret
   exact ⟨ER, K1 HB aH.out⟩
  ·replace c5 := Bool.eq_false_iff.mpr c5
   subst c5; have H1 := nf H; clear H; have H := H1; clear H1; obtain rfl := sj H; go_enter Tryz.func83, Tryz.ntmps83
   go_wp2_with (first | ((with_reducible refine gate_dst (N := 1) rfl ?_); refine box_event rfl (N := 1) rfl (cs := #[.int .i64 aA, .int .i64 aB, .int .i64 aC]) (t := 103) BX ?_; intro aK hg w9 aE hb; have aF := am (aE); have aG := am (GH HB hg); have aH := aG; replace HB := bl (KL HB) hb; clear hb aE hg; have ⟨_, _, _, _⟩ := y3 w9 aF.out) | ((with_reducible refine gate_callee (f := 101) rfl ?_); refine goesL_ (some 5) rfl rfl Tryz.func101 (by kernel_rfl) rfl #[.int .i64 aA] rfl MT ?_; (with_reducible refine (spec_l1Addr.calls aA true _ A2.out).mono ?_); rintro e w' ⟨rfl, ⟨nd, rfl⟩⟩; refine ⟨_, rfl, ?_⟩) | (go_at_call 101; (with_reducible refine (spec_l1Addr.calls aB false _ A4.out).mono ?_); rintro e w' ⟨rfl, ⟨nd, rfl⟩⟩))
   go_ret
   exact ⟨ER, K1 HB aH.out⟩
 ·replace c3 := Bool.eq_false_iff.mpr c3
  subst c3; have H1 := nf H; clear H; have H := H1; clear H1; obtain rfl := sj H; go_enter Tryz.func83, Tryz.ntmps83
  go_wp2_with (first | ((with_reducible refine gate_dst (N := 1) rfl ?_); refine box_event rfl (N := 1) rfl (cs := #[.int .i64 aA, .int .i64 aB, .int .i64 aC]) (t := 103) BX ?_; intro aK hg bB aE hb; have aF := am (aE); have aG := am (GH HB hg); have aH := aG; replace HB := bl (KL HB) hb; clear hb aE hg; have ⟨_, _, _, _⟩ := y3 bB aF.out) | ((with_reducible refine gate_callee (f := 101) rfl ?_); refine goesL_ (some 5) rfl rfl Tryz.func101 (by kernel_rfl) rfl #[.int .i64 aA] rfl MT ?_; (with_reducible refine (spec_l1Addr.calls aA false _ A2.out).mono ?_); rintro e w' ⟨rfl, ⟨nd, rfl⟩⟩; refine ⟨_, rfl, ?_⟩))
  go_ret
  exact ⟨ER, K1 HB aH.out⟩
def spec_l1Last.f (k : Nat) (a0_0 : Int) (a0_1 : Int) : Option (Int) := (spec_l1Size.f k a0_1).bind fun t102 => (some (wrap64 ((wrap64 (a0_0 + t102)) - 1)))
theorem spec_l1Last.calls (k : Nat) (aE : Int) (aA : Int) (r : Int) (w : World) (h : spec_l1Last.f k aE aA = some r) :
  Calls Tryz.prog 115 #[.agg #[.int .i64 aE, .int .i64 aA]] w fun e w' => e = .returned (.int .i64 r) ∧ Below w.heap.size w w' := by
 have aM := Tryz.underlying90; have HB := am (Below.refl w.heap.size w); have H : ((spec_l1Size.f k aA).bind fun aF => (some (wrap64 ((wrap64 (aE + aF)) - 1)))) = some r := h; clear h; replace H := bm H; obtain ⟨aF, aL, H⟩ := H; replace H : (some (wrap64 ((wrap64 (aE + aF)) - 1))) = some r := H; have A2 := Aside0.mk aL; clear aL; obtain rfl := sj H; go_enter Tryz.func115, Tryz.ntmps115
 go_wp2_with (first | ((with_reducible refine gate_dst (N := 1) rfl ?_); refine box_event rfl (N := 1) rfl (cs := #[.int .i64 aE, .int .i64 aA]) (t := 90) BX ?_; intro aK hg w3 aB hb; have aC := am (aB); have aD := am (GH HB hg); have aG := aD; replace HB := bl (KL HB) hb; clear hb aB hg; obtain ⟨aH, aI, aJ⟩ := y2 w3 aC.out) | (go_at_call 118; (with_reducible refine (spec_l1Size.calls k aA aF _ A2.out).mono ?_); rintro e w' ⟨rfl, ⟨nd, rfl⟩⟩; (try first | exact ⟨rfl, _, World.drewN_drewN _ _ _⟩ | exact ⟨rfl, _, Eq.trans (World.drewN_drewN _ _ _) (congrArg (World.drewN _) (Nat.add_assoc _ _ _))⟩)))
 repeat (go_quiet (first | ((with_reducible refine gate_dst (N := 1) rfl ?_); refine box_event rfl (N := 1) rfl (cs := #[.int .i64 aE, .int .i64 aA]) (t := 90) BX ?_; intro aK hg w3 aB hb; have aC := am (aB); have aD := am (GH HB hg); have aG := aD; replace HB := bl (KL HB) hb; clear hb aB hg; obtain ⟨aH, aI, aJ⟩ := y2 w3 aC.out) | (go_at_call 118; (with_reducible refine (spec_l1Size.calls k aA aF _ A2.out).mono ?_); rintro e w' ⟨rfl, ⟨nd, rfl⟩⟩; (try first | exact ⟨rfl, _, World.drewN_drewN _ _ _⟩ | exact ⟨rfl, _, Eq.trans (World.drewN_drewN _ _ _) (congrArg (World.drewN _) (Nat.add_assoc _ _ _))⟩))); try go_wp2_with (first | ((with_reducible refine gate_dst (N := 1) rfl ?_); refine box_event rfl (N := 1) rfl (cs := #[.int .i64 aE, .int .i64 aA]) (t := 90) BX ?_; intro aK hg w3 aB hb; have aC := am (aB); have aD := am (GH HB hg); have aG := aD; replace HB := bl (KL HB) hb; clear hb aB hg; obtain ⟨aH, aI, aJ⟩ := y2 w3 aC.out) | (go_at_call 118; (with_reducible refine (spec_l1Size.calls k aA aF _ A2.out).mono ?_); rintro e w' ⟨rfl, ⟨nd, rfl⟩⟩; (try first | exact ⟨rfl, _, World.drewN_drewN _ _ _⟩ | exact ⟨rfl, _, Eq.trans (World.drewN_drewN _ _ _) (congrArg (World.drewN _) (Nat.add_assoc _ _ _))⟩))))
 go_ret
 exact ⟨ER, K1 HB aG.out⟩
def spec_l4About.f (k : Nat) (a0_0 : Int) (a0_1 : Int) (a0_2 : Int) (a0_3 : Int) (a0_4 : Int) (a0_5 : Int) (a0_6 : Int) (a0_7 : Int) (a1_0 : Int) (a1_1 : Int) (a1_2 : Int) : Option (Bool) := (spec_l1Last.f k a0_2 a0_3).bind fun t103 => ((spec_l1In.f a1_0 a0_2 t103).bind fun t104 => (if t104 = true then ((spec_l1Last.f k a0_4 a0_5).bind fun t105 => ((spec_l1In.f a1_1 a0_4 t105).bind fun t106 => (if t106 = true then ((spec_l1In.f a1_2 a0_6 a0_7).bind fun t107 => (some t107)) else (some false)))) else (some false)))
def spec_l4About.T1 : Bool × List (List Nat × List Nat) := (true, [([], []), ([0], [0]), ([], []), ([2], [2]), ([3], [3]), ([], []), ([5], [5]), ([6], [6]), ([1, 4, 7, 7], [1, 4, 7]), ([8, 8], [8]), ([9], [9]), ([10, 9], [9, 10]), ([9], [9]), ([12, 9], [9, 12]), ([13, 9], [9, 13]), ([9], [9]), ([15, 9], [9, 15]), ([16, 9, 9], [9, 16]), ([11, 14, 17, 17, 9], [9, 11, 14, 17]), ([9, 18], [9, 18]), ([19, 18], [19]), ([20], [20]), ([21, 20], [20, 21]), ([20], [20]), ([23, 20], [20, 23]), ([20], [20]), ([25, 20], [20, 25]), ([22, 24, 26, 20, 20], [20, 22, 24, 26]), ([20, 27], [20, 27]), ([28, 27, 0, 1, 2, 3, 4, 5, 6, 7, 8, 9, 10, 11, 12, 13, 14, 15, 16, 17, 18, 19, 20, 21, 22, 23, 24, 25, 26, 27, 28], [28])])
def spec_l4About.B1 : List Nat := [0, 1, 0, 4, 12, 0, 32, 96, 255, 511, 1023, 2047, 1023, 5119, 13311, 1023, 33791, 99327, 262143, 524287, 1048575, 2097151, 4194303, 2097151, 10485759, 2097151, 35651583, 134217727, 268435455, 536870911]
theorem spec_l4About.tab1 : rtab .any (opsOf Tryz.f102 1) = spec_l4About.T1 := by kernel_rfl
theorem spec_l4About.bits1 : waitsOk spec_l4About.T1.2 spec_l4About.B1 = true := by kernel_rfl
theorem spec_l4About.calls (k : Nat) (aX : Int) (aY : Int) (aF : Int) (aL : Int) (aG : Int) (aM : Int) (aN : Int) (aO : Int) (aI : Int) (aJ : Int) (aP : Int) (r : Bool) (w : World) (h : spec_l4About.f k aX aY aF aL aG aM aN aO aI aJ aP = some r) :
  Calls Tryz.prog 102 #[.agg #[.int .i64 aX, .int .i64 aY, .int .i64 aF, .int .i64 aL, .int .i64 aG, .int .i64 aM, .int .i64 aN, .int .i64 aO], .agg #[.int .i64 aI, .int .i64 aJ, .int .i64 aP]] w fun e w' => e = .returned (.bool r) ∧ Below w.heap.size w w' := by
 have bK := Tryz.underlying92; have bE := Tryz.underlying103; have bL := Tryz.underlying90; have HB := am (Below.refl w.heap.size w); have H : ((spec_l1Last.f k aF aL).bind fun aR => ((spec_l1In.f aI aF aR).bind fun bD => (if bD = true then ((spec_l1Last.f k aG aM).bind fun aQ => ((spec_l1In.f aJ aG aQ).bind fun aT => (if aT = true then ((spec_l1In.f aP aN aO).bind fun aS => (some aS)) else (some false)))) else (some false)))) = some r := h; clear h; replace H := bm H; obtain ⟨aR, bF, H⟩ := H; replace H : ((spec_l1In.f aI aF aR).bind fun bD => (if bD = true then ((spec_l1Last.f k aG aM).bind fun aQ => ((spec_l1In.f aJ aG aQ).bind fun aT => (if aT = true then ((spec_l1In.f aP aN aO).bind fun aS => (some aS)) else (some false)))) else (some false))) = some r := H; have A3 := Aside0.mk bF; clear bF; replace H := bm H; obtain ⟨bD, bG, H⟩ := H; replace H : (if bD = true then ((spec_l1Last.f k aG aM).bind fun aQ => ((spec_l1In.f aJ aG aQ).bind fun aT => (if aT = true then ((spec_l1In.f aP aN aO).bind fun aS => (some aS)) else (some false)))) else (some false)) = some r := H; have A4 := Aside0.mk bG; clear bG; by_cases c5 : bD = true
 ·subst c5
  have H1 := pf H; clear H; have H := H1; clear H1; replace H := bm H; obtain ⟨aQ, bH, H⟩ := H; replace H : ((spec_l1In.f aJ aG aQ).bind fun aT => (if aT = true then ((spec_l1In.f aP aN aO).bind fun aS => (some aS)) else (some false))) = some r := H; have A6 := Aside0.mk bH; clear bH; replace H := bm H; obtain ⟨aT, bI, H⟩ := H; replace H : (if aT = true then ((spec_l1In.f aP aN aO).bind fun aS => (some aS)) else (some false)) = some r := H; have A7 := Aside0.mk bI; clear bI; by_cases c8 : aT = true
  ·subst c8
   have H1 := pf H; clear H; have H := H1; clear H1; replace H := bm H; obtain ⟨aS, bJ, H⟩ := H; replace H : (some aS) = some r := H; have A9 := Aside0.mk bJ; clear bJ; obtain rfl := sj H; go_enter Tryz.func102, Tryz.ntmps102
   try go_wp2_with (first | ((with_reducible refine gate_dst (N := 2) rfl ?_); refine box_event rfl (N := 2) rfl (cs := #[.int .i64 aX, .int .i64 aY, .int .i64 aF, .int .i64 aL, .int .i64 aG, .int .i64 aM, .int .i64 aN, .int .i64 aO]) (t := 92) BX ?_; intro aZ hg bP aH hb; have aA := am (aH); have bA := am (GH HB hg); have aE := bA; replace HB := bl (KL HB) hb; clear hb aH hg) | ((with_reducible refine gate_dst (N := 3) rfl ?_); refine box_event rfl (N := 3) rfl (cs := #[.int .i64 aI, .int .i64 aJ, .int .i64 aP]) (t := 103) BX ?_; intro bB hg bM aH hb; have aB := am (aH); have bC := am (GH1 HB aE.out hg); have aK := bC; replace HB := bl (K1 HB aE.out) hb; have aU := am (NL aA hg); have aV := am (NG aA hg); replace aA := am (BB aA hb); clear hb aH hg))
   replace aA := am (blk_drew aA.out); replace aB := am (blk_drew aB.out); replace HB := am (below_drew1 HB.out); refine start_ (n := 30) (S := fun w' => ce3 w' bB (.int .i64 aI) (.int .i64 aJ) (.int .i64 aP) (de8 w' aZ (.int .i64 aX) (.int .i64 aY) (.int .i64 aF) (.int .i64 aL) (.int .i64 aG) (.int .i64 aM) (.int .i64 aN) (.int .i64 aO))) (ds := []) (tf 0 30) (by kernel_rfl) rfl rfl ⟨z0 _ aB.out, z1 _ aB.out, z2 _ aB.out, z0 _ aA.out, z1 _ aA.out, z2 _ aA.out, z3 _ aA.out, z4 _ aA.out, z5 _ aA.out, z6 _ aA.out, z7 _ aA.out⟩ (fun aC => ?_); refine with_tabW spec_l4About.tab1 spec_l4About.bits1 (fun aD aW => ?_); generalize bM.drew = bQ at aA aB HB aC ⊢; refine pv aD 0 5 (tf 1 29) ?_; refine pv aD 2 7 (tr [1, 1, 1, 27]) ?_; refine pv aD 3 8 (tr [1, 1, 2, 26]) ?_; refine pv aD 5 10 (tr [1, 1, 2, 1, 1, 24]) ?_; refine tk 1 (some 6) (tr [4, 1, 1, 24]) (take_ofW aD.out aW.out (by kernel_rfl)) aC ?_; refine tk 4 (some 9) (tf 6 24) (take_ofW aD.out aW.out (by kernel_rfl)) aC ?_; refine tk 6 (some 11) (tf 7 23) (take_ofW aD.out aW.out (by kernel_rfl)) aC ?_; refine one_ (i := 7) (N := some 12) (tf 8 22) rfl rfl (one_of aD.out (by kernel_rfl)) (by decide) (fun K hK => ?_); refine goes_ Tryz.func115 (by kernel_rfl) rfl #[.agg #[.int .i64 aF, .int .i64 aL]] (by rfl) rfl rfl MT ?_; with_reducible refine (spec_l1Last.calls k aF aL aR _ A3.out).mono ?_
   rintro e bR ⟨rfl, hb⟩; refine ⟨_, rfl, ?_⟩; replace aA := am (BB aA hb); replace aB := am (BB aB hb); replace HB := bl (K2 HB aE.out aK.out) hb; (try clear hb)
   (try clear hb2)
   (try clear hk)
   (try clear hi)
   refine hK.out _ _ ⟨z0 _ aB.out, z1 _ aB.out, z2 _ aB.out, z0 _ aA.out, z1 _ aA.out, z2 _ aA.out, z3 _ aA.out, z4 _ aA.out, z5 _ aA.out, z6 _ aA.out, z7 _ aA.out⟩ (fun aC => ?_); clear hK K; refine nm (some 12) ?_; refine one_ (i := 8) (N := some 13) (tf 9 21) rfl rfl (one_of aD.out (by kernel_rfl)) (by decide) (fun K hK => ?_); refine goes_ Tryz.func54 (by kernel_rfl) rfl #[.int .i64 aI, .int .i64 aF, .int .i64 aR] (by rfl) rfl rfl MT ?_; with_reducible refine (spec_l1In.calls aI aF aR true _ A4.out).mono ?_
   rintro e w' ⟨rfl, ⟨nd, rfl⟩⟩; refine ⟨_, rfl, ?_⟩; refine hK.out _ _ ⟨z0 _ aB.out, z1 _ aB.out, z2 _ aB.out, z0 _ aA.out, z1 _ aA.out, z2 _ aA.out, z3 _ aA.out, z4 _ aA.out, z5 _ aA.out, z6 _ aA.out, z7 _ aA.out⟩ (fun aC => ?_); clear hK K; refine nm (some 13) ?_; refine pv aD 9 14 (tf 10 20) ?_; refine pv aD 10 15 (tf 11 19) ?_; refine pv aD 12 17 (tr [11, 1, 1, 17]) ?_; refine pv aD 13 18 (tr [11, 1, 2, 16]) ?_; refine pv aD 15 20 (tr [11, 1, 2, 1, 1, 14]) ?_; refine tk 11 (some 16) (tr [14, 1, 1, 14]) (take_ofW aD.out aW.out (by kernel_rfl)) aC ?_; refine tk 14 (some 19) (tf 16 14) (take_ofW aD.out aW.out (by kernel_rfl)) aC ?_; refine tk 16 (some 21) (tf 17 13) (take_ofW aD.out aW.out (by kernel_rfl)) aC ?_; refine one_ (i := 17) (N := some 22) (tf 18 12) rfl rfl (one_of aD.out (by kernel_rfl)) (by decide) (fun K hK => ?_); refine goes_ Tryz.func115 (by kernel_rfl) rfl #[.agg #[.int .i64 aG, .int .i64 aM]] (by rfl) rfl rfl MT ?_; with_reducible refine (spec_l1Last.calls k aG aM aQ _ A6.out).mono ?_
   rintro e bS ⟨rfl, hb⟩; refine ⟨_, rfl, ?_⟩; replace aA := am (BB aA hb); replace aB := am (BB aB hb); replace HB := bl (K2 HB aE.out aK.out) hb; (try clear hb)
   (try clear hb2)
   (try clear hk)
   (try clear hi)
   refine hK.out _ _ ⟨z0 _ aB.out, z1 _ aB.out, z2 _ aB.out, z0 _ aA.out, z1 _ aA.out, z2 _ aA.out, z3 _ aA.out, z4 _ aA.out, z5 _ aA.out, z6 _ aA.out, z7 _ aA.out⟩ (fun aC => ?_); clear hK K; refine nm (some 22) ?_; refine one_ (i := 18) (N := some 23) (tf 19 11) rfl rfl (one_of aD.out (by kernel_rfl)) (by decide) (fun K hK => ?_); refine goes_ Tryz.func54 (by kernel_rfl) rfl #[.int .i64 aJ, .int .i64 aG, .int .i64 aQ] (by rfl) rfl rfl MT ?_; with_reducible refine (spec_l1In.calls aJ aG aQ true _ A7.out).mono ?_
   rintro e w' ⟨rfl, ⟨nd, rfl⟩⟩; refine ⟨_, rfl, ?_⟩; refine hK.out _ _ ⟨z0 _ aB.out, z1 _ aB.out, z2 _ aB.out, z0 _ aA.out, z1 _ aA.out, z2 _ aA.out, z3 _ aA.out, z4 _ aA.out, z5 _ aA.out, z6 _ aA.out, z7 _ aA.out⟩ (fun aC => ?_); clear hK K; refine nm (some 23) ?_; refine pv aD 19 24 (tf 20 10) ?_; refine pv aD 20 25 (tf 21 9) ?_; refine pv aD 21 26 (tf 22 8) ?_; refine pv aD 23 28 (tr [22, 1, 1, 6]) ?_; refine pv aD 25 30 (tr [22, 1, 1, 1, 1, 4]) ?_; refine tk 22 (some 27) (tr [24, 1, 1, 4]) (take_ofW aD.out aW.out (by kernel_rfl)) aC ?_; refine tk 24 (some 29) (tf 26 4) (take_ofW aD.out aW.out (by kernel_rfl)) aC ?_; refine tk 26 (some 31) (tf 27 3) (take_ofW aD.out aW.out (by kernel_rfl)) aC ?_; refine one_ (i := 27) (N := some 32) (tf 28 2) rfl rfl (one_of aD.out (by kernel_rfl)) (by decide) (fun K hK => ?_); refine goes_ Tryz.func54 (by kernel_rfl) rfl #[.int .i64 aP, .int .i64 aN, .int .i64 aO] (by rfl) rfl rfl MT ?_; with_reducible refine (spec_l1In.calls aP aN aO aS _ A9.out).mono ?_
   rintro e w' ⟨rfl, ⟨nd, rfl⟩⟩; refine ⟨_, rfl, ?_⟩; refine hK.out _ _ ⟨z0 _ aB.out, z1 _ aB.out, z2 _ aB.out, z0 _ aA.out, z1 _ aA.out, z2 _ aA.out, z3 _ aA.out, z4 _ aA.out, z5 _ aA.out, z6 _ aA.out, z7 _ aA.out⟩ (fun aC => ?_); clear hK K; refine nm (some 32) ?_; refine pv aD 28 33 (tf 29 1) ?_; refine pv aD 29 4 (tf 30 0) ?_; refine done_ (done_of aD.out (by kernel_rfl)) ?_; try go_wp2
   go_ret
   exact ⟨ER, K2 HB aE.out aK.out⟩
  ·replace c8 := Bool.eq_false_iff.mpr c8
   subst c8; have H1 := nf H; clear H; have H := H1; clear H1; obtain rfl := sj H; go_enter Tryz.func102, Tryz.ntmps102
   try go_wp2_with (first | ((with_reducible refine gate_dst (N := 2) rfl ?_); refine box_event rfl (N := 2) rfl (cs := #[.int .i64 aX, .int .i64 aY, .int .i64 aF, .int .i64 aL, .int .i64 aG, .int .i64 aM, .int .i64 aN, .int .i64 aO]) (t := 92) BX ?_; intro aZ hg bT aH hb; have aA := am (aH); have bA := am (GH HB hg); have aE := bA; replace HB := bl (KL HB) hb; clear hb aH hg) | ((with_reducible refine gate_dst (N := 3) rfl ?_); refine box_event rfl (N := 3) rfl (cs := #[.int .i64 aI, .int .i64 aJ, .int .i64 aP]) (t := 103) BX ?_; intro bB hg bN aH hb; have aB := am (aH); have bC := am (GH1 HB aE.out hg); have aK := bC; replace HB := bl (K1 HB aE.out) hb; have aU := am (NL aA hg); have aV := am (NG aA hg); replace aA := am (BB aA hb); clear hb aH hg))
   replace aA := am (blk_drew aA.out); replace aB := am (blk_drew aB.out); replace HB := am (below_drew1 HB.out); refine start_ (n := 30) (S := fun w' => ce3 w' bB (.int .i64 aI) (.int .i64 aJ) (.int .i64 aP) (de8 w' aZ (.int .i64 aX) (.int .i64 aY) (.int .i64 aF) (.int .i64 aL) (.int .i64 aG) (.int .i64 aM) (.int .i64 aN) (.int .i64 aO))) (ds := []) (tf 0 30) (by kernel_rfl) rfl rfl ⟨z0 _ aB.out, z1 _ aB.out, z2 _ aB.out, z0 _ aA.out, z1 _ aA.out, z2 _ aA.out, z3 _ aA.out, z4 _ aA.out, z5 _ aA.out, z6 _ aA.out, z7 _ aA.out⟩ (fun aC => ?_); refine with_tabW spec_l4About.tab1 spec_l4About.bits1 (fun aD aW => ?_); generalize bN.drew = bU at aA aB HB aC ⊢; refine pv aD 0 5 (tf 1 29) ?_; refine pv aD 2 7 (tr [1, 1, 1, 27]) ?_; refine pv aD 3 8 (tr [1, 1, 2, 26]) ?_; refine pv aD 5 10 (tr [1, 1, 2, 1, 1, 24]) ?_; refine tk 1 (some 6) (tr [4, 1, 1, 24]) (take_ofW aD.out aW.out (by kernel_rfl)) aC ?_; refine tk 4 (some 9) (tf 6 24) (take_ofW aD.out aW.out (by kernel_rfl)) aC ?_; refine tk 6 (some 11) (tf 7 23) (take_ofW aD.out aW.out (by kernel_rfl)) aC ?_; refine one_ (i := 7) (N := some 12) (tf 8 22) rfl rfl (one_of aD.out (by kernel_rfl)) (by decide) (fun K hK => ?_); refine goes_ Tryz.func115 (by kernel_rfl) rfl #[.agg #[.int .i64 aF, .int .i64 aL]] (by rfl) rfl rfl MT ?_; with_reducible refine (spec_l1Last.calls k aF aL aR _ A3.out).mono ?_
   rintro e bV ⟨rfl, hb⟩; refine ⟨_, rfl, ?_⟩; replace aA := am (BB aA hb); replace aB := am (BB aB hb); replace HB := bl (K2 HB aE.out aK.out) hb; (try clear hb)
   (try clear hb2)
   (try clear hk)
   (try clear hi)
   refine hK.out _ _ ⟨z0 _ aB.out, z1 _ aB.out, z2 _ aB.out, z0 _ aA.out, z1 _ aA.out, z2 _ aA.out, z3 _ aA.out, z4 _ aA.out, z5 _ aA.out, z6 _ aA.out, z7 _ aA.out⟩ (fun aC => ?_); clear hK K; refine nm (some 12) ?_; refine one_ (i := 8) (N := some 13) (tf 9 21) rfl rfl (one_of aD.out (by kernel_rfl)) (by decide) (fun K hK => ?_); refine goes_ Tryz.func54 (by kernel_rfl) rfl #[.int .i64 aI, .int .i64 aF, .int .i64 aR] (by rfl) rfl rfl MT ?_; with_reducible refine (spec_l1In.calls aI aF aR true _ A4.out).mono ?_
   rintro e w' ⟨rfl, ⟨nd, rfl⟩⟩; refine ⟨_, rfl, ?_⟩; refine hK.out _ _ ⟨z0 _ aB.out, z1 _ aB.out, z2 _ aB.out, z0 _ aA.out, z1 _ aA.out, z2 _ aA.out, z3 _ aA.out, z4 _ aA.out, z5 _ aA.out, z6 _ aA.out, z7 _ aA.out⟩ (fun aC => ?_); clear hK K; refine nm (some 13) ?_; refine pv aD 9 14 (tf 10 20) ?_; refine pv aD 10 15 (tf 11 19) ?_; refine pv aD 12 17 (tr [11, 1, 1, 17]) ?_; refine pv aD 13 18 (tr [11, 1, 2, 16]) ?_; refine pv aD 15 20 (tr [11, 1, 2, 1, 1, 14]) ?_; refine tk 11 (some 16) (tr [14, 1, 1, 14]) (take_ofW aD.out aW.out (by kernel_rfl)) aC ?_; refine tk 14 (some 19) (tf 16 14) (take_ofW aD.out aW.out (by kernel_rfl)) aC ?_; refine tk 16 (some 21) (tf 17 13) (take_ofW aD.out aW.out (by kernel_rfl)) aC ?_; refine one_ (i := 17) (N := some 22) (tf 18 12) rfl rfl (one_of aD.out (by kernel_rfl)) (by decide) (fun K hK => ?_); refine goes_ Tryz.func115 (by kernel_rfl) rfl #[.agg #[.int .i64 aG, .int .i64 aM]] (by rfl) rfl rfl MT ?_; with_reducible refine (spec_l1Last.calls k aG aM aQ _ A6.out).mono ?_
   rintro e bW ⟨rfl, hb⟩; refine ⟨_, rfl, ?_⟩; replace aA := am (BB aA hb); replace aB := am (BB aB hb); replace HB := bl (K2 HB aE.out aK.out) hb; (try clear hb)
   (try clear hb2)
   (try clear hk)
   (try clear hi)
   refine hK.out _ _ ⟨z0 _ aB.out, z1 _ aB.out, z2 _ aB.out, z0 _ aA.out, z1 _ aA.out, z2 _ aA.out, z3 _ aA.out, z4 _ aA.out, z5 _ aA.out, z6 _ aA.out, z7 _ aA.out⟩ (fun aC => ?_); clear hK K; refine nm (some 22) ?_; refine one_ (i := 18) (N := some 23) (tf 19 11) rfl rfl (one_of aD.out (by kernel_rfl)) (by decide) (fun K hK => ?_); refine goes_ Tryz.func54 (by kernel_rfl) rfl #[.int .i64 aJ, .int .i64 aG, .int .i64 aQ] (by rfl) rfl rfl MT ?_; with_reducible refine (spec_l1In.calls aJ aG aQ false _ A7.out).mono ?_
   rintro e w' ⟨rfl, ⟨nd, rfl⟩⟩; refine ⟨_, rfl, ?_⟩; refine hK.out _ _ ⟨z0 _ aB.out, z1 _ aB.out, z2 _ aB.out, z0 _ aA.out, z1 _ aA.out, z2 _ aA.out, z3 _ aA.out, z4 _ aA.out, z5 _ aA.out, z6 _ aA.out, z7 _ aA.out⟩ (fun aC => ?_); clear hK K; refine nm (some 23) ?_; refine pv aD 19 24 (tf 20 10) ?_; refine pv aD 20 25 (tf 21 9) ?_; refine pw aD 21 26 (tf 22 8) ?_; refine pw aD 22 27 (tf 23 7) ?_; refine pw aD 23 28 (tf 24 6) ?_; refine pw aD 24 29 (tf 25 5) ?_; refine pw aD 25 30 (tf 26 4) ?_; refine pw aD 26 31 (tf 27 3) ?_; refine pw aD 27 32 (tf 28 2) ?_; refine pv aD 28 33 (tf 29 1) ?_; refine pv aD 29 4 (tf 30 0) ?_; refine done_ (done_of aD.out (by kernel_rfl)) ?_; try go_wp2
   go_ret
   exact ⟨ER, K2 HB aE.out aK.out⟩
 ·replace c5 := Bool.eq_false_iff.mpr c5
  subst c5; have H1 := nf H; clear H; have H := H1; clear H1; obtain rfl := sj H; go_enter Tryz.func102, Tryz.ntmps102
  try go_wp2_with (first | ((with_reducible refine gate_dst (N := 2) rfl ?_); refine box_event rfl (N := 2) rfl (cs := #[.int .i64 aX, .int .i64 aY, .int .i64 aF, .int .i64 aL, .int .i64 aG, .int .i64 aM, .int .i64 aN, .int .i64 aO]) (t := 92) BX ?_; intro aZ hg bX aH hb; have aA := am (aH); have bA := am (GH HB hg); have aE := bA; replace HB := bl (KL HB) hb; clear hb aH hg) | ((with_reducible refine gate_dst (N := 3) rfl ?_); refine box_event rfl (N := 3) rfl (cs := #[.int .i64 aI, .int .i64 aJ, .int .i64 aP]) (t := 103) BX ?_; intro bB hg bO aH hb; have aB := am (aH); have bC := am (GH1 HB aE.out hg); have aK := bC; replace HB := bl (K1 HB aE.out) hb; have aU := am (NL aA hg); have aV := am (NG aA hg); replace aA := am (BB aA hb); clear hb aH hg))
  replace aA := am (blk_drew aA.out); replace aB := am (blk_drew aB.out); replace HB := am (below_drew1 HB.out); refine start_ (n := 30) (S := fun w' => ce3 w' bB (.int .i64 aI) (.int .i64 aJ) (.int .i64 aP) (de8 w' aZ (.int .i64 aX) (.int .i64 aY) (.int .i64 aF) (.int .i64 aL) (.int .i64 aG) (.int .i64 aM) (.int .i64 aN) (.int .i64 aO))) (ds := []) (tf 0 30) (by kernel_rfl) rfl rfl ⟨z0 _ aB.out, z1 _ aB.out, z2 _ aB.out, z0 _ aA.out, z1 _ aA.out, z2 _ aA.out, z3 _ aA.out, z4 _ aA.out, z5 _ aA.out, z6 _ aA.out, z7 _ aA.out⟩ (fun aC => ?_); refine with_tabW spec_l4About.tab1 spec_l4About.bits1 (fun aD aW => ?_); generalize bO.drew = bY at aA aB HB aC ⊢; refine pv aD 0 5 (tf 1 29) ?_; refine pv aD 2 7 (tr [1, 1, 1, 27]) ?_; refine pv aD 3 8 (tr [1, 1, 2, 26]) ?_; refine pv aD 5 10 (tr [1, 1, 2, 1, 1, 24]) ?_; refine tk 1 (some 6) (tr [4, 1, 1, 24]) (take_ofW aD.out aW.out (by kernel_rfl)) aC ?_; refine tk 4 (some 9) (tf 6 24) (take_ofW aD.out aW.out (by kernel_rfl)) aC ?_; refine tk 6 (some 11) (tf 7 23) (take_ofW aD.out aW.out (by kernel_rfl)) aC ?_; refine one_ (i := 7) (N := some 12) (tf 8 22) rfl rfl (one_of aD.out (by kernel_rfl)) (by decide) (fun K hK => ?_); refine goes_ Tryz.func115 (by kernel_rfl) rfl #[.agg #[.int .i64 aF, .int .i64 aL]] (by rfl) rfl rfl MT ?_; with_reducible refine (spec_l1Last.calls k aF aL aR _ A3.out).mono ?_
  rintro e bZ ⟨rfl, hb⟩; refine ⟨_, rfl, ?_⟩; replace aA := am (BB aA hb); replace aB := am (BB aB hb); replace HB := bl (K2 HB aE.out aK.out) hb; (try clear hb)
  (try clear hb2)
  (try clear hk)
  (try clear hi)
  refine hK.out _ _ ⟨z0 _ aB.out, z1 _ aB.out, z2 _ aB.out, z0 _ aA.out, z1 _ aA.out, z2 _ aA.out, z3 _ aA.out, z4 _ aA.out, z5 _ aA.out, z6 _ aA.out, z7 _ aA.out⟩ (fun aC => ?_); clear hK K; refine nm (some 12) ?_; refine one_ (i := 8) (N := some 13) (tf 9 21) rfl rfl (one_of aD.out (by kernel_rfl)) (by decide) (fun K hK => ?_); refine goes_ Tryz.func54 (by kernel_rfl) rfl #[.int .i64 aI, .int .i64 aF, .int .i64 aR] (by rfl) rfl rfl MT ?_; with_reducible refine (spec_l1In.calls aI aF aR false _ A4.out).mono ?_
  rintro e w' ⟨rfl, ⟨nd, rfl⟩⟩; refine ⟨_, rfl, ?_⟩; refine hK.out _ _ ⟨z0 _ aB.out, z1 _ aB.out, z2 _ aB.out, z0 _ aA.out, z1 _ aA.out, z2 _ aA.out, z3 _ aA.out, z4 _ aA.out, z5 _ aA.out, z6 _ aA.out, z7 _ aA.out⟩ (fun aC => ?_); clear hK K; refine nm (some 13) ?_; refine pv aD 9 14 (tf 10 20) ?_; refine pw aD 10 15 (tf 11 19) ?_; refine pw aD 11 16 (tf 12 18) ?_; refine pw aD 12 17 (tf 13 17) ?_; refine pw aD 13 18 (tf 14 16) ?_; refine pw aD 14 19 (tf 15 15) ?_; refine pw aD 15 20 (tf 16 14) ?_; refine pw aD 16 21 (tf 17 13) ?_; refine pw aD 17 22 (tf 18 12) ?_; refine pw aD 18 23 (tf 19 11) ?_; refine pv aD 19 24 (tf 20 10) ?_; refine pv aD 20 25 (tf 21 9) ?_; refine pw aD 21 26 (tf 22 8) ?_; refine pw aD 22 27 (tf 23 7) ?_; refine pw aD 23 28 (tf 24 6) ?_; refine pw aD 24 29 (tf 25 5) ?_; refine pw aD 25 30 (tf 26 4) ?_; refine pw aD 26 31 (tf 27 3) ?_; refine pw aD 27 32 (tf 28 2) ?_; refine pv aD 28 33 (tf 29 1) ?_; refine pv aD 29 4 (tf 30 0) ?_; refine done_ (done_of aD.out (by kernel_rfl)) ?_; try go_wp2
  go_ret
  exact ⟨ER, K2 HB aE.out aK.out⟩
def spec_l4First.l0 : Nat → List (S92) → Int → Int → Int → Int → Option (Int)
 | 0, _, _, _, _, _ => none
 | k + 1, x0, x5, x102000, x102001, x102002 => if x5 < (x0.length : Int) then (if 0 ≤ x5 then ((spec_l4About.f k ((rd_T92 x0 x5).f0) ((rd_T92 x0 x5).f1) ((rd_T92 x0 x5).f2.f0) ((rd_T92 x0 x5).f2.f1) ((rd_T92 x0 x5).f3.f0) ((rd_T92 x0 x5).f3.f1) ((rd_T92 x0 x5).f4) ((rd_T92 x0 x5).f5) x102000 x102001 x102002).bind fun t103 => (if t103 = true then (some x5) else (spec_l4First.l0 k x0 (wrap64 (x5 + 1)) x102000 x102001 x102002))) else (none)) else (some (-1))
def spec_l4First.f (k : Nat) (l0 : List (S92)) (a1_0 : Int) (a1_1 : Int) (a1_2 : Int) : Option (Int) := spec_l4First.l0 k l0 0 a1_0 a1_1 a1_2
theorem spec_l4First.calls (k : Nat) (A0 : Option Addr) (c0 : Nat) (l0 : List (S92)) (aU : Int) (aV : Int) (aW : Int) (r : Int) (w : World) (bF : Kd.C k92 w A0 l0.length l0) (bG : l0.length ≤ c0) (h : spec_l4First.f k l0 aU aV aW = some r) :
  Calls Tryz.prog 84 #[.slice A0 l0.length c0, .agg #[.int .i64 aU, .int .i64 aV, .int .i64 aW]] w fun e w' => e = .returned (.int .i64 r) ∧ Below w.heap.size w w' := by
 have bH := Tryz.underlying103; have bK := Tryz.underlying92; have bI := Aside0.mk bF; have bL := Aside0.mk bG; clear bF bG; have HB := am (Below.refl w.heap.size w); have H : (spec_l4First.l0 k l0 0 aU aV aW) = some r := h; clear h; have H' := Aside0.mk H; clear H; go_enter Tryz.func84, Tryz.ntmps84
 go_wp2_with (first | ((with_reducible refine gate_dst (N := 3) rfl ?_); refine box_event rfl (N := 3) rfl (cs := #[.int .i64 aU, .int .i64 aV, .int .i64 aW]) (t := 103) BX ?_; intro bA hg w3 bC hb; have aC := am (bC); have bD := am (GH HB hg); have aX := bD; replace HB := bl (KL HB) hb; clear hb bC hg))
 go_loopg [5] k (fun kq v5 w' => ∃ (aA : Int), v5 = .int .i64 aA ∧ Aside0 (spec_l4First.l0 kq l0 aA aU aV aW = some r) ∧ Aside0 (kq ≤ k) ∧ Aside0 (w'.heap[bA]? = some (.cells #[.int .i64 aU, .int .i64 aV, .int .i64 aW] 103 (0, 0))) ∧ Aside0 (Below w.heap.size w w'))
 case atStart => exact ⟨(0), (by first | rfl | (simp; done) | (simp [*]; done)), H', ⟨Nat.le_refl _⟩, ⟨KB aC⟩, ⟨K1 HB aX.out⟩⟩
 case round =>
  clear H'; try clear p2
  obtain ⟨aA, rfl, HA, HK1, aC, HB⟩ := hrel; cases gk with
  | zero => exact absurd HA.out (by simp [spec_l4First.l0])
  | succ k1 =>
   have H := HA.out; clear HA; simp only [spec_l4First.l0] at H; by_cases c4 : aA < (l0.length : Int)
   ·rw [if_pos c4] at H
    have c4b0 : decide (aA < (l0.length : Int)) = true := decide_eq_true c4; clear c4; by_cases c5 : 0 ≤ aA
    ·rw [if_pos c5] at H
     have c5b0 : decide (0 ≤ aA) = true := decide_eq_true c5; clear c5; replace H := bm H; obtain ⟨bE, bJ, H⟩ := H; replace H : (if bE = true then (some aA) else (spec_l4First.l0 k1 l0 (wrap64 (aA + 1)) aU aV aW)) = some r := H; have A6 := Aside0.mk bJ; clear bJ; by_cases c7 : bE = true
     ·subst c7
      have H1 := pf H; clear H; have H := H1; clear H1; obtain rfl := sj H; try go_wp2
      replace aC := am (blk_drew aC.out); replace HB := am (below_drew1 HB.out); have aY : 0 ≤ (aA : Int) := OD; have aZ : aA < (l0.length : Int) := OD; obtain ⟨aB, bB, aD, aE, aF, aG, aH, aI, aJ, aK⟩ := at_T92 bI.out aA aY aZ; have aL := aK; have aM := aJ; have aN := aI; have aO := aH; have aP := aG; have aQ := aF; have aR := aE; have aS := aD; cases bB
      replace aD := CX HB.out aD; replace aE := CX HB.out aE; replace aF := CX HB.out aF; replace aG := CX HB.out aG; replace aH := CX HB.out aH; replace aI := CX HB.out aI; replace aJ := CX HB.out aJ; replace aK := CX HB.out aK; replace aY := eq_true aY; replace aZ := eq_true aZ; refine start_ (n := 6) (S := fun w' => ce3 w' bA (.int .i64 aU) (.int .i64 aV) (.int .i64 aW) (w'.cell? (aB.add ((aA).toNat * 8)) = some (.int .i64 ((rd_T92 l0 aA).f0)) ∧ w'.cell? ⟨(aB.add ((aA).toNat * 8)).block, (aB.add ((aA).toNat * 8)).off + 1, none⟩ = some (.int .i64 ((rd_T92 l0 aA).f1)) ∧ w'.cell? ⟨(aB.add ((aA).toNat * 8)).block, (aB.add ((aA).toNat * 8)).off + 2, none⟩ = some (.int .i64 ((rd_T92 l0 aA).f2.f0)) ∧ w'.cell? ⟨(aB.add ((aA).toNat * 8)).block, (aB.add ((aA).toNat * 8)).off + 3, none⟩ = some (.int .i64 ((rd_T92 l0 aA).f2.f1)) ∧ w'.cell? ⟨(aB.add ((aA).toNat * 8)).block, (aB.add ((aA).toNat * 8)).off + 4, none⟩ = some (.int .i64 ((rd_T92 l0 aA).f3.f0)) ∧ w'.cell? ⟨(aB.add ((aA).toNat * 8)).block, (aB.add ((aA).toNat * 8)).off + 5, none⟩ = some (.int .i64 ((rd_T92 l0 aA).f3.f1)) ∧ w'.cell? ⟨(aB.add ((aA).toNat * 8)).block, (aB.add ((aA).toNat * 8)).off + 6, none⟩ = some (.int .i64 ((rd_T92 l0 aA).f4)) ∧ w'.cell? ⟨(aB.add ((aA).toNat * 8)).block, (aB.add ((aA).toNat * 8)).off + 7, none⟩ = some (.int .i64 ((rd_T92 l0 aA).f5)))) (ds := []) (tf 0 6) (by kernel_rfl) rfl rfl ⟨z0 _ aC.out, z1 _ aC.out, z2 _ aC.out, (CY HB.out aS), (CY HB.out aR), (CY HB.out aQ), (CY HB.out aP), (CY HB.out aO), (CY HB.out aN), (CY HB.out aM), (CY HB.out aL)⟩ (fun aT => ?_); generalize wr.drew = w8 at aC HB aD aE aF aG aH aI aJ aK aT ⊢; refine pure_ (i := 0) (N := some 12) (v := ?_) (a' := ?_) (tf 1 5) rfl rfl (by kernel_rfl) (fun _ _ _ h => h) (Or.inl ⟨by rfl, ?_⟩) ?_ ?_; rotate_left; (· intro w'; go_simp; with_reducible rfl); rotate_left; (· simp only [Act.put, List.setIfInBounds_toArray, List.set_cons_zero, List.set_cons_succ, i64_w, i32_w]; rfl); refine pure_ (i := 1) (N := some 13) (v := ?_) (a' := ?_) (tf 2 4) rfl rfl (by kernel_rfl) (fun _ _ _ h => h) (Or.inl ⟨by rfl, ?_⟩) ?_ ?_; rotate_left; (· intro w'; go_simp; with_reducible rfl); rotate_left; (· simp only [Act.put, List.setIfInBounds_toArray, List.set_cons_zero, List.set_cons_succ, i64_w, i32_w]; rfl); refine pure_ (i := 2) (N := some 14) (v := ?_) (a' := ?_) (tf 3 3) rfl rfl (by kernel_rfl) (fun _ _ _ h => h) (Or.inl ⟨by rfl, ?_⟩) ?_ ?_; rotate_left; (· intro w'; go_simp; with_reducible rfl); rotate_left; (· simp only [Act.put, List.setIfInBounds_toArray, List.set_cons_zero, List.set_cons_succ, i64_w, i32_w]; rfl); refine take_ (i := 3) (N := some 15) (v := ?_) (a' := ?_) (tf 4 2) rfl rfl (by kernel_rfl) (fun _ _ _ h => h) (Or.inl ⟨by rfl, ?_⟩) aT ?_ ?_
      rotate_left
      ·rintro w' ⟨s0, s1, s2, s3, s4, s5, s6, s7, s8, s9, s10⟩
       go_simp
       with_reducible rfl
      rotate_left
      ·simp only [Act.put, List.setIfInBounds_toArray, List.set_cons_zero, List.set_cons_succ, i64_w, i32_w]
       rfl
      refine take_ (i := 4) (N := some 16) (v := ?_) (a' := ?_) (tf 5 1) rfl rfl (by kernel_rfl) (fun _ _ _ h => h) (Or.inl ⟨by rfl, ?_⟩) aT ?_ ?_
      rotate_left
      ·rintro w' ⟨s0, s1, s2, s3, s4, s5, s6, s7, s8, s9, s10⟩
       go_simp
       with_reducible rfl
      rotate_left
      ·simp only [Act.put, List.setIfInBounds_toArray, List.set_cons_zero, List.set_cons_succ, i64_w, i32_w]
       rfl
      refine one_ (i := 5) (N := some 17) (tf 6 0) rfl rfl (by kernel_rfl) (by decide) (fun K hK => ?_); refine goes_ Tryz.func102 (by kernel_rfl) rfl #[.agg #[.int .i64 ((rd_T92 l0 aA).f0), .int .i64 ((rd_T92 l0 aA).f1), .int .i64 ((rd_T92 l0 aA).f2.f0), .int .i64 ((rd_T92 l0 aA).f2.f1), .int .i64 ((rd_T92 l0 aA).f3.f0), .int .i64 ((rd_T92 l0 aA).f3.f1), .int .i64 ((rd_T92 l0 aA).f4), .int .i64 ((rd_T92 l0 aA).f5)], .agg #[.int .i64 aU, .int .i64 aV, .int .i64 aW]] (by rfl) rfl rfl MT ?_; with_reducible refine (spec_l4About.calls k1 ((rd_T92 l0 aA).f0) ((rd_T92 l0 aA).f1) ((rd_T92 l0 aA).f2.f0) ((rd_T92 l0 aA).f2.f1) ((rd_T92 l0 aA).f3.f0) ((rd_T92 l0 aA).f3.f1) ((rd_T92 l0 aA).f4) ((rd_T92 l0 aA).f5) aU aV aW true _ A6.out).mono ?_
      rintro e w9 ⟨rfl, hb⟩; refine ⟨_, rfl, ?_⟩; replace aC := am (BB aC hb); replace HB := bl (K1 HB aX.out) hb; (try clear hb)
      (try clear hb2)
      (try clear hk)
      (try clear hi)
      refine hK.out _ _ ⟨z0 _ aC.out, z1 _ aC.out, z2 _ aC.out, (CY HB.out aS), (CY HB.out aR), (CY HB.out aQ), (CY HB.out aP), (CY HB.out aO), (CY HB.out aN), (CY HB.out aM), (CY HB.out aL)⟩ (fun aT => ?_); clear hK K; refine nm (some 17) ?_; refine done_ (by kernel_rfl) ?_; try go_wp2
      go_ret
      exact ⟨ER, K1 HB aX.out⟩
     ·replace c7 := Bool.eq_false_iff.mpr c7
      subst c7; have H1 := nf H; clear H; have H := H1; clear H1; have H' := Aside0.mk H; clear H; try go_wp2
      replace aC := am (blk_drew aC.out); replace HB := am (below_drew1 HB.out); have aY : 0 ≤ (aA : Int) := OD; have aZ : aA < (l0.length : Int) := OD; obtain ⟨aB, bB, aD, aE, aF, aG, aH, aI, aJ, aK⟩ := at_T92 bI.out aA aY aZ; have aL := aK; have aM := aJ; have aN := aI; have aO := aH; have aP := aG; have aQ := aF; have aR := aE; have aS := aD; cases bB
      replace aD := CX HB.out aD; replace aE := CX HB.out aE; replace aF := CX HB.out aF; replace aG := CX HB.out aG; replace aH := CX HB.out aH; replace aI := CX HB.out aI; replace aJ := CX HB.out aJ; replace aK := CX HB.out aK; replace aY := eq_true aY; replace aZ := eq_true aZ; refine start_ (n := 6) (S := fun w' => ce3 w' bA (.int .i64 aU) (.int .i64 aV) (.int .i64 aW) (w'.cell? (aB.add ((aA).toNat * 8)) = some (.int .i64 ((rd_T92 l0 aA).f0)) ∧ w'.cell? ⟨(aB.add ((aA).toNat * 8)).block, (aB.add ((aA).toNat * 8)).off + 1, none⟩ = some (.int .i64 ((rd_T92 l0 aA).f1)) ∧ w'.cell? ⟨(aB.add ((aA).toNat * 8)).block, (aB.add ((aA).toNat * 8)).off + 2, none⟩ = some (.int .i64 ((rd_T92 l0 aA).f2.f0)) ∧ w'.cell? ⟨(aB.add ((aA).toNat * 8)).block, (aB.add ((aA).toNat * 8)).off + 3, none⟩ = some (.int .i64 ((rd_T92 l0 aA).f2.f1)) ∧ w'.cell? ⟨(aB.add ((aA).toNat * 8)).block, (aB.add ((aA).toNat * 8)).off + 4, none⟩ = some (.int .i64 ((rd_T92 l0 aA).f3.f0)) ∧ w'.cell? ⟨(aB.add ((aA).toNat * 8)).block, (aB.add ((aA).toNat * 8)).off + 5, none⟩ = some (.int .i64 ((rd_T92 l0 aA).f3.f1)) ∧ w'.cell? ⟨(aB.add ((aA).toNat * 8)).block, (aB.add ((aA).toNat * 8)).off + 6, none⟩ = some (.int .i64 ((rd_T92 l0 aA).f4)) ∧ w'.cell? ⟨(aB.add ((aA).toNat * 8)).block, (aB.add ((aA).toNat * 8)).off + 7, none⟩ = some (.int .i64 ((rd_T92 l0 aA).f5)))) (ds := []) (tf 0 6) (by kernel_rfl) rfl rfl ⟨z0 _ aC.out, z1 _ aC.out, z2 _ aC.out, (CY HB.out aS), (CY HB.out aR), (CY HB.out aQ), (CY HB.out aP), (CY HB.out aO), (CY HB.out aN), (CY HB.out aM), (CY HB.out aL)⟩ (fun aT => ?_); generalize wr.drew = bM at aC HB aD aE aF aG aH aI aJ aK aT ⊢; refine pure_ (i := 0) (N := some 12) (v := ?_) (a' := ?_) (tf 1 5) rfl rfl (by kernel_rfl) (fun _ _ _ h => h) (Or.inl ⟨by rfl, ?_⟩) ?_ ?_; rotate_left; (· intro w'; go_simp; with_reducible rfl); rotate_left; (· simp only [Act.put, List.setIfInBounds_toArray, List.set_cons_zero, List.set_cons_succ, i64_w, i32_w]; rfl); refine pure_ (i := 1) (N := some 13) (v := ?_) (a' := ?_) (tf 2 4) rfl rfl (by kernel_rfl) (fun _ _ _ h => h) (Or.inl ⟨by rfl, ?_⟩) ?_ ?_; rotate_left; (· intro w'; go_simp; with_reducible rfl); rotate_left; (· simp only [Act.put, List.setIfInBounds_toArray, List.set_cons_zero, List.set_cons_succ, i64_w, i32_w]; rfl); refine pure_ (i := 2) (N := some 14) (v := ?_) (a' := ?_) (tf 3 3) rfl rfl (by kernel_rfl) (fun _ _ _ h => h) (Or.inl ⟨by rfl, ?_⟩) ?_ ?_; rotate_left; (· intro w'; go_simp; with_reducible rfl); rotate_left; (· simp only [Act.put, List.setIfInBounds_toArray, List.set_cons_zero, List.set_cons_succ, i64_w, i32_w]; rfl); refine take_ (i := 3) (N := some 15) (v := ?_) (a' := ?_) (tf 4 2) rfl rfl (by kernel_rfl) (fun _ _ _ h => h) (Or.inl ⟨by rfl, ?_⟩) aT ?_ ?_
      rotate_left
      ·rintro w' ⟨s0, s1, s2, s3, s4, s5, s6, s7, s8, s9, s10⟩
       go_simp
       with_reducible rfl
      rotate_left
      ·simp only [Act.put, List.setIfInBounds_toArray, List.set_cons_zero, List.set_cons_succ, i64_w, i32_w]
       rfl
      refine take_ (i := 4) (N := some 16) (v := ?_) (a' := ?_) (tf 5 1) rfl rfl (by kernel_rfl) (fun _ _ _ h => h) (Or.inl ⟨by rfl, ?_⟩) aT ?_ ?_
      rotate_left
      ·rintro w' ⟨s0, s1, s2, s3, s4, s5, s6, s7, s8, s9, s10⟩
       go_simp
       with_reducible rfl
      rotate_left
      ·simp only [Act.put, List.setIfInBounds_toArray, List.set_cons_zero, List.set_cons_succ, i64_w, i32_w]
       rfl
      refine one_ (i := 5) (N := some 17) (tf 6 0) rfl rfl (by kernel_rfl) (by decide) (fun K hK => ?_); refine goes_ Tryz.func102 (by kernel_rfl) rfl #[.agg #[.int .i64 ((rd_T92 l0 aA).f0), .int .i64 ((rd_T92 l0 aA).f1), .int .i64 ((rd_T92 l0 aA).f2.f0), .int .i64 ((rd_T92 l0 aA).f2.f1), .int .i64 ((rd_T92 l0 aA).f3.f0), .int .i64 ((rd_T92 l0 aA).f3.f1), .int .i64 ((rd_T92 l0 aA).f4), .int .i64 ((rd_T92 l0 aA).f5)], .agg #[.int .i64 aU, .int .i64 aV, .int .i64 aW]] (by rfl) rfl rfl MT ?_; with_reducible refine (spec_l4About.calls k1 ((rd_T92 l0 aA).f0) ((rd_T92 l0 aA).f1) ((rd_T92 l0 aA).f2.f0) ((rd_T92 l0 aA).f2.f1) ((rd_T92 l0 aA).f3.f0) ((rd_T92 l0 aA).f3.f1) ((rd_T92 l0 aA).f4) ((rd_T92 l0 aA).f5) aU aV aW false _ A6.out).mono ?_
      rintro e bN ⟨rfl, hb⟩; refine ⟨_, rfl, ?_⟩; replace aC := am (BB aC hb); replace HB := bl (K1 HB aX.out) hb; (try clear hb)
      (try clear hb2)
      (try clear hk)
      (try clear hi)
      refine hK.out _ _ ⟨z0 _ aC.out, z1 _ aC.out, z2 _ aC.out, (CY HB.out aS), (CY HB.out aR), (CY HB.out aQ), (CY HB.out aP), (CY HB.out aO), (CY HB.out aN), (CY HB.out aM), (CY HB.out aL)⟩ (fun aT => ?_); clear hK K; refine nm (some 17) ?_; refine done_ (by kernel_rfl) ?_; try go_wp2
      go_roundg k1
      case measure => have := HK1.out; omega
      case rel => exact ⟨(wrap64 (aA + 1)), (by first | rfl | (simp; done) | (simp [*]; done)), H', ⟨by have := HK1.out; omega⟩, ⟨KB aC⟩, ⟨K1 HB aX.out⟩⟩
    ·rw [if_neg c5] at H
     exact absurd H (by simp)
   ·rw [if_neg c4] at H
    have c4b0 : decide (aA < (l0.length : Int)) = false := decide_eq_false c4; clear c4; obtain rfl := sj H; go_wp2
    go_ret
    exact ⟨ER, K1 HB aX.out⟩
end Go.Proofs.YtgoblfacfjnanaaGreat.PAll
end
section
namespace Go.Proofs.YtgoblfacfjnanaaGreat.PAll
open Go.RowKit Go.Proofs.YtgoblfacfjnanaaGreatW.PrintWords Go.Proofs.YtgoblfacfjnanaaGreatW.PrintLast Go.Proofs.YtgoblfacfjnanaaGreatW.PrintMore
attribute [local go_sem] max2_int min2_int max_two min_two max_three min_three max_four min_four
set_option linter.unusedVariables false
set_option linter.unusedSimpArgs false
attribute [local go_sem high] eqA103
mutual
def spec_CacheOk.j0 : Nat → List (S92) → Bool → Int → List (S105) → Option (Bool)
 | 0, _, _, _, _ => none
 | k + 1, x0, x23, x102000, x102001 => if x23 = true then (some false) else (spec_CacheOk.l0 k x0 0 x102000 x102001)
def spec_CacheOk.l0 : Nat → List (S92) → Int → Int → List (S105) → Option (Bool)
 | 0, _, _, _, _ => none
 | k + 1, x0, x5, x102000, x102001 => if x5 < (x102001.length : Int) then (if 0 ≤ x5 then ((spec_l4Call.f ((rd_T105 x102001 x5).f0.f0) ((rd_T105 x102001 x5).f0.f1) ((rd_T105 x102001 x5).f0.f2)).bind fun t105 => (if t105 = true then ((spec_l4First.f k x0 ((rd_T105 x102001 x5).f0.f0) ((rd_T105 x102001 x5).f0.f1) ((rd_T105 x102001 x5).f0.f2)).bind fun t108 => (spec_CacheOk.j2 k x0 x5 (((rd_T105 x102001 x5).f1) != t108) x102000 x102001)) else (spec_CacheOk.j2 k x0 x5 true x102000 x102001))) else (none)) else (some true)
def spec_CacheOk.j2 : Nat → List (S92) → Int → Bool → Int → List (S105) → Option (Bool)
 | 0, _, _, _, _, _ => none
 | k + 1, x0, x5, x55, x102000, x102001 => if x55 = true then (some false) else (spec_CacheOk.l1 k x0 x5 0 x102000 x102001)
def spec_CacheOk.l1 : Nat → List (S92) → Int → Int → Int → List (S105) → Option (Bool)
 | 0, _, _, _, _, _ => none
 | k + 1, x0, x5, x6, x102000, x102001 => if x6 < x5 then (if 0 ≤ x6 then (if x6 < (x102001.length : Int) then (if 0 ≤ x5 then (if x5 < (x102001.length : Int) then (if (((rd_T105 x102001 x6).f0.f0) == ((rd_T105 x102001 x5).f0.f0) && (((rd_T105 x102001 x6).f0.f1) == ((rd_T105 x102001 x5).f0.f1) && (((rd_T105 x102001 x6).f0.f2) == ((rd_T105 x102001 x5).f0.f2)))) = true then (some false) else (spec_CacheOk.l1 k x0 x5 (wrap64 (x6 + 1)) x102000 x102001)) else (none)) else (none)) else (none)) else (none)) else (spec_CacheOk.l0 k x0 (wrap64 (x5 + 1)) x102000 x102001)
end
def spec_CacheOk.f (k : Nat) (l0 : List (S92)) (a1_0 : Int) (l1_1 : List (S105)) : Option (Bool) := (spec_RulesOk.f k l0).bind fun t102 => (if t102 = true then ((spec_l1In.f a1_0 0 16).bind fun t103 => (if t103 = true then (spec_CacheOk.j0 k l0 (decide ((l1_1.length : Int) > a1_0)) a1_0 l1_1) else (spec_CacheOk.j0 k l0 true a1_0 l1_1))) else (spec_CacheOk.j0 k l0 true a1_0 l1_1))
def spec_CacheOk.T6 : Bool × List (List Nat × List Nat) := (true, [([], []), ([0], [0]), ([], []), ([1, 2], [1, 2]), ([3], [3]), ([4], [4]), ([5], [5]), ([6], [6]), ([7, 6], [7]), ([8], [8]), ([9, 8], [8, 9]), ([8], [8]), ([10, 11, 8], [8, 10, 11]), ([12, 8], [8, 12]), ([13, 8], [8, 13]), ([8], [8]), ([8], [8]), ([16, 8], [8, 16]), ([8], [8]), ([17, 18, 8], [8, 17, 18]), ([19, 8], [8, 19]), ([20, 8], [8, 20]), ([15, 21, 8, 8], [8, 15, 21]), ([14, 22, 8], [8, 14, 22]), ([8, 23], [8, 23])])
def spec_CacheOk.B6 : List Nat := [0, 1, 0, 7, 15, 31, 63, 127, 255, 511, 1023, 511, 4095, 8191, 16383, 511, 511, 66047, 511, 459263, 983551, 2032127, 4162047, 8388607, 16777215]
theorem spec_CacheOk.tab6 : rtab .any (opsOf Tryz.f55 6) = spec_CacheOk.T6 := by kernel_rfl
theorem spec_CacheOk.bits6 : waitsOk spec_CacheOk.T6.2 spec_CacheOk.B6 = true := by kernel_rfl
def spec_CacheOk.T11 : Bool × List (List Nat × List Nat) := (true, [([], []), ([0], [0]), ([], []), ([1, 2], [1, 2]), ([3], [3]), ([4], [4]), ([], []), ([6], [6]), ([], []), ([7, 8], [7, 8]), ([9], [9]), ([10], [10]), ([5, 11], [5, 11])])
def spec_CacheOk.B11 : List Nat := [0, 1, 0, 7, 15, 31, 0, 64, 0, 448, 960, 1984, 4095]
theorem spec_CacheOk.tab11 : rtab .any (opsOf Tryz.f55 11) = spec_CacheOk.T11 := by kernel_rfl
theorem spec_CacheOk.bits11 : waitsOk spec_CacheOk.T11.2 spec_CacheOk.B11 = true := by kernel_rfl
theorem spec_CacheOk.calls (k : Nat) (A0 : Option Addr) (c0 : Nat) (l0 : List (S92)) (aI : Int) (cL : Option Addr) (bQ : Nat) (aB : List (S105)) (r : Bool) (w : World) (eJ : Kd.C k92 w A0 l0.length l0) (eK : l0.length ≤ c0) (dD : Kd.C k105 w cL aB.length aB) (dE : aB.length ≤ bQ) (h : spec_CacheOk.f k l0 aI aB = some r) :
  Calls Tryz.prog 55 #[.slice A0 l0.length c0, .agg #[.int .i64 aI, .slice cL aB.length bQ]] w fun e w' => e = .returned (.bool r) ∧ Below w.heap.size w w' := by
 have eS := Tryz.underlying39; have eL := Tryz.underlying103; have dW := Aside0.mk eJ; have dX := Aside0.mk eK; clear eJ eK; have bI := Aside0.mk dD; have eM := Aside0.mk dE; clear dD dE; have HB := am (Below.refl w.heap.size w); have H : ((spec_RulesOk.f k l0).bind fun dC => (if dC = true then ((spec_l1In.f aI 0 16).bind fun cU => (if cU = true then (spec_CacheOk.j0 k l0 (decide ((aB.length : Int) > aI)) aI aB) else (spec_CacheOk.j0 k l0 true aI aB))) else (spec_CacheOk.j0 k l0 true aI aB))) = some r := h; clear h; have eF := Aside0.mk H; clear H; go_enter Tryz.func55, Tryz.ntmps55
 go_upto_region 1 with (first | ((with_reducible refine gate_dst (N := 3) rfl ?_); (try (refine gate_guard (by rfl) ?_; dsimp only)); refine box_event rfl (N := 3) rfl (cs := #[.int .i64 aI, .slice cL aB.length bQ]) (t := 39) BX ?_; intro bJ hg w4 dO hb; have aC := am (dO); have dP := am (GH HB hg); have aJ := dP; replace HB := bl (KL HB) hb; clear hb dO hg))
 (try simp only [Act.put, List.setIfInBounds_toArray, List.set_cons_zero, List.set_cons_succ])
 go_cut [23] (fun eT wc => ∃ (kq : Nat) (cQ : Bool), eT = .bool cQ ∧ Aside0 (spec_CacheOk.j0 kq l0 cQ aI aB = some r) ∧ Aside0 (kq ≤ k) ∧ Aside0 (wc.heap[bJ]? = some (.cells #[.int .i64 aI, (.slice cL aB.length bQ)] 39 (0, 0))) ∧ Aside0 (Below w.heap.size w wc))
 case first =>
  have H := eF.out; clear eF; replace H := bm H; obtain ⟨dC, eN, H⟩ := H; replace H : (if dC = true then ((spec_l1In.f aI 0 16).bind fun cU => (if cU = true then (spec_CacheOk.j0 k l0 (decide ((aB.length : Int) > aI)) aI aB) else (spec_CacheOk.j0 k l0 true aI aB))) else (spec_CacheOk.j0 k l0 true aI aB)) = some r := H; have A5 := Aside0.mk eN; clear eN; by_cases c6 : dC = true
  ·subst c6
   have H1 := pf H; clear H; have H := H1; clear H1; replace H := bm H; obtain ⟨cU, eO, H⟩ := H; replace H : (if cU = true then (spec_CacheOk.j0 k l0 (decide ((aB.length : Int) > aI)) aI aB) else (spec_CacheOk.j0 k l0 true aI aB)) = some r := H; have A7 := Aside0.mk eO; clear eO; by_cases c8 : cU = true
   ·subst c8
    have H1 := pf H; clear H; have H := H1; clear H1; have H' := Aside0.mk H; clear H; go_wp2_with (first | ((with_reducible refine gate_callee (f := 82) rfl ?_); refine goesL_ (some 8) rfl rfl Tryz.func82 (by kernel_rfl) rfl #[.slice A0 l0.length c0] rfl MT ?_; (with_reducible refine (spec_RulesOk.calls k _ _ l0 true _ ?_ ?_ A5.out).mono ?_); exact KD dW HB; exact dX.out; rintro e w9 ⟨rfl, hb⟩; refine ⟨_, rfl, ?_⟩; replace aC := am (BB aC hb); replace HB := bl (K1 HB aJ.out) hb; (try clear hb); obtain ⟨bK, bL, bM⟩ := y2 w9 aC.out) | (go_at_call 54; (with_reducible refine (spec_l1In.calls aI 0 16 true _ A7.out).mono ?_); rintro e w' ⟨rfl, ⟨nd, rfl⟩⟩))
    go_meet
    case rel => exact ⟨_, (decide ((aB.length : Int) > aI)), (by first | rfl | (simp; done) | (simp [*]; done)), H', ⟨by first | omega | exact Nat.le_refl _⟩, ⟨KB aC⟩, ⟨K1 HB aJ.out⟩⟩
   ·replace c8 := Bool.eq_false_iff.mpr c8
    subst c8; have H1 := nf H; clear H; have H := H1; clear H1; have H' := Aside0.mk H; clear H; go_wp2_with (first | ((with_reducible refine gate_callee (f := 82) rfl ?_); refine goesL_ (some 8) rfl rfl Tryz.func82 (by kernel_rfl) rfl #[.slice A0 l0.length c0] rfl MT ?_; (with_reducible refine (spec_RulesOk.calls k _ _ l0 true _ ?_ ?_ A5.out).mono ?_); exact KD dW HB; exact dX.out; rintro e eU ⟨rfl, hb⟩; refine ⟨_, rfl, ?_⟩; replace aC := am (BB aC hb); replace HB := bl (K1 HB aJ.out) hb; (try clear hb); obtain ⟨bN, bO, bP⟩ := y2 eU aC.out) | (go_at_call 54; (with_reducible refine (spec_l1In.calls aI 0 16 false _ A7.out).mono ?_); rintro e w' ⟨rfl, ⟨nd, rfl⟩⟩))
    go_meet
    case rel => exact ⟨_, (true), (by first | rfl | (simp; done) | (simp [*]; done)), H', ⟨by first | omega | exact Nat.le_refl _⟩, ⟨KB aC⟩, ⟨K1 HB aJ.out⟩⟩
  ·replace c6 := Bool.eq_false_iff.mpr c6
   subst c6; have H1 := nf H; clear H; have H := H1; clear H1; have H' := Aside0.mk H; clear H; go_wp2_with (first | ((with_reducible refine gate_callee (f := 82) rfl ?_); refine goesL_ (some 8) rfl rfl Tryz.func82 (by kernel_rfl) rfl #[.slice A0 l0.length c0] rfl MT ?_; (with_reducible refine (spec_RulesOk.calls k _ _ l0 false _ ?_ ?_ A5.out).mono ?_); exact KD dW HB; exact dX.out; rintro e eY ⟨rfl, hb⟩; refine ⟨_, rfl, ?_⟩; replace aC := am (BB aC hb); replace HB := bl (K1 HB aJ.out) hb; (try clear hb)))
   go_meet
   case rel => exact ⟨_, (true), (by first | rfl | (simp; done) | (simp [*]; done)), H', ⟨by first | omega | exact Nat.le_refl _⟩, ⟨KB aC⟩, ⟨K1 HB aJ.out⟩⟩
 case rest =>
  clear eF; try clear c1
  try clear p2
  try clear c5
  try clear c6
  try clear c8
  try clear bK bL bM
  try clear bN bO bP
  obtain ⟨kq, cQ, rfl, HA, HJ2, aC, HB⟩ := hcut; cases kq with
  | zero => exact absurd HA.out (by simp [spec_CacheOk.j0])
  | succ kj2 =>
   have H := HA.out; clear HA; simp only [spec_CacheOk.j0] at H; by_cases dG : cQ = true
   ·subst dG
    have H1 := pf H; clear H; have H := H1; clear H1; obtain rfl := sj H; go_wp2
    go_ret
    exact ⟨ER, K1 HB aJ.out⟩
   ·replace dG := Bool.eq_false_iff.mpr dG
    subst dG; have H1 := nf H; clear H; have H := H1; clear H1; have H' := Aside0.mk H; clear H; go_wp2
    go_loopg [5] kj2 (fun kq v5 w' => ∃ (aA : Int), v5 = .int .i64 aA ∧ Aside0 (spec_CacheOk.l0 kq l0 aA aI aB = some r) ∧ Aside0 (kq ≤ kj2) ∧ Aside0 (w'.heap[bJ]? = some (.cells #[.int .i64 aI, (.slice cL aB.length bQ)] 39 (0, 0))) ∧ Aside0 (Below w.heap.size w w'))
    case atStart => exact ⟨(0), (by first | rfl | (simp; done) | (simp [*]; done)), H', ⟨Nat.le_refl _⟩, ⟨KB aC⟩, ⟨K1 HB aJ.out⟩⟩
    case round =>
     clear H'; try clear c1
     try clear p2
     try clear c5
     try clear c6
     try clear c8
     try clear dG
     try clear bK bL bM
     try clear bN bO bP
     try clear p2
     obtain ⟨aA, rfl, HA, HK2, aC, HB⟩ := hrel; cases gk with
     | zero => exact absurd HA.out (by simp [spec_CacheOk.l0])
     | succ k2 =>
      have H := HA.out; clear HA; simp only [spec_CacheOk.l0] at H; by_cases dF : aA < (aB.length : Int)
      ·rw [if_pos dF] at H
       have c15b0 : decide (aA < (aB.length : Int)) = true := decide_eq_true dF; clear dF; have dH := Aside0.mk H; clear H; obtain ⟨cR, cS, cT⟩ := y2 wr aC.out; go_upto_region 6 with (fail)
       go_cut [55] (fun eV wc => ∃ (kq : Nat) (bR : Bool), eV = .bool bR ∧ Aside0 (spec_CacheOk.j2 kq l0 aA bR aI aB = some r) ∧ Aside0 (kq ≤ k2) ∧ Aside0 (wc.heap[bJ]? = some (.cells #[.int .i64 aI, (.slice cL aB.length bQ)] 39 (0, 0))) ∧ Aside0 (Below w.heap.size w wc))
       case first =>
        have H := dH.out; clear dH; by_cases dL : 0 ≤ aA
        ·rw [if_pos dL] at H
         have c18b0 : decide (0 ≤ aA) = true := decide_eq_true dL; clear dL; (first | rw [c18b0] | (simp only [i64_w, i32_w]; rw [c18b0]) | skip)
         replace H := bm H; obtain ⟨dQ, dR, H⟩ := H; replace H : (if dQ = true then ((spec_l4First.f k2 l0 ((rd_T105 aB aA).f0.f0) ((rd_T105 aB aA).f0.f1) ((rd_T105 aB aA).f0.f2)).bind fun cV => (spec_CacheOk.j2 k2 l0 aA (((rd_T105 aB aA).f1) != cV) aI aB)) else (spec_CacheOk.j2 k2 l0 aA true aI aB)) = some r := H; have eP := Aside0.mk dR; clear dR; by_cases dM : dQ = true
         ·subst dM
          have H1 := pf H; clear H; have H := H1; clear H1; replace H := bm H; obtain ⟨cV, dS, H⟩ := H; replace H : (spec_CacheOk.j2 k2 l0 aA (((rd_T105 aB aA).f1) != cV) aI aB) = some r := H; have eW := Aside0.mk dS; clear dS; have H' := Aside0.mk H; clear H; try go_wp2
          replace aC := am (blk_drew aC.out); replace HB := am (below_drew1 HB.out); have bS : 0 ≤ (aA : Int) := OD; have bT : aA < (aB.length : Int) := OD; obtain ⟨aE, dI, aK, aL, aM, aN⟩ := at_T105 bI.out aA bS bT; have aW := aN; have aX := aM; have aY := aL; have aZ := aK; cases dI
          replace aK := CX HB.out aK; replace aL := CX HB.out aL; replace aM := CX HB.out aM; replace aN := CX HB.out aN; replace bS := eq_true bS; replace bT := eq_true bT; have cW : 0 ≤ (aA : Int) := OD; have cX : aA < (aB.length : Int) := OD; obtain ⟨dT, eG, bA, bB, bC, bD⟩ := at_T105 bI.out aA cW cX; have bU := bD; have bV := bC; have bW := bB; have bX := bA; obtain rfl : aE = dT := (by injection eG); replace bA := CX HB.out bA; replace bB := CX HB.out bB; replace bC := CX HB.out bC; replace bD := CX HB.out bD; replace cW := eq_true cW; replace cX := eq_true cX; have cY : 0 ≤ (aA : Int) := OD; have cZ : aA < (aB.length : Int) := OD; obtain ⟨dU, eH, bE, bF, bG, bH⟩ := at_T105 bI.out aA cY cZ; have bY := bH; have bZ := bG; have cA := bF; have cB := bE; obtain rfl : aE = dU := (by injection eH); replace bE := CX HB.out bE; replace bF := CX HB.out bF; replace bG := CX HB.out bG; replace bH := CX HB.out bH; replace cY := eq_true cY; replace cZ := eq_true cZ; refine start_ (n := 25) (S := fun w' => ce2 w' bJ (.int .i64 aI) (.slice (some aE) aB.length bQ) (w'.cell? (aE.add ((aA).toNat * 4)) = some (.int .i64 ((rd_T105 aB aA).f0.f0)) ∧ w'.cell? ⟨(aE.add ((aA).toNat * 4)).block, (aE.add ((aA).toNat * 4)).off + 1, none⟩ = some (.int .i64 ((rd_T105 aB aA).f0.f1)) ∧ w'.cell? ⟨(aE.add ((aA).toNat * 4)).block, (aE.add ((aA).toNat * 4)).off + 2, none⟩ = some (.int .i64 ((rd_T105 aB aA).f0.f2)) ∧ w'.cell? ⟨(aE.add ((aA).toNat * 4)).block, (aE.add ((aA).toNat * 4)).off + 3, none⟩ = some (.int .i64 ((rd_T105 aB aA).f1)) ∧ w'.cell? (aE.add ((aA).toNat * 4)) = some (.int .i64 ((rd_T105 aB aA).f0.f0)) ∧ w'.cell? ⟨(aE.add ((aA).toNat * 4)).block, (aE.add ((aA).toNat * 4)).off + 1, none⟩ = some (.int .i64 ((rd_T105 aB aA).f0.f1)) ∧ w'.cell? ⟨(aE.add ((aA).toNat * 4)).block, (aE.add ((aA).toNat * 4)).off + 2, none⟩ = some (.int .i64 ((rd_T105 aB aA).f0.f2)) ∧ w'.cell? ⟨(aE.add ((aA).toNat * 4)).block, (aE.add ((aA).toNat * 4)).off + 3, none⟩ = some (.int .i64 ((rd_T105 aB aA).f1)) ∧ w'.cell? (aE.add ((aA).toNat * 4)) = some (.int .i64 ((rd_T105 aB aA).f0.f0)) ∧ w'.cell? ⟨(aE.add ((aA).toNat * 4)).block, (aE.add ((aA).toNat * 4)).off + 1, none⟩ = some (.int .i64 ((rd_T105 aB aA).f0.f1)) ∧ w'.cell? ⟨(aE.add ((aA).toNat * 4)).block, (aE.add ((aA).toNat * 4)).off + 2, none⟩ = some (.int .i64 ((rd_T105 aB aA).f0.f2)) ∧ w'.cell? ⟨(aE.add ((aA).toNat * 4)).block, (aE.add ((aA).toNat * 4)).off + 3, none⟩ = some (.int .i64 ((rd_T105 aB aA).f1)))) (ds := []) (tf 0 25) (by kernel_rfl) rfl rfl ⟨z0 _ aC.out, z1 _ aC.out, (CY HB.out aZ), (CY HB.out aY), (CY HB.out aX), (CY HB.out aW), (CY HB.out bX), (CY HB.out bW), (CY HB.out bV), (CY HB.out bU), (CY HB.out cB), (CY HB.out cA), (CY HB.out bZ), (CY HB.out bY)⟩ (fun aH => ?_); refine with_tabW spec_CacheOk.tab6 spec_CacheOk.bits6 (fun aG cC => ?_); generalize wr.drew = eZ at aC HB aK aL aM aN bA bB bC bD bE bF bG bH aH ⊢; refine pv aG 0 31 (tf 1 24) ?_; refine pv aG 2 33 (tr [1, 1, 1, 22]) ?_; refine tk 1 (some 32) (tf 3 22) (take_ofW aG.out cC.out (by kernel_rfl)) aH ?_; refine pv aG 3 34 (tf 4 21) ?_; refine pv aG 4 35 (tf 5 20) ?_; refine tk 5 (some 36) (tf 6 19) (take_ofW aG.out cC.out (by kernel_rfl)) aH ?_; refine one_ (i := 6) (N := some 37) (tf 7 18) rfl rfl (one_of aG.out (by kernel_rfl)) (by decide) (fun K hK => ?_); refine goes_ Tryz.func83 (by kernel_rfl) rfl #[.agg #[.int .i64 ((rd_T105 aB aA).f0.f0), .int .i64 ((rd_T105 aB aA).f0.f1), .int .i64 ((rd_T105 aB aA).f0.f2)]] (by rfl) rfl rfl MT ?_; with_reducible refine (spec_l4Call.calls ((rd_T105 aB aA).f0.f0) ((rd_T105 aB aA).f0.f1) ((rd_T105 aB aA).f0.f2) true _ eP.out).mono ?_
          rintro e fA ⟨rfl, hb⟩; refine ⟨_, rfl, ?_⟩; replace aC := am (BB aC hb); replace HB := bl (K1 HB aJ.out) hb; (try clear hb)
          (try clear hb2)
          (try clear hk)
          (try clear hi)
          refine hK.out _ _ ⟨z0 _ aC.out, z1 _ aC.out, (CY HB.out aZ), (CY HB.out aY), (CY HB.out aX), (CY HB.out aW), (CY HB.out bX), (CY HB.out bW), (CY HB.out bV), (CY HB.out bU), (CY HB.out cB), (CY HB.out cA), (CY HB.out bZ), (CY HB.out bY)⟩ (fun aH => ?_); clear hK K; refine nm (some 37) ?_; refine pv aG 7 38 (tf 8 17) ?_; refine pv aG 8 39 (tf 9 16) ?_; refine pv aG 9 40 (tf 10 15) ?_; refine pv aG 11 42 (tr [10, 1, 1, 13]) ?_; refine pv aG 15 46 (tr [10, 1, 1, 3, 1, 9]) ?_; refine pv aG 16 47 (tr [10, 1, 1, 3, 2, 8]) ?_; refine pv aG 18 49 (tr [10, 1, 1, 3, 2, 1, 1, 6]) ?_; refine tk 10 (some 41) (tr [12, 3, 2, 1, 1, 6]) (take_ofW aG.out cC.out (by kernel_rfl)) aH ?_; refine pv aG 12 43 (tr [13, 2, 2, 1, 1, 6]) ?_; refine pv aG 13 44 (tr [14, 1, 2, 1, 1, 6]) ?_; refine tk 14 (some 45) (tr [17, 1, 1, 6]) (take_ofW aG.out cC.out (by kernel_rfl)) aH ?_; refine tk 17 (some 48) (tf 19 6) (take_ofW aG.out cC.out (by kernel_rfl)) aH ?_; refine pv aG 19 50 (tf 20 5) ?_; refine pv aG 20 51 (tf 21 4) ?_; refine tk 21 (some 52) (tf 22 3) (take_ofW aG.out cC.out (by kernel_rfl)) aH ?_; refine one_ (i := 22) (N := some 53) (tf 23 2) rfl rfl (one_of aG.out (by kernel_rfl)) (by decide) (fun K hK => ?_); refine goes_ Tryz.func84 (by kernel_rfl) rfl #[.slice A0 l0.length c0, .agg #[.int .i64 ((rd_T105 aB aA).f0.f0), .int .i64 ((rd_T105 aB aA).f0.f1), .int .i64 ((rd_T105 aB aA).f0.f2)]] (by rfl) rfl rfl MT ?_; with_reducible refine (spec_l4First.calls k2 _ _ l0 ((rd_T105 aB aA).f0.f0) ((rd_T105 aB aA).f0.f1) ((rd_T105 aB aA).f0.f2) cV _ ?_ ?_ eW.out).mono ?_
          exact KD dW HB; exact dX.out; rintro e fB ⟨rfl, hb⟩; refine ⟨_, rfl, ?_⟩; replace aC := am (BB aC hb); replace HB := bl (K1 HB aJ.out) hb; (try clear hb)
          (try clear hb2)
          (try clear hk)
          (try clear hi)
          refine hK.out _ _ ⟨z0 _ aC.out, z1 _ aC.out, (CY HB.out aZ), (CY HB.out aY), (CY HB.out aX), (CY HB.out aW), (CY HB.out bX), (CY HB.out bW), (CY HB.out bV), (CY HB.out bU), (CY HB.out cB), (CY HB.out cA), (CY HB.out bZ), (CY HB.out bY)⟩ (fun aH => ?_); clear hK K; refine nm (some 53) ?_; refine pv aG 23 54 (tf 24 1) ?_; refine pv aG 24 55 (tf 25 0) ?_; refine done_ (done_of aG.out (by kernel_rfl)) ?_; try go_wp2
          go_meet
          case rel => exact ⟨_, ((((rd_T105 aB aA).f1) != cV)), (by first | rfl | (simp; done) | (simp [*]; done)), H', ⟨by have := HJ2.out; have := HK2.out; first | omega | exact Nat.le_refl _⟩, ⟨KB aC⟩, ⟨K1 HB aJ.out⟩⟩
         ·replace dM := Bool.eq_false_iff.mpr dM
          subst dM; have H1 := nf H; clear H; have H := H1; clear H1; have H' := Aside0.mk H; clear H; try go_wp2
          replace aC := am (blk_drew aC.out); replace HB := am (below_drew1 HB.out); have bS : 0 ≤ (aA : Int) := OD; have bT : aA < (aB.length : Int) := OD; obtain ⟨aE, dI, aK, aL, aM, aN⟩ := at_T105 bI.out aA bS bT; have aW := aN; have aX := aM; have aY := aL; have aZ := aK; cases dI
          replace aK := CX HB.out aK; replace aL := CX HB.out aL; replace aM := CX HB.out aM; replace aN := CX HB.out aN; replace bS := eq_true bS; replace bT := eq_true bT; refine start_ (n := 25) (S := fun w' => ce2 w' bJ (.int .i64 aI) (.slice (some aE) aB.length bQ) (w'.cell? (aE.add ((aA).toNat * 4)) = some (.int .i64 ((rd_T105 aB aA).f0.f0)) ∧ w'.cell? ⟨(aE.add ((aA).toNat * 4)).block, (aE.add ((aA).toNat * 4)).off + 1, none⟩ = some (.int .i64 ((rd_T105 aB aA).f0.f1)) ∧ w'.cell? ⟨(aE.add ((aA).toNat * 4)).block, (aE.add ((aA).toNat * 4)).off + 2, none⟩ = some (.int .i64 ((rd_T105 aB aA).f0.f2)) ∧ w'.cell? ⟨(aE.add ((aA).toNat * 4)).block, (aE.add ((aA).toNat * 4)).off + 3, none⟩ = some (.int .i64 ((rd_T105 aB aA).f1)))) (ds := []) (tf 0 25) (by kernel_rfl) rfl rfl ⟨z0 _ aC.out, z1 _ aC.out, (CY HB.out aZ), (CY HB.out aY), (CY HB.out aX), (CY HB.out aW)⟩ (fun aH => ?_); refine with_tabW spec_CacheOk.tab6 spec_CacheOk.bits6 (fun aG cC => ?_); generalize wr.drew = fC at aC HB aK aL aM aN aH ⊢; refine pv aG 0 31 (tf 1 24) ?_; refine pv aG 2 33 (tr [1, 1, 1, 22]) ?_; refine tk 1 (some 32) (tf 3 22) (take_ofW aG.out cC.out (by kernel_rfl)) aH ?_; refine pv aG 3 34 (tf 4 21) ?_; refine pv aG 4 35 (tf 5 20) ?_; refine tk 5 (some 36) (tf 6 19) (take_ofW aG.out cC.out (by kernel_rfl)) aH ?_; refine one_ (i := 6) (N := some 37) (tf 7 18) rfl rfl (one_of aG.out (by kernel_rfl)) (by decide) (fun K hK => ?_); refine goes_ Tryz.func83 (by kernel_rfl) rfl #[.agg #[.int .i64 ((rd_T105 aB aA).f0.f0), .int .i64 ((rd_T105 aB aA).f0.f1), .int .i64 ((rd_T105 aB aA).f0.f2)]] (by rfl) rfl rfl MT ?_; with_reducible refine (spec_l4Call.calls ((rd_T105 aB aA).f0.f0) ((rd_T105 aB aA).f0.f1) ((rd_T105 aB aA).f0.f2) false _ eP.out).mono ?_
          rintro e fD ⟨rfl, hb⟩; refine ⟨_, rfl, ?_⟩; replace aC := am (BB aC hb); replace HB := bl (K1 HB aJ.out) hb; (try clear hb)
          (try clear hb2)
          (try clear hk)
          (try clear hi)
          refine hK.out _ _ ⟨z0 _ aC.out, z1 _ aC.out, (CY HB.out aZ), (CY HB.out aY), (CY HB.out aX), (CY HB.out aW)⟩ (fun aH => ?_); clear hK K; refine nm (some 37) ?_; refine pv aG 7 38 (tf 8 17) ?_; refine pv aG 8 39 (tf 9 16) ?_; refine pw aG 9 40 (tf 10 15) ?_; refine pw aG 10 41 (tf 11 14) ?_; refine pw aG 11 42 (tf 12 13) ?_; refine pw aG 12 43 (tf 13 12) ?_; refine pw aG 13 44 (tf 14 11) ?_; refine pw aG 14 45 (tf 15 10) ?_; refine pw aG 15 46 (tf 16 9) ?_; refine pw aG 16 47 (tf 17 8) ?_; refine pw aG 17 48 (tf 18 7) ?_; refine pw aG 18 49 (tf 19 6) ?_; refine pw aG 19 50 (tf 20 5) ?_; refine pw aG 20 51 (tf 21 4) ?_; refine pw aG 21 52 (tf 22 3) ?_; refine pw aG 22 53 (tf 23 2) ?_; refine pw aG 23 54 (tf 24 1) ?_; refine pv aG 24 55 (tf 25 0) ?_; refine done_ (done_of aG.out (by kernel_rfl)) ?_; try go_wp2
          go_meet
          case rel => exact ⟨_, (true), (by first | rfl | (simp; done) | (simp [*]; done)), H', ⟨by have := HJ2.out; have := HK2.out; first | omega | exact Nat.le_refl _⟩, ⟨KB aC⟩, ⟨K1 HB aJ.out⟩⟩
        ·rw [if_neg dL] at H
         exact absurd H (by simp)
       case rest =>
        clear dH; try clear c1
        try clear p1
        try clear q1
        try clear eX
        try clear c2
        try clear p2
        try clear c5
        try clear c6
        try clear c8
        try clear eQ
        try clear eR
        try clear eI
        try clear dG
        try clear dF
        try clear c15b0
        try clear dL
        try clear c18b0
        try clear dM
        try clear bK bL bM
        try clear bN bO bP
        try clear cR cS cT
        try clear aK
        try clear aL
        try clear aM
        try clear aN
        try clear bA
        try clear bB
        try clear bC
        try clear bD
        try clear bE
        try clear bF
        try clear bG
        try clear bH
        try clear bS
        try clear cW
        try clear cY
        try clear p2
        try clear bT
        try clear cX
        try clear cZ
        obtain ⟨kq, bR, rfl, HA, HJ15, aC, HB⟩ := hcut; cases kq with
        | zero => exact absurd HA.out (by simp [spec_CacheOk.j2])
        | succ kj15 =>
         have H := HA.out; clear HA; simp only [spec_CacheOk.j2] at H; by_cases dV : bR = true
         ·subst dV
          have H1 := pf H; clear H; have H := H1; clear H1; obtain rfl := sj H; go_wp2
          go_ret
          exact ⟨ER, K1 HB aJ.out⟩
         ·replace dV := Bool.eq_false_iff.mpr dV
          subst dV; have H1 := nf H; clear H; have H := H1; clear H1; have H' := Aside0.mk H; clear H; go_wp2
          go_loopg [6] kj15 (fun kq v6 w' => ∃ (aD : Int), v6 = .int .i64 aD ∧ Aside0 (spec_CacheOk.l1 kq l0 aA aD aI aB = some r) ∧ Aside0 (kq ≤ kj15) ∧ Aside0 (w'.heap[bJ]? = some (.cells #[.int .i64 aI, (.slice cL aB.length bQ)] 39 (0, 0))) ∧ Aside0 (Below w.heap.size w w'))
          case atStart => exact ⟨(0), (by first | rfl | (simp; done) | (simp [*]; done)), H', ⟨Nat.le_refl _⟩, ⟨KB aC⟩, ⟨K1 HB aJ.out⟩⟩
          case round =>
           clear H'; try clear c1
           try clear p1
           try clear q1
           try clear eX
           try clear c2
           try clear p2
           try clear c5
           try clear c6
           try clear c8
           try clear eQ
           try clear eR
           try clear eI
           try clear dG
           try clear dF
           try clear c15b0
           try clear dL
           try clear c18b0
           try clear dM
           try clear dV
           try clear bK bL bM
           try clear bN bO bP
           try clear cR cS cT
           try clear aK
           try clear aL
           try clear aM
           try clear aN
           try clear bA
           try clear bB
           try clear bC
           try clear bD
           try clear bE
           try clear bF
           try clear bG
           try clear bH
           try clear p1
           try clear eQ
           try clear bS
           try clear cW
           try clear cY
           try clear p2
           try clear q1
           try clear eR
           try clear bT
           try clear cX
           try clear cZ
           obtain ⟨aD, rfl, HA, HK4, aC, HB⟩ := hrel; cases gk with
           | zero => exact absurd HA.out (by simp [spec_CacheOk.l1])
           | succ k4 =>
            have H := HA.out; clear HA; simp only [spec_CacheOk.l1] at H; by_cases dN : aD < aA
            ·rw [if_pos dN] at H
             have c28b0 : decide (aD < aA) = true := decide_eq_true dN; clear dN; by_cases dY : 0 ≤ aD
             ·rw [if_pos dY] at H
              have c29b0 : decide (0 ≤ aD) = true := decide_eq_true dY; clear dY; by_cases dZ : aD < (aB.length : Int)
              ·rw [if_pos dZ] at H
               have c30b0 : decide (aD < (aB.length : Int)) = true := decide_eq_true dZ; clear dZ; by_cases eA : 0 ≤ aA
               ·rw [if_pos eA] at H
                have c31b0 : decide (0 ≤ aA) = true := decide_eq_true eA; clear eA; by_cases eB : aA < (aB.length : Int)
                ·rw [if_pos eB] at H
                 have c32b0 : decide (aA < (aB.length : Int)) = true := decide_eq_true eB; clear eB; by_cases dA : (((rd_T105 aB aD).f0.f0) == ((rd_T105 aB aA).f0.f0) && (((rd_T105 aB aD).f0.f1) == ((rd_T105 aB aA).f0.f1) && (((rd_T105 aB aD).f0.f2) == ((rd_T105 aB aA).f0.f2)))) = true
                 ·rw [if_pos dA] at H
                  have c33b0 : (((rd_T105 aB aD).f0.f0) == ((rd_T105 aB aA).f0.f0) && (((rd_T105 aB aD).f0.f1) == ((rd_T105 aB aA).f0.f1) && (((rd_T105 aB aD).f0.f2) == ((rd_T105 aB aA).f0.f2)))) = true := dA; (try (have c33b1 : decide (((rd_T105 aB aD).f0.f0) = ((rd_T105 aB aA).f0.f0) && (((rd_T105 aB aD).f0.f1) == ((rd_T105 aB aA).f0.f1) && (((rd_T105 aB aD).f0.f2) == ((rd_T105 aB aA).f0.f2)))) = true := by simpa using dA))
                  (try (have c33b2 : (((rd_T105 aB aD).f0.f0) == ((rd_T105 aB aA).f0.f0) && (((rd_T105 aB aD).f0.f1) == ((rd_T105 aB aA).f0.f1) && (((rd_T105 aB aD).f0.f2) == ((rd_T105 aB aA).f0.f2)))) = true := by simpa using dA))
                  clear dA; obtain rfl := sj H; try go_wp2
                  replace aC := am (blk_drew aC.out); replace HB := am (below_drew1 HB.out); have cM : 0 ≤ (aD : Int) := OD; have cN : aD < (aB.length : Int) := OD; obtain ⟨aF, dJ, aO, aP, aQ, aR⟩ := at_T105 bI.out aD cM cN; have cD := aR; have cE := aQ; have cF := aP; have cG := aO; cases dJ
                  replace aO := CX HB.out aO; replace aP := CX HB.out aP; replace aQ := CX HB.out aQ; replace aR := CX HB.out aR; replace cM := eq_true cM; replace cN := eq_true cN; have cO : 0 ≤ (aA : Int) := OD; have cP : aA < (aB.length : Int) := OD; obtain ⟨dB, dK, aS, aT, aU, aV⟩ := at_T105 bI.out aA cO cP; have cH := aV; have cI := aU; have cJ := aT; have cK := aS; obtain rfl : aF = dB := (by injection dK); replace aS := CX HB.out aS; replace aT := CX HB.out aT; replace aU := CX HB.out aU; replace aV := CX HB.out aV; replace cO := eq_true cO; replace cP := eq_true cP; refine start_ (n := 13) (S := fun w' => ce2 w' bJ (.int .i64 aI) (.slice (some aF) aB.length bQ) (w'.cell? (aF.add ((aD).toNat * 4)) = some (.int .i64 ((rd_T105 aB aD).f0.f0)) ∧ w'.cell? ⟨(aF.add ((aD).toNat * 4)).block, (aF.add ((aD).toNat * 4)).off + 1, none⟩ = some (.int .i64 ((rd_T105 aB aD).f0.f1)) ∧ w'.cell? ⟨(aF.add ((aD).toNat * 4)).block, (aF.add ((aD).toNat * 4)).off + 2, none⟩ = some (.int .i64 ((rd_T105 aB aD).f0.f2)) ∧ w'.cell? ⟨(aF.add ((aD).toNat * 4)).block, (aF.add ((aD).toNat * 4)).off + 3, none⟩ = some (.int .i64 ((rd_T105 aB aD).f1)) ∧ w'.cell? (aF.add ((aA).toNat * 4)) = some (.int .i64 ((rd_T105 aB aA).f0.f0)) ∧ w'.cell? ⟨(aF.add ((aA).toNat * 4)).block, (aF.add ((aA).toNat * 4)).off + 1, none⟩ = some (.int .i64 ((rd_T105 aB aA).f0.f1)) ∧ w'.cell? ⟨(aF.add ((aA).toNat * 4)).block, (aF.add ((aA).toNat * 4)).off + 2, none⟩ = some (.int .i64 ((rd_T105 aB aA).f0.f2)) ∧ w'.cell? ⟨(aF.add ((aA).toNat * 4)).block, (aF.add ((aA).toNat * 4)).off + 3, none⟩ = some (.int .i64 ((rd_T105 aB aA).f1)))) (ds := []) (tf 0 13) (by kernel_rfl) rfl rfl ⟨z0 _ aC.out, z1 _ aC.out, (CY HB.out cG), (CY HB.out cF), (CY HB.out cE), (CY HB.out cD), (CY HB.out cK), (CY HB.out cJ), (CY HB.out cI), (CY HB.out cH)⟩ (fun aH => ?_); refine with_tabW spec_CacheOk.tab11 spec_CacheOk.bits11 (fun aG cC => ?_); generalize wr.drew = fE at aC HB aO aP aQ aR aS aT aU aV aH ⊢; refine pv aG 0 61 (tf 1 12) ?_; refine pv aG 2 63 (tr [1, 1, 1, 10]) ?_; refine pv aG 6 67 (tr [1, 1, 1, 3, 1, 6]) ?_; refine pv aG 8 69 (tr [1, 1, 1, 3, 1, 1, 1, 4]) ?_; refine tk 1 (some 62) (tr [3, 3, 1, 1, 1, 4]) (take_ofW aG.out cC.out (by kernel_rfl)) aH ?_; refine pv aG 3 64 (tr [4, 2, 1, 1, 1, 4]) ?_; refine pv aG 4 65 (tr [5, 1, 1, 1, 1, 4]) ?_; refine tk 5 (some 66) (tr [7, 1, 1, 4]) (take_ofW aG.out cC.out (by kernel_rfl)) aH ?_; refine tk 7 (some 68) (tf 9 4) (take_ofW aG.out cC.out (by kernel_rfl)) aH ?_; refine pv aG 9 70 (tf 10 3) ?_; refine pv aG 10 71 (tf 11 2) ?_; refine tk 11 (some 72) (tf 12 1) (take_ofW aG.out cC.out (by kernel_rfl)) aH ?_; refine pv aG 12 73 (tf 13 0) ?_; refine done_ (done_of aG.out (by kernel_rfl)) ?_; try go_wp2
                  go_ret
                  exact ⟨ER, K1 HB aJ.out⟩
                 ·rw [if_neg dA] at H
                  have c33b0 : (((rd_T105 aB aD).f0.f0) == ((rd_T105 aB aA).f0.f0) && (((rd_T105 aB aD).f0.f1) == ((rd_T105 aB aA).f0.f1) && (((rd_T105 aB aD).f0.f2) == ((rd_T105 aB aA).f0.f2)))) = false := by simpa using dA
                  (try (have c33b1 : decide (((rd_T105 aB aD).f0.f0) = ((rd_T105 aB aA).f0.f0) && (((rd_T105 aB aD).f0.f1) == ((rd_T105 aB aA).f0.f1) && (((rd_T105 aB aD).f0.f2) == ((rd_T105 aB aA).f0.f2)))) = false := by simpa using dA))
                  (try (have c33b2 : (((rd_T105 aB aD).f0.f0) == ((rd_T105 aB aA).f0.f0) && (((rd_T105 aB aD).f0.f1) == ((rd_T105 aB aA).f0.f1) && (((rd_T105 aB aD).f0.f2) == ((rd_T105 aB aA).f0.f2)))) = false := by simpa using dA))
                  (try (have c33b3 : ¬ (((rd_T105 aB aD).f0.f0) = ((rd_T105 aB aA).f0.f0) && (((rd_T105 aB aD).f0.f1) == ((rd_T105 aB aA).f0.f1) && (((rd_T105 aB aD).f0.f2) == ((rd_T105 aB aA).f0.f2)))) := by simpa using dA))
                  clear dA; have H' := Aside0.mk H; clear H; try go_wp2
                  replace aC := am (blk_drew aC.out); replace HB := am (below_drew1 HB.out); have cM : 0 ≤ (aD : Int) := OD; have cN : aD < (aB.length : Int) := OD; obtain ⟨aF, dJ, aO, aP, aQ, aR⟩ := at_T105 bI.out aD cM cN; have cD := aR; have cE := aQ; have cF := aP; have cG := aO; cases dJ
                  replace aO := CX HB.out aO; replace aP := CX HB.out aP; replace aQ := CX HB.out aQ; replace aR := CX HB.out aR; replace cM := eq_true cM; replace cN := eq_true cN; have cO : 0 ≤ (aA : Int) := OD; have cP : aA < (aB.length : Int) := OD; obtain ⟨dB, dK, aS, aT, aU, aV⟩ := at_T105 bI.out aA cO cP; have cH := aV; have cI := aU; have cJ := aT; have cK := aS; obtain rfl : aF = dB := (by injection dK); replace aS := CX HB.out aS; replace aT := CX HB.out aT; replace aU := CX HB.out aU; replace aV := CX HB.out aV; replace cO := eq_true cO; replace cP := eq_true cP; refine start_ (n := 13) (S := fun w' => ce2 w' bJ (.int .i64 aI) (.slice (some aF) aB.length bQ) (w'.cell? (aF.add ((aD).toNat * 4)) = some (.int .i64 ((rd_T105 aB aD).f0.f0)) ∧ w'.cell? ⟨(aF.add ((aD).toNat * 4)).block, (aF.add ((aD).toNat * 4)).off + 1, none⟩ = some (.int .i64 ((rd_T105 aB aD).f0.f1)) ∧ w'.cell? ⟨(aF.add ((aD).toNat * 4)).block, (aF.add ((aD).toNat * 4)).off + 2, none⟩ = some (.int .i64 ((rd_T105 aB aD).f0.f2)) ∧ w'.cell? ⟨(aF.add ((aD).toNat * 4)).block, (aF.add ((aD).toNat * 4)).off + 3, none⟩ = some (.int .i64 ((rd_T105 aB aD).f1)) ∧ w'.cell? (aF.add ((aA).toNat * 4)) = some (.int .i64 ((rd_T105 aB aA).f0.f0)) ∧ w'.cell? ⟨(aF.add ((aA).toNat * 4)).block, (aF.add ((aA).toNat * 4)).off + 1, none⟩ = some (.int .i64 ((rd_T105 aB aA).f0.f1)) ∧ w'.cell? ⟨(aF.add ((aA).toNat * 4)).block, (aF.add ((aA).toNat * 4)).off + 2, none⟩ = some (.int .i64 ((rd_T105 aB aA).f0.f2)) ∧ w'.cell? ⟨(aF.add ((aA).toNat * 4)).block, (aF.add ((aA).toNat * 4)).off + 3, none⟩ = some (.int .i64 ((rd_T105 aB aA).f1)))) (ds := []) (tf 0 13) (by kernel_rfl) rfl rfl ⟨z0 _ aC.out, z1 _ aC.out, (CY HB.out cG), (CY HB.out cF), (CY HB.out cE), (CY HB.out cD), (CY HB.out cK), (CY HB.out cJ), (CY HB.out cI), (CY HB.out cH)⟩ (fun aH => ?_); refine with_tabW spec_CacheOk.tab11 spec_CacheOk.bits11 (fun aG cC => ?_); generalize wr.drew = fF at aC HB aO aP aQ aR aS aT aU aV aH ⊢; refine pv aG 0 61 (tf 1 12) ?_; refine pv aG 2 63 (tr [1, 1, 1, 10]) ?_; refine pv aG 6 67 (tr [1, 1, 1, 3, 1, 6]) ?_; refine pv aG 8 69 (tr [1, 1, 1, 3, 1, 1, 1, 4]) ?_; refine tk 1 (some 62) (tr [3, 3, 1, 1, 1, 4]) (take_ofW aG.out cC.out (by kernel_rfl)) aH ?_; refine pv aG 3 64 (tr [4, 2, 1, 1, 1, 4]) ?_; refine pv aG 4 65 (tr [5, 1, 1, 1, 1, 4]) ?_; refine tk 5 (some 66) (tr [7, 1, 1, 4]) (take_ofW aG.out cC.out (by kernel_rfl)) aH ?_; refine tk 7 (some 68) (tf 9 4) (take_ofW aG.out cC.out (by kernel_rfl)) aH ?_; refine pv aG 9 70 (tf 10 3) ?_; refine pv aG 10 71 (tf 11 2) ?_; refine tk 11 (some 72) (tf 12 1) (take_ofW aG.out cC.out (by kernel_rfl)) aH ?_; refine pv aG 12 73 (tf 13 0) ?_; refine done_ (done_of aG.out (by kernel_rfl)) ?_; try go_wp2
                  go_roundg k4
                  case measure => have := HJ2.out; have := HK2.out; have := HJ15.out; have := HK4.out; omega
                  case rel => exact ⟨(wrap64 (aD + 1)), (by first | rfl | (simp; done) | (simp [*]; done)), H', ⟨by have := HJ2.out; have := HK2.out; have := HJ15.out; have := HK4.out; omega⟩, ⟨KB aC⟩, ⟨K1 HB aJ.out⟩⟩
                ·rw [if_neg eB] at H
                 exact absurd H (by simp)
               ·rw [if_neg eA] at H
                exact absurd H (by simp)
              ·rw [if_neg dZ] at H
               exact absurd H (by simp)
             ·rw [if_neg dY] at H
              exact absurd H (by simp)
            ·rw [if_neg dN] at H
             have c28b0 : decide (aD < aA) = false := decide_eq_false dN; clear dN; have H' := Aside0.mk H; clear H; go_wp2
             go_roundg k4
             case measure => have := HJ2.out; have := HK2.out; have := HJ15.out; have := HK4.out; omega
             case rel => exact ⟨(wrap64 (aA + 1)), (by first | rfl | (simp; done) | (simp [*]; done)), H', ⟨by have := HJ2.out; have := HK2.out; have := HJ15.out; have := HK4.out; omega⟩, ⟨KB aC⟩, ⟨K1 HB aJ.out⟩⟩
      ·rw [if_neg dF] at H
       have c15b0 : decide (aA < (aB.length : Int)) = false := decide_eq_false dF; clear dF; obtain rfl := sj H; have ⟨_, _, _⟩ := y2 wr aC.out; go_wp2
       go_ret
       exact ⟨ER, K1 HB aJ.out⟩
end Go.Proofs.YtgoblfacfjnanaaGreat.PAll
end
section
namespace Go.Proofs.YtgoblfacfjnanaaGreat.PAll
open Go.RowKit Go.Proofs.YtgoblfacfjnanaaGreatW.PrintWords Go.Proofs.YtgoblfacfjnanaaGreatW.PrintLast Go.Proofs.YtgoblfacfjnanaaGreatW.PrintMore
attribute [local go_sem] max2_int min2_int max_two min_two max_three min_three max_four min_four
set_option linter.unusedVariables false
set_option linter.unusedSimpArgs false
def spec_l8Keys.f (a0 : ByteArray) (a1 : ByteArray) : Option (Bool) := if (a0.size : Int) = 16 then ((spec_l1In.f (a1.size : Int) 1 64).bind fun t101 => (some t101)) else (some false)
theorem spec_l8Keys.calls (a0 : ByteArray) (a1 : ByteArray) (r : Bool) (w : World) (h : spec_l8Keys.f a0 a1 = some r) :
  Calls Tryz.prog 85 #[.string a0, .string a1] w fun e w' => e = .returned (.bool r) ∧ Drawn0 w w' := by
 have H : (if (a0.size : Int) = 16 then ((spec_l1In.f (a1.size : Int) 1 64).bind fun aA => (some aA)) else (some false)) = some r := h; clear h; by_cases c3 : (a0.size : Int) = 16
 ·rw [if_pos c3] at H
  have c3b0 : ((a0.size : Int) == 16) = true := beq_iff_eq.mpr c3; have c3b1 : ((a0.size : Int) != 16) = false := bne_eq_false_iff_eq.mpr c3; clear c3; replace H := bm H; obtain ⟨aA, aB, H⟩ := H; replace H : (some aA) = some r := H; have A4 := Aside0.mk aB; clear aB; obtain rfl := sj H; go_enter Tryz.func85, Tryz.ntmps85
  go_wp2_with (first | (go_at_call 54; (with_reducible refine (spec_l1In.calls (a1.size : Int) 1 64 aA _ A4.out).mono ?_); rintro e w' ⟨rfl, ⟨nd, rfl⟩⟩))
  go_ret
  exact ⟨by first | rfl | (simp; done) | (simp [*]; done), by repeat (first | exact Drawn0.refl _ | apply Drawn0.step)⟩
 ·rw [if_neg c3] at H
  have c3b0 : ((a0.size : Int) == 16) = false := beq_eq_false_iff_ne.mpr c3; have c3b1 : ((a0.size : Int) != 16) = true := bne_iff_ne.mpr c3; obtain rfl := sj H; go_enter Tryz.func85, Tryz.ntmps85
  go_wp2
  go_ret
  exact ⟨by first | rfl | (simp; done) | (simp [*]; done), by repeat (first | exact Drawn0.refl _ | apply Drawn0.step)⟩
def spec_WindowOk.l0 : Nat → Int → Int → Int → List Int → Option (Bool)
 | 0, _, _, _, _ => none
 | k + 1, x3, x4, x102000, x102001 => if x4 < x3 then (if 0 ≤ x4 then (if x4 < (x102001.length : Int) then (if (rd x102001 x4) ≤ (wrap64 (x102000 - 16)) then (some false) else (if (rd x102001 x4) < 1 then (some false) else (if x4 > 0 then (if 0 ≤ (wrap64 (x4 - 1)) then (if (wrap64 (x4 - 1)) < (x102001.length : Int) then (if (rd x102001 (wrap64 (x4 - 1))) ≥ (rd x102001 x4) then (some false) else (spec_WindowOk.l0 k x3 (wrap64 (x4 + 1)) x102000 x102001)) else (none)) else (none)) else (spec_WindowOk.l0 k x3 (wrap64 (x4 + 1)) x102000 x102001)))) else (none)) else (none)) else (if 0 ≤ (wrap64 (x3 - 1)) then (if (wrap64 (x3 - 1)) < (x102001.length : Int) then (if (rd x102001 (wrap64 (x3 - 1))) = x102000 then (some (decide (x102000 ≤ 1000000))) else (some false)) else (none)) else (none))
def spec_WindowOk.f (k : Nat) (a0_0 : Int) (l0_1 : List Int) : Option (Bool) := if (l0_1.length : Int) = 0 then (some (a0_0 == 0)) else (spec_WindowOk.l0 k (l0_1.length : Int) 0 a0_0 l0_1)
theorem spec_WindowOk.calls (k : Nat) (aF : Int) (aU : Option Addr) (aV : Nat) (aA : List Int) (r : Bool) (w : World) (bM : Kd.C (Kd.int .i64) w aU aA.length aA) (bN : aA.length ≤ aV) (h : spec_WindowOk.f k aF aA = some r) :
  Calls Tryz.prog 86 #[.agg #[.int .i64 aF, .slice aU aA.length aV]] w fun e w' => e = .returned (.bool r) ∧ Below w.heap.size w w' := by
 have cX := Tryz.underlying46; have aG := Aside0.mk bM; have cW := Aside0.mk bN; clear bM bN; have HB := am (Below.refl w.heap.size w); have H : (if (aA.length : Int) = 0 then (some (aF == 0)) else (spec_WindowOk.l0 k (aA.length : Int) 0 aF aA)) = some r := h; clear h; by_cases c2 : (aA.length : Int) = 0
 ·rw [if_pos c2] at H
  have c2b0 : ((aA.length : Int) == 0) = true := beq_iff_eq.mpr c2; have c2b1 : ((aA.length : Int) != 0) = false := bne_eq_false_iff_eq.mpr c2; clear c2; obtain rfl := sj H; go_enter Tryz.func86, Tryz.ntmps86
  go_wp2_with (first | ((with_reducible refine gate_dst (N := 1) rfl ?_); refine box_event rfl (N := 1) rfl (cs := #[.int .i64 aF, .slice aU aA.length aV]) (t := 46) BX ?_; intro aT hg w3 aL hb; have aD := am (aL); have aM := am (GH HB hg); have aH := aM; replace HB := bl (KL HB) hb; clear hb aL hg; obtain ⟨aX, aY, aZ⟩ := y2 w3 aD.out))
  repeat (go_quiet (first | ((with_reducible refine gate_dst (N := 1) rfl ?_); refine box_event rfl (N := 1) rfl (cs := #[.int .i64 aF, .slice aU aA.length aV]) (t := 46) BX ?_; intro aT hg w3 aL hb; have aD := am (aL); have aM := am (GH HB hg); have aH := aM; replace HB := bl (KL HB) hb; clear hb aL hg; obtain ⟨aX, aY, aZ⟩ := y2 w3 aD.out)); try go_wp2_with (first | ((with_reducible refine gate_dst (N := 1) rfl ?_); refine box_event rfl (N := 1) rfl (cs := #[.int .i64 aF, .slice aU aA.length aV]) (t := 46) BX ?_; intro aT hg w3 aL hb; have aD := am (aL); have aM := am (GH HB hg); have aH := aM; replace HB := bl (KL HB) hb; clear hb aL hg; obtain ⟨aX, aY, aZ⟩ := y2 w3 aD.out)))
  go_ret
  exact ⟨ER, K1 HB aH.out⟩
 ·rw [if_neg c2] at H
  have c2b0 : ((aA.length : Int) == 0) = false := beq_eq_false_iff_ne.mpr c2; have c2b1 : ((aA.length : Int) != 0) = true := bne_iff_ne.mpr c2; have c2b2 : ¬ (aA = []) := fun h_ => c2 (by rw [h_]; rfl)
  have H' := Aside0.mk H; clear H; go_enter Tryz.func86, Tryz.ntmps86
  go_wp2_with (first | ((with_reducible refine gate_dst (N := 1) rfl ?_); refine box_event rfl (N := 1) rfl (cs := #[.int .i64 aF, .slice aU aA.length aV]) (t := 46) BX ?_; intro aT hg w5 aL hb; have aD := am (aL); have aM := am (GH HB hg); have aH := aM; replace HB := bl (KL HB) hb; clear hb aL hg; obtain ⟨bA, bB, bC⟩ := y2 w5 aD.out))
  repeat (go_quiet (first | ((with_reducible refine gate_dst (N := 1) rfl ?_); refine box_event rfl (N := 1) rfl (cs := #[.int .i64 aF, .slice aU aA.length aV]) (t := 46) BX ?_; intro aT hg w5 aL hb; have aD := am (aL); have aM := am (GH HB hg); have aH := aM; replace HB := bl (KL HB) hb; clear hb aL hg; obtain ⟨bA, bB, bC⟩ := y2 w5 aD.out)); try go_wp2_with (first | ((with_reducible refine gate_dst (N := 1) rfl ?_); refine box_event rfl (N := 1) rfl (cs := #[.int .i64 aF, .slice aU aA.length aV]) (t := 46) BX ?_; intro aT hg w5 aL hb; have aD := am (aL); have aM := am (GH HB hg); have aH := aM; replace HB := bl (KL HB) hb; clear hb aL hg; obtain ⟨bA, bB, bC⟩ := y2 w5 aD.out)))
  go_loopg [4] k (fun kq v4 w' => ∃ (aB : Int), v4 = .int .i64 aB ∧ Aside0 (spec_WindowOk.l0 kq (aA.length : Int) aB aF aA = some r) ∧ Aside0 (kq ≤ k) ∧ Aside0 (w'.heap[aT]? = some (.cells #[.int .i64 aF, (.slice aU aA.length aV)] 46 (0, 0))) ∧ Aside0 (Below w.heap.size w w'))
  case atStart => exact ⟨(0), (by first | rfl | (simp; done) | (simp [*]; done)), H', ⟨Nat.le_refl _⟩, ⟨KB aD⟩, ⟨K1 HB aH.out⟩⟩
  case round =>
   clear H'; try clear c2
   try clear c2b0
   try clear c2b1
   try clear c2b2
   try clear p2
   try clear aX aY aZ
   try clear bA bB bC
   obtain ⟨aB, rfl, HA, HK1, aD, HB⟩ := hrel; cases gk with
   | zero => exact absurd HA.out (by simp [spec_WindowOk.l0])
   | succ k1 =>
    have H := HA.out; clear HA; simp only [spec_WindowOk.l0] at H; by_cases c7 : aB < (aA.length : Int)
    ·rw [if_pos c7] at H
     have c7b0 : decide (aB < (aA.length : Int)) = true := decide_eq_true c7; clear c7; by_cases c8 : 0 ≤ aB
     ·rw [if_pos c8] at H
      have c8b0 : decide (0 ≤ aB) = true := decide_eq_true c8; clear c8; by_cases c9 : aB < (aA.length : Int)
      ·rw [if_pos c9] at H
       have c9b0 : decide (aB < (aA.length : Int)) = true := decide_eq_true c9; clear c9; by_cases bS : (rd aA aB) ≤ (wrap64 (aF - 16))
       ·rw [if_pos bS] at H
        have c10b0 : decide ((rd aA aB) ≤ (wrap64 (aF - 16))) = true := decide_eq_true bS; clear bS; obtain rfl := sj H; have ⟨_, _, _⟩ := y2 wr aD.out; have aI : 0 ≤ (aB : Int) := OD; have aJ : aB < (aA.length : Int) := OD; obtain ⟨aK, aW, aC⟩ := Kd.at_int aG.out aB aI aJ; cases aW
        replace aC := CX HB.out aC; replace aI := eq_true aI; replace aJ := eq_true aJ; go_wp2
        repeat (go_quiet (fail); try go_wp2)
        go_ret
        exact ⟨ER, K1 HB aH.out⟩
       ·rw [if_neg bS] at H
        have c10b0 : decide ((rd aA aB) ≤ (wrap64 (aF - 16))) = false := decide_eq_false bS; clear bS; by_cases bT : (rd aA aB) < 1
        ·rw [if_pos bT] at H
         have c12b0 : decide ((rd aA aB) < 1) = true := decide_eq_true bT; clear bT; obtain rfl := sj H; have ⟨_, _, _⟩ := y2 wr aD.out; have aI : 0 ≤ (aB : Int) := OD; have aJ : aB < (aA.length : Int) := OD; obtain ⟨aK, aW, aC⟩ := Kd.at_int aG.out aB aI aJ; cases aW
         replace aC := CX HB.out aC; replace aI := eq_true aI; replace aJ := eq_true aJ; have aN : 0 ≤ (aB : Int) := OD; have aO : aB < (aA.length : Int) := OD; obtain ⟨aS, bD, aE⟩ := Kd.at_int aG.out aB aN aO; obtain rfl : aK = aS := (by injection bD); replace aE := CX HB.out aE; replace aN := eq_true aN; replace aO := eq_true aO; go_wp2
         repeat (go_quiet (fail); try go_wp2)
         go_ret
         exact ⟨ER, K1 HB aH.out⟩
        ·rw [if_neg bT] at H
         have c12b0 : decide ((rd aA aB) < 1) = false := decide_eq_false bT; clear bT; by_cases bU : aB > 0
         ·rw [if_pos bU] at H
          have c14b0 : decide (0 < aB) = true := decide_eq_true bU; clear bU; obtain ⟨ji15, hji15⟩ : ∃ j_ : Int, (wrap64 (aB - 1)) = j_ := ⟨_, rfl⟩; replace H : (if 0 ≤ (ji15) then (if (ji15) < (aA.length : Int) then (if (rd aA (ji15)) ≥ (rd aA aB) then (some false) else (spec_WindowOk.l0 k1 (aA.length : Int) (wrap64 (aB + 1)) aF aA)) else (none)) else (none)) = some r := by first | (rw [hji15] at H; exact H) | (simp only [hji15] at H ⊢; exact H)
          have hji15w : (IntKind.i64.wrap (aB - 1)) = ji15 := (i64_w _).trans hji15; by_cases cD : 0 ≤ (ji15)
          ·rw [if_pos cD] at H
           have c16b0 : decide (0 ≤ (ji15)) = true := decide_eq_true cD; clear cD; by_cases cE : (ji15) < (aA.length : Int)
           ·rw [if_pos cE] at H
            have c17b0 : decide ((ji15) < (aA.length : Int)) = true := decide_eq_true cE; clear cE; by_cases bV : (rd aA (ji15)) ≥ (rd aA aB)
            ·rw [if_pos bV] at H
             have c18b0 : decide ((rd aA aB) ≤ (rd aA (ji15))) = true := decide_eq_true bV; clear bV; obtain rfl := sj H; have ⟨_, _, _⟩ := y2 wr aD.out; have aI : 0 ≤ (aB : Int) := OD; have aJ : aB < (aA.length : Int) := OD; obtain ⟨aK, aW, aC⟩ := Kd.at_int aG.out aB aI aJ; cases aW
             replace aC := CX HB.out aC; replace aI := eq_true aI; replace aJ := eq_true aJ; have aN : 0 ≤ (aB : Int) := OD; have aO : aB < (aA.length : Int) := OD; obtain ⟨aS, bD, aE⟩ := Kd.at_int aG.out aB aN aO; obtain rfl : aK = aS := (by injection bD); replace aE := CX HB.out aE; replace aN := eq_true aN; replace aO := eq_true aO; have bE : 0 ≤ ((ji15) : Int) := OD; have bF : (ji15) < (aA.length : Int) := OD; obtain ⟨bK, bO, aP⟩ := Kd.at_int aG.out (ji15) bE bF; obtain rfl : aK = bK := (by injection bO); replace aP := CX HB.out aP; replace bE := eq_true bE; replace bF := eq_true bF; have bG : 0 ≤ (aB : Int) := OD; have bH : aB < (aA.length : Int) := OD; obtain ⟨bL, bP, aQ⟩ := Kd.at_int aG.out aB bG bH; obtain rfl : aK = bL := (by injection bP); replace aQ := CX HB.out aQ; replace bG := eq_true bG; replace bH := eq_true bH; go_wp2
             repeat (go_quiet (fail); try go_wp2)
             go_ret
             exact ⟨by first | rfl | (simp [errW_none, errW_some] <;> rfl) | (simp only [← hji15]; first | rfl | (simp [errW_none, errW_some] <;> rfl)) | (simp [*, errW_none, errW_some] <;> rfl), K1 HB aH.out⟩
            ·rw [if_neg bV] at H
             have c18b0 : decide ((rd aA aB) ≤ (rd aA (ji15))) = false := decide_eq_false bV; clear bV; have H' := Aside0.mk H; clear H; have ⟨_, _, _⟩ := y2 wr aD.out; have aI : 0 ≤ (aB : Int) := OD; have aJ : aB < (aA.length : Int) := OD; obtain ⟨aK, aW, aC⟩ := Kd.at_int aG.out aB aI aJ; cases aW
             replace aC := CX HB.out aC; replace aI := eq_true aI; replace aJ := eq_true aJ; have aN : 0 ≤ (aB : Int) := OD; have aO : aB < (aA.length : Int) := OD; obtain ⟨aS, bD, aE⟩ := Kd.at_int aG.out aB aN aO; obtain rfl : aK = aS := (by injection bD); replace aE := CX HB.out aE; replace aN := eq_true aN; replace aO := eq_true aO; have bE : 0 ≤ ((ji15) : Int) := OD; have bF : (ji15) < (aA.length : Int) := OD; obtain ⟨bK, bO, aP⟩ := Kd.at_int aG.out (ji15) bE bF; obtain rfl : aK = bK := (by injection bO); replace aP := CX HB.out aP; replace bE := eq_true bE; replace bF := eq_true bF; have bG : 0 ≤ (aB : Int) := OD; have bH : aB < (aA.length : Int) := OD; obtain ⟨bL, bP, aQ⟩ := Kd.at_int aG.out aB bG bH; obtain rfl : aK = bL := (by injection bP); replace aQ := CX HB.out aQ; replace bG := eq_true bG; replace bH := eq_true bH; go_wp2
             repeat (go_quiet (fail); try go_wp2)
             go_roundg k1
             case measure => have := HK1.out; omega
             case rel => exact ⟨(wrap64 (aB + 1)), (by first | rfl | (simp; done) | (simp [*]; done)), H', ⟨by have := HK1.out; omega⟩, ⟨KB aD⟩, ⟨K1 HB aH.out⟩⟩
           ·rw [if_neg cE] at H
            exact absurd H (by simp)
          ·rw [if_neg cD] at H
           exact absurd H (by simp)
         ·rw [if_neg bU] at H
          have c14b0 : decide (0 < aB) = false := decide_eq_false bU; clear bU; have H' := Aside0.mk H; clear H; have ⟨_, _, _⟩ := y2 wr aD.out; have aI : 0 ≤ (aB : Int) := OD; have aJ : aB < (aA.length : Int) := OD; obtain ⟨aK, aW, aC⟩ := Kd.at_int aG.out aB aI aJ; cases aW
          replace aC := CX HB.out aC; replace aI := eq_true aI; replace aJ := eq_true aJ; have aN : 0 ≤ (aB : Int) := OD; have aO : aB < (aA.length : Int) := OD; obtain ⟨aS, bD, aE⟩ := Kd.at_int aG.out aB aN aO; obtain rfl : aK = aS := (by injection bD); replace aE := CX HB.out aE; replace aN := eq_true aN; replace aO := eq_true aO; go_wp2
          repeat (go_quiet (fail); try go_wp2)
          go_roundg k1
          case measure => have := HK1.out; omega
          case rel => exact ⟨(wrap64 (aB + 1)), (by first | rfl | (simp; done) | (simp [*]; done)), H', ⟨by have := HK1.out; omega⟩, ⟨KB aD⟩, ⟨K1 HB aH.out⟩⟩
      ·rw [if_neg c9] at H
       exact absurd H (by simp)
     ·rw [if_neg c8] at H
      exact absurd H (by simp)
    ·rw [if_neg c7] at H
     have c7b0 : decide (aB < (aA.length : Int)) = false := decide_eq_false c7; clear c7; obtain ⟨ji22, hji22⟩ : ∃ j_ : Int, (wrap64 ((aA.length : Int) - 1)) = j_ := ⟨_, rfl⟩; replace H : (if 0 ≤ (ji22) then (if (ji22) < (aA.length : Int) then (if (rd aA (ji22)) = aF then (some (decide (aF ≤ 1000000))) else (some false)) else (none)) else (none)) = some r := by first | (rw [hji22] at H; exact H) | (simp only [hji22] at H ⊢; exact H)
     have hji22w : (IntKind.i64.wrap ((aA.length : Int) - 1)) = ji22 := (i64_w _).trans hji22; by_cases cO : 0 ≤ (ji22)
     ·rw [if_pos cO] at H
      have c23b0 : decide (0 ≤ (ji22)) = true := decide_eq_true cO; clear cO; by_cases cP : (ji22) < (aA.length : Int)
      ·rw [if_pos cP] at H
       have c24b0 : decide ((ji22) < (aA.length : Int)) = true := decide_eq_true cP; clear cP; by_cases bQ : (rd aA (ji22)) = aF
       ·rw [if_pos bQ] at H
        have c25b0 : ((rd aA (ji22)) == aF) = true := beq_iff_eq.mpr bQ; have c25b1 : ((rd aA (ji22)) != aF) = false := bne_eq_false_iff_eq.mpr bQ; clear bQ; obtain rfl := sj H; have ⟨_, _, _⟩ := y2 wr aD.out; have bI : 0 ≤ ((ji22) : Int) := OD; have bJ : (ji22) < (aA.length : Int) := OD; obtain ⟨bW, bR, aR⟩ := Kd.at_int aG.out (ji22) bI bJ; cases bR
        replace aR := CX HB.out aR; replace bI := eq_true bI; replace bJ := eq_true bJ; go_wp2
        repeat (go_quiet (fail); try go_wp2)
        go_ret
        exact ⟨by first | rfl | (simp [errW_none, errW_some] <;> rfl) | (simp only [← hji22]; first | rfl | (simp [errW_none, errW_some] <;> rfl)) | (simp [*, errW_none, errW_some] <;> rfl), K1 HB aH.out⟩
       ·rw [if_neg bQ] at H
        have c25b0 : ((rd aA (ji22)) == aF) = false := beq_eq_false_iff_ne.mpr bQ; have c25b1 : ((rd aA (ji22)) != aF) = true := bne_iff_ne.mpr bQ; obtain rfl := sj H; have ⟨_, _, _⟩ := y2 wr aD.out; have bI : 0 ≤ ((ji22) : Int) := OD; have bJ : (ji22) < (aA.length : Int) := OD; obtain ⟨bW, bR, aR⟩ := Kd.at_int aG.out (ji22) bI bJ; cases bR
        replace aR := CX HB.out aR; replace bI := eq_true bI; replace bJ := eq_true bJ; go_wp2
        repeat (go_quiet (fail); try go_wp2)
        go_ret
        exact ⟨by first | rfl | (simp [errW_none, errW_some] <;> rfl) | (simp only [← hji22]; first | rfl | (simp [errW_none, errW_some] <;> rfl)) | (simp [*, errW_none, errW_some] <;> rfl), K1 HB aH.out⟩
      ·rw [if_neg cP] at H
       exact absurd H (by simp)
     ·rw [if_neg cO] at H
      exact absurd H (by simp)
def spec_SaOk.f (k : Nat) (a0_0 : Int) (a0_1 : Int) (a0_2 : ByteArray) (a0_3 : ByteArray) (a0_4 : Int) (a0_5 : Int) (a0_6 : Int) (a0_7 : Int) (a0_8 : Int) (a0_9 : Int) (l0_10 : List Int) : Option (Bool) := (spec_l1In.f a0_0 1 999).bind fun t102 => (if t102 = true then ((spec_l1In.f a0_1 0 3).bind fun t103 => (if t103 = true then ((spec_l8Keys.f a0_2 a0_3).bind fun t104 => (if t104 = true then ((spec_l1In.f a0_4 0 1000000).bind fun t105 => (if t105 = true then ((spec_l1In.f a0_5 1 a0_6).bind fun t106 => (if t106 = true then ((spec_l1In.f a0_6 1 1000000).bind fun t107 => (if t107 = true then ((spec_l1In.f a0_7 1 1000000).bind fun t108 => (if t108 = true then ((spec_l1In.f a0_8 0 a0_6).bind fun t109 => (if t109 = true then ((spec_WindowOk.f k a0_9 l0_10).bind fun t110 => (some t110)) else (some false))) else (some false))) else (some false))) else (some false))) else (some false))) else (some false))) else (some false))) else (some false))
theorem spec_SaOk.calls (k : Nat) (aC : Int) (aH : Int) (aI : ByteArray) (aJ : ByteArray) (aK : Int) (aL : Int) (aA : Int) (aM : Int) (aN : Int) (aO : Int) (aR : Option Addr) (aS : Nat) (aB : List Int) (r : Bool) (w : World) (bA : Kd.C (Kd.int .i64) w aR aB.length aB) (bB : aB.length ≤ aS) (h : spec_SaOk.f k aC aH aI aJ aK aL aA aM aN aO aB = some r) :
  Calls Tryz.prog 56 #[.agg #[.int .i64 aC, .int .i64 aH, .string aI, .string aJ, .int .i64 aK, .int .i64 aL, .int .i64 aA, .int .i64 aM, .int .i64 aN, .int .i64 aO, .slice aR aB.length aS]] w fun e w' => e = .returned (.bool r) ∧ Below w.heap.size w w' := by
 have gA := Tryz.underlying48; have gB := Tryz.underlying46; have bD := Aside0.mk bA; have bE := Aside0.mk bB; clear bA bB; have HB := am (Below.refl w.heap.size w); have H : ((spec_l1In.f aC 1 999).bind fun bC => (if bC = true then ((spec_l1In.f aH 0 3).bind fun aZ => (if aZ = true then ((spec_l8Keys.f aI aJ).bind fun aY => (if aY = true then ((spec_l1In.f aK 0 1000000).bind fun aX => (if aX = true then ((spec_l1In.f aL 1 aA).bind fun aW => (if aW = true then ((spec_l1In.f aA 1 1000000).bind fun aU => (if aU = true then ((spec_l1In.f aM 1 1000000).bind fun aT => (if aT = true then ((spec_l1In.f aN 0 aA).bind fun aQ => (if aQ = true then ((spec_WindowOk.f k aO aB).bind fun aP => (some aP)) else (some false))) else (some false))) else (some false))) else (some false))) else (some false))) else (some false))) else (some false))) else (some false))) = some r := h; clear h; replace H := bm H; obtain ⟨bC, fV, H⟩ := H; replace H : (if bC = true then ((spec_l1In.f aH 0 3).bind fun aZ => (if aZ = true then ((spec_l8Keys.f aI aJ).bind fun aY => (if aY = true then ((spec_l1In.f aK 0 1000000).bind fun aX => (if aX = true then ((spec_l1In.f aL 1 aA).bind fun aW => (if aW = true then ((spec_l1In.f aA 1 1000000).bind fun aU => (if aU = true then ((spec_l1In.f aM 1 1000000).bind fun aT => (if aT = true then ((spec_l1In.f aN 0 aA).bind fun aQ => (if aQ = true then ((spec_WindowOk.f k aO aB).bind fun aP => (some aP)) else (some false))) else (some false))) else (some false))) else (some false))) else (some false))) else (some false))) else (some false))) else (some false)) = some r := H; have A2 := Aside0.mk fV; clear fV; by_cases c3 : bC = true
 ·subst c3
  have H1 := pf H; clear H; have H := H1; clear H1; replace H := bm H; obtain ⟨aZ, fW, H⟩ := H; replace H : (if aZ = true then ((spec_l8Keys.f aI aJ).bind fun aY => (if aY = true then ((spec_l1In.f aK 0 1000000).bind fun aX => (if aX = true then ((spec_l1In.f aL 1 aA).bind fun aW => (if aW = true then ((spec_l1In.f aA 1 1000000).bind fun aU => (if aU = true then ((spec_l1In.f aM 1 1000000).bind fun aT => (if aT = true then ((spec_l1In.f aN 0 aA).bind fun aQ => (if aQ = true then ((spec_WindowOk.f k aO aB).bind fun aP => (some aP)) else (some false))) else (some false))) else (some false))) else (some false))) else (some false))) else (some false))) else (some false)) = some r := H; have A4 := Aside0.mk fW; clear fW; by_cases c5 : aZ = true
  ·subst c5
   have H1 := pf H; clear H; have H := H1; clear H1; replace H := bm H; obtain ⟨aY, fX, H⟩ := H; replace H : (if aY = true then ((spec_l1In.f aK 0 1000000).bind fun aX => (if aX = true then ((spec_l1In.f aL 1 aA).bind fun aW => (if aW = true then ((spec_l1In.f aA 1 1000000).bind fun aU => (if aU = true then ((spec_l1In.f aM 1 1000000).bind fun aT => (if aT = true then ((spec_l1In.f aN 0 aA).bind fun aQ => (if aQ = true then ((spec_WindowOk.f k aO aB).bind fun aP => (some aP)) else (some false))) else (some false))) else (some false))) else (some false))) else (some false))) else (some false)) = some r := H; have A6 := Aside0.mk fX; clear fX; by_cases c7 : aY = true
   ·subst c7
    have H1 := pf H; clear H; have H := H1; clear H1; replace H := bm H; obtain ⟨aX, fY, H⟩ := H; replace H : (if aX = true then ((spec_l1In.f aL 1 aA).bind fun aW => (if aW = true then ((spec_l1In.f aA 1 1000000).bind fun aU => (if aU = true then ((spec_l1In.f aM 1 1000000).bind fun aT => (if aT = true then ((spec_l1In.f aN 0 aA).bind fun aQ => (if aQ = true then ((spec_WindowOk.f k aO aB).bind fun aP => (some aP)) else (some false))) else (some false))) else (some false))) else (some false))) else (some false)) = some r := H; have A8 := Aside0.mk fY; clear fY; by_cases c9 : aX = true
    ·subst c9
     have H1 := pf H; clear H; have H := H1; clear H1; replace H := bm H; obtain ⟨aW, bF, H⟩ := H; replace H : (if aW = true then ((spec_l1In.f aA 1 1000000).bind fun aU => (if aU = true then ((spec_l1In.f aM 1 1000000).bind fun aT => (if aT = true then ((spec_l1In.f aN 0 aA).bind fun aQ => (if aQ = true then ((spec_WindowOk.f k aO aB).bind fun aP => (some aP)) else (some false))) else (some false))) else (some false))) else (some false)) = some r := H; have bG := Aside0.mk bF; clear bF; by_cases bU : aW = true
     ·subst bU
      have H1 := pf H; clear H; have H := H1; clear H1; replace H := bm H; obtain ⟨aU, bH, H⟩ := H; replace H : (if aU = true then ((spec_l1In.f aM 1 1000000).bind fun aT => (if aT = true then ((spec_l1In.f aN 0 aA).bind fun aQ => (if aQ = true then ((spec_WindowOk.f k aO aB).bind fun aP => (some aP)) else (some false))) else (some false))) else (some false)) = some r := H; have bV := Aside0.mk bH; clear bH; by_cases bW : aU = true
      ·subst bW
       have H1 := pf H; clear H; have H := H1; clear H1; replace H := bm H; obtain ⟨aT, bI, H⟩ := H; replace H : (if aT = true then ((spec_l1In.f aN 0 aA).bind fun aQ => (if aQ = true then ((spec_WindowOk.f k aO aB).bind fun aP => (some aP)) else (some false))) else (some false)) = some r := H; have fU := Aside0.mk bI; clear bI; by_cases bX : aT = true
       ·subst bX
        have H1 := pf H; clear H; have H := H1; clear H1; replace H := bm H; obtain ⟨aQ, bJ, H⟩ := H; replace H : (if aQ = true then ((spec_WindowOk.f k aO aB).bind fun aP => (some aP)) else (some false)) = some r := H; have fZ := Aside0.mk bJ; clear bJ; by_cases bY : aQ = true
        ·subst bY
         have H1 := pf H; clear H; have H := H1; clear H1; replace H := bm H; obtain ⟨aP, bK, H⟩ := H; replace H : (some aP) = some r := H; have gC := Aside0.mk bK; clear bK; obtain rfl := sj H; go_enter Tryz.func56, Tryz.ntmps56
         go_wp2_with (first | ((with_reducible refine gate_dst (N := 1) rfl ?_); refine box_event rfl (N := 1) rfl (cs := #[.int .i64 aC, .int .i64 aH, .string aI, .string aJ, .int .i64 aK, .int .i64 aL, .int .i64 aA, .int .i64 aM, .int .i64 aN, .int .i64 aO, .slice aR aB.length aS]) (t := 48) BX ?_; intro aV hg gD aF hb; have aD := am (aF); have aG := am (GH HB hg); have aE := aG; replace HB := bl (KL HB) hb; clear hb aF hg; have ⟨_, _, _, _, _, _, _, _, _, _, _, _⟩ := y11 gD aD.out) | ((with_reducible refine gate_callee (f := 54) rfl ?_); refine goesL_ (some 5) rfl rfl Tryz.func54 (by kernel_rfl) rfl #[.int .i64 aC, .int .i64 1, .int .i64 999] rfl MT ?_; (with_reducible refine (spec_l1In.calls aC 1 999 true _ A2.out).mono ?_); rintro e w' ⟨rfl, ⟨nd, rfl⟩⟩; refine ⟨_, rfl, ?_⟩) | (go_at_call 54; (with_reducible refine (spec_l1In.calls aH 0 3 true _ A4.out).mono ?_); rintro e w' ⟨rfl, ⟨nd, rfl⟩⟩) | (go_at_call 85; (with_reducible refine (spec_l8Keys.calls aI aJ true _ A6.out).mono ?_); rintro e w' ⟨rfl, ⟨nd, rfl⟩⟩) | (go_at_call 54; (with_reducible refine (spec_l1In.calls aK 0 1000000 true _ A8.out).mono ?_); rintro e w' ⟨rfl, ⟨nd, rfl⟩⟩) | (go_at_call 54; (with_reducible refine (spec_l1In.calls aL 1 aA true _ bG.out).mono ?_); rintro e w' ⟨rfl, ⟨nd, rfl⟩⟩) | (go_at_call 54; (with_reducible refine (spec_l1In.calls aA 1 1000000 true _ bV.out).mono ?_); rintro e w' ⟨rfl, ⟨nd, rfl⟩⟩) | (go_at_call 54; (with_reducible refine (spec_l1In.calls aM 1 1000000 true _ fU.out).mono ?_); rintro e w' ⟨rfl, ⟨nd, rfl⟩⟩) | (go_at_call 54; (with_reducible refine (spec_l1In.calls aN 0 aA true _ fZ.out).mono ?_); rintro e w' ⟨rfl, ⟨nd, rfl⟩⟩) | (go_at_call 86; (with_reducible refine (spec_WindowOk.calls k aO _ _ aB aP _ ?_ ?_ gC.out).mono ?_); (repeat (first | exact (Kd.C_below bD.out (K1 HB aE.out)) | (with_reducible refine Kd.C_alloc ?_ _) | (with_reducible refine Kd.C_drewN ?_ _) | (with_reducible refine Kd.C_drew ?_))); exact bE.out; rintro e gM ⟨rfl, hb⟩; replace aD := am (BB aD hb); replace HB := bl (K1 HB aE.out) hb; (try clear hb)))
         go_ret
         exact ⟨ER, K1 HB aE.out⟩
        ·replace bY := Bool.eq_false_iff.mpr bY
         subst bY; have H1 := nf H; clear H; have H := H1; clear H1; obtain rfl := sj H; go_enter Tryz.func56, Tryz.ntmps56
         go_wp2_with (first | ((with_reducible refine gate_dst (N := 1) rfl ?_); refine box_event rfl (N := 1) rfl (cs := #[.int .i64 aC, .int .i64 aH, .string aI, .string aJ, .int .i64 aK, .int .i64 aL, .int .i64 aA, .int .i64 aM, .int .i64 aN, .int .i64 aO, .slice aR aB.length aS]) (t := 48) BX ?_; intro aV hg gE aF hb; have aD := am (aF); have aG := am (GH HB hg); have aE := aG; replace HB := bl (KL HB) hb; clear hb aF hg; have ⟨_, _, _, _, _, _, _, _, _, _, _, _⟩ := y11 gE aD.out) | ((with_reducible refine gate_callee (f := 54) rfl ?_); refine goesL_ (some 5) rfl rfl Tryz.func54 (by kernel_rfl) rfl #[.int .i64 aC, .int .i64 1, .int .i64 999] rfl MT ?_; (with_reducible refine (spec_l1In.calls aC 1 999 true _ A2.out).mono ?_); rintro e w' ⟨rfl, ⟨nd, rfl⟩⟩; refine ⟨_, rfl, ?_⟩) | (go_at_call 54; (with_reducible refine (spec_l1In.calls aH 0 3 true _ A4.out).mono ?_); rintro e w' ⟨rfl, ⟨nd, rfl⟩⟩) | (go_at_call 85; (with_reducible refine (spec_l8Keys.calls aI aJ true _ A6.out).mono ?_); rintro e w' ⟨rfl, ⟨nd, rfl⟩⟩) | (go_at_call 54; (with_reducible refine (spec_l1In.calls aK 0 1000000 true _ A8.out).mono ?_); rintro e w' ⟨rfl, ⟨nd, rfl⟩⟩) | (go_at_call 54; (with_reducible refine (spec_l1In.calls aL 1 aA true _ bG.out).mono ?_); rintro e w' ⟨rfl, ⟨nd, rfl⟩⟩) | (go_at_call 54; (with_reducible refine (spec_l1In.calls aA 1 1000000 true _ bV.out).mono ?_); rintro e w' ⟨rfl, ⟨nd, rfl⟩⟩) | (go_at_call 54; (with_reducible refine (spec_l1In.calls aM 1 1000000 true _ fU.out).mono ?_); rintro e w' ⟨rfl, ⟨nd, rfl⟩⟩) | (go_at_call 54; (with_reducible refine (spec_l1In.calls aN 0 aA false _ fZ.out).mono ?_); rintro e w' ⟨rfl, ⟨nd, rfl⟩⟩))
         go_ret
         exact ⟨ER, K1 HB aE.out⟩
       ·replace bX := Bool.eq_false_iff.mpr bX
        subst bX; have H1 := nf H; clear H; have H := H1; clear H1; obtain rfl := sj H; go_enter Tryz.func56, Tryz.ntmps56
        go_wp2_with (first | ((with_reducible refine gate_dst (N := 1) rfl ?_); refine box_event rfl (N := 1) rfl (cs := #[.int .i64 aC, .int .i64 aH, .string aI, .string aJ, .int .i64 aK, .int .i64 aL, .int .i64 aA, .int .i64 aM, .int .i64 aN, .int .i64 aO, .slice aR aB.length aS]) (t := 48) BX ?_; intro aV hg gF aF hb; have aD := am (aF); have aG := am (GH HB hg); have aE := aG; replace HB := bl (KL HB) hb; clear hb aF hg; have ⟨_, _, _, _, _, _, _, _, _, _, _, _⟩ := y11 gF aD.out) | ((with_reducible refine gate_callee (f := 54) rfl ?_); refine goesL_ (some 5) rfl rfl Tryz.func54 (by kernel_rfl) rfl #[.int .i64 aC, .int .i64 1, .int .i64 999] rfl MT ?_; (with_reducible refine (spec_l1In.calls aC 1 999 true _ A2.out).mono ?_); rintro e w' ⟨rfl, ⟨nd, rfl⟩⟩; refine ⟨_, rfl, ?_⟩) | (go_at_call 54; (with_reducible refine (spec_l1In.calls aH 0 3 true _ A4.out).mono ?_); rintro e w' ⟨rfl, ⟨nd, rfl⟩⟩) | (go_at_call 85; (with_reducible refine (spec_l8Keys.calls aI aJ true _ A6.out).mono ?_); rintro e w' ⟨rfl, ⟨nd, rfl⟩⟩) | (go_at_call 54; (with_reducible refine (spec_l1In.calls aK 0 1000000 true _ A8.out).mono ?_); rintro e w' ⟨rfl, ⟨nd, rfl⟩⟩) | (go_at_call 54; (with_reducible refine (spec_l1In.calls aL 1 aA true _ bG.out).mono ?_); rintro e w' ⟨rfl, ⟨nd, rfl⟩⟩) | (go_at_call 54; (with_reducible refine (spec_l1In.calls aA 1 1000000 true _ bV.out).mono ?_); rintro e w' ⟨rfl, ⟨nd, rfl⟩⟩) | (go_at_call 54; (with_reducible refine (spec_l1In.calls aM 1 1000000 false _ fU.out).mono ?_); rintro e w' ⟨rfl, ⟨nd, rfl⟩⟩))
        go_ret
        exact ⟨ER, K1 HB aE.out⟩
      ·replace bW := Bool.eq_false_iff.mpr bW
       subst bW; have H1 := nf H; clear H; have H := H1; clear H1; obtain rfl := sj H; go_enter Tryz.func56, Tryz.ntmps56
       go_wp2_with (first | ((with_reducible refine gate_dst (N := 1) rfl ?_); refine box_event rfl (N := 1) rfl (cs := #[.int .i64 aC, .int .i64 aH, .string aI, .string aJ, .int .i64 aK, .int .i64 aL, .int .i64 aA, .int .i64 aM, .int .i64 aN, .int .i64 aO, .slice aR aB.length aS]) (t := 48) BX ?_; intro aV hg gG aF hb; have aD := am (aF); have aG := am (GH HB hg); have aE := aG; replace HB := bl (KL HB) hb; clear hb aF hg; have ⟨_, _, _, _, _, _, _, _, _, _, _, _⟩ := y11 gG aD.out) | ((with_reducible refine gate_callee (f := 54) rfl ?_); refine goesL_ (some 5) rfl rfl Tryz.func54 (by kernel_rfl) rfl #[.int .i64 aC, .int .i64 1, .int .i64 999] rfl MT ?_; (with_reducible refine (spec_l1In.calls aC 1 999 true _ A2.out).mono ?_); rintro e w' ⟨rfl, ⟨nd, rfl⟩⟩; refine ⟨_, rfl, ?_⟩) | (go_at_call 54; (with_reducible refine (spec_l1In.calls aH 0 3 true _ A4.out).mono ?_); rintro e w' ⟨rfl, ⟨nd, rfl⟩⟩) | (go_at_call 85; (with_reducible refine (spec_l8Keys.calls aI aJ true _ A6.out).mono ?_); rintro e w' ⟨rfl, ⟨nd, rfl⟩⟩) | (go_at_call 54; (with_reducible refine (spec_l1In.calls aK 0 1000000 true _ A8.out).mono ?_); rintro e w' ⟨rfl, ⟨nd, rfl⟩⟩) | (go_at_call 54; (with_reducible refine (spec_l1In.calls aL 1 aA true _ bG.out).mono ?_); rintro e w' ⟨rfl, ⟨nd, rfl⟩⟩) | (go_at_call 54; (with_reducible refine (spec_l1In.calls aA 1 1000000 false _ bV.out).mono ?_); rintro e w' ⟨rfl, ⟨nd, rfl⟩⟩))
       go_ret
       exact ⟨ER, K1 HB aE.out⟩
     ·replace bU := Bool.eq_false_iff.mpr bU
      subst bU; have H1 := nf H; clear H; have H := H1; clear H1; obtain rfl := sj H; go_enter Tryz.func56, Tryz.ntmps56
      go_wp2_with (first | ((with_reducible refine gate_dst (N := 1) rfl ?_); refine box_event rfl (N := 1) rfl (cs := #[.int .i64 aC, .int .i64 aH, .string aI, .string aJ, .int .i64 aK, .int .i64 aL, .int .i64 aA, .int .i64 aM, .int .i64 aN, .int .i64 aO, .slice aR aB.length aS]) (t := 48) BX ?_; intro aV hg gH aF hb; have aD := am (aF); have aG := am (GH HB hg); have aE := aG; replace HB := bl (KL HB) hb; clear hb aF hg; have ⟨_, _, _, _, _, _, _, _, _, _, _, _⟩ := y11 gH aD.out) | ((with_reducible refine gate_callee (f := 54) rfl ?_); refine goesL_ (some 5) rfl rfl Tryz.func54 (by kernel_rfl) rfl #[.int .i64 aC, .int .i64 1, .int .i64 999] rfl MT ?_; (with_reducible refine (spec_l1In.calls aC 1 999 true _ A2.out).mono ?_); rintro e w' ⟨rfl, ⟨nd, rfl⟩⟩; refine ⟨_, rfl, ?_⟩) | (go_at_call 54; (with_reducible refine (spec_l1In.calls aH 0 3 true _ A4.out).mono ?_); rintro e w' ⟨rfl, ⟨nd, rfl⟩⟩) | (go_at_call 85; (with_reducible refine (spec_l8Keys.calls aI aJ true _ A6.out).mono ?_); rintro e w' ⟨rfl, ⟨nd, rfl⟩⟩) | (go_at_call 54; (with_reducible refine (spec_l1In.calls aK 0 1000000 true _ A8.out).mono ?_); rintro e w' ⟨rfl, ⟨nd, rfl⟩⟩) | (go_at_call 54; (with_reducible refine (spec_l1In.calls aL 1 aA false _ bG.out).mono ?_); rintro e w' ⟨rfl, ⟨nd, rfl⟩⟩))
      go_ret
      exact ⟨ER, K1 HB aE.out⟩
    ·replace c9 := Bool.eq_false_iff.mpr c9
     subst c9; have H1 := nf H; clear H; have H := H1; clear H1; obtain rfl := sj H; go_enter Tryz.func56, Tryz.ntmps56
     go_wp2_with (first | ((with_reducible refine gate_dst (N := 1) rfl ?_); refine box_event rfl (N := 1) rfl (cs := #[.int .i64 aC, .int .i64 aH, .string aI, .string aJ, .int .i64 aK, .int .i64 aL, .int .i64 aA, .int .i64 aM, .int .i64 aN, .int .i64 aO, .slice aR aB.length aS]) (t := 48) BX ?_; intro aV hg gI aF hb; have aD := am (aF); have aG := am (GH HB hg); have aE := aG; replace HB := bl (KL HB) hb; clear hb aF hg; have ⟨_, _, _, _, _, _, _, _, _, _, _, _⟩ := y11 gI aD.out) | ((with_reducible refine gate_callee (f := 54) rfl ?_); refine goesL_ (some 5) rfl rfl Tryz.func54 (by kernel_rfl) rfl #[.int .i64 aC, .int .i64 1, .int .i64 999] rfl MT ?_; (with_reducible refine (spec_l1In.calls aC 1 999 true _ A2.out).mono ?_); rintro e w' ⟨rfl, ⟨nd, rfl⟩⟩; refine ⟨_, rfl, ?_⟩) | (go_at_call 54; (with_reducible refine (spec_l1In.calls aH 0 3 true _ A4.out).mono ?_); rintro e w' ⟨rfl, ⟨nd, rfl⟩⟩) | (go_at_call 85; (with_reducible refine (spec_l8Keys.calls aI aJ true _ A6.out).mono ?_); rintro e w' ⟨rfl, ⟨nd, rfl⟩⟩) | (go_at_call 54; (with_reducible refine (spec_l1In.calls aK 0 1000000 false _ A8.out).mono ?_); rintro e w' ⟨rfl, ⟨nd, rfl⟩⟩))
     go_ret
     exact ⟨ER, K1 HB aE.out⟩
   ·replace c7 := Bool.eq_false_iff.mpr c7
    subst c7; have H1 := nf H; clear H; have H := H1; clear H1; obtain rfl := sj H; go_enter Tryz.func56, Tryz.ntmps56
    go_wp2_with (first | ((with_reducible refine gate_dst (N := 1) rfl ?_); refine box_event rfl (N := 1) rfl (cs := #[.int .i64 aC, .int .i64 aH, .string aI, .string aJ, .int .i64 aK, .int .i64 aL, .int .i64 aA, .int .i64 aM, .int .i64 aN, .int .i64 aO, .slice aR aB.length aS]) (t := 48) BX ?_; intro aV hg gJ aF hb; have aD := am (aF); have aG := am (GH HB hg); have aE := aG; replace HB := bl (KL HB) hb; clear hb aF hg; have ⟨_, _, _, _, _, _, _, _, _, _, _, _⟩ := y11 gJ aD.out) | ((with_reducible refine gate_callee (f := 54) rfl ?_); refine goesL_ (some 5) rfl rfl Tryz.func54 (by kernel_rfl) rfl #[.int .i64 aC, .int .i64 1, .int .i64 999] rfl MT ?_; (with_reducible refine (spec_l1In.calls aC 1 999 true _ A2.out).mono ?_); rintro e w' ⟨rfl, ⟨nd, rfl⟩⟩; refine ⟨_, rfl, ?_⟩) | (go_at_call 54; (with_reducible refine (spec_l1In.calls aH 0 3 true _ A4.out).mono ?_); rintro e w' ⟨rfl, ⟨nd, rfl⟩⟩) | (go_at_call 85; (with_reducible refine (spec_l8Keys.calls aI aJ false _ A6.out).mono ?_); rintro e w' ⟨rfl, ⟨nd, rfl⟩⟩))
    go_ret
    exact ⟨ER, K1 HB aE.out⟩
  ·replace c5 := Bool.eq_false_iff.mpr c5
   subst c5; have H1 := nf H; clear H; have H := H1; clear H1; obtain rfl := sj H; go_enter Tryz.func56, Tryz.ntmps56
   go_wp2_with (first | ((with_reducible refine gate_dst (N := 1) rfl ?_); refine box_event rfl (N := 1) rfl (cs := #[.int .i64 aC, .int .i64 aH, .string aI, .string aJ, .int .i64 aK, .int .i64 aL, .int .i64 aA, .int .i64 aM, .int .i64 aN, .int .i64 aO, .slice aR aB.length aS]) (t := 48) BX ?_; intro aV hg gK aF hb; have aD := am (aF); have aG := am (GH HB hg); have aE := aG; replace HB := bl (KL HB) hb; clear hb aF hg; have ⟨_, _, _, _, _, _, _, _, _, _, _, _⟩ := y11 gK aD.out) | ((with_reducible refine gate_callee (f := 54) rfl ?_); refine goesL_ (some 5) rfl rfl Tryz.func54 (by kernel_rfl) rfl #[.int .i64 aC, .int .i64 1, .int .i64 999] rfl MT ?_; (with_reducible refine (spec_l1In.calls aC 1 999 true _ A2.out).mono ?_); rintro e w' ⟨rfl, ⟨nd, rfl⟩⟩; refine ⟨_, rfl, ?_⟩) | (go_at_call 54; (with_reducible refine (spec_l1In.calls aH 0 3 false _ A4.out).mono ?_); rintro e w' ⟨rfl, ⟨nd, rfl⟩⟩))
   go_ret
   exact ⟨ER, K1 HB aE.out⟩
 ·replace c3 := Bool.eq_false_iff.mpr c3
  subst c3; have H1 := nf H; clear H; have H := H1; clear H1; obtain rfl := sj H; go_enter Tryz.func56, Tryz.ntmps56
  go_wp2_with (first | ((with_reducible refine gate_dst (N := 1) rfl ?_); refine box_event rfl (N := 1) rfl (cs := #[.int .i64 aC, .int .i64 aH, .string aI, .string aJ, .int .i64 aK, .int .i64 aL, .int .i64 aA, .int .i64 aM, .int .i64 aN, .int .i64 aO, .slice aR aB.length aS]) (t := 48) BX ?_; intro aV hg gL aF hb; have aD := am (aF); have aG := am (GH HB hg); have aE := aG; replace HB := bl (KL HB) hb; clear hb aF hg; have ⟨_, _, _, _, _, _, _, _, _, _, _, _⟩ := y11 gL aD.out) | ((with_reducible refine gate_callee (f := 54) rfl ?_); refine goesL_ (some 5) rfl rfl Tryz.func54 (by kernel_rfl) rfl #[.int .i64 aC, .int .i64 1, .int .i64 999] rfl MT ?_; (with_reducible refine (spec_l1In.calls aC 1 999 false _ A2.out).mono ?_); rintro e w' ⟨rfl, ⟨nd, rfl⟩⟩; refine ⟨_, rfl, ?_⟩))
  go_ret
  exact ⟨ER, K1 HB aE.out⟩
def spec_l7Copy.f (a0_0 : Int) (l0_1 : List Int) : Option (Int × List Int) := (some (([] : List Int) : List Int)).bind fun y103 => (if y103.length + l0_1.length < 17592186044416 then (some (a0_0, (y103 ++ l0_1))) else (none))
def spec_l7Copy.T1 : Bool × List (List Nat × List Nat) := (true, [([], []), ([0], [0]), ([], []), ([], []), ([3], [3]), ([2, 4], [2, 4]), ([1, 5], [1, 5]), ([6, 5, 0, 1, 2, 3, 4, 5, 6], [6])])
def spec_l7Copy.B1 : List Nat := [0, 1, 0, 0, 8, 28, 63, 127]
theorem spec_l7Copy.tab1 : rtab .any (opsOf Tryz.f81 1) = spec_l7Copy.T1 := by kernel_rfl
theorem spec_l7Copy.bits1 : waitsOk spec_l7Copy.T1.2 spec_l7Copy.B1 = true := by kernel_rfl
theorem spec_l7Copy.calls (aI : Int) (aU : Option Addr) (aV : Nat) (aG : List Int) (r1 : Int) (r2 : List Int) (w : World) (aY : Kd.C (Kd.int .i64) w aU aG.length aG) (aZ : aG.length ≤ aV) (h : spec_l7Copy.f aI aG = some (r1, r2)) :
  Calls Tryz.prog 81 #[.agg #[.int .i64 aI, .slice aU aG.length aV]] w fun e w' => ∃ v1_ : Value, e = .returned (.agg #[.int .i64 r1, v1_]) ∧ Kd.R (Kd.int .i64) 3 w' w.heap.size (fun _ => True) v1_ r2 ∧ Below w.heap.size w w' := by
 have bN := Tryz.underlying46; have bD := Aside0.mk aY; have bI := Aside0.mk aZ; clear aY aZ; have HB := am (Below.refl w.heap.size w); have H : ((some (([] : List Int) : List Int)).bind fun aM => (if aM.length + aG.length < 17592186044416 then (some (aI, (aM ++ aG))) else (none))) = some (r1, r2) := h; clear h; obtain ⟨aM, aN⟩ : ∃ y_ : List Int, y_ = (([] : List Int)) := ⟨_, rfl⟩; replace H : (if aM.length + aG.length < 17592186044416 then (some (aI, (aM ++ aG))) else (none)) = some (r1, r2) := by first | (rw [aN]; with_reducible exact H) | (have H2_ := (Option.bind_some _ _).symm.trans H; rw [aN]; with_reducible exact H2_) | (have H2_ := (Option.bind_some _ _).symm.trans H; with_reducible exact H2_) | with_reducible exact H | (rw [aN]; exact H) | exact H
 have Ny103 := Aside0.mk aN; clear aN; by_cases c2 : aM.length + aG.length < 17592186044416
 ·rw [if_pos c2] at H
  have LMc2 := Aside0.mk c2; clear c2; obtain ⟨bC, aP⟩ : ∃ y_ : List Int, y_ = (aM ++ aG) := ⟨_, rfl⟩; replace H : (some (aI, bC)) = some (r1, r2) := by first | (rw [aP]; with_reducible exact H) | (have H2_ := (Option.bind_some _ _).symm.trans H; rw [aP]; with_reducible exact H2_) | (have H2_ := (Option.bind_some _ _).symm.trans H; with_reducible exact H2_) | with_reducible exact H | (rw [aP]; exact H) | exact H
  have Ny106 := Aside0.mk aP; clear aP; simp only [Option.some.injEq, Prod.mk.injEq] at H; obtain ⟨rfl, rfl⟩ := H; go_enter Tryz.func81, Tryz.ntmps81
  try go_wp2_with (first | ((with_reducible refine gate_dst (N := 1) rfl ?_); refine box_event rfl (N := 1) rfl (cs := #[.int .i64 aI, .slice aU aG.length aV]) (t := 46) BX ?_; intro bA hg w3 aW hb; have aA := am (aW); have bE := am (GH HB hg); have aJ := bE; replace HB := bl (KL HB) hb; clear hb aW hg) | ((with_reducible refine gate_dst (N := 2) rfl ?_); refine box_event rfl (N := 2) rfl (cs := #[.int .i64 0, .slice none 0 0]) (t := 46) BX ?_; intro aE hg w4 aW hb; have aD := am (aW); have bF := am (GH1 HB aJ.out hg); have aQ := bF; replace HB := bl (K1 HB aJ.out) hb; have aC := am (NL aA hg); have aK := am (NG aA hg); replace aA := am (BB aA hb); clear hb aW hg))
  replace aA := am (blk_drew aA.out); replace aD := am (blk_drew aD.out); replace HB := am (below_drew1 HB.out); refine start_ (n := 8) (S := fun w' => de2 w' bA (.int .i64 aI) (.slice aU aG.length aV)) (ds := []) (tf 0 8) (by kernel_rfl) rfl rfl ⟨z0 _ aA.out, z1 _ aA.out⟩ (fun aH => ?_); refine with_tabW spec_l7Copy.tab1 spec_l7Copy.bits1 (fun aX bJ => ?_); generalize w4.drew = w5 at aA aD HB aH ⊢; refine pv aX 0 3 (tf 1 7) ?_; refine pv aX 3 6 (tr [1, 2, 1, 4]) ?_; refine tk 1 (some 4) (tr [2, 1, 1, 4]) (take_ofW aX.out bJ.out (by kernel_rfl)) aH ?_; refine tk 4 (some 7) (tr [2, 1, 2, 3]) (take_ofW aX.out bJ.out (by kernel_rfl)) aH ?_; refine one_ (i := 2) (N := some 5) (tf 5 3) rfl rfl (one_of aX.out (by kernel_rfl)) (by decide) (fun K hK => ?_); refine Kd.R_lit_step (Kd.int .i64) _ 3 ?hg (N := 5) ?hd (xs := ([] : List Int)) (inner := []) (ok := fun _ => True) (okp := fun _ => True) ?hr ?hp (fun _ hk => hk) trivial (Below.refl _ _) (Nat.le_refl _) (by simp) ?_; (case hd => rfl); (case hg => rfl); (case hr => first | (go_simp; done) | (go_simp; rfl)); (case hp => exact (Reps.none _ _)); intro bH w6 bG hb hg_ hnew_; clear hg_ hnew_; (first | rw [← Ny103.out] at bG | (simp only [Int.reduceToNat] at bG; rw [← Ny103.out] at bG))
  have aT := am (Kd.R_lower bG (below_size (K2 HB aJ.out aQ.out))); replace aA := am (BB aA hb); replace aD := am (BB aD hb); replace HB := bl (K2 HB aJ.out aQ.out) hb; clear hb bG; refine hK.out _ _ ⟨z0 _ aA.out, z1 _ aA.out⟩ (fun aH => ?_); clear hK K; refine nm (some 5) ?_; refine one_ (i := 5) (N := some 8) (tf 6 2) rfl rfl (one_of aX.out (by kernel_rfl)) (by decide) (fun K hK => ?_); refine Kd.R_append_rows_step (Kd.int .i64) (w0 := w) w.heap.size (by rfl) (.tmp 5) (.tmp 7) 29 3 (.int .i64 0) 8 rfl Tryz.underlying29 info3 rfl (by decide) (by omega) bH aM aG _ _ _ (fun _ => True) (fun _ => False) rfl rfl ?aO ?aR (fun _ _ h => h) (fun _ h => h.elim) ?aF ?aB ?aS ?aL ?_
  (case aR => exact KD bD HB)
  (case aB => exact (K2 HB aJ.out aQ.out))
  (case aF => exact (fun _ _ => trivial))
  (case aO => exact (KR aT))
  (case aS => exact (below_size (K2 HB aJ.out aQ.out)))
  (case aL => have := LMc2.out; omega)
  intro bO w8 ho hb hg hat; rw [← Ny106.out] at ho; replace aA := am (blk_grown (g := bA) (o := .cells #[.int .i64 aI, .slice aU aG.length aV] 46 (0, 0)) (KB aA) hg (Kd.R_ne aT.out aA.out (by decide))); replace aD := am (blk_grown (g := aE) (o := .cells #[.int .i64 0, .slice none 0 0] 46 (0, 0)) (KB aD) hg (Kd.R_ne aT.out aD.out (by decide))); replace HB := am (hb); have bB := am (ho); clear aT; clear ho hb hg hat; obtain ⟨bK, bL, bM⟩ := Kd.R_slice bB.out; (first | subst bM | (injection bM with f1_ f2_ f3_; have f4_ := f1_.symm; have f5_ := f3_.symm; clear f1_ f2_ f3_; subst f4_; subst f5_))
  refine hK.out _ _ ⟨z0 _ aA.out, z1 _ aA.out⟩ (fun aH => ?_); clear hK K; refine nm (some 8) ?_; refine pv aX 6 9 (tf 7 1) ?_; refine one_ (i := 7) (N := none) (tf 8 0) rfl rfl (one_of aX.out (by kernel_rfl)) (by decide) (fun K hK => ?_); have hs10 : w8.cell? ⟨aE, 0, none⟩ = some (.int .i64 0) := z0 _ aD.out; have hfs10 := blk_frozen aD.out 0; have hns10_0 := aC.out; have hms10_0 := aK.out; have hs11 : w8.cell? ⟨aE, 1, none⟩ = some (.slice none 0 0) := z1 _ aD.out; have hfs11 := blk_frozen aD.out 1; have hns11_0 := aC.out; have hms11_0 := aK.out; refine skip_ (w1 := ?_) (by rfl) rfl ?_ ?_
  rotate_left
  ·go_simp
   rfl
  refine hK.out _ _ ⟨((cell_far (p := ⟨aE, _, none⟩) aC.out _).trans (((cell_far (p := ⟨aE, _, none⟩) aC.out _).trans (aH.1)))), ((cell_far (p := ⟨aE, _, none⟩) aC.out _).trans (((cell_far (p := ⟨aE, _, none⟩) aC.out _).trans (aH.2))))⟩ (fun aH => ?_); clear hK K; refine done_ (done_of aX.out (by kernel_rfl)) ?_; try go_wp2
  refine bodyPost_ret (results_cell_row rfl _ _ aE 46 #[.int .i64 aI, .slice bK bC.length bL] (0, 0) _ rfl (by refine BD ?_; refine blk_put (cs := #[.int .i64 aI, .slice none 0 0]) ?_ 1 _ rfl; refine BD ?_; refine blk_put (cs := #[.int .i64 0, .slice none 0 0]) ?_ 0 _ rfl; refine BD ?_; exact aD.out) Tryz.underlying46 rfl (by kernel_rfl)) rfl ?_; exact ⟨_, ER, by refine KW ?_; exact Kd.R_mono (Kd.R_far (p := ⟨aE, 1, none⟩) (Kd.R_far (p := ⟨aE, 0, none⟩) (Kd.R_types bB.out aD.out (by decide)) (fun _ hk => hk.2) (.int .i64 aI)) (fun _ hk => hk.2) (.slice bK bC.length bL)) (fun _ hk => trivial), K2 HB aJ.out aQ.out⟩
 ·rw [if_neg c2] at H
  exact absurd H (by simp)
def spec_l9Copy.f (a0_0 : Int) (a0_1 : Int) (a0_2 : ByteArray) (a0_3 : ByteArray) (a0_4 : Int) (a0_5 : Int) (a0_6 : Int) (a0_7 : Int) (a0_8 : Int) (a0_9 : Int) (l0_10 : List Int) : Option (Int × Int × ByteArray × ByteArray × Int × Int × Int × Int × Int × Int × List Int) := (spec_l7Copy.f a0_9 l0_10).bind fun bt103 => (some (a0_0, a0_1, a0_2, a0_3, a0_4, a0_5, a0_6, a0_7, a0_8, bt103.1, bt103.2))
theorem spec_l9Copy.calls (aB : Int) (aC : Int) (aD : ByteArray) (aE : ByteArray) (aH : Int) (aJ : Int) (aK : Int) (aL : Int) (aM : Int) (aR : Int) (aP : Option Addr) (aQ : Nat) (aF : List Int) (r1 : Int) (r2 : Int) (r3 : ByteArray) (r4 : ByteArray) (r5 : Int) (r6 : Int) (r7 : Int) (r8 : Int) (r9 : Int) (r10 : Int) (r11 : List Int) (w : World) (aU : Kd.C (Kd.int .i64) w aP aF.length aF) (aV : aF.length ≤ aQ) (h : spec_l9Copy.f aB aC aD aE aH aJ aK aL aM aR aF = some (r1, r2, r3, r4, r5, r6, r7, r8, r9, r10, r11)) :
  Calls Tryz.prog 50 #[.agg #[.int .i64 aB, .int .i64 aC, .string aD, .string aE, .int .i64 aH, .int .i64 aJ, .int .i64 aK, .int .i64 aL, .int .i64 aM, .int .i64 aR, .slice aP aF.length aQ]] w fun e w' => ∃ v10_ : Value, e = .returned (.agg #[.int .i64 r1, .int .i64 r2, .string r3, .string r4, .int .i64 r5, .int .i64 r6, .int .i64 r7, .int .i64 r8, .int .i64 r9, .int .i64 r10, v10_]) ∧ Kd.R (Kd.int .i64) 3 w' w.heap.size (fun _ => True) v10_ r11 ∧ Below w.heap.size w w' := by
 have cU := Tryz.underlying48; have cV := Tryz.underlying46; have bC := Aside0.mk aU; have bD := Aside0.mk aV; clear aU aV; have HB := am (Below.refl w.heap.size w); have H : ((spec_l7Copy.f aR aF).bind fun aZ => (some (aB, aC, aD, aE, aH, aJ, aK, aL, aM, aZ.1, aZ.2))) = some (r1, r2, r3, r4, r5, r6, r7, r8, r9, r10, r11) := h; clear h; replace H := bm H; obtain ⟨⟨aS, aW⟩, cS, H⟩ := H; replace H : (some (aB, aC, aD, aE, aH, aJ, aK, aL, aM, aS, aW)) = some (r1, r2, r3, r4, r5, r6, r7, r8, r9, r10, r11) := H; have A2 := Aside0.mk cS; clear cS; simp only [Option.some.injEq, Prod.mk.injEq] at H; obtain ⟨rfl, rfl, rfl, rfl, rfl, rfl, rfl, rfl, rfl, rfl, rfl⟩ := H; go_enter Tryz.func50, Tryz.ntmps50
 go_wp2_with (first | ((with_reducible refine gate_dst (N := 1) rfl ?_); refine box_event rfl (N := 1) rfl (cs := #[.int .i64 aB, .int .i64 aC, .string aD, .string aE, .int .i64 aH, .int .i64 aJ, .int .i64 aK, .int .i64 aL, .int .i64 aM, .int .i64 aR, .slice aP aF.length aQ]) (t := 48) BX ?_; intro bA hg w3 aX hb; have aG := am (aX); have bE := am (GH HB hg); have aN := bE; replace HB := bl (KL HB) hb; clear hb aX hg) | ((with_reducible refine gate_dst (N := 2) rfl ?_); refine box_event rfl (N := 2) rfl (cs := #[.int .i64 0, .int .i64 0, .string (⟨#[]⟩ : ByteArray), .string (⟨#[]⟩ : ByteArray), .int .i64 0, .int .i64 0, .int .i64 0, .int .i64 0, .int .i64 0, .int .i64 0, .slice none 0 0]) (t := 48) BX ?_; intro aA hg w4 aX hb; have aO := am (aX); have bF := am (GH1 HB aN.out hg); have aY := bF; replace HB := bl (K1 HB aN.out) hb; have aT := am (NL aG hg); have aI := am (NG aG hg); replace aG := am (BB aG hb); clear hb aX hg; have cW := aT.out; have cX := aI.out; have ⟨_, _, _, _, _, _, _, _, _, _, _, _⟩ := y11 w4 aG.out) | ((with_reducible refine gate_callee (f := 81) rfl ?_); refine goesL_ (some 5) rfl rfl Tryz.func81 (by kernel_rfl) rfl #[.agg #[.int .i64 aR, .slice aP aF.length aQ]] rfl MT ?_; (with_reducible refine (spec_l7Copy.calls aR _ _ aF aS aW _ ?_ ?_ A2.out).mono ?_); exact KD bC HB; exact bD.out; rintro e w7 ⟨cY, rfl, cT, hb⟩; refine ⟨_, rfl, ?_⟩; have bB := am (Kd.R_lower cT (below_size (K2 HB aN.out aY.out))); replace aG := am (BB aG hb); replace aO := am (BB aO hb); replace HB := bl (K2 HB aN.out aY.out) hb; (try clear hb); (try clear cT); have ⟨_, _, _, _, _, _, _, _, _, _, _, _⟩ := y11 w7 aG.out; obtain ⟨cQ, cR, cZ⟩ := Kd.R_slice bB.out; subst cZ; have ⟨_, _, _, _, _, _, _, _, _, _, _, _⟩ := y11 w7 aO.out))
 refine bodyPost_ret (results_cell_row rfl _ _ aA 48 #[.int .i64 aB, .int .i64 aC, .string aD, .string aE, .int .i64 aH, .int .i64 aJ, .int .i64 aK, .int .i64 aL, .int .i64 aM, .int .i64 aS, .slice cQ aW.length cR] (0, 0) _ rfl (by refine BD ?_; refine blk_put (cs := #[.int .i64 aB, .int .i64 aC, .string aD, .string aE, .int .i64 aH, .int .i64 aJ, .int .i64 aK, .int .i64 aL, .int .i64 aM, .int .i64 aS, .slice none 0 0]) ?_ 10 _ rfl; refine BD ?_; refine blk_put (cs := #[.int .i64 aB, .int .i64 aC, .string aD, .string aE, .int .i64 aH, .int .i64 aJ, .int .i64 aK, .int .i64 aL, .int .i64 aM, .int .i64 0, .slice none 0 0]) ?_ 9 _ rfl; refine BD ?_; refine blk_put (cs := #[.int .i64 aB, .int .i64 aC, .string aD, .string aE, .int .i64 aH, .int .i64 aJ, .int .i64 aK, .int .i64 aL, .int .i64 0, .int .i64 0, .slice none 0 0]) ?_ 8 _ rfl; refine BD ?_; refine blk_put (cs := #[.int .i64 aB, .int .i64 aC, .string aD, .string aE, .int .i64 aH, .int .i64 aJ, .int .i64 aK, .int .i64 0, .int .i64 0, .int .i64 0, .slice none 0 0]) ?_ 7 _ rfl; refine BD ?_; refine blk_put (cs := #[.int .i64 aB, .int .i64 aC, .string aD, .string aE, .int .i64 aH, .int .i64 aJ, .int .i64 0, .int .i64 0, .int .i64 0, .int .i64 0, .slice none 0 0]) ?_ 6 _ rfl; refine BD ?_; refine blk_put (cs := #[.int .i64 aB, .int .i64 aC, .string aD, .string aE, .int .i64 aH, .int .i64 0, .int .i64 0, .int .i64 0, .int .i64 0, .int .i64 0, .slice none 0 0]) ?_ 5 _ rfl; refine BD ?_; refine blk_put (cs := #[.int .i64 aB, .int .i64 aC, .string aD, .string aE, .int .i64 0, .int .i64 0, .int .i64 0, .int .i64 0, .int .i64 0, .int .i64 0, .slice none 0 0]) ?_ 4 _ rfl; refine BD ?_; refine blk_put (cs := #[.int .i64 aB, .int .i64 aC, .string aD, .string (⟨#[]⟩ : ByteArray), .int .i64 0, .int .i64 0, .int .i64 0, .int .i64 0, .int .i64 0, .int .i64 0, .slice none 0 0]) ?_ 3 _ rfl; refine BD ?_; refine blk_put (cs := #[.int .i64 aB, .int .i64 aC, .string (⟨#[]⟩ : ByteArray), .string (⟨#[]⟩ : ByteArray), .int .i64 0, .int .i64 0, .int .i64 0, .int .i64 0, .int .i64 0, .int .i64 0, .slice none 0 0]) ?_ 2 _ rfl; refine BD ?_; refine blk_put (cs := #[.int .i64 aB, .int .i64 0, .string (⟨#[]⟩ : ByteArray), .string (⟨#[]⟩ : ByteArray), .int .i64 0, .int .i64 0, .int .i64 0, .int .i64 0, .int .i64 0, .int .i64 0, .slice none 0 0]) ?_ 1 _ rfl; refine BD ?_; refine blk_put (cs := #[.int .i64 0, .int .i64 0, .string (⟨#[]⟩ : ByteArray), .string (⟨#[]⟩ : ByteArray), .int .i64 0, .int .i64 0, .int .i64 0, .int .i64 0, .int .i64 0, .int .i64 0, .slice none 0 0]) ?_ 0 _ rfl; refine BD ?_; refine blk_far ?_ aI.out _; refine BD ?_; refine blk_far ?_ aI.out _; refine BD ?_; exact aO.out) Tryz.underlying48 rfl (by kernel_rfl)) rfl ?_; exact ⟨_, ER, by refine KW ?_; exact Kd.R_mono (Kd.R_far (p := ⟨aA, 10, none⟩) (Kd.R_far (p := ⟨aA, 9, none⟩) (Kd.R_far (p := ⟨aA, 8, none⟩) (Kd.R_far (p := ⟨aA, 7, none⟩) (Kd.R_far (p := ⟨aA, 6, none⟩) (Kd.R_far (p := ⟨aA, 5, none⟩) (Kd.R_far (p := ⟨aA, 4, none⟩) (Kd.R_far (p := ⟨aA, 3, none⟩) (Kd.R_far (p := ⟨aA, 2, none⟩) (Kd.R_far (p := ⟨aA, 1, none⟩) (Kd.R_far (p := ⟨aA, 0, none⟩) (Kd.R_far (p := ⟨bA, 10, none⟩) (Kd.R_far (p := ⟨bA, 9, none⟩) (Kd.R_types (Kd.R_types bB.out aG.out (by decide)) aO.out (by decide)) (fun _ hk => hk.1.2) (.int .i64 aS)) (fun _ hk => hk.1.2) (.slice cQ aW.length cR)) (fun _ hk => hk.2) (.int .i64 aB)) (fun _ hk => hk.2) (.int .i64 aC)) (fun _ hk => hk.2) (.string aD)) (fun _ hk => hk.2) (.string aE)) (fun _ hk => hk.2) (.int .i64 aH)) (fun _ hk => hk.2) (.int .i64 aJ)) (fun _ hk => hk.2) (.int .i64 aK)) (fun _ hk => hk.2) (.int .i64 aL)) (fun _ hk => hk.2) (.int .i64 aM)) (fun _ hk => hk.2) (.int .i64 aS)) (fun _ hk => hk.2) (.slice cQ aW.length cR)) (fun _ hk => trivial), K2 HB aN.out aY.out⟩
def spec_l10Tun.l0 : Nat → List (S48) → Int → Int → Option (Int × Bool)
 | 0, _, _, _ => none
 | k + 1, x0, x1, x6 => if x6 < (x0.length : Int) then (if 0 ≤ x6 then (if ((rd_T48 x0 x6).f1) < x1 then (spec_l10Tun.l0 k x0 x1 (wrap64 (x6 + 1))) else (some (x6, (((rd_T48 x0 x6).f1) == x1)))) else (none)) else (some (x6, false))
def spec_l10Tun.f (k : Nat) (l0 : List (S48)) (a1 : Int) : Option (Int × Bool) := spec_l10Tun.l0 k l0 a1 0
theorem spec_l10Tun.calls (k : Nat) (A0 : Option Addr) (c0 : Nat) (l0 : List (S48)) (a1 : Int) (r1 : Int) (r2 : Bool) (w : World) (bS : Kd.C k48 w A0 l0.length l0) (bT : l0.length ≤ c0) (h : spec_l10Tun.f k l0 a1 = some (r1, r2)) :
  Calls Tryz.prog 49 #[.slice A0 l0.length c0, .int .i64 a1] w fun e w' => e = .returned (.tuple #[.int .i64 r1, .bool r2]) ∧ Drawn0 w w' := by
 have bQ := Aside0.mk bS; have bU := Aside0.mk bT; clear bS bT; have H : (spec_l10Tun.l0 k l0 a1 0) = some (r1, r2) := h; clear h; have H' := Aside0.mk H; clear H; go_enter Tryz.func49, Tryz.ntmps49
 go_wp2
 repeat (go_quiet (fail); try go_wp2)
 go_loopg [6] k (fun kq v6 w' => ∃ (aA : Int), v6 = .int .i64 aA ∧ Aside0 (spec_l10Tun.l0 kq l0 a1 aA = some (r1, r2)) ∧ Aside0 (kq ≤ k) ∧ Drawn0 w w')
 case atStart => exact ⟨(0), (by first | rfl | (simp; done) | (simp [*]; done)), H', ⟨Nat.le_refl _⟩, by repeat (first | exact Drawn0.refl _ | apply Drawn0.step)⟩
 case round =>
  clear H'; try clear p2
  obtain ⟨aA, rfl, HA, HK1, ⟨m1, rfl⟩⟩ := hrel; cases gk with
  | zero => exact absurd HA.out (by simp [spec_l10Tun.l0])
  | succ k1 =>
   have H := HA.out; clear HA; simp only [spec_l10Tun.l0] at H; by_cases c3 : aA < (l0.length : Int)
   ·rw [if_pos c3] at H
    have c3b0 : decide (aA < (l0.length : Int)) = true := decide_eq_true c3; clear c3; by_cases c4 : 0 ≤ aA
    ·rw [if_pos c4] at H
     have c4b0 : decide (0 ≤ aA) = true := decide_eq_true c4; clear c4; by_cases c5 : ((rd_T48 l0 aA).f1) < a1
     ·rw [if_pos c5] at H
      have c5b0 : decide (((rd_T48 l0 aA).f1) < a1) = true := decide_eq_true c5; clear c5; have H' := Aside0.mk H; clear H; have aG : 0 ≤ (aA : Int) := OD; have aH : aA < (l0.length : Int) := OD; obtain ⟨aX, aL, aM, aY, aN, aO, aP, aQ, aR, aS, aT, aU, aV, aW, aD, aB, aC⟩ := at_T48 bQ.out aA aG aH; cases aY
      have aI := Aside0.mk aC; have aJ := Aside0.mk aB; clear aC aB; replace aG := eq_true aG; replace aH := eq_true aH; go_wp2
      repeat (go_quiet (fail); try go_wp2)
      go_roundg k1
      case measure => have := HK1.out; omega
      case rel => exact ⟨(wrap64 (aA + 1)), (by first | rfl | (simp; done) | (simp [*]; done)), H', ⟨by have := HK1.out; omega⟩, by repeat (first | exact Drawn0.refl _ | apply Drawn0.step)⟩
     ·rw [if_neg c5] at H
      have c5b0 : decide (((rd_T48 l0 aA).f1) < a1) = false := decide_eq_false c5; clear c5; simp only [Option.some.injEq, Prod.mk.injEq] at H; obtain ⟨rfl, rfl⟩ := H; have aG : 0 ≤ (aA : Int) := OD; have aH : aA < (l0.length : Int) := OD; obtain ⟨aX, aL, aM, aY, aN, aO, aP, aQ, aR, aS, aT, aU, aV, aW, aD, aB, aC⟩ := at_T48 bQ.out aA aG aH; cases aY
      have aI := Aside0.mk aC; have aJ := Aside0.mk aB; clear aC aB; replace aG := eq_true aG; replace aH := eq_true aH; have aZ : 0 ≤ (aA : Int) := OD; have bA : aA < (l0.length : Int) := OD; obtain ⟨bB, _, _, bR, _, _, _, _, _, _, _, _, _, _, aK, aE, aF⟩ := at_T48 bQ.out aA aZ bA; obtain rfl : aX = bB := (by injection bR); have bC := Aside0.mk aF; have bD := Aside0.mk aE; clear aF aE; replace aZ := eq_true aZ; replace bA := eq_true bA; have ea_ := Option.some.inj (aD.symm.trans aK); injection ea_ with ea_ en_ ec_
      subst ea_; subst ec_; clear en_; go_wp2
      repeat (go_quiet (fail); try go_wp2)
      go_ret2
      exact ⟨by first | rfl | (simp; done) | (simp [*]; done), by repeat (first | exact Drawn0.refl _ | apply Drawn0.step)⟩
    ·rw [if_neg c4] at H
     exact absurd H (by simp)
   ·rw [if_neg c3] at H
    have c3b0 : decide (aA < (l0.length : Int)) = false := decide_eq_false c3; clear c3; simp only [Option.some.injEq, Prod.mk.injEq] at H; obtain ⟨rfl, rfl⟩ := H; go_wp2
    repeat (go_quiet (fail); try go_wp2)
    go_ret2
    exact ⟨by first | rfl | (simp; done) | (simp [*]; done), by repeat (first | exact Drawn0.refl _ | apply Drawn0.step)⟩
end Go.Proofs.YtgoblfacfjnanaaGreat.PAll
end
