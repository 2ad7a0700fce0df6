/- Contracts of the functions that the statement reaches. -/
import Derived.Test.YtgjbbnmjeblcgaaGreatCFnExactWorldSafe3
import Derived.Test.YtgjbbnmjeblcgaaGreatCFnExactWorldSafe4
set_option maxHeartbeats 8000000
set_option maxRecDepth 100000
section
namespace Go.Proofs.YtgjbbnmjeblcgaaGreat.PAll
open Go.RowKit Go.Proofs.YtgjbbnmjeblcgaaGreatW.PrintWords Go.Proofs.YtgjbbnmjeblcgaaGreatW.PrintLast Go.Proofs.YtgjbbnmjeblcgaaGreatW.PrintMore
attribute [local go_sem] max2_int min2_int max_two min_two max_three min_three max_four min_four
set_option linter.unusedVariables false
set_option linter.unusedSimpArgs false
def laws_toBlock.f (a0_0 : Int) (a0_1 : Int) : Option (Int × Int) := some (a0_0, a0_1)
theorem laws_toBlock.calls (aF : Int) (aL : Int) (r1 : Int) (r2 : Int) (w : World) (h : laws_toBlock.f aF aL = some (r1, r2)) :
  Calls Tryz.prog 67 #[.agg #[.int .i64 aF, .int .i64 aL]] w fun e w' => e = .returned (.agg #[.int .i64 r1, .int .i64 r2]) ∧ Below w.heap.size w w' := by
 have bC := Tryz.underlying109
 have bD := Tryz.underlying105
 have HB := am (Below.refl w.heap.size w)
 have H : (some (aF, aL)) = some (r1, r2) := h
 clear h
 simp only [Option.some.injEq, Prod.mk.injEq] at H
 obtain ⟨rfl, rfl⟩ := H
 go_enter Tryz.func67, Tryz.ntmps67
 go_wp2_with (first | ((with_reducible refine gate_dst (N := 1) rfl ?_); refine box_event rfl (N := 1) rfl (cs := #[.int .i64 aF, .int .i64 aL]) (t := 109) BX ?_; intro bE hg w2 aD hb; have aA := am (aD); have aN := am (GH HB hg); have aE := aN; replace HB := bl (KL HB) hb; clear hb aD hg) | ((with_reducible refine gate_dst (N := 2) rfl ?_); refine box_event rfl (N := 2) rfl (cs := #[.int .i64 0, .int .i64 0]) (t := 105) BX ?_; intro aO hg w3 aD hb; have aC := am (aD); have aP := am (GH1 HB aE.out hg); have aM := aP; replace HB := bl (K1 HB aE.out) hb; have aG := am (NL aA hg); have aH := am (NG aA hg); replace aA := am (BB aA hb); clear hb aD hg) | ((with_reducible refine gate_dst (N := 3) rfl ?_); refine box_event rfl (N := 3) rfl (cs := #[.int .i64 0, .int .i64 0]) (t := 105) BX ?_; intro bF hg w4 aD hb; have aQ := am (aD); have aR := am (GH2 HB aE.out aM.out hg); have aS := aR; replace HB := bl (K2 HB aE.out aM.out) hb; have aI := am (NL aA hg); have aJ := am (NG aA hg); replace aA := am (BB aA hb); have aB := am (NL aC hg); have aK := am (NG aC hg); replace aC := am (BB aC hb); clear hb aD hg; have bG := aG.out; have bH := aH.out; have bI := aI.out; have bJ := aJ.out; have ⟨_, _, _⟩ := y2 w4 aA.out; have bK := aK.out; have bL := aB.out; have ⟨_, _, _⟩ := y2 w4 aQ.out; have ⟨_, _, _⟩ := y2 w4 aC.out))
 refine bodyPost_ret (results_cell_row rfl _ _ aO 105 #[.int .i64 aF, .int .i64 aL] (0, 0) _ rfl (by refine BD ?_; refine blk_put (cs := #[.int .i64 aF, .int .i64 0]) ?_ 1 _ rfl; refine BD ?_; refine blk_put (cs := #[.int .i64 0, .int .i64 0]) ?_ 0 _ rfl; refine BD ?_; refine blk_far ?_ aB.out _; refine BD ?_; refine blk_far ?_ aB.out _; refine BD ?_; exact aC.out) Tryz.underlying105 rfl (by kernel_rfl)) rfl ?_
 exact ⟨ER, K3 HB aE.out aM.out aS.out⟩
def laws_toRule.f (a0_0 : Int) (a0_1 : Int) (a0_2 : Int) (a0_3 : Int) (a0_4 : Int) (a0_5 : Int) (a0_6 : Int) (a0_7 : Int) : Option (Int × Int × Int × Int × Int × Int × Int × Int) := (laws_toBlock.f a0_2 a0_3).bind fun bt104 => ((laws_toBlock.f a0_4 a0_5).bind fun bt106 => (some (a0_0, a0_1, bt104.1, bt104.2, bt106.1, bt106.2, a0_6, a0_7)))
theorem laws_toRule.calls (aC : Int) (aE : Int) (aO : Int) (aP : Int) (aK : Int) (aL : Int) (aJ : Int) (aM : Int) (r1 : Int) (r2 : Int) (r3 : Int) (r4 : Int) (r5 : Int) (r6 : Int) (r7 : Int) (r8 : Int) (w : World) (h : laws_toRule.f aC aE aO aP aK aL aJ aM = some (r1, r2, r3, r4, r5, r6, r7, r8)) :
  Calls Tryz.prog 47 #[.agg #[.int .i64 aC, .int .i64 aE, .int .i64 aO, .int .i64 aP, .int .i64 aK, .int .i64 aL, .int .i64 aJ, .int .i64 aM]] w fun e w' => e = .returned (.agg #[.int .i64 r1, .int .i64 r2, .int .i64 r3, .int .i64 r4, .int .i64 r5, .int .i64 r6, .int .i64 r7, .int .i64 r8]) ∧ Below w.heap.size w w' := by
 have dT := Tryz.underlying111
 have dU := Tryz.underlying107
 have dV := Tryz.underlying109
 have dW := Tryz.underlying105
 have HB := am (Below.refl w.heap.size w)
 have H : ((laws_toBlock.f aO aP).bind fun bB => ((laws_toBlock.f aK aL).bind fun aQ => (some (aC, aE, bB.1, bB.2, aQ.1, aQ.2, aJ, aM)))) = some (r1, r2, r3, r4, r5, r6, r7, r8) := h
 clear h
 replace H := bm H
 obtain ⟨⟨aG, aN⟩, dX, H⟩ := H
 replace H : ((laws_toBlock.f aK aL).bind fun aQ => (some (aC, aE, aG, aN, aQ.1, aQ.2, aJ, aM))) = some (r1, r2, r3, r4, r5, r6, r7, r8) := H
 have A2 := Aside0.mk dX
 clear dX
 replace H := bm H
 obtain ⟨⟨aT, aY⟩, dY, H⟩ := H
 replace H : (some (aC, aE, aG, aN, aT, aY, aJ, aM)) = some (r1, r2, r3, r4, r5, r6, r7, r8) := H
 have A3 := Aside0.mk dY
 clear dY
 simp only [Option.some.injEq, Prod.mk.injEq] at H
 obtain ⟨rfl, rfl, rfl, rfl, rfl, rfl, rfl, rfl⟩ := H
 go_enter Tryz.func47, Tryz.ntmps47
 go_wp2_with (first | ((with_reducible refine gate_dst (N := 1) rfl ?_); refine box_event rfl (N := 1) rfl (cs := #[.int .i64 aC, .int .i64 aE, .int .i64 aO, .int .i64 aP, .int .i64 aK, .int .i64 aL, .int .i64 aJ, .int .i64 aM]) (t := 111) BX ?_; intro bC hg w4 aR hb; have aB := am (aR); have bE := am (GH HB hg); have aH := bE; replace HB := bl (KL HB) hb; clear hb aR hg) | ((with_reducible refine gate_dst (N := 2) rfl ?_); refine box_event rfl (N := 2) rfl (cs := #[.int .i64 0, .int .i64 0, .int .i64 0, .int .i64 0, .int .i64 0, .int .i64 0, .int .i64 0, .int .i64 0]) (t := 107) BX ?_; intro aZ hg w5 aR hb; have aF := am (aR); have bF := am (GH1 HB aH.out hg); have aS := bF; replace HB := bl (K1 HB aH.out) hb; have aU := am (NL aB hg); have aV := am (NG aB hg); replace aB := am (BB aB hb); clear hb aR hg) | ((with_reducible refine gate_dst (N := 3) rfl ?_); refine box_event rfl (N := 3) rfl (cs := #[.int .i64 0, .int .i64 0, .int .i64 0, .int .i64 0, .int .i64 0, .int .i64 0, .int .i64 0, .int .i64 0]) (t := 107) BX ?_; intro bD hg w6 aR hb; have aI := am (aR); have bG := am (GH2 HB aH.out aS.out hg); have bA := bG; replace HB := bl (K2 HB aH.out aS.out) hb; have aD := am (NL aB hg); have aW := am (NG aB hg); replace aB := am (BB aB hb); have aA := am (NL aF hg); have aX := am (NG aF hg); replace aF := am (BB aF hb); clear hb aR hg; have eC := aU.out; have eD := aV.out; have eE := aD.out; have eF := aW.out; have ⟨_, _, _, _, _, _, _, _, _⟩ := y8 w6 aB.out; have dZ := aX.out; have eA := aA.out; have ⟨_, _, _, _, _, _, _, _, _⟩ := y8 w6 aI.out) | ((with_reducible refine gate_callee (f := 67) rfl ?_); refine goesL_ (some 12) rfl rfl Tryz.func67 (by kernel_rfl) rfl #[.agg #[.int .i64 aO, .int .i64 aP]] rfl MT ?_; (with_reducible refine (laws_toBlock.calls aO aP aG aN _ A2.out).mono ?_); rintro e eB ⟨rfl, hb⟩; refine ⟨_, rfl, ?_⟩; replace aB := am (blk_below (g := bC) (o := .cells #[.int .i64 aC, .int .i64 aE, .int .i64 aO, .int .i64 aP, .int .i64 aK, .int .i64 aL, .int .i64 aJ, .int .i64 aM] 111 (0, 0)) (by refine BD ?_; refine blk_far ?_ aD.out _; refine BD ?_; refine blk_far ?_ aD.out _; refine BD ?_; exact aB.out) hb); replace aF := am (blk_below (g := aZ) (o := .cells #[.int .i64 0, .int .i64 0, .int .i64 0, .int .i64 0, .int .i64 0, .int .i64 0, .int .i64 0, .int .i64 0] 107 (0, 0)) (by refine BD ?_; refine blk_far ?_ aA.out _; refine BD ?_; refine blk_far ?_ aA.out _; refine BD ?_; exact aF.out) hb); replace aI := am (blk_below (g := bD) (o := .cells #[.int .i64 aC, .int .i64 aE, .int .i64 0, .int .i64 0, .int .i64 0, .int .i64 0, .int .i64 0, .int .i64 0] 107 (0, 0)) (by refine BD ?_; refine blk_put (cs := #[.int .i64 aC, .int .i64 0, .int .i64 0, .int .i64 0, .int .i64 0, .int .i64 0, .int .i64 0, .int .i64 0]) ?_ 1 _ rfl; refine BD ?_; refine blk_put (cs := #[.int .i64 0, .int .i64 0, .int .i64 0, .int .i64 0, .int .i64 0, .int .i64 0, .int .i64 0, .int .i64 0]) ?_ 0 _ rfl; refine BD ?_; exact aI.out) hb); replace HB := bl (K3 HB aH.out aS.out bA.out) hb; (try clear hb); (try clear hb2); (try clear hk); (try clear hi); have ⟨_, _, _, _, _, _, _, _, _⟩ := y8 eB aI.out; have ⟨_, _, _, _, _, _, _, _, _⟩ := y8 eB aB.out) | ((with_reducible refine gate_callee (f := 67) rfl ?_); refine goesL_ (some 16) rfl rfl Tryz.func67 (by kernel_rfl) rfl #[.agg #[.int .i64 aK, .int .i64 aL]] rfl MT ?_; (with_reducible refine (laws_toBlock.calls aK aL aT aY _ A3.out).mono ?_); rintro e dS ⟨rfl, hb⟩; refine ⟨_, rfl, ?_⟩; replace aB := am (blk_below (g := bC) (o := .cells #[.int .i64 aC, .int .i64 aE, .int .i64 aO, .int .i64 aP, .int .i64 aK, .int .i64 aL, .int .i64 aJ, .int .i64 aM] 111 (0, 0)) (by refine BD ?_; refine blk_far ?_ aD.out _; refine BD ?_; refine blk_far ?_ aD.out _; refine BD ?_; exact aB.out) hb); replace aF := am (blk_below (g := aZ) (o := .cells #[.int .i64 0, .int .i64 0, .int .i64 0, .int .i64 0, .int .i64 0, .int .i64 0, .int .i64 0, .int .i64 0] 107 (0, 0)) (by refine BD ?_; refine blk_far ?_ aA.out _; refine BD ?_; refine blk_far ?_ aA.out _; refine BD ?_; exact aF.out) hb); replace aI := am (blk_below (g := bD) (o := .cells #[.int .i64 aC, .int .i64 aE, .int .i64 aG, .int .i64 aN, .int .i64 0, .int .i64 0, .int .i64 0, .int .i64 0] 107 (0, 0)) (by refine BD ?_; refine blk_put (cs := #[.int .i64 aC, .int .i64 aE, .int .i64 aG, .int .i64 0, .int .i64 0, .int .i64 0, .int .i64 0, .int .i64 0]) ?_ 3 _ rfl; refine BD ?_; refine blk_put (cs := #[.int .i64 aC, .int .i64 aE, .int .i64 0, .int .i64 0, .int .i64 0, .int .i64 0, .int .i64 0, .int .i64 0]) ?_ 2 _ rfl; refine BD ?_; exact aI.out) hb); replace HB := bl (K3 HB aH.out aS.out bA.out) hb; (try clear hb); (try clear hb2); (try clear hk); (try clear hi); have ⟨_, _, _, _, _, _, _, _, _⟩ := y8 dS aI.out; have ⟨_, _, _, _, _, _, _, _, _⟩ := y8 dS aB.out; have ⟨_, _, _, _, _, _, _, _, _⟩ := y8 dS aF.out))
 refine bodyPost_ret (results_cell_row rfl _ _ aZ 107 #[.int .i64 aC, .int .i64 aE, .int .i64 aG, .int .i64 aN, .int .i64 aT, .int .i64 aY, .int .i64 aJ, .int .i64 aM] (0, 0) _ rfl (by refine BD ?_; refine blk_put (cs := #[.int .i64 aC, .int .i64 aE, .int .i64 aG, .int .i64 aN, .int .i64 aT, .int .i64 aY, .int .i64 aJ, .int .i64 0]) ?_ 7 _ rfl; refine BD ?_; refine blk_put (cs := #[.int .i64 aC, .int .i64 aE, .int .i64 aG, .int .i64 aN, .int .i64 aT, .int .i64 aY, .int .i64 0, .int .i64 0]) ?_ 6 _ rfl; refine BD ?_; refine blk_put (cs := #[.int .i64 aC, .int .i64 aE, .int .i64 aG, .int .i64 aN, .int .i64 aT, .int .i64 0, .int .i64 0, .int .i64 0]) ?_ 5 _ rfl; refine BD ?_; refine blk_put (cs := #[.int .i64 aC, .int .i64 aE, .int .i64 aG, .int .i64 aN, .int .i64 0, .int .i64 0, .int .i64 0, .int .i64 0]) ?_ 4 _ rfl; refine BD ?_; refine blk_put (cs := #[.int .i64 aC, .int .i64 aE, .int .i64 aG, .int .i64 0, .int .i64 0, .int .i64 0, .int .i64 0, .int .i64 0]) ?_ 3 _ rfl; refine BD ?_; refine blk_put (cs := #[.int .i64 aC, .int .i64 aE, .int .i64 0, .int .i64 0, .int .i64 0, .int .i64 0, .int .i64 0, .int .i64 0]) ?_ 2 _ rfl; refine BD ?_; refine blk_put (cs := #[.int .i64 aC, .int .i64 0, .int .i64 0, .int .i64 0, .int .i64 0, .int .i64 0, .int .i64 0, .int .i64 0]) ?_ 1 _ rfl; refine BD ?_; refine blk_put (cs := #[.int .i64 0, .int .i64 0, .int .i64 0, .int .i64 0, .int .i64 0, .int .i64 0, .int .i64 0, .int .i64 0]) ?_ 0 _ rfl; refine BD ?_; refine blk_far ?_ aA.out _; refine BD ?_; refine blk_far ?_ aA.out _; refine BD ?_; refine blk_far ?_ aA.out _; refine BD ?_; refine blk_far ?_ aA.out _; refine BD ?_; exact aF.out) Tryz.underlying107 rfl (by kernel_rfl)) rfl ?_
 exact ⟨ER, K3 HB aH.out aS.out bA.out⟩
def laws_toRuleS.l0 : Nat → List (S111) → List (S107) → Int → Option ((List (S107)))
 | 0, _, _, _ => none
 | k + 1, x0, x3, x4 => if x4 < (x0.length : Int) then (if 0 ≤ x4 then ((laws_toRule.f ((rd_T111 x0 x4).f0) ((rd_T111 x0 x4).f1) ((rd_T111 x0 x4).f2.f0) ((rd_T111 x0 x4).f2.f1) ((rd_T111 x0 x4).f3.f0) ((rd_T111 x0 x4).f3.f1) ((rd_T111 x0 x4).f4) ((rd_T111 x0 x4).f5)).bind fun bt105 => (if x4 < (x3.length : Int) then (laws_toRuleS.l0 k x0 (x3.set (x4 : Int).toNat (⟨bt105.1, bt105.2.1, (⟨bt105.2.2.1, bt105.2.2.2.1⟩ : S105), (⟨bt105.2.2.2.2.1, bt105.2.2.2.2.2.1⟩ : S105), bt105.2.2.2.2.2.2.1, bt105.2.2.2.2.2.2.2⟩ : S107)) (wrap64 (x4 + 1))) else (none))) else (none)) else (some x3)
def laws_toRuleS.f (k : Nat) (l0 : List (S111)) : Option ((List (S107))) := if 0 ≤ (l0.length : Int) then (if ((l0.length : Int) : Int).toNat ≤ 4398046511104 then (laws_toRuleS.l0 k l0 (List.replicate ((l0.length : Int) : Int).toNat z107) 0) else (none)) else (none)
theorem laws_toRuleS.calls (k : Nat) (A0 : Option Addr) (c0 : Nat) (l0 : List (S111)) (r : List (S107)) (w : World) (cU : Kd.C k111 w A0 l0.length l0) (cV : l0.length ≤ c0) (h : laws_toRuleS.f k l0 = some r) :
  Calls Tryz.prog 27 #[.slice A0 l0.length c0] w fun e w' => ∃ v0_ : Value, e = .returned (v0_) ∧ Kd.R k107 107 w' w.heap.size (fun _ => True) v0_ r ∧ Below w.heap.size w w' := by
 have cW := Tryz.underlying111
 have cX := Tryz.underlying107
 have dA := Aside0.mk cU
 have dB := Aside0.mk cV
 clear cU cV
 have HB := am (Below.refl w.heap.size w)
 have H : (if 0 ≤ (l0.length : Int) then (if ((l0.length : Int) : Int).toNat ≤ 4398046511104 then (laws_toRuleS.l0 k l0 (List.replicate ((l0.length : Int) : Int).toNat z107) 0) else (none)) else (none)) = some r := h
 clear h
 by_cases c2 : 0 ≤ (l0.length : Int)
 ·rw [if_pos c2] at H
  have c2b0 := eq_true c2
  have c2b1 : decide (0 ≤ (l0.length : Int)) = true := decide_eq_true c2
  clear c2
  by_cases c3 : ((l0.length : Int) : Int).toNat ≤ 4398046511104
  ·rw [if_pos c3] at H
   have c3b0 := eq_true c3
   have c3b1 : decide (((l0.length : Int) : Int).toNat ≤ 4398046511104) = true := decide_eq_true c3
   clear c3
   obtain ⟨bT, aI⟩ : ∃ y_ : List (S107), y_ = (List.replicate ((l0.length : Int) : Int).toNat z107) := ⟨_, rfl⟩
   replace H : (laws_toRuleS.l0 k l0 bT 0) = some r := by first | (rw [aI]; with_reducible exact H) | (have H2_ := (Option.bind_some _ _).symm.trans H; rw [aI]; with_reducible exact H2_) | (have H2_ := (Option.bind_some _ _).symm.trans H; with_reducible exact H2_) | with_reducible exact H | (rw [aI]; exact H) | exact H
   have Ny101 := Aside0.mk aI
   clear aI
   have H' := Aside0.mk H
   clear H
   go_enter Tryz.func27, Tryz.ntmps27
   go_wp2_with (first | ((with_reducible refine gate_dst (N := 7) rfl ?_); refine Kd.R_make k107 _ 107 rfl (N := 7) rfl 35 _ _ rfl (l0.length : Int) rfl rfl Tryz.underlying35 (.agg #[(.int .i64 0), (.int .i64 0), (.int .i64 0), (.int .i64 0), (.int .i64 0), (.int .i64 0), (.int .i64 0), (.int .i64 0)]) 64 info107 rfl (by decide) (by omega) z107 (ok := fun _ => True) (okp := fun _ => True) (k107_mkM _ _ _ z107 ) (fun _ hk => hk) trivial (OD) (Nat.le_trans (Nat.mul_le_mul_right _ (OD : (l0.length : Int).toNat ≤ 4398046511104)) (by omega)) (Below.refl _ _) (Nat.le_refl _) ?_; intro bZ w4 bU hb hg_ hnew_; clear hg_ hnew_; (first | rw [← Ny101.out] at bU | (simp only [Int.reduceToNat] at bU; rw [← Ny101.out] at bU)); have bV := am (Kd.R_lower bU (below_size (KL HB))); replace HB := bl (KL HB) hb; clear hb bU))
   go_loopg [4] k (fun kq v4 w' => ∃ (aB : List (S107)) (aA : Int), v4 = .int .i64 aA ∧ Aside0 (laws_toRuleS.l0 kq l0 aB aA = some r) ∧ Aside0 (kq ≤ k) ∧ Aside0 (Kd.R k107 107 w' w.heap.size (fun _ => True) bZ aB) ∧ Aside0 (Below w.heap.size w w'))
   case atStart => exact ⟨(bT), (0), (by first | rfl | (simp; done) | (simp [*]; done)), H', ⟨Nat.le_refl _⟩, ⟨KR bV⟩, ⟨KL HB⟩⟩
   case round =>
    clear H'
    try clear c2
    try clear c2b0
    try clear c2b1
    try clear p2
    try clear c3
    try clear c3b0
    try clear c3b1
    obtain ⟨aB, aA, rfl, HA, HK1, aG, HB⟩ := hrel
    cases gk with
    | zero => exact absurd HA.out (by simp [laws_toRuleS.l0])
    | succ k1 =>
     have H := HA.out
     clear HA
     simp only [laws_toRuleS.l0] at H
     by_cases c6 : aA < (l0.length : Int)
     ·rw [if_pos c6] at H
      have c6b0 : decide (aA < (l0.length : Int)) = true := decide_eq_true c6
      clear c6
      by_cases c7 : 0 ≤ aA
      ·rw [if_pos c7] at H
       have c7b0 : decide (0 ≤ aA) = true := decide_eq_true c7
       clear c7
       replace H := bm H
       obtain ⟨⟨aK, aL, aM, aN, aO, aP, aQ, aR⟩, cY, H⟩ := H
       replace H : (if aA < (aB.length : Int) then (laws_toRuleS.l0 k1 l0 (aB.set (aA : Int).toNat (⟨aK, aL, (⟨aM, aN⟩ : S105), (⟨aO, aP⟩ : S105), aQ, aR⟩ : S107)) (wrap64 (aA + 1))) else (none)) = some r := H
       have A8 := Aside0.mk cY
       clear cY
       by_cases c9 : aA < (aB.length : Int)
       ·rw [if_pos c9] at H
        have c9b0 : decide (aA < (aB.length : Int)) = true := decide_eq_true c9
        clear c9
        obtain ⟨bA, aJ⟩ : ∃ y_ : List (S107), y_ = (aB.set (aA : Int).toNat (⟨aK, aL, (⟨aM, aN⟩ : S105), (⟨aO, aP⟩ : S105), aQ, aR⟩ : S107)) := ⟨_, rfl⟩
        replace H : (laws_toRuleS.l0 k1 l0 bA (wrap64 (aA + 1))) = some r := by first | (rw [aJ]; with_reducible exact H) | (have H2_ := (Option.bind_some _ _).symm.trans H; rw [aJ]; with_reducible exact H2_) | (have H2_ := (Option.bind_some _ _).symm.trans H; with_reducible exact H2_) | with_reducible exact H | (rw [aJ]; exact H) | exact H
        have Ny113 := Aside0.mk aJ
        clear aJ
        have H' := Aside0.mk H
        clear H
        have bB : 0 ≤ (aA : Int) := OD
        have bC : aA < (l0.length : Int) := OD
        obtain ⟨_, cA, aS, aT, aU, aV, aW, aX, aY, aZ⟩ := at_T111 dA.out aA bB bC
        cases cA
        replace aS := CX HB.out aS
        replace aT := CX HB.out aT
        replace aU := CX HB.out aU
        replace aV := CX HB.out aV
        replace aW := CX HB.out aW
        replace aX := CX HB.out aX
        replace aY := CX HB.out aY
        replace aZ := CX HB.out aZ
        replace bB := eq_true bB
        replace bC := eq_true bC
        go_wp2_with (first | ((with_reducible refine gate_callee (f := 47) rfl ?_); refine goesL_ (some 20) rfl rfl Tryz.func47 (by kernel_rfl) rfl #[.agg #[.int .i64 ((rd_T111 l0 aA).f0), .int .i64 ((rd_T111 l0 aA).f1), .int .i64 ((rd_T111 l0 aA).f2.f0), .int .i64 ((rd_T111 l0 aA).f2.f1), .int .i64 ((rd_T111 l0 aA).f3.f0), .int .i64 ((rd_T111 l0 aA).f3.f1), .int .i64 ((rd_T111 l0 aA).f4), .int .i64 ((rd_T111 l0 aA).f5)]] rfl MT ?_; (with_reducible refine (laws_toRule.calls ((rd_T111 l0 aA).f0) ((rd_T111 l0 aA).f1) ((rd_T111 l0 aA).f2.f0) ((rd_T111 l0 aA).f2.f1) ((rd_T111 l0 aA).f3.f0) ((rd_T111 l0 aA).f3.f1) ((rd_T111 l0 aA).f4) ((rd_T111 l0 aA).f5) aK aL aM aN aO aP aQ aR _ A8.out).mono ?_); rintro e aH ⟨rfl, hb⟩; refine ⟨_, rfl, ?_⟩; replace aG := am (Kd.R_below (KR aG) hb); replace HB := bl (KL HB) hb; (try clear hb); have cB : 0 ≤ (aA : Int) := OD; have cC : (aA : Int) < ((aB.length : Int) : Int) := OD; obtain ⟨go10, bW, bX, bY, gl10, cl10, HG10⟩ := Kd.R_form aG.out (by omega); (first | cases bX | (injection bX with ea_ en_ ec_; (first | subst ea_ | (injection ea_ with ea_; subst ea_)); subst ec_; clear en_)); have GB10 := Aside0.mk bY; have GG10 := Aside0.mk HG10; clear bY gl10 HG10; obtain ⟨ce10, hcl10, hM10, aD, aE⟩ := Kd.R_elem aG.out z107 (aA : Int) cB cC; obtain rfl := k107_openM hM10; have cD : aH.cell? ⟨go10, (aA : Int).toNat * 8, none⟩ = some (.int .i64 ((rd_T107 aB aA).f0)) := aD 0 _ rfl; have cE : aH.cell? ⟨go10, (aA : Int).toNat * 8 + 1, none⟩ = some (.int .i64 ((rd_T107 aB aA).f1)) := aD 1 _ rfl; have cF : aH.cell? ⟨go10, (aA : Int).toNat * 8 + 2, none⟩ = some (.int .i64 ((rd_T107 aB aA).f2.f0)) := aD 2 _ rfl; have cG : aH.cell? ⟨go10, (aA : Int).toNat * 8 + 3, none⟩ = some (.int .i64 ((rd_T107 aB aA).f2.f1)) := aD 3 _ rfl; have cH : aH.cell? ⟨go10, (aA : Int).toNat * 8 + 4, none⟩ = some (.int .i64 ((rd_T107 aB aA).f3.f0)) := aD 4 _ rfl; have cI : aH.cell? ⟨go10, (aA : Int).toNat * 8 + 5, none⟩ = some (.int .i64 ((rd_T107 aB aA).f3.f1)) := aD 5 _ rfl; have cJ : aH.cell? ⟨go10, (aA : Int).toNat * 8 + 6, none⟩ = some (.int .i64 ((rd_T107 aB aA).f4)) := aD 6 _ rfl; have cK : aH.cell? ⟨go10, (aA : Int).toNat * 8 + 7, none⟩ = some (.int .i64 ((rd_T107 aB aA).f5)) := aD 7 _ rfl; have cL : aH.frozen? ⟨go10, (aA : Int).toNat * 8, none⟩ = false := aE 0; have cM : aH.frozen? ⟨go10, (aA : Int).toNat * 8 + 1, none⟩ = false := aE 1; have cN : aH.frozen? ⟨go10, (aA : Int).toNat * 8 + 2, none⟩ = false := aE 2; have cO : aH.frozen? ⟨go10, (aA : Int).toNat * 8 + 3, none⟩ = false := aE 3; have cP : aH.frozen? ⟨go10, (aA : Int).toNat * 8 + 4, none⟩ = false := aE 4; have cQ : aH.frozen? ⟨go10, (aA : Int).toNat * 8 + 5, none⟩ = false := aE 5; have cR : aH.frozen? ⟨go10, (aA : Int).toNat * 8 + 6, none⟩ = false := aE 6; have cS : aH.frozen? ⟨go10, (aA : Int).toNat * 8 + 7, none⟩ = false := aE 7; clear hcl10 aD aE hM10; replace cB := eq_true cB; replace cC := eq_true cC; have HX12 := am (show Kd.R k107 107 aH w.heap.size (fun _ => True) (.slice (some ⟨go10, 0, none⟩) aB.length bW) aB from (KR aG)); obtain ⟨ce12, hcl12, hM12, aC, aF⟩ := Kd.R_elem HX12.out z107 (aA : Int) (OD) (by have h_ : (aA : Int) < ((aB.length : Int) : Int) := OD; first | exact h_ | (have e_ := (Kd.R_reads' aG.out).1; omega) | simpa using h_); obtain rfl := k107_openM hM12; have HP12 := Kd.R_seg HX12.out (aA : Int) (OD) (by have h_ : (aA : Int) < ((aB.length : Int) : Int) := OD; first | exact h_ | (have e_ := (Kd.R_reads' aG.out).1; omega) | simpa using h_) (seg := [.int .i64 aK, .int .i64 aL, .int .i64 aM, .int .i64 aN, .int .i64 aO, .int .i64 aP, .int .i64 aQ, .int .i64 aR]) (j := 0) hcl12 aC (show 8 ≤ 8 from by decide) (x' := (⟨aK, aL, (⟨aM, aN⟩ : S105), (⟨aO, aP⟩ : S105), aQ, aR⟩ : S107)) (k107_mkM _ _ _ (⟨aK, aL, (⟨aM, aN⟩ : S105), (⟨aO, aP⟩ : S105), aQ, aR⟩ : S107) ) (fun _ hk => hk); have bD := aC 0 _ rfl; (try simp only [show (k107).sz = 8 from rfl, Nat.mul_one, Nat.add_zero] at bD); have bE := aF 0; (try simp only [show (k107).sz = 8 from rfl, Nat.mul_one, Nat.add_zero] at bE); have bF := aC 1 _ rfl; (try simp only [show (k107).sz = 8 from rfl, Nat.mul_one, Nat.add_zero] at bF); have bG := aF 1; (try simp only [show (k107).sz = 8 from rfl, Nat.mul_one, Nat.add_zero] at bG); have bH := aC 2 _ rfl; (try simp only [show (k107).sz = 8 from rfl, Nat.mul_one, Nat.add_zero] at bH); have bI := aF 2; (try simp only [show (k107).sz = 8 from rfl, Nat.mul_one, Nat.add_zero] at bI); have bJ := aC 3 _ rfl; (try simp only [show (k107).sz = 8 from rfl, Nat.mul_one, Nat.add_zero] at bJ); have bK := aF 3; (try simp only [show (k107).sz = 8 from rfl, Nat.mul_one, Nat.add_zero] at bK); have bL := aC 4 _ rfl; (try simp only [show (k107).sz = 8 from rfl, Nat.mul_one, Nat.add_zero] at bL); have bM := aF 4; (try simp only [show (k107).sz = 8 from rfl, Nat.mul_one, Nat.add_zero] at bM); have bN := aC 5 _ rfl; (try simp only [show (k107).sz = 8 from rfl, Nat.mul_one, Nat.add_zero] at bN); have bO := aF 5; (try simp only [show (k107).sz = 8 from rfl, Nat.mul_one, Nat.add_zero] at bO); have bP := aC 6 _ rfl; (try simp only [show (k107).sz = 8 from rfl, Nat.mul_one, Nat.add_zero] at bP); have bQ := aF 6; (try simp only [show (k107).sz = 8 from rfl, Nat.mul_one, Nat.add_zero] at bQ); have bR := aC 7 _ rfl; (try simp only [show (k107).sz = 8 from rfl, Nat.mul_one, Nat.add_zero] at bR); have bS := aF 7; (try simp only [show (k107).sz = 8 from rfl, Nat.mul_one, Nat.add_zero] at bS); clear hcl12 aC aF hM12) | ((with_reducible refine gate_store (t := 107) (p := 21) rfl ?_); refine store_event (t := 107) (p := 21) (v := ?vo_w13) (w1 := ((((((((aH.setCell ⟨go10, (aA : Int).toNat * 8, none⟩ (.int .i64 aK)).setCell ⟨go10, (aA : Int).toNat * 8 + 1, none⟩ (.int .i64 aL)).setCell ⟨go10, (aA : Int).toNat * 8 + 2, none⟩ (.int .i64 aM)).setCell ⟨go10, (aA : Int).toNat * 8 + 3, none⟩ (.int .i64 aN)).setCell ⟨go10, (aA : Int).toNat * 8 + 4, none⟩ (.int .i64 aO)).setCell ⟨go10, (aA : Int).toNat * 8 + 5, none⟩ (.int .i64 aP)).setCell ⟨go10, (aA : Int).toNat * 8 + 6, none⟩ (.int .i64 aQ)).setCell ⟨go10, (aA : Int).toNat * 8 + 7, none⟩ (.int .i64 aR))) ?hg ?ho ?hn ?hr ?_; (case ho => rfl); (case hg => rfl); (case hn => rfl); (case hr => first | (go_simp; done) | (go_simp; rfl)); intro cT hw; have hg : aH.grownBy cT (some go10) := (by rw [hw]; exact HP12.2); have hp_ : Kd.R k107 107 cT w.heap.size (fun _ => True) (.slice (some ⟨go10, 0, none⟩) aB.length bW) bA := (by rw [hw, Ny113.out]; exact HP12.1); clear HP12; replace aG := am (hp_); replace HB := am ((by rw [hw]; exact below_set (below_set (below_set (below_set (below_set (below_set (below_set (below_set (HB.out) GB10.out) GB10.out) GB10.out) GB10.out) GB10.out) GB10.out) GB10.out) GB10.out : Below w.heap.size w cT)); clear hg hw hp_))
        go_roundg k1
        case measure => have := HK1.out; omega
        case rel => exact ⟨(bA), (wrap64 (aA + 1)), (by first | rfl | (simp; done) | (simp [*]; done)), H', ⟨by have := HK1.out; omega⟩, ⟨KR aG⟩, ⟨KL HB⟩⟩
       ·rw [if_neg c9] at H
        exact absurd H (by simp)
      ·rw [if_neg c7] at H
       exact absurd H (by simp)
     ·rw [if_neg c6] at H
      have c6b0 : decide (aA < (l0.length : Int)) = false := decide_eq_false c6
      clear c6
      obtain rfl := sj H
      go_wp2
      go_ret
      exact ⟨_, ER, by refine KW ?_; exact aG.out, KL HB⟩
  ·rw [if_neg c3] at H
   exact absurd H (by simp)
 ·rw [if_neg c2] at H
  exact absurd H (by simp)
def laws_toCall.f (a0_0 : Int) (a0_1 : Int) (a0_2 : Int) : Option (Int × Int × Int) := some (a0_0, a0_1, a0_2)
theorem laws_toCall.calls (aF : Int) (aG : Int) (aM : Int) (r1 : Int) (r2 : Int) (r3 : Int) (w : World) (h : laws_toCall.f aF aG aM = some (r1, r2, r3)) :
  Calls Tryz.prog 83 #[.agg #[.int .i64 aF, .int .i64 aG, .int .i64 aM]] w fun e w' => e = .returned (.agg #[.int .i64 r1, .int .i64 r2, .int .i64 r3]) ∧ Below w.heap.size w w' := by
 have bG := Tryz.underlying134
 have bH := Tryz.underlying126
 have HB := am (Below.refl w.heap.size w)
 have H : (some (aF, aG, aM)) = some (r1, r2, r3) := h
 clear h
 simp only [Option.some.injEq, Prod.mk.injEq] at H
 obtain ⟨rfl, rfl, rfl⟩ := H
 go_enter Tryz.func83, Tryz.ntmps83
 go_wp2_with (first | ((with_reducible refine gate_dst (N := 1) rfl ?_); refine box_event rfl (N := 1) rfl (cs := #[.int .i64 aF, .int .i64 aG, .int .i64 aM]) (t := 134) BX ?_; intro bI hg w2 aD hb; have aB := am (aD); have aO := am (GH HB hg); have aE := aO; replace HB := bl (KL HB) hb; clear hb aD hg) | ((with_reducible refine gate_dst (N := 2) rfl ?_); refine box_event rfl (N := 2) rfl (cs := #[.int .i64 0, .int .i64 0, .int .i64 0]) (t := 126) BX ?_; intro aP hg w3 aD hb; have aC := am (aD); have aQ := am (GH1 HB aE.out hg); have aN := aQ; replace HB := bl (K1 HB aE.out) hb; have aH := am (NL aB hg); have aI := am (NG aB hg); replace aB := am (BB aB hb); clear hb aD hg) | ((with_reducible refine gate_dst (N := 3) rfl ?_); refine box_event rfl (N := 3) rfl (cs := #[.int .i64 0, .int .i64 0, .int .i64 0]) (t := 126) BX ?_; intro bJ hg w4 aD hb; have aR := am (aD); have aS := am (GH2 HB aE.out aN.out hg); have aT := aS; replace HB := bl (K2 HB aE.out aN.out) hb; have aJ := am (NL aB hg); have aK := am (NG aB hg); replace aB := am (BB aB hb); have aA := am (NL aC hg); have aL := am (NG aC hg); replace aC := am (BB aC hb); clear hb aD hg; have bK := aH.out; have bL := aI.out; have bM := aJ.out; have bN := aK.out; have ⟨_, _, _, _⟩ := y3 w4 aB.out; have bO := aL.out; have bP := aA.out; have ⟨_, _, _, _⟩ := y3 w4 aR.out; have ⟨_, _, _, _⟩ := y3 w4 aC.out))
 refine bodyPost_ret (results_cell_row rfl _ _ aP 126 #[.int .i64 aF, .int .i64 aG, .int .i64 aM] (0, 0) _ rfl (by refine BD ?_; refine blk_put (cs := #[.int .i64 aF, .int .i64 aG, .int .i64 0]) ?_ 2 _ rfl; refine BD ?_; refine blk_put (cs := #[.int .i64 aF, .int .i64 0, .int .i64 0]) ?_ 1 _ rfl; refine BD ?_; refine blk_put (cs := #[.int .i64 0, .int .i64 0, .int .i64 0]) ?_ 0 _ rfl; refine BD ?_; refine blk_far ?_ aA.out _; refine BD ?_; refine blk_far ?_ aA.out _; refine BD ?_; refine blk_far ?_ aA.out _; refine BD ?_; exact aC.out) Tryz.underlying126 rfl (by kernel_rfl)) rfl ?_
 exact ⟨ER, K3 HB aE.out aN.out aT.out⟩
def laws_toSeen.f (a0_0 : Int) (a0_1 : Int) (a0_2 : Int) (a0_3 : Int) : Option (Int × Int × Int × Int) := (laws_toCall.f a0_0 a0_1 a0_2).bind fun bt104 => (some (bt104.1, bt104.2.1, bt104.2.2, a0_3))
theorem laws_toSeen.calls (aG : Int) (aH : Int) (aI : Int) (aJ : Int) (r1 : Int) (r2 : Int) (r3 : Int) (r4 : Int) (w : World) (h : laws_toSeen.f aG aH aI aJ = some (r1, r2, r3, r4)) :
  Calls Tryz.prog 68 #[.agg #[.int .i64 aG, .int .i64 aH, .int .i64 aI, .int .i64 aJ]] w fun e w' => e = .returned (.agg #[.int .i64 r1, .int .i64 r2, .int .i64 r3, .int .i64 r4]) ∧ Below w.heap.size w w' := by
 have bT := Tryz.underlying136
 have bU := Tryz.underlying128
 have bV := Tryz.underlying134
 have bW := Tryz.underlying126
 have HB := am (Below.refl w.heap.size w)
 have H : ((laws_toCall.f aG aH aI).bind fun aQ => (some (aQ.1, aQ.2.1, aQ.2.2, aJ))) = some (r1, r2, r3, r4) := h
 clear h
 replace H := bm H
 obtain ⟨⟨aK, aR, aT⟩, bX, H⟩ := H
 replace H : (some (aK, aR, aT, aJ)) = some (r1, r2, r3, r4) := H
 have A2 := Aside0.mk bX
 clear bX
 simp only [Option.some.injEq, Prod.mk.injEq] at H
 obtain ⟨rfl, rfl, rfl, rfl⟩ := H
 go_enter Tryz.func68, Tryz.ntmps68
 go_wp2_with (first | ((with_reducible refine gate_dst (N := 1) rfl ?_); refine box_event rfl (N := 1) rfl (cs := #[.int .i64 aG, .int .i64 aH, .int .i64 aI, .int .i64 aJ]) (t := 136) BX ?_; intro bY hg w3 aE hb; have aB := am (aE); have aV := am (GH HB hg); have aD := aV; replace HB := bl (KL HB) hb; clear hb aE hg) | ((with_reducible refine gate_dst (N := 2) rfl ?_); refine box_event rfl (N := 2) rfl (cs := #[.int .i64 0, .int .i64 0, .int .i64 0, .int .i64 0]) (t := 128) BX ?_; intro aW hg w4 aE hb; have aC := am (aE); have aX := am (GH1 HB aD.out hg); have aF := aX; replace HB := bl (K1 HB aD.out) hb; have aL := am (NL aB hg); have aM := am (NG aB hg); replace aB := am (BB aB hb); clear hb aE hg) | ((with_reducible refine gate_dst (N := 3) rfl ?_); refine box_event rfl (N := 3) rfl (cs := #[.int .i64 0, .int .i64 0, .int .i64 0, .int .i64 0]) (t := 128) BX ?_; intro bZ hg w5 aE hb; have aS := am (aE); have aY := am (GH2 HB aD.out aF.out hg); have aU := aY; replace HB := bl (K2 HB aD.out aF.out) hb; have aN := am (NL aB hg); have aO := am (NG aB hg); replace aB := am (BB aB hb); have aA := am (NL aC hg); have aP := am (NG aC hg); replace aC := am (BB aC hb); clear hb aE hg; have cC := aL.out; have cD := aM.out; have cE := aN.out; have cF := aO.out; have ⟨_, _, _, _, _⟩ := y4 w5 aB.out) | ((with_reducible refine gate_callee (f := 83) rfl ?_); refine goesL_ (some 6) rfl rfl Tryz.func83 (by kernel_rfl) rfl #[.agg #[.int .i64 aG, .int .i64 aH, .int .i64 aI]] rfl MT ?_; (with_reducible refine (laws_toCall.calls aG aH aI aK aR aT _ A2.out).mono ?_); rintro e w9 ⟨rfl, hb⟩; refine ⟨_, rfl, ?_⟩; replace aB := am (BB aB hb); replace aC := am (BB aC hb); replace aS := am (BB aS hb); replace HB := bl (K3 HB aD.out aF.out aU.out) hb; (try clear hb); have cA := aP.out; have cB := aA.out; have ⟨_, _, _, _, _⟩ := y4 w9 aS.out; have ⟨_, _, _, _, _⟩ := y4 w9 aB.out; have ⟨_, _, _, _, _⟩ := y4 w9 aC.out))
 refine bodyPost_ret (results_cell_row rfl _ _ aW 128 #[.int .i64 aK, .int .i64 aR, .int .i64 aT, .int .i64 aJ] (0, 0) _ rfl (by refine BD ?_; refine blk_put (cs := #[.int .i64 aK, .int .i64 aR, .int .i64 aT, .int .i64 0]) ?_ 3 _ rfl; refine BD ?_; refine blk_put (cs := #[.int .i64 aK, .int .i64 aR, .int .i64 0, .int .i64 0]) ?_ 2 _ rfl; refine BD ?_; refine blk_put (cs := #[.int .i64 aK, .int .i64 0, .int .i64 0, .int .i64 0]) ?_ 1 _ rfl; refine BD ?_; refine blk_put (cs := #[.int .i64 0, .int .i64 0, .int .i64 0, .int .i64 0]) ?_ 0 _ rfl; refine BD ?_; refine blk_far ?_ aA.out _; refine BD ?_; refine blk_far ?_ aA.out _; refine BD ?_; refine blk_far ?_ aA.out _; refine BD ?_; refine blk_far ?_ aA.out _; refine BD ?_; exact aC.out) Tryz.underlying128 rfl (by kernel_rfl)) rfl ?_
 exact ⟨ER, K3 HB aD.out aF.out aU.out⟩
def laws_toSeenS.l0 : Nat → List (S136) → List (S128) → Int → Option ((List (S128)))
 | 0, _, _, _ => none
 | k + 1, x0, x3, x4 => if x4 < (x0.length : Int) then (if 0 ≤ x4 then ((laws_toSeen.f ((rd_T136 x0 x4).f0.f0) ((rd_T136 x0 x4).f0.f1) ((rd_T136 x0 x4).f0.f2) ((rd_T136 x0 x4).f1)).bind fun bt105 => (if x4 < (x3.length : Int) then (laws_toSeenS.l0 k x0 (x3.set (x4 : Int).toNat (⟨(⟨bt105.1, bt105.2.1, bt105.2.2.1⟩ : S126), bt105.2.2.2⟩ : S128)) (wrap64 (x4 + 1))) else (none))) else (none)) else (some x3)
def laws_toSeenS.f (k : Nat) (l0 : List (S136)) : Option ((List (S128))) := if 0 ≤ (l0.length : Int) then (if ((l0.length : Int) : Int).toNat ≤ 8796093022208 then (laws_toSeenS.l0 k l0 (List.replicate ((l0.length : Int) : Int).toNat z128) 0) else (none)) else (none)
theorem laws_toSeenS.calls (k : Nat) (A0 : Option Addr) (c0 : Nat) (l0 : List (S136)) (r : List (S128)) (w : World) (bW : Kd.C k136 w A0 l0.length l0) (bX : l0.length ≤ c0) (h : laws_toSeenS.f k l0 = some r) :
  Calls Tryz.prog 48 #[.slice A0 l0.length c0] w fun e w' => ∃ v0_ : Value, e = .returned (v0_) ∧ Kd.R k128 128 w' w.heap.size (fun _ => True) v0_ r ∧ Below w.heap.size w w' := by
 have bY := Tryz.underlying136
 have bZ := Tryz.underlying128
 have cC := Aside0.mk bW
 have cD := Aside0.mk bX
 clear bW bX
 have HB := am (Below.refl w.heap.size w)
 have H : (if 0 ≤ (l0.length : Int) then (if ((l0.length : Int) : Int).toNat ≤ 8796093022208 then (laws_toSeenS.l0 k l0 (List.replicate ((l0.length : Int) : Int).toNat z128) 0) else (none)) else (none)) = some r := h
 clear h
 by_cases c2 : 0 ≤ (l0.length : Int)
 ·rw [if_pos c2] at H
  have c2b0 := eq_true c2
  have c2b1 : decide (0 ≤ (l0.length : Int)) = true := decide_eq_true c2
  clear c2
  by_cases c3 : ((l0.length : Int) : Int).toNat ≤ 8796093022208
  ·rw [if_pos c3] at H
   have c3b0 := eq_true c3
   have c3b1 : decide (((l0.length : Int) : Int).toNat ≤ 8796093022208) = true := decide_eq_true c3
   clear c3
   obtain ⟨bD, aE⟩ : ∃ y_ : List (S128), y_ = (List.replicate ((l0.length : Int) : Int).toNat z128) := ⟨_, rfl⟩
   replace H : (laws_toSeenS.l0 k l0 bD 0) = some r := by first | (rw [aE]; with_reducible exact H) | (have H2_ := (Option.bind_some _ _).symm.trans H; rw [aE]; with_reducible exact H2_) | (have H2_ := (Option.bind_some _ _).symm.trans H; with_reducible exact H2_) | with_reducible exact H | (rw [aE]; exact H) | exact H
   have Ny101 := Aside0.mk aE
   clear aE
   have H' := Aside0.mk H
   clear H
   go_enter Tryz.func48, Tryz.ntmps48
   go_wp2_with (first | ((with_reducible refine gate_dst (N := 7) rfl ?_); refine Kd.R_make k128 _ 128 rfl (N := 7) rfl 36 _ _ rfl (l0.length : Int) rfl rfl Tryz.underlying36 (.agg #[(.int .i64 0), (.int .i64 0), (.int .i64 0), (.int .i64 0)]) 32 info128 rfl (by decide) (by omega) z128 (ok := fun _ => True) (okp := fun _ => True) (k128_mkM _ _ _ z128 ) (fun _ hk => hk) trivial (OD) (Nat.le_trans (Nat.mul_le_mul_right _ (OD : (l0.length : Int).toNat ≤ 8796093022208)) (by omega)) (Below.refl _ _) (Nat.le_refl _) ?_; intro bJ w4 bE hb hg_ hnew_; clear hg_ hnew_; (first | rw [← Ny101.out] at bE | (simp only [Int.reduceToNat] at bE; rw [← Ny101.out] at bE)); have bF := am (Kd.R_lower bE (below_size (KL HB))); replace HB := bl (KL HB) hb; clear hb bE))
   go_loopg [4] k (fun kq v4 w' => ∃ (aB : List (S128)) (aA : Int), v4 = .int .i64 aA ∧ Aside0 (laws_toSeenS.l0 kq l0 aB aA = some r) ∧ Aside0 (kq ≤ k) ∧ Aside0 (Kd.R k128 128 w' w.heap.size (fun _ => True) bJ aB) ∧ Aside0 (Below w.heap.size w w'))
   case atStart => exact ⟨(bD), (0), (by first | rfl | (simp; done) | (simp [*]; done)), H', ⟨Nat.le_refl _⟩, ⟨KR bF⟩, ⟨KL HB⟩⟩
   case round =>
    clear H'
    try clear c2
    try clear c2b0
    try clear c2b1
    try clear p2
    try clear c3
    try clear c3b0
    try clear c3b1
    try clear c4
    obtain ⟨aB, aA, rfl, HA, HK1, aC, HB⟩ := hrel
    cases gk with
    | zero => exact absurd HA.out (by simp [laws_toSeenS.l0])
    | succ k1 =>
     have H := HA.out
     clear HA
     simp only [laws_toSeenS.l0] at H
     by_cases c6 : aA < (l0.length : Int)
     ·rw [if_pos c6] at H
      have c6b0 : decide (aA < (l0.length : Int)) = true := decide_eq_true c6
      clear c6
      by_cases c7 : 0 ≤ aA
      ·rw [if_pos c7] at H
       have c7b0 : decide (0 ≤ aA) = true := decide_eq_true c7
       clear c7
       replace H := bm H
       obtain ⟨⟨aJ, aK, aL, aM⟩, cA, H⟩ := H
       replace H : (if aA < (aB.length : Int) then (laws_toSeenS.l0 k1 l0 (aB.set (aA : Int).toNat (⟨(⟨aJ, aK, aL⟩ : S126), aM⟩ : S128)) (wrap64 (aA + 1))) else (none)) = some r := H
       have A8 := Aside0.mk cA
       clear cA
       by_cases c9 : aA < (aB.length : Int)
       ·rw [if_pos c9] at H
        have c9b0 : decide (aA < (aB.length : Int)) = true := decide_eq_true c9
        clear c9
        obtain ⟨aS, aF⟩ : ∃ y_ : List (S128), y_ = (aB.set (aA : Int).toNat (⟨(⟨aJ, aK, aL⟩ : S126), aM⟩ : S128)) := ⟨_, rfl⟩
        replace H : (laws_toSeenS.l0 k1 l0 aS (wrap64 (aA + 1))) = some r := by first | (rw [aF]; with_reducible exact H) | (have H2_ := (Option.bind_some _ _).symm.trans H; rw [aF]; with_reducible exact H2_) | (have H2_ := (Option.bind_some _ _).symm.trans H; with_reducible exact H2_) | with_reducible exact H | (rw [aF]; exact H) | exact H
        have Ny109 := Aside0.mk aF
        clear aF
        have H' := Aside0.mk H
        clear H
        have aT : 0 ≤ (aA : Int) := OD
        have aU : aA < (l0.length : Int) := OD
        obtain ⟨_, bK, aN, aO, aP, aQ⟩ := at_T136 cC.out aA aT aU
        cases bK
        replace aN := CX HB.out aN
        replace aO := CX HB.out aO
        replace aP := CX HB.out aP
        replace aQ := CX HB.out aQ
        replace aT := eq_true aT
        replace aU := eq_true aU
        go_wp2_with (first | ((with_reducible refine gate_callee (f := 68) rfl ?_); refine goesL_ (some 20) rfl rfl Tryz.func68 (by kernel_rfl) rfl #[.agg #[.int .i64 ((rd_T136 l0 aA).f0.f0), .int .i64 ((rd_T136 l0 aA).f0.f1), .int .i64 ((rd_T136 l0 aA).f0.f2), .int .i64 ((rd_T136 l0 aA).f1)]] rfl MT ?_; (with_reducible refine (laws_toSeen.calls ((rd_T136 l0 aA).f0.f0) ((rd_T136 l0 aA).f0.f1) ((rd_T136 l0 aA).f0.f2) ((rd_T136 l0 aA).f1) aJ aK aL aM _ A8.out).mono ?_); rintro e aR ⟨rfl, hb⟩; refine ⟨_, rfl, ?_⟩; replace aC := am (Kd.R_below (KR aC) hb); replace HB := bl (KL HB) hb; (try clear hb); have bL : 0 ≤ (aA : Int) := OD; have bM : (aA : Int) < ((aB.length : Int) : Int) := OD; obtain ⟨go10, bG, bH, bI, gl10, cl10, HG10⟩ := Kd.R_form aC.out (by omega); (first | cases bH | (injection bH with ea_ en_ ec_; (first | subst ea_ | (injection ea_ with ea_; subst ea_)); subst ec_; clear en_)); have GB10 := Aside0.mk bI; have GG10 := Aside0.mk HG10; clear bI gl10 HG10; obtain ⟨ce10, hcl10, hM10, aG, aH⟩ := Kd.R_elem aC.out z128 (aA : Int) bL bM; obtain rfl := k128_openM hM10; have bN : aR.cell? ⟨go10, (aA : Int).toNat * 4, none⟩ = some (.int .i64 ((rd_T128 aB aA).f0.f0)) := aG 0 _ rfl; have bO : aR.cell? ⟨go10, (aA : Int).toNat * 4 + 1, none⟩ = some (.int .i64 ((rd_T128 aB aA).f0.f1)) := aG 1 _ rfl; have bP : aR.cell? ⟨go10, (aA : Int).toNat * 4 + 2, none⟩ = some (.int .i64 ((rd_T128 aB aA).f0.f2)) := aG 2 _ rfl; have bQ : aR.cell? ⟨go10, (aA : Int).toNat * 4 + 3, none⟩ = some (.int .i64 ((rd_T128 aB aA).f1)) := aG 3 _ rfl; have bR : aR.frozen? ⟨go10, (aA : Int).toNat * 4, none⟩ = false := aH 0; have bS : aR.frozen? ⟨go10, (aA : Int).toNat * 4 + 1, none⟩ = false := aH 1; have bT : aR.frozen? ⟨go10, (aA : Int).toNat * 4 + 2, none⟩ = false := aH 2; have bU : aR.frozen? ⟨go10, (aA : Int).toNat * 4 + 3, none⟩ = false := aH 3; clear hcl10 aG aH hM10; replace bL := eq_true bL; replace bM := eq_true bM; have HX12 := am (show Kd.R k128 128 aR w.heap.size (fun _ => True) (.slice (some ⟨go10, 0, none⟩) aB.length bG) aB from (KR aC)); obtain ⟨ce12, hcl12, hM12, aD, aI⟩ := Kd.R_elem HX12.out z128 (aA : Int) (OD) (by have h_ : (aA : Int) < ((aB.length : Int) : Int) := OD; first | exact h_ | (have e_ := (Kd.R_reads' aC.out).1; omega) | simpa using h_); obtain rfl := k128_openM hM12; have HP12 := Kd.R_seg HX12.out (aA : Int) (OD) (by have h_ : (aA : Int) < ((aB.length : Int) : Int) := OD; first | exact h_ | (have e_ := (Kd.R_reads' aC.out).1; omega) | simpa using h_) (seg := [.int .i64 aJ, .int .i64 aK, .int .i64 aL, .int .i64 aM]) (j := 0) hcl12 aD (show 4 ≤ 4 from by decide) (x' := (⟨(⟨aJ, aK, aL⟩ : S126), aM⟩ : S128)) (k128_mkM _ _ _ (⟨(⟨aJ, aK, aL⟩ : S126), aM⟩ : S128) ) (fun _ hk => hk); have aV := aD 0 _ rfl; (try simp only [show (k128).sz = 4 from rfl, Nat.mul_one, Nat.add_zero] at aV); have aW := aI 0; (try simp only [show (k128).sz = 4 from rfl, Nat.mul_one, Nat.add_zero] at aW); have aX := aD 1 _ rfl; (try simp only [show (k128).sz = 4 from rfl, Nat.mul_one, Nat.add_zero] at aX); have aY := aI 1; (try simp only [show (k128).sz = 4 from rfl, Nat.mul_one, Nat.add_zero] at aY); have aZ := aD 2 _ rfl; (try simp only [show (k128).sz = 4 from rfl, Nat.mul_one, Nat.add_zero] at aZ); have bA := aI 2; (try simp only [show (k128).sz = 4 from rfl, Nat.mul_one, Nat.add_zero] at bA); have bB := aD 3 _ rfl; (try simp only [show (k128).sz = 4 from rfl, Nat.mul_one, Nat.add_zero] at bB); have bC := aI 3; (try simp only [show (k128).sz = 4 from rfl, Nat.mul_one, Nat.add_zero] at bC); clear hcl12 aD aI hM12) | ((with_reducible refine gate_store (t := 128) (p := 21) rfl ?_); refine store_event (t := 128) (p := 21) (v := ?vo_w13) (w1 := ((((aR.setCell ⟨go10, (aA : Int).toNat * 4, none⟩ (.int .i64 aJ)).setCell ⟨go10, (aA : Int).toNat * 4 + 1, none⟩ (.int .i64 aK)).setCell ⟨go10, (aA : Int).toNat * 4 + 2, none⟩ (.int .i64 aL)).setCell ⟨go10, (aA : Int).toNat * 4 + 3, none⟩ (.int .i64 aM))) ?hg ?ho ?hn ?hr ?_; (case ho => rfl); (case hg => rfl); (case hn => rfl); (case hr => first | (go_simp; done) | (go_simp; rfl)); intro bV hw; have hg : aR.grownBy bV (some go10) := (by rw [hw]; exact HP12.2); have hp_ : Kd.R k128 128 bV w.heap.size (fun _ => True) (.slice (some ⟨go10, 0, none⟩) aB.length bG) aS := (by rw [hw, Ny109.out]; exact HP12.1); clear HP12; replace aC := am (hp_); replace HB := am ((by rw [hw]; exact below_set (below_set (below_set (below_set (HB.out) GB10.out) GB10.out) GB10.out) GB10.out : Below w.heap.size w bV)); clear hg hw hp_))
        go_roundg k1
        case measure => have := HK1.out; omega
        case rel => exact ⟨(aS), (wrap64 (aA + 1)), (by first | rfl | (simp; done) | (simp [*]; done)), H', ⟨by have := HK1.out; omega⟩, ⟨KR aC⟩, ⟨KL HB⟩⟩
       ·rw [if_neg c9] at H
        exact absurd H (by simp)
      ·rw [if_neg c7] at H
       exact absurd H (by simp)
     ·rw [if_neg c6] at H
      have c6b0 : decide (aA < (l0.length : Int)) = false := decide_eq_false c6
      clear c6
      obtain rfl := sj H
      go_wp2
      go_ret
      exact ⟨_, ER, by refine KW ?_; exact aC.out, KL HB⟩
  ·rw [if_neg c3] at H
   exact absurd H (by simp)
 ·rw [if_neg c2] at H
  exact absurd H (by simp)
def laws_toCache.f (k : Nat) (a0_0 : Int) (l0_1 : List (S136)) : Option (Int × (List (S128))) := (laws_toSeenS.f k l0_1).bind fun t104 => (some (a0_0, t104))
theorem laws_toCache.calls (k : Nat) (aE : Int) (aR : Option Addr) (aS : Nat) (aF : List (S136)) (r1 : Int) (r2 : List (S128)) (w : World) (aT : Kd.C k136 w aR aF.length aF) (aU : aF.length ≤ aS) (h : laws_toCache.f k aE aF = some (r1, r2)) :
  Calls Tryz.prog 28 #[.agg #[.int .i64 aE, .slice aR aF.length aS]] w fun e w' => ∃ v1_ : Value, e = .returned (.agg #[.int .i64 r1, v1_]) ∧ Kd.R k128 128 w' w.heap.size (fun _ => True) v1_ r2 ∧ Below w.heap.size w w' := by
 have bV := Tryz.underlying25
 have bW := Tryz.underlying38
 have aZ := Aside0.mk aT
 have bA := Aside0.mk aU
 clear aT aU
 have HB := am (Below.refl w.heap.size w)
 have H : ((laws_toSeenS.f k aF).bind fun aK => (some (aE, aK))) = some (r1, r2) := h
 clear h
 replace H := bm H
 obtain ⟨aK, bS, H⟩ := H
 replace H : (some (aE, aK)) = some (r1, r2) := H
 have A2 := Aside0.mk bS
 clear bS
 simp only [Option.some.injEq, Prod.mk.injEq] at H
 obtain ⟨rfl, rfl⟩ := H
 go_enter Tryz.func28, Tryz.ntmps28
 go_wp2_with (first | ((with_reducible refine gate_dst (N := 1) rfl ?_); refine box_event rfl (N := 1) rfl (cs := #[.int .i64 aE, .slice aR aF.length aS]) (t := 25) BX ?_; intro bB hg w3 aI hb; have aA := am (aI); have bC := am (GH HB hg); have aD := bC; replace HB := bl (KL HB) hb; clear hb aI hg) | ((with_reducible refine gate_dst (N := 2) rfl ?_); refine box_event rfl (N := 2) rfl (cs := #[.int .i64 0, .slice none 0 0]) (t := 38) BX ?_; intro aL hg w4 aI hb; have aB := am (aI); have bD := am (GH1 HB aD.out hg); have aG := bD; replace HB := bl (K1 HB aD.out) hb; have aN := am (NL aA hg); have aO := am (NG aA hg); replace aA := am (BB aA hb); clear hb aI hg) | ((with_reducible refine gate_dst (N := 3) rfl ?_); refine box_event rfl (N := 3) rfl (cs := #[.int .i64 0, .slice none 0 0]) (t := 38) BX ?_; intro aV hg w5 aI hb; have aJ := am (aI); have bE := am (GH2 HB aD.out aG.out hg); have aM := bE; replace HB := bl (K2 HB aD.out aG.out) hb; have aH := am (NL aA hg); have aP := am (NG aA hg); replace aA := am (BB aA hb); have aC := am (NL aB hg); have aQ := am (NG aB hg); replace aB := am (BB aB hb); clear hb aI hg; have bX := aN.out; have bY := aO.out; have bZ := aH.out; have cA := aP.out; have ⟨_, _, _⟩ := y2 w5 aA.out; have cB := aQ.out; have cC := aC.out; have ⟨_, _, _⟩ := y2 w5 aJ.out) | ((with_reducible refine gate_callee (f := 48) rfl ?_); refine goesL_ (some 9) rfl rfl Tryz.func48 (by kernel_rfl) rfl #[.slice aR aF.length aS] rfl MT ?_; (with_reducible refine (laws_toSeenS.calls k _ _ aF aK _ ?_ ?_ A2.out).mono ?_); exact Kd.C_below aZ.out (K3 HB aD.out aG.out aM.out); exact bA.out; rintro e bT ⟨cD, rfl, bU, hb⟩; refine ⟨_, rfl, ?_⟩; have aW := am (Kd.R_lower bU (below_size (K3 HB aD.out aG.out aM.out))); replace aA := am (blk_below (g := bB) (o := .cells #[.int .i64 aE, .slice aR aF.length aS] 25 (0, 0)) (by refine BD ?_; refine blk_far ?_ aH.out _; refine BD ?_; exact aA.out) hb); replace aB := am (blk_below (g := aL) (o := .cells #[.int .i64 0, .slice none 0 0] 38 (0, 0)) (by refine BD ?_; refine blk_far ?_ aC.out _; refine BD ?_; exact aB.out) hb); replace aJ := am (blk_below (g := aV) (o := .cells #[.int .i64 aE, .slice none 0 0] 38 (0, 0)) (by refine BD ?_; refine blk_put (cs := #[.int .i64 0, .slice none 0 0]) ?_ 0 _ rfl; refine BD ?_; exact aJ.out) hb); replace HB := bl (K3 HB aD.out aG.out aM.out) hb; (try clear hb); (try clear hb2); (try clear hk); (try clear hi); (try clear bU); obtain ⟨aX, aY, bR⟩ := Kd.R_slice aW.out; subst bR; have ⟨_, _, _⟩ := y2 bT aJ.out; have ⟨_, _, _⟩ := y2 bT aB.out))
 refine bodyPost_ret (results_cell_row rfl _ _ aL 38 #[.int .i64 aE, .slice aX aK.length aY] (0, 0) _ rfl (by refine BD ?_; refine blk_put (cs := #[.int .i64 aE, .slice none 0 0]) ?_ 1 _ rfl; refine BD ?_; refine blk_put (cs := #[.int .i64 0, .slice none 0 0]) ?_ 0 _ rfl; refine BD ?_; refine blk_far ?_ aC.out _; refine BD ?_; exact aB.out) Tryz.underlying38 rfl (by kernel_rfl)) rfl ?_
 exact ⟨_, ER, by refine KW ?_; exact Kd.R_mono (Kd.R_far (p := ⟨aL, 1, none⟩) (Kd.R_far (p := ⟨aL, 0, none⟩) (Kd.R_far (p := ⟨aV, 1, none⟩) (Kd.R_types (Kd.R_types aW.out aJ.out (by decide)) aB.out (by decide)) (fun _ hk => hk.1.2) (.slice aX aK.length aY)) (fun _ hk => hk.2) (.int .i64 aE)) (fun _ hk => hk.2) (.slice aX aK.length aY)) (fun _ hk => trivial), K3 HB aD.out aG.out aM.out⟩
def laws_toIntS.l0 : Nat → List Int → List Int → Int → Option (List Int)
 | 0, _, _, _ => none
 | k + 1, x0, x3, x4 => if x4 < (x0.length : Int) then (if 0 ≤ x4 then (if x4 < (x3.length : Int) then (laws_toIntS.l0 k x0 (x3.set (x4 : Int).toNat (rd x0 x4)) (wrap64 (x4 + 1))) else (none)) else (none)) else (some x3)
def laws_toIntS.f (k : Nat) (l0 : List Int) : Option (List Int) := if 0 ≤ (l0.length : Int) then (if ((l0.length : Int) : Int).toNat ≤ 35184372088832 then (laws_toIntS.l0 k l0 (List.replicate ((l0.length : Int) : Int).toNat 0) 0) else (none)) else (none)
theorem laws_toIntS.calls (k : Nat) (A0 : Option Addr) (c0 : Nat) (l0 : List Int) (r : List Int) (w : World) (aP : Kd.C (Kd.int .i64) w A0 l0.length l0) (aQ : l0.length ≤ c0) (h : laws_toIntS.f k l0 = some r) :
  Calls Tryz.prog 84 #[.slice A0 l0.length c0] w fun e w' => ∃ v0_ : Value, e = .returned (v0_) ∧ Kd.R (Kd.int .i64) 3 w' w.heap.size (fun _ => True) v0_ r ∧ Below w.heap.size w w' := by
 have aW := Aside0.mk aP
 have aY := Aside0.mk aQ
 clear aP aQ
 have HB := am (Below.refl w.heap.size w)
 have H : (if 0 ≤ (l0.length : Int) then (if ((l0.length : Int) : Int).toNat ≤ 35184372088832 then (laws_toIntS.l0 k l0 (List.replicate ((l0.length : Int) : Int).toNat 0) 0) else (none)) else (none)) = some r := h
 clear h
 by_cases c2 : 0 ≤ (l0.length : Int)
 ·rw [if_pos c2] at H
  have c2b0 := eq_true c2
  have c2b1 : decide (0 ≤ (l0.length : Int)) = true := decide_eq_true c2
  clear c2
  by_cases c3 : ((l0.length : Int) : Int).toNat ≤ 35184372088832
  ·rw [if_pos c3] at H
   have c3b0 := eq_true c3
   have c3b1 : decide (((l0.length : Int) : Int).toNat ≤ 35184372088832) = true := decide_eq_true c3
   clear c3
   obtain ⟨aJ, aB⟩ : ∃ y_ : List Int, y_ = (List.replicate ((l0.length : Int) : Int).toNat 0) := ⟨_, rfl⟩
   replace H : (laws_toIntS.l0 k l0 aJ 0) = some r := by first | (rw [aB]; with_reducible exact H) | (have H2_ := (Option.bind_some _ _).symm.trans H; rw [aB]; with_reducible exact H2_) | (have H2_ := (Option.bind_some _ _).symm.trans H; with_reducible exact H2_) | with_reducible exact H | (rw [aB]; exact H) | exact H
   have Ny101 := Aside0.mk aB
   clear aB
   have H' := Aside0.mk H
   clear H
   go_enter Tryz.func84, Tryz.ntmps84
   go_wp2_with (first | ((with_reducible refine gate_dst (N := 7) rfl ?_); refine Kd.R_make (Kd.int .i64) _ 3 rfl (N := 7) rfl 92 _ _ rfl (l0.length : Int) rfl rfl Tryz.underlying92 (.int .i64 0) 8 info3 rfl (by decide) (by omega) 0 (ok := fun _ => True) (okp := fun _ => True) rfl (fun _ hk => hk) trivial (OD) (Nat.le_trans (Nat.mul_le_mul_right _ (OD : (l0.length : Int).toNat ≤ 35184372088832)) (by omega)) (Below.refl _ _) (Nat.le_refl _) ?_; intro aM w4 aK hb hg_ hnew_; clear hg_ hnew_; (first | rw [← Ny101.out] at aK | (simp only [Int.reduceToNat] at aK; rw [← Ny101.out] at aK)); have aL := am (Kd.R_lower aK (below_size (KL HB))); replace HB := bl (KL HB) hb; clear hb aK))
   go_loopg [4] k (fun kq v4 w' => ∃ (aC : List Int) (aA : Int), v4 = .int .i64 aA ∧ Aside0 (laws_toIntS.l0 kq l0 aC aA = some r) ∧ Aside0 (kq ≤ k) ∧ Aside0 (Kd.R (Kd.int .i64) 3 w' w.heap.size (fun _ => True) aM aC) ∧ Aside0 (Below w.heap.size w w'))
   case atStart => exact ⟨(aJ), (0), (by first | rfl | (simp; done) | (simp [*]; done)), H', ⟨Nat.le_refl _⟩, ⟨KR aL⟩, ⟨KL HB⟩⟩
   case round =>
    clear H'
    try clear c2
    try clear c2b0
    try clear c2b1
    try clear p2
    try clear c3
    try clear c3b0
    try clear c3b1
    obtain ⟨aC, aA, rfl, HA, HK1, aF, HB⟩ := hrel
    cases gk with
    | zero => exact absurd HA.out (by simp [laws_toIntS.l0])
    | succ k1 =>
     have H := HA.out
     clear HA
     simp only [laws_toIntS.l0] at H
     by_cases c6 : aA < (l0.length : Int)
     ·rw [if_pos c6] at H
      have c6b0 : decide (aA < (l0.length : Int)) = true := decide_eq_true c6
      clear c6
      by_cases c7 : 0 ≤ aA
      ·rw [if_pos c7] at H
       have c7b0 : decide (0 ≤ aA) = true := decide_eq_true c7
       clear c7
       by_cases c8 : aA < (aC.length : Int)
       ·rw [if_pos c8] at H
        have c8b0 : decide (aA < (aC.length : Int)) = true := decide_eq_true c8
        clear c8
        obtain ⟨aG, aD⟩ : ∃ y_ : List Int, y_ = (aC.set (aA : Int).toNat (rd l0 aA)) := ⟨_, rfl⟩
        replace H : (laws_toIntS.l0 k1 l0 aG (wrap64 (aA + 1))) = some r := by first | (rw [aD]; with_reducible exact H) | (have H2_ := (Option.bind_some _ _).symm.trans H; rw [aD]; with_reducible exact H2_) | (have H2_ := (Option.bind_some _ _).symm.trans H; with_reducible exact H2_) | with_reducible exact H | (rw [aD]; exact H) | exact H
        have Ny105 := Aside0.mk aD
        clear aD
        have H' := Aside0.mk H
        clear H
        have aH : 0 ≤ (aA : Int) := OD
        have aI : aA < (l0.length : Int) := OD
        obtain ⟨_, aN, aE⟩ := Kd.at_int aW.out aA aH aI
        cases aN
        replace aE := CX HB.out aE
        replace aH := eq_true aH
        replace aI := eq_true aI
        have p9 : 0 ≤ (aA : Int) := OD
        have q9 : (aA : Int) < ((aC.length : Int) : Int) := OD
        obtain ⟨go9, aX, aS, aT, gl9, cl9, HG9⟩ := Kd.R_form aF.out (by omega)
        (first | cases aS | (injection aS with ea_ en_ ec_; (first | subst ea_ | (injection ea_ with ea_; subst ea_)); subst ec_; clear en_))
        have GB9 := Aside0.mk aT
        have GG9 := Aside0.mk HG9
        clear aT gl9 HG9
        obtain ⟨_, _⟩ := Kd.R_celln 0 aF.out (aA : Int) p9 q9
        replace p9 := eq_true p9
        replace q9 := eq_true q9
        have HP10 := Kd.R_putg aF.out (aA : Int) (rd l0 aA)
        go_wp2_with (first | ((with_reducible refine gate_store (t := 3) (p := 20) rfl ?_); refine store_event (t := 3) (p := 20) (v := ?vo_w11) (w1 := (wr.setCell ⟨go9, (aA : Int).toNat, none⟩ (.int .i64 (rd l0 aA)))) ?hg ?ho ?hn ?hr ?_; (case ho => rfl); (case hg => rfl); (case hn => rfl); (case hr => first | (go_simp; done) | (go_simp; rfl)); intro aO hw; have hg : wr.grownBy aO (some go9) := (by rw [hw]; exact HP10.2); have hp_ : Kd.R (Kd.int .i64) 3 aO w.heap.size (fun _ => True) (.slice (some ⟨go9, 0, none⟩) aC.length aX) aG := (by rw [hw, Ny105.out]; exact HP10.1); clear HP10; replace aF := am (hp_); replace HB := am ((by rw [hw]; exact below_set (HB.out) GB9.out : Below w.heap.size w aO)); clear hg hw hp_))
        go_roundg k1
        case measure => have := HK1.out; omega
        case rel => exact ⟨(aG), (wrap64 (aA + 1)), (by first | rfl | (simp; done) | (simp [*]; done)), H', ⟨by have := HK1.out; omega⟩, ⟨KR aF⟩, ⟨KL HB⟩⟩
       ·rw [if_neg c8] at H
        exact absurd H (by simp)
      ·rw [if_neg c7] at H
       exact absurd H (by simp)
     ·rw [if_neg c6] at H
      have c6b0 : decide (aA < (l0.length : Int)) = false := decide_eq_false c6
      clear c6
      obtain rfl := sj H
      go_wp2
      go_ret
      exact ⟨_, ER, by refine KW ?_; exact aF.out, KL HB⟩
  ·rw [if_neg c3] at H
   exact absurd H (by simp)
 ·rw [if_neg c2] at H
  exact absurd H (by simp)
def laws_toWindow.f (k : Nat) (a0_0 : Int) (l0_1 : List Int) : Option (Int × List Int) := (laws_toIntS.f k l0_1).bind fun t104 => (some (a0_0, t104))
theorem laws_toWindow.calls (k : Nat) (aE : Int) (aR : Option Addr) (aS : Nat) (aF : List Int) (r1 : Int) (r2 : List Int) (w : World) (aT : Kd.C (Kd.int .i64) w aR aF.length aF) (aU : aF.length ≤ aS) (h : laws_toWindow.f k aE aF = some (r1, r2)) :
  Calls Tryz.prog 69 #[.agg #[.int .i64 aE, .slice aR aF.length aS]] w fun e w' => ∃ v1_ : Value, e = .returned (.agg #[.int .i64 r1, v1_]) ∧ Kd.R (Kd.int .i64) 3 w' w.heap.size (fun _ => True) v1_ r2 ∧ Below w.heap.size w w' := by
 have bW := Tryz.underlying94
 have bS := Tryz.underlying101
 have aZ := Aside0.mk aT
 have bA := Aside0.mk aU
 clear aT aU
 have HB := am (Below.refl w.heap.size w)
 have H : ((laws_toIntS.f k aF).bind fun aK => (some (aE, aK))) = some (r1, r2) := h
 clear h
 replace H := bm H
 obtain ⟨aK, bT, H⟩ := H
 replace H : (some (aE, aK)) = some (r1, r2) := H
 have A2 := Aside0.mk bT
 clear bT
 simp only [Option.some.injEq, Prod.mk.injEq] at H
 obtain ⟨rfl, rfl⟩ := H
 go_enter Tryz.func69, Tryz.ntmps69
 go_wp2_with (first | ((with_reducible refine gate_dst (N := 1) rfl ?_); refine box_event rfl (N := 1) rfl (cs := #[.int .i64 aE, .slice aR aF.length aS]) (t := 94) BX ?_; intro bB hg w3 aI hb; have aA := am (aI); have bC := am (GH HB hg); have aD := bC; replace HB := bl (KL HB) hb; clear hb aI hg) | ((with_reducible refine gate_dst (N := 2) rfl ?_); refine box_event rfl (N := 2) rfl (cs := #[.int .i64 0, .slice none 0 0]) (t := 101) BX ?_; intro aL hg w4 aI hb; have aB := am (aI); have bD := am (GH1 HB aD.out hg); have aG := bD; replace HB := bl (K1 HB aD.out) hb; have aN := am (NL aA hg); have aO := am (NG aA hg); replace aA := am (BB aA hb); clear hb aI hg) | ((with_reducible refine gate_dst (N := 3) rfl ?_); refine box_event rfl (N := 3) rfl (cs := #[.int .i64 0, .slice none 0 0]) (t := 101) BX ?_; intro aV hg w5 aI hb; have aJ := am (aI); have bE := am (GH2 HB aD.out aG.out hg); have aM := bE; replace HB := bl (K2 HB aD.out aG.out) hb; have aH := am (NL aA hg); have aP := am (NG aA hg); replace aA := am (BB aA hb); have aC := am (NL aB hg); have aQ := am (NG aB hg); replace aB := am (BB aB hb); clear hb aI hg; have bX := aN.out; have bY := aO.out; have bZ := aH.out; have cA := aP.out; have ⟨_, _, _⟩ := y2 w5 aA.out; have cB := aQ.out; have cC := aC.out; have ⟨_, _, _⟩ := y2 w5 aJ.out) | ((with_reducible refine gate_callee (f := 84) rfl ?_); refine goesL_ (some 9) rfl rfl Tryz.func84 (by kernel_rfl) rfl #[.slice aR aF.length aS] rfl MT ?_; (with_reducible refine (laws_toIntS.calls k _ _ aF aK _ ?_ ?_ A2.out).mono ?_); exact Kd.C_below aZ.out (K3 HB aD.out aG.out aM.out); exact bA.out; rintro e bU ⟨cD, rfl, bV, hb⟩; refine ⟨_, rfl, ?_⟩; have aW := am (Kd.R_lower bV (below_size (K3 HB aD.out aG.out aM.out))); replace aA := am (blk_below (g := bB) (o := .cells #[.int .i64 aE, .slice aR aF.length aS] 94 (0, 0)) (by refine BD ?_; refine blk_far ?_ aH.out _; refine BD ?_; exact aA.out) hb); replace aB := am (blk_below (g := aL) (o := .cells #[.int .i64 0, .slice none 0 0] 101 (0, 0)) (by refine BD ?_; refine blk_far ?_ aC.out _; refine BD ?_; exact aB.out) hb); replace aJ := am (blk_below (g := aV) (o := .cells #[.int .i64 aE, .slice none 0 0] 101 (0, 0)) (by refine BD ?_; refine blk_put (cs := #[.int .i64 0, .slice none 0 0]) ?_ 0 _ rfl; refine BD ?_; exact aJ.out) hb); replace HB := bl (K3 HB aD.out aG.out aM.out) hb; (try clear hb); (try clear hb2); (try clear hk); (try clear hi); (try clear bV); obtain ⟨aX, aY, bR⟩ := Kd.R_slice aW.out; subst bR; have ⟨_, _, _⟩ := y2 bU aJ.out; have ⟨_, _, _⟩ := y2 bU aB.out))
 refine bodyPost_ret (results_cell_row rfl _ _ aL 101 #[.int .i64 aE, .slice aX aK.length aY] (0, 0) _ rfl (by refine BD ?_; refine blk_put (cs := #[.int .i64 aE, .slice none 0 0]) ?_ 1 _ rfl; refine BD ?_; refine blk_put (cs := #[.int .i64 0, .slice none 0 0]) ?_ 0 _ rfl; refine BD ?_; refine blk_far ?_ aC.out _; refine BD ?_; exact aB.out) Tryz.underlying101 rfl (by kernel_rfl)) rfl ?_
 exact ⟨_, ER, by refine KW ?_; exact Kd.R_mono (Kd.R_far (p := ⟨aL, 1, none⟩) (Kd.R_far (p := ⟨aL, 0, none⟩) (Kd.R_far (p := ⟨aV, 1, none⟩) (Kd.R_types (Kd.R_types aW.out aJ.out (by decide)) aB.out (by decide)) (fun _ hk => hk.1.2) (.slice aX aK.length aY)) (fun _ hk => hk.2) (.int .i64 aE)) (fun _ hk => hk.2) (.slice aX aK.length aY)) (fun _ hk => trivial), K3 HB aD.out aG.out aM.out⟩
def laws_toSa.f (k : Nat) (a0_0 : Int) (a0_1 : Int) (a0_2 : ByteArray) (a0_3 : ByteArray) (a0_4 : Int) (a0_5 : Int) (a0_6 : Int) (a0_7 : Int) (a0_8 : Int) (a0_9 : Int) (l0_10 : List Int) : Option (Int × Int × ByteArray × ByteArray × Int × Int × Int × Int × Int × Int × List Int) := (laws_toWindow.f k a0_9 l0_10).bind fun bt104 => (some (a0_0, a0_1, a0_2, a0_3, a0_4, a0_5, a0_6, a0_7, a0_8, bt104.1, bt104.2))
theorem laws_toSa.calls (k : Nat) (aC : Int) (aD : Int) (aE : ByteArray) (aF : ByteArray) (aH : Int) (aI : Int) (aL : Int) (aN : Int) (aP : Int) (aV : Int) (aR : Option Addr) (aS : Nat) (aK : List Int) (r1 : Int) (r2 : Int) (r3 : ByteArray) (r4 : ByteArray) (r5 : Int) (r6 : Int) (r7 : Int) (r8 : Int) (r9 : Int) (r10 : Int) (r11 : List Int) (w : World) (bC : Kd.C (Kd.int .i64) w aR aK.length aK) (bD : aK.length ≤ aS) (h : laws_toSa.f k aC aD aE aF aH aI aL aN aP aV aK = some (r1, r2, r3, r4, r5, r6, r7, r8, r9, r10, r11)) :
  Calls Tryz.prog 49 #[.agg #[.int .i64 aC, .int .i64 aD, .string aE, .string aF, .int .i64 aH, .int .i64 aI, .int .i64 aL, .int .i64 aN, .int .i64 aP, .int .i64 aV, .slice aR aK.length aS]] w fun e w' => ∃ v10_ : Value, e = .returned (.agg #[.int .i64 r1, .int .i64 r2, .string r3, .string r4, .int .i64 r5, .int .i64 r6, .int .i64 r7, .int .i64 r8, .int .i64 r9, .int .i64 r10, v10_]) ∧ Kd.R (Kd.int .i64) 3 w' w.heap.size (fun _ => True) v10_ r11 ∧ Below w.heap.size w w' := by
 have dS := Tryz.underlying96
 have dN := Tryz.underlying103
 have dT := Tryz.underlying94
 have dO := Tryz.underlying101
 have bI := Aside0.mk bC
 have bJ := Aside0.mk bD
 clear bC bD
 have HB := am (Below.refl w.heap.size w)
 have H : ((laws_toWindow.f k aV aK).bind fun bG => (some (aC, aD, aE, aF, aH, aI, aL, aN, aP, bG.1, bG.2))) = some (r1, r2, r3, r4, r5, r6, r7, r8, r9, r10, r11) := h
 clear h
 replace H := bm H
 obtain ⟨⟨aX, bE⟩, dP, H⟩ := H
 replace H : (some (aC, aD, aE, aF, aH, aI, aL, aN, aP, aX, bE)) = some (r1, r2, r3, r4, r5, r6, r7, r8, r9, r10, r11) := H
 have A2 := Aside0.mk dP
 clear dP
 simp only [Option.some.injEq, Prod.mk.injEq] at H
 obtain ⟨rfl, rfl, rfl, rfl, rfl, rfl, rfl, rfl, rfl, rfl, rfl⟩ := H
 go_enter Tryz.func49, Tryz.ntmps49
 go_wp2_with (first | ((with_reducible refine gate_dst (N := 1) rfl ?_); refine box_event rfl (N := 1) rfl (cs := #[.int .i64 aC, .int .i64 aD, .string aE, .string aF, .int .i64 aH, .int .i64 aI, .int .i64 aL, .int .i64 aN, .int .i64 aP, .int .i64 aV, .slice aR aK.length aS]) (t := 96) BX ?_; intro bM hg w3 aT hb; have aJ := am (aT); have bN := am (GH HB hg); have aO := bN; replace HB := bl (KL HB) hb; clear hb aT hg) | ((with_reducible refine gate_dst (N := 2) rfl ?_); refine box_event rfl (N := 2) rfl (cs := #[.int .i64 0, .int .i64 0, .string (⟨#[]⟩ : ByteArray), .string (⟨#[]⟩ : ByteArray), .int .i64 0, .int .i64 0, .int .i64 0, .int .i64 0, .int .i64 0, .int .i64 0, .slice none 0 0]) (t := 103) BX ?_; intro aG hg w4 aT hb; have aM := am (aT); have bO := am (GH1 HB aO.out hg); have aQ := bO; replace HB := bl (K1 HB aO.out) hb; have aY := am (NL aJ hg); have aZ := am (NG aJ hg); replace aJ := am (BB aJ hb); clear hb aT hg) | ((with_reducible refine gate_dst (N := 3) rfl ?_); refine box_event rfl (N := 3) rfl (cs := #[.int .i64 0, .int .i64 0, .string (⟨#[]⟩ : ByteArray), .string (⟨#[]⟩ : ByteArray), .int .i64 0, .int .i64 0, .int .i64 0, .int .i64 0, .int .i64 0, .int .i64 0, .slice none 0 0]) (t := 103) BX ?_; intro bF hg w5 aT hb; have aU := am (aT); have bP := am (GH2 HB aO.out aQ.out hg); have aW := bP; replace HB := bl (K2 HB aO.out aQ.out) hb; have aB := am (NL aJ hg); have bA := am (NG aJ hg); replace aJ := am (BB aJ hb); have aA := am (NL aM hg); have bB := am (NG aM hg); replace aM := am (BB aM hb); clear hb aT hg; have dU := aY.out; have dV := aZ.out; have dW := aB.out; have dX := bA.out; have ⟨_, _, _, _, _, _, _, _, _, _, _, _⟩ := y11 w5 aJ.out; have dY := bB.out; have dZ := aA.out; have ⟨_, _, _, _, _, _, _, _, _, _, _, _⟩ := y11 w5 aU.out) | ((with_reducible refine gate_callee (f := 69) rfl ?_); refine goesL_ (some 33) rfl rfl Tryz.func69 (by kernel_rfl) rfl #[.agg #[.int .i64 aV, .slice aR aK.length aS]] rfl MT ?_; (with_reducible refine (laws_toWindow.calls k aV _ _ aK aX bE _ ?_ ?_ A2.out).mono ?_); exact Kd.C_below bI.out (K3 HB aO.out aQ.out aW.out); exact bJ.out; rintro e dQ ⟨eA, rfl, dR, hb⟩; refine ⟨_, rfl, ?_⟩; have bH := am (Kd.R_lower dR (below_size (K3 HB aO.out aQ.out aW.out))); replace aJ := am (blk_below (g := bM) (o := .cells #[.int .i64 aC, .int .i64 aD, .string aE, .string aF, .int .i64 aH, .int .i64 aI, .int .i64 aL, .int .i64 aN, .int .i64 aP, .int .i64 aV, .slice aR aK.length aS] 96 (0, 0)) (by refine BD ?_; refine blk_far ?_ aB.out _; refine BD ?_; refine blk_far ?_ aB.out _; refine BD ?_; refine blk_far ?_ aB.out _; refine BD ?_; refine blk_far ?_ aB.out _; refine BD ?_; refine blk_far ?_ aB.out _; refine BD ?_; refine blk_far ?_ aB.out _; refine BD ?_; refine blk_far ?_ aB.out _; refine BD ?_; refine blk_far ?_ aB.out _; refine BD ?_; refine blk_far ?_ aB.out _; refine BD ?_; exact aJ.out) hb); replace aM := am (blk_below (g := aG) (o := .cells #[.int .i64 0, .int .i64 0, .string (⟨#[]⟩ : ByteArray), .string (⟨#[]⟩ : ByteArray), .int .i64 0, .int .i64 0, .int .i64 0, .int .i64 0, .int .i64 0, .int .i64 0, .slice none 0 0] 103 (0, 0)) (by refine BD ?_; refine blk_far ?_ aA.out _; refine BD ?_; refine blk_far ?_ aA.out _; refine BD ?_; refine blk_far ?_ aA.out _; refine BD ?_; refine blk_far ?_ aA.out _; refine BD ?_; refine blk_far ?_ aA.out _; refine BD ?_; refine blk_far ?_ aA.out _; refine BD ?_; refine blk_far ?_ aA.out _; refine BD ?_; refine blk_far ?_ aA.out _; refine BD ?_; refine blk_far ?_ aA.out _; refine BD ?_; exact aM.out) hb); replace aU := am (blk_below (g := bF) (o := .cells #[.int .i64 aC, .int .i64 aD, .string aE, .string aF, .int .i64 aH, .int .i64 aI, .int .i64 aL, .int .i64 aN, .int .i64 aP, .int .i64 0, .slice none 0 0] 103 (0, 0)) (by refine BD ?_; refine blk_put (cs := #[.int .i64 aC, .int .i64 aD, .string aE, .string aF, .int .i64 aH, .int .i64 aI, .int .i64 aL, .int .i64 aN, .int .i64 0, .int .i64 0, .slice none 0 0]) ?_ 8 _ rfl; refine BD ?_; refine blk_put (cs := #[.int .i64 aC, .int .i64 aD, .string aE, .string aF, .int .i64 aH, .int .i64 aI, .int .i64 aL, .int .i64 0, .int .i64 0, .int .i64 0, .slice none 0 0]) ?_ 7 _ rfl; refine BD ?_; refine blk_put (cs := #[.int .i64 aC, .int .i64 aD, .string aE, .string aF, .int .i64 aH, .int .i64 aI, .int .i64 0, .int .i64 0, .int .i64 0, .int .i64 0, .slice none 0 0]) ?_ 6 _ rfl; refine BD ?_; refine blk_put (cs := #[.int .i64 aC, .int .i64 aD, .string aE, .string aF, .int .i64 aH, .int .i64 0, .int .i64 0, .int .i64 0, .int .i64 0, .int .i64 0, .slice none 0 0]) ?_ 5 _ rfl; refine BD ?_; refine blk_put (cs := #[.int .i64 aC, .int .i64 aD, .string aE, .string aF, .int .i64 0, .int .i64 0, .int .i64 0, .int .i64 0, .int .i64 0, .int .i64 0, .slice none 0 0]) ?_ 4 _ rfl; refine BD ?_; refine blk_put (cs := #[.int .i64 aC, .int .i64 aD, .string aE, .string (⟨#[]⟩ : ByteArray), .int .i64 0, .int .i64 0, .int .i64 0, .int .i64 0, .int .i64 0, .int .i64 0, .slice none 0 0]) ?_ 3 _ rfl; refine BD ?_; refine blk_put (cs := #[.int .i64 aC, .int .i64 aD, .string (⟨#[]⟩ : ByteArray), .string (⟨#[]⟩ : ByteArray), .int .i64 0, .int .i64 0, .int .i64 0, .int .i64 0, .int .i64 0, .int .i64 0, .slice none 0 0]) ?_ 2 _ rfl; refine BD ?_; refine blk_put (cs := #[.int .i64 aC, .int .i64 0, .string (⟨#[]⟩ : ByteArray), .string (⟨#[]⟩ : ByteArray), .int .i64 0, .int .i64 0, .int .i64 0, .int .i64 0, .int .i64 0, .int .i64 0, .slice none 0 0]) ?_ 1 _ rfl; refine BD ?_; refine blk_put (cs := #[.int .i64 0, .int .i64 0, .string (⟨#[]⟩ : ByteArray), .string (⟨#[]⟩ : ByteArray), .int .i64 0, .int .i64 0, .int .i64 0, .int .i64 0, .int .i64 0, .int .i64 0, .slice none 0 0]) ?_ 0 _ rfl; refine BD ?_; exact aU.out) hb); replace HB := bl (K3 HB aO.out aQ.out aW.out) hb; (try clear hb); (try clear hb2); (try clear hk); (try clear hi); (try clear dR); have ⟨_, _, _, _, _, _, _, _, _, _, _, _⟩ := y11 dQ aU.out; obtain ⟨bK, bL, dM⟩ := Kd.R_slice bH.out; subst dM; have ⟨_, _, _, _, _, _, _, _, _, _, _, _⟩ := y11 dQ aM.out))
 refine bodyPost_ret (results_cell_row rfl _ _ aG 103 #[.int .i64 aC, .int .i64 aD, .string aE, .string aF, .int .i64 aH, .int .i64 aI, .int .i64 aL, .int .i64 aN, .int .i64 aP, .int .i64 aX, .slice bK bE.length bL] (0, 0) _ rfl (by refine BD ?_; refine blk_put (cs := #[.int .i64 aC, .int .i64 aD, .string aE, .string aF, .int .i64 aH, .int .i64 aI, .int .i64 aL, .int .i64 aN, .int .i64 aP, .int .i64 aX, .slice none 0 0]) ?_ 10 _ rfl; refine BD ?_; refine blk_put (cs := #[.int .i64 aC, .int .i64 aD, .string aE, .string aF, .int .i64 aH, .int .i64 aI, .int .i64 aL, .int .i64 aN, .int .i64 aP, .int .i64 0, .slice none 0 0]) ?_ 9 _ rfl; refine BD ?_; refine blk_put (cs := #[.int .i64 aC, .int .i64 aD, .string aE, .string aF, .int .i64 aH, .int .i64 aI, .int .i64 aL, .int .i64 aN, .int .i64 0, .int .i64 0, .slice none 0 0]) ?_ 8 _ rfl; refine BD ?_; refine blk_put (cs := #[.int .i64 aC, .int .i64 aD, .string aE, .string aF, .int .i64 aH, .int .i64 aI, .int .i64 aL, .int .i64 0, .int .i64 0, .int .i64 0, .slice none 0 0]) ?_ 7 _ rfl; refine BD ?_; refine blk_put (cs := #[.int .i64 aC, .int .i64 aD, .string aE, .string aF, .int .i64 aH, .int .i64 aI, .int .i64 0, .int .i64 0, .int .i64 0, .int .i64 0, .slice none 0 0]) ?_ 6 _ rfl; refine BD ?_; refine blk_put (cs := #[.int .i64 aC, .int .i64 aD, .string aE, .string aF, .int .i64 aH, .int .i64 0, .int .i64 0, .int .i64 0, .int .i64 0, .int .i64 0, .slice none 0 0]) ?_ 5 _ rfl; refine BD ?_; refine blk_put (cs := #[.int .i64 aC, .int .i64 aD, .string aE, .string aF, .int .i64 0, .int .i64 0, .int .i64 0, .int .i64 0, .int .i64 0, .int .i64 0, .slice none 0 0]) ?_ 4 _ rfl; refine BD ?_; refine blk_put (cs := #[.int .i64 aC, .int .i64 aD, .string aE, .string (⟨#[]⟩ : ByteArray), .int .i64 0, .int .i64 0, .int .i64 0, .int .i64 0, .int .i64 0, .int .i64 0, .slice none 0 0]) ?_ 3 _ rfl; refine BD ?_; refine blk_put (cs := #[.int .i64 aC, .int .i64 aD, .string (⟨#[]⟩ : ByteArray), .string (⟨#[]⟩ : ByteArray), .int .i64 0, .int .i64 0, .int .i64 0, .int .i64 0, .int .i64 0, .int .i64 0, .slice none 0 0]) ?_ 2 _ rfl; refine BD ?_; refine blk_put (cs := #[.int .i64 aC, .int .i64 0, .string (⟨#[]⟩ : ByteArray), .string (⟨#[]⟩ : ByteArray), .int .i64 0, .int .i64 0, .int .i64 0, .int .i64 0, .int .i64 0, .int .i64 0, .slice none 0 0]) ?_ 1 _ rfl; refine BD ?_; refine blk_put (cs := #[.int .i64 0, .int .i64 0, .string (⟨#[]⟩ : ByteArray), .string (⟨#[]⟩ : ByteArray), .int .i64 0, .int .i64 0, .int .i64 0, .int .i64 0, .int .i64 0, .int .i64 0, .slice none 0 0]) ?_ 0 _ rfl; refine BD ?_; refine blk_far ?_ aA.out _; refine BD ?_; refine blk_far ?_ aA.out _; refine BD ?_; exact aM.out) Tryz.underlying103 rfl (by kernel_rfl)) rfl ?_
 exact ⟨_, ER, by refine KW ?_; exact Kd.R_mono (Kd.R_far (p := ⟨aG, 10, none⟩) (Kd.R_far (p := ⟨aG, 9, none⟩) (Kd.R_far (p := ⟨aG, 8, none⟩) (Kd.R_far (p := ⟨aG, 7, none⟩) (Kd.R_far (p := ⟨aG, 6, none⟩) (Kd.R_far (p := ⟨aG, 5, none⟩) (Kd.R_far (p := ⟨aG, 4, none⟩) (Kd.R_far (p := ⟨aG, 3, none⟩) (Kd.R_far (p := ⟨aG, 2, none⟩) (Kd.R_far (p := ⟨aG, 1, none⟩) (Kd.R_far (p := ⟨aG, 0, none⟩) (Kd.R_far (p := ⟨bF, 10, none⟩) (Kd.R_far (p := ⟨bF, 9, none⟩) (Kd.R_types (Kd.R_types bH.out aU.out (by decide)) aM.out (by decide)) (fun _ hk => hk.1.2) (.int .i64 aX)) (fun _ hk => hk.1.2) (.slice bK bE.length bL)) (fun _ hk => hk.2) (.int .i64 aC)) (fun _ hk => hk.2) (.int .i64 aD)) (fun _ hk => hk.2) (.string aE)) (fun _ hk => hk.2) (.string aF)) (fun _ hk => hk.2) (.int .i64 aH)) (fun _ hk => hk.2) (.int .i64 aI)) (fun _ hk => hk.2) (.int .i64 aL)) (fun _ hk => hk.2) (.int .i64 aN)) (fun _ hk => hk.2) (.int .i64 aP)) (fun _ hk => hk.2) (.int .i64 aX)) (fun _ hk => hk.2) (.slice bK bE.length bL)) (fun _ hk => trivial), K3 HB aO.out aQ.out aW.out⟩
def laws_toSaS.l0 : Nat → List (S96) → List (S103) → Int → Option ((List (S103)))
 | 0, _, _, _ => none
 | k + 1, x0, x3, x4 => if x4 < (x0.length : Int) then (if 0 ≤ x4 then ((laws_toSa.f k ((rd_T96 x0 x4).f0) ((rd_T96 x0 x4).f1) ((rd_T96 x0 x4).f2) ((rd_T96 x0 x4).f3) ((rd_T96 x0 x4).f4) ((rd_T96 x0 x4).f5) ((rd_T96 x0 x4).f6) ((rd_T96 x0 x4).f7) ((rd_T96 x0 x4).f8) ((rd_T96 x0 x4).f9.f0) ((rd_T96 x0 x4).f9.f1)).bind fun bt105 => (if x4 < (x3.length : Int) then (laws_toSaS.l0 k x0 (x3.set (x4 : Int).toNat (⟨bt105.1, bt105.2.1, bt105.2.2.1, bt105.2.2.2.1, bt105.2.2.2.2.1, bt105.2.2.2.2.2.1, bt105.2.2.2.2.2.2.1, bt105.2.2.2.2.2.2.2.1, bt105.2.2.2.2.2.2.2.2.1, (⟨bt105.2.2.2.2.2.2.2.2.2.1, bt105.2.2.2.2.2.2.2.2.2.2⟩ : S101)⟩ : S103)) (wrap64 (x4 + 1))) else (none))) else (none)) else (some x3)
def laws_toSaS.f (k : Nat) (l0 : List (S96)) : Option ((List (S103))) := if 0 ≤ (l0.length : Int) then (if ((l0.length : Int) : Int).toNat ≤ 2345624805922 then (laws_toSaS.l0 k l0 (List.replicate ((l0.length : Int) : Int).toNat z103) 0) else (none)) else (none)
theorem laws_toSaS.calls (k : Nat) (A0 : Option Addr) (c0 : Nat) (l0 : List (S96)) (r : List (S103)) (w : World) (dV : Kd.C k96 w A0 l0.length l0) (dW : l0.length ≤ c0) (h : laws_toSaS.f k l0 = some r) :
  Calls Tryz.prog 29 #[.slice A0 l0.length c0] w fun e w' => ∃ v0_ : Value, e = .returned (v0_) ∧ Kd.S k103 103 w' w.heap.size (fun _ => True) v0_ r ∧ Below w.heap.size w w' := by
 have eA := Tryz.underlying96
 have dX := Tryz.underlying103
 have eB := Aside0.mk dV
 have eC := Aside0.mk dW
 clear dV dW
 have HB := am (Below.refl w.heap.size w)
 have H : (if 0 ≤ (l0.length : Int) then (if ((l0.length : Int) : Int).toNat ≤ 2345624805922 then (laws_toSaS.l0 k l0 (List.replicate ((l0.length : Int) : Int).toNat z103) 0) else (none)) else (none)) = some r := h
 clear h
 by_cases c2 : 0 ≤ (l0.length : Int)
 ·rw [if_pos c2] at H
  have c2b0 := eq_true c2
  have c2b1 : decide (0 ≤ (l0.length : Int)) = true := decide_eq_true c2
  clear c2
  by_cases c3 : ((l0.length : Int) : Int).toNat ≤ 2345624805922
  ·rw [if_pos c3] at H
   have c3b0 := eq_true c3
   have c3b1 : decide (((l0.length : Int) : Int).toNat ≤ 2345624805922) = true := decide_eq_true c3
   clear c3
   obtain ⟨cN, aI⟩ : ∃ y_ : List (S103), y_ = (List.replicate ((l0.length : Int) : Int).toNat z103) := ⟨_, rfl⟩
   replace H : (laws_toSaS.l0 k l0 cN 0) = some r := by first | (rw [aI]; with_reducible exact H) | (have H2_ := (Option.bind_some _ _).symm.trans H; rw [aI]; with_reducible exact H2_) | (have H2_ := (Option.bind_some _ _).symm.trans H; with_reducible exact H2_) | with_reducible exact H | (rw [aI]; exact H) | exact H
   have Ny101 := Aside0.mk aI
   clear aI
   have H' := Aside0.mk H
   clear H
   go_enter Tryz.func29, Tryz.ntmps29
   go_wp2_with (first | ((with_reducible refine gate_dst (N := 7) rfl ?_); refine Kd.S_make k103 _ 103 rfl (N := 7) rfl 39 _ _ rfl (l0.length : Int) rfl rfl Tryz.underlying39 (.agg #[(.int .i64 0), (.int .i64 0), (.string ⟨#[]⟩), (.string ⟨#[]⟩), (.int .i64 0), (.int .i64 0), (.int .i64 0), (.int .i64 0), (.int .i64 0), (.int .i64 0), (.slice none 0 0)]) 120 info103 rfl (by decide) (by omega) z103 (ok := fun _ => True) (okp := fun _ => True) (k103_mkM _ _ _ z103 (Kd.R_nil _ _ _ _ _)) (fun _ hk => hk) trivial (OD) (Nat.le_trans (Nat.mul_le_mul_right _ (OD : (l0.length : Int).toNat ≤ 2345624805922)) (by omega)) (Below.refl _ _) (Nat.le_refl _) ?_; intro cW w4 cO hb hg_ hnew_; clear hg_ hnew_; (first | rw [← Ny101.out] at cO | (simp only [Int.reduceToNat] at cO; rw [← Ny101.out] at cO)); have cP := am (Kd.S_lower cO (below_size (KL HB))); replace HB := bl (KL HB) hb; clear hb cO))
   go_loopg [4] k (fun kq v4 w' => ∃ (aB : List (S103)) (aA : Int), v4 = .int .i64 aA ∧ Aside0 (laws_toSaS.l0 kq l0 aB aA = some r) ∧ Aside0 (kq ≤ k) ∧ Aside0 (Kd.S k103 103 w' w.heap.size (fun _ => True) cW aB) ∧ Aside0 (Below w.heap.size w w'))
   case atStart => exact ⟨(cN), (0), (by first | rfl | (simp; done) | (simp [*]; done)), H', ⟨Nat.le_refl _⟩, ⟨by refine KX ?_; exact cP.out⟩, ⟨KL HB⟩⟩
   case round =>
    clear H'
    try clear c2
    try clear c2b0
    try clear c2b1
    try clear p2
    try clear c3
    try clear c3b0
    try clear c3b1
    obtain ⟨aB, aA, rfl, HA, HK1, aG, HB⟩ := hrel
    cases gk with
    | zero => exact absurd HA.out (by simp [laws_toSaS.l0])
    | succ k1 =>
     have H := HA.out
     clear HA
     simp only [laws_toSaS.l0] at H
     by_cases c6 : aA < (l0.length : Int)
     ·rw [if_pos c6] at H
      have c6b0 : decide (aA < (l0.length : Int)) = true := decide_eq_true c6
      clear c6
      by_cases c7 : 0 ≤ aA
      ·rw [if_pos c7] at H
       have c7b0 : decide (0 ≤ aA) = true := decide_eq_true c7
       clear c7
       replace H := bm H
       obtain ⟨⟨aN, aO, aP, aQ, aR, aS, aT, aU, aV, aW, bI⟩, dY, H⟩ := H
       replace H : (if aA < (aB.length : Int) then (laws_toSaS.l0 k1 l0 (aB.set (aA : Int).toNat (⟨aN, aO, aP, aQ, aR, aS, aT, aU, aV, (⟨aW, bI⟩ : S101)⟩ : S103)) (wrap64 (aA + 1))) else (none)) = some r := H
       have A8 := Aside0.mk dY
       clear dY
       by_cases c9 : aA < (aB.length : Int)
       ·rw [if_pos c9] at H
        have c9b0 : decide (aA < (aB.length : Int)) = true := decide_eq_true c9
        clear c9
        obtain ⟨bQ, aJ⟩ : ∃ y_ : List (S103), y_ = (aB.set (aA : Int).toNat (⟨aN, aO, aP, aQ, aR, aS, aT, aU, aV, (⟨aW, bI⟩ : S101)⟩ : S103)) := ⟨_, rfl⟩
        replace H : (laws_toSaS.l0 k1 l0 bQ (wrap64 (aA + 1))) = some r := by first | (rw [aJ]; with_reducible exact H) | (have H2_ := (Option.bind_some _ _).symm.trans H; rw [aJ]; with_reducible exact H2_) | (have H2_ := (Option.bind_some _ _).symm.trans H; with_reducible exact H2_) | with_reducible exact H | (rw [aJ]; exact H) | exact H
        have Ny118 := Aside0.mk aJ
        clear aJ
        have H' := Aside0.mk H
        clear H
        have bR : 0 ≤ (aA : Int) := OD
        have bS : aA < (l0.length : Int) := OD
        obtain ⟨_, bM, bN, cX, aX, aY, aZ, bA, bB, bC, bD, bE, bF, bG, aK, aL, aM⟩ := at_T96 eB.out aA bR bS
        cases cX
        replace aX := CX HB.out aX
        replace aY := CX HB.out aY
        replace aZ := CX HB.out aZ
        replace bA := CX HB.out bA
        replace bB := CX HB.out bB
        replace bC := CX HB.out bC
        replace bD := CX HB.out bD
        replace bE := CX HB.out bE
        replace bF := CX HB.out bF
        replace bG := CX HB.out bG
        replace aK := CX HB.out aK
        have bJ := Aside0.mk aM
        have bK := Aside0.mk aL
        clear aM aL
        replace bR := eq_true bR
        replace bS := eq_true bS
        go_wp2_with (first | ((with_reducible refine gate_callee (f := 49) rfl ?_); refine goesL_ (some 20) rfl rfl Tryz.func49 (by kernel_rfl) rfl #[.agg #[.int .i64 ((rd_T96 l0 aA).f0), .int .i64 ((rd_T96 l0 aA).f1), .string ((rd_T96 l0 aA).f2), .string ((rd_T96 l0 aA).f3), .int .i64 ((rd_T96 l0 aA).f4), .int .i64 ((rd_T96 l0 aA).f5), .int .i64 ((rd_T96 l0 aA).f6), .int .i64 ((rd_T96 l0 aA).f7), .int .i64 ((rd_T96 l0 aA).f8), .int .i64 ((rd_T96 l0 aA).f9.f0), .slice bM ((rd_T96 l0 aA).f9.f1).length bN]] rfl MT ?_; (with_reducible refine (laws_toSa.calls k1 ((rd_T96 l0 aA).f0) ((rd_T96 l0 aA).f1) ((rd_T96 l0 aA).f2) ((rd_T96 l0 aA).f3) ((rd_T96 l0 aA).f4) ((rd_T96 l0 aA).f5) ((rd_T96 l0 aA).f6) ((rd_T96 l0 aA).f7) ((rd_T96 l0 aA).f8) ((rd_T96 l0 aA).f9.f0) _ _ ((rd_T96 l0 aA).f9.f1) aN aO aP aQ aR aS aT aU aV aW bI _ ?_ ?_ A8.out).mono ?_); exact KD bJ HB; exact bK.out; rintro e aH ⟨bH, rfl, cT, hb⟩; refine ⟨_, rfl, ?_⟩; have HSv116 : ∀ (a : Addr) (w : World), (store a bH).run Tryz.prog w = stored Tryz.prog w a bH .plain := fun a w => run_store _ _ _ _ _ (R_one cT); replace aG := am (Kd.S_elder' (by refine KX ?_; exact aG.out) (Kd.R_base cT) hb); have bL := am (Kd.R_lower cT (below_size (KL HB))); replace HB := bl (KL HB) hb; (try clear hb); (try clear hb2); (try clear hk); (try clear hi); (try clear cT); have cY : 0 ≤ (aA : Int) := OD; have cZ : (aA : Int) < ((aB.length : Int) : Int) := OD; obtain ⟨go10, cQ, cR, cS, gl10, cl10, HG10⟩ := Kd.S_form aG.out (by omega); (first | cases cR | (injection cR with ea_ en_ ec_; (first | subst ea_ | (injection ea_ with ea_; subst ea_)); subst ec_; clear en_)); have GB10 := Aside0.mk cS; have GG10 := Aside0.mk HG10; clear cS gl10 HG10; obtain ⟨_, ce10, hcl10, hM10, aC, aD, _, _⟩ := Kd.S_elem aG.out z103 (aA : Int) cY cZ; obtain ⟨ve10_10, rfl, ge10_10⟩ := k103_openM hM10; have dA : aH.cell? ⟨go10, (aA : Int).toNat * 11, none⟩ = some (.int .i64 ((rd_T103 aB aA).f0)) := aC 0 _ rfl; have dB : aH.cell? ⟨go10, (aA : Int).toNat * 11 + 1, none⟩ = some (.int .i64 ((rd_T103 aB aA).f1)) := aC 1 _ rfl; have dC : aH.cell? ⟨go10, (aA : Int).toNat * 11 + 2, none⟩ = some (.string ((rd_T103 aB aA).f2)) := aC 2 _ rfl; have dD : aH.cell? ⟨go10, (aA : Int).toNat * 11 + 3, none⟩ = some (.string ((rd_T103 aB aA).f3)) := aC 3 _ rfl; have dE : aH.cell? ⟨go10, (aA : Int).toNat * 11 + 4, none⟩ = some (.int .i64 ((rd_T103 aB aA).f4)) := aC 4 _ rfl; have dF : aH.cell? ⟨go10, (aA : Int).toNat * 11 + 5, none⟩ = some (.int .i64 ((rd_T103 aB aA).f5)) := aC 5 _ rfl; have dG : aH.cell? ⟨go10, (aA : Int).toNat * 11 + 6, none⟩ = some (.int .i64 ((rd_T103 aB aA).f6)) := aC 6 _ rfl; have dH : aH.cell? ⟨go10, (aA : Int).toNat * 11 + 7, none⟩ = some (.int .i64 ((rd_T103 aB aA).f7)) := aC 7 _ rfl; have dI : aH.cell? ⟨go10, (aA : Int).toNat * 11 + 8, none⟩ = some (.int .i64 ((rd_T103 aB aA).f8)) := aC 8 _ rfl; have dJ : aH.cell? ⟨go10, (aA : Int).toNat * 11 + 9, none⟩ = some (.int .i64 ((rd_T103 aB aA).f9.f0)) := aC 9 _ rfl; have cU : aH.cell? ⟨go10, (aA : Int).toNat * 11 + 10, none⟩ = some (ve10_10) := aC 10 _ rfl; have dK : aH.frozen? ⟨go10, (aA : Int).toNat * 11, none⟩ = false := aD 0; have dL : aH.frozen? ⟨go10, (aA : Int).toNat * 11 + 1, none⟩ = false := aD 1; have dM : aH.frozen? ⟨go10, (aA : Int).toNat * 11 + 2, none⟩ = false := aD 2; have dN : aH.frozen? ⟨go10, (aA : Int).toNat * 11 + 3, none⟩ = false := aD 3; have dO : aH.frozen? ⟨go10, (aA : Int).toNat * 11 + 4, none⟩ = false := aD 4; have dP : aH.frozen? ⟨go10, (aA : Int).toNat * 11 + 5, none⟩ = false := aD 5; have dQ : aH.frozen? ⟨go10, (aA : Int).toNat * 11 + 6, none⟩ = false := aD 6; have dR : aH.frozen? ⟨go10, (aA : Int).toNat * 11 + 7, none⟩ = false := aD 7; have dS : aH.frozen? ⟨go10, (aA : Int).toNat * 11 + 8, none⟩ = false := aD 8; have dT : aH.frozen? ⟨go10, (aA : Int).toNat * 11 + 9, none⟩ = false := aD 9; have cV : aH.frozen? ⟨go10, (aA : Int).toNat * 11 + 10, none⟩ = false := aD 10; clear hcl10 aC aD hM10; replace cY := eq_true cY; replace cZ := eq_true cZ; have n_ := am (Kd.S_mono (ok' := (fun k_ => some k_ ≠ (bH : Value).ownBlock)) aG.out (fun k_ hk => hk.2)); clear aG; have aG := n_; clear n_; have HX12 := am (show Kd.S k103 103 aH w.heap.size (fun k_ => ((fun _ => True)) k_ ∧ ¬ ((fun k_ => some k_ = (bH : Value).ownBlock)) k_) (.slice (some ⟨go10, 0, none⟩) aB.length cQ) aB from (by refine KX ?_; exact Kd.S_mono aG.out (fun k_ hk => ⟨trivial, fun e_ => hk e_⟩))); obtain ⟨oki12, ce12, hcl12, hM12, aE, aF, hoki12, hH12⟩ := Kd.S_elem HX12.out z103 (aA : Int) (OD) (by have h_ : (aA : Int) < ((aB.length : Int) : Int) := OD; first | exact h_ | (have e_ := (Kd.S_reads' aG.out).1; omega) | simpa using h_); obtain ⟨ve12_10, rfl, ge12_10⟩ := k103_openM hM12; have HP12 := Kd.S_seg hH12 (OD) (by have h_ : (aA : Int) < ((aB.length : Int) : Int) := OD; first | exact h_ | (have e_ := (Kd.S_reads' aG.out).1; omega) | simpa using h_) (seg := [.int .i64 aN, .int .i64 aO, .string aP, .string aQ, .int .i64 aR, .int .i64 aS, .int .i64 aT, .int .i64 aU, .int .i64 aV, .int .i64 aW, bH]) (j := 0) (show 11 ≤ 11 from by decide) (x' := (⟨aN, aO, aP, aQ, aR, aS, aT, aU, aV, (⟨aW, bI⟩ : S101)⟩ : S103)) (k103_mkM _ _ _ (⟨aN, aO, aP, aQ, aR, aS, aT, aU, aV, (⟨aW, bI⟩ : S101)⟩ : S103) (Kd.R_mono (Kd.R_tight rfl (Kd.R_mono (ok' := fun k_ => ((fun _ => True)) k_ ∧ k_ ≠ go10) (Kd.R_apart' (bL.out) (Kd.S_typed aG.out) (by decide)) (fun k_ hk => ⟨trivial, fun e_ => (hk.2) (by rw [e_]; rfl)⟩))) (fun _ h_ => Or.inr (h_)))) (fun _ hk => hk) (fun k_ hk_ => ((Kd.R_mono (ok' := fun k_ => ((fun _ => True)) k_ ∧ k_ ≠ go10) (Kd.R_apart' (bL.out) (Kd.S_typed aG.out) (by decide)) (fun k_ hk => ⟨trivial, fun e_ => (hk.2) (by rw [e_]; rfl)⟩))).1 k_ hk_.symm); have bT := aE 0 _ rfl; (try simp only [show (k103).sz = 11 from rfl, Nat.mul_one, Nat.add_zero] at bT); have bU := aF 0; (try simp only [show (k103).sz = 11 from rfl, Nat.mul_one, Nat.add_zero] at bU); have bV := aE 1 _ rfl; (try simp only [show (k103).sz = 11 from rfl, Nat.mul_one, Nat.add_zero] at bV); have bW := aF 1; (try simp only [show (k103).sz = 11 from rfl, Nat.mul_one, Nat.add_zero] at bW); have bX := aE 2 _ rfl; (try simp only [show (k103).sz = 11 from rfl, Nat.mul_one, Nat.add_zero] at bX); have bY := aF 2; (try simp only [show (k103).sz = 11 from rfl, Nat.mul_one, Nat.add_zero] at bY); have bZ := aE 3 _ rfl; (try simp only [show (k103).sz = 11 from rfl, Nat.mul_one, Nat.add_zero] at bZ); have cA := aF 3; (try simp only [show (k103).sz = 11 from rfl, Nat.mul_one, Nat.add_zero] at cA); have cB := aE 4 _ rfl; (try simp only [show (k103).sz = 11 from rfl, Nat.mul_one, Nat.add_zero] at cB); have cC := aF 4; (try simp only [show (k103).sz = 11 from rfl, Nat.mul_one, Nat.add_zero] at cC); have cD := aE 5 _ rfl; (try simp only [show (k103).sz = 11 from rfl, Nat.mul_one, Nat.add_zero] at cD); have cE := aF 5; (try simp only [show (k103).sz = 11 from rfl, Nat.mul_one, Nat.add_zero] at cE); have cF := aE 6 _ rfl; (try simp only [show (k103).sz = 11 from rfl, Nat.mul_one, Nat.add_zero] at cF); have cG := aF 6; (try simp only [show (k103).sz = 11 from rfl, Nat.mul_one, Nat.add_zero] at cG); have cH := aE 7 _ rfl; (try simp only [show (k103).sz = 11 from rfl, Nat.mul_one, Nat.add_zero] at cH); have cI := aF 7; (try simp only [show (k103).sz = 11 from rfl, Nat.mul_one, Nat.add_zero] at cI); have cJ := aE 8 _ rfl; (try simp only [show (k103).sz = 11 from rfl, Nat.mul_one, Nat.add_zero] at cJ); have cK := aF 8; (try simp only [show (k103).sz = 11 from rfl, Nat.mul_one, Nat.add_zero] at cK); have cL := aE 9 _ rfl; (try simp only [show (k103).sz = 11 from rfl, Nat.mul_one, Nat.add_zero] at cL); have cM := aF 9; (try simp only [show (k103).sz = 11 from rfl, Nat.mul_one, Nat.add_zero] at cM); have bO := aE 10 _ rfl; (try simp only [show (k103).sz = 11 from rfl, Nat.mul_one, Nat.add_zero] at bO); have bP := aF 10; (try simp only [show (k103).sz = 11 from rfl, Nat.mul_one, Nat.add_zero] at bP); clear hcl12 aE aF hM12 hoki12 hH12) | ((with_reducible refine gate_store (t := 103) (p := 21) rfl ?_); refine store_event (t := 103) (p := 21) (v := ?vo_w13) (w1 := (((((((((((aH.setCell ⟨go10, (aA : Int).toNat * 11, none⟩ (.int .i64 aN)).setCell ⟨go10, (aA : Int).toNat * 11 + 1, none⟩ (.int .i64 aO)).setCell ⟨go10, (aA : Int).toNat * 11 + 2, none⟩ (.string aP)).setCell ⟨go10, (aA : Int).toNat * 11 + 3, none⟩ (.string aQ)).setCell ⟨go10, (aA : Int).toNat * 11 + 4, none⟩ (.int .i64 aR)).setCell ⟨go10, (aA : Int).toNat * 11 + 5, none⟩ (.int .i64 aS)).setCell ⟨go10, (aA : Int).toNat * 11 + 6, none⟩ (.int .i64 aT)).setCell ⟨go10, (aA : Int).toNat * 11 + 7, none⟩ (.int .i64 aU)).setCell ⟨go10, (aA : Int).toNat * 11 + 8, none⟩ (.int .i64 aV)).setCell ⟨go10, (aA : Int).toNat * 11 + 9, none⟩ (.int .i64 aW)).setCell ⟨go10, (aA : Int).toNat * 11 + 10, none⟩ (bH))) ?hg ?ho ?hn ?hr ?_; (case ho => rfl); (case hg => rfl); (case hn => rfl); (case hr => first | (go_simp; done) | (go_simp; rfl)); intro dU hw; have hg : aH.grownBy dU (some go10) := (by rw [hw]; exact HP12.2); have hp_ : Kd.S k103 103 dU w.heap.size (fun _ => True) (.slice (some ⟨go10, 0, none⟩) aB.length cQ) bQ := (by rw [hw, Ny118.out]; exact HP12.1); clear HP12; replace aG := am (hp_); replace HB := am ((by rw [hw]; exact below_set (below_set (below_set (below_set (below_set (below_set (below_set (below_set (below_set (below_set (below_set (HB.out) GB10.out) GB10.out) GB10.out) GB10.out) GB10.out) GB10.out) GB10.out) GB10.out) GB10.out) GB10.out) GB10.out : Below w.heap.size w dU)); clear bL; clear hg hw hp_))
        go_roundg k1
        case measure => have := HK1.out; omega
        case rel => exact ⟨(bQ), (wrap64 (aA + 1)), (by first | rfl | (simp; done) | (simp [*]; done)), H', ⟨by have := HK1.out; omega⟩, ⟨by refine KX ?_; exact aG.out⟩, ⟨KL HB⟩⟩
       ·rw [if_neg c9] at H
        exact absurd H (by simp)
      ·rw [if_neg c7] at H
       exact absurd H (by simp)
     ·rw [if_neg c6] at H
      have c6b0 : decide (aA < (l0.length : Int)) = false := decide_eq_false c6
      clear c6
      obtain rfl := sj H
      go_wp2
      go_ret
      exact ⟨_, ER, by refine KX ?_; exact aG.out, KL HB⟩
  ·rw [if_neg c3] at H
   exact absurd H (by simp)
 ·rw [if_neg c2] at H
  exact absurd H (by simp)
def laws_toGate.f (k : Nat) (a0_0 : Int) (l0_1 : List (S111)) (a0_2 : Int) (l0_3 : List (S136)) (l0_4 : List (S96)) (l0_5 : List (S96)) : Option (Int × (List (S107)) × Int × (List (S128)) × (List (S103)) × (List (S103))) := (laws_toRuleS.f k l0_1).bind fun t104 => ((laws_toCache.f k a0_2 l0_3).bind fun bt107 => ((laws_toSaS.f k l0_4).bind fun t111 => ((laws_toSaS.f k l0_5).bind fun t114 => (some (a0_0, t104, bt107.1, bt107.2, t111, t114)))))
theorem laws_toGate.calls (k : Nat) (aD : Int) (bD : Option Addr) (bE : Nat) (aU : List (S111)) (aX : Int) (bF : Option Addr) (bG : Nat) (aS : List (S136)) (bH : Option Addr) (bI : Nat) (aP : List (S96)) (bJ : Option Addr) (bK : Nat) (aM : List (S96)) (r1 : Int) (r2 : List (S107)) (r3 : Int) (r4 : List (S128)) (r5 : List (S103)) (r6 : List (S103)) (w : World) (bW : Kd.C k111 w bD aU.length aU) (bX : aU.length ≤ bE) (bY : Kd.C k136 w bF aS.length aS) (bZ : aS.length ≤ bG) (cA : Kd.C k96 w bH aP.length aP) (cB : aP.length ≤ bI) (cC : Kd.C k96 w bJ aM.length aM) (cD : aM.length ≤ bK) (h : laws_toGate.f k aD aU aX aS aP aM = some (r1, r2, r3, r4, r5, r6)) :
  Calls Tryz.prog 13 #[.agg #[.int .i64 aD, .slice bD aU.length bE, .int .i64 aX, .slice bF aS.length bG, .slice bH aP.length bI, .slice bJ aM.length bK]] w fun e w' => ∃ v1_ v3_ v4_ v5_ : Value, e = .returned (.agg #[.int .i64 r1, v1_, .int .i64 r3, v3_, v4_, v5_]) ∧ Kd.R k107 107 w' w.heap.size (fun _ => True) v1_ r2 ∧ Kd.R k128 128 w' w.heap.size (fun _ => True) v3_ r4 ∧ Kd.S k103 103 w' w.heap.size (fun k_ => some k_ ≠ (v5_ : Value).ownBlock) v4_ r5 ∧ Kd.S k103 103 w' w.heap.size (fun k_ => some k_ ≠ (v4_ : Value).ownBlock) v5_ r6 ∧ Below w.heap.size w w' := by
 have fY := Tryz.underlying28
 have fZ := Tryz.underlying41
 have gA := Tryz.underlying25
 have gB := Tryz.underlying38
 have cF := Aside0.mk bW
 have cG := Aside0.mk bX
 clear bW bX
 have cH := Aside0.mk bY
 have cI := Aside0.mk bZ
 clear bY bZ
 have cJ := Aside0.mk cA
 have cK := Aside0.mk cB
 clear cA cB
 have cL := Aside0.mk cC
 have cM := Aside0.mk cD
 clear cC cD
 have HB := am (Below.refl w.heap.size w)
 have H : ((laws_toRuleS.f k aU).bind fun aJ => ((laws_toCache.f k aX aS).bind fun bL => ((laws_toSaS.f k aP).bind fun aN => ((laws_toSaS.f k aM).bind fun aL => (some (aD, aJ, bL.1, bL.2, aN, aL)))))) = some (r1, r2, r3, r4, r5, r6) := h
 clear h
 replace H := bm H
 obtain ⟨aJ, fM, H⟩ := H
 replace H : ((laws_toCache.f k aX aS).bind fun bL => ((laws_toSaS.f k aP).bind fun aN => ((laws_toSaS.f k aM).bind fun aL => (some (aD, aJ, bL.1, bL.2, aN, aL))))) = some (r1, r2, r3, r4, r5, r6) := H
 have A2 := Aside0.mk fM
 clear fM
 replace H := bm H
 obtain ⟨⟨aO, aT⟩, fN, H⟩ := H
 replace H : ((laws_toSaS.f k aP).bind fun aN => ((laws_toSaS.f k aM).bind fun aL => (some (aD, aJ, aO, aT, aN, aL)))) = some (r1, r2, r3, r4, r5, r6) := H
 have A3 := Aside0.mk fN
 clear fN
 replace H := bm H
 obtain ⟨aN, fO, H⟩ := H
 replace H : ((laws_toSaS.f k aM).bind fun aL => (some (aD, aJ, aO, aT, aN, aL))) = some (r1, r2, r3, r4, r5, r6) := H
 have A4 := Aside0.mk fO
 clear fO
 replace H := bm H
 obtain ⟨aL, fP, H⟩ := H
 replace H : (some (aD, aJ, aO, aT, aN, aL)) = some (r1, r2, r3, r4, r5, r6) := H
 have A5 := Aside0.mk fP
 clear fP
 simp only [Option.some.injEq, Prod.mk.injEq] at H
 obtain ⟨rfl, rfl, rfl, rfl, rfl, rfl⟩ := H
 go_enter Tryz.func13, Tryz.ntmps13
 go_wp2_with (first | ((with_reducible refine gate_dst (N := 1) rfl ?_); refine box_event rfl (N := 1) rfl (cs := #[.int .i64 aD, .slice bD aU.length bE, .int .i64 aX, .slice bF aS.length bG, .slice bH aP.length bI, .slice bJ aM.length bK]) (t := 28) BX ?_; intro bQ hg w6 bM hb; have aC := am (bM); have cN := am (GH HB hg); have aG := cN; replace HB := bl (KL HB) hb; clear hb bM hg) | ((with_reducible refine gate_dst (N := 2) rfl ?_); refine box_event rfl (N := 2) rfl (cs := #[.int .i64 0, .slice none 0 0, .int .i64 0, .slice none 0 0, .slice none 0 0, .slice none 0 0]) (t := 41) BX ?_; intro aA hg w7 bM hb; have aE := am (bM); have cO := am (GH1 HB aG.out hg); have aI := cO; replace HB := bl (K1 HB aG.out) hb; have bR := am (NL aC hg); have bS := am (NG aC hg); replace aC := am (BB aC hb); clear hb bM hg) | ((with_reducible refine gate_dst (N := 3) rfl ?_); refine box_event rfl (N := 3) rfl (cs := #[.int .i64 0, .slice none 0 0, .int .i64 0, .slice none 0 0, .slice none 0 0, .slice none 0 0]) (t := 41) BX ?_; intro aV hg w8 bM hb; have aB := am (bM); have cP := am (GH2 HB aG.out aI.out hg); have aK := cP; replace HB := bl (K2 HB aG.out aI.out) hb; have aH := am (NL aC hg); have bT := am (NG aC hg); replace aC := am (BB aC hb); have aF := am (NL aE hg); have bU := am (NG aE hg); replace aE := am (BB aE hb); clear hb bM hg; have gC := bR.out; have gD := bS.out; have fQ := aH.out; have fR := bT.out; have ⟨_, _, _, _, _, _, _⟩ := y6 w8 aC.out; have fS := bU.out; have fT := aF.out; have ⟨_, _, _, _, _, _, _⟩ := y6 w8 aB.out) | ((with_reducible refine gate_callee (f := 27) rfl ?_); refine goesL_ (some 9) rfl rfl Tryz.func27 (by kernel_rfl) rfl #[.slice bD aU.length bE] rfl MT ?_; (with_reducible refine (laws_toRuleS.calls k _ _ aU aJ _ ?_ ?_ A2.out).mono ?_); exact Kd.C_below cF.out (K3 HB aG.out aI.out aK.out); exact cG.out; rintro e fU ⟨gE, rfl, bV, hb⟩; refine ⟨_, rfl, ?_⟩; have aW := am (Kd.R_lower bV (below_size (K3 HB aG.out aI.out aK.out))); replace aC := am (blk_below (g := bQ) (o := .cells #[.int .i64 aD, .slice bD aU.length bE, .int .i64 aX, .slice bF aS.length bG, .slice bH aP.length bI, .slice bJ aM.length bK] 28 (0, 0)) (by refine BD ?_; refine blk_far ?_ aH.out _; refine BD ?_; exact aC.out) hb); replace aE := am (blk_below (g := aA) (o := .cells #[.int .i64 0, .slice none 0 0, .int .i64 0, .slice none 0 0, .slice none 0 0, .slice none 0 0] 41 (0, 0)) (by refine BD ?_; refine blk_far ?_ aF.out _; refine BD ?_; exact aE.out) hb); replace aB := am (blk_below (g := aV) (o := .cells #[.int .i64 aD, .slice none 0 0, .int .i64 0, .slice none 0 0, .slice none 0 0, .slice none 0 0] 41 (0, 0)) (by refine BD ?_; refine blk_put (cs := #[.int .i64 0, .slice none 0 0, .int .i64 0, .slice none 0 0, .slice none 0 0, .slice none 0 0]) ?_ 0 _ rfl; refine BD ?_; exact aB.out) hb); replace HB := bl (K3 HB aG.out aI.out aK.out) hb; (try clear hb); (try clear hb2); (try clear hk); (try clear hi); (try clear bV); obtain ⟨aQ, aR, fI⟩ := Kd.R_slice aW.out; subst fI; have ⟨_, _, _, _, _, _, _⟩ := y6 fU aB.out; have ⟨_, _, _, _, _, _, _⟩ := y6 fU aC.out) | ((with_reducible refine gate_callee (f := 28) rfl ?_); refine goesL_ (some 13) rfl rfl Tryz.func28 (by kernel_rfl) rfl #[.agg #[.int .i64 aX, .slice bF aS.length bG]] rfl MT ?_; (with_reducible refine (laws_toCache.calls k aX _ _ aS aO aT _ ?_ ?_ A3.out).mono ?_); exact Kd.C_below cH.out (K3 HB aG.out aI.out aK.out); exact cI.out; rintro e fV ⟨gF, rfl, bV, hb⟩; refine ⟨_, rfl, ?_⟩; replace aW := am (Kd.R_below (by refine KW ?_; exact (RF aW.out aB.out)) hb); have bA := am (Kd.R_lower bV (below_size (K3 HB aG.out aI.out aK.out))); replace aC := am (blk_below (g := bQ) (o := .cells #[.int .i64 aD, .slice bD aU.length bE, .int .i64 aX, .slice bF aS.length bG, .slice bH aP.length bI, .slice bJ aM.length bK] 28 (0, 0)) (by refine BD ?_; refine blk_far ?_ aH.out _; refine BD ?_; exact aC.out) hb); replace aE := am (blk_below (g := aA) (o := .cells #[.int .i64 0, .slice none 0 0, .int .i64 0, .slice none 0 0, .slice none 0 0, .slice none 0 0] 41 (0, 0)) (by refine BD ?_; refine blk_far ?_ aF.out _; refine BD ?_; exact aE.out) hb); replace aB := am (blk_below (g := aV) (o := .cells #[.int .i64 aD, .slice aQ aJ.length aR, .int .i64 0, .slice none 0 0, .slice none 0 0, .slice none 0 0] 41 (0, 0)) (by refine BD ?_; refine blk_put (cs := #[.int .i64 aD, .slice none 0 0, .int .i64 0, .slice none 0 0, .slice none 0 0, .slice none 0 0]) ?_ 1 _ rfl; refine BD ?_; exact aB.out) hb); replace HB := bl (K3 HB aG.out aI.out aK.out) hb; (try clear hb); (try clear hb2); (try clear hk); (try clear hi); (try clear bV); have ⟨_, _, _, _, _, _, _⟩ := y6 fV aB.out; obtain ⟨aY, aZ, fJ⟩ := Kd.R_slice bA.out; subst fJ; have ⟨_, _, _, _, _, _, _⟩ := y6 fV aC.out) | ((with_reducible refine gate_callee (f := 29) rfl ?_); refine goesL_ (some 17) rfl rfl Tryz.func29 (by kernel_rfl) rfl #[.slice bH aP.length bI] rfl MT ?_; (with_reducible refine (laws_toSaS.calls k _ _ aP aN _ ?_ ?_ A4.out).mono ?_); exact Kd.C_below cJ.out (K3 HB aG.out aI.out aK.out); exact cK.out; rintro e fW ⟨gG, rfl, bV, hb⟩; refine ⟨_, rfl, ?_⟩; replace aW := am (Kd.R_below (by refine KW ?_; exact (RF aW.out aB.out)) hb); replace bA := am (Kd.R_below (by refine KW ?_; exact (RF bA.out aB.out)) hb); have bN := am (Kd.S_lower bV (below_size (K3 HB aG.out aI.out aK.out))); replace aC := am (blk_below (g := bQ) (o := .cells #[.int .i64 aD, .slice bD aU.length bE, .int .i64 aX, .slice bF aS.length bG, .slice bH aP.length bI, .slice bJ aM.length bK] 28 (0, 0)) (by refine BD ?_; refine blk_far ?_ aH.out _; refine BD ?_; refine blk_far ?_ aH.out _; refine BD ?_; exact aC.out) hb); replace aE := am (blk_below (g := aA) (o := .cells #[.int .i64 0, .slice none 0 0, .int .i64 0, .slice none 0 0, .slice none 0 0, .slice none 0 0] 41 (0, 0)) (by refine BD ?_; refine blk_far ?_ aF.out _; refine BD ?_; refine blk_far ?_ aF.out _; refine BD ?_; exact aE.out) hb); replace aB := am (blk_below (g := aV) (o := .cells #[.int .i64 aD, .slice aQ aJ.length aR, .int .i64 aO, .slice aY aT.length aZ, .slice none 0 0, .slice none 0 0] 41 (0, 0)) (by refine BD ?_; refine blk_put (cs := #[.int .i64 aD, .slice aQ aJ.length aR, .int .i64 aO, .slice none 0 0, .slice none 0 0, .slice none 0 0]) ?_ 3 _ rfl; refine BD ?_; refine blk_put (cs := #[.int .i64 aD, .slice aQ aJ.length aR, .int .i64 0, .slice none 0 0, .slice none 0 0, .slice none 0 0]) ?_ 2 _ rfl; refine BD ?_; exact aB.out) hb); replace HB := bl (K3 HB aG.out aI.out aK.out) hb; (try clear hb); (try clear hb2); (try clear hk); (try clear hi); (try clear bV); obtain ⟨bO, bP, fK⟩ := Kd.S_slice bN.out; subst fK; have ⟨_, _, _, _, _, _, _⟩ := y6 fW aB.out; have ⟨_, _, _, _, _, _, _⟩ := y6 fW aC.out) | ((with_reducible refine gate_callee (f := 29) rfl ?_); refine goesL_ (some 21) rfl rfl Tryz.func29 (by kernel_rfl) rfl #[.slice bJ aM.length bK] rfl MT ?_; (with_reducible refine (laws_toSaS.calls k _ _ aM aL _ ?_ ?_ A5.out).mono ?_); exact Kd.C_below cL.out (K3 HB aG.out aI.out aK.out); exact cM.out; rintro e fX ⟨gH, rfl, bV, hb⟩; refine ⟨_, rfl, ?_⟩; replace aW := am (Kd.R_below (by refine KW ?_; exact (RF aW.out aB.out)) hb); replace bA := am (Kd.R_below (by refine KW ?_; exact (RF bA.out aB.out)) hb); have cE := am (Kd.S_lower (Kd.S_new' bV (Kd.S_lt (by refine KX ?_; exact (SF bN.out aB.out)))) (below_size (K3 HB aG.out aI.out aK.out))); replace bN := am (Kd.S_elder' (by refine KX ?_; exact (SF bN.out aB.out)) (Kd.S_base bV) hb); replace aC := am (blk_below (g := bQ) (o := .cells #[.int .i64 aD, .slice bD aU.length bE, .int .i64 aX, .slice bF aS.length bG, .slice bH aP.length bI, .slice bJ aM.length bK] 28 (0, 0)) (by refine BD ?_; refine blk_far ?_ aH.out _; refine BD ?_; exact aC.out) hb); replace aE := am (blk_below (g := aA) (o := .cells #[.int .i64 0, .slice none 0 0, .int .i64 0, .slice none 0 0, .slice none 0 0, .slice none 0 0] 41 (0, 0)) (by refine BD ?_; refine blk_far ?_ aF.out _; refine BD ?_; exact aE.out) hb); replace aB := am (blk_below (g := aV) (o := .cells #[.int .i64 aD, .slice aQ aJ.length aR, .int .i64 aO, .slice aY aT.length aZ, .slice bO aN.length bP, .slice none 0 0] 41 (0, 0)) (by refine BD ?_; refine blk_put (cs := #[.int .i64 aD, .slice aQ aJ.length aR, .int .i64 aO, .slice aY aT.length aZ, .slice none 0 0, .slice none 0 0]) ?_ 4 _ rfl; refine BD ?_; exact aB.out) hb); replace HB := bl (K3 HB aG.out aI.out aK.out) hb; (try clear hb); (try clear hb2); (try clear hk); (try clear hi); (try clear bV); obtain ⟨bB, bC, fL⟩ := Kd.S_slice cE.out; subst fL; have ⟨_, _, _, _, _, _, _⟩ := y6 fX aB.out; have ⟨_, _, _, _, _, _, _⟩ := y6 fX aE.out))
 refine bodyPost_ret (results_cell_row rfl _ _ aA 41 #[.int .i64 aD, .slice aQ aJ.length aR, .int .i64 aO, .slice aY aT.length aZ, .slice bO aN.length bP, .slice bB aL.length bC] (0, 0) _ rfl (by refine BD ?_; refine blk_put (cs := #[.int .i64 aD, .slice aQ aJ.length aR, .int .i64 aO, .slice aY aT.length aZ, .slice bO aN.length bP, .slice none 0 0]) ?_ 5 _ rfl; refine BD ?_; refine blk_put (cs := #[.int .i64 aD, .slice aQ aJ.length aR, .int .i64 aO, .slice aY aT.length aZ, .slice none 0 0, .slice none 0 0]) ?_ 4 _ rfl; refine BD ?_; refine blk_put (cs := #[.int .i64 aD, .slice aQ aJ.length aR, .int .i64 aO, .slice none 0 0, .slice none 0 0, .slice none 0 0]) ?_ 3 _ rfl; refine BD ?_; refine blk_put (cs := #[.int .i64 aD, .slice aQ aJ.length aR, .int .i64 0, .slice none 0 0, .slice none 0 0, .slice none 0 0]) ?_ 2 _ rfl; refine BD ?_; refine blk_put (cs := #[.int .i64 aD, .slice none 0 0, .int .i64 0, .slice none 0 0, .slice none 0 0, .slice none 0 0]) ?_ 1 _ rfl; refine BD ?_; refine blk_put (cs := #[.int .i64 0, .slice none 0 0, .int .i64 0, .slice none 0 0, .slice none 0 0, .slice none 0 0]) ?_ 0 _ rfl; refine BD ?_; refine blk_far ?_ aF.out _; refine BD ?_; exact aE.out) Tryz.underlying41 rfl (by kernel_rfl)) rfl ?_
 exact ⟨_, _, _, _, ER, by refine KW ?_; exact Kd.R_mono (Kd.R_far (p := ⟨aA, 5, none⟩) (Kd.R_far (p := ⟨aA, 4, none⟩) (Kd.R_far (p := ⟨aA, 3, none⟩) (Kd.R_far (p := ⟨aA, 2, none⟩) (Kd.R_far (p := ⟨aA, 1, none⟩) (Kd.R_far (p := ⟨aA, 0, none⟩) (Kd.R_far (p := ⟨aV, 5, none⟩) (Kd.R_types (Kd.R_types aW.out aB.out (by decide)) aE.out (by decide)) (fun _ hk => hk.1.2) (.slice bB aL.length bC)) (fun _ hk => hk.2) (.int .i64 aD)) (fun _ hk => hk.2) (.slice aQ aJ.length aR)) (fun _ hk => hk.2) (.int .i64 aO)) (fun _ hk => hk.2) (.slice aY aT.length aZ)) (fun _ hk => hk.2) (.slice bO aN.length bP)) (fun _ hk => hk.2) (.slice bB aL.length bC)) (fun _ hk => trivial), by refine KW ?_; exact Kd.R_mono (Kd.R_far (p := ⟨aA, 5, none⟩) (Kd.R_far (p := ⟨aA, 4, none⟩) (Kd.R_far (p := ⟨aA, 3, none⟩) (Kd.R_far (p := ⟨aA, 2, none⟩) (Kd.R_far (p := ⟨aA, 1, none⟩) (Kd.R_far (p := ⟨aA, 0, none⟩) (Kd.R_far (p := ⟨aV, 5, none⟩) (Kd.R_types (Kd.R_types bA.out aB.out (by decide)) aE.out (by decide)) (fun _ hk => hk.1.2) (.slice bB aL.length bC)) (fun _ hk => hk.2) (.int .i64 aD)) (fun _ hk => hk.2) (.slice aQ aJ.length aR)) (fun _ hk => hk.2) (.int .i64 aO)) (fun _ hk => hk.2) (.slice aY aT.length aZ)) (fun _ hk => hk.2) (.slice bO aN.length bP)) (fun _ hk => hk.2) (.slice bB aL.length bC)) (fun _ hk => trivial), by refine KX ?_; exact Kd.S_mono (Kd.S_far (p := ⟨aA, 5, none⟩) (Kd.S_far (p := ⟨aA, 4, none⟩) (Kd.S_far (p := ⟨aA, 3, none⟩) (Kd.S_far (p := ⟨aA, 2, none⟩) (Kd.S_far (p := ⟨aA, 1, none⟩) (Kd.S_far (p := ⟨aA, 0, none⟩) (Kd.S_far (p := ⟨aV, 5, none⟩) (Kd.S_types (Kd.S_types bN.out aB.out (by decide)) aE.out (by decide)) (fun _ hk => hk.1.2) (.slice bB aL.length bC)) (fun _ hk => hk.2) (.int .i64 aD)) (fun _ hk => hk.2) (.slice aQ aJ.length aR)) (fun _ hk => hk.2) (.int .i64 aO)) (fun _ hk => hk.2) (.slice aY aT.length aZ)) (fun _ hk => hk.2) (.slice bO aN.length bP)) (fun _ hk => hk.2) (.slice bB aL.length bC)) (fun _ hk => hk.1.1.2), by refine KX ?_; exact Kd.S_mono (Kd.S_far (p := ⟨aA, 5, none⟩) (Kd.S_far (p := ⟨aA, 4, none⟩) (Kd.S_far (p := ⟨aA, 3, none⟩) (Kd.S_far (p := ⟨aA, 2, none⟩) (Kd.S_far (p := ⟨aA, 1, none⟩) (Kd.S_far (p := ⟨aA, 0, none⟩) (Kd.S_far (p := ⟨aV, 5, none⟩) (Kd.S_types (Kd.S_types cE.out aB.out (by decide)) aE.out (by decide)) (fun _ hk => hk.1.2) (.slice bB aL.length bC)) (fun _ hk => hk.2) (.int .i64 aD)) (fun _ hk => hk.2) (.slice aQ aJ.length aR)) (fun _ hk => hk.2) (.int .i64 aO)) (fun _ hk => hk.2) (.slice aY aT.length aZ)) (fun _ hk => hk.2) (.slice bO aN.length bP)) (fun _ hk => hk.2) (.slice bB aL.length bC)) (fun _ hk => hk.1.1.2), K3 HB aG.out aI.out aK.out⟩
def laws_toAir.f (a0_0 : ByteArray) (a0_1 : Bool) : Option (ByteArray × Bool) := some (a0_0, a0_1)
theorem laws_toAir.calls (aF : ByteArray) (aL : Bool) (r1 : ByteArray) (r2 : Bool) (w : World) (h : laws_toAir.f aF aL = some (r1, r2)) :
  Calls Tryz.prog 30 #[.agg #[.string aF, .bool aL]] w fun e w' => e = .returned (.agg #[.string r1, .bool r2]) ∧ Below w.heap.size w w' := by
 have bE := Tryz.underlying70
 have bF := Tryz.underlying76
 have HB := am (Below.refl w.heap.size w)
 have H : (some (aF, aL)) = some (r1, r2) := h
 clear h
 simp only [Option.some.injEq, Prod.mk.injEq] at H
 obtain ⟨rfl, rfl⟩ := H
 go_enter Tryz.func30, Tryz.ntmps30
 go_wp2_with (first | ((with_reducible refine gate_dst (N := 1) rfl ?_); refine box_event rfl (N := 1) rfl (cs := #[.string aF, .bool aL]) (t := 70) BX ?_; intro bC hg w2 aD hb; have aA := am (aD); have aN := am (GH HB hg); have aE := aN; replace HB := bl (KL HB) hb; clear hb aD hg) | ((with_reducible refine gate_dst (N := 2) rfl ?_); refine box_event rfl (N := 2) rfl (cs := #[.string (⟨#[]⟩ : ByteArray), .bool false]) (t := 76) BX ?_; intro aO hg w3 aD hb; have aC := am (aD); have aP := am (GH1 HB aE.out hg); have aM := aP; replace HB := bl (K1 HB aE.out) hb; have aG := am (NL aA hg); have aH := am (NG aA hg); replace aA := am (BB aA hb); clear hb aD hg) | ((with_reducible refine gate_dst (N := 3) rfl ?_); refine box_event rfl (N := 3) rfl (cs := #[.string (⟨#[]⟩ : ByteArray), .bool false]) (t := 76) BX ?_; intro bD hg w4 aD hb; have aQ := am (aD); have aR := am (GH2 HB aE.out aM.out hg); have aS := aR; replace HB := bl (K2 HB aE.out aM.out) hb; have aI := am (NL aA hg); have aJ := am (NG aA hg); replace aA := am (BB aA hb); have aB := am (NL aC hg); have aK := am (NG aC hg); replace aC := am (BB aC hb); clear hb aD hg; have bG := aG.out; have bH := aH.out; have bI := aI.out; have bJ := aJ.out; have ⟨_, _, _⟩ := y2 w4 aA.out; have bK := aK.out; have bL := aB.out; have ⟨_, _, _⟩ := y2 w4 aQ.out; have ⟨_, _, _⟩ := y2 w4 aC.out))
 refine bodyPost_ret (results_cell_row rfl _ _ aO 76 #[.string aF, .bool aL] (0, 0) _ rfl (by refine BD ?_; refine blk_put (cs := #[.string aF, .bool false]) ?_ 1 _ rfl; refine BD ?_; refine blk_put (cs := #[.string (⟨#[]⟩ : ByteArray), .bool false]) ?_ 0 _ rfl; refine BD ?_; refine blk_far ?_ aB.out _; refine BD ?_; refine blk_far ?_ aB.out _; refine BD ?_; exact aC.out) Tryz.underlying76 rfl (by kernel_rfl)) rfl ?_
 exact ⟨ER, K3 HB aE.out aM.out aS.out⟩
def laws_toAirS.l0 : Nat → List (S70) → List (S76) → Int → Option ((List (S76)))
 | 0, _, _, _ => none
 | k + 1, x0, x3, x4 => if x4 < (x0.length : Int) then (if 0 ≤ x4 then ((laws_toAir.f ((rd_T70 x0 x4).f0) ((rd_T70 x0 x4).f1)).bind fun bt105 => (if x4 < (x3.length : Int) then (laws_toAirS.l0 k x0 (x3.set (x4 : Int).toNat (⟨bt105.1, bt105.2⟩ : S76)) (wrap64 (x4 + 1))) else (none))) else (none)) else (some x3)
def laws_toAirS.f (k : Nat) (l0 : List (S70)) : Option ((List (S76))) := if 0 ≤ (l0.length : Int) then (if ((l0.length : Int) : Int).toNat ≤ 11728124029610 then (laws_toAirS.l0 k l0 (List.replicate ((l0.length : Int) : Int).toNat z76) 0) else (none)) else (none)
theorem laws_toAirS.calls (k : Nat) (A0 : Option Addr) (c0 : Nat) (l0 : List (S70)) (r : List (S76)) (w : World) (bK : Kd.C k70 w A0 l0.length l0) (bL : l0.length ≤ c0) (h : laws_toAirS.f k l0 = some r) :
  Calls Tryz.prog 14 #[.slice A0 l0.length c0] w fun e w' => ∃ v0_ : Value, e = .returned (v0_) ∧ Kd.R k76 76 w' w.heap.size (fun _ => True) v0_ r ∧ Below w.heap.size w w' := by
 have bO := Tryz.underlying70
 have bP := Tryz.underlying76
 have bQ := Aside0.mk bK
 have bR := Aside0.mk bL
 clear bK bL
 have HB := am (Below.refl w.heap.size w)
 have H : (if 0 ≤ (l0.length : Int) then (if ((l0.length : Int) : Int).toNat ≤ 11728124029610 then (laws_toAirS.l0 k l0 (List.replicate ((l0.length : Int) : Int).toNat z76) 0) else (none)) else (none)) = some r := h
 clear h
 by_cases c2 : 0 ≤ (l0.length : Int)
 ·rw [if_pos c2] at H
  have c2b0 := eq_true c2
  have c2b1 : decide (0 ≤ (l0.length : Int)) = true := decide_eq_true c2
  clear c2
  by_cases c3 : ((l0.length : Int) : Int).toNat ≤ 11728124029610
  ·rw [if_pos c3] at H
   have c3b0 := eq_true c3
   have c3b1 : decide (((l0.length : Int) : Int).toNat ≤ 11728124029610) = true := decide_eq_true c3
   clear c3
   obtain ⟨aV, aD⟩ : ∃ y_ : List (S76), y_ = (List.replicate ((l0.length : Int) : Int).toNat z76) := ⟨_, rfl⟩
   replace H : (laws_toAirS.l0 k l0 aV 0) = some r := by first | (rw [aD]; with_reducible exact H) | (have H2_ := (Option.bind_some _ _).symm.trans H; rw [aD]; with_reducible exact H2_) | (have H2_ := (Option.bind_some _ _).symm.trans H; with_reducible exact H2_) | with_reducible exact H | (rw [aD]; exact H) | exact H
   have Ny101 := Aside0.mk aD
   clear aD
   have H' := Aside0.mk H
   clear H
   go_enter Tryz.func14, Tryz.ntmps14
   go_wp2_with (first | ((with_reducible refine gate_dst (N := 7) rfl ?_); refine Kd.R_make k76 _ 76 rfl (N := 7) rfl 42 _ _ rfl (l0.length : Int) rfl rfl Tryz.underlying42 (.agg #[(.string ⟨#[]⟩), (.bool false)]) 24 info76 rfl (by decide) (by omega) z76 (ok := fun _ => True) (okp := fun _ => True) (k76_mkM _ _ _ z76 ) (fun _ hk => hk) trivial (OD) (Nat.le_trans (Nat.mul_le_mul_right _ (OD : (l0.length : Int).toNat ≤ 11728124029610)) (by omega)) (Below.refl _ _) (Nat.le_refl _) ?_; intro bB w4 aW hb hg_ hnew_; clear hg_ hnew_; (first | rw [← Ny101.out] at aW | (simp only [Int.reduceToNat] at aW; rw [← Ny101.out] at aW)); have aX := am (Kd.R_lower aW (below_size (KL HB))); replace HB := bl (KL HB) hb; clear hb aW))
   go_loopg [4] k (fun kq v4 w' => ∃ (aB : List (S76)) (aA : Int), v4 = .int .i64 aA ∧ Aside0 (laws_toAirS.l0 kq l0 aB aA = some r) ∧ Aside0 (kq ≤ k) ∧ Aside0 (Kd.R k76 76 w' w.heap.size (fun _ => True) bB aB) ∧ Aside0 (Below w.heap.size w w'))
   case atStart => exact ⟨(aV), (0), (by first | rfl | (simp; done) | (simp [*]; done)), H', ⟨Nat.le_refl _⟩, ⟨KR aX⟩, ⟨KL HB⟩⟩
   case round =>
    clear H'
    try clear c1
    try clear c2
    try clear c2b0
    try clear c2b1
    try clear p2
    try clear c3
    try clear c3b0
    try clear c3b1
    obtain ⟨aB, aA, rfl, HA, HK1, aC, HB⟩ := hrel
    cases gk with
    | zero => exact absurd HA.out (by simp [laws_toAirS.l0])
    | succ k1 =>
     have H := HA.out
     clear HA
     simp only [laws_toAirS.l0] at H
     by_cases c6 : aA < (l0.length : Int)
     ·rw [if_pos c6] at H
      have c6b0 : decide (aA < (l0.length : Int)) = true := decide_eq_true c6
      clear c6
      by_cases c7 : 0 ≤ aA
      ·rw [if_pos c7] at H
       have c7b0 : decide (0 ≤ aA) = true := decide_eq_true c7
       clear c7
       replace H := bm H
       obtain ⟨⟨aF, aG⟩, bM, H⟩ := H
       replace H : (if aA < (aB.length : Int) then (laws_toAirS.l0 k1 l0 (aB.set (aA : Int).toNat (⟨aF, aG⟩ : S76)) (wrap64 (aA + 1))) else (none)) = some r := H
       have A8 := Aside0.mk bM
       clear bM
       by_cases c9 : aA < (aB.length : Int)
       ·rw [if_pos c9] at H
        have c9b0 : decide (aA < (aB.length : Int)) = true := decide_eq_true c9
        clear c9
        obtain ⟨aN, aE⟩ : ∃ y_ : List (S76), y_ = (aB.set (aA : Int).toNat (⟨aF, aG⟩ : S76)) := ⟨_, rfl⟩
        replace H : (laws_toAirS.l0 k1 l0 aN (wrap64 (aA + 1))) = some r := by first | (rw [aE]; with_reducible exact H) | (have H2_ := (Option.bind_some _ _).symm.trans H; rw [aE]; with_reducible exact H2_) | (have H2_ := (Option.bind_some _ _).symm.trans H; with_reducible exact H2_) | with_reducible exact H | (rw [aE]; exact H) | exact H
        have Ny107 := Aside0.mk aE
        clear aE
        have H' := Aside0.mk H
        clear H
        have aO : 0 ≤ (aA : Int) := OD
        have aP : aA < (l0.length : Int) := OD
        obtain ⟨_, bC, aH, aI⟩ := at_T70 bQ.out aA aO aP
        cases bC
        replace aH := CX HB.out aH
        replace aI := CX HB.out aI
        replace aO := eq_true aO
        replace aP := eq_true aP
        go_wp2_with (first | ((with_reducible refine gate_callee (f := 30) rfl ?_); refine goesL_ (some 20) rfl rfl Tryz.func30 (by kernel_rfl) rfl #[.agg #[.string ((rd_T70 l0 aA).f0), .bool ((rd_T70 l0 aA).f1)]] rfl MT ?_; (with_reducible refine (laws_toAir.calls ((rd_T70 l0 aA).f0) ((rd_T70 l0 aA).f1) aF aG _ A8.out).mono ?_); rintro e aQ ⟨rfl, hb⟩; refine ⟨_, rfl, ?_⟩; replace aC := am (Kd.R_below (KR aC) hb); replace HB := bl (KL HB) hb; (try clear hb); have bD : 0 ≤ (aA : Int) := OD; have bE : (aA : Int) < ((aB.length : Int) : Int) := OD; obtain ⟨go10, aY, aZ, bA, gl10, cl10, HG10⟩ := Kd.R_form aC.out (by omega); (first | cases aZ | (injection aZ with ea_ en_ ec_; (first | subst ea_ | (injection ea_ with ea_; subst ea_)); subst ec_; clear en_)); have GB10 := Aside0.mk bA; have GG10 := Aside0.mk HG10; clear bA gl10 HG10; obtain ⟨ce10, hcl10, hM10, aK, aL⟩ := Kd.R_elem aC.out z76 (aA : Int) bD bE; obtain rfl := k76_openM hM10; have bF : aQ.cell? ⟨go10, (aA : Int).toNat * 2, none⟩ = some (.string ((rd_T76 aB aA).f0)) := aK 0 _ rfl; have bG : aQ.cell? ⟨go10, (aA : Int).toNat * 2 + 1, none⟩ = some (.bool ((rd_T76 aB aA).f1)) := aK 1 _ rfl; have bH : aQ.frozen? ⟨go10, (aA : Int).toNat * 2, none⟩ = false := aL 0; have bI : aQ.frozen? ⟨go10, (aA : Int).toNat * 2 + 1, none⟩ = false := aL 1; clear hcl10 aK aL hM10; replace bD := eq_true bD; replace bE := eq_true bE; have HX12 := am (show Kd.R k76 76 aQ w.heap.size (fun _ => True) (.slice (some ⟨go10, 0, none⟩) aB.length aY) aB from (KR aC)); obtain ⟨ce12, hcl12, hM12, aJ, aM⟩ := Kd.R_elem HX12.out z76 (aA : Int) (OD) (by have h_ : (aA : Int) < ((aB.length : Int) : Int) := OD; first | exact h_ | (have e_ := (Kd.R_reads' aC.out).1; omega) | simpa using h_); obtain rfl := k76_openM hM12; have HP12 := Kd.R_seg HX12.out (aA : Int) (OD) (by have h_ : (aA : Int) < ((aB.length : Int) : Int) := OD; first | exact h_ | (have e_ := (Kd.R_reads' aC.out).1; omega) | simpa using h_) (seg := [.string aF, .bool aG]) (j := 0) hcl12 aJ (show 2 ≤ 2 from by decide) (x' := (⟨aF, aG⟩ : S76)) (k76_mkM _ _ _ (⟨aF, aG⟩ : S76) ) (fun _ hk => hk); have aR := aJ 0 _ rfl; (try simp only [show (k76).sz = 2 from rfl, Nat.mul_one, Nat.add_zero] at aR); have aS := aM 0; (try simp only [show (k76).sz = 2 from rfl, Nat.mul_one, Nat.add_zero] at aS); have aT := aJ 1 _ rfl; (try simp only [show (k76).sz = 2 from rfl, Nat.mul_one, Nat.add_zero] at aT); have aU := aM 1; (try simp only [show (k76).sz = 2 from rfl, Nat.mul_one, Nat.add_zero] at aU); clear hcl12 aJ aM hM12) | ((with_reducible refine gate_store (t := 76) (p := 21) rfl ?_); refine store_event (t := 76) (p := 21) (v := ?vo_w13) (w1 := ((aQ.setCell ⟨go10, (aA : Int).toNat * 2, none⟩ (.string aF)).setCell ⟨go10, (aA : Int).toNat * 2 + 1, none⟩ (.bool aG))) ?hg ?ho ?hn ?hr ?_; (case ho => rfl); (case hg => rfl); (case hn => rfl); (case hr => first | (go_simp; done) | (go_simp; rfl)); intro bJ hw; have hg : aQ.grownBy bJ (some go10) := (by rw [hw]; exact HP12.2); have hp_ : Kd.R k76 76 bJ w.heap.size (fun _ => True) (.slice (some ⟨go10, 0, none⟩) aB.length aY) aN := (by rw [hw, Ny107.out]; exact HP12.1); clear HP12; replace aC := am (hp_); replace HB := am ((by rw [hw]; exact below_set (below_set (HB.out) GB10.out) GB10.out : Below w.heap.size w bJ)); clear hg hw hp_))
        go_roundg k1
        case measure => have := HK1.out; omega
        case rel => exact ⟨(aN), (wrap64 (aA + 1)), (by first | rfl | (simp; done) | (simp [*]; done)), H', ⟨by have := HK1.out; omega⟩, ⟨KR aC⟩, ⟨KL HB⟩⟩
       ·rw [if_neg c9] at H
        exact absurd H (by simp)
      ·rw [if_neg c7] at H
       exact absurd H (by simp)
     ·rw [if_neg c6] at H
      have c6b0 : decide (aA < (l0.length : Int)) = false := decide_eq_false c6
      clear c6
      obtain rfl := sj H
      go_wp2
      go_ret
      exact ⟨_, ER, by refine KW ?_; exact aC.out, KL HB⟩
  ·rw [if_neg c3] at H
   exact absurd H (by simp)
 ·rw [if_neg c2] at H
  exact absurd H (by simp)
def laws_toPacket.f (a0_0 : Int) (a0_1 : Int) (a0_2 : Int) (a0_3 : ByteArray) : Option (Int × Int × Int × ByteArray) := some (a0_0, a0_1, a0_2, a0_3)
theorem laws_toPacket.calls (aD : Int) (aG : Int) (aH : Int) (aN : ByteArray) (r1 : Int) (r2 : Int) (r3 : Int) (r4 : ByteArray) (w : World) (h : laws_toPacket.f aD aG aH aN = some (r1, r2, r3, r4)) :
  Calls Tryz.prog 50 #[.agg #[.int .i64 aD, .int .i64 aG, .int .i64 aH, .string aN]] w fun e w' => e = .returned (.agg #[.int .i64 r1, .int .i64 r2, .int .i64 r3, .string r4]) ∧ Below w.heap.size w w' := by
 have bM := Tryz.underlying72
 have bN := Tryz.underlying53
 have HB := am (Below.refl w.heap.size w)
 have H : (some (aD, aG, aH, aN)) = some (r1, r2, r3, r4) := h
 clear h
 simp only [Option.some.injEq, Prod.mk.injEq] at H
 obtain ⟨rfl, rfl, rfl, rfl⟩ := H
 go_enter Tryz.func50, Tryz.ntmps50
 go_wp2_with (first | ((with_reducible refine gate_dst (N := 1) rfl ?_); refine box_event rfl (N := 1) rfl (cs := #[.int .i64 aD, .int .i64 aG, .int .i64 aH, .string aN]) (t := 72) BX ?_; intro bK hg w2 aE hb; have aB := am (aE); have aP := am (GH HB hg); have aF := aP; replace HB := bl (KL HB) hb; clear hb aE hg) | ((with_reducible refine gate_dst (N := 2) rfl ?_); refine box_event rfl (N := 2) rfl (cs := #[.int .i64 0, .int .i64 0, .int .i64 0, .string (⟨#[]⟩ : ByteArray)]) (t := 53) BX ?_; intro aQ hg w3 aE hb; have aC := am (aE); have aR := am (GH1 HB aF.out hg); have aO := aR; replace HB := bl (K1 HB aF.out) hb; have aI := am (NL aB hg); have aJ := am (NG aB hg); replace aB := am (BB aB hb); clear hb aE hg) | ((with_reducible refine gate_dst (N := 3) rfl ?_); refine box_event rfl (N := 3) rfl (cs := #[.int .i64 0, .int .i64 0, .int .i64 0, .string (⟨#[]⟩ : ByteArray)]) (t := 53) BX ?_; intro bL hg w4 aE hb; have aS := am (aE); have aT := am (GH2 HB aF.out aO.out hg); have aU := aT; replace HB := bl (K2 HB aF.out aO.out) hb; have aK := am (NL aB hg); have aL := am (NG aB hg); replace aB := am (BB aB hb); have aA := am (NL aC hg); have aM := am (NG aC hg); replace aC := am (BB aC hb); clear hb aE hg; have bO := aI.out; have bP := aJ.out; have bQ := aK.out; have bR := aL.out; have ⟨_, _, _, _, _⟩ := y4 w4 aB.out; have bS := aM.out; have bT := aA.out; have ⟨_, _, _, _, _⟩ := y4 w4 aS.out; have ⟨_, _, _, _, _⟩ := y4 w4 aC.out))
 refine bodyPost_ret (results_cell_row rfl _ _ aQ 53 #[.int .i64 aD, .int .i64 aG, .int .i64 aH, .string aN] (0, 0) _ rfl (by refine BD ?_; refine blk_put (cs := #[.int .i64 aD, .int .i64 aG, .int .i64 aH, .string (⟨#[]⟩ : ByteArray)]) ?_ 3 _ rfl; refine BD ?_; refine blk_put (cs := #[.int .i64 aD, .int .i64 aG, .int .i64 0, .string (⟨#[]⟩ : ByteArray)]) ?_ 2 _ rfl; refine BD ?_; refine blk_put (cs := #[.int .i64 aD, .int .i64 0, .int .i64 0, .string (⟨#[]⟩ : ByteArray)]) ?_ 1 _ rfl; refine BD ?_; refine blk_put (cs := #[.int .i64 0, .int .i64 0, .int .i64 0, .string (⟨#[]⟩ : ByteArray)]) ?_ 0 _ rfl; refine BD ?_; refine blk_far ?_ aA.out _; refine BD ?_; refine blk_far ?_ aA.out _; refine BD ?_; refine blk_far ?_ aA.out _; refine BD ?_; refine blk_far ?_ aA.out _; refine BD ?_; exact aC.out) Tryz.underlying53 rfl (by kernel_rfl)) rfl ?_
 exact ⟨ER, K3 HB aF.out aO.out aU.out⟩
def laws_toSent.f (a0_0 : Int) (a0_1 : Int) (a0_2 : Int) (a0_3 : ByteArray) (a0_4 : Int) (a0_5 : Int) (a0_6 : Int) : Option (Int × Int × Int × ByteArray × Int × Int × Int) := (laws_toPacket.f a0_0 a0_1 a0_2 a0_3).bind fun bt104 => (some (bt104.1, bt104.2.1, bt104.2.2.1, bt104.2.2.2, a0_4, a0_5, a0_6))
theorem laws_toSent.calls (aM : Int) (aN : Int) (aO : Int) (aP : ByteArray) (aF : Int) (aI : Int) (aQ : Int) (r1 : Int) (r2 : Int) (r3 : Int) (r4 : ByteArray) (r5 : Int) (r6 : Int) (r7 : Int) (w : World) (h : laws_toSent.f aM aN aO aP aF aI aQ = some (r1, r2, r3, r4, r5, r6, r7)) :
  Calls Tryz.prog 31 #[.agg #[.int .i64 aM, .int .i64 aN, .int .i64 aO, .string aP, .int .i64 aF, .int .i64 aI, .int .i64 aQ]] w fun e w' => e = .returned (.agg #[.int .i64 r1, .int .i64 r2, .int .i64 r3, .string r4, .int .i64 r5, .int .i64 r6, .int .i64 r7]) ∧ Below w.heap.size w w' := by
 have cO := Tryz.underlying74
 have cP := Tryz.underlying55
 have cQ := Tryz.underlying72
 have cR := Tryz.underlying53
 have HB := am (Below.refl w.heap.size w)
 have H : ((laws_toPacket.f aM aN aO aP).bind fun aK => (some (aK.1, aK.2.1, aK.2.2.1, aK.2.2.2, aF, aI, aQ))) = some (r1, r2, r3, r4, r5, r6, r7) := h
 clear h
 replace H := bm H
 obtain ⟨⟨aE, aG, aJ, aR⟩, cJ, H⟩ := H
 replace H : (some (aE, aG, aJ, aR, aF, aI, aQ)) = some (r1, r2, r3, r4, r5, r6, r7) := H
 have A2 := Aside0.mk cJ
 clear cJ
 simp only [Option.some.injEq, Prod.mk.injEq] at H
 obtain ⟨rfl, rfl, rfl, rfl, rfl, rfl, rfl⟩ := H
 go_enter Tryz.func31, Tryz.ntmps31
 go_wp2_with (first | ((with_reducible refine gate_dst (N := 1) rfl ?_); refine box_event rfl (N := 1) rfl (cs := #[.int .i64 aM, .int .i64 aN, .int .i64 aO, .string aP, .int .i64 aF, .int .i64 aI, .int .i64 aQ]) (t := 74) BX ?_; intro cK hg w3 aH hb; have aB := am (aH); have aZ := am (GH HB hg); have aD := aZ; replace HB := bl (KL HB) hb; clear hb aH hg) | ((with_reducible refine gate_dst (N := 2) rfl ?_); refine box_event rfl (N := 2) rfl (cs := #[.int .i64 0, .int .i64 0, .int .i64 0, .string (⟨#[]⟩ : ByteArray), .int .i64 0, .int .i64 0, .int .i64 0]) (t := 55) BX ?_; intro bA hg w4 aH hb; have aC := am (aH); have bB := am (GH1 HB aD.out hg); have aL := bB; replace HB := bl (K1 HB aD.out) hb; have aS := am (NL aB hg); have aT := am (NG aB hg); replace aB := am (BB aB hb); clear hb aH hg) | ((with_reducible refine gate_dst (N := 3) rfl ?_); refine box_event rfl (N := 3) rfl (cs := #[.int .i64 0, .int .i64 0, .int .i64 0, .string (⟨#[]⟩ : ByteArray), .int .i64 0, .int .i64 0, .int .i64 0]) (t := 55) BX ?_; intro cL hg w5 aH hb; have aX := am (aH); have bC := am (GH2 HB aD.out aL.out hg); have aY := bC; replace HB := bl (K2 HB aD.out aL.out) hb; have aU := am (NL aB hg); have aV := am (NG aB hg); replace aB := am (BB aB hb); have aA := am (NL aC hg); have aW := am (NG aC hg); replace aC := am (BB aC hb); clear hb aH hg; have cS := aS.out; have cT := aT.out; have cU := aU.out; have cV := aV.out; have ⟨_, _, _, _, _, _, _, _⟩ := y7 w5 aB.out) | ((with_reducible refine gate_callee (f := 50) rfl ?_); refine goesL_ (some 6) rfl rfl Tryz.func50 (by kernel_rfl) rfl #[.agg #[.int .i64 aM, .int .i64 aN, .int .i64 aO, .string aP]] rfl MT ?_; (with_reducible refine (laws_toPacket.calls aM aN aO aP aE aG aJ aR _ A2.out).mono ?_); rintro e w9 ⟨rfl, hb⟩; refine ⟨_, rfl, ?_⟩; replace aB := am (BB aB hb); replace aC := am (BB aC hb); replace aX := am (BB aX hb); replace HB := bl (K3 HB aD.out aL.out aY.out) hb; (try clear hb); have cM := aW.out; have cN := aA.out; have ⟨_, _, _, _, _, _, _, _⟩ := y7 w9 aX.out; have ⟨_, _, _, _, _, _, _, _⟩ := y7 w9 aB.out; have ⟨_, _, _, _, _, _, _, _⟩ := y7 w9 aC.out))
 refine bodyPost_ret (results_cell_row rfl _ _ bA 55 #[.int .i64 aE, .int .i64 aG, .int .i64 aJ, .string aR, .int .i64 aF, .int .i64 aI, .int .i64 aQ] (0, 0) _ rfl (by refine BD ?_; refine blk_put (cs := #[.int .i64 aE, .int .i64 aG, .int .i64 aJ, .string aR, .int .i64 aF, .int .i64 aI, .int .i64 0]) ?_ 6 _ rfl; refine BD ?_; refine blk_put (cs := #[.int .i64 aE, .int .i64 aG, .int .i64 aJ, .string aR, .int .i64 aF, .int .i64 0, .int .i64 0]) ?_ 5 _ rfl; refine BD ?_; refine blk_put (cs := #[.int .i64 aE, .int .i64 aG, .int .i64 aJ, .string aR, .int .i64 0, .int .i64 0, .int .i64 0]) ?_ 4 _ rfl; refine BD ?_; refine blk_put (cs := #[.int .i64 aE, .int .i64 aG, .int .i64 aJ, .string (⟨#[]⟩ : ByteArray), .int .i64 0, .int .i64 0, .int .i64 0]) ?_ 3 _ rfl; refine BD ?_; refine blk_put (cs := #[.int .i64 aE, .int .i64 aG, .int .i64 0, .string (⟨#[]⟩ : ByteArray), .int .i64 0, .int .i64 0, .int .i64 0]) ?_ 2 _ rfl; refine BD ?_; refine blk_put (cs := #[.int .i64 aE, .int .i64 0, .int .i64 0, .string (⟨#[]⟩ : ByteArray), .int .i64 0, .int .i64 0, .int .i64 0]) ?_ 1 _ rfl; refine BD ?_; refine blk_put (cs := #[.int .i64 0, .int .i64 0, .int .i64 0, .string (⟨#[]⟩ : ByteArray), .int .i64 0, .int .i64 0, .int .i64 0]) ?_ 0 _ rfl; refine BD ?_; refine blk_far ?_ aA.out _; refine BD ?_; refine blk_far ?_ aA.out _; refine BD ?_; refine blk_far ?_ aA.out _; refine BD ?_; refine blk_far ?_ aA.out _; refine BD ?_; refine blk_far ?_ aA.out _; refine BD ?_; refine blk_far ?_ aA.out _; refine BD ?_; refine blk_far ?_ aA.out _; refine BD ?_; exact aC.out) Tryz.underlying55 rfl (by kernel_rfl)) rfl ?_
 exact ⟨ER, K3 HB aD.out aL.out aY.out⟩
def laws_toSentS.l0 : Nat → List (S74) → List (S55) → Int → Option ((List (S55)))
 | 0, _, _, _ => none
 | k + 1, x0, x3, x4 => if x4 < (x0.length : Int) then (if 0 ≤ x4 then ((laws_toSent.f ((rd_T74 x0 x4).f0.f0) ((rd_T74 x0 x4).f0.f1) ((rd_T74 x0 x4).f0.f2) ((rd_T74 x0 x4).f0.f3) ((rd_T74 x0 x4).f1) ((rd_T74 x0 x4).f2) ((rd_T74 x0 x4).f3)).bind fun bt105 => (if x4 < (x3.length : Int) then (laws_toSentS.l0 k x0 (x3.set (x4 : Int).toNat (⟨(⟨bt105.1, bt105.2.1, bt105.2.2.1, bt105.2.2.2.1⟩ : S53), bt105.2.2.2.2.1, bt105.2.2.2.2.2.1, bt105.2.2.2.2.2.2⟩ : S55)) (wrap64 (x4 + 1))) else (none))) else (none)) else (some x3)
def laws_toSentS.f (k : Nat) (l0 : List (S74)) : Option ((List (S55))) := if 0 ≤ (l0.length : Int) then (if ((l0.length : Int) : Int).toNat ≤ 4398046511104 then (laws_toSentS.l0 k l0 (List.replicate ((l0.length : Int) : Int).toNat z55) 0) else (none)) else (none)
theorem laws_toSentS.calls (k : Nat) (A0 : Option Addr) (c0 : Nat) (l0 : List (S74)) (r : List (S55)) (w : World) (cO : Kd.C k74 w A0 l0.length l0) (cP : l0.length ≤ c0) (h : laws_toSentS.f k l0 = some r) :
  Calls Tryz.prog 15 #[.slice A0 l0.length c0] w fun e w' => ∃ v0_ : Value, e = .returned (v0_) ∧ Kd.R k55 55 w' w.heap.size (fun _ => True) v0_ r ∧ Below w.heap.size w w' := by
 have cS := Tryz.underlying74
 have cT := Tryz.underlying55
 have cU := Aside0.mk cO
 have cV := Aside0.mk cP
 clear cO cP
 have HB := am (Below.refl w.heap.size w)
 have H : (if 0 ≤ (l0.length : Int) then (if ((l0.length : Int) : Int).toNat ≤ 4398046511104 then (laws_toSentS.l0 k l0 (List.replicate ((l0.length : Int) : Int).toNat z55) 0) else (none)) else (none)) = some r := h
 clear h
 by_cases c2 : 0 ≤ (l0.length : Int)
 ·rw [if_pos c2] at H
  have c2b0 := eq_true c2
  have c2b1 : decide (0 ≤ (l0.length : Int)) = true := decide_eq_true c2
  clear c2
  by_cases c3 : ((l0.length : Int) : Int).toNat ≤ 4398046511104
  ·rw [if_pos c3] at H
   have c3b0 := eq_true c3
   have c3b1 : decide (((l0.length : Int) : Int).toNat ≤ 4398046511104) = true := decide_eq_true c3
   clear c3
   obtain ⟨bP, aH⟩ : ∃ y_ : List (S55), y_ = (List.replicate ((l0.length : Int) : Int).toNat z55) := ⟨_, rfl⟩
   replace H : (laws_toSentS.l0 k l0 bP 0) = some r := by first | (rw [aH]; with_reducible exact H) | (have H2_ := (Option.bind_some _ _).symm.trans H; rw [aH]; with_reducible exact H2_) | (have H2_ := (Option.bind_some _ _).symm.trans H; with_reducible exact H2_) | with_reducible exact H | (rw [aH]; exact H) | exact H
   have Ny101 := Aside0.mk aH
   clear aH
   have H' := Aside0.mk H
   clear H
   go_enter Tryz.func15, Tryz.ntmps15
   go_wp2_with (first | ((with_reducible refine gate_dst (N := 7) rfl ?_); refine Kd.R_make k55 _ 55 rfl (N := 7) rfl 43 _ _ rfl (l0.length : Int) rfl rfl Tryz.underlying43 (.agg #[(.int .i64 0), (.int .i64 0), (.int .i64 0), (.string ⟨#[]⟩), (.int .i64 0), (.int .i64 0), (.int .i64 0)]) 64 info55 rfl (by decide) (by omega) z55 (ok := fun _ => True) (okp := fun _ => True) (k55_mkM _ _ _ z55 ) (fun _ hk => hk) trivial (OD) (Nat.le_trans (Nat.mul_le_mul_right _ (OD : (l0.length : Int).toNat ≤ 4398046511104)) (by omega)) (Below.refl _ _) (Nat.le_refl _) ?_; intro bV w4 bQ hb hg_ hnew_; clear hg_ hnew_; (first | rw [← Ny101.out] at bQ | (simp only [Int.reduceToNat] at bQ; rw [← Ny101.out] at bQ)); have bR := am (Kd.R_lower bQ (below_size (KL HB))); replace HB := bl (KL HB) hb; clear hb bQ))
   go_loopg [4] k (fun kq v4 w' => ∃ (aB : List (S55)) (aA : Int), v4 = .int .i64 aA ∧ Aside0 (laws_toSentS.l0 kq l0 aB aA = some r) ∧ Aside0 (kq ≤ k) ∧ Aside0 (Kd.R k55 55 w' w.heap.size (fun _ => True) bV aB) ∧ Aside0 (Below w.heap.size w w'))
   case atStart => exact ⟨(bP), (0), (by first | rfl | (simp; done) | (simp [*]; done)), H', ⟨Nat.le_refl _⟩, ⟨KR bR⟩, ⟨KL HB⟩⟩
   case round =>
    clear H'
    try clear c1
    try clear c2
    try clear c2b0
    try clear c2b1
    try clear p2
    try clear c3
    try clear c3b0
    try clear c3b1
    obtain ⟨aB, aA, rfl, HA, HK1, aG, HB⟩ := hrel
    cases gk with
    | zero => exact absurd HA.out (by simp [laws_toSentS.l0])
    | succ k1 =>
     have H := HA.out
     clear HA
     simp only [laws_toSentS.l0] at H
     by_cases c6 : aA < (l0.length : Int)
     ·rw [if_pos c6] at H
      have c6b0 : decide (aA < (l0.length : Int)) = true := decide_eq_true c6
      clear c6
      by_cases c7 : 0 ≤ aA
      ·rw [if_pos c7] at H
       have c7b0 : decide (0 ≤ aA) = true := decide_eq_true c7
       clear c7
       replace H := bm H
       obtain ⟨⟨aK, aL, aM, aN, aO, aP, aQ⟩, cQ, H⟩ := H
       replace H : (if aA < (aB.length : Int) then (laws_toSentS.l0 k1 l0 (aB.set (aA : Int).toNat (⟨(⟨aK, aL, aM, aN⟩ : S53), aO, aP, aQ⟩ : S55)) (wrap64 (aA + 1))) else (none)) = some r := H
       have A8 := Aside0.mk cQ
       clear cQ
       by_cases c9 : aA < (aB.length : Int)
       ·rw [if_pos c9] at H
        have c9b0 : decide (aA < (aB.length : Int)) = true := decide_eq_true c9
        clear c9
        obtain ⟨aY, aI⟩ : ∃ y_ : List (S55), y_ = (aB.set (aA : Int).toNat (⟨(⟨aK, aL, aM, aN⟩ : S53), aO, aP, aQ⟩ : S55)) := ⟨_, rfl⟩
        replace H : (laws_toSentS.l0 k1 l0 aY (wrap64 (aA + 1))) = some r := by first | (rw [aI]; with_reducible exact H) | (have H2_ := (Option.bind_some _ _).symm.trans H; rw [aI]; with_reducible exact H2_) | (have H2_ := (Option.bind_some _ _).symm.trans H; with_reducible exact H2_) | with_reducible exact H | (rw [aI]; exact H) | exact H
        have Ny112 := Aside0.mk aI
        clear aI
        have H' := Aside0.mk H
        clear H
        have aZ : 0 ≤ (aA : Int) := OD
        have bA : aA < (l0.length : Int) := OD
        obtain ⟨_, bW, aR, aS, aT, aU, aV, aW, aX⟩ := at_T74 cU.out aA aZ bA
        cases bW
        replace aR := CX HB.out aR
        replace aS := CX HB.out aS
        replace aT := CX HB.out aT
        replace aU := CX HB.out aU
        replace aV := CX HB.out aV
        replace aW := CX HB.out aW
        replace aX := CX HB.out aX
        replace aZ := eq_true aZ
        replace bA := eq_true bA
        go_wp2_with (first | ((with_reducible refine gate_callee (f := 31) rfl ?_); refine goesL_ (some 20) rfl rfl Tryz.func31 (by kernel_rfl) rfl #[.agg #[.int .i64 ((rd_T74 l0 aA).f0.f0), .int .i64 ((rd_T74 l0 aA).f0.f1), .int .i64 ((rd_T74 l0 aA).f0.f2), .string ((rd_T74 l0 aA).f0.f3), .int .i64 ((rd_T74 l0 aA).f1), .int .i64 ((rd_T74 l0 aA).f2), .int .i64 ((rd_T74 l0 aA).f3)]] rfl MT ?_; (with_reducible refine (laws_toSent.calls ((rd_T74 l0 aA).f0.f0) ((rd_T74 l0 aA).f0.f1) ((rd_T74 l0 aA).f0.f2) ((rd_T74 l0 aA).f0.f3) ((rd_T74 l0 aA).f1) ((rd_T74 l0 aA).f2) ((rd_T74 l0 aA).f3) aK aL aM aN aO aP aQ _ A8.out).mono ?_); rintro e aJ ⟨rfl, hb⟩; refine ⟨_, rfl, ?_⟩; replace aG := am (Kd.R_below (KR aG) hb); replace HB := bl (KL HB) hb; (try clear hb); have bX : 0 ≤ (aA : Int) := OD; have bY : (aA : Int) < ((aB.length : Int) : Int) := OD; obtain ⟨go10, bS, bT, bU, gl10, cl10, HG10⟩ := Kd.R_form aG.out (by omega); (first | cases bT | (injection bT with ea_ en_ ec_; (first | subst ea_ | (injection ea_ with ea_; subst ea_)); subst ec_; clear en_)); have GB10 := Aside0.mk bU; have GG10 := Aside0.mk HG10; clear bU gl10 HG10; obtain ⟨ce10, hcl10, hM10, aD, aE⟩ := Kd.R_elem aG.out z55 (aA : Int) bX bY; obtain rfl := k55_openM hM10; have bZ : aJ.cell? ⟨go10, (aA : Int).toNat * 7, none⟩ = some (.int .i64 ((rd_T55 aB aA).f0.f0)) := aD 0 _ rfl; have cA : aJ.cell? ⟨go10, (aA : Int).toNat * 7 + 1, none⟩ = some (.int .i64 ((rd_T55 aB aA).f0.f1)) := aD 1 _ rfl; have cB : aJ.cell? ⟨go10, (aA : Int).toNat * 7 + 2, none⟩ = some (.int .i64 ((rd_T55 aB aA).f0.f2)) := aD 2 _ rfl; have cC : aJ.cell? ⟨go10, (aA : Int).toNat * 7 + 3, none⟩ = some (.string ((rd_T55 aB aA).f0.f3)) := aD 3 _ rfl; have cD : aJ.cell? ⟨go10, (aA : Int).toNat * 7 + 4, none⟩ = some (.int .i64 ((rd_T55 aB aA).f1)) := aD 4 _ rfl; have cE : aJ.cell? ⟨go10, (aA : Int).toNat * 7 + 5, none⟩ = some (.int .i64 ((rd_T55 aB aA).f2)) := aD 5 _ rfl; have cF : aJ.cell? ⟨go10, (aA : Int).toNat * 7 + 6, none⟩ = some (.int .i64 ((rd_T55 aB aA).f3)) := aD 6 _ rfl; have cG : aJ.frozen? ⟨go10, (aA : Int).toNat * 7, none⟩ = false := aE 0; have cH : aJ.frozen? ⟨go10, (aA : Int).toNat * 7 + 1, none⟩ = false := aE 1; have cI : aJ.frozen? ⟨go10, (aA : Int).toNat * 7 + 2, none⟩ = false := aE 2; have cJ : aJ.frozen? ⟨go10, (aA : Int).toNat * 7 + 3, none⟩ = false := aE 3; have cK : aJ.frozen? ⟨go10, (aA : Int).toNat * 7 + 4, none⟩ = false := aE 4; have cL : aJ.frozen? ⟨go10, (aA : Int).toNat * 7 + 5, none⟩ = false := aE 5; have cM : aJ.frozen? ⟨go10, (aA : Int).toNat * 7 + 6, none⟩ = false := aE 6; clear hcl10 aD aE hM10; replace bX := eq_true bX; replace bY := eq_true bY; have HX12 := am (show Kd.R k55 55 aJ w.heap.size (fun _ => True) (.slice (some ⟨go10, 0, none⟩) aB.length bS) aB from (KR aG)); obtain ⟨ce12, hcl12, hM12, aC, aF⟩ := Kd.R_elem HX12.out z55 (aA : Int) (OD) (by have h_ : (aA : Int) < ((aB.length : Int) : Int) := OD; first | exact h_ | (have e_ := (Kd.R_reads' aG.out).1; omega) | simpa using h_); obtain rfl := k55_openM hM12; have HP12 := Kd.R_seg HX12.out (aA : Int) (OD) (by have h_ : (aA : Int) < ((aB.length : Int) : Int) := OD; first | exact h_ | (have e_ := (Kd.R_reads' aG.out).1; omega) | simpa using h_) (seg := [.int .i64 aK, .int .i64 aL, .int .i64 aM, .string aN, .int .i64 aO, .int .i64 aP, .int .i64 aQ]) (j := 0) hcl12 aC (show 7 ≤ 7 from by decide) (x' := (⟨(⟨aK, aL, aM, aN⟩ : S53), aO, aP, aQ⟩ : S55)) (k55_mkM _ _ _ (⟨(⟨aK, aL, aM, aN⟩ : S53), aO, aP, aQ⟩ : S55) ) (fun _ hk => hk); have bB := aC 0 _ rfl; (try simp only [show (k55).sz = 7 from rfl, Nat.mul_one, Nat.add_zero] at bB); have bC := aF 0; (try simp only [show (k55).sz = 7 from rfl, Nat.mul_one, Nat.add_zero] at bC); have bD := aC 1 _ rfl; (try simp only [show (k55).sz = 7 from rfl, Nat.mul_one, Nat.add_zero] at bD); have bE := aF 1; (try simp only [show (k55).sz = 7 from rfl, Nat.mul_one, Nat.add_zero] at bE); have bF := aC 2 _ rfl; (try simp only [show (k55).sz = 7 from rfl, Nat.mul_one, Nat.add_zero] at bF); have bG := aF 2; (try simp only [show (k55).sz = 7 from rfl, Nat.mul_one, Nat.add_zero] at bG); have bH := aC 3 _ rfl; (try simp only [show (k55).sz = 7 from rfl, Nat.mul_one, Nat.add_zero] at bH); have bI := aF 3; (try simp only [show (k55).sz = 7 from rfl, Nat.mul_one, Nat.add_zero] at bI); have bJ := aC 4 _ rfl; (try simp only [show (k55).sz = 7 from rfl, Nat.mul_one, Nat.add_zero] at bJ); have bK := aF 4; (try simp only [show (k55).sz = 7 from rfl, Nat.mul_one, Nat.add_zero] at bK); have bL := aC 5 _ rfl; (try simp only [show (k55).sz = 7 from rfl, Nat.mul_one, Nat.add_zero] at bL); have bM := aF 5; (try simp only [show (k55).sz = 7 from rfl, Nat.mul_one, Nat.add_zero] at bM); have bN := aC 6 _ rfl; (try simp only [show (k55).sz = 7 from rfl, Nat.mul_one, Nat.add_zero] at bN); have bO := aF 6; (try simp only [show (k55).sz = 7 from rfl, Nat.mul_one, Nat.add_zero] at bO); clear hcl12 aC aF hM12) | ((with_reducible refine gate_store (t := 55) (p := 21) rfl ?_); refine store_event (t := 55) (p := 21) (v := ?vo_w13) (w1 := (((((((aJ.setCell ⟨go10, (aA : Int).toNat * 7, none⟩ (.int .i64 aK)).setCell ⟨go10, (aA : Int).toNat * 7 + 1, none⟩ (.int .i64 aL)).setCell ⟨go10, (aA : Int).toNat * 7 + 2, none⟩ (.int .i64 aM)).setCell ⟨go10, (aA : Int).toNat * 7 + 3, none⟩ (.string aN)).setCell ⟨go10, (aA : Int).toNat * 7 + 4, none⟩ (.int .i64 aO)).setCell ⟨go10, (aA : Int).toNat * 7 + 5, none⟩ (.int .i64 aP)).setCell ⟨go10, (aA : Int).toNat * 7 + 6, none⟩ (.int .i64 aQ))) ?hg ?ho ?hn ?hr ?_; (case ho => rfl); (case hg => rfl); (case hn => rfl); (case hr => first | (go_simp; done) | (go_simp; rfl)); intro cN hw; have hg : aJ.grownBy cN (some go10) := (by rw [hw]; exact HP12.2); have hp_ : Kd.R k55 55 cN w.heap.size (fun _ => True) (.slice (some ⟨go10, 0, none⟩) aB.length bS) aY := (by rw [hw, Ny112.out]; exact HP12.1); clear HP12; replace aG := am (hp_); replace HB := am ((by rw [hw]; exact below_set (below_set (below_set (below_set (below_set (below_set (below_set (HB.out) GB10.out) GB10.out) GB10.out) GB10.out) GB10.out) GB10.out) GB10.out : Below w.heap.size w cN)); clear hg hw hp_))
        go_roundg k1
        case measure => have := HK1.out; omega
        case rel => exact ⟨(aY), (wrap64 (aA + 1)), (by first | rfl | (simp; done) | (simp [*]; done)), H', ⟨by have := HK1.out; omega⟩, ⟨KR aG⟩, ⟨KL HB⟩⟩
       ·rw [if_neg c9] at H
        exact absurd H (by simp)
      ·rw [if_neg c7] at H
       exact absurd H (by simp)
     ·rw [if_neg c6] at H
      have c6b0 : decide (aA < (l0.length : Int)) = false := decide_eq_false c6
      clear c6
      obtain rfl := sj H
      go_wp2
      go_ret
      exact ⟨_, ER, by refine KW ?_; exact aG.out, KL HB⟩
  ·rw [if_neg c3] at H
   exact absurd H (by simp)
 ·rw [if_neg c2] at H
  exact absurd H (by simp)
def laws_eqBlock.f (a0_0 : Int) (a0_1 : Int) (a1_0 : Int) (a1_1 : Int) : Option (Bool) := if a0_0 = a1_0 then (if a0_1 = a1_1 then (some true) else (some false)) else (some false)
theorem laws_eqBlock.calls (aF : Int) (aG : Int) (aH : Int) (aI : Int) (r : Bool) (w : World) (h : laws_eqBlock.f aF aG aH aI = some r) :
  Calls Tryz.prog 76 #[.agg #[.int .i64 aF, .int .i64 aG], .agg #[.int .i64 aH, .int .i64 aI]] w fun e w' => e = .returned (.bool r) ∧ Below w.heap.size w w' := by
 have bH := Tryz.underlying105
 have HB := am (Below.refl w.heap.size w)
 have H : (if aF = aH then (if aG = aI then (some true) else (some false)) else (some false)) = some r := h
 clear h
 by_cases c3 : aF = aH
 ·rw [if_pos c3] at H
  have c3b0 : (aF == aH) = true := beq_iff_eq.mpr c3
  have c3b1 : (aF != aH) = false := bne_eq_false_iff_eq.mpr c3
  clear c3
  by_cases c4 : aG = aI
  ·rw [if_pos c4] at H
   have c4b0 : (aG == aI) = true := beq_iff_eq.mpr c4
   have c4b1 : (aG != aI) = false := bne_eq_false_iff_eq.mpr c4
   clear c4
   obtain rfl := sj H
   go_enter Tryz.func76, Tryz.ntmps76
   go_wp2_with (first | ((with_reducible refine gate_dst (N := 2) rfl ?_); refine box_event rfl (N := 2) rfl (cs := #[.int .i64 aF, .int .i64 aG]) (t := 105) BX ?_; intro aN hg w5 aD hb; have aA := am (aD); have aJ := am (GH HB hg); have aE := aJ; replace HB := bl (KL HB) hb; clear hb aD hg) | ((with_reducible refine gate_dst (N := 3) rfl ?_); refine box_event rfl (N := 3) rfl (cs := #[.int .i64 aH, .int .i64 aI]) (t := 105) BX ?_; intro aO hg w6 aD hb; have aK := am (aD); have aL := am (GH1 HB aE.out hg); have aM := aL; replace HB := bl (K1 HB aE.out) hb; have aB := am (NL aA hg); have aC := am (NG aA hg); replace aA := am (BB aA hb); clear hb aD hg; have bO := aB.out; have bP := aC.out; have ⟨_, _, _⟩ := y2 w6 aA.out; have ⟨_, _, _⟩ := y2 w6 aK.out))
   go_ret
   exact ⟨ER, K2 HB aE.out aM.out⟩
  ·rw [if_neg c4] at H
   have c4b0 : (aG == aI) = false := beq_eq_false_iff_ne.mpr c4
   have c4b1 : (aG != aI) = true := bne_iff_ne.mpr c4
   obtain rfl := sj H
   go_enter Tryz.func76, Tryz.ntmps76
   go_wp2_with (first | ((with_reducible refine gate_dst (N := 2) rfl ?_); refine box_event rfl (N := 2) rfl (cs := #[.int .i64 aF, .int .i64 aG]) (t := 105) BX ?_; intro aN hg bQ aD hb; have aA := am (aD); have aJ := am (GH HB hg); have aE := aJ; replace HB := bl (KL HB) hb; clear hb aD hg) | ((with_reducible refine gate_dst (N := 3) rfl ?_); refine box_event rfl (N := 3) rfl (cs := #[.int .i64 aH, .int .i64 aI]) (t := 105) BX ?_; intro aO hg bI aD hb; have aK := am (aD); have aL := am (GH1 HB aE.out hg); have aM := aL; replace HB := bl (K1 HB aE.out) hb; have aB := am (NL aA hg); have aC := am (NG aA hg); replace aA := am (BB aA hb); clear hb aD hg; have bJ := aB.out; have bK := aC.out; have ⟨_, _, _⟩ := y2 bI aA.out; have ⟨_, _, _⟩ := y2 bI aK.out))
   go_ret
   exact ⟨ER, K2 HB aE.out aM.out⟩
 ·rw [if_neg c3] at H
  have c3b0 : (aF == aH) = false := beq_eq_false_iff_ne.mpr c3
  have c3b1 : (aF != aH) = true := bne_iff_ne.mpr c3
  obtain rfl := sj H
  go_enter Tryz.func76, Tryz.ntmps76
  go_wp2_with (first | ((with_reducible refine gate_dst (N := 2) rfl ?_); refine box_event rfl (N := 2) rfl (cs := #[.int .i64 aF, .int .i64 aG]) (t := 105) BX ?_; intro aN hg bR aD hb; have aA := am (aD); have aJ := am (GH HB hg); have aE := aJ; replace HB := bl (KL HB) hb; clear hb aD hg) | ((with_reducible refine gate_dst (N := 3) rfl ?_); refine box_event rfl (N := 3) rfl (cs := #[.int .i64 aH, .int .i64 aI]) (t := 105) BX ?_; intro aO hg bL aD hb; have aK := am (aD); have aL := am (GH1 HB aE.out hg); have aM := aL; replace HB := bl (K1 HB aE.out) hb; have aB := am (NL aA hg); have aC := am (NG aA hg); replace aA := am (BB aA hb); clear hb aD hg; have bM := aB.out; have bN := aC.out; have ⟨_, _, _⟩ := y2 bL aA.out; have ⟨_, _, _⟩ := y2 bL aK.out))
  go_ret
  exact ⟨ER, K2 HB aE.out aM.out⟩
def laws_eqRule.f (a0_0 : Int) (a0_1 : Int) (a0_2 : Int) (a0_3 : Int) (a0_4 : Int) (a0_5 : Int) (a0_6 : Int) (a0_7 : Int) (a1_0 : Int) (a1_1 : Int) (a1_2 : Int) (a1_3 : Int) (a1_4 : Int) (a1_5 : Int) (a1_6 : Int) (a1_7 : Int) : Option (Bool) := if a0_0 = a1_0 then (if a0_1 = a1_1 then ((laws_eqBlock.f a0_2 a0_3 a1_2 a1_3).bind fun t103 => (if t103 = true then ((laws_eqBlock.f a0_4 a0_5 a1_4 a1_5).bind fun t104 => (if t104 = true then (if a0_6 = a1_6 then (if a0_7 = a1_7 then (some true) else (some false)) else (some false)) else (some false))) else (some false))) else (some false)) else (some false)
theorem laws_eqRule.calls (aV : Int) (aW : Int) (aH : Int) (aI : Int) (aN : Int) (aO : Int) (aR : Int) (aS : Int) (aX : Int) (aY : Int) (aJ : Int) (aK : Int) (aP : Int) (aQ : Int) (aT : Int) (aU : Int) (r : Bool) (w : World) (h : laws_eqRule.f aV aW aH aI aN aO aR aS aX aY aJ aK aP aQ aT aU = some r) :
  Calls Tryz.prog 57 #[.agg #[.int .i64 aV, .int .i64 aW, .int .i64 aH, .int .i64 aI, .int .i64 aN, .int .i64 aO, .int .i64 aR, .int .i64 aS], .agg #[.int .i64 aX, .int .i64 aY, .int .i64 aJ, .int .i64 aK, .int .i64 aP, .int .i64 aQ, .int .i64 aT, .int .i64 aU]] w fun e w' => e = .returned (.bool r) ∧ Below w.heap.size w w' := by
 have kW := Tryz.underlying107
 have kX := Tryz.underlying105
 have HB := am (Below.refl w.heap.size w)
 have H : (if aV = aX then (if aW = aY then ((laws_eqBlock.f aH aI aJ aK).bind fun bC => (if bC = true then ((laws_eqBlock.f aN aO aP aQ).bind fun bB => (if bB = true then (if aR = aT then (if aS = aU then (some true) else (some false)) else (some false)) else (some false))) else (some false))) else (some false)) else (some false)) = some r := h
 clear h
 by_cases c3 : aV = aX
 ·rw [if_pos c3] at H
  have c3b0 : (aV == aX) = true := beq_iff_eq.mpr c3
  have c3b1 : (aV != aX) = false := bne_eq_false_iff_eq.mpr c3
  clear c3
  by_cases c4 : aW = aY
  ·rw [if_pos c4] at H
   have c4b0 : (aW == aY) = true := beq_iff_eq.mpr c4
   have c4b1 : (aW != aY) = false := bne_eq_false_iff_eq.mpr c4
   clear c4
   replace H := bm H
   obtain ⟨bC, kY, H⟩ := H
   replace H : (if bC = true then ((laws_eqBlock.f aN aO aP aQ).bind fun bB => (if bB = true then (if aR = aT then (if aS = aU then (some true) else (some false)) else (some false)) else (some false))) else (some false)) = some r := H
   have A5 := Aside0.mk kY
   clear kY
   by_cases c6 : bC = true
   ·subst c6
    have H1 := pf H
    clear H
    have H := H1
    clear H1
    replace H := bm H
    obtain ⟨bB, kZ, H⟩ := H
    replace H : (if bB = true then (if aR = aT then (if aS = aU then (some true) else (some false)) else (some false)) else (some false)) = some r := H
    have A7 := Aside0.mk kZ
    clear kZ
    by_cases c8 : bB = true
    ·subst c8
     have H1 := pf H
     clear H
     have H := H1
     clear H1
     by_cases c9 : aR = aT
     ·rw [if_pos c9] at H
      have c9b0 : (aR == aT) = true := beq_iff_eq.mpr c9
      have c9b1 : (aR != aT) = false := bne_eq_false_iff_eq.mpr c9
      clear c9
      by_cases bD : aS = aU
      ·rw [if_pos bD] at H
       have c10b0 : (aS == aU) = true := beq_iff_eq.mpr bD
       have c10b1 : (aS != aU) = false := bne_eq_false_iff_eq.mpr bD
       clear bD
       obtain rfl := sj H
       go_enter Tryz.func57, Tryz.ntmps57
       go_wp2_with (first | ((with_reducible refine gate_dst (N := 2) rfl ?_); refine box_event rfl (N := 2) rfl (cs := #[.int .i64 aV, .int .i64 aW, .int .i64 aH, .int .i64 aI, .int .i64 aN, .int .i64 aO, .int .i64 aR, .int .i64 aS]) (t := 107) BX ?_; intro aZ hg mC aF hb; have aA := am (aF); have aL := am (GH HB hg); have aC := aL; replace HB := bl (KL HB) hb; clear hb aF hg) | ((with_reducible refine gate_dst (N := 3) rfl ?_); refine box_event rfl (N := 3) rfl (cs := #[.int .i64 aX, .int .i64 aY, .int .i64 aJ, .int .i64 aK, .int .i64 aP, .int .i64 aQ, .int .i64 aT, .int .i64 aU]) (t := 107) BX ?_; intro bA hg lA aF hb; have aB := am (aF); have aM := am (GH1 HB aC.out hg); have aG := aM; replace HB := bl (K1 HB aC.out) hb; have aD := am (NL aA hg); have aE := am (NG aA hg); replace aA := am (BB aA hb); clear hb aF hg; have lB := aD.out; have lC := aE.out; have ⟨_, _, _, _, _, _, _, _, _⟩ := y8 lA aA.out; have ⟨_, _, _, _, _, _, _, _, _⟩ := y8 lA aB.out) | ((with_reducible refine gate_callee (f := 76) rfl ?_); refine goesL_ (some 19) rfl rfl Tryz.func76 (by kernel_rfl) rfl #[.agg #[.int .i64 aH, .int .i64 aI], .agg #[.int .i64 aJ, .int .i64 aK]] rfl MT ?_; (with_reducible refine (laws_eqBlock.calls aH aI aJ aK true _ A5.out).mono ?_); rintro e lD ⟨rfl, hb⟩; refine ⟨_, rfl, ?_⟩; replace aA := am (BB aA hb); replace aB := am (BB aB hb); replace HB := bl (K2 HB aC.out aG.out) hb; (try clear hb); have ⟨_, _, _, _, _, _, _, _, _⟩ := y8 lD aA.out; have ⟨_, _, _, _, _, _, _, _, _⟩ := y8 lD aB.out) | ((with_reducible refine gate_callee (f := 76) rfl ?_); refine goesL_ (some 25) rfl rfl Tryz.func76 (by kernel_rfl) rfl #[.agg #[.int .i64 aN, .int .i64 aO], .agg #[.int .i64 aP, .int .i64 aQ]] rfl MT ?_; (with_reducible refine (laws_eqBlock.calls aN aO aP aQ true _ A7.out).mono ?_); rintro e lE ⟨rfl, hb⟩; refine ⟨_, rfl, ?_⟩; replace aA := am (BB aA hb); replace aB := am (BB aB hb); replace HB := bl (K2 HB aC.out aG.out) hb; (try clear hb); have ⟨_, _, _, _, _, _, _, _, _⟩ := y8 lE aA.out; have ⟨_, _, _, _, _, _, _, _, _⟩ := y8 lE aB.out))
       go_ret
       exact ⟨ER, K2 HB aC.out aG.out⟩
      ·rw [if_neg bD] at H
       have c10b0 : (aS == aU) = false := beq_eq_false_iff_ne.mpr bD
       have c10b1 : (aS != aU) = true := bne_iff_ne.mpr bD
       obtain rfl := sj H
       go_enter Tryz.func57, Tryz.ntmps57
       go_wp2_with (first | ((with_reducible refine gate_dst (N := 2) rfl ?_); refine box_event rfl (N := 2) rfl (cs := #[.int .i64 aV, .int .i64 aW, .int .i64 aH, .int .i64 aI, .int .i64 aN, .int .i64 aO, .int .i64 aR, .int .i64 aS]) (t := 107) BX ?_; intro aZ hg mD aF hb; have aA := am (aF); have aL := am (GH HB hg); have aC := aL; replace HB := bl (KL HB) hb; clear hb aF hg) | ((with_reducible refine gate_dst (N := 3) rfl ?_); refine box_event rfl (N := 3) rfl (cs := #[.int .i64 aX, .int .i64 aY, .int .i64 aJ, .int .i64 aK, .int .i64 aP, .int .i64 aQ, .int .i64 aT, .int .i64 aU]) (t := 107) BX ?_; intro bA hg lF aF hb; have aB := am (aF); have aM := am (GH1 HB aC.out hg); have aG := aM; replace HB := bl (K1 HB aC.out) hb; have aD := am (NL aA hg); have aE := am (NG aA hg); replace aA := am (BB aA hb); clear hb aF hg; have lG := aD.out; have lH := aE.out; have ⟨_, _, _, _, _, _, _, _, _⟩ := y8 lF aA.out; have ⟨_, _, _, _, _, _, _, _, _⟩ := y8 lF aB.out) | ((with_reducible refine gate_callee (f := 76) rfl ?_); refine goesL_ (some 19) rfl rfl Tryz.func76 (by kernel_rfl) rfl #[.agg #[.int .i64 aH, .int .i64 aI], .agg #[.int .i64 aJ, .int .i64 aK]] rfl MT ?_; (with_reducible refine (laws_eqBlock.calls aH aI aJ aK true _ A5.out).mono ?_); rintro e lI ⟨rfl, hb⟩; refine ⟨_, rfl, ?_⟩; replace aA := am (BB aA hb); replace aB := am (BB aB hb); replace HB := bl (K2 HB aC.out aG.out) hb; (try clear hb); have ⟨_, _, _, _, _, _, _, _, _⟩ := y8 lI aA.out; have ⟨_, _, _, _, _, _, _, _, _⟩ := y8 lI aB.out) | ((with_reducible refine gate_callee (f := 76) rfl ?_); refine goesL_ (some 25) rfl rfl Tryz.func76 (by kernel_rfl) rfl #[.agg #[.int .i64 aN, .int .i64 aO], .agg #[.int .i64 aP, .int .i64 aQ]] rfl MT ?_; (with_reducible refine (laws_eqBlock.calls aN aO aP aQ true _ A7.out).mono ?_); rintro e lJ ⟨rfl, hb⟩; refine ⟨_, rfl, ?_⟩; replace aA := am (BB aA hb); replace aB := am (BB aB hb); replace HB := bl (K2 HB aC.out aG.out) hb; (try clear hb); have ⟨_, _, _, _, _, _, _, _, _⟩ := y8 lJ aA.out; have ⟨_, _, _, _, _, _, _, _, _⟩ := y8 lJ aB.out))
       go_ret
       exact ⟨ER, K2 HB aC.out aG.out⟩
     ·rw [if_neg c9] at H
      have c9b0 : (aR == aT) = false := beq_eq_false_iff_ne.mpr c9
      have c9b1 : (aR != aT) = true := bne_iff_ne.mpr c9
      obtain rfl := sj H
      go_enter Tryz.func57, Tryz.ntmps57
      go_wp2_with (first | ((with_reducible refine gate_dst (N := 2) rfl ?_); refine box_event rfl (N := 2) rfl (cs := #[.int .i64 aV, .int .i64 aW, .int .i64 aH, .int .i64 aI, .int .i64 aN, .int .i64 aO, .int .i64 aR, .int .i64 aS]) (t := 107) BX ?_; intro aZ hg mE aF hb; have aA := am (aF); have aL := am (GH HB hg); have aC := aL; replace HB := bl (KL HB) hb; clear hb aF hg) | ((with_reducible refine gate_dst (N := 3) rfl ?_); refine box_event rfl (N := 3) rfl (cs := #[.int .i64 aX, .int .i64 aY, .int .i64 aJ, .int .i64 aK, .int .i64 aP, .int .i64 aQ, .int .i64 aT, .int .i64 aU]) (t := 107) BX ?_; intro bA hg lK aF hb; have aB := am (aF); have aM := am (GH1 HB aC.out hg); have aG := aM; replace HB := bl (K1 HB aC.out) hb; have aD := am (NL aA hg); have aE := am (NG aA hg); replace aA := am (BB aA hb); clear hb aF hg; have lL := aD.out; have lM := aE.out; have ⟨_, _, _, _, _, _, _, _, _⟩ := y8 lK aA.out; have ⟨_, _, _, _, _, _, _, _, _⟩ := y8 lK aB.out) | ((with_reducible refine gate_callee (f := 76) rfl ?_); refine goesL_ (some 19) rfl rfl Tryz.func76 (by kernel_rfl) rfl #[.agg #[.int .i64 aH, .int .i64 aI], .agg #[.int .i64 aJ, .int .i64 aK]] rfl MT ?_; (with_reducible refine (laws_eqBlock.calls aH aI aJ aK true _ A5.out).mono ?_); rintro e lN ⟨rfl, hb⟩; refine ⟨_, rfl, ?_⟩; replace aA := am (BB aA hb); replace aB := am (BB aB hb); replace HB := bl (K2 HB aC.out aG.out) hb; (try clear hb); have ⟨_, _, _, _, _, _, _, _, _⟩ := y8 lN aA.out; have ⟨_, _, _, _, _, _, _, _, _⟩ := y8 lN aB.out) | ((with_reducible refine gate_callee (f := 76) rfl ?_); refine goesL_ (some 25) rfl rfl Tryz.func76 (by kernel_rfl) rfl #[.agg #[.int .i64 aN, .int .i64 aO], .agg #[.int .i64 aP, .int .i64 aQ]] rfl MT ?_; (with_reducible refine (laws_eqBlock.calls aN aO aP aQ true _ A7.out).mono ?_); rintro e lO ⟨rfl, hb⟩; refine ⟨_, rfl, ?_⟩; replace aA := am (BB aA hb); replace aB := am (BB aB hb); replace HB := bl (K2 HB aC.out aG.out) hb; (try clear hb); have ⟨_, _, _, _, _, _, _, _, _⟩ := y8 lO aA.out; have ⟨_, _, _, _, _, _, _, _, _⟩ := y8 lO aB.out))
      go_ret
      exact ⟨ER, K2 HB aC.out aG.out⟩
    ·replace c8 := Bool.eq_false_iff.mpr c8
     subst c8
     have H1 := nf H
     clear H
     have H := H1
     clear H1
     obtain rfl := sj H
     go_enter Tryz.func57, Tryz.ntmps57
     go_wp2_with (first | ((with_reducible refine gate_dst (N := 2) rfl ?_); refine box_event rfl (N := 2) rfl (cs := #[.int .i64 aV, .int .i64 aW, .int .i64 aH, .int .i64 aI, .int .i64 aN, .int .i64 aO, .int .i64 aR, .int .i64 aS]) (t := 107) BX ?_; intro aZ hg mF aF hb; have aA := am (aF); have aL := am (GH HB hg); have aC := aL; replace HB := bl (KL HB) hb; clear hb aF hg) | ((with_reducible refine gate_dst (N := 3) rfl ?_); refine box_event rfl (N := 3) rfl (cs := #[.int .i64 aX, .int .i64 aY, .int .i64 aJ, .int .i64 aK, .int .i64 aP, .int .i64 aQ, .int .i64 aT, .int .i64 aU]) (t := 107) BX ?_; intro bA hg lP aF hb; have aB := am (aF); have aM := am (GH1 HB aC.out hg); have aG := aM; replace HB := bl (K1 HB aC.out) hb; have aD := am (NL aA hg); have aE := am (NG aA hg); replace aA := am (BB aA hb); clear hb aF hg; have lQ := aD.out; have lR := aE.out; have ⟨_, _, _, _, _, _, _, _, _⟩ := y8 lP aA.out; have ⟨_, _, _, _, _, _, _, _, _⟩ := y8 lP aB.out) | ((with_reducible refine gate_callee (f := 76) rfl ?_); refine goesL_ (some 19) rfl rfl Tryz.func76 (by kernel_rfl) rfl #[.agg #[.int .i64 aH, .int .i64 aI], .agg #[.int .i64 aJ, .int .i64 aK]] rfl MT ?_; (with_reducible refine (laws_eqBlock.calls aH aI aJ aK true _ A5.out).mono ?_); rintro e lS ⟨rfl, hb⟩; refine ⟨_, rfl, ?_⟩; replace aA := am (BB aA hb); replace aB := am (BB aB hb); replace HB := bl (K2 HB aC.out aG.out) hb; (try clear hb); have ⟨_, _, _, _, _, _, _, _, _⟩ := y8 lS aA.out; have ⟨_, _, _, _, _, _, _, _, _⟩ := y8 lS aB.out) | ((with_reducible refine gate_callee (f := 76) rfl ?_); refine goesL_ (some 25) rfl rfl Tryz.func76 (by kernel_rfl) rfl #[.agg #[.int .i64 aN, .int .i64 aO], .agg #[.int .i64 aP, .int .i64 aQ]] rfl MT ?_; (with_reducible refine (laws_eqBlock.calls aN aO aP aQ false _ A7.out).mono ?_); rintro e mG ⟨rfl, hb⟩; refine ⟨_, rfl, ?_⟩; replace aA := am (BB aA hb); replace aB := am (BB aB hb); replace HB := bl (K2 HB aC.out aG.out) hb; (try clear hb)))
     go_ret
     exact ⟨ER, K2 HB aC.out aG.out⟩
   ·replace c6 := Bool.eq_false_iff.mpr c6
    subst c6
    have H1 := nf H
    clear H
    have H := H1
    clear H1
    obtain rfl := sj H
    go_enter Tryz.func57, Tryz.ntmps57
    go_wp2_with (first | ((with_reducible refine gate_dst (N := 2) rfl ?_); refine box_event rfl (N := 2) rfl (cs := #[.int .i64 aV, .int .i64 aW, .int .i64 aH, .int .i64 aI, .int .i64 aN, .int .i64 aO, .int .i64 aR, .int .i64 aS]) (t := 107) BX ?_; intro aZ hg mH aF hb; have aA := am (aF); have aL := am (GH HB hg); have aC := aL; replace HB := bl (KL HB) hb; clear hb aF hg) | ((with_reducible refine gate_dst (N := 3) rfl ?_); refine box_event rfl (N := 3) rfl (cs := #[.int .i64 aX, .int .i64 aY, .int .i64 aJ, .int .i64 aK, .int .i64 aP, .int .i64 aQ, .int .i64 aT, .int .i64 aU]) (t := 107) BX ?_; intro bA hg lT aF hb; have aB := am (aF); have aM := am (GH1 HB aC.out hg); have aG := aM; replace HB := bl (K1 HB aC.out) hb; have aD := am (NL aA hg); have aE := am (NG aA hg); replace aA := am (BB aA hb); clear hb aF hg; have lU := aD.out; have lV := aE.out; have ⟨_, _, _, _, _, _, _, _, _⟩ := y8 lT aA.out; have ⟨_, _, _, _, _, _, _, _, _⟩ := y8 lT aB.out) | ((with_reducible refine gate_callee (f := 76) rfl ?_); refine goesL_ (some 19) rfl rfl Tryz.func76 (by kernel_rfl) rfl #[.agg #[.int .i64 aH, .int .i64 aI], .agg #[.int .i64 aJ, .int .i64 aK]] rfl MT ?_; (with_reducible refine (laws_eqBlock.calls aH aI aJ aK false _ A5.out).mono ?_); rintro e mI ⟨rfl, hb⟩; refine ⟨_, rfl, ?_⟩; replace aA := am (BB aA hb); replace aB := am (BB aB hb); replace HB := bl (K2 HB aC.out aG.out) hb; (try clear hb)))
    go_ret
    exact ⟨ER, K2 HB aC.out aG.out⟩
  ·rw [if_neg c4] at H
   have c4b0 : (aW == aY) = false := beq_eq_false_iff_ne.mpr c4
   have c4b1 : (aW != aY) = true := bne_iff_ne.mpr c4
   obtain rfl := sj H
   go_enter Tryz.func57, Tryz.ntmps57
   go_wp2_with (first | ((with_reducible refine gate_dst (N := 2) rfl ?_); refine box_event rfl (N := 2) rfl (cs := #[.int .i64 aV, .int .i64 aW, .int .i64 aH, .int .i64 aI, .int .i64 aN, .int .i64 aO, .int .i64 aR, .int .i64 aS]) (t := 107) BX ?_; intro aZ hg mJ aF hb; have aA := am (aF); have aL := am (GH HB hg); have aC := aL; replace HB := bl (KL HB) hb; clear hb aF hg) | ((with_reducible refine gate_dst (N := 3) rfl ?_); refine box_event rfl (N := 3) rfl (cs := #[.int .i64 aX, .int .i64 aY, .int .i64 aJ, .int .i64 aK, .int .i64 aP, .int .i64 aQ, .int .i64 aT, .int .i64 aU]) (t := 107) BX ?_; intro bA hg lW aF hb; have aB := am (aF); have aM := am (GH1 HB aC.out hg); have aG := aM; replace HB := bl (K1 HB aC.out) hb; have aD := am (NL aA hg); have aE := am (NG aA hg); replace aA := am (BB aA hb); clear hb aF hg; have lX := aD.out; have lY := aE.out; have ⟨_, _, _, _, _, _, _, _, _⟩ := y8 lW aA.out; have ⟨_, _, _, _, _, _, _, _, _⟩ := y8 lW aB.out))
   go_ret
   exact ⟨ER, K2 HB aC.out aG.out⟩
 ·rw [if_neg c3] at H
  have c3b0 : (aV == aX) = false := beq_eq_false_iff_ne.mpr c3
  have c3b1 : (aV != aX) = true := bne_iff_ne.mpr c3
  obtain rfl := sj H
  go_enter Tryz.func57, Tryz.ntmps57
  go_wp2_with (first | ((with_reducible refine gate_dst (N := 2) rfl ?_); refine box_event rfl (N := 2) rfl (cs := #[.int .i64 aV, .int .i64 aW, .int .i64 aH, .int .i64 aI, .int .i64 aN, .int .i64 aO, .int .i64 aR, .int .i64 aS]) (t := 107) BX ?_; intro aZ hg mK aF hb; have aA := am (aF); have aL := am (GH HB hg); have aC := aL; replace HB := bl (KL HB) hb; clear hb aF hg) | ((with_reducible refine gate_dst (N := 3) rfl ?_); refine box_event rfl (N := 3) rfl (cs := #[.int .i64 aX, .int .i64 aY, .int .i64 aJ, .int .i64 aK, .int .i64 aP, .int .i64 aQ, .int .i64 aT, .int .i64 aU]) (t := 107) BX ?_; intro bA hg lZ aF hb; have aB := am (aF); have aM := am (GH1 HB aC.out hg); have aG := aM; replace HB := bl (K1 HB aC.out) hb; have aD := am (NL aA hg); have aE := am (NG aA hg); replace aA := am (BB aA hb); clear hb aF hg; have mA := aD.out; have mB := aE.out; have ⟨_, _, _, _, _, _, _, _, _⟩ := y8 lZ aA.out; have ⟨_, _, _, _, _, _, _, _, _⟩ := y8 lZ aB.out))
  go_ret
  exact ⟨ER, K2 HB aC.out aG.out⟩
def laws_eqRuleS.l0 : Nat → List (S107) → List (S107) → Int → Option (Bool)
 | 0, _, _, _ => none
 | k + 1, x0, x1, x5 => if x5 < (x0.length : Int) then (if 0 ≤ x5 then (if x5 < (x1.length : Int) then ((laws_eqRule.f ((rd_T107 x0 x5).f0) ((rd_T107 x0 x5).f1) ((rd_T107 x0 x5).f2.f0) ((rd_T107 x0 x5).f2.f1) ((rd_T107 x0 x5).f3.f0) ((rd_T107 x0 x5).f3.f1) ((rd_T107 x0 x5).f4) ((rd_T107 x0 x5).f5) ((rd_T107 x1 x5).f0) ((rd_T107 x1 x5).f1) ((rd_T107 x1 x5).f2.f0) ((rd_T107 x1 x5).f2.f1) ((rd_T107 x1 x5).f3.f0) ((rd_T107 x1 x5).f3.f1) ((rd_T107 x1 x5).f4) ((rd_T107 x1 x5).f5)).bind fun t103 => (if t103 = true then (laws_eqRuleS.l0 k x0 x1 (wrap64 (x5 + 1))) else (some false))) else (none)) else (none)) else (some true)
def laws_eqRuleS.f (k : Nat) (l0 : List (S107)) (l1 : List (S107)) : Option (Bool) := if (l0.length : Int) = (l1.length : Int) then (laws_eqRuleS.l0 k l0 l1 0) else (some false)
def laws_eqRuleS.T6 : Bool × List (List Nat × List Nat) := (true, [([], []), ([], []), ([0, 1], [0, 1]), ([2], [2]), ([], []), ([], []), ([4, 5], [4, 5]), ([6], [6]), ([3, 7], [3, 7]), ([8], [8])])
def laws_eqRuleS.B6 : List Nat := [0, 0, 3, 7, 0, 0, 48, 112, 255, 511]
theorem laws_eqRuleS.tab6 : rtab .any (opsOf Tryz.f36 6) = laws_eqRuleS.T6 := by kernel_rfl
theorem laws_eqRuleS.bits6 : waitsOk laws_eqRuleS.T6.2 laws_eqRuleS.B6 = true := by kernel_rfl
theorem laws_eqRuleS.calls (k : Nat) (A0 : Option Addr) (c0 : Nat) (l0 : List (S107)) (A1 : Option Addr) (c1 : Nat) (l1 : List (S107)) (r : Bool) (w : World) (bT : Kd.C k107 w A0 l0.length l0) (bU : l0.length ≤ c0) (bV : Kd.C k107 w A1 l1.length l1) (bW : l1.length ≤ c1) (h : laws_eqRuleS.f k l0 l1 = some r) :
  Calls Tryz.prog 36 #[.slice A0 l0.length c0, .slice A1 l1.length c1] w fun e w' => e = .returned (.bool r) ∧ Below w.heap.size w w' := by
 have bX := Tryz.underlying107
 have bY := Aside0.mk bT
 have cB := Aside0.mk bU
 clear bT bU
 have bZ := Aside0.mk bV
 have cC := Aside0.mk bW
 clear bV bW
 have HB := am (Below.refl w.heap.size w)
 have H : (if (l0.length : Int) = (l1.length : Int) then (laws_eqRuleS.l0 k l0 l1 0) else (some false)) = some r := h
 clear h
 by_cases c3 : (l0.length : Int) = (l1.length : Int)
 ·rw [if_pos c3] at H
  have c3b0 : ((l0.length : Int) == (l1.length : Int)) = true := beq_iff_eq.mpr c3
  have c3b1 : ((l0.length : Int) != (l1.length : Int)) = false := bne_eq_false_iff_eq.mpr c3
  have c3b2 : (l0.length == l1.length) = true := by first | simpa using c3 | (simp at c3 ⊢; omega)
  clear c3
  have H' := Aside0.mk H
  clear H
  go_enter Tryz.func36, Tryz.ntmps36
  go_wp2
  go_loopg [5] k (fun kq v5 w' => ∃ (aA : Int), v5 = .int .i64 aA ∧ Aside0 (laws_eqRuleS.l0 kq l0 l1 aA = some r) ∧ Aside0 (kq ≤ k) ∧ Aside0 (Below w.heap.size w w'))
  case atStart => exact ⟨(0), (by first | rfl | (simp; done) | (simp [*]; done)), H', ⟨Nat.le_refl _⟩, ⟨KL HB⟩⟩
  case round =>
   clear H'
   try clear c1
   try clear p2
   try clear c3
   try clear c3b0
   try clear c3b1
   try clear c3b2
   obtain ⟨aA, rfl, HA, HK1, HB⟩ := hrel
   cases gk with
   | zero => exact absurd HA.out (by simp [laws_eqRuleS.l0])
   | succ k1 =>
    have H := HA.out
    clear HA
    simp only [laws_eqRuleS.l0] at H
    by_cases c4 : aA < (l0.length : Int)
    ·rw [if_pos c4] at H
     have c4b0 : decide (aA < (l0.length : Int)) = true := decide_eq_true c4
     clear c4
     by_cases c5 : 0 ≤ aA
     ·rw [if_pos c5] at H
      have c5b0 : decide (0 ≤ aA) = true := decide_eq_true c5
      clear c5
      by_cases c6 : aA < (l1.length : Int)
      ·rw [if_pos c6] at H
       have c6b0 : decide (aA < (l1.length : Int)) = true := decide_eq_true c6
       clear c6
       replace H := bm H
       obtain ⟨bR, cA, H⟩ := H
       replace H : (if bR = true then (laws_eqRuleS.l0 k1 l0 l1 (wrap64 (aA + 1))) else (some false)) = some r := H
       have A7 := Aside0.mk cA
       clear cA
       by_cases c8 : bR = true
       ·subst c8
        have H1 := pf H
        clear H
        have H := H1
        clear H1
        have H' := Aside0.mk H
        clear H
        try go_wp2
        replace HB := am (below_drew1 HB.out)
        have bL : 0 ≤ (aA : Int) := OD
        have bM : aA < (l0.length : Int) := OD
        obtain ⟨aB, bP, aD, aE, aF, aG, aH, aI, aJ, aK⟩ := at_T107 bY.out aA bL bM
        have aT := aK
        have aU := aJ
        have aV := aI
        have aW := aH
        have aX := aG
        have aY := aF
        have aZ := aE
        have bA := aD
        cases bP
        replace aD := CX HB.out aD
        replace aE := CX HB.out aE
        replace aF := CX HB.out aF
        replace aG := CX HB.out aG
        replace aH := CX HB.out aH
        replace aI := CX HB.out aI
        replace aJ := CX HB.out aJ
        replace aK := CX HB.out aK
        replace bL := eq_true bL
        replace bM := eq_true bM
        have bN : 0 ≤ (aA : Int) := OD
        have bO : aA < (l1.length : Int) := OD
        obtain ⟨aC, bQ, aL, aM, aN, aO, aP, aQ, aR, aS⟩ := at_T107 bZ.out aA bN bO
        have bB := aS
        have bC := aR
        have bD := aQ
        have bE := aP
        have bF := aO
        have bG := aN
        have bH := aM
        have bI := aL
        cases bQ
        replace aL := CX HB.out aL
        replace aM := CX HB.out aM
        replace aN := CX HB.out aN
        replace aO := CX HB.out aO
        replace aP := CX HB.out aP
        replace aQ := CX HB.out aQ
        replace aR := CX HB.out aR
        replace aS := CX HB.out aS
        replace bN := eq_true bN
        replace bO := eq_true bO
        refine start_ (n := 10) (S := fun w' => w'.cell? (aB.add ((aA).toNat * 8)) = some (.int .i64 ((rd_T107 l0 aA).f0)) ∧ w'.cell? ⟨(aB.add ((aA).toNat * 8)).block, (aB.add ((aA).toNat * 8)).off + 1, none⟩ = some (.int .i64 ((rd_T107 l0 aA).f1)) ∧ w'.cell? ⟨(aB.add ((aA).toNat * 8)).block, (aB.add ((aA).toNat * 8)).off + 2, none⟩ = some (.int .i64 ((rd_T107 l0 aA).f2.f0)) ∧ w'.cell? ⟨(aB.add ((aA).toNat * 8)).block, (aB.add ((aA).toNat * 8)).off + 3, none⟩ = some (.int .i64 ((rd_T107 l0 aA).f2.f1)) ∧ w'.cell? ⟨(aB.add ((aA).toNat * 8)).block, (aB.add ((aA).toNat * 8)).off + 4, none⟩ = some (.int .i64 ((rd_T107 l0 aA).f3.f0)) ∧ w'.cell? ⟨(aB.add ((aA).toNat * 8)).block, (aB.add ((aA).toNat * 8)).off + 5, none⟩ = some (.int .i64 ((rd_T107 l0 aA).f3.f1)) ∧ w'.cell? ⟨(aB.add ((aA).toNat * 8)).block, (aB.add ((aA).toNat * 8)).off + 6, none⟩ = some (.int .i64 ((rd_T107 l0 aA).f4)) ∧ w'.cell? ⟨(aB.add ((aA).toNat * 8)).block, (aB.add ((aA).toNat * 8)).off + 7, none⟩ = some (.int .i64 ((rd_T107 l0 aA).f5)) ∧ w'.cell? (aC.add ((aA).toNat * 8)) = some (.int .i64 ((rd_T107 l1 aA).f0)) ∧ w'.cell? ⟨(aC.add ((aA).toNat * 8)).block, (aC.add ((aA).toNat * 8)).off + 1, none⟩ = some (.int .i64 ((rd_T107 l1 aA).f1)) ∧ w'.cell? ⟨(aC.add ((aA).toNat * 8)).block, (aC.add ((aA).toNat * 8)).off + 2, none⟩ = some (.int .i64 ((rd_T107 l1 aA).f2.f0)) ∧ w'.cell? ⟨(aC.add ((aA).toNat * 8)).block, (aC.add ((aA).toNat * 8)).off + 3, none⟩ = some (.int .i64 ((rd_T107 l1 aA).f2.f1)) ∧ w'.cell? ⟨(aC.add ((aA).toNat * 8)).block, (aC.add ((aA).toNat * 8)).off + 4, none⟩ = some (.int .i64 ((rd_T107 l1 aA).f3.f0)) ∧ w'.cell? ⟨(aC.add ((aA).toNat * 8)).block, (aC.add ((aA).toNat * 8)).off + 5, none⟩ = some (.int .i64 ((rd_T107 l1 aA).f3.f1)) ∧ w'.cell? ⟨(aC.add ((aA).toNat * 8)).block, (aC.add ((aA).toNat * 8)).off + 6, none⟩ = some (.int .i64 ((rd_T107 l1 aA).f4)) ∧ w'.cell? ⟨(aC.add ((aA).toNat * 8)).block, (aC.add ((aA).toNat * 8)).off + 7, none⟩ = some (.int .i64 ((rd_T107 l1 aA).f5))) (ds := []) (tf 0 10) (by kernel_rfl) rfl rfl ⟨(CY HB.out bA), (CY HB.out aZ), (CY HB.out aY), (CY HB.out aX), (CY HB.out aW), (CY HB.out aV), (CY HB.out aU), (CY HB.out aT), (CY HB.out bI), (CY HB.out bH), (CY HB.out bG), (CY HB.out bF), (CY HB.out bE), (CY HB.out bD), (CY HB.out bC), (CY HB.out bB)⟩ (fun bJ => ?_); refine with_tabW laws_eqRuleS.tab6 laws_eqRuleS.bits6 (fun bK bS => ?_)
        generalize wr.drew = w9 at HB aD aE aF aG aH aI aJ aK aL aM aN aO aP aQ aR aS bJ ⊢
        refine pv bK 0 17 (tf 1 9) ?_
        refine pv bK 1 18 (tf 2 8) ?_
        refine pv bK 2 19 (tf 3 7) ?_
        refine pv bK 4 21 (tr [3, 1, 1, 5]) ?_
        refine pv bK 5 22 (tr [3, 1, 2, 4]) ?_
        refine pv bK 6 23 (tr [3, 1, 3, 3]) ?_
        refine tk 3 (some 20) (tf 7 3) (take_ofW bK.out bS.out (by kernel_rfl)) bJ ?_
        refine tk 7 (some 24) (tf 8 2) (take_ofW bK.out bS.out (by kernel_rfl)) bJ ?_
        refine one_ (i := 8) (N := some 25) (tf 9 1) rfl rfl (one_of bK.out (by kernel_rfl)) (by decide) (fun K hK => ?_)
        refine goes_ Tryz.func57 (by kernel_rfl) rfl #[.agg #[.int .i64 ((rd_T107 l0 aA).f0), .int .i64 ((rd_T107 l0 aA).f1), .int .i64 ((rd_T107 l0 aA).f2.f0), .int .i64 ((rd_T107 l0 aA).f2.f1), .int .i64 ((rd_T107 l0 aA).f3.f0), .int .i64 ((rd_T107 l0 aA).f3.f1), .int .i64 ((rd_T107 l0 aA).f4), .int .i64 ((rd_T107 l0 aA).f5)], .agg #[.int .i64 ((rd_T107 l1 aA).f0), .int .i64 ((rd_T107 l1 aA).f1), .int .i64 ((rd_T107 l1 aA).f2.f0), .int .i64 ((rd_T107 l1 aA).f2.f1), .int .i64 ((rd_T107 l1 aA).f3.f0), .int .i64 ((rd_T107 l1 aA).f3.f1), .int .i64 ((rd_T107 l1 aA).f4), .int .i64 ((rd_T107 l1 aA).f5)]] (by rfl) rfl rfl MT ?_
        with_reducible refine (laws_eqRule.calls ((rd_T107 l0 aA).f0) ((rd_T107 l0 aA).f1) ((rd_T107 l0 aA).f2.f0) ((rd_T107 l0 aA).f2.f1) ((rd_T107 l0 aA).f3.f0) ((rd_T107 l0 aA).f3.f1) ((rd_T107 l0 aA).f4) ((rd_T107 l0 aA).f5) ((rd_T107 l1 aA).f0) ((rd_T107 l1 aA).f1) ((rd_T107 l1 aA).f2.f0) ((rd_T107 l1 aA).f2.f1) ((rd_T107 l1 aA).f3.f0) ((rd_T107 l1 aA).f3.f1) ((rd_T107 l1 aA).f4) ((rd_T107 l1 aA).f5) true _ A7.out).mono ?_
        rintro e cD ⟨rfl, hb⟩
        refine ⟨_, rfl, ?_⟩
        replace HB := bl (KL HB) hb
        (try clear hb)
        (try clear hb2)
        (try clear hk)
        (try clear hi)
        refine hK.out _ _ ⟨(CY HB.out bA), (CY HB.out aZ), (CY HB.out aY), (CY HB.out aX), (CY HB.out aW), (CY HB.out aV), (CY HB.out aU), (CY HB.out aT), (CY HB.out bI), (CY HB.out bH), (CY HB.out bG), (CY HB.out bF), (CY HB.out bE), (CY HB.out bD), (CY HB.out bC), (CY HB.out bB)⟩ (fun bJ => ?_)
        clear hK K
        refine nm (some 25) ?_
        refine pv bK 9 26 (tf 10 0) ?_
        refine done_ (done_of bK.out (by kernel_rfl)) ?_
        try go_wp2
        go_roundg k1
        case measure => have := HK1.out; omega
        case rel => exact ⟨(wrap64 (aA + 1)), (by first | rfl | (simp; done) | (simp [*]; done)), H', ⟨by have := HK1.out; omega⟩, ⟨KL HB⟩⟩
       ·replace c8 := Bool.eq_false_iff.mpr c8
        subst c8
        have H1 := nf H
        clear H
        have H := H1
        clear H1
        obtain rfl := sj H
        try go_wp2
        replace HB := am (below_drew1 HB.out)
        have bL : 0 ≤ (aA : Int) := OD
        have bM : aA < (l0.length : Int) := OD
        obtain ⟨aB, bP, aD, aE, aF, aG, aH, aI, aJ, aK⟩ := at_T107 bY.out aA bL bM
        have aT := aK
        have aU := aJ
        have aV := aI
        have aW := aH
        have aX := aG
        have aY := aF
        have aZ := aE
        have bA := aD
        cases bP
        replace aD := CX HB.out aD
        replace aE := CX HB.out aE
        replace aF := CX HB.out aF
        replace aG := CX HB.out aG
        replace aH := CX HB.out aH
        replace aI := CX HB.out aI
        replace aJ := CX HB.out aJ
        replace aK := CX HB.out aK
        replace bL := eq_true bL
        replace bM := eq_true bM
        have bN : 0 ≤ (aA : Int) := OD
        have bO : aA < (l1.length : Int) := OD
        obtain ⟨aC, bQ, aL, aM, aN, aO, aP, aQ, aR, aS⟩ := at_T107 bZ.out aA bN bO
        have bB := aS
        have bC := aR
        have bD := aQ
        have bE := aP
        have bF := aO
        have bG := aN
        have bH := aM
        have bI := aL
        cases bQ
        replace aL := CX HB.out aL
        replace aM := CX HB.out aM
        replace aN := CX HB.out aN
        replace aO := CX HB.out aO
        replace aP := CX HB.out aP
        replace aQ := CX HB.out aQ
        replace aR := CX HB.out aR
        replace aS := CX HB.out aS
        replace bN := eq_true bN
        replace bO := eq_true bO
        refine start_ (n := 10) (S := fun w' => w'.cell? (aB.add ((aA).toNat * 8)) = some (.int .i64 ((rd_T107 l0 aA).f0)) ∧ w'.cell? ⟨(aB.add ((aA).toNat * 8)).block, (aB.add ((aA).toNat * 8)).off + 1, none⟩ = some (.int .i64 ((rd_T107 l0 aA).f1)) ∧ w'.cell? ⟨(aB.add ((aA).toNat * 8)).block, (aB.add ((aA).toNat * 8)).off + 2, none⟩ = some (.int .i64 ((rd_T107 l0 aA).f2.f0)) ∧ w'.cell? ⟨(aB.add ((aA).toNat * 8)).block, (aB.add ((aA).toNat * 8)).off + 3, none⟩ = some (.int .i64 ((rd_T107 l0 aA).f2.f1)) ∧ w'.cell? ⟨(aB.add ((aA).toNat * 8)).block, (aB.add ((aA).toNat * 8)).off + 4, none⟩ = some (.int .i64 ((rd_T107 l0 aA).f3.f0)) ∧ w'.cell? ⟨(aB.add ((aA).toNat * 8)).block, (aB.add ((aA).toNat * 8)).off + 5, none⟩ = some (.int .i64 ((rd_T107 l0 aA).f3.f1)) ∧ w'.cell? ⟨(aB.add ((aA).toNat * 8)).block, (aB.add ((aA).toNat * 8)).off + 6, none⟩ = some (.int .i64 ((rd_T107 l0 aA).f4)) ∧ w'.cell? ⟨(aB.add ((aA).toNat * 8)).block, (aB.add ((aA).toNat * 8)).off + 7, none⟩ = some (.int .i64 ((rd_T107 l0 aA).f5)) ∧ w'.cell? (aC.add ((aA).toNat * 8)) = some (.int .i64 ((rd_T107 l1 aA).f0)) ∧ w'.cell? ⟨(aC.add ((aA).toNat * 8)).block, (aC.add ((aA).toNat * 8)).off + 1, none⟩ = some (.int .i64 ((rd_T107 l1 aA).f1)) ∧ w'.cell? ⟨(aC.add ((aA).toNat * 8)).block, (aC.add ((aA).toNat * 8)).off + 2, none⟩ = some (.int .i64 ((rd_T107 l1 aA).f2.f0)) ∧ w'.cell? ⟨(aC.add ((aA).toNat * 8)).block, (aC.add ((aA).toNat * 8)).off + 3, none⟩ = some (.int .i64 ((rd_T107 l1 aA).f2.f1)) ∧ w'.cell? ⟨(aC.add ((aA).toNat * 8)).block, (aC.add ((aA).toNat * 8)).off + 4, none⟩ = some (.int .i64 ((rd_T107 l1 aA).f3.f0)) ∧ w'.cell? ⟨(aC.add ((aA).toNat * 8)).block, (aC.add ((aA).toNat * 8)).off + 5, none⟩ = some (.int .i64 ((rd_T107 l1 aA).f3.f1)) ∧ w'.cell? ⟨(aC.add ((aA).toNat * 8)).block, (aC.add ((aA).toNat * 8)).off + 6, none⟩ = some (.int .i64 ((rd_T107 l1 aA).f4)) ∧ w'.cell? ⟨(aC.add ((aA).toNat * 8)).block, (aC.add ((aA).toNat * 8)).off + 7, none⟩ = some (.int .i64 ((rd_T107 l1 aA).f5))) (ds := []) (tf 0 10) (by kernel_rfl) rfl rfl ⟨(CY HB.out bA), (CY HB.out aZ), (CY HB.out aY), (CY HB.out aX), (CY HB.out aW), (CY HB.out aV), (CY HB.out aU), (CY HB.out aT), (CY HB.out bI), (CY HB.out bH), (CY HB.out bG), (CY HB.out bF), (CY HB.out bE), (CY HB.out bD), (CY HB.out bC), (CY HB.out bB)⟩ (fun bJ => ?_); refine with_tabW laws_eqRuleS.tab6 laws_eqRuleS.bits6 (fun bK bS => ?_)
        generalize wr.drew = cE at HB aD aE aF aG aH aI aJ aK aL aM aN aO aP aQ aR aS bJ ⊢
        refine pv bK 0 17 (tf 1 9) ?_
        refine pv bK 1 18 (tf 2 8) ?_
        refine pv bK 2 19 (tf 3 7) ?_
        refine pv bK 4 21 (tr [3, 1, 1, 5]) ?_
        refine pv bK 5 22 (tr [3, 1, 2, 4]) ?_
        refine pv bK 6 23 (tr [3, 1, 3, 3]) ?_
        refine tk 3 (some 20) (tf 7 3) (take_ofW bK.out bS.out (by kernel_rfl)) bJ ?_
        refine tk 7 (some 24) (tf 8 2) (take_ofW bK.out bS.out (by kernel_rfl)) bJ ?_
        refine one_ (i := 8) (N := some 25) (tf 9 1) rfl rfl (one_of bK.out (by kernel_rfl)) (by decide) (fun K hK => ?_)
        refine goes_ Tryz.func57 (by kernel_rfl) rfl #[.agg #[.int .i64 ((rd_T107 l0 aA).f0), .int .i64 ((rd_T107 l0 aA).f1), .int .i64 ((rd_T107 l0 aA).f2.f0), .int .i64 ((rd_T107 l0 aA).f2.f1), .int .i64 ((rd_T107 l0 aA).f3.f0), .int .i64 ((rd_T107 l0 aA).f3.f1), .int .i64 ((rd_T107 l0 aA).f4), .int .i64 ((rd_T107 l0 aA).f5)], .agg #[.int .i64 ((rd_T107 l1 aA).f0), .int .i64 ((rd_T107 l1 aA).f1), .int .i64 ((rd_T107 l1 aA).f2.f0), .int .i64 ((rd_T107 l1 aA).f2.f1), .int .i64 ((rd_T107 l1 aA).f3.f0), .int .i64 ((rd_T107 l1 aA).f3.f1), .int .i64 ((rd_T107 l1 aA).f4), .int .i64 ((rd_T107 l1 aA).f5)]] (by rfl) rfl rfl MT ?_
        with_reducible refine (laws_eqRule.calls ((rd_T107 l0 aA).f0) ((rd_T107 l0 aA).f1) ((rd_T107 l0 aA).f2.f0) ((rd_T107 l0 aA).f2.f1) ((rd_T107 l0 aA).f3.f0) ((rd_T107 l0 aA).f3.f1) ((rd_T107 l0 aA).f4) ((rd_T107 l0 aA).f5) ((rd_T107 l1 aA).f0) ((rd_T107 l1 aA).f1) ((rd_T107 l1 aA).f2.f0) ((rd_T107 l1 aA).f2.f1) ((rd_T107 l1 aA).f3.f0) ((rd_T107 l1 aA).f3.f1) ((rd_T107 l1 aA).f4) ((rd_T107 l1 aA).f5) false _ A7.out).mono ?_
        rintro e cF ⟨rfl, hb⟩
        refine ⟨_, rfl, ?_⟩
        replace HB := bl (KL HB) hb
        (try clear hb)
        (try clear hb2)
        (try clear hk)
        (try clear hi)
        refine hK.out _ _ ⟨(CY HB.out bA), (CY HB.out aZ), (CY HB.out aY), (CY HB.out aX), (CY HB.out aW), (CY HB.out aV), (CY HB.out aU), (CY HB.out aT), (CY HB.out bI), (CY HB.out bH), (CY HB.out bG), (CY HB.out bF), (CY HB.out bE), (CY HB.out bD), (CY HB.out bC), (CY HB.out bB)⟩ (fun bJ => ?_)
        clear hK K
        refine nm (some 25) ?_
        refine pv bK 9 26 (tf 10 0) ?_
        refine done_ (done_of bK.out (by kernel_rfl)) ?_
        try go_wp2
        go_ret
        exact ⟨ER, KL HB⟩
      ·rw [if_neg c6] at H
       exact absurd H (by simp)
     ·rw [if_neg c5] at H
      exact absurd H (by simp)
    ·rw [if_neg c4] at H
     have c4b0 : decide (aA < (l0.length : Int)) = false := decide_eq_false c4
     clear c4
     obtain rfl := sj H
     go_wp2
     go_ret
     exact ⟨ER, KL HB⟩
 ·rw [if_neg c3] at H
  have c3b0 : ((l0.length : Int) == (l1.length : Int)) = false := beq_eq_false_iff_ne.mpr c3
  have c3b1 : ((l0.length : Int) != (l1.length : Int)) = true := bne_iff_ne.mpr c3
  have c3b2 : (l0.length == l1.length) = false := by first | simpa using c3 | (simp at c3 ⊢; omega)
  obtain rfl := sj H
  go_enter Tryz.func36, Tryz.ntmps36
  go_wp2
  go_ret
  exact ⟨ER, KL HB⟩
def laws_eqCall.f (a0_0 : Int) (a0_1 : Int) (a0_2 : Int) (a1_0 : Int) (a1_1 : Int) (a1_2 : Int) : Option (Bool) := if a0_0 = a1_0 then (if a0_1 = a1_1 then (if a0_2 = a1_2 then (some true) else (some false)) else (some false)) else (some false)
theorem laws_eqCall.calls (aF : Int) (aG : Int) (aH : Int) (aI : Int) (aJ : Int) (aK : Int) (r : Bool) (w : World) (h : laws_eqCall.f aF aG aH aI aJ aK = some r) :
  Calls Tryz.prog 95 #[.agg #[.int .i64 aF, .int .i64 aG, .int .i64 aH], .agg #[.int .i64 aI, .int .i64 aJ, .int .i64 aK]] w fun e w' => e = .returned (.bool r) ∧ Below w.heap.size w w' := by
 have bX := Tryz.underlying126
 have HB := am (Below.refl w.heap.size w)
 have H : (if aF = aI then (if aG = aJ then (if aH = aK then (some true) else (some false)) else (some false)) else (some false)) = some r := h
 clear h
 by_cases c3 : aF = aI
 ·rw [if_pos c3] at H
  have c3b0 : (aF == aI) = true := beq_iff_eq.mpr c3
  have c3b1 : (aF != aI) = false := bne_eq_false_iff_eq.mpr c3
  clear c3
  by_cases c4 : aG = aJ
  ·rw [if_pos c4] at H
   have c4b0 : (aG == aJ) = true := beq_iff_eq.mpr c4
   have c4b1 : (aG != aJ) = false := bne_eq_false_iff_eq.mpr c4
   clear c4
   by_cases c5 : aH = aK
   ·rw [if_pos c5] at H
    have c5b0 : (aH == aK) = true := beq_iff_eq.mpr c5
    have c5b1 : (aH != aK) = false := bne_eq_false_iff_eq.mpr c5
    clear c5
    obtain rfl := sj H
    go_enter Tryz.func95, Tryz.ntmps95
    go_wp2_with (first | ((with_reducible refine gate_dst (N := 2) rfl ?_); refine box_event rfl (N := 2) rfl (cs := #[.int .i64 aF, .int .i64 aG, .int .i64 aH]) (t := 126) BX ?_; intro aP hg w6 aD hb; have aA := am (aD); have aL := am (GH HB hg); have aE := aL; replace HB := bl (KL HB) hb; clear hb aD hg) | ((with_reducible refine gate_dst (N := 3) rfl ?_); refine box_event rfl (N := 3) rfl (cs := #[.int .i64 aI, .int .i64 aJ, .int .i64 aK]) (t := 126) BX ?_; intro aQ hg w7 aD hb; have aM := am (aD); have aN := am (GH1 HB aE.out hg); have aO := aN; replace HB := bl (K1 HB aE.out) hb; have aB := am (NL aA hg); have aC := am (NG aA hg); replace aA := am (BB aA hb); clear hb aD hg; have cH := aB.out; have cI := aC.out; have ⟨_, _, _, _⟩ := y3 w7 aA.out; have ⟨_, _, _, _⟩ := y3 w7 aM.out))
    go_ret
    exact ⟨ER, K2 HB aE.out aO.out⟩
   ·rw [if_neg c5] at H
    have c5b0 : (aH == aK) = false := beq_eq_false_iff_ne.mpr c5
    have c5b1 : (aH != aK) = true := bne_iff_ne.mpr c5
    obtain rfl := sj H
    go_enter Tryz.func95, Tryz.ntmps95
    go_wp2_with (first | ((with_reducible refine gate_dst (N := 2) rfl ?_); refine box_event rfl (N := 2) rfl (cs := #[.int .i64 aF, .int .i64 aG, .int .i64 aH]) (t := 126) BX ?_; intro aP hg cJ aD hb; have aA := am (aD); have aL := am (GH HB hg); have aE := aL; replace HB := bl (KL HB) hb; clear hb aD hg) | ((with_reducible refine gate_dst (N := 3) rfl ?_); refine box_event rfl (N := 3) rfl (cs := #[.int .i64 aI, .int .i64 aJ, .int .i64 aK]) (t := 126) BX ?_; intro aQ hg bY aD hb; have aM := am (aD); have aN := am (GH1 HB aE.out hg); have aO := aN; replace HB := bl (K1 HB aE.out) hb; have aB := am (NL aA hg); have aC := am (NG aA hg); replace aA := am (BB aA hb); clear hb aD hg; have bZ := aB.out; have cA := aC.out; have ⟨_, _, _, _⟩ := y3 bY aA.out; have ⟨_, _, _, _⟩ := y3 bY aM.out))
    go_ret
    exact ⟨ER, K2 HB aE.out aO.out⟩
  ·rw [if_neg c4] at H
   have c4b0 : (aG == aJ) = false := beq_eq_false_iff_ne.mpr c4
   have c4b1 : (aG != aJ) = true := bne_iff_ne.mpr c4
   obtain rfl := sj H
   go_enter Tryz.func95, Tryz.ntmps95
   go_wp2_with (first | ((with_reducible refine gate_dst (N := 2) rfl ?_); refine box_event rfl (N := 2) rfl (cs := #[.int .i64 aF, .int .i64 aG, .int .i64 aH]) (t := 126) BX ?_; intro aP hg cK aD hb; have aA := am (aD); have aL := am (GH HB hg); have aE := aL; replace HB := bl (KL HB) hb; clear hb aD hg) | ((with_reducible refine gate_dst (N := 3) rfl ?_); refine box_event rfl (N := 3) rfl (cs := #[.int .i64 aI, .int .i64 aJ, .int .i64 aK]) (t := 126) BX ?_; intro aQ hg cB aD hb; have aM := am (aD); have aN := am (GH1 HB aE.out hg); have aO := aN; replace HB := bl (K1 HB aE.out) hb; have aB := am (NL aA hg); have aC := am (NG aA hg); replace aA := am (BB aA hb); clear hb aD hg; have cC := aB.out; have cD := aC.out; have ⟨_, _, _, _⟩ := y3 cB aA.out; have ⟨_, _, _, _⟩ := y3 cB aM.out))
   go_ret
   exact ⟨ER, K2 HB aE.out aO.out⟩
 ·rw [if_neg c3] at H
  have c3b0 : (aF == aI) = false := beq_eq_false_iff_ne.mpr c3
  have c3b1 : (aF != aI) = true := bne_iff_ne.mpr c3
  obtain rfl := sj H
  go_enter Tryz.func95, Tryz.ntmps95
  go_wp2_with (first | ((with_reducible refine gate_dst (N := 2) rfl ?_); refine box_event rfl (N := 2) rfl (cs := #[.int .i64 aF, .int .i64 aG, .int .i64 aH]) (t := 126) BX ?_; intro aP hg cL aD hb; have aA := am (aD); have aL := am (GH HB hg); have aE := aL; replace HB := bl (KL HB) hb; clear hb aD hg) | ((with_reducible refine gate_dst (N := 3) rfl ?_); refine box_event rfl (N := 3) rfl (cs := #[.int .i64 aI, .int .i64 aJ, .int .i64 aK]) (t := 126) BX ?_; intro aQ hg cE aD hb; have aM := am (aD); have aN := am (GH1 HB aE.out hg); have aO := aN; replace HB := bl (K1 HB aE.out) hb; have aB := am (NL aA hg); have aC := am (NG aA hg); replace aA := am (BB aA hb); clear hb aD hg; have cF := aB.out; have cG := aC.out; have ⟨_, _, _, _⟩ := y3 cE aA.out; have ⟨_, _, _, _⟩ := y3 cE aM.out))
  go_ret
  exact ⟨ER, K2 HB aE.out aO.out⟩
def laws_eqSeen.f (a0_0 : Int) (a0_1 : Int) (a0_2 : Int) (a0_3 : Int) (a1_0 : Int) (a1_1 : Int) (a1_2 : Int) (a1_3 : Int) : Option (Bool) := (laws_eqCall.f a0_0 a0_1 a0_2 a1_0 a1_1 a1_2).bind fun t103 => (if t103 = true then (if a0_3 = a1_3 then (some true) else (some false)) else (some false))
theorem laws_eqSeen.calls (aH : Int) (aI : Int) (aJ : Int) (aK : Int) (aL : Int) (aM : Int) (aN : Int) (aO : Int) (r : Bool) (w : World) (h : laws_eqSeen.f aH aI aJ aK aL aM aN aO = some r) :
  Calls Tryz.prog 77 #[.agg #[.int .i64 aH, .int .i64 aI, .int .i64 aJ, .int .i64 aK], .agg #[.int .i64 aL, .int .i64 aM, .int .i64 aN, .int .i64 aO]] w fun e w' => e = .returned (.bool r) ∧ Below w.heap.size w w' := by
 have cS := Tryz.underlying128
 have cT := Tryz.underlying126
 have HB := am (Below.refl w.heap.size w)
 have H : ((laws_eqCall.f aH aI aJ aL aM aN).bind fun aR => (if aR = true then (if aK = aO then (some true) else (some false)) else (some false))) = some r := h
 clear h
 replace H := bm H
 obtain ⟨aR, cU, H⟩ := H
 replace H : (if aR = true then (if aK = aO then (some true) else (some false)) else (some false)) = some r := H
 have A3 := Aside0.mk cU
 clear cU
 by_cases c4 : aR = true
 ·subst c4
  have H1 := pf H
  clear H
  have H := H1
  clear H1
  by_cases c5 : aK = aO
  ·rw [if_pos c5] at H
   have c5b0 : (aK == aO) = true := beq_iff_eq.mpr c5
   have c5b1 : (aK != aO) = false := bne_eq_false_iff_eq.mpr c5
   clear c5
   obtain rfl := sj H
   go_enter Tryz.func77, Tryz.ntmps77
   go_wp2_with (first | ((with_reducible refine gate_dst (N := 2) rfl ?_); refine box_event rfl (N := 2) rfl (cs := #[.int .i64 aH, .int .i64 aI, .int .i64 aJ, .int .i64 aK]) (t := 128) BX ?_; intro aS hg w6 aF hb; have aA := am (aF); have aP := am (GH HB hg); have aB := aP; replace HB := bl (KL HB) hb; clear hb aF hg) | ((with_reducible refine gate_dst (N := 3) rfl ?_); refine box_event rfl (N := 3) rfl (cs := #[.int .i64 aL, .int .i64 aM, .int .i64 aN, .int .i64 aO]) (t := 128) BX ?_; intro aT hg w7 aF hb; have aC := am (aF); have aQ := am (GH1 HB aB.out hg); have aG := aQ; replace HB := bl (K1 HB aB.out) hb; have aD := am (NL aA hg); have aE := am (NG aA hg); replace aA := am (BB aA hb); clear hb aF hg; have dD := aD.out; have dE := aE.out; have ⟨_, _, _, _, _⟩ := y4 w7 aA.out; have ⟨_, _, _, _, _⟩ := y4 w7 aC.out) | ((with_reducible refine gate_callee (f := 95) rfl ?_); refine goesL_ (some 9) rfl rfl Tryz.func95 (by kernel_rfl) rfl #[.agg #[.int .i64 aH, .int .i64 aI, .int .i64 aJ], .agg #[.int .i64 aL, .int .i64 aM, .int .i64 aN]] rfl MT ?_; (with_reducible refine (laws_eqCall.calls aH aI aJ aL aM aN true _ A3.out).mono ?_); rintro e cV ⟨rfl, hb⟩; refine ⟨_, rfl, ?_⟩; replace aA := am (BB aA hb); replace aC := am (BB aC hb); replace HB := bl (K2 HB aB.out aG.out) hb; (try clear hb); have ⟨_, _, _, _, _⟩ := y4 cV aA.out; have ⟨_, _, _, _, _⟩ := y4 cV aC.out))
   go_ret
   exact ⟨ER, K2 HB aB.out aG.out⟩
  ·rw [if_neg c5] at H
   have c5b0 : (aK == aO) = false := beq_eq_false_iff_ne.mpr c5
   have c5b1 : (aK != aO) = true := bne_iff_ne.mpr c5
   obtain rfl := sj H
   go_enter Tryz.func77, Tryz.ntmps77
   go_wp2_with (first | ((with_reducible refine gate_dst (N := 2) rfl ?_); refine box_event rfl (N := 2) rfl (cs := #[.int .i64 aH, .int .i64 aI, .int .i64 aJ, .int .i64 aK]) (t := 128) BX ?_; intro aS hg dF aF hb; have aA := am (aF); have aP := am (GH HB hg); have aB := aP; replace HB := bl (KL HB) hb; clear hb aF hg) | ((with_reducible refine gate_dst (N := 3) rfl ?_); refine box_event rfl (N := 3) rfl (cs := #[.int .i64 aL, .int .i64 aM, .int .i64 aN, .int .i64 aO]) (t := 128) BX ?_; intro aT hg cW aF hb; have aC := am (aF); have aQ := am (GH1 HB aB.out hg); have aG := aQ; replace HB := bl (K1 HB aB.out) hb; have aD := am (NL aA hg); have aE := am (NG aA hg); replace aA := am (BB aA hb); clear hb aF hg; have cX := aD.out; have cY := aE.out; have ⟨_, _, _, _, _⟩ := y4 cW aA.out; have ⟨_, _, _, _, _⟩ := y4 cW aC.out) | ((with_reducible refine gate_callee (f := 95) rfl ?_); refine goesL_ (some 9) rfl rfl Tryz.func95 (by kernel_rfl) rfl #[.agg #[.int .i64 aH, .int .i64 aI, .int .i64 aJ], .agg #[.int .i64 aL, .int .i64 aM, .int .i64 aN]] rfl MT ?_; (with_reducible refine (laws_eqCall.calls aH aI aJ aL aM aN true _ A3.out).mono ?_); rintro e cZ ⟨rfl, hb⟩; refine ⟨_, rfl, ?_⟩; replace aA := am (BB aA hb); replace aC := am (BB aC hb); replace HB := bl (K2 HB aB.out aG.out) hb; (try clear hb); have ⟨_, _, _, _, _⟩ := y4 cZ aA.out; have ⟨_, _, _, _, _⟩ := y4 cZ aC.out))
   go_ret
   exact ⟨ER, K2 HB aB.out aG.out⟩
 ·replace c4 := Bool.eq_false_iff.mpr c4
  subst c4
  have H1 := nf H
  clear H
  have H := H1
  clear H1
  obtain rfl := sj H
  go_enter Tryz.func77, Tryz.ntmps77
  go_wp2_with (first | ((with_reducible refine gate_dst (N := 2) rfl ?_); refine box_event rfl (N := 2) rfl (cs := #[.int .i64 aH, .int .i64 aI, .int .i64 aJ, .int .i64 aK]) (t := 128) BX ?_; intro aS hg dG aF hb; have aA := am (aF); have aP := am (GH HB hg); have aB := aP; replace HB := bl (KL HB) hb; clear hb aF hg) | ((with_reducible refine gate_dst (N := 3) rfl ?_); refine box_event rfl (N := 3) rfl (cs := #[.int .i64 aL, .int .i64 aM, .int .i64 aN, .int .i64 aO]) (t := 128) BX ?_; intro aT hg dA aF hb; have aC := am (aF); have aQ := am (GH1 HB aB.out hg); have aG := aQ; replace HB := bl (K1 HB aB.out) hb; have aD := am (NL aA hg); have aE := am (NG aA hg); replace aA := am (BB aA hb); clear hb aF hg; have dB := aD.out; have dC := aE.out; have ⟨_, _, _, _, _⟩ := y4 dA aA.out; have ⟨_, _, _, _, _⟩ := y4 dA aC.out) | ((with_reducible refine gate_callee (f := 95) rfl ?_); refine goesL_ (some 9) rfl rfl Tryz.func95 (by kernel_rfl) rfl #[.agg #[.int .i64 aH, .int .i64 aI, .int .i64 aJ], .agg #[.int .i64 aL, .int .i64 aM, .int .i64 aN]] rfl MT ?_; (with_reducible refine (laws_eqCall.calls aH aI aJ aL aM aN false _ A3.out).mono ?_); rintro e dH ⟨rfl, hb⟩; refine ⟨_, rfl, ?_⟩; replace aA := am (BB aA hb); replace aC := am (BB aC hb); replace HB := bl (K2 HB aB.out aG.out) hb; (try clear hb)))
  go_ret
  exact ⟨ER, K2 HB aB.out aG.out⟩
def laws_eqSeenS.l0 : Nat → List (S128) → List (S128) → Int → Option (Bool)
 | 0, _, _, _ => none
 | k + 1, x0, x1, x5 => if x5 < (x0.length : Int) then (if 0 ≤ x5 then (if x5 < (x1.length : Int) then ((laws_eqSeen.f ((rd_T128 x0 x5).f0.f0) ((rd_T128 x0 x5).f0.f1) ((rd_T128 x0 x5).f0.f2) ((rd_T128 x0 x5).f1) ((rd_T128 x1 x5).f0.f0) ((rd_T128 x1 x5).f0.f1) ((rd_T128 x1 x5).f0.f2) ((rd_T128 x1 x5).f1)).bind fun t103 => (if t103 = true then (laws_eqSeenS.l0 k x0 x1 (wrap64 (x5 + 1))) else (some false))) else (none)) else (none)) else (some true)
def laws_eqSeenS.f (k : Nat) (l0 : List (S128)) (l1 : List (S128)) : Option (Bool) := if (l0.length : Int) = (l1.length : Int) then (laws_eqSeenS.l0 k l0 l1 0) else (some false)
def laws_eqSeenS.T6 : Bool × List (List Nat × List Nat) := (true, [([], []), ([], []), ([0, 1], [0, 1]), ([2], [2]), ([], []), ([], []), ([4, 5], [4, 5]), ([6], [6]), ([3, 7], [3, 7]), ([8], [8])])
def laws_eqSeenS.B6 : List Nat := [0, 0, 3, 7, 0, 0, 48, 112, 255, 511]
theorem laws_eqSeenS.tab6 : rtab .any (opsOf Tryz.f58 6) = laws_eqSeenS.T6 := by kernel_rfl
theorem laws_eqSeenS.bits6 : waitsOk laws_eqSeenS.T6.2 laws_eqSeenS.B6 = true := by kernel_rfl
theorem laws_eqSeenS.calls (k : Nat) (A0 : Option Addr) (c0 : Nat) (l0 : List (S128)) (A1 : Option Addr) (c1 : Nat) (l1 : List (S128)) (r : Bool) (w : World) (bD : Kd.C k128 w A0 l0.length l0) (bE : l0.length ≤ c0) (bF : Kd.C k128 w A1 l1.length l1) (bG : l1.length ≤ c1) (h : laws_eqSeenS.f k l0 l1 = some r) :
  Calls Tryz.prog 58 #[.slice A0 l0.length c0, .slice A1 l1.length c1] w fun e w' => e = .returned (.bool r) ∧ Below w.heap.size w w' := by
 have bH := Tryz.underlying128
 have bI := Aside0.mk bD
 have bL := Aside0.mk bE
 clear bD bE
 have bJ := Aside0.mk bF
 have bM := Aside0.mk bG
 clear bF bG
 have HB := am (Below.refl w.heap.size w)
 have H : (if (l0.length : Int) = (l1.length : Int) then (laws_eqSeenS.l0 k l0 l1 0) else (some false)) = some r := h
 clear h
 by_cases c3 : (l0.length : Int) = (l1.length : Int)
 ·rw [if_pos c3] at H
  have c3b0 : ((l0.length : Int) == (l1.length : Int)) = true := beq_iff_eq.mpr c3
  have c3b1 : ((l0.length : Int) != (l1.length : Int)) = false := bne_eq_false_iff_eq.mpr c3
  have c3b2 : (l0.length == l1.length) = true := by first | simpa using c3 | (simp at c3 ⊢; omega)
  clear c3
  have H' := Aside0.mk H
  clear H
  go_enter Tryz.func58, Tryz.ntmps58
  go_wp2
  go_loopg [5] k (fun kq v5 w' => ∃ (aA : Int), v5 = .int .i64 aA ∧ Aside0 (laws_eqSeenS.l0 kq l0 l1 aA = some r) ∧ Aside0 (kq ≤ k) ∧ Aside0 (Below w.heap.size w w'))
  case atStart => exact ⟨(0), (by first | rfl | (simp; done) | (simp [*]; done)), H', ⟨Nat.le_refl _⟩, ⟨KL HB⟩⟩
  case round =>
   clear H'
   try clear c1
   try clear p2
   try clear c3
   try clear c3b0
   try clear c3b1
   try clear c3b2
   obtain ⟨aA, rfl, HA, HK1, HB⟩ := hrel
   cases gk with
   | zero => exact absurd HA.out (by simp [laws_eqSeenS.l0])
   | succ k1 =>
    have H := HA.out
    clear HA
    simp only [laws_eqSeenS.l0] at H
    by_cases c4 : aA < (l0.length : Int)
    ·rw [if_pos c4] at H
     have c4b0 : decide (aA < (l0.length : Int)) = true := decide_eq_true c4
     clear c4
     by_cases c5 : 0 ≤ aA
     ·rw [if_pos c5] at H
      have c5b0 : decide (0 ≤ aA) = true := decide_eq_true c5
      clear c5
      by_cases c6 : aA < (l1.length : Int)
      ·rw [if_pos c6] at H
       have c6b0 : decide (aA < (l1.length : Int)) = true := decide_eq_true c6
       clear c6
       replace H := bm H
       obtain ⟨bB, bK, H⟩ := H
       replace H : (if bB = true then (laws_eqSeenS.l0 k1 l0 l1 (wrap64 (aA + 1))) else (some false)) = some r := H
       have A7 := Aside0.mk bK
       clear bK
       by_cases c8 : bB = true
       ·subst c8
        have H1 := pf H
        clear H
        have H := H1
        clear H1
        have H' := Aside0.mk H
        clear H
        try go_wp2
        replace HB := am (below_drew1 HB.out)
        have aV : 0 ≤ (aA : Int) := OD
        have aW : aA < (l0.length : Int) := OD
        obtain ⟨aJ, aZ, aB, aC, aD, aE⟩ := at_T128 bI.out aA aV aW
        have aL := aE
        have aM := aD
        have aN := aC
        have aO := aB
        cases aZ
        replace aB := CX HB.out aB
        replace aC := CX HB.out aC
        replace aD := CX HB.out aD
        replace aE := CX HB.out aE
        replace aV := eq_true aV
        replace aW := eq_true aW
        have aX : 0 ≤ (aA : Int) := OD
        have aY : aA < (l1.length : Int) := OD
        obtain ⟨aK, bA, aF, aG, aH, aI⟩ := at_T128 bJ.out aA aX aY
        have aP := aI
        have aQ := aH
        have aR := aG
        have aS := aF
        cases bA
        replace aF := CX HB.out aF
        replace aG := CX HB.out aG
        replace aH := CX HB.out aH
        replace aI := CX HB.out aI
        replace aX := eq_true aX
        replace aY := eq_true aY
        refine start_ (n := 10) (S := fun w' => w'.cell? (aJ.add ((aA).toNat * 4)) = some (.int .i64 ((rd_T128 l0 aA).f0.f0)) ∧ w'.cell? ⟨(aJ.add ((aA).toNat * 4)).block, (aJ.add ((aA).toNat * 4)).off + 1, none⟩ = some (.int .i64 ((rd_T128 l0 aA).f0.f1)) ∧ w'.cell? ⟨(aJ.add ((aA).toNat * 4)).block, (aJ.add ((aA).toNat * 4)).off + 2, none⟩ = some (.int .i64 ((rd_T128 l0 aA).f0.f2)) ∧ w'.cell? ⟨(aJ.add ((aA).toNat * 4)).block, (aJ.add ((aA).toNat * 4)).off + 3, none⟩ = some (.int .i64 ((rd_T128 l0 aA).f1)) ∧ w'.cell? (aK.add ((aA).toNat * 4)) = some (.int .i64 ((rd_T128 l1 aA).f0.f0)) ∧ w'.cell? ⟨(aK.add ((aA).toNat * 4)).block, (aK.add ((aA).toNat * 4)).off + 1, none⟩ = some (.int .i64 ((rd_T128 l1 aA).f0.f1)) ∧ w'.cell? ⟨(aK.add ((aA).toNat * 4)).block, (aK.add ((aA).toNat * 4)).off + 2, none⟩ = some (.int .i64 ((rd_T128 l1 aA).f0.f2)) ∧ w'.cell? ⟨(aK.add ((aA).toNat * 4)).block, (aK.add ((aA).toNat * 4)).off + 3, none⟩ = some (.int .i64 ((rd_T128 l1 aA).f1))) (ds := []) (tf 0 10) (by kernel_rfl) rfl rfl ⟨(CY HB.out aO), (CY HB.out aN), (CY HB.out aM), (CY HB.out aL), (CY HB.out aS), (CY HB.out aR), (CY HB.out aQ), (CY HB.out aP)⟩ (fun aT => ?_); refine with_tabW laws_eqSeenS.tab6 laws_eqSeenS.bits6 (fun aU bC => ?_)
        generalize wr.drew = w9 at HB aB aC aD aE aF aG aH aI aT ⊢
        refine pv aU 0 17 (tf 1 9) ?_
        refine pv aU 1 18 (tf 2 8) ?_
        refine pv aU 2 19 (tf 3 7) ?_
        refine pv aU 4 21 (tr [3, 1, 1, 5]) ?_
        refine pv aU 5 22 (tr [3, 1, 2, 4]) ?_
        refine pv aU 6 23 (tr [3, 1, 3, 3]) ?_
        refine tk 3 (some 20) (tf 7 3) (take_ofW aU.out bC.out (by kernel_rfl)) aT ?_
        refine tk 7 (some 24) (tf 8 2) (take_ofW aU.out bC.out (by kernel_rfl)) aT ?_
        refine one_ (i := 8) (N := some 25) (tf 9 1) rfl rfl (one_of aU.out (by kernel_rfl)) (by decide) (fun K hK => ?_)
        refine goes_ Tryz.func77 (by kernel_rfl) rfl #[.agg #[.int .i64 ((rd_T128 l0 aA).f0.f0), .int .i64 ((rd_T128 l0 aA).f0.f1), .int .i64 ((rd_T128 l0 aA).f0.f2), .int .i64 ((rd_T128 l0 aA).f1)], .agg #[.int .i64 ((rd_T128 l1 aA).f0.f0), .int .i64 ((rd_T128 l1 aA).f0.f1), .int .i64 ((rd_T128 l1 aA).f0.f2), .int .i64 ((rd_T128 l1 aA).f1)]] (by rfl) rfl rfl MT ?_
        with_reducible refine (laws_eqSeen.calls ((rd_T128 l0 aA).f0.f0) ((rd_T128 l0 aA).f0.f1) ((rd_T128 l0 aA).f0.f2) ((rd_T128 l0 aA).f1) ((rd_T128 l1 aA).f0.f0) ((rd_T128 l1 aA).f0.f1) ((rd_T128 l1 aA).f0.f2) ((rd_T128 l1 aA).f1) true _ A7.out).mono ?_
        rintro e bN ⟨rfl, hb⟩
        refine ⟨_, rfl, ?_⟩
        replace HB := bl (KL HB) hb
        (try clear hb)
        (try clear hb2)
        (try clear hk)
        (try clear hi)
        refine hK.out _ _ ⟨(CY HB.out aO), (CY HB.out aN), (CY HB.out aM), (CY HB.out aL), (CY HB.out aS), (CY HB.out aR), (CY HB.out aQ), (CY HB.out aP)⟩ (fun aT => ?_)
        clear hK K
        refine nm (some 25) ?_
        refine pv aU 9 26 (tf 10 0) ?_
        refine done_ (done_of aU.out (by kernel_rfl)) ?_
        try go_wp2
        go_roundg k1
        case measure => have := HK1.out; omega
        case rel => exact ⟨(wrap64 (aA + 1)), (by first | rfl | (simp; done) | (simp [*]; done)), H', ⟨by have := HK1.out; omega⟩, ⟨KL HB⟩⟩
       ·replace c8 := Bool.eq_false_iff.mpr c8
        subst c8
        have H1 := nf H
        clear H
        have H := H1
        clear H1
        obtain rfl := sj H
        try go_wp2
        replace HB := am (below_drew1 HB.out)
        have aV : 0 ≤ (aA : Int) := OD
        have aW : aA < (l0.length : Int) := OD
        obtain ⟨aJ, aZ, aB, aC, aD, aE⟩ := at_T128 bI.out aA aV aW
        have aL := aE
        have aM := aD
        have aN := aC
        have aO := aB
        cases aZ
        replace aB := CX HB.out aB
        replace aC := CX HB.out aC
        replace aD := CX HB.out aD
        replace aE := CX HB.out aE
        replace aV := eq_true aV
        replace aW := eq_true aW
        have aX : 0 ≤ (aA : Int) := OD
        have aY : aA < (l1.length : Int) := OD
        obtain ⟨aK, bA, aF, aG, aH, aI⟩ := at_T128 bJ.out aA aX aY
        have aP := aI
        have aQ := aH
        have aR := aG
        have aS := aF
        cases bA
        replace aF := CX HB.out aF
        replace aG := CX HB.out aG
        replace aH := CX HB.out aH
        replace aI := CX HB.out aI
        replace aX := eq_true aX
        replace aY := eq_true aY
        refine start_ (n := 10) (S := fun w' => w'.cell? (aJ.add ((aA).toNat * 4)) = some (.int .i64 ((rd_T128 l0 aA).f0.f0)) ∧ w'.cell? ⟨(aJ.add ((aA).toNat * 4)).block, (aJ.add ((aA).toNat * 4)).off + 1, none⟩ = some (.int .i64 ((rd_T128 l0 aA).f0.f1)) ∧ w'.cell? ⟨(aJ.add ((aA).toNat * 4)).block, (aJ.add ((aA).toNat * 4)).off + 2, none⟩ = some (.int .i64 ((rd_T128 l0 aA).f0.f2)) ∧ w'.cell? ⟨(aJ.add ((aA).toNat * 4)).block, (aJ.add ((aA).toNat * 4)).off + 3, none⟩ = some (.int .i64 ((rd_T128 l0 aA).f1)) ∧ w'.cell? (aK.add ((aA).toNat * 4)) = some (.int .i64 ((rd_T128 l1 aA).f0.f0)) ∧ w'.cell? ⟨(aK.add ((aA).toNat * 4)).block, (aK.add ((aA).toNat * 4)).off + 1, none⟩ = some (.int .i64 ((rd_T128 l1 aA).f0.f1)) ∧ w'.cell? ⟨(aK.add ((aA).toNat * 4)).block, (aK.add ((aA).toNat * 4)).off + 2, none⟩ = some (.int .i64 ((rd_T128 l1 aA).f0.f2)) ∧ w'.cell? ⟨(aK.add ((aA).toNat * 4)).block, (aK.add ((aA).toNat * 4)).off + 3, none⟩ = some (.int .i64 ((rd_T128 l1 aA).f1))) (ds := []) (tf 0 10) (by kernel_rfl) rfl rfl ⟨(CY HB.out aO), (CY HB.out aN), (CY HB.out aM), (CY HB.out aL), (CY HB.out aS), (CY HB.out aR), (CY HB.out aQ), (CY HB.out aP)⟩ (fun aT => ?_); refine with_tabW laws_eqSeenS.tab6 laws_eqSeenS.bits6 (fun aU bC => ?_)
        generalize wr.drew = bO at HB aB aC aD aE aF aG aH aI aT ⊢
        refine pv aU 0 17 (tf 1 9) ?_
        refine pv aU 1 18 (tf 2 8) ?_
        refine pv aU 2 19 (tf 3 7) ?_
        refine pv aU 4 21 (tr [3, 1, 1, 5]) ?_
        refine pv aU 5 22 (tr [3, 1, 2, 4]) ?_
        refine pv aU 6 23 (tr [3, 1, 3, 3]) ?_
        refine tk 3 (some 20) (tf 7 3) (take_ofW aU.out bC.out (by kernel_rfl)) aT ?_
        refine tk 7 (some 24) (tf 8 2) (take_ofW aU.out bC.out (by kernel_rfl)) aT ?_
        refine one_ (i := 8) (N := some 25) (tf 9 1) rfl rfl (one_of aU.out (by kernel_rfl)) (by decide) (fun K hK => ?_)
        refine goes_ Tryz.func77 (by kernel_rfl) rfl #[.agg #[.int .i64 ((rd_T128 l0 aA).f0.f0), .int .i64 ((rd_T128 l0 aA).f0.f1), .int .i64 ((rd_T128 l0 aA).f0.f2), .int .i64 ((rd_T128 l0 aA).f1)], .agg #[.int .i64 ((rd_T128 l1 aA).f0.f0), .int .i64 ((rd_T128 l1 aA).f0.f1), .int .i64 ((rd_T128 l1 aA).f0.f2), .int .i64 ((rd_T128 l1 aA).f1)]] (by rfl) rfl rfl MT ?_
        with_reducible refine (laws_eqSeen.calls ((rd_T128 l0 aA).f0.f0) ((rd_T128 l0 aA).f0.f1) ((rd_T128 l0 aA).f0.f2) ((rd_T128 l0 aA).f1) ((rd_T128 l1 aA).f0.f0) ((rd_T128 l1 aA).f0.f1) ((rd_T128 l1 aA).f0.f2) ((rd_T128 l1 aA).f1) false _ A7.out).mono ?_
        rintro e bP ⟨rfl, hb⟩
        refine ⟨_, rfl, ?_⟩
        replace HB := bl (KL HB) hb
        (try clear hb)
        (try clear hb2)
        (try clear hk)
        (try clear hi)
        refine hK.out _ _ ⟨(CY HB.out aO), (CY HB.out aN), (CY HB.out aM), (CY HB.out aL), (CY HB.out aS), (CY HB.out aR), (CY HB.out aQ), (CY HB.out aP)⟩ (fun aT => ?_)
        clear hK K
        refine nm (some 25) ?_
        refine pv aU 9 26 (tf 10 0) ?_
        refine done_ (done_of aU.out (by kernel_rfl)) ?_
        try go_wp2
        go_ret
        exact ⟨ER, KL HB⟩
      ·rw [if_neg c6] at H
       exact absurd H (by simp)
     ·rw [if_neg c5] at H
      exact absurd H (by simp)
    ·rw [if_neg c4] at H
     have c4b0 : decide (aA < (l0.length : Int)) = false := decide_eq_false c4
     clear c4
     obtain rfl := sj H
     go_wp2
     go_ret
     exact ⟨ER, KL HB⟩
 ·rw [if_neg c3] at H
  have c3b0 : ((l0.length : Int) == (l1.length : Int)) = false := beq_eq_false_iff_ne.mpr c3
  have c3b1 : ((l0.length : Int) != (l1.length : Int)) = true := bne_iff_ne.mpr c3
  have c3b2 : (l0.length == l1.length) = false := by first | simpa using c3 | (simp at c3 ⊢; omega)
  obtain rfl := sj H
  go_enter Tryz.func58, Tryz.ntmps58
  go_wp2
  go_ret
  exact ⟨ER, KL HB⟩
def laws_eqCache.f (k : Nat) (a0_0 : Int) (l0_1 : List (S128)) (a1_0 : Int) (l1_1 : List (S128)) : Option (Bool) := if a0_0 = a1_0 then ((laws_eqSeenS.f k l0_1 l1_1).bind fun t103 => (if t103 = true then (some true) else (some false))) else (some false)
theorem laws_eqCache.calls (k : Nat) (aI : Int) (aN : Option Addr) (aO : Nat) (aG : List (S128)) (aJ : Int) (aP : Option Addr) (aQ : Nat) (aH : List (S128)) (r : Bool) (w : World) (aS : Kd.C k128 w aN aG.length aG) (aT : aG.length ≤ aO) (aU : Kd.C k128 w aP aH.length aH) (aV : aH.length ≤ aQ) (h : laws_eqCache.f k aI aG aJ aH = some r) :
  Calls Tryz.prog 37 #[.agg #[.int .i64 aI, .slice aN aG.length aO], .agg #[.int .i64 aJ, .slice aP aH.length aQ]] w fun e w' => e = .returned (.bool r) ∧ Below w.heap.size w w' := by
 have cB := Tryz.underlying38
 have aW := Aside0.mk aS
 have aX := Aside0.mk aT
 clear aS aT
 have aY := Aside0.mk aU
 have aZ := Aside0.mk aV
 clear aU aV
 have HB := am (Below.refl w.heap.size w)
 have H : (if aI = aJ then ((laws_eqSeenS.f k aG aH).bind fun aR => (if aR = true then (some true) else (some false))) else (some false)) = some r := h
 clear h
 by_cases c3 : aI = aJ
 ·rw [if_pos c3] at H
  have c3b0 : (aI == aJ) = true := beq_iff_eq.mpr c3
  have c3b1 : (aI != aJ) = false := bne_eq_false_iff_eq.mpr c3
  clear c3
  replace H := bm H
  obtain ⟨aR, bU, H⟩ := H
  replace H : (if aR = true then (some true) else (some false)) = some r := H
  have A4 := Aside0.mk bU
  clear bU
  by_cases c5 : aR = true
  ·subst c5
   have H1 := pf H
   clear H
   have H := H1
   clear H1
   obtain rfl := sj H
   go_enter Tryz.func37, Tryz.ntmps37
   go_wp2_with (first | ((with_reducible refine gate_dst (N := 2) rfl ?_); refine box_event rfl (N := 2) rfl (cs := #[.int .i64 aI, .slice aN aG.length aO]) (t := 38) BX ?_; intro bA hg w6 aE hb; have aA := am (aE); have aL := am (GH HB hg); have aB := aL; replace HB := bl (KL HB) hb; clear hb aE hg) | ((with_reducible refine gate_dst (N := 3) rfl ?_); refine box_event rfl (N := 3) rfl (cs := #[.int .i64 aJ, .slice aP aH.length aQ]) (t := 38) BX ?_; intro bB hg w7 aE hb; have aF := am (aE); have aM := am (GH1 HB aB.out hg); have aK := aM; replace HB := bl (K1 HB aB.out) hb; have aC := am (NL aA hg); have aD := am (NG aA hg); replace aA := am (BB aA hb); clear hb aE hg; have cC := aC.out; have cD := aD.out; have ⟨_, _, _⟩ := y2 w7 aA.out; have ⟨_, _, _⟩ := y2 w7 aF.out) | ((with_reducible refine gate_callee (f := 58) rfl ?_); refine goesL_ (some 14) rfl rfl Tryz.func58 (by kernel_rfl) rfl #[.slice aN aG.length aO, .slice aP aH.length aQ] rfl MT ?_; (with_reducible refine (laws_eqSeenS.calls k _ _ aG _ _ aH true _ ?_ ?_ ?_ ?_ A4.out).mono ?_); exact KD aW HB; exact aX.out; exact KD aY HB; exact aZ.out; rintro e cE ⟨rfl, hb⟩; refine ⟨_, rfl, ?_⟩; replace aA := am (BB aA hb); replace aF := am (BB aF hb); replace HB := bl (K2 HB aB.out aK.out) hb; (try clear hb)))
   go_ret
   exact ⟨ER, K2 HB aB.out aK.out⟩
  ·replace c5 := Bool.eq_false_iff.mpr c5
   subst c5
   have H1 := nf H
   clear H
   have H := H1
   clear H1
   obtain rfl := sj H
   go_enter Tryz.func37, Tryz.ntmps37
   go_wp2_with (first | ((with_reducible refine gate_dst (N := 2) rfl ?_); refine box_event rfl (N := 2) rfl (cs := #[.int .i64 aI, .slice aN aG.length aO]) (t := 38) BX ?_; intro bA hg cF aE hb; have aA := am (aE); have aL := am (GH HB hg); have aB := aL; replace HB := bl (KL HB) hb; clear hb aE hg) | ((with_reducible refine gate_dst (N := 3) rfl ?_); refine box_event rfl (N := 3) rfl (cs := #[.int .i64 aJ, .slice aP aH.length aQ]) (t := 38) BX ?_; intro bB hg bV aE hb; have aF := am (aE); have aM := am (GH1 HB aB.out hg); have aK := aM; replace HB := bl (K1 HB aB.out) hb; have aC := am (NL aA hg); have aD := am (NG aA hg); replace aA := am (BB aA hb); clear hb aE hg; have bW := aC.out; have bX := aD.out; have ⟨_, _, _⟩ := y2 bV aA.out; have ⟨_, _, _⟩ := y2 bV aF.out) | ((with_reducible refine gate_callee (f := 58) rfl ?_); refine goesL_ (some 14) rfl rfl Tryz.func58 (by kernel_rfl) rfl #[.slice aN aG.length aO, .slice aP aH.length aQ] rfl MT ?_; (with_reducible refine (laws_eqSeenS.calls k _ _ aG _ _ aH false _ ?_ ?_ ?_ ?_ A4.out).mono ?_); exact KD aW HB; exact aX.out; exact KD aY HB; exact aZ.out; rintro e cG ⟨rfl, hb⟩; refine ⟨_, rfl, ?_⟩; replace aA := am (BB aA hb); replace aF := am (BB aF hb); replace HB := bl (K2 HB aB.out aK.out) hb; (try clear hb)))
   go_ret
   exact ⟨ER, K2 HB aB.out aK.out⟩
 ·rw [if_neg c3] at H
  have c3b0 : (aI == aJ) = false := beq_eq_false_iff_ne.mpr c3
  have c3b1 : (aI != aJ) = true := bne_iff_ne.mpr c3
  obtain rfl := sj H
  go_enter Tryz.func37, Tryz.ntmps37
  go_wp2_with (first | ((with_reducible refine gate_dst (N := 2) rfl ?_); refine box_event rfl (N := 2) rfl (cs := #[.int .i64 aI, .slice aN aG.length aO]) (t := 38) BX ?_; intro bA hg cH aE hb; have aA := am (aE); have aL := am (GH HB hg); have aB := aL; replace HB := bl (KL HB) hb; clear hb aE hg) | ((with_reducible refine gate_dst (N := 3) rfl ?_); refine box_event rfl (N := 3) rfl (cs := #[.int .i64 aJ, .slice aP aH.length aQ]) (t := 38) BX ?_; intro bB hg bY aE hb; have aF := am (aE); have aM := am (GH1 HB aB.out hg); have aK := aM; replace HB := bl (K1 HB aB.out) hb; have aC := am (NL aA hg); have aD := am (NG aA hg); replace aA := am (BB aA hb); clear hb aE hg; have bZ := aC.out; have cA := aD.out; have ⟨_, _, _⟩ := y2 bY aA.out; have ⟨_, _, _⟩ := y2 bY aF.out))
  go_ret
  exact ⟨ER, K2 HB aB.out aK.out⟩
def laws_eqIntS.l0 : Nat → List Int → List Int → Int → Option (Bool)
 | 0, _, _, _ => none
 | k + 1, x0, x1, x5 => if x5 < (x0.length : Int) then (if 0 ≤ x5 then (if x5 < (x1.length : Int) then (if (rd x0 x5) = (rd x1 x5) then (laws_eqIntS.l0 k x0 x1 (wrap64 (x5 + 1))) else (some false)) else (none)) else (none)) else (some true)
def laws_eqIntS.f (k : Nat) (l0 : List Int) (l1 : List Int) : Option (Bool) := if (l0.length : Int) = (l1.length : Int) then (laws_eqIntS.l0 k l0 l1 0) else (some false)
theorem laws_eqIntS.calls (k : Nat) (A0 : Option Addr) (c0 : Nat) (l0 : List Int) (A1 : Option Addr) (c1 : Nat) (l1 : List Int) (r : Bool) (w : World) (aL : Kd.C (Kd.int .i64) w A0 l0.length l0) (aM : l0.length ≤ c0) (aN : Kd.C (Kd.int .i64) w A1 l1.length l1) (aO : l1.length ≤ c1) (h : laws_eqIntS.f k l0 l1 = some r) :
  Calls Tryz.prog 96 #[.slice A0 l0.length c0, .slice A1 l1.length c1] w fun e w' => e = .returned (.bool r) ∧ Drawn0 w w' := by
 have aP := Aside0.mk aL
 have aR := Aside0.mk aM
 clear aL aM
 have aQ := Aside0.mk aN
 have aS := Aside0.mk aO
 clear aN aO
 have H : (if (l0.length : Int) = (l1.length : Int) then (laws_eqIntS.l0 k l0 l1 0) else (some false)) = some r := h
 clear h
 by_cases c3 : (l0.length : Int) = (l1.length : Int)
 ·rw [if_pos c3] at H
  have c3b0 : ((l0.length : Int) == (l1.length : Int)) = true := beq_iff_eq.mpr c3
  have c3b1 : ((l0.length : Int) != (l1.length : Int)) = false := bne_eq_false_iff_eq.mpr c3
  have c3b2 : (l0.length == l1.length) = true := by first | simpa using c3 | (simp at c3 ⊢; omega)
  clear c3
  have H' := Aside0.mk H
  clear H
  go_enter Tryz.func96, Tryz.ntmps96
  go_wp2
  repeat (go_quiet (fail); try go_wp2)
  go_loopg [5] k (fun kq v5 w' => ∃ (aA : Int), v5 = .int .i64 aA ∧ Aside0 (laws_eqIntS.l0 kq l0 l1 aA = some r) ∧ Aside0 (kq ≤ k) ∧ Drawn0 w w')
  case atStart => exact ⟨(0), (by first | rfl | (simp; done) | (simp [*]; done)), H', ⟨Nat.le_refl _⟩, by repeat (first | exact Drawn0.refl _ | apply Drawn0.step)⟩
  case round =>
   clear H'
   try clear c1
   try clear p2
   try clear c3
   try clear c3b0
   try clear c3b1
   try clear c3b2
   obtain ⟨aA, rfl, HA, HK1, ⟨m1, rfl⟩⟩ := hrel
   cases gk with
   | zero => exact absurd HA.out (by simp [laws_eqIntS.l0])
   | succ k1 =>
    have H := HA.out
    clear HA
    simp only [laws_eqIntS.l0] at H
    by_cases c4 : aA < (l0.length : Int)
    ·rw [if_pos c4] at H
     have c4b0 : decide (aA < (l0.length : Int)) = true := decide_eq_true c4
     clear c4
     by_cases c5 : 0 ≤ aA
     ·rw [if_pos c5] at H
      have c5b0 : decide (0 ≤ aA) = true := decide_eq_true c5
      clear c5
      by_cases c6 : aA < (l1.length : Int)
      ·rw [if_pos c6] at H
       have c6b0 : decide (aA < (l1.length : Int)) = true := decide_eq_true c6
       clear c6
       by_cases c7 : (rd l0 aA) = (rd l1 aA)
       ·rw [if_pos c7] at H
        have c7b0 : ((rd l0 aA) == (rd l1 aA)) = true := beq_iff_eq.mpr c7
        have c7b1 : ((rd l0 aA) != (rd l1 aA)) = false := bne_eq_false_iff_eq.mpr c7
        clear c7
        have H' := Aside0.mk H
        clear H
        have aB : 0 ≤ (aA : Int) := OD
        have aC : aA < (l0.length : Int) := OD
        obtain ⟨aJ, aH, aF⟩ := Kd.at_int aP.out aA aB aC
        cases aH
        replace aB := eq_true aB
        replace aC := eq_true aC
        have aD : 0 ≤ (aA : Int) := OD
        have aE : aA < (l1.length : Int) := OD
        obtain ⟨aK, aI, aG⟩ := Kd.at_int aQ.out aA aD aE
        cases aI
        replace aD := eq_true aD
        replace aE := eq_true aE
        go_wp2
        repeat (go_quiet (fail); try go_wp2)
        go_roundg k1
        case measure => have := HK1.out; omega
        case rel => exact ⟨(wrap64 (aA + 1)), (by first | rfl | (simp; done) | (simp [*]; done)), H', ⟨by have := HK1.out; omega⟩, by repeat (first | exact Drawn0.refl _ | apply Drawn0.step)⟩
       ·rw [if_neg c7] at H
        have c7b0 : ((rd l0 aA) == (rd l1 aA)) = false := beq_eq_false_iff_ne.mpr c7
        have c7b1 : ((rd l0 aA) != (rd l1 aA)) = true := bne_iff_ne.mpr c7
        obtain rfl := sj H
        have aB : 0 ≤ (aA : Int) := OD
        have aC : aA < (l0.length : Int) := OD
        obtain ⟨aJ, aH, aF⟩ := Kd.at_int aP.out aA aB aC
        cases aH
        replace aB := eq_true aB
        replace aC := eq_true aC
        have aD : 0 ≤ (aA : Int) := OD
        have aE : aA < (l1.length : Int) := OD
        obtain ⟨aK, aI, aG⟩ := Kd.at_int aQ.out aA aD aE
        cases aI
        replace aD := eq_true aD
        replace aE := eq_true aE
        go_wp2
        repeat (go_quiet (fail); try go_wp2)
        go_ret
        exact ⟨by first | rfl | (simp; done) | (simp [*]; done), by repeat (first | exact Drawn0.refl _ | apply Drawn0.step)⟩
      ·rw [if_neg c6] at H
       exact absurd H (by simp)
     ·rw [if_neg c5] at H
      exact absurd H (by simp)
    ·rw [if_neg c4] at H
     have c4b0 : decide (aA < (l0.length : Int)) = false := decide_eq_false c4
     clear c4
     obtain rfl := sj H
     go_wp2
     repeat (go_quiet (fail); try go_wp2)
     go_ret
     exact ⟨by first | rfl | (simp; done) | (simp [*]; done), by repeat (first | exact Drawn0.refl _ | apply Drawn0.step)⟩
 ·rw [if_neg c3] at H
  have c3b0 : ((l0.length : Int) == (l1.length : Int)) = false := beq_eq_false_iff_ne.mpr c3
  have c3b1 : ((l0.length : Int) != (l1.length : Int)) = true := bne_iff_ne.mpr c3
  have c3b2 : (l0.length == l1.length) = false := by first | simpa using c3 | (simp at c3 ⊢; omega)
  obtain rfl := sj H
  go_enter Tryz.func96, Tryz.ntmps96
  go_wp2
  repeat (go_quiet (fail); try go_wp2)
  go_ret
  exact ⟨by first | rfl | (simp; done) | (simp [*]; done), by repeat (first | exact Drawn0.refl _ | apply Drawn0.step)⟩
def laws_eqWindow.f (k : Nat) (a0_0 : Int) (l0_1 : List Int) (a1_0 : Int) (l1_1 : List Int) : Option (Bool) := if a0_0 = a1_0 then ((laws_eqIntS.f k l0_1 l1_1).bind fun t103 => (if t103 = true then (some true) else (some false))) else (some false)
theorem laws_eqWindow.calls (k : Nat) (aH : Int) (aN : Option Addr) (aO : Nat) (aF : List Int) (aI : Int) (aP : Option Addr) (aQ : Nat) (aG : List Int) (r : Bool) (w : World) (aS : Kd.C (Kd.int .i64) w aN aF.length aF) (aT : aF.length ≤ aO) (aU : Kd.C (Kd.int .i64) w aP aG.length aG) (aV : aG.length ≤ aQ) (h : laws_eqWindow.f k aH aF aI aG = some r) :
  Calls Tryz.prog 78 #[.agg #[.int .i64 aH, .slice aN aF.length aO], .agg #[.int .i64 aI, .slice aP aG.length aQ]] w fun e w' => e = .returned (.bool r) ∧ Below w.heap.size w w' := by
 have bU := Tryz.underlying101
 have aW := Aside0.mk aS
 have aX := Aside0.mk aT
 clear aS aT
 have aY := Aside0.mk aU
 have aZ := Aside0.mk aV
 clear aU aV
 have HB := am (Below.refl w.heap.size w)
 have H : (if aH = aI then ((laws_eqIntS.f k aF aG).bind fun aR => (if aR = true then (some true) else (some false))) else (some false)) = some r := h
 clear h
 by_cases c3 : aH = aI
 ·rw [if_pos c3] at H
  have c3b0 : (aH == aI) = true := beq_iff_eq.mpr c3
  have c3b1 : (aH != aI) = false := bne_eq_false_iff_eq.mpr c3
  clear c3
  replace H := bm H
  obtain ⟨aR, bV, H⟩ := H
  replace H : (if aR = true then (some true) else (some false)) = some r := H
  have A4 := Aside0.mk bV
  clear bV
  by_cases c5 : aR = true
  ·subst c5
   have H1 := pf H
   clear H
   have H := H1
   clear H1
   obtain rfl := sj H
   go_enter Tryz.func78, Tryz.ntmps78
   go_wp2_with (first | ((with_reducible refine gate_dst (N := 2) rfl ?_); refine box_event rfl (N := 2) rfl (cs := #[.int .i64 aH, .slice aN aF.length aO]) (t := 101) BX ?_; intro bA hg w6 aD hb; have aA := am (aD); have aJ := am (GH HB hg); have aE := aJ; replace HB := bl (KL HB) hb; clear hb aD hg) | ((with_reducible refine gate_dst (N := 3) rfl ?_); refine box_event rfl (N := 3) rfl (cs := #[.int .i64 aI, .slice aP aG.length aQ]) (t := 101) BX ?_; intro bB hg w7 aD hb; have aK := am (aD); have aL := am (GH1 HB aE.out hg); have aM := aL; replace HB := bl (K1 HB aE.out) hb; have aB := am (NL aA hg); have aC := am (NG aA hg); replace aA := am (BB aA hb); clear hb aD hg; have cC := aB.out; have cD := aC.out; have ⟨_, _, _⟩ := y2 w7 aA.out; have ⟨_, _, _⟩ := y2 w7 aK.out) | ((with_reducible refine gate_callee (f := 96) rfl ?_); refine goesL_ (some 14) rfl rfl Tryz.func96 (by kernel_rfl) rfl #[.slice aN aF.length aO, .slice aP aG.length aQ] rfl MT ?_; (with_reducible refine (laws_eqIntS.calls k _ _ aF _ _ aG true _ ?_ ?_ ?_ ?_ A4.out).mono ?_); exact KD aW HB; exact aX.out; exact KD aY HB; exact aZ.out; rintro e w' ⟨rfl, ⟨nd, rfl⟩⟩; refine ⟨_, rfl, ?_⟩))
   go_ret
   exact ⟨ER, K2 HB aE.out aM.out⟩
  ·replace c5 := Bool.eq_false_iff.mpr c5
   subst c5
   have H1 := nf H
   clear H
   have H := H1
   clear H1
   obtain rfl := sj H
   go_enter Tryz.func78, Tryz.ntmps78
   go_wp2_with (first | ((with_reducible refine gate_dst (N := 2) rfl ?_); refine box_event rfl (N := 2) rfl (cs := #[.int .i64 aH, .slice aN aF.length aO]) (t := 101) BX ?_; intro bA hg cE aD hb; have aA := am (aD); have aJ := am (GH HB hg); have aE := aJ; replace HB := bl (KL HB) hb; clear hb aD hg) | ((with_reducible refine gate_dst (N := 3) rfl ?_); refine box_event rfl (N := 3) rfl (cs := #[.int .i64 aI, .slice aP aG.length aQ]) (t := 101) BX ?_; intro bB hg bW aD hb; have aK := am (aD); have aL := am (GH1 HB aE.out hg); have aM := aL; replace HB := bl (K1 HB aE.out) hb; have aB := am (NL aA hg); have aC := am (NG aA hg); replace aA := am (BB aA hb); clear hb aD hg; have bX := aB.out; have bY := aC.out; have ⟨_, _, _⟩ := y2 bW aA.out; have ⟨_, _, _⟩ := y2 bW aK.out) | ((with_reducible refine gate_callee (f := 96) rfl ?_); refine goesL_ (some 14) rfl rfl Tryz.func96 (by kernel_rfl) rfl #[.slice aN aF.length aO, .slice aP aG.length aQ] rfl MT ?_; (with_reducible refine (laws_eqIntS.calls k _ _ aF _ _ aG false _ ?_ ?_ ?_ ?_ A4.out).mono ?_); exact KD aW HB; exact aX.out; exact KD aY HB; exact aZ.out; rintro e w' ⟨rfl, ⟨nd, rfl⟩⟩; refine ⟨_, rfl, ?_⟩))
   go_ret
   exact ⟨ER, K2 HB aE.out aM.out⟩
 ·rw [if_neg c3] at H
  have c3b0 : (aH == aI) = false := beq_eq_false_iff_ne.mpr c3
  have c3b1 : (aH != aI) = true := bne_iff_ne.mpr c3
  obtain rfl := sj H
  go_enter Tryz.func78, Tryz.ntmps78
  go_wp2_with (first | ((with_reducible refine gate_dst (N := 2) rfl ?_); refine box_event rfl (N := 2) rfl (cs := #[.int .i64 aH, .slice aN aF.length aO]) (t := 101) BX ?_; intro bA hg cF aD hb; have aA := am (aD); have aJ := am (GH HB hg); have aE := aJ; replace HB := bl (KL HB) hb; clear hb aD hg) | ((with_reducible refine gate_dst (N := 3) rfl ?_); refine box_event rfl (N := 3) rfl (cs := #[.int .i64 aI, .slice aP aG.length aQ]) (t := 101) BX ?_; intro bB hg bZ aD hb; have aK := am (aD); have aL := am (GH1 HB aE.out hg); have aM := aL; replace HB := bl (K1 HB aE.out) hb; have aB := am (NL aA hg); have aC := am (NG aA hg); replace aA := am (BB aA hb); clear hb aD hg; have cA := aB.out; have cB := aC.out; have ⟨_, _, _⟩ := y2 bZ aA.out; have ⟨_, _, _⟩ := y2 bZ aK.out))
  go_ret
  exact ⟨ER, K2 HB aE.out aM.out⟩
def laws_eqSa.f (k : Nat) (a0_0 : Int) (a0_1 : Int) (a0_2 : ByteArray) (a0_3 : ByteArray) (a0_4 : Int) (a0_5 : Int) (a0_6 : Int) (a0_7 : Int) (a0_8 : Int) (a0_9 : Int) (l0_10 : List Int) (a1_0 : Int) (a1_1 : Int) (a1_2 : ByteArray) (a1_3 : ByteArray) (a1_4 : Int) (a1_5 : Int) (a1_6 : Int) (a1_7 : Int) (a1_8 : Int) (a1_9 : Int) (l1_10 : List Int) : Option (Bool) := if a0_0 = a1_0 then (if a0_1 = a1_1 then (if a0_2.toList = a1_2.toList then (if a0_3.toList = a1_3.toList then (if a0_4 = a1_4 then (if a0_5 = a1_5 then (if a0_6 = a1_6 then (if a0_7 = a1_7 then (if a0_8 = a1_8 then ((laws_eqWindow.f k a0_9 l0_10 a1_9 l1_10).bind fun t103 => (if t103 = true then (some true) else (some false))) else (some false)) else (some false)) else (some false)) else (some false)) else (some false)) else (some false)) else (some false)) else (some false)) else (some false)
theorem laws_eqSa.calls (k : Nat) (aP : Int) (aQ : Int) (aR : ByteArray) (aS : ByteArray) (aT : Int) (aU : Int) (aV : Int) (aW : Int) (aX : Int) (bH : Int) (aL : Option Addr) (aM : Nat) (aH : List Int) (aY : Int) (aZ : Int) (bA : ByteArray) (bB : ByteArray) (bC : Int) (bD : Int) (bE : Int) (bF : Int) (bG : Int) (bI : Int) (aN : Option Addr) (aO : Nat) (aI : List Int) (r : Bool) (w : World) (bL : Kd.C (Kd.int .i64) w aL aH.length aH) (bM : aH.length ≤ aM) (bN : Kd.C (Kd.int .i64) w aN aI.length aI) (bO : aI.length ≤ aO) (h : laws_eqSa.f k aP aQ aR aS aT aU aV aW aX bH aH aY aZ bA bB bC bD bE bF bG bI aI = some r) :
  Calls Tryz.prog 59 #[.agg #[.int .i64 aP, .int .i64 aQ, .string aR, .string aS, .int .i64 aT, .int .i64 aU, .int .i64 aV, .int .i64 aW, .int .i64 aX, .int .i64 bH, .slice aL aH.length aM], .agg #[.int .i64 aY, .int .i64 aZ, .string bA, .string bB, .int .i64 bC, .int .i64 bD, .int .i64 bE, .int .i64 bF, .int .i64 bG, .int .i64 bI, .slice aN aI.length aO]] w fun e w' => e = .returned (.bool r) ∧ Below w.heap.size w w' := by
 have mC := Tryz.underlying103
 have mD := Tryz.underlying101
 have bP := Aside0.mk bL
 have bQ := Aside0.mk bM
 clear bL bM
 have bR := Aside0.mk bN
 have bS := Aside0.mk bO
 clear bN bO
 have HB := am (Below.refl w.heap.size w)
 have H : (if aP = aY then (if aQ = aZ then (if aR.toList = bA.toList then (if aS.toList = bB.toList then (if aT = bC then (if aU = bD then (if aV = bE then (if aW = bF then (if aX = bG then ((laws_eqWindow.f k bH aH bI aI).bind fun bT => (if bT = true then (some true) else (some false))) else (some false)) else (some false)) else (some false)) else (some false)) else (some false)) else (some false)) else (some false)) else (some false)) else (some false)) = some r := h
 clear h
 by_cases c3 : aP = aY
 ·rw [if_pos c3] at H
  have c3b0 : (aP == aY) = true := beq_iff_eq.mpr c3
  have c3b1 : (aP != aY) = false := bne_eq_false_iff_eq.mpr c3
  clear c3
  by_cases c4 : aQ = aZ
  ·rw [if_pos c4] at H
   have c4b0 : (aQ == aZ) = true := beq_iff_eq.mpr c4
   have c4b1 : (aQ != aZ) = false := bne_eq_false_iff_eq.mpr c4
   clear c4
   by_cases c5 : aR.toList = bA.toList
   ·rw [if_pos c5] at H
    have c5b0 : (aR.toList == bA.toList) = true := beq_iff_eq.mpr c5
    have c5b1 : (aR.toList != bA.toList) = false := bne_eq_false_iff_eq.mpr c5
    clear c5
    by_cases c6 : aS.toList = bB.toList
    ·rw [if_pos c6] at H
     have c6b0 : (aS.toList == bB.toList) = true := beq_iff_eq.mpr c6
     have c6b1 : (aS.toList != bB.toList) = false := bne_eq_false_iff_eq.mpr c6
     clear c6
     by_cases c7 : aT = bC
     ·rw [if_pos c7] at H
      have c7b0 : (aT == bC) = true := beq_iff_eq.mpr c7
      have c7b1 : (aT != bC) = false := bne_eq_false_iff_eq.mpr c7
      clear c7
      by_cases c8 : aU = bD
      ·rw [if_pos c8] at H
       have c8b0 : (aU == bD) = true := beq_iff_eq.mpr c8
       have c8b1 : (aU != bD) = false := bne_eq_false_iff_eq.mpr c8
       clear c8
       by_cases c9 : aV = bE
       ·rw [if_pos c9] at H
        have c9b0 : (aV == bE) = true := beq_iff_eq.mpr c9
        have c9b1 : (aV != bE) = false := bne_eq_false_iff_eq.mpr c9
        clear c9
        by_cases bU : aW = bF
        ·rw [if_pos bU] at H
         have c10b0 : (aW == bF) = true := beq_iff_eq.mpr bU
         have c10b1 : (aW != bF) = false := bne_eq_false_iff_eq.mpr bU
         clear bU
         by_cases bV : aX = bG
         ·rw [if_pos bV] at H
          have c11b0 : (aX == bG) = true := beq_iff_eq.mpr bV
          have c11b1 : (aX != bG) = false := bne_eq_false_iff_eq.mpr bV
          clear bV
          replace H := bm H
          obtain ⟨bT, bW, H⟩ := H
          replace H : (if bT = true then (some true) else (some false)) = some r := H
          have mE := Aside0.mk bW
          clear bW
          by_cases cT : bT = true
          ·subst cT
           have H1 := pf H
           clear H
           have H := H1
           clear H1
           obtain rfl := sj H
           go_enter Tryz.func59, Tryz.ntmps59
           go_wp2_with (first | ((with_reducible refine gate_dst (N := 2) rfl ?_); refine box_event rfl (N := 2) rfl (cs := #[.int .i64 aP, .int .i64 aQ, .string aR, .string aS, .int .i64 aT, .int .i64 aU, .int .i64 aV, .int .i64 aW, .int .i64 aX, .int .i64 bH, .slice aL aH.length aM]) (t := 103) BX ?_; intro bJ hg nM aE hb; have aA := am (aE); have aJ := am (GH HB hg); have aD := aJ; replace HB := bl (KL HB) hb; clear hb aE hg) | ((with_reducible refine gate_dst (N := 3) rfl ?_); refine box_event rfl (N := 3) rfl (cs := #[.int .i64 aY, .int .i64 aZ, .string bA, .string bB, .int .i64 bC, .int .i64 bD, .int .i64 bE, .int .i64 bF, .int .i64 bG, .int .i64 bI, .slice aN aI.length aO]) (t := 103) BX ?_; intro bK hg mF aE hb; have aF := am (aE); have aK := am (GH1 HB aD.out hg); have aG := aK; replace HB := bl (K1 HB aD.out) hb; have aB := am (NL aA hg); have aC := am (NG aA hg); replace aA := am (BB aA hb); clear hb aE hg; have mG := aB.out; have mH := aC.out; have ⟨_, _, _, _, _, _, _, _, _, _, _, _⟩ := y11 mF aA.out; have ⟨_, _, _, _, _, _, _, _, _, _, _, _⟩ := y11 mF aF.out) | ((with_reducible refine gate_callee (f := 78) rfl ?_); refine goesL_ (some 54) rfl rfl Tryz.func78 (by kernel_rfl) rfl #[.agg #[.int .i64 bH, .slice aL aH.length aM], .agg #[.int .i64 bI, .slice aN aI.length aO]] rfl MT ?_; (with_reducible refine (laws_eqWindow.calls k bH _ _ aH bI _ _ aI true _ ?_ ?_ ?_ ?_ mE.out).mono ?_); exact KD bP HB; exact bQ.out; exact KD bR HB; exact bS.out; rintro e nN ⟨rfl, hb⟩; refine ⟨_, rfl, ?_⟩; replace aA := am (BB aA hb); replace aF := am (BB aF hb); replace HB := bl (K2 HB aD.out aG.out) hb; (try clear hb)))
           go_ret
           exact ⟨ER, K2 HB aD.out aG.out⟩
          ·replace cT := Bool.eq_false_iff.mpr cT
           subst cT
           have H1 := nf H
           clear H
           have H := H1
           clear H1
           obtain rfl := sj H
           go_enter Tryz.func59, Tryz.ntmps59
           go_wp2_with (first | ((with_reducible refine gate_dst (N := 2) rfl ?_); refine box_event rfl (N := 2) rfl (cs := #[.int .i64 aP, .int .i64 aQ, .string aR, .string aS, .int .i64 aT, .int .i64 aU, .int .i64 aV, .int .i64 aW, .int .i64 aX, .int .i64 bH, .slice aL aH.length aM]) (t := 103) BX ?_; intro bJ hg nO aE hb; have aA := am (aE); have aJ := am (GH HB hg); have aD := aJ; replace HB := bl (KL HB) hb; clear hb aE hg) | ((with_reducible refine gate_dst (N := 3) rfl ?_); refine box_event rfl (N := 3) rfl (cs := #[.int .i64 aY, .int .i64 aZ, .string bA, .string bB, .int .i64 bC, .int .i64 bD, .int .i64 bE, .int .i64 bF, .int .i64 bG, .int .i64 bI, .slice aN aI.length aO]) (t := 103) BX ?_; intro bK hg mI aE hb; have aF := am (aE); have aK := am (GH1 HB aD.out hg); have aG := aK; replace HB := bl (K1 HB aD.out) hb; have aB := am (NL aA hg); have aC := am (NG aA hg); replace aA := am (BB aA hb); clear hb aE hg; have mJ := aB.out; have mK := aC.out; have ⟨_, _, _, _, _, _, _, _, _, _, _, _⟩ := y11 mI aA.out; have ⟨_, _, _, _, _, _, _, _, _, _, _, _⟩ := y11 mI aF.out) | ((with_reducible refine gate_callee (f := 78) rfl ?_); refine goesL_ (some 54) rfl rfl Tryz.func78 (by kernel_rfl) rfl #[.agg #[.int .i64 bH, .slice aL aH.length aM], .agg #[.int .i64 bI, .slice aN aI.length aO]] rfl MT ?_; (with_reducible refine (laws_eqWindow.calls k bH _ _ aH bI _ _ aI false _ ?_ ?_ ?_ ?_ mE.out).mono ?_); exact KD bP HB; exact bQ.out; exact KD bR HB; exact bS.out; rintro e nP ⟨rfl, hb⟩; refine ⟨_, rfl, ?_⟩; replace aA := am (BB aA hb); replace aF := am (BB aF hb); replace HB := bl (K2 HB aD.out aG.out) hb; (try clear hb)))
           go_ret
           exact ⟨ER, K2 HB aD.out aG.out⟩
         ·rw [if_neg bV] at H
          have c11b0 : (aX == bG) = false := beq_eq_false_iff_ne.mpr bV
          have c11b1 : (aX != bG) = true := bne_iff_ne.mpr bV
          obtain rfl := sj H
          go_enter Tryz.func59, Tryz.ntmps59
          go_wp2_with (first | ((with_reducible refine gate_dst (N := 2) rfl ?_); refine box_event rfl (N := 2) rfl (cs := #[.int .i64 aP, .int .i64 aQ, .string aR, .string aS, .int .i64 aT, .int .i64 aU, .int .i64 aV, .int .i64 aW, .int .i64 aX, .int .i64 bH, .slice aL aH.length aM]) (t := 103) BX ?_; intro bJ hg nQ aE hb; have aA := am (aE); have aJ := am (GH HB hg); have aD := aJ; replace HB := bl (KL HB) hb; clear hb aE hg) | ((with_reducible refine gate_dst (N := 3) rfl ?_); refine box_event rfl (N := 3) rfl (cs := #[.int .i64 aY, .int .i64 aZ, .string bA, .string bB, .int .i64 bC, .int .i64 bD, .int .i64 bE, .int .i64 bF, .int .i64 bG, .int .i64 bI, .slice aN aI.length aO]) (t := 103) BX ?_; intro bK hg mL aE hb; have aF := am (aE); have aK := am (GH1 HB aD.out hg); have aG := aK; replace HB := bl (K1 HB aD.out) hb; have aB := am (NL aA hg); have aC := am (NG aA hg); replace aA := am (BB aA hb); clear hb aE hg; have mM := aB.out; have mN := aC.out; have ⟨_, _, _, _, _, _, _, _, _, _, _, _⟩ := y11 mL aA.out; have ⟨_, _, _, _, _, _, _, _, _, _, _, _⟩ := y11 mL aF.out))
          go_ret
          exact ⟨ER, K2 HB aD.out aG.out⟩
        ·rw [if_neg bU] at H
         have c10b0 : (aW == bF) = false := beq_eq_false_iff_ne.mpr bU
         have c10b1 : (aW != bF) = true := bne_iff_ne.mpr bU
         obtain rfl := sj H
         go_enter Tryz.func59, Tryz.ntmps59
         go_wp2_with (first | ((with_reducible refine gate_dst (N := 2) rfl ?_); refine box_event rfl (N := 2) rfl (cs := #[.int .i64 aP, .int .i64 aQ, .string aR, .string aS, .int .i64 aT, .int .i64 aU, .int .i64 aV, .int .i64 aW, .int .i64 aX, .int .i64 bH, .slice aL aH.length aM]) (t := 103) BX ?_; intro bJ hg nR aE hb; have aA := am (aE); have aJ := am (GH HB hg); have aD := aJ; replace HB := bl (KL HB) hb; clear hb aE hg) | ((with_reducible refine gate_dst (N := 3) rfl ?_); refine box_event rfl (N := 3) rfl (cs := #[.int .i64 aY, .int .i64 aZ, .string bA, .string bB, .int .i64 bC, .int .i64 bD, .int .i64 bE, .int .i64 bF, .int .i64 bG, .int .i64 bI, .slice aN aI.length aO]) (t := 103) BX ?_; intro bK hg mO aE hb; have aF := am (aE); have aK := am (GH1 HB aD.out hg); have aG := aK; replace HB := bl (K1 HB aD.out) hb; have aB := am (NL aA hg); have aC := am (NG aA hg); replace aA := am (BB aA hb); clear hb aE hg; have mP := aB.out; have mQ := aC.out; have ⟨_, _, _, _, _, _, _, _, _, _, _, _⟩ := y11 mO aA.out; have ⟨_, _, _, _, _, _, _, _, _, _, _, _⟩ := y11 mO aF.out))
         go_ret
         exact ⟨ER, K2 HB aD.out aG.out⟩
       ·rw [if_neg c9] at H
        have c9b0 : (aV == bE) = false := beq_eq_false_iff_ne.mpr c9
        have c9b1 : (aV != bE) = true := bne_iff_ne.mpr c9
        obtain rfl := sj H
        go_enter Tryz.func59, Tryz.ntmps59
        go_wp2_with (first | ((with_reducible refine gate_dst (N := 2) rfl ?_); refine box_event rfl (N := 2) rfl (cs := #[.int .i64 aP, .int .i64 aQ, .string aR, .string aS, .int .i64 aT, .int .i64 aU, .int .i64 aV, .int .i64 aW, .int .i64 aX, .int .i64 bH, .slice aL aH.length aM]) (t := 103) BX ?_; intro bJ hg nS aE hb; have aA := am (aE); have aJ := am (GH HB hg); have aD := aJ; replace HB := bl (KL HB) hb; clear hb aE hg) | ((with_reducible refine gate_dst (N := 3) rfl ?_); refine box_event rfl (N := 3) rfl (cs := #[.int .i64 aY, .int .i64 aZ, .string bA, .string bB, .int .i64 bC, .int .i64 bD, .int .i64 bE, .int .i64 bF, .int .i64 bG, .int .i64 bI, .slice aN aI.length aO]) (t := 103) BX ?_; intro bK hg mR aE hb; have aF := am (aE); have aK := am (GH1 HB aD.out hg); have aG := aK; replace HB := bl (K1 HB aD.out) hb; have aB := am (NL aA hg); have aC := am (NG aA hg); replace aA := am (BB aA hb); clear hb aE hg; have mS := aB.out; have mT := aC.out; have ⟨_, _, _, _, _, _, _, _, _, _, _, _⟩ := y11 mR aA.out; have ⟨_, _, _, _, _, _, _, _, _, _, _, _⟩ := y11 mR aF.out))
        go_ret
        exact ⟨ER, K2 HB aD.out aG.out⟩
      ·rw [if_neg c8] at H
       have c8b0 : (aU == bD) = false := beq_eq_false_iff_ne.mpr c8
       have c8b1 : (aU != bD) = true := bne_iff_ne.mpr c8
       obtain rfl := sj H
       go_enter Tryz.func59, Tryz.ntmps59
       go_wp2_with (first | ((with_reducible refine gate_dst (N := 2) rfl ?_); refine box_event rfl (N := 2) rfl (cs := #[.int .i64 aP, .int .i64 aQ, .string aR, .string aS, .int .i64 aT, .int .i64 aU, .int .i64 aV, .int .i64 aW, .int .i64 aX, .int .i64 bH, .slice aL aH.length aM]) (t := 103) BX ?_; intro bJ hg nT aE hb; have aA := am (aE); have aJ := am (GH HB hg); have aD := aJ; replace HB := bl (KL HB) hb; clear hb aE hg) | ((with_reducible refine gate_dst (N := 3) rfl ?_); refine box_event rfl (N := 3) rfl (cs := #[.int .i64 aY, .int .i64 aZ, .string bA, .string bB, .int .i64 bC, .int .i64 bD, .int .i64 bE, .int .i64 bF, .int .i64 bG, .int .i64 bI, .slice aN aI.length aO]) (t := 103) BX ?_; intro bK hg mU aE hb; have aF := am (aE); have aK := am (GH1 HB aD.out hg); have aG := aK; replace HB := bl (K1 HB aD.out) hb; have aB := am (NL aA hg); have aC := am (NG aA hg); replace aA := am (BB aA hb); clear hb aE hg; have mV := aB.out; have mW := aC.out; have ⟨_, _, _, _, _, _, _, _, _, _, _, _⟩ := y11 mU aA.out; have ⟨_, _, _, _, _, _, _, _, _, _, _, _⟩ := y11 mU aF.out))
       go_ret
       exact ⟨ER, K2 HB aD.out aG.out⟩
     ·rw [if_neg c7] at H
      have c7b0 : (aT == bC) = false := beq_eq_false_iff_ne.mpr c7
      have c7b1 : (aT != bC) = true := bne_iff_ne.mpr c7
      obtain rfl := sj H
      go_enter Tryz.func59, Tryz.ntmps59
      go_wp2_with (first | ((with_reducible refine gate_dst (N := 2) rfl ?_); refine box_event rfl (N := 2) rfl (cs := #[.int .i64 aP, .int .i64 aQ, .string aR, .string aS, .int .i64 aT, .int .i64 aU, .int .i64 aV, .int .i64 aW, .int .i64 aX, .int .i64 bH, .slice aL aH.length aM]) (t := 103) BX ?_; intro bJ hg nU aE hb; have aA := am (aE); have aJ := am (GH HB hg); have aD := aJ; replace HB := bl (KL HB) hb; clear hb aE hg) | ((with_reducible refine gate_dst (N := 3) rfl ?_); refine box_event rfl (N := 3) rfl (cs := #[.int .i64 aY, .int .i64 aZ, .string bA, .string bB, .int .i64 bC, .int .i64 bD, .int .i64 bE, .int .i64 bF, .int .i64 bG, .int .i64 bI, .slice aN aI.length aO]) (t := 103) BX ?_; intro bK hg mX aE hb; have aF := am (aE); have aK := am (GH1 HB aD.out hg); have aG := aK; replace HB := bl (K1 HB aD.out) hb; have aB := am (NL aA hg); have aC := am (NG aA hg); replace aA := am (BB aA hb); clear hb aE hg; have mY := aB.out; have mZ := aC.out; have ⟨_, _, _, _, _, _, _, _, _, _, _, _⟩ := y11 mX aA.out; have ⟨_, _, _, _, _, _, _, _, _, _, _, _⟩ := y11 mX aF.out))
      go_ret
      exact ⟨ER, K2 HB aD.out aG.out⟩
    ·rw [if_neg c6] at H
     have c6b0 : (aS.toList == bB.toList) = false := beq_eq_false_iff_ne.mpr c6
     have c6b1 : (aS.toList != bB.toList) = true := bne_iff_ne.mpr c6
     obtain rfl := sj H
     go_enter Tryz.func59, Tryz.ntmps59
     go_wp2_with (first | ((with_reducible refine gate_dst (N := 2) rfl ?_); refine box_event rfl (N := 2) rfl (cs := #[.int .i64 aP, .int .i64 aQ, .string aR, .string aS, .int .i64 aT, .int .i64 aU, .int .i64 aV, .int .i64 aW, .int .i64 aX, .int .i64 bH, .slice aL aH.length aM]) (t := 103) BX ?_; intro bJ hg nV aE hb; have aA := am (aE); have aJ := am (GH HB hg); have aD := aJ; replace HB := bl (KL HB) hb; clear hb aE hg) | ((with_reducible refine gate_dst (N := 3) rfl ?_); refine box_event rfl (N := 3) rfl (cs := #[.int .i64 aY, .int .i64 aZ, .string bA, .string bB, .int .i64 bC, .int .i64 bD, .int .i64 bE, .int .i64 bF, .int .i64 bG, .int .i64 bI, .slice aN aI.length aO]) (t := 103) BX ?_; intro bK hg nA aE hb; have aF := am (aE); have aK := am (GH1 HB aD.out hg); have aG := aK; replace HB := bl (K1 HB aD.out) hb; have aB := am (NL aA hg); have aC := am (NG aA hg); replace aA := am (BB aA hb); clear hb aE hg; have nB := aB.out; have nC := aC.out; have ⟨_, _, _, _, _, _, _, _, _, _, _, _⟩ := y11 nA aA.out; have ⟨_, _, _, _, _, _, _, _, _, _, _, _⟩ := y11 nA aF.out))
     go_ret
     exact ⟨ER, K2 HB aD.out aG.out⟩
   ·rw [if_neg c5] at H
    have c5b0 : (aR.toList == bA.toList) = false := beq_eq_false_iff_ne.mpr c5
    have c5b1 : (aR.toList != bA.toList) = true := bne_iff_ne.mpr c5
    obtain rfl := sj H
    go_enter Tryz.func59, Tryz.ntmps59
    go_wp2_with (first | ((with_reducible refine gate_dst (N := 2) rfl ?_); refine box_event rfl (N := 2) rfl (cs := #[.int .i64 aP, .int .i64 aQ, .string aR, .string aS, .int .i64 aT, .int .i64 aU, .int .i64 aV, .int .i64 aW, .int .i64 aX, .int .i64 bH, .slice aL aH.length aM]) (t := 103) BX ?_; intro bJ hg nW aE hb; have aA := am (aE); have aJ := am (GH HB hg); have aD := aJ; replace HB := bl (KL HB) hb; clear hb aE hg) | ((with_reducible refine gate_dst (N := 3) rfl ?_); refine box_event rfl (N := 3) rfl (cs := #[.int .i64 aY, .int .i64 aZ, .string bA, .string bB, .int .i64 bC, .int .i64 bD, .int .i64 bE, .int .i64 bF, .int .i64 bG, .int .i64 bI, .slice aN aI.length aO]) (t := 103) BX ?_; intro bK hg nD aE hb; have aF := am (aE); have aK := am (GH1 HB aD.out hg); have aG := aK; replace HB := bl (K1 HB aD.out) hb; have aB := am (NL aA hg); have aC := am (NG aA hg); replace aA := am (BB aA hb); clear hb aE hg; have nE := aB.out; have nF := aC.out; have ⟨_, _, _, _, _, _, _, _, _, _, _, _⟩ := y11 nD aA.out; have ⟨_, _, _, _, _, _, _, _, _, _, _, _⟩ := y11 nD aF.out))
    go_ret
    exact ⟨ER, K2 HB aD.out aG.out⟩
  ·rw [if_neg c4] at H
   have c4b0 : (aQ == aZ) = false := beq_eq_false_iff_ne.mpr c4
   have c4b1 : (aQ != aZ) = true := bne_iff_ne.mpr c4
   obtain rfl := sj H
   go_enter Tryz.func59, Tryz.ntmps59
   go_wp2_with (first | ((with_reducible refine gate_dst (N := 2) rfl ?_); refine box_event rfl (N := 2) rfl (cs := #[.int .i64 aP, .int .i64 aQ, .string aR, .string aS, .int .i64 aT, .int .i64 aU, .int .i64 aV, .int .i64 aW, .int .i64 aX, .int .i64 bH, .slice aL aH.length aM]) (t := 103) BX ?_; intro bJ hg nX aE hb; have aA := am (aE); have aJ := am (GH HB hg); have aD := aJ; replace HB := bl (KL HB) hb; clear hb aE hg) | ((with_reducible refine gate_dst (N := 3) rfl ?_); refine box_event rfl (N := 3) rfl (cs := #[.int .i64 aY, .int .i64 aZ, .string bA, .string bB, .int .i64 bC, .int .i64 bD, .int .i64 bE, .int .i64 bF, .int .i64 bG, .int .i64 bI, .slice aN aI.length aO]) (t := 103) BX ?_; intro bK hg nG aE hb; have aF := am (aE); have aK := am (GH1 HB aD.out hg); have aG := aK; replace HB := bl (K1 HB aD.out) hb; have aB := am (NL aA hg); have aC := am (NG aA hg); replace aA := am (BB aA hb); clear hb aE hg; have nH := aB.out; have nI := aC.out; have ⟨_, _, _, _, _, _, _, _, _, _, _, _⟩ := y11 nG aA.out; have ⟨_, _, _, _, _, _, _, _, _, _, _, _⟩ := y11 nG aF.out))
   go_ret
   exact ⟨ER, K2 HB aD.out aG.out⟩
 ·rw [if_neg c3] at H
  have c3b0 : (aP == aY) = false := beq_eq_false_iff_ne.mpr c3
  have c3b1 : (aP != aY) = true := bne_iff_ne.mpr c3
  obtain rfl := sj H
  go_enter Tryz.func59, Tryz.ntmps59
  go_wp2_with (first | ((with_reducible refine gate_dst (N := 2) rfl ?_); refine box_event rfl (N := 2) rfl (cs := #[.int .i64 aP, .int .i64 aQ, .string aR, .string aS, .int .i64 aT, .int .i64 aU, .int .i64 aV, .int .i64 aW, .int .i64 aX, .int .i64 bH, .slice aL aH.length aM]) (t := 103) BX ?_; intro bJ hg nY aE hb; have aA := am (aE); have aJ := am (GH HB hg); have aD := aJ; replace HB := bl (KL HB) hb; clear hb aE hg) | ((with_reducible refine gate_dst (N := 3) rfl ?_); refine box_event rfl (N := 3) rfl (cs := #[.int .i64 aY, .int .i64 aZ, .string bA, .string bB, .int .i64 bC, .int .i64 bD, .int .i64 bE, .int .i64 bF, .int .i64 bG, .int .i64 bI, .slice aN aI.length aO]) (t := 103) BX ?_; intro bK hg nJ aE hb; have aF := am (aE); have aK := am (GH1 HB aD.out hg); have aG := aK; replace HB := bl (K1 HB aD.out) hb; have aB := am (NL aA hg); have aC := am (NG aA hg); replace aA := am (BB aA hb); clear hb aE hg; have nK := aB.out; have nL := aC.out; have ⟨_, _, _, _, _, _, _, _, _, _, _, _⟩ := y11 nJ aA.out; have ⟨_, _, _, _, _, _, _, _, _, _, _, _⟩ := y11 nJ aF.out))
  go_ret
  exact ⟨ER, K2 HB aD.out aG.out⟩
def laws_eqSaS.l0 : Nat → List (S103) → List (S103) → Int → Option (Bool)
 | 0, _, _, _ => none
 | k + 1, x0, x1, x5 => if x5 < (x0.length : Int) then (if 0 ≤ x5 then (if x5 < (x1.length : Int) then ((laws_eqSa.f k ((rd_T103 x0 x5).f0) ((rd_T103 x0 x5).f1) ((rd_T103 x0 x5).f2) ((rd_T103 x0 x5).f3) ((rd_T103 x0 x5).f4) ((rd_T103 x0 x5).f5) ((rd_T103 x0 x5).f6) ((rd_T103 x0 x5).f7) ((rd_T103 x0 x5).f8) ((rd_T103 x0 x5).f9.f0) ((rd_T103 x0 x5).f9.f1) ((rd_T103 x1 x5).f0) ((rd_T103 x1 x5).f1) ((rd_T103 x1 x5).f2) ((rd_T103 x1 x5).f3) ((rd_T103 x1 x5).f4) ((rd_T103 x1 x5).f5) ((rd_T103 x1 x5).f6) ((rd_T103 x1 x5).f7) ((rd_T103 x1 x5).f8) ((rd_T103 x1 x5).f9.f0) ((rd_T103 x1 x5).f9.f1)).bind fun t103 => (if t103 = true then (laws_eqSaS.l0 k x0 x1 (wrap64 (x5 + 1))) else (some false))) else (none)) else (none)) else (some true)
def laws_eqSaS.f (k : Nat) (l0 : List (S103)) (l1 : List (S103)) : Option (Bool) := if (l0.length : Int) = (l1.length : Int) then (laws_eqSaS.l0 k l0 l1 0) else (some false)
def laws_eqSaS.T6 : Bool × List (List Nat × List Nat) := (true, [([], []), ([], []), ([0, 1], [0, 1]), ([2], [2]), ([], []), ([], []), ([4, 5], [4, 5]), ([6], [6]), ([3, 7], [3, 7]), ([8], [8])])
def laws_eqSaS.B6 : List Nat := [0, 0, 3, 7, 0, 0, 48, 112, 255, 511]
theorem laws_eqSaS.tab6 : rtab .any (opsOf Tryz.f38 6) = laws_eqSaS.T6 := by kernel_rfl
theorem laws_eqSaS.bits6 : waitsOk laws_eqSaS.T6.2 laws_eqSaS.B6 = true := by kernel_rfl
theorem laws_eqSaS.calls (k : Nat) (A0 : Option Addr) (c0 : Nat) (l0 : List (S103)) (A1 : Option Addr) (c1 : Nat) (l1 : List (S103)) (r : Bool) (w : World) (cR : Kd.C k103 w A0 l0.length l0) (cS : l0.length ≤ c0) (cT : Kd.C k103 w A1 l1.length l1) (cU : l1.length ≤ c1) (h : laws_eqSaS.f k l0 l1 = some r) :
  Calls Tryz.prog 38 #[.slice A0 l0.length c0, .slice A1 l1.length c1] w fun e w' => e = .returned (.bool r) ∧ Below w.heap.size w w' := by
 have cV := Tryz.underlying103
 have cW := Aside0.mk cR
 have cZ := Aside0.mk cS
 clear cR cS
 have cX := Aside0.mk cT
 have dA := Aside0.mk cU
 clear cT cU
 have HB := am (Below.refl w.heap.size w)
 have H : (if (l0.length : Int) = (l1.length : Int) then (laws_eqSaS.l0 k l0 l1 0) else (some false)) = some r := h
 clear h
 by_cases c3 : (l0.length : Int) = (l1.length : Int)
 ·rw [if_pos c3] at H
  have c3b0 : ((l0.length : Int) == (l1.length : Int)) = true := beq_iff_eq.mpr c3
  have c3b1 : ((l0.length : Int) != (l1.length : Int)) = false := bne_eq_false_iff_eq.mpr c3
  have c3b2 : (l0.length == l1.length) = true := by first | simpa using c3 | (simp at c3 ⊢; omega)
  clear c3
  have H' := Aside0.mk H
  clear H
  go_enter Tryz.func38, Tryz.ntmps38
  go_wp2
  go_loopg [5] k (fun kq v5 w' => ∃ (aA : Int), v5 = .int .i64 aA ∧ Aside0 (laws_eqSaS.l0 kq l0 l1 aA = some r) ∧ Aside0 (kq ≤ k) ∧ Aside0 (Below w.heap.size w w'))
  case atStart => exact ⟨(0), (by first | rfl | (simp; done) | (simp [*]; done)), H', ⟨Nat.le_refl _⟩, ⟨KL HB⟩⟩
  case round =>
   clear H'
   try clear c1
   try clear p2
   try clear c3
   try clear c3b0
   try clear c3b1
   try clear c3b2
   obtain ⟨aA, rfl, HA, HK1, HB⟩ := hrel
   cases gk with
   | zero => exact absurd HA.out (by simp [laws_eqSaS.l0])
   | succ k1 =>
    have H := HA.out
    clear HA
    simp only [laws_eqSaS.l0] at H
    by_cases c4 : aA < (l0.length : Int)
    ·rw [if_pos c4] at H
     have c4b0 : decide (aA < (l0.length : Int)) = true := decide_eq_true c4
     clear c4
     by_cases c5 : 0 ≤ aA
     ·rw [if_pos c5] at H
      have c5b0 : decide (0 ≤ aA) = true := decide_eq_true c5
      clear c5
      by_cases c6 : aA < (l1.length : Int)
      ·rw [if_pos c6] at H
       have c6b0 : decide (aA < (l1.length : Int)) = true := decide_eq_true c6
       clear c6
       replace H := bm H
       obtain ⟨cP, cY, H⟩ := H
       replace H : (if cP = true then (laws_eqSaS.l0 k1 l0 l1 (wrap64 (aA + 1))) else (some false)) = some r := H
       have A7 := Aside0.mk cY
       clear cY
       by_cases c8 : cP = true
       ·subst c8
        have H1 := pf H
        clear H
        have H := H1
        clear H1
        have H' := Aside0.mk H
        clear H
        try go_wp2
        replace HB := am (below_drew1 HB.out)
        have cJ : 0 ≤ (aA : Int) := OD
        have cK : aA < (l0.length : Int) := OD
        obtain ⟨aB, bH, bI, cN, aF, aG, aH, aI, aJ, aK, aL, aM, aN, aO, aD, aZ, bA⟩ := at_T103 cW.out aA cJ cK
        have bB := aD
        have bJ := aO
        have bK := aN
        have bL := aM
        have bM := aL
        have bN := aK
        have bO := aJ
        have bP := aI
        have bQ := aH
        have bR := aG
        have bS := aF
        cases cN
        replace aF := CX HB.out aF
        replace aG := CX HB.out aG
        replace aH := CX HB.out aH
        replace aI := CX HB.out aI
        replace aJ := CX HB.out aJ
        replace aK := CX HB.out aK
        replace aL := CX HB.out aL
        replace aM := CX HB.out aM
        replace aN := CX HB.out aN
        replace aO := CX HB.out aO
        replace aD := CX HB.out aD
        have bC := Aside0.mk bA
        have cG := Aside0.mk aZ
        clear bA aZ
        replace cJ := eq_true cJ
        replace cK := eq_true cK
        have cL : 0 ≤ (aA : Int) := OD
        have cM : aA < (l1.length : Int) := OD
        obtain ⟨aC, bT, bU, cO, aP, aQ, aR, aS, aT, aU, aV, aW, aX, aY, aE, bD, bE⟩ := at_T103 cX.out aA cL cM
        have bF := aE
        have bV := aY
        have bW := aX
        have bX := aW
        have bY := aV
        have bZ := aU
        have cA := aT
        have cB := aS
        have cC := aR
        have cD := aQ
        have cE := aP
        cases cO
        replace aP := CX HB.out aP
        replace aQ := CX HB.out aQ
        replace aR := CX HB.out aR
        replace aS := CX HB.out aS
        replace aT := CX HB.out aT
        replace aU := CX HB.out aU
        replace aV := CX HB.out aV
        replace aW := CX HB.out aW
        replace aX := CX HB.out aX
        replace aY := CX HB.out aY
        replace aE := CX HB.out aE
        have bG := Aside0.mk bE
        have cH := Aside0.mk bD
        clear bE bD
        replace cL := eq_true cL
        replace cM := eq_true cM
        refine start_ (n := 10) (S := fun w' => w'.cell? (aB.add ((aA).toNat * 11)) = some (.int .i64 ((rd_T103 l0 aA).f0)) ∧ w'.cell? ⟨(aB.add ((aA).toNat * 11)).block, (aB.add ((aA).toNat * 11)).off + 1, none⟩ = some (.int .i64 ((rd_T103 l0 aA).f1)) ∧ w'.cell? ⟨(aB.add ((aA).toNat * 11)).block, (aB.add ((aA).toNat * 11)).off + 2, none⟩ = some (.string ((rd_T103 l0 aA).f2)) ∧ w'.cell? ⟨(aB.add ((aA).toNat * 11)).block, (aB.add ((aA).toNat * 11)).off + 3, none⟩ = some (.string ((rd_T103 l0 aA).f3)) ∧ w'.cell? ⟨(aB.add ((aA).toNat * 11)).block, (aB.add ((aA).toNat * 11)).off + 4, none⟩ = some (.int .i64 ((rd_T103 l0 aA).f4)) ∧ w'.cell? ⟨(aB.add ((aA).toNat * 11)).block, (aB.add ((aA).toNat * 11)).off + 5, none⟩ = some (.int .i64 ((rd_T103 l0 aA).f5)) ∧ w'.cell? ⟨(aB.add ((aA).toNat * 11)).block, (aB.add ((aA).toNat * 11)).off + 6, none⟩ = some (.int .i64 ((rd_T103 l0 aA).f6)) ∧ w'.cell? ⟨(aB.add ((aA).toNat * 11)).block, (aB.add ((aA).toNat * 11)).off + 7, none⟩ = some (.int .i64 ((rd_T103 l0 aA).f7)) ∧ w'.cell? ⟨(aB.add ((aA).toNat * 11)).block, (aB.add ((aA).toNat * 11)).off + 8, none⟩ = some (.int .i64 ((rd_T103 l0 aA).f8)) ∧ w'.cell? ⟨(aB.add ((aA).toNat * 11)).block, (aB.add ((aA).toNat * 11)).off + 9, none⟩ = some (.int .i64 ((rd_T103 l0 aA).f9.f0)) ∧ w'.cell? ⟨(aB.add ((aA).toNat * 11)).block, (aB.add ((aA).toNat * 11)).off + 10, none⟩ = some (.slice bH ((rd_T103 l0 aA).f9.f1).length bI) ∧ w'.cell? (aC.add ((aA).toNat * 11)) = some (.int .i64 ((rd_T103 l1 aA).f0)) ∧ w'.cell? ⟨(aC.add ((aA).toNat * 11)).block, (aC.add ((aA).toNat * 11)).off + 1, none⟩ = some (.int .i64 ((rd_T103 l1 aA).f1)) ∧ w'.cell? ⟨(aC.add ((aA).toNat * 11)).block, (aC.add ((aA).toNat * 11)).off + 2, none⟩ = some (.string ((rd_T103 l1 aA).f2)) ∧ w'.cell? ⟨(aC.add ((aA).toNat * 11)).block, (aC.add ((aA).toNat * 11)).off + 3, none⟩ = some (.string ((rd_T103 l1 aA).f3)) ∧ w'.cell? ⟨(aC.add ((aA).toNat * 11)).block, (aC.add ((aA).toNat * 11)).off + 4, none⟩ = some (.int .i64 ((rd_T103 l1 aA).f4)) ∧ w'.cell? ⟨(aC.add ((aA).toNat * 11)).block, (aC.add ((aA).toNat * 11)).off + 5, none⟩ = some (.int .i64 ((rd_T103 l1 aA).f5)) ∧ w'.cell? ⟨(aC.add ((aA).toNat * 11)).block, (aC.add ((aA).toNat * 11)).off + 6, none⟩ = some (.int .i64 ((rd_T103 l1 aA).f6)) ∧ w'.cell? ⟨(aC.add ((aA).toNat * 11)).block, (aC.add ((aA).toNat * 11)).off + 7, none⟩ = some (.int .i64 ((rd_T103 l1 aA).f7)) ∧ w'.cell? ⟨(aC.add ((aA).toNat * 11)).block, (aC.add ((aA).toNat * 11)).off + 8, none⟩ = some (.int .i64 ((rd_T103 l1 aA).f8)) ∧ w'.cell? ⟨(aC.add ((aA).toNat * 11)).block, (aC.add ((aA).toNat * 11)).off + 9, none⟩ = some (.int .i64 ((rd_T103 l1 aA).f9.f0)) ∧ w'.cell? ⟨(aC.add ((aA).toNat * 11)).block, (aC.add ((aA).toNat * 11)).off + 10, none⟩ = some (.slice bT ((rd_T103 l1 aA).f9.f1).length bU)) (ds := []) (tf 0 10) (by kernel_rfl) rfl rfl ⟨(CY HB.out bS), (CY HB.out bR), (CY HB.out bQ), (CY HB.out bP), (CY HB.out bO), (CY HB.out bN), (CY HB.out bM), (CY HB.out bL), (CY HB.out bK), (CY HB.out bJ), (CY HB.out bB), (CY HB.out cE), (CY HB.out cD), (CY HB.out cC), (CY HB.out cB), (CY HB.out cA), (CY HB.out bZ), (CY HB.out bY), (CY HB.out bX), (CY HB.out bW), (CY HB.out bV), (CY HB.out bF)⟩ (fun cF => ?_); refine with_tabW laws_eqSaS.tab6 laws_eqSaS.bits6 (fun cI cQ => ?_)
        generalize wr.drew = w9 at HB bC bG aF aG aD aH aI aJ aK aL aM aN aO aP aQ aE aR aS aT aU aV aW aX aY cF ⊢
        refine pv cI 0 17 (tf 1 9) ?_
        refine pv cI 1 18 (tf 2 8) ?_
        refine pv cI 2 19 (tf 3 7) ?_
        refine pv cI 4 21 (tr [3, 1, 1, 5]) ?_
        refine pv cI 5 22 (tr [3, 1, 2, 4]) ?_
        refine pv cI 6 23 (tr [3, 1, 3, 3]) ?_
        refine tk 3 (some 20) (tf 7 3) (take_ofW cI.out cQ.out (by kernel_rfl)) cF ?_
        refine tk 7 (some 24) (tf 8 2) (take_ofW cI.out cQ.out (by kernel_rfl)) cF ?_
        refine one_ (i := 8) (N := some 25) (tf 9 1) rfl rfl (one_of cI.out (by kernel_rfl)) (by decide) (fun K hK => ?_)
        refine goes_ Tryz.func59 (by kernel_rfl) rfl #[.agg #[.int .i64 ((rd_T103 l0 aA).f0), .int .i64 ((rd_T103 l0 aA).f1), .string ((rd_T103 l0 aA).f2), .string ((rd_T103 l0 aA).f3), .int .i64 ((rd_T103 l0 aA).f4), .int .i64 ((rd_T103 l0 aA).f5), .int .i64 ((rd_T103 l0 aA).f6), .int .i64 ((rd_T103 l0 aA).f7), .int .i64 ((rd_T103 l0 aA).f8), .int .i64 ((rd_T103 l0 aA).f9.f0), .slice bH ((rd_T103 l0 aA).f9.f1).length bI], .agg #[.int .i64 ((rd_T103 l1 aA).f0), .int .i64 ((rd_T103 l1 aA).f1), .string ((rd_T103 l1 aA).f2), .string ((rd_T103 l1 aA).f3), .int .i64 ((rd_T103 l1 aA).f4), .int .i64 ((rd_T103 l1 aA).f5), .int .i64 ((rd_T103 l1 aA).f6), .int .i64 ((rd_T103 l1 aA).f7), .int .i64 ((rd_T103 l1 aA).f8), .int .i64 ((rd_T103 l1 aA).f9.f0), .slice bT ((rd_T103 l1 aA).f9.f1).length bU]] (by rfl) rfl rfl MT ?_
        with_reducible refine (laws_eqSa.calls k1 ((rd_T103 l0 aA).f0) ((rd_T103 l0 aA).f1) ((rd_T103 l0 aA).f2) ((rd_T103 l0 aA).f3) ((rd_T103 l0 aA).f4) ((rd_T103 l0 aA).f5) ((rd_T103 l0 aA).f6) ((rd_T103 l0 aA).f7) ((rd_T103 l0 aA).f8) ((rd_T103 l0 aA).f9.f0) _ _ ((rd_T103 l0 aA).f9.f1) ((rd_T103 l1 aA).f0) ((rd_T103 l1 aA).f1) ((rd_T103 l1 aA).f2) ((rd_T103 l1 aA).f3) ((rd_T103 l1 aA).f4) ((rd_T103 l1 aA).f5) ((rd_T103 l1 aA).f6) ((rd_T103 l1 aA).f7) ((rd_T103 l1 aA).f8) ((rd_T103 l1 aA).f9.f0) _ _ ((rd_T103 l1 aA).f9.f1) true _ ?_ ?_ ?_ ?_ A7.out).mono ?_
        exact KD bC HB
        exact cG.out
        exact KD bG HB
        exact cH.out
        rintro e dB ⟨rfl, hb⟩
        refine ⟨_, rfl, ?_⟩
        replace HB := bl (KL HB) hb
        (try clear hb)
        (try clear hb2)
        (try clear hk)
        (try clear hi)
        refine hK.out _ _ ⟨(CY HB.out bS), (CY HB.out bR), (CY HB.out bQ), (CY HB.out bP), (CY HB.out bO), (CY HB.out bN), (CY HB.out bM), (CY HB.out bL), (CY HB.out bK), (CY HB.out bJ), (CY HB.out bB), (CY HB.out cE), (CY HB.out cD), (CY HB.out cC), (CY HB.out cB), (CY HB.out cA), (CY HB.out bZ), (CY HB.out bY), (CY HB.out bX), (CY HB.out bW), (CY HB.out bV), (CY HB.out bF)⟩ (fun cF => ?_)
        clear hK K
        refine nm (some 25) ?_
        refine pv cI 9 26 (tf 10 0) ?_
        refine done_ (done_of cI.out (by kernel_rfl)) ?_
        try go_wp2
        go_roundg k1
        case measure => have := HK1.out; omega
        case rel => exact ⟨(wrap64 (aA + 1)), (by first | rfl | (simp; done) | (simp [*]; done)), H', ⟨by have := HK1.out; omega⟩, ⟨KL HB⟩⟩
       ·replace c8 := Bool.eq_false_iff.mpr c8
        subst c8
        have H1 := nf H
        clear H
        have H := H1
        clear H1
        obtain rfl := sj H
        try go_wp2
        replace HB := am (below_drew1 HB.out)
        have cJ : 0 ≤ (aA : Int) := OD
        have cK : aA < (l0.length : Int) := OD
        obtain ⟨aB, bH, bI, cN, aF, aG, aH, aI, aJ, aK, aL, aM, aN, aO, aD, aZ, bA⟩ := at_T103 cW.out aA cJ cK
        have bB := aD
        have bJ := aO
        have bK := aN
        have bL := aM
        have bM := aL
        have bN := aK
        have bO := aJ
        have bP := aI
        have bQ := aH
        have bR := aG
        have bS := aF
        cases cN
        replace aF := CX HB.out aF
        replace aG := CX HB.out aG
        replace aH := CX HB.out aH
        replace aI := CX HB.out aI
        replace aJ := CX HB.out aJ
        replace aK := CX HB.out aK
        replace aL := CX HB.out aL
        replace aM := CX HB.out aM
        replace aN := CX HB.out aN
        replace aO := CX HB.out aO
        replace aD := CX HB.out aD
        have bC := Aside0.mk bA
        have cG := Aside0.mk aZ
        clear bA aZ
        replace cJ := eq_true cJ
        replace cK := eq_true cK
        have cL : 0 ≤ (aA : Int) := OD
        have cM : aA < (l1.length : Int) := OD
        obtain ⟨aC, bT, bU, cO, aP, aQ, aR, aS, aT, aU, aV, aW, aX, aY, aE, bD, bE⟩ := at_T103 cX.out aA cL cM
        have bF := aE
        have bV := aY
        have bW := aX
        have bX := aW
        have bY := aV
        have bZ := aU
        have cA := aT
        have cB := aS
        have cC := aR
        have cD := aQ
        have cE := aP
        cases cO
        replace aP := CX HB.out aP
        replace aQ := CX HB.out aQ
        replace aR := CX HB.out aR
        replace aS := CX HB.out aS
        replace aT := CX HB.out aT
        replace aU := CX HB.out aU
        replace aV := CX HB.out aV
        replace aW := CX HB.out aW
        replace aX := CX HB.out aX
        replace aY := CX HB.out aY
        replace aE := CX HB.out aE
        have bG := Aside0.mk bE
        have cH := Aside0.mk bD
        clear bE bD
        replace cL := eq_true cL
        replace cM := eq_true cM
        refine start_ (n := 10) (S := fun w' => w'.cell? (aB.add ((aA).toNat * 11)) = some (.int .i64 ((rd_T103 l0 aA).f0)) ∧ w'.cell? ⟨(aB.add ((aA).toNat * 11)).block, (aB.add ((aA).toNat * 11)).off + 1, none⟩ = some (.int .i64 ((rd_T103 l0 aA).f1)) ∧ w'.cell? ⟨(aB.add ((aA).toNat * 11)).block, (aB.add ((aA).toNat * 11)).off + 2, none⟩ = some (.string ((rd_T103 l0 aA).f2)) ∧ w'.cell? ⟨(aB.add ((aA).toNat * 11)).block, (aB.add ((aA).toNat * 11)).off + 3, none⟩ = some (.string ((rd_T103 l0 aA).f3)) ∧ w'.cell? ⟨(aB.add ((aA).toNat * 11)).block, (aB.add ((aA).toNat * 11)).off + 4, none⟩ = some (.int .i64 ((rd_T103 l0 aA).f4)) ∧ w'.cell? ⟨(aB.add ((aA).toNat * 11)).block, (aB.add ((aA).toNat * 11)).off + 5, none⟩ = some (.int .i64 ((rd_T103 l0 aA).f5)) ∧ w'.cell? ⟨(aB.add ((aA).toNat * 11)).block, (aB.add ((aA).toNat * 11)).off + 6, none⟩ = some (.int .i64 ((rd_T103 l0 aA).f6)) ∧ w'.cell? ⟨(aB.add ((aA).toNat * 11)).block, (aB.add ((aA).toNat * 11)).off + 7, none⟩ = some (.int .i64 ((rd_T103 l0 aA).f7)) ∧ w'.cell? ⟨(aB.add ((aA).toNat * 11)).block, (aB.add ((aA).toNat * 11)).off + 8, none⟩ = some (.int .i64 ((rd_T103 l0 aA).f8)) ∧ w'.cell? ⟨(aB.add ((aA).toNat * 11)).block, (aB.add ((aA).toNat * 11)).off + 9, none⟩ = some (.int .i64 ((rd_T103 l0 aA).f9.f0)) ∧ w'.cell? ⟨(aB.add ((aA).toNat * 11)).block, (aB.add ((aA).toNat * 11)).off + 10, none⟩ = some (.slice bH ((rd_T103 l0 aA).f9.f1).length bI) ∧ w'.cell? (aC.add ((aA).toNat * 11)) = some (.int .i64 ((rd_T103 l1 aA).f0)) ∧ w'.cell? ⟨(aC.add ((aA).toNat * 11)).block, (aC.add ((aA).toNat * 11)).off + 1, none⟩ = some (.int .i64 ((rd_T103 l1 aA).f1)) ∧ w'.cell? ⟨(aC.add ((aA).toNat * 11)).block, (aC.add ((aA).toNat * 11)).off + 2, none⟩ = some (.string ((rd_T103 l1 aA).f2)) ∧ w'.cell? ⟨(aC.add ((aA).toNat * 11)).block, (aC.add ((aA).toNat * 11)).off + 3, none⟩ = some (.string ((rd_T103 l1 aA).f3)) ∧ w'.cell? ⟨(aC.add ((aA).toNat * 11)).block, (aC.add ((aA).toNat * 11)).off + 4, none⟩ = some (.int .i64 ((rd_T103 l1 aA).f4)) ∧ w'.cell? ⟨(aC.add ((aA).toNat * 11)).block, (aC.add ((aA).toNat * 11)).off + 5, none⟩ = some (.int .i64 ((rd_T103 l1 aA).f5)) ∧ w'.cell? ⟨(aC.add ((aA).toNat * 11)).block, (aC.add ((aA).toNat * 11)).off + 6, none⟩ = some (.int .i64 ((rd_T103 l1 aA).f6)) ∧ w'.cell? ⟨(aC.add ((aA).toNat * 11)).block, (aC.add ((aA).toNat * 11)).off + 7, none⟩ = some (.int .i64 ((rd_T103 l1 aA).f7)) ∧ w'.cell? ⟨(aC.add ((aA).toNat * 11)).block, (aC.add ((aA).toNat * 11)).off + 8, none⟩ = some (.int .i64 ((rd_T103 l1 aA).f8)) ∧ w'.cell? ⟨(aC.add ((aA).toNat * 11)).block, (aC.add ((aA).toNat * 11)).off + 9, none⟩ = some (.int .i64 ((rd_T103 l1 aA).f9.f0)) ∧ w'.cell? ⟨(aC.add ((aA).toNat * 11)).block, (aC.add ((aA).toNat * 11)).off + 10, none⟩ = some (.slice bT ((rd_T103 l1 aA).f9.f1).length bU)) (ds := []) (tf 0 10) (by kernel_rfl) rfl rfl ⟨(CY HB.out bS), (CY HB.out bR), (CY HB.out bQ), (CY HB.out bP), (CY HB.out bO), (CY HB.out bN), (CY HB.out bM), (CY HB.out bL), (CY HB.out bK), (CY HB.out bJ), (CY HB.out bB), (CY HB.out cE), (CY HB.out cD), (CY HB.out cC), (CY HB.out cB), (CY HB.out cA), (CY HB.out bZ), (CY HB.out bY), (CY HB.out bX), (CY HB.out bW), (CY HB.out bV), (CY HB.out bF)⟩ (fun cF => ?_); refine with_tabW laws_eqSaS.tab6 laws_eqSaS.bits6 (fun cI cQ => ?_)
        generalize wr.drew = dC at HB bC bG aF aG aD aH aI aJ aK aL aM aN aO aP aQ aE aR aS aT aU aV aW aX aY cF ⊢
        refine pv cI 0 17 (tf 1 9) ?_
        refine pv cI 1 18 (tf 2 8) ?_
        refine pv cI 2 19 (tf 3 7) ?_
        refine pv cI 4 21 (tr [3, 1, 1, 5]) ?_
        refine pv cI 5 22 (tr [3, 1, 2, 4]) ?_
        refine pv cI 6 23 (tr [3, 1, 3, 3]) ?_
        refine tk 3 (some 20) (tf 7 3) (take_ofW cI.out cQ.out (by kernel_rfl)) cF ?_
        refine tk 7 (some 24) (tf 8 2) (take_ofW cI.out cQ.out (by kernel_rfl)) cF ?_
        refine one_ (i := 8) (N := some 25) (tf 9 1) rfl rfl (one_of cI.out (by kernel_rfl)) (by decide) (fun K hK => ?_)
        refine goes_ Tryz.func59 (by kernel_rfl) rfl #[.agg #[.int .i64 ((rd_T103 l0 aA).f0), .int .i64 ((rd_T103 l0 aA).f1), .string ((rd_T103 l0 aA).f2), .string ((rd_T103 l0 aA).f3), .int .i64 ((rd_T103 l0 aA).f4), .int .i64 ((rd_T103 l0 aA).f5), .int .i64 ((rd_T103 l0 aA).f6), .int .i64 ((rd_T103 l0 aA).f7), .int .i64 ((rd_T103 l0 aA).f8), .int .i64 ((rd_T103 l0 aA).f9.f0), .slice bH ((rd_T103 l0 aA).f9.f1).length bI], .agg #[.int .i64 ((rd_T103 l1 aA).f0), .int .i64 ((rd_T103 l1 aA).f1), .string ((rd_T103 l1 aA).f2), .string ((rd_T103 l1 aA).f3), .int .i64 ((rd_T103 l1 aA).f4), .int .i64 ((rd_T103 l1 aA).f5), .int .i64 ((rd_T103 l1 aA).f6), .int .i64 ((rd_T103 l1 aA).f7), .int .i64 ((rd_T103 l1 aA).f8), .int .i64 ((rd_T103 l1 aA).f9.f0), .slice bT ((rd_T103 l1 aA).f9.f1).length bU]] (by rfl) rfl rfl MT ?_
        with_reducible refine (laws_eqSa.calls k1 ((rd_T103 l0 aA).f0) ((rd_T103 l0 aA).f1) ((rd_T103 l0 aA).f2) ((rd_T103 l0 aA).f3) ((rd_T103 l0 aA).f4) ((rd_T103 l0 aA).f5) ((rd_T103 l0 aA).f6) ((rd_T103 l0 aA).f7) ((rd_T103 l0 aA).f8) ((rd_T103 l0 aA).f9.f0) _ _ ((rd_T103 l0 aA).f9.f1) ((rd_T103 l1 aA).f0) ((rd_T103 l1 aA).f1) ((rd_T103 l1 aA).f2) ((rd_T103 l1 aA).f3) ((rd_T103 l1 aA).f4) ((rd_T103 l1 aA).f5) ((rd_T103 l1 aA).f6) ((rd_T103 l1 aA).f7) ((rd_T103 l1 aA).f8) ((rd_T103 l1 aA).f9.f0) _ _ ((rd_T103 l1 aA).f9.f1) false _ ?_ ?_ ?_ ?_ A7.out).mono ?_
        exact KD bC HB
        exact cG.out
        exact KD bG HB
        exact cH.out
        rintro e dD ⟨rfl, hb⟩
        refine ⟨_, rfl, ?_⟩
        replace HB := bl (KL HB) hb
        (try clear hb)
        (try clear hb2)
        (try clear hk)
        (try clear hi)
        refine hK.out _ _ ⟨(CY HB.out bS), (CY HB.out bR), (CY HB.out bQ), (CY HB.out bP), (CY HB.out bO), (CY HB.out bN), (CY HB.out bM), (CY HB.out bL), (CY HB.out bK), (CY HB.out bJ), (CY HB.out bB), (CY HB.out cE), (CY HB.out cD), (CY HB.out cC), (CY HB.out cB), (CY HB.out cA), (CY HB.out bZ), (CY HB.out bY), (CY HB.out bX), (CY HB.out bW), (CY HB.out bV), (CY HB.out bF)⟩ (fun cF => ?_)
        clear hK K
        refine nm (some 25) ?_
        refine pv cI 9 26 (tf 10 0) ?_
        refine done_ (done_of cI.out (by kernel_rfl)) ?_
        try go_wp2
        go_ret
        exact ⟨ER, KL HB⟩
      ·rw [if_neg c6] at H
       exact absurd H (by simp)
     ·rw [if_neg c5] at H
      exact absurd H (by simp)
    ·rw [if_neg c4] at H
     have c4b0 : decide (aA < (l0.length : Int)) = false := decide_eq_false c4
     clear c4
     obtain rfl := sj H
     go_wp2
     go_ret
     exact ⟨ER, KL HB⟩
 ·rw [if_neg c3] at H
  have c3b0 : ((l0.length : Int) == (l1.length : Int)) = false := beq_eq_false_iff_ne.mpr c3
  have c3b1 : ((l0.length : Int) != (l1.length : Int)) = true := bne_iff_ne.mpr c3
  have c3b2 : (l0.length == l1.length) = false := by first | simpa using c3 | (simp at c3 ⊢; omega)
  obtain rfl := sj H
  go_enter Tryz.func38, Tryz.ntmps38
  go_wp2
  go_ret
  exact ⟨ER, KL HB⟩
def laws_eqAir.f (a0_0 : ByteArray) (a0_1 : Bool) (a1_0 : ByteArray) (a1_1 : Bool) : Option (Bool) := if a0_0.toList = a1_0.toList then (if (a0_1 != a1_1) = true then (some false) else (some true)) else (some false)
theorem laws_eqAir.calls (aH : ByteArray) (aF : Bool) (aI : ByteArray) (aG : Bool) (r : Bool) (w : World) (h : laws_eqAir.f aH aF aI aG = some r) :
  Calls Tryz.prog 39 #[.agg #[.string aH, .bool aF], .agg #[.string aI, .bool aG]] w fun e w' => e = .returned (.bool r) ∧ Below w.heap.size w w' := by
 have bN := Tryz.underlying76
 have HB := am (Below.refl w.heap.size w)
 have H : (if aH.toList = aI.toList then (if (aF != aG) = true then (some false) else (some true)) else (some false)) = some r := h
 clear h
 by_cases c3 : aH.toList = aI.toList
 ·rw [if_pos c3] at H
  have c3b0 : (aH.toList == aI.toList) = true := beq_iff_eq.mpr c3
  have c3b1 : (aH.toList != aI.toList) = false := bne_eq_false_iff_eq.mpr c3
  clear c3
  by_cases c4 : (aF != aG) = true
  ·rw [if_pos c4] at H
   have c4b0 : (aF != aG) = true := c4
   (try (have c4b1 : decide (aF = aG) = false := by simpa using c4))
   (try (have c4b2 : (aF == aG) = false := by simpa using c4))
   (try (have c4b3 : ¬ (aF = aG) := by simpa using c4))
   clear c4
   obtain rfl := sj H
   go_enter Tryz.func39, Tryz.ntmps39
   go_wp2_with (first | ((with_reducible refine gate_dst (N := 2) rfl ?_); refine box_event rfl (N := 2) rfl (cs := #[.string aH, .bool aF]) (t := 76) BX ?_; intro aN hg w5 aD hb; have aA := am (aD); have aJ := am (GH HB hg); have aE := aJ; replace HB := bl (KL HB) hb; clear hb aD hg) | ((with_reducible refine gate_dst (N := 3) rfl ?_); refine box_event rfl (N := 3) rfl (cs := #[.string aI, .bool aG]) (t := 76) BX ?_; intro aO hg w6 aD hb; have aK := am (aD); have aL := am (GH1 HB aE.out hg); have aM := aL; replace HB := bl (K1 HB aE.out) hb; have aB := am (NL aA hg); have aC := am (NG aA hg); replace aA := am (BB aA hb); clear hb aD hg; have bO := aB.out; have bP := aC.out; have ⟨_, _, _⟩ := y2 w6 aA.out; have ⟨_, _, _⟩ := y2 w6 aK.out))
   go_ret
   exact ⟨ER, K2 HB aE.out aM.out⟩
  ·rw [if_neg c4] at H
   have c4b0 : (aF != aG) = false := by simpa using c4
   (try (have c4b1 : decide (aF = aG) = true := by simpa using c4))
   (try (have c4b2 : (aF == aG) = true := by simpa using c4))
   clear c4
   obtain rfl := sj H
   go_enter Tryz.func39, Tryz.ntmps39
   go_wp2_with (first | ((with_reducible refine gate_dst (N := 2) rfl ?_); refine box_event rfl (N := 2) rfl (cs := #[.string aH, .bool aF]) (t := 76) BX ?_; intro aN hg bQ aD hb; have aA := am (aD); have aJ := am (GH HB hg); have aE := aJ; replace HB := bl (KL HB) hb; clear hb aD hg) | ((with_reducible refine gate_dst (N := 3) rfl ?_); refine box_event rfl (N := 3) rfl (cs := #[.string aI, .bool aG]) (t := 76) BX ?_; intro aO hg bH aD hb; have aK := am (aD); have aL := am (GH1 HB aE.out hg); have aM := aL; replace HB := bl (K1 HB aE.out) hb; have aB := am (NL aA hg); have aC := am (NG aA hg); replace aA := am (BB aA hb); clear hb aD hg; have bI := aB.out; have bJ := aC.out; have ⟨_, _, _⟩ := y2 bH aA.out; have ⟨_, _, _⟩ := y2 bH aK.out))
   go_ret
   exact ⟨ER, K2 HB aE.out aM.out⟩
 ·rw [if_neg c3] at H
  have c3b0 : (aH.toList == aI.toList) = false := beq_eq_false_iff_ne.mpr c3
  have c3b1 : (aH.toList != aI.toList) = true := bne_iff_ne.mpr c3
  obtain rfl := sj H
  go_enter Tryz.func39, Tryz.ntmps39
  go_wp2_with (first | ((with_reducible refine gate_dst (N := 2) rfl ?_); refine box_event rfl (N := 2) rfl (cs := #[.string aH, .bool aF]) (t := 76) BX ?_; intro aN hg bR aD hb; have aA := am (aD); have aJ := am (GH HB hg); have aE := aJ; replace HB := bl (KL HB) hb; clear hb aD hg) | ((with_reducible refine gate_dst (N := 3) rfl ?_); refine box_event rfl (N := 3) rfl (cs := #[.string aI, .bool aG]) (t := 76) BX ?_; intro aO hg bK aD hb; have aK := am (aD); have aL := am (GH1 HB aE.out hg); have aM := aL; replace HB := bl (K1 HB aE.out) hb; have aB := am (NL aA hg); have aC := am (NG aA hg); replace aA := am (BB aA hb); clear hb aD hg; have bL := aB.out; have bM := aC.out; have ⟨_, _, _⟩ := y2 bK aA.out; have ⟨_, _, _⟩ := y2 bK aK.out))
  go_ret
  exact ⟨ER, K2 HB aE.out aM.out⟩
def laws_szAir.f (a0_0 : ByteArray) (a0_1 : Bool) (a1 : Int) : Option (Int) := if (wrap64 (a1 - (a0_0.size : Int))) < 0 then (some (-1)) else (some (wrap64 (a1 - (a0_0.size : Int))))
theorem laws_szAir.calls (aA : ByteArray) (aF : Bool) (a1 : Int) (r : Int) (w : World) (h : laws_szAir.f aA aF a1 = some r) :
  Calls Tryz.prog 24 #[.agg #[.string aA, .bool aF], .int .i64 a1] w fun e w' => e = .returned (.int .i64 r) ∧ Below w.heap.size w w' := by
 have aN := Tryz.underlying70
 have HB := am (Below.refl w.heap.size w)
 have H : (if (wrap64 (a1 - (aA.size : Int))) < 0 then (some (-1)) else (some (wrap64 (a1 - (aA.size : Int))))) = some r := h
 clear h
 by_cases c3 : (wrap64 (a1 - (aA.size : Int))) < 0
 ·rw [if_pos c3] at H
  have c3b0 : decide ((wrap64 (a1 - (aA.size : Int))) < 0) = true := decide_eq_true c3
  clear c3
  obtain rfl := sj H
  go_enter Tryz.func24, Tryz.ntmps24
  go_wp2_with (first | ((with_reducible refine gate_dst (N := 2) rfl ?_); refine box_event rfl (N := 2) rfl (cs := #[.string aA, .bool aF]) (t := 70) BX ?_; intro aG hg w4 aB hb; have aC := am (aB); have aD := am (GH HB hg); have aE := aD; replace HB := bl (KL HB) hb; clear hb aB hg; have ⟨_, _, _⟩ := y2 w4 aC.out))
  go_ret
  exact ⟨ER, K1 HB aE.out⟩
 ·rw [if_neg c3] at H
  have c3b0 : decide ((wrap64 (a1 - (aA.size : Int))) < 0) = false := decide_eq_false c3
  clear c3
  obtain rfl := sj H
  go_enter Tryz.func24, Tryz.ntmps24
  go_wp2_with (first | ((with_reducible refine gate_dst (N := 2) rfl ?_); refine box_event rfl (N := 2) rfl (cs := #[.string aA, .bool aF]) (t := 70) BX ?_; intro aG hg w6 aB hb; have aC := am (aB); have aD := am (GH HB hg); have aE := aD; replace HB := bl (KL HB) hb; clear hb aB hg; have ⟨_, _, _⟩ := y2 w6 aC.out))
  go_ret
  exact ⟨ER, K1 HB aE.out⟩
def spec_l1In.f (a0 : Int) (a1 : Int) (a2 : Int) : Option (Bool) := if a0 ≥ a1 then (some (decide (a0 ≤ a2))) else (some false)
theorem spec_l1In.calls (a0 : Int) (a1 : Int) (a2 : Int) (r : Bool) (w : World) (h : spec_l1In.f a0 a1 a2 = some r) :
  Calls Tryz.prog 44 #[.int .i64 a0, .int .i64 a1, .int .i64 a2] w fun e w' => e = .returned (.bool r) ∧ Drawn0 w w' := by
 have H : (if a0 ≥ a1 then (some (decide (a0 ≤ a2))) else (some false)) = some r := h
 clear h
 by_cases c4 : a0 ≥ a1
 ·rw [if_pos c4] at H
  have c4b0 : decide (a1 ≤ a0) = true := decide_eq_true c4
  clear c4
  obtain rfl := sj H
  go_enter Tryz.func44, Tryz.ntmps44
  go_wp2
  go_ret
  exact ⟨by first | rfl | (simp; done) | (simp [*]; done), by repeat (first | exact Drawn0.refl _ | apply Drawn0.step)⟩
 ·rw [if_neg c4] at H
  have c4b0 : decide (a1 ≤ a0) = false := decide_eq_false c4
  clear c4
  obtain rfl := sj H
  go_enter Tryz.func44, Tryz.ntmps44
  go_wp2
  go_ret
  exact ⟨by first | rfl | (simp; done) | (simp [*]; done), by repeat (first | exact Drawn0.refl _ | apply Drawn0.step)⟩
end Go.Proofs.YtgjbbnmjeblcgaaGreat.PAll
end
