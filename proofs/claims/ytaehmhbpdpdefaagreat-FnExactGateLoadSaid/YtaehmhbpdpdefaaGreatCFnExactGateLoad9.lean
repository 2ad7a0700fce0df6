/- Contracts of the functions that the statement reaches. -/
import Derived.Test.YtaehmhbpdpdefaaGreatCFnExactGateLoad3
import Derived.Test.YtaehmhbpdpdefaaGreatCFnExactGateLoad4
import Derived.Test.YtaehmhbpdpdefaaGreatCFnExactGateLoad6
import Derived.Test.YtaehmhbpdpdefaaGreatCFnExactGateLoad7
import Derived.Test.YtaehmhbpdpdefaaGreatCFnExactGateLoad8
set_option maxHeartbeats 8000000
set_option maxRecDepth 100000
section
namespace Go.Proofs.YtaehmhbpdpdefaaGreat.PAll
open Go.RowKit Go.Proofs.YtaehmhbpdpdefaaGreatW.PrintWords Go.Proofs.YtaehmhbpdpdefaaGreatW.PrintLast Go.Proofs.YtaehmhbpdpdefaaGreatW.PrintMore
attribute [local go_sem] max2_int min2_int max_two min_two max_three min_three max_four min_four
set_option linter.unusedVariables false
set_option linter.unusedSimpArgs false
def impl_GateOk.j0 : Nat → Bool → Int → List (S59) → Int → List (S96) → List (S83) → List (S83) → Option (Bool)
 | 0, _, _, _, _, _, _, _ => none
 | k + 1, x32, x102000, x102001, x102002, x102003, x102004, x102005 => if x32 = true then (some false) else ((impl_ascending_tunOf.f k x102004 x102000).bind fun t104 => (if t104 = true then ((impl_ascending_spiOf.f k x102005 x102000).bind fun t105 => (some t105)) else (some false)))
def impl_GateOk.f (k : Nat) (a0_0 : Int) (l0_1 : List (S59)) (a0_2 : Int) (l0_3 : List (S96)) (l0_4 : List (S83)) (l0_5 : List (S83)) : Option (Bool) := (impl_in.f a0_0 0 1000000).bind fun t102 => (if t102 = true then (if a0_2 = 4 then ((impl_CacheOk.f k l0_1 a0_2 l0_3).bind fun t103 => (if t103 = true then (if (l0_4.length : Int) > 4 then (impl_GateOk.j0 k true a0_0 l0_1 a0_2 l0_3 l0_4 l0_5) else (impl_GateOk.j0 k (decide ((l0_5.length : Int) > 6)) a0_0 l0_1 a0_2 l0_3 l0_4 l0_5)) else (impl_GateOk.j0 k true a0_0 l0_1 a0_2 l0_3 l0_4 l0_5))) else (impl_GateOk.j0 k true a0_0 l0_1 a0_2 l0_3 l0_4 l0_5)) else (impl_GateOk.j0 k true a0_0 l0_1 a0_2 l0_3 l0_4 l0_5))
theorem impl_GateOk.calls (k : Nat) (aB : Int) (aQ : Option Addr) (aR : Nat) (aG : List (S59)) (aE : Int) (aS : Option Addr) (aT : Nat) (aH : List (S96)) (aJ : Option Addr) (aK : Nat) (aC : List (S83)) (aU : Option Addr) (aV : Nat) (aF : List (S83)) (r : Bool) (w : World) (cV : Kd.C k59 w aQ aG.length aG) (cW : aG.length ≤ aR) (cX : Kd.C k96 w aS aH.length aH) (cY : aH.length ≤ aT) (cZ : Kd.C k83 w aJ aC.length aC) (dA : aC.length ≤ aK) (dB : Kd.C k83 w aU aF.length aF) (dC : aF.length ≤ aV) (h : impl_GateOk.f k aB aG aE aH aC aF = some r) :
  Calls Tryz.prog 23 #[.agg #[.int .i64 aB, .slice aQ aG.length aR, .int .i64 aE, .slice aS aH.length aT, .slice aJ aC.length aK, .slice aU aF.length aV]] w fun e w' => e = .returned (.bool r) ∧ Below w.heap.size w w' := by
 have eO := Tryz.underlying37; have eP := Tryz.underlying34; have aM := Aside0.mk cV; have aN := Aside0.mk cW; clear cV cW; have aO := Aside0.mk cX; have aP := Aside0.mk cY; clear cX cY; have dD := Aside0.mk cZ; have dE := Aside0.mk dA; clear cZ dA; have dF := Aside0.mk dB; have dG := Aside0.mk dC; clear dB dC; have HB := am (Below.refl w.heap.size w); unfold impl_GateOk.f at h; have H := h; clear h; have eK := Aside0.mk H; clear H; go_enter Tryz.func23, Tryz.ntmps23
 go_upto_region 1 with (first | ((with_reducible refine gate_dst (N := 1) rfl ?_); (try (refine gate_guard (by rfl) ?_; dsimp only)); refine bxe (KL HB) (cs := #[.int .i64 aB, .slice aQ aG.length aR, .int .i64 aE, .slice aS aH.length aT, .slice aJ aC.length aK, .slice aU aF.length aV]) ?_; intro dH w3 aA aD HB hb hg; clear hb hg))
 (try simp only [Act.put, List.setIfInBounds_toArray, List.set_cons_zero, List.set_cons_succ])
 go_cut [32] (fun eQ wc => ∃ (kq : Nat) (aI : Bool), eQ = .bool aI ∧ Aside0 (impl_GateOk.j0 kq aI aB aG aE aH aC aF = some r) ∧ Aside0 (kq ≤ k) ∧ Aside0 (wc.heap[dH]? = some (.cells #[.int .i64 aB, (.slice aQ aG.length aR), .int .i64 aE, (.slice aS aH.length aT), (.slice aJ aC.length aK), (.slice aU aF.length aV)] 37 (0, 0))) ∧ Aside0 (Below w.heap.size w wc))
 case first =>
  have H := eK.out; clear eK; obtain ⟨aW, A4, H⟩ := b1 H; by_cases c5 : aW = true
  ·subst c5
   replace H := pf H; by_cases c6 : aE = 4
   ·rw [if_pos c6] at H
    have c6b0 := beq_iff_eq.mpr c6; have c6b1 := bne_eq_false_iff_eq.mpr c6; clear c6; (first | rw [c6b0] | (simp only [i64_w, i32_w]; rw [c6b0]) | skip)
    obtain ⟨aL, A7, H⟩ := b1 H; by_cases c8 : aL = true
    ·subst c8
     replace H := pf H; by_cases c9 : (aC.length : Int) > 4
     ·rw [if_pos c9] at H
      have c9b0 := decide_eq_true c9; have c9b1 : decide (4 < aC.length) = true := decide_eq_true (by omega); clear c9; have H' := Aside0.mk H; clear H; obtain ⟨aX, aY, aZ, bA, bB, bC, bD⟩ := y6 w3 aA.out; go_wp2_with (first | (go_at_call 46; (with_reducible refine (impl_in.calls _ _ _ _ _ A4.out).mono ?_); rintro e w' ⟨rfl, ⟨nd, rfl⟩⟩) | (go_at_call 47; (with_reducible refine (impl_CacheOk.calls _ _ _ _ _ _ _ _ _ _ ?_ ?_ ?_ ?_ A7.out).mono ?_); (repeat (first | exact (Kd.C_below aM.out (K1 HB aD.out)) | (with_reducible refine Kd.C_alloc ?_ _) | (with_reducible refine Kd.C_drewN ?_ _) | (with_reducible refine Kd.C_drew ?_))); exact aN.out; (repeat (first | exact (Kd.C_below aO.out (K1 HB aD.out)) | (with_reducible refine Kd.C_alloc ?_ _) | (with_reducible refine Kd.C_drewN ?_ _) | (with_reducible refine Kd.C_drew ?_))); exact aP.out; rintro e eR ⟨rfl, hb⟩; replace aA := am (BB aA hb); replace HB := bl (K1 HB aD.out) hb; obtain ⟨bE, bF, bG, bH, bI, bJ, bK⟩ := y6 eR aA.out))
      go_meet
      case rel => exact ⟨_, (true), RS, H', ⟨LE⟩, ⟨KB aA⟩, ⟨K1 HB aD.out⟩⟩
     ·rw [if_neg c9] at H
      have c9b0 := decide_eq_false c9; have c9b1 : decide (4 < aC.length) = false := decide_eq_false (by omega); clear c9; have H' := Aside0.mk H; clear H; obtain ⟨bL, bM, bN, bO, bP, bQ, bR⟩ := y6 w3 aA.out; go_wp2_with (first | (go_at_call 46; (with_reducible refine (impl_in.calls _ _ _ _ _ A4.out).mono ?_); rintro e w' ⟨rfl, ⟨nd, rfl⟩⟩) | (go_at_call 47; (with_reducible refine (impl_CacheOk.calls _ _ _ _ _ _ _ _ _ _ ?_ ?_ ?_ ?_ A7.out).mono ?_); (repeat (first | exact (Kd.C_below aM.out (K1 HB aD.out)) | (with_reducible refine Kd.C_alloc ?_ _) | (with_reducible refine Kd.C_drewN ?_ _) | (with_reducible refine Kd.C_drew ?_))); exact aN.out; (repeat (first | exact (Kd.C_below aO.out (K1 HB aD.out)) | (with_reducible refine Kd.C_alloc ?_ _) | (with_reducible refine Kd.C_drewN ?_ _) | (with_reducible refine Kd.C_drew ?_))); exact aP.out; rintro e eS ⟨rfl, hb⟩; replace aA := am (BB aA hb); replace HB := bl (K1 HB aD.out) hb; obtain ⟨bS, bT, bU, bV, bW, bX, bY⟩ := y6 eS aA.out))
      go_meet
      case rel => exact ⟨_, (decide ((aF.length : Int) > 6)), RS, H', ⟨LE⟩, ⟨KB aA⟩, ⟨K1 HB aD.out⟩⟩
    ·replace c8 := Bool.eq_false_iff.mpr c8
     subst c8; replace H := nf H; have H' := Aside0.mk H; clear H; obtain ⟨bZ, cA, cB, cC, cD, cE, cF⟩ := y6 w3 aA.out; go_wp2_with (first | (go_at_call 46; (with_reducible refine (impl_in.calls _ _ _ _ _ A4.out).mono ?_); rintro e w' ⟨rfl, ⟨nd, rfl⟩⟩) | (go_at_call 47; (with_reducible refine (impl_CacheOk.calls _ _ _ _ _ _ _ _ _ _ ?_ ?_ ?_ ?_ A7.out).mono ?_); (repeat (first | exact (Kd.C_below aM.out (K1 HB aD.out)) | (with_reducible refine Kd.C_alloc ?_ _) | (with_reducible refine Kd.C_drewN ?_ _) | (with_reducible refine Kd.C_drew ?_))); exact aN.out; (repeat (first | exact (Kd.C_below aO.out (K1 HB aD.out)) | (with_reducible refine Kd.C_alloc ?_ _) | (with_reducible refine Kd.C_drewN ?_ _) | (with_reducible refine Kd.C_drew ?_))); exact aP.out; rintro e eV ⟨rfl, hb⟩; replace aA := am (BB aA hb); replace HB := bl (K1 HB aD.out) hb))
     go_meet
     case rel => exact ⟨_, (true), RS, H', ⟨LE⟩, ⟨KB aA⟩, ⟨K1 HB aD.out⟩⟩
   ·rw [if_neg c6] at H
    have c6b0 := beq_eq_false_iff_ne.mpr c6; have c6b1 := bne_iff_ne.mpr c6; (first | rw [c6b0] | (simp only [i64_w, i32_w]; rw [c6b0]) | skip)
    have H' := Aside0.mk H; clear H; obtain ⟨cG, cH, cI, cJ, cK, cL, cM⟩ := y6 w3 aA.out; go_wp2_with (first | (go_at_call 46; (with_reducible refine (impl_in.calls _ _ _ _ _ A4.out).mono ?_); rintro e w' ⟨rfl, ⟨nd, rfl⟩⟩))
    go_meet
    case rel => exact ⟨_, (true), RS, H', ⟨LE⟩, ⟨KB aA⟩, ⟨K1 HB aD.out⟩⟩
  ·replace c5 := Bool.eq_false_iff.mpr c5
   subst c5; replace H := nf H; have H' := Aside0.mk H; clear H; obtain ⟨cN, cO, cP, cQ, cR, cS, cT⟩ := y6 w3 aA.out; go_wp2_with (first | (go_at_call 46; (with_reducible refine (impl_in.calls _ _ _ _ _ A4.out).mono ?_); rintro e w' ⟨rfl, ⟨nd, rfl⟩⟩))
   go_meet
   case rel => exact ⟨_, (true), RS, H', ⟨LE⟩, ⟨KB aA⟩, ⟨K1 HB aD.out⟩⟩
 case rest =>
  clear eK; try clear c5
  try clear c6
  try clear c6b0
  try clear c6b1
  try clear c8
  try clear c9
  try clear c9b0
  try clear c9b1
  try clear aX aY aZ bA bB bC bD
  try clear bE bF bG bH bI bJ bK
  try clear bL bM bN bO bP bQ bR
  try clear bS bT bU bV bW bX bY
  try clear bZ cA cB cC cD cE cF
  try clear cG cH cI cJ cK cL cM
  try clear cN cO cP cQ cR cS cT
  obtain ⟨kq, aI, rfl, HA, HJ1, aA, HB⟩ := hcut; cases kq with
  | zero => exact absurd HA.out (by simp [impl_GateOk.j0])
  | succ kj1 =>
   have H := HA.out; clear HA; simp only [impl_GateOk.j0] at H; by_cases dN : aI = true
   ·subst dN
    replace H := pf H; obtain rfl := sj H; go_wp2
    go_ret
    exact ⟨ER, K1 HB aD.out⟩
   ·replace dN := Bool.eq_false_iff.mpr dN
    subst dN; replace H := nf H; obtain ⟨dK, eN, H⟩ := b1 H; by_cases dO : dK = true
    ·subst dO
     replace H := pf H; obtain ⟨cU, eT, H⟩ := b1 H; obtain rfl := sj H; have ⟨_, _, _, _, _, _, _⟩ := y6 wc aA.out; go_wp2_with (first | (go_at_call 48; (with_reducible refine (impl_ascending_tunOf.calls _ _ _ _ _ _ _ ?_ ?_ eN.out).mono ?_); exact KD dD HB; exact dE.out; rintro e eU ⟨rfl, hb⟩; replace aA := am (BB aA hb); replace HB := bl (K1 HB aD.out) hb; have ⟨_, _, _, _, _, _, _⟩ := y6 eU aA.out) | (go_at_call 48; (with_reducible refine (impl_ascending_spiOf.calls _ _ _ _ _ _ _ ?_ ?_ eT.out).mono ?_); exact KD dF HB; exact dG.out; rintro e eW ⟨rfl, hb⟩; replace aA := am (BB aA hb); replace HB := bl (K1 HB aD.out) hb))
     go_ret
     exact ⟨ER, K1 HB aD.out⟩
    ·replace dO := Bool.eq_false_iff.mpr dO
     subst dO; replace H := nf H; obtain rfl := sj H; have ⟨_, _, _, _, _, _, _⟩ := y6 wc aA.out; go_wp2_with (first | (go_at_call 48; (with_reducible refine (impl_ascending_tunOf.calls _ _ _ _ _ _ _ ?_ ?_ eN.out).mono ?_); exact KD dD HB; exact dE.out; rintro e eX ⟨rfl, hb⟩; replace aA := am (BB aA hb); replace HB := bl (K1 HB aD.out) hb))
     go_ret
     exact ⟨ER, K1 HB aD.out⟩
end Go.Proofs.YtaehmhbpdpdefaaGreat.PAll
end
