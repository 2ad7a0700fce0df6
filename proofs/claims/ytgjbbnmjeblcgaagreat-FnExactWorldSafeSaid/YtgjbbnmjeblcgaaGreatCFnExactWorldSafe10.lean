/- Contracts of the functions that the statement reaches. -/
import Derived.WalkKit
import Derived.Shelf.Abstract
import Derived.Deep.LoopGhost
import Derived.Deep.CutBlock
import Derived.Deep.MidRow
import Derived.Maps.OwnSet
import Derived.WideKeyPair
import Derived.Test.YtgjbbnmjeblcgaaGreatCFnExactWorldSafe3
import Derived.Test.YtgjbbnmjeblcgaaGreatCFnExactWorldSafe4
import Derived.Test.YtgjbbnmjeblcgaaGreatCFnExactWorldSafe5
import Derived.Test.YtgjbbnmjeblcgaaGreatCFnExactWorldSafe6
import Derived.Test.YtgjbbnmjeblcgaaGreatCFnExactWorldSafe7
import Derived.Test.YtgjbbnmjeblcgaaGreatCFnExactWorldSafe8
import Derived.Test.YtgjbbnmjeblcgaaGreatCFnExactWorldSafe9
set_option maxHeartbeats 8000000
set_option maxRecDepth 100000
section
namespace Go.Proofs.YtgjbbnmjeblcgaaGreat.PAll
open Go.RowKit Go.Proofs.YtgjbbnmjeblcgaaGreatW.PrintWords Go.Proofs.YtgjbbnmjeblcgaaGreatW.PrintLast Go.Proofs.YtgjbbnmjeblcgaaGreatW.PrintMore
attribute [local go_sem] max2_int min2_int max_two min_two max_three min_three max_four min_four
set_option linter.unusedVariables false
set_option linter.unusedSimpArgs false
def impl_GateOk.j0 : Nat → Bool → Int → List (S107) → Int → List (S128) → List (S103) → List (S103) → Option (Bool)
 | 0, _, _, _, _, _, _, _ => none
 | k + 1, x32, x102000, x102001, x102002, x102003, x102004, x102005 => if x32 = true then (some false) else ((impl_ascending_tunOf.f k x102004 x102000).bind fun t104 => (if t104 = true then ((impl_ascending_spiOf.f k x102005 x102000).bind fun t105 => (some t105)) else (some false)))
def impl_GateOk.f (k : Nat) (a0_0 : Int) (l0_1 : List (S107)) (a0_2 : Int) (l0_3 : List (S128)) (l0_4 : List (S103)) (l0_5 : List (S103)) : Option (Bool) := (impl_in.f a0_0 0 1000000).bind fun t102 => (if t102 = true then (if a0_2 = 4 then ((impl_CacheOk.f k l0_1 a0_2 l0_3).bind fun t103 => (if t103 = true then (if (l0_4.length : Int) > 4 then (impl_GateOk.j0 k true a0_0 l0_1 a0_2 l0_3 l0_4 l0_5) else (impl_GateOk.j0 k (decide ((l0_5.length : Int) > 6)) a0_0 l0_1 a0_2 l0_3 l0_4 l0_5)) else (impl_GateOk.j0 k true a0_0 l0_1 a0_2 l0_3 l0_4 l0_5))) else (impl_GateOk.j0 k true a0_0 l0_1 a0_2 l0_3 l0_4 l0_5)) else (impl_GateOk.j0 k true a0_0 l0_1 a0_2 l0_3 l0_4 l0_5))
theorem impl_GateOk.calls (k : Nat) (aB : Int) (aQ : Option Addr) (aR : Nat) (aG : List (S107)) (aE : Int) (aS : Option Addr) (aT : Nat) (aH : List (S128)) (aJ : Option Addr) (aK : Nat) (aC : List (S103)) (aU : Option Addr) (aV : Nat) (aF : List (S103)) (r : Bool) (w : World) (cV : Kd.C k107 w aQ aG.length aG) (cW : aG.length ≤ aR) (cX : Kd.C k128 w aS aH.length aH) (cY : aH.length ≤ aT) (cZ : Kd.C k103 w aJ aC.length aC) (dA : aC.length ≤ aK) (dB : Kd.C k103 w aU aF.length aF) (dC : aF.length ≤ aV) (h : impl_GateOk.f k aB aG aE aH aC aF = some r) :
  Calls Tryz.prog 33 #[.agg #[.int .i64 aB, .slice aQ aG.length aR, .int .i64 aE, .slice aS aH.length aT, .slice aJ aC.length aK, .slice aU aF.length aV]] w fun e w' => e = .returned (.bool r) ∧ Below w.heap.size w w' := by
 have eO := Tryz.underlying41
 have eP := Tryz.underlying38
 have aM := Aside0.mk cV
 have aN := Aside0.mk cW
 clear cV cW
 have aO := Aside0.mk cX
 have aP := Aside0.mk cY
 clear cX cY
 have dD := Aside0.mk cZ
 have dE := Aside0.mk dA
 clear cZ dA
 have dF := Aside0.mk dB
 have dG := Aside0.mk dC
 clear dB dC
 have HB := am (Below.refl w.heap.size w)
 have H : ((impl_in.f aB 0 1000000).bind fun aW => (if aW = true then (if aE = 4 then ((impl_CacheOk.f k aG aE aH).bind fun aL => (if aL = true then (if (aC.length : Int) > 4 then (impl_GateOk.j0 k true aB aG aE aH aC aF) else (impl_GateOk.j0 k (decide ((aF.length : Int) > 6)) aB aG aE aH aC aF)) else (impl_GateOk.j0 k true aB aG aE aH aC aF))) else (impl_GateOk.j0 k true aB aG aE aH aC aF)) else (impl_GateOk.j0 k true aB aG aE aH aC aF))) = some r := h
 clear h
 have eK := Aside0.mk H
 clear H
 go_enter Tryz.func33, Tryz.ntmps33
 go_upto_region 1 with (first | ((with_reducible refine gate_dst (N := 1) rfl ?_); (try (refine gate_guard (by rfl) ?_; dsimp only)); refine box_event rfl (N := 1) rfl (cs := #[.int .i64 aB, .slice aQ aG.length aR, .int .i64 aE, .slice aS aH.length aT, .slice aJ aC.length aK, .slice aU aF.length aV]) (t := 41) BX ?_; intro dH hg w3 dI hb; have aA := am (dI); have dJ := am (GH HB hg); have aD := dJ; replace HB := bl (KL HB) hb; clear hb dI hg))
 (try simp only [Act.put, List.setIfInBounds_toArray, List.set_cons_zero, List.set_cons_succ])
 go_cut [32] (fun eQ wc => ∃ (kq : Nat) (aI : Bool), eQ = .bool aI ∧ Aside0 (impl_GateOk.j0 kq aI aB aG aE aH aC aF = some r) ∧ Aside0 (kq ≤ k) ∧ Aside0 (wc.heap[dH]? = some (.cells #[.int .i64 aB, (.slice aQ aG.length aR), .int .i64 aE, (.slice aS aH.length aT), (.slice aJ aC.length aK), (.slice aU aF.length aV)] 41 (0, 0))) ∧ Aside0 (Below w.heap.size w wc))
 case first =>
  have H := eK.out
  clear eK
  replace H := bm H
  obtain ⟨aW, eL, H⟩ := H
  replace H : (if aW = true then (if aE = 4 then ((impl_CacheOk.f k aG aE aH).bind fun aL => (if aL = true then (if (aC.length : Int) > 4 then (impl_GateOk.j0 k true aB aG aE aH aC aF) else (impl_GateOk.j0 k (decide ((aF.length : Int) > 6)) aB aG aE aH aC aF)) else (impl_GateOk.j0 k true aB aG aE aH aC aF))) else (impl_GateOk.j0 k true aB aG aE aH aC aF)) else (impl_GateOk.j0 k true aB aG aE aH aC aF)) = some r := H
  have A4 := Aside0.mk eL
  clear eL
  by_cases c5 : aW = true
  ·subst c5
   have H1 := pf H
   clear H
   have H := H1
   clear H1
   by_cases c6 : aE = 4
   ·rw [if_pos c6] at H
    have c6b0 : (aE == 4) = true := beq_iff_eq.mpr c6
    have c6b1 : (aE != 4) = false := bne_eq_false_iff_eq.mpr c6
    clear c6
    (first | rw [c6b0] | (simp only [i64_w, i32_w]; rw [c6b0]) | skip)
    replace H := bm H
    obtain ⟨aL, eM, H⟩ := H
    replace H : (if aL = true then (if (aC.length : Int) > 4 then (impl_GateOk.j0 k true aB aG aE aH aC aF) else (impl_GateOk.j0 k (decide ((aF.length : Int) > 6)) aB aG aE aH aC aF)) else (impl_GateOk.j0 k true aB aG aE aH aC aF)) = some r := H
    have A7 := Aside0.mk eM
    clear eM
    by_cases c8 : aL = true
    ·subst c8
     have H1 := pf H
     clear H
     have H := H1
     clear H1
     by_cases c9 : (aC.length : Int) > 4
     ·rw [if_pos c9] at H
      have c9b0 : decide (4 < (aC.length : Int)) = true := decide_eq_true c9
      have c9b1 : decide (4 < aC.length) = true := decide_eq_true (by omega)
      clear c9
      have H' := Aside0.mk H
      clear H
      obtain ⟨aX, aY, aZ, bA, bB, bC, bD⟩ := y6 w3 aA.out
      go_wp2_with (first | ((with_reducible refine gate_callee (f := 51) rfl ?_); refine goesL_ (some 5) rfl rfl Tryz.func51 (by kernel_rfl) rfl #[.int .i64 aB, .int .i64 0, .int .i64 1000000] rfl MT ?_; (with_reducible refine (impl_in.calls aB 0 1000000 true _ A4.out).mono ?_); rintro e w' ⟨rfl, ⟨nd, rfl⟩⟩; refine ⟨_, rfl, ?_⟩) | (go_at_call 52; (with_reducible refine (impl_CacheOk.calls k _ _ aG aE _ _ aH true _ ?_ ?_ ?_ ?_ A7.out).mono ?_); (repeat (first | exact (Kd.C_below aM.out (K1 HB aD.out)) | (with_reducible refine Kd.C_alloc ?_ _) | (with_reducible refine Kd.C_drewN ?_ _) | (with_reducible refine Kd.C_drew ?_))); exact aN.out; (repeat (first | exact (Kd.C_below aO.out (K1 HB aD.out)) | (with_reducible refine Kd.C_alloc ?_ _) | (with_reducible refine Kd.C_drewN ?_ _) | (with_reducible refine Kd.C_drew ?_))); exact aP.out; rintro e eR ⟨rfl, hb⟩; replace aA := am (BB aA hb); replace HB := bl (K1 HB aD.out) hb; (try clear hb); obtain ⟨bE, bF, bG, bH, bI, bJ, bK⟩ := y6 eR aA.out))
      go_meet
      case rel => exact ⟨_, (true), (by first | rfl | (simp; done) | (simp [*]; done)), H', ⟨by first | omega | exact Nat.le_refl _⟩, ⟨KB aA⟩, ⟨K1 HB aD.out⟩⟩
     ·rw [if_neg c9] at H
      have c9b0 : decide (4 < (aC.length : Int)) = false := decide_eq_false c9
      have c9b1 : decide (4 < aC.length) = false := decide_eq_false (by omega)
      clear c9
      have H' := Aside0.mk H
      clear H
      obtain ⟨bL, bM, bN, bO, bP, bQ, bR⟩ := y6 w3 aA.out
      go_wp2_with (first | ((with_reducible refine gate_callee (f := 51) rfl ?_); refine goesL_ (some 5) rfl rfl Tryz.func51 (by kernel_rfl) rfl #[.int .i64 aB, .int .i64 0, .int .i64 1000000] rfl MT ?_; (with_reducible refine (impl_in.calls aB 0 1000000 true _ A4.out).mono ?_); rintro e w' ⟨rfl, ⟨nd, rfl⟩⟩; refine ⟨_, rfl, ?_⟩) | (go_at_call 52; (with_reducible refine (impl_CacheOk.calls k _ _ aG aE _ _ aH true _ ?_ ?_ ?_ ?_ A7.out).mono ?_); (repeat (first | exact (Kd.C_below aM.out (K1 HB aD.out)) | (with_reducible refine Kd.C_alloc ?_ _) | (with_reducible refine Kd.C_drewN ?_ _) | (with_reducible refine Kd.C_drew ?_))); exact aN.out; (repeat (first | exact (Kd.C_below aO.out (K1 HB aD.out)) | (with_reducible refine Kd.C_alloc ?_ _) | (with_reducible refine Kd.C_drewN ?_ _) | (with_reducible refine Kd.C_drew ?_))); exact aP.out; rintro e eS ⟨rfl, hb⟩; replace aA := am (BB aA hb); replace HB := bl (K1 HB aD.out) hb; (try clear hb); obtain ⟨bS, bT, bU, bV, bW, bX, bY⟩ := y6 eS aA.out))
      go_meet
      case rel => exact ⟨_, (decide ((aF.length : Int) > 6)), (by first | rfl | (simp; done) | (simp [*]; done)), H', ⟨by first | omega | exact Nat.le_refl _⟩, ⟨KB aA⟩, ⟨K1 HB aD.out⟩⟩
    ·replace c8 := Bool.eq_false_iff.mpr c8
     subst c8
     have H1 := nf H
     clear H
     have H := H1
     clear H1
     have H' := Aside0.mk H
     clear H
     obtain ⟨bZ, cA, cB, cC, cD, cE, cF⟩ := y6 w3 aA.out
     go_wp2_with (first | ((with_reducible refine gate_callee (f := 51) rfl ?_); refine goesL_ (some 5) rfl rfl Tryz.func51 (by kernel_rfl) rfl #[.int .i64 aB, .int .i64 0, .int .i64 1000000] rfl MT ?_; (with_reducible refine (impl_in.calls aB 0 1000000 true _ A4.out).mono ?_); rintro e w' ⟨rfl, ⟨nd, rfl⟩⟩; refine ⟨_, rfl, ?_⟩) | (go_at_call 52; (with_reducible refine (impl_CacheOk.calls k _ _ aG aE _ _ aH false _ ?_ ?_ ?_ ?_ A7.out).mono ?_); (repeat (first | exact (Kd.C_below aM.out (K1 HB aD.out)) | (with_reducible refine Kd.C_alloc ?_ _) | (with_reducible refine Kd.C_drewN ?_ _) | (with_reducible refine Kd.C_drew ?_))); exact aN.out; (repeat (first | exact (Kd.C_below aO.out (K1 HB aD.out)) | (with_reducible refine Kd.C_alloc ?_ _) | (with_reducible refine Kd.C_drewN ?_ _) | (with_reducible refine Kd.C_drew ?_))); exact aP.out; rintro e eV ⟨rfl, hb⟩; replace aA := am (BB aA hb); replace HB := bl (K1 HB aD.out) hb; (try clear hb)))
     go_meet
     case rel => exact ⟨_, (true), (by first | rfl | (simp; done) | (simp [*]; done)), H', ⟨by first | omega | exact Nat.le_refl _⟩, ⟨KB aA⟩, ⟨K1 HB aD.out⟩⟩
   ·rw [if_neg c6] at H
    have c6b0 : (aE == 4) = false := beq_eq_false_iff_ne.mpr c6
    have c6b1 : (aE != 4) = true := bne_iff_ne.mpr c6
    (first | rw [c6b0] | (simp only [i64_w, i32_w]; rw [c6b0]) | skip)
    have H' := Aside0.mk H
    clear H
    obtain ⟨cG, cH, cI, cJ, cK, cL, cM⟩ := y6 w3 aA.out
    go_wp2_with (first | ((with_reducible refine gate_callee (f := 51) rfl ?_); refine goesL_ (some 5) rfl rfl Tryz.func51 (by kernel_rfl) rfl #[.int .i64 aB, .int .i64 0, .int .i64 1000000] rfl MT ?_; (with_reducible refine (impl_in.calls aB 0 1000000 true _ A4.out).mono ?_); rintro e w' ⟨rfl, ⟨nd, rfl⟩⟩; refine ⟨_, rfl, ?_⟩))
    go_meet
    case rel => exact ⟨_, (true), (by first | rfl | (simp; done) | (simp [*]; done)), H', ⟨by first | omega | exact Nat.le_refl _⟩, ⟨KB aA⟩, ⟨K1 HB aD.out⟩⟩
  ·replace c5 := Bool.eq_false_iff.mpr c5
   subst c5
   have H1 := nf H
   clear H
   have H := H1
   clear H1
   have H' := Aside0.mk H
   clear H
   obtain ⟨cN, cO, cP, cQ, cR, cS, cT⟩ := y6 w3 aA.out
   go_wp2_with (first | ((with_reducible refine gate_callee (f := 51) rfl ?_); refine goesL_ (some 5) rfl rfl Tryz.func51 (by kernel_rfl) rfl #[.int .i64 aB, .int .i64 0, .int .i64 1000000] rfl MT ?_; (with_reducible refine (impl_in.calls aB 0 1000000 false _ A4.out).mono ?_); rintro e w' ⟨rfl, ⟨nd, rfl⟩⟩; refine ⟨_, rfl, ?_⟩))
   go_meet
   case rel => exact ⟨_, (true), (by first | rfl | (simp; done) | (simp [*]; done)), H', ⟨by first | omega | exact Nat.le_refl _⟩, ⟨KB aA⟩, ⟨K1 HB aD.out⟩⟩
 case rest =>
  clear eK
  try clear p2
  try clear c3
  try clear c5
  try clear c6
  try clear c6b0
  try clear c6b1
  try clear c8
  try clear c9
  try clear c9b0
  try clear c9b1
  try clear aX aY aZ bA bB bC bD
  try clear bE bF bG bH bI bJ bK
  try clear bL bM bN bO bP bQ bR
  try clear bS bT bU bV bW bX bY
  try clear bZ cA cB cC cD cE cF
  try clear cG cH cI cJ cK cL cM
  try clear cN cO cP cQ cR cS cT
  obtain ⟨kq, aI, rfl, HA, HJ1, aA, HB⟩ := hcut
  cases kq with
  | zero => exact absurd HA.out (by simp [impl_GateOk.j0])
  | succ kj1 =>
   have H := HA.out
   clear HA
   simp only [impl_GateOk.j0] at H
   by_cases dN : aI = true
   ·subst dN
    have H1 := pf H
    clear H
    have H := H1
    clear H1
    obtain rfl := sj H
    go_wp2
    go_ret
    exact ⟨ER, K1 HB aD.out⟩
   ·replace dN := Bool.eq_false_iff.mpr dN
    subst dN
    have H1 := nf H
    clear H
    have H := H1
    clear H1
    replace H := bm H
    obtain ⟨dK, dL, H⟩ := H
    replace H : (if dK = true then ((impl_ascending_spiOf.f kj1 aF aB).bind fun cU => (some cU)) else (some false)) = some r := H
    have eN := Aside0.mk dL
    clear dL
    by_cases dO : dK = true
    ·subst dO
     have H1 := pf H
     clear H
     have H := H1
     clear H1
     replace H := bm H
     obtain ⟨cU, dM, H⟩ := H
     replace H : (some cU) = some r := H
     have eT := Aside0.mk dM
     clear dM
     obtain rfl := sj H
     have ⟨_, _, _, _, _, _, _⟩ := y6 wc aA.out
     go_wp2_with (first | ((with_reducible refine gate_callee (f := 53) rfl ?_); refine goesL_ (some 37) rfl rfl Tryz.func53 (by kernel_rfl) rfl #[.slice aJ aC.length aK, .int .i64 aB, .func (.func 54) #[] #[]] rfl MT ?_; (with_reducible refine (impl_ascending_tunOf.calls kj1 _ _ aC aB  true _ ?_ ?_ eN.out).mono ?_); exact KD dD HB; exact dE.out; rintro e eU ⟨rfl, hb⟩; refine ⟨_, rfl, ?_⟩; replace aA := am (BB aA hb); replace HB := bl (K1 HB aD.out) hb; (try clear hb); have ⟨_, _, _, _, _, _, _⟩ := y6 eU aA.out) | (go_at_call 53; (with_reducible refine (impl_ascending_spiOf.calls kj1 _ _ aF aB  cU _ ?_ ?_ eT.out).mono ?_); exact KD dF HB; exact dG.out; rintro e eW ⟨rfl, hb⟩; replace aA := am (BB aA hb); replace HB := bl (K1 HB aD.out) hb; (try clear hb)))
     go_ret
     exact ⟨ER, K1 HB aD.out⟩
    ·replace dO := Bool.eq_false_iff.mpr dO
     subst dO
     have H1 := nf H
     clear H
     have H := H1
     clear H1
     obtain rfl := sj H
     have ⟨_, _, _, _, _, _, _⟩ := y6 wc aA.out
     go_wp2_with (first | ((with_reducible refine gate_callee (f := 53) rfl ?_); refine goesL_ (some 37) rfl rfl Tryz.func53 (by kernel_rfl) rfl #[.slice aJ aC.length aK, .int .i64 aB, .func (.func 54) #[] #[]] rfl MT ?_; (with_reducible refine (impl_ascending_tunOf.calls kj1 _ _ aC aB  false _ ?_ ?_ eN.out).mono ?_); exact KD dD HB; exact dE.out; rintro e eX ⟨rfl, hb⟩; refine ⟨_, rfl, ?_⟩; replace aA := am (BB aA hb); replace HB := bl (K1 HB aD.out) hb; (try clear hb)))
     go_ret
     exact ⟨ER, K1 HB aD.out⟩
def impl_WorldOk.f (k : Nat) (a0_0 : Int) (l0_1 : List (S107)) (a0_2 : Int) (l0_3 : List (S128)) (l0_4 : List (S103)) (l0_5 : List (S103)) (a0_6 : Int) (l0_7 : List (S107)) (a0_8 : Int) (l0_9 : List (S128)) (l0_10 : List (S103)) (l0_11 : List (S103)) (l0_12 : List (S76)) (l0_13 : List (S55)) (l0_14 : List (S55)) : Option (Bool) := (impl_GateOk.f k a0_0 l0_1 a0_2 l0_3 l0_4 l0_5).bind fun t102 => (if t102 = true then ((impl_GateOk.f k a0_6 l0_7 a0_8 l0_9 l0_10 l0_11).bind fun t103 => (if t103 = true then (if a0_0 = a0_6 then (if (l0_12.length : Int) > 12 then (some false) else ((impl_Air_34_WorldOk_cl1.f k l0_12).bind fun t104 => (if t104 = true then (some false) else (if (l0_13.length : Int) ≤ 40 then (some (decide ((l0_14.length : Int) ≤ 40))) else (some false))))) else (some false)) else (some false))) else (some false))
theorem impl_WorldOk.calls (k : Nat) (aD : Int) (aT : Option Addr) (aU : Nat) (aH : List (S107)) (aN : Int) (aV : Option Addr) (aW : Nat) (aI : List (S128)) (aX : Option Addr) (aY : Nat) (aJ : List (S103)) (aZ : Option Addr) (bA : Nat) (aK : List (S103)) (aL : Int) (cC : Option Addr) (cD : Nat) (aO : List (S107)) (aS : Int) (cE : Option Addr) (cF : Nat) (aP : List (S128)) (bB : Option Addr) (bC : Nat) (aF : List (S103)) (bD : Option Addr) (bE : Nat) (aG : List (S103)) (bF : Option Addr) (bG : Nat) (aC : List (S76)) (bH : Option Addr) (bI : Nat) (aE : List (S55)) (bJ : Option Addr) (bK : Nat) (aM : List (S55)) (r : Bool) (w : World) (cV : Kd.C k107 w aT aH.length aH) (cW : aH.length ≤ aU) (cX : Kd.C k128 w aV aI.length aI) (cY : aI.length ≤ aW) (cZ : Kd.C k103 w aX aJ.length aJ) (dA : aJ.length ≤ aY) (dB : Kd.C k103 w aZ aK.length aK) (dC : aK.length ≤ bA) (dD : Kd.C k107 w cC aO.length aO) (dE : aO.length ≤ cD) (dF : Kd.C k128 w cE aP.length aP) (dG : aP.length ≤ cF) (cK : Kd.C k103 w bB aF.length aF) (cL : aF.length ≤ bC) (cM : Kd.C k103 w bD aG.length aG) (cN : aG.length ≤ bE) (cO : Kd.C k76 w bF aC.length aC) (cP : aC.length ≤ bG) (cQ : Kd.C k55 w bH aE.length aE) (cR : aE.length ≤ bI) (cS : Kd.C k55 w bJ aM.length aM) (cT : aM.length ≤ bK) (h : impl_WorldOk.f k aD aH aN aI aJ aK aL aO aS aP aF aG aC aE aM = some r) :
  Calls Tryz.prog 16 #[.agg #[.int .i64 aD, .slice aT aH.length aU, .int .i64 aN, .slice aV aI.length aW, .slice aX aJ.length aY, .slice aZ aK.length bA, .int .i64 aL, .slice cC aO.length cD, .int .i64 aS, .slice cE aP.length cF, .slice bB aF.length bC, .slice bD aG.length bE, .slice bF aC.length bG, .slice bH aE.length bI, .slice bJ aM.length bK]] w fun e w' => e = .returned (.bool r) ∧ Below w.heap.size w w' := by
 have pZ := Tryz.underlying45
 have qA := Tryz.underlying41
 have bP := Aside0.mk cV
 have bQ := Aside0.mk cW
 clear cV cW
 have bR := Aside0.mk cX
 have bS := Aside0.mk cY
 clear cX cY
 have bT := Aside0.mk cZ
 have bU := Aside0.mk dA
 clear cZ dA
 have bV := Aside0.mk dB
 have bW := Aside0.mk dC
 clear dB dC
 have bX := Aside0.mk dD
 have bY := Aside0.mk dE
 clear dD dE
 have bZ := Aside0.mk dF
 have cA := Aside0.mk dG
 clear dF dG
 have bL := Aside0.mk cK
 have bM := Aside0.mk cL
 clear cK cL
 have bN := Aside0.mk cM
 have bO := Aside0.mk cN
 clear cM cN
 have cH := Aside0.mk cO
 have cI := Aside0.mk cP
 clear cO cP
 have pH := Aside0.mk cQ
 have pI := Aside0.mk cR
 clear cQ cR
 have pJ := Aside0.mk cS
 have pK := Aside0.mk cT
 clear cS cT
 have HB := am (Below.refl w.heap.size w)
 have H : ((impl_GateOk.f k aD aH aN aI aJ aK).bind fun cU => (if cU = true then ((impl_GateOk.f k aL aO aS aP aF aG).bind fun cJ => (if cJ = true then (if aD = aL then (if (aC.length : Int) > 12 then (some false) else ((impl_Air_34_WorldOk_cl1.f k aC).bind fun cG => (if cG = true then (some false) else (if (aE.length : Int) ≤ 40 then (some (decide ((aM.length : Int) ≤ 40))) else (some false))))) else (some false)) else (some false))) else (some false))) = some r := h
 clear h
 replace H := bm H
 obtain ⟨cU, pX, H⟩ := H
 replace H : (if cU = true then ((impl_GateOk.f k aL aO aS aP aF aG).bind fun cJ => (if cJ = true then (if aD = aL then (if (aC.length : Int) > 12 then (some false) else ((impl_Air_34_WorldOk_cl1.f k aC).bind fun cG => (if cG = true then (some false) else (if (aE.length : Int) ≤ 40 then (some (decide ((aM.length : Int) ≤ 40))) else (some false))))) else (some false)) else (some false))) else (some false)) = some r := H
 have A2 := Aside0.mk pX
 clear pX
 by_cases c3 : cU = true
 ·subst c3
  have H1 := pf H
  clear H
  have H := H1
  clear H1
  replace H := bm H
  obtain ⟨cJ, pY, H⟩ := H
  replace H : (if cJ = true then (if aD = aL then (if (aC.length : Int) > 12 then (some false) else ((impl_Air_34_WorldOk_cl1.f k aC).bind fun cG => (if cG = true then (some false) else (if (aE.length : Int) ≤ 40 then (some (decide ((aM.length : Int) ≤ 40))) else (some false))))) else (some false)) else (some false)) = some r := H
  have A4 := Aside0.mk pY
  clear pY
  by_cases c5 : cJ = true
  ·subst c5
   have H1 := pf H
   clear H
   have H := H1
   clear H1
   by_cases c6 : aD = aL
   ·rw [if_pos c6] at H
    have c6b0 : (aD == aL) = true := beq_iff_eq.mpr c6
    have c6b1 : (aD != aL) = false := bne_eq_false_iff_eq.mpr c6
    clear c6
    by_cases c7 : (aC.length : Int) > 12
    ·rw [if_pos c7] at H
     have c7b0 : decide (12 < (aC.length : Int)) = true := decide_eq_true c7
     have c7b1 : decide (12 < aC.length) = true := decide_eq_true (by omega)
     clear c7
     obtain rfl := sj H
     go_enter Tryz.func16, Tryz.ntmps16
     go_wp2_with (first | ((with_reducible refine gate_dst (N := 1) rfl ?_); (try (refine gate_guard (by rfl) ?_; dsimp only)); refine box_event rfl (N := 1) rfl (cs := #[.int .i64 aD, .slice aT aH.length aU, .int .i64 aN, .slice aV aI.length aW, .slice aX aJ.length aY, .slice aZ aK.length bA, .int .i64 aL, .slice cC aO.length cD, .int .i64 aS, .slice cE aP.length cF, .slice bB aF.length bC, .slice bD aG.length bE, .slice bF aC.length bG, .slice bH aE.length bI, .slice bJ aM.length bK]) (t := 45) BX ?_; intro cB hg w8 aQ hb; have aA := am (aQ); have aR := am (GH HB hg); have aB := aR; replace HB := bl (KL HB) hb; clear hb aQ hg; have ⟨_, _, _, _, _, _, _, _, _, _, _, _, _, _, _, _⟩ := y15 w8 aA.out) | ((with_reducible refine gate_callee (f := 33) rfl ?_); refine goesL_ (some 6) rfl rfl Tryz.func33 (by kernel_rfl) rfl #[.agg #[.int .i64 aD, .slice aT aH.length aU, .int .i64 aN, .slice aV aI.length aW, .slice aX aJ.length aY, .slice aZ aK.length bA]] rfl MT ?_; (with_reducible refine (impl_GateOk.calls k aD _ _ aH aN _ _ aI _ _ aJ _ _ aK true _ ?_ ?_ ?_ ?_ ?_ ?_ ?_ ?_ A2.out).mono ?_); exact KD bP HB; exact bQ.out; exact KD bR HB; exact bS.out; exact KD bT HB; exact bU.out; exact KD bV HB; exact bW.out; rintro e qB ⟨rfl, hb⟩; refine ⟨_, rfl, ?_⟩; replace aA := am (BB aA hb); replace HB := bl (K1 HB aB.out) hb; (try clear hb); have ⟨_, _, _, _, _, _, _, _, _, _, _, _, _, _, _, _⟩ := y15 qB aA.out) | (go_at_call 33; (with_reducible refine (impl_GateOk.calls k aL _ _ aO aS _ _ aP _ _ aF _ _ aG true _ ?_ ?_ ?_ ?_ ?_ ?_ ?_ ?_ A4.out).mono ?_); exact KD bX HB; exact bY.out; exact KD bZ HB; exact cA.out; exact KD bL HB; exact bM.out; exact KD bN HB; exact bO.out; rintro e qC ⟨rfl, hb⟩; replace aA := am (BB aA hb); replace HB := bl (K1 HB aB.out) hb; (try clear hb); have ⟨_, _, _, _, _, _, _, _, _, _, _, _, _, _, _, _⟩ := y15 qC aA.out))
     go_ret
     exact ⟨ER, K1 HB aB.out⟩
    ·rw [if_neg c7] at H
     have c7b0 : decide (12 < (aC.length : Int)) = false := decide_eq_false c7
     have c7b1 : decide (12 < aC.length) = false := decide_eq_false (by omega)
     clear c7
     replace H := bm H
     obtain ⟨cG, dS, H⟩ := H
     replace H : (if cG = true then (some false) else (if (aE.length : Int) ≤ 40 then (some (decide ((aM.length : Int) ≤ 40))) else (some false))) = some r := H
     have pW := Aside0.mk dS
     clear dS
     by_cases iB : cG = true
     ·subst iB
      have H1 := pf H
      clear H
      have H := H1
      clear H1
      obtain rfl := sj H
      go_enter Tryz.func16, Tryz.ntmps16
      go_wp2_with (first | ((with_reducible refine gate_dst (N := 1) rfl ?_); (try (refine gate_guard (by rfl) ?_; dsimp only)); refine box_event rfl (N := 1) rfl (cs := #[.int .i64 aD, .slice aT aH.length aU, .int .i64 aN, .slice aV aI.length aW, .slice aX aJ.length aY, .slice aZ aK.length bA, .int .i64 aL, .slice cC aO.length cD, .int .i64 aS, .slice cE aP.length cF, .slice bB aF.length bC, .slice bD aG.length bE, .slice bF aC.length bG, .slice bH aE.length bI, .slice bJ aM.length bK]) (t := 45) BX ?_; intro cB hg qD aQ hb; have aA := am (aQ); have aR := am (GH HB hg); have aB := aR; replace HB := bl (KL HB) hb; clear hb aQ hg; have ⟨_, _, _, _, _, _, _, _, _, _, _, _, _, _, _, _⟩ := y15 qD aA.out) | ((with_reducible refine gate_callee (f := 33) rfl ?_); refine goesL_ (some 6) rfl rfl Tryz.func33 (by kernel_rfl) rfl #[.agg #[.int .i64 aD, .slice aT aH.length aU, .int .i64 aN, .slice aV aI.length aW, .slice aX aJ.length aY, .slice aZ aK.length bA]] rfl MT ?_; (with_reducible refine (impl_GateOk.calls k aD _ _ aH aN _ _ aI _ _ aJ _ _ aK true _ ?_ ?_ ?_ ?_ ?_ ?_ ?_ ?_ A2.out).mono ?_); exact KD bP HB; exact bQ.out; exact KD bR HB; exact bS.out; exact KD bT HB; exact bU.out; exact KD bV HB; exact bW.out; rintro e qE ⟨rfl, hb⟩; refine ⟨_, rfl, ?_⟩; replace aA := am (BB aA hb); replace HB := bl (K1 HB aB.out) hb; (try clear hb); have ⟨_, _, _, _, _, _, _, _, _, _, _, _, _, _, _, _⟩ := y15 qE aA.out) | (go_at_call 33; (with_reducible refine (impl_GateOk.calls k aL _ _ aO aS _ _ aP _ _ aF _ _ aG true _ ?_ ?_ ?_ ?_ ?_ ?_ ?_ ?_ A4.out).mono ?_); exact KD bX HB; exact bY.out; exact KD bZ HB; exact cA.out; exact KD bL HB; exact bM.out; exact KD bN HB; exact bO.out; rintro e qF ⟨rfl, hb⟩; replace aA := am (BB aA hb); replace HB := bl (K1 HB aB.out) hb; (try clear hb); have ⟨_, _, _, _, _, _, _, _, _, _, _, _, _, _, _, _⟩ := y15 qF aA.out) | (go_at_call 34; (with_reducible refine (impl_Air_34_WorldOk_cl1.calls k _ _ aC  true _ ?_ ?_ pW.out).mono ?_); exact KD cH HB; exact cI.out; rintro e qU ⟨rfl, hb⟩; replace aA := am (BB aA hb); replace HB := bl (K1 HB aB.out) hb; (try clear hb)))
      go_ret
      exact ⟨ER, K1 HB aB.out⟩
     ·replace iB := Bool.eq_false_iff.mpr iB
      subst iB
      have H1 := nf H
      clear H
      have H := H1
      clear H1
      by_cases dH : (aE.length : Int) ≤ 40
      ·rw [if_pos dH] at H
       have c23b0 : decide ((aE.length : Int) ≤ 40) = true := decide_eq_true dH
       have c23b1 : decide (aE.length ≤ 40) = true := decide_eq_true (by omega)
       clear dH
       obtain rfl := sj H
       go_enter Tryz.func16, Tryz.ntmps16
       go_wp2_with (first | ((with_reducible refine gate_dst (N := 1) rfl ?_); (try (refine gate_guard (by rfl) ?_; dsimp only)); refine box_event rfl (N := 1) rfl (cs := #[.int .i64 aD, .slice aT aH.length aU, .int .i64 aN, .slice aV aI.length aW, .slice aX aJ.length aY, .slice aZ aK.length bA, .int .i64 aL, .slice cC aO.length cD, .int .i64 aS, .slice cE aP.length cF, .slice bB aF.length bC, .slice bD aG.length bE, .slice bF aC.length bG, .slice bH aE.length bI, .slice bJ aM.length bK]) (t := 45) BX ?_; intro cB hg qG aQ hb; have aA := am (aQ); have aR := am (GH HB hg); have aB := aR; replace HB := bl (KL HB) hb; clear hb aQ hg; have ⟨_, _, _, _, _, _, _, _, _, _, _, _, _, _, _, _⟩ := y15 qG aA.out) | ((with_reducible refine gate_callee (f := 33) rfl ?_); refine goesL_ (some 6) rfl rfl Tryz.func33 (by kernel_rfl) rfl #[.agg #[.int .i64 aD, .slice aT aH.length aU, .int .i64 aN, .slice aV aI.length aW, .slice aX aJ.length aY, .slice aZ aK.length bA]] rfl MT ?_; (with_reducible refine (impl_GateOk.calls k aD _ _ aH aN _ _ aI _ _ aJ _ _ aK true _ ?_ ?_ ?_ ?_ ?_ ?_ ?_ ?_ A2.out).mono ?_); exact KD bP HB; exact bQ.out; exact KD bR HB; exact bS.out; exact KD bT HB; exact bU.out; exact KD bV HB; exact bW.out; rintro e qH ⟨rfl, hb⟩; refine ⟨_, rfl, ?_⟩; replace aA := am (BB aA hb); replace HB := bl (K1 HB aB.out) hb; (try clear hb); have ⟨_, _, _, _, _, _, _, _, _, _, _, _, _, _, _, _⟩ := y15 qH aA.out) | (go_at_call 33; (with_reducible refine (impl_GateOk.calls k aL _ _ aO aS _ _ aP _ _ aF _ _ aG true _ ?_ ?_ ?_ ?_ ?_ ?_ ?_ ?_ A4.out).mono ?_); exact KD bX HB; exact bY.out; exact KD bZ HB; exact cA.out; exact KD bL HB; exact bM.out; exact KD bN HB; exact bO.out; rintro e qI ⟨rfl, hb⟩; replace aA := am (BB aA hb); replace HB := bl (K1 HB aB.out) hb; (try clear hb); have ⟨_, _, _, _, _, _, _, _, _, _, _, _, _, _, _, _⟩ := y15 qI aA.out) | (go_at_call 34; (with_reducible refine (impl_Air_34_WorldOk_cl1.calls k _ _ aC  false _ ?_ ?_ pW.out).mono ?_); exact KD cH HB; exact cI.out; rintro e qJ ⟨rfl, hb⟩; replace aA := am (BB aA hb); replace HB := bl (K1 HB aB.out) hb; (try clear hb); have ⟨_, _, _, _, _, _, _, _, _, _, _, _, _, _, _, _⟩ := y15 qJ aA.out))
       go_ret
       exact ⟨ER, K1 HB aB.out⟩
      ·rw [if_neg dH] at H
       have c23b0 : decide ((aE.length : Int) ≤ 40) = false := decide_eq_false dH
       have c23b1 : decide (aE.length ≤ 40) = false := decide_eq_false (by omega)
       clear dH
       obtain rfl := sj H
       go_enter Tryz.func16, Tryz.ntmps16
       go_wp2_with (first | ((with_reducible refine gate_dst (N := 1) rfl ?_); (try (refine gate_guard (by rfl) ?_; dsimp only)); refine box_event rfl (N := 1) rfl (cs := #[.int .i64 aD, .slice aT aH.length aU, .int .i64 aN, .slice aV aI.length aW, .slice aX aJ.length aY, .slice aZ aK.length bA, .int .i64 aL, .slice cC aO.length cD, .int .i64 aS, .slice cE aP.length cF, .slice bB aF.length bC, .slice bD aG.length bE, .slice bF aC.length bG, .slice bH aE.length bI, .slice bJ aM.length bK]) (t := 45) BX ?_; intro cB hg qK aQ hb; have aA := am (aQ); have aR := am (GH HB hg); have aB := aR; replace HB := bl (KL HB) hb; clear hb aQ hg; have ⟨_, _, _, _, _, _, _, _, _, _, _, _, _, _, _, _⟩ := y15 qK aA.out) | ((with_reducible refine gate_callee (f := 33) rfl ?_); refine goesL_ (some 6) rfl rfl Tryz.func33 (by kernel_rfl) rfl #[.agg #[.int .i64 aD, .slice aT aH.length aU, .int .i64 aN, .slice aV aI.length aW, .slice aX aJ.length aY, .slice aZ aK.length bA]] rfl MT ?_; (with_reducible refine (impl_GateOk.calls k aD _ _ aH aN _ _ aI _ _ aJ _ _ aK true _ ?_ ?_ ?_ ?_ ?_ ?_ ?_ ?_ A2.out).mono ?_); exact KD bP HB; exact bQ.out; exact KD bR HB; exact bS.out; exact KD bT HB; exact bU.out; exact KD bV HB; exact bW.out; rintro e qL ⟨rfl, hb⟩; refine ⟨_, rfl, ?_⟩; replace aA := am (BB aA hb); replace HB := bl (K1 HB aB.out) hb; (try clear hb); have ⟨_, _, _, _, _, _, _, _, _, _, _, _, _, _, _, _⟩ := y15 qL aA.out) | (go_at_call 33; (with_reducible refine (impl_GateOk.calls k aL _ _ aO aS _ _ aP _ _ aF _ _ aG true _ ?_ ?_ ?_ ?_ ?_ ?_ ?_ ?_ A4.out).mono ?_); exact KD bX HB; exact bY.out; exact KD bZ HB; exact cA.out; exact KD bL HB; exact bM.out; exact KD bN HB; exact bO.out; rintro e qM ⟨rfl, hb⟩; replace aA := am (BB aA hb); replace HB := bl (K1 HB aB.out) hb; (try clear hb); have ⟨_, _, _, _, _, _, _, _, _, _, _, _, _, _, _, _⟩ := y15 qM aA.out) | (go_at_call 34; (with_reducible refine (impl_Air_34_WorldOk_cl1.calls k _ _ aC  false _ ?_ ?_ pW.out).mono ?_); exact KD cH HB; exact cI.out; rintro e qN ⟨rfl, hb⟩; replace aA := am (BB aA hb); replace HB := bl (K1 HB aB.out) hb; (try clear hb); have ⟨_, _, _, _, _, _, _, _, _, _, _, _, _, _, _, _⟩ := y15 qN aA.out))
       go_ret
       exact ⟨ER, K1 HB aB.out⟩
   ·rw [if_neg c6] at H
    have c6b0 : (aD == aL) = false := beq_eq_false_iff_ne.mpr c6
    have c6b1 : (aD != aL) = true := bne_iff_ne.mpr c6
    obtain rfl := sj H
    go_enter Tryz.func16, Tryz.ntmps16
    go_wp2_with (first | ((with_reducible refine gate_dst (N := 1) rfl ?_); (try (refine gate_guard (by rfl) ?_; dsimp only)); refine box_event rfl (N := 1) rfl (cs := #[.int .i64 aD, .slice aT aH.length aU, .int .i64 aN, .slice aV aI.length aW, .slice aX aJ.length aY, .slice aZ aK.length bA, .int .i64 aL, .slice cC aO.length cD, .int .i64 aS, .slice cE aP.length cF, .slice bB aF.length bC, .slice bD aG.length bE, .slice bF aC.length bG, .slice bH aE.length bI, .slice bJ aM.length bK]) (t := 45) BX ?_; intro cB hg qO aQ hb; have aA := am (aQ); have aR := am (GH HB hg); have aB := aR; replace HB := bl (KL HB) hb; clear hb aQ hg; have ⟨_, _, _, _, _, _, _, _, _, _, _, _, _, _, _, _⟩ := y15 qO aA.out) | ((with_reducible refine gate_callee (f := 33) rfl ?_); refine goesL_ (some 6) rfl rfl Tryz.func33 (by kernel_rfl) rfl #[.agg #[.int .i64 aD, .slice aT aH.length aU, .int .i64 aN, .slice aV aI.length aW, .slice aX aJ.length aY, .slice aZ aK.length bA]] rfl MT ?_; (with_reducible refine (impl_GateOk.calls k aD _ _ aH aN _ _ aI _ _ aJ _ _ aK true _ ?_ ?_ ?_ ?_ ?_ ?_ ?_ ?_ A2.out).mono ?_); exact KD bP HB; exact bQ.out; exact KD bR HB; exact bS.out; exact KD bT HB; exact bU.out; exact KD bV HB; exact bW.out; rintro e qP ⟨rfl, hb⟩; refine ⟨_, rfl, ?_⟩; replace aA := am (BB aA hb); replace HB := bl (K1 HB aB.out) hb; (try clear hb); have ⟨_, _, _, _, _, _, _, _, _, _, _, _, _, _, _, _⟩ := y15 qP aA.out) | (go_at_call 33; (with_reducible refine (impl_GateOk.calls k aL _ _ aO aS _ _ aP _ _ aF _ _ aG true _ ?_ ?_ ?_ ?_ ?_ ?_ ?_ ?_ A4.out).mono ?_); exact KD bX HB; exact bY.out; exact KD bZ HB; exact cA.out; exact KD bL HB; exact bM.out; exact KD bN HB; exact bO.out; rintro e qQ ⟨rfl, hb⟩; replace aA := am (BB aA hb); replace HB := bl (K1 HB aB.out) hb; (try clear hb); have ⟨_, _, _, _, _, _, _, _, _, _, _, _, _, _, _, _⟩ := y15 qQ aA.out))
    go_ret
    exact ⟨ER, K1 HB aB.out⟩
  ·replace c5 := Bool.eq_false_iff.mpr c5
   subst c5
   have H1 := nf H
   clear H
   have H := H1
   clear H1
   obtain rfl := sj H
   go_enter Tryz.func16, Tryz.ntmps16
   go_wp2_with (first | ((with_reducible refine gate_dst (N := 1) rfl ?_); (try (refine gate_guard (by rfl) ?_; dsimp only)); refine box_event rfl (N := 1) rfl (cs := #[.int .i64 aD, .slice aT aH.length aU, .int .i64 aN, .slice aV aI.length aW, .slice aX aJ.length aY, .slice aZ aK.length bA, .int .i64 aL, .slice cC aO.length cD, .int .i64 aS, .slice cE aP.length cF, .slice bB aF.length bC, .slice bD aG.length bE, .slice bF aC.length bG, .slice bH aE.length bI, .slice bJ aM.length bK]) (t := 45) BX ?_; intro cB hg qR aQ hb; have aA := am (aQ); have aR := am (GH HB hg); have aB := aR; replace HB := bl (KL HB) hb; clear hb aQ hg; have ⟨_, _, _, _, _, _, _, _, _, _, _, _, _, _, _, _⟩ := y15 qR aA.out) | ((with_reducible refine gate_callee (f := 33) rfl ?_); refine goesL_ (some 6) rfl rfl Tryz.func33 (by kernel_rfl) rfl #[.agg #[.int .i64 aD, .slice aT aH.length aU, .int .i64 aN, .slice aV aI.length aW, .slice aX aJ.length aY, .slice aZ aK.length bA]] rfl MT ?_; (with_reducible refine (impl_GateOk.calls k aD _ _ aH aN _ _ aI _ _ aJ _ _ aK true _ ?_ ?_ ?_ ?_ ?_ ?_ ?_ ?_ A2.out).mono ?_); exact KD bP HB; exact bQ.out; exact KD bR HB; exact bS.out; exact KD bT HB; exact bU.out; exact KD bV HB; exact bW.out; rintro e qS ⟨rfl, hb⟩; refine ⟨_, rfl, ?_⟩; replace aA := am (BB aA hb); replace HB := bl (K1 HB aB.out) hb; (try clear hb); have ⟨_, _, _, _, _, _, _, _, _, _, _, _, _, _, _, _⟩ := y15 qS aA.out) | (go_at_call 33; (with_reducible refine (impl_GateOk.calls k aL _ _ aO aS _ _ aP _ _ aF _ _ aG false _ ?_ ?_ ?_ ?_ ?_ ?_ ?_ ?_ A4.out).mono ?_); exact KD bX HB; exact bY.out; exact KD bZ HB; exact cA.out; exact KD bL HB; exact bM.out; exact KD bN HB; exact bO.out; rintro e qV ⟨rfl, hb⟩; replace aA := am (BB aA hb); replace HB := bl (K1 HB aB.out) hb; (try clear hb)))
   go_ret
   exact ⟨ER, K1 HB aB.out⟩
 ·replace c3 := Bool.eq_false_iff.mpr c3
  subst c3
  have H1 := nf H
  clear H
  have H := H1
  clear H1
  obtain rfl := sj H
  go_enter Tryz.func16, Tryz.ntmps16
  go_wp2_with (first | ((with_reducible refine gate_dst (N := 1) rfl ?_); (try (refine gate_guard (by rfl) ?_; dsimp only)); refine box_event rfl (N := 1) rfl (cs := #[.int .i64 aD, .slice aT aH.length aU, .int .i64 aN, .slice aV aI.length aW, .slice aX aJ.length aY, .slice aZ aK.length bA, .int .i64 aL, .slice cC aO.length cD, .int .i64 aS, .slice cE aP.length cF, .slice bB aF.length bC, .slice bD aG.length bE, .slice bF aC.length bG, .slice bH aE.length bI, .slice bJ aM.length bK]) (t := 45) BX ?_; intro cB hg qT aQ hb; have aA := am (aQ); have aR := am (GH HB hg); have aB := aR; replace HB := bl (KL HB) hb; clear hb aQ hg; have ⟨_, _, _, _, _, _, _, _, _, _, _, _, _, _, _, _⟩ := y15 qT aA.out) | ((with_reducible refine gate_callee (f := 33) rfl ?_); refine goesL_ (some 6) rfl rfl Tryz.func33 (by kernel_rfl) rfl #[.agg #[.int .i64 aD, .slice aT aH.length aU, .int .i64 aN, .slice aV aI.length aW, .slice aX aJ.length aY, .slice aZ aK.length bA]] rfl MT ?_; (with_reducible refine (impl_GateOk.calls k aD _ _ aH aN _ _ aI _ _ aJ _ _ aK false _ ?_ ?_ ?_ ?_ ?_ ?_ ?_ ?_ A2.out).mono ?_); exact KD bP HB; exact bQ.out; exact KD bR HB; exact bS.out; exact KD bT HB; exact bU.out; exact KD bV HB; exact bW.out; rintro e qW ⟨rfl, hb⟩; refine ⟨_, rfl, ?_⟩; replace aA := am (BB aA hb); replace HB := bl (K1 HB aB.out) hb; (try clear hb)))
  go_ret
  exact ⟨ER, K1 HB aB.out⟩
end Go.Proofs.YtgjbbnmjeblcgaaGreat.PAll
end
section
namespace Go.Proofs.YtgjbbnmjeblcgaaGreat.PAll
open Go.RowKit Go.Proofs.YtgjbbnmjeblcgaaGreatW.PrintWords Go.Proofs.YtgjbbnmjeblcgaaGreatW.PrintLast Go.Proofs.YtgjbbnmjeblcgaaGreatW.PrintMore
attribute [local go_sem] max2_int min2_int max_two min_two max_three min_three max_four min_four
set_option linter.unusedVariables false
set_option linter.unusedSimpArgs false
open Go.Maps Go.WideMaps Go.ChangeMaps
/-- A map whose elements are true: its keys. -/
def SetAt (P : Program) (k : TypeId) (w : World) (mb : Nat) (keys : List Value) : Prop :=
 ∃ es clock, w.heap[mb]? = some (.map es clock) ∧ (∀ e ∈ es.toList, e.val = .bool true ∧ ∃ l, keyOf P k e.key = some l) ∧ ∀ v, (∃ e ∈ es.toList, e.key = v) ↔ v ∈ keys
theorem SetAt.made {P : Program} {k : TypeId} {w : World} {mb : Nat} (h : w.heap[mb]? = some (.map #[] 0)) : SetAt P k w mb [] := ⟨#[], 0, h, by simp, by simp⟩
theorem SetAt.same {P : Program} {k : TypeId} {w w' : World} {mb : Nat} {keys : List Value} (h : SetAt P k w mb keys) (e : w'.heap[mb]? = w.heap[mb]?) : SetAt P k w' mb keys := by
 obtain ⟨es, c, hb, r⟩ := h
 exact ⟨es, c, e.trans hb, r⟩
theorem SetAt.look {P : Program} {k t e : TypeId} {w : World} {mb : Nat} {keys : List Value} (h : SetAt P k w mb keys) (K : Keyed P k) (ht : P.underlying t = some (.map k e)) (hz : (zeroValue e).run P w = .ok (.bool false) w) {key : Value} {kl : Lit} (hkey : keyOf P k key = some kl)
  (b : Bool) (hb : b = true ↔ key ∈ keys) : (Instr.lookup t (.map (some mb)) key false).run P w = .ok (.bool b) w := by
 obtain ⟨es, c, hh, h1, h2⟩ := h
 rcases K.find w hkey es.toList (fun e he => (h1 e he).2) with ⟨q1, q2⟩ | ⟨j, e0, q1, q2, q3⟩
 ·have : b = false := by
   rw [Bool.eq_false_iff]
   intro hbt
   obtain ⟨e0, he, hk⟩ := (h2 key).2 (hb.1 hbt)
   exact q2 e0 he hk
  subst this
  simp [Instr.lookup, run_underlying ht, MapKept.run_getObj_map hh, K.check w _ hkey, q1, hz, Result.andThen]
 ·have hm := List.mem_of_getElem? q2
  have : b = true := hb.2 ((h2 key).1 ⟨e0, hm, q3⟩)
  subst this
  simp [Instr.lookup, run_underlying ht, MapKept.run_getObj_map hh, K.check w _ hkey, q1, Result.andThen, (h1 e0 hm).1]
theorem SetAt.put {P : Program} {k t e : TypeId} {w : World} {mb : Nat} {keys : List Value} (h : SetAt P k w mb keys) (K : Keyed P k) (ht : P.underlying t = some (.map k e)) {key : Value} {kl : Lit} (hkey : keyOf P k key = some kl) :
  ∃ w', (Instr.mapUpdate t (.map (some mb)) key (.bool true)).run P w = .ok () w' ∧ SetAt P k w' mb (key :: keys) ∧ w.grownBy w' (some mb) := by
 obtain ⟨es, c, hh, h1, h2⟩ := h
 rcases K.find w hkey es.toList (fun e he => (h1 e he).2) with ⟨q1, q2⟩ | ⟨j, e0, q1, q2, q3⟩
 ·refine ⟨setBlock w mb (.map (es.push ⟨key, .bool true, c⟩) (c + 1)), ?_, ⟨_, _, heap_setBlock_same hh _, ?_, ?_⟩, ⟨rfl, rfl, rfl, by simp [setBlock], fun i _ hi => heap_setBlock_other hh _ (fun e => hi (by rw [e]))⟩⟩
  ·simp [Instr.mapUpdate, run_underlying ht, MapKept.run_getObj_map hh, K.check w false hkey, q1, MapKept.run_setObj_map _ hh, Result.andThen, setBlock]
  ·intro x hx
   simp only [Array.toList_push, List.mem_append, List.mem_singleton] at hx
   rcases hx with hx | rfl
   ·exact h1 x hx
   ·exact ⟨rfl, _, hkey⟩
  ·intro v
   rw [List.mem_cons]
   constructor
   ·rintro ⟨x, hx, e⟩
    rcases List.mem_append.1 (by simpa using hx : x ∈ es.toList ++ [⟨key, .bool true, c⟩]) with hx | hx
    ·exact .inr ((h2 v).1 ⟨x, hx, e⟩)
    ·rw [List.mem_singleton.1 hx] at e; exact .inl e.symm
   ·rintro (e | hv)
    ·exact ⟨⟨key, .bool true, c⟩, by simp, e.symm⟩
    ·obtain ⟨x, hx, e⟩ := (h2 v).2 hv
     exact ⟨x, by simp [Array.mem_toList_iff.1 hx], e⟩
 ·have hj : es[j]? = some e0 := by simpa using q2
  have hm := List.mem_of_getElem? q2
  have hset : (es.modify j (fun e' => { e' with key := key, val := .bool true })).toList = es.toList := by
   rw [Array.toList_modify]
   refine List.ext_getElem? fun i => ?_
   rw [List.getElem?_modify]
   by_cases e : j = i
   ·subst e
    rw [q2]
    have := (h1 e0 hm).1
    cases e0
    simp only [] at q3 this
    simp [q3, this]
   ·simp [e]
  refine ⟨setBlock w mb (.map (es.modify j (fun e' => { e' with key := key, val := .bool true })) c), ?_, ⟨_, _, heap_setBlock_same hh _, ?_, ?_⟩, ⟨rfl, rfl, rfl, by simp [setBlock], fun i _ hi => heap_setBlock_other hh _ (fun e => hi (by rw [e]))⟩⟩
  ·simp [Instr.mapUpdate, run_underlying ht, MapKept.run_getObj_map hh, K.check w false hkey, q1, hj, q3, K.stays w hkey, MapKept.run_setObj_map _ hh, Result.andThen, setBlock]
  ·rw [hset]; exact h1
  ·intro v
   rw [hset, h2 v, List.mem_cons]
   constructor
   ·exact .inr
   ·rintro (e | hv)
    ·rw [e]; exact (h2 key).1 ⟨e0, hm, q3⟩
    ·exact hv
theorem wpList_mapUpdate_set {P : Program} (w : World) {ops : Array Oper} {rest : List Oper} {o : Oper} {a : Act} {Q : Exit → Act → World → Prop} (hg : o.guard = none) (m x v : Operand) (t : TypeId) (hop : o.op = Op.mapUpdate t m x v)
  {k e : TypeId} (K : Keyed P k) (ht : P.underlying t = some (.map k e)) {mb : Nat} {keys : List Value} (hm : a.eval m = .map (some mb)) (h : SetAt P k w mb keys) {key : Value} {kl : Lit} (hx : a.eval x = key) (hv : a.eval v = .bool true) (hkey : keyOf P k key = some kl)
  (hK : ∀ w', SetAt P k w' mb (key :: keys) → w.grownBy w' (some mb) → wpList P ops Q rest (a.put o.dst undef) w') : wpList P ops Q (o :: rest) a w := by
 refine wpList_plain hg fun K' hK' => ?_
 obtain ⟨w', hrun, r1, r2⟩ := h.put K ht hkey
 unfold Oper.wp
 simp [execOp, hop, hm, hx, hv, hrun, Result.andThen]
 exact hK' _ _ (hK w' r1 r2)
theorem map_event {P : Program} {ops : Array Oper} {Q : Exit → Act → World → Prop} {rest : List Oper} {o : Oper} {a : Act} {W : World} (hgd : o.guard = none) {N : Tmp} (_hd : o.dst = some N)
  (hrun : (execOp a.eval o).run P W = .ok (.value (.map (some W.heap.size))) (W.alloc (.map #[] 0)))
  (h : ∀ g, g = W.heap.size → ∀ w1, w1.heap[g]? = some (.map #[] 0) → Below W.heap.size W w1 → wpList P ops Q rest (a.put o.dst (.map (some g))) w1) : wpList P ops Q (o :: rest) a W :=
 Kd.event_run hgd hrun (h _ rfl _ (heap_alloc_new _ _) (below_alloc (Below.refl _ _) _))
/-- A variable that is made and filled at once. -/
theorem mkbox {P : Program} {ops : Array Oper} {rest : List Oper} {o o2 : Oper} {a : Act} {Q : Exit → Act → World → Prop} {W : World} (hgd : o.guard = none) {N : Tmp} (hd : o.dst = some N) {cs : Array Value} {t : TypeId}
  (hrun : (execOp a.eval o).run P W = .ok (.value (.pointer (some ⟨W.heap.size, 0, none⟩))) (W.alloc (.cells cs t (0, 0))))
  (hgd2 : o2.guard = none) (hN2 : o2.dst = none) (x y : Operand) (ho2 : o2.op = .store t x y) (vs : Array Value)
  (hx : ∀ v, (a.put (some N) v).eval x = v) (hy : ∀ v, (a.put (some N) v).eval y = .agg vs) (hs : vs.size = cs.size)
  (hi : (P.info? t).map (·.size) = some vs.size) (h1 : vs.all (·.oneCell') = true)
  (h : ∀ g w1, w1.heap[g]? = some (.cells vs t (0, 0)) → Below W.heap.size W w1 → wpList P ops Q rest (a.put (some N) (.pointer (some ⟨g, 0, none⟩))) w1) :
  wpList P ops Q (o :: o2 :: rest) a W := by
 refine box_event hgd hd hrun ?_
 intro g hg w1 hb1 hB
 rw [hd]
 have hthere : w1.there g 0 vs.size := fun j hj => by
  rw [Nat.zero_add]
  refine ⟨?_, blk_frozen hb1 j⟩
  rw [blk_cell hb1 j, Array.getElem?_eq_getElem (by omega)]
  rfl
 refine wpList_store_mid hgd2 t x y ho2 g 0 vs (hx _) (hy _) hthere hi h1 ?_
 rw [hN2]
 obtain ⟨cur', h3, h4, h5⟩ := setCells_row vs.toList 0 w1 cs hb1 (by simp; omega)
 obtain ⟨s1, s2, s3, s4⟩ := setCells_same g vs.toList 0 w1
 have hc : cur' = vs := by
  apply Array.ext'
  rw [h5]
  have h6 : cs.toList.drop (0 + vs.toList.length) = [] := List.drop_eq_nil_of_le (by simp; omega)
  rw [h6]
  simp
 rw [hc] at h3
 refine h g _ h3 ⟨s1.trans hB.os, s2.trans hB.tape, s3.trans hB.output, by rw [s4]; exact hB.size, fun k hk => ?_⟩
 rw [setCells_far vs.toList 0 k (by omega)]
 exact hB.block k hk
/-- A variable that is read whole. -/
theorem ldbox {P : Program} {ops : Array Oper} {rest : List Oper} {o : Oper} {a : Act} {Q : Exit → Act → World → Prop} {W : World} {t : TypeId} {d : TypeDesc} {g : Nat} (hgd : o.guard = none) (x : Operand) (ho : o.op = .load t x) (hx : a.eval x = .pointer (some ⟨g, 0, none⟩)) (vs : Array Value)
  (hb : W.heap[g]? = some (.cells vs t (0, 0))) (hu : P.underlying t = some d) (hd : d.isRow = true) (hi : (P.info? t).map (·.size) = some vs.toList.length)
  (h : wpList P ops Q rest (a.put o.dst (.agg vs)) W) : wpList P ops Q (o :: rest) a W := by
 refine wpList_load_mid hgd t x ho g 0 hx vs.toList d (fun j v hv => ?_) hu hd hi (by simpa using h)
 rw [Nat.zero_add, blk_cell hb j]
 simpa using hv
theorem lookup_event {P : Program} {ops : Array Oper} {Q : Exit → Act → World → Prop} {rest : List Oper} {o : Oper} {a : Act} {W : World} (hgd : o.guard = none) {m x : Operand} {t : TypeId} (ho : o.op = .lookup t m x false) {mb : Nat} {key : Value} {b : Bool}
  (hm : a.eval m = .map (some mb)) (hx : a.eval x = key) (hrun : (Instr.lookup t (.map (some mb)) key false).run P W = .ok (.bool b) W) (h : wpList P ops Q rest (a.put o.dst (.bool b)) W) : wpList P ops Q (o :: rest) a W := by
 refine wpList_plain hgd fun K hK => ?_
 unfold Oper.wp
 simp [execOp, ho, hm, hx, hrun, Result.andThen]
 exact hK _ _ h
/-- A key of two numbers, as a value. -/
def pk (p : Int × Int) : Value := .agg #[.int .i64 p.1, .int .i64 p.2]
theorem pk_mem (p : Int × Int) (ks : List (Int × Int)) : pk p ∈ ks.map pk ↔ p ∈ ks := by
 rw [List.mem_map]
 constructor
 ·rintro ⟨q, hq, e⟩
  have : q = p := by
   unfold pk at e
   simp only [Value.agg.injEq, Array.mk.injEq, List.cons.injEq, Value.int.injEq, true_and, and_true] at e
   exact Prod.ext e.1 e.2
  rw [← this]; exact hq
 ·exact fun h => ⟨p, h, rfl⟩
/-- What came: each among puts, and no two under one key. -/
def safeL (k : Nat) (ps : List S55) : List S55 → List (Int × Int) → Option Bool
 | [], _ => some true
 | s :: r, ks => if (Lit.int .i64 s.f2).wf = true ∧ (Lit.int .i64 s.f3).wf = true then (if (s.f2, s.f3) ∈ ks then some false else (impl_Sent_17.f k ps s.f0.f0 s.f0.f1 s.f0.f2 s.f0.f3 s.f1 s.f2 s.f3).bind fun b => if b = true then safeL k ps r ((s.f2, s.f3) :: ks) else some false) else none
def impl_WorldSafe.f (k : Nat) (a0_0 : Int) (l0_1 : List (S107)) (a0_2 : Int) (l0_3 : List (S128)) (l0_4 : List (S103)) (l0_5 : List (S103)) (a0_6 : Int) (l0_7 : List (S107)) (a0_8 : Int) (l0_9 : List (S128)) (l0_10 : List (S103)) (l0_11 : List (S103)) (l0_12 : List (S76)) (l0_13 : List (S55)) (l0_14 : List (S55)) : Option (Bool) := (impl_WorldOk.f k a0_0 l0_1 a0_2 l0_3 l0_4 l0_5 a0_6 l0_7 a0_8 l0_9 l0_10 l0_11 l0_12 l0_13 l0_14).bind fun b => if b = true then safeL k l0_13 l0_14 [] else some false
theorem arrK : ArrKey Tryz.prog 60 3 2 := ⟨Tryz.underlying60, by kernel_rfl, by kernel_rfl, by kernel_rfl⟩
theorem below_gr {mb : Nat} {w0 W w1 : World} (h : Below w0.heap.size w0 W) (hg : W.grownBy w1 (some mb)) (hB : w0.heap.size ≤ mb) : Below w0.heap.size w0 w1 :=
 ⟨hg.os.trans h.os, hg.tape.trans h.tape, hg.output.trans h.output, Nat.le_trans h.size hg.size, fun q hq => (hg.block q (Nat.lt_of_lt_of_le hq h.size) (fun e => by injection e with e; omega)).trans (h.block q hq)⟩
theorem set_lt {P : Program} {k : TypeId} {w : World} {mb : Nat} {keys : List Value} (h : SetAt P k w mb keys) : mb < w.heap.size := by obtain ⟨es, cl, hh, _⟩ := h; exact blk_lt hh
theorem set_ne {P : Program} {k : TypeId} {w : World} {mb g : Nat} {keys : List Value} {cs : Array Value} {t : TypeId} (h : SetAt P k w mb keys) (hb : w.heap[g]? = some (.cells cs t (0, 0))) : g ≠ mb := fun e => by obtain ⟨es, cl, hh, _⟩ := h; rw [← e, hb] at hh; cases hh
theorem impl_WorldSafe.calls (k : Nat) (aL : Int) (A_l0_1 : Option Addr) (c_l0_1 : Nat) (aF : List (S107)) (aM : Int) (A_l0_3 : Option Addr) (c_l0_3 : Nat) (aG : List (S128)) (A_l0_4 : Option Addr) (c_l0_4 : Nat) (aH : List (S103)) (A_l0_5 : Option Addr) (c_l0_5 : Nat) (aI : List (S103)) (aN : Int) (A_l0_7 : Option Addr) (c_l0_7 : Nat) (aJ : List (S107)) (aO : Int) (A_l0_9 : Option Addr) (c_l0_9 : Nat) (aK : List (S128)) (A_l0_10 : Option Addr) (c_l0_10 : Nat) (aC : List (S103)) (A_l0_11 : Option Addr) (c_l0_11 : Nat) (aD : List (S103)) (A_l0_12 : Option Addr) (c_l0_12 : Nat) (aE : List (S76)) (A_l0_13 : Option Addr) (c_l0_13 : Nat) (aB : List (S55)) (A_l0_14 : Option Addr) (c_l0_14 : Nat) (aA : List (S55)) (r : Bool) (w : World) (h_l0_1 : Kd.C k107 w A_l0_1 aF.length aF) (g_l0_1 : aF.length ≤ c_l0_1) (h_l0_3 : Kd.C k128 w A_l0_3 aG.length aG) (g_l0_3 : aG.length ≤ c_l0_3) (h_l0_4 : Kd.C k103 w A_l0_4 aH.length aH) (g_l0_4 : aH.length ≤ c_l0_4) (h_l0_5 : Kd.C k103 w A_l0_5 aI.length aI) (g_l0_5 : aI.length ≤ c_l0_5) (h_l0_7 : Kd.C k107 w A_l0_7 aJ.length aJ) (g_l0_7 : aJ.length ≤ c_l0_7) (h_l0_9 : Kd.C k128 w A_l0_9 aK.length aK) (g_l0_9 : aK.length ≤ c_l0_9) (h_l0_10 : Kd.C k103 w A_l0_10 aC.length aC) (g_l0_10 : aC.length ≤ c_l0_10) (h_l0_11 : Kd.C k103 w A_l0_11 aD.length aD) (g_l0_11 : aD.length ≤ c_l0_11) (h_l0_12 : Kd.C k76 w A_l0_12 aE.length aE) (g_l0_12 : aE.length ≤ c_l0_12) (h_l0_13 : Kd.C k55 w A_l0_13 aB.length aB) (g_l0_13 : aB.length ≤ c_l0_13) (h_l0_14 : Kd.C k55 w A_l0_14 aA.length aA) (g_l0_14 : aA.length ≤ c_l0_14) (h : impl_WorldSafe.f k aL aF aM aG aH aI aN aJ aO aK aC aD aE aB aA = some r) :
  Calls Tryz.prog 7 #[.agg #[.int .i64 aL, .slice A_l0_1 aF.length c_l0_1, .int .i64 aM, .slice A_l0_3 aG.length c_l0_3, .slice A_l0_4 aH.length c_l0_4, .slice A_l0_5 aI.length c_l0_5, .int .i64 aN, .slice A_l0_7 aJ.length c_l0_7, .int .i64 aO, .slice A_l0_9 aK.length c_l0_9, .slice A_l0_10 aC.length c_l0_10, .slice A_l0_11 aD.length c_l0_11, .slice A_l0_12 aE.length c_l0_12, .slice A_l0_13 aB.length c_l0_13, .slice A_l0_14 aA.length c_l0_14]] w fun e w' => e = .returned (.bool r) ∧ Below w.heap.size w w' := by
 have hmm := @run_makeMap Tryz.prog
 have H_l0_1 := am h_l0_1
 have H_l0_3 := am h_l0_3
 have H_l0_4 := am h_l0_4
 have H_l0_5 := am h_l0_5
 have H_l0_7 := am h_l0_7
 have H_l0_9 := am h_l0_9
 have H_l0_10 := am h_l0_10
 have H_l0_11 := am h_l0_11
 have H_l0_12 := am h_l0_12
 have H_l0_13 := am h_l0_13
 have H_l0_14 := am h_l0_14
 have aZ := Tryz.underlying55
 unfold impl_WorldSafe.f at h
 obtain ⟨ok, hok, h⟩ := Option.bind_eq_some_iff.mp h
 have HOK := am hok
 have HE := am h
 have HMX := am (h_l0_14).2.1
 clear h_l0_1 h_l0_3 h_l0_4 h_l0_5 h_l0_7 h_l0_9 h_l0_10 h_l0_11 h_l0_12 h_l0_13 h_l0_14 h hok
 go_enter Tryz.func7, Tryz.ntmps7
 go_upto_region 1 with (first | ((with_reducible refine gate_dst (N := 1) rfl ?_); refine box_event rfl (N := 1) rfl (cs := #[.int .i64 aL, .slice A_l0_1 aF.length c_l0_1, .int .i64 aM, .slice A_l0_3 aG.length c_l0_3, .slice A_l0_4 aH.length c_l0_4, .slice A_l0_5 aI.length c_l0_5, .int .i64 aN, .slice A_l0_7 aJ.length c_l0_7, .int .i64 aO, .slice A_l0_9 aK.length c_l0_9, .slice A_l0_10 aC.length c_l0_10, .slice A_l0_11 aD.length c_l0_11, .slice A_l0_12 aE.length c_l0_12, .slice A_l0_13 aB.length c_l0_13, .slice A_l0_14 aA.length c_l0_14]) (t := 45) BX ?_; intro gw hgw w2 aP hbw; have HB := am hbw; have BW := am aP; have GW := am hgw; clear hbw hgw aP))
 cases ok with
 | false =>
  go_wp2_with (first | ((with_reducible refine gate_dst (N := 7) rfl ?_); refine ldbox (t := 45) rfl (.tmp 1) rfl (by rfl) #[.int .i64 aL, .slice A_l0_1 aF.length c_l0_1, .int .i64 aM, .slice A_l0_3 aG.length c_l0_3, .slice A_l0_4 aH.length c_l0_4, .slice A_l0_5 aI.length c_l0_5, .int .i64 aN, .slice A_l0_7 aJ.length c_l0_7, .int .i64 aO, .slice A_l0_9 aK.length c_l0_9, .slice A_l0_10 aC.length c_l0_10, .slice A_l0_11 aD.length c_l0_11, .slice A_l0_12 aE.length c_l0_12, .slice A_l0_13 aB.length c_l0_13, .slice A_l0_14 aA.length c_l0_14] BW.out Tryz.underlying45 rfl (by kernel_rfl) ?_) | (go_at_call 16; refine (impl_WorldOk.calls k aL A_l0_1 c_l0_1 aF aM A_l0_3 c_l0_3 aG A_l0_4 c_l0_4 aH A_l0_5 c_l0_5 aI aN A_l0_7 c_l0_7 aJ aO A_l0_9 c_l0_9 aK A_l0_10 c_l0_10 aC A_l0_11 c_l0_11 aD A_l0_12 c_l0_12 aE A_l0_13 c_l0_13 aB A_l0_14 c_l0_14 aA false _ (Kd.C_below H_l0_1.out HB.out) g_l0_1 (Kd.C_below H_l0_3.out HB.out) g_l0_3 (Kd.C_below H_l0_4.out HB.out) g_l0_4 (Kd.C_below H_l0_5.out HB.out) g_l0_5 (Kd.C_below H_l0_7.out HB.out) g_l0_7 (Kd.C_below H_l0_9.out HB.out) g_l0_9 (Kd.C_below H_l0_10.out HB.out) g_l0_10 (Kd.C_below H_l0_11.out HB.out) g_l0_11 (Kd.C_below H_l0_12.out HB.out) g_l0_12 (Kd.C_below H_l0_13.out HB.out) g_l0_13 (Kd.C_below H_l0_14.out HB.out) g_l0_14 HOK.out).mono ?_; rintro e w3 ⟨rfl, hb⟩))
  go_ret
  have h := HE.out
  rw [if_neg (by simp)] at h
  obtain rfl := Option.some.inj h
  exact ⟨rfl, HB.out.trans (hb.mono HB.out.size)⟩
 | true =>
  go_upto_region 3 with (first | ((with_reducible refine gate_dst (N := 7) rfl ?_); refine ldbox (t := 45) rfl (.tmp 1) rfl (by rfl) #[.int .i64 aL, .slice A_l0_1 aF.length c_l0_1, .int .i64 aM, .slice A_l0_3 aG.length c_l0_3, .slice A_l0_4 aH.length c_l0_4, .slice A_l0_5 aI.length c_l0_5, .int .i64 aN, .slice A_l0_7 aJ.length c_l0_7, .int .i64 aO, .slice A_l0_9 aK.length c_l0_9, .slice A_l0_10 aC.length c_l0_10, .slice A_l0_11 aD.length c_l0_11, .slice A_l0_12 aE.length c_l0_12, .slice A_l0_13 aB.length c_l0_13, .slice A_l0_14 aA.length c_l0_14] BW.out Tryz.underlying45 rfl (by kernel_rfl) ?_) | (go_at_call 16; refine (impl_WorldOk.calls k aL A_l0_1 c_l0_1 aF aM A_l0_3 c_l0_3 aG A_l0_4 c_l0_4 aH A_l0_5 c_l0_5 aI aN A_l0_7 c_l0_7 aJ aO A_l0_9 c_l0_9 aK A_l0_10 c_l0_10 aC A_l0_11 c_l0_11 aD A_l0_12 c_l0_12 aE A_l0_13 c_l0_13 aB A_l0_14 c_l0_14 aA true _ (Kd.C_below H_l0_1.out HB.out) g_l0_1 (Kd.C_below H_l0_3.out HB.out) g_l0_3 (Kd.C_below H_l0_4.out HB.out) g_l0_4 (Kd.C_below H_l0_5.out HB.out) g_l0_5 (Kd.C_below H_l0_7.out HB.out) g_l0_7 (Kd.C_below H_l0_9.out HB.out) g_l0_9 (Kd.C_below H_l0_10.out HB.out) g_l0_10 (Kd.C_below H_l0_11.out HB.out) g_l0_11 (Kd.C_below H_l0_12.out HB.out) g_l0_12 (Kd.C_below H_l0_13.out HB.out) g_l0_13 (Kd.C_below H_l0_14.out HB.out) g_l0_14 HOK.out).mono ?_; rintro e w3 ⟨rfl, hb⟩; replace BW := am (blk_below BW.out hb); replace HB := am (Below.trans HB.out (hb.mono HB.out.size)); clear hb))
  go_upto_region 4 with (first | ((with_reducible refine gate_dst (N := 10) rfl ?_); refine map_event rfl (N := 10) rfl BX ?_; intro mb hmb w4 hmap hbw; have BM := am hmap; have GM := am hmb; have GM0 := am HB.out.size; replace BW := am (blk_below BW.out hbw); replace HB := am (Below.trans HB.out (hbw.mono HB.out.size)); clear hbw hmap hmb))
  have GB := am (show w.heap.size ≤ mb by rw [GM.out]; exact GM0.out)
  clear GM GM0
  have aX : w4.cell? ⟨gw, 14, none⟩ = some (.slice A_l0_14 aA.length c_l0_14) := (blk_cell BW.out 14).trans rfl
  go_wp2
  clear aX
  go_loopg [14] aA.length (fun gg s14 wr => ∃ (jj : Nat) (ks : List (Int × Int)), jj ≤ aA.length ∧ Aside0 (aA.length - jj ≤ gg) ∧ s14 = .int .i64 jj ∧ Aside0 (Below w.heap.size w wr) ∧ Aside0 (wr.heap[gw]? = some (.cells #[.int .i64 aL, .slice A_l0_1 aF.length c_l0_1, .int .i64 aM, .slice A_l0_3 aG.length c_l0_3, .slice A_l0_4 aH.length c_l0_4, .slice A_l0_5 aI.length c_l0_5, .int .i64 aN, .slice A_l0_7 aJ.length c_l0_7, .int .i64 aO, .slice A_l0_9 aK.length c_l0_9, .slice A_l0_10 aC.length c_l0_10, .slice A_l0_11 aD.length c_l0_11, .slice A_l0_12 aE.length c_l0_12, .slice A_l0_13 aB.length c_l0_13, .slice A_l0_14 aA.length c_l0_14] 45 (0, 0))) ∧ Aside0 (SetAt Tryz.prog 60 wr mb (ks.map pk)) ∧ Aside0 (safeL k aB (aA.drop jj) ks = some r))
  case atStart => exact ⟨0, [], Nat.zero_le _, ⟨by omega⟩, rfl, HB, BW, am (SetAt.made BM.out), am (by simpa using HE.out)⟩
  case round =>
   clear HE BM HB BW
   obtain ⟨jj, ks, hjj, hg, rfl, HB, BW, HS, EK⟩ := hrel
   have hml := HMX.out
   by_cases hlt : jj < aA.length
   ·have hltz : (jj : Int) < (aA.length : Int) := by omega
    obtain ⟨ad, e, aQ, aR, aS, aT, aU, aV, aW⟩ := at_T55 (Kd.C_below H_l0_14.out HB.out) (jj : Int) (by omega) hltz
    have hx : rd_T55 aA (jj : Int) = aA[jj] := by
     unfold rd_T55
     rw [Int.toNat_natCast, List.getD_eq_getElem?_getD, List.getElem?_eq_getElem hlt]
     rfl
    rw [hx] at aQ aR aS aT aU aV aW
    have E1 := EK.out
    rw [List.drop_eq_getElem_cons hlt] at E1
    clear EK hx
    generalize aA[jj] = s at aQ aR aS aT aU aV aW E1
    simp only [safeL] at E1
    have WF : Aside0 ((Lit.int .i64 s.f2).wf = true ∧ (Lit.int .i64 s.f3).wf = true) := by
     by_cases c : (Lit.int .i64 s.f2).wf = true ∧ (Lit.int .i64 s.f3).wf = true
     ·exact am c
     ·rw [if_neg c] at E1; cases E1
    rw [if_pos WF.out] at E1
    subst e
    simp only [Int.toNat_natCast] at aQ aR aS aT aU aV aW
    go_upto_region 7 with (first | ((with_reducible refine gate_dst (N := 5) rfl ?_); refine mkbox (N := 5) rfl rfl (cs := #[.int .i64 0, .int .i64 0, .int .i64 0, .string (⟨#[]⟩ : ByteArray), .int .i64 0, .int .i64 0, .int .i64 0]) (t := 55) BX rfl rfl (.tmp 5) (.tmp 17) rfl #[.int .i64 s.f0.f0, .int .i64 s.f0.f1, .int .i64 s.f0.f2, .string s.f0.f3, .int .i64 s.f1, .int .i64 s.f2, .int .i64 s.f3] (by intro v; rfl) (by intro v; rfl) rfl (by kernel_rfl) (by first | kernel_rfl | simp [Value.oneCell']) ?_; intro gs wq hA hb; replace BW := am (blk_below BW.out hb); replace HS := am (HS.out.same (hb.block mb (set_lt HS.out))); replace HB := am (Below.trans HB.out (hb.mono HB.out.size)); have BS := am hA; clear hA hb))
    clear aQ aR aS aT aU aV aW
    have hs5 : wq.cell? ⟨gs, 5, none⟩ = some (.int .i64 s.f2) := (blk_cell BS.out 5).trans rfl
    have hs6 : wq.cell? ⟨gs, 6, none⟩ = some (.int .i64 s.f3) := (blk_cell BS.out 6).trans rfl
    go_upto_region 8 with (first | ((with_reducible refine gate_dst (N := 6) rfl ?_); refine mkbox (N := 6) rfl rfl (cs := #[.int .i64 0, .int .i64 0]) (t := 60) BX rfl rfl (.tmp 6) (.tmp 22) rfl #[.int .i64 s.f2, .int .i64 s.f3] (by intro v; rfl) (by intro v; rfl) rfl (by kernel_rfl) (by first | kernel_rfl | simp [Value.oneCell']) ?_; intro gk wk hA hb; replace BW := am (blk_below BW.out hb); replace HS := am (HS.out.same (hb.block mb (set_lt HS.out))); replace HB := am (Below.trans HB.out (hb.mono HB.out.size)); replace BS := am (blk_below BS.out hb); have BK := am hA; clear hA hb))
    clear hs5 hs6
    by_cases hmem : (s.f2, s.f3) ∈ ks
    ·rw [if_pos hmem] at E1
     obtain rfl := Option.some.inj E1
     have HL := am (HS.out.look (Keyed.of_law arrK.law) Tryz.underlying59 (by rfl) (keyOf_pair arrK Tryz.underlying3 ⟨_, rfl⟩ WF.out.1 WF.out.2) true ⟨fun _ => (pk_mem (s.f2, s.f3) ks).2 hmem, fun _ => rfl⟩)
     go_wp2_with (first | ((with_reducible refine gate_dst (N := 24) rfl ?_); refine ldbox (t := 60) rfl (.tmp 6) rfl (by rfl) #[.int .i64 s.f2, .int .i64 s.f3] BK.out Tryz.underlying60 rfl (by kernel_rfl) ?_) | ((with_reducible refine gate_dst (N := 25) rfl ?_); refine lookup_event rfl rfl (by rfl) (by rfl) HL.out ?_))
     go_ret
     exact ⟨rfl, HB.out⟩
    ·rw [if_neg hmem] at E1
     obtain ⟨b, hb0, E1⟩ := Option.bind_eq_some_iff.mp E1
     have HL := am (HS.out.look (Keyed.of_law arrK.law) Tryz.underlying59 (by rfl) (keyOf_pair arrK Tryz.underlying3 ⟨_, rfl⟩ WF.out.1 WF.out.2) false ⟨fun h => (by cases h), fun h => absurd ((pk_mem (s.f2, s.f3) ks).1 h) hmem⟩)
     have HF := am hb0
     have aY : wk.cell? ⟨gw, 13, none⟩ = some (.slice A_l0_13 aB.length c_l0_13) := (blk_cell BW.out 13).trans rfl
     obtain ⟨bA, bB, bC, bD, bE, bF, bG, hyf⟩ := y7 wk BS.out
     clear hb0
     cases b with
     | false =>
      obtain rfl := Option.some.inj E1
      go_wp2_with (first | ((with_reducible refine gate_dst (N := 24) rfl ?_); refine ldbox (t := 60) rfl (.tmp 6) rfl (by rfl) #[.int .i64 s.f2, .int .i64 s.f3] BK.out Tryz.underlying60 rfl (by kernel_rfl) ?_) | ((with_reducible refine gate_dst (N := 25) rfl ?_); refine lookup_event rfl rfl (by rfl) (by rfl) HL.out ?_) | (go_at_call 17; refine (impl_Sent_17.calls k A_l0_13 c_l0_13 aB s.f0.f0 s.f0.f1 s.f0.f2 s.f0.f3 s.f1 s.f2 s.f3 false _ (Kd.C_below H_l0_13.out HB.out) g_l0_13 HF.out).mono ?_; rintro e w5 ⟨rfl, hb⟩; replace HB := am (Below.trans HB.out (hb.mono HB.out.size)); clear hb))
      go_ret
      exact ⟨rfl, HB.out⟩
     | true =>
      have EK := am (show safeL k aB (aA.drop (jj + 1)) ((s.f2, s.f3) :: ks) = some r by simpa using E1)
      clear E1
      go_upto_region 10 with (first | ((with_reducible refine gate_dst (N := 24) rfl ?_); refine ldbox (t := 60) rfl (.tmp 6) rfl (by rfl) #[.int .i64 s.f2, .int .i64 s.f3] BK.out Tryz.underlying60 rfl (by kernel_rfl) ?_) | ((with_reducible refine gate_dst (N := 25) rfl ?_); refine lookup_event rfl rfl (by rfl) (by rfl) HL.out ?_) | (go_at_call 17; refine (impl_Sent_17.calls k A_l0_13 c_l0_13 aB s.f0.f0 s.f0.f1 s.f0.f2 s.f0.f3 s.f1 s.f2 s.f3 true _ (Kd.C_below H_l0_13.out HB.out) g_l0_13 HF.out).mono ?_; rintro e w5 ⟨rfl, hb⟩; replace BK := am (blk_below BK.out hb); replace BW := am (blk_below BW.out hb); replace HS := am (HS.out.same (hb.block mb (set_lt HS.out))); replace HB := am (Below.trans HB.out (hb.mono HB.out.size)); clear hb))
      clear bA bB bC bD bE bF bG hyf aY HL
      go_wp2_with (first | ((with_reducible refine gate_dst (N := 34) rfl ?_); refine ldbox (t := 60) rfl (.tmp 6) rfl (by rfl) #[.int .i64 s.f2, .int .i64 s.f3] BK.out Tryz.underlying60 rfl (by kernel_rfl) ?_) | (refine wpList_mapUpdate_set _ rfl (.tmp 33) (.tmp 34) _ 59 rfl (Keyed.of_law arrK.law) Tryz.underlying59 (by rfl) HS.out (by rfl) rfl (keyOf_pair arrK Tryz.underlying3 ⟨_, rfl⟩ WF.out.1 WF.out.2) ?_; intro w6 hset hgr; replace BW := am ((hgr.block gw (blk_lt BW.out) (fun e => set_ne HS.out BW.out (Option.some.inj e))).trans BW.out); replace HB := am (below_gr HB.out hgr GB.out); replace HS := am (show SetAt Tryz.prog 60 w6 mb (((s.f2, s.f3) :: ks).map pk) from hset); clear hset hgr))
      go_roundg (aA.length - (jj + 1))
      case measure => have := hg.out; omega
      case rel => exact ⟨jj + 1, _, by omega, ⟨by omega⟩, by go_num, HB, BW, HS, EK⟩
   ·have hltz : ¬ (jj : Int) < (aA.length : Int) := by omega
    have : jj = aA.length := by omega
    have E1 := EK.out
    rw [this, List.drop_length] at E1
    obtain rfl := Option.some.inj E1
    clear EK
    go_wp2
    go_ret
    exact ⟨rfl, HB.out⟩
end Go.Proofs.YtgjbbnmjeblcgaaGreat.PAll
end
section
namespace Go.Proofs.YtgjbbnmjeblcgaaGreat.PAll
open Go.RowKit Go.Proofs.YtgjbbnmjeblcgaaGreatW.PrintWords Go.Proofs.YtgjbbnmjeblcgaaGreatW.PrintLast Go.Proofs.YtgjbbnmjeblcgaaGreatW.PrintMore
attribute [local go_sem] max2_int min2_int max_two min_two max_three min_three max_four min_four
set_option linter.unusedVariables false
set_option linter.unusedSimpArgs false
def laws_FnExactWorldSafe.f (k : Nat) (a0_0 : Int) (l0_1 : List (S111)) (a0_2 : Int) (l0_3 : List (S136)) (l0_4 : List (S96)) (l0_5 : List (S96)) (a0_6 : Int) (l0_7 : List (S111)) (a0_8 : Int) (l0_9 : List (S136)) (l0_10 : List (S96)) (l0_11 : List (S96)) (l0_12 : List (S70)) (l0_13 : List (S74)) (l0_14 : List (S74)) : Option (Bool) := (laws_szWorld.f k a0_0 l0_1 a0_2 l0_3 l0_4 l0_5 a0_6 l0_7 a0_8 l0_9 l0_10 l0_11 l0_12 l0_13 l0_14 1048576).bind fun t102 => (if t102 < 0 then (some true) else ((laws_toWorld.f k a0_0 l0_1 a0_2 l0_3 l0_4 l0_5 a0_6 l0_7 a0_8 l0_9 l0_10 l0_11 l0_12 l0_13 l0_14).bind fun bt103 => ((spec_WorldSafe.f k bt103.1 bt103.2.1 bt103.2.2.1 bt103.2.2.2.1 bt103.2.2.2.2.1 bt103.2.2.2.2.2.1 bt103.2.2.2.2.2.2.1 bt103.2.2.2.2.2.2.2.1 bt103.2.2.2.2.2.2.2.2.1 bt103.2.2.2.2.2.2.2.2.2.1 bt103.2.2.2.2.2.2.2.2.2.2.1 bt103.2.2.2.2.2.2.2.2.2.2.2.1 bt103.2.2.2.2.2.2.2.2.2.2.2.2.1 bt103.2.2.2.2.2.2.2.2.2.2.2.2.2.1 bt103.2.2.2.2.2.2.2.2.2.2.2.2.2.2).bind fun t140 => ((laws_toWorld.f k a0_0 l0_1 a0_2 l0_3 l0_4 l0_5 a0_6 l0_7 a0_8 l0_9 l0_10 l0_11 l0_12 l0_13 l0_14).bind fun bt141 => ((impl_WorldSafe.f k bt141.1 bt141.2.1 bt141.2.2.1 bt141.2.2.2.1 bt141.2.2.2.2.1 bt141.2.2.2.2.2.1 bt141.2.2.2.2.2.2.1 bt141.2.2.2.2.2.2.2.1 bt141.2.2.2.2.2.2.2.2.1 bt141.2.2.2.2.2.2.2.2.2.1 bt141.2.2.2.2.2.2.2.2.2.2.1 bt141.2.2.2.2.2.2.2.2.2.2.2.1 bt141.2.2.2.2.2.2.2.2.2.2.2.2.1 bt141.2.2.2.2.2.2.2.2.2.2.2.2.2.1 bt141.2.2.2.2.2.2.2.2.2.2.2.2.2.2).bind fun t179 => (if (t179 != t140) = true then (some false) else ((laws_toWorld.f k a0_0 l0_1 a0_2 l0_3 l0_4 l0_5 a0_6 l0_7 a0_8 l0_9 l0_10 l0_11 l0_12 l0_13 l0_14).bind fun bt180 => ((laws_eqWorld.f k bt141.1 bt141.2.1 bt141.2.2.1 bt141.2.2.2.1 bt141.2.2.2.2.1 bt141.2.2.2.2.2.1 bt141.2.2.2.2.2.2.1 bt141.2.2.2.2.2.2.2.1 bt141.2.2.2.2.2.2.2.2.1 bt141.2.2.2.2.2.2.2.2.2.1 bt141.2.2.2.2.2.2.2.2.2.2.1 bt141.2.2.2.2.2.2.2.2.2.2.2.1 bt141.2.2.2.2.2.2.2.2.2.2.2.2.1 bt141.2.2.2.2.2.2.2.2.2.2.2.2.2.1 bt141.2.2.2.2.2.2.2.2.2.2.2.2.2.2 bt180.1 bt180.2.1 bt180.2.2.1 bt180.2.2.2.1 bt180.2.2.2.2.1 bt180.2.2.2.2.2.1 bt180.2.2.2.2.2.2.1 bt180.2.2.2.2.2.2.2.1 bt180.2.2.2.2.2.2.2.2.1 bt180.2.2.2.2.2.2.2.2.2.1 bt180.2.2.2.2.2.2.2.2.2.2.1 bt180.2.2.2.2.2.2.2.2.2.2.2.1 bt180.2.2.2.2.2.2.2.2.2.2.2.2.1 bt180.2.2.2.2.2.2.2.2.2.2.2.2.2.1 bt180.2.2.2.2.2.2.2.2.2.2.2.2.2.2).bind fun t217 => (if t217 = true then (some true) else (some false))))))))))
/-- A row that may be read. -/
def RV {α : Type} (d : Kd α) (w : World) (v : Value) (xs : List α) : Prop := ∃ A c, v = .slice A xs.length c ∧ xs.length ≤ c ∧ d.C w A xs.length xs
theorem RV.below {α : Type} {d : Kd α} {w w' : World} {v : Value} {xs : List α} (h : RV d w v xs) (hb : Below w.heap.size w w') : RV d w' v xs := by
 obtain ⟨A, c, e, g, h⟩ := h
 exact ⟨A, c, e, g, Kd.C_below h hb⟩
/-- A world's cells, that may be read. -/
def WX {R E S A N : Type} (kr : Kd R) (ke : Kd E) (ks : Kd S) (ka : Kd A) (kn : Kd N) (w : World) (cs : Array Value) (x0 : Int) (x1 : List R) (x2 : Int) (x3 : List E) (x4 : List S) (x5 : List S) (x6 : Int) (x7 : List R) (x8 : Int) (x9 : List E) (x10 : List S) (x11 : List S) (x12 : List A) (x13 : List N) (x14 : List N) : Prop := ∃ v1 v3 v4 v5 v7 v9 v10 v11 v12 v13 v14, cs = #[.int .i64 x0, v1, .int .i64 x2, v3, v4, v5, .int .i64 x6, v7, .int .i64 x8, v9, v10, v11, v12, v13, v14] ∧ RV kr w v1 x1 ∧ RV ke w v3 x3 ∧ RV ks w v4 x4 ∧ RV ks w v5 x5 ∧ RV kr w v7 x7 ∧ RV ke w v9 x9 ∧ RV ks w v10 x10 ∧ RV ks w v11 x11 ∧ RV ka w v12 x12 ∧ RV kn w v13 x13 ∧ RV kn w v14 x14
theorem WX.below {R E S A N : Type} {kr : Kd R} {ke : Kd E} {ks : Kd S} {ka : Kd A} {kn : Kd N} {w w' : World} {cs : Array Value} {x0 : Int} {x1 : List R} {x2 : Int} {x3 : List E} {x4 : List S} {x5 : List S} {x6 : Int} {x7 : List R} {x8 : Int} {x9 : List E} {x10 : List S} {x11 : List S} {x12 : List A} {x13 : List N} {x14 : List N} (h : WX kr ke ks ka kn w cs x0 x1 x2 x3 x4 x5 x6 x7 x8 x9 x10 x11 x12 x13 x14) (hb : Below w.heap.size w w') : WX kr ke ks ka kn w' cs x0 x1 x2 x3 x4 x5 x6 x7 x8 x9 x10 x11 x12 x13 x14 := by
 obtain ⟨v1, v3, v4, v5, v7, v9, v10, v11, v12, v13, v14, e, h1, h3, h4, h5, h7, h9, h10, h11, h12, h13, h14⟩ := h
 exact ⟨v1, v3, v4, v5, v7, v9, v10, v11, v12, v13, v14, e, h1.below hb, h3.below hb, h4.below hb, h5.below hb, h7.below hb, h9.below hb, h10.below hb, h11.below hb, h12.below hb, h13.below hb, h14.below hb⟩
theorem WX.size {R E S A N : Type} {kr : Kd R} {ke : Kd E} {ks : Kd S} {ka : Kd A} {kn : Kd N} {w : World} {cs : Array Value} {x0 : Int} {x1 : List R} {x2 : Int} {x3 : List E} {x4 : List S} {x5 : List S} {x6 : Int} {x7 : List R} {x8 : Int} {x9 : List E} {x10 : List S} {x11 : List S} {x12 : List A} {x13 : List N} {x14 : List N} (h : WX kr ke ks ka kn w cs x0 x1 x2 x3 x4 x5 x6 x7 x8 x9 x10 x11 x12 x13 x14) : cs.size = 15 ∧ cs.all (·.oneCell') = true := by
 obtain ⟨v1, v3, v4, v5, v7, v9, v10, v11, v12, v13, v14, rfl, ⟨A1, c1, rfl, g1, h1⟩, ⟨A3, c3, rfl, g3, h3⟩, ⟨A4, c4, rfl, g4, h4⟩, ⟨A5, c5, rfl, g5, h5⟩, ⟨A7, c7, rfl, g7, h7⟩, ⟨A9, c9, rfl, g9, h9⟩, ⟨A10, c10, rfl, g10, h10⟩, ⟨A11, c11, rfl, g11, h11⟩, ⟨A12, c12, rfl, g12, h12⟩, ⟨A13, c13, rfl, g13, h13⟩, ⟨A14, c14, rfl, g14, h14⟩⟩ := h
 exact ⟨rfl, by kernel_rfl⟩
abbrev LW := WX k111 k136 k96 k70 k74
abbrev IW := WX k107 k128 k103 k76 k55
theorem szW (k : Nat) (cs : Array Value) (x0 : Int) (x1 : List S111) (x2 : Int) (x3 : List S136) (x4 : List S96) (x5 : List S96) (x6 : Int) (x7 : List S111) (x8 : Int) (x9 : List S136) (x10 : List S96) (x11 : List S96) (x12 : List S70) (x13 : List S74) (x14 : List S74) (a r : Int) (w : World) (H : LW w cs x0 x1 x2 x3 x4 x5 x6 x7 x8 x9 x10 x11 x12 x13 x14) (h : laws_szWorld.f k x0 x1 x2 x3 x4 x5 x6 x7 x8 x9 x10 x11 x12 x13 x14 a = some r) : Calls Tryz.prog 4 #[.agg cs, .int .i64 a] w fun e w' => e = .returned (.int .i64 r) ∧ Below w.heap.size w w' := by
 obtain ⟨v1, v3, v4, v5, v7, v9, v10, v11, v12, v13, v14, rfl, ⟨A1, c1, rfl, g1, h1⟩, ⟨A3, c3, rfl, g3, h3⟩, ⟨A4, c4, rfl, g4, h4⟩, ⟨A5, c5, rfl, g5, h5⟩, ⟨A7, c7, rfl, g7, h7⟩, ⟨A9, c9, rfl, g9, h9⟩, ⟨A10, c10, rfl, g10, h10⟩, ⟨A11, c11, rfl, g11, h11⟩, ⟨A12, c12, rfl, g12, h12⟩, ⟨A13, c13, rfl, g13, h13⟩, ⟨A14, c14, rfl, g14, h14⟩⟩ := H
 exact laws_szWorld.calls k x0 A1 c1 x1 x2 A3 c3 x3 A4 c4 x4 A5 c5 x5 x6 A7 c7 x7 x8 A9 c9 x9 A10 c10 x10 A11 c11 x11 A12 c12 x12 A13 c13 x13 A14 c14 x14 a r w h1 g1 h3 g3 h4 g4 h5 g5 h7 g7 h9 g9 h10 g10 h11 g11 h12 g12 h13 g13 h14 g14 h
theorem spW (k : Nat) (cs : Array Value) (x0 : Int) (x1 : List S107) (x2 : Int) (x3 : List S128) (x4 : List S103) (x5 : List S103) (x6 : Int) (x7 : List S107) (x8 : Int) (x9 : List S128) (x10 : List S103) (x11 : List S103) (x12 : List S76) (x13 : List S55) (x14 : List S55) (r : Bool) (w : World) (H : IW w cs x0 x1 x2 x3 x4 x5 x6 x7 x8 x9 x10 x11 x12 x13 x14) (h : spec_WorldSafe.f k x0 x1 x2 x3 x4 x5 x6 x7 x8 x9 x10 x11 x12 x13 x14 = some r) : Calls Tryz.prog 5 #[.agg cs] w fun e w' => e = .returned (.bool r) ∧ Below w.heap.size w w' := by
 obtain ⟨v1, v3, v4, v5, v7, v9, v10, v11, v12, v13, v14, rfl, ⟨A1, c1, rfl, g1, h1⟩, ⟨A3, c3, rfl, g3, h3⟩, ⟨A4, c4, rfl, g4, h4⟩, ⟨A5, c5, rfl, g5, h5⟩, ⟨A7, c7, rfl, g7, h7⟩, ⟨A9, c9, rfl, g9, h9⟩, ⟨A10, c10, rfl, g10, h10⟩, ⟨A11, c11, rfl, g11, h11⟩, ⟨A12, c12, rfl, g12, h12⟩, ⟨A13, c13, rfl, g13, h13⟩, ⟨A14, c14, rfl, g14, h14⟩⟩ := H
 exact spec_WorldSafe.calls k x0 A1 c1 x1 x2 A3 c3 x3 A4 c4 x4 A5 c5 x5 x6 A7 c7 x7 x8 A9 c9 x9 A10 c10 x10 A11 c11 x11 A12 c12 x12 A13 c13 x13 A14 c14 x14 r w h1 g1 h3 g3 h4 g4 h5 g5 h7 g7 h9 g9 h10 g10 h11 g11 h12 g12 h13 g13 h14 g14 h
theorem imW (k : Nat) (cs : Array Value) (x0 : Int) (x1 : List S107) (x2 : Int) (x3 : List S128) (x4 : List S103) (x5 : List S103) (x6 : Int) (x7 : List S107) (x8 : Int) (x9 : List S128) (x10 : List S103) (x11 : List S103) (x12 : List S76) (x13 : List S55) (x14 : List S55) (r : Bool) (w : World) (H : IW w cs x0 x1 x2 x3 x4 x5 x6 x7 x8 x9 x10 x11 x12 x13 x14) (h : impl_WorldSafe.f k x0 x1 x2 x3 x4 x5 x6 x7 x8 x9 x10 x11 x12 x13 x14 = some r) : Calls Tryz.prog 7 #[.agg cs] w fun e w' => e = .returned (.bool r) ∧ Below w.heap.size w w' := by
 obtain ⟨v1, v3, v4, v5, v7, v9, v10, v11, v12, v13, v14, rfl, ⟨A1, c1, rfl, g1, h1⟩, ⟨A3, c3, rfl, g3, h3⟩, ⟨A4, c4, rfl, g4, h4⟩, ⟨A5, c5, rfl, g5, h5⟩, ⟨A7, c7, rfl, g7, h7⟩, ⟨A9, c9, rfl, g9, h9⟩, ⟨A10, c10, rfl, g10, h10⟩, ⟨A11, c11, rfl, g11, h11⟩, ⟨A12, c12, rfl, g12, h12⟩, ⟨A13, c13, rfl, g13, h13⟩, ⟨A14, c14, rfl, g14, h14⟩⟩ := H
 exact impl_WorldSafe.calls k x0 A1 c1 x1 x2 A3 c3 x3 A4 c4 x4 A5 c5 x5 x6 A7 c7 x7 x8 A9 c9 x9 A10 c10 x10 A11 c11 x11 A12 c12 x12 A13 c13 x13 A14 c14 x14 r w h1 g1 h3 g3 h4 g4 h5 g5 h7 g7 h9 g9 h10 g10 h11 g11 h12 g12 h13 g13 h14 g14 h
theorem yld {P : Program} {ops : Array Oper} {S : World → Prop} {o : Oper} {a : Act} {t : TypeId} {d : TypeDesc} {g : Nat} (hw : Region.wanted o (yielded ops a.tmps) = true) (x : Operand) (ho : o.op = .load t x) (hx : a.eval x = .pointer (some ⟨g, 0, none⟩)) (vs : Array Value)
  (hS : ∀ w, S w → w.heap[g]? = some (.cells vs t (0, 0))) (hu : P.underlying t = some d) (hd : d.isRow = true) (hi : (P.info? t).map (·.size) = some vs.toList.length) : YieldsIf P ops S o (.agg vs) a := by
 have := yieldsIf_load_mid (P := P) (ops := ops) (S := S) hw t x ho g 0 hx vs.toList d (fun w h j v hv => by rw [Nat.zero_add, blk_cell (hS w h) j]; simpa using hv) hu hd hi
 simpa using this
theorem run_storeVar_v {P : Program} (w : World) (b o : Nat) (ty : TypeId) (v : Value) (cells : Array Value) (hv : v.cells = cells) (ht : w.there b o cells.size) (hi : (P.info? ty).map (·.size) = some cells.size) (h1 : cells.all (·.oneCell') = true) :
  (storeVar ty ⟨b, o, none⟩ v).run P w = .ok () (w.setCells b o cells.toList) := by
 have := run_storeCells_cells (P := P) b o cells.toList 0 w (fun j hj => by simpa using (ht j (by simpa using hj)).1) (fun j hj => by simpa using (ht j (by simpa using hj)).2)
  (fun v hv => (Array.all_eq_true_iff_forall_mem.1 h1) v (by simpa using hv))
 cases hq : P.info? ty with
 | none => simp [hq] at hi
 | some i =>
  have hs : cells.size = i.size := by simp [hq] at hi; omega
  simp only [Nat.add_zero] at this
  simp [storeVar, sizeOf, typeInfo, hq, hv, hs, this]
/-- A piece of a variable is filled. -/
theorem stseg {P : Program} {ops : Array Oper} {rest : List Oper} {o : Oper} {a : Act} {Q : Exit → Act → World → Prop} {W w0 : World} {t e : TypeId} {g off : Nat} {cur : Array Value} (hgd : o.guard = none) (hN : o.dst = none) (x y : Operand) (ho : o.op = .store t x y)
  (v : Value) (vs : Array Value) (hv : v.cells = vs) (hx : a.eval x = .pointer (some ⟨g, off, none⟩)) (hy : a.eval y = v) (hb : W.heap[g]? = some (.cells cur e (0, 0))) (hfit : off + vs.size ≤ cur.size) (hi : (P.info? t).map (·.size) = some vs.size) (h1 : vs.all (·.oneCell') = true)
  (new : Array Value) (hnew : new.toList = cur.toList.take off ++ vs.toList ++ cur.toList.drop (off + vs.toList.length)) (HB : Below w0.heap.size w0 W) (hg : w0.heap.size ≤ g)
  (h : ∀ w1, w1.heap[g]? = some (.cells new e (0, 0)) → Below w0.heap.size w0 w1 → (∀ k, k ≠ g → w1.heap[k]? = W.heap[k]?) → wpList P ops Q rest a w1) : wpList P ops Q (o :: rest) a W := by
 have hthere : W.there g off vs.size := fun j hj => by
  refine ⟨?_, blk_frozen hb (off + j)⟩
  rw [blk_cell hb (off + j), Array.getElem?_eq_getElem (by omega)]
  rfl
 have hrun := run_storeVar_v (P := P) W g off t v vs hv hthere hi h1
 refine wpList_plain hgd fun K hK => ?_
 unfold Oper.wp execOp
 simp only [ho, hx, hy, Instr.storeAt, Instr.sureAddr, Sem.run_bind, Sem.run_pure, Result.andThen_ok, hrun]
 obtain ⟨cur', h3, h4, h5⟩ := setCells_row vs.toList off W cur hb (by simp; omega)
 obtain ⟨s1, s2, s3, s4⟩ := setCells_same g vs.toList off W
 have hc : cur' = new := by
  apply Array.ext'
  rw [h5, hnew]
 rw [hc] at h3
 show K (a.put o.dst undef) _
 rw [hN]
 refine hK _ _ (h _ h3 ⟨s1.trans HB.os, s2.trans HB.tape, s3.trans HB.output, by rw [s4]; exact HB.size, fun k hk => ?_⟩ (fun k hk => setCells_far vs.toList off k hk))
 rw [setCells_far vs.toList off k (by omega)]
 exact HB.block k hk
/-- A piece of a variable is read. -/
theorem ldseg {P : Program} {ops : Array Oper} {rest : List Oper} {o : Oper} {a : Act} {Q : Exit → Act → World → Prop} {W : World} {t e : TypeId} {d : TypeDesc} {g off : Nat} {cur : Array Value} (hgd : o.guard = none) (x : Operand) (ho : o.op = .load t x) (hx : a.eval x = .pointer (some ⟨g, off, none⟩)) (q : List Value)
  (hb : W.heap[g]? = some (.cells cur e (0, 0))) (hq : (cur.toList.drop off).take q.length = q) (hu : P.underlying t = some d) (hd : d.isRow = true) (hi : (P.info? t).map (·.size) = some q.length)
  (h : wpList P ops Q rest (a.put o.dst (.agg q.toArray)) W) : wpList P ops Q (o :: rest) a W := by
 refine wpList_load_mid hgd t x ho g off hx q d (fun j v hv => ?_) hu hd hi h
 rw [← hq] at hv
 rw [blk_cell hb, ← Array.getElem?_toList]
 rw [List.getElem?_take] at hv
 split at hv
 ·rwa [List.getElem?_drop] at hv
 ·cases hv
/-- A row of the call's own, wherever. -/
def OR {α : Type} (d : Kd α) (e : Nat) (w : World) (b : Nat) (v : Value) (xs : List α) : Prop := d.R e w b (fun _ => True) v xs
theorem OR.keep {α : Type} {d : Kd α} {e : Nat} {w w1 : World} {b : Nat} {v : Value} {xs : List α} (h : OR d e w b v xs) (hw : ∀ k, b ≤ k → k < w.heap.size → w1.heap[k]? = w.heap[k]?) : OR d e w1 b v xs :=
 Kd.R_mono (Kd.R_move (Kd.R_bound h) (fun k hk => hw k hk.2.1 hk.2.2.1)) (fun _ h => h.1)
theorem OR.all {α : Type} {d : Kd α} {e : Nat} {w : World} {b : Nat} {ok : Nat → Prop} {v : Value} {xs : List α} (h : d.R e w b ok v xs) : OR d e w b v xs := Kd.R_mono h (fun _ _ => trivial)
theorem OR.rv {α : Type} {d : Kd α} {e : Nat} {w : World} {b : Nat} {v : Value} {xs : List α} (h : OR d e w b v xs) : RV d w v xs := Kd.R_reads h
def GO (w : World) (b : Nat) (v1 v3 v4 v5 : Value) (p1 : List S107) (p3 : List S128) (p4 p5 : List S103) : Prop := OR k107 107 w b v1 p1 ∧ OR k128 128 w b v3 p3 ∧ OR k103 103 w b v4 p4 ∧ OR k103 103 w b v5 p5
theorem GO.keep {w w1 : World} {b : Nat} {v1 v3 v4 v5 : Value} {p1 : List S107} {p3 : List S128} {p4 p5 : List S103} (h : GO w b v1 v3 v4 v5 p1 p3 p4 p5) (hw : ∀ k, b ≤ k → k < w.heap.size → w1.heap[k]? = w.heap[k]?) : GO w1 b v1 v3 v4 v5 p1 p3 p4 p5 := ⟨h.1.keep hw, h.2.1.keep hw, h.2.2.1.keep hw, h.2.2.2.keep hw⟩
theorem toW (k : Nat) (cs : Array Value) (x0 : Int) (x1 : List S111) (x2 : Int) (x3 : List S136) (x4 : List S96) (x5 : List S96) (x6 : Int) (x7 : List S111) (x8 : Int) (x9 : List S136) (x10 : List S96) (x11 : List S96) (x12 : List S70) (x13 : List S74) (x14 : List S74) (y0 : Int) (y1 : List S107) (y2 : Int) (y3 : List S128) (y4 : List S103) (y5 : List S103) (y6 : Int) (y7 : List S107) (y8 : Int) (y9 : List S128) (y10 : List S103) (y11 : List S103) (y12 : List S76) (y13 : List S55) (y14 : List S55) (w : World) (H : LW w cs x0 x1 x2 x3 x4 x5 x6 x7 x8 x9 x10 x11 x12 x13 x14) (h : laws_toWorld.f k x0 x1 x2 x3 x4 x5 x6 x7 x8 x9 x10 x11 x12 x13 x14 = some (y0, y1, y2, y3, y4, y5, y6, y7, y8, y9, y10, y11, y12, y13, y14)) : Calls Tryz.prog 6 #[.agg cs] w fun e w' => ∃ ds, e = .returned (.agg ds) ∧ IW w' ds y0 y1 y2 y3 y4 y5 y6 y7 y8 y9 y10 y11 y12 y13 y14 ∧ Below w.heap.size w w' := by
 obtain ⟨v1, v3, v4, v5, v7, v9, v10, v11, v12, v13, v14, rfl, ⟨A1, c1, rfl, g1, h1⟩, ⟨A3, c3, rfl, g3, h3⟩, ⟨A4, c4, rfl, g4, h4⟩, ⟨A5, c5, rfl, g5, h5⟩, ⟨A7, c7, rfl, g7, h7⟩, ⟨A9, c9, rfl, g9, h9⟩, ⟨A10, c10, rfl, g10, h10⟩, ⟨A11, c11, rfl, g11, h11⟩, ⟨A12, c12, rfl, g12, h12⟩, ⟨A13, c13, rfl, g13, h13⟩, ⟨A14, c14, rfl, g14, h14⟩⟩ := H
 simp only [laws_toWorld.f] at h
 obtain ⟨a, hA, h⟩ := Option.bind_eq_some_iff.mp h
 obtain ⟨b, hB, h⟩ := Option.bind_eq_some_iff.mp h
 obtain ⟨l, hL, h⟩ := Option.bind_eq_some_iff.mp h
 obtain ⟨m, hM, h⟩ := Option.bind_eq_some_iff.mp h
 obtain ⟨n, hN, h⟩ := Option.bind_eq_some_iff.mp h
 simp only [Option.some.injEq, Prod.mk.injEq] at h
 obtain ⟨e0, e1, e2, e3, e4, e5, e6, e7, e8, e9, e10, e11, e12, e13, e14⟩ := h
 have EA := am (hA.trans (show some a = some (y0, y1, y2, y3, y4, y5) by rw [← e0, ← e1, ← e2, ← e3, ← e4, ← e5]))
 have EB := am (hB.trans (show some b = some (y6, y7, y8, y9, y10, y11) by rw [← e6, ← e7, ← e8, ← e9, ← e10, ← e11]))
 have E12 := am (hL.trans (congrArg some e12))
 have E13 := am (hM.trans (congrArg some e13))
 have E14 := am (hN.trans (congrArg some e14))
 have H1 := am h1
 have H3 := am h3
 have H4 := am h4
 have H5 := am h5
 have H7 := am h7
 have H9 := am h9
 have H10 := am h10
 have H11 := am h11
 have H12 := am h12
 have H13 := am h13
 have H14 := am h14
 have HB := am (Below.refl w.heap.size w)
 have hu32 := Tryz.underlying32
 have hu45 := Tryz.underlying45
 clear e0 e1 e2 e3 e4 e5 e6 e7 e8 e9 e10 e11 e12 e13 e14 hA hB hL hM hN h1 h3 h4 h5 h7 h9 h10 h11 h12 h13 h14
 go_enter Tryz.func6, Tryz.ntmps6
 go_upto_region 2 with (first | ((with_reducible refine gate_dst (N := 1) rfl ?_); refine box_event rfl (N := 1) rfl (cs := #[.int .i64 x0, .slice A1 x1.length c1, .int .i64 x2, .slice A3 x3.length c3, .slice A4 x4.length c4, .slice A5 x5.length c5, .int .i64 x6, .slice A7 x7.length c7, .int .i64 x8, .slice A9 x9.length c9, .slice A10 x10.length c10, .slice A11 x11.length c11, .slice A12 x12.length c12, .slice A13 x13.length c13, .slice A14 x14.length c14]) (t := 32) BX ?_; intro q1 hg wq hA hb; have W1 := am hA; replace HB := am (Below.trans HB.out (hb.mono HB.out.size)); clear hg hA hb) | ((with_reducible refine gate_dst (N := 2) rfl ?_); refine box_event rfl (N := 2) rfl (cs := #[.int .i64 0, .slice none 0 0, .int .i64 0, .slice none 0 0, .slice none 0 0, .slice none 0 0, .int .i64 0, .slice none 0 0, .int .i64 0, .slice none 0 0, .slice none 0 0, .slice none 0 0, .slice none 0 0, .slice none 0 0, .slice none 0 0]) (t := 45) BX ?_; intro q2 hg wq hA hb; have G2 := am (show w.heap.size ≤ q2 by rw [hg]; exact HB.out.size); replace W1 := am (blk_below W1.out hb); have W2 := am hA; replace HB := am (Below.trans HB.out (hb.mono HB.out.size)); clear hg hA hb) | ((with_reducible refine gate_dst (N := 3) rfl ?_); refine box_event rfl (N := 3) rfl (cs := #[.int .i64 0, .slice none 0 0, .int .i64 0, .slice none 0 0, .slice none 0 0, .slice none 0 0, .int .i64 0, .slice none 0 0, .int .i64 0, .slice none 0 0, .slice none 0 0, .slice none 0 0, .slice none 0 0, .slice none 0 0, .slice none 0 0]) (t := 45) BX ?_; intro q3 hg wq hA hb; have G3 := am (show w.heap.size ≤ q3 by rw [hg]; exact HB.out.size); have N13 := (show q1 ≠ q3 by rw [hg]; exact Nat.ne_of_lt (blk_lt W1.out)); have N23 := (show q2 ≠ q3 by rw [hg]; exact Nat.ne_of_lt (blk_lt W2.out)); have M23 := am (show q2 < q3 by rw [hg]; exact blk_lt W2.out); replace W1 := am (blk_below W1.out hb); replace W2 := am (blk_below W2.out hb); have W3 := am hA; replace HB := am (Below.trans HB.out (hb.mono HB.out.size)); clear hg hA hb))
 have W3s := am (blk_lt W3.out)
 go_upto_region 3 with (first | ((with_reducible refine gate_dst (N := 5) rfl ?_); refine ldseg (t := 28) rfl (.tmp 4) rfl (by rfl) [.int .i64 x0, .slice A1 x1.length c1, .int .i64 x2, .slice A3 x3.length c3, .slice A4 x4.length c4, .slice A5 x5.length c5] W1.out (by rfl) Tryz.underlying28 rfl (by kernel_rfl) ?_) | (go_at_call 13; refine (laws_toGate.calls k x0 A1 c1 x1 x2 A3 c3 x3 A4 c4 x4 A5 c5 x5 y0 y1 y2 y3 y4 y5 _ (Kd.C_below H1.out HB.out) g1 (Kd.C_below H3.out HB.out) g3 (Kd.C_below H4.out HB.out) g4 (Kd.C_below H5.out HB.out) g5 EA.out).mono ?_; rintro e wq ⟨v1, v3, v4, v5, rfl, o1, o3, o4, o5, hb⟩; obtain ⟨B1, d1, rfl⟩ := Kd.R_slice o1; obtain ⟨B3, d3, rfl⟩ := Kd.R_slice o3; obtain ⟨B4, d4, rfl⟩ := Kd.S_slice o4; obtain ⟨B5, d5, rfl⟩ := Kd.S_slice o5; have PA := am (show GO wq _ _ _ _ _ _ _ _ _ from ⟨OR.all o1, OR.all o3, OR.all (Kd.S_R o4), OR.all (Kd.S_R o5)⟩); have LA := am W3s.out; replace W1 := am (blk_below W1.out hb); replace W2 := am (blk_below W2.out hb); replace W3 := am (blk_below W3.out hb); replace HB := am (Below.trans HB.out (hb.mono HB.out.size)); replace W3s := am (Nat.lt_of_lt_of_le W3s.out hb.size); clear o1 o3 o4 o5 hb) | ((with_reducible refine gate_store (t := 41) (p := 7) rfl ?_); refine stseg rfl rfl (.tmp 7) (.tmp 6) rfl (off := 0) (.agg #[.int .i64 y0, .slice B1 y1.length d1, .int .i64 y2, .slice B3 y3.length d3, .slice B4 y4.length d4, .slice B5 y5.length d5]) #[.int .i64 y0, .slice B1 y1.length d1, .int .i64 y2, .slice B3 y3.length d3, .slice B4 y4.length d4, .slice B5 y5.length d5] rfl (by rfl) (by rfl) W3.out (Nat.le_of_ble_eq_true rfl) (by kernel_rfl) (by kernel_rfl) #[.int .i64 y0, .slice B1 y1.length d1, .int .i64 y2, .slice B3 y3.length d3, .slice B4 y4.length d4, .slice B5 y5.length d5, .int .i64 0, .slice none 0 0, .int .i64 0, .slice none 0 0, .slice none 0 0, .slice none 0 0, .slice none 0 0, .slice none 0 0, .slice none 0 0] (by rfl) HB.out G3.out ?_; intro wq hA hb hf; replace W1 := am ((hf _ N13).trans W1.out); replace W2 := am ((hf _ N23).trans W2.out); replace W3 := am hA; replace HB := am hb; replace PA := am (PA.out.keep (fun k hk _ => hf k (by have := LA.out; omega))); replace W3s := am (blk_lt hA); clear hA hb hf))
 go_upto_region 4 with (first | ((with_reducible refine gate_dst (N := 9) rfl ?_); refine ldseg (t := 28) rfl (.tmp 8) rfl (by rfl) [.int .i64 x6, .slice A7 x7.length c7, .int .i64 x8, .slice A9 x9.length c9, .slice A10 x10.length c10, .slice A11 x11.length c11] W1.out (by rfl) Tryz.underlying28 rfl (by kernel_rfl) ?_) | (go_at_call 13; refine (laws_toGate.calls k x6 A7 c7 x7 x8 A9 c9 x9 A10 c10 x10 A11 c11 x11 y6 y7 y8 y9 y10 y11 _ (Kd.C_below H7.out HB.out) g7 (Kd.C_below H9.out HB.out) g9 (Kd.C_below H10.out HB.out) g10 (Kd.C_below H11.out HB.out) g11 EB.out).mono ?_; rintro e wq ⟨v1, v3, v4, v5, rfl, o1, o3, o4, o5, hb⟩; obtain ⟨B7, d7, rfl⟩ := Kd.R_slice o1; obtain ⟨B9, d9, rfl⟩ := Kd.R_slice o3; obtain ⟨B10, d10, rfl⟩ := Kd.S_slice o4; obtain ⟨B11, d11, rfl⟩ := Kd.S_slice o5; have PB := am (show GO wq _ _ _ _ _ _ _ _ _ from ⟨OR.all o1, OR.all o3, OR.all (Kd.S_R o4), OR.all (Kd.S_R o5)⟩); have LB := am W3s.out; replace W1 := am (blk_below W1.out hb); replace W2 := am (blk_below W2.out hb); replace W3 := am (blk_below W3.out hb); replace PA := am (PA.out.keep (fun k _ hk => hb.block k hk)); replace HB := am (Below.trans HB.out (hb.mono HB.out.size)); replace W3s := am (Nat.lt_of_lt_of_le W3s.out hb.size); clear o1 o3 o4 o5 hb) | ((with_reducible refine gate_store (t := 41) (p := 11) rfl ?_); refine stseg rfl rfl (.tmp 11) (.tmp 10) rfl (off := 6) (.agg #[.int .i64 y6, .slice B7 y7.length d7, .int .i64 y8, .slice B9 y9.length d9, .slice B10 y10.length d10, .slice B11 y11.length d11]) #[.int .i64 y6, .slice B7 y7.length d7, .int .i64 y8, .slice B9 y9.length d9, .slice B10 y10.length d10, .slice B11 y11.length d11] rfl (by rfl) (by rfl) W3.out (Nat.le_of_ble_eq_true rfl) (by kernel_rfl) (by kernel_rfl) #[.int .i64 y0, .slice B1 y1.length d1, .int .i64 y2, .slice B3 y3.length d3, .slice B4 y4.length d4, .slice B5 y5.length d5, .int .i64 y6, .slice B7 y7.length d7, .int .i64 y8, .slice B9 y9.length d9, .slice B10 y10.length d10, .slice B11 y11.length d11, .slice none 0 0, .slice none 0 0, .slice none 0 0] (by rfl) HB.out G3.out ?_; intro wq hA hb hf; replace W1 := am ((hf _ N13).trans W1.out); replace W2 := am ((hf _ N23).trans W2.out); replace W3 := am hA; replace HB := am hb; replace PA := am (PA.out.keep (fun k hk _ => hf k (by have := LA.out; omega))); replace PB := am (PB.out.keep (fun k hk _ => hf k (by have := LB.out; omega))); replace W3s := am (blk_lt hA); clear hA hb hf))
 have hc := (blk_cell W1.out 12).trans (show _ = some (.slice A12 x12.length c12) from rfl)
 go_upto_region 5 with (first | (go_at_call 14; refine (laws_toAirS.calls k A12 c12 x12 y12 _ (Kd.C_below H12.out HB.out) g12 E12.out).mono ?_; rintro e wq ⟨v1, rfl, o1, hb⟩; obtain ⟨B12, d12, rfl⟩ := Kd.R_slice o1; have P12 := am (show OR _ _ wq _ _ _ from OR.all o1); have L12 := am W3s.out; replace W1 := am (blk_below W1.out hb); replace W2 := am (blk_below W2.out hb); replace W3 := am (blk_below W3.out hb); replace PA := am (PA.out.keep (fun k _ hk => hb.block k hk)); replace PB := am (PB.out.keep (fun k _ hk => hb.block k hk)); replace HB := am (Below.trans HB.out (hb.mono HB.out.size)); replace W3s := am (Nat.lt_of_lt_of_le W3s.out hb.size); clear o1 hb) | ((with_reducible refine gate_store (t := 42) (p := 15) rfl ?_); refine stseg rfl rfl (.tmp 15) (.tmp 14) rfl (off := 12) (.slice B12 y12.length d12) #[.slice B12 y12.length d12] rfl (by rfl) (by rfl) W3.out (Nat.le_of_ble_eq_true rfl) (by kernel_rfl) (by kernel_rfl) #[.int .i64 y0, .slice B1 y1.length d1, .int .i64 y2, .slice B3 y3.length d3, .slice B4 y4.length d4, .slice B5 y5.length d5, .int .i64 y6, .slice B7 y7.length d7, .int .i64 y8, .slice B9 y9.length d9, .slice B10 y10.length d10, .slice B11 y11.length d11, .slice B12 y12.length d12, .slice none 0 0, .slice none 0 0] (by rfl) HB.out G3.out ?_; intro wq hA hb hf; replace W1 := am ((hf _ N13).trans W1.out); replace W2 := am ((hf _ N23).trans W2.out); replace W3 := am hA; replace HB := am hb; replace PA := am (PA.out.keep (fun k hk _ => hf k (by have := LA.out; omega))); replace PB := am (PB.out.keep (fun k hk _ => hf k (by have := LB.out; omega))); replace P12 := am (P12.out.keep (fun k hk _ => hf k (by have := L12.out; omega))); replace W3s := am (blk_lt hA); clear hA hb hf))
 replace hc := (blk_cell W1.out 13).trans (show _ = some (.slice A13 x13.length c13) from rfl)
 go_upto_region 6 with (first | (go_at_call 15; refine (laws_toSentS.calls k A13 c13 x13 y13 _ (Kd.C_below H13.out HB.out) g13 E13.out).mono ?_; rintro e wq ⟨v1, rfl, o1, hb⟩; obtain ⟨B13, d13, rfl⟩ := Kd.R_slice o1; have P13 := am (show OR _ _ wq _ _ _ from OR.all o1); have L13 := am W3s.out; replace W1 := am (blk_below W1.out hb); replace W2 := am (blk_below W2.out hb); replace W3 := am (blk_below W3.out hb); replace PA := am (PA.out.keep (fun k _ hk => hb.block k hk)); replace PB := am (PB.out.keep (fun k _ hk => hb.block k hk)); replace P12 := am (P12.out.keep (fun k _ hk => hb.block k hk)); replace HB := am (Below.trans HB.out (hb.mono HB.out.size)); replace W3s := am (Nat.lt_of_lt_of_le W3s.out hb.size); clear o1 hb) | ((with_reducible refine gate_store (t := 43) (p := 19) rfl ?_); refine stseg rfl rfl (.tmp 19) (.tmp 18) rfl (off := 13) (.slice B13 y13.length d13) #[.slice B13 y13.length d13] rfl (by rfl) (by rfl) W3.out (Nat.le_of_ble_eq_true rfl) (by kernel_rfl) (by kernel_rfl) #[.int .i64 y0, .slice B1 y1.length d1, .int .i64 y2, .slice B3 y3.length d3, .slice B4 y4.length d4, .slice B5 y5.length d5, .int .i64 y6, .slice B7 y7.length d7, .int .i64 y8, .slice B9 y9.length d9, .slice B10 y10.length d10, .slice B11 y11.length d11, .slice B12 y12.length d12, .slice B13 y13.length d13, .slice none 0 0] (by rfl) HB.out G3.out ?_; intro wq hA hb hf; replace W1 := am ((hf _ N13).trans W1.out); replace W2 := am ((hf _ N23).trans W2.out); replace W3 := am hA; replace HB := am hb; replace PA := am (PA.out.keep (fun k hk _ => hf k (by have := LA.out; omega))); replace PB := am (PB.out.keep (fun k hk _ => hf k (by have := LB.out; omega))); replace P12 := am (P12.out.keep (fun k hk _ => hf k (by have := L12.out; omega))); replace P13 := am (P13.out.keep (fun k hk _ => hf k (by have := L13.out; omega))); replace W3s := am (blk_lt hA); clear hA hb hf))
 replace hc := (blk_cell W1.out 14).trans (show _ = some (.slice A14 x14.length c14) from rfl)
 go_upto_region 7 with (first | (go_at_call 15; refine (laws_toSentS.calls k A14 c14 x14 y14 _ (Kd.C_below H14.out HB.out) g14 E14.out).mono ?_; rintro e wq ⟨v1, rfl, o1, hb⟩; obtain ⟨B14, d14, rfl⟩ := Kd.R_slice o1; have P14 := am (show OR _ _ wq _ _ _ from OR.all o1); have L14 := am W3s.out; replace W1 := am (blk_below W1.out hb); replace W2 := am (blk_below W2.out hb); replace W3 := am (blk_below W3.out hb); replace PA := am (PA.out.keep (fun k _ hk => hb.block k hk)); replace PB := am (PB.out.keep (fun k _ hk => hb.block k hk)); replace P12 := am (P12.out.keep (fun k _ hk => hb.block k hk)); replace P13 := am (P13.out.keep (fun k _ hk => hb.block k hk)); replace HB := am (Below.trans HB.out (hb.mono HB.out.size)); replace W3s := am (Nat.lt_of_lt_of_le W3s.out hb.size); clear o1 hb) | ((with_reducible refine gate_store (t := 43) (p := 23) rfl ?_); refine stseg rfl rfl (.tmp 23) (.tmp 22) rfl (off := 14) (.slice B14 y14.length d14) #[.slice B14 y14.length d14] rfl (by rfl) (by rfl) W3.out (Nat.le_of_ble_eq_true rfl) (by kernel_rfl) (by kernel_rfl) #[.int .i64 y0, .slice B1 y1.length d1, .int .i64 y2, .slice B3 y3.length d3, .slice B4 y4.length d4, .slice B5 y5.length d5, .int .i64 y6, .slice B7 y7.length d7, .int .i64 y8, .slice B9 y9.length d9, .slice B10 y10.length d10, .slice B11 y11.length d11, .slice B12 y12.length d12, .slice B13 y13.length d13, .slice B14 y14.length d14] (by rfl) HB.out G3.out ?_; intro wq hA hb hf; replace W1 := am ((hf _ N13).trans W1.out); replace W2 := am ((hf _ N23).trans W2.out); replace W3 := am hA; replace HB := am hb; replace PA := am (PA.out.keep (fun k hk _ => hf k (by have := LA.out; omega))); replace PB := am (PB.out.keep (fun k hk _ => hf k (by have := LB.out; omega))); replace P12 := am (P12.out.keep (fun k hk _ => hf k (by have := L12.out; omega))); replace P13 := am (P13.out.keep (fun k hk _ => hf k (by have := L13.out; omega))); replace P14 := am (P14.out.keep (fun k hk _ => hf k (by have := L14.out; omega))); replace W3s := am (blk_lt hA); clear hA hb hf))
 clear hc
 go_wp2_with (first | ((with_reducible refine gate_dst (N := 24) rfl ?_); refine ldbox (t := 45) rfl (.tmp 3) rfl (by rfl) #[.int .i64 y0, .slice B1 y1.length d1, .int .i64 y2, .slice B3 y3.length d3, .slice B4 y4.length d4, .slice B5 y5.length d5, .int .i64 y6, .slice B7 y7.length d7, .int .i64 y8, .slice B9 y9.length d9, .slice B10 y10.length d10, .slice B11 y11.length d11, .slice B12 y12.length d12, .slice B13 y13.length d13, .slice B14 y14.length d14] W3.out Tryz.underlying45 rfl (by kernel_rfl) ?_) | ((with_reducible refine gate_store (t := 45) (p := 2) rfl ?_); refine stseg rfl rfl (.tmp 2) (.tmp 24) rfl (off := 0) (.agg #[.int .i64 y0, .slice B1 y1.length d1, .int .i64 y2, .slice B3 y3.length d3, .slice B4 y4.length d4, .slice B5 y5.length d5, .int .i64 y6, .slice B7 y7.length d7, .int .i64 y8, .slice B9 y9.length d9, .slice B10 y10.length d10, .slice B11 y11.length d11, .slice B12 y12.length d12, .slice B13 y13.length d13, .slice B14 y14.length d14]) #[.int .i64 y0, .slice B1 y1.length d1, .int .i64 y2, .slice B3 y3.length d3, .slice B4 y4.length d4, .slice B5 y5.length d5, .int .i64 y6, .slice B7 y7.length d7, .int .i64 y8, .slice B9 y9.length d9, .slice B10 y10.length d10, .slice B11 y11.length d11, .slice B12 y12.length d12, .slice B13 y13.length d13, .slice B14 y14.length d14] rfl (by rfl) (by rfl) W2.out (Nat.le_of_ble_eq_true rfl) (by kernel_rfl) (by kernel_rfl) #[.int .i64 y0, .slice B1 y1.length d1, .int .i64 y2, .slice B3 y3.length d3, .slice B4 y4.length d4, .slice B5 y5.length d5, .int .i64 y6, .slice B7 y7.length d7, .int .i64 y8, .slice B9 y9.length d9, .slice B10 y10.length d10, .slice B11 y11.length d11, .slice B12 y12.length d12, .slice B13 y13.length d13, .slice B14 y14.length d14] (by rfl) HB.out G2.out ?_; intro wq hA hb hf; replace W2 := am hA; replace HB := am hb; replace PA := am (PA.out.keep (fun k hk _ => hf k (by have := LA.out; have := M23.out; omega))); replace PB := am (PB.out.keep (fun k hk _ => hf k (by have := LB.out; have := M23.out; omega))); replace P12 := am (P12.out.keep (fun k hk _ => hf k (by have := L12.out; have := M23.out; omega))); replace P13 := am (P13.out.keep (fun k hk _ => hf k (by have := L13.out; have := M23.out; omega))); replace P14 := am (P14.out.keep (fun k hk _ => hf k (by have := L14.out; have := M23.out; omega))); clear hA hb hf))
 refine bodyPost_ret (results_cell_row rfl _ _ q2 45 #[.int .i64 y0, .slice B1 y1.length d1, .int .i64 y2, .slice B3 y3.length d3, .slice B4 y4.length d4, .slice B5 y5.length d5, .int .i64 y6, .slice B7 y7.length d7, .int .i64 y8, .slice B9 y9.length d9, .slice B10 y10.length d10, .slice B11 y11.length d11, .slice B12 y12.length d12, .slice B13 y13.length d13, .slice B14 y14.length d14] (0, 0) _ rfl W2.out Tryz.underlying45 rfl (by kernel_rfl)) rfl ?_
 exact ⟨_, rfl, ⟨_, _, _, _, _, _, _, _, _, _, _, rfl, PA.out.1.rv, PA.out.2.1.rv, PA.out.2.2.1.rv, PA.out.2.2.2.rv, PB.out.1.rv, PB.out.2.1.rv, PB.out.2.2.1.rv, PB.out.2.2.2.rv, P12.out.rv, P13.out.rv, P14.out.rv⟩, HB.out⟩
theorem ifb {x f : Option Bool} (h : (x.bind fun t => if t = true then f else some false) = some true) : x = some true ∧ f = some true := by
 obtain ⟨t, q, h⟩ := Option.bind_eq_some_iff.mp h
 cases t with
 | false => cases h
 | true => exact ⟨q, h⟩
theorem eqW (k : Nat) (cs ds : Array Value) (x0 : Int) (x1 : List S107) (x2 : Int) (x3 : List S128) (x4 : List S103) (x5 : List S103) (x6 : Int) (x7 : List S107) (x8 : Int) (x9 : List S128) (x10 : List S103) (x11 : List S103) (x12 : List S76) (x13 : List S55) (x14 : List S55) (y0 : Int) (y1 : List S107) (y2 : Int) (y3 : List S128) (y4 : List S103) (y5 : List S103) (y6 : Int) (y7 : List S107) (y8 : Int) (y9 : List S128) (y10 : List S103) (y11 : List S103) (y12 : List S76) (y13 : List S55) (y14 : List S55) (w : World) (H : IW w cs x0 x1 x2 x3 x4 x5 x6 x7 x8 x9 x10 x11 x12 x13 x14) (G : IW w ds y0 y1 y2 y3 y4 y5 y6 y7 y8 y9 y10 y11 y12 y13 y14) (h : laws_eqWorld.f k x0 x1 x2 x3 x4 x5 x6 x7 x8 x9 x10 x11 x12 x13 x14 y0 y1 y2 y3 y4 y5 y6 y7 y8 y9 y10 y11 y12 y13 y14 = some true) : Calls Tryz.prog 8 #[.agg cs, .agg ds] w fun e w' => e = .returned (.bool true) ∧ Below w.heap.size w w' := by
 obtain ⟨v1, v3, v4, v5, v7, v9, v10, v11, v12, v13, v14, rfl, ⟨A1, c1, rfl, g1, h1⟩, ⟨A3, c3, rfl, g3, h3⟩, ⟨A4, c4, rfl, g4, h4⟩, ⟨A5, c5, rfl, g5, h5⟩, ⟨A7, c7, rfl, g7, h7⟩, ⟨A9, c9, rfl, g9, h9⟩, ⟨A10, c10, rfl, g10, h10⟩, ⟨A11, c11, rfl, g11, h11⟩, ⟨A12, c12, rfl, g12, h12⟩, ⟨A13, c13, rfl, g13, h13⟩, ⟨A14, c14, rfl, g14, h14⟩⟩ := H
 obtain ⟨u1, u3, u4, u5, u7, u9, u10, u11, u12, u13, u14, rfl, ⟨B1, d1, rfl, e1, f1⟩, ⟨B3, d3, rfl, e3, f3⟩, ⟨B4, d4, rfl, e4, f4⟩, ⟨B5, d5, rfl, e5, f5⟩, ⟨B7, d7, rfl, e7, f7⟩, ⟨B9, d9, rfl, e9, f9⟩, ⟨B10, d10, rfl, e10, f10⟩, ⟨B11, d11, rfl, e11, f11⟩, ⟨B12, d12, rfl, e12, f12⟩, ⟨B13, d13, rfl, e13, f13⟩, ⟨B14, d14, rfl, e14, f14⟩⟩ := G
 simp only [laws_eqWorld.f] at h
 have EA := am (ifb h).1
 have EB := am (ifb (ifb h).2).1
 have E12 := am (ifb (ifb (ifb h).2).2).1
 have E13 := am (ifb (ifb (ifb (ifb h).2).2).2).1
 have E14 := am (ifb (ifb (ifb (ifb (ifb h).2).2).2).2).1
 have H1 := am h1
 have F1 := am f1
 have H3 := am h3
 have F3 := am f3
 have H4 := am h4
 have F4 := am f4
 have H5 := am h5
 have F5 := am f5
 have H7 := am h7
 have F7 := am f7
 have H9 := am h9
 have F9 := am f9
 have H10 := am h10
 have F10 := am f10
 have H11 := am h11
 have F11 := am f11
 have H12 := am h12
 have F12 := am f12
 have H13 := am h13
 have F13 := am f13
 have H14 := am h14
 have F14 := am f14
 have HB := am (Below.refl w.heap.size w)
 have hu45 := Tryz.underlying45
 clear h h1 f1 h3 f3 h4 f4 h5 f5 h7 f7 h9 f9 h10 f10 h11 f11 h12 f12 h13 f13 h14 f14
 go_enter Tryz.func8, Tryz.ntmps8
 go_upto_region 1 with (first | ((with_reducible refine gate_dst (N := 2) rfl ?_); refine box_event rfl (N := 2) rfl (cs := #[.int .i64 x0, .slice A1 x1.length c1, .int .i64 x2, .slice A3 x3.length c3, .slice A4 x4.length c4, .slice A5 x5.length c5, .int .i64 x6, .slice A7 x7.length c7, .int .i64 x8, .slice A9 x9.length c9, .slice A10 x10.length c10, .slice A11 x11.length c11, .slice A12 x12.length c12, .slice A13 x13.length c13, .slice A14 x14.length c14]) (t := 45) BX ?_; intro q2 hg wq hA hb; have W2 := am hA; replace HB := am (Below.trans HB.out (hb.mono HB.out.size)); clear hg hA hb) | ((with_reducible refine gate_dst (N := 3) rfl ?_); refine box_event rfl (N := 3) rfl (cs := #[.int .i64 y0, .slice B1 y1.length d1, .int .i64 y2, .slice B3 y3.length d3, .slice B4 y4.length d4, .slice B5 y5.length d5, .int .i64 y6, .slice B7 y7.length d7, .int .i64 y8, .slice B9 y9.length d9, .slice B10 y10.length d10, .slice B11 y11.length d11, .slice B12 y12.length d12, .slice B13 y13.length d13, .slice B14 y14.length d14]) (t := 45) BX ?_; intro q3 hg wq hA hb; replace W2 := am (blk_below W2.out hb); have W3 := am hA; replace HB := am (Below.trans HB.out (hb.mono HB.out.size)); clear hg hA hb))
 go_upto_region 3 with (first | ((with_reducible refine gate_dst (N := 6) rfl ?_); refine ldseg (t := 41) rfl (.tmp 5) rfl (by rfl) [.int .i64 x0, .slice A1 x1.length c1, .int .i64 x2, .slice A3 x3.length c3, .slice A4 x4.length c4, .slice A5 x5.length c5] W2.out (by rfl) Tryz.underlying41 rfl (by kernel_rfl) ?_) | ((with_reducible refine gate_dst (N := 8) rfl ?_); refine ldseg (t := 41) rfl (.tmp 7) rfl (by rfl) [.int .i64 y0, .slice B1 y1.length d1, .int .i64 y2, .slice B3 y3.length d3, .slice B4 y4.length d4, .slice B5 y5.length d5] W3.out (by rfl) Tryz.underlying41 rfl (by kernel_rfl) ?_) | (go_at_call 18; refine (laws_eqGate.calls k x0 A1 c1 x1 x2 A3 c3 x3 A4 c4 x4 A5 c5 x5 y0 B1 d1 y1 y2 B3 d3 y3 B4 d4 y4 B5 d5 y5 true _ (Kd.C_below H1.out HB.out) g1 (Kd.C_below H3.out HB.out) g3 (Kd.C_below H4.out HB.out) g4 (Kd.C_below H5.out HB.out) g5 (Kd.C_below F1.out HB.out) e1 (Kd.C_below F3.out HB.out) e3 (Kd.C_below F4.out HB.out) e4 (Kd.C_below F5.out HB.out) e5 EA.out).mono ?_; rintro e wq ⟨rfl, hb⟩; replace W2 := am (blk_below W2.out hb); replace W3 := am (blk_below W3.out hb); replace HB := am (Below.trans HB.out (hb.mono HB.out.size)); clear hb))
 go_upto_region 5 with (first | ((with_reducible refine gate_dst (N := 12) rfl ?_); refine ldseg (t := 41) rfl (.tmp 11) rfl (by rfl) [.int .i64 x6, .slice A7 x7.length c7, .int .i64 x8, .slice A9 x9.length c9, .slice A10 x10.length c10, .slice A11 x11.length c11] W2.out (by rfl) Tryz.underlying41 rfl (by kernel_rfl) ?_) | ((with_reducible refine gate_dst (N := 14) rfl ?_); refine ldseg (t := 41) rfl (.tmp 13) rfl (by rfl) [.int .i64 y6, .slice B7 y7.length d7, .int .i64 y8, .slice B9 y9.length d9, .slice B10 y10.length d10, .slice B11 y11.length d11] W3.out (by rfl) Tryz.underlying41 rfl (by kernel_rfl) ?_) | (go_at_call 18; refine (laws_eqGate.calls k x6 A7 c7 x7 x8 A9 c9 x9 A10 c10 x10 A11 c11 x11 y6 B7 d7 y7 y8 B9 d9 y9 B10 d10 y10 B11 d11 y11 true _ (Kd.C_below H7.out HB.out) g7 (Kd.C_below H9.out HB.out) g9 (Kd.C_below H10.out HB.out) g10 (Kd.C_below H11.out HB.out) g11 (Kd.C_below F7.out HB.out) e7 (Kd.C_below F9.out HB.out) e9 (Kd.C_below F10.out HB.out) e10 (Kd.C_below F11.out HB.out) e11 EB.out).mono ?_; rintro e wq ⟨rfl, hb⟩; replace W2 := am (blk_below W2.out hb); replace W3 := am (blk_below W3.out hb); replace HB := am (Below.trans HB.out (hb.mono HB.out.size)); clear hb))
 have hc := (blk_cell W2.out 12).trans (show _ = some (.slice A12 x12.length c12) from rfl)
 have hd := (blk_cell W3.out 12).trans (show _ = some (.slice B12 y12.length d12) from rfl)
 go_upto_region 7 with (go_at_call 19; refine (laws_eqAirS.calls k A12 c12 x12 B12 d12 y12 true _ (Kd.C_below H12.out HB.out) g12 (Kd.C_below F12.out HB.out) e12 E12.out).mono ?_; rintro e wq ⟨rfl, hb⟩; replace W2 := am (blk_below W2.out hb); replace W3 := am (blk_below W3.out hb); replace HB := am (Below.trans HB.out (hb.mono HB.out.size)); clear hb)
 clear hc hd
 have hc := (blk_cell W2.out 13).trans (show _ = some (.slice A13 x13.length c13) from rfl)
 have hd := (blk_cell W3.out 13).trans (show _ = some (.slice B13 y13.length d13) from rfl)
 go_upto_region 9 with (go_at_call 20; refine (laws_eqSentS.calls k A13 c13 x13 B13 d13 y13 true _ (Kd.C_below H13.out HB.out) g13 (Kd.C_below F13.out HB.out) e13 E13.out).mono ?_; rintro e wq ⟨rfl, hb⟩; replace W2 := am (blk_below W2.out hb); replace W3 := am (blk_below W3.out hb); replace HB := am (Below.trans HB.out (hb.mono HB.out.size)); clear hb)
 clear hc hd
 have hc := (blk_cell W2.out 14).trans (show _ = some (.slice A14 x14.length c14) from rfl)
 have hd := (blk_cell W3.out 14).trans (show _ = some (.slice B14 y14.length d14) from rfl)
 go_wp2_with (go_at_call 20; refine (laws_eqSentS.calls k A14 c14 x14 B14 d14 y14 true _ (Kd.C_below H14.out HB.out) g14 (Kd.C_below F14.out HB.out) e14 E14.out).mono ?_; rintro e wq ⟨rfl, hb⟩; replace W2 := am (blk_below W2.out hb); replace W3 := am (blk_below W3.out hb); replace HB := am (Below.trans HB.out (hb.mono HB.out.size)); clear hb)
 go_ret
 exact ⟨rfl, HB.out⟩
theorem laws_FnExactWorldSafe.calls (k : Nat) (aL : Int) (bA : Option Addr) (bB : Nat) (aF : List (S111)) (aM : Int) (bC : Option Addr) (bD : Nat) (aG : List (S136)) (bE : Option Addr) (bF : Nat) (aH : List (S96)) (bG : Option Addr) (bH : Nat) (aI : List (S96)) (aN : Int) (bI : Option Addr) (bJ : Nat) (aJ : List (S111)) (aO : Int) (bK : Option Addr) (bL : Nat) (aK : List (S136)) (aQ : Option Addr) (aR : Nat) (aA : List (S96)) (aS : Option Addr) (aT : Nat) (aB : List (S96)) (aU : Option Addr) (aV : Nat) (aC : List (S70)) (aW : Option Addr) (aX : Nat) (aD : List (S74)) (aY : Option Addr) (aZ : Nat) (aE : List (S74)) (r : Bool) (w : World) (bW : Kd.C k111 w bA aF.length aF) (bX : aF.length ≤ bB) (bY : Kd.C k136 w bC aG.length aG) (bZ : aG.length ≤ bD) (cA : Kd.C k96 w bE aH.length aH) (cB : aH.length ≤ bF) (cC : Kd.C k96 w bG aI.length aI) (cD : aI.length ≤ bH) (cE : Kd.C k111 w bI aJ.length aJ) (cF : aJ.length ≤ bJ) (cG : Kd.C k136 w bK aK.length aK) (cH : aK.length ≤ bL) (bM : Kd.C k96 w aQ aA.length aA) (bN : aA.length ≤ aR) (bO : Kd.C k96 w aS aB.length aB) (bP : aB.length ≤ aT) (bQ : Kd.C k70 w aU aC.length aC) (bR : aC.length ≤ aV) (bS : Kd.C k74 w aW aD.length aD) (bT : aD.length ≤ aX) (bU : Kd.C k74 w aY aE.length aE) (bV : aE.length ≤ aZ) (cJ : r = true) (h : laws_FnExactWorldSafe.f k aL aF aM aG aH aI aN aJ aO aK aA aB aC aD aE = some r) :
  Calls Tryz.prog 3 #[.agg #[.int .i64 aL, .slice bA aF.length bB, .int .i64 aM, .slice bC aG.length bD, .slice bE aH.length bF, .slice bG aI.length bH, .int .i64 aN, .slice bI aJ.length bJ, .int .i64 aO, .slice bK aK.length bL, .slice aQ aA.length aR, .slice aS aB.length aT, .slice aU aC.length aV, .slice aW aD.length aX, .slice aY aE.length aZ]] w fun e w' => e = .returned (.bool r) ∧ Below w.heap.size w w' := by
 have HL := am (show LW w #[.int .i64 aL, .slice bA aF.length bB, .int .i64 aM, .slice bC aG.length bD, .slice bE aH.length bF, .slice bG aI.length bH, .int .i64 aN, .slice bI aJ.length bJ, .int .i64 aO, .slice bK aK.length bL, .slice aQ aA.length aR, .slice aS aB.length aT, .slice aU aC.length aV, .slice aW aD.length aX, .slice aY aE.length aZ] aL aF aM aG aH aI aN aJ aO aK aA aB aC aD aE from ⟨_, _, _, _, _, _, _, _, _, _, _, rfl, ⟨bA, bB, rfl, bX, bW⟩, ⟨bC, bD, rfl, bZ, bY⟩, ⟨bE, bF, rfl, cB, cA⟩, ⟨bG, bH, rfl, cD, cC⟩, ⟨bI, bJ, rfl, cF, cE⟩, ⟨bK, bL, rfl, cH, cG⟩, ⟨aQ, aR, rfl, bN, bM⟩, ⟨aS, aT, rfl, bP, bO⟩, ⟨aU, aV, rfl, bR, bQ⟩, ⟨aW, aX, rfl, bT, bS⟩, ⟨aY, aZ, rfl, bV, bU⟩⟩)
 subst cJ
 simp only [laws_FnExactWorldSafe.f] at h
 obtain ⟨t, ht, h⟩ := Option.bind_eq_some_iff.mp h
 have HT := am ht
 have HH := am h
 clear bW bX bY bZ cA cB cC cD cE cF cG cH bM bN bO bP bQ bR bS bT bU bV h ht
 go_enter Tryz.func3, Tryz.ntmps3
 go_upto_region 1 with (first | ((with_reducible refine gate_dst (N := 1) rfl ?_); refine box_event rfl (N := 1) rfl (cs := #[.int .i64 aL, .slice bA aF.length bB, .int .i64 aM, .slice bC aG.length bD, .slice bE aH.length bF, .slice bG aI.length bH, .int .i64 aN, .slice bI aJ.length bJ, .int .i64 aO, .slice bK aK.length bL, .slice aQ aA.length aR, .slice aS aB.length aT, .slice aU aC.length aV, .slice aW aD.length aX, .slice aY aE.length aZ]) (t := 32) BX ?_; intro gw hgw w2 cI hbw; have HB := am hbw; replace HL := am (HL.out.below hbw); have B1 := am cI; clear hbw hgw cI))
 generalize (#[.int .i64 aL, .slice bA aF.length bB, .int .i64 aM, .slice bC aG.length bD, .slice bE aH.length bF, .slice bG aI.length bH, .int .i64 aN, .slice bI aJ.length bJ, .int .i64 aO, .slice bK aK.length bL, .slice aQ aA.length aR, .slice aS aB.length aT, .slice aU aC.length aV, .slice aW aD.length aX, .slice aY aE.length aZ] : Array Value) = cs at HL B1 ⊢
 have ZL := am HL.out.size
 by_cases c : t < 0
 ·have cd := decide_eq_true c
  go_wp2_with (first | ((with_reducible refine gate_dst (N := 7) rfl ?_); refine ldbox (t := 32) rfl (.tmp 1) rfl (by rfl) cs B1.out Tryz.underlying32 rfl (by rw [Array.length_toList, ZL.out.1]; kernel_rfl) ?_) | (go_at_call 4; refine (szW k cs aL aF aM aG aH aI aN aJ aO aK aA aB aC aD aE _ t _ HL.out HT.out).mono ?_; rintro e wq ⟨rfl, hb⟩; replace B1 := am (blk_below B1.out hb); replace HL := am (HL.out.below hb); replace HB := am (Below.trans HB.out (hb.mono HB.out.size)); clear hb))
  go_ret
  exact ⟨rfl, HB.out⟩
 ·have h := HH.out
  rw [if_neg c] at h
  obtain ⟨⟨y0, y1, y2, y3, y4, y5, y6, y7, y8, y9, y10, y11, y12, y13, y14⟩, hx, h⟩ := Option.bind_eq_some_iff.mp h
  simp only [hx, Option.bind_some] at h
  obtain ⟨s, hs, h⟩ := Option.bind_eq_some_iff.mp h
  obtain ⟨i, hi, h⟩ := Option.bind_eq_some_iff.mp h
  by_cases cn : (i != s) = true
  ·rw [if_pos cn] at h; cases h
  rw [if_neg cn] at h
  obtain ⟨q, hq, h⟩ := Option.bind_eq_some_iff.mp h
  cases q with
  | false => cases h
  | true =>
  have e : i = s := by simpa using cn
  subst e
  have HX := am hx
  have HS := am hs
  have HI := am hi
  have HQ := am hq
  have cd := decide_eq_false c
  clear h hx hs hi hq cn
  go_upto_region 3 with (first | ((with_reducible refine gate_dst (N := 7) rfl ?_); refine ldbox (t := 32) rfl (.tmp 1) rfl (by rfl) cs B1.out Tryz.underlying32 rfl (by rw [Array.length_toList, ZL.out.1]; kernel_rfl) ?_) | (go_at_call 4; refine (szW k cs aL aF aM aG aH aI aN aJ aO aK aA aB aC aD aE _ t _ HL.out HT.out).mono ?_; rintro e wq ⟨rfl, hb⟩; replace B1 := am (blk_below B1.out hb); replace HL := am (HL.out.below hb); replace HB := am (Below.trans HB.out (hb.mono HB.out.size)); clear hb))
  go_upto_region 5 with fail
  go_upto_region 6 with (first | ((with_reducible refine gate_dst (N := 12) rfl ?_); refine ldbox (t := 32) rfl (.tmp 1) rfl (by rfl) cs B1.out Tryz.underlying32 rfl (by rw [Array.length_toList, ZL.out.1]; kernel_rfl) ?_) | (go_at_call 6; refine (toW k cs aL aF aM aG aH aI aN aJ aO aK aA aB aC aD aE y0 y1 y2 y3 y4 y5 y6 y7 y8 y9 y10 y11 y12 y13 y14 _ HL.out HX.out).mono ?_; rintro e wq ⟨d1, rfl, hI, hb⟩; have I1 := am hI; clear hI; replace B1 := am (blk_below B1.out hb); replace HL := am (HL.out.below hb); replace HB := am (Below.trans HB.out (hb.mono HB.out.size)); clear hb) | (go_at_call 5; refine (spW k _ y0 y1 y2 y3 y4 y5 y6 y7 y8 y9 y10 y11 y12 y13 y14 i _ I1.out HS.out).mono ?_; rintro e wq ⟨rfl, hb⟩; replace B1 := am (blk_below B1.out hb); replace HL := am (HL.out.below hb); replace HB := am (Below.trans HB.out (hb.mono HB.out.size)); clear hb))
  go_upto_region 7 with (first | ((with_reducible refine gate_dst (N := 15) rfl ?_); refine ldbox (t := 32) rfl (.tmp 1) rfl (by rfl) cs B1.out Tryz.underlying32 rfl (by rw [Array.length_toList, ZL.out.1]; kernel_rfl) ?_) | (go_at_call 6; refine (toW k cs aL aF aM aG aH aI aN aJ aO aK aA aB aC aD aE y0 y1 y2 y3 y4 y5 y6 y7 y8 y9 y10 y11 y12 y13 y14 _ HL.out HX.out).mono ?_; rintro e wq ⟨d2, rfl, hI, hb⟩; have I2 := am hI; have Z2 := am hI.size; clear hI; replace B1 := am (blk_below B1.out hb); replace HL := am (HL.out.below hb); replace HB := am (Below.trans HB.out (hb.mono HB.out.size)); clear hb) | ((with_reducible refine gate_dst (N := 5) rfl ?_); refine mkbox (N := 5) rfl rfl (cs := #[.int .i64 0, .slice none 0 0, .int .i64 0, .slice none 0 0, .slice none 0 0, .slice none 0 0, .int .i64 0, .slice none 0 0, .int .i64 0, .slice none 0 0, .slice none 0 0, .slice none 0 0, .slice none 0 0, .slice none 0 0, .slice none 0 0]) (t := 45) BX rfl rfl (.tmp 5) (.tmp 16) rfl d2 (by intro v; rfl) (by intro v; rfl) Z2.out.1 (by rw [Z2.out.1]; kernel_rfl) Z2.out.2 ?_; intro gx wq hA hb; replace B1 := am (blk_below B1.out hb); replace HL := am (HL.out.below hb); replace I2 := am (I2.out.below hb); have B5 := am hA; clear hA; replace HB := am (Below.trans HB.out (hb.mono HB.out.size)); clear hb))
  go_upto_region 8 with (first | ((with_reducible refine gate_dst (N := 17) rfl ?_); refine ldbox (t := 45) rfl (.tmp 5) rfl (by rfl) d2 B5.out Tryz.underlying45 rfl (by rw [Array.length_toList, Z2.out.1]; kernel_rfl) ?_) | (go_at_call 7; refine (imW k d2 y0 y1 y2 y3 y4 y5 y6 y7 y8 y9 y10 y11 y12 y13 y14 i _ I2.out HI.out).mono ?_; rintro e wq ⟨rfl, hb⟩; replace B1 := am (blk_below B1.out hb); replace HL := am (HL.out.below hb); replace B5 := am (blk_below B5.out hb); replace I2 := am (I2.out.below hb); replace HB := am (Below.trans HB.out (hb.mono HB.out.size)); clear hb))
  have cb : (i != i) = false := by simp
  go_upto_region 10 with fail
  have hd := am (below_drew (Below.refl wq.heap.size wq))
  refine start_ (n := 5) (S := fun w' => w'.heap[gx]? = some (.cells d2 45 (0, 0)) ∧ w'.heap[gw]? = some (.cells cs 32 (0, 0))) (ds := []) (tf 0 5) (by kernel_rfl) rfl rfl ⟨B5.out, B1.out⟩ (fun aP => ?_)
  refine tk 0 (some 22) (tf 1 4) (by kernel_rfl) aP ?_ (hy := yld (by rfl) (.tmp 5) rfl (by rfl) d2 (fun w h => h.1) Tryz.underlying45 rfl (by rw [Array.length_toList, Z2.out.1]; kernel_rfl))
  refine tk 1 (some 23) (tf 2 3) (by kernel_rfl) aP ?_ (hy := yld (by rfl) (.tmp 1) rfl (by rfl) cs (fun w h => h.2) Tryz.underlying32 rfl (by rw [Array.length_toList, ZL.out.1]; kernel_rfl))
  refine one_ (i := 2) (N := some 24) (tf 3 2) rfl rfl (by kernel_rfl) (by decide) (fun K hK => ?_)
  refine goes_ Tryz.func6 (by kernel_rfl) rfl #[.agg cs] (by rfl) rfl rfl MT ?_
  refine (toW k cs aL aF aM aG aH aI aN aJ aO aK aA aB aC aD aE y0 y1 y2 y3 y4 y5 y6 y7 y8 y9 y10 y11 y12 y13 y14 _ (HL.out.below hd.out) HX.out).mono ?_
  rintro e w8 ⟨d3, rfl, hI, hb0⟩
  have hb := hd.out.trans (hb0.mono hd.out.size)
  replace B1 := am (blk_below B1.out hb); replace B5 := am (blk_below B5.out hb); replace I2 := am (I2.out.below hb); replace HB := am (Below.trans HB.out (hb.mono HB.out.size)); clear hb
  have I3 := am hI
  refine ⟨_, rfl, ?_⟩
  refine hK.out _ _ ⟨B5.out, B1.out⟩ (fun aP => ?_)
  clear hK K aP hI hb0 hd
  refine nm (some 24) ?_
  refine one_ (i := 3) (N := some 25) (tf 4 1) rfl rfl (by kernel_rfl) (by decide) (fun K hK => ?_)
  refine goes_ Tryz.func8 (by kernel_rfl) rfl #[.agg d2, .agg d3] (by rfl) rfl rfl MT ?_
  refine (eqW k d2 d3 y0 y1 y2 y3 y4 y5 y6 y7 y8 y9 y10 y11 y12 y13 y14 y0 y1 y2 y3 y4 y5 y6 y7 y8 y9 y10 y11 y12 y13 y14 _ I2.out I3.out HQ.out).mono ?_
  rintro e w9 ⟨rfl, hb⟩
  replace B1 := am (blk_below B1.out hb); replace B5 := am (blk_below B5.out hb); replace HB := am (Below.trans HB.out (hb.mono HB.out.size)); clear hb
  refine ⟨_, rfl, ?_⟩
  refine hK.out _ _ ⟨B5.out, B1.out⟩ (fun aP => ?_)
  clear hK K
  refine nm (some 25) ?_
  refine tk 4 (some 26) (tf 5 0) (by kernel_rfl) aP ?_
  clear aP
  refine done_ (by kernel_rfl) ?_
  go_wp2
  go_ret
  exact ⟨rfl, HB.out⟩
def laws_FnExactWorldSafe.Pure : Prop := ∀ (a0_0 : Int) (l0_1 : List (S111)) (a0_2 : Int) (l0_3 : List (S136)) (l0_4 : List (S96)) (l0_5 : List (S96)) (a0_6 : Int) (l0_7 : List (S111)) (a0_8 : Int) (l0_9 : List (S136)) (l0_10 : List (S96)) (l0_11 : List (S96)) (l0_12 : List (S70)) (l0_13 : List (S74)) (l0_14 : List (S74)), ((Lit.int .i64 a0_0).wf = true) → ((l0_1.length ≤ maxLen ∧ ∀ x_ ∈ l0_1, wfT111 x_)) → ((Lit.int .i64 a0_2).wf = true) → ((l0_3.length ≤ maxLen ∧ ∀ x_ ∈ l0_3, wfT136 x_)) → ((l0_4.length ≤ maxLen ∧ ∀ x_ ∈ l0_4, wfT96 x_)) → ((l0_5.length ≤ maxLen ∧ ∀ x_ ∈ l0_5, wfT96 x_)) → ((Lit.int .i64 a0_6).wf = true) → ((l0_7.length ≤ maxLen ∧ ∀ x_ ∈ l0_7, wfT111 x_)) → ((Lit.int .i64 a0_8).wf = true) → ((l0_9.length ≤ maxLen ∧ ∀ x_ ∈ l0_9, wfT136 x_)) → ((l0_10.length ≤ maxLen ∧ ∀ x_ ∈ l0_10, wfT96 x_)) → ((l0_11.length ≤ maxLen ∧ ∀ x_ ∈ l0_11, wfT96 x_)) → ((l0_12.length ≤ maxLen ∧ ∀ x_ ∈ l0_12, wfT70 x_)) → ((l0_13.length ≤ maxLen ∧ ∀ x_ ∈ l0_13, wfT74 x_)) → ((l0_14.length ≤ maxLen ∧ ∀ x_ ∈ l0_14, wfT74 x_)) → ∃ k, laws_FnExactWorldSafe.f k a0_0 l0_1 a0_2 l0_3 l0_4 l0_5 a0_6 l0_7 a0_8 l0_9 l0_10 l0_11 l0_12 l0_13 l0_14 = some true
theorem laws_FnExactWorldSafe.walk (P : laws_FnExactWorldSafe.Pure) (a0_0 : Int) (A0_1 : Option Addr) (c0_1 : Nat) (l0_1 : List (S111)) (a0_2 : Int) (A0_3 : Option Addr) (c0_3 : Nat) (l0_3 : List (S136)) (A0_4 : Option Addr) (c0_4 : Nat) (l0_4 : List (S96)) (A0_5 : Option Addr) (c0_5 : Nat) (l0_5 : List (S96)) (a0_6 : Int) (A0_7 : Option Addr) (c0_7 : Nat) (l0_7 : List (S111)) (a0_8 : Int) (A0_9 : Option Addr) (c0_9 : Nat) (l0_9 : List (S136)) (A0_10 : Option Addr) (c0_10 : Nat) (l0_10 : List (S96)) (A0_11 : Option Addr) (c0_11 : Nat) (l0_11 : List (S96)) (A0_12 : Option Addr) (c0_12 : Nat) (l0_12 : List (S70)) (A0_13 : Option Addr) (c0_13 : Nat) (l0_13 : List (S74)) (A0_14 : Option Addr) (c0_14 : Nat) (l0_14 : List (S74)) (w : World) (hr0_1 : Kd.C k111 w A0_1 l0_1.length l0_1) (hc0_1 : l0_1.length ≤ c0_1) (hr0_3 : Kd.C k136 w A0_3 l0_3.length l0_3) (hc0_3 : l0_3.length ≤ c0_3) (hr0_4 : Kd.C k96 w A0_4 l0_4.length l0_4) (hc0_4 : l0_4.length ≤ c0_4) (hr0_5 : Kd.C k96 w A0_5 l0_5.length l0_5) (hc0_5 : l0_5.length ≤ c0_5) (hr0_7 : Kd.C k111 w A0_7 l0_7.length l0_7) (hc0_7 : l0_7.length ≤ c0_7) (hr0_9 : Kd.C k136 w A0_9 l0_9.length l0_9) (hc0_9 : l0_9.length ≤ c0_9) (hr0_10 : Kd.C k96 w A0_10 l0_10.length l0_10) (hc0_10 : l0_10.length ≤ c0_10) (hr0_11 : Kd.C k96 w A0_11 l0_11.length l0_11) (hc0_11 : l0_11.length ≤ c0_11) (hr0_12 : Kd.C k70 w A0_12 l0_12.length l0_12) (hc0_12 : l0_12.length ≤ c0_12) (hr0_13 : Kd.C k74 w A0_13 l0_13.length l0_13) (hc0_13 : l0_13.length ≤ c0_13) (hr0_14 : Kd.C k74 w A0_14 l0_14.length l0_14) (hc0_14 : l0_14.length ≤ c0_14) (q0_ : (Lit.int .i64 a0_0).wf = true) (q1_ : (l0_1.length ≤ maxLen ∧ ∀ x_ ∈ l0_1, wfT111 x_)) (q2_ : (Lit.int .i64 a0_2).wf = true) (q3_ : (l0_3.length ≤ maxLen ∧ ∀ x_ ∈ l0_3, wfT136 x_)) (q4_ : (l0_4.length ≤ maxLen ∧ ∀ x_ ∈ l0_4, wfT96 x_)) (q5_ : (l0_5.length ≤ maxLen ∧ ∀ x_ ∈ l0_5, wfT96 x_)) (q6_ : (Lit.int .i64 a0_6).wf = true) (q7_ : (l0_7.length ≤ maxLen ∧ ∀ x_ ∈ l0_7, wfT111 x_)) (q8_ : (Lit.int .i64 a0_8).wf = true) (q9_ : (l0_9.length ≤ maxLen ∧ ∀ x_ ∈ l0_9, wfT136 x_)) (q10_ : (l0_10.length ≤ maxLen ∧ ∀ x_ ∈ l0_10, wfT96 x_)) (q11_ : (l0_11.length ≤ maxLen ∧ ∀ x_ ∈ l0_11, wfT96 x_)) (q12_ : (l0_12.length ≤ maxLen ∧ ∀ x_ ∈ l0_12, wfT70 x_)) (q13_ : (l0_13.length ≤ maxLen ∧ ∀ x_ ∈ l0_13, wfT74 x_)) (q14_ : (l0_14.length ≤ maxLen ∧ ∀ x_ ∈ l0_14, wfT74 x_)) :
  Calls Tryz.prog 3 #[.agg #[.int .i64 a0_0, .slice A0_1 l0_1.length c0_1, .int .i64 a0_2, .slice A0_3 l0_3.length c0_3, .slice A0_4 l0_4.length c0_4, .slice A0_5 l0_5.length c0_5, .int .i64 a0_6, .slice A0_7 l0_7.length c0_7, .int .i64 a0_8, .slice A0_9 l0_9.length c0_9, .slice A0_10 l0_10.length c0_10, .slice A0_11 l0_11.length c0_11, .slice A0_12 l0_12.length c0_12, .slice A0_13 l0_13.length c0_13, .slice A0_14 l0_14.length c0_14]] w fun e w' => e = .returned (.bool true) ∧ Below w.heap.size w w' := by
 obtain ⟨k, h⟩ := P a0_0 l0_1 a0_2 l0_3 l0_4 l0_5 a0_6 l0_7 a0_8 l0_9 l0_10 l0_11 l0_12 l0_13 l0_14 q0_ q1_ q2_ q3_ q4_ q5_ q6_ q7_ q8_ q9_ q10_ q11_ q12_ q13_ q14_
 refine (laws_FnExactWorldSafe.calls k a0_0 A0_1 c0_1 l0_1 a0_2 A0_3 c0_3 l0_3 A0_4 c0_4 l0_4 A0_5 c0_5 l0_5 a0_6 A0_7 c0_7 l0_7 a0_8 A0_9 c0_9 l0_9 A0_10 c0_10 l0_10 A0_11 c0_11 l0_11 A0_12 c0_12 l0_12 A0_13 c0_13 l0_13 A0_14 c0_14 l0_14 true w hr0_1 hc0_1 hr0_3 hc0_3 hr0_4 hc0_4 hr0_5 hc0_5 hr0_7 hc0_7 hr0_9 hc0_9 hr0_10 hc0_10 hr0_11 hc0_11 hr0_12 hc0_12 hr0_13 hc0_13 hr0_14 hc0_14 rfl h).mono ?_
 rintro e w' ⟨rfl, hd⟩
 exact ⟨rfl, hd⟩
end Go.Proofs.YtgjbbnmjeblcgaaGreat.PAll
end
