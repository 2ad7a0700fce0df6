/- Contracts of the functions that the statement reaches. -/
import Derived.Test.YtohegganioifbaaGreatCFnExactWorldOk3
import Derived.Test.YtohegganioifbaaGreatCFnExactWorldOk4
import Derived.Test.YtohegganioifbaaGreatCFnExactWorldOk7
set_option maxHeartbeats 8000000
set_option maxRecDepth 100000
section
namespace Go.Proofs.YtohegganioifbaaGreat.PAll
open Go.RowKit Go.Proofs.YtohegganioifbaaGreatW.PrintWords Go.Proofs.YtohegganioifbaaGreatW.PrintLast Go.Proofs.YtohegganioifbaaGreatW.PrintMore
attribute [local go_sem] max2_int min2_int max_two min_two max_three min_three max_four min_four
set_option linter.unusedVariables false
set_option linter.unusedSimpArgs false
def laws_eqCache.f (k : Nat) (a0_0 : Int) (l0_1 : List (S108)) (a1_0 : Int) (l1_1 : List (S108)) : Option (Bool) := if a0_0 = a1_0 then ((laws_eqSeenS.f k l0_1 l1_1).bind fun t103 => (if t103 = true then (some true) else (some false))) else (some false)
theorem laws_eqCache.calls (k : Nat) (aI : Int) (aN : Option Addr) (aO : Nat) (aG : List (S108)) (aJ : Int) (aP : Option Addr) (aQ : Nat) (aH : List (S108)) (r : Bool) (w : World) (aS : Kd.C k108 w aN aG.length aG) (aT : aG.length ≤ aO) (aU : Kd.C k108 w aP aH.length aH) (aV : aH.length ≤ aQ) (h : laws_eqCache.f k aI aG aJ aH = some r) :
  Calls Tryz.prog 42 #[.agg #[.int .i64 aI, .slice aN aG.length aO], .agg #[.int .i64 aJ, .slice aP aH.length aQ]] w fun e w' => e = .returned (.bool r) ∧ Below w.heap.size w w' := by
 have cB := Tryz.underlying38
 have aW := Aside0.mk aS
 have aX := Aside0.mk aT
 clear aS aT
 have aY := Aside0.mk aU
 have aZ := Aside0.mk aV
 clear aU aV
 have HB := am (Below.refl w.heap.size w)
 have H : (if aI = aJ then ((laws_eqSeenS.f k aG aH).bind fun aR => (if aR = true then (some true) else (some false))) else (some false)) = some r := h
 clear h
 by_cases c3 : aI = aJ
 ·rw [if_pos c3] at H
  have c3b0 : (aI == aJ) = true := beq_iff_eq.mpr c3
  have c3b1 : (aI != aJ) = false := bne_eq_false_iff_eq.mpr c3
  clear c3
  replace H := bm H
  obtain ⟨aR, bU, H⟩ := H
  replace H : (if aR = true then (some true) else (some false)) = some r := H
  have A4 := Aside0.mk bU
  clear bU
  by_cases c5 : aR = true
  ·subst c5
   have H1 := pf H
   clear H
   have H := H1
   clear H1
   obtain rfl := sj H
   go_enter Tryz.func42, Tryz.ntmps42
   go_wp2_with (first | ((with_reducible refine gate_dst (N := 2) rfl ?_); refine box_event rfl (N := 2) rfl (cs := #[.int .i64 aI, .slice aN aG.length aO]) (t := 38) BX ?_; intro bA hg w6 aE hb; have aA := am (aE); have aL := am (GH HB hg); have aB := aL; replace HB := bl (KL HB) hb; clear hb aE hg) | ((with_reducible refine gate_dst (N := 3) rfl ?_); refine box_event rfl (N := 3) rfl (cs := #[.int .i64 aJ, .slice aP aH.length aQ]) (t := 38) BX ?_; intro bB hg w7 aE hb; have aF := am (aE); have aM := am (GH1 HB aB.out hg); have aK := aM; replace HB := bl (K1 HB aB.out) hb; have aC := am (NL aA hg); have aD := am (NG aA hg); replace aA := am (BB aA hb); clear hb aE hg; have cC := aC.out; have cD := aD.out; have ⟨_, _, _⟩ := y2 w7 aA.out; have ⟨_, _, _⟩ := y2 w7 aF.out) | ((with_reducible refine gate_callee (f := 65) rfl ?_); refine goesL_ (some 14) rfl rfl Tryz.func65 (by kernel_rfl) rfl #[.slice aN aG.length aO, .slice aP aH.length aQ] rfl MT ?_; (with_reducible refine (laws_eqSeenS.calls k _ _ aG _ _ aH true _ ?_ ?_ ?_ ?_ A4.out).mono ?_); exact KD aW HB; exact aX.out; exact KD aY HB; exact aZ.out; rintro e cE ⟨rfl, hb⟩; refine ⟨_, rfl, ?_⟩; replace aA := am (BB aA hb); replace aF := am (BB aF hb); replace HB := bl (K2 HB aB.out aK.out) hb; (try clear hb)))
   go_ret
   exact ⟨ER, K2 HB aB.out aK.out⟩
  ·replace c5 := Bool.eq_false_iff.mpr c5
   subst c5
   have H1 := nf H
   clear H
   have H := H1
   clear H1
   obtain rfl := sj H
   go_enter Tryz.func42, Tryz.ntmps42
   go_wp2_with (first | ((with_reducible refine gate_dst (N := 2) rfl ?_); refine box_event rfl (N := 2) rfl (cs := #[.int .i64 aI, .slice aN aG.length aO]) (t := 38) BX ?_; intro bA hg cF aE hb; have aA := am (aE); have aL := am (GH HB hg); have aB := aL; replace HB := bl (KL HB) hb; clear hb aE hg) | ((with_reducible refine gate_dst (N := 3) rfl ?_); refine box_event rfl (N := 3) rfl (cs := #[.int .i64 aJ, .slice aP aH.length aQ]) (t := 38) BX ?_; intro bB hg bV aE hb; have aF := am (aE); have aM := am (GH1 HB aB.out hg); have aK := aM; replace HB := bl (K1 HB aB.out) hb; have aC := am (NL aA hg); have aD := am (NG aA hg); replace aA := am (BB aA hb); clear hb aE hg; have bW := aC.out; have bX := aD.out; have ⟨_, _, _⟩ := y2 bV aA.out; have ⟨_, _, _⟩ := y2 bV aF.out) | ((with_reducible refine gate_callee (f := 65) rfl ?_); refine goesL_ (some 14) rfl rfl Tryz.func65 (by kernel_rfl) rfl #[.slice aN aG.length aO, .slice aP aH.length aQ] rfl MT ?_; (with_reducible refine (laws_eqSeenS.calls k _ _ aG _ _ aH false _ ?_ ?_ ?_ ?_ A4.out).mono ?_); exact KD aW HB; exact aX.out; exact KD aY HB; exact aZ.out; rintro e cG ⟨rfl, hb⟩; refine ⟨_, rfl, ?_⟩; replace aA := am (BB aA hb); replace aF := am (BB aF hb); replace HB := bl (K2 HB aB.out aK.out) hb; (try clear hb)))
   go_ret
   exact ⟨ER, K2 HB aB.out aK.out⟩
 ·rw [if_neg c3] at H
  have c3b0 : (aI == aJ) = false := beq_eq_false_iff_ne.mpr c3
  have c3b1 : (aI != aJ) = true := bne_iff_ne.mpr c3
  obtain rfl := sj H
  go_enter Tryz.func42, Tryz.ntmps42
  go_wp2_with (first | ((with_reducible refine gate_dst (N := 2) rfl ?_); refine box_event rfl (N := 2) rfl (cs := #[.int .i64 aI, .slice aN aG.length aO]) (t := 38) BX ?_; intro bA hg cH aE hb; have aA := am (aE); have aL := am (GH HB hg); have aB := aL; replace HB := bl (KL HB) hb; clear hb aE hg) | ((with_reducible refine gate_dst (N := 3) rfl ?_); refine box_event rfl (N := 3) rfl (cs := #[.int .i64 aJ, .slice aP aH.length aQ]) (t := 38) BX ?_; intro bB hg bY aE hb; have aF := am (aE); have aM := am (GH1 HB aB.out hg); have aK := aM; replace HB := bl (K1 HB aB.out) hb; have aC := am (NL aA hg); have aD := am (NG aA hg); replace aA := am (BB aA hb); clear hb aE hg; have bZ := aC.out; have cA := aD.out; have ⟨_, _, _⟩ := y2 bY aA.out; have ⟨_, _, _⟩ := y2 bY aF.out))
  go_ret
  exact ⟨ER, K2 HB aB.out aK.out⟩
def laws_eqIntS.l0 : Nat → List Int → List Int → Int → Option (Bool)
 | 0, _, _, _ => none
 | k + 1, x0, x1, x5 => if x5 < (x0.length : Int) then (if 0 ≤ x5 then (if x5 < (x1.length : Int) then (if (rd x0 x5) = (rd x1 x5) then (laws_eqIntS.l0 k x0 x1 (wrap64 (x5 + 1))) else (some false)) else (none)) else (none)) else (some true)
def laws_eqIntS.f (k : Nat) (l0 : List Int) (l1 : List Int) : Option (Bool) := if (l0.length : Int) = (l1.length : Int) then (laws_eqIntS.l0 k l0 l1 0) else (some false)
theorem laws_eqIntS.calls (k : Nat) (A0 : Option Addr) (c0 : Nat) (l0 : List Int) (A1 : Option Addr) (c1 : Nat) (l1 : List Int) (r : Bool) (w : World) (aL : Kd.C (Kd.int .i64) w A0 l0.length l0) (aM : l0.length ≤ c0) (aN : Kd.C (Kd.int .i64) w A1 l1.length l1) (aO : l1.length ≤ c1) (h : laws_eqIntS.f k l0 l1 = some r) :
  Calls Tryz.prog 96 #[.slice A0 l0.length c0, .slice A1 l1.length c1] w fun e w' => e = .returned (.bool r) ∧ Drawn0 w w' := by
 have aP := Aside0.mk aL
 have aR := Aside0.mk aM
 clear aL aM
 have aQ := Aside0.mk aN
 have aS := Aside0.mk aO
 clear aN aO
 have H : (if (l0.length : Int) = (l1.length : Int) then (laws_eqIntS.l0 k l0 l1 0) else (some false)) = some r := h
 clear h
 by_cases c3 : (l0.length : Int) = (l1.length : Int)
 ·rw [if_pos c3] at H
  have c3b0 : ((l0.length : Int) == (l1.length : Int)) = true := beq_iff_eq.mpr c3
  have c3b1 : ((l0.length : Int) != (l1.length : Int)) = false := bne_eq_false_iff_eq.mpr c3
  have c3b2 : (l0.length == l1.length) = true := by first | simpa using c3 | (simp at c3 ⊢; omega)
  clear c3
  have H' := Aside0.mk H
  clear H
  go_enter Tryz.func96, Tryz.ntmps96
  go_wp2
  repeat (go_quiet (fail); try go_wp2)
  go_loopg [5] k (fun kq v5 w' => ∃ (aA : Int), v5 = .int .i64 aA ∧ Aside0 (laws_eqIntS.l0 kq l0 l1 aA = some r) ∧ Aside0 (kq ≤ k) ∧ Drawn0 w w')
  case atStart => exact ⟨(0), (by first | rfl | (simp; done) | (simp [*]; done)), H', ⟨Nat.le_refl _⟩, by repeat (first | exact Drawn0.refl _ | apply Drawn0.step)⟩
  case round =>
   clear H'
   try clear c1
   try clear p2
   try clear c3
   try clear c3b0
   try clear c3b1
   try clear c3b2
   obtain ⟨aA, rfl, HA, HK1, ⟨m1, rfl⟩⟩ := hrel
   cases gk with
   | zero => exact absurd HA.out (by simp [laws_eqIntS.l0])
   | succ k1 =>
    have H := HA.out
    clear HA
    simp only [laws_eqIntS.l0] at H
    by_cases c4 : aA < (l0.length : Int)
    ·rw [if_pos c4] at H
     have c4b0 : decide (aA < (l0.length : Int)) = true := decide_eq_true c4
     clear c4
     by_cases c5 : 0 ≤ aA
     ·rw [if_pos c5] at H
      have c5b0 : decide (0 ≤ aA) = true := decide_eq_true c5
      clear c5
      by_cases c6 : aA < (l1.length : Int)
      ·rw [if_pos c6] at H
       have c6b0 : decide (aA < (l1.length : Int)) = true := decide_eq_true c6
       clear c6
       by_cases c7 : (rd l0 aA) = (rd l1 aA)
       ·rw [if_pos c7] at H
        have c7b0 : ((rd l0 aA) == (rd l1 aA)) = true := beq_iff_eq.mpr c7
        have c7b1 : ((rd l0 aA) != (rd l1 aA)) = false := bne_eq_false_iff_eq.mpr c7
        clear c7
        have H' := Aside0.mk H
        clear H
        have aB : 0 ≤ (aA : Int) := OD
        have aC : aA < (l0.length : Int) := OD
        obtain ⟨aJ, aH, aF⟩ := Kd.at_int aP.out aA aB aC
        cases aH
        replace aB := eq_true aB
        replace aC := eq_true aC
        have aD : 0 ≤ (aA : Int) := OD
        have aE : aA < (l1.length : Int) := OD
        obtain ⟨aK, aI, aG⟩ := Kd.at_int aQ.out aA aD aE
        cases aI
        replace aD := eq_true aD
        replace aE := eq_true aE
        go_wp2
        repeat (go_quiet (fail); try go_wp2)
        go_roundg k1
        case measure => have := HK1.out; omega
        case rel => exact ⟨(wrap64 (aA + 1)), (by first | rfl | (simp; done) | (simp [*]; done)), H', ⟨by have := HK1.out; omega⟩, by repeat (first | exact Drawn0.refl _ | apply Drawn0.step)⟩
       ·rw [if_neg c7] at H
        have c7b0 : ((rd l0 aA) == (rd l1 aA)) = false := beq_eq_false_iff_ne.mpr c7
        have c7b1 : ((rd l0 aA) != (rd l1 aA)) = true := bne_iff_ne.mpr c7
        obtain rfl := sj H
        have aB : 0 ≤ (aA : Int) := OD
        have aC : aA < (l0.length : Int) := OD
        obtain ⟨aJ, aH, aF⟩ := Kd.at_int aP.out aA aB aC
        cases aH
        replace aB := eq_true aB
        replace aC := eq_true aC
        have aD : 0 ≤ (aA : Int) := OD
        have aE : aA < (l1.length : Int) := OD
        obtain ⟨aK, aI, aG⟩ := Kd.at_int aQ.out aA aD aE
        cases aI
        replace aD := eq_true aD
        replace aE := eq_true aE
        go_wp2
        repeat (go_quiet (fail); try go_wp2)
        go_ret
        exact ⟨by first | rfl | (simp; done) | (simp [*]; done), by repeat (first | exact Drawn0.refl _ | apply Drawn0.step)⟩
      ·rw [if_neg c6] at H
       exact absurd H (by simp)
     ·rw [if_neg c5] at H
      exact absurd H (by simp)
    ·rw [if_neg c4] at H
     have c4b0 : decide (aA < (l0.length : Int)) = false := decide_eq_false c4
     clear c4
     obtain rfl := sj H
     go_wp2
     repeat (go_quiet (fail); try go_wp2)
     go_ret
     exact ⟨by first | rfl | (simp; done) | (simp [*]; done), by repeat (first | exact Drawn0.refl _ | apply Drawn0.step)⟩
 ·rw [if_neg c3] at H
  have c3b0 : ((l0.length : Int) == (l1.length : Int)) = false := beq_eq_false_iff_ne.mpr c3
  have c3b1 : ((l0.length : Int) != (l1.length : Int)) = true := bne_iff_ne.mpr c3
  have c3b2 : (l0.length == l1.length) = false := by first | simpa using c3 | (simp at c3 ⊢; omega)
  obtain rfl := sj H
  go_enter Tryz.func96, Tryz.ntmps96
  go_wp2
  repeat (go_quiet (fail); try go_wp2)
  go_ret
  exact ⟨by first | rfl | (simp; done) | (simp [*]; done), by repeat (first | exact Drawn0.refl _ | apply Drawn0.step)⟩
def laws_eqWindow.f (k : Nat) (a0_0 : Int) (l0_1 : List Int) (a1_0 : Int) (l1_1 : List Int) : Option (Bool) := if a0_0 = a1_0 then ((laws_eqIntS.f k l0_1 l1_1).bind fun t103 => (if t103 = true then (some true) else (some false))) else (some false)
theorem laws_eqWindow.calls (k : Nat) (aH : Int) (aN : Option Addr) (aO : Nat) (aF : List Int) (aI : Int) (aP : Option Addr) (aQ : Nat) (aG : List Int) (r : Bool) (w : World) (aS : Kd.C (Kd.int .i64) w aN aF.length aF) (aT : aF.length ≤ aO) (aU : Kd.C (Kd.int .i64) w aP aG.length aG) (aV : aG.length ≤ aQ) (h : laws_eqWindow.f k aH aF aI aG = some r) :
  Calls Tryz.prog 87 #[.agg #[.int .i64 aH, .slice aN aF.length aO], .agg #[.int .i64 aI, .slice aP aG.length aQ]] w fun e w' => e = .returned (.bool r) ∧ Below w.heap.size w w' := by
 have cB := Tryz.underlying78
 have aW := Aside0.mk aS
 have aX := Aside0.mk aT
 clear aS aT
 have aY := Aside0.mk aU
 have aZ := Aside0.mk aV
 clear aU aV
 have HB := am (Below.refl w.heap.size w)
 have H : (if aH = aI then ((laws_eqIntS.f k aF aG).bind fun aR => (if aR = true then (some true) else (some false))) else (some false)) = some r := h
 clear h
 by_cases c3 : aH = aI
 ·rw [if_pos c3] at H
  have c3b0 : (aH == aI) = true := beq_iff_eq.mpr c3
  have c3b1 : (aH != aI) = false := bne_eq_false_iff_eq.mpr c3
  clear c3
  replace H := bm H
  obtain ⟨aR, bU, H⟩ := H
  replace H : (if aR = true then (some true) else (some false)) = some r := H
  have A4 := Aside0.mk bU
  clear bU
  by_cases c5 : aR = true
  ·subst c5
   have H1 := pf H
   clear H
   have H := H1
   clear H1
   obtain rfl := sj H
   go_enter Tryz.func87, Tryz.ntmps87
   go_wp2_with (first | ((with_reducible refine gate_dst (N := 2) rfl ?_); refine box_event rfl (N := 2) rfl (cs := #[.int .i64 aH, .slice aN aF.length aO]) (t := 78) BX ?_; intro bA hg w6 aD hb; have aA := am (aD); have aJ := am (GH HB hg); have aE := aJ; replace HB := bl (KL HB) hb; clear hb aD hg) | ((with_reducible refine gate_dst (N := 3) rfl ?_); refine box_event rfl (N := 3) rfl (cs := #[.int .i64 aI, .slice aP aG.length aQ]) (t := 78) BX ?_; intro bB hg w7 aD hb; have aK := am (aD); have aL := am (GH1 HB aE.out hg); have aM := aL; replace HB := bl (K1 HB aE.out) hb; have aB := am (NL aA hg); have aC := am (NG aA hg); replace aA := am (BB aA hb); clear hb aD hg; have cC := aB.out; have cD := aC.out; have ⟨_, _, _⟩ := y2 w7 aA.out; have ⟨_, _, _⟩ := y2 w7 aK.out) | ((with_reducible refine gate_callee (f := 96) rfl ?_); refine goesL_ (some 14) rfl rfl Tryz.func96 (by kernel_rfl) rfl #[.slice aN aF.length aO, .slice aP aG.length aQ] rfl MT ?_; (with_reducible refine (laws_eqIntS.calls k _ _ aF _ _ aG true _ ?_ ?_ ?_ ?_ A4.out).mono ?_); exact KD aW HB; exact aX.out; exact KD aY HB; exact aZ.out; rintro e w' ⟨rfl, ⟨nd, rfl⟩⟩; refine ⟨_, rfl, ?_⟩))
   go_ret
   exact ⟨ER, K2 HB aE.out aM.out⟩
  ·replace c5 := Bool.eq_false_iff.mpr c5
   subst c5
   have H1 := nf H
   clear H
   have H := H1
   clear H1
   obtain rfl := sj H
   go_enter Tryz.func87, Tryz.ntmps87
   go_wp2_with (first | ((with_reducible refine gate_dst (N := 2) rfl ?_); refine box_event rfl (N := 2) rfl (cs := #[.int .i64 aH, .slice aN aF.length aO]) (t := 78) BX ?_; intro bA hg cE aD hb; have aA := am (aD); have aJ := am (GH HB hg); have aE := aJ; replace HB := bl (KL HB) hb; clear hb aD hg) | ((with_reducible refine gate_dst (N := 3) rfl ?_); refine box_event rfl (N := 3) rfl (cs := #[.int .i64 aI, .slice aP aG.length aQ]) (t := 78) BX ?_; intro bB hg bV aD hb; have aK := am (aD); have aL := am (GH1 HB aE.out hg); have aM := aL; replace HB := bl (K1 HB aE.out) hb; have aB := am (NL aA hg); have aC := am (NG aA hg); replace aA := am (BB aA hb); clear hb aD hg; have bW := aB.out; have bX := aC.out; have ⟨_, _, _⟩ := y2 bV aA.out; have ⟨_, _, _⟩ := y2 bV aK.out) | ((with_reducible refine gate_callee (f := 96) rfl ?_); refine goesL_ (some 14) rfl rfl Tryz.func96 (by kernel_rfl) rfl #[.slice aN aF.length aO, .slice aP aG.length aQ] rfl MT ?_; (with_reducible refine (laws_eqIntS.calls k _ _ aF _ _ aG false _ ?_ ?_ ?_ ?_ A4.out).mono ?_); exact KD aW HB; exact aX.out; exact KD aY HB; exact aZ.out; rintro e w' ⟨rfl, ⟨nd, rfl⟩⟩; refine ⟨_, rfl, ?_⟩))
   go_ret
   exact ⟨ER, K2 HB aE.out aM.out⟩
 ·rw [if_neg c3] at H
  have c3b0 : (aH == aI) = false := beq_eq_false_iff_ne.mpr c3
  have c3b1 : (aH != aI) = true := bne_iff_ne.mpr c3
  obtain rfl := sj H
  go_enter Tryz.func87, Tryz.ntmps87
  go_wp2_with (first | ((with_reducible refine gate_dst (N := 2) rfl ?_); refine box_event rfl (N := 2) rfl (cs := #[.int .i64 aH, .slice aN aF.length aO]) (t := 78) BX ?_; intro bA hg cF aD hb; have aA := am (aD); have aJ := am (GH HB hg); have aE := aJ; replace HB := bl (KL HB) hb; clear hb aD hg) | ((with_reducible refine gate_dst (N := 3) rfl ?_); refine box_event rfl (N := 3) rfl (cs := #[.int .i64 aI, .slice aP aG.length aQ]) (t := 78) BX ?_; intro bB hg bY aD hb; have aK := am (aD); have aL := am (GH1 HB aE.out hg); have aM := aL; replace HB := bl (K1 HB aE.out) hb; have aB := am (NL aA hg); have aC := am (NG aA hg); replace aA := am (BB aA hb); clear hb aD hg; have bZ := aB.out; have cA := aC.out; have ⟨_, _, _⟩ := y2 bY aA.out; have ⟨_, _, _⟩ := y2 bY aK.out))
  go_ret
  exact ⟨ER, K2 HB aE.out aM.out⟩
def laws_eqSa.f (k : Nat) (a0_0 : Int) (a0_1 : Int) (a0_2 : ByteArray) (a0_3 : ByteArray) (a0_4 : Int) (a0_5 : Int) (a0_6 : Int) (a0_7 : Int) (a0_8 : Int) (a0_9 : Int) (l0_10 : List Int) (a1_0 : Int) (a1_1 : Int) (a1_2 : ByteArray) (a1_3 : ByteArray) (a1_4 : Int) (a1_5 : Int) (a1_6 : Int) (a1_7 : Int) (a1_8 : Int) (a1_9 : Int) (l1_10 : List Int) : Option (Bool) := if a0_0 = a1_0 then (if a0_1 = a1_1 then (if a0_2.toList = a1_2.toList then (if a0_3.toList = a1_3.toList then (if a0_4 = a1_4 then (if a0_5 = a1_5 then (if a0_6 = a1_6 then (if a0_7 = a1_7 then (if a0_8 = a1_8 then ((laws_eqWindow.f k a0_9 l0_10 a1_9 l1_10).bind fun t103 => (if t103 = true then (some true) else (some false))) else (some false)) else (some false)) else (some false)) else (some false)) else (some false)) else (some false)) else (some false)) else (some false)) else (some false)
theorem laws_eqSa.calls (k : Nat) (aP : Int) (aQ : Int) (aR : ByteArray) (aS : ByteArray) (aT : Int) (aU : Int) (aV : Int) (aW : Int) (aX : Int) (bH : Int) (aL : Option Addr) (aM : Nat) (aH : List Int) (aY : Int) (aZ : Int) (bA : ByteArray) (bB : ByteArray) (bC : Int) (bD : Int) (bE : Int) (bF : Int) (bG : Int) (bI : Int) (aN : Option Addr) (aO : Nat) (aI : List Int) (r : Bool) (w : World) (bL : Kd.C (Kd.int .i64) w aL aH.length aH) (bM : aH.length ≤ aM) (bN : Kd.C (Kd.int .i64) w aN aI.length aI) (bO : aI.length ≤ aO) (h : laws_eqSa.f k aP aQ aR aS aT aU aV aW aX bH aH aY aZ bA bB bC bD bE bF bG bI aI = some r) :
  Calls Tryz.prog 66 #[.agg #[.int .i64 aP, .int .i64 aQ, .string aR, .string aS, .int .i64 aT, .int .i64 aU, .int .i64 aV, .int .i64 aW, .int .i64 aX, .int .i64 bH, .slice aL aH.length aM], .agg #[.int .i64 aY, .int .i64 aZ, .string bA, .string bB, .int .i64 bC, .int .i64 bD, .int .i64 bE, .int .i64 bF, .int .i64 bG, .int .i64 bI, .slice aN aI.length aO]] w fun e w' => e = .returned (.bool r) ∧ Below w.heap.size w w' := by
 have nK := Tryz.underlying80
 have nL := Tryz.underlying78
 have bP := Aside0.mk bL
 have bQ := Aside0.mk bM
 clear bL bM
 have bR := Aside0.mk bN
 have bS := Aside0.mk bO
 clear bN bO
 have HB := am (Below.refl w.heap.size w)
 have H : (if aP = aY then (if aQ = aZ then (if aR.toList = bA.toList then (if aS.toList = bB.toList then (if aT = bC then (if aU = bD then (if aV = bE then (if aW = bF then (if aX = bG then ((laws_eqWindow.f k bH aH bI aI).bind fun bT => (if bT = true then (some true) else (some false))) else (some false)) else (some false)) else (some false)) else (some false)) else (some false)) else (some false)) else (some false)) else (some false)) else (some false)) = some r := h
 clear h
 by_cases c3 : aP = aY
 ·rw [if_pos c3] at H
  have c3b0 : (aP == aY) = true := beq_iff_eq.mpr c3
  have c3b1 : (aP != aY) = false := bne_eq_false_iff_eq.mpr c3
  clear c3
  by_cases c4 : aQ = aZ
  ·rw [if_pos c4] at H
   have c4b0 : (aQ == aZ) = true := beq_iff_eq.mpr c4
   have c4b1 : (aQ != aZ) = false := bne_eq_false_iff_eq.mpr c4
   clear c4
   by_cases c5 : aR.toList = bA.toList
   ·rw [if_pos c5] at H
    have c5b0 : (aR.toList == bA.toList) = true := beq_iff_eq.mpr c5
    have c5b1 : (aR.toList != bA.toList) = false := bne_eq_false_iff_eq.mpr c5
    clear c5
    by_cases c6 : aS.toList = bB.toList
    ·rw [if_pos c6] at H
     have c6b0 : (aS.toList == bB.toList) = true := beq_iff_eq.mpr c6
     have c6b1 : (aS.toList != bB.toList) = false := bne_eq_false_iff_eq.mpr c6
     clear c6
     by_cases c7 : aT = bC
     ·rw [if_pos c7] at H
      have c7b0 : (aT == bC) = true := beq_iff_eq.mpr c7
      have c7b1 : (aT != bC) = false := bne_eq_false_iff_eq.mpr c7
      clear c7
      by_cases c8 : aU = bD
      ·rw [if_pos c8] at H
       have c8b0 : (aU == bD) = true := beq_iff_eq.mpr c8
       have c8b1 : (aU != bD) = false := bne_eq_false_iff_eq.mpr c8
       clear c8
       by_cases c9 : aV = bE
       ·rw [if_pos c9] at H
        have c9b0 : (aV == bE) = true := beq_iff_eq.mpr c9
        have c9b1 : (aV != bE) = false := bne_eq_false_iff_eq.mpr c9
        clear c9
        by_cases bU : aW = bF
        ·rw [if_pos bU] at H
         have c10b0 : (aW == bF) = true := beq_iff_eq.mpr bU
         have c10b1 : (aW != bF) = false := bne_eq_false_iff_eq.mpr bU
         clear bU
         by_cases bV : aX = bG
         ·rw [if_pos bV] at H
          have c11b0 : (aX == bG) = true := beq_iff_eq.mpr bV
          have c11b1 : (aX != bG) = false := bne_eq_false_iff_eq.mpr bV
          clear bV
          replace H := bm H
          obtain ⟨bT, bW, H⟩ := H
          replace H : (if bT = true then (some true) else (some false)) = some r := H
          have mC := Aside0.mk bW
          clear bW
          by_cases cT : bT = true
          ·subst cT
           have H1 := pf H
           clear H
           have H := H1
           clear H1
           obtain rfl := sj H
           go_enter Tryz.func66, Tryz.ntmps66
           go_wp2_with (first | ((with_reducible refine gate_dst (N := 2) rfl ?_); refine box_event rfl (N := 2) rfl (cs := #[.int .i64 aP, .int .i64 aQ, .string aR, .string aS, .int .i64 aT, .int .i64 aU, .int .i64 aV, .int .i64 aW, .int .i64 aX, .int .i64 bH, .slice aL aH.length aM]) (t := 80) BX ?_; intro bJ hg nM aE hb; have aA := am (aE); have aJ := am (GH HB hg); have aD := aJ; replace HB := bl (KL HB) hb; clear hb aE hg) | ((with_reducible refine gate_dst (N := 3) rfl ?_); refine box_event rfl (N := 3) rfl (cs := #[.int .i64 aY, .int .i64 aZ, .string bA, .string bB, .int .i64 bC, .int .i64 bD, .int .i64 bE, .int .i64 bF, .int .i64 bG, .int .i64 bI, .slice aN aI.length aO]) (t := 80) BX ?_; intro bK hg mD aE hb; have aF := am (aE); have aK := am (GH1 HB aD.out hg); have aG := aK; replace HB := bl (K1 HB aD.out) hb; have aB := am (NL aA hg); have aC := am (NG aA hg); replace aA := am (BB aA hb); clear hb aE hg; have mE := aB.out; have mF := aC.out; have ⟨_, _, _, _, _, _, _, _, _, _, _, _⟩ := y11 mD aA.out; have ⟨_, _, _, _, _, _, _, _, _, _, _, _⟩ := y11 mD aF.out) | ((with_reducible refine gate_callee (f := 87) rfl ?_); refine goesL_ (some 54) rfl rfl Tryz.func87 (by kernel_rfl) rfl #[.agg #[.int .i64 bH, .slice aL aH.length aM], .agg #[.int .i64 bI, .slice aN aI.length aO]] rfl MT ?_; (with_reducible refine (laws_eqWindow.calls k bH _ _ aH bI _ _ aI true _ ?_ ?_ ?_ ?_ mC.out).mono ?_); exact KD bP HB; exact bQ.out; exact KD bR HB; exact bS.out; rintro e nN ⟨rfl, hb⟩; refine ⟨_, rfl, ?_⟩; replace aA := am (BB aA hb); replace aF := am (BB aF hb); replace HB := bl (K2 HB aD.out aG.out) hb; (try clear hb)))
           go_ret
           exact ⟨ER, K2 HB aD.out aG.out⟩
          ·replace cT := Bool.eq_false_iff.mpr cT
           subst cT
           have H1 := nf H
           clear H
           have H := H1
           clear H1
           obtain rfl := sj H
           go_enter Tryz.func66, Tryz.ntmps66
           go_wp2_with (first | ((with_reducible refine gate_dst (N := 2) rfl ?_); refine box_event rfl (N := 2) rfl (cs := #[.int .i64 aP, .int .i64 aQ, .string aR, .string aS, .int .i64 aT, .int .i64 aU, .int .i64 aV, .int .i64 aW, .int .i64 aX, .int .i64 bH, .slice aL aH.length aM]) (t := 80) BX ?_; intro bJ hg nO aE hb; have aA := am (aE); have aJ := am (GH HB hg); have aD := aJ; replace HB := bl (KL HB) hb; clear hb aE hg) | ((with_reducible refine gate_dst (N := 3) rfl ?_); refine box_event rfl (N := 3) rfl (cs := #[.int .i64 aY, .int .i64 aZ, .string bA, .string bB, .int .i64 bC, .int .i64 bD, .int .i64 bE, .int .i64 bF, .int .i64 bG, .int .i64 bI, .slice aN aI.length aO]) (t := 80) BX ?_; intro bK hg mG aE hb; have aF := am (aE); have aK := am (GH1 HB aD.out hg); have aG := aK; replace HB := bl (K1 HB aD.out) hb; have aB := am (NL aA hg); have aC := am (NG aA hg); replace aA := am (BB aA hb); clear hb aE hg; have mH := aB.out; have mI := aC.out; have ⟨_, _, _, _, _, _, _, _, _, _, _, _⟩ := y11 mG aA.out; have ⟨_, _, _, _, _, _, _, _, _, _, _, _⟩ := y11 mG aF.out) | ((with_reducible refine gate_callee (f := 87) rfl ?_); refine goesL_ (some 54) rfl rfl Tryz.func87 (by kernel_rfl) rfl #[.agg #[.int .i64 bH, .slice aL aH.length aM], .agg #[.int .i64 bI, .slice aN aI.length aO]] rfl MT ?_; (with_reducible refine (laws_eqWindow.calls k bH _ _ aH bI _ _ aI false _ ?_ ?_ ?_ ?_ mC.out).mono ?_); exact KD bP HB; exact bQ.out; exact KD bR HB; exact bS.out; rintro e nP ⟨rfl, hb⟩; refine ⟨_, rfl, ?_⟩; replace aA := am (BB aA hb); replace aF := am (BB aF hb); replace HB := bl (K2 HB aD.out aG.out) hb; (try clear hb)))
           go_ret
           exact ⟨ER, K2 HB aD.out aG.out⟩
         ·rw [if_neg bV] at H
          have c11b0 : (aX == bG) = false := beq_eq_false_iff_ne.mpr bV
          have c11b1 : (aX != bG) = true := bne_iff_ne.mpr bV
          obtain rfl := sj H
          go_enter Tryz.func66, Tryz.ntmps66
          go_wp2_with (first | ((with_reducible refine gate_dst (N := 2) rfl ?_); refine box_event rfl (N := 2) rfl (cs := #[.int .i64 aP, .int .i64 aQ, .string aR, .string aS, .int .i64 aT, .int .i64 aU, .int .i64 aV, .int .i64 aW, .int .i64 aX, .int .i64 bH, .slice aL aH.length aM]) (t := 80) BX ?_; intro bJ hg nQ aE hb; have aA := am (aE); have aJ := am (GH HB hg); have aD := aJ; replace HB := bl (KL HB) hb; clear hb aE hg) | ((with_reducible refine gate_dst (N := 3) rfl ?_); refine box_event rfl (N := 3) rfl (cs := #[.int .i64 aY, .int .i64 aZ, .string bA, .string bB, .int .i64 bC, .int .i64 bD, .int .i64 bE, .int .i64 bF, .int .i64 bG, .int .i64 bI, .slice aN aI.length aO]) (t := 80) BX ?_; intro bK hg mJ aE hb; have aF := am (aE); have aK := am (GH1 HB aD.out hg); have aG := aK; replace HB := bl (K1 HB aD.out) hb; have aB := am (NL aA hg); have aC := am (NG aA hg); replace aA := am (BB aA hb); clear hb aE hg; have mK := aB.out; have mL := aC.out; have ⟨_, _, _, _, _, _, _, _, _, _, _, _⟩ := y11 mJ aA.out; have ⟨_, _, _, _, _, _, _, _, _, _, _, _⟩ := y11 mJ aF.out))
          go_ret
          exact ⟨ER, K2 HB aD.out aG.out⟩
        ·rw [if_neg bU] at H
         have c10b0 : (aW == bF) = false := beq_eq_false_iff_ne.mpr bU
         have c10b1 : (aW != bF) = true := bne_iff_ne.mpr bU
         obtain rfl := sj H
         go_enter Tryz.func66, Tryz.ntmps66
         go_wp2_with (first | ((with_reducible refine gate_dst (N := 2) rfl ?_); refine box_event rfl (N := 2) rfl (cs := #[.int .i64 aP, .int .i64 aQ, .string aR, .string aS, .int .i64 aT, .int .i64 aU, .int .i64 aV, .int .i64 aW, .int .i64 aX, .int .i64 bH, .slice aL aH.length aM]) (t := 80) BX ?_; intro bJ hg nR aE hb; have aA := am (aE); have aJ := am (GH HB hg); have aD := aJ; replace HB := bl (KL HB) hb; clear hb aE hg) | ((with_reducible refine gate_dst (N := 3) rfl ?_); refine box_event rfl (N := 3) rfl (cs := #[.int .i64 aY, .int .i64 aZ, .string bA, .string bB, .int .i64 bC, .int .i64 bD, .int .i64 bE, .int .i64 bF, .int .i64 bG, .int .i64 bI, .slice aN aI.length aO]) (t := 80) BX ?_; intro bK hg mM aE hb; have aF := am (aE); have aK := am (GH1 HB aD.out hg); have aG := aK; replace HB := bl (K1 HB aD.out) hb; have aB := am (NL aA hg); have aC := am (NG aA hg); replace aA := am (BB aA hb); clear hb aE hg; have mN := aB.out; have mO := aC.out; have ⟨_, _, _, _, _, _, _, _, _, _, _, _⟩ := y11 mM aA.out; have ⟨_, _, _, _, _, _, _, _, _, _, _, _⟩ := y11 mM aF.out))
         go_ret
         exact ⟨ER, K2 HB aD.out aG.out⟩
       ·rw [if_neg c9] at H
        have c9b0 : (aV == bE) = false := beq_eq_false_iff_ne.mpr c9
        have c9b1 : (aV != bE) = true := bne_iff_ne.mpr c9
        obtain rfl := sj H
        go_enter Tryz.func66, Tryz.ntmps66
        go_wp2_with (first | ((with_reducible refine gate_dst (N := 2) rfl ?_); refine box_event rfl (N := 2) rfl (cs := #[.int .i64 aP, .int .i64 aQ, .string aR, .string aS, .int .i64 aT, .int .i64 aU, .int .i64 aV, .int .i64 aW, .int .i64 aX, .int .i64 bH, .slice aL aH.length aM]) (t := 80) BX ?_; intro bJ hg nS aE hb; have aA := am (aE); have aJ := am (GH HB hg); have aD := aJ; replace HB := bl (KL HB) hb; clear hb aE hg) | ((with_reducible refine gate_dst (N := 3) rfl ?_); refine box_event rfl (N := 3) rfl (cs := #[.int .i64 aY, .int .i64 aZ, .string bA, .string bB, .int .i64 bC, .int .i64 bD, .int .i64 bE, .int .i64 bF, .int .i64 bG, .int .i64 bI, .slice aN aI.length aO]) (t := 80) BX ?_; intro bK hg mP aE hb; have aF := am (aE); have aK := am (GH1 HB aD.out hg); have aG := aK; replace HB := bl (K1 HB aD.out) hb; have aB := am (NL aA hg); have aC := am (NG aA hg); replace aA := am (BB aA hb); clear hb aE hg; have mQ := aB.out; have mR := aC.out; have ⟨_, _, _, _, _, _, _, _, _, _, _, _⟩ := y11 mP aA.out; have ⟨_, _, _, _, _, _, _, _, _, _, _, _⟩ := y11 mP aF.out))
        go_ret
        exact ⟨ER, K2 HB aD.out aG.out⟩
      ·rw [if_neg c8] at H
       have c8b0 : (aU == bD) = false := beq_eq_false_iff_ne.mpr c8
       have c8b1 : (aU != bD) = true := bne_iff_ne.mpr c8
       obtain rfl := sj H
       go_enter Tryz.func66, Tryz.ntmps66
       go_wp2_with (first | ((with_reducible refine gate_dst (N := 2) rfl ?_); refine box_event rfl (N := 2) rfl (cs := #[.int .i64 aP, .int .i64 aQ, .string aR, .string aS, .int .i64 aT, .int .i64 aU, .int .i64 aV, .int .i64 aW, .int .i64 aX, .int .i64 bH, .slice aL aH.length aM]) (t := 80) BX ?_; intro bJ hg nT aE hb; have aA := am (aE); have aJ := am (GH HB hg); have aD := aJ; replace HB := bl (KL HB) hb; clear hb aE hg) | ((with_reducible refine gate_dst (N := 3) rfl ?_); refine box_event rfl (N := 3) rfl (cs := #[.int .i64 aY, .int .i64 aZ, .string bA, .string bB, .int .i64 bC, .int .i64 bD, .int .i64 bE, .int .i64 bF, .int .i64 bG, .int .i64 bI, .slice aN aI.length aO]) (t := 80) BX ?_; intro bK hg mS aE hb; have aF := am (aE); have aK := am (GH1 HB aD.out hg); have aG := aK; replace HB := bl (K1 HB aD.out) hb; have aB := am (NL aA hg); have aC := am (NG aA hg); replace aA := am (BB aA hb); clear hb aE hg; have mT := aB.out; have mU := aC.out; have ⟨_, _, _, _, _, _, _, _, _, _, _, _⟩ := y11 mS aA.out; have ⟨_, _, _, _, _, _, _, _, _, _, _, _⟩ := y11 mS aF.out))
       go_ret
       exact ⟨ER, K2 HB aD.out aG.out⟩
     ·rw [if_neg c7] at H
      have c7b0 : (aT == bC) = false := beq_eq_false_iff_ne.mpr c7
      have c7b1 : (aT != bC) = true := bne_iff_ne.mpr c7
      obtain rfl := sj H
      go_enter Tryz.func66, Tryz.ntmps66
      go_wp2_with (first | ((with_reducible refine gate_dst (N := 2) rfl ?_); refine box_event rfl (N := 2) rfl (cs := #[.int .i64 aP, .int .i64 aQ, .string aR, .string aS, .int .i64 aT, .int .i64 aU, .int .i64 aV, .int .i64 aW, .int .i64 aX, .int .i64 bH, .slice aL aH.length aM]) (t := 80) BX ?_; intro bJ hg nU aE hb; have aA := am (aE); have aJ := am (GH HB hg); have aD := aJ; replace HB := bl (KL HB) hb; clear hb aE hg) | ((with_reducible refine gate_dst (N := 3) rfl ?_); refine box_event rfl (N := 3) rfl (cs := #[.int .i64 aY, .int .i64 aZ, .string bA, .string bB, .int .i64 bC, .int .i64 bD, .int .i64 bE, .int .i64 bF, .int .i64 bG, .int .i64 bI, .slice aN aI.length aO]) (t := 80) BX ?_; intro bK hg mV aE hb; have aF := am (aE); have aK := am (GH1 HB aD.out hg); have aG := aK; replace HB := bl (K1 HB aD.out) hb; have aB := am (NL aA hg); have aC := am (NG aA hg); replace aA := am (BB aA hb); clear hb aE hg; have mW := aB.out; have mX := aC.out; have ⟨_, _, _, _, _, _, _, _, _, _, _, _⟩ := y11 mV aA.out; have ⟨_, _, _, _, _, _, _, _, _, _, _, _⟩ := y11 mV aF.out))
      go_ret
      exact ⟨ER, K2 HB aD.out aG.out⟩
    ·rw [if_neg c6] at H
     have c6b0 : (aS.toList == bB.toList) = false := beq_eq_false_iff_ne.mpr c6
     have c6b1 : (aS.toList != bB.toList) = true := bne_iff_ne.mpr c6
     obtain rfl := sj H
     go_enter Tryz.func66, Tryz.ntmps66
     go_wp2_with (first | ((with_reducible refine gate_dst (N := 2) rfl ?_); refine box_event rfl (N := 2) rfl (cs := #[.int .i64 aP, .int .i64 aQ, .string aR, .string aS, .int .i64 aT, .int .i64 aU, .int .i64 aV, .int .i64 aW, .int .i64 aX, .int .i64 bH, .slice aL aH.length aM]) (t := 80) BX ?_; intro bJ hg nV aE hb; have aA := am (aE); have aJ := am (GH HB hg); have aD := aJ; replace HB := bl (KL HB) hb; clear hb aE hg) | ((with_reducible refine gate_dst (N := 3) rfl ?_); refine box_event rfl (N := 3) rfl (cs := #[.int .i64 aY, .int .i64 aZ, .string bA, .string bB, .int .i64 bC, .int .i64 bD, .int .i64 bE, .int .i64 bF, .int .i64 bG, .int .i64 bI, .slice aN aI.length aO]) (t := 80) BX ?_; intro bK hg mY aE hb; have aF := am (aE); have aK := am (GH1 HB aD.out hg); have aG := aK; replace HB := bl (K1 HB aD.out) hb; have aB := am (NL aA hg); have aC := am (NG aA hg); replace aA := am (BB aA hb); clear hb aE hg; have mZ := aB.out; have nA := aC.out; have ⟨_, _, _, _, _, _, _, _, _, _, _, _⟩ := y11 mY aA.out; have ⟨_, _, _, _, _, _, _, _, _, _, _, _⟩ := y11 mY aF.out))
     go_ret
     exact ⟨ER, K2 HB aD.out aG.out⟩
   ·rw [if_neg c5] at H
    have c5b0 : (aR.toList == bA.toList) = false := beq_eq_false_iff_ne.mpr c5
    have c5b1 : (aR.toList != bA.toList) = true := bne_iff_ne.mpr c5
    obtain rfl := sj H
    go_enter Tryz.func66, Tryz.ntmps66
    go_wp2_with (first | ((with_reducible refine gate_dst (N := 2) rfl ?_); refine box_event rfl (N := 2) rfl (cs := #[.int .i64 aP, .int .i64 aQ, .string aR, .string aS, .int .i64 aT, .int .i64 aU, .int .i64 aV, .int .i64 aW, .int .i64 aX, .int .i64 bH, .slice aL aH.length aM]) (t := 80) BX ?_; intro bJ hg nW aE hb; have aA := am (aE); have aJ := am (GH HB hg); have aD := aJ; replace HB := bl (KL HB) hb; clear hb aE hg) | ((with_reducible refine gate_dst (N := 3) rfl ?_); refine box_event rfl (N := 3) rfl (cs := #[.int .i64 aY, .int .i64 aZ, .string bA, .string bB, .int .i64 bC, .int .i64 bD, .int .i64 bE, .int .i64 bF, .int .i64 bG, .int .i64 bI, .slice aN aI.length aO]) (t := 80) BX ?_; intro bK hg nB aE hb; have aF := am (aE); have aK := am (GH1 HB aD.out hg); have aG := aK; replace HB := bl (K1 HB aD.out) hb; have aB := am (NL aA hg); have aC := am (NG aA hg); replace aA := am (BB aA hb); clear hb aE hg; have nC := aB.out; have nD := aC.out; have ⟨_, _, _, _, _, _, _, _, _, _, _, _⟩ := y11 nB aA.out; have ⟨_, _, _, _, _, _, _, _, _, _, _, _⟩ := y11 nB aF.out))
    go_ret
    exact ⟨ER, K2 HB aD.out aG.out⟩
  ·rw [if_neg c4] at H
   have c4b0 : (aQ == aZ) = false := beq_eq_false_iff_ne.mpr c4
   have c4b1 : (aQ != aZ) = true := bne_iff_ne.mpr c4
   obtain rfl := sj H
   go_enter Tryz.func66, Tryz.ntmps66
   go_wp2_with (first | ((with_reducible refine gate_dst (N := 2) rfl ?_); refine box_event rfl (N := 2) rfl (cs := #[.int .i64 aP, .int .i64 aQ, .string aR, .string aS, .int .i64 aT, .int .i64 aU, .int .i64 aV, .int .i64 aW, .int .i64 aX, .int .i64 bH, .slice aL aH.length aM]) (t := 80) BX ?_; intro bJ hg nX aE hb; have aA := am (aE); have aJ := am (GH HB hg); have aD := aJ; replace HB := bl (KL HB) hb; clear hb aE hg) | ((with_reducible refine gate_dst (N := 3) rfl ?_); refine box_event rfl (N := 3) rfl (cs := #[.int .i64 aY, .int .i64 aZ, .string bA, .string bB, .int .i64 bC, .int .i64 bD, .int .i64 bE, .int .i64 bF, .int .i64 bG, .int .i64 bI, .slice aN aI.length aO]) (t := 80) BX ?_; intro bK hg nE aE hb; have aF := am (aE); have aK := am (GH1 HB aD.out hg); have aG := aK; replace HB := bl (K1 HB aD.out) hb; have aB := am (NL aA hg); have aC := am (NG aA hg); replace aA := am (BB aA hb); clear hb aE hg; have nF := aB.out; have nG := aC.out; have ⟨_, _, _, _, _, _, _, _, _, _, _, _⟩ := y11 nE aA.out; have ⟨_, _, _, _, _, _, _, _, _, _, _, _⟩ := y11 nE aF.out))
   go_ret
   exact ⟨ER, K2 HB aD.out aG.out⟩
 ·rw [if_neg c3] at H
  have c3b0 : (aP == aY) = false := beq_eq_false_iff_ne.mpr c3
  have c3b1 : (aP != aY) = true := bne_iff_ne.mpr c3
  obtain rfl := sj H
  go_enter Tryz.func66, Tryz.ntmps66
  go_wp2_with (first | ((with_reducible refine gate_dst (N := 2) rfl ?_); refine box_event rfl (N := 2) rfl (cs := #[.int .i64 aP, .int .i64 aQ, .string aR, .string aS, .int .i64 aT, .int .i64 aU, .int .i64 aV, .int .i64 aW, .int .i64 aX, .int .i64 bH, .slice aL aH.length aM]) (t := 80) BX ?_; intro bJ hg nY aE hb; have aA := am (aE); have aJ := am (GH HB hg); have aD := aJ; replace HB := bl (KL HB) hb; clear hb aE hg) | ((with_reducible refine gate_dst (N := 3) rfl ?_); refine box_event rfl (N := 3) rfl (cs := #[.int .i64 aY, .int .i64 aZ, .string bA, .string bB, .int .i64 bC, .int .i64 bD, .int .i64 bE, .int .i64 bF, .int .i64 bG, .int .i64 bI, .slice aN aI.length aO]) (t := 80) BX ?_; intro bK hg nH aE hb; have aF := am (aE); have aK := am (GH1 HB aD.out hg); have aG := aK; replace HB := bl (K1 HB aD.out) hb; have aB := am (NL aA hg); have aC := am (NG aA hg); replace aA := am (BB aA hb); clear hb aE hg; have nI := aB.out; have nJ := aC.out; have ⟨_, _, _, _, _, _, _, _, _, _, _, _⟩ := y11 nH aA.out; have ⟨_, _, _, _, _, _, _, _, _, _, _, _⟩ := y11 nH aF.out))
  go_ret
  exact ⟨ER, K2 HB aD.out aG.out⟩
def laws_eqSaS.l0 : Nat → List (S80) → List (S80) → Int → Option (Bool)
 | 0, _, _, _ => none
 | k + 1, x0, x1, x5 => if x5 < (x0.length : Int) then (if 0 ≤ x5 then (if x5 < (x1.length : Int) then ((laws_eqSa.f k ((rd_T80 x0 x5).f0) ((rd_T80 x0 x5).f1) ((rd_T80 x0 x5).f2) ((rd_T80 x0 x5).f3) ((rd_T80 x0 x5).f4) ((rd_T80 x0 x5).f5) ((rd_T80 x0 x5).f6) ((rd_T80 x0 x5).f7) ((rd_T80 x0 x5).f8) ((rd_T80 x0 x5).f9.f0) ((rd_T80 x0 x5).f9.f1) ((rd_T80 x1 x5).f0) ((rd_T80 x1 x5).f1) ((rd_T80 x1 x5).f2) ((rd_T80 x1 x5).f3) ((rd_T80 x1 x5).f4) ((rd_T80 x1 x5).f5) ((rd_T80 x1 x5).f6) ((rd_T80 x1 x5).f7) ((rd_T80 x1 x5).f8) ((rd_T80 x1 x5).f9.f0) ((rd_T80 x1 x5).f9.f1)).bind fun t103 => (if t103 = true then (laws_eqSaS.l0 k x0 x1 (wrap64 (x5 + 1))) else (some false))) else (none)) else (none)) else (some true)
def laws_eqSaS.f (k : Nat) (l0 : List (S80)) (l1 : List (S80)) : Option (Bool) := if (l0.length : Int) = (l1.length : Int) then (laws_eqSaS.l0 k l0 l1 0) else (some false)
def laws_eqSaS.T6 : Bool × List (List Nat × List Nat) := (true, [([], []), ([], []), ([0, 1], [0, 1]), ([2], [2]), ([], []), ([], []), ([4, 5], [4, 5]), ([6], [6]), ([3, 7], [3, 7]), ([8], [8])])
def laws_eqSaS.B6 : List Nat := [0, 0, 3, 7, 0, 0, 48, 112, 255, 511]
theorem laws_eqSaS.tab6 : rtab .any (opsOf Tryz.f43 6) = laws_eqSaS.T6 := by kernel_rfl
theorem laws_eqSaS.bits6 : waitsOk laws_eqSaS.T6.2 laws_eqSaS.B6 = true := by kernel_rfl
theorem laws_eqSaS.calls (k : Nat) (A0 : Option Addr) (c0 : Nat) (l0 : List (S80)) (A1 : Option Addr) (c1 : Nat) (l1 : List (S80)) (r : Bool) (w : World) (cR : Kd.C k80 w A0 l0.length l0) (cS : l0.length ≤ c0) (cT : Kd.C k80 w A1 l1.length l1) (cU : l1.length ≤ c1) (h : laws_eqSaS.f k l0 l1 = some r) :
  Calls Tryz.prog 43 #[.slice A0 l0.length c0, .slice A1 l1.length c1] w fun e w' => e = .returned (.bool r) ∧ Below w.heap.size w w' := by
 have cY := Tryz.underlying80
 have cV := Aside0.mk cR
 have cZ := Aside0.mk cS
 clear cR cS
 have cW := Aside0.mk cT
 have dA := Aside0.mk cU
 clear cT cU
 have HB := am (Below.refl w.heap.size w)
 have H : (if (l0.length : Int) = (l1.length : Int) then (laws_eqSaS.l0 k l0 l1 0) else (some false)) = some r := h
 clear h
 by_cases c3 : (l0.length : Int) = (l1.length : Int)
 ·rw [if_pos c3] at H
  have c3b0 : ((l0.length : Int) == (l1.length : Int)) = true := beq_iff_eq.mpr c3
  have c3b1 : ((l0.length : Int) != (l1.length : Int)) = false := bne_eq_false_iff_eq.mpr c3
  have c3b2 : (l0.length == l1.length) = true := by first | simpa using c3 | (simp at c3 ⊢; omega)
  clear c3
  have H' := Aside0.mk H
  clear H
  go_enter Tryz.func43, Tryz.ntmps43
  go_wp2
  go_loopg [5] k (fun kq v5 w' => ∃ (aA : Int), v5 = .int .i64 aA ∧ Aside0 (laws_eqSaS.l0 kq l0 l1 aA = some r) ∧ Aside0 (kq ≤ k) ∧ Aside0 (Below w.heap.size w w'))
  case atStart => exact ⟨(0), (by first | rfl | (simp; done) | (simp [*]; done)), H', ⟨Nat.le_refl _⟩, ⟨KL HB⟩⟩
  case round =>
   clear H'
   try clear c1
   try clear p2
   try clear c3
   try clear c3b0
   try clear c3b1
   try clear c3b2
   obtain ⟨aA, rfl, HA, HK1, HB⟩ := hrel
   cases gk with
   | zero => exact absurd HA.out (by simp [laws_eqSaS.l0])
   | succ k1 =>
    have H := HA.out
    clear HA
    simp only [laws_eqSaS.l0] at H
    by_cases c4 : aA < (l0.length : Int)
    ·rw [if_pos c4] at H
     have c4b0 : decide (aA < (l0.length : Int)) = true := decide_eq_true c4
     clear c4
     by_cases c5 : 0 ≤ aA
     ·rw [if_pos c5] at H
      have c5b0 : decide (0 ≤ aA) = true := decide_eq_true c5
      clear c5
      by_cases c6 : aA < (l1.length : Int)
      ·rw [if_pos c6] at H
       have c6b0 : decide (aA < (l1.length : Int)) = true := decide_eq_true c6
       clear c6
       replace H := bm H
       obtain ⟨cP, cX, H⟩ := H
       replace H : (if cP = true then (laws_eqSaS.l0 k1 l0 l1 (wrap64 (aA + 1))) else (some false)) = some r := H
       have A7 := Aside0.mk cX
       clear cX
       by_cases c8 : cP = true
       ·subst c8
        have H1 := pf H
        clear H
        have H := H1
        clear H1
        have H' := Aside0.mk H
        clear H
        try go_wp2
        replace HB := am (below_drew1 HB.out)
        have cJ : 0 ≤ (aA : Int) := OD
        have cK : aA < (l0.length : Int) := OD
        obtain ⟨aB, bH, bI, cN, aF, aG, aH, aI, aJ, aK, aL, aM, aN, aO, aD, aZ, bA⟩ := at_T80 cV.out aA cJ cK
        have bB := aD
        have bJ := aO
        have bK := aN
        have bL := aM
        have bM := aL
        have bN := aK
        have bO := aJ
        have bP := aI
        have bQ := aH
        have bR := aG
        have bS := aF
        cases cN
        replace aF := CX HB.out aF
        replace aG := CX HB.out aG
        replace aH := CX HB.out aH
        replace aI := CX HB.out aI
        replace aJ := CX HB.out aJ
        replace aK := CX HB.out aK
        replace aL := CX HB.out aL
        replace aM := CX HB.out aM
        replace aN := CX HB.out aN
        replace aO := CX HB.out aO
        replace aD := CX HB.out aD
        have bC := Aside0.mk bA
        have cG := Aside0.mk aZ
        clear bA aZ
        replace cJ := eq_true cJ
        replace cK := eq_true cK
        have cL : 0 ≤ (aA : Int) := OD
        have cM : aA < (l1.length : Int) := OD
        obtain ⟨aC, bT, bU, cO, aP, aQ, aR, aS, aT, aU, aV, aW, aX, aY, aE, bD, bE⟩ := at_T80 cW.out aA cL cM
        have bF := aE
        have bV := aY
        have bW := aX
        have bX := aW
        have bY := aV
        have bZ := aU
        have cA := aT
        have cB := aS
        have cC := aR
        have cD := aQ
        have cE := aP
        cases cO
        replace aP := CX HB.out aP
        replace aQ := CX HB.out aQ
        replace aR := CX HB.out aR
        replace aS := CX HB.out aS
        replace aT := CX HB.out aT
        replace aU := CX HB.out aU
        replace aV := CX HB.out aV
        replace aW := CX HB.out aW
        replace aX := CX HB.out aX
        replace aY := CX HB.out aY
        replace aE := CX HB.out aE
        have bG := Aside0.mk bE
        have cH := Aside0.mk bD
        clear bE bD
        replace cL := eq_true cL
        replace cM := eq_true cM
        refine start_ (n := 10) (S := fun w' => w'.cell? (aB.add ((aA).toNat * 11)) = some (.int .i64 ((rd_T80 l0 aA).f0)) ∧ w'.cell? ⟨(aB.add ((aA).toNat * 11)).block, (aB.add ((aA).toNat * 11)).off + 1, none⟩ = some (.int .i64 ((rd_T80 l0 aA).f1)) ∧ w'.cell? ⟨(aB.add ((aA).toNat * 11)).block, (aB.add ((aA).toNat * 11)).off + 2, none⟩ = some (.string ((rd_T80 l0 aA).f2)) ∧ w'.cell? ⟨(aB.add ((aA).toNat * 11)).block, (aB.add ((aA).toNat * 11)).off + 3, none⟩ = some (.string ((rd_T80 l0 aA).f3)) ∧ w'.cell? ⟨(aB.add ((aA).toNat * 11)).block, (aB.add ((aA).toNat * 11)).off + 4, none⟩ = some (.int .i64 ((rd_T80 l0 aA).f4)) ∧ w'.cell? ⟨(aB.add ((aA).toNat * 11)).block, (aB.add ((aA).toNat * 11)).off + 5, none⟩ = some (.int .i64 ((rd_T80 l0 aA).f5)) ∧ w'.cell? ⟨(aB.add ((aA).toNat * 11)).block, (aB.add ((aA).toNat * 11)).off + 6, none⟩ = some (.int .i64 ((rd_T80 l0 aA).f6)) ∧ w'.cell? ⟨(aB.add ((aA).toNat * 11)).block, (aB.add ((aA).toNat * 11)).off + 7, none⟩ = some (.int .i64 ((rd_T80 l0 aA).f7)) ∧ w'.cell? ⟨(aB.add ((aA).toNat * 11)).block, (aB.add ((aA).toNat * 11)).off + 8, none⟩ = some (.int .i64 ((rd_T80 l0 aA).f8)) ∧ w'.cell? ⟨(aB.add ((aA).toNat * 11)).block, (aB.add ((aA).toNat * 11)).off + 9, none⟩ = some (.int .i64 ((rd_T80 l0 aA).f9.f0)) ∧ w'.cell? ⟨(aB.add ((aA).toNat * 11)).block, (aB.add ((aA).toNat * 11)).off + 10, none⟩ = some (.slice bH ((rd_T80 l0 aA).f9.f1).length bI) ∧ w'.cell? (aC.add ((aA).toNat * 11)) = some (.int .i64 ((rd_T80 l1 aA).f0)) ∧ w'.cell? ⟨(aC.add ((aA).toNat * 11)).block, (aC.add ((aA).toNat * 11)).off + 1, none⟩ = some (.int .i64 ((rd_T80 l1 aA).f1)) ∧ w'.cell? ⟨(aC.add ((aA).toNat * 11)).block, (aC.add ((aA).toNat * 11)).off + 2, none⟩ = some (.string ((rd_T80 l1 aA).f2)) ∧ w'.cell? ⟨(aC.add ((aA).toNat * 11)).block, (aC.add ((aA).toNat * 11)).off + 3, none⟩ = some (.string ((rd_T80 l1 aA).f3)) ∧ w'.cell? ⟨(aC.add ((aA).toNat * 11)).block, (aC.add ((aA).toNat * 11)).off + 4, none⟩ = some (.int .i64 ((rd_T80 l1 aA).f4)) ∧ w'.cell? ⟨(aC.add ((aA).toNat * 11)).block, (aC.add ((aA).toNat * 11)).off + 5, none⟩ = some (.int .i64 ((rd_T80 l1 aA).f5)) ∧ w'.cell? ⟨(aC.add ((aA).toNat * 11)).block, (aC.add ((aA).toNat * 11)).off + 6, none⟩ = some (.int .i64 ((rd_T80 l1 aA).f6)) ∧ w'.cell? ⟨(aC.add ((aA).toNat * 11)).block, (aC.add ((aA).toNat * 11)).off + 7, none⟩ = some (.int .i64 ((rd_T80 l1 aA).f7)) ∧ w'.cell? ⟨(aC.add ((aA).toNat * 11)).block, (aC.add ((aA).toNat * 11)).off + 8, none⟩ = some (.int .i64 ((rd_T80 l1 aA).f8)) ∧ w'.cell? ⟨(aC.add ((aA).toNat * 11)).block, (aC.add ((aA).toNat * 11)).off + 9, none⟩ = some (.int .i64 ((rd_T80 l1 aA).f9.f0)) ∧ w'.cell? ⟨(aC.add ((aA).toNat * 11)).block, (aC.add ((aA).toNat * 11)).off + 10, none⟩ = some (.slice bT ((rd_T80 l1 aA).f9.f1).length bU)) (ds := []) (tf 0 10) (by kernel_rfl) rfl rfl ⟨(CY HB.out bS), (CY HB.out bR), (CY HB.out bQ), (CY HB.out bP), (CY HB.out bO), (CY HB.out bN), (CY HB.out bM), (CY HB.out bL), (CY HB.out bK), (CY HB.out bJ), (CY HB.out bB), (CY HB.out cE), (CY HB.out cD), (CY HB.out cC), (CY HB.out cB), (CY HB.out cA), (CY HB.out bZ), (CY HB.out bY), (CY HB.out bX), (CY HB.out bW), (CY HB.out bV), (CY HB.out bF)⟩ (fun cF => ?_); refine with_tabW laws_eqSaS.tab6 laws_eqSaS.bits6 (fun cI cQ => ?_)
        generalize wr.drew = w9 at HB bC bG aF aG aD aH aI aJ aK aL aM aN aO aP aQ aE aR aS aT aU aV aW aX aY cF ⊢
        refine pv cI 0 17 (tf 1 9) ?_
        refine pv cI 1 18 (tf 2 8) ?_
        refine pv cI 2 19 (tf 3 7) ?_
        refine pv cI 4 21 (tr [3, 1, 1, 5]) ?_
        refine pv cI 5 22 (tr [3, 1, 2, 4]) ?_
        refine pv cI 6 23 (tr [3, 1, 3, 3]) ?_
        refine tk 3 (some 20) (tf 7 3) (take_ofW cI.out cQ.out (by kernel_rfl)) cF ?_
        refine tk 7 (some 24) (tf 8 2) (take_ofW cI.out cQ.out (by kernel_rfl)) cF ?_
        refine one_ (i := 8) (N := some 25) (tf 9 1) rfl rfl (one_of cI.out (by kernel_rfl)) (by decide) (fun K hK => ?_)
        refine goes_ Tryz.func66 (by kernel_rfl) rfl #[.agg #[.int .i64 ((rd_T80 l0 aA).f0), .int .i64 ((rd_T80 l0 aA).f1), .string ((rd_T80 l0 aA).f2), .string ((rd_T80 l0 aA).f3), .int .i64 ((rd_T80 l0 aA).f4), .int .i64 ((rd_T80 l0 aA).f5), .int .i64 ((rd_T80 l0 aA).f6), .int .i64 ((rd_T80 l0 aA).f7), .int .i64 ((rd_T80 l0 aA).f8), .int .i64 ((rd_T80 l0 aA).f9.f0), .slice bH ((rd_T80 l0 aA).f9.f1).length bI], .agg #[.int .i64 ((rd_T80 l1 aA).f0), .int .i64 ((rd_T80 l1 aA).f1), .string ((rd_T80 l1 aA).f2), .string ((rd_T80 l1 aA).f3), .int .i64 ((rd_T80 l1 aA).f4), .int .i64 ((rd_T80 l1 aA).f5), .int .i64 ((rd_T80 l1 aA).f6), .int .i64 ((rd_T80 l1 aA).f7), .int .i64 ((rd_T80 l1 aA).f8), .int .i64 ((rd_T80 l1 aA).f9.f0), .slice bT ((rd_T80 l1 aA).f9.f1).length bU]] (by rfl) rfl rfl MT ?_
        with_reducible refine (laws_eqSa.calls k1 ((rd_T80 l0 aA).f0) ((rd_T80 l0 aA).f1) ((rd_T80 l0 aA).f2) ((rd_T80 l0 aA).f3) ((rd_T80 l0 aA).f4) ((rd_T80 l0 aA).f5) ((rd_T80 l0 aA).f6) ((rd_T80 l0 aA).f7) ((rd_T80 l0 aA).f8) ((rd_T80 l0 aA).f9.f0) _ _ ((rd_T80 l0 aA).f9.f1) ((rd_T80 l1 aA).f0) ((rd_T80 l1 aA).f1) ((rd_T80 l1 aA).f2) ((rd_T80 l1 aA).f3) ((rd_T80 l1 aA).f4) ((rd_T80 l1 aA).f5) ((rd_T80 l1 aA).f6) ((rd_T80 l1 aA).f7) ((rd_T80 l1 aA).f8) ((rd_T80 l1 aA).f9.f0) _ _ ((rd_T80 l1 aA).f9.f1) true _ ?_ ?_ ?_ ?_ A7.out).mono ?_
        exact KD bC HB
        exact cG.out
        exact KD bG HB
        exact cH.out
        rintro e dB ⟨rfl, hb⟩
        refine ⟨_, rfl, ?_⟩
        replace HB := bl (KL HB) hb
        (try clear hb)
        (try clear hb2)
        (try clear hk)
        (try clear hi)
        refine hK.out _ _ ⟨(CY HB.out bS), (CY HB.out bR), (CY HB.out bQ), (CY HB.out bP), (CY HB.out bO), (CY HB.out bN), (CY HB.out bM), (CY HB.out bL), (CY HB.out bK), (CY HB.out bJ), (CY HB.out bB), (CY HB.out cE), (CY HB.out cD), (CY HB.out cC), (CY HB.out cB), (CY HB.out cA), (CY HB.out bZ), (CY HB.out bY), (CY HB.out bX), (CY HB.out bW), (CY HB.out bV), (CY HB.out bF)⟩ (fun cF => ?_)
        clear hK K
        refine nm (some 25) ?_
        refine pv cI 9 26 (tf 10 0) ?_
        refine done_ (done_of cI.out (by kernel_rfl)) ?_
        try go_wp2
        go_roundg k1
        case measure => have := HK1.out; omega
        case rel => exact ⟨(wrap64 (aA + 1)), (by first | rfl | (simp; done) | (simp [*]; done)), H', ⟨by have := HK1.out; omega⟩, ⟨KL HB⟩⟩
       ·replace c8 := Bool.eq_false_iff.mpr c8
        subst c8
        have H1 := nf H
        clear H
        have H := H1
        clear H1
        obtain rfl := sj H
        try go_wp2
        replace HB := am (below_drew1 HB.out)
        have cJ : 0 ≤ (aA : Int) := OD
        have cK : aA < (l0.length : Int) := OD
        obtain ⟨aB, bH, bI, cN, aF, aG, aH, aI, aJ, aK, aL, aM, aN, aO, aD, aZ, bA⟩ := at_T80 cV.out aA cJ cK
        have bB := aD
        have bJ := aO
        have bK := aN
        have bL := aM
        have bM := aL
        have bN := aK
        have bO := aJ
        have bP := aI
        have bQ := aH
        have bR := aG
        have bS := aF
        cases cN
        replace aF := CX HB.out aF
        replace aG := CX HB.out aG
        replace aH := CX HB.out aH
        replace aI := CX HB.out aI
        replace aJ := CX HB.out aJ
        replace aK := CX HB.out aK
        replace aL := CX HB.out aL
        replace aM := CX HB.out aM
        replace aN := CX HB.out aN
        replace aO := CX HB.out aO
        replace aD := CX HB.out aD
        have bC := Aside0.mk bA
        have cG := Aside0.mk aZ
        clear bA aZ
        replace cJ := eq_true cJ
        replace cK := eq_true cK
        have cL : 0 ≤ (aA : Int) := OD
        have cM : aA < (l1.length : Int) := OD
        obtain ⟨aC, bT, bU, cO, aP, aQ, aR, aS, aT, aU, aV, aW, aX, aY, aE, bD, bE⟩ := at_T80 cW.out aA cL cM
        have bF := aE
        have bV := aY
        have bW := aX
        have bX := aW
        have bY := aV
        have bZ := aU
        have cA := aT
        have cB := aS
        have cC := aR
        have cD := aQ
        have cE := aP
        cases cO
        replace aP := CX HB.out aP
        replace aQ := CX HB.out aQ
        replace aR := CX HB.out aR
        replace aS := CX HB.out aS
        replace aT := CX HB.out aT
        replace aU := CX HB.out aU
        replace aV := CX HB.out aV
        replace aW := CX HB.out aW
        replace aX := CX HB.out aX
        replace aY := CX HB.out aY
        replace aE := CX HB.out aE
        have bG := Aside0.mk bE
        have cH := Aside0.mk bD
        clear bE bD
        replace cL := eq_true cL
        replace cM := eq_true cM
        refine start_ (n := 10) (S := fun w' => w'.cell? (aB.add ((aA).toNat * 11)) = some (.int .i64 ((rd_T80 l0 aA).f0)) ∧ w'.cell? ⟨(aB.add ((aA).toNat * 11)).block, (aB.add ((aA).toNat * 11)).off + 1, none⟩ = some (.int .i64 ((rd_T80 l0 aA).f1)) ∧ w'.cell? ⟨(aB.add ((aA).toNat * 11)).block, (aB.add ((aA).toNat * 11)).off + 2, none⟩ = some (.string ((rd_T80 l0 aA).f2)) ∧ w'.cell? ⟨(aB.add ((aA).toNat * 11)).block, (aB.add ((aA).toNat * 11)).off + 3, none⟩ = some (.string ((rd_T80 l0 aA).f3)) ∧ w'.cell? ⟨(aB.add ((aA).toNat * 11)).block, (aB.add ((aA).toNat * 11)).off + 4, none⟩ = some (.int .i64 ((rd_T80 l0 aA).f4)) ∧ w'.cell? ⟨(aB.add ((aA).toNat * 11)).block, (aB.add ((aA).toNat * 11)).off + 5, none⟩ = some (.int .i64 ((rd_T80 l0 aA).f5)) ∧ w'.cell? ⟨(aB.add ((aA).toNat * 11)).block, (aB.add ((aA).toNat * 11)).off + 6, none⟩ = some (.int .i64 ((rd_T80 l0 aA).f6)) ∧ w'.cell? ⟨(aB.add ((aA).toNat * 11)).block, (aB.add ((aA).toNat * 11)).off + 7, none⟩ = some (.int .i64 ((rd_T80 l0 aA).f7)) ∧ w'.cell? ⟨(aB.add ((aA).toNat * 11)).block, (aB.add ((aA).toNat * 11)).off + 8, none⟩ = some (.int .i64 ((rd_T80 l0 aA).f8)) ∧ w'.cell? ⟨(aB.add ((aA).toNat * 11)).block, (aB.add ((aA).toNat * 11)).off + 9, none⟩ = some (.int .i64 ((rd_T80 l0 aA).f9.f0)) ∧ w'.cell? ⟨(aB.add ((aA).toNat * 11)).block, (aB.add ((aA).toNat * 11)).off + 10, none⟩ = some (.slice bH ((rd_T80 l0 aA).f9.f1).length bI) ∧ w'.cell? (aC.add ((aA).toNat * 11)) = some (.int .i64 ((rd_T80 l1 aA).f0)) ∧ w'.cell? ⟨(aC.add ((aA).toNat * 11)).block, (aC.add ((aA).toNat * 11)).off + 1, none⟩ = some (.int .i64 ((rd_T80 l1 aA).f1)) ∧ w'.cell? ⟨(aC.add ((aA).toNat * 11)).block, (aC.add ((aA).toNat * 11)).off + 2, none⟩ = some (.string ((rd_T80 l1 aA).f2)) ∧ w'.cell? ⟨(aC.add ((aA).toNat * 11)).block, (aC.add ((aA).toNat * 11)).off + 3, none⟩ = some (.string ((rd_T80 l1 aA).f3)) ∧ w'.cell? ⟨(aC.add ((aA).toNat * 11)).block, (aC.add ((aA).toNat * 11)).off + 4, none⟩ = some (.int .i64 ((rd_T80 l1 aA).f4)) ∧ w'.cell? ⟨(aC.add ((aA).toNat * 11)).block, (aC.add ((aA).toNat * 11)).off + 5, none⟩ = some (.int .i64 ((rd_T80 l1 aA).f5)) ∧ w'.cell? ⟨(aC.add ((aA).toNat * 11)).block, (aC.add ((aA).toNat * 11)).off + 6, none⟩ = some (.int .i64 ((rd_T80 l1 aA).f6)) ∧ w'.cell? ⟨(aC.add ((aA).toNat * 11)).block, (aC.add ((aA).toNat * 11)).off + 7, none⟩ = some (.int .i64 ((rd_T80 l1 aA).f7)) ∧ w'.cell? ⟨(aC.add ((aA).toNat * 11)).block, (aC.add ((aA).toNat * 11)).off + 8, none⟩ = some (.int .i64 ((rd_T80 l1 aA).f8)) ∧ w'.cell? ⟨(aC.add ((aA).toNat * 11)).block, (aC.add ((aA).toNat * 11)).off + 9, none⟩ = some (.int .i64 ((rd_T80 l1 aA).f9.f0)) ∧ w'.cell? ⟨(aC.add ((aA).toNat * 11)).block, (aC.add ((aA).toNat * 11)).off + 10, none⟩ = some (.slice bT ((rd_T80 l1 aA).f9.f1).length bU)) (ds := []) (tf 0 10) (by kernel_rfl) rfl rfl ⟨(CY HB.out bS), (CY HB.out bR), (CY HB.out bQ), (CY HB.out bP), (CY HB.out bO), (CY HB.out bN), (CY HB.out bM), (CY HB.out bL), (CY HB.out bK), (CY HB.out bJ), (CY HB.out bB), (CY HB.out cE), (CY HB.out cD), (CY HB.out cC), (CY HB.out cB), (CY HB.out cA), (CY HB.out bZ), (CY HB.out bY), (CY HB.out bX), (CY HB.out bW), (CY HB.out bV), (CY HB.out bF)⟩ (fun cF => ?_); refine with_tabW laws_eqSaS.tab6 laws_eqSaS.bits6 (fun cI cQ => ?_)
        generalize wr.drew = dC at HB bC bG aF aG aD aH aI aJ aK aL aM aN aO aP aQ aE aR aS aT aU aV aW aX aY cF ⊢
        refine pv cI 0 17 (tf 1 9) ?_
        refine pv cI 1 18 (tf 2 8) ?_
        refine pv cI 2 19 (tf 3 7) ?_
        refine pv cI 4 21 (tr [3, 1, 1, 5]) ?_
        refine pv cI 5 22 (tr [3, 1, 2, 4]) ?_
        refine pv cI 6 23 (tr [3, 1, 3, 3]) ?_
        refine tk 3 (some 20) (tf 7 3) (take_ofW cI.out cQ.out (by kernel_rfl)) cF ?_
        refine tk 7 (some 24) (tf 8 2) (take_ofW cI.out cQ.out (by kernel_rfl)) cF ?_
        refine one_ (i := 8) (N := some 25) (tf 9 1) rfl rfl (one_of cI.out (by kernel_rfl)) (by decide) (fun K hK => ?_)
        refine goes_ Tryz.func66 (by kernel_rfl) rfl #[.agg #[.int .i64 ((rd_T80 l0 aA).f0), .int .i64 ((rd_T80 l0 aA).f1), .string ((rd_T80 l0 aA).f2), .string ((rd_T80 l0 aA).f3), .int .i64 ((rd_T80 l0 aA).f4), .int .i64 ((rd_T80 l0 aA).f5), .int .i64 ((rd_T80 l0 aA).f6), .int .i64 ((rd_T80 l0 aA).f7), .int .i64 ((rd_T80 l0 aA).f8), .int .i64 ((rd_T80 l0 aA).f9.f0), .slice bH ((rd_T80 l0 aA).f9.f1).length bI], .agg #[.int .i64 ((rd_T80 l1 aA).f0), .int .i64 ((rd_T80 l1 aA).f1), .string ((rd_T80 l1 aA).f2), .string ((rd_T80 l1 aA).f3), .int .i64 ((rd_T80 l1 aA).f4), .int .i64 ((rd_T80 l1 aA).f5), .int .i64 ((rd_T80 l1 aA).f6), .int .i64 ((rd_T80 l1 aA).f7), .int .i64 ((rd_T80 l1 aA).f8), .int .i64 ((rd_T80 l1 aA).f9.f0), .slice bT ((rd_T80 l1 aA).f9.f1).length bU]] (by rfl) rfl rfl MT ?_
        with_reducible refine (laws_eqSa.calls k1 ((rd_T80 l0 aA).f0) ((rd_T80 l0 aA).f1) ((rd_T80 l0 aA).f2) ((rd_T80 l0 aA).f3) ((rd_T80 l0 aA).f4) ((rd_T80 l0 aA).f5) ((rd_T80 l0 aA).f6) ((rd_T80 l0 aA).f7) ((rd_T80 l0 aA).f8) ((rd_T80 l0 aA).f9.f0) _ _ ((rd_T80 l0 aA).f9.f1) ((rd_T80 l1 aA).f0) ((rd_T80 l1 aA).f1) ((rd_T80 l1 aA).f2) ((rd_T80 l1 aA).f3) ((rd_T80 l1 aA).f4) ((rd_T80 l1 aA).f5) ((rd_T80 l1 aA).f6) ((rd_T80 l1 aA).f7) ((rd_T80 l1 aA).f8) ((rd_T80 l1 aA).f9.f0) _ _ ((rd_T80 l1 aA).f9.f1) false _ ?_ ?_ ?_ ?_ A7.out).mono ?_
        exact KD bC HB
        exact cG.out
        exact KD bG HB
        exact cH.out
        rintro e dD ⟨rfl, hb⟩
        refine ⟨_, rfl, ?_⟩
        replace HB := bl (KL HB) hb
        (try clear hb)
        (try clear hb2)
        (try clear hk)
        (try clear hi)
        refine hK.out _ _ ⟨(CY HB.out bS), (CY HB.out bR), (CY HB.out bQ), (CY HB.out bP), (CY HB.out bO), (CY HB.out bN), (CY HB.out bM), (CY HB.out bL), (CY HB.out bK), (CY HB.out bJ), (CY HB.out bB), (CY HB.out cE), (CY HB.out cD), (CY HB.out cC), (CY HB.out cB), (CY HB.out cA), (CY HB.out bZ), (CY HB.out bY), (CY HB.out bX), (CY HB.out bW), (CY HB.out bV), (CY HB.out bF)⟩ (fun cF => ?_)
        clear hK K
        refine nm (some 25) ?_
        refine pv cI 9 26 (tf 10 0) ?_
        refine done_ (done_of cI.out (by kernel_rfl)) ?_
        try go_wp2
        go_ret
        exact ⟨ER, KL HB⟩
      ·rw [if_neg c6] at H
       exact absurd H (by simp)
     ·rw [if_neg c5] at H
      exact absurd H (by simp)
    ·rw [if_neg c4] at H
     have c4b0 : decide (aA < (l0.length : Int)) = false := decide_eq_false c4
     clear c4
     obtain rfl := sj H
     go_wp2
     go_ret
     exact ⟨ER, KL HB⟩
 ·rw [if_neg c3] at H
  have c3b0 : ((l0.length : Int) == (l1.length : Int)) = false := beq_eq_false_iff_ne.mpr c3
  have c3b1 : ((l0.length : Int) != (l1.length : Int)) = true := bne_iff_ne.mpr c3
  have c3b2 : (l0.length == l1.length) = false := by first | simpa using c3 | (simp at c3 ⊢; omega)
  obtain rfl := sj H
  go_enter Tryz.func43, Tryz.ntmps43
  go_wp2
  go_ret
  exact ⟨ER, KL HB⟩
def laws_eqGate.f (k : Nat) (a0_0 : Int) (l0_1 : List (S115)) (a0_2 : Int) (l0_3 : List (S108)) (l0_4 : List (S80)) (l0_5 : List (S80)) (a1_0 : Int) (l1_1 : List (S115)) (a1_2 : Int) (l1_3 : List (S108)) (l1_4 : List (S80)) (l1_5 : List (S80)) : Option (Bool) := if a0_0 = a1_0 then ((laws_eqRuleS.f k l0_1 l1_1).bind fun t103 => (if t103 = true then ((laws_eqCache.f k a0_2 l0_3 a1_2 l1_3).bind fun t104 => (if t104 = true then ((laws_eqSaS.f k l0_4 l1_4).bind fun t105 => (if t105 = true then ((laws_eqSaS.f k l0_5 l1_5).bind fun t106 => (if t106 = true then (some true) else (some false))) else (some false))) else (some false))) else (some false))) else (some false)
theorem laws_eqGate.calls (k : Nat) (aT : Int) (aV : Option Addr) (aW : Nat) (aH : List (S115)) (aP : Int) (aZ : Option Addr) (bA : Nat) (aJ : List (S108)) (bD : Option Addr) (bE : Nat) (aL : List (S80)) (bH : Option Addr) (bI : Nat) (aN : List (S80)) (aU : Int) (aX : Option Addr) (aY : Nat) (aI : List (S115)) (aQ : Int) (bB : Option Addr) (bC : Nat) (aK : List (S108)) (bF : Option Addr) (bG : Nat) (aM : List (S80)) (bJ : Option Addr) (bK : Nat) (aO : List (S80)) (r : Bool) (w : World) (cD : Kd.C k115 w aV aH.length aH) (cE : aH.length ≤ aW) (cF : Kd.C k108 w aZ aJ.length aJ) (cG : aJ.length ≤ bA) (cH : Kd.C k80 w bD aL.length aL) (cI : aL.length ≤ bE) (cJ : Kd.C k80 w bH aN.length aN) (cK : aN.length ≤ bI) (cL : Kd.C k115 w aX aI.length aI) (cM : aI.length ≤ aY) (cN : Kd.C k108 w bB aK.length aK) (cO : aK.length ≤ bC) (cP : Kd.C k80 w bF aM.length aM) (cQ : aM.length ≤ bG) (cR : Kd.C k80 w bJ aO.length aO) (cS : aO.length ≤ bK) (h : laws_eqGate.f k aT aH aP aJ aL aN aU aI aQ aK aM aO = some r) :
  Calls Tryz.prog 19 #[.agg #[.int .i64 aT, .slice aV aH.length aW, .int .i64 aP, .slice aZ aJ.length bA, .slice bD aL.length bE, .slice bH aN.length bI], .agg #[.int .i64 aU, .slice aX aI.length aY, .int .i64 aQ, .slice bB aK.length bC, .slice bF aM.length bG, .slice bJ aO.length bK]] w fun e w' => e = .returned (.bool r) ∧ Below w.heap.size w w' := by
 have mG := Tryz.underlying41
 have mH := Tryz.underlying38
 have bM := Aside0.mk cD
 have bN := Aside0.mk cE
 clear cD cE
 have bT := Aside0.mk cF
 have bU := Aside0.mk cG
 clear cF cG
 have bY := Aside0.mk cH
 have bZ := Aside0.mk cI
 clear cH cI
 have cT := Aside0.mk cJ
 have cU := Aside0.mk cK
 clear cJ cK
 have bO := Aside0.mk cL
 have bP := Aside0.mk cM
 clear cL cM
 have bV := Aside0.mk cN
 have bW := Aside0.mk cO
 clear cN cO
 have cA := Aside0.mk cP
 have cB := Aside0.mk cQ
 clear cP cQ
 have cV := Aside0.mk cR
 have cW := Aside0.mk cS
 clear cR cS
 have HB := am (Below.refl w.heap.size w)
 have H : (if aT = aU then ((laws_eqRuleS.f k aH aI).bind fun cC => (if cC = true then ((laws_eqCache.f k aP aJ aQ aK).bind fun bX => (if bX = true then ((laws_eqSaS.f k aL aM).bind fun bQ => (if bQ = true then ((laws_eqSaS.f k aN aO).bind fun bL => (if bL = true then (some true) else (some false))) else (some false))) else (some false))) else (some false))) else (some false)) = some r := h
 clear h
 by_cases c3 : aT = aU
 ·rw [if_pos c3] at H
  have c3b0 : (aT == aU) = true := beq_iff_eq.mpr c3
  have c3b1 : (aT != aU) = false := bne_eq_false_iff_eq.mpr c3
  clear c3
  replace H := bm H
  obtain ⟨cC, lB, H⟩ := H
  replace H : (if cC = true then ((laws_eqCache.f k aP aJ aQ aK).bind fun bX => (if bX = true then ((laws_eqSaS.f k aL aM).bind fun bQ => (if bQ = true then ((laws_eqSaS.f k aN aO).bind fun bL => (if bL = true then (some true) else (some false))) else (some false))) else (some false))) else (some false)) = some r := H
  have A4 := Aside0.mk lB
  clear lB
  by_cases c5 : cC = true
  ·subst c5
   have H1 := pf H
   clear H
   have H := H1
   clear H1
   replace H := bm H
   obtain ⟨bX, lC, H⟩ := H
   replace H : (if bX = true then ((laws_eqSaS.f k aL aM).bind fun bQ => (if bQ = true then ((laws_eqSaS.f k aN aO).bind fun bL => (if bL = true then (some true) else (some false))) else (some false))) else (some false)) = some r := H
   have A6 := Aside0.mk lC
   clear lC
   by_cases c7 : bX = true
   ·subst c7
    have H1 := pf H
    clear H
    have H := H1
    clear H1
    replace H := bm H
    obtain ⟨bQ, lD, H⟩ := H
    replace H : (if bQ = true then ((laws_eqSaS.f k aN aO).bind fun bL => (if bL = true then (some true) else (some false))) else (some false)) = some r := H
    have A8 := Aside0.mk lD
    clear lD
    by_cases c9 : bQ = true
    ·subst c9
     have H1 := pf H
     clear H
     have H := H1
     clear H1
     replace H := bm H
     obtain ⟨bL, cX, H⟩ := H
     replace H : (if bL = true then (some true) else (some false)) = some r := H
     have lE := Aside0.mk cX
     clear cX
     by_cases cY : bL = true
     ·subst cY
      have H1 := pf H
      clear H
      have H := H1
      clear H1
      obtain rfl := sj H
      go_enter Tryz.func19, Tryz.ntmps19
      go_wp2_with (first | ((with_reducible refine gate_dst (N := 2) rfl ?_); refine box_event rfl (N := 2) rfl (cs := #[.int .i64 aT, .slice aV aH.length aW, .int .i64 aP, .slice aZ aJ.length bA, .slice bD aL.length bE, .slice bH aN.length bI]) (t := 41) BX ?_; intro bR hg mI aG hb; have aA := am (aG); have aR := am (GH HB hg); have aC := aR; replace HB := bl (KL HB) hb; clear hb aG hg) | ((with_reducible refine gate_dst (N := 3) rfl ?_); refine box_event rfl (N := 3) rfl (cs := #[.int .i64 aU, .slice aX aI.length aY, .int .i64 aQ, .slice bB aK.length bC, .slice bF aM.length bG, .slice bJ aO.length bK]) (t := 41) BX ?_; intro bS hg lF aG hb; have aB := am (aG); have aS := am (GH1 HB aC.out hg); have aF := aS; replace HB := bl (K1 HB aC.out) hb; have aD := am (NL aA hg); have aE := am (NG aA hg); replace aA := am (BB aA hb); clear hb aG hg; have lG := aD.out; have lH := aE.out; have ⟨_, _, _, _, _, _, _⟩ := y6 lF aA.out; have ⟨_, _, _, _, _, _, _⟩ := y6 lF aB.out) | ((with_reducible refine gate_callee (f := 41) rfl ?_); refine goesL_ (some 14) rfl rfl Tryz.func41 (by kernel_rfl) rfl #[.slice aV aH.length aW, .slice aX aI.length aY] rfl MT ?_; (with_reducible refine (laws_eqRuleS.calls k _ _ aH _ _ aI true _ ?_ ?_ ?_ ?_ A4.out).mono ?_); exact KD bM HB; exact bN.out; exact KD bO HB; exact bP.out; rintro e lI ⟨rfl, hb⟩; refine ⟨_, rfl, ?_⟩; replace aA := am (BB aA hb); replace aB := am (BB aB hb); replace HB := bl (K2 HB aC.out aF.out) hb; (try clear hb); have ⟨_, _, _, _, _, _, _⟩ := y6 lI aA.out; have ⟨_, _, _, _, _, _, _⟩ := y6 lI aB.out) | ((with_reducible refine gate_callee (f := 42) rfl ?_); refine goesL_ (some 20) rfl rfl Tryz.func42 (by kernel_rfl) rfl #[.agg #[.int .i64 aP, .slice aZ aJ.length bA], .agg #[.int .i64 aQ, .slice bB aK.length bC]] rfl MT ?_; (with_reducible refine (laws_eqCache.calls k aP _ _ aJ aQ _ _ aK true _ ?_ ?_ ?_ ?_ A6.out).mono ?_); exact KD bT HB; exact bU.out; exact KD bV HB; exact bW.out; rintro e lJ ⟨rfl, hb⟩; refine ⟨_, rfl, ?_⟩; replace aA := am (BB aA hb); replace aB := am (BB aB hb); replace HB := bl (K2 HB aC.out aF.out) hb; (try clear hb); have ⟨_, _, _, _, _, _, _⟩ := y6 lJ aA.out; have ⟨_, _, _, _, _, _, _⟩ := y6 lJ aB.out) | ((with_reducible refine gate_callee (f := 43) rfl ?_); refine goesL_ (some 26) rfl rfl Tryz.func43 (by kernel_rfl) rfl #[.slice bD aL.length bE, .slice bF aM.length bG] rfl MT ?_; (with_reducible refine (laws_eqSaS.calls k _ _ aL _ _ aM true _ ?_ ?_ ?_ ?_ A8.out).mono ?_); exact KD bY HB; exact bZ.out; exact KD cA HB; exact cB.out; rintro e lK ⟨rfl, hb⟩; refine ⟨_, rfl, ?_⟩; replace aA := am (BB aA hb); replace aB := am (BB aB hb); replace HB := bl (K2 HB aC.out aF.out) hb; (try clear hb); have ⟨_, _, _, _, _, _, _⟩ := y6 lK aA.out; have ⟨_, _, _, _, _, _, _⟩ := y6 lK aB.out) | ((with_reducible refine gate_callee (f := 43) rfl ?_); refine goesL_ (some 32) rfl rfl Tryz.func43 (by kernel_rfl) rfl #[.slice bH aN.length bI, .slice bJ aO.length bK] rfl MT ?_; (with_reducible refine (laws_eqSaS.calls k _ _ aN _ _ aO true _ ?_ ?_ ?_ ?_ lE.out).mono ?_); exact KD cT HB; exact cU.out; exact KD cV HB; exact cW.out; rintro e mJ ⟨rfl, hb⟩; refine ⟨_, rfl, ?_⟩; replace aA := am (BB aA hb); replace aB := am (BB aB hb); replace HB := bl (K2 HB aC.out aF.out) hb; (try clear hb)))
      go_ret
      exact ⟨ER, K2 HB aC.out aF.out⟩
     ·replace cY := Bool.eq_false_iff.mpr cY
      subst cY
      have H1 := nf H
      clear H
      have H := H1
      clear H1
      obtain rfl := sj H
      go_enter Tryz.func19, Tryz.ntmps19
      go_wp2_with (first | ((with_reducible refine gate_dst (N := 2) rfl ?_); refine box_event rfl (N := 2) rfl (cs := #[.int .i64 aT, .slice aV aH.length aW, .int .i64 aP, .slice aZ aJ.length bA, .slice bD aL.length bE, .slice bH aN.length bI]) (t := 41) BX ?_; intro bR hg mK aG hb; have aA := am (aG); have aR := am (GH HB hg); have aC := aR; replace HB := bl (KL HB) hb; clear hb aG hg) | ((with_reducible refine gate_dst (N := 3) rfl ?_); refine box_event rfl (N := 3) rfl (cs := #[.int .i64 aU, .slice aX aI.length aY, .int .i64 aQ, .slice bB aK.length bC, .slice bF aM.length bG, .slice bJ aO.length bK]) (t := 41) BX ?_; intro bS hg lL aG hb; have aB := am (aG); have aS := am (GH1 HB aC.out hg); have aF := aS; replace HB := bl (K1 HB aC.out) hb; have aD := am (NL aA hg); have aE := am (NG aA hg); replace aA := am (BB aA hb); clear hb aG hg; have lM := aD.out; have lN := aE.out; have ⟨_, _, _, _, _, _, _⟩ := y6 lL aA.out; have ⟨_, _, _, _, _, _, _⟩ := y6 lL aB.out) | ((with_reducible refine gate_callee (f := 41) rfl ?_); refine goesL_ (some 14) rfl rfl Tryz.func41 (by kernel_rfl) rfl #[.slice aV aH.length aW, .slice aX aI.length aY] rfl MT ?_; (with_reducible refine (laws_eqRuleS.calls k _ _ aH _ _ aI true _ ?_ ?_ ?_ ?_ A4.out).mono ?_); exact KD bM HB; exact bN.out; exact KD bO HB; exact bP.out; rintro e lO ⟨rfl, hb⟩; refine ⟨_, rfl, ?_⟩; replace aA := am (BB aA hb); replace aB := am (BB aB hb); replace HB := bl (K2 HB aC.out aF.out) hb; (try clear hb); have ⟨_, _, _, _, _, _, _⟩ := y6 lO aA.out; have ⟨_, _, _, _, _, _, _⟩ := y6 lO aB.out) | ((with_reducible refine gate_callee (f := 42) rfl ?_); refine goesL_ (some 20) rfl rfl Tryz.func42 (by kernel_rfl) rfl #[.agg #[.int .i64 aP, .slice aZ aJ.length bA], .agg #[.int .i64 aQ, .slice bB aK.length bC]] rfl MT ?_; (with_reducible refine (laws_eqCache.calls k aP _ _ aJ aQ _ _ aK true _ ?_ ?_ ?_ ?_ A6.out).mono ?_); exact KD bT HB; exact bU.out; exact KD bV HB; exact bW.out; rintro e lP ⟨rfl, hb⟩; refine ⟨_, rfl, ?_⟩; replace aA := am (BB aA hb); replace aB := am (BB aB hb); replace HB := bl (K2 HB aC.out aF.out) hb; (try clear hb); have ⟨_, _, _, _, _, _, _⟩ := y6 lP aA.out; have ⟨_, _, _, _, _, _, _⟩ := y6 lP aB.out) | ((with_reducible refine gate_callee (f := 43) rfl ?_); refine goesL_ (some 26) rfl rfl Tryz.func43 (by kernel_rfl) rfl #[.slice bD aL.length bE, .slice bF aM.length bG] rfl MT ?_; (with_reducible refine (laws_eqSaS.calls k _ _ aL _ _ aM true _ ?_ ?_ ?_ ?_ A8.out).mono ?_); exact KD bY HB; exact bZ.out; exact KD cA HB; exact cB.out; rintro e lQ ⟨rfl, hb⟩; refine ⟨_, rfl, ?_⟩; replace aA := am (BB aA hb); replace aB := am (BB aB hb); replace HB := bl (K2 HB aC.out aF.out) hb; (try clear hb); have ⟨_, _, _, _, _, _, _⟩ := y6 lQ aA.out; have ⟨_, _, _, _, _, _, _⟩ := y6 lQ aB.out) | ((with_reducible refine gate_callee (f := 43) rfl ?_); refine goesL_ (some 32) rfl rfl Tryz.func43 (by kernel_rfl) rfl #[.slice bH aN.length bI, .slice bJ aO.length bK] rfl MT ?_; (with_reducible refine (laws_eqSaS.calls k _ _ aN _ _ aO false _ ?_ ?_ ?_ ?_ lE.out).mono ?_); exact KD cT HB; exact cU.out; exact KD cV HB; exact cW.out; rintro e mL ⟨rfl, hb⟩; refine ⟨_, rfl, ?_⟩; replace aA := am (BB aA hb); replace aB := am (BB aB hb); replace HB := bl (K2 HB aC.out aF.out) hb; (try clear hb)))
      go_ret
      exact ⟨ER, K2 HB aC.out aF.out⟩
    ·replace c9 := Bool.eq_false_iff.mpr c9
     subst c9
     have H1 := nf H
     clear H
     have H := H1
     clear H1
     obtain rfl := sj H
     go_enter Tryz.func19, Tryz.ntmps19
     go_wp2_with (first | ((with_reducible refine gate_dst (N := 2) rfl ?_); refine box_event rfl (N := 2) rfl (cs := #[.int .i64 aT, .slice aV aH.length aW, .int .i64 aP, .slice aZ aJ.length bA, .slice bD aL.length bE, .slice bH aN.length bI]) (t := 41) BX ?_; intro bR hg mM aG hb; have aA := am (aG); have aR := am (GH HB hg); have aC := aR; replace HB := bl (KL HB) hb; clear hb aG hg) | ((with_reducible refine gate_dst (N := 3) rfl ?_); refine box_event rfl (N := 3) rfl (cs := #[.int .i64 aU, .slice aX aI.length aY, .int .i64 aQ, .slice bB aK.length bC, .slice bF aM.length bG, .slice bJ aO.length bK]) (t := 41) BX ?_; intro bS hg lR aG hb; have aB := am (aG); have aS := am (GH1 HB aC.out hg); have aF := aS; replace HB := bl (K1 HB aC.out) hb; have aD := am (NL aA hg); have aE := am (NG aA hg); replace aA := am (BB aA hb); clear hb aG hg; have lS := aD.out; have lT := aE.out; have ⟨_, _, _, _, _, _, _⟩ := y6 lR aA.out; have ⟨_, _, _, _, _, _, _⟩ := y6 lR aB.out) | ((with_reducible refine gate_callee (f := 41) rfl ?_); refine goesL_ (some 14) rfl rfl Tryz.func41 (by kernel_rfl) rfl #[.slice aV aH.length aW, .slice aX aI.length aY] rfl MT ?_; (with_reducible refine (laws_eqRuleS.calls k _ _ aH _ _ aI true _ ?_ ?_ ?_ ?_ A4.out).mono ?_); exact KD bM HB; exact bN.out; exact KD bO HB; exact bP.out; rintro e lU ⟨rfl, hb⟩; refine ⟨_, rfl, ?_⟩; replace aA := am (BB aA hb); replace aB := am (BB aB hb); replace HB := bl (K2 HB aC.out aF.out) hb; (try clear hb); have ⟨_, _, _, _, _, _, _⟩ := y6 lU aA.out; have ⟨_, _, _, _, _, _, _⟩ := y6 lU aB.out) | ((with_reducible refine gate_callee (f := 42) rfl ?_); refine goesL_ (some 20) rfl rfl Tryz.func42 (by kernel_rfl) rfl #[.agg #[.int .i64 aP, .slice aZ aJ.length bA], .agg #[.int .i64 aQ, .slice bB aK.length bC]] rfl MT ?_; (with_reducible refine (laws_eqCache.calls k aP _ _ aJ aQ _ _ aK true _ ?_ ?_ ?_ ?_ A6.out).mono ?_); exact KD bT HB; exact bU.out; exact KD bV HB; exact bW.out; rintro e lV ⟨rfl, hb⟩; refine ⟨_, rfl, ?_⟩; replace aA := am (BB aA hb); replace aB := am (BB aB hb); replace HB := bl (K2 HB aC.out aF.out) hb; (try clear hb); have ⟨_, _, _, _, _, _, _⟩ := y6 lV aA.out; have ⟨_, _, _, _, _, _, _⟩ := y6 lV aB.out) | ((with_reducible refine gate_callee (f := 43) rfl ?_); refine goesL_ (some 26) rfl rfl Tryz.func43 (by kernel_rfl) rfl #[.slice bD aL.length bE, .slice bF aM.length bG] rfl MT ?_; (with_reducible refine (laws_eqSaS.calls k _ _ aL _ _ aM false _ ?_ ?_ ?_ ?_ A8.out).mono ?_); exact KD bY HB; exact bZ.out; exact KD cA HB; exact cB.out; rintro e mN ⟨rfl, hb⟩; refine ⟨_, rfl, ?_⟩; replace aA := am (BB aA hb); replace aB := am (BB aB hb); replace HB := bl (K2 HB aC.out aF.out) hb; (try clear hb)))
     go_ret
     exact ⟨ER, K2 HB aC.out aF.out⟩
   ·replace c7 := Bool.eq_false_iff.mpr c7
    subst c7
    have H1 := nf H
    clear H
    have H := H1
    clear H1
    obtain rfl := sj H
    go_enter Tryz.func19, Tryz.ntmps19
    go_wp2_with (first | ((with_reducible refine gate_dst (N := 2) rfl ?_); refine box_event rfl (N := 2) rfl (cs := #[.int .i64 aT, .slice aV aH.length aW, .int .i64 aP, .slice aZ aJ.length bA, .slice bD aL.length bE, .slice bH aN.length bI]) (t := 41) BX ?_; intro bR hg mO aG hb; have aA := am (aG); have aR := am (GH HB hg); have aC := aR; replace HB := bl (KL HB) hb; clear hb aG hg) | ((with_reducible refine gate_dst (N := 3) rfl ?_); refine box_event rfl (N := 3) rfl (cs := #[.int .i64 aU, .slice aX aI.length aY, .int .i64 aQ, .slice bB aK.length bC, .slice bF aM.length bG, .slice bJ aO.length bK]) (t := 41) BX ?_; intro bS hg lW aG hb; have aB := am (aG); have aS := am (GH1 HB aC.out hg); have aF := aS; replace HB := bl (K1 HB aC.out) hb; have aD := am (NL aA hg); have aE := am (NG aA hg); replace aA := am (BB aA hb); clear hb aG hg; have lX := aD.out; have lY := aE.out; have ⟨_, _, _, _, _, _, _⟩ := y6 lW aA.out; have ⟨_, _, _, _, _, _, _⟩ := y6 lW aB.out) | ((with_reducible refine gate_callee (f := 41) rfl ?_); refine goesL_ (some 14) rfl rfl Tryz.func41 (by kernel_rfl) rfl #[.slice aV aH.length aW, .slice aX aI.length aY] rfl MT ?_; (with_reducible refine (laws_eqRuleS.calls k _ _ aH _ _ aI true _ ?_ ?_ ?_ ?_ A4.out).mono ?_); exact KD bM HB; exact bN.out; exact KD bO HB; exact bP.out; rintro e lZ ⟨rfl, hb⟩; refine ⟨_, rfl, ?_⟩; replace aA := am (BB aA hb); replace aB := am (BB aB hb); replace HB := bl (K2 HB aC.out aF.out) hb; (try clear hb); have ⟨_, _, _, _, _, _, _⟩ := y6 lZ aA.out; have ⟨_, _, _, _, _, _, _⟩ := y6 lZ aB.out) | ((with_reducible refine gate_callee (f := 42) rfl ?_); refine goesL_ (some 20) rfl rfl Tryz.func42 (by kernel_rfl) rfl #[.agg #[.int .i64 aP, .slice aZ aJ.length bA], .agg #[.int .i64 aQ, .slice bB aK.length bC]] rfl MT ?_; (with_reducible refine (laws_eqCache.calls k aP _ _ aJ aQ _ _ aK false _ ?_ ?_ ?_ ?_ A6.out).mono ?_); exact KD bT HB; exact bU.out; exact KD bV HB; exact bW.out; rintro e mP ⟨rfl, hb⟩; refine ⟨_, rfl, ?_⟩; replace aA := am (BB aA hb); replace aB := am (BB aB hb); replace HB := bl (K2 HB aC.out aF.out) hb; (try clear hb)))
    go_ret
    exact ⟨ER, K2 HB aC.out aF.out⟩
  ·replace c5 := Bool.eq_false_iff.mpr c5
   subst c5
   have H1 := nf H
   clear H
   have H := H1
   clear H1
   obtain rfl := sj H
   go_enter Tryz.func19, Tryz.ntmps19
   go_wp2_with (first | ((with_reducible refine gate_dst (N := 2) rfl ?_); refine box_event rfl (N := 2) rfl (cs := #[.int .i64 aT, .slice aV aH.length aW, .int .i64 aP, .slice aZ aJ.length bA, .slice bD aL.length bE, .slice bH aN.length bI]) (t := 41) BX ?_; intro bR hg mQ aG hb; have aA := am (aG); have aR := am (GH HB hg); have aC := aR; replace HB := bl (KL HB) hb; clear hb aG hg) | ((with_reducible refine gate_dst (N := 3) rfl ?_); refine box_event rfl (N := 3) rfl (cs := #[.int .i64 aU, .slice aX aI.length aY, .int .i64 aQ, .slice bB aK.length bC, .slice bF aM.length bG, .slice bJ aO.length bK]) (t := 41) BX ?_; intro bS hg mA aG hb; have aB := am (aG); have aS := am (GH1 HB aC.out hg); have aF := aS; replace HB := bl (K1 HB aC.out) hb; have aD := am (NL aA hg); have aE := am (NG aA hg); replace aA := am (BB aA hb); clear hb aG hg; have mB := aD.out; have mC := aE.out; have ⟨_, _, _, _, _, _, _⟩ := y6 mA aA.out; have ⟨_, _, _, _, _, _, _⟩ := y6 mA aB.out) | ((with_reducible refine gate_callee (f := 41) rfl ?_); refine goesL_ (some 14) rfl rfl Tryz.func41 (by kernel_rfl) rfl #[.slice aV aH.length aW, .slice aX aI.length aY] rfl MT ?_; (with_reducible refine (laws_eqRuleS.calls k _ _ aH _ _ aI false _ ?_ ?_ ?_ ?_ A4.out).mono ?_); exact KD bM HB; exact bN.out; exact KD bO HB; exact bP.out; rintro e mR ⟨rfl, hb⟩; refine ⟨_, rfl, ?_⟩; replace aA := am (BB aA hb); replace aB := am (BB aB hb); replace HB := bl (K2 HB aC.out aF.out) hb; (try clear hb)))
   go_ret
   exact ⟨ER, K2 HB aC.out aF.out⟩
 ·rw [if_neg c3] at H
  have c3b0 : (aT == aU) = false := beq_eq_false_iff_ne.mpr c3
  have c3b1 : (aT != aU) = true := bne_iff_ne.mpr c3
  obtain rfl := sj H
  go_enter Tryz.func19, Tryz.ntmps19
  go_wp2_with (first | ((with_reducible refine gate_dst (N := 2) rfl ?_); refine box_event rfl (N := 2) rfl (cs := #[.int .i64 aT, .slice aV aH.length aW, .int .i64 aP, .slice aZ aJ.length bA, .slice bD aL.length bE, .slice bH aN.length bI]) (t := 41) BX ?_; intro bR hg mS aG hb; have aA := am (aG); have aR := am (GH HB hg); have aC := aR; replace HB := bl (KL HB) hb; clear hb aG hg) | ((with_reducible refine gate_dst (N := 3) rfl ?_); refine box_event rfl (N := 3) rfl (cs := #[.int .i64 aU, .slice aX aI.length aY, .int .i64 aQ, .slice bB aK.length bC, .slice bF aM.length bG, .slice bJ aO.length bK]) (t := 41) BX ?_; intro bS hg mD aG hb; have aB := am (aG); have aS := am (GH1 HB aC.out hg); have aF := aS; replace HB := bl (K1 HB aC.out) hb; have aD := am (NL aA hg); have aE := am (NG aA hg); replace aA := am (BB aA hb); clear hb aG hg; have mE := aD.out; have mF := aE.out; have ⟨_, _, _, _, _, _, _⟩ := y6 mD aA.out; have ⟨_, _, _, _, _, _, _⟩ := y6 mD aB.out))
  go_ret
  exact ⟨ER, K2 HB aC.out aF.out⟩
def laws_eqAir.f (a0_0 : ByteArray) (a0_1 : Bool) (a1_0 : ByteArray) (a1_1 : Bool) : Option (Bool) := if a0_0.toList = a1_0.toList then (if (a0_1 != a1_1) = true then (some false) else (some true)) else (some false)
theorem laws_eqAir.calls (aH : ByteArray) (aF : Bool) (aI : ByteArray) (aG : Bool) (r : Bool) (w : World) (h : laws_eqAir.f aH aF aI aG = some r) :
  Calls Tryz.prog 44 #[.agg #[.string aH, .bool aF], .agg #[.string aI, .bool aG]] w fun e w' => e = .returned (.bool r) ∧ Below w.heap.size w w' := by
 have bN := Tryz.underlying54
 have HB := am (Below.refl w.heap.size w)
 have H : (if aH.toList = aI.toList then (if (aF != aG) = true then (some false) else (some true)) else (some false)) = some r := h
 clear h
 by_cases c3 : aH.toList = aI.toList
 ·rw [if_pos c3] at H
  have c3b0 : (aH.toList == aI.toList) = true := beq_iff_eq.mpr c3
  have c3b1 : (aH.toList != aI.toList) = false := bne_eq_false_iff_eq.mpr c3
  clear c3
  by_cases c4 : (aF != aG) = true
  ·rw [if_pos c4] at H
   have c4b0 : (aF != aG) = true := c4
   (try (have c4b1 : decide (aF = aG) = false := by simpa using c4))
   (try (have c4b2 : (aF == aG) = false := by simpa using c4))
   (try (have c4b3 : ¬ (aF = aG) := by simpa using c4))
   clear c4
   obtain rfl := sj H
   go_enter Tryz.func44, Tryz.ntmps44
   go_wp2_with (first | ((with_reducible refine gate_dst (N := 2) rfl ?_); refine box_event rfl (N := 2) rfl (cs := #[.string aH, .bool aF]) (t := 54) BX ?_; intro aN hg w5 aD hb; have aA := am (aD); have aJ := am (GH HB hg); have aE := aJ; replace HB := bl (KL HB) hb; clear hb aD hg) | ((with_reducible refine gate_dst (N := 3) rfl ?_); refine box_event rfl (N := 3) rfl (cs := #[.string aI, .bool aG]) (t := 54) BX ?_; intro aO hg w6 aD hb; have aK := am (aD); have aL := am (GH1 HB aE.out hg); have aM := aL; replace HB := bl (K1 HB aE.out) hb; have aB := am (NL aA hg); have aC := am (NG aA hg); replace aA := am (BB aA hb); clear hb aD hg; have bO := aB.out; have bP := aC.out; have ⟨_, _, _⟩ := y2 w6 aA.out; have ⟨_, _, _⟩ := y2 w6 aK.out))
   go_ret
   exact ⟨ER, K2 HB aE.out aM.out⟩
  ·rw [if_neg c4] at H
   have c4b0 : (aF != aG) = false := by simpa using c4
   (try (have c4b1 : decide (aF = aG) = true := by simpa using c4))
   (try (have c4b2 : (aF == aG) = true := by simpa using c4))
   clear c4
   obtain rfl := sj H
   go_enter Tryz.func44, Tryz.ntmps44
   go_wp2_with (first | ((with_reducible refine gate_dst (N := 2) rfl ?_); refine box_event rfl (N := 2) rfl (cs := #[.string aH, .bool aF]) (t := 54) BX ?_; intro aN hg bQ aD hb; have aA := am (aD); have aJ := am (GH HB hg); have aE := aJ; replace HB := bl (KL HB) hb; clear hb aD hg) | ((with_reducible refine gate_dst (N := 3) rfl ?_); refine box_event rfl (N := 3) rfl (cs := #[.string aI, .bool aG]) (t := 54) BX ?_; intro aO hg bH aD hb; have aK := am (aD); have aL := am (GH1 HB aE.out hg); have aM := aL; replace HB := bl (K1 HB aE.out) hb; have aB := am (NL aA hg); have aC := am (NG aA hg); replace aA := am (BB aA hb); clear hb aD hg; have bI := aB.out; have bJ := aC.out; have ⟨_, _, _⟩ := y2 bH aA.out; have ⟨_, _, _⟩ := y2 bH aK.out))
   go_ret
   exact ⟨ER, K2 HB aE.out aM.out⟩
 ·rw [if_neg c3] at H
  have c3b0 : (aH.toList == aI.toList) = false := beq_eq_false_iff_ne.mpr c3
  have c3b1 : (aH.toList != aI.toList) = true := bne_iff_ne.mpr c3
  obtain rfl := sj H
  go_enter Tryz.func44, Tryz.ntmps44
  go_wp2_with (first | ((with_reducible refine gate_dst (N := 2) rfl ?_); refine box_event rfl (N := 2) rfl (cs := #[.string aH, .bool aF]) (t := 54) BX ?_; intro aN hg bR aD hb; have aA := am (aD); have aJ := am (GH HB hg); have aE := aJ; replace HB := bl (KL HB) hb; clear hb aD hg) | ((with_reducible refine gate_dst (N := 3) rfl ?_); refine box_event rfl (N := 3) rfl (cs := #[.string aI, .bool aG]) (t := 54) BX ?_; intro aO hg bK aD hb; have aK := am (aD); have aL := am (GH1 HB aE.out hg); have aM := aL; replace HB := bl (K1 HB aE.out) hb; have aB := am (NL aA hg); have aC := am (NG aA hg); replace aA := am (BB aA hb); clear hb aD hg; have bL := aB.out; have bM := aC.out; have ⟨_, _, _⟩ := y2 bK aA.out; have ⟨_, _, _⟩ := y2 bK aK.out))
  go_ret
  exact ⟨ER, K2 HB aE.out aM.out⟩
def laws_eqAirS.l0 : Nat → List (S54) → List (S54) → Int → Option (Bool)
 | 0, _, _, _ => none
 | k + 1, x0, x1, x5 => if x5 < (x0.length : Int) then (if 0 ≤ x5 then (if x5 < (x1.length : Int) then ((laws_eqAir.f ((rd_T54 x0 x5).f0) ((rd_T54 x0 x5).f1) ((rd_T54 x1 x5).f0) ((rd_T54 x1 x5).f1)).bind fun t103 => (if t103 = true then (laws_eqAirS.l0 k x0 x1 (wrap64 (x5 + 1))) else (some false))) else (none)) else (none)) else (some true)
def laws_eqAirS.f (k : Nat) (l0 : List (S54)) (l1 : List (S54)) : Option (Bool) := if (l0.length : Int) = (l1.length : Int) then (laws_eqAirS.l0 k l0 l1 0) else (some false)
def laws_eqAirS.T6 : Bool × List (List Nat × List Nat) := (true, [([], []), ([], []), ([0, 1], [0, 1]), ([2], [2]), ([], []), ([], []), ([4, 5], [4, 5]), ([6], [6]), ([3, 7], [3, 7]), ([8], [8])])
def laws_eqAirS.B6 : List Nat := [0, 0, 3, 7, 0, 0, 48, 112, 255, 511]
theorem laws_eqAirS.tab6 : rtab .any (opsOf Tryz.f20 6) = laws_eqAirS.T6 := by kernel_rfl
theorem laws_eqAirS.bits6 : waitsOk laws_eqAirS.T6.2 laws_eqAirS.B6 = true := by kernel_rfl
theorem laws_eqAirS.calls (k : Nat) (A0 : Option Addr) (c0 : Nat) (l0 : List (S54)) (A1 : Option Addr) (c1 : Nat) (l1 : List (S54)) (r : Bool) (w : World) (aV : Kd.C k54 w A0 l0.length l0) (aW : l0.length ≤ c0) (aX : Kd.C k54 w A1 l1.length l1) (aY : l1.length ≤ c1) (h : laws_eqAirS.f k l0 l1 = some r) :
  Calls Tryz.prog 20 #[.slice A0 l0.length c0, .slice A1 l1.length c1] w fun e w' => e = .returned (.bool r) ∧ Below w.heap.size w w' := by
 have bC := Tryz.underlying54
 have aZ := Aside0.mk aV
 have bD := Aside0.mk aW
 clear aV aW
 have bA := Aside0.mk aX
 have bE := Aside0.mk aY
 clear aX aY
 have HB := am (Below.refl w.heap.size w)
 have H : (if (l0.length : Int) = (l1.length : Int) then (laws_eqAirS.l0 k l0 l1 0) else (some false)) = some r := h
 clear h
 by_cases c3 : (l0.length : Int) = (l1.length : Int)
 ·rw [if_pos c3] at H
  have c3b0 : ((l0.length : Int) == (l1.length : Int)) = true := beq_iff_eq.mpr c3
  have c3b1 : ((l0.length : Int) != (l1.length : Int)) = false := bne_eq_false_iff_eq.mpr c3
  have c3b2 : (l0.length == l1.length) = true := by first | simpa using c3 | (simp at c3 ⊢; omega)
  clear c3
  have H' := Aside0.mk H
  clear H
  go_enter Tryz.func20, Tryz.ntmps20
  go_wp2
  go_loopg [5] k (fun kq v5 w' => ∃ (aA : Int), v5 = .int .i64 aA ∧ Aside0 (laws_eqAirS.l0 kq l0 l1 aA = some r) ∧ Aside0 (kq ≤ k) ∧ Aside0 (Below w.heap.size w w'))
  case atStart => exact ⟨(0), (by first | rfl | (simp; done) | (simp [*]; done)), H', ⟨Nat.le_refl _⟩, ⟨KL HB⟩⟩
  case round =>
   clear H'
   try clear c1
   try clear c2
   try clear p2
   try clear c3
   try clear c3b0
   try clear c3b1
   try clear c3b2
   obtain ⟨aA, rfl, HA, HK1, HB⟩ := hrel
   cases gk with
   | zero => exact absurd HA.out (by simp [laws_eqAirS.l0])
   | succ k1 =>
    have H := HA.out
    clear HA
    simp only [laws_eqAirS.l0] at H
    by_cases c4 : aA < (l0.length : Int)
    ·rw [if_pos c4] at H
     have c4b0 : decide (aA < (l0.length : Int)) = true := decide_eq_true c4
     clear c4
     by_cases c5 : 0 ≤ aA
     ·rw [if_pos c5] at H
      have c5b0 : decide (0 ≤ aA) = true := decide_eq_true c5
      clear c5
      by_cases c6 : aA < (l1.length : Int)
      ·rw [if_pos c6] at H
       have c6b0 : decide (aA < (l1.length : Int)) = true := decide_eq_true c6
       clear c6
       replace H := bm H
       obtain ⟨aT, bB, H⟩ := H
       replace H : (if aT = true then (laws_eqAirS.l0 k1 l0 l1 (wrap64 (aA + 1))) else (some false)) = some r := H
       have A7 := Aside0.mk bB
       clear bB
       by_cases c8 : aT = true
       ·subst c8
        have H1 := pf H
        clear H
        have H := H1
        clear H1
        have H' := Aside0.mk H
        clear H
        try go_wp2
        replace HB := am (below_drew1 HB.out)
        have aN : 0 ≤ (aA : Int) := OD
        have aO : aA < (l0.length : Int) := OD
        obtain ⟨aK, aR, aB, aC⟩ := at_T54 aZ.out aA aN aO
        have aF := aC
        have aG := aB
        cases aR
        replace aB := CX HB.out aB
        replace aC := CX HB.out aC
        replace aN := eq_true aN
        replace aO := eq_true aO
        have aP : 0 ≤ (aA : Int) := OD
        have aQ : aA < (l1.length : Int) := OD
        obtain ⟨aL, aS, aD, aE⟩ := at_T54 bA.out aA aP aQ
        have aH := aE
        have aI := aD
        cases aS
        replace aD := CX HB.out aD
        replace aE := CX HB.out aE
        replace aP := eq_true aP
        replace aQ := eq_true aQ
        refine start_ (n := 10) (S := fun w' => w'.cell? (aK.add ((aA).toNat * 2)) = some (.string ((rd_T54 l0 aA).f0)) ∧ w'.cell? ⟨(aK.add ((aA).toNat * 2)).block, (aK.add ((aA).toNat * 2)).off + 1, none⟩ = some (.bool ((rd_T54 l0 aA).f1)) ∧ w'.cell? (aL.add ((aA).toNat * 2)) = some (.string ((rd_T54 l1 aA).f0)) ∧ w'.cell? ⟨(aL.add ((aA).toNat * 2)).block, (aL.add ((aA).toNat * 2)).off + 1, none⟩ = some (.bool ((rd_T54 l1 aA).f1))) (ds := []) (tf 0 10) (by kernel_rfl) rfl rfl ⟨(CY HB.out aG), (CY HB.out aF), (CY HB.out aI), (CY HB.out aH)⟩ (fun aJ => ?_); refine with_tabW laws_eqAirS.tab6 laws_eqAirS.bits6 (fun aM aU => ?_)
        generalize wr.drew = w9 at HB aB aC aD aE aJ ⊢
        refine pv aM 0 17 (tf 1 9) ?_
        refine pv aM 1 18 (tf 2 8) ?_
        refine pv aM 2 19 (tf 3 7) ?_
        refine pv aM 4 21 (tr [3, 1, 1, 5]) ?_
        refine pv aM 5 22 (tr [3, 1, 2, 4]) ?_
        refine pv aM 6 23 (tr [3, 1, 3, 3]) ?_
        refine tk 3 (some 20) (tf 7 3) (take_ofW aM.out aU.out (by kernel_rfl)) aJ ?_
        refine tk 7 (some 24) (tf 8 2) (take_ofW aM.out aU.out (by kernel_rfl)) aJ ?_
        refine one_ (i := 8) (N := some 25) (tf 9 1) rfl rfl (one_of aM.out (by kernel_rfl)) (by decide) (fun K hK => ?_)
        refine goes_ Tryz.func44 (by kernel_rfl) rfl #[.agg #[.string ((rd_T54 l0 aA).f0), .bool ((rd_T54 l0 aA).f1)], .agg #[.string ((rd_T54 l1 aA).f0), .bool ((rd_T54 l1 aA).f1)]] (by rfl) rfl rfl MT ?_
        with_reducible refine (laws_eqAir.calls ((rd_T54 l0 aA).f0) ((rd_T54 l0 aA).f1) ((rd_T54 l1 aA).f0) ((rd_T54 l1 aA).f1) true _ A7.out).mono ?_
        rintro e bF ⟨rfl, hb⟩
        refine ⟨_, rfl, ?_⟩
        replace HB := bl (KL HB) hb
        (try clear hb)
        (try clear hb2)
        (try clear hk)
        (try clear hi)
        refine hK.out _ _ ⟨(CY HB.out aG), (CY HB.out aF), (CY HB.out aI), (CY HB.out aH)⟩ (fun aJ => ?_)
        clear hK K
        refine nm (some 25) ?_
        refine pv aM 9 26 (tf 10 0) ?_
        refine done_ (done_of aM.out (by kernel_rfl)) ?_
        try go_wp2
        go_roundg k1
        case measure => have := HK1.out; omega
        case rel => exact ⟨(wrap64 (aA + 1)), (by first | rfl | (simp; done) | (simp [*]; done)), H', ⟨by have := HK1.out; omega⟩, ⟨KL HB⟩⟩
       ·replace c8 := Bool.eq_false_iff.mpr c8
        subst c8
        have H1 := nf H
        clear H
        have H := H1
        clear H1
        obtain rfl := sj H
        try go_wp2
        replace HB := am (below_drew1 HB.out)
        have aN : 0 ≤ (aA : Int) := OD
        have aO : aA < (l0.length : Int) := OD
        obtain ⟨aK, aR, aB, aC⟩ := at_T54 aZ.out aA aN aO
        have aF := aC
        have aG := aB
        cases aR
        replace aB := CX HB.out aB
        replace aC := CX HB.out aC
        replace aN := eq_true aN
        replace aO := eq_true aO
        have aP : 0 ≤ (aA : Int) := OD
        have aQ : aA < (l1.length : Int) := OD
        obtain ⟨aL, aS, aD, aE⟩ := at_T54 bA.out aA aP aQ
        have aH := aE
        have aI := aD
        cases aS
        replace aD := CX HB.out aD
        replace aE := CX HB.out aE
        replace aP := eq_true aP
        replace aQ := eq_true aQ
        refine start_ (n := 10) (S := fun w' => w'.cell? (aK.add ((aA).toNat * 2)) = some (.string ((rd_T54 l0 aA).f0)) ∧ w'.cell? ⟨(aK.add ((aA).toNat * 2)).block, (aK.add ((aA).toNat * 2)).off + 1, none⟩ = some (.bool ((rd_T54 l0 aA).f1)) ∧ w'.cell? (aL.add ((aA).toNat * 2)) = some (.string ((rd_T54 l1 aA).f0)) ∧ w'.cell? ⟨(aL.add ((aA).toNat * 2)).block, (aL.add ((aA).toNat * 2)).off + 1, none⟩ = some (.bool ((rd_T54 l1 aA).f1))) (ds := []) (tf 0 10) (by kernel_rfl) rfl rfl ⟨(CY HB.out aG), (CY HB.out aF), (CY HB.out aI), (CY HB.out aH)⟩ (fun aJ => ?_); refine with_tabW laws_eqAirS.tab6 laws_eqAirS.bits6 (fun aM aU => ?_)
        generalize wr.drew = bG at HB aB aC aD aE aJ ⊢
        refine pv aM 0 17 (tf 1 9) ?_
        refine pv aM 1 18 (tf 2 8) ?_
        refine pv aM 2 19 (tf 3 7) ?_
        refine pv aM 4 21 (tr [3, 1, 1, 5]) ?_
        refine pv aM 5 22 (tr [3, 1, 2, 4]) ?_
        refine pv aM 6 23 (tr [3, 1, 3, 3]) ?_
        refine tk 3 (some 20) (tf 7 3) (take_ofW aM.out aU.out (by kernel_rfl)) aJ ?_
        refine tk 7 (some 24) (tf 8 2) (take_ofW aM.out aU.out (by kernel_rfl)) aJ ?_
        refine one_ (i := 8) (N := some 25) (tf 9 1) rfl rfl (one_of aM.out (by kernel_rfl)) (by decide) (fun K hK => ?_)
        refine goes_ Tryz.func44 (by kernel_rfl) rfl #[.agg #[.string ((rd_T54 l0 aA).f0), .bool ((rd_T54 l0 aA).f1)], .agg #[.string ((rd_T54 l1 aA).f0), .bool ((rd_T54 l1 aA).f1)]] (by rfl) rfl rfl MT ?_
        with_reducible refine (laws_eqAir.calls ((rd_T54 l0 aA).f0) ((rd_T54 l0 aA).f1) ((rd_T54 l1 aA).f0) ((rd_T54 l1 aA).f1) false _ A7.out).mono ?_
        rintro e bH ⟨rfl, hb⟩
        refine ⟨_, rfl, ?_⟩
        replace HB := bl (KL HB) hb
        (try clear hb)
        (try clear hb2)
        (try clear hk)
        (try clear hi)
        refine hK.out _ _ ⟨(CY HB.out aG), (CY HB.out aF), (CY HB.out aI), (CY HB.out aH)⟩ (fun aJ => ?_)
        clear hK K
        refine nm (some 25) ?_
        refine pv aM 9 26 (tf 10 0) ?_
        refine done_ (done_of aM.out (by kernel_rfl)) ?_
        try go_wp2
        go_ret
        exact ⟨ER, KL HB⟩
      ·rw [if_neg c6] at H
       exact absurd H (by simp)
     ·rw [if_neg c5] at H
      exact absurd H (by simp)
    ·rw [if_neg c4] at H
     have c4b0 : decide (aA < (l0.length : Int)) = false := decide_eq_false c4
     clear c4
     obtain rfl := sj H
     go_wp2
     go_ret
     exact ⟨ER, KL HB⟩
 ·rw [if_neg c3] at H
  have c3b0 : ((l0.length : Int) == (l1.length : Int)) = false := beq_eq_false_iff_ne.mpr c3
  have c3b1 : ((l0.length : Int) != (l1.length : Int)) = true := bne_iff_ne.mpr c3
  have c3b2 : (l0.length == l1.length) = false := by first | simpa using c3 | (simp at c3 ⊢; omega)
  obtain rfl := sj H
  go_enter Tryz.func20, Tryz.ntmps20
  go_wp2
  go_ret
  exact ⟨ER, KL HB⟩
def laws_eqPacket.f (a0_0 : Int) (a0_1 : Int) (a0_2 : Int) (a0_3 : ByteArray) (a1_0 : Int) (a1_1 : Int) (a1_2 : Int) (a1_3 : ByteArray) : Option (Bool) := if a0_0 = a1_0 then (if a0_1 = a1_1 then (if a0_2 = a1_2 then (if a0_3.toList = a1_3.toList then (some true) else (some false)) else (some false)) else (some false)) else (some false)
theorem laws_eqPacket.calls (aJ : Int) (aK : Int) (aL : Int) (aM : ByteArray) (aN : Int) (aO : Int) (aP : Int) (aQ : ByteArray) (r : Bool) (w : World) (h : laws_eqPacket.f aJ aK aL aM aN aO aP aQ = some r) :
  Calls Tryz.prog 67 #[.agg #[.int .i64 aJ, .int .i64 aK, .int .i64 aL, .string aM], .agg #[.int .i64 aN, .int .i64 aO, .int .i64 aP, .string aQ]] w fun e w' => e = .returned (.bool r) ∧ Below w.heap.size w w' := by
 have dD := Tryz.underlying85
 have HB := am (Below.refl w.heap.size w)
 have H : (if aJ = aN then (if aK = aO then (if aL = aP then (if aM.toList = aQ.toList then (some true) else (some false)) else (some false)) else (some false)) else (some false)) = some r := h
 clear h
 by_cases c3 : aJ = aN
 ·rw [if_pos c3] at H
  have c3b0 : (aJ == aN) = true := beq_iff_eq.mpr c3
  have c3b1 : (aJ != aN) = false := bne_eq_false_iff_eq.mpr c3
  clear c3
  by_cases c4 : aK = aO
  ·rw [if_pos c4] at H
   have c4b0 : (aK == aO) = true := beq_iff_eq.mpr c4
   have c4b1 : (aK != aO) = false := bne_eq_false_iff_eq.mpr c4
   clear c4
   by_cases c5 : aL = aP
   ·rw [if_pos c5] at H
    have c5b0 : (aL == aP) = true := beq_iff_eq.mpr c5
    have c5b1 : (aL != aP) = false := bne_eq_false_iff_eq.mpr c5
    clear c5
    by_cases c6 : aM.toList = aQ.toList
    ·rw [if_pos c6] at H
     have c6b0 : (aM.toList == aQ.toList) = true := beq_iff_eq.mpr c6
     have c6b1 : (aM.toList != aQ.toList) = false := bne_eq_false_iff_eq.mpr c6
     clear c6
     obtain rfl := sj H
     go_enter Tryz.func67, Tryz.ntmps67
     go_wp2_with (first | ((with_reducible refine gate_dst (N := 2) rfl ?_); refine box_event rfl (N := 2) rfl (cs := #[.int .i64 aJ, .int .i64 aK, .int .i64 aL, .string aM]) (t := 85) BX ?_; intro aR hg w7 aD hb; have aA := am (aD); have aF := am (GH HB hg); have aE := aF; replace HB := bl (KL HB) hb; clear hb aD hg) | ((with_reducible refine gate_dst (N := 3) rfl ?_); refine box_event rfl (N := 3) rfl (cs := #[.int .i64 aN, .int .i64 aO, .int .i64 aP, .string aQ]) (t := 85) BX ?_; intro aS hg w8 aD hb; have aG := am (aD); have aH := am (GH1 HB aE.out hg); have aI := aH; replace HB := bl (K1 HB aE.out) hb; have aB := am (NL aA hg); have aC := am (NG aA hg); replace aA := am (BB aA hb); clear hb aD hg; have dE := aB.out; have dF := aC.out; have ⟨_, _, _, _, _⟩ := y4 w8 aA.out; have ⟨_, _, _, _, _⟩ := y4 w8 aG.out))
     go_ret
     exact ⟨ER, K2 HB aE.out aI.out⟩
    ·rw [if_neg c6] at H
     have c6b0 : (aM.toList == aQ.toList) = false := beq_eq_false_iff_ne.mpr c6
     have c6b1 : (aM.toList != aQ.toList) = true := bne_iff_ne.mpr c6
     obtain rfl := sj H
     go_enter Tryz.func67, Tryz.ntmps67
     go_wp2_with (first | ((with_reducible refine gate_dst (N := 2) rfl ?_); refine box_event rfl (N := 2) rfl (cs := #[.int .i64 aJ, .int .i64 aK, .int .i64 aL, .string aM]) (t := 85) BX ?_; intro aR hg dG aD hb; have aA := am (aD); have aF := am (GH HB hg); have aE := aF; replace HB := bl (KL HB) hb; clear hb aD hg) | ((with_reducible refine gate_dst (N := 3) rfl ?_); refine box_event rfl (N := 3) rfl (cs := #[.int .i64 aN, .int .i64 aO, .int .i64 aP, .string aQ]) (t := 85) BX ?_; intro aS hg cR aD hb; have aG := am (aD); have aH := am (GH1 HB aE.out hg); have aI := aH; replace HB := bl (K1 HB aE.out) hb; have aB := am (NL aA hg); have aC := am (NG aA hg); replace aA := am (BB aA hb); clear hb aD hg; have cS := aB.out; have cT := aC.out; have ⟨_, _, _, _, _⟩ := y4 cR aA.out; have ⟨_, _, _, _, _⟩ := y4 cR aG.out))
     go_ret
     exact ⟨ER, K2 HB aE.out aI.out⟩
   ·rw [if_neg c5] at H
    have c5b0 : (aL == aP) = false := beq_eq_false_iff_ne.mpr c5
    have c5b1 : (aL != aP) = true := bne_iff_ne.mpr c5
    obtain rfl := sj H
    go_enter Tryz.func67, Tryz.ntmps67
    go_wp2_with (first | ((with_reducible refine gate_dst (N := 2) rfl ?_); refine box_event rfl (N := 2) rfl (cs := #[.int .i64 aJ, .int .i64 aK, .int .i64 aL, .string aM]) (t := 85) BX ?_; intro aR hg dH aD hb; have aA := am (aD); have aF := am (GH HB hg); have aE := aF; replace HB := bl (KL HB) hb; clear hb aD hg) | ((with_reducible refine gate_dst (N := 3) rfl ?_); refine box_event rfl (N := 3) rfl (cs := #[.int .i64 aN, .int .i64 aO, .int .i64 aP, .string aQ]) (t := 85) BX ?_; intro aS hg cU aD hb; have aG := am (aD); have aH := am (GH1 HB aE.out hg); have aI := aH; replace HB := bl (K1 HB aE.out) hb; have aB := am (NL aA hg); have aC := am (NG aA hg); replace aA := am (BB aA hb); clear hb aD hg; have cV := aB.out; have cW := aC.out; have ⟨_, _, _, _, _⟩ := y4 cU aA.out; have ⟨_, _, _, _, _⟩ := y4 cU aG.out))
    go_ret
    exact ⟨ER, K2 HB aE.out aI.out⟩
  ·rw [if_neg c4] at H
   have c4b0 : (aK == aO) = false := beq_eq_false_iff_ne.mpr c4
   have c4b1 : (aK != aO) = true := bne_iff_ne.mpr c4
   obtain rfl := sj H
   go_enter Tryz.func67, Tryz.ntmps67
   go_wp2_with (first | ((with_reducible refine gate_dst (N := 2) rfl ?_); refine box_event rfl (N := 2) rfl (cs := #[.int .i64 aJ, .int .i64 aK, .int .i64 aL, .string aM]) (t := 85) BX ?_; intro aR hg dI aD hb; have aA := am (aD); have aF := am (GH HB hg); have aE := aF; replace HB := bl (KL HB) hb; clear hb aD hg) | ((with_reducible refine gate_dst (N := 3) rfl ?_); refine box_event rfl (N := 3) rfl (cs := #[.int .i64 aN, .int .i64 aO, .int .i64 aP, .string aQ]) (t := 85) BX ?_; intro aS hg cX aD hb; have aG := am (aD); have aH := am (GH1 HB aE.out hg); have aI := aH; replace HB := bl (K1 HB aE.out) hb; have aB := am (NL aA hg); have aC := am (NG aA hg); replace aA := am (BB aA hb); clear hb aD hg; have cY := aB.out; have cZ := aC.out; have ⟨_, _, _, _, _⟩ := y4 cX aA.out; have ⟨_, _, _, _, _⟩ := y4 cX aG.out))
   go_ret
   exact ⟨ER, K2 HB aE.out aI.out⟩
 ·rw [if_neg c3] at H
  have c3b0 : (aJ == aN) = false := beq_eq_false_iff_ne.mpr c3
  have c3b1 : (aJ != aN) = true := bne_iff_ne.mpr c3
  obtain rfl := sj H
  go_enter Tryz.func67, Tryz.ntmps67
  go_wp2_with (first | ((with_reducible refine gate_dst (N := 2) rfl ?_); refine box_event rfl (N := 2) rfl (cs := #[.int .i64 aJ, .int .i64 aK, .int .i64 aL, .string aM]) (t := 85) BX ?_; intro aR hg dJ aD hb; have aA := am (aD); have aF := am (GH HB hg); have aE := aF; replace HB := bl (KL HB) hb; clear hb aD hg) | ((with_reducible refine gate_dst (N := 3) rfl ?_); refine box_event rfl (N := 3) rfl (cs := #[.int .i64 aN, .int .i64 aO, .int .i64 aP, .string aQ]) (t := 85) BX ?_; intro aS hg dA aD hb; have aG := am (aD); have aH := am (GH1 HB aE.out hg); have aI := aH; replace HB := bl (K1 HB aE.out) hb; have aB := am (NL aA hg); have aC := am (NG aA hg); replace aA := am (BB aA hb); clear hb aD hg; have dB := aB.out; have dC := aC.out; have ⟨_, _, _, _, _⟩ := y4 dA aA.out; have ⟨_, _, _, _, _⟩ := y4 dA aG.out))
  go_ret
  exact ⟨ER, K2 HB aE.out aI.out⟩
def laws_eqSent.f (a0_0 : Int) (a0_1 : Int) (a0_2 : Int) (a0_3 : ByteArray) (a0_4 : Int) (a0_5 : Int) (a0_6 : Int) (a1_0 : Int) (a1_1 : Int) (a1_2 : Int) (a1_3 : ByteArray) (a1_4 : Int) (a1_5 : Int) (a1_6 : Int) : Option (Bool) := (laws_eqPacket.f a0_0 a0_1 a0_2 a0_3 a1_0 a1_1 a1_2 a1_3).bind fun t103 => (if t103 = true then (if a0_4 = a1_4 then (if a0_5 = a1_5 then (if a0_6 = a1_6 then (some true) else (some false)) else (some false)) else (some false)) else (some false))
theorem laws_eqSent.calls (aH : Int) (aI : Int) (aJ : Int) (aK : ByteArray) (aP : Int) (aQ : Int) (aR : Int) (aL : Int) (aM : Int) (aN : Int) (aO : ByteArray) (aS : Int) (aT : Int) (aU : Int) (r : Bool) (w : World) (h : laws_eqSent.f aH aI aJ aK aP aQ aR aL aM aN aO aS aT aU = some r) :
  Calls Tryz.prog 45 #[.agg #[.int .i64 aH, .int .i64 aI, .int .i64 aJ, .string aK, .int .i64 aP, .int .i64 aQ, .int .i64 aR], .agg #[.int .i64 aL, .int .i64 aM, .int .i64 aN, .string aO, .int .i64 aS, .int .i64 aT, .int .i64 aU]] w fun e w' => e = .returned (.bool r) ∧ Below w.heap.size w w' := by
 have hH := Tryz.underlying87
 have hI := Tryz.underlying85
 have HB := am (Below.refl w.heap.size w)
 have H : ((laws_eqPacket.f aH aI aJ aK aL aM aN aO).bind fun aZ => (if aZ = true then (if aP = aS then (if aQ = aT then (if aR = aU then (some true) else (some false)) else (some false)) else (some false)) else (some false))) = some r := h
 clear h
 replace H := bm H
 obtain ⟨aZ, gO, H⟩ := H
 replace H : (if aZ = true then (if aP = aS then (if aQ = aT then (if aR = aU then (some true) else (some false)) else (some false)) else (some false)) else (some false)) = some r := H
 have A3 := Aside0.mk gO
 clear gO
 by_cases c4 : aZ = true
 ·subst c4
  have H1 := pf H
  clear H
  have H := H1
  clear H1
  by_cases c5 : aP = aS
  ·rw [if_pos c5] at H
   have c5b0 : (aP == aS) = true := beq_iff_eq.mpr c5
   have c5b1 : (aP != aS) = false := bne_eq_false_iff_eq.mpr c5
   clear c5
   by_cases c6 : aQ = aT
   ·rw [if_pos c6] at H
    have c6b0 : (aQ == aT) = true := beq_iff_eq.mpr c6
    have c6b1 : (aQ != aT) = false := bne_eq_false_iff_eq.mpr c6
    clear c6
    by_cases c7 : aR = aU
    ·rw [if_pos c7] at H
     have c7b0 : (aR == aU) = true := beq_iff_eq.mpr c7
     have c7b1 : (aR != aU) = false := bne_eq_false_iff_eq.mpr c7
     clear c7
     obtain rfl := sj H
     go_enter Tryz.func45, Tryz.ntmps45
     go_wp2_with (first | ((with_reducible refine gate_dst (N := 2) rfl ?_); refine box_event rfl (N := 2) rfl (cs := #[.int .i64 aH, .int .i64 aI, .int .i64 aJ, .string aK, .int .i64 aP, .int .i64 aQ, .int .i64 aR]) (t := 87) BX ?_; intro aX hg w8 aF hb; have aA := am (aF); have aV := am (GH HB hg); have aB := aV; replace HB := bl (KL HB) hb; clear hb aF hg) | ((with_reducible refine gate_dst (N := 3) rfl ?_); refine box_event rfl (N := 3) rfl (cs := #[.int .i64 aL, .int .i64 aM, .int .i64 aN, .string aO, .int .i64 aS, .int .i64 aT, .int .i64 aU]) (t := 87) BX ?_; intro aY hg w9 aF hb; have aC := am (aF); have aW := am (GH1 HB aB.out hg); have aG := aW; replace HB := bl (K1 HB aB.out) hb; have aD := am (NL aA hg); have aE := am (NG aA hg); replace aA := am (BB aA hb); clear hb aF hg; have gP := aD.out; have gQ := aE.out; have ⟨_, _, _, _, _, _, _, _⟩ := y7 w9 aA.out; have ⟨_, _, _, _, _, _, _, _⟩ := y7 w9 aC.out) | ((with_reducible refine gate_callee (f := 67) rfl ?_); refine goesL_ (some 9) rfl rfl Tryz.func67 (by kernel_rfl) rfl #[.agg #[.int .i64 aH, .int .i64 aI, .int .i64 aJ, .string aK], .agg #[.int .i64 aL, .int .i64 aM, .int .i64 aN, .string aO]] rfl MT ?_; (with_reducible refine (laws_eqPacket.calls aH aI aJ aK aL aM aN aO true _ A3.out).mono ?_); rintro e gR ⟨rfl, hb⟩; refine ⟨_, rfl, ?_⟩; replace aA := am (BB aA hb); replace aC := am (BB aC hb); replace HB := bl (K2 HB aB.out aG.out) hb; (try clear hb); have ⟨_, _, _, _, _, _, _, _⟩ := y7 gR aA.out; have ⟨_, _, _, _, _, _, _, _⟩ := y7 gR aC.out))
     go_ret
     exact ⟨ER, K2 HB aB.out aG.out⟩
    ·rw [if_neg c7] at H
     have c7b0 : (aR == aU) = false := beq_eq_false_iff_ne.mpr c7
     have c7b1 : (aR != aU) = true := bne_iff_ne.mpr c7
     obtain rfl := sj H
     go_enter Tryz.func45, Tryz.ntmps45
     go_wp2_with (first | ((with_reducible refine gate_dst (N := 2) rfl ?_); refine box_event rfl (N := 2) rfl (cs := #[.int .i64 aH, .int .i64 aI, .int .i64 aJ, .string aK, .int .i64 aP, .int .i64 aQ, .int .i64 aR]) (t := 87) BX ?_; intro aX hg hJ aF hb; have aA := am (aF); have aV := am (GH HB hg); have aB := aV; replace HB := bl (KL HB) hb; clear hb aF hg) | ((with_reducible refine gate_dst (N := 3) rfl ?_); refine box_event rfl (N := 3) rfl (cs := #[.int .i64 aL, .int .i64 aM, .int .i64 aN, .string aO, .int .i64 aS, .int .i64 aT, .int .i64 aU]) (t := 87) BX ?_; intro aY hg gS aF hb; have aC := am (aF); have aW := am (GH1 HB aB.out hg); have aG := aW; replace HB := bl (K1 HB aB.out) hb; have aD := am (NL aA hg); have aE := am (NG aA hg); replace aA := am (BB aA hb); clear hb aF hg; have gT := aD.out; have gU := aE.out; have ⟨_, _, _, _, _, _, _, _⟩ := y7 gS aA.out; have ⟨_, _, _, _, _, _, _, _⟩ := y7 gS aC.out) | ((with_reducible refine gate_callee (f := 67) rfl ?_); refine goesL_ (some 9) rfl rfl Tryz.func67 (by kernel_rfl) rfl #[.agg #[.int .i64 aH, .int .i64 aI, .int .i64 aJ, .string aK], .agg #[.int .i64 aL, .int .i64 aM, .int .i64 aN, .string aO]] rfl MT ?_; (with_reducible refine (laws_eqPacket.calls aH aI aJ aK aL aM aN aO true _ A3.out).mono ?_); rintro e gV ⟨rfl, hb⟩; refine ⟨_, rfl, ?_⟩; replace aA := am (BB aA hb); replace aC := am (BB aC hb); replace HB := bl (K2 HB aB.out aG.out) hb; (try clear hb); have ⟨_, _, _, _, _, _, _, _⟩ := y7 gV aA.out; have ⟨_, _, _, _, _, _, _, _⟩ := y7 gV aC.out))
     go_ret
     exact ⟨ER, K2 HB aB.out aG.out⟩
   ·rw [if_neg c6] at H
    have c6b0 : (aQ == aT) = false := beq_eq_false_iff_ne.mpr c6
    have c6b1 : (aQ != aT) = true := bne_iff_ne.mpr c6
    obtain rfl := sj H
    go_enter Tryz.func45, Tryz.ntmps45
    go_wp2_with (first | ((with_reducible refine gate_dst (N := 2) rfl ?_); refine box_event rfl (N := 2) rfl (cs := #[.int .i64 aH, .int .i64 aI, .int .i64 aJ, .string aK, .int .i64 aP, .int .i64 aQ, .int .i64 aR]) (t := 87) BX ?_; intro aX hg hK aF hb; have aA := am (aF); have aV := am (GH HB hg); have aB := aV; replace HB := bl (KL HB) hb; clear hb aF hg) | ((with_reducible refine gate_dst (N := 3) rfl ?_); refine box_event rfl (N := 3) rfl (cs := #[.int .i64 aL, .int .i64 aM, .int .i64 aN, .string aO, .int .i64 aS, .int .i64 aT, .int .i64 aU]) (t := 87) BX ?_; intro aY hg gW aF hb; have aC := am (aF); have aW := am (GH1 HB aB.out hg); have aG := aW; replace HB := bl (K1 HB aB.out) hb; have aD := am (NL aA hg); have aE := am (NG aA hg); replace aA := am (BB aA hb); clear hb aF hg; have gX := aD.out; have gY := aE.out; have ⟨_, _, _, _, _, _, _, _⟩ := y7 gW aA.out; have ⟨_, _, _, _, _, _, _, _⟩ := y7 gW aC.out) | ((with_reducible refine gate_callee (f := 67) rfl ?_); refine goesL_ (some 9) rfl rfl Tryz.func67 (by kernel_rfl) rfl #[.agg #[.int .i64 aH, .int .i64 aI, .int .i64 aJ, .string aK], .agg #[.int .i64 aL, .int .i64 aM, .int .i64 aN, .string aO]] rfl MT ?_; (with_reducible refine (laws_eqPacket.calls aH aI aJ aK aL aM aN aO true _ A3.out).mono ?_); rintro e gZ ⟨rfl, hb⟩; refine ⟨_, rfl, ?_⟩; replace aA := am (BB aA hb); replace aC := am (BB aC hb); replace HB := bl (K2 HB aB.out aG.out) hb; (try clear hb); have ⟨_, _, _, _, _, _, _, _⟩ := y7 gZ aA.out; have ⟨_, _, _, _, _, _, _, _⟩ := y7 gZ aC.out))
    go_ret
    exact ⟨ER, K2 HB aB.out aG.out⟩
  ·rw [if_neg c5] at H
   have c5b0 : (aP == aS) = false := beq_eq_false_iff_ne.mpr c5
   have c5b1 : (aP != aS) = true := bne_iff_ne.mpr c5
   obtain rfl := sj H
   go_enter Tryz.func45, Tryz.ntmps45
   go_wp2_with (first | ((with_reducible refine gate_dst (N := 2) rfl ?_); refine box_event rfl (N := 2) rfl (cs := #[.int .i64 aH, .int .i64 aI, .int .i64 aJ, .string aK, .int .i64 aP, .int .i64 aQ, .int .i64 aR]) (t := 87) BX ?_; intro aX hg hL aF hb; have aA := am (aF); have aV := am (GH HB hg); have aB := aV; replace HB := bl (KL HB) hb; clear hb aF hg) | ((with_reducible refine gate_dst (N := 3) rfl ?_); refine box_event rfl (N := 3) rfl (cs := #[.int .i64 aL, .int .i64 aM, .int .i64 aN, .string aO, .int .i64 aS, .int .i64 aT, .int .i64 aU]) (t := 87) BX ?_; intro aY hg hA aF hb; have aC := am (aF); have aW := am (GH1 HB aB.out hg); have aG := aW; replace HB := bl (K1 HB aB.out) hb; have aD := am (NL aA hg); have aE := am (NG aA hg); replace aA := am (BB aA hb); clear hb aF hg; have hB := aD.out; have hC := aE.out; have ⟨_, _, _, _, _, _, _, _⟩ := y7 hA aA.out; have ⟨_, _, _, _, _, _, _, _⟩ := y7 hA aC.out) | ((with_reducible refine gate_callee (f := 67) rfl ?_); refine goesL_ (some 9) rfl rfl Tryz.func67 (by kernel_rfl) rfl #[.agg #[.int .i64 aH, .int .i64 aI, .int .i64 aJ, .string aK], .agg #[.int .i64 aL, .int .i64 aM, .int .i64 aN, .string aO]] rfl MT ?_; (with_reducible refine (laws_eqPacket.calls aH aI aJ aK aL aM aN aO true _ A3.out).mono ?_); rintro e hD ⟨rfl, hb⟩; refine ⟨_, rfl, ?_⟩; replace aA := am (BB aA hb); replace aC := am (BB aC hb); replace HB := bl (K2 HB aB.out aG.out) hb; (try clear hb); have ⟨_, _, _, _, _, _, _, _⟩ := y7 hD aA.out; have ⟨_, _, _, _, _, _, _, _⟩ := y7 hD aC.out))
   go_ret
   exact ⟨ER, K2 HB aB.out aG.out⟩
 ·replace c4 := Bool.eq_false_iff.mpr c4
  subst c4
  have H1 := nf H
  clear H
  have H := H1
  clear H1
  obtain rfl := sj H
  go_enter Tryz.func45, Tryz.ntmps45
  go_wp2_with (first | ((with_reducible refine gate_dst (N := 2) rfl ?_); refine box_event rfl (N := 2) rfl (cs := #[.int .i64 aH, .int .i64 aI, .int .i64 aJ, .string aK, .int .i64 aP, .int .i64 aQ, .int .i64 aR]) (t := 87) BX ?_; intro aX hg hM aF hb; have aA := am (aF); have aV := am (GH HB hg); have aB := aV; replace HB := bl (KL HB) hb; clear hb aF hg) | ((with_reducible refine gate_dst (N := 3) rfl ?_); refine box_event rfl (N := 3) rfl (cs := #[.int .i64 aL, .int .i64 aM, .int .i64 aN, .string aO, .int .i64 aS, .int .i64 aT, .int .i64 aU]) (t := 87) BX ?_; intro aY hg hE aF hb; have aC := am (aF); have aW := am (GH1 HB aB.out hg); have aG := aW; replace HB := bl (K1 HB aB.out) hb; have aD := am (NL aA hg); have aE := am (NG aA hg); replace aA := am (BB aA hb); clear hb aF hg; have hF := aD.out; have hG := aE.out; have ⟨_, _, _, _, _, _, _, _⟩ := y7 hE aA.out; have ⟨_, _, _, _, _, _, _, _⟩ := y7 hE aC.out) | ((with_reducible refine gate_callee (f := 67) rfl ?_); refine goesL_ (some 9) rfl rfl Tryz.func67 (by kernel_rfl) rfl #[.agg #[.int .i64 aH, .int .i64 aI, .int .i64 aJ, .string aK], .agg #[.int .i64 aL, .int .i64 aM, .int .i64 aN, .string aO]] rfl MT ?_; (with_reducible refine (laws_eqPacket.calls aH aI aJ aK aL aM aN aO false _ A3.out).mono ?_); rintro e hN ⟨rfl, hb⟩; refine ⟨_, rfl, ?_⟩; replace aA := am (BB aA hb); replace aC := am (BB aC hb); replace HB := bl (K2 HB aB.out aG.out) hb; (try clear hb)))
  go_ret
  exact ⟨ER, K2 HB aB.out aG.out⟩
def laws_eqSentS.l0 : Nat → List (S87) → List (S87) → Int → Option (Bool)
 | 0, _, _, _ => none
 | k + 1, x0, x1, x5 => if x5 < (x0.length : Int) then (if 0 ≤ x5 then (if x5 < (x1.length : Int) then ((laws_eqSent.f ((rd_T87 x0 x5).f0.f0) ((rd_T87 x0 x5).f0.f1) ((rd_T87 x0 x5).f0.f2) ((rd_T87 x0 x5).f0.f3) ((rd_T87 x0 x5).f1) ((rd_T87 x0 x5).f2) ((rd_T87 x0 x5).f3) ((rd_T87 x1 x5).f0.f0) ((rd_T87 x1 x5).f0.f1) ((rd_T87 x1 x5).f0.f2) ((rd_T87 x1 x5).f0.f3) ((rd_T87 x1 x5).f1) ((rd_T87 x1 x5).f2) ((rd_T87 x1 x5).f3)).bind fun t103 => (if t103 = true then (laws_eqSentS.l0 k x0 x1 (wrap64 (x5 + 1))) else (some false))) else (none)) else (none)) else (some true)
def laws_eqSentS.f (k : Nat) (l0 : List (S87)) (l1 : List (S87)) : Option (Bool) := if (l0.length : Int) = (l1.length : Int) then (laws_eqSentS.l0 k l0 l1 0) else (some false)
def laws_eqSentS.T6 : Bool × List (List Nat × List Nat) := (true, [([], []), ([], []), ([0, 1], [0, 1]), ([2], [2]), ([], []), ([], []), ([4, 5], [4, 5]), ([6], [6]), ([3, 7], [3, 7]), ([8], [8])])
def laws_eqSentS.B6 : List Nat := [0, 0, 3, 7, 0, 0, 48, 112, 255, 511]
theorem laws_eqSentS.tab6 : rtab .any (opsOf Tryz.f21 6) = laws_eqSentS.T6 := by kernel_rfl
theorem laws_eqSentS.bits6 : waitsOk laws_eqSentS.T6.2 laws_eqSentS.B6 = true := by kernel_rfl
theorem laws_eqSentS.calls (k : Nat) (A0 : Option Addr) (c0 : Nat) (l0 : List (S87)) (A1 : Option Addr) (c1 : Nat) (l1 : List (S87)) (r : Bool) (w : World) (bP : Kd.C k87 w A0 l0.length l0) (bQ : l0.length ≤ c0) (bR : Kd.C k87 w A1 l1.length l1) (bS : l1.length ≤ c1) (h : laws_eqSentS.f k l0 l1 = some r) :
  Calls Tryz.prog 21 #[.slice A0 l0.length c0, .slice A1 l1.length c1] w fun e w' => e = .returned (.bool r) ∧ Below w.heap.size w w' := by
 have bW := Tryz.underlying87
 have bT := Aside0.mk bP
 have bX := Aside0.mk bQ
 clear bP bQ
 have bU := Aside0.mk bR
 have bY := Aside0.mk bS
 clear bR bS
 have HB := am (Below.refl w.heap.size w)
 have H : (if (l0.length : Int) = (l1.length : Int) then (laws_eqSentS.l0 k l0 l1 0) else (some false)) = some r := h
 clear h
 by_cases c3 : (l0.length : Int) = (l1.length : Int)
 ·rw [if_pos c3] at H
  have c3b0 : ((l0.length : Int) == (l1.length : Int)) = true := beq_iff_eq.mpr c3
  have c3b1 : ((l0.length : Int) != (l1.length : Int)) = false := bne_eq_false_iff_eq.mpr c3
  have c3b2 : (l0.length == l1.length) = true := by first | simpa using c3 | (simp at c3 ⊢; omega)
  clear c3
  have H' := Aside0.mk H
  clear H
  go_enter Tryz.func21, Tryz.ntmps21
  go_wp2
  go_loopg [5] k (fun kq v5 w' => ∃ (aA : Int), v5 = .int .i64 aA ∧ Aside0 (laws_eqSentS.l0 kq l0 l1 aA = some r) ∧ Aside0 (kq ≤ k) ∧ Aside0 (Below w.heap.size w w'))
  case atStart => exact ⟨(0), (by first | rfl | (simp; done) | (simp [*]; done)), H', ⟨Nat.le_refl _⟩, ⟨KL HB⟩⟩
  case round =>
   clear H'
   try clear c1
   try clear c2
   try clear p2
   try clear c3
   try clear c3b0
   try clear c3b1
   try clear c3b2
   obtain ⟨aA, rfl, HA, HK1, HB⟩ := hrel
   cases gk with
   | zero => exact absurd HA.out (by simp [laws_eqSentS.l0])
   | succ k1 =>
    have H := HA.out
    clear HA
    simp only [laws_eqSentS.l0] at H
    by_cases c4 : aA < (l0.length : Int)
    ·rw [if_pos c4] at H
     have c4b0 : decide (aA < (l0.length : Int)) = true := decide_eq_true c4
     clear c4
     by_cases c5 : 0 ≤ aA
     ·rw [if_pos c5] at H
      have c5b0 : decide (0 ≤ aA) = true := decide_eq_true c5
      clear c5
      by_cases c6 : aA < (l1.length : Int)
      ·rw [if_pos c6] at H
       have c6b0 : decide (aA < (l1.length : Int)) = true := decide_eq_true c6
       clear c6
       replace H := bm H
       obtain ⟨bN, bV, H⟩ := H
       replace H : (if bN = true then (laws_eqSentS.l0 k1 l0 l1 (wrap64 (aA + 1))) else (some false)) = some r := H
       have A7 := Aside0.mk bV
       clear bV
       by_cases c8 : bN = true
       ·subst c8
        have H1 := pf H
        clear H
        have H := H1
        clear H1
        have H' := Aside0.mk H
        clear H
        try go_wp2
        replace HB := am (below_drew1 HB.out)
        have bH : 0 ≤ (aA : Int) := OD
        have bI : aA < (l0.length : Int) := OD
        obtain ⟨aB, bL, aD, aE, aF, aG, aH, aI, aJ⟩ := at_T87 bT.out aA bH bI
        have aR := aJ
        have aS := aI
        have aT := aH
        have aU := aG
        have aV := aF
        have aW := aE
        have aX := aD
        cases bL
        replace aD := CX HB.out aD
        replace aE := CX HB.out aE
        replace aF := CX HB.out aF
        replace aG := CX HB.out aG
        replace aH := CX HB.out aH
        replace aI := CX HB.out aI
        replace aJ := CX HB.out aJ
        replace bH := eq_true bH
        replace bI := eq_true bI
        have bJ : 0 ≤ (aA : Int) := OD
        have bK : aA < (l1.length : Int) := OD
        obtain ⟨aC, bM, aK, aL, aM, aN, aO, aP, aQ⟩ := at_T87 bU.out aA bJ bK
        have aY := aQ
        have aZ := aP
        have bA := aO
        have bB := aN
        have bC := aM
        have bD := aL
        have bE := aK
        cases bM
        replace aK := CX HB.out aK
        replace aL := CX HB.out aL
        replace aM := CX HB.out aM
        replace aN := CX HB.out aN
        replace aO := CX HB.out aO
        replace aP := CX HB.out aP
        replace aQ := CX HB.out aQ
        replace bJ := eq_true bJ
        replace bK := eq_true bK
        refine start_ (n := 10) (S := fun w' => w'.cell? (aB.add ((aA).toNat * 7)) = some (.int .i64 ((rd_T87 l0 aA).f0.f0)) ∧ w'.cell? ⟨(aB.add ((aA).toNat * 7)).block, (aB.add ((aA).toNat * 7)).off + 1, none⟩ = some (.int .i64 ((rd_T87 l0 aA).f0.f1)) ∧ w'.cell? ⟨(aB.add ((aA).toNat * 7)).block, (aB.add ((aA).toNat * 7)).off + 2, none⟩ = some (.int .i64 ((rd_T87 l0 aA).f0.f2)) ∧ w'.cell? ⟨(aB.add ((aA).toNat * 7)).block, (aB.add ((aA).toNat * 7)).off + 3, none⟩ = some (.string ((rd_T87 l0 aA).f0.f3)) ∧ w'.cell? ⟨(aB.add ((aA).toNat * 7)).block, (aB.add ((aA).toNat * 7)).off + 4, none⟩ = some (.int .i64 ((rd_T87 l0 aA).f1)) ∧ w'.cell? ⟨(aB.add ((aA).toNat * 7)).block, (aB.add ((aA).toNat * 7)).off + 5, none⟩ = some (.int .i64 ((rd_T87 l0 aA).f2)) ∧ w'.cell? ⟨(aB.add ((aA).toNat * 7)).block, (aB.add ((aA).toNat * 7)).off + 6, none⟩ = some (.int .i64 ((rd_T87 l0 aA).f3)) ∧ w'.cell? (aC.add ((aA).toNat * 7)) = some (.int .i64 ((rd_T87 l1 aA).f0.f0)) ∧ w'.cell? ⟨(aC.add ((aA).toNat * 7)).block, (aC.add ((aA).toNat * 7)).off + 1, none⟩ = some (.int .i64 ((rd_T87 l1 aA).f0.f1)) ∧ w'.cell? ⟨(aC.add ((aA).toNat * 7)).block, (aC.add ((aA).toNat * 7)).off + 2, none⟩ = some (.int .i64 ((rd_T87 l1 aA).f0.f2)) ∧ w'.cell? ⟨(aC.add ((aA).toNat * 7)).block, (aC.add ((aA).toNat * 7)).off + 3, none⟩ = some (.string ((rd_T87 l1 aA).f0.f3)) ∧ w'.cell? ⟨(aC.add ((aA).toNat * 7)).block, (aC.add ((aA).toNat * 7)).off + 4, none⟩ = some (.int .i64 ((rd_T87 l1 aA).f1)) ∧ w'.cell? ⟨(aC.add ((aA).toNat * 7)).block, (aC.add ((aA).toNat * 7)).off + 5, none⟩ = some (.int .i64 ((rd_T87 l1 aA).f2)) ∧ w'.cell? ⟨(aC.add ((aA).toNat * 7)).block, (aC.add ((aA).toNat * 7)).off + 6, none⟩ = some (.int .i64 ((rd_T87 l1 aA).f3))) (ds := []) (tf 0 10) (by kernel_rfl) rfl rfl ⟨(CY HB.out aX), (CY HB.out aW), (CY HB.out aV), (CY HB.out aU), (CY HB.out aT), (CY HB.out aS), (CY HB.out aR), (CY HB.out bE), (CY HB.out bD), (CY HB.out bC), (CY HB.out bB), (CY HB.out bA), (CY HB.out aZ), (CY HB.out aY)⟩ (fun bF => ?_); refine with_tabW laws_eqSentS.tab6 laws_eqSentS.bits6 (fun bG bO => ?_)
        generalize wr.drew = w9 at HB aD aE aF aG aH aI aJ aK aL aM aN aO aP aQ bF ⊢
        refine pv bG 0 17 (tf 1 9) ?_
        refine pv bG 1 18 (tf 2 8) ?_
        refine pv bG 2 19 (tf 3 7) ?_
        refine pv bG 4 21 (tr [3, 1, 1, 5]) ?_
        refine pv bG 5 22 (tr [3, 1, 2, 4]) ?_
        refine pv bG 6 23 (tr [3, 1, 3, 3]) ?_
        refine tk 3 (some 20) (tf 7 3) (take_ofW bG.out bO.out (by kernel_rfl)) bF ?_
        refine tk 7 (some 24) (tf 8 2) (take_ofW bG.out bO.out (by kernel_rfl)) bF ?_
        refine one_ (i := 8) (N := some 25) (tf 9 1) rfl rfl (one_of bG.out (by kernel_rfl)) (by decide) (fun K hK => ?_)
        refine goes_ Tryz.func45 (by kernel_rfl) rfl #[.agg #[.int .i64 ((rd_T87 l0 aA).f0.f0), .int .i64 ((rd_T87 l0 aA).f0.f1), .int .i64 ((rd_T87 l0 aA).f0.f2), .string ((rd_T87 l0 aA).f0.f3), .int .i64 ((rd_T87 l0 aA).f1), .int .i64 ((rd_T87 l0 aA).f2), .int .i64 ((rd_T87 l0 aA).f3)], .agg #[.int .i64 ((rd_T87 l1 aA).f0.f0), .int .i64 ((rd_T87 l1 aA).f0.f1), .int .i64 ((rd_T87 l1 aA).f0.f2), .string ((rd_T87 l1 aA).f0.f3), .int .i64 ((rd_T87 l1 aA).f1), .int .i64 ((rd_T87 l1 aA).f2), .int .i64 ((rd_T87 l1 aA).f3)]] (by rfl) rfl rfl MT ?_
        with_reducible refine (laws_eqSent.calls ((rd_T87 l0 aA).f0.f0) ((rd_T87 l0 aA).f0.f1) ((rd_T87 l0 aA).f0.f2) ((rd_T87 l0 aA).f0.f3) ((rd_T87 l0 aA).f1) ((rd_T87 l0 aA).f2) ((rd_T87 l0 aA).f3) ((rd_T87 l1 aA).f0.f0) ((rd_T87 l1 aA).f0.f1) ((rd_T87 l1 aA).f0.f2) ((rd_T87 l1 aA).f0.f3) ((rd_T87 l1 aA).f1) ((rd_T87 l1 aA).f2) ((rd_T87 l1 aA).f3) true _ A7.out).mono ?_
        rintro e bZ ⟨rfl, hb⟩
        refine ⟨_, rfl, ?_⟩
        replace HB := bl (KL HB) hb
        (try clear hb)
        (try clear hb2)
        (try clear hk)
        (try clear hi)
        refine hK.out _ _ ⟨(CY HB.out aX), (CY HB.out aW), (CY HB.out aV), (CY HB.out aU), (CY HB.out aT), (CY HB.out aS), (CY HB.out aR), (CY HB.out bE), (CY HB.out bD), (CY HB.out bC), (CY HB.out bB), (CY HB.out bA), (CY HB.out aZ), (CY HB.out aY)⟩ (fun bF => ?_)
        clear hK K
        refine nm (some 25) ?_
        refine pv bG 9 26 (tf 10 0) ?_
        refine done_ (done_of bG.out (by kernel_rfl)) ?_
        try go_wp2
        go_roundg k1
        case measure => have := HK1.out; omega
        case rel => exact ⟨(wrap64 (aA + 1)), (by first | rfl | (simp; done) | (simp [*]; done)), H', ⟨by have := HK1.out; omega⟩, ⟨KL HB⟩⟩
       ·replace c8 := Bool.eq_false_iff.mpr c8
        subst c8
        have H1 := nf H
        clear H
        have H := H1
        clear H1
        obtain rfl := sj H
        try go_wp2
        replace HB := am (below_drew1 HB.out)
        have bH : 0 ≤ (aA : Int) := OD
        have bI : aA < (l0.length : Int) := OD
        obtain ⟨aB, bL, aD, aE, aF, aG, aH, aI, aJ⟩ := at_T87 bT.out aA bH bI
        have aR := aJ
        have aS := aI
        have aT := aH
        have aU := aG
        have aV := aF
        have aW := aE
        have aX := aD
        cases bL
        replace aD := CX HB.out aD
        replace aE := CX HB.out aE
        replace aF := CX HB.out aF
        replace aG := CX HB.out aG
        replace aH := CX HB.out aH
        replace aI := CX HB.out aI
        replace aJ := CX HB.out aJ
        replace bH := eq_true bH
        replace bI := eq_true bI
        have bJ : 0 ≤ (aA : Int) := OD
        have bK : aA < (l1.length : Int) := OD
        obtain ⟨aC, bM, aK, aL, aM, aN, aO, aP, aQ⟩ := at_T87 bU.out aA bJ bK
        have aY := aQ
        have aZ := aP
        have bA := aO
        have bB := aN
        have bC := aM
        have bD := aL
        have bE := aK
        cases bM
        replace aK := CX HB.out aK
        replace aL := CX HB.out aL
        replace aM := CX HB.out aM
        replace aN := CX HB.out aN
        replace aO := CX HB.out aO
        replace aP := CX HB.out aP
        replace aQ := CX HB.out aQ
        replace bJ := eq_true bJ
        replace bK := eq_true bK
        refine start_ (n := 10) (S := fun w' => w'.cell? (aB.add ((aA).toNat * 7)) = some (.int .i64 ((rd_T87 l0 aA).f0.f0)) ∧ w'.cell? ⟨(aB.add ((aA).toNat * 7)).block, (aB.add ((aA).toNat * 7)).off + 1, none⟩ = some (.int .i64 ((rd_T87 l0 aA).f0.f1)) ∧ w'.cell? ⟨(aB.add ((aA).toNat * 7)).block, (aB.add ((aA).toNat * 7)).off + 2, none⟩ = some (.int .i64 ((rd_T87 l0 aA).f0.f2)) ∧ w'.cell? ⟨(aB.add ((aA).toNat * 7)).block, (aB.add ((aA).toNat * 7)).off + 3, none⟩ = some (.string ((rd_T87 l0 aA).f0.f3)) ∧ w'.cell? ⟨(aB.add ((aA).toNat * 7)).block, (aB.add ((aA).toNat * 7)).off + 4, none⟩ = some (.int .i64 ((rd_T87 l0 aA).f1)) ∧ w'.cell? ⟨(aB.add ((aA).toNat * 7)).block, (aB.add ((aA).toNat * 7)).off + 5, none⟩ = some (.int .i64 ((rd_T87 l0 aA).f2)) ∧ w'.cell? ⟨(aB.add ((aA).toNat * 7)).block, (aB.add ((aA).toNat * 7)).off + 6, none⟩ = some (.int .i64 ((rd_T87 l0 aA).f3)) ∧ w'.cell? (aC.add ((aA).toNat * 7)) = some (.int .i64 ((rd_T87 l1 aA).f0.f0)) ∧ w'.cell? ⟨(aC.add ((aA).toNat * 7)).block, (aC.add ((aA).toNat * 7)).off + 1, none⟩ = some (.int .i64 ((rd_T87 l1 aA).f0.f1)) ∧ w'.cell? ⟨(aC.add ((aA).toNat * 7)).block, (aC.add ((aA).toNat * 7)).off + 2, none⟩ = some (.int .i64 ((rd_T87 l1 aA).f0.f2)) ∧ w'.cell? ⟨(aC.add ((aA).toNat * 7)).block, (aC.add ((aA).toNat * 7)).off + 3, none⟩ = some (.string ((rd_T87 l1 aA).f0.f3)) ∧ w'.cell? ⟨(aC.add ((aA).toNat * 7)).block, (aC.add ((aA).toNat * 7)).off + 4, none⟩ = some (.int .i64 ((rd_T87 l1 aA).f1)) ∧ w'.cell? ⟨(aC.add ((aA).toNat * 7)).block, (aC.add ((aA).toNat * 7)).off + 5, none⟩ = some (.int .i64 ((rd_T87 l1 aA).f2)) ∧ w'.cell? ⟨(aC.add ((aA).toNat * 7)).block, (aC.add ((aA).toNat * 7)).off + 6, none⟩ = some (.int .i64 ((rd_T87 l1 aA).f3))) (ds := []) (tf 0 10) (by kernel_rfl) rfl rfl ⟨(CY HB.out aX), (CY HB.out aW), (CY HB.out aV), (CY HB.out aU), (CY HB.out aT), (CY HB.out aS), (CY HB.out aR), (CY HB.out bE), (CY HB.out bD), (CY HB.out bC), (CY HB.out bB), (CY HB.out bA), (CY HB.out aZ), (CY HB.out aY)⟩ (fun bF => ?_); refine with_tabW laws_eqSentS.tab6 laws_eqSentS.bits6 (fun bG bO => ?_)
        generalize wr.drew = cA at HB aD aE aF aG aH aI aJ aK aL aM aN aO aP aQ bF ⊢
        refine pv bG 0 17 (tf 1 9) ?_
        refine pv bG 1 18 (tf 2 8) ?_
        refine pv bG 2 19 (tf 3 7) ?_
        refine pv bG 4 21 (tr [3, 1, 1, 5]) ?_
        refine pv bG 5 22 (tr [3, 1, 2, 4]) ?_
        refine pv bG 6 23 (tr [3, 1, 3, 3]) ?_
        refine tk 3 (some 20) (tf 7 3) (take_ofW bG.out bO.out (by kernel_rfl)) bF ?_
        refine tk 7 (some 24) (tf 8 2) (take_ofW bG.out bO.out (by kernel_rfl)) bF ?_
        refine one_ (i := 8) (N := some 25) (tf 9 1) rfl rfl (one_of bG.out (by kernel_rfl)) (by decide) (fun K hK => ?_)
        refine goes_ Tryz.func45 (by kernel_rfl) rfl #[.agg #[.int .i64 ((rd_T87 l0 aA).f0.f0), .int .i64 ((rd_T87 l0 aA).f0.f1), .int .i64 ((rd_T87 l0 aA).f0.f2), .string ((rd_T87 l0 aA).f0.f3), .int .i64 ((rd_T87 l0 aA).f1), .int .i64 ((rd_T87 l0 aA).f2), .int .i64 ((rd_T87 l0 aA).f3)], .agg #[.int .i64 ((rd_T87 l1 aA).f0.f0), .int .i64 ((rd_T87 l1 aA).f0.f1), .int .i64 ((rd_T87 l1 aA).f0.f2), .string ((rd_T87 l1 aA).f0.f3), .int .i64 ((rd_T87 l1 aA).f1), .int .i64 ((rd_T87 l1 aA).f2), .int .i64 ((rd_T87 l1 aA).f3)]] (by rfl) rfl rfl MT ?_
        with_reducible refine (laws_eqSent.calls ((rd_T87 l0 aA).f0.f0) ((rd_T87 l0 aA).f0.f1) ((rd_T87 l0 aA).f0.f2) ((rd_T87 l0 aA).f0.f3) ((rd_T87 l0 aA).f1) ((rd_T87 l0 aA).f2) ((rd_T87 l0 aA).f3) ((rd_T87 l1 aA).f0.f0) ((rd_T87 l1 aA).f0.f1) ((rd_T87 l1 aA).f0.f2) ((rd_T87 l1 aA).f0.f3) ((rd_T87 l1 aA).f1) ((rd_T87 l1 aA).f2) ((rd_T87 l1 aA).f3) false _ A7.out).mono ?_
        rintro e cB ⟨rfl, hb⟩
        refine ⟨_, rfl, ?_⟩
        replace HB := bl (KL HB) hb
        (try clear hb)
        (try clear hb2)
        (try clear hk)
        (try clear hi)
        refine hK.out _ _ ⟨(CY HB.out aX), (CY HB.out aW), (CY HB.out aV), (CY HB.out aU), (CY HB.out aT), (CY HB.out aS), (CY HB.out aR), (CY HB.out bE), (CY HB.out bD), (CY HB.out bC), (CY HB.out bB), (CY HB.out bA), (CY HB.out aZ), (CY HB.out aY)⟩ (fun bF => ?_)
        clear hK K
        refine nm (some 25) ?_
        refine pv bG 9 26 (tf 10 0) ?_
        refine done_ (done_of bG.out (by kernel_rfl)) ?_
        try go_wp2
        go_ret
        exact ⟨ER, KL HB⟩
      ·rw [if_neg c6] at H
       exact absurd H (by simp)
     ·rw [if_neg c5] at H
      exact absurd H (by simp)
    ·rw [if_neg c4] at H
     have c4b0 : decide (aA < (l0.length : Int)) = false := decide_eq_false c4
     clear c4
     obtain rfl := sj H
     go_wp2
     go_ret
     exact ⟨ER, KL HB⟩
 ·rw [if_neg c3] at H
  have c3b0 : ((l0.length : Int) == (l1.length : Int)) = false := beq_eq_false_iff_ne.mpr c3
  have c3b1 : ((l0.length : Int) != (l1.length : Int)) = true := bne_iff_ne.mpr c3
  have c3b2 : (l0.length == l1.length) = false := by first | simpa using c3 | (simp at c3 ⊢; omega)
  obtain rfl := sj H
  go_enter Tryz.func21, Tryz.ntmps21
  go_wp2
  go_ret
  exact ⟨ER, KL HB⟩
def laws_eqWorld.f (k : Nat) (a0_0 : Int) (l0_1 : List (S115)) (a0_2 : Int) (l0_3 : List (S108)) (l0_4 : List (S80)) (l0_5 : List (S80)) (a0_6 : Int) (l0_7 : List (S115)) (a0_8 : Int) (l0_9 : List (S108)) (l0_10 : List (S80)) (l0_11 : List (S80)) (l0_12 : List (S54)) (l0_13 : List (S87)) (l0_14 : List (S87)) (a1_0 : Int) (l1_1 : List (S115)) (a1_2 : Int) (l1_3 : List (S108)) (l1_4 : List (S80)) (l1_5 : List (S80)) (a1_6 : Int) (l1_7 : List (S115)) (a1_8 : Int) (l1_9 : List (S108)) (l1_10 : List (S80)) (l1_11 : List (S80)) (l1_12 : List (S54)) (l1_13 : List (S87)) (l1_14 : List (S87)) : Option (Bool) := (laws_eqGate.f k a0_0 l0_1 a0_2 l0_3 l0_4 l0_5 a1_0 l1_1 a1_2 l1_3 l1_4 l1_5).bind fun t103 => (if t103 = true then ((laws_eqGate.f k a0_6 l0_7 a0_8 l0_9 l0_10 l0_11 a1_6 l1_7 a1_8 l1_9 l1_10 l1_11).bind fun t104 => (if t104 = true then ((laws_eqAirS.f k l0_12 l1_12).bind fun t105 => (if t105 = true then ((laws_eqSentS.f k l0_13 l1_13).bind fun t106 => (if t106 = true then ((laws_eqSentS.f k l0_14 l1_14).bind fun t107 => (if t107 = true then (some true) else (some false))) else (some false))) else (some false))) else (some false))) else (some false))
theorem laws_eqWorld.calls (k : Nat) (bD : Int) (cH : Option Addr) (cI : Nat) (aR : List (S115)) (bE : Int) (cJ : Option Addr) (cK : Nat) (aS : List (S108)) (cL : Option Addr) (cM : Nat) (aT : List (S80)) (cN : Option Addr) (cO : Nat) (aU : List (S80)) (bH : Int) (cX : Option Addr) (cY : Nat) (aZ : List (S115)) (bI : Int) (cZ : Option Addr) (dA : Nat) (bA : List (S108)) (bJ : Option Addr) (bK : Nat) (aG : List (S80)) (bL : Option Addr) (bM : Nat) (aH : List (S80)) (bT : Option Addr) (bU : Nat) (aL : List (S54)) (bX : Option Addr) (bY : Nat) (aN : List (S87)) (cD : Option Addr) (cE : Nat) (aP : List (S87)) (bF : Int) (cP : Option Addr) (cQ : Nat) (aV : List (S115)) (bG : Int) (cR : Option Addr) (cS : Nat) (aW : List (S108)) (cT : Option Addr) (cU : Nat) (aX : List (S80)) (cV : Option Addr) (cW : Nat) (aY : List (S80)) (bN : Int) (dB : Option Addr) (dC : Nat) (bB : List (S115)) (bO : Int) (dD : Option Addr) (dE : Nat) (bC : List (S108)) (bP : Option Addr) (bQ : Nat) (aI : List (S80)) (bR : Option Addr) (bS : Nat) (aJ : List (S80)) (bV : Option Addr) (bW : Nat) (aM : List (S54)) (bZ : Option Addr) (cA : Nat) (aO : List (S87)) (cF : Option Addr) (cG : Nat) (aQ : List (S87)) (r : Bool) (w : World) (fY : Kd.C k115 w cH aR.length aR) (fZ : aR.length ≤ cI) (gA : Kd.C k108 w cJ aS.length aS) (gB : aS.length ≤ cK) (gC : Kd.C k80 w cL aT.length aT) (gD : aT.length ≤ cM) (gE : Kd.C k80 w cN aU.length aU) (gF : aU.length ≤ cO) (gG : Kd.C k115 w cX aZ.length aZ) (gH : aZ.length ≤ cY) (gI : Kd.C k108 w cZ bA.length bA) (gJ : bA.length ≤ dA) (eZ : Kd.C k80 w bJ aG.length aG) (fA : aG.length ≤ bK) (fB : Kd.C k80 w bL aH.length aH) (fC : aH.length ≤ bM) (fD : Kd.C k54 w bT aL.length aL) (fE : aL.length ≤ bU) (fF : Kd.C k87 w bX aN.length aN) (fG : aN.length ≤ bY) (fH : Kd.C k87 w cD aP.length aP) (fI : aP.length ≤ cE) (gK : Kd.C k115 w cP aV.length aV) (gL : aV.length ≤ cQ) (gM : Kd.C k108 w cR aW.length aW) (gN : aW.length ≤ cS) (gO : Kd.C k80 w cT aX.length aX) (gP : aX.length ≤ cU) (gQ : Kd.C k80 w cV aY.length aY) (gR : aY.length ≤ cW) (gS : Kd.C k115 w dB bB.length bB) (gT : bB.length ≤ dC) (gU : Kd.C k108 w dD bC.length bC) (gV : bC.length ≤ dE) (fJ : Kd.C k80 w bP aI.length aI) (fK : aI.length ≤ bQ) (fL : Kd.C k80 w bR aJ.length aJ) (fM : aJ.length ≤ bS) (fN : Kd.C k54 w bV aM.length aM) (fO : aM.length ≤ bW) (fP : Kd.C k87 w bZ aO.length aO) (fQ : aO.length ≤ cA) (fR : Kd.C k87 w cF aQ.length aQ) (fS : aQ.length ≤ cG) (h : laws_eqWorld.f k bD aR bE aS aT aU bH aZ bI bA aG aH aL aN aP bF aV bG aW aX aY bN bB bO bC aI aJ aM aO aQ = some r) :
  Calls Tryz.prog 8 #[.agg #[.int .i64 bD, .slice cH aR.length cI, .int .i64 bE, .slice cJ aS.length cK, .slice cL aT.length cM, .slice cN aU.length cO, .int .i64 bH, .slice cX aZ.length cY, .int .i64 bI, .slice cZ bA.length dA, .slice bJ aG.length bK, .slice bL aH.length bM, .slice bT aL.length bU, .slice bX aN.length bY, .slice cD aP.length cE], .agg #[.int .i64 bF, .slice cP aV.length cQ, .int .i64 bG, .slice cR aW.length cS, .slice cT aX.length cU, .slice cV aY.length cW, .int .i64 bN, .slice dB bB.length dC, .int .i64 bO, .slice dD bC.length dE, .slice bP aI.length bQ, .slice bR aJ.length bS, .slice bV aM.length bW, .slice bZ aO.length cA, .slice cF aQ.length cG]] w fun e w' => e = .returned (.bool r) ∧ Below w.heap.size w w' := by
 have hu45 := Tryz.underlying45
 have hu41 := Tryz.underlying41
 have dP := Aside0.mk fY
 have dQ := Aside0.mk fZ
 clear fY fZ
 have dR := Aside0.mk gA
 have dS := Aside0.mk gB
 clear gA gB
 have dT := Aside0.mk gC
 have dU := Aside0.mk gD
 clear gC gD
 have dV := Aside0.mk gE
 have dW := Aside0.mk gF
 clear gE gF
 have eJ := Aside0.mk gG
 have eK := Aside0.mk gH
 clear gG gH
 have eL := Aside0.mk gI
 have eM := Aside0.mk gJ
 clear gI gJ
 have dG := Aside0.mk eZ
 have dH := Aside0.mk fA
 clear eZ fA
 have dI := Aside0.mk fB
 have dJ := Aside0.mk fC
 clear fB fC
 have eF := Aside0.mk fD
 have eG := Aside0.mk fE
 clear fD fE
 have eU := Aside0.mk fF
 have eV := Aside0.mk fG
 clear fF fG
 have fT := Aside0.mk fH
 have fU := Aside0.mk fI
 clear fH fI
 have dX := Aside0.mk gK
 have dY := Aside0.mk gL
 clear gK gL
 have dZ := Aside0.mk gM
 have eA := Aside0.mk gN
 clear gM gN
 have eB := Aside0.mk gO
 have eC := Aside0.mk gP
 clear gO gP
 have eD := Aside0.mk gQ
 have eE := Aside0.mk gR
 clear gQ gR
 have eN := Aside0.mk gS
 have eO := Aside0.mk gT
 clear gS gT
 have eP := Aside0.mk gU
 have eQ := Aside0.mk gV
 clear gU gV
 have dK := Aside0.mk fJ
 have dL := Aside0.mk fK
 clear fJ fK
 have dM := Aside0.mk fL
 have dN := Aside0.mk fM
 clear fL fM
 have eH := Aside0.mk fN
 have eI := Aside0.mk fO
 clear fN fO
 have eW := Aside0.mk fP
 have eX := Aside0.mk fQ
 clear fP fQ
 have fV := Aside0.mk fR
 have fW := Aside0.mk fS
 clear fR fS
 have HB := am (Below.refl w.heap.size w)
 have H : ((laws_eqGate.f k bD aR bE aS aT aU bF aV bG aW aX aY).bind fun fX => (if fX = true then ((laws_eqGate.f k bH aZ bI bA aG aH bN bB bO bC aI aJ).bind fun eY => (if eY = true then ((laws_eqAirS.f k aL aM).bind fun eR => (if eR = true then ((laws_eqSentS.f k aN aO).bind fun dO => (if dO = true then ((laws_eqSentS.f k aP aQ).bind fun dF => (if dF = true then (some true) else (some false))) else (some false))) else (some false))) else (some false))) else (some false))) = some r := h
 clear h
 replace H := bm H
 obtain ⟨fX, A30, H⟩ := H
 replace H : (if fX = true then ((laws_eqGate.f k bH aZ bI bA aG aH bN bB bO bC aI aJ).bind fun eY => (if eY = true then ((laws_eqAirS.f k aL aM).bind fun eR => (if eR = true then ((laws_eqSentS.f k aN aO).bind fun dO => (if dO = true then ((laws_eqSentS.f k aP aQ).bind fun dF => (if dF = true then (some true) else (some false))) else (some false))) else (some false))) else (some false))) else (some false)) = some r := H
 have A3 := Aside0.mk A30
 clear A30
 by_cases c4 : fX = true
 ·subst c4
  have H1 := pf H
  clear H
  have H := H1
  clear H1
  replace H := bm H
  obtain ⟨eY, A50, H⟩ := H
  replace H : (if eY = true then ((laws_eqAirS.f k aL aM).bind fun eR => (if eR = true then ((laws_eqSentS.f k aN aO).bind fun dO => (if dO = true then ((laws_eqSentS.f k aP aQ).bind fun dF => (if dF = true then (some true) else (some false))) else (some false))) else (some false))) else (some false)) = some r := H
  have A5 := Aside0.mk A50
  clear A50
  by_cases c6 : eY = true
  ·subst c6
   have H1 := pf H
   clear H
   have H := H1
   clear H1
   replace H := bm H
   obtain ⟨eR, A70, H⟩ := H
   replace H : (if eR = true then ((laws_eqSentS.f k aN aO).bind fun dO => (if dO = true then ((laws_eqSentS.f k aP aQ).bind fun dF => (if dF = true then (some true) else (some false))) else (some false))) else (some false)) = some r := H
   have A7 := Aside0.mk A70
   clear A70
   by_cases c8 : eR = true
   ·subst c8
    have H1 := pf H
    clear H
    have H := H1
    clear H1
    replace H := bm H
    obtain ⟨dO, A90, H⟩ := H
    replace H : (if dO = true then ((laws_eqSentS.f k aP aQ).bind fun dF => (if dF = true then (some true) else (some false))) else (some false)) = some r := H
    have A9 := Aside0.mk A90
    clear A90
    by_cases oP : dO = true
    ·subst oP
     have H1 := pf H
     clear H
     have H := H1
     clear H1
     replace H := bm H
     obtain ⟨dF, gW, H⟩ := H
     replace H : (if dF = true then (some true) else (some false)) = some r := H
     have A11 := Aside0.mk gW
     clear gW
     by_cases oQ : dF = true
     ·subst oQ
      have H1 := pf H
      clear H
      have H := H1
      clear H1
      obtain rfl := sj H
      go_enter Tryz.func8, Tryz.ntmps8
      go_wp2_with (first | ((with_reducible refine gate_dst (N := 2) rfl ?_); refine box_event rfl (N := 2) rfl (cs := #[.int .i64 bD, .slice cH aR.length cI, .int .i64 bE, .slice cJ aS.length cK, .slice cL aT.length cM, .slice cN aU.length cO, .int .i64 bH, .slice cX aZ.length cY, .int .i64 bI, .slice cZ bA.length dA, .slice bJ aG.length bK, .slice bL aH.length bM, .slice bT aL.length bU, .slice bX aN.length bY, .slice cD aP.length cE]) (t := 45) BX ?_; intro eS hg w13 aK hb; have aA := am (aK); have cB := am (GH HB hg); have aC := cB; replace HB := bl (KL HB) hb; clear hb aK hg) | ((with_reducible refine gate_dst (N := 3) rfl ?_); refine box_event rfl (N := 3) rfl (cs := #[.int .i64 bF, .slice cP aV.length cQ, .int .i64 bG, .slice cR aW.length cS, .slice cT aX.length cU, .slice cV aY.length cW, .int .i64 bN, .slice dB bB.length dC, .int .i64 bO, .slice dD bC.length dE, .slice bP aI.length bQ, .slice bR aJ.length bS, .slice bV aM.length bW, .slice bZ aO.length cA, .slice cF aQ.length cG]) (t := 45) BX ?_; intro eT hg w14 aK hb; have aB := am (aK); have cC := am (GH1 HB aC.out hg); have aD := cC; replace HB := bl (K1 HB aC.out) hb; have aE := am (NL aA hg); have aF := am (NG aA hg); replace aA := am (BB aA hb); clear hb aK hg; have hnb15 := aE.out; have hnc15 := aF.out; have ⟨_, _, _, _, _, _, _, _, _, _, _, _, _, _, _, _⟩ := y15 w14 aA.out; have ⟨_, _, _, _, _, _, _, _, _, _, _, _, _, _, _, _⟩ := y15 w14 aB.out) | ((with_reducible refine gate_callee (f := 19) rfl ?_); refine goesL_ (some 9) rfl rfl Tryz.func19 (by kernel_rfl) rfl #[.agg #[.int .i64 bD, .slice cH aR.length cI, .int .i64 bE, .slice cJ aS.length cK, .slice cL aT.length cM, .slice cN aU.length cO], .agg #[.int .i64 bF, .slice cP aV.length cQ, .int .i64 bG, .slice cR aW.length cS, .slice cT aX.length cU, .slice cV aY.length cW]] rfl MT ?_; (with_reducible refine (laws_eqGate.calls k bD _ _ aR bE _ _ aS _ _ aT _ _ aU bF _ _ aV bG _ _ aW _ _ aX _ _ aY true _ ?_ ?_ ?_ ?_ ?_ ?_ ?_ ?_ ?_ ?_ ?_ ?_ ?_ ?_ ?_ ?_ A3.out).mono ?_); exact KD dP HB; exact dQ.out; exact KD dR HB; exact dS.out; exact KD dT HB; exact dU.out; exact KD dV HB; exact dW.out; exact KD dX HB; exact dY.out; exact KD dZ HB; exact eA.out; exact KD eB HB; exact eC.out; exact KD eD HB; exact eE.out; rintro e w18 ⟨rfl, hb⟩; refine ⟨_, rfl, ?_⟩; replace aA := am (BB aA hb); replace aB := am (BB aB hb); replace HB := bl (K2 HB aC.out aD.out) hb; (try clear hb); have ⟨_, _, _, _, _, _, _, _, _, _, _, _, _, _, _, _⟩ := y15 w18 aA.out; have ⟨_, _, _, _, _, _, _, _, _, _, _, _, _, _, _, _⟩ := y15 w18 aB.out) | ((with_reducible refine gate_callee (f := 19) rfl ?_); refine goesL_ (some 15) rfl rfl Tryz.func19 (by kernel_rfl) rfl #[.agg #[.int .i64 bH, .slice cX aZ.length cY, .int .i64 bI, .slice cZ bA.length dA, .slice bJ aG.length bK, .slice bL aH.length bM], .agg #[.int .i64 bN, .slice dB bB.length dC, .int .i64 bO, .slice dD bC.length dE, .slice bP aI.length bQ, .slice bR aJ.length bS]] rfl MT ?_; (with_reducible refine (laws_eqGate.calls k bH _ _ aZ bI _ _ bA _ _ aG _ _ aH bN _ _ bB bO _ _ bC _ _ aI _ _ aJ true _ ?_ ?_ ?_ ?_ ?_ ?_ ?_ ?_ ?_ ?_ ?_ ?_ ?_ ?_ ?_ ?_ A5.out).mono ?_); exact KD eJ HB; exact eK.out; exact KD eL HB; exact eM.out; exact KD dG HB; exact dH.out; exact KD dI HB; exact dJ.out; exact KD eN HB; exact eO.out; exact KD eP HB; exact eQ.out; exact KD dK HB; exact dL.out; exact KD dM HB; exact dN.out; rintro e w21 ⟨rfl, hb⟩; refine ⟨_, rfl, ?_⟩; replace aA := am (BB aA hb); replace aB := am (BB aB hb); replace HB := bl (K2 HB aC.out aD.out) hb; (try clear hb); have ⟨_, _, _, _, _, _, _, _, _, _, _, _, _, _, _, _⟩ := y15 w21 aA.out; have ⟨_, _, _, _, _, _, _, _, _, _, _, _, _, _, _, _⟩ := y15 w21 aB.out) | ((with_reducible refine gate_callee (f := 20) rfl ?_); refine goesL_ (some 21) rfl rfl Tryz.func20 (by kernel_rfl) rfl #[.slice bT aL.length bU, .slice bV aM.length bW] rfl MT ?_; (with_reducible refine (laws_eqAirS.calls k _ _ aL _ _ aM true _ ?_ ?_ ?_ ?_ A7.out).mono ?_); exact KD eF HB; exact eG.out; exact KD eH HB; exact eI.out; rintro e w24 ⟨rfl, hb⟩; refine ⟨_, rfl, ?_⟩; replace aA := am (BB aA hb); replace aB := am (BB aB hb); replace HB := bl (K2 HB aC.out aD.out) hb; (try clear hb); have ⟨_, _, _, _, _, _, _, _, _, _, _, _, _, _, _, _⟩ := y15 w24 aA.out; have ⟨_, _, _, _, _, _, _, _, _, _, _, _, _, _, _, _⟩ := y15 w24 aB.out) | ((with_reducible refine gate_callee (f := 21) rfl ?_); refine goesL_ (some 27) rfl rfl Tryz.func21 (by kernel_rfl) rfl #[.slice bX aN.length bY, .slice bZ aO.length cA] rfl MT ?_; (with_reducible refine (laws_eqSentS.calls k _ _ aN _ _ aO true _ ?_ ?_ ?_ ?_ A9.out).mono ?_); exact KD eU HB; exact eV.out; exact KD eW HB; exact eX.out; rintro e w27 ⟨rfl, hb⟩; refine ⟨_, rfl, ?_⟩; replace aA := am (BB aA hb); replace aB := am (BB aB hb); replace HB := bl (K2 HB aC.out aD.out) hb; (try clear hb); have ⟨_, _, _, _, _, _, _, _, _, _, _, _, _, _, _, _⟩ := y15 w27 aA.out; have ⟨_, _, _, _, _, _, _, _, _, _, _, _, _, _, _, _⟩ := y15 w27 aB.out) | ((with_reducible refine gate_callee (f := 21) rfl ?_); refine goesL_ (some 33) rfl rfl Tryz.func21 (by kernel_rfl) rfl #[.slice cD aP.length cE, .slice cF aQ.length cG] rfl MT ?_; (with_reducible refine (laws_eqSentS.calls k _ _ aP _ _ aQ true _ ?_ ?_ ?_ ?_ A11.out).mono ?_); exact KD fT HB; exact fU.out; exact KD fV HB; exact fW.out; rintro e w30 ⟨rfl, hb⟩; refine ⟨_, rfl, ?_⟩; replace aA := am (BB aA hb); replace aB := am (BB aB hb); replace HB := bl (K2 HB aC.out aD.out) hb; (try clear hb)))
      go_ret
      exact ⟨ER, K2 HB aC.out aD.out⟩
     ·replace oQ := Bool.eq_false_iff.mpr oQ
      subst oQ
      have H1 := nf H
      clear H
      have H := H1
      clear H1
      obtain rfl := sj H
      go_enter Tryz.func8, Tryz.ntmps8
      go_wp2_with (first | ((with_reducible refine gate_dst (N := 2) rfl ?_); refine box_event rfl (N := 2) rfl (cs := #[.int .i64 bD, .slice cH aR.length cI, .int .i64 bE, .slice cJ aS.length cK, .slice cL aT.length cM, .slice cN aU.length cO, .int .i64 bH, .slice cX aZ.length cY, .int .i64 bI, .slice cZ bA.length dA, .slice bJ aG.length bK, .slice bL aH.length bM, .slice bT aL.length bU, .slice bX aN.length bY, .slice cD aP.length cE]) (t := 45) BX ?_; intro eS hg w31 aK hb; have aA := am (aK); have cB := am (GH HB hg); have aC := cB; replace HB := bl (KL HB) hb; clear hb aK hg) | ((with_reducible refine gate_dst (N := 3) rfl ?_); refine box_event rfl (N := 3) rfl (cs := #[.int .i64 bF, .slice cP aV.length cQ, .int .i64 bG, .slice cR aW.length cS, .slice cT aX.length cU, .slice cV aY.length cW, .int .i64 bN, .slice dB bB.length dC, .int .i64 bO, .slice dD bC.length dE, .slice bP aI.length bQ, .slice bR aJ.length bS, .slice bV aM.length bW, .slice bZ aO.length cA, .slice cF aQ.length cG]) (t := 45) BX ?_; intro eT hg w32 aK hb; have aB := am (aK); have cC := am (GH1 HB aC.out hg); have aD := cC; replace HB := bl (K1 HB aC.out) hb; have aE := am (NL aA hg); have aF := am (NG aA hg); replace aA := am (BB aA hb); clear hb aK hg; have hnb33 := aE.out; have hnc33 := aF.out; have ⟨_, _, _, _, _, _, _, _, _, _, _, _, _, _, _, _⟩ := y15 w32 aA.out; have ⟨_, _, _, _, _, _, _, _, _, _, _, _, _, _, _, _⟩ := y15 w32 aB.out) | ((with_reducible refine gate_callee (f := 19) rfl ?_); refine goesL_ (some 9) rfl rfl Tryz.func19 (by kernel_rfl) rfl #[.agg #[.int .i64 bD, .slice cH aR.length cI, .int .i64 bE, .slice cJ aS.length cK, .slice cL aT.length cM, .slice cN aU.length cO], .agg #[.int .i64 bF, .slice cP aV.length cQ, .int .i64 bG, .slice cR aW.length cS, .slice cT aX.length cU, .slice cV aY.length cW]] rfl MT ?_; (with_reducible refine (laws_eqGate.calls k bD _ _ aR bE _ _ aS _ _ aT _ _ aU bF _ _ aV bG _ _ aW _ _ aX _ _ aY true _ ?_ ?_ ?_ ?_ ?_ ?_ ?_ ?_ ?_ ?_ ?_ ?_ ?_ ?_ ?_ ?_ A3.out).mono ?_); exact KD dP HB; exact dQ.out; exact KD dR HB; exact dS.out; exact KD dT HB; exact dU.out; exact KD dV HB; exact dW.out; exact KD dX HB; exact dY.out; exact KD dZ HB; exact eA.out; exact KD eB HB; exact eC.out; exact KD eD HB; exact eE.out; rintro e w36 ⟨rfl, hb⟩; refine ⟨_, rfl, ?_⟩; replace aA := am (BB aA hb); replace aB := am (BB aB hb); replace HB := bl (K2 HB aC.out aD.out) hb; (try clear hb); have ⟨_, _, _, _, _, _, _, _, _, _, _, _, _, _, _, _⟩ := y15 w36 aA.out; have ⟨_, _, _, _, _, _, _, _, _, _, _, _, _, _, _, _⟩ := y15 w36 aB.out) | ((with_reducible refine gate_callee (f := 19) rfl ?_); refine goesL_ (some 15) rfl rfl Tryz.func19 (by kernel_rfl) rfl #[.agg #[.int .i64 bH, .slice cX aZ.length cY, .int .i64 bI, .slice cZ bA.length dA, .slice bJ aG.length bK, .slice bL aH.length bM], .agg #[.int .i64 bN, .slice dB bB.length dC, .int .i64 bO, .slice dD bC.length dE, .slice bP aI.length bQ, .slice bR aJ.length bS]] rfl MT ?_; (with_reducible refine (laws_eqGate.calls k bH _ _ aZ bI _ _ bA _ _ aG _ _ aH bN _ _ bB bO _ _ bC _ _ aI _ _ aJ true _ ?_ ?_ ?_ ?_ ?_ ?_ ?_ ?_ ?_ ?_ ?_ ?_ ?_ ?_ ?_ ?_ A5.out).mono ?_); exact KD eJ HB; exact eK.out; exact KD eL HB; exact eM.out; exact KD dG HB; exact dH.out; exact KD dI HB; exact dJ.out; exact KD eN HB; exact eO.out; exact KD eP HB; exact eQ.out; exact KD dK HB; exact dL.out; exact KD dM HB; exact dN.out; rintro e w39 ⟨rfl, hb⟩; refine ⟨_, rfl, ?_⟩; replace aA := am (BB aA hb); replace aB := am (BB aB hb); replace HB := bl (K2 HB aC.out aD.out) hb; (try clear hb); have ⟨_, _, _, _, _, _, _, _, _, _, _, _, _, _, _, _⟩ := y15 w39 aA.out; have ⟨_, _, _, _, _, _, _, _, _, _, _, _, _, _, _, _⟩ := y15 w39 aB.out) | ((with_reducible refine gate_callee (f := 20) rfl ?_); refine goesL_ (some 21) rfl rfl Tryz.func20 (by kernel_rfl) rfl #[.slice bT aL.length bU, .slice bV aM.length bW] rfl MT ?_; (with_reducible refine (laws_eqAirS.calls k _ _ aL _ _ aM true _ ?_ ?_ ?_ ?_ A7.out).mono ?_); exact KD eF HB; exact eG.out; exact KD eH HB; exact eI.out; rintro e w42 ⟨rfl, hb⟩; refine ⟨_, rfl, ?_⟩; replace aA := am (BB aA hb); replace aB := am (BB aB hb); replace HB := bl (K2 HB aC.out aD.out) hb; (try clear hb); have ⟨_, _, _, _, _, _, _, _, _, _, _, _, _, _, _, _⟩ := y15 w42 aA.out; have ⟨_, _, _, _, _, _, _, _, _, _, _, _, _, _, _, _⟩ := y15 w42 aB.out) | ((with_reducible refine gate_callee (f := 21) rfl ?_); refine goesL_ (some 27) rfl rfl Tryz.func21 (by kernel_rfl) rfl #[.slice bX aN.length bY, .slice bZ aO.length cA] rfl MT ?_; (with_reducible refine (laws_eqSentS.calls k _ _ aN _ _ aO true _ ?_ ?_ ?_ ?_ A9.out).mono ?_); exact KD eU HB; exact eV.out; exact KD eW HB; exact eX.out; rintro e w45 ⟨rfl, hb⟩; refine ⟨_, rfl, ?_⟩; replace aA := am (BB aA hb); replace aB := am (BB aB hb); replace HB := bl (K2 HB aC.out aD.out) hb; (try clear hb); have ⟨_, _, _, _, _, _, _, _, _, _, _, _, _, _, _, _⟩ := y15 w45 aA.out; have ⟨_, _, _, _, _, _, _, _, _, _, _, _, _, _, _, _⟩ := y15 w45 aB.out) | ((with_reducible refine gate_callee (f := 21) rfl ?_); refine goesL_ (some 33) rfl rfl Tryz.func21 (by kernel_rfl) rfl #[.slice cD aP.length cE, .slice cF aQ.length cG] rfl MT ?_; (with_reducible refine (laws_eqSentS.calls k _ _ aP _ _ aQ false _ ?_ ?_ ?_ ?_ A11.out).mono ?_); exact KD fT HB; exact fU.out; exact KD fV HB; exact fW.out; rintro e w48 ⟨rfl, hb⟩; refine ⟨_, rfl, ?_⟩; replace aA := am (BB aA hb); replace aB := am (BB aB hb); replace HB := bl (K2 HB aC.out aD.out) hb; (try clear hb)))
      go_ret
      exact ⟨ER, K2 HB aC.out aD.out⟩
    ·replace oP := Bool.eq_false_iff.mpr oP
     subst oP
     have H1 := nf H
     clear H
     have H := H1
     clear H1
     obtain rfl := sj H
     go_enter Tryz.func8, Tryz.ntmps8
     go_wp2_with (first | ((with_reducible refine gate_dst (N := 2) rfl ?_); refine box_event rfl (N := 2) rfl (cs := #[.int .i64 bD, .slice cH aR.length cI, .int .i64 bE, .slice cJ aS.length cK, .slice cL aT.length cM, .slice cN aU.length cO, .int .i64 bH, .slice cX aZ.length cY, .int .i64 bI, .slice cZ bA.length dA, .slice bJ aG.length bK, .slice bL aH.length bM, .slice bT aL.length bU, .slice bX aN.length bY, .slice cD aP.length cE]) (t := 45) BX ?_; intro eS hg w49 aK hb; have aA := am (aK); have cB := am (GH HB hg); have aC := cB; replace HB := bl (KL HB) hb; clear hb aK hg) | ((with_reducible refine gate_dst (N := 3) rfl ?_); refine box_event rfl (N := 3) rfl (cs := #[.int .i64 bF, .slice cP aV.length cQ, .int .i64 bG, .slice cR aW.length cS, .slice cT aX.length cU, .slice cV aY.length cW, .int .i64 bN, .slice dB bB.length dC, .int .i64 bO, .slice dD bC.length dE, .slice bP aI.length bQ, .slice bR aJ.length bS, .slice bV aM.length bW, .slice bZ aO.length cA, .slice cF aQ.length cG]) (t := 45) BX ?_; intro eT hg w50 aK hb; have aB := am (aK); have cC := am (GH1 HB aC.out hg); have aD := cC; replace HB := bl (K1 HB aC.out) hb; have aE := am (NL aA hg); have aF := am (NG aA hg); replace aA := am (BB aA hb); clear hb aK hg; have hnb51 := aE.out; have hnc51 := aF.out; have ⟨_, _, _, _, _, _, _, _, _, _, _, _, _, _, _, _⟩ := y15 w50 aA.out; have ⟨_, _, _, _, _, _, _, _, _, _, _, _, _, _, _, _⟩ := y15 w50 aB.out) | ((with_reducible refine gate_callee (f := 19) rfl ?_); refine goesL_ (some 9) rfl rfl Tryz.func19 (by kernel_rfl) rfl #[.agg #[.int .i64 bD, .slice cH aR.length cI, .int .i64 bE, .slice cJ aS.length cK, .slice cL aT.length cM, .slice cN aU.length cO], .agg #[.int .i64 bF, .slice cP aV.length cQ, .int .i64 bG, .slice cR aW.length cS, .slice cT aX.length cU, .slice cV aY.length cW]] rfl MT ?_; (with_reducible refine (laws_eqGate.calls k bD _ _ aR bE _ _ aS _ _ aT _ _ aU bF _ _ aV bG _ _ aW _ _ aX _ _ aY true _ ?_ ?_ ?_ ?_ ?_ ?_ ?_ ?_ ?_ ?_ ?_ ?_ ?_ ?_ ?_ ?_ A3.out).mono ?_); exact KD dP HB; exact dQ.out; exact KD dR HB; exact dS.out; exact KD dT HB; exact dU.out; exact KD dV HB; exact dW.out; exact KD dX HB; exact dY.out; exact KD dZ HB; exact eA.out; exact KD eB HB; exact eC.out; exact KD eD HB; exact eE.out; rintro e w54 ⟨rfl, hb⟩; refine ⟨_, rfl, ?_⟩; replace aA := am (BB aA hb); replace aB := am (BB aB hb); replace HB := bl (K2 HB aC.out aD.out) hb; (try clear hb); have ⟨_, _, _, _, _, _, _, _, _, _, _, _, _, _, _, _⟩ := y15 w54 aA.out; have ⟨_, _, _, _, _, _, _, _, _, _, _, _, _, _, _, _⟩ := y15 w54 aB.out) | ((with_reducible refine gate_callee (f := 19) rfl ?_); refine goesL_ (some 15) rfl rfl Tryz.func19 (by kernel_rfl) rfl #[.agg #[.int .i64 bH, .slice cX aZ.length cY, .int .i64 bI, .slice cZ bA.length dA, .slice bJ aG.length bK, .slice bL aH.length bM], .agg #[.int .i64 bN, .slice dB bB.length dC, .int .i64 bO, .slice dD bC.length dE, .slice bP aI.length bQ, .slice bR aJ.length bS]] rfl MT ?_; (with_reducible refine (laws_eqGate.calls k bH _ _ aZ bI _ _ bA _ _ aG _ _ aH bN _ _ bB bO _ _ bC _ _ aI _ _ aJ true _ ?_ ?_ ?_ ?_ ?_ ?_ ?_ ?_ ?_ ?_ ?_ ?_ ?_ ?_ ?_ ?_ A5.out).mono ?_); exact KD eJ HB; exact eK.out; exact KD eL HB; exact eM.out; exact KD dG HB; exact dH.out; exact KD dI HB; exact dJ.out; exact KD eN HB; exact eO.out; exact KD eP HB; exact eQ.out; exact KD dK HB; exact dL.out; exact KD dM HB; exact dN.out; rintro e w57 ⟨rfl, hb⟩; refine ⟨_, rfl, ?_⟩; replace aA := am (BB aA hb); replace aB := am (BB aB hb); replace HB := bl (K2 HB aC.out aD.out) hb; (try clear hb); have ⟨_, _, _, _, _, _, _, _, _, _, _, _, _, _, _, _⟩ := y15 w57 aA.out; have ⟨_, _, _, _, _, _, _, _, _, _, _, _, _, _, _, _⟩ := y15 w57 aB.out) | ((with_reducible refine gate_callee (f := 20) rfl ?_); refine goesL_ (some 21) rfl rfl Tryz.func20 (by kernel_rfl) rfl #[.slice bT aL.length bU, .slice bV aM.length bW] rfl MT ?_; (with_reducible refine (laws_eqAirS.calls k _ _ aL _ _ aM true _ ?_ ?_ ?_ ?_ A7.out).mono ?_); exact KD eF HB; exact eG.out; exact KD eH HB; exact eI.out; rintro e w60 ⟨rfl, hb⟩; refine ⟨_, rfl, ?_⟩; replace aA := am (BB aA hb); replace aB := am (BB aB hb); replace HB := bl (K2 HB aC.out aD.out) hb; (try clear hb); have ⟨_, _, _, _, _, _, _, _, _, _, _, _, _, _, _, _⟩ := y15 w60 aA.out; have ⟨_, _, _, _, _, _, _, _, _, _, _, _, _, _, _, _⟩ := y15 w60 aB.out) | ((with_reducible refine gate_callee (f := 21) rfl ?_); refine goesL_ (some 27) rfl rfl Tryz.func21 (by kernel_rfl) rfl #[.slice bX aN.length bY, .slice bZ aO.length cA] rfl MT ?_; (with_reducible refine (laws_eqSentS.calls k _ _ aN _ _ aO false _ ?_ ?_ ?_ ?_ A9.out).mono ?_); exact KD eU HB; exact eV.out; exact KD eW HB; exact eX.out; rintro e w63 ⟨rfl, hb⟩; refine ⟨_, rfl, ?_⟩; replace aA := am (BB aA hb); replace aB := am (BB aB hb); replace HB := bl (K2 HB aC.out aD.out) hb; (try clear hb)))
     go_ret
     exact ⟨ER, K2 HB aC.out aD.out⟩
   ·replace c8 := Bool.eq_false_iff.mpr c8
    subst c8
    have H1 := nf H
    clear H
    have H := H1
    clear H1
    obtain rfl := sj H
    go_enter Tryz.func8, Tryz.ntmps8
    go_wp2_with (first | ((with_reducible refine gate_dst (N := 2) rfl ?_); refine box_event rfl (N := 2) rfl (cs := #[.int .i64 bD, .slice cH aR.length cI, .int .i64 bE, .slice cJ aS.length cK, .slice cL aT.length cM, .slice cN aU.length cO, .int .i64 bH, .slice cX aZ.length cY, .int .i64 bI, .slice cZ bA.length dA, .slice bJ aG.length bK, .slice bL aH.length bM, .slice bT aL.length bU, .slice bX aN.length bY, .slice cD aP.length cE]) (t := 45) BX ?_; intro eS hg w64 aK hb; have aA := am (aK); have cB := am (GH HB hg); have aC := cB; replace HB := bl (KL HB) hb; clear hb aK hg) | ((with_reducible refine gate_dst (N := 3) rfl ?_); refine box_event rfl (N := 3) rfl (cs := #[.int .i64 bF, .slice cP aV.length cQ, .int .i64 bG, .slice cR aW.length cS, .slice cT aX.length cU, .slice cV aY.length cW, .int .i64 bN, .slice dB bB.length dC, .int .i64 bO, .slice dD bC.length dE, .slice bP aI.length bQ, .slice bR aJ.length bS, .slice bV aM.length bW, .slice bZ aO.length cA, .slice cF aQ.length cG]) (t := 45) BX ?_; intro eT hg w65 aK hb; have aB := am (aK); have cC := am (GH1 HB aC.out hg); have aD := cC; replace HB := bl (K1 HB aC.out) hb; have aE := am (NL aA hg); have aF := am (NG aA hg); replace aA := am (BB aA hb); clear hb aK hg; have hnb66 := aE.out; have hnc66 := aF.out; have ⟨_, _, _, _, _, _, _, _, _, _, _, _, _, _, _, _⟩ := y15 w65 aA.out; have ⟨_, _, _, _, _, _, _, _, _, _, _, _, _, _, _, _⟩ := y15 w65 aB.out) | ((with_reducible refine gate_callee (f := 19) rfl ?_); refine goesL_ (some 9) rfl rfl Tryz.func19 (by kernel_rfl) rfl #[.agg #[.int .i64 bD, .slice cH aR.length cI, .int .i64 bE, .slice cJ aS.length cK, .slice cL aT.length cM, .slice cN aU.length cO], .agg #[.int .i64 bF, .slice cP aV.length cQ, .int .i64 bG, .slice cR aW.length cS, .slice cT aX.length cU, .slice cV aY.length cW]] rfl MT ?_; (with_reducible refine (laws_eqGate.calls k bD _ _ aR bE _ _ aS _ _ aT _ _ aU bF _ _ aV bG _ _ aW _ _ aX _ _ aY true _ ?_ ?_ ?_ ?_ ?_ ?_ ?_ ?_ ?_ ?_ ?_ ?_ ?_ ?_ ?_ ?_ A3.out).mono ?_); exact KD dP HB; exact dQ.out; exact KD dR HB; exact dS.out; exact KD dT HB; exact dU.out; exact KD dV HB; exact dW.out; exact KD dX HB; exact dY.out; exact KD dZ HB; exact eA.out; exact KD eB HB; exact eC.out; exact KD eD HB; exact eE.out; rintro e w69 ⟨rfl, hb⟩; refine ⟨_, rfl, ?_⟩; replace aA := am (BB aA hb); replace aB := am (BB aB hb); replace HB := bl (K2 HB aC.out aD.out) hb; (try clear hb); have ⟨_, _, _, _, _, _, _, _, _, _, _, _, _, _, _, _⟩ := y15 w69 aA.out; have ⟨_, _, _, _, _, _, _, _, _, _, _, _, _, _, _, _⟩ := y15 w69 aB.out) | ((with_reducible refine gate_callee (f := 19) rfl ?_); refine goesL_ (some 15) rfl rfl Tryz.func19 (by kernel_rfl) rfl #[.agg #[.int .i64 bH, .slice cX aZ.length cY, .int .i64 bI, .slice cZ bA.length dA, .slice bJ aG.length bK, .slice bL aH.length bM], .agg #[.int .i64 bN, .slice dB bB.length dC, .int .i64 bO, .slice dD bC.length dE, .slice bP aI.length bQ, .slice bR aJ.length bS]] rfl MT ?_; (with_reducible refine (laws_eqGate.calls k bH _ _ aZ bI _ _ bA _ _ aG _ _ aH bN _ _ bB bO _ _ bC _ _ aI _ _ aJ true _ ?_ ?_ ?_ ?_ ?_ ?_ ?_ ?_ ?_ ?_ ?_ ?_ ?_ ?_ ?_ ?_ A5.out).mono ?_); exact KD eJ HB; exact eK.out; exact KD eL HB; exact eM.out; exact KD dG HB; exact dH.out; exact KD dI HB; exact dJ.out; exact KD eN HB; exact eO.out; exact KD eP HB; exact eQ.out; exact KD dK HB; exact dL.out; exact KD dM HB; exact dN.out; rintro e w72 ⟨rfl, hb⟩; refine ⟨_, rfl, ?_⟩; replace aA := am (BB aA hb); replace aB := am (BB aB hb); replace HB := bl (K2 HB aC.out aD.out) hb; (try clear hb); have ⟨_, _, _, _, _, _, _, _, _, _, _, _, _, _, _, _⟩ := y15 w72 aA.out; have ⟨_, _, _, _, _, _, _, _, _, _, _, _, _, _, _, _⟩ := y15 w72 aB.out) | ((with_reducible refine gate_callee (f := 20) rfl ?_); refine goesL_ (some 21) rfl rfl Tryz.func20 (by kernel_rfl) rfl #[.slice bT aL.length bU, .slice bV aM.length bW] rfl MT ?_; (with_reducible refine (laws_eqAirS.calls k _ _ aL _ _ aM false _ ?_ ?_ ?_ ?_ A7.out).mono ?_); exact KD eF HB; exact eG.out; exact KD eH HB; exact eI.out; rintro e w75 ⟨rfl, hb⟩; refine ⟨_, rfl, ?_⟩; replace aA := am (BB aA hb); replace aB := am (BB aB hb); replace HB := bl (K2 HB aC.out aD.out) hb; (try clear hb)))
    go_ret
    exact ⟨ER, K2 HB aC.out aD.out⟩
  ·replace c6 := Bool.eq_false_iff.mpr c6
   subst c6
   have H1 := nf H
   clear H
   have H := H1
   clear H1
   obtain rfl := sj H
   go_enter Tryz.func8, Tryz.ntmps8
   go_wp2_with (first | ((with_reducible refine gate_dst (N := 2) rfl ?_); refine box_event rfl (N := 2) rfl (cs := #[.int .i64 bD, .slice cH aR.length cI, .int .i64 bE, .slice cJ aS.length cK, .slice cL aT.length cM, .slice cN aU.length cO, .int .i64 bH, .slice cX aZ.length cY, .int .i64 bI, .slice cZ bA.length dA, .slice bJ aG.length bK, .slice bL aH.length bM, .slice bT aL.length bU, .slice bX aN.length bY, .slice cD aP.length cE]) (t := 45) BX ?_; intro eS hg w76 aK hb; have aA := am (aK); have cB := am (GH HB hg); have aC := cB; replace HB := bl (KL HB) hb; clear hb aK hg) | ((with_reducible refine gate_dst (N := 3) rfl ?_); refine box_event rfl (N := 3) rfl (cs := #[.int .i64 bF, .slice cP aV.length cQ, .int .i64 bG, .slice cR aW.length cS, .slice cT aX.length cU, .slice cV aY.length cW, .int .i64 bN, .slice dB bB.length dC, .int .i64 bO, .slice dD bC.length dE, .slice bP aI.length bQ, .slice bR aJ.length bS, .slice bV aM.length bW, .slice bZ aO.length cA, .slice cF aQ.length cG]) (t := 45) BX ?_; intro eT hg w77 aK hb; have aB := am (aK); have cC := am (GH1 HB aC.out hg); have aD := cC; replace HB := bl (K1 HB aC.out) hb; have aE := am (NL aA hg); have aF := am (NG aA hg); replace aA := am (BB aA hb); clear hb aK hg; have hnb78 := aE.out; have hnc78 := aF.out; have ⟨_, _, _, _, _, _, _, _, _, _, _, _, _, _, _, _⟩ := y15 w77 aA.out; have ⟨_, _, _, _, _, _, _, _, _, _, _, _, _, _, _, _⟩ := y15 w77 aB.out) | ((with_reducible refine gate_callee (f := 19) rfl ?_); refine goesL_ (some 9) rfl rfl Tryz.func19 (by kernel_rfl) rfl #[.agg #[.int .i64 bD, .slice cH aR.length cI, .int .i64 bE, .slice cJ aS.length cK, .slice cL aT.length cM, .slice cN aU.length cO], .agg #[.int .i64 bF, .slice cP aV.length cQ, .int .i64 bG, .slice cR aW.length cS, .slice cT aX.length cU, .slice cV aY.length cW]] rfl MT ?_; (with_reducible refine (laws_eqGate.calls k bD _ _ aR bE _ _ aS _ _ aT _ _ aU bF _ _ aV bG _ _ aW _ _ aX _ _ aY true _ ?_ ?_ ?_ ?_ ?_ ?_ ?_ ?_ ?_ ?_ ?_ ?_ ?_ ?_ ?_ ?_ A3.out).mono ?_); exact KD dP HB; exact dQ.out; exact KD dR HB; exact dS.out; exact KD dT HB; exact dU.out; exact KD dV HB; exact dW.out; exact KD dX HB; exact dY.out; exact KD dZ HB; exact eA.out; exact KD eB HB; exact eC.out; exact KD eD HB; exact eE.out; rintro e w81 ⟨rfl, hb⟩; refine ⟨_, rfl, ?_⟩; replace aA := am (BB aA hb); replace aB := am (BB aB hb); replace HB := bl (K2 HB aC.out aD.out) hb; (try clear hb); have ⟨_, _, _, _, _, _, _, _, _, _, _, _, _, _, _, _⟩ := y15 w81 aA.out; have ⟨_, _, _, _, _, _, _, _, _, _, _, _, _, _, _, _⟩ := y15 w81 aB.out) | ((with_reducible refine gate_callee (f := 19) rfl ?_); refine goesL_ (some 15) rfl rfl Tryz.func19 (by kernel_rfl) rfl #[.agg #[.int .i64 bH, .slice cX aZ.length cY, .int .i64 bI, .slice cZ bA.length dA, .slice bJ aG.length bK, .slice bL aH.length bM], .agg #[.int .i64 bN, .slice dB bB.length dC, .int .i64 bO, .slice dD bC.length dE, .slice bP aI.length bQ, .slice bR aJ.length bS]] rfl MT ?_; (with_reducible refine (laws_eqGate.calls k bH _ _ aZ bI _ _ bA _ _ aG _ _ aH bN _ _ bB bO _ _ bC _ _ aI _ _ aJ false _ ?_ ?_ ?_ ?_ ?_ ?_ ?_ ?_ ?_ ?_ ?_ ?_ ?_ ?_ ?_ ?_ A5.out).mono ?_); exact KD eJ HB; exact eK.out; exact KD eL HB; exact eM.out; exact KD dG HB; exact dH.out; exact KD dI HB; exact dJ.out; exact KD eN HB; exact eO.out; exact KD eP HB; exact eQ.out; exact KD dK HB; exact dL.out; exact KD dM HB; exact dN.out; rintro e w84 ⟨rfl, hb⟩; refine ⟨_, rfl, ?_⟩; replace aA := am (BB aA hb); replace aB := am (BB aB hb); replace HB := bl (K2 HB aC.out aD.out) hb; (try clear hb)))
   go_ret
   exact ⟨ER, K2 HB aC.out aD.out⟩
 ·replace c4 := Bool.eq_false_iff.mpr c4
  subst c4
  have H1 := nf H
  clear H
  have H := H1
  clear H1
  obtain rfl := sj H
  go_enter Tryz.func8, Tryz.ntmps8
  go_wp2_with (first | ((with_reducible refine gate_dst (N := 2) rfl ?_); refine box_event rfl (N := 2) rfl (cs := #[.int .i64 bD, .slice cH aR.length cI, .int .i64 bE, .slice cJ aS.length cK, .slice cL aT.length cM, .slice cN aU.length cO, .int .i64 bH, .slice cX aZ.length cY, .int .i64 bI, .slice cZ bA.length dA, .slice bJ aG.length bK, .slice bL aH.length bM, .slice bT aL.length bU, .slice bX aN.length bY, .slice cD aP.length cE]) (t := 45) BX ?_; intro eS hg w85 aK hb; have aA := am (aK); have cB := am (GH HB hg); have aC := cB; replace HB := bl (KL HB) hb; clear hb aK hg) | ((with_reducible refine gate_dst (N := 3) rfl ?_); refine box_event rfl (N := 3) rfl (cs := #[.int .i64 bF, .slice cP aV.length cQ, .int .i64 bG, .slice cR aW.length cS, .slice cT aX.length cU, .slice cV aY.length cW, .int .i64 bN, .slice dB bB.length dC, .int .i64 bO, .slice dD bC.length dE, .slice bP aI.length bQ, .slice bR aJ.length bS, .slice bV aM.length bW, .slice bZ aO.length cA, .slice cF aQ.length cG]) (t := 45) BX ?_; intro eT hg w86 aK hb; have aB := am (aK); have cC := am (GH1 HB aC.out hg); have aD := cC; replace HB := bl (K1 HB aC.out) hb; have aE := am (NL aA hg); have aF := am (NG aA hg); replace aA := am (BB aA hb); clear hb aK hg; have hnb87 := aE.out; have hnc87 := aF.out; have ⟨_, _, _, _, _, _, _, _, _, _, _, _, _, _, _, _⟩ := y15 w86 aA.out; have ⟨_, _, _, _, _, _, _, _, _, _, _, _, _, _, _, _⟩ := y15 w86 aB.out) | ((with_reducible refine gate_callee (f := 19) rfl ?_); refine goesL_ (some 9) rfl rfl Tryz.func19 (by kernel_rfl) rfl #[.agg #[.int .i64 bD, .slice cH aR.length cI, .int .i64 bE, .slice cJ aS.length cK, .slice cL aT.length cM, .slice cN aU.length cO], .agg #[.int .i64 bF, .slice cP aV.length cQ, .int .i64 bG, .slice cR aW.length cS, .slice cT aX.length cU, .slice cV aY.length cW]] rfl MT ?_; (with_reducible refine (laws_eqGate.calls k bD _ _ aR bE _ _ aS _ _ aT _ _ aU bF _ _ aV bG _ _ aW _ _ aX _ _ aY false _ ?_ ?_ ?_ ?_ ?_ ?_ ?_ ?_ ?_ ?_ ?_ ?_ ?_ ?_ ?_ ?_ A3.out).mono ?_); exact KD dP HB; exact dQ.out; exact KD dR HB; exact dS.out; exact KD dT HB; exact dU.out; exact KD dV HB; exact dW.out; exact KD dX HB; exact dY.out; exact KD dZ HB; exact eA.out; exact KD eB HB; exact eC.out; exact KD eD HB; exact eE.out; rintro e w90 ⟨rfl, hb⟩; refine ⟨_, rfl, ?_⟩; replace aA := am (BB aA hb); replace aB := am (BB aB hb); replace HB := bl (K2 HB aC.out aD.out) hb; (try clear hb)))
  go_ret
  exact ⟨ER, K2 HB aC.out aD.out⟩
end Go.Proofs.YtohegganioifbaaGreat.PAll
end
