/- Contracts of the functions that the statement reaches. -/
import Derived.Test.YtmdegplkdgaebaaGreatCFnExactGateTick3
import Derived.Test.YtmdegplkdgaebaaGreatCFnExactGateTick4
set_option maxHeartbeats 8000000
set_option maxRecDepth 100000
section
namespace Go.Proofs.YtmdegplkdgaebaaGreat.PAll
open Go.RowKit Go.Proofs.YtmdegplkdgaebaaGreatW.PrintWords Go.Proofs.YtmdegplkdgaebaaGreatW.PrintLast Go.Proofs.YtmdegplkdgaebaaGreatW.PrintMore
attribute [local go_sem] max2_int min2_int max_two min_two max_three min_three max_four min_four
set_option linter.unusedVariables false
set_option linter.unusedSimpArgs false
def laws_eqIntS.l0 : Nat → List Int → List Int → Int → Option (Bool)
 | 0, _, _, _ => none
 | k + 1, x0, x1, x5 => if x5 < (x0.length : Int) then (if 0 ≤ x5 then (if x5 < (x1.length : Int) then (if (rd x0 x5) = (rd x1 x5) then (laws_eqIntS.l0 k x0 x1 (wrap64 (x5 + 1))) else (some false)) else (none)) else (none)) else (some true)
def laws_eqIntS.f (k : Nat) (l0 : List Int) (l1 : List Int) : Option (Bool) := if (l0.length : Int) = (l1.length : Int) then (laws_eqIntS.l0 k l0 l1 0) else (some false)
theorem laws_eqIntS.calls (k : Nat) (A0 : Option Addr) (c0 : Nat) (l0 : List Int) (A1 : Option Addr) (c1 : Nat) (l1 : List Int) (r : Bool) (w : World) (aL : Kd.C (Kd.int .i64) w A0 l0.length l0) (aM : l0.length ≤ c0) (aN : Kd.C (Kd.int .i64) w A1 l1.length l1) (aO : l1.length ≤ c1) (h : laws_eqIntS.f k l0 l1 = some r) :
  Calls Tryz.prog 98 #[.slice A0 l0.length c0, .slice A1 l1.length c1] w fun e w' => e = .returned (.bool r) ∧ Drawn0 w w' := by
 have aP := Aside0.mk aL
 have aR := Aside0.mk aM
 clear aL aM
 have aQ := Aside0.mk aN
 have aS := Aside0.mk aO
 clear aN aO
 have H : (if (l0.length : Int) = (l1.length : Int) then (laws_eqIntS.l0 k l0 l1 0) else (some false)) = some r := h
 clear h
 by_cases c3 : (l0.length : Int) = (l1.length : Int)
 ·rw [if_pos c3] at H
  have c3b0 : ((l0.length : Int) == (l1.length : Int)) = true := beq_iff_eq.mpr c3
  have c3b1 : ((l0.length : Int) != (l1.length : Int)) = false := bne_eq_false_iff_eq.mpr c3
  have c3b2 : (l0.length == l1.length) = true := by first | simpa using c3 | (simp at c3 ⊢; omega)
  clear c3
  have H' := Aside0.mk H
  clear H
  go_enter Tryz.func98, Tryz.ntmps98
  go_wp2
  repeat (go_quiet (fail); try go_wp2)
  go_loopg [5] k (fun kq v5 w' => ∃ (aA : Int), v5 = .int .i64 aA ∧ Aside0 (laws_eqIntS.l0 kq l0 l1 aA = some r) ∧ Aside0 (kq ≤ k) ∧ Drawn0 w w')
  case atStart => exact ⟨(0), (by first | rfl | (simp; done) | (simp [*]; done)), H', ⟨Nat.le_refl _⟩, by repeat (first | exact Drawn0.refl _ | apply Drawn0.step)⟩
  case round =>
   clear H'
   try clear c1
   try clear p2
   try clear c3
   try clear c3b0
   try clear c3b1
   try clear c3b2
   obtain ⟨aA, rfl, HA, HK1, ⟨m1, rfl⟩⟩ := hrel
   cases gk with
   | zero => exact absurd HA.out (by simp [laws_eqIntS.l0])
   | succ k1 =>
    have H := HA.out
    clear HA
    simp only [laws_eqIntS.l0] at H
    by_cases c4 : aA < (l0.length : Int)
    ·rw [if_pos c4] at H
     have c4b0 : decide (aA < (l0.length : Int)) = true := decide_eq_true c4
     clear c4
     by_cases c5 : 0 ≤ aA
     ·rw [if_pos c5] at H
      have c5b0 : decide (0 ≤ aA) = true := decide_eq_true c5
      clear c5
      by_cases c6 : aA < (l1.length : Int)
      ·rw [if_pos c6] at H
       have c6b0 : decide (aA < (l1.length : Int)) = true := decide_eq_true c6
       clear c6
       by_cases c7 : (rd l0 aA) = (rd l1 aA)
       ·rw [if_pos c7] at H
        have c7b0 : ((rd l0 aA) == (rd l1 aA)) = true := beq_iff_eq.mpr c7
        have c7b1 : ((rd l0 aA) != (rd l1 aA)) = false := bne_eq_false_iff_eq.mpr c7
        clear c7
        have H' := Aside0.mk H
        clear H
        have aB : 0 ≤ (aA : Int) := OD
        have aC : aA < (l0.length : Int) := OD
        obtain ⟨aJ, aH, aF⟩ := Kd.at_int aP.out aA aB aC
        cases aH
        replace aB := eq_true aB
        replace aC := eq_true aC
        have aD : 0 ≤ (aA : Int) := OD
        have aE : aA < (l1.length : Int) := OD
        obtain ⟨aK, aI, aG⟩ := Kd.at_int aQ.out aA aD aE
        cases aI
        replace aD := eq_true aD
        replace aE := eq_true aE
        go_wp2
        repeat (go_quiet (fail); try go_wp2)
        go_roundg k1
        case measure => have := HK1.out; omega
        case rel => exact ⟨(wrap64 (aA + 1)), (by first | rfl | (simp; done) | (simp [*]; done)), H', ⟨by have := HK1.out; omega⟩, by repeat (first | exact Drawn0.refl _ | apply Drawn0.step)⟩
       ·rw [if_neg c7] at H
        have c7b0 : ((rd l0 aA) == (rd l1 aA)) = false := beq_eq_false_iff_ne.mpr c7
        have c7b1 : ((rd l0 aA) != (rd l1 aA)) = true := bne_iff_ne.mpr c7
        obtain rfl := sj H
        have aB : 0 ≤ (aA : Int) := OD
        have aC : aA < (l0.length : Int) := OD
        obtain ⟨aJ, aH, aF⟩ := Kd.at_int aP.out aA aB aC
        cases aH
        replace aB := eq_true aB
        replace aC := eq_true aC
        have aD : 0 ≤ (aA : Int) := OD
        have aE : aA < (l1.length : Int) := OD
        obtain ⟨aK, aI, aG⟩ := Kd.at_int aQ.out aA aD aE
        cases aI
        replace aD := eq_true aD
        replace aE := eq_true aE
        go_wp2
        repeat (go_quiet (fail); try go_wp2)
        go_ret
        exact ⟨by first | rfl | (simp; done) | (simp [*]; done), by repeat (first | exact Drawn0.refl _ | apply Drawn0.step)⟩
      ·rw [if_neg c6] at H
       exact absurd H (by simp)
     ·rw [if_neg c5] at H
      exact absurd H (by simp)
    ·rw [if_neg c4] at H
     have c4b0 : decide (aA < (l0.length : Int)) = false := decide_eq_false c4
     clear c4
     obtain rfl := sj H
     go_wp2
     repeat (go_quiet (fail); try go_wp2)
     go_ret
     exact ⟨by first | rfl | (simp; done) | (simp [*]; done), by repeat (first | exact Drawn0.refl _ | apply Drawn0.step)⟩
 ·rw [if_neg c3] at H
  have c3b0 : ((l0.length : Int) == (l1.length : Int)) = false := beq_eq_false_iff_ne.mpr c3
  have c3b1 : ((l0.length : Int) != (l1.length : Int)) = true := bne_iff_ne.mpr c3
  have c3b2 : (l0.length == l1.length) = false := by first | simpa using c3 | (simp at c3 ⊢; omega)
  obtain rfl := sj H
  go_enter Tryz.func98, Tryz.ntmps98
  go_wp2
  repeat (go_quiet (fail); try go_wp2)
  go_ret
  exact ⟨by first | rfl | (simp; done) | (simp [*]; done), by repeat (first | exact Drawn0.refl _ | apply Drawn0.step)⟩
def laws_eqWindow.f (k : Nat) (a0_0 : Int) (l0_1 : List Int) (a1_0 : Int) (l1_1 : List Int) : Option (Bool) := if a0_0 = a1_0 then ((laws_eqIntS.f k l0_1 l1_1).bind fun t103 => (if t103 = true then (some true) else (some false))) else (some false)
theorem laws_eqWindow.calls (k : Nat) (aH : Int) (aN : Option Addr) (aO : Nat) (aF : List Int) (aI : Int) (aP : Option Addr) (aQ : Nat) (aG : List Int) (r : Bool) (w : World) (aS : Kd.C (Kd.int .i64) w aN aF.length aF) (aT : aF.length ≤ aO) (aU : Kd.C (Kd.int .i64) w aP aG.length aG) (aV : aG.length ≤ aQ) (h : laws_eqWindow.f k aH aF aI aG = some r) :
  Calls Tryz.prog 79 #[.agg #[.int .i64 aH, .slice aN aF.length aO], .agg #[.int .i64 aI, .slice aP aG.length aQ]] w fun e w' => e = .returned (.bool r) ∧ Below w.heap.size w w' := by
 have cB := Tryz.underlying48
 have aW := Aside0.mk aS
 have aX := Aside0.mk aT
 clear aS aT
 have aY := Aside0.mk aU
 have aZ := Aside0.mk aV
 clear aU aV
 have HB := am (Below.refl w.heap.size w)
 have H : (if aH = aI then ((laws_eqIntS.f k aF aG).bind fun aR => (if aR = true then (some true) else (some false))) else (some false)) = some r := h
 clear h
 by_cases c3 : aH = aI
 ·rw [if_pos c3] at H
  have c3b0 : (aH == aI) = true := beq_iff_eq.mpr c3
  have c3b1 : (aH != aI) = false := bne_eq_false_iff_eq.mpr c3
  clear c3
  replace H := bm H
  obtain ⟨aR, bU, H⟩ := H
  replace H : (if aR = true then (some true) else (some false)) = some r := H
  have A4 := Aside0.mk bU
  clear bU
  by_cases c5 : aR = true
  ·subst c5
   have H1 := pf H
   clear H
   have H := H1
   clear H1
   obtain rfl := sj H
   go_enter Tryz.func79, Tryz.ntmps79
   go_wp2_with (first | ((with_reducible refine gate_dst (N := 2) rfl ?_); refine box_event rfl (N := 2) rfl (cs := #[.int .i64 aH, .slice aN aF.length aO]) (t := 48) BX ?_; intro bA hg w6 aD hb; have aA := am (aD); have aJ := am (GH HB hg); have aE := aJ; replace HB := bl (KL HB) hb; clear hb aD hg) | ((with_reducible refine gate_dst (N := 3) rfl ?_); refine box_event rfl (N := 3) rfl (cs := #[.int .i64 aI, .slice aP aG.length aQ]) (t := 48) BX ?_; intro bB hg w7 aD hb; have aK := am (aD); have aL := am (GH1 HB aE.out hg); have aM := aL; replace HB := bl (K1 HB aE.out) hb; have aB := am (NL aA hg); have aC := am (NG aA hg); replace aA := am (BB aA hb); clear hb aD hg; have cC := aB.out; have cD := aC.out; have ⟨_, _, _⟩ := y2 w7 aA.out; have ⟨_, _, _⟩ := y2 w7 aK.out) | ((with_reducible refine gate_callee (f := 98) rfl ?_); refine goesL_ (some 14) rfl rfl Tryz.func98 (by kernel_rfl) rfl #[.slice aN aF.length aO, .slice aP aG.length aQ] rfl MT ?_; (with_reducible refine (laws_eqIntS.calls k _ _ aF _ _ aG true _ ?_ ?_ ?_ ?_ A4.out).mono ?_); exact KD aW HB; exact aX.out; exact KD aY HB; exact aZ.out; rintro e w' ⟨rfl, ⟨nd, rfl⟩⟩; refine ⟨_, rfl, ?_⟩))
   go_ret
   exact ⟨ER, K2 HB aE.out aM.out⟩
  ·replace c5 := Bool.eq_false_iff.mpr c5
   subst c5
   have H1 := nf H
   clear H
   have H := H1
   clear H1
   obtain rfl := sj H
   go_enter Tryz.func79, Tryz.ntmps79
   go_wp2_with (first | ((with_reducible refine gate_dst (N := 2) rfl ?_); refine box_event rfl (N := 2) rfl (cs := #[.int .i64 aH, .slice aN aF.length aO]) (t := 48) BX ?_; intro bA hg cE aD hb; have aA := am (aD); have aJ := am (GH HB hg); have aE := aJ; replace HB := bl (KL HB) hb; clear hb aD hg) | ((with_reducible refine gate_dst (N := 3) rfl ?_); refine box_event rfl (N := 3) rfl (cs := #[.int .i64 aI, .slice aP aG.length aQ]) (t := 48) BX ?_; intro bB hg bV aD hb; have aK := am (aD); have aL := am (GH1 HB aE.out hg); have aM := aL; replace HB := bl (K1 HB aE.out) hb; have aB := am (NL aA hg); have aC := am (NG aA hg); replace aA := am (BB aA hb); clear hb aD hg; have bW := aB.out; have bX := aC.out; have ⟨_, _, _⟩ := y2 bV aA.out; have ⟨_, _, _⟩ := y2 bV aK.out) | ((with_reducible refine gate_callee (f := 98) rfl ?_); refine goesL_ (some 14) rfl rfl Tryz.func98 (by kernel_rfl) rfl #[.slice aN aF.length aO, .slice aP aG.length aQ] rfl MT ?_; (with_reducible refine (laws_eqIntS.calls k _ _ aF _ _ aG false _ ?_ ?_ ?_ ?_ A4.out).mono ?_); exact KD aW HB; exact aX.out; exact KD aY HB; exact aZ.out; rintro e w' ⟨rfl, ⟨nd, rfl⟩⟩; refine ⟨_, rfl, ?_⟩))
   go_ret
   exact ⟨ER, K2 HB aE.out aM.out⟩
 ·rw [if_neg c3] at H
  have c3b0 : (aH == aI) = false := beq_eq_false_iff_ne.mpr c3
  have c3b1 : (aH != aI) = true := bne_iff_ne.mpr c3
  obtain rfl := sj H
  go_enter Tryz.func79, Tryz.ntmps79
  go_wp2_with (first | ((with_reducible refine gate_dst (N := 2) rfl ?_); refine box_event rfl (N := 2) rfl (cs := #[.int .i64 aH, .slice aN aF.length aO]) (t := 48) BX ?_; intro bA hg cF aD hb; have aA := am (aD); have aJ := am (GH HB hg); have aE := aJ; replace HB := bl (KL HB) hb; clear hb aD hg) | ((with_reducible refine gate_dst (N := 3) rfl ?_); refine box_event rfl (N := 3) rfl (cs := #[.int .i64 aI, .slice aP aG.length aQ]) (t := 48) BX ?_; intro bB hg bY aD hb; have aK := am (aD); have aL := am (GH1 HB aE.out hg); have aM := aL; replace HB := bl (K1 HB aE.out) hb; have aB := am (NL aA hg); have aC := am (NG aA hg); replace aA := am (BB aA hb); clear hb aD hg; have bZ := aB.out; have cA := aC.out; have ⟨_, _, _⟩ := y2 bY aA.out; have ⟨_, _, _⟩ := y2 bY aK.out))
  go_ret
  exact ⟨ER, K2 HB aE.out aM.out⟩
def laws_eqSa.f (k : Nat) (a0_0 : Int) (a0_1 : Int) (a0_2 : ByteArray) (a0_3 : ByteArray) (a0_4 : Int) (a0_5 : Int) (a0_6 : Int) (a0_7 : Int) (a0_8 : Int) (a0_9 : Int) (l0_10 : List Int) (a1_0 : Int) (a1_1 : Int) (a1_2 : ByteArray) (a1_3 : ByteArray) (a1_4 : Int) (a1_5 : Int) (a1_6 : Int) (a1_7 : Int) (a1_8 : Int) (a1_9 : Int) (l1_10 : List Int) : Option (Bool) := if a0_0 = a1_0 then (if a0_1 = a1_1 then (if a0_2.toList = a1_2.toList then (if a0_3.toList = a1_3.toList then (if a0_4 = a1_4 then (if a0_5 = a1_5 then (if a0_6 = a1_6 then (if a0_7 = a1_7 then (if a0_8 = a1_8 then ((laws_eqWindow.f k a0_9 l0_10 a1_9 l1_10).bind fun t103 => (if t103 = true then (some true) else (some false))) else (some false)) else (some false)) else (some false)) else (some false)) else (some false)) else (some false)) else (some false)) else (some false)) else (some false)
theorem laws_eqSa.calls (k : Nat) (aP : Int) (aQ : Int) (aR : ByteArray) (aS : ByteArray) (aT : Int) (aU : Int) (aV : Int) (aW : Int) (aX : Int) (bH : Int) (aL : Option Addr) (aM : Nat) (aH : List Int) (aY : Int) (aZ : Int) (bA : ByteArray) (bB : ByteArray) (bC : Int) (bD : Int) (bE : Int) (bF : Int) (bG : Int) (bI : Int) (aN : Option Addr) (aO : Nat) (aI : List Int) (r : Bool) (w : World) (bL : Kd.C (Kd.int .i64) w aL aH.length aH) (bM : aH.length ≤ aM) (bN : Kd.C (Kd.int .i64) w aN aI.length aI) (bO : aI.length ≤ aO) (h : laws_eqSa.f k aP aQ aR aS aT aU aV aW aX bH aH aY aZ bA bB bC bD bE bF bG bI aI = some r) :
  Calls Tryz.prog 55 #[.agg #[.int .i64 aP, .int .i64 aQ, .string aR, .string aS, .int .i64 aT, .int .i64 aU, .int .i64 aV, .int .i64 aW, .int .i64 aX, .int .i64 bH, .slice aL aH.length aM], .agg #[.int .i64 aY, .int .i64 aZ, .string bA, .string bB, .int .i64 bC, .int .i64 bD, .int .i64 bE, .int .i64 bF, .int .i64 bG, .int .i64 bI, .slice aN aI.length aO]] w fun e w' => e = .returned (.bool r) ∧ Below w.heap.size w w' := by
 have nK := Tryz.underlying50
 have nL := Tryz.underlying48
 have bP := Aside0.mk bL
 have bQ := Aside0.mk bM
 clear bL bM
 have bR := Aside0.mk bN
 have bS := Aside0.mk bO
 clear bN bO
 have HB := am (Below.refl w.heap.size w)
 have H : (if aP = aY then (if aQ = aZ then (if aR.toList = bA.toList then (if aS.toList = bB.toList then (if aT = bC then (if aU = bD then (if aV = bE then (if aW = bF then (if aX = bG then ((laws_eqWindow.f k bH aH bI aI).bind fun bT => (if bT = true then (some true) else (some false))) else (some false)) else (some false)) else (some false)) else (some false)) else (some false)) else (some false)) else (some false)) else (some false)) else (some false)) = some r := h
 clear h
 by_cases c3 : aP = aY
 ·rw [if_pos c3] at H
  have c3b0 : (aP == aY) = true := beq_iff_eq.mpr c3
  have c3b1 : (aP != aY) = false := bne_eq_false_iff_eq.mpr c3
  clear c3
  by_cases c4 : aQ = aZ
  ·rw [if_pos c4] at H
   have c4b0 : (aQ == aZ) = true := beq_iff_eq.mpr c4
   have c4b1 : (aQ != aZ) = false := bne_eq_false_iff_eq.mpr c4
   clear c4
   by_cases c5 : aR.toList = bA.toList
   ·rw [if_pos c5] at H
    have c5b0 : (aR.toList == bA.toList) = true := beq_iff_eq.mpr c5
    have c5b1 : (aR.toList != bA.toList) = false := bne_eq_false_iff_eq.mpr c5
    clear c5
    by_cases c6 : aS.toList = bB.toList
    ·rw [if_pos c6] at H
     have c6b0 : (aS.toList == bB.toList) = true := beq_iff_eq.mpr c6
     have c6b1 : (aS.toList != bB.toList) = false := bne_eq_false_iff_eq.mpr c6
     clear c6
     by_cases c7 : aT = bC
     ·rw [if_pos c7] at H
      have c7b0 : (aT == bC) = true := beq_iff_eq.mpr c7
      have c7b1 : (aT != bC) = false := bne_eq_false_iff_eq.mpr c7
      clear c7
      by_cases c8 : aU = bD
      ·rw [if_pos c8] at H
       have c8b0 : (aU == bD) = true := beq_iff_eq.mpr c8
       have c8b1 : (aU != bD) = false := bne_eq_false_iff_eq.mpr c8
       clear c8
       by_cases c9 : aV = bE
       ·rw [if_pos c9] at H
        have c9b0 : (aV == bE) = true := beq_iff_eq.mpr c9
        have c9b1 : (aV != bE) = false := bne_eq_false_iff_eq.mpr c9
        clear c9
        by_cases bU : aW = bF
        ·rw [if_pos bU] at H
         have c10b0 : (aW == bF) = true := beq_iff_eq.mpr bU
         have c10b1 : (aW != bF) = false := bne_eq_false_iff_eq.mpr bU
         clear bU
         by_cases bV : aX = bG
         ·rw [if_pos bV] at H
          have c11b0 : (aX == bG) = true := beq_iff_eq.mpr bV
          have c11b1 : (aX != bG) = false := bne_eq_false_iff_eq.mpr bV
          clear bV
          replace H := bm H
          obtain ⟨bT, bW, H⟩ := H
          replace H : (if bT = true then (some true) else (some false)) = some r := H
          have mC := Aside0.mk bW
          clear bW
          by_cases cT : bT = true
          ·subst cT
           have H1 := pf H
           clear H
           have H := H1
           clear H1
           obtain rfl := sj H
           go_enter Tryz.func55, Tryz.ntmps55
           go_wp2_with (first | ((with_reducible refine gate_dst (N := 2) rfl ?_); refine box_event rfl (N := 2) rfl (cs := #[.int .i64 aP, .int .i64 aQ, .string aR, .string aS, .int .i64 aT, .int .i64 aU, .int .i64 aV, .int .i64 aW, .int .i64 aX, .int .i64 bH, .slice aL aH.length aM]) (t := 50) BX ?_; intro bJ hg nM aE hb; have aA := am (aE); have aJ := am (GH HB hg); have aD := aJ; replace HB := bl (KL HB) hb; clear hb aE hg) | ((with_reducible refine gate_dst (N := 3) rfl ?_); refine box_event rfl (N := 3) rfl (cs := #[.int .i64 aY, .int .i64 aZ, .string bA, .string bB, .int .i64 bC, .int .i64 bD, .int .i64 bE, .int .i64 bF, .int .i64 bG, .int .i64 bI, .slice aN aI.length aO]) (t := 50) BX ?_; intro bK hg mD aE hb; have aF := am (aE); have aK := am (GH1 HB aD.out hg); have aG := aK; replace HB := bl (K1 HB aD.out) hb; have aB := am (NL aA hg); have aC := am (NG aA hg); replace aA := am (BB aA hb); clear hb aE hg; have mE := aB.out; have mF := aC.out; have ⟨_, _, _, _, _, _, _, _, _, _, _, _⟩ := y11 mD aA.out; have ⟨_, _, _, _, _, _, _, _, _, _, _, _⟩ := y11 mD aF.out) | ((with_reducible refine gate_callee (f := 79) rfl ?_); refine goesL_ (some 54) rfl rfl Tryz.func79 (by kernel_rfl) rfl #[.agg #[.int .i64 bH, .slice aL aH.length aM], .agg #[.int .i64 bI, .slice aN aI.length aO]] rfl MT ?_; (with_reducible refine (laws_eqWindow.calls k bH _ _ aH bI _ _ aI true _ ?_ ?_ ?_ ?_ mC.out).mono ?_); exact KD bP HB; exact bQ.out; exact KD bR HB; exact bS.out; rintro e nN ⟨rfl, hb⟩; refine ⟨_, rfl, ?_⟩; replace aA := am (BB aA hb); replace aF := am (BB aF hb); replace HB := bl (K2 HB aD.out aG.out) hb; (try clear hb)))
           go_ret
           exact ⟨ER, K2 HB aD.out aG.out⟩
          ·replace cT := Bool.eq_false_iff.mpr cT
           subst cT
           have H1 := nf H
           clear H
           have H := H1
           clear H1
           obtain rfl := sj H
           go_enter Tryz.func55, Tryz.ntmps55
           go_wp2_with (first | ((with_reducible refine gate_dst (N := 2) rfl ?_); refine box_event rfl (N := 2) rfl (cs := #[.int .i64 aP, .int .i64 aQ, .string aR, .string aS, .int .i64 aT, .int .i64 aU, .int .i64 aV, .int .i64 aW, .int .i64 aX, .int .i64 bH, .slice aL aH.length aM]) (t := 50) BX ?_; intro bJ hg nO aE hb; have aA := am (aE); have aJ := am (GH HB hg); have aD := aJ; replace HB := bl (KL HB) hb; clear hb aE hg) | ((with_reducible refine gate_dst (N := 3) rfl ?_); refine box_event rfl (N := 3) rfl (cs := #[.int .i64 aY, .int .i64 aZ, .string bA, .string bB, .int .i64 bC, .int .i64 bD, .int .i64 bE, .int .i64 bF, .int .i64 bG, .int .i64 bI, .slice aN aI.length aO]) (t := 50) BX ?_; intro bK hg mG aE hb; have aF := am (aE); have aK := am (GH1 HB aD.out hg); have aG := aK; replace HB := bl (K1 HB aD.out) hb; have aB := am (NL aA hg); have aC := am (NG aA hg); replace aA := am (BB aA hb); clear hb aE hg; have mH := aB.out; have mI := aC.out; have ⟨_, _, _, _, _, _, _, _, _, _, _, _⟩ := y11 mG aA.out; have ⟨_, _, _, _, _, _, _, _, _, _, _, _⟩ := y11 mG aF.out) | ((with_reducible refine gate_callee (f := 79) rfl ?_); refine goesL_ (some 54) rfl rfl Tryz.func79 (by kernel_rfl) rfl #[.agg #[.int .i64 bH, .slice aL aH.length aM], .agg #[.int .i64 bI, .slice aN aI.length aO]] rfl MT ?_; (with_reducible refine (laws_eqWindow.calls k bH _ _ aH bI _ _ aI false _ ?_ ?_ ?_ ?_ mC.out).mono ?_); exact KD bP HB; exact bQ.out; exact KD bR HB; exact bS.out; rintro e nP ⟨rfl, hb⟩; refine ⟨_, rfl, ?_⟩; replace aA := am (BB aA hb); replace aF := am (BB aF hb); replace HB := bl (K2 HB aD.out aG.out) hb; (try clear hb)))
           go_ret
           exact ⟨ER, K2 HB aD.out aG.out⟩
         ·rw [if_neg bV] at H
          have c11b0 : (aX == bG) = false := beq_eq_false_iff_ne.mpr bV
          have c11b1 : (aX != bG) = true := bne_iff_ne.mpr bV
          obtain rfl := sj H
          go_enter Tryz.func55, Tryz.ntmps55
          go_wp2_with (first | ((with_reducible refine gate_dst (N := 2) rfl ?_); refine box_event rfl (N := 2) rfl (cs := #[.int .i64 aP, .int .i64 aQ, .string aR, .string aS, .int .i64 aT, .int .i64 aU, .int .i64 aV, .int .i64 aW, .int .i64 aX, .int .i64 bH, .slice aL aH.length aM]) (t := 50) BX ?_; intro bJ hg nQ aE hb; have aA := am (aE); have aJ := am (GH HB hg); have aD := aJ; replace HB := bl (KL HB) hb; clear hb aE hg) | ((with_reducible refine gate_dst (N := 3) rfl ?_); refine box_event rfl (N := 3) rfl (cs := #[.int .i64 aY, .int .i64 aZ, .string bA, .string bB, .int .i64 bC, .int .i64 bD, .int .i64 bE, .int .i64 bF, .int .i64 bG, .int .i64 bI, .slice aN aI.length aO]) (t := 50) BX ?_; intro bK hg mJ aE hb; have aF := am (aE); have aK := am (GH1 HB aD.out hg); have aG := aK; replace HB := bl (K1 HB aD.out) hb; have aB := am (NL aA hg); have aC := am (NG aA hg); replace aA := am (BB aA hb); clear hb aE hg; have mK := aB.out; have mL := aC.out; have ⟨_, _, _, _, _, _, _, _, _, _, _, _⟩ := y11 mJ aA.out; have ⟨_, _, _, _, _, _, _, _, _, _, _, _⟩ := y11 mJ aF.out))
          go_ret
          exact ⟨ER, K2 HB aD.out aG.out⟩
        ·rw [if_neg bU] at H
         have c10b0 : (aW == bF) = false := beq_eq_false_iff_ne.mpr bU
         have c10b1 : (aW != bF) = true := bne_iff_ne.mpr bU
         obtain rfl := sj H
         go_enter Tryz.func55, Tryz.ntmps55
         go_wp2_with (first | ((with_reducible refine gate_dst (N := 2) rfl ?_); refine box_event rfl (N := 2) rfl (cs := #[.int .i64 aP, .int .i64 aQ, .string aR, .string aS, .int .i64 aT, .int .i64 aU, .int .i64 aV, .int .i64 aW, .int .i64 aX, .int .i64 bH, .slice aL aH.length aM]) (t := 50) BX ?_; intro bJ hg nR aE hb; have aA := am (aE); have aJ := am (GH HB hg); have aD := aJ; replace HB := bl (KL HB) hb; clear hb aE hg) | ((with_reducible refine gate_dst (N := 3) rfl ?_); refine box_event rfl (N := 3) rfl (cs := #[.int .i64 aY, .int .i64 aZ, .string bA, .string bB, .int .i64 bC, .int .i64 bD, .int .i64 bE, .int .i64 bF, .int .i64 bG, .int .i64 bI, .slice aN aI.length aO]) (t := 50) BX ?_; intro bK hg mM aE hb; have aF := am (aE); have aK := am (GH1 HB aD.out hg); have aG := aK; replace HB := bl (K1 HB aD.out) hb; have aB := am (NL aA hg); have aC := am (NG aA hg); replace aA := am (BB aA hb); clear hb aE hg; have mN := aB.out; have mO := aC.out; have ⟨_, _, _, _, _, _, _, _, _, _, _, _⟩ := y11 mM aA.out; have ⟨_, _, _, _, _, _, _, _, _, _, _, _⟩ := y11 mM aF.out))
         go_ret
         exact ⟨ER, K2 HB aD.out aG.out⟩
       ·rw [if_neg c9] at H
        have c9b0 : (aV == bE) = false := beq_eq_false_iff_ne.mpr c9
        have c9b1 : (aV != bE) = true := bne_iff_ne.mpr c9
        obtain rfl := sj H
        go_enter Tryz.func55, Tryz.ntmps55
        go_wp2_with (first | ((with_reducible refine gate_dst (N := 2) rfl ?_); refine box_event rfl (N := 2) rfl (cs := #[.int .i64 aP, .int .i64 aQ, .string aR, .string aS, .int .i64 aT, .int .i64 aU, .int .i64 aV, .int .i64 aW, .int .i64 aX, .int .i64 bH, .slice aL aH.length aM]) (t := 50) BX ?_; intro bJ hg nS aE hb; have aA := am (aE); have aJ := am (GH HB hg); have aD := aJ; replace HB := bl (KL HB) hb; clear hb aE hg) | ((with_reducible refine gate_dst (N := 3) rfl ?_); refine box_event rfl (N := 3) rfl (cs := #[.int .i64 aY, .int .i64 aZ, .string bA, .string bB, .int .i64 bC, .int .i64 bD, .int .i64 bE, .int .i64 bF, .int .i64 bG, .int .i64 bI, .slice aN aI.length aO]) (t := 50) BX ?_; intro bK hg mP aE hb; have aF := am (aE); have aK := am (GH1 HB aD.out hg); have aG := aK; replace HB := bl (K1 HB aD.out) hb; have aB := am (NL aA hg); have aC := am (NG aA hg); replace aA := am (BB aA hb); clear hb aE hg; have mQ := aB.out; have mR := aC.out; have ⟨_, _, _, _, _, _, _, _, _, _, _, _⟩ := y11 mP aA.out; have ⟨_, _, _, _, _, _, _, _, _, _, _, _⟩ := y11 mP aF.out))
        go_ret
        exact ⟨ER, K2 HB aD.out aG.out⟩
      ·rw [if_neg c8] at H
       have c8b0 : (aU == bD) = false := beq_eq_false_iff_ne.mpr c8
       have c8b1 : (aU != bD) = true := bne_iff_ne.mpr c8
       obtain rfl := sj H
       go_enter Tryz.func55, Tryz.ntmps55
       go_wp2_with (first | ((with_reducible refine gate_dst (N := 2) rfl ?_); refine box_event rfl (N := 2) rfl (cs := #[.int .i64 aP, .int .i64 aQ, .string aR, .string aS, .int .i64 aT, .int .i64 aU, .int .i64 aV, .int .i64 aW, .int .i64 aX, .int .i64 bH, .slice aL aH.length aM]) (t := 50) BX ?_; intro bJ hg nT aE hb; have aA := am (aE); have aJ := am (GH HB hg); have aD := aJ; replace HB := bl (KL HB) hb; clear hb aE hg) | ((with_reducible refine gate_dst (N := 3) rfl ?_); refine box_event rfl (N := 3) rfl (cs := #[.int .i64 aY, .int .i64 aZ, .string bA, .string bB, .int .i64 bC, .int .i64 bD, .int .i64 bE, .int .i64 bF, .int .i64 bG, .int .i64 bI, .slice aN aI.length aO]) (t := 50) BX ?_; intro bK hg mS aE hb; have aF := am (aE); have aK := am (GH1 HB aD.out hg); have aG := aK; replace HB := bl (K1 HB aD.out) hb; have aB := am (NL aA hg); have aC := am (NG aA hg); replace aA := am (BB aA hb); clear hb aE hg; have mT := aB.out; have mU := aC.out; have ⟨_, _, _, _, _, _, _, _, _, _, _, _⟩ := y11 mS aA.out; have ⟨_, _, _, _, _, _, _, _, _, _, _, _⟩ := y11 mS aF.out))
       go_ret
       exact ⟨ER, K2 HB aD.out aG.out⟩
     ·rw [if_neg c7] at H
      have c7b0 : (aT == bC) = false := beq_eq_false_iff_ne.mpr c7
      have c7b1 : (aT != bC) = true := bne_iff_ne.mpr c7
      obtain rfl := sj H
      go_enter Tryz.func55, Tryz.ntmps55
      go_wp2_with (first | ((with_reducible refine gate_dst (N := 2) rfl ?_); refine box_event rfl (N := 2) rfl (cs := #[.int .i64 aP, .int .i64 aQ, .string aR, .string aS, .int .i64 aT, .int .i64 aU, .int .i64 aV, .int .i64 aW, .int .i64 aX, .int .i64 bH, .slice aL aH.length aM]) (t := 50) BX ?_; intro bJ hg nU aE hb; have aA := am (aE); have aJ := am (GH HB hg); have aD := aJ; replace HB := bl (KL HB) hb; clear hb aE hg) | ((with_reducible refine gate_dst (N := 3) rfl ?_); refine box_event rfl (N := 3) rfl (cs := #[.int .i64 aY, .int .i64 aZ, .string bA, .string bB, .int .i64 bC, .int .i64 bD, .int .i64 bE, .int .i64 bF, .int .i64 bG, .int .i64 bI, .slice aN aI.length aO]) (t := 50) BX ?_; intro bK hg mV aE hb; have aF := am (aE); have aK := am (GH1 HB aD.out hg); have aG := aK; replace HB := bl (K1 HB aD.out) hb; have aB := am (NL aA hg); have aC := am (NG aA hg); replace aA := am (BB aA hb); clear hb aE hg; have mW := aB.out; have mX := aC.out; have ⟨_, _, _, _, _, _, _, _, _, _, _, _⟩ := y11 mV aA.out; have ⟨_, _, _, _, _, _, _, _, _, _, _, _⟩ := y11 mV aF.out))
      go_ret
      exact ⟨ER, K2 HB aD.out aG.out⟩
    ·rw [if_neg c6] at H
     have c6b0 : (aS.toList == bB.toList) = false := beq_eq_false_iff_ne.mpr c6
     have c6b1 : (aS.toList != bB.toList) = true := bne_iff_ne.mpr c6
     obtain rfl := sj H
     go_enter Tryz.func55, Tryz.ntmps55
     go_wp2_with (first | ((with_reducible refine gate_dst (N := 2) rfl ?_); refine box_event rfl (N := 2) rfl (cs := #[.int .i64 aP, .int .i64 aQ, .string aR, .string aS, .int .i64 aT, .int .i64 aU, .int .i64 aV, .int .i64 aW, .int .i64 aX, .int .i64 bH, .slice aL aH.length aM]) (t := 50) BX ?_; intro bJ hg nV aE hb; have aA := am (aE); have aJ := am (GH HB hg); have aD := aJ; replace HB := bl (KL HB) hb; clear hb aE hg) | ((with_reducible refine gate_dst (N := 3) rfl ?_); refine box_event rfl (N := 3) rfl (cs := #[.int .i64 aY, .int .i64 aZ, .string bA, .string bB, .int .i64 bC, .int .i64 bD, .int .i64 bE, .int .i64 bF, .int .i64 bG, .int .i64 bI, .slice aN aI.length aO]) (t := 50) BX ?_; intro bK hg mY aE hb; have aF := am (aE); have aK := am (GH1 HB aD.out hg); have aG := aK; replace HB := bl (K1 HB aD.out) hb; have aB := am (NL aA hg); have aC := am (NG aA hg); replace aA := am (BB aA hb); clear hb aE hg; have mZ := aB.out; have nA := aC.out; have ⟨_, _, _, _, _, _, _, _, _, _, _, _⟩ := y11 mY aA.out; have ⟨_, _, _, _, _, _, _, _, _, _, _, _⟩ := y11 mY aF.out))
     go_ret
     exact ⟨ER, K2 HB aD.out aG.out⟩
   ·rw [if_neg c5] at H
    have c5b0 : (aR.toList == bA.toList) = false := beq_eq_false_iff_ne.mpr c5
    have c5b1 : (aR.toList != bA.toList) = true := bne_iff_ne.mpr c5
    obtain rfl := sj H
    go_enter Tryz.func55, Tryz.ntmps55
    go_wp2_with (first | ((with_reducible refine gate_dst (N := 2) rfl ?_); refine box_event rfl (N := 2) rfl (cs := #[.int .i64 aP, .int .i64 aQ, .string aR, .string aS, .int .i64 aT, .int .i64 aU, .int .i64 aV, .int .i64 aW, .int .i64 aX, .int .i64 bH, .slice aL aH.length aM]) (t := 50) BX ?_; intro bJ hg nW aE hb; have aA := am (aE); have aJ := am (GH HB hg); have aD := aJ; replace HB := bl (KL HB) hb; clear hb aE hg) | ((with_reducible refine gate_dst (N := 3) rfl ?_); refine box_event rfl (N := 3) rfl (cs := #[.int .i64 aY, .int .i64 aZ, .string bA, .string bB, .int .i64 bC, .int .i64 bD, .int .i64 bE, .int .i64 bF, .int .i64 bG, .int .i64 bI, .slice aN aI.length aO]) (t := 50) BX ?_; intro bK hg nB aE hb; have aF := am (aE); have aK := am (GH1 HB aD.out hg); have aG := aK; replace HB := bl (K1 HB aD.out) hb; have aB := am (NL aA hg); have aC := am (NG aA hg); replace aA := am (BB aA hb); clear hb aE hg; have nC := aB.out; have nD := aC.out; have ⟨_, _, _, _, _, _, _, _, _, _, _, _⟩ := y11 nB aA.out; have ⟨_, _, _, _, _, _, _, _, _, _, _, _⟩ := y11 nB aF.out))
    go_ret
    exact ⟨ER, K2 HB aD.out aG.out⟩
  ·rw [if_neg c4] at H
   have c4b0 : (aQ == aZ) = false := beq_eq_false_iff_ne.mpr c4
   have c4b1 : (aQ != aZ) = true := bne_iff_ne.mpr c4
   obtain rfl := sj H
   go_enter Tryz.func55, Tryz.ntmps55
   go_wp2_with (first | ((with_reducible refine gate_dst (N := 2) rfl ?_); refine box_event rfl (N := 2) rfl (cs := #[.int .i64 aP, .int .i64 aQ, .string aR, .string aS, .int .i64 aT, .int .i64 aU, .int .i64 aV, .int .i64 aW, .int .i64 aX, .int .i64 bH, .slice aL aH.length aM]) (t := 50) BX ?_; intro bJ hg nX aE hb; have aA := am (aE); have aJ := am (GH HB hg); have aD := aJ; replace HB := bl (KL HB) hb; clear hb aE hg) | ((with_reducible refine gate_dst (N := 3) rfl ?_); refine box_event rfl (N := 3) rfl (cs := #[.int .i64 aY, .int .i64 aZ, .string bA, .string bB, .int .i64 bC, .int .i64 bD, .int .i64 bE, .int .i64 bF, .int .i64 bG, .int .i64 bI, .slice aN aI.length aO]) (t := 50) BX ?_; intro bK hg nE aE hb; have aF := am (aE); have aK := am (GH1 HB aD.out hg); have aG := aK; replace HB := bl (K1 HB aD.out) hb; have aB := am (NL aA hg); have aC := am (NG aA hg); replace aA := am (BB aA hb); clear hb aE hg; have nF := aB.out; have nG := aC.out; have ⟨_, _, _, _, _, _, _, _, _, _, _, _⟩ := y11 nE aA.out; have ⟨_, _, _, _, _, _, _, _, _, _, _, _⟩ := y11 nE aF.out))
   go_ret
   exact ⟨ER, K2 HB aD.out aG.out⟩
 ·rw [if_neg c3] at H
  have c3b0 : (aP == aY) = false := beq_eq_false_iff_ne.mpr c3
  have c3b1 : (aP != aY) = true := bne_iff_ne.mpr c3
  obtain rfl := sj H
  go_enter Tryz.func55, Tryz.ntmps55
  go_wp2_with (first | ((with_reducible refine gate_dst (N := 2) rfl ?_); refine box_event rfl (N := 2) rfl (cs := #[.int .i64 aP, .int .i64 aQ, .string aR, .string aS, .int .i64 aT, .int .i64 aU, .int .i64 aV, .int .i64 aW, .int .i64 aX, .int .i64 bH, .slice aL aH.length aM]) (t := 50) BX ?_; intro bJ hg nY aE hb; have aA := am (aE); have aJ := am (GH HB hg); have aD := aJ; replace HB := bl (KL HB) hb; clear hb aE hg) | ((with_reducible refine gate_dst (N := 3) rfl ?_); refine box_event rfl (N := 3) rfl (cs := #[.int .i64 aY, .int .i64 aZ, .string bA, .string bB, .int .i64 bC, .int .i64 bD, .int .i64 bE, .int .i64 bF, .int .i64 bG, .int .i64 bI, .slice aN aI.length aO]) (t := 50) BX ?_; intro bK hg nH aE hb; have aF := am (aE); have aK := am (GH1 HB aD.out hg); have aG := aK; replace HB := bl (K1 HB aD.out) hb; have aB := am (NL aA hg); have aC := am (NG aA hg); replace aA := am (BB aA hb); clear hb aE hg; have nI := aB.out; have nJ := aC.out; have ⟨_, _, _, _, _, _, _, _, _, _, _, _⟩ := y11 nH aA.out; have ⟨_, _, _, _, _, _, _, _, _, _, _, _⟩ := y11 nH aF.out))
  go_ret
  exact ⟨ER, K2 HB aD.out aG.out⟩
def laws_eqSaS.l0 : Nat → List (S50) → List (S50) → Int → Option (Bool)
 | 0, _, _, _ => none
 | k + 1, x0, x1, x5 => if x5 < (x0.length : Int) then (if 0 ≤ x5 then (if x5 < (x1.length : Int) then ((laws_eqSa.f k ((rd_T50 x0 x5).f0) ((rd_T50 x0 x5).f1) ((rd_T50 x0 x5).f2) ((rd_T50 x0 x5).f3) ((rd_T50 x0 x5).f4) ((rd_T50 x0 x5).f5) ((rd_T50 x0 x5).f6) ((rd_T50 x0 x5).f7) ((rd_T50 x0 x5).f8) ((rd_T50 x0 x5).f9.f0) ((rd_T50 x0 x5).f9.f1) ((rd_T50 x1 x5).f0) ((rd_T50 x1 x5).f1) ((rd_T50 x1 x5).f2) ((rd_T50 x1 x5).f3) ((rd_T50 x1 x5).f4) ((rd_T50 x1 x5).f5) ((rd_T50 x1 x5).f6) ((rd_T50 x1 x5).f7) ((rd_T50 x1 x5).f8) ((rd_T50 x1 x5).f9.f0) ((rd_T50 x1 x5).f9.f1)).bind fun t103 => (if t103 = true then (laws_eqSaS.l0 k x0 x1 (wrap64 (x5 + 1))) else (some false))) else (none)) else (none)) else (some true)
def laws_eqSaS.f (k : Nat) (l0 : List (S50)) (l1 : List (S50)) : Option (Bool) := if (l0.length : Int) = (l1.length : Int) then (laws_eqSaS.l0 k l0 l1 0) else (some false)
def laws_eqSaS.T6 : Bool × List (List Nat × List Nat) := (true, [([], []), ([], []), ([0, 1], [0, 1]), ([2], [2]), ([], []), ([], []), ([4, 5], [4, 5]), ([6], [6]), ([3, 7], [3, 7]), ([8], [8])])
def laws_eqSaS.B6 : List Nat := [0, 0, 3, 7, 0, 0, 48, 112, 255, 511]
theorem laws_eqSaS.tab6 : rtab .any (opsOf Tryz.f27 6) = laws_eqSaS.T6 := by kernel_rfl
theorem laws_eqSaS.bits6 : waitsOk laws_eqSaS.T6.2 laws_eqSaS.B6 = true := by kernel_rfl
theorem laws_eqSaS.calls (k : Nat) (A0 : Option Addr) (c0 : Nat) (l0 : List (S50)) (A1 : Option Addr) (c1 : Nat) (l1 : List (S50)) (r : Bool) (w : World) (cR : Kd.C k50 w A0 l0.length l0) (cS : l0.length ≤ c0) (cT : Kd.C k50 w A1 l1.length l1) (cU : l1.length ≤ c1) (h : laws_eqSaS.f k l0 l1 = some r) :
  Calls Tryz.prog 27 #[.slice A0 l0.length c0, .slice A1 l1.length c1] w fun e w' => e = .returned (.bool r) ∧ Below w.heap.size w w' := by
 have cY := Tryz.underlying50
 have cV := Aside0.mk cR
 have cZ := Aside0.mk cS
 clear cR cS
 have cW := Aside0.mk cT
 have dA := Aside0.mk cU
 clear cT cU
 have HB := am (Below.refl w.heap.size w)
 have H : (if (l0.length : Int) = (l1.length : Int) then (laws_eqSaS.l0 k l0 l1 0) else (some false)) = some r := h
 clear h
 by_cases c3 : (l0.length : Int) = (l1.length : Int)
 ·rw [if_pos c3] at H
  have c3b0 : ((l0.length : Int) == (l1.length : Int)) = true := beq_iff_eq.mpr c3
  have c3b1 : ((l0.length : Int) != (l1.length : Int)) = false := bne_eq_false_iff_eq.mpr c3
  have c3b2 : (l0.length == l1.length) = true := by first | simpa using c3 | (simp at c3 ⊢; omega)
  clear c3
  have H' := Aside0.mk H
  clear H
  go_enter Tryz.func27, Tryz.ntmps27
  go_wp2
  go_loopg [5] k (fun kq v5 w' => ∃ (aA : Int), v5 = .int .i64 aA ∧ Aside0 (laws_eqSaS.l0 kq l0 l1 aA = some r) ∧ Aside0 (kq ≤ k) ∧ Aside0 (Below w.heap.size w w'))
  case atStart => exact ⟨(0), (by first | rfl | (simp; done) | (simp [*]; done)), H', ⟨Nat.le_refl _⟩, ⟨KL HB⟩⟩
  case round =>
   clear H'
   try clear c1
   try clear c2
   try clear p2
   try clear c3
   try clear c3b0
   try clear c3b1
   try clear c3b2
   obtain ⟨aA, rfl, HA, HK1, HB⟩ := hrel
   cases gk with
   | zero => exact absurd HA.out (by simp [laws_eqSaS.l0])
   | succ k1 =>
    have H := HA.out
    clear HA
    simp only [laws_eqSaS.l0] at H
    by_cases c4 : aA < (l0.length : Int)
    ·rw [if_pos c4] at H
     have c4b0 : decide (aA < (l0.length : Int)) = true := decide_eq_true c4
     clear c4
     by_cases c5 : 0 ≤ aA
     ·rw [if_pos c5] at H
      have c5b0 : decide (0 ≤ aA) = true := decide_eq_true c5
      clear c5
      by_cases c6 : aA < (l1.length : Int)
      ·rw [if_pos c6] at H
       have c6b0 : decide (aA < (l1.length : Int)) = true := decide_eq_true c6
       clear c6
       replace H := bm H
       obtain ⟨cP, cX, H⟩ := H
       replace H : (if cP = true then (laws_eqSaS.l0 k1 l0 l1 (wrap64 (aA + 1))) else (some false)) = some r := H
       have A7 := Aside0.mk cX
       clear cX
       by_cases c8 : cP = true
       ·subst c8
        have H1 := pf H
        clear H
        have H := H1
        clear H1
        have H' := Aside0.mk H
        clear H
        try go_wp2
        replace HB := am (below_drew1 HB.out)
        have cJ : 0 ≤ (aA : Int) := OD
        have cK : aA < (l0.length : Int) := OD
        obtain ⟨aB, bH, bI, cN, aF, aG, aH, aI, aJ, aK, aL, aM, aN, aO, aD, aZ, bA⟩ := at_T50 cV.out aA cJ cK
        have bB := aD
        have bJ := aO
        have bK := aN
        have bL := aM
        have bM := aL
        have bN := aK
        have bO := aJ
        have bP := aI
        have bQ := aH
        have bR := aG
        have bS := aF
        cases cN
        replace aF := CX HB.out aF
        replace aG := CX HB.out aG
        replace aH := CX HB.out aH
        replace aI := CX HB.out aI
        replace aJ := CX HB.out aJ
        replace aK := CX HB.out aK
        replace aL := CX HB.out aL
        replace aM := CX HB.out aM
        replace aN := CX HB.out aN
        replace aO := CX HB.out aO
        replace aD := CX HB.out aD
        have bC := Aside0.mk bA
        have cG := Aside0.mk aZ
        clear bA aZ
        replace cJ := eq_true cJ
        replace cK := eq_true cK
        have cL : 0 ≤ (aA : Int) := OD
        have cM : aA < (l1.length : Int) := OD
        obtain ⟨aC, bT, bU, cO, aP, aQ, aR, aS, aT, aU, aV, aW, aX, aY, aE, bD, bE⟩ := at_T50 cW.out aA cL cM
        have bF := aE
        have bV := aY
        have bW := aX
        have bX := aW
        have bY := aV
        have bZ := aU
        have cA := aT
        have cB := aS
        have cC := aR
        have cD := aQ
        have cE := aP
        cases cO
        replace aP := CX HB.out aP
        replace aQ := CX HB.out aQ
        replace aR := CX HB.out aR
        replace aS := CX HB.out aS
        replace aT := CX HB.out aT
        replace aU := CX HB.out aU
        replace aV := CX HB.out aV
        replace aW := CX HB.out aW
        replace aX := CX HB.out aX
        replace aY := CX HB.out aY
        replace aE := CX HB.out aE
        have bG := Aside0.mk bE
        have cH := Aside0.mk bD
        clear bE bD
        replace cL := eq_true cL
        replace cM := eq_true cM
        refine start_ (n := 10) (S := fun w' => w'.cell? (aB.add ((aA).toNat * 11)) = some (.int .i64 ((rd_T50 l0 aA).f0)) ∧ w'.cell? ⟨(aB.add ((aA).toNat * 11)).block, (aB.add ((aA).toNat * 11)).off + 1, none⟩ = some (.int .i64 ((rd_T50 l0 aA).f1)) ∧ w'.cell? ⟨(aB.add ((aA).toNat * 11)).block, (aB.add ((aA).toNat * 11)).off + 2, none⟩ = some (.string ((rd_T50 l0 aA).f2)) ∧ w'.cell? ⟨(aB.add ((aA).toNat * 11)).block, (aB.add ((aA).toNat * 11)).off + 3, none⟩ = some (.string ((rd_T50 l0 aA).f3)) ∧ w'.cell? ⟨(aB.add ((aA).toNat * 11)).block, (aB.add ((aA).toNat * 11)).off + 4, none⟩ = some (.int .i64 ((rd_T50 l0 aA).f4)) ∧ w'.cell? ⟨(aB.add ((aA).toNat * 11)).block, (aB.add ((aA).toNat * 11)).off + 5, none⟩ = some (.int .i64 ((rd_T50 l0 aA).f5)) ∧ w'.cell? ⟨(aB.add ((aA).toNat * 11)).block, (aB.add ((aA).toNat * 11)).off + 6, none⟩ = some (.int .i64 ((rd_T50 l0 aA).f6)) ∧ w'.cell? ⟨(aB.add ((aA).toNat * 11)).block, (aB.add ((aA).toNat * 11)).off + 7, none⟩ = some (.int .i64 ((rd_T50 l0 aA).f7)) ∧ w'.cell? ⟨(aB.add ((aA).toNat * 11)).block, (aB.add ((aA).toNat * 11)).off + 8, none⟩ = some (.int .i64 ((rd_T50 l0 aA).f8)) ∧ w'.cell? ⟨(aB.add ((aA).toNat * 11)).block, (aB.add ((aA).toNat * 11)).off + 9, none⟩ = some (.int .i64 ((rd_T50 l0 aA).f9.f0)) ∧ w'.cell? ⟨(aB.add ((aA).toNat * 11)).block, (aB.add ((aA).toNat * 11)).off + 10, none⟩ = some (.slice bH ((rd_T50 l0 aA).f9.f1).length bI) ∧ w'.cell? (aC.add ((aA).toNat * 11)) = some (.int .i64 ((rd_T50 l1 aA).f0)) ∧ w'.cell? ⟨(aC.add ((aA).toNat * 11)).block, (aC.add ((aA).toNat * 11)).off + 1, none⟩ = some (.int .i64 ((rd_T50 l1 aA).f1)) ∧ w'.cell? ⟨(aC.add ((aA).toNat * 11)).block, (aC.add ((aA).toNat * 11)).off + 2, none⟩ = some (.string ((rd_T50 l1 aA).f2)) ∧ w'.cell? ⟨(aC.add ((aA).toNat * 11)).block, (aC.add ((aA).toNat * 11)).off + 3, none⟩ = some (.string ((rd_T50 l1 aA).f3)) ∧ w'.cell? ⟨(aC.add ((aA).toNat * 11)).block, (aC.add ((aA).toNat * 11)).off + 4, none⟩ = some (.int .i64 ((rd_T50 l1 aA).f4)) ∧ w'.cell? ⟨(aC.add ((aA).toNat * 11)).block, (aC.add ((aA).toNat * 11)).off + 5, none⟩ = some (.int .i64 ((rd_T50 l1 aA).f5)) ∧ w'.cell? ⟨(aC.add ((aA).toNat * 11)).block, (aC.add ((aA).toNat * 11)).off + 6, none⟩ = some (.int .i64 ((rd_T50 l1 aA).f6)) ∧ w'.cell? ⟨(aC.add ((aA).toNat * 11)).block, (aC.add ((aA).toNat * 11)).off + 7, none⟩ = some (.int .i64 ((rd_T50 l1 aA).f7)) ∧ w'.cell? ⟨(aC.add ((aA).toNat * 11)).block, (aC.add ((aA).toNat * 11)).off + 8, none⟩ = some (.int .i64 ((rd_T50 l1 aA).f8)) ∧ w'.cell? ⟨(aC.add ((aA).toNat * 11)).block, (aC.add ((aA).toNat * 11)).off + 9, none⟩ = some (.int .i64 ((rd_T50 l1 aA).f9.f0)) ∧ w'.cell? ⟨(aC.add ((aA).toNat * 11)).block, (aC.add ((aA).toNat * 11)).off + 10, none⟩ = some (.slice bT ((rd_T50 l1 aA).f9.f1).length bU)) (ds := []) (tf 0 10) (by kernel_rfl) rfl rfl ⟨(CY HB.out bS), (CY HB.out bR), (CY HB.out bQ), (CY HB.out bP), (CY HB.out bO), (CY HB.out bN), (CY HB.out bM), (CY HB.out bL), (CY HB.out bK), (CY HB.out bJ), (CY HB.out bB), (CY HB.out cE), (CY HB.out cD), (CY HB.out cC), (CY HB.out cB), (CY HB.out cA), (CY HB.out bZ), (CY HB.out bY), (CY HB.out bX), (CY HB.out bW), (CY HB.out bV), (CY HB.out bF)⟩ (fun cF => ?_); refine with_tabW laws_eqSaS.tab6 laws_eqSaS.bits6 (fun cI cQ => ?_)
        generalize wr.drew = w9 at HB bC bG aF aG aD aH aI aJ aK aL aM aN aO aP aQ aE aR aS aT aU aV aW aX aY cF ⊢
        refine pv cI 0 17 (tf 1 9) ?_
        refine pv cI 1 18 (tf 2 8) ?_
        refine pv cI 2 19 (tf 3 7) ?_
        refine pv cI 4 21 (tr [3, 1, 1, 5]) ?_
        refine pv cI 5 22 (tr [3, 1, 2, 4]) ?_
        refine pv cI 6 23 (tr [3, 1, 3, 3]) ?_
        refine tk 3 (some 20) (tf 7 3) (take_ofW cI.out cQ.out (by kernel_rfl)) cF ?_
        refine tk 7 (some 24) (tf 8 2) (take_ofW cI.out cQ.out (by kernel_rfl)) cF ?_
        refine one_ (i := 8) (N := some 25) (tf 9 1) rfl rfl (one_of cI.out (by kernel_rfl)) (by decide) (fun K hK => ?_)
        refine goes_ Tryz.func55 (by kernel_rfl) rfl #[.agg #[.int .i64 ((rd_T50 l0 aA).f0), .int .i64 ((rd_T50 l0 aA).f1), .string ((rd_T50 l0 aA).f2), .string ((rd_T50 l0 aA).f3), .int .i64 ((rd_T50 l0 aA).f4), .int .i64 ((rd_T50 l0 aA).f5), .int .i64 ((rd_T50 l0 aA).f6), .int .i64 ((rd_T50 l0 aA).f7), .int .i64 ((rd_T50 l0 aA).f8), .int .i64 ((rd_T50 l0 aA).f9.f0), .slice bH ((rd_T50 l0 aA).f9.f1).length bI], .agg #[.int .i64 ((rd_T50 l1 aA).f0), .int .i64 ((rd_T50 l1 aA).f1), .string ((rd_T50 l1 aA).f2), .string ((rd_T50 l1 aA).f3), .int .i64 ((rd_T50 l1 aA).f4), .int .i64 ((rd_T50 l1 aA).f5), .int .i64 ((rd_T50 l1 aA).f6), .int .i64 ((rd_T50 l1 aA).f7), .int .i64 ((rd_T50 l1 aA).f8), .int .i64 ((rd_T50 l1 aA).f9.f0), .slice bT ((rd_T50 l1 aA).f9.f1).length bU]] (by rfl) rfl rfl MT ?_
        with_reducible refine (laws_eqSa.calls k1 ((rd_T50 l0 aA).f0) ((rd_T50 l0 aA).f1) ((rd_T50 l0 aA).f2) ((rd_T50 l0 aA).f3) ((rd_T50 l0 aA).f4) ((rd_T50 l0 aA).f5) ((rd_T50 l0 aA).f6) ((rd_T50 l0 aA).f7) ((rd_T50 l0 aA).f8) ((rd_T50 l0 aA).f9.f0) _ _ ((rd_T50 l0 aA).f9.f1) ((rd_T50 l1 aA).f0) ((rd_T50 l1 aA).f1) ((rd_T50 l1 aA).f2) ((rd_T50 l1 aA).f3) ((rd_T50 l1 aA).f4) ((rd_T50 l1 aA).f5) ((rd_T50 l1 aA).f6) ((rd_T50 l1 aA).f7) ((rd_T50 l1 aA).f8) ((rd_T50 l1 aA).f9.f0) _ _ ((rd_T50 l1 aA).f9.f1) true _ ?_ ?_ ?_ ?_ A7.out).mono ?_
        exact KD bC HB
        exact cG.out
        exact KD bG HB
        exact cH.out
        rintro e dB ⟨rfl, hb⟩
        refine ⟨_, rfl, ?_⟩
        replace HB := bl (KL HB) hb
        (try clear hb)
        (try clear hb2)
        (try clear hk)
        (try clear hi)
        refine hK.out _ _ ⟨(CY HB.out bS), (CY HB.out bR), (CY HB.out bQ), (CY HB.out bP), (CY HB.out bO), (CY HB.out bN), (CY HB.out bM), (CY HB.out bL), (CY HB.out bK), (CY HB.out bJ), (CY HB.out bB), (CY HB.out cE), (CY HB.out cD), (CY HB.out cC), (CY HB.out cB), (CY HB.out cA), (CY HB.out bZ), (CY HB.out bY), (CY HB.out bX), (CY HB.out bW), (CY HB.out bV), (CY HB.out bF)⟩ (fun cF => ?_)
        clear hK K
        refine nm (some 25) ?_
        refine pv cI 9 26 (tf 10 0) ?_
        refine done_ (done_of cI.out (by kernel_rfl)) ?_
        try go_wp2
        go_roundg k1
        case measure => have := HK1.out; omega
        case rel => exact ⟨(wrap64 (aA + 1)), (by first | rfl | (simp; done) | (simp [*]; done)), H', ⟨by have := HK1.out; omega⟩, ⟨KL HB⟩⟩
       ·replace c8 := Bool.eq_false_iff.mpr c8
        subst c8
        have H1 := nf H
        clear H
        have H := H1
        clear H1
        obtain rfl := sj H
        try go_wp2
        replace HB := am (below_drew1 HB.out)
        have cJ : 0 ≤ (aA : Int) := OD
        have cK : aA < (l0.length : Int) := OD
        obtain ⟨aB, bH, bI, cN, aF, aG, aH, aI, aJ, aK, aL, aM, aN, aO, aD, aZ, bA⟩ := at_T50 cV.out aA cJ cK
        have bB := aD
        have bJ := aO
        have bK := aN
        have bL := aM
        have bM := aL
        have bN := aK
        have bO := aJ
        have bP := aI
        have bQ := aH
        have bR := aG
        have bS := aF
        cases cN
        replace aF := CX HB.out aF
        replace aG := CX HB.out aG
        replace aH := CX HB.out aH
        replace aI := CX HB.out aI
        replace aJ := CX HB.out aJ
        replace aK := CX HB.out aK
        replace aL := CX HB.out aL
        replace aM := CX HB.out aM
        replace aN := CX HB.out aN
        replace aO := CX HB.out aO
        replace aD := CX HB.out aD
        have bC := Aside0.mk bA
        have cG := Aside0.mk aZ
        clear bA aZ
        replace cJ := eq_true cJ
        replace cK := eq_true cK
        have cL : 0 ≤ (aA : Int) := OD
        have cM : aA < (l1.length : Int) := OD
        obtain ⟨aC, bT, bU, cO, aP, aQ, aR, aS, aT, aU, aV, aW, aX, aY, aE, bD, bE⟩ := at_T50 cW.out aA cL cM
        have bF := aE
        have bV := aY
        have bW := aX
        have bX := aW
        have bY := aV
        have bZ := aU
        have cA := aT
        have cB := aS
        have cC := aR
        have cD := aQ
        have cE := aP
        cases cO
        replace aP := CX HB.out aP
        replace aQ := CX HB.out aQ
        replace aR := CX HB.out aR
        replace aS := CX HB.out aS
        replace aT := CX HB.out aT
        replace aU := CX HB.out aU
        replace aV := CX HB.out aV
        replace aW := CX HB.out aW
        replace aX := CX HB.out aX
        replace aY := CX HB.out aY
        replace aE := CX HB.out aE
        have bG := Aside0.mk bE
        have cH := Aside0.mk bD
        clear bE bD
        replace cL := eq_true cL
        replace cM := eq_true cM
        refine start_ (n := 10) (S := fun w' => w'.cell? (aB.add ((aA).toNat * 11)) = some (.int .i64 ((rd_T50 l0 aA).f0)) ∧ w'.cell? ⟨(aB.add ((aA).toNat * 11)).block, (aB.add ((aA).toNat * 11)).off + 1, none⟩ = some (.int .i64 ((rd_T50 l0 aA).f1)) ∧ w'.cell? ⟨(aB.add ((aA).toNat * 11)).block, (aB.add ((aA).toNat * 11)).off + 2, none⟩ = some (.string ((rd_T50 l0 aA).f2)) ∧ w'.cell? ⟨(aB.add ((aA).toNat * 11)).block, (aB.add ((aA).toNat * 11)).off + 3, none⟩ = some (.string ((rd_T50 l0 aA).f3)) ∧ w'.cell? ⟨(aB.add ((aA).toNat * 11)).block, (aB.add ((aA).toNat * 11)).off + 4, none⟩ = some (.int .i64 ((rd_T50 l0 aA).f4)) ∧ w'.cell? ⟨(aB.add ((aA).toNat * 11)).block, (aB.add ((aA).toNat * 11)).off + 5, none⟩ = some (.int .i64 ((rd_T50 l0 aA).f5)) ∧ w'.cell? ⟨(aB.add ((aA).toNat * 11)).block, (aB.add ((aA).toNat * 11)).off + 6, none⟩ = some (.int .i64 ((rd_T50 l0 aA).f6)) ∧ w'.cell? ⟨(aB.add ((aA).toNat * 11)).block, (aB.add ((aA).toNat * 11)).off + 7, none⟩ = some (.int .i64 ((rd_T50 l0 aA).f7)) ∧ w'.cell? ⟨(aB.add ((aA).toNat * 11)).block, (aB.add ((aA).toNat * 11)).off + 8, none⟩ = some (.int .i64 ((rd_T50 l0 aA).f8)) ∧ w'.cell? ⟨(aB.add ((aA).toNat * 11)).block, (aB.add ((aA).toNat * 11)).off + 9, none⟩ = some (.int .i64 ((rd_T50 l0 aA).f9.f0)) ∧ w'.cell? ⟨(aB.add ((aA).toNat * 11)).block, (aB.add ((aA).toNat * 11)).off + 10, none⟩ = some (.slice bH ((rd_T50 l0 aA).f9.f1).length bI) ∧ w'.cell? (aC.add ((aA).toNat * 11)) = some (.int .i64 ((rd_T50 l1 aA).f0)) ∧ w'.cell? ⟨(aC.add ((aA).toNat * 11)).block, (aC.add ((aA).toNat * 11)).off + 1, none⟩ = some (.int .i64 ((rd_T50 l1 aA).f1)) ∧ w'.cell? ⟨(aC.add ((aA).toNat * 11)).block, (aC.add ((aA).toNat * 11)).off + 2, none⟩ = some (.string ((rd_T50 l1 aA).f2)) ∧ w'.cell? ⟨(aC.add ((aA).toNat * 11)).block, (aC.add ((aA).toNat * 11)).off + 3, none⟩ = some (.string ((rd_T50 l1 aA).f3)) ∧ w'.cell? ⟨(aC.add ((aA).toNat * 11)).block, (aC.add ((aA).toNat * 11)).off + 4, none⟩ = some (.int .i64 ((rd_T50 l1 aA).f4)) ∧ w'.cell? ⟨(aC.add ((aA).toNat * 11)).block, (aC.add ((aA).toNat * 11)).off + 5, none⟩ = some (.int .i64 ((rd_T50 l1 aA).f5)) ∧ w'.cell? ⟨(aC.add ((aA).toNat * 11)).block, (aC.add ((aA).toNat * 11)).off + 6, none⟩ = some (.int .i64 ((rd_T50 l1 aA).f6)) ∧ w'.cell? ⟨(aC.add ((aA).toNat * 11)).block, (aC.add ((aA).toNat * 11)).off + 7, none⟩ = some (.int .i64 ((rd_T50 l1 aA).f7)) ∧ w'.cell? ⟨(aC.add ((aA).toNat * 11)).block, (aC.add ((aA).toNat * 11)).off + 8, none⟩ = some (.int .i64 ((rd_T50 l1 aA).f8)) ∧ w'.cell? ⟨(aC.add ((aA).toNat * 11)).block, (aC.add ((aA).toNat * 11)).off + 9, none⟩ = some (.int .i64 ((rd_T50 l1 aA).f9.f0)) ∧ w'.cell? ⟨(aC.add ((aA).toNat * 11)).block, (aC.add ((aA).toNat * 11)).off + 10, none⟩ = some (.slice bT ((rd_T50 l1 aA).f9.f1).length bU)) (ds := []) (tf 0 10) (by kernel_rfl) rfl rfl ⟨(CY HB.out bS), (CY HB.out bR), (CY HB.out bQ), (CY HB.out bP), (CY HB.out bO), (CY HB.out bN), (CY HB.out bM), (CY HB.out bL), (CY HB.out bK), (CY HB.out bJ), (CY HB.out bB), (CY HB.out cE), (CY HB.out cD), (CY HB.out cC), (CY HB.out cB), (CY HB.out cA), (CY HB.out bZ), (CY HB.out bY), (CY HB.out bX), (CY HB.out bW), (CY HB.out bV), (CY HB.out bF)⟩ (fun cF => ?_); refine with_tabW laws_eqSaS.tab6 laws_eqSaS.bits6 (fun cI cQ => ?_)
        generalize wr.drew = dC at HB bC bG aF aG aD aH aI aJ aK aL aM aN aO aP aQ aE aR aS aT aU aV aW aX aY cF ⊢
        refine pv cI 0 17 (tf 1 9) ?_
        refine pv cI 1 18 (tf 2 8) ?_
        refine pv cI 2 19 (tf 3 7) ?_
        refine pv cI 4 21 (tr [3, 1, 1, 5]) ?_
        refine pv cI 5 22 (tr [3, 1, 2, 4]) ?_
        refine pv cI 6 23 (tr [3, 1, 3, 3]) ?_
        refine tk 3 (some 20) (tf 7 3) (take_ofW cI.out cQ.out (by kernel_rfl)) cF ?_
        refine tk 7 (some 24) (tf 8 2) (take_ofW cI.out cQ.out (by kernel_rfl)) cF ?_
        refine one_ (i := 8) (N := some 25) (tf 9 1) rfl rfl (one_of cI.out (by kernel_rfl)) (by decide) (fun K hK => ?_)
        refine goes_ Tryz.func55 (by kernel_rfl) rfl #[.agg #[.int .i64 ((rd_T50 l0 aA).f0), .int .i64 ((rd_T50 l0 aA).f1), .string ((rd_T50 l0 aA).f2), .string ((rd_T50 l0 aA).f3), .int .i64 ((rd_T50 l0 aA).f4), .int .i64 ((rd_T50 l0 aA).f5), .int .i64 ((rd_T50 l0 aA).f6), .int .i64 ((rd_T50 l0 aA).f7), .int .i64 ((rd_T50 l0 aA).f8), .int .i64 ((rd_T50 l0 aA).f9.f0), .slice bH ((rd_T50 l0 aA).f9.f1).length bI], .agg #[.int .i64 ((rd_T50 l1 aA).f0), .int .i64 ((rd_T50 l1 aA).f1), .string ((rd_T50 l1 aA).f2), .string ((rd_T50 l1 aA).f3), .int .i64 ((rd_T50 l1 aA).f4), .int .i64 ((rd_T50 l1 aA).f5), .int .i64 ((rd_T50 l1 aA).f6), .int .i64 ((rd_T50 l1 aA).f7), .int .i64 ((rd_T50 l1 aA).f8), .int .i64 ((rd_T50 l1 aA).f9.f0), .slice bT ((rd_T50 l1 aA).f9.f1).length bU]] (by rfl) rfl rfl MT ?_
        with_reducible refine (laws_eqSa.calls k1 ((rd_T50 l0 aA).f0) ((rd_T50 l0 aA).f1) ((rd_T50 l0 aA).f2) ((rd_T50 l0 aA).f3) ((rd_T50 l0 aA).f4) ((rd_T50 l0 aA).f5) ((rd_T50 l0 aA).f6) ((rd_T50 l0 aA).f7) ((rd_T50 l0 aA).f8) ((rd_T50 l0 aA).f9.f0) _ _ ((rd_T50 l0 aA).f9.f1) ((rd_T50 l1 aA).f0) ((rd_T50 l1 aA).f1) ((rd_T50 l1 aA).f2) ((rd_T50 l1 aA).f3) ((rd_T50 l1 aA).f4) ((rd_T50 l1 aA).f5) ((rd_T50 l1 aA).f6) ((rd_T50 l1 aA).f7) ((rd_T50 l1 aA).f8) ((rd_T50 l1 aA).f9.f0) _ _ ((rd_T50 l1 aA).f9.f1) false _ ?_ ?_ ?_ ?_ A7.out).mono ?_
        exact KD bC HB
        exact cG.out
        exact KD bG HB
        exact cH.out
        rintro e dD ⟨rfl, hb⟩
        refine ⟨_, rfl, ?_⟩
        replace HB := bl (KL HB) hb
        (try clear hb)
        (try clear hb2)
        (try clear hk)
        (try clear hi)
        refine hK.out _ _ ⟨(CY HB.out bS), (CY HB.out bR), (CY HB.out bQ), (CY HB.out bP), (CY HB.out bO), (CY HB.out bN), (CY HB.out bM), (CY HB.out bL), (CY HB.out bK), (CY HB.out bJ), (CY HB.out bB), (CY HB.out cE), (CY HB.out cD), (CY HB.out cC), (CY HB.out cB), (CY HB.out cA), (CY HB.out bZ), (CY HB.out bY), (CY HB.out bX), (CY HB.out bW), (CY HB.out bV), (CY HB.out bF)⟩ (fun cF => ?_)
        clear hK K
        refine nm (some 25) ?_
        refine pv cI 9 26 (tf 10 0) ?_
        refine done_ (done_of cI.out (by kernel_rfl)) ?_
        try go_wp2
        go_ret
        exact ⟨ER, KL HB⟩
      ·rw [if_neg c6] at H
       exact absurd H (by simp)
     ·rw [if_neg c5] at H
      exact absurd H (by simp)
    ·rw [if_neg c4] at H
     have c4b0 : decide (aA < (l0.length : Int)) = false := decide_eq_false c4
     clear c4
     obtain rfl := sj H
     go_wp2
     go_ret
     exact ⟨ER, KL HB⟩
 ·rw [if_neg c3] at H
  have c3b0 : ((l0.length : Int) == (l1.length : Int)) = false := beq_eq_false_iff_ne.mpr c3
  have c3b1 : ((l0.length : Int) != (l1.length : Int)) = true := bne_iff_ne.mpr c3
  have c3b2 : (l0.length == l1.length) = false := by first | simpa using c3 | (simp at c3 ⊢; omega)
  obtain rfl := sj H
  go_enter Tryz.func27, Tryz.ntmps27
  go_wp2
  go_ret
  exact ⟨ER, KL HB⟩
def laws_szRuleS.f (l0 : List (S81)) (a1 : Int) : Option (Int) := if (wrap64 (a1 - (l0.length : Int))) < 0 then (some (-1)) else (some (wrap64 (a1 - (l0.length : Int))))
theorem laws_szRuleS.calls (A0 : Option Addr) (c0 : Nat) (l0 : List (S81)) (a1 : Int) (r : Int) (w : World) (aA : Kd.C k81 w A0 l0.length l0) (aB : l0.length ≤ c0) (h : laws_szRuleS.f l0 a1 = some r) :
  Calls Tryz.prog 11 #[.slice A0 l0.length c0, .int .i64 a1] w fun e w' => e = .returned (.int .i64 r) ∧ Drawn0 w w' := by
 have aC := Aside0.mk aA
 have aD := Aside0.mk aB
 clear aA aB
 have H : (if (wrap64 (a1 - (l0.length : Int))) < 0 then (some (-1)) else (some (wrap64 (a1 - (l0.length : Int))))) = some r := h
 clear h
 by_cases c3 : (wrap64 (a1 - (l0.length : Int))) < 0
 ·rw [if_pos c3] at H
  have c3b0 : decide ((wrap64 (a1 - (l0.length : Int))) < 0) = true := decide_eq_true c3
  clear c3
  obtain rfl := sj H
  go_enter Tryz.func11, Tryz.ntmps11
  go_wp2
  go_ret
  exact ⟨by first | rfl | (simp; done) | (simp [*]; done), by repeat (first | exact Drawn0.refl _ | apply Drawn0.step)⟩
 ·rw [if_neg c3] at H
  have c3b0 : decide ((wrap64 (a1 - (l0.length : Int))) < 0) = false := decide_eq_false c3
  clear c3
  obtain rfl := sj H
  go_enter Tryz.func11, Tryz.ntmps11
  go_wp2
  go_ret
  exact ⟨by first | rfl | (simp; done) | (simp [*]; done), by repeat (first | exact Drawn0.refl _ | apply Drawn0.step)⟩
def laws_szSeenS.f (l0 : List (S109)) (a1 : Int) : Option (Int) := if (wrap64 (a1 - (l0.length : Int))) < 0 then (some (-1)) else (some (wrap64 (a1 - (l0.length : Int))))
theorem laws_szSeenS.calls (A0 : Option Addr) (c0 : Nat) (l0 : List (S109)) (a1 : Int) (r : Int) (w : World) (aA : Kd.C k109 w A0 l0.length l0) (aB : l0.length ≤ c0) (h : laws_szSeenS.f l0 a1 = some r) :
  Calls Tryz.prog 34 #[.slice A0 l0.length c0, .int .i64 a1] w fun e w' => e = .returned (.int .i64 r) ∧ Drawn0 w w' := by
 have aC := Aside0.mk aA
 have aD := Aside0.mk aB
 clear aA aB
 have H : (if (wrap64 (a1 - (l0.length : Int))) < 0 then (some (-1)) else (some (wrap64 (a1 - (l0.length : Int))))) = some r := h
 clear h
 by_cases c3 : (wrap64 (a1 - (l0.length : Int))) < 0
 ·rw [if_pos c3] at H
  have c3b0 : decide ((wrap64 (a1 - (l0.length : Int))) < 0) = true := decide_eq_true c3
  clear c3
  obtain rfl := sj H
  go_enter Tryz.func34, Tryz.ntmps34
  go_wp2
  go_ret
  exact ⟨by first | rfl | (simp; done) | (simp [*]; done), by repeat (first | exact Drawn0.refl _ | apply Drawn0.step)⟩
 ·rw [if_neg c3] at H
  have c3b0 : decide ((wrap64 (a1 - (l0.length : Int))) < 0) = false := decide_eq_false c3
  clear c3
  obtain rfl := sj H
  go_enter Tryz.func34, Tryz.ntmps34
  go_wp2
  go_ret
  exact ⟨by first | rfl | (simp; done) | (simp [*]; done), by repeat (first | exact Drawn0.refl _ | apply Drawn0.step)⟩
def laws_szCache.f (a0_0 : Int) (l0_1 : List (S109)) (a1 : Int) : Option (Int) := (laws_szSeenS.f l0_1 a1).bind fun t102 => (if t102 < 0 then (some (-1)) else (some t102))
theorem laws_szCache.calls (aI : Int) (aC : Option Addr) (aD : Nat) (aA : List (S109)) (a1 : Int) (r : Int) (w : World) (aJ : Kd.C k109 w aC aA.length aA) (aK : aA.length ≤ aD) (h : laws_szCache.f aI aA a1 = some r) :
  Calls Tryz.prog 12 #[.agg #[.int .i64 aI, .slice aC aA.length aD], .int .i64 a1] w fun e w' => e = .returned (.int .i64 r) ∧ Below w.heap.size w w' := by
 have aV := Tryz.underlying25
 have aL := Aside0.mk aJ
 have aM := Aside0.mk aK
 clear aJ aK
 have HB := am (Below.refl w.heap.size w)
 have H : ((laws_szSeenS.f aA a1).bind fun aB => (if aB < 0 then (some (-1)) else (some aB))) = some r := h
 clear h
 replace H := bm H
 obtain ⟨aB, aU, H⟩ := H
 replace H : (if aB < 0 then (some (-1)) else (some aB)) = some r := H
 have A3 := Aside0.mk aU
 clear aU
 by_cases c4 : aB < 0
 ·rw [if_pos c4] at H
  have c4b0 : decide (aB < 0) = true := decide_eq_true c4
  clear c4
  obtain rfl := sj H
  go_enter Tryz.func12, Tryz.ntmps12
  go_wp2_with (first | ((with_reducible refine gate_dst (N := 2) rfl ?_); refine box_event rfl (N := 2) rfl (cs := #[.int .i64 aI, .slice aC aA.length aD]) (t := 25) BX ?_; intro aN hg w5 aE hb; have aF := am (aE); have aG := am (GH HB hg); have aH := aG; replace HB := bl (KL HB) hb; clear hb aE hg; have ⟨_, _, _⟩ := y2 w5 aF.out) | ((with_reducible refine gate_callee (f := 34) rfl ?_); refine goesL_ (some 8) rfl rfl Tryz.func34 (by kernel_rfl) rfl #[.slice aC aA.length aD, .int .i64 a1] rfl MT ?_; (with_reducible refine (laws_szSeenS.calls _ _ aA a1 aB _ ?_ ?_ A3.out).mono ?_); exact KD aL HB; exact aM.out; rintro e w' ⟨rfl, ⟨nd, rfl⟩⟩; refine ⟨_, rfl, ?_⟩))
  go_ret
  exact ⟨ER, K1 HB aH.out⟩
 ·rw [if_neg c4] at H
  have c4b0 : decide (aB < 0) = false := decide_eq_false c4
  clear c4
  obtain rfl := sj H
  go_enter Tryz.func12, Tryz.ntmps12
  go_wp2_with (first | ((with_reducible refine gate_dst (N := 2) rfl ?_); refine box_event rfl (N := 2) rfl (cs := #[.int .i64 aI, .slice aC aA.length aD]) (t := 25) BX ?_; intro aN hg w7 aE hb; have aF := am (aE); have aG := am (GH HB hg); have aH := aG; replace HB := bl (KL HB) hb; clear hb aE hg; have ⟨_, _, _⟩ := y2 w7 aF.out) | ((with_reducible refine gate_callee (f := 34) rfl ?_); refine goesL_ (some 8) rfl rfl Tryz.func34 (by kernel_rfl) rfl #[.slice aC aA.length aD, .int .i64 a1] rfl MT ?_; (with_reducible refine (laws_szSeenS.calls _ _ aA a1 aB _ ?_ ?_ A3.out).mono ?_); exact KD aL HB; exact aM.out; rintro e w' ⟨rfl, ⟨nd, rfl⟩⟩; refine ⟨_, rfl, ?_⟩))
  go_ret
  exact ⟨ER, K1 HB aH.out⟩
def laws_szIntS.f (l0 : List Int) (a1 : Int) : Option (Int) := if (wrap64 (a1 - (l0.length : Int))) < 0 then (some (-1)) else (some (wrap64 (a1 - (l0.length : Int))))
theorem laws_szIntS.calls (A0 : Option Addr) (c0 : Nat) (l0 : List Int) (a1 : Int) (r : Int) (w : World) (aA : Kd.C (Kd.int .i64) w A0 l0.length l0) (aB : l0.length ≤ c0) (h : laws_szIntS.f l0 a1 = some r) :
  Calls Tryz.prog 80 #[.slice A0 l0.length c0, .int .i64 a1] w fun e w' => e = .returned (.int .i64 r) ∧ Drawn0 w w' := by
 have aC := Aside0.mk aA
 have aD := Aside0.mk aB
 clear aA aB
 have H : (if (wrap64 (a1 - (l0.length : Int))) < 0 then (some (-1)) else (some (wrap64 (a1 - (l0.length : Int))))) = some r := h
 clear h
 by_cases c3 : (wrap64 (a1 - (l0.length : Int))) < 0
 ·rw [if_pos c3] at H
  have c3b0 : decide ((wrap64 (a1 - (l0.length : Int))) < 0) = true := decide_eq_true c3
  clear c3
  obtain rfl := sj H
  go_enter Tryz.func80, Tryz.ntmps80
  go_wp2
  go_ret
  exact ⟨by first | rfl | (simp; done) | (simp [*]; done), by repeat (first | exact Drawn0.refl _ | apply Drawn0.step)⟩
 ·rw [if_neg c3] at H
  have c3b0 : decide ((wrap64 (a1 - (l0.length : Int))) < 0) = false := decide_eq_false c3
  clear c3
  obtain rfl := sj H
  go_enter Tryz.func80, Tryz.ntmps80
  go_wp2
  go_ret
  exact ⟨by first | rfl | (simp; done) | (simp [*]; done), by repeat (first | exact Drawn0.refl _ | apply Drawn0.step)⟩
def laws_szWindow.f (a0_0 : Int) (l0_1 : List Int) (a1 : Int) : Option (Int) := (laws_szIntS.f l0_1 a1).bind fun t102 => (if t102 < 0 then (some (-1)) else (some t102))
theorem laws_szWindow.calls (aI : Int) (aC : Option Addr) (aD : Nat) (aA : List Int) (a1 : Int) (r : Int) (w : World) (aJ : Kd.C (Kd.int .i64) w aC aA.length aA) (aK : aA.length ≤ aD) (h : laws_szWindow.f aI aA a1 = some r) :
  Calls Tryz.prog 61 #[.agg #[.int .i64 aI, .slice aC aA.length aD], .int .i64 a1] w fun e w' => e = .returned (.int .i64 r) ∧ Below w.heap.size w w' := by
 have aV := Tryz.underlying67
 have aL := Aside0.mk aJ
 have aM := Aside0.mk aK
 clear aJ aK
 have HB := am (Below.refl w.heap.size w)
 have H : ((laws_szIntS.f aA a1).bind fun aB => (if aB < 0 then (some (-1)) else (some aB))) = some r := h
 clear h
 replace H := bm H
 obtain ⟨aB, aU, H⟩ := H
 replace H : (if aB < 0 then (some (-1)) else (some aB)) = some r := H
 have A3 := Aside0.mk aU
 clear aU
 by_cases c4 : aB < 0
 ·rw [if_pos c4] at H
  have c4b0 : decide (aB < 0) = true := decide_eq_true c4
  clear c4
  obtain rfl := sj H
  go_enter Tryz.func61, Tryz.ntmps61
  go_wp2_with (first | ((with_reducible refine gate_dst (N := 2) rfl ?_); refine box_event rfl (N := 2) rfl (cs := #[.int .i64 aI, .slice aC aA.length aD]) (t := 67) BX ?_; intro aN hg w5 aE hb; have aF := am (aE); have aG := am (GH HB hg); have aH := aG; replace HB := bl (KL HB) hb; clear hb aE hg; have ⟨_, _, _⟩ := y2 w5 aF.out) | ((with_reducible refine gate_callee (f := 80) rfl ?_); refine goesL_ (some 8) rfl rfl Tryz.func80 (by kernel_rfl) rfl #[.slice aC aA.length aD, .int .i64 a1] rfl MT ?_; (with_reducible refine (laws_szIntS.calls _ _ aA a1 aB _ ?_ ?_ A3.out).mono ?_); exact KD aL HB; exact aM.out; rintro e w' ⟨rfl, ⟨nd, rfl⟩⟩; refine ⟨_, rfl, ?_⟩))
  go_ret
  exact ⟨ER, K1 HB aH.out⟩
 ·rw [if_neg c4] at H
  have c4b0 : decide (aB < 0) = false := decide_eq_false c4
  clear c4
  obtain rfl := sj H
  go_enter Tryz.func61, Tryz.ntmps61
  go_wp2_with (first | ((with_reducible refine gate_dst (N := 2) rfl ?_); refine box_event rfl (N := 2) rfl (cs := #[.int .i64 aI, .slice aC aA.length aD]) (t := 67) BX ?_; intro aN hg w7 aE hb; have aF := am (aE); have aG := am (GH HB hg); have aH := aG; replace HB := bl (KL HB) hb; clear hb aE hg; have ⟨_, _, _⟩ := y2 w7 aF.out) | ((with_reducible refine gate_callee (f := 80) rfl ?_); refine goesL_ (some 8) rfl rfl Tryz.func80 (by kernel_rfl) rfl #[.slice aC aA.length aD, .int .i64 a1] rfl MT ?_; (with_reducible refine (laws_szIntS.calls _ _ aA a1 aB _ ?_ ?_ A3.out).mono ?_); exact KD aL HB; exact aM.out; rintro e w' ⟨rfl, ⟨nd, rfl⟩⟩; refine ⟨_, rfl, ?_⟩))
  go_ret
  exact ⟨ER, K1 HB aH.out⟩
def laws_szSa.f (a0_0 : Int) (a0_1 : Int) (a0_2 : ByteArray) (a0_3 : ByteArray) (a0_4 : Int) (a0_5 : Int) (a0_6 : Int) (a0_7 : Int) (a0_8 : Int) (a0_9 : Int) (l0_10 : List Int) (a1 : Int) : Option (Int) := if (wrap64 (a1 - (a0_2.size : Int))) < 0 then (some (-1)) else (if (wrap64 ((wrap64 (a1 - (a0_2.size : Int))) - (a0_3.size : Int))) < 0 then (some (-1)) else ((laws_szWindow.f a0_9 l0_10 (wrap64 ((wrap64 (a1 - (a0_2.size : Int))) - (a0_3.size : Int)))).bind fun t102 => (if t102 < 0 then (some (-1)) else (some t102))))
theorem laws_szSa.calls (aL : Int) (aM : Int) (aB : ByteArray) (aD : ByteArray) (aN : Int) (aO : Int) (aP : Int) (aQ : Int) (aR : Int) (aH : Int) (aF : Option Addr) (aG : Nat) (aA : List Int) (a1 : Int) (r : Int) (w : World) (aS : Kd.C (Kd.int .i64) w aF aA.length aA) (aT : aA.length ≤ aG) (h : laws_szSa.f aL aM aB aD aN aO aP aQ aR aH aA a1 = some r) :
  Calls Tryz.prog 35 #[.agg #[.int .i64 aL, .int .i64 aM, .string aB, .string aD, .int .i64 aN, .int .i64 aO, .int .i64 aP, .int .i64 aQ, .int .i64 aR, .int .i64 aH, .slice aF aA.length aG], .int .i64 a1] w fun e w' => e = .returned (.int .i64 r) ∧ Below w.heap.size w w' := by
 have cV := Tryz.underlying69
 have cW := Tryz.underlying67
 have aU := Aside0.mk aS
 have aV := Aside0.mk aT
 clear aS aT
 have HB := am (Below.refl w.heap.size w)
 have H : (if (wrap64 (a1 - (aB.size : Int))) < 0 then (some (-1)) else (if (wrap64 ((wrap64 (a1 - (aB.size : Int))) - (aD.size : Int))) < 0 then (some (-1)) else ((laws_szWindow.f aH aA (wrap64 ((wrap64 (a1 - (aB.size : Int))) - (aD.size : Int)))).bind fun aK => (if aK < 0 then (some (-1)) else (some aK))))) = some r := h
 clear h
 by_cases c3 : (wrap64 (a1 - (aB.size : Int))) < 0
 ·rw [if_pos c3] at H
  have c3b0 : decide ((wrap64 (a1 - (aB.size : Int))) < 0) = true := decide_eq_true c3
  clear c3
  obtain rfl := sj H
  go_enter Tryz.func35, Tryz.ntmps35
  go_wp2_with (first | ((with_reducible refine gate_dst (N := 2) rfl ?_); refine box_event rfl (N := 2) rfl (cs := #[.int .i64 aL, .int .i64 aM, .string aB, .string aD, .int .i64 aN, .int .i64 aO, .int .i64 aP, .int .i64 aQ, .int .i64 aR, .int .i64 aH, .slice aF aA.length aG]) (t := 69) BX ?_; intro aW hg w4 aI hb; have aC := am (aI); have aJ := am (GH HB hg); have aE := aJ; replace HB := bl (KL HB) hb; clear hb aI hg; have ⟨_, _, _, _, _, _, _, _, _, _, _, _⟩ := y11 w4 aC.out))
  go_ret
  exact ⟨ER, K1 HB aE.out⟩
 ·rw [if_neg c3] at H
  have c3b0 : decide ((wrap64 (a1 - (aB.size : Int))) < 0) = false := decide_eq_false c3
  clear c3
  by_cases c6 : (wrap64 ((wrap64 (a1 - (aB.size : Int))) - (aD.size : Int))) < 0
  ·rw [if_pos c6] at H
   have c6b0 : decide ((wrap64 ((wrap64 (a1 - (aB.size : Int))) - (aD.size : Int))) < 0) = true := decide_eq_true c6
   clear c6
   obtain rfl := sj H
   go_enter Tryz.func35, Tryz.ntmps35
   go_wp2_with (first | ((with_reducible refine gate_dst (N := 2) rfl ?_); refine box_event rfl (N := 2) rfl (cs := #[.int .i64 aL, .int .i64 aM, .string aB, .string aD, .int .i64 aN, .int .i64 aO, .int .i64 aP, .int .i64 aQ, .int .i64 aR, .int .i64 aH, .slice aF aA.length aG]) (t := 69) BX ?_; intro aW hg w7 aI hb; have aC := am (aI); have aJ := am (GH HB hg); have aE := aJ; replace HB := bl (KL HB) hb; clear hb aI hg; have ⟨_, _, _, _, _, _, _, _, _, _, _, _⟩ := y11 w7 aC.out))
   go_ret
   exact ⟨ER, K1 HB aE.out⟩
  ·rw [if_neg c6] at H
   have c6b0 : decide ((wrap64 ((wrap64 (a1 - (aB.size : Int))) - (aD.size : Int))) < 0) = false := decide_eq_false c6
   clear c6
   replace H := bm H
   obtain ⟨aK, cU, H⟩ := H
   replace H : (if aK < 0 then (some (-1)) else (some aK)) = some r := H
   have A9 := Aside0.mk cU
   clear cU
   by_cases aX : aK < 0
   ·rw [if_pos aX] at H
    have c10b0 : decide (aK < 0) = true := decide_eq_true aX
    clear aX
    obtain rfl := sj H
    go_enter Tryz.func35, Tryz.ntmps35
    go_wp2_with (first | ((with_reducible refine gate_dst (N := 2) rfl ?_); refine box_event rfl (N := 2) rfl (cs := #[.int .i64 aL, .int .i64 aM, .string aB, .string aD, .int .i64 aN, .int .i64 aO, .int .i64 aP, .int .i64 aQ, .int .i64 aR, .int .i64 aH, .slice aF aA.length aG]) (t := 69) BX ?_; intro aW hg cX aI hb; have aC := am (aI); have aJ := am (GH HB hg); have aE := aJ; replace HB := bl (KL HB) hb; clear hb aI hg; have ⟨_, _, _, _, _, _, _, _, _, _, _, _⟩ := y11 cX aC.out) | ((with_reducible refine gate_callee (f := 61) rfl ?_); refine goesL_ (some 22) rfl rfl Tryz.func61 (by kernel_rfl) rfl #[.agg #[.int .i64 aH, .slice aF aA.length aG], .int .i64 (wrap64 ((wrap64 (a1 - (aB.size : Int))) - (aD.size : Int)))] rfl MT ?_; (with_reducible refine (laws_szWindow.calls aH _ _ aA (wrap64 ((wrap64 (a1 - (aB.size : Int))) - (aD.size : Int))) aK _ ?_ ?_ A9.out).mono ?_); exact KD aU HB; exact aV.out; rintro e cZ ⟨rfl, hb⟩; refine ⟨_, rfl, ?_⟩; replace aC := am (BB aC hb); replace HB := bl (K1 HB aE.out) hb; (try clear hb)))
    go_ret
    exact ⟨ER, K1 HB aE.out⟩
   ·rw [if_neg aX] at H
    have c10b0 : decide (aK < 0) = false := decide_eq_false aX
    clear aX
    obtain rfl := sj H
    go_enter Tryz.func35, Tryz.ntmps35
    go_wp2_with (first | ((with_reducible refine gate_dst (N := 2) rfl ?_); refine box_event rfl (N := 2) rfl (cs := #[.int .i64 aL, .int .i64 aM, .string aB, .string aD, .int .i64 aN, .int .i64 aO, .int .i64 aP, .int .i64 aQ, .int .i64 aR, .int .i64 aH, .slice aF aA.length aG]) (t := 69) BX ?_; intro aW hg cY aI hb; have aC := am (aI); have aJ := am (GH HB hg); have aE := aJ; replace HB := bl (KL HB) hb; clear hb aI hg; have ⟨_, _, _, _, _, _, _, _, _, _, _, _⟩ := y11 cY aC.out) | ((with_reducible refine gate_callee (f := 61) rfl ?_); refine goesL_ (some 22) rfl rfl Tryz.func61 (by kernel_rfl) rfl #[.agg #[.int .i64 aH, .slice aF aA.length aG], .int .i64 (wrap64 ((wrap64 (a1 - (aB.size : Int))) - (aD.size : Int)))] rfl MT ?_; (with_reducible refine (laws_szWindow.calls aH _ _ aA (wrap64 ((wrap64 (a1 - (aB.size : Int))) - (aD.size : Int))) aK _ ?_ ?_ A9.out).mono ?_); exact KD aU HB; exact aV.out; rintro e dA ⟨rfl, hb⟩; refine ⟨_, rfl, ?_⟩; replace aC := am (BB aC hb); replace HB := bl (K1 HB aE.out) hb; (try clear hb)))
    go_ret
    exact ⟨ER, K1 HB aE.out⟩
def laws_szSaS.l0 : Nat → List (S69) → Int → Int → Option (Int)
 | 0, _, _, _ => none
 | k + 1, x0, x1, x5 => if x5 < (x0.length : Int) then (if 0 ≤ x5 then ((laws_szSa.f ((rd_T69 x0 x5).f0) ((rd_T69 x0 x5).f1) ((rd_T69 x0 x5).f2) ((rd_T69 x0 x5).f3) ((rd_T69 x0 x5).f4) ((rd_T69 x0 x5).f5) ((rd_T69 x0 x5).f6) ((rd_T69 x0 x5).f7) ((rd_T69 x0 x5).f8) ((rd_T69 x0 x5).f9.f0) ((rd_T69 x0 x5).f9.f1) x1).bind fun t102 => (if t102 < 0 then (some (-1)) else (laws_szSaS.l0 k x0 t102 (wrap64 (x5 + 1))))) else (none)) else (some x1)
def laws_szSaS.f (k : Nat) (l0 : List (S69)) (a1 : Int) : Option (Int) := if (wrap64 (a1 - (l0.length : Int))) < 0 then (some (-1)) else (laws_szSaS.l0 k l0 (wrap64 (a1 - (l0.length : Int))) 0)
theorem laws_szSaS.calls (k : Nat) (A0 : Option Addr) (c0 : Nat) (l0 : List (S69)) (a1 : Int) (r : Int) (w : World) (aY : Kd.C k69 w A0 l0.length l0) (aZ : l0.length ≤ c0) (h : laws_szSaS.f k l0 a1 = some r) :
  Calls Tryz.prog 13 #[.slice A0 l0.length c0, .int .i64 a1] w fun e w' => e = .returned (.int .i64 r) ∧ Below w.heap.size w w' := by
 have bC := Tryz.underlying69
 have bA := Aside0.mk aY
 have bD := Aside0.mk aZ
 clear aY aZ
 have HB := am (Below.refl w.heap.size w)
 have H : (if (wrap64 (a1 - (l0.length : Int))) < 0 then (some (-1)) else (laws_szSaS.l0 k l0 (wrap64 (a1 - (l0.length : Int))) 0)) = some r := h
 clear h
 by_cases c3 : (wrap64 (a1 - (l0.length : Int))) < 0
 ·rw [if_pos c3] at H
  have c3b0 : decide ((wrap64 (a1 - (l0.length : Int))) < 0) = true := decide_eq_true c3
  clear c3
  obtain rfl := sj H
  go_enter Tryz.func13, Tryz.ntmps13
  go_wp2
  go_ret
  exact ⟨ER, KL HB⟩
 ·rw [if_neg c3] at H
  have c3b0 : decide ((wrap64 (a1 - (l0.length : Int))) < 0) = false := decide_eq_false c3
  clear c3
  have H' := Aside0.mk H
  clear H
  go_enter Tryz.func13, Tryz.ntmps13
  go_wp2
  go_loopg [1, 5] k (fun kq v1 v5 w' => ∃ (aT : Int) (aA : Int), v1 = .int .i64 aT ∧ v5 = .int .i64 aA ∧ Aside0 (laws_szSaS.l0 kq l0 aT aA = some r) ∧ Aside0 (kq ≤ k) ∧ Aside0 (Below w.heap.size w w'))
  case atStart => exact ⟨(wrap64 (a1 - (l0.length : Int))), (0), (by first | rfl | (simp; done) | (simp [*]; done)), (by first | rfl | (simp; done) | (simp [*]; done)), H', ⟨Nat.le_refl _⟩, ⟨KL HB⟩⟩
  case round =>
   clear H'
   try clear c1
   try clear p2
   try clear c3
   try clear c3b0
   obtain ⟨aT, aA, rfl, rfl, HA, HK1, HB⟩ := hrel
   cases gk with
   | zero => exact absurd HA.out (by simp [laws_szSaS.l0])
   | succ k1 =>
    have H := HA.out
    clear HA
    simp only [laws_szSaS.l0] at H
    by_cases c4 : aA < (l0.length : Int)
    ·rw [if_pos c4] at H
     have c4b0 : decide (aA < (l0.length : Int)) = true := decide_eq_true c4
     clear c4
     by_cases c5 : 0 ≤ aA
     ·rw [if_pos c5] at H
      have c5b0 : decide (0 ≤ aA) = true := decide_eq_true c5
      clear c5
      replace H := bm H
      obtain ⟨aS, bB, H⟩ := H
      replace H : (if aS < 0 then (some (-1)) else (laws_szSaS.l0 k1 l0 aS (wrap64 (aA + 1)))) = some r := H
      have A6 := Aside0.mk bB
      clear bB
      by_cases c7 : aS < 0
      ·rw [if_pos c7] at H
       have c7b0 : decide (aS < 0) = true := decide_eq_true c7
       clear c7
       obtain rfl := sj H
       have aU : 0 ≤ (aA : Int) := OD
       have aV : aA < (l0.length : Int) := OD
       obtain ⟨aX, aQ, aR, aW, aE, aF, aG, aH, aI, aJ, aK, aL, aM, aN, aB, aC, aD⟩ := at_T69 bA.out aA aU aV
       cases aW
       replace aE := CX HB.out aE
       replace aF := CX HB.out aF
       replace aG := CX HB.out aG
       replace aH := CX HB.out aH
       replace aI := CX HB.out aI
       replace aJ := CX HB.out aJ
       replace aK := CX HB.out aK
       replace aL := CX HB.out aL
       replace aM := CX HB.out aM
       replace aN := CX HB.out aN
       replace aB := CX HB.out aB
       have aO := Aside0.mk aD
       have aP := Aside0.mk aC
       clear aD aC
       replace aU := eq_true aU
       replace aV := eq_true aV
       go_wp2_with (first | ((with_reducible refine gate_callee (f := 35) rfl ?_); refine goesL_ (some 23) rfl rfl Tryz.func35 (by kernel_rfl) rfl #[.agg #[.int .i64 ((rd_T69 l0 aA).f0), .int .i64 ((rd_T69 l0 aA).f1), .string ((rd_T69 l0 aA).f2), .string ((rd_T69 l0 aA).f3), .int .i64 ((rd_T69 l0 aA).f4), .int .i64 ((rd_T69 l0 aA).f5), .int .i64 ((rd_T69 l0 aA).f6), .int .i64 ((rd_T69 l0 aA).f7), .int .i64 ((rd_T69 l0 aA).f8), .int .i64 ((rd_T69 l0 aA).f9.f0), .slice aQ ((rd_T69 l0 aA).f9.f1).length aR], .int .i64 aT] rfl MT ?_; (with_reducible refine (laws_szSa.calls ((rd_T69 l0 aA).f0) ((rd_T69 l0 aA).f1) ((rd_T69 l0 aA).f2) ((rd_T69 l0 aA).f3) ((rd_T69 l0 aA).f4) ((rd_T69 l0 aA).f5) ((rd_T69 l0 aA).f6) ((rd_T69 l0 aA).f7) ((rd_T69 l0 aA).f8) ((rd_T69 l0 aA).f9.f0) _ _ ((rd_T69 l0 aA).f9.f1) aT aS _ ?_ ?_ A6.out).mono ?_); exact KD aO HB; exact aP.out; rintro e w8 ⟨rfl, hb⟩; refine ⟨_, rfl, ?_⟩; replace HB := bl (KL HB) hb; (try clear hb)))
       go_ret
       exact ⟨ER, KL HB⟩
      ·rw [if_neg c7] at H
       have c7b0 : decide (aS < 0) = false := decide_eq_false c7
       clear c7
       have H' := Aside0.mk H
       clear H
       have aU : 0 ≤ (aA : Int) := OD
       have aV : aA < (l0.length : Int) := OD
       obtain ⟨aX, aQ, aR, aW, aE, aF, aG, aH, aI, aJ, aK, aL, aM, aN, aB, aC, aD⟩ := at_T69 bA.out aA aU aV
       cases aW
       replace aE := CX HB.out aE
       replace aF := CX HB.out aF
       replace aG := CX HB.out aG
       replace aH := CX HB.out aH
       replace aI := CX HB.out aI
       replace aJ := CX HB.out aJ
       replace aK := CX HB.out aK
       replace aL := CX HB.out aL
       replace aM := CX HB.out aM
       replace aN := CX HB.out aN
       replace aB := CX HB.out aB
       have aO := Aside0.mk aD
       have aP := Aside0.mk aC
       clear aD aC
       replace aU := eq_true aU
       replace aV := eq_true aV
       go_wp2_with (first | ((with_reducible refine gate_callee (f := 35) rfl ?_); refine goesL_ (some 23) rfl rfl Tryz.func35 (by kernel_rfl) rfl #[.agg #[.int .i64 ((rd_T69 l0 aA).f0), .int .i64 ((rd_T69 l0 aA).f1), .string ((rd_T69 l0 aA).f2), .string ((rd_T69 l0 aA).f3), .int .i64 ((rd_T69 l0 aA).f4), .int .i64 ((rd_T69 l0 aA).f5), .int .i64 ((rd_T69 l0 aA).f6), .int .i64 ((rd_T69 l0 aA).f7), .int .i64 ((rd_T69 l0 aA).f8), .int .i64 ((rd_T69 l0 aA).f9.f0), .slice aQ ((rd_T69 l0 aA).f9.f1).length aR], .int .i64 aT] rfl MT ?_; (with_reducible refine (laws_szSa.calls ((rd_T69 l0 aA).f0) ((rd_T69 l0 aA).f1) ((rd_T69 l0 aA).f2) ((rd_T69 l0 aA).f3) ((rd_T69 l0 aA).f4) ((rd_T69 l0 aA).f5) ((rd_T69 l0 aA).f6) ((rd_T69 l0 aA).f7) ((rd_T69 l0 aA).f8) ((rd_T69 l0 aA).f9.f0) _ _ ((rd_T69 l0 aA).f9.f1) aT aS _ ?_ ?_ A6.out).mono ?_); exact KD aO HB; exact aP.out; rintro e w9 ⟨rfl, hb⟩; refine ⟨_, rfl, ?_⟩; replace HB := bl (KL HB) hb; (try clear hb)))
       go_roundg k1
       case measure => have := HK1.out; omega
       case rel => exact ⟨(aS), (wrap64 (aA + 1)), (by first | rfl | (simp; done) | (simp [*]; done)), (by first | rfl | (simp; done) | (simp [*]; done)), H', ⟨by have := HK1.out; omega⟩, ⟨KL HB⟩⟩
     ·rw [if_neg c5] at H
      exact absurd H (by simp)
    ·rw [if_neg c4] at H
     have c4b0 : decide (aA < (l0.length : Int)) = false := decide_eq_false c4
     clear c4
     obtain rfl := sj H
     go_wp2
     go_ret
     exact ⟨ER, KL HB⟩
def laws_szGate.f (k : Nat) (a0_0 : Int) (l0_1 : List (S81)) (a0_2 : Int) (l0_3 : List (S109)) (l0_4 : List (S69)) (l0_5 : List (S69)) (a1 : Int) : Option (Int) := (laws_szRuleS.f l0_1 a1).bind fun t102 => (if t102 < 0 then (some (-1)) else ((laws_szCache.f a0_2 l0_3 t102).bind fun t103 => (if t103 < 0 then (some (-1)) else ((laws_szSaS.f k l0_4 t103).bind fun t104 => (if t104 < 0 then (some (-1)) else ((laws_szSaS.f k l0_5 t104).bind fun t105 => (if t105 < 0 then (some (-1)) else (some t105))))))))
theorem laws_szGate.calls (k : Nat) (aX : Int) (aN : Option Addr) (aO : Nat) (aC : List (S81)) (aK : Int) (aP : Option Addr) (aQ : Nat) (aG : List (S109)) (aR : Option Addr) (aS : Nat) (aH : List (S69)) (aT : Option Addr) (aU : Nat) (aJ : List (S69)) (a1 : Int) (r : Int) (w : World) (bD : Kd.C k81 w aN aC.length aC) (bE : aC.length ≤ aO) (bF : Kd.C k109 w aP aG.length aG) (bG : aG.length ≤ aQ) (bH : Kd.C k69 w aR aH.length aH) (bI : aH.length ≤ aS) (bJ : Kd.C k69 w aT aJ.length aJ) (bK : aJ.length ≤ aU) (h : laws_szGate.f k aX aC aK aG aH aJ a1 = some r) :
  Calls Tryz.prog 4 #[.agg #[.int .i64 aX, .slice aN aC.length aO, .int .i64 aK, .slice aP aG.length aQ, .slice aR aH.length aS, .slice aT aJ.length aU], .int .i64 a1] w fun e w' => e = .returned (.int .i64 r) ∧ Below w.heap.size w w' := by
 have eN := Tryz.underlying28
 have eO := Tryz.underlying25
 have aV := Aside0.mk bD
 have aW := Aside0.mk bE
 clear bD bE
 have aY := Aside0.mk bF
 have aZ := Aside0.mk bG
 clear bF bG
 have bB := Aside0.mk bH
 have bC := Aside0.mk bI
 clear bH bI
 have bL := Aside0.mk bJ
 have bM := Aside0.mk bK
 clear bJ bK
 have HB := am (Below.refl w.heap.size w)
 have H : ((laws_szRuleS.f aC a1).bind fun aD => (if aD < 0 then (some (-1)) else ((laws_szCache.f aK aG aD).bind fun aE => (if aE < 0 then (some (-1)) else ((laws_szSaS.f k aH aE).bind fun aF => (if aF < 0 then (some (-1)) else ((laws_szSaS.f k aJ aF).bind fun aI => (if aI < 0 then (some (-1)) else (some aI))))))))) = some r := h
 clear h
 replace H := bm H
 obtain ⟨aD, eK, H⟩ := H
 replace H : (if aD < 0 then (some (-1)) else ((laws_szCache.f aK aG aD).bind fun aE => (if aE < 0 then (some (-1)) else ((laws_szSaS.f k aH aE).bind fun aF => (if aF < 0 then (some (-1)) else ((laws_szSaS.f k aJ aF).bind fun aI => (if aI < 0 then (some (-1)) else (some aI)))))))) = some r := H
 have A3 := Aside0.mk eK
 clear eK
 by_cases c4 : aD < 0
 ·rw [if_pos c4] at H
  have c4b0 : decide (aD < 0) = true := decide_eq_true c4
  clear c4
  obtain rfl := sj H
  go_enter Tryz.func4, Tryz.ntmps4
  go_wp2_with (first | ((with_reducible refine gate_dst (N := 2) rfl ?_); refine box_event rfl (N := 2) rfl (cs := #[.int .i64 aX, .slice aN aC.length aO, .int .i64 aK, .slice aP aG.length aQ, .slice aR aH.length aS, .slice aT aJ.length aU]) (t := 28) BX ?_; intro bA hg w5 aL hb; have aA := am (aL); have aM := am (GH HB hg); have aB := aM; replace HB := bl (KL HB) hb; clear hb aL hg; have ⟨_, _, _, _, _, _, _⟩ := y6 w5 aA.out) | ((with_reducible refine gate_callee (f := 11) rfl ?_); refine goesL_ (some 8) rfl rfl Tryz.func11 (by kernel_rfl) rfl #[.slice aN aC.length aO, .int .i64 a1] rfl MT ?_; (with_reducible refine (laws_szRuleS.calls _ _ aC a1 aD _ ?_ ?_ A3.out).mono ?_); exact KD aV HB; exact aW.out; rintro e w' ⟨rfl, ⟨nd, rfl⟩⟩; refine ⟨_, rfl, ?_⟩))
  go_ret
  exact ⟨ER, K1 HB aB.out⟩
 ·rw [if_neg c4] at H
  have c4b0 : decide (aD < 0) = false := decide_eq_false c4
  clear c4
  replace H := bm H
  obtain ⟨aE, eL, H⟩ := H
  replace H : (if aE < 0 then (some (-1)) else ((laws_szSaS.f k aH aE).bind fun aF => (if aF < 0 then (some (-1)) else ((laws_szSaS.f k aJ aF).bind fun aI => (if aI < 0 then (some (-1)) else (some aI)))))) = some r := H
  have A7 := Aside0.mk eL
  clear eL
  by_cases c8 : aE < 0
  ·rw [if_pos c8] at H
   have c8b0 : decide (aE < 0) = true := decide_eq_true c8
   clear c8
   obtain rfl := sj H
   go_enter Tryz.func4, Tryz.ntmps4
   go_wp2_with (first | ((with_reducible refine gate_dst (N := 2) rfl ?_); refine box_event rfl (N := 2) rfl (cs := #[.int .i64 aX, .slice aN aC.length aO, .int .i64 aK, .slice aP aG.length aQ, .slice aR aH.length aS, .slice aT aJ.length aU]) (t := 28) BX ?_; intro bA hg w9 aL hb; have aA := am (aL); have aM := am (GH HB hg); have aB := aM; replace HB := bl (KL HB) hb; clear hb aL hg; have ⟨_, _, _, _, _, _, _⟩ := y6 w9 aA.out) | ((with_reducible refine gate_callee (f := 11) rfl ?_); refine goesL_ (some 8) rfl rfl Tryz.func11 (by kernel_rfl) rfl #[.slice aN aC.length aO, .int .i64 a1] rfl MT ?_; (with_reducible refine (laws_szRuleS.calls _ _ aC a1 aD _ ?_ ?_ A3.out).mono ?_); exact KD aV HB; exact aW.out; rintro e w' ⟨rfl, ⟨nd, rfl⟩⟩; refine ⟨_, rfl, ?_⟩) | ((with_reducible refine gate_callee (f := 12) rfl ?_); refine goesL_ (some 14) rfl rfl Tryz.func12 (by kernel_rfl) rfl #[.agg #[.int .i64 aK, .slice aP aG.length aQ], .int .i64 aD] rfl MT ?_; (with_reducible refine (laws_szCache.calls aK _ _ aG aD aE _ ?_ ?_ A7.out).mono ?_); (repeat (first | exact (Kd.C_below aY.out (K1 HB aB.out)) | (with_reducible refine Kd.C_alloc ?_ _) | (with_reducible refine Kd.C_drewN ?_ _) | (with_reducible refine Kd.C_drew ?_))); exact aZ.out; rintro e eX ⟨rfl, hb⟩; refine ⟨_, rfl, ?_⟩; replace aA := am (BB aA hb); replace HB := bl (K1 HB aB.out) hb; (try clear hb)))
   go_ret
   exact ⟨ER, K1 HB aB.out⟩
  ·rw [if_neg c8] at H
   have c8b0 : decide (aE < 0) = false := decide_eq_false c8
   clear c8
   replace H := bm H
   obtain ⟨aF, bP, H⟩ := H
   replace H : (if aF < 0 then (some (-1)) else ((laws_szSaS.f k aJ aF).bind fun aI => (if aI < 0 then (some (-1)) else (some aI)))) = some r := H
   have eJ := Aside0.mk bP
   clear bP
   by_cases bN : aF < 0
   ·rw [if_pos bN] at H
    have c13b0 : decide (aF < 0) = true := decide_eq_true bN
    clear bN
    obtain rfl := sj H
    go_enter Tryz.func4, Tryz.ntmps4
    go_wp2_with (first | ((with_reducible refine gate_dst (N := 2) rfl ?_); refine box_event rfl (N := 2) rfl (cs := #[.int .i64 aX, .slice aN aC.length aO, .int .i64 aK, .slice aP aG.length aQ, .slice aR aH.length aS, .slice aT aJ.length aU]) (t := 28) BX ?_; intro bA hg eP aL hb; have aA := am (aL); have aM := am (GH HB hg); have aB := aM; replace HB := bl (KL HB) hb; clear hb aL hg; have ⟨_, _, _, _, _, _, _⟩ := y6 eP aA.out) | ((with_reducible refine gate_callee (f := 11) rfl ?_); refine goesL_ (some 8) rfl rfl Tryz.func11 (by kernel_rfl) rfl #[.slice aN aC.length aO, .int .i64 a1] rfl MT ?_; (with_reducible refine (laws_szRuleS.calls _ _ aC a1 aD _ ?_ ?_ A3.out).mono ?_); exact KD aV HB; exact aW.out; rintro e w' ⟨rfl, ⟨nd, rfl⟩⟩; refine ⟨_, rfl, ?_⟩) | ((with_reducible refine gate_callee (f := 12) rfl ?_); refine goesL_ (some 14) rfl rfl Tryz.func12 (by kernel_rfl) rfl #[.agg #[.int .i64 aK, .slice aP aG.length aQ], .int .i64 aD] rfl MT ?_; (with_reducible refine (laws_szCache.calls aK _ _ aG aD aE _ ?_ ?_ A7.out).mono ?_); (repeat (first | exact (Kd.C_below aY.out (K1 HB aB.out)) | (with_reducible refine Kd.C_alloc ?_ _) | (with_reducible refine Kd.C_drewN ?_ _) | (with_reducible refine Kd.C_drew ?_))); exact aZ.out; rintro e eQ ⟨rfl, hb⟩; refine ⟨_, rfl, ?_⟩; replace aA := am (BB aA hb); replace HB := bl (K1 HB aB.out) hb; (try clear hb); have ⟨_, _, _, _, _, _, _⟩ := y6 eQ aA.out) | ((with_reducible refine gate_callee (f := 13) rfl ?_); refine goesL_ (some 20) rfl rfl Tryz.func13 (by kernel_rfl) rfl #[.slice aR aH.length aS, .int .i64 aE] rfl MT ?_; (with_reducible refine (laws_szSaS.calls k _ _ aH aE aF _ ?_ ?_ eJ.out).mono ?_); exact KD bB HB; exact bC.out; rintro e eY ⟨rfl, hb⟩; refine ⟨_, rfl, ?_⟩; replace aA := am (BB aA hb); replace HB := bl (K1 HB aB.out) hb; (try clear hb)))
    go_ret
    exact ⟨ER, K1 HB aB.out⟩
   ·rw [if_neg bN] at H
    have c13b0 : decide (aF < 0) = false := decide_eq_false bN
    clear bN
    replace H := bm H
    obtain ⟨aI, bQ, H⟩ := H
    replace H : (if aI < 0 then (some (-1)) else (some aI)) = some r := H
    have eM := Aside0.mk bQ
    clear bQ
    by_cases bO : aI < 0
    ·rw [if_pos bO] at H
     have c20b0 : decide (aI < 0) = true := decide_eq_true bO
     clear bO
     obtain rfl := sj H
     go_enter Tryz.func4, Tryz.ntmps4
     go_wp2_with (first | ((with_reducible refine gate_dst (N := 2) rfl ?_); refine box_event rfl (N := 2) rfl (cs := #[.int .i64 aX, .slice aN aC.length aO, .int .i64 aK, .slice aP aG.length aQ, .slice aR aH.length aS, .slice aT aJ.length aU]) (t := 28) BX ?_; intro bA hg eR aL hb; have aA := am (aL); have aM := am (GH HB hg); have aB := aM; replace HB := bl (KL HB) hb; clear hb aL hg; have ⟨_, _, _, _, _, _, _⟩ := y6 eR aA.out) | ((with_reducible refine gate_callee (f := 11) rfl ?_); refine goesL_ (some 8) rfl rfl Tryz.func11 (by kernel_rfl) rfl #[.slice aN aC.length aO, .int .i64 a1] rfl MT ?_; (with_reducible refine (laws_szRuleS.calls _ _ aC a1 aD _ ?_ ?_ A3.out).mono ?_); exact KD aV HB; exact aW.out; rintro e w' ⟨rfl, ⟨nd, rfl⟩⟩; refine ⟨_, rfl, ?_⟩) | ((with_reducible refine gate_callee (f := 12) rfl ?_); refine goesL_ (some 14) rfl rfl Tryz.func12 (by kernel_rfl) rfl #[.agg #[.int .i64 aK, .slice aP aG.length aQ], .int .i64 aD] rfl MT ?_; (with_reducible refine (laws_szCache.calls aK _ _ aG aD aE _ ?_ ?_ A7.out).mono ?_); (repeat (first | exact (Kd.C_below aY.out (K1 HB aB.out)) | (with_reducible refine Kd.C_alloc ?_ _) | (with_reducible refine Kd.C_drewN ?_ _) | (with_reducible refine Kd.C_drew ?_))); exact aZ.out; rintro e eS ⟨rfl, hb⟩; refine ⟨_, rfl, ?_⟩; replace aA := am (BB aA hb); replace HB := bl (K1 HB aB.out) hb; (try clear hb); have ⟨_, _, _, _, _, _, _⟩ := y6 eS aA.out) | ((with_reducible refine gate_callee (f := 13) rfl ?_); refine goesL_ (some 20) rfl rfl Tryz.func13 (by kernel_rfl) rfl #[.slice aR aH.length aS, .int .i64 aE] rfl MT ?_; (with_reducible refine (laws_szSaS.calls k _ _ aH aE aF _ ?_ ?_ eJ.out).mono ?_); exact KD bB HB; exact bC.out; rintro e eT ⟨rfl, hb⟩; refine ⟨_, rfl, ?_⟩; replace aA := am (BB aA hb); replace HB := bl (K1 HB aB.out) hb; (try clear hb); have ⟨_, _, _, _, _, _, _⟩ := y6 eT aA.out) | ((with_reducible refine gate_callee (f := 13) rfl ?_); refine goesL_ (some 26) rfl rfl Tryz.func13 (by kernel_rfl) rfl #[.slice aT aJ.length aU, .int .i64 aF] rfl MT ?_; (with_reducible refine (laws_szSaS.calls k _ _ aJ aF aI _ ?_ ?_ eM.out).mono ?_); exact KD bL HB; exact bM.out; rintro e eZ ⟨rfl, hb⟩; refine ⟨_, rfl, ?_⟩; replace aA := am (BB aA hb); replace HB := bl (K1 HB aB.out) hb; (try clear hb)))
     go_ret
     exact ⟨ER, K1 HB aB.out⟩
    ·rw [if_neg bO] at H
     have c20b0 : decide (aI < 0) = false := decide_eq_false bO
     clear bO
     obtain rfl := sj H
     go_enter Tryz.func4, Tryz.ntmps4
     go_wp2_with (first | ((with_reducible refine gate_dst (N := 2) rfl ?_); refine box_event rfl (N := 2) rfl (cs := #[.int .i64 aX, .slice aN aC.length aO, .int .i64 aK, .slice aP aG.length aQ, .slice aR aH.length aS, .slice aT aJ.length aU]) (t := 28) BX ?_; intro bA hg eU aL hb; have aA := am (aL); have aM := am (GH HB hg); have aB := aM; replace HB := bl (KL HB) hb; clear hb aL hg; have ⟨_, _, _, _, _, _, _⟩ := y6 eU aA.out) | ((with_reducible refine gate_callee (f := 11) rfl ?_); refine goesL_ (some 8) rfl rfl Tryz.func11 (by kernel_rfl) rfl #[.slice aN aC.length aO, .int .i64 a1] rfl MT ?_; (with_reducible refine (laws_szRuleS.calls _ _ aC a1 aD _ ?_ ?_ A3.out).mono ?_); exact KD aV HB; exact aW.out; rintro e w' ⟨rfl, ⟨nd, rfl⟩⟩; refine ⟨_, rfl, ?_⟩) | ((with_reducible refine gate_callee (f := 12) rfl ?_); refine goesL_ (some 14) rfl rfl Tryz.func12 (by kernel_rfl) rfl #[.agg #[.int .i64 aK, .slice aP aG.length aQ], .int .i64 aD] rfl MT ?_; (with_reducible refine (laws_szCache.calls aK _ _ aG aD aE _ ?_ ?_ A7.out).mono ?_); (repeat (first | exact (Kd.C_below aY.out (K1 HB aB.out)) | (with_reducible refine Kd.C_alloc ?_ _) | (with_reducible refine Kd.C_drewN ?_ _) | (with_reducible refine Kd.C_drew ?_))); exact aZ.out; rintro e eV ⟨rfl, hb⟩; refine ⟨_, rfl, ?_⟩; replace aA := am (BB aA hb); replace HB := bl (K1 HB aB.out) hb; (try clear hb); have ⟨_, _, _, _, _, _, _⟩ := y6 eV aA.out) | ((with_reducible refine gate_callee (f := 13) rfl ?_); refine goesL_ (some 20) rfl rfl Tryz.func13 (by kernel_rfl) rfl #[.slice aR aH.length aS, .int .i64 aE] rfl MT ?_; (with_reducible refine (laws_szSaS.calls k _ _ aH aE aF _ ?_ ?_ eJ.out).mono ?_); exact KD bB HB; exact bC.out; rintro e eW ⟨rfl, hb⟩; refine ⟨_, rfl, ?_⟩; replace aA := am (BB aA hb); replace HB := bl (K1 HB aB.out) hb; (try clear hb); have ⟨_, _, _, _, _, _, _⟩ := y6 eW aA.out) | ((with_reducible refine gate_callee (f := 13) rfl ?_); refine goesL_ (some 26) rfl rfl Tryz.func13 (by kernel_rfl) rfl #[.slice aT aJ.length aU, .int .i64 aF] rfl MT ?_; (with_reducible refine (laws_szSaS.calls k _ _ aJ aF aI _ ?_ ?_ eM.out).mono ?_); exact KD bL HB; exact bM.out; rintro e fA ⟨rfl, hb⟩; refine ⟨_, rfl, ?_⟩; replace aA := am (BB aA hb); replace HB := bl (K1 HB aB.out) hb; (try clear hb)))
     go_ret
     exact ⟨ER, K1 HB aB.out⟩
def spec_l1In.f (a0 : Int) (a1 : Int) (a2 : Int) : Option (Bool) := if a0 ≥ a1 then (some (decide (a0 ≤ a2))) else (some false)
theorem spec_l1In.calls (a0 : Int) (a1 : Int) (a2 : Int) (r : Bool) (w : World) (h : spec_l1In.f a0 a1 a2 = some r) :
  Calls Tryz.prog 36 #[.int .i64 a0, .int .i64 a1, .int .i64 a2] w fun e w' => e = .returned (.bool r) ∧ Drawn0 w w' := by
 have H : (if a0 ≥ a1 then (some (decide (a0 ≤ a2))) else (some false)) = some r := h
 clear h
 by_cases c4 : a0 ≥ a1
 ·rw [if_pos c4] at H
  have c4b0 : decide (a1 ≤ a0) = true := decide_eq_true c4
  clear c4
  obtain rfl := sj H
  go_enter Tryz.func36, Tryz.ntmps36
  go_wp2
  go_ret
  exact ⟨by first | rfl | (simp; done) | (simp [*]; done), by repeat (first | exact Drawn0.refl _ | apply Drawn0.step)⟩
 ·rw [if_neg c4] at H
  have c4b0 : decide (a1 ≤ a0) = false := decide_eq_false c4
  clear c4
  obtain rfl := sj H
  go_enter Tryz.func36, Tryz.ntmps36
  go_wp2
  go_ret
  exact ⟨by first | rfl | (simp; done) | (simp [*]; done), by repeat (first | exact Drawn0.refl _ | apply Drawn0.step)⟩
theorem eqA89 (d : Nat) (w : World) (x0 y0 : Int) (x1 y1 : Int) (x2 y2 : Int) :
  (Op.equalIn (d + 2) 89 (.agg #[.int .i64 x0, .int .i64 x1, .int .i64 x2]) (.agg #[.int .i64 y0, .int .i64 y1, .int .i64 y2])).run Tryz.prog w = .ok (x0 == y0 && (x1 == y1 && (x2 == y2))) w := by
 refine eqA_of Tryz.underlying89 (by kernel_rfl) ?_
 refine eqf_cons (by rfl) (by go_simp; rfl) (by go_simp; rfl) (by go_simp) ?_
 refine eqf_cons (by rfl) (by go_simp; rfl) (by go_simp; rfl) (by go_simp) ?_
 exact eqf_last (by rfl) (by go_simp; rfl) (by go_simp; rfl) (by go_simp)
def spec_l1Two.l0 : Nat → Int → Int → Option (Int)
 | 0, _, _ => none
 | k + 1, x0, x3 => if x0 > 0 then (spec_l1Two.l0 k (wrap64 (x0 - 1)) (wrap64 (x3 * 2))) else (some x3)
def spec_l1Two.f (k : Nat) (a0 : Int) : Option (Int) := spec_l1Two.l0 k a0 1
theorem spec_l1Two.calls (k : Nat) (a0 : Int) (r : Int) (w : World) (h : spec_l1Two.f k a0 = some r) :
  Calls Tryz.prog 107 #[.int .i64 a0] w fun e w' => e = .returned (.int .i64 r) ∧ Drawn0 w w' := by
 have H : (spec_l1Two.l0 k a0 1) = some r := h
 clear h
 have H' := Aside0.mk H
 clear H
 go_enter Tryz.func107, Tryz.ntmps107
 go_wp2
 go_loopg [0, 3] k (fun kq v0 v3 w' => ∃ (aA : Int) (aB : Int), v0 = .int .i64 aA ∧ v3 = .int .i64 aB ∧ Aside0 (spec_l1Two.l0 kq aA aB = some r) ∧ Aside0 (kq ≤ k) ∧ Drawn0 w w')
 case atStart => exact ⟨(a0), (1), (by first | rfl | (simp; done) | (simp [*]; done)), (by first | rfl | (simp; done) | (simp [*]; done)), H', ⟨Nat.le_refl _⟩, by repeat (first | exact Drawn0.refl _ | apply Drawn0.step)⟩
 case round =>
  clear H'
  try clear c1
  obtain ⟨aA, aB, rfl, rfl, HA, HK1, ⟨m1, rfl⟩⟩ := hrel
  cases gk with
  | zero => exact absurd HA.out (by simp [spec_l1Two.l0])
  | succ k1 =>
   have H := HA.out
   clear HA
   simp only [spec_l1Two.l0] at H
   by_cases c2 : aA > 0
   ·rw [if_pos c2] at H
    have c2b0 : decide (0 < aA) = true := decide_eq_true c2
    clear c2
    have H' := Aside0.mk H
    clear H
    go_wp2
    go_roundg k1
    case measure => have := HK1.out; omega
    case rel => exact ⟨(wrap64 (aA - 1)), (wrap64 (aB * 2)), (by first | rfl | (simp; done) | (simp [*]; done)), (by first | rfl | (simp; done) | (simp [*]; done)), H', ⟨by have := HK1.out; omega⟩, by repeat (first | exact Drawn0.refl _ | apply Drawn0.step)⟩
   ·rw [if_neg c2] at H
    have c2b0 : decide (0 < aA) = false := decide_eq_false c2
    clear c2
    obtain rfl := sj H
    go_wp2
    go_ret
    exact ⟨by first | rfl | (simp; done) | (simp [*]; done), by repeat (first | exact Drawn0.refl _ | apply Drawn0.step)⟩
def spec_l1Size.f (k : Nat) (a0 : Int) : Option (Int) := (spec_l1Two.f k (wrap64 (32 - a0))).bind fun t101 => (some t101)
theorem spec_l1Size.calls (k : Nat) (a0 : Int) (r : Int) (w : World) (h : spec_l1Size.f k a0 = some r) :
  Calls Tryz.prog 104 #[.int .i64 a0] w fun e w' => e = .returned (.int .i64 r) ∧ Drawn0 w w' := by
 have H : ((spec_l1Two.f k (wrap64 (32 - a0))).bind fun aA => (some aA)) = some r := h
 clear h
 replace H := bm H
 obtain ⟨aA, aB, H⟩ := H
 replace H : (some aA) = some r := H
 have A2 := Aside0.mk aB
 clear aB
 obtain rfl := sj H
 go_enter Tryz.func104, Tryz.ntmps104
 go_wp2_with (first | ((with_reducible refine gate_callee (f := 107) rfl ?_); refine goesL_ (some 5) rfl rfl Tryz.func107 (by kernel_rfl) rfl #[.int .i64 (wrap64 (32 - a0))] rfl MT ?_; (with_reducible refine (spec_l1Two.calls k (wrap64 (32 - a0)) aA _ A2.out).mono ?_); rintro e w' ⟨rfl, ⟨nd, rfl⟩⟩; refine ⟨_, rfl, ?_⟩))
 go_ret
 exact ⟨by first | rfl | (simp; done) | (simp [*]; done), by repeat (first | exact Drawn0.refl _ | apply Drawn0.step)⟩
def spec_l1Addr.f (a0 : Int) : Option (Bool) := (spec_l1In.f a0 0 4294967295).bind fun t101 => (some t101)
theorem spec_l1Addr.calls (a0 : Int) (r : Bool) (w : World) (h : spec_l1Addr.f a0 = some r) :
  Calls Tryz.prog 82 #[.int .i64 a0] w fun e w' => e = .returned (.bool r) ∧ Drawn0 w w' := by
 have H : ((spec_l1In.f a0 0 4294967295).bind fun aA => (some aA)) = some r := h
 clear h
 replace H := bm H
 obtain ⟨aA, aB, H⟩ := H
 replace H : (some aA) = some r := H
 have A2 := Aside0.mk aB
 clear aB
 obtain rfl := sj H
 go_enter Tryz.func82, Tryz.ntmps82
 go_wp2_with (first | ((with_reducible refine gate_callee (f := 36) rfl ?_); refine goesL_ (some 4) rfl rfl Tryz.func36 (by kernel_rfl) rfl #[.int .i64 a0, .int .i64 0, .int .i64 4294967295] rfl MT ?_; (with_reducible refine (spec_l1In.calls a0 0 4294967295 aA _ A2.out).mono ?_); rintro e w' ⟨rfl, ⟨nd, rfl⟩⟩; refine ⟨_, rfl, ?_⟩))
 go_ret
 exact ⟨by first | rfl | (simp; done) | (simp [*]; done), by repeat (first | exact Drawn0.refl _ | apply Drawn0.step)⟩
def spec_BlockOk.f (k : Nat) (a0_0 : Int) (a0_1 : Int) : Option (Bool) := (spec_l1Addr.f a0_0).bind fun t102 => (if t102 = true then ((spec_l1In.f a0_1 0 32).bind fun t103 => (if t103 = true then ((spec_l1Size.f k a0_1).bind fun t104 => (if t104 = 0 then (none) else (some ((Int.tmod a0_0 t104) == 0)))) else (some false))) else (some false))
theorem spec_BlockOk.calls (k : Nat) (aD : Int) (aE : Int) (r : Bool) (w : World) (h : spec_BlockOk.f k aD aE = some r) :
  Calls Tryz.prog 99 #[.agg #[.int .i64 aD, .int .i64 aE]] w fun e w' => e = .returned (.bool r) ∧ Below w.heap.size w w' := by
 have aY := Tryz.underlying75
 have HB := am (Below.refl w.heap.size w)
 have H : ((spec_l1Addr.f aD).bind fun aS => (if aS = true then ((spec_l1In.f aE 0 32).bind fun aO => (if aO = true then ((spec_l1Size.f k aE).bind fun aF => (if aF = 0 then (none) else (some ((Int.tmod aD aF) == 0)))) else (some false))) else (some false))) = some r := h
 clear h
 replace H := bm H
 obtain ⟨aS, aV, H⟩ := H
 replace H : (if aS = true then ((spec_l1In.f aE 0 32).bind fun aO => (if aO = true then ((spec_l1Size.f k aE).bind fun aF => (if aF = 0 then (none) else (some ((Int.tmod aD aF) == 0)))) else (some false))) else (some false)) = some r := H
 have A2 := Aside0.mk aV
 clear aV
 by_cases c3 : aS = true
 ·subst c3
  have H1 := pf H
  clear H
  have H := H1
  clear H1
  replace H := bm H
  obtain ⟨aO, aW, H⟩ := H
  replace H : (if aO = true then ((spec_l1Size.f k aE).bind fun aF => (if aF = 0 then (none) else (some ((Int.tmod aD aF) == 0)))) else (some false)) = some r := H
  have A4 := Aside0.mk aW
  clear aW
  by_cases c5 : aO = true
  ·subst c5
   have H1 := pf H
   clear H
   have H := H1
   clear H1
   replace H := bm H
   obtain ⟨aF, aX, H⟩ := H
   replace H : (if aF = 0 then (none) else (some ((Int.tmod aD aF) == 0))) = some r := H
   have A6 := Aside0.mk aX
   clear aX
   by_cases c7 : aF = 0
   ·rw [if_pos c7] at H
    exact absurd H (by simp)
   ·rw [if_neg c7] at H
    have c7b0 : (aF == 0) = false := beq_eq_false_iff_ne.mpr c7
    have c7b1 : (aF != 0) = true := bne_iff_ne.mpr c7
    obtain rfl := sj H
    go_enter Tryz.func99, Tryz.ntmps99
    go_wp2_with (first | ((with_reducible refine gate_dst (N := 1) rfl ?_); refine box_event rfl (N := 1) rfl (cs := #[.int .i64 aD, .int .i64 aE]) (t := 75) BX ?_; intro aH hg w8 aA hb; have aB := am (aA); have aC := am (GH HB hg); have aG := aC; replace HB := bl (KL HB) hb; clear hb aA hg; obtain ⟨aP, aQ, aR⟩ := y2 w8 aB.out) | (go_at_call 82; (with_reducible refine (spec_l1Addr.calls aD true _ A2.out).mono ?_); rintro e w' ⟨rfl, ⟨nd, rfl⟩⟩; (try first | exact ⟨rfl, _, World.drewN_drewN _ _ _⟩ | exact ⟨rfl, _, Eq.trans (World.drewN_drewN _ _ _) (congrArg (World.drewN _) (Nat.add_assoc _ _ _))⟩)) | (go_at_call 36; (with_reducible refine (spec_l1In.calls aE 0 32 true _ A4.out).mono ?_); rintro e w' ⟨rfl, ⟨nd, rfl⟩⟩; (try first | exact ⟨rfl, _, World.drewN_drewN _ _ _⟩ | exact ⟨rfl, _, Eq.trans (World.drewN_drewN _ _ _) (congrArg (World.drewN _) (Nat.add_assoc _ _ _))⟩)) | (go_at_call 104; (with_reducible refine (spec_l1Size.calls k aE aF _ A6.out).mono ?_); rintro e w' ⟨rfl, ⟨nd, rfl⟩⟩; (try first | exact ⟨rfl, _, World.drewN_drewN _ _ _⟩ | exact ⟨rfl, _, Eq.trans (World.drewN_drewN _ _ _) (congrArg (World.drewN _) (Nat.add_assoc _ _ _))⟩)))
    repeat (go_quiet (first | ((with_reducible refine gate_dst (N := 1) rfl ?_); refine box_event rfl (N := 1) rfl (cs := #[.int .i64 aD, .int .i64 aE]) (t := 75) BX ?_; intro aH hg w8 aA hb; have aB := am (aA); have aC := am (GH HB hg); have aG := aC; replace HB := bl (KL HB) hb; clear hb aA hg; obtain ⟨aP, aQ, aR⟩ := y2 w8 aB.out) | (go_at_call 82; (with_reducible refine (spec_l1Addr.calls aD true _ A2.out).mono ?_); rintro e w' ⟨rfl, ⟨nd, rfl⟩⟩; (try first | exact ⟨rfl, _, World.drewN_drewN _ _ _⟩ | exact ⟨rfl, _, Eq.trans (World.drewN_drewN _ _ _) (congrArg (World.drewN _) (Nat.add_assoc _ _ _))⟩)) | (go_at_call 36; (with_reducible refine (spec_l1In.calls aE 0 32 true _ A4.out).mono ?_); rintro e w' ⟨rfl, ⟨nd, rfl⟩⟩; (try first | exact ⟨rfl, _, World.drewN_drewN _ _ _⟩ | exact ⟨rfl, _, Eq.trans (World.drewN_drewN _ _ _) (congrArg (World.drewN _) (Nat.add_assoc _ _ _))⟩)) | (go_at_call 104; (with_reducible refine (spec_l1Size.calls k aE aF _ A6.out).mono ?_); rintro e w' ⟨rfl, ⟨nd, rfl⟩⟩; (try first | exact ⟨rfl, _, World.drewN_drewN _ _ _⟩ | exact ⟨rfl, _, Eq.trans (World.drewN_drewN _ _ _) (congrArg (World.drewN _) (Nat.add_assoc _ _ _))⟩))); try go_wp2_with (first | ((with_reducible refine gate_dst (N := 1) rfl ?_); refine box_event rfl (N := 1) rfl (cs := #[.int .i64 aD, .int .i64 aE]) (t := 75) BX ?_; intro aH hg w8 aA hb; have aB := am (aA); have aC := am (GH HB hg); have aG := aC; replace HB := bl (KL HB) hb; clear hb aA hg; obtain ⟨aP, aQ, aR⟩ := y2 w8 aB.out) | (go_at_call 82; (with_reducible refine (spec_l1Addr.calls aD true _ A2.out).mono ?_); rintro e w' ⟨rfl, ⟨nd, rfl⟩⟩; (try first | exact ⟨rfl, _, World.drewN_drewN _ _ _⟩ | exact ⟨rfl, _, Eq.trans (World.drewN_drewN _ _ _) (congrArg (World.drewN _) (Nat.add_assoc _ _ _))⟩)) | (go_at_call 36; (with_reducible refine (spec_l1In.calls aE 0 32 true _ A4.out).mono ?_); rintro e w' ⟨rfl, ⟨nd, rfl⟩⟩; (try first | exact ⟨rfl, _, World.drewN_drewN _ _ _⟩ | exact ⟨rfl, _, Eq.trans (World.drewN_drewN _ _ _) (congrArg (World.drewN _) (Nat.add_assoc _ _ _))⟩)) | (go_at_call 104; (with_reducible refine (spec_l1Size.calls k aE aF _ A6.out).mono ?_); rintro e w' ⟨rfl, ⟨nd, rfl⟩⟩; (try first | exact ⟨rfl, _, World.drewN_drewN _ _ _⟩ | exact ⟨rfl, _, Eq.trans (World.drewN_drewN _ _ _) (congrArg (World.drewN _) (Nat.add_assoc _ _ _))⟩))))
    go_ret
    exact ⟨ER, K1 HB aG.out⟩
  ·replace c5 := Bool.eq_false_iff.mpr c5
   subst c5
   have H1 := nf H
   clear H
   have H := H1
   clear H1
   obtain rfl := sj H
   go_enter Tryz.func99, Tryz.ntmps99
   go_wp2_with (first | ((with_reducible refine gate_dst (N := 1) rfl ?_); refine box_event rfl (N := 1) rfl (cs := #[.int .i64 aD, .int .i64 aE]) (t := 75) BX ?_; intro aH hg aT aA hb; have aB := am (aA); have aC := am (GH HB hg); have aG := aC; replace HB := bl (KL HB) hb; clear hb aA hg; obtain ⟨aI, aJ, aK⟩ := y2 aT aB.out) | (go_at_call 82; (with_reducible refine (spec_l1Addr.calls aD true _ A2.out).mono ?_); rintro e w' ⟨rfl, ⟨nd, rfl⟩⟩; (try first | exact ⟨rfl, _, World.drewN_drewN _ _ _⟩ | exact ⟨rfl, _, Eq.trans (World.drewN_drewN _ _ _) (congrArg (World.drewN _) (Nat.add_assoc _ _ _))⟩)) | (go_at_call 36; (with_reducible refine (spec_l1In.calls aE 0 32 false _ A4.out).mono ?_); rintro e w' ⟨rfl, ⟨nd, rfl⟩⟩; (try first | exact ⟨rfl, _, World.drewN_drewN _ _ _⟩ | exact ⟨rfl, _, Eq.trans (World.drewN_drewN _ _ _) (congrArg (World.drewN _) (Nat.add_assoc _ _ _))⟩)))
   repeat (go_quiet (first | ((with_reducible refine gate_dst (N := 1) rfl ?_); refine box_event rfl (N := 1) rfl (cs := #[.int .i64 aD, .int .i64 aE]) (t := 75) BX ?_; intro aH hg aT aA hb; have aB := am (aA); have aC := am (GH HB hg); have aG := aC; replace HB := bl (KL HB) hb; clear hb aA hg; obtain ⟨aI, aJ, aK⟩ := y2 aT aB.out) | (go_at_call 82; (with_reducible refine (spec_l1Addr.calls aD true _ A2.out).mono ?_); rintro e w' ⟨rfl, ⟨nd, rfl⟩⟩; (try first | exact ⟨rfl, _, World.drewN_drewN _ _ _⟩ | exact ⟨rfl, _, Eq.trans (World.drewN_drewN _ _ _) (congrArg (World.drewN _) (Nat.add_assoc _ _ _))⟩)) | (go_at_call 36; (with_reducible refine (spec_l1In.calls aE 0 32 false _ A4.out).mono ?_); rintro e w' ⟨rfl, ⟨nd, rfl⟩⟩; (try first | exact ⟨rfl, _, World.drewN_drewN _ _ _⟩ | exact ⟨rfl, _, Eq.trans (World.drewN_drewN _ _ _) (congrArg (World.drewN _) (Nat.add_assoc _ _ _))⟩))); try go_wp2_with (first | ((with_reducible refine gate_dst (N := 1) rfl ?_); refine box_event rfl (N := 1) rfl (cs := #[.int .i64 aD, .int .i64 aE]) (t := 75) BX ?_; intro aH hg aT aA hb; have aB := am (aA); have aC := am (GH HB hg); have aG := aC; replace HB := bl (KL HB) hb; clear hb aA hg; obtain ⟨aI, aJ, aK⟩ := y2 aT aB.out) | (go_at_call 82; (with_reducible refine (spec_l1Addr.calls aD true _ A2.out).mono ?_); rintro e w' ⟨rfl, ⟨nd, rfl⟩⟩; (try first | exact ⟨rfl, _, World.drewN_drewN _ _ _⟩ | exact ⟨rfl, _, Eq.trans (World.drewN_drewN _ _ _) (congrArg (World.drewN _) (Nat.add_assoc _ _ _))⟩)) | (go_at_call 36; (with_reducible refine (spec_l1In.calls aE 0 32 false _ A4.out).mono ?_); rintro e w' ⟨rfl, ⟨nd, rfl⟩⟩; (try first | exact ⟨rfl, _, World.drewN_drewN _ _ _⟩ | exact ⟨rfl, _, Eq.trans (World.drewN_drewN _ _ _) (congrArg (World.drewN _) (Nat.add_assoc _ _ _))⟩))))
   go_ret
   exact ⟨ER, K1 HB aG.out⟩
 ·replace c3 := Bool.eq_false_iff.mpr c3
  subst c3
  have H1 := nf H
  clear H
  have H := H1
  clear H1
  obtain rfl := sj H
  go_enter Tryz.func99, Tryz.ntmps99
  go_wp2_with (first | ((with_reducible refine gate_dst (N := 1) rfl ?_); refine box_event rfl (N := 1) rfl (cs := #[.int .i64 aD, .int .i64 aE]) (t := 75) BX ?_; intro aH hg aU aA hb; have aB := am (aA); have aC := am (GH HB hg); have aG := aC; replace HB := bl (KL HB) hb; clear hb aA hg; obtain ⟨aL, aM, aN⟩ := y2 aU aB.out) | (go_at_call 82; (with_reducible refine (spec_l1Addr.calls aD false _ A2.out).mono ?_); rintro e w' ⟨rfl, ⟨nd, rfl⟩⟩; (try first | exact ⟨rfl, _, World.drewN_drewN _ _ _⟩ | exact ⟨rfl, _, Eq.trans (World.drewN_drewN _ _ _) (congrArg (World.drewN _) (Nat.add_assoc _ _ _))⟩)))
  repeat (go_quiet (first | ((with_reducible refine gate_dst (N := 1) rfl ?_); refine box_event rfl (N := 1) rfl (cs := #[.int .i64 aD, .int .i64 aE]) (t := 75) BX ?_; intro aH hg aU aA hb; have aB := am (aA); have aC := am (GH HB hg); have aG := aC; replace HB := bl (KL HB) hb; clear hb aA hg; obtain ⟨aL, aM, aN⟩ := y2 aU aB.out) | (go_at_call 82; (with_reducible refine (spec_l1Addr.calls aD false _ A2.out).mono ?_); rintro e w' ⟨rfl, ⟨nd, rfl⟩⟩; (try first | exact ⟨rfl, _, World.drewN_drewN _ _ _⟩ | exact ⟨rfl, _, Eq.trans (World.drewN_drewN _ _ _) (congrArg (World.drewN _) (Nat.add_assoc _ _ _))⟩))); try go_wp2_with (first | ((with_reducible refine gate_dst (N := 1) rfl ?_); refine box_event rfl (N := 1) rfl (cs := #[.int .i64 aD, .int .i64 aE]) (t := 75) BX ?_; intro aH hg aU aA hb; have aB := am (aA); have aC := am (GH HB hg); have aG := aC; replace HB := bl (KL HB) hb; clear hb aA hg; obtain ⟨aL, aM, aN⟩ := y2 aU aB.out) | (go_at_call 82; (with_reducible refine (spec_l1Addr.calls aD false _ A2.out).mono ?_); rintro e w' ⟨rfl, ⟨nd, rfl⟩⟩; (try first | exact ⟨rfl, _, World.drewN_drewN _ _ _⟩ | exact ⟨rfl, _, Eq.trans (World.drewN_drewN _ _ _) (congrArg (World.drewN _) (Nat.add_assoc _ _ _))⟩))))
  go_ret
  exact ⟨ER, K1 HB aG.out⟩
def spec_l4Ok.j0 : Nat → Bool → Int → Int → Int → Int → Int → Int → Int → Int → Option (Bool)
 | 0, _, _, _, _, _, _, _, _, _ => none
 | k + 1, x31, x102000, x102001, x102002, x102003, x102004, x102005, x102006, x102007 => if x31 = true then (some false) else (if x102000 = 2 then ((spec_l1In.f x102001 0 3).bind fun t106 => (some t106)) else (some (x102001 == 0)))
def spec_l4Ok.f (k : Nat) (a0_0 : Int) (a0_1 : Int) (a0_2 : Int) (a0_3 : Int) (a0_4 : Int) (a0_5 : Int) (a0_6 : Int) (a0_7 : Int) : Option (Bool) := (spec_BlockOk.f k a0_2 a0_3).bind fun t102 => (if t102 = true then ((spec_BlockOk.f k a0_4 a0_5).bind fun t103 => (if t103 = true then ((spec_l1In.f a0_6 0 a0_7).bind fun t104 => (if t104 = true then (if a0_7 > 65535 then (spec_l4Ok.j0 k true a0_0 a0_1 a0_2 a0_3 a0_4 a0_5 a0_6 a0_7) else ((spec_l1In.f a0_0 0 2).bind fun t105 => (spec_l4Ok.j0 k (!t105) a0_0 a0_1 a0_2 a0_3 a0_4 a0_5 a0_6 a0_7))) else (spec_l4Ok.j0 k true a0_0 a0_1 a0_2 a0_3 a0_4 a0_5 a0_6 a0_7))) else (spec_l4Ok.j0 k true a0_0 a0_1 a0_2 a0_3 a0_4 a0_5 a0_6 a0_7))) else (spec_l4Ok.j0 k true a0_0 a0_1 a0_2 a0_3 a0_4 a0_5 a0_6 a0_7))
theorem spec_l4Ok.calls (k : Nat) (aE : Int) (aJ : Int) (aC : Int) (aD : Int) (aF : Int) (aG : Int) (aH : Int) (aB : Int) (r : Bool) (w : World) (h : spec_l4Ok.f k aE aJ aC aD aF aG aH aB = some r) :
  Calls Tryz.prog 81 #[.agg #[.int .i64 aE, .int .i64 aJ, .int .i64 aC, .int .i64 aD, .int .i64 aF, .int .i64 aG, .int .i64 aH, .int .i64 aB]] w fun e w' => e = .returned (.bool r) ∧ Below w.heap.size w w' := by
 have fY := Tryz.underlying77
 have fZ := Tryz.underlying75
 have HB := am (Below.refl w.heap.size w)
 have H : ((spec_BlockOk.f k aC aD).bind fun aO => (if aO = true then ((spec_BlockOk.f k aF aG).bind fun aN => (if aN = true then ((spec_l1In.f aH 0 aB).bind fun aL => (if aL = true then (if aB > 65535 then (spec_l4Ok.j0 k true aE aJ aC aD aF aG aH aB) else ((spec_l1In.f aE 0 2).bind fun aK => (spec_l4Ok.j0 k (!aK) aE aJ aC aD aF aG aH aB))) else (spec_l4Ok.j0 k true aE aJ aC aD aF aG aH aB))) else (spec_l4Ok.j0 k true aE aJ aC aD aF aG aH aB))) else (spec_l4Ok.j0 k true aE aJ aC aD aF aG aH aB))) = some r := h
 clear h
 have fU := Aside0.mk H
 clear H
 go_enter Tryz.func81, Tryz.ntmps81
 go_upto_region 1 with (first | ((with_reducible refine gate_dst (N := 1) rfl ?_); refine box_event rfl (N := 1) rfl (cs := #[.int .i64 aE, .int .i64 aJ, .int .i64 aC, .int .i64 aD, .int .i64 aF, .int .i64 aG, .int .i64 aH, .int .i64 aB]) (t := 77) BX ?_; intro eV hg w3 eW hb; have aA := am (eW); have eX := am (GH HB hg); have aI := eX; replace HB := bl (KL HB) hb; clear hb eW hg))
 (try simp only [Act.put, List.setIfInBounds_toArray, List.set_cons_zero, List.set_cons_succ])
 go_cut [31] (fun gA wc => ∃ (kq : Nat) (aM : Bool), gA = .bool aM ∧ Aside0 (spec_l4Ok.j0 kq aM aE aJ aC aD aF aG aH aB = some r) ∧ Aside0 (kq ≤ k) ∧ Aside0 (wc.heap[eV]? = some (.cells #[.int .i64 aE, .int .i64 aJ, .int .i64 aC, .int .i64 aD, .int .i64 aF, .int .i64 aG, .int .i64 aH, .int .i64 aB] 77 (0, 0))) ∧ Aside0 (Below w.heap.size w wc))
 case first =>
  have H := fU.out
  clear fU
  replace H := bm H
  obtain ⟨aO, fV, H⟩ := H
  replace H : (if aO = true then ((spec_BlockOk.f k aF aG).bind fun aN => (if aN = true then ((spec_l1In.f aH 0 aB).bind fun aL => (if aL = true then (if aB > 65535 then (spec_l4Ok.j0 k true aE aJ aC aD aF aG aH aB) else ((spec_l1In.f aE 0 2).bind fun aK => (spec_l4Ok.j0 k (!aK) aE aJ aC aD aF aG aH aB))) else (spec_l4Ok.j0 k true aE aJ aC aD aF aG aH aB))) else (spec_l4Ok.j0 k true aE aJ aC aD aF aG aH aB))) else (spec_l4Ok.j0 k true aE aJ aC aD aF aG aH aB)) = some r := H
  have A4 := Aside0.mk fV
  clear fV
  by_cases c5 : aO = true
  ·subst c5
   have H1 := pf H
   clear H
   have H := H1
   clear H1
   replace H := bm H
   obtain ⟨aN, fW, H⟩ := H
   replace H : (if aN = true then ((spec_l1In.f aH 0 aB).bind fun aL => (if aL = true then (if aB > 65535 then (spec_l4Ok.j0 k true aE aJ aC aD aF aG aH aB) else ((spec_l1In.f aE 0 2).bind fun aK => (spec_l4Ok.j0 k (!aK) aE aJ aC aD aF aG aH aB))) else (spec_l4Ok.j0 k true aE aJ aC aD aF aG aH aB))) else (spec_l4Ok.j0 k true aE aJ aC aD aF aG aH aB)) = some r := H
   have A6 := Aside0.mk fW
   clear fW
   by_cases c7 : aN = true
   ·subst c7
    have H1 := pf H
    clear H
    have H := H1
    clear H1
    replace H := bm H
    obtain ⟨aL, fX, H⟩ := H
    replace H : (if aL = true then (if aB > 65535 then (spec_l4Ok.j0 k true aE aJ aC aD aF aG aH aB) else ((spec_l1In.f aE 0 2).bind fun aK => (spec_l4Ok.j0 k (!aK) aE aJ aC aD aF aG aH aB))) else (spec_l4Ok.j0 k true aE aJ aC aD aF aG aH aB)) = some r := H
    have A8 := Aside0.mk fX
    clear fX
    by_cases c9 : aL = true
    ·subst c9
     have H1 := pf H
     clear H
     have H := H1
     clear H1
     by_cases eT : aB > 65535
     ·rw [if_pos eT] at H
      have c10b0 : decide (65535 < aB) = true := decide_eq_true eT
      clear eT
      (first | rw [c10b0] | (simp only [i64_w, i32_w]; rw [c10b0]) | skip)
      have H' := Aside0.mk H
      clear H
      obtain ⟨aP, aQ, aR, aS, aT, aU, aV, aW, aX⟩ := y8 w3 aA.out
      go_wp2_with (first | ((with_reducible refine gate_callee (f := 99) rfl ?_); refine goesL_ (some 5) rfl rfl Tryz.func99 (by kernel_rfl) rfl #[.agg #[.int .i64 aC, .int .i64 aD]] rfl MT ?_; (with_reducible refine (spec_BlockOk.calls k aC aD true _ A4.out).mono ?_); rintro e gB ⟨rfl, hb⟩; refine ⟨_, rfl, ?_⟩; replace aA := am (BB aA hb); replace HB := bl (K1 HB aI.out) hb; (try clear hb); obtain ⟨aY, aZ, bA, bB, bC, bD, bE, bF, bG⟩ := y8 gB aA.out) | (go_at_call 99; (with_reducible refine (spec_BlockOk.calls k aF aG true _ A6.out).mono ?_); rintro e gC ⟨rfl, hb⟩; replace aA := am (BB aA hb); replace HB := bl (K1 HB aI.out) hb; (try clear hb); obtain ⟨bH, bI, bJ, bK, bL, bM, bN, bO, bP⟩ := y8 gC aA.out) | (go_at_call 36; (with_reducible refine (spec_l1In.calls aH 0 aB true _ A8.out).mono ?_); rintro e w' ⟨rfl, ⟨nd, rfl⟩⟩))
      go_meet
      case rel => exact ⟨_, (true), (by first | rfl | (simp; done) | (simp [*]; done)), H', ⟨by first | omega | exact Nat.le_refl _⟩, ⟨KB aA⟩, ⟨K1 HB aI.out⟩⟩
     ·rw [if_neg eT] at H
      have c10b0 : decide (65535 < aB) = false := decide_eq_false eT
      clear eT
      (first | rw [c10b0] | (simp only [i64_w, i32_w]; rw [c10b0]) | skip)
      replace H := bm H
      obtain ⟨aK, eY, H⟩ := H
      replace H : (spec_l4Ok.j0 k (!aK) aE aJ aC aD aF aG aH aB) = some r := H
      have gD := Aside0.mk eY
      clear eY
      have H' := Aside0.mk H
      clear H
      obtain ⟨bQ, bR, bS, bT, bU, bV, bW, bX, bY⟩ := y8 w3 aA.out
      go_wp2_with (first | ((with_reducible refine gate_callee (f := 99) rfl ?_); refine goesL_ (some 5) rfl rfl Tryz.func99 (by kernel_rfl) rfl #[.agg #[.int .i64 aC, .int .i64 aD]] rfl MT ?_; (with_reducible refine (spec_BlockOk.calls k aC aD true _ A4.out).mono ?_); rintro e gE ⟨rfl, hb⟩; refine ⟨_, rfl, ?_⟩; replace aA := am (BB aA hb); replace HB := bl (K1 HB aI.out) hb; (try clear hb); obtain ⟨bZ, cA, cB, cC, cD, cE, cF, cG, cH⟩ := y8 gE aA.out) | (go_at_call 99; (with_reducible refine (spec_BlockOk.calls k aF aG true _ A6.out).mono ?_); rintro e gF ⟨rfl, hb⟩; replace aA := am (BB aA hb); replace HB := bl (K1 HB aI.out) hb; (try clear hb); obtain ⟨cI, cJ, cK, cL, cM, cN, cO, cP, cQ⟩ := y8 gF aA.out) | (go_at_call 36; (with_reducible refine (spec_l1In.calls aH 0 aB true _ A8.out).mono ?_); rintro e w' ⟨rfl, ⟨nd, rfl⟩⟩) | (go_at_call 36; (with_reducible refine (spec_l1In.calls aE 0 2 aK _ gD.out).mono ?_); rintro e w' ⟨rfl, ⟨nd, rfl⟩⟩))
      go_meet
      case rel => exact ⟨_, (!aK), (by first | rfl | (simp; done) | (simp [*]; done)), H', ⟨by first | omega | exact Nat.le_refl _⟩, ⟨KB aA⟩, ⟨K1 HB aI.out⟩⟩
    ·replace c9 := Bool.eq_false_iff.mpr c9
     subst c9
     have H1 := nf H
     clear H
     have H := H1
     clear H1
     have H' := Aside0.mk H
     clear H
     obtain ⟨cR, cS, cT, cU, cV, cW, cX, cY, cZ⟩ := y8 w3 aA.out
     go_wp2_with (first | ((with_reducible refine gate_callee (f := 99) rfl ?_); refine goesL_ (some 5) rfl rfl Tryz.func99 (by kernel_rfl) rfl #[.agg #[.int .i64 aC, .int .i64 aD]] rfl MT ?_; (with_reducible refine (spec_BlockOk.calls k aC aD true _ A4.out).mono ?_); rintro e gG ⟨rfl, hb⟩; refine ⟨_, rfl, ?_⟩; replace aA := am (BB aA hb); replace HB := bl (K1 HB aI.out) hb; (try clear hb); obtain ⟨dA, dB, dC, dD, dE, dF, dG, dH, dI⟩ := y8 gG aA.out) | (go_at_call 99; (with_reducible refine (spec_BlockOk.calls k aF aG true _ A6.out).mono ?_); rintro e gH ⟨rfl, hb⟩; replace aA := am (BB aA hb); replace HB := bl (K1 HB aI.out) hb; (try clear hb); obtain ⟨dJ, dK, dL, dM, dN, dO, dP, dQ, dR⟩ := y8 gH aA.out) | (go_at_call 36; (with_reducible refine (spec_l1In.calls aH 0 aB false _ A8.out).mono ?_); rintro e w' ⟨rfl, ⟨nd, rfl⟩⟩))
     go_meet
     case rel => exact ⟨_, (true), (by first | rfl | (simp; done) | (simp [*]; done)), H', ⟨by first | omega | exact Nat.le_refl _⟩, ⟨KB aA⟩, ⟨K1 HB aI.out⟩⟩
   ·replace c7 := Bool.eq_false_iff.mpr c7
    subst c7
    have H1 := nf H
    clear H
    have H := H1
    clear H1
    have H' := Aside0.mk H
    clear H
    obtain ⟨dS, dT, dU, dV, dW, dX, dY, dZ, eA⟩ := y8 w3 aA.out
    go_wp2_with (first | ((with_reducible refine gate_callee (f := 99) rfl ?_); refine goesL_ (some 5) rfl rfl Tryz.func99 (by kernel_rfl) rfl #[.agg #[.int .i64 aC, .int .i64 aD]] rfl MT ?_; (with_reducible refine (spec_BlockOk.calls k aC aD true _ A4.out).mono ?_); rintro e gI ⟨rfl, hb⟩; refine ⟨_, rfl, ?_⟩; replace aA := am (BB aA hb); replace HB := bl (K1 HB aI.out) hb; (try clear hb); obtain ⟨eB, eC, eD, eE, eF, eG, eH, eI, eJ⟩ := y8 gI aA.out) | (go_at_call 99; (with_reducible refine (spec_BlockOk.calls k aF aG false _ A6.out).mono ?_); rintro e gK ⟨rfl, hb⟩; replace aA := am (BB aA hb); replace HB := bl (K1 HB aI.out) hb; (try clear hb)))
    go_meet
    case rel => exact ⟨_, (true), (by first | rfl | (simp; done) | (simp [*]; done)), H', ⟨by first | omega | exact Nat.le_refl _⟩, ⟨KB aA⟩, ⟨K1 HB aI.out⟩⟩
  ·replace c5 := Bool.eq_false_iff.mpr c5
   subst c5
   have H1 := nf H
   clear H
   have H := H1
   clear H1
   have H' := Aside0.mk H
   clear H
   obtain ⟨eK, eL, eM, eN, eO, eP, eQ, eR, eS⟩ := y8 w3 aA.out
   go_wp2_with (first | ((with_reducible refine gate_callee (f := 99) rfl ?_); refine goesL_ (some 5) rfl rfl Tryz.func99 (by kernel_rfl) rfl #[.agg #[.int .i64 aC, .int .i64 aD]] rfl MT ?_; (with_reducible refine (spec_BlockOk.calls k aC aD false _ A4.out).mono ?_); rintro e gL ⟨rfl, hb⟩; refine ⟨_, rfl, ?_⟩; replace aA := am (BB aA hb); replace HB := bl (K1 HB aI.out) hb; (try clear hb)))
   go_meet
   case rel => exact ⟨_, (true), (by first | rfl | (simp; done) | (simp [*]; done)), H', ⟨by first | omega | exact Nat.le_refl _⟩, ⟨KB aA⟩, ⟨K1 HB aI.out⟩⟩
 case rest =>
  clear fU
  try clear c1
  try clear p2
  try clear c5
  try clear c7
  try clear c8
  try clear c9
  try clear eT
  try clear c10b0
  try clear aP aQ aR aS aT aU aV aW aX
  try clear aY aZ bA bB bC bD bE bF bG
  try clear bH bI bJ bK bL bM bN bO bP
  try clear bQ bR bS bT bU bV bW bX bY
  try clear bZ cA cB cC cD cE cF cG cH
  try clear cI cJ cK cL cM cN cO cP cQ
  try clear cR cS cT cU cV cW cX cY cZ
  try clear dA dB dC dD dE dF dG dH dI
  try clear dJ dK dL dM dN dO dP dQ dR
  try clear dS dT dU dV dW dX dY dZ eA
  try clear eB eC eD eE eF eG eH eI eJ
  try clear eK eL eM eN eO eP eQ eR eS
  obtain ⟨kq, aM, rfl, HA, HJ1, aA, HB⟩ := hcut
  cases kq with
  | zero => exact absurd HA.out (by simp [spec_l4Ok.j0])
  | succ kj1 =>
   have H := HA.out
   clear HA
   simp only [spec_l4Ok.j0] at H
   by_cases fB : aM = true
   ·subst fB
    have H1 := pf H
    clear H
    have H := H1
    clear H1
    obtain rfl := sj H
    go_wp2
    go_ret
    exact ⟨ER, K1 HB aI.out⟩
   ·replace fB := Bool.eq_false_iff.mpr fB
    subst fB
    have H1 := nf H
    clear H
    have H := H1
    clear H1
    by_cases eU : aE = 2
    ·rw [if_pos eU] at H
     have c34b0 : (aE == 2) = true := beq_iff_eq.mpr eU
     have c34b1 : (aE != 2) = false := bne_eq_false_iff_eq.mpr eU
     clear eU
     replace H := bm H
     obtain ⟨eZ, fA, H⟩ := H
     replace H : (some eZ) = some r := H
     have gJ := Aside0.mk fA
     clear fA
     obtain rfl := sj H
     have ⟨_, _, _, _, _, _, _, _, _⟩ := y8 wc aA.out
     go_wp2_with (first | ((with_reducible refine gate_callee (f := 36) rfl ?_); refine goesL_ (some 37) rfl rfl Tryz.func36 (by kernel_rfl) rfl #[.int .i64 aJ, .int .i64 0, .int .i64 3] rfl MT ?_; (with_reducible refine (spec_l1In.calls aJ 0 3 eZ _ gJ.out).mono ?_); rintro e w' ⟨rfl, ⟨nd, rfl⟩⟩; refine ⟨_, rfl, ?_⟩))
     go_ret
     exact ⟨ER, K1 HB aI.out⟩
    ·rw [if_neg eU] at H
     have c34b0 : (aE == 2) = false := beq_eq_false_iff_ne.mpr eU
     have c34b1 : (aE != 2) = true := bne_iff_ne.mpr eU
     obtain rfl := sj H
     have ⟨_, _, _, _, _, _, _, _, _⟩ := y8 wc aA.out
     go_wp2
     go_ret
     exact ⟨ER, K1 HB aI.out⟩
def spec_RulesOk.l0 : Nat → List (S77) → Int → Option (Bool)
 | 0, _, _ => none
 | k + 1, x0, x3 => if x3 < (x0.length : Int) then (if 0 ≤ x3 then ((spec_l4Ok.f k ((rd_T77 x0 x3).f0) ((rd_T77 x0 x3).f1) ((rd_T77 x0 x3).f2.f0) ((rd_T77 x0 x3).f2.f1) ((rd_T77 x0 x3).f3.f0) ((rd_T77 x0 x3).f3.f1) ((rd_T77 x0 x3).f4) ((rd_T77 x0 x3).f5)).bind fun t102 => (if t102 = true then (spec_RulesOk.l0 k x0 (wrap64 (x3 + 1))) else (some false))) else (none)) else (some (decide ((x0.length : Int) ≤ 8)))
def spec_RulesOk.f (k : Nat) (l0 : List (S77)) : Option (Bool) := spec_RulesOk.l0 k l0 0
theorem spec_RulesOk.calls (k : Nat) (A0 : Option Addr) (c0 : Nat) (l0 : List (S77)) (r : Bool) (w : World) (aO : Kd.C k77 w A0 l0.length l0) (aP : l0.length ≤ c0) (h : spec_RulesOk.f k l0 = some r) :
  Calls Tryz.prog 62 #[.slice A0 l0.length c0] w fun e w' => e = .returned (.bool r) ∧ Below w.heap.size w w' := by
 have aS := Tryz.underlying77
 have aQ := Aside0.mk aO
 have aT := Aside0.mk aP
 clear aO aP
 have HB := am (Below.refl w.heap.size w)
 have H : (spec_RulesOk.l0 k l0 0) = some r := h
 clear h
 have H' := Aside0.mk H
 clear H
 go_enter Tryz.func62, Tryz.ntmps62
 go_wp2
 go_loopg [3] k (fun kq v3 w' => ∃ (aA : Int), v3 = .int .i64 aA ∧ Aside0 (spec_RulesOk.l0 kq l0 aA = some r) ∧ Aside0 (kq ≤ k) ∧ Aside0 (Below w.heap.size w w'))
 case atStart => exact ⟨(0), (by first | rfl | (simp; done) | (simp [*]; done)), H', ⟨Nat.le_refl _⟩, ⟨KL HB⟩⟩
 case round =>
  clear H'
  obtain ⟨aA, rfl, HA, HK1, HB⟩ := hrel
  cases gk with
  | zero => exact absurd HA.out (by simp [spec_RulesOk.l0])
  | succ k1 =>
   have H := HA.out
   clear HA
   simp only [spec_RulesOk.l0] at H
   by_cases c2 : aA < (l0.length : Int)
   ·rw [if_pos c2] at H
    have c2b0 : decide (aA < (l0.length : Int)) = true := decide_eq_true c2
    clear c2
    by_cases c3 : 0 ≤ aA
    ·rw [if_pos c3] at H
     have c3b0 : decide (0 ≤ aA) = true := decide_eq_true c3
     clear c3
     replace H := bm H
     obtain ⟨aM, aR, H⟩ := H
     replace H : (if aM = true then (spec_RulesOk.l0 k1 l0 (wrap64 (aA + 1))) else (some false)) = some r := H
     have A4 := Aside0.mk aR
     clear aR
     by_cases c5 : aM = true
     ·subst c5
      have H1 := pf H
      clear H
      have H := H1
      clear H1
      have H' := Aside0.mk H
      clear H
      have aJ : 0 ≤ (aA : Int) := OD
      have aK : aA < (l0.length : Int) := OD
      obtain ⟨aN, aL, aB, aC, aD, aE, aF, aG, aH, aI⟩ := at_T77 aQ.out aA aJ aK
      cases aL
      replace aB := CX HB.out aB
      replace aC := CX HB.out aC
      replace aD := CX HB.out aD
      replace aE := CX HB.out aE
      replace aF := CX HB.out aF
      replace aG := CX HB.out aG
      replace aH := CX HB.out aH
      replace aI := CX HB.out aI
      replace aJ := eq_true aJ
      replace aK := eq_true aK
      go_wp2_with (first | ((with_reducible refine gate_callee (f := 81) rfl ?_); refine goesL_ (some 14) rfl rfl Tryz.func81 (by kernel_rfl) rfl #[.agg #[.int .i64 ((rd_T77 l0 aA).f0), .int .i64 ((rd_T77 l0 aA).f1), .int .i64 ((rd_T77 l0 aA).f2.f0), .int .i64 ((rd_T77 l0 aA).f2.f1), .int .i64 ((rd_T77 l0 aA).f3.f0), .int .i64 ((rd_T77 l0 aA).f3.f1), .int .i64 ((rd_T77 l0 aA).f4), .int .i64 ((rd_T77 l0 aA).f5)]] rfl MT ?_; (with_reducible refine (spec_l4Ok.calls k1 ((rd_T77 l0 aA).f0) ((rd_T77 l0 aA).f1) ((rd_T77 l0 aA).f2.f0) ((rd_T77 l0 aA).f2.f1) ((rd_T77 l0 aA).f3.f0) ((rd_T77 l0 aA).f3.f1) ((rd_T77 l0 aA).f4) ((rd_T77 l0 aA).f5) true _ A4.out).mono ?_); rintro e w6 ⟨rfl, hb⟩; refine ⟨_, rfl, ?_⟩; replace HB := bl (KL HB) hb; (try clear hb)))
      go_roundg k1
      case measure => have := HK1.out; omega
      case rel => exact ⟨(wrap64 (aA + 1)), (by first | rfl | (simp; done) | (simp [*]; done)), H', ⟨by have := HK1.out; omega⟩, ⟨KL HB⟩⟩
     ·replace c5 := Bool.eq_false_iff.mpr c5
      subst c5
      have H1 := nf H
      clear H
      have H := H1
      clear H1
      obtain rfl := sj H
      have aJ : 0 ≤ (aA : Int) := OD
      have aK : aA < (l0.length : Int) := OD
      obtain ⟨aN, aL, aB, aC, aD, aE, aF, aG, aH, aI⟩ := at_T77 aQ.out aA aJ aK
      cases aL
      replace aB := CX HB.out aB
      replace aC := CX HB.out aC
      replace aD := CX HB.out aD
      replace aE := CX HB.out aE
      replace aF := CX HB.out aF
      replace aG := CX HB.out aG
      replace aH := CX HB.out aH
      replace aI := CX HB.out aI
      replace aJ := eq_true aJ
      replace aK := eq_true aK
      go_wp2_with (first | ((with_reducible refine gate_callee (f := 81) rfl ?_); refine goesL_ (some 14) rfl rfl Tryz.func81 (by kernel_rfl) rfl #[.agg #[.int .i64 ((rd_T77 l0 aA).f0), .int .i64 ((rd_T77 l0 aA).f1), .int .i64 ((rd_T77 l0 aA).f2.f0), .int .i64 ((rd_T77 l0 aA).f2.f1), .int .i64 ((rd_T77 l0 aA).f3.f0), .int .i64 ((rd_T77 l0 aA).f3.f1), .int .i64 ((rd_T77 l0 aA).f4), .int .i64 ((rd_T77 l0 aA).f5)]] rfl MT ?_; (with_reducible refine (spec_l4Ok.calls k1 ((rd_T77 l0 aA).f0) ((rd_T77 l0 aA).f1) ((rd_T77 l0 aA).f2.f0) ((rd_T77 l0 aA).f2.f1) ((rd_T77 l0 aA).f3.f0) ((rd_T77 l0 aA).f3.f1) ((rd_T77 l0 aA).f4) ((rd_T77 l0 aA).f5) false _ A4.out).mono ?_); rintro e w7 ⟨rfl, hb⟩; refine ⟨_, rfl, ?_⟩; replace HB := bl (KL HB) hb; (try clear hb)))
      go_ret
      exact ⟨ER, KL HB⟩
    ·rw [if_neg c3] at H
     exact absurd H (by simp)
   ·rw [if_neg c2] at H
    have c2b0 : decide (aA < (l0.length : Int)) = false := decide_eq_false c2
    clear c2
    obtain rfl := sj H
    go_wp2
    go_ret
    exact ⟨ER, KL HB⟩
def spec_l4Call.f (a0_0 : Int) (a0_1 : Int) (a0_2 : Int) : Option (Bool) := (spec_l1Addr.f a0_0).bind fun t102 => (if t102 = true then ((spec_l1Addr.f a0_1).bind fun t103 => (if t103 = true then ((spec_l1In.f a0_2 0 65535).bind fun t104 => (some t104)) else (some false))) else (some false))
theorem spec_l4Call.calls (aA : Int) (aB : Int) (aC : Int) (r : Bool) (w : World) (h : spec_l4Call.f aA aB aC = some r) :
  Calls Tryz.prog 63 #[.agg #[.int .i64 aA, .int .i64 aB, .int .i64 aC]] w fun e w' => e = .returned (.bool r) ∧ Below w.heap.size w w' := by
 have bA := Tryz.underlying89
 have HB := am (Below.refl w.heap.size w)
 have H : ((spec_l1Addr.f aA).bind fun aJ => (if aJ = true then ((spec_l1Addr.f aB).bind fun aI => (if aI = true then ((spec_l1In.f aC 0 65535).bind fun aD => (some aD)) else (some false))) else (some false))) = some r := h
 clear h
 replace H := bm H
 obtain ⟨aJ, aX, H⟩ := H
 replace H : (if aJ = true then ((spec_l1Addr.f aB).bind fun aI => (if aI = true then ((spec_l1In.f aC 0 65535).bind fun aD => (some aD)) else (some false))) else (some false)) = some r := H
 have A2 := Aside0.mk aX
 clear aX
 by_cases c3 : aJ = true
 ·subst c3
  have H1 := pf H
  clear H
  have H := H1
  clear H1
  replace H := bm H
  obtain ⟨aI, aY, H⟩ := H
  replace H : (if aI = true then ((spec_l1In.f aC 0 65535).bind fun aD => (some aD)) else (some false)) = some r := H
  have A4 := Aside0.mk aY
  clear aY
  by_cases c5 : aI = true
  ·subst c5
   have H1 := pf H
   clear H
   have H := H1
   clear H1
   replace H := bm H
   obtain ⟨aD, aZ, H⟩ := H
   replace H : (some aD) = some r := H
   have A6 := Aside0.mk aZ
   clear aZ
   obtain rfl := sj H
   go_enter Tryz.func63, Tryz.ntmps63
   go_wp2_with (first | ((with_reducible refine gate_dst (N := 1) rfl ?_); refine box_event rfl (N := 1) rfl (cs := #[.int .i64 aA, .int .i64 aB, .int .i64 aC]) (t := 89) BX ?_; intro aK hg w7 aE hb; have aF := am (aE); have aG := am (GH HB hg); have aH := aG; replace HB := bl (KL HB) hb; clear hb aE hg; have ⟨_, _, _, _⟩ := y3 w7 aF.out) | ((with_reducible refine gate_callee (f := 82) rfl ?_); refine goesL_ (some 5) rfl rfl Tryz.func82 (by kernel_rfl) rfl #[.int .i64 aA] rfl MT ?_; (with_reducible refine (spec_l1Addr.calls aA true _ A2.out).mono ?_); rintro e w' ⟨rfl, ⟨nd, rfl⟩⟩; refine ⟨_, rfl, ?_⟩) | (go_at_call 82; (with_reducible refine (spec_l1Addr.calls aB true _ A4.out).mono ?_); rintro e w' ⟨rfl, ⟨nd, rfl⟩⟩) | (go_at_call 36; (with_reducible refine (spec_l1In.calls aC 0 65535 aD _ A6.out).mono ?_); rintro e w' ⟨rfl, ⟨nd, rfl⟩⟩))
   go_ret
   exact ⟨ER, K1 HB aH.out⟩
  ·replace c5 := Bool.eq_false_iff.mpr c5
   subst c5
   have H1 := nf H
   clear H
   have H := H1
   clear H1
   obtain rfl := sj H
   go_enter Tryz.func63, Tryz.ntmps63
   go_wp2_with (first | ((with_reducible refine gate_dst (N := 1) rfl ?_); refine box_event rfl (N := 1) rfl (cs := #[.int .i64 aA, .int .i64 aB, .int .i64 aC]) (t := 89) BX ?_; intro aK hg w9 aE hb; have aF := am (aE); have aG := am (GH HB hg); have aH := aG; replace HB := bl (KL HB) hb; clear hb aE hg; have ⟨_, _, _, _⟩ := y3 w9 aF.out) | ((with_reducible refine gate_callee (f := 82) rfl ?_); refine goesL_ (some 5) rfl rfl Tryz.func82 (by kernel_rfl) rfl #[.int .i64 aA] rfl MT ?_; (with_reducible refine (spec_l1Addr.calls aA true _ A2.out).mono ?_); rintro e w' ⟨rfl, ⟨nd, rfl⟩⟩; refine ⟨_, rfl, ?_⟩) | (go_at_call 82; (with_reducible refine (spec_l1Addr.calls aB false _ A4.out).mono ?_); rintro e w' ⟨rfl, ⟨nd, rfl⟩⟩))
   go_ret
   exact ⟨ER, K1 HB aH.out⟩
 ·replace c3 := Bool.eq_false_iff.mpr c3
  subst c3
  have H1 := nf H
  clear H
  have H := H1
  clear H1
  obtain rfl := sj H
  go_enter Tryz.func63, Tryz.ntmps63
  go_wp2_with (first | ((with_reducible refine gate_dst (N := 1) rfl ?_); refine box_event rfl (N := 1) rfl (cs := #[.int .i64 aA, .int .i64 aB, .int .i64 aC]) (t := 89) BX ?_; intro aK hg bB aE hb; have aF := am (aE); have aG := am (GH HB hg); have aH := aG; replace HB := bl (KL HB) hb; clear hb aE hg; have ⟨_, _, _, _⟩ := y3 bB aF.out) | ((with_reducible refine gate_callee (f := 82) rfl ?_); refine goesL_ (some 5) rfl rfl Tryz.func82 (by kernel_rfl) rfl #[.int .i64 aA] rfl MT ?_; (with_reducible refine (spec_l1Addr.calls aA false _ A2.out).mono ?_); rintro e w' ⟨rfl, ⟨nd, rfl⟩⟩; refine ⟨_, rfl, ?_⟩))
  go_ret
  exact ⟨ER, K1 HB aH.out⟩
def spec_l1Last.f (k : Nat) (a0_0 : Int) (a0_1 : Int) : Option (Int) := (spec_l1Size.f k a0_1).bind fun t102 => (some (wrap64 ((wrap64 (a0_0 + t102)) - 1)))
theorem spec_l1Last.calls (k : Nat) (aE : Int) (aA : Int) (r : Int) (w : World) (h : spec_l1Last.f k aE aA = some r) :
  Calls Tryz.prog 100 #[.agg #[.int .i64 aE, .int .i64 aA]] w fun e w' => e = .returned (.int .i64 r) ∧ Below w.heap.size w w' := by
 have aM := Tryz.underlying75
 have HB := am (Below.refl w.heap.size w)
 have H : ((spec_l1Size.f k aA).bind fun aF => (some (wrap64 ((wrap64 (aE + aF)) - 1)))) = some r := h
 clear h
 replace H := bm H
 obtain ⟨aF, aL, H⟩ := H
 replace H : (some (wrap64 ((wrap64 (aE + aF)) - 1))) = some r := H
 have A2 := Aside0.mk aL
 clear aL
 obtain rfl := sj H
 go_enter Tryz.func100, Tryz.ntmps100
 go_wp2_with (first | ((with_reducible refine gate_dst (N := 1) rfl ?_); refine box_event rfl (N := 1) rfl (cs := #[.int .i64 aE, .int .i64 aA]) (t := 75) BX ?_; intro aK hg w3 aB hb; have aC := am (aB); have aD := am (GH HB hg); have aG := aD; replace HB := bl (KL HB) hb; clear hb aB hg; obtain ⟨aH, aI, aJ⟩ := y2 w3 aC.out) | (go_at_call 104; (with_reducible refine (spec_l1Size.calls k aA aF _ A2.out).mono ?_); rintro e w' ⟨rfl, ⟨nd, rfl⟩⟩; (try first | exact ⟨rfl, _, World.drewN_drewN _ _ _⟩ | exact ⟨rfl, _, Eq.trans (World.drewN_drewN _ _ _) (congrArg (World.drewN _) (Nat.add_assoc _ _ _))⟩)))
 repeat (go_quiet (first | ((with_reducible refine gate_dst (N := 1) rfl ?_); refine box_event rfl (N := 1) rfl (cs := #[.int .i64 aE, .int .i64 aA]) (t := 75) BX ?_; intro aK hg w3 aB hb; have aC := am (aB); have aD := am (GH HB hg); have aG := aD; replace HB := bl (KL HB) hb; clear hb aB hg; obtain ⟨aH, aI, aJ⟩ := y2 w3 aC.out) | (go_at_call 104; (with_reducible refine (spec_l1Size.calls k aA aF _ A2.out).mono ?_); rintro e w' ⟨rfl, ⟨nd, rfl⟩⟩; (try first | exact ⟨rfl, _, World.drewN_drewN _ _ _⟩ | exact ⟨rfl, _, Eq.trans (World.drewN_drewN _ _ _) (congrArg (World.drewN _) (Nat.add_assoc _ _ _))⟩))); try go_wp2_with (first | ((with_reducible refine gate_dst (N := 1) rfl ?_); refine box_event rfl (N := 1) rfl (cs := #[.int .i64 aE, .int .i64 aA]) (t := 75) BX ?_; intro aK hg w3 aB hb; have aC := am (aB); have aD := am (GH HB hg); have aG := aD; replace HB := bl (KL HB) hb; clear hb aB hg; obtain ⟨aH, aI, aJ⟩ := y2 w3 aC.out) | (go_at_call 104; (with_reducible refine (spec_l1Size.calls k aA aF _ A2.out).mono ?_); rintro e w' ⟨rfl, ⟨nd, rfl⟩⟩; (try first | exact ⟨rfl, _, World.drewN_drewN _ _ _⟩ | exact ⟨rfl, _, Eq.trans (World.drewN_drewN _ _ _) (congrArg (World.drewN _) (Nat.add_assoc _ _ _))⟩))))
 go_ret
 exact ⟨ER, K1 HB aG.out⟩
def spec_l4About.f (k : Nat) (a0_0 : Int) (a0_1 : Int) (a0_2 : Int) (a0_3 : Int) (a0_4 : Int) (a0_5 : Int) (a0_6 : Int) (a0_7 : Int) (a1_0 : Int) (a1_1 : Int) (a1_2 : Int) : Option (Bool) := (spec_l1Last.f k a0_2 a0_3).bind fun t103 => ((spec_l1In.f a1_0 a0_2 t103).bind fun t104 => (if t104 = true then ((spec_l1Last.f k a0_4 a0_5).bind fun t105 => ((spec_l1In.f a1_1 a0_4 t105).bind fun t106 => (if t106 = true then ((spec_l1In.f a1_2 a0_6 a0_7).bind fun t107 => (some t107)) else (some false)))) else (some false)))
def spec_l4About.T1 : Bool × List (List Nat × List Nat) := (true, [([], []), ([0], [0]), ([], []), ([2], [2]), ([3], [3]), ([], []), ([5], [5]), ([6], [6]), ([1, 4, 7, 7], [1, 4, 7]), ([8, 8], [8]), ([9], [9]), ([10, 9], [9, 10]), ([9], [9]), ([12, 9], [9, 12]), ([13, 9], [9, 13]), ([9], [9]), ([15, 9], [9, 15]), ([16, 9, 9], [9, 16]), ([11, 14, 17, 17, 9], [9, 11, 14, 17]), ([9, 18], [9, 18]), ([19, 18], [19]), ([20], [20]), ([21, 20], [20, 21]), ([20], [20]), ([23, 20], [20, 23]), ([20], [20]), ([25, 20], [20, 25]), ([22, 24, 26, 20, 20], [20, 22, 24, 26]), ([20, 27], [20, 27]), ([28, 27, 0, 1, 2, 3, 4, 5, 6, 7, 8, 9, 10, 11, 12, 13, 14, 15, 16, 17, 18, 19, 20, 21, 22, 23, 24, 25, 26, 27, 28], [28])])
def spec_l4About.B1 : List Nat := [0, 1, 0, 4, 12, 0, 32, 96, 255, 511, 1023, 2047, 1023, 5119, 13311, 1023, 33791, 99327, 262143, 524287, 1048575, 2097151, 4194303, 2097151, 10485759, 2097151, 35651583, 134217727, 268435455, 536870911]
theorem spec_l4About.tab1 : rtab .any (opsOf Tryz.f83 1) = spec_l4About.T1 := by kernel_rfl
theorem spec_l4About.bits1 : waitsOk spec_l4About.T1.2 spec_l4About.B1 = true := by kernel_rfl
theorem spec_l4About.calls (k : Nat) (aX : Int) (aY : Int) (aF : Int) (aL : Int) (aG : Int) (aM : Int) (aN : Int) (aO : Int) (aI : Int) (aJ : Int) (aP : Int) (r : Bool) (w : World) (h : spec_l4About.f k aX aY aF aL aG aM aN aO aI aJ aP = some r) :
  Calls Tryz.prog 83 #[.agg #[.int .i64 aX, .int .i64 aY, .int .i64 aF, .int .i64 aL, .int .i64 aG, .int .i64 aM, .int .i64 aN, .int .i64 aO], .agg #[.int .i64 aI, .int .i64 aJ, .int .i64 aP]] w fun e w' => e = .returned (.bool r) ∧ Below w.heap.size w w' := by
 have bJ := Tryz.underlying77
 have bK := Tryz.underlying89
 have bL := Tryz.underlying75
 have HB := am (Below.refl w.heap.size w)
 have H : ((spec_l1Last.f k aF aL).bind fun aR => ((spec_l1In.f aI aF aR).bind fun bD => (if bD = true then ((spec_l1Last.f k aG aM).bind fun aQ => ((spec_l1In.f aJ aG aQ).bind fun aT => (if aT = true then ((spec_l1In.f aP aN aO).bind fun aS => (some aS)) else (some false)))) else (some false)))) = some r := h
 clear h
 replace H := bm H
 obtain ⟨aR, bE, H⟩ := H
 replace H : ((spec_l1In.f aI aF aR).bind fun bD => (if bD = true then ((spec_l1Last.f k aG aM).bind fun aQ => ((spec_l1In.f aJ aG aQ).bind fun aT => (if aT = true then ((spec_l1In.f aP aN aO).bind fun aS => (some aS)) else (some false)))) else (some false))) = some r := H
 have A3 := Aside0.mk bE
 clear bE
 replace H := bm H
 obtain ⟨bD, bF, H⟩ := H
 replace H : (if bD = true then ((spec_l1Last.f k aG aM).bind fun aQ => ((spec_l1In.f aJ aG aQ).bind fun aT => (if aT = true then ((spec_l1In.f aP aN aO).bind fun aS => (some aS)) else (some false)))) else (some false)) = some r := H
 have A4 := Aside0.mk bF
 clear bF
 by_cases c5 : bD = true
 ·subst c5
  have H1 := pf H
  clear H
  have H := H1
  clear H1
  replace H := bm H
  obtain ⟨aQ, bG, H⟩ := H
  replace H : ((spec_l1In.f aJ aG aQ).bind fun aT => (if aT = true then ((spec_l1In.f aP aN aO).bind fun aS => (some aS)) else (some false))) = some r := H
  have A6 := Aside0.mk bG
  clear bG
  replace H := bm H
  obtain ⟨aT, bH, H⟩ := H
  replace H : (if aT = true then ((spec_l1In.f aP aN aO).bind fun aS => (some aS)) else (some false)) = some r := H
  have A7 := Aside0.mk bH
  clear bH
  by_cases c8 : aT = true
  ·subst c8
   have H1 := pf H
   clear H
   have H := H1
   clear H1
   replace H := bm H
   obtain ⟨aS, bI, H⟩ := H
   replace H : (some aS) = some r := H
   have A9 := Aside0.mk bI
   clear bI
   obtain rfl := sj H
   go_enter Tryz.func83, Tryz.ntmps83
   try go_wp2_with (first | ((with_reducible refine gate_dst (N := 2) rfl ?_); refine box_event rfl (N := 2) rfl (cs := #[.int .i64 aX, .int .i64 aY, .int .i64 aF, .int .i64 aL, .int .i64 aG, .int .i64 aM, .int .i64 aN, .int .i64 aO]) (t := 77) BX ?_; intro aZ hg bP aH hb; have aA := am (aH); have bA := am (GH HB hg); have aE := bA; replace HB := bl (KL HB) hb; clear hb aH hg) | ((with_reducible refine gate_dst (N := 3) rfl ?_); refine box_event rfl (N := 3) rfl (cs := #[.int .i64 aI, .int .i64 aJ, .int .i64 aP]) (t := 89) BX ?_; intro bB hg bM aH hb; have aB := am (aH); have bC := am (GH1 HB aE.out hg); have aK := bC; replace HB := bl (K1 HB aE.out) hb; have aU := am (NL aA hg); have aV := am (NG aA hg); replace aA := am (BB aA hb); clear hb aH hg))
   replace aA := am (blk_drew aA.out)
   replace aB := am (blk_drew aB.out)
   replace HB := am (below_drew1 HB.out)
   refine start_ (n := 30) (S := fun w' => ce3 w' bB (.int .i64 aI) (.int .i64 aJ) (.int .i64 aP) (de8 w' aZ (.int .i64 aX) (.int .i64 aY) (.int .i64 aF) (.int .i64 aL) (.int .i64 aG) (.int .i64 aM) (.int .i64 aN) (.int .i64 aO))) (ds := []) (tf 0 30) (by kernel_rfl) rfl rfl ⟨z0 _ aB.out, z1 _ aB.out, z2 _ aB.out, z0 _ aA.out, z1 _ aA.out, z2 _ aA.out, z3 _ aA.out, z4 _ aA.out, z5 _ aA.out, z6 _ aA.out, z7 _ aA.out⟩ (fun aC => ?_); refine with_tabW spec_l4About.tab1 spec_l4About.bits1 (fun aD aW => ?_)
   generalize bM.drew = bQ at aA aB HB aC ⊢
   refine pv aD 0 5 (tf 1 29) ?_
   refine pv aD 2 7 (tr [1, 1, 1, 27]) ?_
   refine pv aD 3 8 (tr [1, 1, 2, 26]) ?_
   refine pv aD 5 10 (tr [1, 1, 2, 1, 1, 24]) ?_
   refine tk 1 (some 6) (tr [4, 1, 1, 24]) (take_ofW aD.out aW.out (by kernel_rfl)) aC ?_
   refine tk 4 (some 9) (tf 6 24) (take_ofW aD.out aW.out (by kernel_rfl)) aC ?_
   refine tk 6 (some 11) (tf 7 23) (take_ofW aD.out aW.out (by kernel_rfl)) aC ?_
   refine one_ (i := 7) (N := some 12) (tf 8 22) rfl rfl (one_of aD.out (by kernel_rfl)) (by decide) (fun K hK => ?_)
   refine goes_ Tryz.func100 (by kernel_rfl) rfl #[.agg #[.int .i64 aF, .int .i64 aL]] (by rfl) rfl rfl MT ?_
   with_reducible refine (spec_l1Last.calls k aF aL aR _ A3.out).mono ?_
   rintro e bR ⟨rfl, hb⟩
   refine ⟨_, rfl, ?_⟩
   replace aA := am (BB aA hb)
   replace aB := am (BB aB hb)
   replace HB := bl (K2 HB aE.out aK.out) hb
   (try clear hb)
   (try clear hb2)
   (try clear hk)
   (try clear hi)
   refine hK.out _ _ ⟨z0 _ aB.out, z1 _ aB.out, z2 _ aB.out, z0 _ aA.out, z1 _ aA.out, z2 _ aA.out, z3 _ aA.out, z4 _ aA.out, z5 _ aA.out, z6 _ aA.out, z7 _ aA.out⟩ (fun aC => ?_)
   clear hK K
   refine nm (some 12) ?_
   refine one_ (i := 8) (N := some 13) (tf 9 21) rfl rfl (one_of aD.out (by kernel_rfl)) (by decide) (fun K hK => ?_)
   refine goes_ Tryz.func36 (by kernel_rfl) rfl #[.int .i64 aI, .int .i64 aF, .int .i64 aR] (by rfl) rfl rfl MT ?_
   with_reducible refine (spec_l1In.calls aI aF aR true _ A4.out).mono ?_
   rintro e w' ⟨rfl, ⟨nd, rfl⟩⟩
   refine ⟨_, rfl, ?_⟩
   refine hK.out _ _ ⟨z0 _ aB.out, z1 _ aB.out, z2 _ aB.out, z0 _ aA.out, z1 _ aA.out, z2 _ aA.out, z3 _ aA.out, z4 _ aA.out, z5 _ aA.out, z6 _ aA.out, z7 _ aA.out⟩ (fun aC => ?_)
   clear hK K
   refine nm (some 13) ?_
   refine pv aD 9 14 (tf 10 20) ?_
   refine pv aD 10 15 (tf 11 19) ?_
   refine pv aD 12 17 (tr [11, 1, 1, 17]) ?_
   refine pv aD 13 18 (tr [11, 1, 2, 16]) ?_
   refine pv aD 15 20 (tr [11, 1, 2, 1, 1, 14]) ?_
   refine tk 11 (some 16) (tr [14, 1, 1, 14]) (take_ofW aD.out aW.out (by kernel_rfl)) aC ?_
   refine tk 14 (some 19) (tf 16 14) (take_ofW aD.out aW.out (by kernel_rfl)) aC ?_
   refine tk 16 (some 21) (tf 17 13) (take_ofW aD.out aW.out (by kernel_rfl)) aC ?_
   refine one_ (i := 17) (N := some 22) (tf 18 12) rfl rfl (one_of aD.out (by kernel_rfl)) (by decide) (fun K hK => ?_)
   refine goes_ Tryz.func100 (by kernel_rfl) rfl #[.agg #[.int .i64 aG, .int .i64 aM]] (by rfl) rfl rfl MT ?_
   with_reducible refine (spec_l1Last.calls k aG aM aQ _ A6.out).mono ?_
   rintro e bS ⟨rfl, hb⟩
   refine ⟨_, rfl, ?_⟩
   replace aA := am (BB aA hb)
   replace aB := am (BB aB hb)
   replace HB := bl (K2 HB aE.out aK.out) hb
   (try clear hb)
   (try clear hb2)
   (try clear hk)
   (try clear hi)
   refine hK.out _ _ ⟨z0 _ aB.out, z1 _ aB.out, z2 _ aB.out, z0 _ aA.out, z1 _ aA.out, z2 _ aA.out, z3 _ aA.out, z4 _ aA.out, z5 _ aA.out, z6 _ aA.out, z7 _ aA.out⟩ (fun aC => ?_)
   clear hK K
   refine nm (some 22) ?_
   refine one_ (i := 18) (N := some 23) (tf 19 11) rfl rfl (one_of aD.out (by kernel_rfl)) (by decide) (fun K hK => ?_)
   refine goes_ Tryz.func36 (by kernel_rfl) rfl #[.int .i64 aJ, .int .i64 aG, .int .i64 aQ] (by rfl) rfl rfl MT ?_
   with_reducible refine (spec_l1In.calls aJ aG aQ true _ A7.out).mono ?_
   rintro e w' ⟨rfl, ⟨nd, rfl⟩⟩
   refine ⟨_, rfl, ?_⟩
   refine hK.out _ _ ⟨z0 _ aB.out, z1 _ aB.out, z2 _ aB.out, z0 _ aA.out, z1 _ aA.out, z2 _ aA.out, z3 _ aA.out, z4 _ aA.out, z5 _ aA.out, z6 _ aA.out, z7 _ aA.out⟩ (fun aC => ?_)
   clear hK K
   refine nm (some 23) ?_
   refine pv aD 19 24 (tf 20 10) ?_
   refine pv aD 20 25 (tf 21 9) ?_
   refine pv aD 21 26 (tf 22 8) ?_
   refine pv aD 23 28 (tr [22, 1, 1, 6]) ?_
   refine pv aD 25 30 (tr [22, 1, 1, 1, 1, 4]) ?_
   refine tk 22 (some 27) (tr [24, 1, 1, 4]) (take_ofW aD.out aW.out (by kernel_rfl)) aC ?_
   refine tk 24 (some 29) (tf 26 4) (take_ofW aD.out aW.out (by kernel_rfl)) aC ?_
   refine tk 26 (some 31) (tf 27 3) (take_ofW aD.out aW.out (by kernel_rfl)) aC ?_
   refine one_ (i := 27) (N := some 32) (tf 28 2) rfl rfl (one_of aD.out (by kernel_rfl)) (by decide) (fun K hK => ?_)
   refine goes_ Tryz.func36 (by kernel_rfl) rfl #[.int .i64 aP, .int .i64 aN, .int .i64 aO] (by rfl) rfl rfl MT ?_
   with_reducible refine (spec_l1In.calls aP aN aO aS _ A9.out).mono ?_
   rintro e w' ⟨rfl, ⟨nd, rfl⟩⟩
   refine ⟨_, rfl, ?_⟩
   refine hK.out _ _ ⟨z0 _ aB.out, z1 _ aB.out, z2 _ aB.out, z0 _ aA.out, z1 _ aA.out, z2 _ aA.out, z3 _ aA.out, z4 _ aA.out, z5 _ aA.out, z6 _ aA.out, z7 _ aA.out⟩ (fun aC => ?_)
   clear hK K
   refine nm (some 32) ?_
   refine pv aD 28 33 (tf 29 1) ?_
   refine pv aD 29 4 (tf 30 0) ?_
   refine done_ (done_of aD.out (by kernel_rfl)) ?_
   try go_wp2
   go_ret
   exact ⟨ER, K2 HB aE.out aK.out⟩
  ·replace c8 := Bool.eq_false_iff.mpr c8
   subst c8
   have H1 := nf H
   clear H
   have H := H1
   clear H1
   obtain rfl := sj H
   go_enter Tryz.func83, Tryz.ntmps83
   try go_wp2_with (first | ((with_reducible refine gate_dst (N := 2) rfl ?_); refine box_event rfl (N := 2) rfl (cs := #[.int .i64 aX, .int .i64 aY, .int .i64 aF, .int .i64 aL, .int .i64 aG, .int .i64 aM, .int .i64 aN, .int .i64 aO]) (t := 77) BX ?_; intro aZ hg bT aH hb; have aA := am (aH); have bA := am (GH HB hg); have aE := bA; replace HB := bl (KL HB) hb; clear hb aH hg) | ((with_reducible refine gate_dst (N := 3) rfl ?_); refine box_event rfl (N := 3) rfl (cs := #[.int .i64 aI, .int .i64 aJ, .int .i64 aP]) (t := 89) BX ?_; intro bB hg bN aH hb; have aB := am (aH); have bC := am (GH1 HB aE.out hg); have aK := bC; replace HB := bl (K1 HB aE.out) hb; have aU := am (NL aA hg); have aV := am (NG aA hg); replace aA := am (BB aA hb); clear hb aH hg))
   replace aA := am (blk_drew aA.out)
   replace aB := am (blk_drew aB.out)
   replace HB := am (below_drew1 HB.out)
   refine start_ (n := 30) (S := fun w' => ce3 w' bB (.int .i64 aI) (.int .i64 aJ) (.int .i64 aP) (de8 w' aZ (.int .i64 aX) (.int .i64 aY) (.int .i64 aF) (.int .i64 aL) (.int .i64 aG) (.int .i64 aM) (.int .i64 aN) (.int .i64 aO))) (ds := []) (tf 0 30) (by kernel_rfl) rfl rfl ⟨z0 _ aB.out, z1 _ aB.out, z2 _ aB.out, z0 _ aA.out, z1 _ aA.out, z2 _ aA.out, z3 _ aA.out, z4 _ aA.out, z5 _ aA.out, z6 _ aA.out, z7 _ aA.out⟩ (fun aC => ?_); refine with_tabW spec_l4About.tab1 spec_l4About.bits1 (fun aD aW => ?_)
   generalize bN.drew = bU at aA aB HB aC ⊢
   refine pv aD 0 5 (tf 1 29) ?_
   refine pv aD 2 7 (tr [1, 1, 1, 27]) ?_
   refine pv aD 3 8 (tr [1, 1, 2, 26]) ?_
   refine pv aD 5 10 (tr [1, 1, 2, 1, 1, 24]) ?_
   refine tk 1 (some 6) (tr [4, 1, 1, 24]) (take_ofW aD.out aW.out (by kernel_rfl)) aC ?_
   refine tk 4 (some 9) (tf 6 24) (take_ofW aD.out aW.out (by kernel_rfl)) aC ?_
   refine tk 6 (some 11) (tf 7 23) (take_ofW aD.out aW.out (by kernel_rfl)) aC ?_
   refine one_ (i := 7) (N := some 12) (tf 8 22) rfl rfl (one_of aD.out (by kernel_rfl)) (by decide) (fun K hK => ?_)
   refine goes_ Tryz.func100 (by kernel_rfl) rfl #[.agg #[.int .i64 aF, .int .i64 aL]] (by rfl) rfl rfl MT ?_
   with_reducible refine (spec_l1Last.calls k aF aL aR _ A3.out).mono ?_
   rintro e bV ⟨rfl, hb⟩
   refine ⟨_, rfl, ?_⟩
   replace aA := am (BB aA hb)
   replace aB := am (BB aB hb)
   replace HB := bl (K2 HB aE.out aK.out) hb
   (try clear hb)
   (try clear hb2)
   (try clear hk)
   (try clear hi)
   refine hK.out _ _ ⟨z0 _ aB.out, z1 _ aB.out, z2 _ aB.out, z0 _ aA.out, z1 _ aA.out, z2 _ aA.out, z3 _ aA.out, z4 _ aA.out, z5 _ aA.out, z6 _ aA.out, z7 _ aA.out⟩ (fun aC => ?_)
   clear hK K
   refine nm (some 12) ?_
   refine one_ (i := 8) (N := some 13) (tf 9 21) rfl rfl (one_of aD.out (by kernel_rfl)) (by decide) (fun K hK => ?_)
   refine goes_ Tryz.func36 (by kernel_rfl) rfl #[.int .i64 aI, .int .i64 aF, .int .i64 aR] (by rfl) rfl rfl MT ?_
   with_reducible refine (spec_l1In.calls aI aF aR true _ A4.out).mono ?_
   rintro e w' ⟨rfl, ⟨nd, rfl⟩⟩
   refine ⟨_, rfl, ?_⟩
   refine hK.out _ _ ⟨z0 _ aB.out, z1 _ aB.out, z2 _ aB.out, z0 _ aA.out, z1 _ aA.out, z2 _ aA.out, z3 _ aA.out, z4 _ aA.out, z5 _ aA.out, z6 _ aA.out, z7 _ aA.out⟩ (fun aC => ?_)
   clear hK K
   refine nm (some 13) ?_
   refine pv aD 9 14 (tf 10 20) ?_
   refine pv aD 10 15 (tf 11 19) ?_
   refine pv aD 12 17 (tr [11, 1, 1, 17]) ?_
   refine pv aD 13 18 (tr [11, 1, 2, 16]) ?_
   refine pv aD 15 20 (tr [11, 1, 2, 1, 1, 14]) ?_
   refine tk 11 (some 16) (tr [14, 1, 1, 14]) (take_ofW aD.out aW.out (by kernel_rfl)) aC ?_
   refine tk 14 (some 19) (tf 16 14) (take_ofW aD.out aW.out (by kernel_rfl)) aC ?_
   refine tk 16 (some 21) (tf 17 13) (take_ofW aD.out aW.out (by kernel_rfl)) aC ?_
   refine one_ (i := 17) (N := some 22) (tf 18 12) rfl rfl (one_of aD.out (by kernel_rfl)) (by decide) (fun K hK => ?_)
   refine goes_ Tryz.func100 (by kernel_rfl) rfl #[.agg #[.int .i64 aG, .int .i64 aM]] (by rfl) rfl rfl MT ?_
   with_reducible refine (spec_l1Last.calls k aG aM aQ _ A6.out).mono ?_
   rintro e bW ⟨rfl, hb⟩
   refine ⟨_, rfl, ?_⟩
   replace aA := am (BB aA hb)
   replace aB := am (BB aB hb)
   replace HB := bl (K2 HB aE.out aK.out) hb
   (try clear hb)
   (try clear hb2)
   (try clear hk)
   (try clear hi)
   refine hK.out _ _ ⟨z0 _ aB.out, z1 _ aB.out, z2 _ aB.out, z0 _ aA.out, z1 _ aA.out, z2 _ aA.out, z3 _ aA.out, z4 _ aA.out, z5 _ aA.out, z6 _ aA.out, z7 _ aA.out⟩ (fun aC => ?_)
   clear hK K
   refine nm (some 22) ?_
   refine one_ (i := 18) (N := some 23) (tf 19 11) rfl rfl (one_of aD.out (by kernel_rfl)) (by decide) (fun K hK => ?_)
   refine goes_ Tryz.func36 (by kernel_rfl) rfl #[.int .i64 aJ, .int .i64 aG, .int .i64 aQ] (by rfl) rfl rfl MT ?_
   with_reducible refine (spec_l1In.calls aJ aG aQ false _ A7.out).mono ?_
   rintro e w' ⟨rfl, ⟨nd, rfl⟩⟩
   refine ⟨_, rfl, ?_⟩
   refine hK.out _ _ ⟨z0 _ aB.out, z1 _ aB.out, z2 _ aB.out, z0 _ aA.out, z1 _ aA.out, z2 _ aA.out, z3 _ aA.out, z4 _ aA.out, z5 _ aA.out, z6 _ aA.out, z7 _ aA.out⟩ (fun aC => ?_)
   clear hK K
   refine nm (some 23) ?_
   refine pv aD 19 24 (tf 20 10) ?_
   refine pv aD 20 25 (tf 21 9) ?_
   refine pw aD 21 26 (tf 22 8) ?_
   refine pw aD 22 27 (tf 23 7) ?_
   refine pw aD 23 28 (tf 24 6) ?_
   refine pw aD 24 29 (tf 25 5) ?_
   refine pw aD 25 30 (tf 26 4) ?_
   refine pw aD 26 31 (tf 27 3) ?_
   refine pw aD 27 32 (tf 28 2) ?_
   refine pv aD 28 33 (tf 29 1) ?_
   refine pv aD 29 4 (tf 30 0) ?_
   refine done_ (done_of aD.out (by kernel_rfl)) ?_
   try go_wp2
   go_ret
   exact ⟨ER, K2 HB aE.out aK.out⟩
 ·replace c5 := Bool.eq_false_iff.mpr c5
  subst c5
  have H1 := nf H
  clear H
  have H := H1
  clear H1
  obtain rfl := sj H
  go_enter Tryz.func83, Tryz.ntmps83
  try go_wp2_with (first | ((with_reducible refine gate_dst (N := 2) rfl ?_); refine box_event rfl (N := 2) rfl (cs := #[.int .i64 aX, .int .i64 aY, .int .i64 aF, .int .i64 aL, .int .i64 aG, .int .i64 aM, .int .i64 aN, .int .i64 aO]) (t := 77) BX ?_; intro aZ hg bX aH hb; have aA := am (aH); have bA := am (GH HB hg); have aE := bA; replace HB := bl (KL HB) hb; clear hb aH hg) | ((with_reducible refine gate_dst (N := 3) rfl ?_); refine box_event rfl (N := 3) rfl (cs := #[.int .i64 aI, .int .i64 aJ, .int .i64 aP]) (t := 89) BX ?_; intro bB hg bO aH hb; have aB := am (aH); have bC := am (GH1 HB aE.out hg); have aK := bC; replace HB := bl (K1 HB aE.out) hb; have aU := am (NL aA hg); have aV := am (NG aA hg); replace aA := am (BB aA hb); clear hb aH hg))
  replace aA := am (blk_drew aA.out)
  replace aB := am (blk_drew aB.out)
  replace HB := am (below_drew1 HB.out)
  refine start_ (n := 30) (S := fun w' => ce3 w' bB (.int .i64 aI) (.int .i64 aJ) (.int .i64 aP) (de8 w' aZ (.int .i64 aX) (.int .i64 aY) (.int .i64 aF) (.int .i64 aL) (.int .i64 aG) (.int .i64 aM) (.int .i64 aN) (.int .i64 aO))) (ds := []) (tf 0 30) (by kernel_rfl) rfl rfl ⟨z0 _ aB.out, z1 _ aB.out, z2 _ aB.out, z0 _ aA.out, z1 _ aA.out, z2 _ aA.out, z3 _ aA.out, z4 _ aA.out, z5 _ aA.out, z6 _ aA.out, z7 _ aA.out⟩ (fun aC => ?_); refine with_tabW spec_l4About.tab1 spec_l4About.bits1 (fun aD aW => ?_)
  generalize bO.drew = bY at aA aB HB aC ⊢
  refine pv aD 0 5 (tf 1 29) ?_
  refine pv aD 2 7 (tr [1, 1, 1, 27]) ?_
  refine pv aD 3 8 (tr [1, 1, 2, 26]) ?_
  refine pv aD 5 10 (tr [1, 1, 2, 1, 1, 24]) ?_
  refine tk 1 (some 6) (tr [4, 1, 1, 24]) (take_ofW aD.out aW.out (by kernel_rfl)) aC ?_
  refine tk 4 (some 9) (tf 6 24) (take_ofW aD.out aW.out (by kernel_rfl)) aC ?_
  refine tk 6 (some 11) (tf 7 23) (take_ofW aD.out aW.out (by kernel_rfl)) aC ?_
  refine one_ (i := 7) (N := some 12) (tf 8 22) rfl rfl (one_of aD.out (by kernel_rfl)) (by decide) (fun K hK => ?_)
  refine goes_ Tryz.func100 (by kernel_rfl) rfl #[.agg #[.int .i64 aF, .int .i64 aL]] (by rfl) rfl rfl MT ?_
  with_reducible refine (spec_l1Last.calls k aF aL aR _ A3.out).mono ?_
  rintro e bZ ⟨rfl, hb⟩
  refine ⟨_, rfl, ?_⟩
  replace aA := am (BB aA hb)
  replace aB := am (BB aB hb)
  replace HB := bl (K2 HB aE.out aK.out) hb
  (try clear hb)
  (try clear hb2)
  (try clear hk)
  (try clear hi)
  refine hK.out _ _ ⟨z0 _ aB.out, z1 _ aB.out, z2 _ aB.out, z0 _ aA.out, z1 _ aA.out, z2 _ aA.out, z3 _ aA.out, z4 _ aA.out, z5 _ aA.out, z6 _ aA.out, z7 _ aA.out⟩ (fun aC => ?_)
  clear hK K
  refine nm (some 12) ?_
  refine one_ (i := 8) (N := some 13) (tf 9 21) rfl rfl (one_of aD.out (by kernel_rfl)) (by decide) (fun K hK => ?_)
  refine goes_ Tryz.func36 (by kernel_rfl) rfl #[.int .i64 aI, .int .i64 aF, .int .i64 aR] (by rfl) rfl rfl MT ?_
  with_reducible refine (spec_l1In.calls aI aF aR false _ A4.out).mono ?_
  rintro e w' ⟨rfl, ⟨nd, rfl⟩⟩
  refine ⟨_, rfl, ?_⟩
  refine hK.out _ _ ⟨z0 _ aB.out, z1 _ aB.out, z2 _ aB.out, z0 _ aA.out, z1 _ aA.out, z2 _ aA.out, z3 _ aA.out, z4 _ aA.out, z5 _ aA.out, z6 _ aA.out, z7 _ aA.out⟩ (fun aC => ?_)
  clear hK K
  refine nm (some 13) ?_
  refine pv aD 9 14 (tf 10 20) ?_
  refine pw aD 10 15 (tf 11 19) ?_
  refine pw aD 11 16 (tf 12 18) ?_
  refine pw aD 12 17 (tf 13 17) ?_
  refine pw aD 13 18 (tf 14 16) ?_
  refine pw aD 14 19 (tf 15 15) ?_
  refine pw aD 15 20 (tf 16 14) ?_
  refine pw aD 16 21 (tf 17 13) ?_
  refine pw aD 17 22 (tf 18 12) ?_
  refine pw aD 18 23 (tf 19 11) ?_
  refine pv aD 19 24 (tf 20 10) ?_
  refine pv aD 20 25 (tf 21 9) ?_
  refine pw aD 21 26 (tf 22 8) ?_
  refine pw aD 22 27 (tf 23 7) ?_
  refine pw aD 23 28 (tf 24 6) ?_
  refine pw aD 24 29 (tf 25 5) ?_
  refine pw aD 25 30 (tf 26 4) ?_
  refine pw aD 26 31 (tf 27 3) ?_
  refine pw aD 27 32 (tf 28 2) ?_
  refine pv aD 28 33 (tf 29 1) ?_
  refine pv aD 29 4 (tf 30 0) ?_
  refine done_ (done_of aD.out (by kernel_rfl)) ?_
  try go_wp2
  go_ret
  exact ⟨ER, K2 HB aE.out aK.out⟩
def spec_l4First.l0 : Nat → List (S77) → Int → Int → Int → Int → Option (Int)
 | 0, _, _, _, _, _ => none
 | k + 1, x0, x5, x102000, x102001, x102002 => if x5 < (x0.length : Int) then (if 0 ≤ x5 then ((spec_l4About.f k ((rd_T77 x0 x5).f0) ((rd_T77 x0 x5).f1) ((rd_T77 x0 x5).f2.f0) ((rd_T77 x0 x5).f2.f1) ((rd_T77 x0 x5).f3.f0) ((rd_T77 x0 x5).f3.f1) ((rd_T77 x0 x5).f4) ((rd_T77 x0 x5).f5) x102000 x102001 x102002).bind fun t103 => (if t103 = true then (some x5) else (spec_l4First.l0 k x0 (wrap64 (x5 + 1)) x102000 x102001 x102002))) else (none)) else (some (-1))
def spec_l4First.f (k : Nat) (l0 : List (S77)) (a1_0 : Int) (a1_1 : Int) (a1_2 : Int) : Option (Int) := spec_l4First.l0 k l0 0 a1_0 a1_1 a1_2
theorem spec_l4First.calls (k : Nat) (A0 : Option Addr) (c0 : Nat) (l0 : List (S77)) (aU : Int) (aV : Int) (aW : Int) (r : Int) (w : World) (bF : Kd.C k77 w A0 l0.length l0) (bG : l0.length ≤ c0) (h : spec_l4First.f k l0 aU aV aW = some r) :
  Calls Tryz.prog 64 #[.slice A0 l0.length c0, .agg #[.int .i64 aU, .int .i64 aV, .int .i64 aW]] w fun e w' => e = .returned (.int .i64 r) ∧ Below w.heap.size w w' := by
 have bJ := Tryz.underlying89
 have bK := Tryz.underlying77
 have bH := Aside0.mk bF
 have bL := Aside0.mk bG
 clear bF bG
 have HB := am (Below.refl w.heap.size w)
 have H : (spec_l4First.l0 k l0 0 aU aV aW) = some r := h
 clear h
 have H' := Aside0.mk H
 clear H
 go_enter Tryz.func64, Tryz.ntmps64
 go_wp2_with (first | ((with_reducible refine gate_dst (N := 3) rfl ?_); refine box_event rfl (N := 3) rfl (cs := #[.int .i64 aU, .int .i64 aV, .int .i64 aW]) (t := 89) BX ?_; intro bA hg w3 bC hb; have aC := am (bC); have bD := am (GH HB hg); have aX := bD; replace HB := bl (KL HB) hb; clear hb bC hg))
 go_loopg [5] k (fun kq v5 w' => ∃ (aA : Int), v5 = .int .i64 aA ∧ Aside0 (spec_l4First.l0 kq l0 aA aU aV aW = some r) ∧ Aside0 (kq ≤ k) ∧ Aside0 (w'.heap[bA]? = some (.cells #[.int .i64 aU, .int .i64 aV, .int .i64 aW] 89 (0, 0))) ∧ Aside0 (Below w.heap.size w w'))
 case atStart => exact ⟨(0), (by first | rfl | (simp; done) | (simp [*]; done)), H', ⟨Nat.le_refl _⟩, ⟨KB aC⟩, ⟨K1 HB aX.out⟩⟩
 case round =>
  clear H'
  try clear p2
  obtain ⟨aA, rfl, HA, HK1, aC, HB⟩ := hrel
  cases gk with
  | zero => exact absurd HA.out (by simp [spec_l4First.l0])
  | succ k1 =>
   have H := HA.out
   clear HA
   simp only [spec_l4First.l0] at H
   by_cases c4 : aA < (l0.length : Int)
   ·rw [if_pos c4] at H
    have c4b0 : decide (aA < (l0.length : Int)) = true := decide_eq_true c4
    clear c4
    by_cases c5 : 0 ≤ aA
    ·rw [if_pos c5] at H
     have c5b0 : decide (0 ≤ aA) = true := decide_eq_true c5
     clear c5
     replace H := bm H
     obtain ⟨bE, bI, H⟩ := H
     replace H : (if bE = true then (some aA) else (spec_l4First.l0 k1 l0 (wrap64 (aA + 1)) aU aV aW)) = some r := H
     have A6 := Aside0.mk bI
     clear bI
     by_cases c7 : bE = true
     ·subst c7
      have H1 := pf H
      clear H
      have H := H1
      clear H1
      obtain rfl := sj H
      try go_wp2
      replace aC := am (blk_drew aC.out)
      replace HB := am (below_drew1 HB.out)
      have aY : 0 ≤ (aA : Int) := OD
      have aZ : aA < (l0.length : Int) := OD
      obtain ⟨aB, bB, aD, aE, aF, aG, aH, aI, aJ, aK⟩ := at_T77 bH.out aA aY aZ
      have aL := aK
      have aM := aJ
      have aN := aI
      have aO := aH
      have aP := aG
      have aQ := aF
      have aR := aE
      have aS := aD
      cases bB
      replace aD := CX HB.out aD
      replace aE := CX HB.out aE
      replace aF := CX HB.out aF
      replace aG := CX HB.out aG
      replace aH := CX HB.out aH
      replace aI := CX HB.out aI
      replace aJ := CX HB.out aJ
      replace aK := CX HB.out aK
      replace aY := eq_true aY
      replace aZ := eq_true aZ
      refine start_ (n := 6) (S := fun w' => ce3 w' bA (.int .i64 aU) (.int .i64 aV) (.int .i64 aW) (w'.cell? (aB.add ((aA).toNat * 8)) = some (.int .i64 ((rd_T77 l0 aA).f0)) ∧ w'.cell? ⟨(aB.add ((aA).toNat * 8)).block, (aB.add ((aA).toNat * 8)).off + 1, none⟩ = some (.int .i64 ((rd_T77 l0 aA).f1)) ∧ w'.cell? ⟨(aB.add ((aA).toNat * 8)).block, (aB.add ((aA).toNat * 8)).off + 2, none⟩ = some (.int .i64 ((rd_T77 l0 aA).f2.f0)) ∧ w'.cell? ⟨(aB.add ((aA).toNat * 8)).block, (aB.add ((aA).toNat * 8)).off + 3, none⟩ = some (.int .i64 ((rd_T77 l0 aA).f2.f1)) ∧ w'.cell? ⟨(aB.add ((aA).toNat * 8)).block, (aB.add ((aA).toNat * 8)).off + 4, none⟩ = some (.int .i64 ((rd_T77 l0 aA).f3.f0)) ∧ w'.cell? ⟨(aB.add ((aA).toNat * 8)).block, (aB.add ((aA).toNat * 8)).off + 5, none⟩ = some (.int .i64 ((rd_T77 l0 aA).f3.f1)) ∧ w'.cell? ⟨(aB.add ((aA).toNat * 8)).block, (aB.add ((aA).toNat * 8)).off + 6, none⟩ = some (.int .i64 ((rd_T77 l0 aA).f4)) ∧ w'.cell? ⟨(aB.add ((aA).toNat * 8)).block, (aB.add ((aA).toNat * 8)).off + 7, none⟩ = some (.int .i64 ((rd_T77 l0 aA).f5)))) (ds := []) (tf 0 6) (by kernel_rfl) rfl rfl ⟨z0 _ aC.out, z1 _ aC.out, z2 _ aC.out, (CY HB.out aS), (CY HB.out aR), (CY HB.out aQ), (CY HB.out aP), (CY HB.out aO), (CY HB.out aN), (CY HB.out aM), (CY HB.out aL)⟩ (fun aT => ?_)
      generalize wr.drew = w8 at aC HB aD aE aF aG aH aI aJ aK aT ⊢
      refine pure_ (i := 0) (N := some 12) (v := ?_) (a' := ?_) (tf 1 5) rfl rfl (by kernel_rfl) (fun _ _ _ h => h) (Or.inl ⟨by rfl, ?_⟩) ?_ ?_; rotate_left; (· intro w'; go_simp; with_reducible rfl); rotate_left; (· simp only [Act.put, List.setIfInBounds_toArray, List.set_cons_zero, List.set_cons_succ, i64_w, i32_w]; rfl)
      refine pure_ (i := 1) (N := some 13) (v := ?_) (a' := ?_) (tf 2 4) rfl rfl (by kernel_rfl) (fun _ _ _ h => h) (Or.inl ⟨by rfl, ?_⟩) ?_ ?_; rotate_left; (· intro w'; go_simp; with_reducible rfl); rotate_left; (· simp only [Act.put, List.setIfInBounds_toArray, List.set_cons_zero, List.set_cons_succ, i64_w, i32_w]; rfl)
      refine pure_ (i := 2) (N := some 14) (v := ?_) (a' := ?_) (tf 3 3) rfl rfl (by kernel_rfl) (fun _ _ _ h => h) (Or.inl ⟨by rfl, ?_⟩) ?_ ?_; rotate_left; (· intro w'; go_simp; with_reducible rfl); rotate_left; (· simp only [Act.put, List.setIfInBounds_toArray, List.set_cons_zero, List.set_cons_succ, i64_w, i32_w]; rfl)
      refine take_ (i := 3) (N := some 15) (v := ?_) (a' := ?_) (tf 4 2) rfl rfl (by kernel_rfl) (fun _ _ _ h => h) (Or.inl ⟨by rfl, ?_⟩) aT ?_ ?_
      rotate_left
      ·rintro w' ⟨s0, s1, s2, s3, s4, s5, s6, s7, s8, s9, s10⟩
       go_simp
       with_reducible rfl
      rotate_left
      ·simp only [Act.put, List.setIfInBounds_toArray, List.set_cons_zero, List.set_cons_succ, i64_w, i32_w]
       rfl
      refine take_ (i := 4) (N := some 16) (v := ?_) (a' := ?_) (tf 5 1) rfl rfl (by kernel_rfl) (fun _ _ _ h => h) (Or.inl ⟨by rfl, ?_⟩) aT ?_ ?_
      rotate_left
      ·rintro w' ⟨s0, s1, s2, s3, s4, s5, s6, s7, s8, s9, s10⟩
       go_simp
       with_reducible rfl
      rotate_left
      ·simp only [Act.put, List.setIfInBounds_toArray, List.set_cons_zero, List.set_cons_succ, i64_w, i32_w]
       rfl
      refine one_ (i := 5) (N := some 17) (tf 6 0) rfl rfl (by kernel_rfl) (by decide) (fun K hK => ?_)
      refine goes_ Tryz.func83 (by kernel_rfl) rfl #[.agg #[.int .i64 ((rd_T77 l0 aA).f0), .int .i64 ((rd_T77 l0 aA).f1), .int .i64 ((rd_T77 l0 aA).f2.f0), .int .i64 ((rd_T77 l0 aA).f2.f1), .int .i64 ((rd_T77 l0 aA).f3.f0), .int .i64 ((rd_T77 l0 aA).f3.f1), .int .i64 ((rd_T77 l0 aA).f4), .int .i64 ((rd_T77 l0 aA).f5)], .agg #[.int .i64 aU, .int .i64 aV, .int .i64 aW]] (by rfl) rfl rfl MT ?_
      with_reducible refine (spec_l4About.calls k1 ((rd_T77 l0 aA).f0) ((rd_T77 l0 aA).f1) ((rd_T77 l0 aA).f2.f0) ((rd_T77 l0 aA).f2.f1) ((rd_T77 l0 aA).f3.f0) ((rd_T77 l0 aA).f3.f1) ((rd_T77 l0 aA).f4) ((rd_T77 l0 aA).f5) aU aV aW true _ A6.out).mono ?_
      rintro e w9 ⟨rfl, hb⟩
      refine ⟨_, rfl, ?_⟩
      replace aC := am (BB aC hb)
      replace HB := bl (K1 HB aX.out) hb
      (try clear hb)
      (try clear hb2)
      (try clear hk)
      (try clear hi)
      refine hK.out _ _ ⟨z0 _ aC.out, z1 _ aC.out, z2 _ aC.out, (CY HB.out aS), (CY HB.out aR), (CY HB.out aQ), (CY HB.out aP), (CY HB.out aO), (CY HB.out aN), (CY HB.out aM), (CY HB.out aL)⟩ (fun aT => ?_)
      clear hK K
      refine nm (some 17) ?_
      refine done_ (by kernel_rfl) ?_
      try go_wp2
      go_ret
      exact ⟨ER, K1 HB aX.out⟩
     ·replace c7 := Bool.eq_false_iff.mpr c7
      subst c7
      have H1 := nf H
      clear H
      have H := H1
      clear H1
      have H' := Aside0.mk H
      clear H
      try go_wp2
      replace aC := am (blk_drew aC.out)
      replace HB := am (below_drew1 HB.out)
      have aY : 0 ≤ (aA : Int) := OD
      have aZ : aA < (l0.length : Int) := OD
      obtain ⟨aB, bB, aD, aE, aF, aG, aH, aI, aJ, aK⟩ := at_T77 bH.out aA aY aZ
      have aL := aK
      have aM := aJ
      have aN := aI
      have aO := aH
      have aP := aG
      have aQ := aF
      have aR := aE
      have aS := aD
      cases bB
      replace aD := CX HB.out aD
      replace aE := CX HB.out aE
      replace aF := CX HB.out aF
      replace aG := CX HB.out aG
      replace aH := CX HB.out aH
      replace aI := CX HB.out aI
      replace aJ := CX HB.out aJ
      replace aK := CX HB.out aK
      replace aY := eq_true aY
      replace aZ := eq_true aZ
      refine start_ (n := 6) (S := fun w' => ce3 w' bA (.int .i64 aU) (.int .i64 aV) (.int .i64 aW) (w'.cell? (aB.add ((aA).toNat * 8)) = some (.int .i64 ((rd_T77 l0 aA).f0)) ∧ w'.cell? ⟨(aB.add ((aA).toNat * 8)).block, (aB.add ((aA).toNat * 8)).off + 1, none⟩ = some (.int .i64 ((rd_T77 l0 aA).f1)) ∧ w'.cell? ⟨(aB.add ((aA).toNat * 8)).block, (aB.add ((aA).toNat * 8)).off + 2, none⟩ = some (.int .i64 ((rd_T77 l0 aA).f2.f0)) ∧ w'.cell? ⟨(aB.add ((aA).toNat * 8)).block, (aB.add ((aA).toNat * 8)).off + 3, none⟩ = some (.int .i64 ((rd_T77 l0 aA).f2.f1)) ∧ w'.cell? ⟨(aB.add ((aA).toNat * 8)).block, (aB.add ((aA).toNat * 8)).off + 4, none⟩ = some (.int .i64 ((rd_T77 l0 aA).f3.f0)) ∧ w'.cell? ⟨(aB.add ((aA).toNat * 8)).block, (aB.add ((aA).toNat * 8)).off + 5, none⟩ = some (.int .i64 ((rd_T77 l0 aA).f3.f1)) ∧ w'.cell? ⟨(aB.add ((aA).toNat * 8)).block, (aB.add ((aA).toNat * 8)).off + 6, none⟩ = some (.int .i64 ((rd_T77 l0 aA).f4)) ∧ w'.cell? ⟨(aB.add ((aA).toNat * 8)).block, (aB.add ((aA).toNat * 8)).off + 7, none⟩ = some (.int .i64 ((rd_T77 l0 aA).f5)))) (ds := []) (tf 0 6) (by kernel_rfl) rfl rfl ⟨z0 _ aC.out, z1 _ aC.out, z2 _ aC.out, (CY HB.out aS), (CY HB.out aR), (CY HB.out aQ), (CY HB.out aP), (CY HB.out aO), (CY HB.out aN), (CY HB.out aM), (CY HB.out aL)⟩ (fun aT => ?_)
      generalize wr.drew = bM at aC HB aD aE aF aG aH aI aJ aK aT ⊢
      refine pure_ (i := 0) (N := some 12) (v := ?_) (a' := ?_) (tf 1 5) rfl rfl (by kernel_rfl) (fun _ _ _ h => h) (Or.inl ⟨by rfl, ?_⟩) ?_ ?_; rotate_left; (· intro w'; go_simp; with_reducible rfl); rotate_left; (· simp only [Act.put, List.setIfInBounds_toArray, List.set_cons_zero, List.set_cons_succ, i64_w, i32_w]; rfl)
      refine pure_ (i := 1) (N := some 13) (v := ?_) (a' := ?_) (tf 2 4) rfl rfl (by kernel_rfl) (fun _ _ _ h => h) (Or.inl ⟨by rfl, ?_⟩) ?_ ?_; rotate_left; (· intro w'; go_simp; with_reducible rfl); rotate_left; (· simp only [Act.put, List.setIfInBounds_toArray, List.set_cons_zero, List.set_cons_succ, i64_w, i32_w]; rfl)
      refine pure_ (i := 2) (N := some 14) (v := ?_) (a' := ?_) (tf 3 3) rfl rfl (by kernel_rfl) (fun _ _ _ h => h) (Or.inl ⟨by rfl, ?_⟩) ?_ ?_; rotate_left; (· intro w'; go_simp; with_reducible rfl); rotate_left; (· simp only [Act.put, List.setIfInBounds_toArray, List.set_cons_zero, List.set_cons_succ, i64_w, i32_w]; rfl)
      refine take_ (i := 3) (N := some 15) (v := ?_) (a' := ?_) (tf 4 2) rfl rfl (by kernel_rfl) (fun _ _ _ h => h) (Or.inl ⟨by rfl, ?_⟩) aT ?_ ?_
      rotate_left
      ·rintro w' ⟨s0, s1, s2, s3, s4, s5, s6, s7, s8, s9, s10⟩
       go_simp
       with_reducible rfl
      rotate_left
      ·simp only [Act.put, List.setIfInBounds_toArray, List.set_cons_zero, List.set_cons_succ, i64_w, i32_w]
       rfl
      refine take_ (i := 4) (N := some 16) (v := ?_) (a' := ?_) (tf 5 1) rfl rfl (by kernel_rfl) (fun _ _ _ h => h) (Or.inl ⟨by rfl, ?_⟩) aT ?_ ?_
      rotate_left
      ·rintro w' ⟨s0, s1, s2, s3, s4, s5, s6, s7, s8, s9, s10⟩
       go_simp
       with_reducible rfl
      rotate_left
      ·simp only [Act.put, List.setIfInBounds_toArray, List.set_cons_zero, List.set_cons_succ, i64_w, i32_w]
       rfl
      refine one_ (i := 5) (N := some 17) (tf 6 0) rfl rfl (by kernel_rfl) (by decide) (fun K hK => ?_)
      refine goes_ Tryz.func83 (by kernel_rfl) rfl #[.agg #[.int .i64 ((rd_T77 l0 aA).f0), .int .i64 ((rd_T77 l0 aA).f1), .int .i64 ((rd_T77 l0 aA).f2.f0), .int .i64 ((rd_T77 l0 aA).f2.f1), .int .i64 ((rd_T77 l0 aA).f3.f0), .int .i64 ((rd_T77 l0 aA).f3.f1), .int .i64 ((rd_T77 l0 aA).f4), .int .i64 ((rd_T77 l0 aA).f5)], .agg #[.int .i64 aU, .int .i64 aV, .int .i64 aW]] (by rfl) rfl rfl MT ?_
      with_reducible refine (spec_l4About.calls k1 ((rd_T77 l0 aA).f0) ((rd_T77 l0 aA).f1) ((rd_T77 l0 aA).f2.f0) ((rd_T77 l0 aA).f2.f1) ((rd_T77 l0 aA).f3.f0) ((rd_T77 l0 aA).f3.f1) ((rd_T77 l0 aA).f4) ((rd_T77 l0 aA).f5) aU aV aW false _ A6.out).mono ?_
      rintro e bN ⟨rfl, hb⟩
      refine ⟨_, rfl, ?_⟩
      replace aC := am (BB aC hb)
      replace HB := bl (K1 HB aX.out) hb
      (try clear hb)
      (try clear hb2)
      (try clear hk)
      (try clear hi)
      refine hK.out _ _ ⟨z0 _ aC.out, z1 _ aC.out, z2 _ aC.out, (CY HB.out aS), (CY HB.out aR), (CY HB.out aQ), (CY HB.out aP), (CY HB.out aO), (CY HB.out aN), (CY HB.out aM), (CY HB.out aL)⟩ (fun aT => ?_)
      clear hK K
      refine nm (some 17) ?_
      refine done_ (by kernel_rfl) ?_
      try go_wp2
      go_roundg k1
      case measure => have := HK1.out; omega
      case rel => exact ⟨(wrap64 (aA + 1)), (by first | rfl | (simp; done) | (simp [*]; done)), H', ⟨by have := HK1.out; omega⟩, ⟨KB aC⟩, ⟨K1 HB aX.out⟩⟩
    ·rw [if_neg c5] at H
     exact absurd H (by simp)
   ·rw [if_neg c4] at H
    have c4b0 : decide (aA < (l0.length : Int)) = false := decide_eq_false c4
    clear c4
    obtain rfl := sj H
    go_wp2
    go_ret
    exact ⟨ER, K1 HB aX.out⟩
end Go.Proofs.YtmdegplkdgaebaaGreat.PAll
end
section
namespace Go.Proofs.YtmdegplkdgaebaaGreat.PAll
open Go.RowKit Go.Proofs.YtmdegplkdgaebaaGreatW.PrintWords Go.Proofs.YtmdegplkdgaebaaGreatW.PrintLast Go.Proofs.YtmdegplkdgaebaaGreatW.PrintMore
attribute [local go_sem] max2_int min2_int max_two min_two max_three min_three max_four min_four
set_option linter.unusedVariables false
set_option linter.unusedSimpArgs false
attribute [local go_sem high] eqA89
mutual
def spec_CacheOk.j0 : Nat → List (S77) → Bool → Int → List (S91) → Option (Bool)
 | 0, _, _, _, _ => none
 | k + 1, x0, x23, x102000, x102001 => if x23 = true then (some false) else (spec_CacheOk.l0 k x0 0 x102000 x102001)
def spec_CacheOk.l0 : Nat → List (S77) → Int → Int → List (S91) → Option (Bool)
 | 0, _, _, _, _ => none
 | k + 1, x0, x5, x102000, x102001 => if x5 < (x102001.length : Int) then (if 0 ≤ x5 then ((spec_l4Call.f ((rd_T91 x102001 x5).f0.f0) ((rd_T91 x102001 x5).f0.f1) ((rd_T91 x102001 x5).f0.f2)).bind fun t105 => (if t105 = true then ((spec_l4First.f k x0 ((rd_T91 x102001 x5).f0.f0) ((rd_T91 x102001 x5).f0.f1) ((rd_T91 x102001 x5).f0.f2)).bind fun t108 => (spec_CacheOk.j2 k x0 x5 (((rd_T91 x102001 x5).f1) != t108) x102000 x102001)) else (spec_CacheOk.j2 k x0 x5 true x102000 x102001))) else (none)) else (some true)
def spec_CacheOk.j2 : Nat → List (S77) → Int → Bool → Int → List (S91) → Option (Bool)
 | 0, _, _, _, _, _ => none
 | k + 1, x0, x5, x55, x102000, x102001 => if x55 = true then (some false) else (spec_CacheOk.l1 k x0 x5 0 x102000 x102001)
def spec_CacheOk.l1 : Nat → List (S77) → Int → Int → Int → List (S91) → Option (Bool)
 | 0, _, _, _, _, _ => none
 | k + 1, x0, x5, x6, x102000, x102001 => if x6 < x5 then (if 0 ≤ x6 then (if x6 < (x102001.length : Int) then (if 0 ≤ x5 then (if x5 < (x102001.length : Int) then (if (((rd_T91 x102001 x6).f0.f0) == ((rd_T91 x102001 x5).f0.f0) && (((rd_T91 x102001 x6).f0.f1) == ((rd_T91 x102001 x5).f0.f1) && (((rd_T91 x102001 x6).f0.f2) == ((rd_T91 x102001 x5).f0.f2)))) = true then (some false) else (spec_CacheOk.l1 k x0 x5 (wrap64 (x6 + 1)) x102000 x102001)) else (none)) else (none)) else (none)) else (none)) else (spec_CacheOk.l0 k x0 (wrap64 (x5 + 1)) x102000 x102001)
end
def spec_CacheOk.f (k : Nat) (l0 : List (S77)) (a1_0 : Int) (l1_1 : List (S91)) : Option (Bool) := (spec_RulesOk.f k l0).bind fun t102 => (if t102 = true then ((spec_l1In.f a1_0 0 16).bind fun t103 => (if t103 = true then (spec_CacheOk.j0 k l0 (decide ((l1_1.length : Int) > a1_0)) a1_0 l1_1) else (spec_CacheOk.j0 k l0 true a1_0 l1_1))) else (spec_CacheOk.j0 k l0 true a1_0 l1_1))
def spec_CacheOk.T6 : Bool × List (List Nat × List Nat) := (true, [([], []), ([0], [0]), ([], []), ([1, 2], [1, 2]), ([3], [3]), ([4], [4]), ([5], [5]), ([6], [6]), ([7, 6], [7]), ([8], [8]), ([9, 8], [8, 9]), ([8], [8]), ([10, 11, 8], [8, 10, 11]), ([12, 8], [8, 12]), ([13, 8], [8, 13]), ([8], [8]), ([8], [8]), ([16, 8], [8, 16]), ([8], [8]), ([17, 18, 8], [8, 17, 18]), ([19, 8], [8, 19]), ([20, 8], [8, 20]), ([15, 21, 8, 8], [8, 15, 21]), ([14, 22, 8], [8, 14, 22]), ([8, 23], [8, 23])])
def spec_CacheOk.B6 : List Nat := [0, 1, 0, 7, 15, 31, 63, 127, 255, 511, 1023, 511, 4095, 8191, 16383, 511, 511, 66047, 511, 459263, 983551, 2032127, 4162047, 8388607, 16777215]
theorem spec_CacheOk.tab6 : rtab .any (opsOf Tryz.f37 6) = spec_CacheOk.T6 := by kernel_rfl
theorem spec_CacheOk.bits6 : waitsOk spec_CacheOk.T6.2 spec_CacheOk.B6 = true := by kernel_rfl
def spec_CacheOk.T11 : Bool × List (List Nat × List Nat) := (true, [([], []), ([0], [0]), ([], []), ([1, 2], [1, 2]), ([3], [3]), ([4], [4]), ([], []), ([6], [6]), ([], []), ([7, 8], [7, 8]), ([9], [9]), ([10], [10]), ([5, 11], [5, 11])])
def spec_CacheOk.B11 : List Nat := [0, 1, 0, 7, 15, 31, 0, 64, 0, 448, 960, 1984, 4095]
theorem spec_CacheOk.tab11 : rtab .any (opsOf Tryz.f37 11) = spec_CacheOk.T11 := by kernel_rfl
theorem spec_CacheOk.bits11 : waitsOk spec_CacheOk.T11.2 spec_CacheOk.B11 = true := by kernel_rfl
theorem spec_CacheOk.calls (k : Nat) (A0 : Option Addr) (c0 : Nat) (l0 : List (S77)) (aI : Int) (cL : Option Addr) (bQ : Nat) (aB : List (S91)) (r : Bool) (w : World) (eJ : Kd.C k77 w A0 l0.length l0) (eK : l0.length ≤ c0) (dD : Kd.C k91 w cL aB.length aB) (dE : aB.length ≤ bQ) (h : spec_CacheOk.f k l0 aI aB = some r) :
  Calls Tryz.prog 37 #[.slice A0 l0.length c0, .agg #[.int .i64 aI, .slice cL aB.length bQ]] w fun e w' => e = .returned (.bool r) ∧ Below w.heap.size w w' := by
 have eR := Tryz.underlying33
 have eS := Tryz.underlying89
 have dW := Aside0.mk eJ
 have dX := Aside0.mk eK
 clear eJ eK
 have bI := Aside0.mk dD
 have eL := Aside0.mk dE
 clear dD dE
 have HB := am (Below.refl w.heap.size w)
 have H : ((spec_RulesOk.f k l0).bind fun dC => (if dC = true then ((spec_l1In.f aI 0 16).bind fun cU => (if cU = true then (spec_CacheOk.j0 k l0 (decide ((aB.length : Int) > aI)) aI aB) else (spec_CacheOk.j0 k l0 true aI aB))) else (spec_CacheOk.j0 k l0 true aI aB))) = some r := h
 clear h
 have eF := Aside0.mk H
 clear H
 go_enter Tryz.func37, Tryz.ntmps37
 go_upto_region 1 with (first | ((with_reducible refine gate_dst (N := 3) rfl ?_); (try (refine gate_guard (by rfl) ?_; dsimp only)); refine box_event rfl (N := 3) rfl (cs := #[.int .i64 aI, .slice cL aB.length bQ]) (t := 33) BX ?_; intro bJ hg w4 dO hb; have aC := am (dO); have dP := am (GH HB hg); have aJ := dP; replace HB := bl (KL HB) hb; clear hb dO hg))
 (try simp only [Act.put, List.setIfInBounds_toArray, List.set_cons_zero, List.set_cons_succ])
 go_cut [23] (fun eT wc => ∃ (kq : Nat) (cQ : Bool), eT = .bool cQ ∧ Aside0 (spec_CacheOk.j0 kq l0 cQ aI aB = some r) ∧ Aside0 (kq ≤ k) ∧ Aside0 (wc.heap[bJ]? = some (.cells #[.int .i64 aI, (.slice cL aB.length bQ)] 33 (0, 0))) ∧ Aside0 (Below w.heap.size w wc))
 case first =>
  have H := eF.out
  clear eF
  replace H := bm H
  obtain ⟨dC, eM, H⟩ := H
  replace H : (if dC = true then ((spec_l1In.f aI 0 16).bind fun cU => (if cU = true then (spec_CacheOk.j0 k l0 (decide ((aB.length : Int) > aI)) aI aB) else (spec_CacheOk.j0 k l0 true aI aB))) else (spec_CacheOk.j0 k l0 true aI aB)) = some r := H
  have A5 := Aside0.mk eM
  clear eM
  by_cases c6 : dC = true
  ·subst c6
   have H1 := pf H
   clear H
   have H := H1
   clear H1
   replace H := bm H
   obtain ⟨cU, eN, H⟩ := H
   replace H : (if cU = true then (spec_CacheOk.j0 k l0 (decide ((aB.length : Int) > aI)) aI aB) else (spec_CacheOk.j0 k l0 true aI aB)) = some r := H
   have A7 := Aside0.mk eN
   clear eN
   by_cases c8 : cU = true
   ·subst c8
    have H1 := pf H
    clear H
    have H := H1
    clear H1
    have H' := Aside0.mk H
    clear H
    go_wp2_with (first | ((with_reducible refine gate_callee (f := 62) rfl ?_); refine goesL_ (some 8) rfl rfl Tryz.func62 (by kernel_rfl) rfl #[.slice A0 l0.length c0] rfl MT ?_; (with_reducible refine (spec_RulesOk.calls k _ _ l0 true _ ?_ ?_ A5.out).mono ?_); exact KD dW HB; exact dX.out; rintro e w9 ⟨rfl, hb⟩; refine ⟨_, rfl, ?_⟩; replace aC := am (BB aC hb); replace HB := bl (K1 HB aJ.out) hb; (try clear hb); obtain ⟨bK, bL, bM⟩ := y2 w9 aC.out) | (go_at_call 36; (with_reducible refine (spec_l1In.calls aI 0 16 true _ A7.out).mono ?_); rintro e w' ⟨rfl, ⟨nd, rfl⟩⟩))
    go_meet
    case rel => exact ⟨_, (decide ((aB.length : Int) > aI)), (by first | rfl | (simp; done) | (simp [*]; done)), H', ⟨by first | omega | exact Nat.le_refl _⟩, ⟨KB aC⟩, ⟨K1 HB aJ.out⟩⟩
   ·replace c8 := Bool.eq_false_iff.mpr c8
    subst c8
    have H1 := nf H
    clear H
    have H := H1
    clear H1
    have H' := Aside0.mk H
    clear H
    go_wp2_with (first | ((with_reducible refine gate_callee (f := 62) rfl ?_); refine goesL_ (some 8) rfl rfl Tryz.func62 (by kernel_rfl) rfl #[.slice A0 l0.length c0] rfl MT ?_; (with_reducible refine (spec_RulesOk.calls k _ _ l0 true _ ?_ ?_ A5.out).mono ?_); exact KD dW HB; exact dX.out; rintro e eU ⟨rfl, hb⟩; refine ⟨_, rfl, ?_⟩; replace aC := am (BB aC hb); replace HB := bl (K1 HB aJ.out) hb; (try clear hb); obtain ⟨bN, bO, bP⟩ := y2 eU aC.out) | (go_at_call 36; (with_reducible refine (spec_l1In.calls aI 0 16 false _ A7.out).mono ?_); rintro e w' ⟨rfl, ⟨nd, rfl⟩⟩))
    go_meet
    case rel => exact ⟨_, (true), (by first | rfl | (simp; done) | (simp [*]; done)), H', ⟨by first | omega | exact Nat.le_refl _⟩, ⟨KB aC⟩, ⟨K1 HB aJ.out⟩⟩
  ·replace c6 := Bool.eq_false_iff.mpr c6
   subst c6
   have H1 := nf H
   clear H
   have H := H1
   clear H1
   have H' := Aside0.mk H
   clear H
   go_wp2_with (first | ((with_reducible refine gate_callee (f := 62) rfl ?_); refine goesL_ (some 8) rfl rfl Tryz.func62 (by kernel_rfl) rfl #[.slice A0 l0.length c0] rfl MT ?_; (with_reducible refine (spec_RulesOk.calls k _ _ l0 false _ ?_ ?_ A5.out).mono ?_); exact KD dW HB; exact dX.out; rintro e eY ⟨rfl, hb⟩; refine ⟨_, rfl, ?_⟩; replace aC := am (BB aC hb); replace HB := bl (K1 HB aJ.out) hb; (try clear hb)))
   go_meet
   case rel => exact ⟨_, (true), (by first | rfl | (simp; done) | (simp [*]; done)), H', ⟨by first | omega | exact Nat.le_refl _⟩, ⟨KB aC⟩, ⟨K1 HB aJ.out⟩⟩
 case rest =>
  clear eF
  try clear c1
  try clear p2
  try clear c3
  try clear c6
  try clear c8
  try clear bK bL bM
  try clear bN bO bP
  obtain ⟨kq, cQ, rfl, HA, HJ2, aC, HB⟩ := hcut
  cases kq with
  | zero => exact absurd HA.out (by simp [spec_CacheOk.j0])
  | succ kj2 =>
   have H := HA.out
   clear HA
   simp only [spec_CacheOk.j0] at H
   by_cases dG : cQ = true
   ·subst dG
    have H1 := pf H
    clear H
    have H := H1
    clear H1
    obtain rfl := sj H
    go_wp2
    go_ret
    exact ⟨ER, K1 HB aJ.out⟩
   ·replace dG := Bool.eq_false_iff.mpr dG
    subst dG
    have H1 := nf H
    clear H
    have H := H1
    clear H1
    have H' := Aside0.mk H
    clear H
    go_wp2
    go_loopg [5] kj2 (fun kq v5 w' => ∃ (aA : Int), v5 = .int .i64 aA ∧ Aside0 (spec_CacheOk.l0 kq l0 aA aI aB = some r) ∧ Aside0 (kq ≤ kj2) ∧ Aside0 (w'.heap[bJ]? = some (.cells #[.int .i64 aI, (.slice cL aB.length bQ)] 33 (0, 0))) ∧ Aside0 (Below w.heap.size w w'))
    case atStart => exact ⟨(0), (by first | rfl | (simp; done) | (simp [*]; done)), H', ⟨Nat.le_refl _⟩, ⟨KB aC⟩, ⟨K1 HB aJ.out⟩⟩
    case round =>
     clear H'
     try clear c1
     try clear p2
     try clear c3
     try clear c6
     try clear c8
     try clear dG
     try clear bK bL bM
     try clear bN bO bP
     try clear p2
     obtain ⟨aA, rfl, HA, HK2, aC, HB⟩ := hrel
     cases gk with
     | zero => exact absurd HA.out (by simp [spec_CacheOk.l0])
     | succ k2 =>
      have H := HA.out
      clear HA
      simp only [spec_CacheOk.l0] at H
      by_cases dF : aA < (aB.length : Int)
      ·rw [if_pos dF] at H
       have c15b0 : decide (aA < (aB.length : Int)) = true := decide_eq_true dF
       clear dF
       have dH := Aside0.mk H
       clear H
       obtain ⟨cR, cS, cT⟩ := y2 wr aC.out
       go_upto_region 6 with (fail)
       go_cut [55] (fun eV wc => ∃ (kq : Nat) (bR : Bool), eV = .bool bR ∧ Aside0 (spec_CacheOk.j2 kq l0 aA bR aI aB = some r) ∧ Aside0 (kq ≤ k2) ∧ Aside0 (wc.heap[bJ]? = some (.cells #[.int .i64 aI, (.slice cL aB.length bQ)] 33 (0, 0))) ∧ Aside0 (Below w.heap.size w wc))
       case first =>
        have H := dH.out
        clear dH
        by_cases dL : 0 ≤ aA
        ·rw [if_pos dL] at H
         have c18b0 : decide (0 ≤ aA) = true := decide_eq_true dL
         clear dL
         (first | rw [c18b0] | (simp only [i64_w, i32_w]; rw [c18b0]) | skip)
         replace H := bm H
         obtain ⟨dQ, dR, H⟩ := H
         replace H : (if dQ = true then ((spec_l4First.f k2 l0 ((rd_T91 aB aA).f0.f0) ((rd_T91 aB aA).f0.f1) ((rd_T91 aB aA).f0.f2)).bind fun cV => (spec_CacheOk.j2 k2 l0 aA (((rd_T91 aB aA).f1) != cV) aI aB)) else (spec_CacheOk.j2 k2 l0 aA true aI aB)) = some r := H
         have eO := Aside0.mk dR
         clear dR
         by_cases dM : dQ = true
         ·subst dM
          have H1 := pf H
          clear H
          have H := H1
          clear H1
          replace H := bm H
          obtain ⟨cV, dS, H⟩ := H
          replace H : (spec_CacheOk.j2 k2 l0 aA (((rd_T91 aB aA).f1) != cV) aI aB) = some r := H
          have eW := Aside0.mk dS
          clear dS
          have H' := Aside0.mk H
          clear H
          try go_wp2
          replace aC := am (blk_drew aC.out)
          replace HB := am (below_drew1 HB.out)
          have bS : 0 ≤ (aA : Int) := OD
          have bT : aA < (aB.length : Int) := OD
          obtain ⟨aE, dI, aK, aL, aM, aN⟩ := at_T91 bI.out aA bS bT
          have aW := aN
          have aX := aM
          have aY := aL
          have aZ := aK
          cases dI
          replace aK := CX HB.out aK
          replace aL := CX HB.out aL
          replace aM := CX HB.out aM
          replace aN := CX HB.out aN
          replace bS := eq_true bS
          replace bT := eq_true bT
          have cW : 0 ≤ (aA : Int) := OD
          have cX : aA < (aB.length : Int) := OD
          obtain ⟨dT, eG, bA, bB, bC, bD⟩ := at_T91 bI.out aA cW cX
          have bU := bD
          have bV := bC
          have bW := bB
          have bX := bA
          obtain rfl : aE = dT := (by injection eG)
          replace bA := CX HB.out bA
          replace bB := CX HB.out bB
          replace bC := CX HB.out bC
          replace bD := CX HB.out bD
          replace cW := eq_true cW
          replace cX := eq_true cX
          have cY : 0 ≤ (aA : Int) := OD
          have cZ : aA < (aB.length : Int) := OD
          obtain ⟨dU, eH, bE, bF, bG, bH⟩ := at_T91 bI.out aA cY cZ
          have bY := bH
          have bZ := bG
          have cA := bF
          have cB := bE
          obtain rfl : aE = dU := (by injection eH)
          replace bE := CX HB.out bE
          replace bF := CX HB.out bF
          replace bG := CX HB.out bG
          replace bH := CX HB.out bH
          replace cY := eq_true cY
          replace cZ := eq_true cZ
          refine start_ (n := 25) (S := fun w' => ce2 w' bJ (.int .i64 aI) (.slice (some aE) aB.length bQ) (w'.cell? (aE.add ((aA).toNat * 4)) = some (.int .i64 ((rd_T91 aB aA).f0.f0)) ∧ w'.cell? ⟨(aE.add ((aA).toNat * 4)).block, (aE.add ((aA).toNat * 4)).off + 1, none⟩ = some (.int .i64 ((rd_T91 aB aA).f0.f1)) ∧ w'.cell? ⟨(aE.add ((aA).toNat * 4)).block, (aE.add ((aA).toNat * 4)).off + 2, none⟩ = some (.int .i64 ((rd_T91 aB aA).f0.f2)) ∧ w'.cell? ⟨(aE.add ((aA).toNat * 4)).block, (aE.add ((aA).toNat * 4)).off + 3, none⟩ = some (.int .i64 ((rd_T91 aB aA).f1)) ∧ w'.cell? (aE.add ((aA).toNat * 4)) = some (.int .i64 ((rd_T91 aB aA).f0.f0)) ∧ w'.cell? ⟨(aE.add ((aA).toNat * 4)).block, (aE.add ((aA).toNat * 4)).off + 1, none⟩ = some (.int .i64 ((rd_T91 aB aA).f0.f1)) ∧ w'.cell? ⟨(aE.add ((aA).toNat * 4)).block, (aE.add ((aA).toNat * 4)).off + 2, none⟩ = some (.int .i64 ((rd_T91 aB aA).f0.f2)) ∧ w'.cell? ⟨(aE.add ((aA).toNat * 4)).block, (aE.add ((aA).toNat * 4)).off + 3, none⟩ = some (.int .i64 ((rd_T91 aB aA).f1)) ∧ w'.cell? (aE.add ((aA).toNat * 4)) = some (.int .i64 ((rd_T91 aB aA).f0.f0)) ∧ w'.cell? ⟨(aE.add ((aA).toNat * 4)).block, (aE.add ((aA).toNat * 4)).off + 1, none⟩ = some (.int .i64 ((rd_T91 aB aA).f0.f1)) ∧ w'.cell? ⟨(aE.add ((aA).toNat * 4)).block, (aE.add ((aA).toNat * 4)).off + 2, none⟩ = some (.int .i64 ((rd_T91 aB aA).f0.f2)) ∧ w'.cell? ⟨(aE.add ((aA).toNat * 4)).block, (aE.add ((aA).toNat * 4)).off + 3, none⟩ = some (.int .i64 ((rd_T91 aB aA).f1)))) (ds := []) (tf 0 25) (by kernel_rfl) rfl rfl ⟨z0 _ aC.out, z1 _ aC.out, (CY HB.out aZ), (CY HB.out aY), (CY HB.out aX), (CY HB.out aW), (CY HB.out bX), (CY HB.out bW), (CY HB.out bV), (CY HB.out bU), (CY HB.out cB), (CY HB.out cA), (CY HB.out bZ), (CY HB.out bY)⟩ (fun aH => ?_); refine with_tabW spec_CacheOk.tab6 spec_CacheOk.bits6 (fun aG cC => ?_)
          generalize wr.drew = eZ at aC HB aK aL aM aN bA bB bC bD bE bF bG bH aH ⊢
          refine pv aG 0 31 (tf 1 24) ?_
          refine pv aG 2 33 (tr [1, 1, 1, 22]) ?_
          refine tk 1 (some 32) (tf 3 22) (take_ofW aG.out cC.out (by kernel_rfl)) aH ?_
          refine pv aG 3 34 (tf 4 21) ?_
          refine pv aG 4 35 (tf 5 20) ?_
          refine tk 5 (some 36) (tf 6 19) (take_ofW aG.out cC.out (by kernel_rfl)) aH ?_
          refine one_ (i := 6) (N := some 37) (tf 7 18) rfl rfl (one_of aG.out (by kernel_rfl)) (by decide) (fun K hK => ?_)
          refine goes_ Tryz.func63 (by kernel_rfl) rfl #[.agg #[.int .i64 ((rd_T91 aB aA).f0.f0), .int .i64 ((rd_T91 aB aA).f0.f1), .int .i64 ((rd_T91 aB aA).f0.f2)]] (by rfl) rfl rfl MT ?_
          with_reducible refine (spec_l4Call.calls ((rd_T91 aB aA).f0.f0) ((rd_T91 aB aA).f0.f1) ((rd_T91 aB aA).f0.f2) true _ eO.out).mono ?_
          rintro e fA ⟨rfl, hb⟩
          refine ⟨_, rfl, ?_⟩
          replace aC := am (BB aC hb)
          replace HB := bl (K1 HB aJ.out) hb
          (try clear hb)
          (try clear hb2)
          (try clear hk)
          (try clear hi)
          refine hK.out _ _ ⟨z0 _ aC.out, z1 _ aC.out, (CY HB.out aZ), (CY HB.out aY), (CY HB.out aX), (CY HB.out aW), (CY HB.out bX), (CY HB.out bW), (CY HB.out bV), (CY HB.out bU), (CY HB.out cB), (CY HB.out cA), (CY HB.out bZ), (CY HB.out bY)⟩ (fun aH => ?_)
          clear hK K
          refine nm (some 37) ?_
          refine pv aG 7 38 (tf 8 17) ?_
          refine pv aG 8 39 (tf 9 16) ?_
          refine pv aG 9 40 (tf 10 15) ?_
          refine pv aG 11 42 (tr [10, 1, 1, 13]) ?_
          refine pv aG 15 46 (tr [10, 1, 1, 3, 1, 9]) ?_
          refine pv aG 16 47 (tr [10, 1, 1, 3, 2, 8]) ?_
          refine pv aG 18 49 (tr [10, 1, 1, 3, 2, 1, 1, 6]) ?_
          refine tk 10 (some 41) (tr [12, 3, 2, 1, 1, 6]) (take_ofW aG.out cC.out (by kernel_rfl)) aH ?_
          refine pv aG 12 43 (tr [13, 2, 2, 1, 1, 6]) ?_
          refine pv aG 13 44 (tr [14, 1, 2, 1, 1, 6]) ?_
          refine tk 14 (some 45) (tr [17, 1, 1, 6]) (take_ofW aG.out cC.out (by kernel_rfl)) aH ?_
          refine tk 17 (some 48) (tf 19 6) (take_ofW aG.out cC.out (by kernel_rfl)) aH ?_
          refine pv aG 19 50 (tf 20 5) ?_
          refine pv aG 20 51 (tf 21 4) ?_
          refine tk 21 (some 52) (tf 22 3) (take_ofW aG.out cC.out (by kernel_rfl)) aH ?_
          refine one_ (i := 22) (N := some 53) (tf 23 2) rfl rfl (one_of aG.out (by kernel_rfl)) (by decide) (fun K hK => ?_)
          refine goes_ Tryz.func64 (by kernel_rfl) rfl #[.slice A0 l0.length c0, .agg #[.int .i64 ((rd_T91 aB aA).f0.f0), .int .i64 ((rd_T91 aB aA).f0.f1), .int .i64 ((rd_T91 aB aA).f0.f2)]] (by rfl) rfl rfl MT ?_
          with_reducible refine (spec_l4First.calls k2 _ _ l0 ((rd_T91 aB aA).f0.f0) ((rd_T91 aB aA).f0.f1) ((rd_T91 aB aA).f0.f2) cV _ ?_ ?_ eW.out).mono ?_
          exact KD dW HB
          exact dX.out
          rintro e fB ⟨rfl, hb⟩
          refine ⟨_, rfl, ?_⟩
          replace aC := am (BB aC hb)
          replace HB := bl (K1 HB aJ.out) hb
          (try clear hb)
          (try clear hb2)
          (try clear hk)
          (try clear hi)
          refine hK.out _ _ ⟨z0 _ aC.out, z1 _ aC.out, (CY HB.out aZ), (CY HB.out aY), (CY HB.out aX), (CY HB.out aW), (CY HB.out bX), (CY HB.out bW), (CY HB.out bV), (CY HB.out bU), (CY HB.out cB), (CY HB.out cA), (CY HB.out bZ), (CY HB.out bY)⟩ (fun aH => ?_)
          clear hK K
          refine nm (some 53) ?_
          refine pv aG 23 54 (tf 24 1) ?_
          refine pv aG 24 55 (tf 25 0) ?_
          refine done_ (done_of aG.out (by kernel_rfl)) ?_
          try go_wp2
          go_meet
          case rel => exact ⟨_, ((((rd_T91 aB aA).f1) != cV)), (by first | rfl | (simp; done) | (simp [*]; done)), H', ⟨by have := HJ2.out; have := HK2.out; first | omega | exact Nat.le_refl _⟩, ⟨KB aC⟩, ⟨K1 HB aJ.out⟩⟩
         ·replace dM := Bool.eq_false_iff.mpr dM
          subst dM
          have H1 := nf H
          clear H
          have H := H1
          clear H1
          have H' := Aside0.mk H
          clear H
          try go_wp2
          replace aC := am (blk_drew aC.out)
          replace HB := am (below_drew1 HB.out)
          have bS : 0 ≤ (aA : Int) := OD
          have bT : aA < (aB.length : Int) := OD
          obtain ⟨aE, dI, aK, aL, aM, aN⟩ := at_T91 bI.out aA bS bT
          have aW := aN
          have aX := aM
          have aY := aL
          have aZ := aK
          cases dI
          replace aK := CX HB.out aK
          replace aL := CX HB.out aL
          replace aM := CX HB.out aM
          replace aN := CX HB.out aN
          replace bS := eq_true bS
          replace bT := eq_true bT
          refine start_ (n := 25) (S := fun w' => ce2 w' bJ (.int .i64 aI) (.slice (some aE) aB.length bQ) (w'.cell? (aE.add ((aA).toNat * 4)) = some (.int .i64 ((rd_T91 aB aA).f0.f0)) ∧ w'.cell? ⟨(aE.add ((aA).toNat * 4)).block, (aE.add ((aA).toNat * 4)).off + 1, none⟩ = some (.int .i64 ((rd_T91 aB aA).f0.f1)) ∧ w'.cell? ⟨(aE.add ((aA).toNat * 4)).block, (aE.add ((aA).toNat * 4)).off + 2, none⟩ = some (.int .i64 ((rd_T91 aB aA).f0.f2)) ∧ w'.cell? ⟨(aE.add ((aA).toNat * 4)).block, (aE.add ((aA).toNat * 4)).off + 3, none⟩ = some (.int .i64 ((rd_T91 aB aA).f1)))) (ds := []) (tf 0 25) (by kernel_rfl) rfl rfl ⟨z0 _ aC.out, z1 _ aC.out, (CY HB.out aZ), (CY HB.out aY), (CY HB.out aX), (CY HB.out aW)⟩ (fun aH => ?_); refine with_tabW spec_CacheOk.tab6 spec_CacheOk.bits6 (fun aG cC => ?_)
          generalize wr.drew = fC at aC HB aK aL aM aN aH ⊢
          refine pv aG 0 31 (tf 1 24) ?_
          refine pv aG 2 33 (tr [1, 1, 1, 22]) ?_
          refine tk 1 (some 32) (tf 3 22) (take_ofW aG.out cC.out (by kernel_rfl)) aH ?_
          refine pv aG 3 34 (tf 4 21) ?_
          refine pv aG 4 35 (tf 5 20) ?_
          refine tk 5 (some 36) (tf 6 19) (take_ofW aG.out cC.out (by kernel_rfl)) aH ?_
          refine one_ (i := 6) (N := some 37) (tf 7 18) rfl rfl (one_of aG.out (by kernel_rfl)) (by decide) (fun K hK => ?_)
          refine goes_ Tryz.func63 (by kernel_rfl) rfl #[.agg #[.int .i64 ((rd_T91 aB aA).f0.f0), .int .i64 ((rd_T91 aB aA).f0.f1), .int .i64 ((rd_T91 aB aA).f0.f2)]] (by rfl) rfl rfl MT ?_
          with_reducible refine (spec_l4Call.calls ((rd_T91 aB aA).f0.f0) ((rd_T91 aB aA).f0.f1) ((rd_T91 aB aA).f0.f2) false _ eO.out).mono ?_
          rintro e fD ⟨rfl, hb⟩
          refine ⟨_, rfl, ?_⟩
          replace aC := am (BB aC hb)
          replace HB := bl (K1 HB aJ.out) hb
          (try clear hb)
          (try clear hb2)
          (try clear hk)
          (try clear hi)
          refine hK.out _ _ ⟨z0 _ aC.out, z1 _ aC.out, (CY HB.out aZ), (CY HB.out aY), (CY HB.out aX), (CY HB.out aW)⟩ (fun aH => ?_)
          clear hK K
          refine nm (some 37) ?_
          refine pv aG 7 38 (tf 8 17) ?_
          refine pv aG 8 39 (tf 9 16) ?_
          refine pw aG 9 40 (tf 10 15) ?_
          refine pw aG 10 41 (tf 11 14) ?_
          refine pw aG 11 42 (tf 12 13) ?_
          refine pw aG 12 43 (tf 13 12) ?_
          refine pw aG 13 44 (tf 14 11) ?_
          refine pw aG 14 45 (tf 15 10) ?_
          refine pw aG 15 46 (tf 16 9) ?_
          refine pw aG 16 47 (tf 17 8) ?_
          refine pw aG 17 48 (tf 18 7) ?_
          refine pw aG 18 49 (tf 19 6) ?_
          refine pw aG 19 50 (tf 20 5) ?_
          refine pw aG 20 51 (tf 21 4) ?_
          refine pw aG 21 52 (tf 22 3) ?_
          refine pw aG 22 53 (tf 23 2) ?_
          refine pw aG 23 54 (tf 24 1) ?_
          refine pv aG 24 55 (tf 25 0) ?_
          refine done_ (done_of aG.out (by kernel_rfl)) ?_
          try go_wp2
          go_meet
          case rel => exact ⟨_, (true), (by first | rfl | (simp; done) | (simp [*]; done)), H', ⟨by have := HJ2.out; have := HK2.out; first | omega | exact Nat.le_refl _⟩, ⟨KB aC⟩, ⟨K1 HB aJ.out⟩⟩
        ·rw [if_neg dL] at H
         exact absurd H (by simp)
       case rest =>
        clear dH
        try clear c1
        try clear p1
        try clear q1
        try clear eX
        try clear c2
        try clear p2
        try clear c3
        try clear c6
        try clear c8
        try clear eP
        try clear eQ
        try clear eI
        try clear dG
        try clear dF
        try clear c15b0
        try clear dL
        try clear c18b0
        try clear dM
        try clear bK bL bM
        try clear bN bO bP
        try clear cR cS cT
        try clear aK
        try clear aL
        try clear aM
        try clear aN
        try clear bA
        try clear bB
        try clear bC
        try clear bD
        try clear bE
        try clear bF
        try clear bG
        try clear bH
        try clear bS
        try clear cW
        try clear cY
        try clear p2
        try clear bT
        try clear cX
        try clear cZ
        obtain ⟨kq, bR, rfl, HA, HJ15, aC, HB⟩ := hcut
        cases kq with
        | zero => exact absurd HA.out (by simp [spec_CacheOk.j2])
        | succ kj15 =>
         have H := HA.out
         clear HA
         simp only [spec_CacheOk.j2] at H
         by_cases dV : bR = true
         ·subst dV
          have H1 := pf H
          clear H
          have H := H1
          clear H1
          obtain rfl := sj H
          go_wp2
          go_ret
          exact ⟨ER, K1 HB aJ.out⟩
         ·replace dV := Bool.eq_false_iff.mpr dV
          subst dV
          have H1 := nf H
          clear H
          have H := H1
          clear H1
          have H' := Aside0.mk H
          clear H
          go_wp2
          go_loopg [6] kj15 (fun kq v6 w' => ∃ (aD : Int), v6 = .int .i64 aD ∧ Aside0 (spec_CacheOk.l1 kq l0 aA aD aI aB = some r) ∧ Aside0 (kq ≤ kj15) ∧ Aside0 (w'.heap[bJ]? = some (.cells #[.int .i64 aI, (.slice cL aB.length bQ)] 33 (0, 0))) ∧ Aside0 (Below w.heap.size w w'))
          case atStart => exact ⟨(0), (by first | rfl | (simp; done) | (simp [*]; done)), H', ⟨Nat.le_refl _⟩, ⟨KB aC⟩, ⟨K1 HB aJ.out⟩⟩
          case round =>
           clear H'
           try clear c1
           try clear p1
           try clear q1
           try clear eX
           try clear c2
           try clear p2
           try clear c3
           try clear c6
           try clear c8
           try clear eP
           try clear eQ
           try clear eI
           try clear dG
           try clear dF
           try clear c15b0
           try clear dL
           try clear c18b0
           try clear dM
           try clear dV
           try clear bK bL bM
           try clear bN bO bP
           try clear cR cS cT
           try clear aK
           try clear aL
           try clear aM
           try clear aN
           try clear bA
           try clear bB
           try clear bC
           try clear bD
           try clear bE
           try clear bF
           try clear bG
           try clear bH
           try clear p1
           try clear eP
           try clear bS
           try clear cW
           try clear cY
           try clear p2
           try clear q1
           try clear eQ
           try clear bT
           try clear cX
           try clear cZ
           obtain ⟨aD, rfl, HA, HK4, aC, HB⟩ := hrel
           cases gk with
           | zero => exact absurd HA.out (by simp [spec_CacheOk.l1])
           | succ k4 =>
            have H := HA.out
            clear HA
            simp only [spec_CacheOk.l1] at H
            by_cases dN : aD < aA
            ·rw [if_pos dN] at H
             have c28b0 : decide (aD < aA) = true := decide_eq_true dN
             clear dN
             by_cases dY : 0 ≤ aD
             ·rw [if_pos dY] at H
              have c29b0 : decide (0 ≤ aD) = true := decide_eq_true dY
              clear dY
              by_cases dZ : aD < (aB.length : Int)
              ·rw [if_pos dZ] at H
               have c30b0 : decide (aD < (aB.length : Int)) = true := decide_eq_true dZ
               clear dZ
               by_cases eA : 0 ≤ aA
               ·rw [if_pos eA] at H
                have c31b0 : decide (0 ≤ aA) = true := decide_eq_true eA
                clear eA
                by_cases eB : aA < (aB.length : Int)
                ·rw [if_pos eB] at H
                 have c32b0 : decide (aA < (aB.length : Int)) = true := decide_eq_true eB
                 clear eB
                 by_cases dA : (((rd_T91 aB aD).f0.f0) == ((rd_T91 aB aA).f0.f0) && (((rd_T91 aB aD).f0.f1) == ((rd_T91 aB aA).f0.f1) && (((rd_T91 aB aD).f0.f2) == ((rd_T91 aB aA).f0.f2)))) = true
                 ·rw [if_pos dA] at H
                  have c33b0 : (((rd_T91 aB aD).f0.f0) == ((rd_T91 aB aA).f0.f0) && (((rd_T91 aB aD).f0.f1) == ((rd_T91 aB aA).f0.f1) && (((rd_T91 aB aD).f0.f2) == ((rd_T91 aB aA).f0.f2)))) = true := dA
                  (try (have c33b1 : decide (((rd_T91 aB aD).f0.f0) = ((rd_T91 aB aA).f0.f0) && (((rd_T91 aB aD).f0.f1) == ((rd_T91 aB aA).f0.f1) && (((rd_T91 aB aD).f0.f2) == ((rd_T91 aB aA).f0.f2)))) = true := by simpa using dA))
                  (try (have c33b2 : (((rd_T91 aB aD).f0.f0) == ((rd_T91 aB aA).f0.f0) && (((rd_T91 aB aD).f0.f1) == ((rd_T91 aB aA).f0.f1) && (((rd_T91 aB aD).f0.f2) == ((rd_T91 aB aA).f0.f2)))) = true := by simpa using dA))
                  clear dA
                  obtain rfl := sj H
                  try go_wp2
                  replace aC := am (blk_drew aC.out)
                  replace HB := am (below_drew1 HB.out)
                  have cM : 0 ≤ (aD : Int) := OD
                  have cN : aD < (aB.length : Int) := OD
                  obtain ⟨aF, dJ, aO, aP, aQ, aR⟩ := at_T91 bI.out aD cM cN
                  have cD := aR
                  have cE := aQ
                  have cF := aP
                  have cG := aO
                  cases dJ
                  replace aO := CX HB.out aO
                  replace aP := CX HB.out aP
                  replace aQ := CX HB.out aQ
                  replace aR := CX HB.out aR
                  replace cM := eq_true cM
                  replace cN := eq_true cN
                  have cO : 0 ≤ (aA : Int) := OD
                  have cP : aA < (aB.length : Int) := OD
                  obtain ⟨dB, dK, aS, aT, aU, aV⟩ := at_T91 bI.out aA cO cP
                  have cH := aV
                  have cI := aU
                  have cJ := aT
                  have cK := aS
                  obtain rfl : aF = dB := (by injection dK)
                  replace aS := CX HB.out aS
                  replace aT := CX HB.out aT
                  replace aU := CX HB.out aU
                  replace aV := CX HB.out aV
                  replace cO := eq_true cO
                  replace cP := eq_true cP
                  refine start_ (n := 13) (S := fun w' => ce2 w' bJ (.int .i64 aI) (.slice (some aF) aB.length bQ) (w'.cell? (aF.add ((aD).toNat * 4)) = some (.int .i64 ((rd_T91 aB aD).f0.f0)) ∧ w'.cell? ⟨(aF.add ((aD).toNat * 4)).block, (aF.add ((aD).toNat * 4)).off + 1, none⟩ = some (.int .i64 ((rd_T91 aB aD).f0.f1)) ∧ w'.cell? ⟨(aF.add ((aD).toNat * 4)).block, (aF.add ((aD).toNat * 4)).off + 2, none⟩ = some (.int .i64 ((rd_T91 aB aD).f0.f2)) ∧ w'.cell? ⟨(aF.add ((aD).toNat * 4)).block, (aF.add ((aD).toNat * 4)).off + 3, none⟩ = some (.int .i64 ((rd_T91 aB aD).f1)) ∧ w'.cell? (aF.add ((aA).toNat * 4)) = some (.int .i64 ((rd_T91 aB aA).f0.f0)) ∧ w'.cell? ⟨(aF.add ((aA).toNat * 4)).block, (aF.add ((aA).toNat * 4)).off + 1, none⟩ = some (.int .i64 ((rd_T91 aB aA).f0.f1)) ∧ w'.cell? ⟨(aF.add ((aA).toNat * 4)).block, (aF.add ((aA).toNat * 4)).off + 2, none⟩ = some (.int .i64 ((rd_T91 aB aA).f0.f2)) ∧ w'.cell? ⟨(aF.add ((aA).toNat * 4)).block, (aF.add ((aA).toNat * 4)).off + 3, none⟩ = some (.int .i64 ((rd_T91 aB aA).f1)))) (ds := []) (tf 0 13) (by kernel_rfl) rfl rfl ⟨z0 _ aC.out, z1 _ aC.out, (CY HB.out cG), (CY HB.out cF), (CY HB.out cE), (CY HB.out cD), (CY HB.out cK), (CY HB.out cJ), (CY HB.out cI), (CY HB.out cH)⟩ (fun aH => ?_); refine with_tabW spec_CacheOk.tab11 spec_CacheOk.bits11 (fun aG cC => ?_)
                  generalize wr.drew = fE at aC HB aO aP aQ aR aS aT aU aV aH ⊢
                  refine pv aG 0 61 (tf 1 12) ?_
                  refine pv aG 2 63 (tr [1, 1, 1, 10]) ?_
                  refine pv aG 6 67 (tr [1, 1, 1, 3, 1, 6]) ?_
                  refine pv aG 8 69 (tr [1, 1, 1, 3, 1, 1, 1, 4]) ?_
                  refine tk 1 (some 62) (tr [3, 3, 1, 1, 1, 4]) (take_ofW aG.out cC.out (by kernel_rfl)) aH ?_
                  refine pv aG 3 64 (tr [4, 2, 1, 1, 1, 4]) ?_
                  refine pv aG 4 65 (tr [5, 1, 1, 1, 1, 4]) ?_
                  refine tk 5 (some 66) (tr [7, 1, 1, 4]) (take_ofW aG.out cC.out (by kernel_rfl)) aH ?_
                  refine tk 7 (some 68) (tf 9 4) (take_ofW aG.out cC.out (by kernel_rfl)) aH ?_
                  refine pv aG 9 70 (tf 10 3) ?_
                  refine pv aG 10 71 (tf 11 2) ?_
                  refine tk 11 (some 72) (tf 12 1) (take_ofW aG.out cC.out (by kernel_rfl)) aH ?_
                  refine pv aG 12 73 (tf 13 0) ?_
                  refine done_ (done_of aG.out (by kernel_rfl)) ?_
                  try go_wp2
                  go_ret
                  exact ⟨ER, K1 HB aJ.out⟩
                 ·rw [if_neg dA] at H
                  have c33b0 : (((rd_T91 aB aD).f0.f0) == ((rd_T91 aB aA).f0.f0) && (((rd_T91 aB aD).f0.f1) == ((rd_T91 aB aA).f0.f1) && (((rd_T91 aB aD).f0.f2) == ((rd_T91 aB aA).f0.f2)))) = false := by simpa using dA
                  (try (have c33b1 : decide (((rd_T91 aB aD).f0.f0) = ((rd_T91 aB aA).f0.f0) && (((rd_T91 aB aD).f0.f1) == ((rd_T91 aB aA).f0.f1) && (((rd_T91 aB aD).f0.f2) == ((rd_T91 aB aA).f0.f2)))) = false := by simpa using dA))
                  (try (have c33b2 : (((rd_T91 aB aD).f0.f0) == ((rd_T91 aB aA).f0.f0) && (((rd_T91 aB aD).f0.f1) == ((rd_T91 aB aA).f0.f1) && (((rd_T91 aB aD).f0.f2) == ((rd_T91 aB aA).f0.f2)))) = false := by simpa using dA))
                  (try (have c33b3 : ¬ (((rd_T91 aB aD).f0.f0) = ((rd_T91 aB aA).f0.f0) && (((rd_T91 aB aD).f0.f1) == ((rd_T91 aB aA).f0.f1) && (((rd_T91 aB aD).f0.f2) == ((rd_T91 aB aA).f0.f2)))) := by simpa using dA))
                  clear dA
                  have H' := Aside0.mk H
                  clear H
                  try go_wp2
                  replace aC := am (blk_drew aC.out)
                  replace HB := am (below_drew1 HB.out)
                  have cM : 0 ≤ (aD : Int) := OD
                  have cN : aD < (aB.length : Int) := OD
                  obtain ⟨aF, dJ, aO, aP, aQ, aR⟩ := at_T91 bI.out aD cM cN
                  have cD := aR
                  have cE := aQ
                  have cF := aP
                  have cG := aO
                  cases dJ
                  replace aO := CX HB.out aO
                  replace aP := CX HB.out aP
                  replace aQ := CX HB.out aQ
                  replace aR := CX HB.out aR
                  replace cM := eq_true cM
                  replace cN := eq_true cN
                  have cO : 0 ≤ (aA : Int) := OD
                  have cP : aA < (aB.length : Int) := OD
                  obtain ⟨dB, dK, aS, aT, aU, aV⟩ := at_T91 bI.out aA cO cP
                  have cH := aV
                  have cI := aU
                  have cJ := aT
                  have cK := aS
                  obtain rfl : aF = dB := (by injection dK)
                  replace aS := CX HB.out aS
                  replace aT := CX HB.out aT
                  replace aU := CX HB.out aU
                  replace aV := CX HB.out aV
                  replace cO := eq_true cO
                  replace cP := eq_true cP
                  refine start_ (n := 13) (S := fun w' => ce2 w' bJ (.int .i64 aI) (.slice (some aF) aB.length bQ) (w'.cell? (aF.add ((aD).toNat * 4)) = some (.int .i64 ((rd_T91 aB aD).f0.f0)) ∧ w'.cell? ⟨(aF.add ((aD).toNat * 4)).block, (aF.add ((aD).toNat * 4)).off + 1, none⟩ = some (.int .i64 ((rd_T91 aB aD).f0.f1)) ∧ w'.cell? ⟨(aF.add ((aD).toNat * 4)).block, (aF.add ((aD).toNat * 4)).off + 2, none⟩ = some (.int .i64 ((rd_T91 aB aD).f0.f2)) ∧ w'.cell? ⟨(aF.add ((aD).toNat * 4)).block, (aF.add ((aD).toNat * 4)).off + 3, none⟩ = some (.int .i64 ((rd_T91 aB aD).f1)) ∧ w'.cell? (aF.add ((aA).toNat * 4)) = some (.int .i64 ((rd_T91 aB aA).f0.f0)) ∧ w'.cell? ⟨(aF.add ((aA).toNat * 4)).block, (aF.add ((aA).toNat * 4)).off + 1, none⟩ = some (.int .i64 ((rd_T91 aB aA).f0.f1)) ∧ w'.cell? ⟨(aF.add ((aA).toNat * 4)).block, (aF.add ((aA).toNat * 4)).off + 2, none⟩ = some (.int .i64 ((rd_T91 aB aA).f0.f2)) ∧ w'.cell? ⟨(aF.add ((aA).toNat * 4)).block, (aF.add ((aA).toNat * 4)).off + 3, none⟩ = some (.int .i64 ((rd_T91 aB aA).f1)))) (ds := []) (tf 0 13) (by kernel_rfl) rfl rfl ⟨z0 _ aC.out, z1 _ aC.out, (CY HB.out cG), (CY HB.out cF), (CY HB.out cE), (CY HB.out cD), (CY HB.out cK), (CY HB.out cJ), (CY HB.out cI), (CY HB.out cH)⟩ (fun aH => ?_); refine with_tabW spec_CacheOk.tab11 spec_CacheOk.bits11 (fun aG cC => ?_)
                  generalize wr.drew = fF at aC HB aO aP aQ aR aS aT aU aV aH ⊢
                  refine pv aG 0 61 (tf 1 12) ?_
                  refine pv aG 2 63 (tr [1, 1, 1, 10]) ?_
                  refine pv aG 6 67 (tr [1, 1, 1, 3, 1, 6]) ?_
                  refine pv aG 8 69 (tr [1, 1, 1, 3, 1, 1, 1, 4]) ?_
                  refine tk 1 (some 62) (tr [3, 3, 1, 1, 1, 4]) (take_ofW aG.out cC.out (by kernel_rfl)) aH ?_
                  refine pv aG 3 64 (tr [4, 2, 1, 1, 1, 4]) ?_
                  refine pv aG 4 65 (tr [5, 1, 1, 1, 1, 4]) ?_
                  refine tk 5 (some 66) (tr [7, 1, 1, 4]) (take_ofW aG.out cC.out (by kernel_rfl)) aH ?_
                  refine tk 7 (some 68) (tf 9 4) (take_ofW aG.out cC.out (by kernel_rfl)) aH ?_
                  refine pv aG 9 70 (tf 10 3) ?_
                  refine pv aG 10 71 (tf 11 2) ?_
                  refine tk 11 (some 72) (tf 12 1) (take_ofW aG.out cC.out (by kernel_rfl)) aH ?_
                  refine pv aG 12 73 (tf 13 0) ?_
                  refine done_ (done_of aG.out (by kernel_rfl)) ?_
                  try go_wp2
                  go_roundg k4
                  case measure => have := HJ2.out; have := HK2.out; have := HJ15.out; have := HK4.out; omega
                  case rel => exact ⟨(wrap64 (aD + 1)), (by first | rfl | (simp; done) | (simp [*]; done)), H', ⟨by have := HJ2.out; have := HK2.out; have := HJ15.out; have := HK4.out; omega⟩, ⟨KB aC⟩, ⟨K1 HB aJ.out⟩⟩
                ·rw [if_neg eB] at H
                 exact absurd H (by simp)
               ·rw [if_neg eA] at H
                exact absurd H (by simp)
              ·rw [if_neg dZ] at H
               exact absurd H (by simp)
             ·rw [if_neg dY] at H
              exact absurd H (by simp)
            ·rw [if_neg dN] at H
             have c28b0 : decide (aD < aA) = false := decide_eq_false dN
             clear dN
             have H' := Aside0.mk H
             clear H
             go_wp2
             go_roundg k4
             case measure => have := HJ2.out; have := HK2.out; have := HJ15.out; have := HK4.out; omega
             case rel => exact ⟨(wrap64 (aA + 1)), (by first | rfl | (simp; done) | (simp [*]; done)), H', ⟨by have := HJ2.out; have := HK2.out; have := HJ15.out; have := HK4.out; omega⟩, ⟨KB aC⟩, ⟨K1 HB aJ.out⟩⟩
      ·rw [if_neg dF] at H
       have c15b0 : decide (aA < (aB.length : Int)) = false := decide_eq_false dF
       clear dF
       obtain rfl := sj H
       have ⟨_, _, _⟩ := y2 wr aC.out
       go_wp2
       go_ret
       exact ⟨ER, K1 HB aJ.out⟩
end Go.Proofs.YtmdegplkdgaebaaGreat.PAll
end
section
namespace Go.Proofs.YtmdegplkdgaebaaGreat.PAll
open Go.RowKit Go.Proofs.YtmdegplkdgaebaaGreatW.PrintWords Go.Proofs.YtmdegplkdgaebaaGreatW.PrintLast Go.Proofs.YtmdegplkdgaebaaGreatW.PrintMore
attribute [local go_sem] max2_int min2_int max_two min_two max_three min_three max_four min_four
set_option linter.unusedVariables false
set_option linter.unusedSimpArgs false
def spec_l8Keys.f (a0 : ByteArray) (a1 : ByteArray) : Option (Bool) := if (a0.size : Int) = 16 then ((spec_l1In.f (a1.size : Int) 1 64).bind fun t101 => (some t101)) else (some false)
theorem spec_l8Keys.calls (a0 : ByteArray) (a1 : ByteArray) (r : Bool) (w : World) (h : spec_l8Keys.f a0 a1 = some r) :
  Calls Tryz.prog 65 #[.string a0, .string a1] w fun e w' => e = .returned (.bool r) ∧ Drawn0 w w' := by
 have H : (if (a0.size : Int) = 16 then ((spec_l1In.f (a1.size : Int) 1 64).bind fun aA => (some aA)) else (some false)) = some r := h
 clear h
 by_cases c3 : (a0.size : Int) = 16
 ·rw [if_pos c3] at H
  have c3b0 : ((a0.size : Int) == 16) = true := beq_iff_eq.mpr c3
  have c3b1 : ((a0.size : Int) != 16) = false := bne_eq_false_iff_eq.mpr c3
  clear c3
  replace H := bm H
  obtain ⟨aA, aB, H⟩ := H
  replace H : (some aA) = some r := H
  have A4 := Aside0.mk aB
  clear aB
  obtain rfl := sj H
  go_enter Tryz.func65, Tryz.ntmps65
  go_wp2_with (first | (go_at_call 36; (with_reducible refine (spec_l1In.calls (a1.size : Int) 1 64 aA _ A4.out).mono ?_); rintro e w' ⟨rfl, ⟨nd, rfl⟩⟩))
  go_ret
  exact ⟨by first | rfl | (simp; done) | (simp [*]; done), by repeat (first | exact Drawn0.refl _ | apply Drawn0.step)⟩
 ·rw [if_neg c3] at H
  have c3b0 : ((a0.size : Int) == 16) = false := beq_eq_false_iff_ne.mpr c3
  have c3b1 : ((a0.size : Int) != 16) = true := bne_iff_ne.mpr c3
  obtain rfl := sj H
  go_enter Tryz.func65, Tryz.ntmps65
  go_wp2
  go_ret
  exact ⟨by first | rfl | (simp; done) | (simp [*]; done), by repeat (first | exact Drawn0.refl _ | apply Drawn0.step)⟩
def spec_WindowOk.l0 : Nat → Int → Int → Int → List Int → Option (Bool)
 | 0, _, _, _, _ => none
 | k + 1, x3, x4, x102000, x102001 => if x4 < x3 then (if 0 ≤ x4 then (if x4 < (x102001.length : Int) then (if (rd x102001 x4) ≤ (wrap64 (x102000 - 16)) then (some false) else (if (rd x102001 x4) < 1 then (some false) else (if x4 > 0 then (if 0 ≤ (wrap64 (x4 - 1)) then (if (wrap64 (x4 - 1)) < (x102001.length : Int) then (if (rd x102001 (wrap64 (x4 - 1))) ≥ (rd x102001 x4) then (some false) else (spec_WindowOk.l0 k x3 (wrap64 (x4 + 1)) x102000 x102001)) else (none)) else (none)) else (spec_WindowOk.l0 k x3 (wrap64 (x4 + 1)) x102000 x102001)))) else (none)) else (none)) else (if 0 ≤ (wrap64 (x3 - 1)) then (if (wrap64 (x3 - 1)) < (x102001.length : Int) then (if (rd x102001 (wrap64 (x3 - 1))) = x102000 then (some (decide (x102000 ≤ 1000000))) else (some false)) else (none)) else (none))
def spec_WindowOk.f (k : Nat) (a0_0 : Int) (l0_1 : List Int) : Option (Bool) := if (l0_1.length : Int) = 0 then (some (a0_0 == 0)) else (spec_WindowOk.l0 k (l0_1.length : Int) 0 a0_0 l0_1)
theorem spec_WindowOk.calls (k : Nat) (aF : Int) (aU : Option Addr) (aV : Nat) (aA : List Int) (r : Bool) (w : World) (bM : Kd.C (Kd.int .i64) w aU aA.length aA) (bN : aA.length ≤ aV) (h : spec_WindowOk.f k aF aA = some r) :
  Calls Tryz.prog 66 #[.agg #[.int .i64 aF, .slice aU aA.length aV]] w fun e w' => e = .returned (.bool r) ∧ Below w.heap.size w w' := by
 have cX := Tryz.underlying48
 have aG := Aside0.mk bM
 have cW := Aside0.mk bN
 clear bM bN
 have HB := am (Below.refl w.heap.size w)
 have H : (if (aA.length : Int) = 0 then (some (aF == 0)) else (spec_WindowOk.l0 k (aA.length : Int) 0 aF aA)) = some r := h
 clear h
 by_cases c2 : (aA.length : Int) = 0
 ·rw [if_pos c2] at H
  have c2b0 : ((aA.length : Int) == 0) = true := beq_iff_eq.mpr c2
  have c2b1 : ((aA.length : Int) != 0) = false := bne_eq_false_iff_eq.mpr c2
  clear c2
  obtain rfl := sj H
  go_enter Tryz.func66, Tryz.ntmps66
  go_wp2_with (first | ((with_reducible refine gate_dst (N := 1) rfl ?_); refine box_event rfl (N := 1) rfl (cs := #[.int .i64 aF, .slice aU aA.length aV]) (t := 48) BX ?_; intro aT hg w3 aL hb; have aD := am (aL); have aM := am (GH HB hg); have aH := aM; replace HB := bl (KL HB) hb; clear hb aL hg; obtain ⟨aX, aY, aZ⟩ := y2 w3 aD.out))
  repeat (go_quiet (first | ((with_reducible refine gate_dst (N := 1) rfl ?_); refine box_event rfl (N := 1) rfl (cs := #[.int .i64 aF, .slice aU aA.length aV]) (t := 48) BX ?_; intro aT hg w3 aL hb; have aD := am (aL); have aM := am (GH HB hg); have aH := aM; replace HB := bl (KL HB) hb; clear hb aL hg; obtain ⟨aX, aY, aZ⟩ := y2 w3 aD.out)); try go_wp2_with (first | ((with_reducible refine gate_dst (N := 1) rfl ?_); refine box_event rfl (N := 1) rfl (cs := #[.int .i64 aF, .slice aU aA.length aV]) (t := 48) BX ?_; intro aT hg w3 aL hb; have aD := am (aL); have aM := am (GH HB hg); have aH := aM; replace HB := bl (KL HB) hb; clear hb aL hg; obtain ⟨aX, aY, aZ⟩ := y2 w3 aD.out)))
  go_ret
  exact ⟨ER, K1 HB aH.out⟩
 ·rw [if_neg c2] at H
  have c2b0 : ((aA.length : Int) == 0) = false := beq_eq_false_iff_ne.mpr c2
  have c2b1 : ((aA.length : Int) != 0) = true := bne_iff_ne.mpr c2
  have c2b2 : ¬ (aA = []) := fun h_ => c2 (by rw [h_]; rfl)
  have H' := Aside0.mk H
  clear H
  go_enter Tryz.func66, Tryz.ntmps66
  go_wp2_with (first | ((with_reducible refine gate_dst (N := 1) rfl ?_); refine box_event rfl (N := 1) rfl (cs := #[.int .i64 aF, .slice aU aA.length aV]) (t := 48) BX ?_; intro aT hg w5 aL hb; have aD := am (aL); have aM := am (GH HB hg); have aH := aM; replace HB := bl (KL HB) hb; clear hb aL hg; obtain ⟨bA, bB, bC⟩ := y2 w5 aD.out))
  repeat (go_quiet (first | ((with_reducible refine gate_dst (N := 1) rfl ?_); refine box_event rfl (N := 1) rfl (cs := #[.int .i64 aF, .slice aU aA.length aV]) (t := 48) BX ?_; intro aT hg w5 aL hb; have aD := am (aL); have aM := am (GH HB hg); have aH := aM; replace HB := bl (KL HB) hb; clear hb aL hg; obtain ⟨bA, bB, bC⟩ := y2 w5 aD.out)); try go_wp2_with (first | ((with_reducible refine gate_dst (N := 1) rfl ?_); refine box_event rfl (N := 1) rfl (cs := #[.int .i64 aF, .slice aU aA.length aV]) (t := 48) BX ?_; intro aT hg w5 aL hb; have aD := am (aL); have aM := am (GH HB hg); have aH := aM; replace HB := bl (KL HB) hb; clear hb aL hg; obtain ⟨bA, bB, bC⟩ := y2 w5 aD.out)))
  go_loopg [4] k (fun kq v4 w' => ∃ (aB : Int), v4 = .int .i64 aB ∧ Aside0 (spec_WindowOk.l0 kq (aA.length : Int) aB aF aA = some r) ∧ Aside0 (kq ≤ k) ∧ Aside0 (w'.heap[aT]? = some (.cells #[.int .i64 aF, (.slice aU aA.length aV)] 48 (0, 0))) ∧ Aside0 (Below w.heap.size w w'))
  case atStart => exact ⟨(0), (by first | rfl | (simp; done) | (simp [*]; done)), H', ⟨Nat.le_refl _⟩, ⟨KB aD⟩, ⟨K1 HB aH.out⟩⟩
  case round =>
   clear H'
   try clear c2
   try clear c2b0
   try clear c2b1
   try clear c2b2
   try clear p2
   try clear c6
   try clear aX aY aZ
   try clear bA bB bC
   obtain ⟨aB, rfl, HA, HK1, aD, HB⟩ := hrel
   cases gk with
   | zero => exact absurd HA.out (by simp [spec_WindowOk.l0])
   | succ k1 =>
    have H := HA.out
    clear HA
    simp only [spec_WindowOk.l0] at H
    by_cases c7 : aB < (aA.length : Int)
    ·rw [if_pos c7] at H
     have c7b0 : decide (aB < (aA.length : Int)) = true := decide_eq_true c7
     clear c7
     by_cases c8 : 0 ≤ aB
     ·rw [if_pos c8] at H
      have c8b0 : decide (0 ≤ aB) = true := decide_eq_true c8
      clear c8
      by_cases c9 : aB < (aA.length : Int)
      ·rw [if_pos c9] at H
       have c9b0 : decide (aB < (aA.length : Int)) = true := decide_eq_true c9
       clear c9
       by_cases bS : (rd aA aB) ≤ (wrap64 (aF - 16))
       ·rw [if_pos bS] at H
        have c10b0 : decide ((rd aA aB) ≤ (wrap64 (aF - 16))) = true := decide_eq_true bS
        clear bS
        obtain rfl := sj H
        have ⟨_, _, _⟩ := y2 wr aD.out
        have aI : 0 ≤ (aB : Int) := OD
        have aJ : aB < (aA.length : Int) := OD
        obtain ⟨aK, aW, aC⟩ := Kd.at_int aG.out aB aI aJ
        cases aW
        replace aC := CX HB.out aC
        replace aI := eq_true aI
        replace aJ := eq_true aJ
        go_wp2
        repeat (go_quiet (fail); try go_wp2)
        go_ret
        exact ⟨ER, K1 HB aH.out⟩
       ·rw [if_neg bS] at H
        have c10b0 : decide ((rd aA aB) ≤ (wrap64 (aF - 16))) = false := decide_eq_false bS
        clear bS
        by_cases bT : (rd aA aB) < 1
        ·rw [if_pos bT] at H
         have c12b0 : decide ((rd aA aB) < 1) = true := decide_eq_true bT
         clear bT
         obtain rfl := sj H
         have ⟨_, _, _⟩ := y2 wr aD.out
         have aI : 0 ≤ (aB : Int) := OD
         have aJ : aB < (aA.length : Int) := OD
         obtain ⟨aK, aW, aC⟩ := Kd.at_int aG.out aB aI aJ
         cases aW
         replace aC := CX HB.out aC
         replace aI := eq_true aI
         replace aJ := eq_true aJ
         have aN : 0 ≤ (aB : Int) := OD
         have aO : aB < (aA.length : Int) := OD
         obtain ⟨aS, bD, aE⟩ := Kd.at_int aG.out aB aN aO
         obtain rfl : aK = aS := (by injection bD)
         replace aE := CX HB.out aE
         replace aN := eq_true aN
         replace aO := eq_true aO
         go_wp2
         repeat (go_quiet (fail); try go_wp2)
         go_ret
         exact ⟨ER, K1 HB aH.out⟩
        ·rw [if_neg bT] at H
         have c12b0 : decide ((rd aA aB) < 1) = false := decide_eq_false bT
         clear bT
         by_cases bU : aB > 0
         ·rw [if_pos bU] at H
          have c14b0 : decide (0 < aB) = true := decide_eq_true bU
          clear bU
          obtain ⟨ji15, hji15⟩ : ∃ j_ : Int, (wrap64 (aB - 1)) = j_ := ⟨_, rfl⟩
          replace H : (if 0 ≤ (ji15) then (if (ji15) < (aA.length : Int) then (if (rd aA (ji15)) ≥ (rd aA aB) then (some false) else (spec_WindowOk.l0 k1 (aA.length : Int) (wrap64 (aB + 1)) aF aA)) else (none)) else (none)) = some r := by first | (rw [hji15] at H; exact H) | (simp only [hji15] at H ⊢; exact H)
          have hji15w : (IntKind.i64.wrap (aB - 1)) = ji15 := (i64_w _).trans hji15
          by_cases cD : 0 ≤ (ji15)
          ·rw [if_pos cD] at H
           have c16b0 : decide (0 ≤ (ji15)) = true := decide_eq_true cD
           clear cD
           by_cases cE : (ji15) < (aA.length : Int)
           ·rw [if_pos cE] at H
            have c17b0 : decide ((ji15) < (aA.length : Int)) = true := decide_eq_true cE
            clear cE
            by_cases bV : (rd aA (ji15)) ≥ (rd aA aB)
            ·rw [if_pos bV] at H
             have c18b0 : decide ((rd aA aB) ≤ (rd aA (ji15))) = true := decide_eq_true bV
             clear bV
             obtain rfl := sj H
             have ⟨_, _, _⟩ := y2 wr aD.out
             have aI : 0 ≤ (aB : Int) := OD
             have aJ : aB < (aA.length : Int) := OD
             obtain ⟨aK, aW, aC⟩ := Kd.at_int aG.out aB aI aJ
             cases aW
             replace aC := CX HB.out aC
             replace aI := eq_true aI
             replace aJ := eq_true aJ
             have aN : 0 ≤ (aB : Int) := OD
             have aO : aB < (aA.length : Int) := OD
             obtain ⟨aS, bD, aE⟩ := Kd.at_int aG.out aB aN aO
             obtain rfl : aK = aS := (by injection bD)
             replace aE := CX HB.out aE
             replace aN := eq_true aN
             replace aO := eq_true aO
             have bE : 0 ≤ ((ji15) : Int) := OD
             have bF : (ji15) < (aA.length : Int) := OD
             obtain ⟨bK, bO, aP⟩ := Kd.at_int aG.out (ji15) bE bF
             obtain rfl : aK = bK := (by injection bO)
             replace aP := CX HB.out aP
             replace bE := eq_true bE
             replace bF := eq_true bF
             have bG : 0 ≤ (aB : Int) := OD
             have bH : aB < (aA.length : Int) := OD
             obtain ⟨bL, bP, aQ⟩ := Kd.at_int aG.out aB bG bH
             obtain rfl : aK = bL := (by injection bP)
             replace aQ := CX HB.out aQ
             replace bG := eq_true bG
             replace bH := eq_true bH
             go_wp2
             repeat (go_quiet (fail); try go_wp2)
             go_ret
             exact ⟨by first | rfl | (simp [errW_none, errW_some] <;> rfl) | (simp only [← hji15]; first | rfl | (simp [errW_none, errW_some] <;> rfl)) | (simp [*, errW_none, errW_some] <;> rfl), K1 HB aH.out⟩
            ·rw [if_neg bV] at H
             have c18b0 : decide ((rd aA aB) ≤ (rd aA (ji15))) = false := decide_eq_false bV
             clear bV
             have H' := Aside0.mk H
             clear H
             have ⟨_, _, _⟩ := y2 wr aD.out
             have aI : 0 ≤ (aB : Int) := OD
             have aJ : aB < (aA.length : Int) := OD
             obtain ⟨aK, aW, aC⟩ := Kd.at_int aG.out aB aI aJ
             cases aW
             replace aC := CX HB.out aC
             replace aI := eq_true aI
             replace aJ := eq_true aJ
             have aN : 0 ≤ (aB : Int) := OD
             have aO : aB < (aA.length : Int) := OD
             obtain ⟨aS, bD, aE⟩ := Kd.at_int aG.out aB aN aO
             obtain rfl : aK = aS := (by injection bD)
             replace aE := CX HB.out aE
             replace aN := eq_true aN
             replace aO := eq_true aO
             have bE : 0 ≤ ((ji15) : Int) := OD
             have bF : (ji15) < (aA.length : Int) := OD
             obtain ⟨bK, bO, aP⟩ := Kd.at_int aG.out (ji15) bE bF
             obtain rfl : aK = bK := (by injection bO)
             replace aP := CX HB.out aP
             replace bE := eq_true bE
             replace bF := eq_true bF
             have bG : 0 ≤ (aB : Int) := OD
             have bH : aB < (aA.length : Int) := OD
             obtain ⟨bL, bP, aQ⟩ := Kd.at_int aG.out aB bG bH
             obtain rfl : aK = bL := (by injection bP)
             replace aQ := CX HB.out aQ
             replace bG := eq_true bG
             replace bH := eq_true bH
             go_wp2
             repeat (go_quiet (fail); try go_wp2)
             go_roundg k1
             case measure => have := HK1.out; omega
             case rel => exact ⟨(wrap64 (aB + 1)), (by first | rfl | (simp; done) | (simp [*]; done)), H', ⟨by have := HK1.out; omega⟩, ⟨KB aD⟩, ⟨K1 HB aH.out⟩⟩
           ·rw [if_neg cE] at H
            exact absurd H (by simp)
          ·rw [if_neg cD] at H
           exact absurd H (by simp)
         ·rw [if_neg bU] at H
          have c14b0 : decide (0 < aB) = false := decide_eq_false bU
          clear bU
          have H' := Aside0.mk H
          clear H
          have ⟨_, _, _⟩ := y2 wr aD.out
          have aI : 0 ≤ (aB : Int) := OD
          have aJ : aB < (aA.length : Int) := OD
          obtain ⟨aK, aW, aC⟩ := Kd.at_int aG.out aB aI aJ
          cases aW
          replace aC := CX HB.out aC
          replace aI := eq_true aI
          replace aJ := eq_true aJ
          have aN : 0 ≤ (aB : Int) := OD
          have aO : aB < (aA.length : Int) := OD
          obtain ⟨aS, bD, aE⟩ := Kd.at_int aG.out aB aN aO
          obtain rfl : aK = aS := (by injection bD)
          replace aE := CX HB.out aE
          replace aN := eq_true aN
          replace aO := eq_true aO
          go_wp2
          repeat (go_quiet (fail); try go_wp2)
          go_roundg k1
          case measure => have := HK1.out; omega
          case rel => exact ⟨(wrap64 (aB + 1)), (by first | rfl | (simp; done) | (simp [*]; done)), H', ⟨by have := HK1.out; omega⟩, ⟨KB aD⟩, ⟨K1 HB aH.out⟩⟩
      ·rw [if_neg c9] at H
       exact absurd H (by simp)
     ·rw [if_neg c8] at H
      exact absurd H (by simp)
    ·rw [if_neg c7] at H
     have c7b0 : decide (aB < (aA.length : Int)) = false := decide_eq_false c7
     clear c7
     obtain ⟨ji22, hji22⟩ : ∃ j_ : Int, (wrap64 ((aA.length : Int) - 1)) = j_ := ⟨_, rfl⟩
     replace H : (if 0 ≤ (ji22) then (if (ji22) < (aA.length : Int) then (if (rd aA (ji22)) = aF then (some (decide (aF ≤ 1000000))) else (some false)) else (none)) else (none)) = some r := by first | (rw [hji22] at H; exact H) | (simp only [hji22] at H ⊢; exact H)
     have hji22w : (IntKind.i64.wrap ((aA.length : Int) - 1)) = ji22 := (i64_w _).trans hji22
     by_cases cO : 0 ≤ (ji22)
     ·rw [if_pos cO] at H
      have c23b0 : decide (0 ≤ (ji22)) = true := decide_eq_true cO
      clear cO
      by_cases cP : (ji22) < (aA.length : Int)
      ·rw [if_pos cP] at H
       have c24b0 : decide ((ji22) < (aA.length : Int)) = true := decide_eq_true cP
       clear cP
       by_cases bQ : (rd aA (ji22)) = aF
       ·rw [if_pos bQ] at H
        have c25b0 : ((rd aA (ji22)) == aF) = true := beq_iff_eq.mpr bQ
        have c25b1 : ((rd aA (ji22)) != aF) = false := bne_eq_false_iff_eq.mpr bQ
        clear bQ
        obtain rfl := sj H
        have ⟨_, _, _⟩ := y2 wr aD.out
        have bI : 0 ≤ ((ji22) : Int) := OD
        have bJ : (ji22) < (aA.length : Int) := OD
        obtain ⟨bW, bR, aR⟩ := Kd.at_int aG.out (ji22) bI bJ
        cases bR
        replace aR := CX HB.out aR
        replace bI := eq_true bI
        replace bJ := eq_true bJ
        go_wp2
        repeat (go_quiet (fail); try go_wp2)
        go_ret
        exact ⟨by first | rfl | (simp [errW_none, errW_some] <;> rfl) | (simp only [← hji22]; first | rfl | (simp [errW_none, errW_some] <;> rfl)) | (simp [*, errW_none, errW_some] <;> rfl), K1 HB aH.out⟩
       ·rw [if_neg bQ] at H
        have c25b0 : ((rd aA (ji22)) == aF) = false := beq_eq_false_iff_ne.mpr bQ
        have c25b1 : ((rd aA (ji22)) != aF) = true := bne_iff_ne.mpr bQ
        obtain rfl := sj H
        have ⟨_, _, _⟩ := y2 wr aD.out
        have bI : 0 ≤ ((ji22) : Int) := OD
        have bJ : (ji22) < (aA.length : Int) := OD
        obtain ⟨bW, bR, aR⟩ := Kd.at_int aG.out (ji22) bI bJ
        cases bR
        replace aR := CX HB.out aR
        replace bI := eq_true bI
        replace bJ := eq_true bJ
        go_wp2
        repeat (go_quiet (fail); try go_wp2)
        go_ret
        exact ⟨by first | rfl | (simp [errW_none, errW_some] <;> rfl) | (simp only [← hji22]; first | rfl | (simp [errW_none, errW_some] <;> rfl)) | (simp [*, errW_none, errW_some] <;> rfl), K1 HB aH.out⟩
      ·rw [if_neg cP] at H
       exact absurd H (by simp)
     ·rw [if_neg cO] at H
      exact absurd H (by simp)
def spec_SaOk.f (k : Nat) (a0_0 : Int) (a0_1 : Int) (a0_2 : ByteArray) (a0_3 : ByteArray) (a0_4 : Int) (a0_5 : Int) (a0_6 : Int) (a0_7 : Int) (a0_8 : Int) (a0_9 : Int) (l0_10 : List Int) : Option (Bool) := (spec_l1In.f a0_0 1 999).bind fun t102 => (if t102 = true then ((spec_l1In.f a0_1 0 3).bind fun t103 => (if t103 = true then ((spec_l8Keys.f a0_2 a0_3).bind fun t104 => (if t104 = true then ((spec_l1In.f a0_4 0 1000000).bind fun t105 => (if t105 = true then ((spec_l1In.f a0_5 1 a0_6).bind fun t106 => (if t106 = true then ((spec_l1In.f a0_6 1 1000000).bind fun t107 => (if t107 = true then ((spec_l1In.f a0_7 1 1000000).bind fun t108 => (if t108 = true then ((spec_l1In.f a0_8 0 a0_6).bind fun t109 => (if t109 = true then ((spec_WindowOk.f k a0_9 l0_10).bind fun t110 => (some t110)) else (some false))) else (some false))) else (some false))) else (some false))) else (some false))) else (some false))) else (some false))) else (some false))
theorem spec_SaOk.calls (k : Nat) (aC : Int) (aH : Int) (aI : ByteArray) (aJ : ByteArray) (aK : Int) (aL : Int) (aA : Int) (aM : Int) (aN : Int) (aO : Int) (aR : Option Addr) (aS : Nat) (aB : List Int) (r : Bool) (w : World) (bA : Kd.C (Kd.int .i64) w aR aB.length aB) (bB : aB.length ≤ aS) (h : spec_SaOk.f k aC aH aI aJ aK aL aA aM aN aO aB = some r) :
  Calls Tryz.prog 38 #[.agg #[.int .i64 aC, .int .i64 aH, .string aI, .string aJ, .int .i64 aK, .int .i64 aL, .int .i64 aA, .int .i64 aM, .int .i64 aN, .int .i64 aO, .slice aR aB.length aS]] w fun e w' => e = .returned (.bool r) ∧ Below w.heap.size w w' := by
 have gA := Tryz.underlying50
 have gB := Tryz.underlying48
 have bD := Aside0.mk bA
 have bE := Aside0.mk bB
 clear bA bB
 have HB := am (Below.refl w.heap.size w)
 have H : ((spec_l1In.f aC 1 999).bind fun bC => (if bC = true then ((spec_l1In.f aH 0 3).bind fun aZ => (if aZ = true then ((spec_l8Keys.f aI aJ).bind fun aY => (if aY = true then ((spec_l1In.f aK 0 1000000).bind fun aX => (if aX = true then ((spec_l1In.f aL 1 aA).bind fun aW => (if aW = true then ((spec_l1In.f aA 1 1000000).bind fun aU => (if aU = true then ((spec_l1In.f aM 1 1000000).bind fun aT => (if aT = true then ((spec_l1In.f aN 0 aA).bind fun aQ => (if aQ = true then ((spec_WindowOk.f k aO aB).bind fun aP => (some aP)) else (some false))) else (some false))) else (some false))) else (some false))) else (some false))) else (some false))) else (some false))) else (some false))) = some r := h
 clear h
 replace H := bm H
 obtain ⟨bC, fV, H⟩ := H
 replace H : (if bC = true then ((spec_l1In.f aH 0 3).bind fun aZ => (if aZ = true then ((spec_l8Keys.f aI aJ).bind fun aY => (if aY = true then ((spec_l1In.f aK 0 1000000).bind fun aX => (if aX = true then ((spec_l1In.f aL 1 aA).bind fun aW => (if aW = true then ((spec_l1In.f aA 1 1000000).bind fun aU => (if aU = true then ((spec_l1In.f aM 1 1000000).bind fun aT => (if aT = true then ((spec_l1In.f aN 0 aA).bind fun aQ => (if aQ = true then ((spec_WindowOk.f k aO aB).bind fun aP => (some aP)) else (some false))) else (some false))) else (some false))) else (some false))) else (some false))) else (some false))) else (some false))) else (some false)) = some r := H
 have A2 := Aside0.mk fV
 clear fV
 by_cases c3 : bC = true
 ·subst c3
  have H1 := pf H
  clear H
  have H := H1
  clear H1
  replace H := bm H
  obtain ⟨aZ, fW, H⟩ := H
  replace H : (if aZ = true then ((spec_l8Keys.f aI aJ).bind fun aY => (if aY = true then ((spec_l1In.f aK 0 1000000).bind fun aX => (if aX = true then ((spec_l1In.f aL 1 aA).bind fun aW => (if aW = true then ((spec_l1In.f aA 1 1000000).bind fun aU => (if aU = true then ((spec_l1In.f aM 1 1000000).bind fun aT => (if aT = true then ((spec_l1In.f aN 0 aA).bind fun aQ => (if aQ = true then ((spec_WindowOk.f k aO aB).bind fun aP => (some aP)) else (some false))) else (some false))) else (some false))) else (some false))) else (some false))) else (some false))) else (some false)) = some r := H
  have A4 := Aside0.mk fW
  clear fW
  by_cases c5 : aZ = true
  ·subst c5
   have H1 := pf H
   clear H
   have H := H1
   clear H1
   replace H := bm H
   obtain ⟨aY, fX, H⟩ := H
   replace H : (if aY = true then ((spec_l1In.f aK 0 1000000).bind fun aX => (if aX = true then ((spec_l1In.f aL 1 aA).bind fun aW => (if aW = true then ((spec_l1In.f aA 1 1000000).bind fun aU => (if aU = true then ((spec_l1In.f aM 1 1000000).bind fun aT => (if aT = true then ((spec_l1In.f aN 0 aA).bind fun aQ => (if aQ = true then ((spec_WindowOk.f k aO aB).bind fun aP => (some aP)) else (some false))) else (some false))) else (some false))) else (some false))) else (some false))) else (some false)) = some r := H
   have A6 := Aside0.mk fX
   clear fX
   by_cases c7 : aY = true
   ·subst c7
    have H1 := pf H
    clear H
    have H := H1
    clear H1
    replace H := bm H
    obtain ⟨aX, fY, H⟩ := H
    replace H : (if aX = true then ((spec_l1In.f aL 1 aA).bind fun aW => (if aW = true then ((spec_l1In.f aA 1 1000000).bind fun aU => (if aU = true then ((spec_l1In.f aM 1 1000000).bind fun aT => (if aT = true then ((spec_l1In.f aN 0 aA).bind fun aQ => (if aQ = true then ((spec_WindowOk.f k aO aB).bind fun aP => (some aP)) else (some false))) else (some false))) else (some false))) else (some false))) else (some false)) = some r := H
    have A8 := Aside0.mk fY
    clear fY
    by_cases c9 : aX = true
    ·subst c9
     have H1 := pf H
     clear H
     have H := H1
     clear H1
     replace H := bm H
     obtain ⟨aW, bF, H⟩ := H
     replace H : (if aW = true then ((spec_l1In.f aA 1 1000000).bind fun aU => (if aU = true then ((spec_l1In.f aM 1 1000000).bind fun aT => (if aT = true then ((spec_l1In.f aN 0 aA).bind fun aQ => (if aQ = true then ((spec_WindowOk.f k aO aB).bind fun aP => (some aP)) else (some false))) else (some false))) else (some false))) else (some false)) = some r := H
     have bG := Aside0.mk bF
     clear bF
     by_cases bU : aW = true
     ·subst bU
      have H1 := pf H
      clear H
      have H := H1
      clear H1
      replace H := bm H
      obtain ⟨aU, bH, H⟩ := H
      replace H : (if aU = true then ((spec_l1In.f aM 1 1000000).bind fun aT => (if aT = true then ((spec_l1In.f aN 0 aA).bind fun aQ => (if aQ = true then ((spec_WindowOk.f k aO aB).bind fun aP => (some aP)) else (some false))) else (some false))) else (some false)) = some r := H
      have bV := Aside0.mk bH
      clear bH
      by_cases bW : aU = true
      ·subst bW
       have H1 := pf H
       clear H
       have H := H1
       clear H1
       replace H := bm H
       obtain ⟨aT, bI, H⟩ := H
       replace H : (if aT = true then ((spec_l1In.f aN 0 aA).bind fun aQ => (if aQ = true then ((spec_WindowOk.f k aO aB).bind fun aP => (some aP)) else (some false))) else (some false)) = some r := H
       have fU := Aside0.mk bI
       clear bI
       by_cases bX : aT = true
       ·subst bX
        have H1 := pf H
        clear H
        have H := H1
        clear H1
        replace H := bm H
        obtain ⟨aQ, bJ, H⟩ := H
        replace H : (if aQ = true then ((spec_WindowOk.f k aO aB).bind fun aP => (some aP)) else (some false)) = some r := H
        have fZ := Aside0.mk bJ
        clear bJ
        by_cases bY : aQ = true
        ·subst bY
         have H1 := pf H
         clear H
         have H := H1
         clear H1
         replace H := bm H
         obtain ⟨aP, bK, H⟩ := H
         replace H : (some aP) = some r := H
         have gC := Aside0.mk bK
         clear bK
         obtain rfl := sj H
         go_enter Tryz.func38, Tryz.ntmps38
         go_wp2_with (first | ((with_reducible refine gate_dst (N := 1) rfl ?_); refine box_event rfl (N := 1) rfl (cs := #[.int .i64 aC, .int .i64 aH, .string aI, .string aJ, .int .i64 aK, .int .i64 aL, .int .i64 aA, .int .i64 aM, .int .i64 aN, .int .i64 aO, .slice aR aB.length aS]) (t := 50) BX ?_; intro aV hg gD aF hb; have aD := am (aF); have aG := am (GH HB hg); have aE := aG; replace HB := bl (KL HB) hb; clear hb aF hg; have ⟨_, _, _, _, _, _, _, _, _, _, _, _⟩ := y11 gD aD.out) | ((with_reducible refine gate_callee (f := 36) rfl ?_); refine goesL_ (some 5) rfl rfl Tryz.func36 (by kernel_rfl) rfl #[.int .i64 aC, .int .i64 1, .int .i64 999] rfl MT ?_; (with_reducible refine (spec_l1In.calls aC 1 999 true _ A2.out).mono ?_); rintro e w' ⟨rfl, ⟨nd, rfl⟩⟩; refine ⟨_, rfl, ?_⟩) | (go_at_call 36; (with_reducible refine (spec_l1In.calls aH 0 3 true _ A4.out).mono ?_); rintro e w' ⟨rfl, ⟨nd, rfl⟩⟩) | (go_at_call 65; (with_reducible refine (spec_l8Keys.calls aI aJ true _ A6.out).mono ?_); rintro e w' ⟨rfl, ⟨nd, rfl⟩⟩) | (go_at_call 36; (with_reducible refine (spec_l1In.calls aK 0 1000000 true _ A8.out).mono ?_); rintro e w' ⟨rfl, ⟨nd, rfl⟩⟩) | (go_at_call 36; (with_reducible refine (spec_l1In.calls aL 1 aA true _ bG.out).mono ?_); rintro e w' ⟨rfl, ⟨nd, rfl⟩⟩) | (go_at_call 36; (with_reducible refine (spec_l1In.calls aA 1 1000000 true _ bV.out).mono ?_); rintro e w' ⟨rfl, ⟨nd, rfl⟩⟩) | (go_at_call 36; (with_reducible refine (spec_l1In.calls aM 1 1000000 true _ fU.out).mono ?_); rintro e w' ⟨rfl, ⟨nd, rfl⟩⟩) | (go_at_call 36; (with_reducible refine (spec_l1In.calls aN 0 aA true _ fZ.out).mono ?_); rintro e w' ⟨rfl, ⟨nd, rfl⟩⟩) | (go_at_call 66; (with_reducible refine (spec_WindowOk.calls k aO _ _ aB aP _ ?_ ?_ gC.out).mono ?_); (repeat (first | exact (Kd.C_below bD.out (K1 HB aE.out)) | (with_reducible refine Kd.C_alloc ?_ _) | (with_reducible refine Kd.C_drewN ?_ _) | (with_reducible refine Kd.C_drew ?_))); exact bE.out; rintro e gM ⟨rfl, hb⟩; replace aD := am (BB aD hb); replace HB := bl (K1 HB aE.out) hb; (try clear hb)))
         go_ret
         exact ⟨ER, K1 HB aE.out⟩
        ·replace bY := Bool.eq_false_iff.mpr bY
         subst bY
         have H1 := nf H
         clear H
         have H := H1
         clear H1
         obtain rfl := sj H
         go_enter Tryz.func38, Tryz.ntmps38
         go_wp2_with (first | ((with_reducible refine gate_dst (N := 1) rfl ?_); refine box_event rfl (N := 1) rfl (cs := #[.int .i64 aC, .int .i64 aH, .string aI, .string aJ, .int .i64 aK, .int .i64 aL, .int .i64 aA, .int .i64 aM, .int .i64 aN, .int .i64 aO, .slice aR aB.length aS]) (t := 50) BX ?_; intro aV hg gE aF hb; have aD := am (aF); have aG := am (GH HB hg); have aE := aG; replace HB := bl (KL HB) hb; clear hb aF hg; have ⟨_, _, _, _, _, _, _, _, _, _, _, _⟩ := y11 gE aD.out) | ((with_reducible refine gate_callee (f := 36) rfl ?_); refine goesL_ (some 5) rfl rfl Tryz.func36 (by kernel_rfl) rfl #[.int .i64 aC, .int .i64 1, .int .i64 999] rfl MT ?_; (with_reducible refine (spec_l1In.calls aC 1 999 true _ A2.out).mono ?_); rintro e w' ⟨rfl, ⟨nd, rfl⟩⟩; refine ⟨_, rfl, ?_⟩) | (go_at_call 36; (with_reducible refine (spec_l1In.calls aH 0 3 true _ A4.out).mono ?_); rintro e w' ⟨rfl, ⟨nd, rfl⟩⟩) | (go_at_call 65; (with_reducible refine (spec_l8Keys.calls aI aJ true _ A6.out).mono ?_); rintro e w' ⟨rfl, ⟨nd, rfl⟩⟩) | (go_at_call 36; (with_reducible refine (spec_l1In.calls aK 0 1000000 true _ A8.out).mono ?_); rintro e w' ⟨rfl, ⟨nd, rfl⟩⟩) | (go_at_call 36; (with_reducible refine (spec_l1In.calls aL 1 aA true _ bG.out).mono ?_); rintro e w' ⟨rfl, ⟨nd, rfl⟩⟩) | (go_at_call 36; (with_reducible refine (spec_l1In.calls aA 1 1000000 true _ bV.out).mono ?_); rintro e w' ⟨rfl, ⟨nd, rfl⟩⟩) | (go_at_call 36; (with_reducible refine (spec_l1In.calls aM 1 1000000 true _ fU.out).mono ?_); rintro e w' ⟨rfl, ⟨nd, rfl⟩⟩) | (go_at_call 36; (with_reducible refine (spec_l1In.calls aN 0 aA false _ fZ.out).mono ?_); rintro e w' ⟨rfl, ⟨nd, rfl⟩⟩))
         go_ret
         exact ⟨ER, K1 HB aE.out⟩
       ·replace bX := Bool.eq_false_iff.mpr bX
        subst bX
        have H1 := nf H
        clear H
        have H := H1
        clear H1
        obtain rfl := sj H
        go_enter Tryz.func38, Tryz.ntmps38
        go_wp2_with (first | ((with_reducible refine gate_dst (N := 1) rfl ?_); refine box_event rfl (N := 1) rfl (cs := #[.int .i64 aC, .int .i64 aH, .string aI, .string aJ, .int .i64 aK, .int .i64 aL, .int .i64 aA, .int .i64 aM, .int .i64 aN, .int .i64 aO, .slice aR aB.length aS]) (t := 50) BX ?_; intro aV hg gF aF hb; have aD := am (aF); have aG := am (GH HB hg); have aE := aG; replace HB := bl (KL HB) hb; clear hb aF hg; have ⟨_, _, _, _, _, _, _, _, _, _, _, _⟩ := y11 gF aD.out) | ((with_reducible refine gate_callee (f := 36) rfl ?_); refine goesL_ (some 5) rfl rfl Tryz.func36 (by kernel_rfl) rfl #[.int .i64 aC, .int .i64 1, .int .i64 999] rfl MT ?_; (with_reducible refine (spec_l1In.calls aC 1 999 true _ A2.out).mono ?_); rintro e w' ⟨rfl, ⟨nd, rfl⟩⟩; refine ⟨_, rfl, ?_⟩) | (go_at_call 36; (with_reducible refine (spec_l1In.calls aH 0 3 true _ A4.out).mono ?_); rintro e w' ⟨rfl, ⟨nd, rfl⟩⟩) | (go_at_call 65; (with_reducible refine (spec_l8Keys.calls aI aJ true _ A6.out).mono ?_); rintro e w' ⟨rfl, ⟨nd, rfl⟩⟩) | (go_at_call 36; (with_reducible refine (spec_l1In.calls aK 0 1000000 true _ A8.out).mono ?_); rintro e w' ⟨rfl, ⟨nd, rfl⟩⟩) | (go_at_call 36; (with_reducible refine (spec_l1In.calls aL 1 aA true _ bG.out).mono ?_); rintro e w' ⟨rfl, ⟨nd, rfl⟩⟩) | (go_at_call 36; (with_reducible refine (spec_l1In.calls aA 1 1000000 true _ bV.out).mono ?_); rintro e w' ⟨rfl, ⟨nd, rfl⟩⟩) | (go_at_call 36; (with_reducible refine (spec_l1In.calls aM 1 1000000 false _ fU.out).mono ?_); rintro e w' ⟨rfl, ⟨nd, rfl⟩⟩))
        go_ret
        exact ⟨ER, K1 HB aE.out⟩
      ·replace bW := Bool.eq_false_iff.mpr bW
       subst bW
       have H1 := nf H
       clear H
       have H := H1
       clear H1
       obtain rfl := sj H
       go_enter Tryz.func38, Tryz.ntmps38
       go_wp2_with (first | ((with_reducible refine gate_dst (N := 1) rfl ?_); refine box_event rfl (N := 1) rfl (cs := #[.int .i64 aC, .int .i64 aH, .string aI, .string aJ, .int .i64 aK, .int .i64 aL, .int .i64 aA, .int .i64 aM, .int .i64 aN, .int .i64 aO, .slice aR aB.length aS]) (t := 50) BX ?_; intro aV hg gG aF hb; have aD := am (aF); have aG := am (GH HB hg); have aE := aG; replace HB := bl (KL HB) hb; clear hb aF hg; have ⟨_, _, _, _, _, _, _, _, _, _, _, _⟩ := y11 gG aD.out) | ((with_reducible refine gate_callee (f := 36) rfl ?_); refine goesL_ (some 5) rfl rfl Tryz.func36 (by kernel_rfl) rfl #[.int .i64 aC, .int .i64 1, .int .i64 999] rfl MT ?_; (with_reducible refine (spec_l1In.calls aC 1 999 true _ A2.out).mono ?_); rintro e w' ⟨rfl, ⟨nd, rfl⟩⟩; refine ⟨_, rfl, ?_⟩) | (go_at_call 36; (with_reducible refine (spec_l1In.calls aH 0 3 true _ A4.out).mono ?_); rintro e w' ⟨rfl, ⟨nd, rfl⟩⟩) | (go_at_call 65; (with_reducible refine (spec_l8Keys.calls aI aJ true _ A6.out).mono ?_); rintro e w' ⟨rfl, ⟨nd, rfl⟩⟩) | (go_at_call 36; (with_reducible refine (spec_l1In.calls aK 0 1000000 true _ A8.out).mono ?_); rintro e w' ⟨rfl, ⟨nd, rfl⟩⟩) | (go_at_call 36; (with_reducible refine (spec_l1In.calls aL 1 aA true _ bG.out).mono ?_); rintro e w' ⟨rfl, ⟨nd, rfl⟩⟩) | (go_at_call 36; (with_reducible refine (spec_l1In.calls aA 1 1000000 false _ bV.out).mono ?_); rintro e w' ⟨rfl, ⟨nd, rfl⟩⟩))
       go_ret
       exact ⟨ER, K1 HB aE.out⟩
     ·replace bU := Bool.eq_false_iff.mpr bU
      subst bU
      have H1 := nf H
      clear H
      have H := H1
      clear H1
      obtain rfl := sj H
      go_enter Tryz.func38, Tryz.ntmps38
      go_wp2_with (first | ((with_reducible refine gate_dst (N := 1) rfl ?_); refine box_event rfl (N := 1) rfl (cs := #[.int .i64 aC, .int .i64 aH, .string aI, .string aJ, .int .i64 aK, .int .i64 aL, .int .i64 aA, .int .i64 aM, .int .i64 aN, .int .i64 aO, .slice aR aB.length aS]) (t := 50) BX ?_; intro aV hg gH aF hb; have aD := am (aF); have aG := am (GH HB hg); have aE := aG; replace HB := bl (KL HB) hb; clear hb aF hg; have ⟨_, _, _, _, _, _, _, _, _, _, _, _⟩ := y11 gH aD.out) | ((with_reducible refine gate_callee (f := 36) rfl ?_); refine goesL_ (some 5) rfl rfl Tryz.func36 (by kernel_rfl) rfl #[.int .i64 aC, .int .i64 1, .int .i64 999] rfl MT ?_; (with_reducible refine (spec_l1In.calls aC 1 999 true _ A2.out).mono ?_); rintro e w' ⟨rfl, ⟨nd, rfl⟩⟩; refine ⟨_, rfl, ?_⟩) | (go_at_call 36; (with_reducible refine (spec_l1In.calls aH 0 3 true _ A4.out).mono ?_); rintro e w' ⟨rfl, ⟨nd, rfl⟩⟩) | (go_at_call 65; (with_reducible refine (spec_l8Keys.calls aI aJ true _ A6.out).mono ?_); rintro e w' ⟨rfl, ⟨nd, rfl⟩⟩) | (go_at_call 36; (with_reducible refine (spec_l1In.calls aK 0 1000000 true _ A8.out).mono ?_); rintro e w' ⟨rfl, ⟨nd, rfl⟩⟩) | (go_at_call 36; (with_reducible refine (spec_l1In.calls aL 1 aA false _ bG.out).mono ?_); rintro e w' ⟨rfl, ⟨nd, rfl⟩⟩))
      go_ret
      exact ⟨ER, K1 HB aE.out⟩
    ·replace c9 := Bool.eq_false_iff.mpr c9
     subst c9
     have H1 := nf H
     clear H
     have H := H1
     clear H1
     obtain rfl := sj H
     go_enter Tryz.func38, Tryz.ntmps38
     go_wp2_with (first | ((with_reducible refine gate_dst (N := 1) rfl ?_); refine box_event rfl (N := 1) rfl (cs := #[.int .i64 aC, .int .i64 aH, .string aI, .string aJ, .int .i64 aK, .int .i64 aL, .int .i64 aA, .int .i64 aM, .int .i64 aN, .int .i64 aO, .slice aR aB.length aS]) (t := 50) BX ?_; intro aV hg gI aF hb; have aD := am (aF); have aG := am (GH HB hg); have aE := aG; replace HB := bl (KL HB) hb; clear hb aF hg; have ⟨_, _, _, _, _, _, _, _, _, _, _, _⟩ := y11 gI aD.out) | ((with_reducible refine gate_callee (f := 36) rfl ?_); refine goesL_ (some 5) rfl rfl Tryz.func36 (by kernel_rfl) rfl #[.int .i64 aC, .int .i64 1, .int .i64 999] rfl MT ?_; (with_reducible refine (spec_l1In.calls aC 1 999 true _ A2.out).mono ?_); rintro e w' ⟨rfl, ⟨nd, rfl⟩⟩; refine ⟨_, rfl, ?_⟩) | (go_at_call 36; (with_reducible refine (spec_l1In.calls aH 0 3 true _ A4.out).mono ?_); rintro e w' ⟨rfl, ⟨nd, rfl⟩⟩) | (go_at_call 65; (with_reducible refine (spec_l8Keys.calls aI aJ true _ A6.out).mono ?_); rintro e w' ⟨rfl, ⟨nd, rfl⟩⟩) | (go_at_call 36; (with_reducible refine (spec_l1In.calls aK 0 1000000 false _ A8.out).mono ?_); rintro e w' ⟨rfl, ⟨nd, rfl⟩⟩))
     go_ret
     exact ⟨ER, K1 HB aE.out⟩
   ·replace c7 := Bool.eq_false_iff.mpr c7
    subst c7
    have H1 := nf H
    clear H
    have H := H1
    clear H1
    obtain rfl := sj H
    go_enter Tryz.func38, Tryz.ntmps38
    go_wp2_with (first | ((with_reducible refine gate_dst (N := 1) rfl ?_); refine box_event rfl (N := 1) rfl (cs := #[.int .i64 aC, .int .i64 aH, .string aI, .string aJ, .int .i64 aK, .int .i64 aL, .int .i64 aA, .int .i64 aM, .int .i64 aN, .int .i64 aO, .slice aR aB.length aS]) (t := 50) BX ?_; intro aV hg gJ aF hb; have aD := am (aF); have aG := am (GH HB hg); have aE := aG; replace HB := bl (KL HB) hb; clear hb aF hg; have ⟨_, _, _, _, _, _, _, _, _, _, _, _⟩ := y11 gJ aD.out) | ((with_reducible refine gate_callee (f := 36) rfl ?_); refine goesL_ (some 5) rfl rfl Tryz.func36 (by kernel_rfl) rfl #[.int .i64 aC, .int .i64 1, .int .i64 999] rfl MT ?_; (with_reducible refine (spec_l1In.calls aC 1 999 true _ A2.out).mono ?_); rintro e w' ⟨rfl, ⟨nd, rfl⟩⟩; refine ⟨_, rfl, ?_⟩) | (go_at_call 36; (with_reducible refine (spec_l1In.calls aH 0 3 true _ A4.out).mono ?_); rintro e w' ⟨rfl, ⟨nd, rfl⟩⟩) | (go_at_call 65; (with_reducible refine (spec_l8Keys.calls aI aJ false _ A6.out).mono ?_); rintro e w' ⟨rfl, ⟨nd, rfl⟩⟩))
    go_ret
    exact ⟨ER, K1 HB aE.out⟩
  ·replace c5 := Bool.eq_false_iff.mpr c5
   subst c5
   have H1 := nf H
   clear H
   have H := H1
   clear H1
   obtain rfl := sj H
   go_enter Tryz.func38, Tryz.ntmps38
   go_wp2_with (first | ((with_reducible refine gate_dst (N := 1) rfl ?_); refine box_event rfl (N := 1) rfl (cs := #[.int .i64 aC, .int .i64 aH, .string aI, .string aJ, .int .i64 aK, .int .i64 aL, .int .i64 aA, .int .i64 aM, .int .i64 aN, .int .i64 aO, .slice aR aB.length aS]) (t := 50) BX ?_; intro aV hg gK aF hb; have aD := am (aF); have aG := am (GH HB hg); have aE := aG; replace HB := bl (KL HB) hb; clear hb aF hg; have ⟨_, _, _, _, _, _, _, _, _, _, _, _⟩ := y11 gK aD.out) | ((with_reducible refine gate_callee (f := 36) rfl ?_); refine goesL_ (some 5) rfl rfl Tryz.func36 (by kernel_rfl) rfl #[.int .i64 aC, .int .i64 1, .int .i64 999] rfl MT ?_; (with_reducible refine (spec_l1In.calls aC 1 999 true _ A2.out).mono ?_); rintro e w' ⟨rfl, ⟨nd, rfl⟩⟩; refine ⟨_, rfl, ?_⟩) | (go_at_call 36; (with_reducible refine (spec_l1In.calls aH 0 3 false _ A4.out).mono ?_); rintro e w' ⟨rfl, ⟨nd, rfl⟩⟩))
   go_ret
   exact ⟨ER, K1 HB aE.out⟩
 ·replace c3 := Bool.eq_false_iff.mpr c3
  subst c3
  have H1 := nf H
  clear H
  have H := H1
  clear H1
  obtain rfl := sj H
  go_enter Tryz.func38, Tryz.ntmps38
  go_wp2_with (first | ((with_reducible refine gate_dst (N := 1) rfl ?_); refine box_event rfl (N := 1) rfl (cs := #[.int .i64 aC, .int .i64 aH, .string aI, .string aJ, .int .i64 aK, .int .i64 aL, .int .i64 aA, .int .i64 aM, .int .i64 aN, .int .i64 aO, .slice aR aB.length aS]) (t := 50) BX ?_; intro aV hg gL aF hb; have aD := am (aF); have aG := am (GH HB hg); have aE := aG; replace HB := bl (KL HB) hb; clear hb aF hg; have ⟨_, _, _, _, _, _, _, _, _, _, _, _⟩ := y11 gL aD.out) | ((with_reducible refine gate_callee (f := 36) rfl ?_); refine goesL_ (some 5) rfl rfl Tryz.func36 (by kernel_rfl) rfl #[.int .i64 aC, .int .i64 1, .int .i64 999] rfl MT ?_; (with_reducible refine (spec_l1In.calls aC 1 999 false _ A2.out).mono ?_); rintro e w' ⟨rfl, ⟨nd, rfl⟩⟩; refine ⟨_, rfl, ?_⟩))
  go_ret
  exact ⟨ER, K1 HB aE.out⟩
def spec_l7Copy.f (a0_0 : Int) (l0_1 : List Int) : Option (Int × List Int) := (some (([] : List Int) : List Int)).bind fun y103 => (if y103.length + l0_1.length < 17592186044416 then (some (a0_0, (y103 ++ l0_1))) else (none))
def spec_l7Copy.T1 : Bool × List (List Nat × List Nat) := (true, [([], []), ([0], [0]), ([], []), ([], []), ([3], [3]), ([2, 4], [2, 4]), ([1, 5], [1, 5]), ([6, 5, 0, 1, 2, 3, 4, 5, 6], [6])])
def spec_l7Copy.B1 : List Nat := [0, 1, 0, 0, 8, 28, 63, 127]
theorem spec_l7Copy.tab1 : rtab .any (opsOf Tryz.f40 1) = spec_l7Copy.T1 := by kernel_rfl
theorem spec_l7Copy.bits1 : waitsOk spec_l7Copy.T1.2 spec_l7Copy.B1 = true := by kernel_rfl
theorem spec_l7Copy.calls (aI : Int) (aU : Option Addr) (aV : Nat) (aG : List Int) (r1 : Int) (r2 : List Int) (w : World) (aY : Kd.C (Kd.int .i64) w aU aG.length aG) (aZ : aG.length ≤ aV) (h : spec_l7Copy.f aI aG = some (r1, r2)) :
  Calls Tryz.prog 40 #[.agg #[.int .i64 aI, .slice aU aG.length aV]] w fun e w' => ∃ v1_ : Value, e = .returned (.agg #[.int .i64 r1, v1_]) ∧ Kd.R (Kd.int .i64) 3 w' w.heap.size (fun _ => True) v1_ r2 ∧ Below w.heap.size w w' := by
 have bN := Tryz.underlying48
 have bD := Aside0.mk aY
 have bI := Aside0.mk aZ
 clear aY aZ
 have HB := am (Below.refl w.heap.size w)
 have H : ((some (([] : List Int) : List Int)).bind fun aM => (if aM.length + aG.length < 17592186044416 then (some (aI, (aM ++ aG))) else (none))) = some (r1, r2) := h
 clear h
 obtain ⟨aM, aN⟩ : ∃ y_ : List Int, y_ = (([] : List Int)) := ⟨_, rfl⟩
 replace H : (if aM.length + aG.length < 17592186044416 then (some (aI, (aM ++ aG))) else (none)) = some (r1, r2) := by first | (rw [aN]; with_reducible exact H) | (have H2_ := (Option.bind_some _ _).symm.trans H; rw [aN]; with_reducible exact H2_) | (have H2_ := (Option.bind_some _ _).symm.trans H; with_reducible exact H2_) | with_reducible exact H | (rw [aN]; exact H) | exact H
 have Ny103 := Aside0.mk aN
 clear aN
 by_cases c2 : aM.length + aG.length < 17592186044416
 ·rw [if_pos c2] at H
  have LMc2 := Aside0.mk c2
  clear c2
  obtain ⟨bC, aP⟩ : ∃ y_ : List Int, y_ = (aM ++ aG) := ⟨_, rfl⟩
  replace H : (some (aI, bC)) = some (r1, r2) := by first | (rw [aP]; with_reducible exact H) | (have H2_ := (Option.bind_some _ _).symm.trans H; rw [aP]; with_reducible exact H2_) | (have H2_ := (Option.bind_some _ _).symm.trans H; with_reducible exact H2_) | with_reducible exact H | (rw [aP]; exact H) | exact H
  have Ny106 := Aside0.mk aP
  clear aP
  simp only [Option.some.injEq, Prod.mk.injEq] at H
  obtain ⟨rfl, rfl⟩ := H
  go_enter Tryz.func40, Tryz.ntmps40
  try go_wp2_with (first | ((with_reducible refine gate_dst (N := 1) rfl ?_); refine box_event rfl (N := 1) rfl (cs := #[.int .i64 aI, .slice aU aG.length aV]) (t := 48) BX ?_; intro bA hg w3 aW hb; have aA := am (aW); have bE := am (GH HB hg); have aJ := bE; replace HB := bl (KL HB) hb; clear hb aW hg) | ((with_reducible refine gate_dst (N := 2) rfl ?_); refine box_event rfl (N := 2) rfl (cs := #[.int .i64 0, .slice none 0 0]) (t := 48) BX ?_; intro aE hg w4 aW hb; have aD := am (aW); have bF := am (GH1 HB aJ.out hg); have aQ := bF; replace HB := bl (K1 HB aJ.out) hb; have aC := am (NL aA hg); have aK := am (NG aA hg); replace aA := am (BB aA hb); clear hb aW hg))
  replace aA := am (blk_drew aA.out)
  replace aD := am (blk_drew aD.out)
  replace HB := am (below_drew1 HB.out)
  refine start_ (n := 8) (S := fun w' => de2 w' bA (.int .i64 aI) (.slice aU aG.length aV)) (ds := []) (tf 0 8) (by kernel_rfl) rfl rfl ⟨z0 _ aA.out, z1 _ aA.out⟩ (fun aH => ?_); refine with_tabW spec_l7Copy.tab1 spec_l7Copy.bits1 (fun aX bJ => ?_)
  generalize w4.drew = w5 at aA aD HB aH ⊢
  refine pv aX 0 3 (tf 1 7) ?_
  refine pv aX 3 6 (tr [1, 2, 1, 4]) ?_
  refine tk 1 (some 4) (tr [2, 1, 1, 4]) (take_ofW aX.out bJ.out (by kernel_rfl)) aH ?_
  refine tk 4 (some 7) (tr [2, 1, 2, 3]) (take_ofW aX.out bJ.out (by kernel_rfl)) aH ?_
  refine one_ (i := 2) (N := some 5) (tf 5 3) rfl rfl (one_of aX.out (by kernel_rfl)) (by decide) (fun K hK => ?_)
  refine Kd.R_lit_step (Kd.int .i64) _ 3 ?hg (N := 5) ?hd (xs := ([] : List Int)) (inner := []) (ok := fun _ => True) (okp := fun _ => True) ?hr ?hp (fun _ hk => hk) trivial (Below.refl _ _) (Nat.le_refl _) (by simp) ?_; (case hd => rfl); (case hg => rfl); (case hr => first | (go_simp; done) | (go_simp; rfl)); (case hp => exact (Reps.none _ _))
  intro bH w6 bG hb hg_ hnew_
  clear hg_ hnew_
  (first | rw [← Ny103.out] at bG | (simp only [Int.reduceToNat] at bG; rw [← Ny103.out] at bG))
  have aT := am (Kd.R_lower bG (below_size (K2 HB aJ.out aQ.out)))
  replace aA := am (BB aA hb)
  replace aD := am (BB aD hb)
  replace HB := bl (K2 HB aJ.out aQ.out) hb
  clear hb bG
  refine hK.out _ _ ⟨z0 _ aA.out, z1 _ aA.out⟩ (fun aH => ?_)
  clear hK K
  refine nm (some 5) ?_
  refine one_ (i := 5) (N := some 8) (tf 6 2) rfl rfl (one_of aX.out (by kernel_rfl)) (by decide) (fun K hK => ?_)
  refine Kd.R_append_rows_step (Kd.int .i64) (w0 := w) w.heap.size (by rfl) (.tmp 5) (.tmp 7) 46 3 (.int .i64 0) 8 rfl Tryz.underlying46 info3 rfl (by decide) (by omega) bH aM aG _ _ _ (fun _ => True) (fun _ => False) rfl rfl ?aO ?aR (fun _ _ h => h) (fun _ h => h.elim) ?aF ?aB ?aS ?aL ?_
  (case aR => exact KD bD HB)
  (case aB => exact (K2 HB aJ.out aQ.out))
  (case aF => exact (fun _ _ => trivial))
  (case aO => exact (KR aT))
  (case aS => exact (below_size (K2 HB aJ.out aQ.out)))
  (case aL => have := LMc2.out; omega)
  intro bO w8 ho hb hg hat
  rw [← Ny106.out] at ho
  replace aA := am (blk_grown (g := bA) (o := .cells #[.int .i64 aI, .slice aU aG.length aV] 48 (0, 0)) (KB aA) hg (Kd.R_ne aT.out aA.out (by decide)))
  replace aD := am (blk_grown (g := aE) (o := .cells #[.int .i64 0, .slice none 0 0] 48 (0, 0)) (KB aD) hg (Kd.R_ne aT.out aD.out (by decide)))
  replace HB := am (hb)
  have bB := am (ho)
  clear aT
  clear ho hb hg hat
  obtain ⟨bK, bL, bM⟩ := Kd.R_slice bB.out
  (first | subst bM | (injection bM with f1_ f2_ f3_; have f4_ := f1_.symm; have f5_ := f3_.symm; clear f1_ f2_ f3_; subst f4_; subst f5_))
  refine hK.out _ _ ⟨z0 _ aA.out, z1 _ aA.out⟩ (fun aH => ?_)
  clear hK K
  refine nm (some 8) ?_
  refine pv aX 6 9 (tf 7 1) ?_
  refine one_ (i := 7) (N := none) (tf 8 0) rfl rfl (one_of aX.out (by kernel_rfl)) (by decide) (fun K hK => ?_)
  have hs10 : w8.cell? ⟨aE, 0, none⟩ = some (.int .i64 0) := z0 _ aD.out
  have hfs10 := blk_frozen aD.out 0
  have hns10_0 := aC.out
  have hms10_0 := aK.out
  have hs11 : w8.cell? ⟨aE, 1, none⟩ = some (.slice none 0 0) := z1 _ aD.out
  have hfs11 := blk_frozen aD.out 1
  have hns11_0 := aC.out
  have hms11_0 := aK.out
  refine skip_ (w1 := ?_) (by rfl) rfl ?_ ?_
  rotate_left
  ·go_simp
   rfl
  refine hK.out _ _ ⟨((cell_far (p := ⟨aE, _, none⟩) aC.out _).trans (((cell_far (p := ⟨aE, _, none⟩) aC.out _).trans (aH.1)))), ((cell_far (p := ⟨aE, _, none⟩) aC.out _).trans (((cell_far (p := ⟨aE, _, none⟩) aC.out _).trans (aH.2))))⟩ (fun aH => ?_)
  clear hK K
  refine done_ (done_of aX.out (by kernel_rfl)) ?_
  try go_wp2
  refine bodyPost_ret (results_cell_row rfl _ _ aE 48 #[.int .i64 aI, .slice bK bC.length bL] (0, 0) _ rfl (by refine BD ?_; refine blk_put (cs := #[.int .i64 aI, .slice none 0 0]) ?_ 1 _ rfl; refine BD ?_; refine blk_put (cs := #[.int .i64 0, .slice none 0 0]) ?_ 0 _ rfl; refine BD ?_; exact aD.out) Tryz.underlying48 rfl (by kernel_rfl)) rfl ?_
  exact ⟨_, ER, by refine KW ?_; exact Kd.R_mono (Kd.R_far (p := ⟨aE, 1, none⟩) (Kd.R_far (p := ⟨aE, 0, none⟩) (Kd.R_types bB.out aD.out (by decide)) (fun _ hk => hk.2) (.int .i64 aI)) (fun _ hk => hk.2) (.slice bK bC.length bL)) (fun _ hk => trivial), K2 HB aJ.out aQ.out⟩
 ·rw [if_neg c2] at H
  exact absurd H (by simp)
def spec_l9Copy.f (a0_0 : Int) (a0_1 : Int) (a0_2 : ByteArray) (a0_3 : ByteArray) (a0_4 : Int) (a0_5 : Int) (a0_6 : Int) (a0_7 : Int) (a0_8 : Int) (a0_9 : Int) (l0_10 : List Int) : Option (Int × Int × ByteArray × ByteArray × Int × Int × Int × Int × Int × Int × List Int) := (spec_l7Copy.f a0_9 l0_10).bind fun bt103 => (some (a0_0, a0_1, a0_2, a0_3, a0_4, a0_5, a0_6, a0_7, a0_8, bt103.1, bt103.2))
theorem spec_l9Copy.calls (aB : Int) (aC : Int) (aD : ByteArray) (aE : ByteArray) (aH : Int) (aJ : Int) (aK : Int) (aL : Int) (aM : Int) (aR : Int) (aP : Option Addr) (aQ : Nat) (aF : List Int) (r1 : Int) (r2 : Int) (r3 : ByteArray) (r4 : ByteArray) (r5 : Int) (r6 : Int) (r7 : Int) (r8 : Int) (r9 : Int) (r10 : Int) (r11 : List Int) (w : World) (aU : Kd.C (Kd.int .i64) w aP aF.length aF) (aV : aF.length ≤ aQ) (h : spec_l9Copy.f aB aC aD aE aH aJ aK aL aM aR aF = some (r1, r2, r3, r4, r5, r6, r7, r8, r9, r10, r11)) :
  Calls Tryz.prog 16 #[.agg #[.int .i64 aB, .int .i64 aC, .string aD, .string aE, .int .i64 aH, .int .i64 aJ, .int .i64 aK, .int .i64 aL, .int .i64 aM, .int .i64 aR, .slice aP aF.length aQ]] w fun e w' => ∃ v10_ : Value, e = .returned (.agg #[.int .i64 r1, .int .i64 r2, .string r3, .string r4, .int .i64 r5, .int .i64 r6, .int .i64 r7, .int .i64 r8, .int .i64 r9, .int .i64 r10, v10_]) ∧ Kd.R (Kd.int .i64) 3 w' w.heap.size (fun _ => True) v10_ r11 ∧ Below w.heap.size w w' := by
 have cU := Tryz.underlying50
 have cV := Tryz.underlying48
 have bC := Aside0.mk aU
 have bD := Aside0.mk aV
 clear aU aV
 have HB := am (Below.refl w.heap.size w)
 have H : ((spec_l7Copy.f aR aF).bind fun aZ => (some (aB, aC, aD, aE, aH, aJ, aK, aL, aM, aZ.1, aZ.2))) = some (r1, r2, r3, r4, r5, r6, r7, r8, r9, r10, r11) := h
 clear h
 replace H := bm H
 obtain ⟨⟨aS, aW⟩, cS, H⟩ := H
 replace H : (some (aB, aC, aD, aE, aH, aJ, aK, aL, aM, aS, aW)) = some (r1, r2, r3, r4, r5, r6, r7, r8, r9, r10, r11) := H
 have A2 := Aside0.mk cS
 clear cS
 simp only [Option.some.injEq, Prod.mk.injEq] at H
 obtain ⟨rfl, rfl, rfl, rfl, rfl, rfl, rfl, rfl, rfl, rfl, rfl⟩ := H
 go_enter Tryz.func16, Tryz.ntmps16
 go_wp2_with (first | ((with_reducible refine gate_dst (N := 1) rfl ?_); refine box_event rfl (N := 1) rfl (cs := #[.int .i64 aB, .int .i64 aC, .string aD, .string aE, .int .i64 aH, .int .i64 aJ, .int .i64 aK, .int .i64 aL, .int .i64 aM, .int .i64 aR, .slice aP aF.length aQ]) (t := 50) BX ?_; intro bA hg w3 aX hb; have aG := am (aX); have bE := am (GH HB hg); have aN := bE; replace HB := bl (KL HB) hb; clear hb aX hg) | ((with_reducible refine gate_dst (N := 2) rfl ?_); refine box_event rfl (N := 2) rfl (cs := #[.int .i64 0, .int .i64 0, .string (⟨#[]⟩ : ByteArray), .string (⟨#[]⟩ : ByteArray), .int .i64 0, .int .i64 0, .int .i64 0, .int .i64 0, .int .i64 0, .int .i64 0, .slice none 0 0]) (t := 50) BX ?_; intro aA hg w4 aX hb; have aO := am (aX); have bF := am (GH1 HB aN.out hg); have aY := bF; replace HB := bl (K1 HB aN.out) hb; have aT := am (NL aG hg); have aI := am (NG aG hg); replace aG := am (BB aG hb); clear hb aX hg; have cW := aT.out; have cX := aI.out; have ⟨_, _, _, _, _, _, _, _, _, _, _, _⟩ := y11 w4 aG.out) | ((with_reducible refine gate_callee (f := 40) rfl ?_); refine goesL_ (some 5) rfl rfl Tryz.func40 (by kernel_rfl) rfl #[.agg #[.int .i64 aR, .slice aP aF.length aQ]] rfl MT ?_; (with_reducible refine (spec_l7Copy.calls aR _ _ aF aS aW _ ?_ ?_ A2.out).mono ?_); exact KD bC HB; exact bD.out; rintro e w7 ⟨cY, rfl, cT, hb⟩; refine ⟨_, rfl, ?_⟩; have bB := am (Kd.R_lower cT (below_size (K2 HB aN.out aY.out))); replace aG := am (BB aG hb); replace aO := am (BB aO hb); replace HB := bl (K2 HB aN.out aY.out) hb; (try clear hb); (try clear cT); have ⟨_, _, _, _, _, _, _, _, _, _, _, _⟩ := y11 w7 aG.out; obtain ⟨cQ, cR, cZ⟩ := Kd.R_slice bB.out; subst cZ; have ⟨_, _, _, _, _, _, _, _, _, _, _, _⟩ := y11 w7 aO.out))
 refine bodyPost_ret (results_cell_row rfl _ _ aA 50 #[.int .i64 aB, .int .i64 aC, .string aD, .string aE, .int .i64 aH, .int .i64 aJ, .int .i64 aK, .int .i64 aL, .int .i64 aM, .int .i64 aS, .slice cQ aW.length cR] (0, 0) _ rfl (by refine BD ?_; refine blk_put (cs := #[.int .i64 aB, .int .i64 aC, .string aD, .string aE, .int .i64 aH, .int .i64 aJ, .int .i64 aK, .int .i64 aL, .int .i64 aM, .int .i64 aS, .slice none 0 0]) ?_ 10 _ rfl; refine BD ?_; refine blk_put (cs := #[.int .i64 aB, .int .i64 aC, .string aD, .string aE, .int .i64 aH, .int .i64 aJ, .int .i64 aK, .int .i64 aL, .int .i64 aM, .int .i64 0, .slice none 0 0]) ?_ 9 _ rfl; refine BD ?_; refine blk_put (cs := #[.int .i64 aB, .int .i64 aC, .string aD, .string aE, .int .i64 aH, .int .i64 aJ, .int .i64 aK, .int .i64 aL, .int .i64 0, .int .i64 0, .slice none 0 0]) ?_ 8 _ rfl; refine BD ?_; refine blk_put (cs := #[.int .i64 aB, .int .i64 aC, .string aD, .string aE, .int .i64 aH, .int .i64 aJ, .int .i64 aK, .int .i64 0, .int .i64 0, .int .i64 0, .slice none 0 0]) ?_ 7 _ rfl; refine BD ?_; refine blk_put (cs := #[.int .i64 aB, .int .i64 aC, .string aD, .string aE, .int .i64 aH, .int .i64 aJ, .int .i64 0, .int .i64 0, .int .i64 0, .int .i64 0, .slice none 0 0]) ?_ 6 _ rfl; refine BD ?_; refine blk_put (cs := #[.int .i64 aB, .int .i64 aC, .string aD, .string aE, .int .i64 aH, .int .i64 0, .int .i64 0, .int .i64 0, .int .i64 0, .int .i64 0, .slice none 0 0]) ?_ 5 _ rfl; refine BD ?_; refine blk_put (cs := #[.int .i64 aB, .int .i64 aC, .string aD, .string aE, .int .i64 0, .int .i64 0, .int .i64 0, .int .i64 0, .int .i64 0, .int .i64 0, .slice none 0 0]) ?_ 4 _ rfl; refine BD ?_; refine blk_put (cs := #[.int .i64 aB, .int .i64 aC, .string aD, .string (⟨#[]⟩ : ByteArray), .int .i64 0, .int .i64 0, .int .i64 0, .int .i64 0, .int .i64 0, .int .i64 0, .slice none 0 0]) ?_ 3 _ rfl; refine BD ?_; refine blk_put (cs := #[.int .i64 aB, .int .i64 aC, .string (⟨#[]⟩ : ByteArray), .string (⟨#[]⟩ : ByteArray), .int .i64 0, .int .i64 0, .int .i64 0, .int .i64 0, .int .i64 0, .int .i64 0, .slice none 0 0]) ?_ 2 _ rfl; refine BD ?_; refine blk_put (cs := #[.int .i64 aB, .int .i64 0, .string (⟨#[]⟩ : ByteArray), .string (⟨#[]⟩ : ByteArray), .int .i64 0, .int .i64 0, .int .i64 0, .int .i64 0, .int .i64 0, .int .i64 0, .slice none 0 0]) ?_ 1 _ rfl; refine BD ?_; refine blk_put (cs := #[.int .i64 0, .int .i64 0, .string (⟨#[]⟩ : ByteArray), .string (⟨#[]⟩ : ByteArray), .int .i64 0, .int .i64 0, .int .i64 0, .int .i64 0, .int .i64 0, .int .i64 0, .slice none 0 0]) ?_ 0 _ rfl; refine BD ?_; refine blk_far ?_ aI.out _; refine BD ?_; refine blk_far ?_ aI.out _; refine BD ?_; exact aO.out) Tryz.underlying50 rfl (by kernel_rfl)) rfl ?_
 exact ⟨_, ER, by refine KW ?_; exact Kd.R_mono (Kd.R_far (p := ⟨aA, 10, none⟩) (Kd.R_far (p := ⟨aA, 9, none⟩) (Kd.R_far (p := ⟨aA, 8, none⟩) (Kd.R_far (p := ⟨aA, 7, none⟩) (Kd.R_far (p := ⟨aA, 6, none⟩) (Kd.R_far (p := ⟨aA, 5, none⟩) (Kd.R_far (p := ⟨aA, 4, none⟩) (Kd.R_far (p := ⟨aA, 3, none⟩) (Kd.R_far (p := ⟨aA, 2, none⟩) (Kd.R_far (p := ⟨aA, 1, none⟩) (Kd.R_far (p := ⟨aA, 0, none⟩) (Kd.R_far (p := ⟨bA, 10, none⟩) (Kd.R_far (p := ⟨bA, 9, none⟩) (Kd.R_types (Kd.R_types bB.out aG.out (by decide)) aO.out (by decide)) (fun _ hk => hk.1.2) (.int .i64 aS)) (fun _ hk => hk.1.2) (.slice cQ aW.length cR)) (fun _ hk => hk.2) (.int .i64 aB)) (fun _ hk => hk.2) (.int .i64 aC)) (fun _ hk => hk.2) (.string aD)) (fun _ hk => hk.2) (.string aE)) (fun _ hk => hk.2) (.int .i64 aH)) (fun _ hk => hk.2) (.int .i64 aJ)) (fun _ hk => hk.2) (.int .i64 aK)) (fun _ hk => hk.2) (.int .i64 aL)) (fun _ hk => hk.2) (.int .i64 aM)) (fun _ hk => hk.2) (.int .i64 aS)) (fun _ hk => hk.2) (.slice cQ aW.length cR)) (fun _ hk => trivial), K2 HB aN.out aY.out⟩
def laws_toBlock.f (a0_0 : Int) (a0_1 : Int) : Option (Int × Int) := some (a0_0, a0_1)
theorem laws_toBlock.calls (aF : Int) (aL : Int) (r1 : Int) (r2 : Int) (w : World) (h : laws_toBlock.f aF aL = some (r1, r2)) :
  Calls Tryz.prog 67 #[.agg #[.int .i64 aF, .int .i64 aL]] w fun e w' => e = .returned (.agg #[.int .i64 r1, .int .i64 r2]) ∧ Below w.heap.size w w' := by
 have bE := Tryz.underlying79
 have bF := Tryz.underlying75
 have HB := am (Below.refl w.heap.size w)
 have H : (some (aF, aL)) = some (r1, r2) := h
 clear h
 simp only [Option.some.injEq, Prod.mk.injEq] at H
 obtain ⟨rfl, rfl⟩ := H
 go_enter Tryz.func67, Tryz.ntmps67
 go_wp2_with (first | ((with_reducible refine gate_dst (N := 1) rfl ?_); refine box_event rfl (N := 1) rfl (cs := #[.int .i64 aF, .int .i64 aL]) (t := 79) BX ?_; intro bC hg w2 aD hb; have aA := am (aD); have aN := am (GH HB hg); have aE := aN; replace HB := bl (KL HB) hb; clear hb aD hg) | ((with_reducible refine gate_dst (N := 2) rfl ?_); refine box_event rfl (N := 2) rfl (cs := #[.int .i64 0, .int .i64 0]) (t := 75) BX ?_; intro aO hg w3 aD hb; have aC := am (aD); have aP := am (GH1 HB aE.out hg); have aM := aP; replace HB := bl (K1 HB aE.out) hb; have aG := am (NL aA hg); have aH := am (NG aA hg); replace aA := am (BB aA hb); clear hb aD hg) | ((with_reducible refine gate_dst (N := 3) rfl ?_); refine box_event rfl (N := 3) rfl (cs := #[.int .i64 0, .int .i64 0]) (t := 75) BX ?_; intro bD hg w4 aD hb; have aQ := am (aD); have aR := am (GH2 HB aE.out aM.out hg); have aS := aR; replace HB := bl (K2 HB aE.out aM.out) hb; have aI := am (NL aA hg); have aJ := am (NG aA hg); replace aA := am (BB aA hb); have aB := am (NL aC hg); have aK := am (NG aC hg); replace aC := am (BB aC hb); clear hb aD hg; have bG := aG.out; have bH := aH.out; have bI := aI.out; have bJ := aJ.out; have ⟨_, _, _⟩ := y2 w4 aA.out; have bK := aK.out; have bL := aB.out; have ⟨_, _, _⟩ := y2 w4 aQ.out; have ⟨_, _, _⟩ := y2 w4 aC.out))
 refine bodyPost_ret (results_cell_row rfl _ _ aO 75 #[.int .i64 aF, .int .i64 aL] (0, 0) _ rfl (by refine BD ?_; refine blk_put (cs := #[.int .i64 aF, .int .i64 0]) ?_ 1 _ rfl; refine BD ?_; refine blk_put (cs := #[.int .i64 0, .int .i64 0]) ?_ 0 _ rfl; refine BD ?_; refine blk_far ?_ aB.out _; refine BD ?_; refine blk_far ?_ aB.out _; refine BD ?_; exact aC.out) Tryz.underlying75 rfl (by kernel_rfl)) rfl ?_
 exact ⟨ER, K3 HB aE.out aM.out aS.out⟩
def laws_toCall.f (a0_0 : Int) (a0_1 : Int) (a0_2 : Int) : Option (Int × Int × Int) := some (a0_0, a0_1, a0_2)
theorem laws_toCall.calls (aF : Int) (aG : Int) (aM : Int) (r1 : Int) (r2 : Int) (r3 : Int) (w : World) (h : laws_toCall.f aF aG aM = some (r1, r2, r3)) :
  Calls Tryz.prog 84 #[.agg #[.int .i64 aF, .int .i64 aG, .int .i64 aM]] w fun e w' => e = .returned (.agg #[.int .i64 r1, .int .i64 r2, .int .i64 r3]) ∧ Below w.heap.size w w' := by
 have bG := Tryz.underlying107
 have bJ := Tryz.underlying89
 have HB := am (Below.refl w.heap.size w)
 have H : (some (aF, aG, aM)) = some (r1, r2, r3) := h
 clear h
 simp only [Option.some.injEq, Prod.mk.injEq] at H
 obtain ⟨rfl, rfl, rfl⟩ := H
 go_enter Tryz.func84, Tryz.ntmps84
 go_wp2_with (first | ((with_reducible refine gate_dst (N := 1) rfl ?_); refine box_event rfl (N := 1) rfl (cs := #[.int .i64 aF, .int .i64 aG, .int .i64 aM]) (t := 107) BX ?_; intro bH hg w2 aD hb; have aB := am (aD); have aO := am (GH HB hg); have aE := aO; replace HB := bl (KL HB) hb; clear hb aD hg) | ((with_reducible refine gate_dst (N := 2) rfl ?_); refine box_event rfl (N := 2) rfl (cs := #[.int .i64 0, .int .i64 0, .int .i64 0]) (t := 89) BX ?_; intro aP hg w3 aD hb; have aC := am (aD); have aQ := am (GH1 HB aE.out hg); have aN := aQ; replace HB := bl (K1 HB aE.out) hb; have aH := am (NL aB hg); have aI := am (NG aB hg); replace aB := am (BB aB hb); clear hb aD hg) | ((with_reducible refine gate_dst (N := 3) rfl ?_); refine box_event rfl (N := 3) rfl (cs := #[.int .i64 0, .int .i64 0, .int .i64 0]) (t := 89) BX ?_; intro bI hg w4 aD hb; have aR := am (aD); have aS := am (GH2 HB aE.out aN.out hg); have aT := aS; replace HB := bl (K2 HB aE.out aN.out) hb; have aJ := am (NL aB hg); have aK := am (NG aB hg); replace aB := am (BB aB hb); have aA := am (NL aC hg); have aL := am (NG aC hg); replace aC := am (BB aC hb); clear hb aD hg; have bK := aH.out; have bL := aI.out; have bM := aJ.out; have bN := aK.out; have ⟨_, _, _, _⟩ := y3 w4 aB.out; have bO := aL.out; have bP := aA.out; have ⟨_, _, _, _⟩ := y3 w4 aR.out; have ⟨_, _, _, _⟩ := y3 w4 aC.out))
 refine bodyPost_ret (results_cell_row rfl _ _ aP 89 #[.int .i64 aF, .int .i64 aG, .int .i64 aM] (0, 0) _ rfl (by refine BD ?_; refine blk_put (cs := #[.int .i64 aF, .int .i64 aG, .int .i64 0]) ?_ 2 _ rfl; refine BD ?_; refine blk_put (cs := #[.int .i64 aF, .int .i64 0, .int .i64 0]) ?_ 1 _ rfl; refine BD ?_; refine blk_put (cs := #[.int .i64 0, .int .i64 0, .int .i64 0]) ?_ 0 _ rfl; refine BD ?_; refine blk_far ?_ aA.out _; refine BD ?_; refine blk_far ?_ aA.out _; refine BD ?_; refine blk_far ?_ aA.out _; refine BD ?_; exact aC.out) Tryz.underlying89 rfl (by kernel_rfl)) rfl ?_
 exact ⟨ER, K3 HB aE.out aN.out aT.out⟩
end Go.Proofs.YtmdegplkdgaebaaGreat.PAll
end
