/- Contracts of the functions that the statement reaches. -/
import Derived.Test.YtgjbbnmjeblcgaaGreatCFnExactWorldSafe3
import Derived.Test.YtgjbbnmjeblcgaaGreatCFnExactWorldSafe4
import Derived.Test.YtgjbbnmjeblcgaaGreatCFnExactWorldSafe6
import Derived.Test.YtgjbbnmjeblcgaaGreatCFnExactWorldSafe7
set_option maxHeartbeats 8000000
set_option maxRecDepth 100000
section
namespace Go.Proofs.YtgjbbnmjeblcgaaGreat.PAll
open Go.RowKit Go.Proofs.YtgjbbnmjeblcgaaGreatW.PrintWords Go.Proofs.YtgjbbnmjeblcgaaGreatW.PrintLast Go.Proofs.YtgjbbnmjeblcgaaGreatW.PrintMore
attribute [local go_sem] max2_int min2_int max_two min_two max_three min_three max_four min_four
set_option linter.unusedVariables false
set_option linter.unusedSimpArgs false
def impl_WindowOk.l0 : Nat → List Int → Int → Int → Int → List Int → Option (Bool)
 | 0, _, _, _, _, _ => none
 | k + 1, x13, x14, x15, x102000, x102001 => if x15 < x14 then (if 0 ≤ x15 then (if x15 < (x13.length : Int) then (if (rd x13 x15) < 1 then (some false) else (if (rd x13 x15) ≤ (wrap64 (x102000 - 16)) then (some false) else (if x15 > 0 then (if 0 ≤ (wrap64 (x15 - 1)) then (if (wrap64 (x15 - 1)) < (x102001.length : Int) then (if (rd x13 x15) ≤ (rd x102001 (wrap64 (x15 - 1))) then (some false) else (impl_WindowOk.l0 k x13 x14 (wrap64 (x15 + 1)) x102000 x102001)) else (none)) else (none)) else (impl_WindowOk.l0 k x13 x14 (wrap64 (x15 + 1)) x102000 x102001)))) else (none)) else (none)) else (if 0 ≤ (wrap64 ((x102001.length : Int) - 1)) then (if (wrap64 ((x102001.length : Int) - 1)) < (x102001.length : Int) then (if (rd x102001 (wrap64 ((x102001.length : Int) - 1))) = x102000 then (some (decide (x102000 ≤ 1000000))) else (some false)) else (none)) else (none))
def impl_WindowOk.f (k : Nat) (a0_0 : Int) (l0_1 : List Int) : Option (Bool) := if (l0_1.length : Int) = 0 then (some (a0_0 == 0)) else (impl_WindowOk.l0 k l0_1 (l0_1.length : Int) 0 a0_0 l0_1)
theorem impl_WindowOk.calls (k : Nat) (aE : Int) (aP : Option Addr) (aQ : Nat) (aA : List Int) (r : Bool) (w : World) (bD : Kd.C (Kd.int .i64) w aP aA.length aA) (bE : aA.length ≤ aQ) (h : impl_WindowOk.f k aE aA = some r) :
  Calls Tryz.prog 94 #[.agg #[.int .i64 aE, .slice aP aA.length aQ]] w fun e w' => e = .returned (.bool r) ∧ Below w.heap.size w w' := by
 have cJ := Tryz.underlying101
 have aK := Aside0.mk bD
 have cK := Aside0.mk bE
 clear bD bE
 have HB := am (Below.refl w.heap.size w)
 have H : (if (aA.length : Int) = 0 then (some (aE == 0)) else (impl_WindowOk.l0 k aA (aA.length : Int) 0 aE aA)) = some r := h
 clear h
 by_cases c2 : (aA.length : Int) = 0
 ·rw [if_pos c2] at H
  have c2b0 : ((aA.length : Int) == 0) = true := beq_iff_eq.mpr c2
  have c2b1 : ((aA.length : Int) != 0) = false := bne_eq_false_iff_eq.mpr c2
  clear c2
  obtain rfl := sj H
  go_enter Tryz.func94, Tryz.ntmps94
  go_wp2_with (first | ((with_reducible refine gate_dst (N := 1) rfl ?_); refine box_event rfl (N := 1) rfl (cs := #[.int .i64 aE, .slice aP aA.length aQ]) (t := 101) BX ?_; intro aN hg w3 aI hb; have aD := am (aI); have aJ := am (GH HB hg); have aF := aJ; replace HB := bl (KL HB) hb; clear hb aI hg; obtain ⟨aS, aT, aU⟩ := y2 w3 aD.out))
  repeat (go_quiet (first | ((with_reducible refine gate_dst (N := 1) rfl ?_); refine box_event rfl (N := 1) rfl (cs := #[.int .i64 aE, .slice aP aA.length aQ]) (t := 101) BX ?_; intro aN hg w3 aI hb; have aD := am (aI); have aJ := am (GH HB hg); have aF := aJ; replace HB := bl (KL HB) hb; clear hb aI hg; obtain ⟨aS, aT, aU⟩ := y2 w3 aD.out)); try go_wp2_with (first | ((with_reducible refine gate_dst (N := 1) rfl ?_); refine box_event rfl (N := 1) rfl (cs := #[.int .i64 aE, .slice aP aA.length aQ]) (t := 101) BX ?_; intro aN hg w3 aI hb; have aD := am (aI); have aJ := am (GH HB hg); have aF := aJ; replace HB := bl (KL HB) hb; clear hb aI hg; obtain ⟨aS, aT, aU⟩ := y2 w3 aD.out)))
  go_ret
  exact ⟨ER, K1 HB aF.out⟩
 ·rw [if_neg c2] at H
  have c2b0 : ((aA.length : Int) == 0) = false := beq_eq_false_iff_ne.mpr c2
  have c2b1 : ((aA.length : Int) != 0) = true := bne_iff_ne.mpr c2
  have c2b2 : ¬ (aA = []) := fun h_ => c2 (by rw [h_]; rfl)
  have H' := Aside0.mk H
  clear H
  go_enter Tryz.func94, Tryz.ntmps94
  go_wp2_with (first | ((with_reducible refine gate_dst (N := 1) rfl ?_); refine box_event rfl (N := 1) rfl (cs := #[.int .i64 aE, .slice aP aA.length aQ]) (t := 101) BX ?_; intro aN hg w5 aI hb; have aD := am (aI); have aJ := am (GH HB hg); have aF := aJ; replace HB := bl (KL HB) hb; clear hb aI hg; obtain ⟨aV, aW, aX⟩ := y2 w5 aD.out))
  repeat (go_quiet (first | ((with_reducible refine gate_dst (N := 1) rfl ?_); refine box_event rfl (N := 1) rfl (cs := #[.int .i64 aE, .slice aP aA.length aQ]) (t := 101) BX ?_; intro aN hg w5 aI hb; have aD := am (aI); have aJ := am (GH HB hg); have aF := aJ; replace HB := bl (KL HB) hb; clear hb aI hg; obtain ⟨aV, aW, aX⟩ := y2 w5 aD.out)); try go_wp2_with (first | ((with_reducible refine gate_dst (N := 1) rfl ?_); refine box_event rfl (N := 1) rfl (cs := #[.int .i64 aE, .slice aP aA.length aQ]) (t := 101) BX ?_; intro aN hg w5 aI hb; have aD := am (aI); have aJ := am (GH HB hg); have aF := aJ; replace HB := bl (KL HB) hb; clear hb aI hg; obtain ⟨aV, aW, aX⟩ := y2 w5 aD.out)))
  go_loopg [15] k (fun kq cL w' => ∃ (aB : Int), cL = .int .i64 aB ∧ Aside0 (impl_WindowOk.l0 kq aA (aA.length : Int) aB aE aA = some r) ∧ Aside0 (kq ≤ k) ∧ Aside0 (w'.heap[aN]? = some (.cells #[.int .i64 aE, (.slice aP aA.length aQ)] 101 (0, 0))) ∧ Aside0 (Below w.heap.size w w'))
  case atStart => exact ⟨(0), (by first | rfl | (simp; done) | (simp [*]; done)), H', ⟨Nat.le_refl _⟩, ⟨KB aD⟩, ⟨K1 HB aF.out⟩⟩
  case round =>
   clear H'
   try clear c2
   try clear c2b0
   try clear c2b1
   try clear c2b2
   try clear p2
   try clear aS aT aU
   try clear aV aW aX
   obtain ⟨aB, rfl, HA, HK1, aD, HB⟩ := hrel
   cases gk with
   | zero => exact absurd HA.out (by simp [impl_WindowOk.l0])
   | succ k1 =>
    have H := HA.out
    clear HA
    simp only [impl_WindowOk.l0] at H
    by_cases c7 : aB < (aA.length : Int)
    ·rw [if_pos c7] at H
     have c7b0 : decide (aB < (aA.length : Int)) = true := decide_eq_true c7
     clear c7
     by_cases c8 : 0 ≤ aB
     ·rw [if_pos c8] at H
      have c8b0 : decide (0 ≤ aB) = true := decide_eq_true c8
      clear c8
      by_cases c9 : aB < (aA.length : Int)
      ·rw [if_pos c9] at H
       have c9b0 : decide (aB < (aA.length : Int)) = true := decide_eq_true c9
       clear c9
       by_cases bI : (rd aA aB) < 1
       ·rw [if_pos bI] at H
        have c10b0 : decide ((rd aA aB) < 1) = true := decide_eq_true bI
        clear bI
        obtain rfl := sj H
        have aG : 0 ≤ (aB : Int) := OD
        have aH : aB < (aA.length : Int) := OD
        obtain ⟨aO, aR, aC⟩ := Kd.at_int aK.out aB aG aH
        cases aR
        replace aC := CX HB.out aC
        replace aG := eq_true aG
        replace aH := eq_true aH
        go_wp2
        repeat (go_quiet (fail); try go_wp2)
        go_ret
        exact ⟨ER, K1 HB aF.out⟩
       ·rw [if_neg bI] at H
        have c10b0 : decide ((rd aA aB) < 1) = false := decide_eq_false bI
        clear bI
        by_cases bJ : (rd aA aB) ≤ (wrap64 (aE - 16))
        ·rw [if_pos bJ] at H
         have c11b0 : decide ((rd aA aB) ≤ (wrap64 (aE - 16))) = true := decide_eq_true bJ
         clear bJ
         obtain rfl := sj H
         have aG : 0 ≤ (aB : Int) := OD
         have aH : aB < (aA.length : Int) := OD
         obtain ⟨aO, aR, aC⟩ := Kd.at_int aK.out aB aG aH
         cases aR
         replace aC := CX HB.out aC
         replace aG := eq_true aG
         replace aH := eq_true aH
         have ⟨_, _, _⟩ := y2 wr aD.out
         go_wp2
         repeat (go_quiet (fail); try go_wp2)
         go_ret
         exact ⟨ER, K1 HB aF.out⟩
        ·rw [if_neg bJ] at H
         have c11b0 : decide ((rd aA aB) ≤ (wrap64 (aE - 16))) = false := decide_eq_false bJ
         clear bJ
         by_cases bK : aB > 0
         ·rw [if_pos bK] at H
          have c13b0 : decide (0 < aB) = true := decide_eq_true bK
          clear bK
          obtain ⟨ji14, hji14⟩ : ∃ j_ : Int, (wrap64 (aB - 1)) = j_ := ⟨_, rfl⟩
          replace H : (if 0 ≤ (ji14) then (if (ji14) < (aA.length : Int) then (if (rd aA aB) ≤ (rd aA (ji14)) then (some false) else (impl_WindowOk.l0 k1 aA (aA.length : Int) (wrap64 (aB + 1)) aE aA)) else (none)) else (none)) = some r := by first | (rw [hji14] at H; exact H) | (simp only [hji14] at H ⊢; exact H)
          have hji14w : (IntKind.i64.wrap (aB - 1)) = ji14 := (i64_w _).trans hji14
          by_cases bQ : 0 ≤ (ji14)
          ·rw [if_pos bQ] at H
           have c15b0 : decide (0 ≤ (ji14)) = true := decide_eq_true bQ
           clear bQ
           by_cases bR : (ji14) < (aA.length : Int)
           ·rw [if_pos bR] at H
            have c16b0 : decide ((ji14) < (aA.length : Int)) = true := decide_eq_true bR
            clear bR
            by_cases bL : (rd aA aB) ≤ (rd aA (ji14))
            ·rw [if_pos bL] at H
             have c17b0 : decide ((rd aA aB) ≤ (rd aA (ji14))) = true := decide_eq_true bL
             clear bL
             obtain rfl := sj H
             have aG : 0 ≤ (aB : Int) := OD
             have aH : aB < (aA.length : Int) := OD
             obtain ⟨aO, aR, aC⟩ := Kd.at_int aK.out aB aG aH
             cases aR
             replace aC := CX HB.out aC
             replace aG := eq_true aG
             replace aH := eq_true aH
             have ⟨_, _, _⟩ := y2 wr aD.out
             have aY : 0 ≤ ((ji14) : Int) := OD
             have aZ : (ji14) < (aA.length : Int) := OD
             obtain ⟨bC, bF, aL⟩ := Kd.at_int aK.out (ji14) aY aZ
             obtain rfl : aO = bC := (by injection bF)
             replace aL := CX HB.out aL
             replace aY := eq_true aY
             replace aZ := eq_true aZ
             go_wp2
             repeat (go_quiet (fail); try go_wp2)
             go_ret
             exact ⟨by first | rfl | (simp [errW_none, errW_some] <;> rfl) | (simp only [← hji14]; first | rfl | (simp [errW_none, errW_some] <;> rfl)) | (simp [*, errW_none, errW_some] <;> rfl), K1 HB aF.out⟩
            ·rw [if_neg bL] at H
             have c17b0 : decide ((rd aA aB) ≤ (rd aA (ji14))) = false := decide_eq_false bL
             clear bL
             have H' := Aside0.mk H
             clear H
             have aG : 0 ≤ (aB : Int) := OD
             have aH : aB < (aA.length : Int) := OD
             obtain ⟨aO, aR, aC⟩ := Kd.at_int aK.out aB aG aH
             cases aR
             replace aC := CX HB.out aC
             replace aG := eq_true aG
             replace aH := eq_true aH
             have ⟨_, _, _⟩ := y2 wr aD.out
             have aY : 0 ≤ ((ji14) : Int) := OD
             have aZ : (ji14) < (aA.length : Int) := OD
             obtain ⟨bC, bF, aL⟩ := Kd.at_int aK.out (ji14) aY aZ
             obtain rfl : aO = bC := (by injection bF)
             replace aL := CX HB.out aL
             replace aY := eq_true aY
             replace aZ := eq_true aZ
             go_wp2
             repeat (go_quiet (fail); try go_wp2)
             go_roundg k1
             case measure => have := HK1.out; omega
             case rel => exact ⟨(wrap64 (aB + 1)), (by first | rfl | (simp; done) | (simp [*]; done)), H', ⟨by have := HK1.out; omega⟩, ⟨KB aD⟩, ⟨K1 HB aF.out⟩⟩
           ·rw [if_neg bR] at H
            exact absurd H (by simp)
          ·rw [if_neg bQ] at H
           exact absurd H (by simp)
         ·rw [if_neg bK] at H
          have c13b0 : decide (0 < aB) = false := decide_eq_false bK
          clear bK
          have H' := Aside0.mk H
          clear H
          have aG : 0 ≤ (aB : Int) := OD
          have aH : aB < (aA.length : Int) := OD
          obtain ⟨aO, aR, aC⟩ := Kd.at_int aK.out aB aG aH
          cases aR
          replace aC := CX HB.out aC
          replace aG := eq_true aG
          replace aH := eq_true aH
          have ⟨_, _, _⟩ := y2 wr aD.out
          go_wp2
          repeat (go_quiet (fail); try go_wp2)
          go_roundg k1
          case measure => have := HK1.out; omega
          case rel => exact ⟨(wrap64 (aB + 1)), (by first | rfl | (simp; done) | (simp [*]; done)), H', ⟨by have := HK1.out; omega⟩, ⟨KB aD⟩, ⟨K1 HB aF.out⟩⟩
      ·rw [if_neg c9] at H
       exact absurd H (by simp)
     ·rw [if_neg c8] at H
      exact absurd H (by simp)
    ·rw [if_neg c7] at H
     have c7b0 : decide (aB < (aA.length : Int)) = false := decide_eq_false c7
     clear c7
     obtain ⟨ji21, hji21⟩ : ∃ j_ : Int, (wrap64 ((aA.length : Int) - 1)) = j_ := ⟨_, rfl⟩
     replace H : (if 0 ≤ (ji21) then (if (ji21) < (aA.length : Int) then (if (rd aA (ji21)) = aE then (some (decide (aE ≤ 1000000))) else (some false)) else (none)) else (none)) = some r := by first | (rw [hji21] at H; exact H) | (simp only [hji21] at H ⊢; exact H)
     have hji21w : (IntKind.i64.wrap ((aA.length : Int) - 1)) = ji21 := (i64_w _).trans hji21
     by_cases cB : 0 ≤ (ji21)
     ·rw [if_pos cB] at H
      have c22b0 : decide (0 ≤ (ji21)) = true := decide_eq_true cB
      clear cB
      by_cases cC : (ji21) < (aA.length : Int)
      ·rw [if_pos cC] at H
       have c23b0 : decide ((ji21) < (aA.length : Int)) = true := decide_eq_true cC
       clear cC
       by_cases bG : (rd aA (ji21)) = aE
       ·rw [if_pos bG] at H
        have c24b0 : ((rd aA (ji21)) == aE) = true := beq_iff_eq.mpr bG
        have c24b1 : ((rd aA (ji21)) != aE) = false := bne_eq_false_iff_eq.mpr bG
        clear bG
        obtain rfl := sj H
        have ⟨_, _, _⟩ := y2 wr aD.out
        have bA : 0 ≤ ((ji21) : Int) := OD
        have bB : (ji21) < (aA.length : Int) := OD
        obtain ⟨bM, bH, aM⟩ := Kd.at_int aK.out (ji21) bA bB
        cases bH
        replace aM := CX HB.out aM
        replace bA := eq_true bA
        replace bB := eq_true bB
        go_wp2
        repeat (go_quiet (fail); try go_wp2)
        go_ret
        exact ⟨by first | rfl | (simp [errW_none, errW_some] <;> rfl) | (simp only [← hji21]; first | rfl | (simp [errW_none, errW_some] <;> rfl)) | (simp [*, errW_none, errW_some] <;> rfl), K1 HB aF.out⟩
       ·rw [if_neg bG] at H
        have c24b0 : ((rd aA (ji21)) == aE) = false := beq_eq_false_iff_ne.mpr bG
        have c24b1 : ((rd aA (ji21)) != aE) = true := bne_iff_ne.mpr bG
        obtain rfl := sj H
        have ⟨_, _, _⟩ := y2 wr aD.out
        have bA : 0 ≤ ((ji21) : Int) := OD
        have bB : (ji21) < (aA.length : Int) := OD
        obtain ⟨bM, bH, aM⟩ := Kd.at_int aK.out (ji21) bA bB
        cases bH
        replace aM := CX HB.out aM
        replace bA := eq_true bA
        replace bB := eq_true bB
        go_wp2
        repeat (go_quiet (fail); try go_wp2)
        go_ret
        exact ⟨by first | rfl | (simp [errW_none, errW_some] <;> rfl) | (simp only [← hji21]; first | rfl | (simp [errW_none, errW_some] <;> rfl)) | (simp [*, errW_none, errW_some] <;> rfl), K1 HB aF.out⟩
      ·rw [if_neg cC] at H
       exact absurd H (by simp)
     ·rw [if_neg cB] at H
      exact absurd H (by simp)
def impl_SaOk.j0 : Nat → Bool → Int → Int → ByteArray → ByteArray → Int → Int → Int → Int → Int → Int → List Int → Option (Bool)
 | 0, _, _, _, _, _, _, _, _, _, _, _, _ => none
 | k + 1, x3, x102000, x102001, x102002, x102003, x102004, x102005, x102006, x102007, x102008, x102009, x102010 => (impl_in.f x102004 0 1000000).bind fun t105 => (if t105 = true then ((impl_in.f x102006 1 1000000).bind fun t106 => (if t106 = true then ((impl_in.f x102005 1 x102006).bind fun t107 => (if t107 = true then ((impl_in.f x102007 1 1000000).bind fun t108 => (if x3 = true then (if t108 = true then ((impl_in.f x102008 0 x102006).bind fun t109 => (if t109 = true then ((impl_WindowOk.f k x102009 x102010).bind fun t110 => (some t110)) else (some false))) else (some false)) else (some false))) else (if x3 = true then (some false) else (some false)))) else (if x3 = true then (some false) else (some false)))) else (if x3 = true then (some false) else (some false)))
def impl_SaOk.f (k : Nat) (a0_0 : Int) (a0_1 : Int) (a0_2 : ByteArray) (a0_3 : ByteArray) (a0_4 : Int) (a0_5 : Int) (a0_6 : Int) (a0_7 : Int) (a0_8 : Int) (a0_9 : Int) (l0_10 : List Int) : Option (Bool) := (impl_in.f a0_0 1 999).bind fun t102 => (if t102 = true then ((impl_in.f a0_1 0 3).bind fun t103 => (if t103 = true then ((impl_keysOk.f a0_2 a0_3).bind fun t104 => (impl_SaOk.j0 k t104 a0_0 a0_1 a0_2 a0_3 a0_4 a0_5 a0_6 a0_7 a0_8 a0_9 l0_10)) else (impl_SaOk.j0 k false a0_0 a0_1 a0_2 a0_3 a0_4 a0_5 a0_6 a0_7 a0_8 a0_9 l0_10))) else (impl_SaOk.j0 k false a0_0 a0_1 a0_2 a0_3 a0_4 a0_5 a0_6 a0_7 a0_8 a0_9 l0_10))
theorem impl_SaOk.calls (k : Nat) (aG : Int) (aK : Int) (aL : ByteArray) (aM : ByteArray) (aC : Int) (aF : Int) (aA : Int) (aH : Int) (aI : Int) (aJ : Int) (aS : Option Addr) (aT : Nat) (aB : List Int) (r : Bool) (w : World) (aW : Kd.C (Kd.int .i64) w aS aB.length aB) (aX : aB.length ≤ aT) (h : impl_SaOk.f k aG aK aL aM aC aF aA aH aI aJ aB = some r) :
  Calls Tryz.prog 75 #[.agg #[.int .i64 aG, .int .i64 aK, .string aL, .string aM, .int .i64 aC, .int .i64 aF, .int .i64 aA, .int .i64 aH, .int .i64 aI, .int .i64 aJ, .slice aS aB.length aT]] w fun e w' => e = .returned (.bool r) ∧ Below w.heap.size w w' := by
 have iA := Tryz.underlying103
 have iB := Tryz.underlying101
 have cB := Aside0.mk aW
 have cC := Aside0.mk aX
 clear aW aX
 have HB := am (Below.refl w.heap.size w)
 have H : ((impl_in.f aG 1 999).bind fun bB => (if bB = true then ((impl_in.f aK 0 3).bind fun aU => (if aU = true then ((impl_keysOk.f aL aM).bind fun aQ => (impl_SaOk.j0 k aQ aG aK aL aM aC aF aA aH aI aJ aB)) else (impl_SaOk.j0 k false aG aK aL aM aC aF aA aH aI aJ aB))) else (impl_SaOk.j0 k false aG aK aL aM aC aF aA aH aI aJ aB))) = some r := h
 clear h
 have hZ := Aside0.mk H
 clear H
 go_enter Tryz.func75, Tryz.ntmps75
 go_upto_region 1 with (first | ((with_reducible refine gate_dst (N := 1) rfl ?_); refine box_event rfl (N := 1) rfl (cs := #[.int .i64 aG, .int .i64 aK, .string aL, .string aM, .int .i64 aC, .int .i64 aF, .int .i64 aA, .int .i64 aH, .int .i64 aI, .int .i64 aJ, .slice aS aB.length aT]) (t := 103) BX ?_; intro cP hg w3 cQ hb; have aD := am (cQ); have cR := am (GH HB hg); have aE := cR; replace HB := bl (KL HB) hb; clear hb cQ hg))
 (try simp only [Act.put, List.setIfInBounds_toArray, List.set_cons_zero, List.set_cons_succ])
 go_cut [3] (fun v3 wc => ∃ (kq : Nat) (aN : Bool), v3 = .bool aN ∧ Aside0 (impl_SaOk.j0 kq aN aG aK aL aM aC aF aA aH aI aJ aB = some r) ∧ Aside0 (kq ≤ k) ∧ Aside0 (wc.heap[cP]? = some (.cells #[.int .i64 aG, .int .i64 aK, .string aL, .string aM, .int .i64 aC, .int .i64 aF, .int .i64 aA, .int .i64 aH, .int .i64 aI, .int .i64 aJ, (.slice aS aB.length aT)] 103 (0, 0))) ∧ Aside0 (Below w.heap.size w wc))
 case first =>
  have H := hZ.out
  clear hZ
  replace H := bm H
  obtain ⟨bB, iC, H⟩ := H
  replace H : (if bB = true then ((impl_in.f aK 0 3).bind fun aU => (if aU = true then ((impl_keysOk.f aL aM).bind fun aQ => (impl_SaOk.j0 k aQ aG aK aL aM aC aF aA aH aI aJ aB)) else (impl_SaOk.j0 k false aG aK aL aM aC aF aA aH aI aJ aB))) else (impl_SaOk.j0 k false aG aK aL aM aC aF aA aH aI aJ aB)) = some r := H
  have A4 := Aside0.mk iC
  clear iC
  by_cases c5 : bB = true
  ·subst c5
   have H1 := pf H
   clear H
   have H := H1
   clear H1
   replace H := bm H
   obtain ⟨aU, iD, H⟩ := H
   replace H : (if aU = true then ((impl_keysOk.f aL aM).bind fun aQ => (impl_SaOk.j0 k aQ aG aK aL aM aC aF aA aH aI aJ aB)) else (impl_SaOk.j0 k false aG aK aL aM aC aF aA aH aI aJ aB)) = some r := H
   have A6 := Aside0.mk iD
   clear iD
   by_cases c7 : aU = true
   ·subst c7
    have H1 := pf H
    clear H
    have H := H1
    clear H1
    replace H := bm H
    obtain ⟨aQ, iE, H⟩ := H
    replace H : (impl_SaOk.j0 k aQ aG aK aL aM aC aF aA aH aI aJ aB) = some r := H
    have A8 := Aside0.mk iE
    clear iE
    have H' := Aside0.mk H
    clear H
    obtain ⟨cD, cE, cF, cG, cH, cI, cJ, cK, cL, cM, bC, cN⟩ := y11 w3 aD.out
    go_wp2_with (first | ((with_reducible refine gate_callee (f := 51) rfl ?_); refine goesL_ (some 7) rfl rfl Tryz.func51 (by kernel_rfl) rfl #[.int .i64 aG, .int .i64 1, .int .i64 999] rfl MT ?_; (with_reducible refine (impl_in.calls aG 1 999 true _ A4.out).mono ?_); rintro e w' ⟨rfl, ⟨nd, rfl⟩⟩; refine ⟨_, rfl, ?_⟩) | (go_at_call 51; (with_reducible refine (impl_in.calls aK 0 3 true _ A6.out).mono ?_); rintro e w' ⟨rfl, ⟨nd, rfl⟩⟩) | (go_at_call 93; (with_reducible refine (impl_keysOk.calls aL aM aQ _ A8.out).mono ?_); rintro e w' ⟨rfl, ⟨nd, rfl⟩⟩))
    go_meet
    case rel => exact ⟨_, (aQ), (by first | rfl | (simp; done) | (simp [*]; done)), H', ⟨by first | omega | exact Nat.le_refl _⟩, ⟨KB aD⟩, ⟨K1 HB aE.out⟩⟩
   ·replace c7 := Bool.eq_false_iff.mpr c7
    subst c7
    have H1 := nf H
    clear H
    have H := H1
    clear H1
    have H' := Aside0.mk H
    clear H
    obtain ⟨bD, bE, bF, bG, bH, bI, bJ, bK, bL, bM, aY, bN⟩ := y11 w3 aD.out
    go_wp2_with (first | ((with_reducible refine gate_callee (f := 51) rfl ?_); refine goesL_ (some 7) rfl rfl Tryz.func51 (by kernel_rfl) rfl #[.int .i64 aG, .int .i64 1, .int .i64 999] rfl MT ?_; (with_reducible refine (impl_in.calls aG 1 999 true _ A4.out).mono ?_); rintro e w' ⟨rfl, ⟨nd, rfl⟩⟩; refine ⟨_, rfl, ?_⟩) | (go_at_call 51; (with_reducible refine (impl_in.calls aK 0 3 false _ A6.out).mono ?_); rintro e w' ⟨rfl, ⟨nd, rfl⟩⟩))
    go_meet
    case rel => exact ⟨_, (false), (by first | rfl | (simp; done) | (simp [*]; done)), H', ⟨by first | omega | exact Nat.le_refl _⟩, ⟨KB aD⟩, ⟨K1 HB aE.out⟩⟩
  ·replace c5 := Bool.eq_false_iff.mpr c5
   subst c5
   have H1 := nf H
   clear H
   have H := H1
   clear H1
   have H' := Aside0.mk H
   clear H
   obtain ⟨bO, bP, bQ, bR, bS, bT, bU, bV, bW, bX, aZ, bY⟩ := y11 w3 aD.out
   go_wp2_with (first | ((with_reducible refine gate_callee (f := 51) rfl ?_); refine goesL_ (some 7) rfl rfl Tryz.func51 (by kernel_rfl) rfl #[.int .i64 aG, .int .i64 1, .int .i64 999] rfl MT ?_; (with_reducible refine (impl_in.calls aG 1 999 false _ A4.out).mono ?_); rintro e w' ⟨rfl, ⟨nd, rfl⟩⟩; refine ⟨_, rfl, ?_⟩))
   go_meet
   case rel => exact ⟨_, (false), (by first | rfl | (simp; done) | (simp [*]; done)), H', ⟨by first | omega | exact Nat.le_refl _⟩, ⟨KB aD⟩, ⟨K1 HB aE.out⟩⟩
 case rest =>
  clear hZ
  try clear p2
  try clear c5
  try clear c7
  try clear bD bE aY bF bG bH bI bJ bK bL bM bN
  try clear bO bP aZ bQ bR bS bT bU bV bW bX bY
  try clear cD cE bC cF cG cH cI cJ cK cL cM cN
  obtain ⟨kq, aN, rfl, HA, HJ1, aD, HB⟩ := hcut
  cases kq with
  | zero => exact absurd HA.out (by simp [impl_SaOk.j0])
  | succ kj1 =>
   have H := HA.out
   clear HA
   simp only [impl_SaOk.j0] at H
   replace H := bm H
   obtain ⟨cS, cT, H⟩ := H
   replace H : (if cS = true then ((impl_in.f aA 1 1000000).bind fun bZ => (if bZ = true then ((impl_in.f aF 1 aA).bind fun aV => (if aV = true then ((impl_in.f aH 1 1000000).bind fun aR => (if aN = true then (if aR = true then ((impl_in.f aI 0 aA).bind fun aP => (if aP = true then ((impl_WindowOk.f kj1 aJ aB).bind fun aO => (some aO)) else (some false))) else (some false)) else (some false))) else (if aN = true then (some false) else (some false)))) else (if aN = true then (some false) else (some false)))) else (if aN = true then (some false) else (some false))) = some r := H
   have bA := Aside0.mk cT
   clear cT
   by_cases dJ : cS = true
   ·subst dJ
    have H1 := pf H
    clear H
    have H := H1
    clear H1
    replace H := bm H
    obtain ⟨bZ, cU, H⟩ := H
    replace H : (if bZ = true then ((impl_in.f aF 1 aA).bind fun aV => (if aV = true then ((impl_in.f aH 1 1000000).bind fun aR => (if aN = true then (if aR = true then ((impl_in.f aI 0 aA).bind fun aP => (if aP = true then ((impl_WindowOk.f kj1 aJ aB).bind fun aO => (some aO)) else (some false))) else (some false)) else (some false))) else (if aN = true then (some false) else (some false)))) else (if aN = true then (some false) else (some false))) = some r := H
    have cA := Aside0.mk cU
    clear cU
    by_cases dK : bZ = true
    ·subst dK
     have H1 := pf H
     clear H
     have H := H1
     clear H1
     replace H := bm H
     obtain ⟨aV, cV, H⟩ := H
     replace H : (if aV = true then ((impl_in.f aH 1 1000000).bind fun aR => (if aN = true then (if aR = true then ((impl_in.f aI 0 aA).bind fun aP => (if aP = true then ((impl_WindowOk.f kj1 aJ aB).bind fun aO => (some aO)) else (some false))) else (some false)) else (some false))) else (if aN = true then (some false) else (some false))) = some r := H
     have cO := Aside0.mk cV
     clear cV
     by_cases dL : aV = true
     ·subst dL
      have H1 := pf H
      clear H
      have H := H1
      clear H1
      replace H := bm H
      obtain ⟨aR, cW, H⟩ := H
      replace H : (if aN = true then (if aR = true then ((impl_in.f aI 0 aA).bind fun aP => (if aP = true then ((impl_WindowOk.f kj1 aJ aB).bind fun aO => (some aO)) else (some false))) else (some false)) else (some false)) = some r := H
      have dM := Aside0.mk cW
      clear cW
      by_cases dN : aN = true
      ·subst dN
       have H1 := pf H
       clear H
       have H := H1
       clear H1
       by_cases dO : aR = true
       ·subst dO
        have H1 := pf H
        clear H
        have H := H1
        clear H1
        replace H := bm H
        obtain ⟨aP, cX, H⟩ := H
        replace H : (if aP = true then ((impl_WindowOk.f kj1 aJ aB).bind fun aO => (some aO)) else (some false)) = some r := H
        have iF := Aside0.mk cX
        clear cX
        by_cases dP : aP = true
        ·subst dP
         have H1 := pf H
         clear H
         have H := H1
         clear H1
         replace H := bm H
         obtain ⟨aO, cY, H⟩ := H
         replace H : (some aO) = some r := H
         have iG := Aside0.mk cY
         clear cY
         obtain rfl := sj H
         have ⟨_, _, _, _, _, _, _, _, _, _, _, _⟩ := y11 wc aD.out
         go_wp2_with (first | ((with_reducible refine gate_callee (f := 51) rfl ?_); refine goesL_ (some 22) rfl rfl Tryz.func51 (by kernel_rfl) rfl #[.int .i64 aC, .int .i64 0, .int .i64 1000000] rfl MT ?_; (with_reducible refine (impl_in.calls aC 0 1000000 true _ bA.out).mono ?_); rintro e w' ⟨rfl, ⟨nd, rfl⟩⟩; refine ⟨_, rfl, ?_⟩) | (go_at_call 51; (with_reducible refine (impl_in.calls aA 1 1000000 true _ cA.out).mono ?_); rintro e w' ⟨rfl, ⟨nd, rfl⟩⟩) | (go_at_call 51; (with_reducible refine (impl_in.calls aF 1 aA true _ cO.out).mono ?_); rintro e w' ⟨rfl, ⟨nd, rfl⟩⟩) | (go_at_call 51; (with_reducible refine (impl_in.calls aH 1 1000000 true _ dM.out).mono ?_); rintro e w' ⟨rfl, ⟨nd, rfl⟩⟩) | (go_at_call 51; (with_reducible refine (impl_in.calls aI 0 aA true _ iF.out).mono ?_); rintro e w' ⟨rfl, ⟨nd, rfl⟩⟩) | (go_at_call 94; (with_reducible refine (impl_WindowOk.calls kj1 aJ _ _ aB aO _ ?_ ?_ iG.out).mono ?_); (repeat (first | exact (Kd.C_below cB.out (K1 HB aE.out)) | (with_reducible refine Kd.C_alloc ?_ _) | (with_reducible refine Kd.C_drewN ?_ _) | (with_reducible refine Kd.C_drew ?_))); exact cC.out; rintro e iH ⟨rfl, hb⟩; replace aD := am (BB aD hb); replace HB := bl (K1 HB aE.out) hb; (try clear hb)))
         go_ret
         exact ⟨ER, K1 HB aE.out⟩
        ·replace dP := Bool.eq_false_iff.mpr dP
         subst dP
         have H1 := nf H
         clear H
         have H := H1
         clear H1
         obtain rfl := sj H
         have ⟨_, _, _, _, _, _, _, _, _, _, _, _⟩ := y11 wc aD.out
         go_wp2_with (first | ((with_reducible refine gate_callee (f := 51) rfl ?_); refine goesL_ (some 22) rfl rfl Tryz.func51 (by kernel_rfl) rfl #[.int .i64 aC, .int .i64 0, .int .i64 1000000] rfl MT ?_; (with_reducible refine (impl_in.calls aC 0 1000000 true _ bA.out).mono ?_); rintro e w' ⟨rfl, ⟨nd, rfl⟩⟩; refine ⟨_, rfl, ?_⟩) | (go_at_call 51; (with_reducible refine (impl_in.calls aA 1 1000000 true _ cA.out).mono ?_); rintro e w' ⟨rfl, ⟨nd, rfl⟩⟩) | (go_at_call 51; (with_reducible refine (impl_in.calls aF 1 aA true _ cO.out).mono ?_); rintro e w' ⟨rfl, ⟨nd, rfl⟩⟩) | (go_at_call 51; (with_reducible refine (impl_in.calls aH 1 1000000 true _ dM.out).mono ?_); rintro e w' ⟨rfl, ⟨nd, rfl⟩⟩) | (go_at_call 51; (with_reducible refine (impl_in.calls aI 0 aA false _ iF.out).mono ?_); rintro e w' ⟨rfl, ⟨nd, rfl⟩⟩))
         go_ret
         exact ⟨ER, K1 HB aE.out⟩
       ·replace dO := Bool.eq_false_iff.mpr dO
        subst dO
        have H1 := nf H
        clear H
        have H := H1
        clear H1
        obtain rfl := sj H
        have ⟨_, _, _, _, _, _, _, _, _, _, _, _⟩ := y11 wc aD.out
        go_wp2_with (first | ((with_reducible refine gate_callee (f := 51) rfl ?_); refine goesL_ (some 22) rfl rfl Tryz.func51 (by kernel_rfl) rfl #[.int .i64 aC, .int .i64 0, .int .i64 1000000] rfl MT ?_; (with_reducible refine (impl_in.calls aC 0 1000000 true _ bA.out).mono ?_); rintro e w' ⟨rfl, ⟨nd, rfl⟩⟩; refine ⟨_, rfl, ?_⟩) | (go_at_call 51; (with_reducible refine (impl_in.calls aA 1 1000000 true _ cA.out).mono ?_); rintro e w' ⟨rfl, ⟨nd, rfl⟩⟩) | (go_at_call 51; (with_reducible refine (impl_in.calls aF 1 aA true _ cO.out).mono ?_); rintro e w' ⟨rfl, ⟨nd, rfl⟩⟩) | (go_at_call 51; (with_reducible refine (impl_in.calls aH 1 1000000 false _ dM.out).mono ?_); rintro e w' ⟨rfl, ⟨nd, rfl⟩⟩))
        go_ret
        exact ⟨ER, K1 HB aE.out⟩
      ·replace dN := Bool.eq_false_iff.mpr dN
       subst dN
       have H1 := nf H
       clear H
       have H := H1
       clear H1
       obtain rfl := sj H
       have ⟨_, _, _, _, _, _, _, _, _, _, _, _⟩ := y11 wc aD.out
       go_wp2_with (first | ((with_reducible refine gate_callee (f := 51) rfl ?_); refine goesL_ (some 22) rfl rfl Tryz.func51 (by kernel_rfl) rfl #[.int .i64 aC, .int .i64 0, .int .i64 1000000] rfl MT ?_; (with_reducible refine (impl_in.calls aC 0 1000000 true _ bA.out).mono ?_); rintro e w' ⟨rfl, ⟨nd, rfl⟩⟩; refine ⟨_, rfl, ?_⟩) | (go_at_call 51; (with_reducible refine (impl_in.calls aA 1 1000000 true _ cA.out).mono ?_); rintro e w' ⟨rfl, ⟨nd, rfl⟩⟩) | (go_at_call 51; (with_reducible refine (impl_in.calls aF 1 aA true _ cO.out).mono ?_); rintro e w' ⟨rfl, ⟨nd, rfl⟩⟩) | (go_at_call 51; (with_reducible refine (impl_in.calls aH 1 1000000 aR _ dM.out).mono ?_); rintro e w' ⟨rfl, ⟨nd, rfl⟩⟩))
       go_ret
       exact ⟨ER, K1 HB aE.out⟩
     ·replace dL := Bool.eq_false_iff.mpr dL
      subst dL
      have H1 := nf H
      clear H
      have H := H1
      clear H1
      by_cases fI : aN = true
      ·subst fI
       have H1 := pf H
       clear H
       have H := H1
       clear H1
       obtain rfl := sj H
       have ⟨_, _, _, _, _, _, _, _, _, _, _, _⟩ := y11 wc aD.out
       go_wp2_with (first | ((with_reducible refine gate_callee (f := 51) rfl ?_); refine goesL_ (some 22) rfl rfl Tryz.func51 (by kernel_rfl) rfl #[.int .i64 aC, .int .i64 0, .int .i64 1000000] rfl MT ?_; (with_reducible refine (impl_in.calls aC 0 1000000 true _ bA.out).mono ?_); rintro e w' ⟨rfl, ⟨nd, rfl⟩⟩; refine ⟨_, rfl, ?_⟩) | (go_at_call 51; (with_reducible refine (impl_in.calls aA 1 1000000 true _ cA.out).mono ?_); rintro e w' ⟨rfl, ⟨nd, rfl⟩⟩) | (go_at_call 51; (with_reducible refine (impl_in.calls aF 1 aA false _ cO.out).mono ?_); rintro e w' ⟨rfl, ⟨nd, rfl⟩⟩))
       go_ret
       exact ⟨ER, K1 HB aE.out⟩
      ·replace fI := Bool.eq_false_iff.mpr fI
       subst fI
       have H1 := nf H
       clear H
       have H := H1
       clear H1
       obtain rfl := sj H
       have ⟨_, _, _, _, _, _, _, _, _, _, _, _⟩ := y11 wc aD.out
       go_wp2_with (first | ((with_reducible refine gate_callee (f := 51) rfl ?_); refine goesL_ (some 22) rfl rfl Tryz.func51 (by kernel_rfl) rfl #[.int .i64 aC, .int .i64 0, .int .i64 1000000] rfl MT ?_; (with_reducible refine (impl_in.calls aC 0 1000000 true _ bA.out).mono ?_); rintro e w' ⟨rfl, ⟨nd, rfl⟩⟩; refine ⟨_, rfl, ?_⟩) | (go_at_call 51; (with_reducible refine (impl_in.calls aA 1 1000000 true _ cA.out).mono ?_); rintro e w' ⟨rfl, ⟨nd, rfl⟩⟩) | (go_at_call 51; (with_reducible refine (impl_in.calls aF 1 aA false _ cO.out).mono ?_); rintro e w' ⟨rfl, ⟨nd, rfl⟩⟩))
       go_ret
       exact ⟨ER, K1 HB aE.out⟩
    ·replace dK := Bool.eq_false_iff.mpr dK
     subst dK
     have H1 := nf H
     clear H
     have H := H1
     clear H1
     by_cases gF : aN = true
     ·subst gF
      have H1 := pf H
      clear H
      have H := H1
      clear H1
      obtain rfl := sj H
      have ⟨_, _, _, _, _, _, _, _, _, _, _, _⟩ := y11 wc aD.out
      go_wp2_with (first | ((with_reducible refine gate_callee (f := 51) rfl ?_); refine goesL_ (some 22) rfl rfl Tryz.func51 (by kernel_rfl) rfl #[.int .i64 aC, .int .i64 0, .int .i64 1000000] rfl MT ?_; (with_reducible refine (impl_in.calls aC 0 1000000 true _ bA.out).mono ?_); rintro e w' ⟨rfl, ⟨nd, rfl⟩⟩; refine ⟨_, rfl, ?_⟩) | (go_at_call 51; (with_reducible refine (impl_in.calls aA 1 1000000 false _ cA.out).mono ?_); rintro e w' ⟨rfl, ⟨nd, rfl⟩⟩))
      go_ret
      exact ⟨ER, K1 HB aE.out⟩
     ·replace gF := Bool.eq_false_iff.mpr gF
      subst gF
      have H1 := nf H
      clear H
      have H := H1
      clear H1
      obtain rfl := sj H
      have ⟨_, _, _, _, _, _, _, _, _, _, _, _⟩ := y11 wc aD.out
      go_wp2_with (first | ((with_reducible refine gate_callee (f := 51) rfl ?_); refine goesL_ (some 22) rfl rfl Tryz.func51 (by kernel_rfl) rfl #[.int .i64 aC, .int .i64 0, .int .i64 1000000] rfl MT ?_; (with_reducible refine (impl_in.calls aC 0 1000000 true _ bA.out).mono ?_); rintro e w' ⟨rfl, ⟨nd, rfl⟩⟩; refine ⟨_, rfl, ?_⟩) | (go_at_call 51; (with_reducible refine (impl_in.calls aA 1 1000000 false _ cA.out).mono ?_); rintro e w' ⟨rfl, ⟨nd, rfl⟩⟩))
      go_ret
      exact ⟨ER, K1 HB aE.out⟩
   ·replace dJ := Bool.eq_false_iff.mpr dJ
    subst dJ
    have H1 := nf H
    clear H
    have H := H1
    clear H1
    by_cases hC : aN = true
    ·subst hC
     have H1 := pf H
     clear H
     have H := H1
     clear H1
     obtain rfl := sj H
     have ⟨_, _, _, _, _, _, _, _, _, _, _, _⟩ := y11 wc aD.out
     go_wp2_with (first | ((with_reducible refine gate_callee (f := 51) rfl ?_); refine goesL_ (some 22) rfl rfl Tryz.func51 (by kernel_rfl) rfl #[.int .i64 aC, .int .i64 0, .int .i64 1000000] rfl MT ?_; (with_reducible refine (impl_in.calls aC 0 1000000 false _ bA.out).mono ?_); rintro e w' ⟨rfl, ⟨nd, rfl⟩⟩; refine ⟨_, rfl, ?_⟩))
     go_ret
     exact ⟨ER, K1 HB aE.out⟩
    ·replace hC := Bool.eq_false_iff.mpr hC
     subst hC
     have H1 := nf H
     clear H
     have H := H1
     clear H1
     obtain rfl := sj H
     have ⟨_, _, _, _, _, _, _, _, _, _, _, _⟩ := y11 wc aD.out
     go_wp2_with (first | ((with_reducible refine gate_callee (f := 51) rfl ?_); refine goesL_ (some 22) rfl rfl Tryz.func51 (by kernel_rfl) rfl #[.int .i64 aC, .int .i64 0, .int .i64 1000000] rfl MT ?_; (with_reducible refine (impl_in.calls aC 0 1000000 false _ bA.out).mono ?_); rintro e w' ⟨rfl, ⟨nd, rfl⟩⟩; refine ⟨_, rfl, ?_⟩))
     go_ret
     exact ⟨ER, K1 HB aE.out⟩
mutual
def impl_ascending_tunOf.l0 : Nat → List (S103) → Int → List (S103) → Int → Int → Option (Bool)
 | 0, _, _, _, _, _ => none
 | k + 1, x0, x1, x9, x10, x11 => if x11 < x10 then (if 0 ≤ x11 then (if x11 < (x9.length : Int) then ((impl_SaOk.f k ((rd_T103 x9 x11).f0) ((rd_T103 x9 x11).f1) ((rd_T103 x9 x11).f2) ((rd_T103 x9 x11).f3) ((rd_T103 x9 x11).f4) ((rd_T103 x9 x11).f5) ((rd_T103 x9 x11).f6) ((rd_T103 x9 x11).f7) ((rd_T103 x9 x11).f8) ((rd_T103 x9 x11).f9.f0) ((rd_T103 x9 x11).f9.f1)).bind fun t103 => (if t103 = true then (if ((rd_T103 x9 x11).f4) > x1 then (impl_ascending_tunOf.j1 k x0 x1 x9 x10 x11 true) else (if x11 > 0 then (if 0 ≤ (wrap64 (x11 - 1)) then (if (wrap64 (x11 - 1)) < (x0.length : Int) then ((impl_tunOf.f ((rd_T103 x0 (wrap64 (x11 - 1))).f0) ((rd_T103 x0 (wrap64 (x11 - 1))).f1) ((rd_T103 x0 (wrap64 (x11 - 1))).f2) ((rd_T103 x0 (wrap64 (x11 - 1))).f3) ((rd_T103 x0 (wrap64 (x11 - 1))).f4) ((rd_T103 x0 (wrap64 (x11 - 1))).f5) ((rd_T103 x0 (wrap64 (x11 - 1))).f6) ((rd_T103 x0 (wrap64 (x11 - 1))).f7) ((rd_T103 x0 (wrap64 (x11 - 1))).f8) ((rd_T103 x0 (wrap64 (x11 - 1))).f9.f0) ((rd_T103 x0 (wrap64 (x11 - 1))).f9.f1)).bind fun t105 => ((impl_tunOf.f ((rd_T103 x9 x11).f0) ((rd_T103 x9 x11).f1) ((rd_T103 x9 x11).f2) ((rd_T103 x9 x11).f3) ((rd_T103 x9 x11).f4) ((rd_T103 x9 x11).f5) ((rd_T103 x9 x11).f6) ((rd_T103 x9 x11).f7) ((rd_T103 x9 x11).f8) ((rd_T103 x9 x11).f9.f0) ((rd_T103 x9 x11).f9.f1)).bind fun t106 => (impl_ascending_tunOf.j1 k x0 x1 x9 x10 x11 (decide (t105 ≥ t106))))) else (none)) else (none)) else (impl_ascending_tunOf.j1 k x0 x1 x9 x10 x11 false))) else (impl_ascending_tunOf.j1 k x0 x1 x9 x10 x11 true))) else (none)) else (none)) else (some true)
def impl_ascending_tunOf.j1 : Nat → List (S103) → Int → List (S103) → Int → Int → Bool → Option (Bool)
 | 0, _, _, _, _, _, _ => none
 | k + 1, x0, x1, x9, x10, x11, x41 => if x41 = true then (some false) else (impl_ascending_tunOf.l0 k x0 x1 x9 x10 (wrap64 (x11 + 1)))
end
def impl_ascending_tunOf.f (k : Nat) (l0 : List (S103)) (a1 : Int)  : Option (Bool) := impl_ascending_tunOf.l0 k l0 a1 l0 (l0.length : Int) 0
def impl_ascending_tunOf.T4 : Bool × List (List Nat × List Nat) := (true, [([], []), ([0], [0]), ([1], [1]), ([2, 1], [2]), ([3], [3]), ([4, 3], [3, 4]), ([3], [3]), ([5, 6, 3], [3, 5, 6]), ([3, 7], [3, 7]), ([8, 3], [8]), ([9], [9]), ([10, 9], [9, 10]), ([11, 9, 9], [9, 11]), ([12], [12]), ([12], [12]), ([12], [12]), ([15, 12], [12, 15]), ([14, 16, 12], [12, 14, 16]), ([17, 12], [12, 17]), ([13, 18, 12, 12], [12, 13, 18]), ([12], [12]), ([12], [12]), ([20, 21, 19, 12], [12, 20, 21]), ([19, 22, 12], [12, 19, 22]), ([12, 23, 9], [9, 12, 23]), ([9, 24], [9, 24])])
def impl_ascending_tunOf.B4 : List Nat := [0, 1, 3, 7, 15, 31, 15, 127, 255, 511, 1023, 2047, 4095, 8191, 8191, 8191, 40959, 122879, 253951, 524287, 8191, 8191, 4194303, 8388607, 16777215, 33554431]
theorem impl_ascending_tunOf.tab4 : rtab .any (opsOf Tryz.f53 4) = impl_ascending_tunOf.T4 := by kernel_rfl
theorem impl_ascending_tunOf.bits4 : waitsOk impl_ascending_tunOf.T4.2 impl_ascending_tunOf.B4 = true := by kernel_rfl
theorem impl_ascending_tunOf.calls (k : Nat) (A0 : Option Addr) (c0 : Nat) (l0 : List (S103)) (a1 : Int)  (r : Bool) (w : World) (dP : Kd.C k103 w A0 l0.length l0) (dQ : l0.length ≤ c0) (h : impl_ascending_tunOf.f k l0 a1 = some r) :
  Calls Tryz.prog 53 #[.slice A0 l0.length c0, .int .i64 a1, .func (.func 54) #[] #[]] w fun e w' => e = .returned (.bool r) ∧ Below w.heap.size w w' := by
 have dR := Tryz.underlying103
 have dS := Aside0.mk dP
 have dX := Aside0.mk dQ
 clear dP dQ
 have HB := am (Below.refl w.heap.size w)
 have H : (impl_ascending_tunOf.l0 k l0 a1 l0 (l0.length : Int) 0) = some r := h
 clear h
 have H' := Aside0.mk H
 clear H
 go_enter Tryz.func53, Tryz.ntmps53
 go_wp2
 go_loopg [11] k (fun kq dT w' => ∃ (aA : Int), dT = .int .i64 aA ∧ Aside0 (impl_ascending_tunOf.l0 kq l0 a1 l0 (l0.length : Int) aA = some r) ∧ Aside0 (kq ≤ k) ∧ Aside0 (Below w.heap.size w w'))
 case atStart => exact ⟨(0), (by first | rfl | (simp; done) | (simp [*]; done)), H', ⟨Nat.le_refl _⟩, ⟨KL HB⟩⟩
 case round =>
  clear H'
  try clear p2
  obtain ⟨aA, rfl, HA, HK1, HB⟩ := hrel
  cases gk with
  | zero => exact absurd HA.out (by simp [impl_ascending_tunOf.l0])
  | succ k1 =>
   have H := HA.out
   clear HA
   simp only [impl_ascending_tunOf.l0] at H
   by_cases c4 : aA < (l0.length : Int)
   ·rw [if_pos c4] at H
    have c4b0 : decide (aA < (l0.length : Int)) = true := decide_eq_true c4
    clear c4
    by_cases c5 : 0 ≤ aA
    ·rw [if_pos c5] at H
     have c5b0 : decide (0 ≤ aA) = true := decide_eq_true c5
     clear c5
     by_cases c6 : aA < (l0.length : Int)
     ·rw [if_pos c6] at H
      have c6b0 : decide (aA < (l0.length : Int)) = true := decide_eq_true c6
      clear c6
      have cX := Aside0.mk H
      clear H
      have cE : 0 ≤ (aA : Int) := OD
      have cF : aA < (l0.length : Int) := OD
      obtain ⟨aG, aE, aF, cY, bP, bQ, bR, bS, bT, bU, bV, bW, bX, bY, bI, bJ, bK⟩ := at_T103 dS.out aA cE cF
      cases cY
      replace bP := CX HB.out bP
      replace bQ := CX HB.out bQ
      replace bR := CX HB.out bR
      replace bS := CX HB.out bS
      replace bT := CX HB.out bT
      replace bU := CX HB.out bU
      replace bV := CX HB.out bV
      replace bW := CX HB.out bW
      replace bX := CX HB.out bX
      replace bY := CX HB.out bY
      replace bI := CX HB.out bI
      have aJ := Aside0.mk bK
      have aK := Aside0.mk bJ
      clear bK bJ
      replace cE := eq_true cE
      replace cF := eq_true cF
      go_upto_region 4 with (first | ((with_reducible refine gate_dst (N := 8) rfl ?_); refine box_event rfl (N := 8) rfl (cs := #[.int .i64 0, .int .i64 0, .string (⟨#[]⟩ : ByteArray), .string (⟨#[]⟩ : ByteArray), .int .i64 0, .int .i64 0, .int .i64 0, .int .i64 0, .int .i64 0, .int .i64 0, .slice none 0 0]) (t := 103) BX ?_; intro aC hg w8 cK hb; have aB := am (cK); have cL := am (GH HB hg); have aI := cL; replace HB := bl (KL HB) hb; clear hb cK hg; have ⟨_, _, _, _, _, _, _, _, _, _, _, _⟩ := y11 w8 aB.out))
      (try simp only [Act.put, List.setIfInBounds_toArray, List.set_cons_zero, List.set_cons_succ])
      go_cut [41] (fun dU wc => ∃ (kq : Nat) (bZ : Bool), dU = .bool bZ ∧ Aside0 (impl_ascending_tunOf.j1 kq l0 a1 l0 (l0.length : Int) aA bZ = some r) ∧ Aside0 (kq ≤ k1) ∧ Aside0 (wc.heap[aC]? = some (.cells #[.int .i64 ((rd_T103 l0 aA).f0), .int .i64 ((rd_T103 l0 aA).f1), .string ((rd_T103 l0 aA).f2), .string ((rd_T103 l0 aA).f3), .int .i64 ((rd_T103 l0 aA).f4), .int .i64 ((rd_T103 l0 aA).f5), .int .i64 ((rd_T103 l0 aA).f6), .int .i64 ((rd_T103 l0 aA).f7), .int .i64 ((rd_T103 l0 aA).f8), .int .i64 ((rd_T103 l0 aA).f9.f0), (.slice aE ((rd_T103 l0 aA).f9.f1).length aF)] 103 (0, 0))) ∧ Aside0 (Below w.heap.size w wc))
      case first =>
       have H := cX.out
       clear cX
       replace H := bm H
       obtain ⟨cM, cN, H⟩ := H
       replace H : (if cM = true then (if ((rd_T103 l0 aA).f4) > a1 then (impl_ascending_tunOf.j1 k1 l0 a1 l0 (l0.length : Int) aA true) else (if aA > 0 then (if 0 ≤ (wrap64 (aA - 1)) then (if (wrap64 (aA - 1)) < (l0.length : Int) then ((impl_tunOf.f ((rd_T103 l0 (wrap64 (aA - 1))).f0) ((rd_T103 l0 (wrap64 (aA - 1))).f1) ((rd_T103 l0 (wrap64 (aA - 1))).f2) ((rd_T103 l0 (wrap64 (aA - 1))).f3) ((rd_T103 l0 (wrap64 (aA - 1))).f4) ((rd_T103 l0 (wrap64 (aA - 1))).f5) ((rd_T103 l0 (wrap64 (aA - 1))).f6) ((rd_T103 l0 (wrap64 (aA - 1))).f7) ((rd_T103 l0 (wrap64 (aA - 1))).f8) ((rd_T103 l0 (wrap64 (aA - 1))).f9.f0) ((rd_T103 l0 (wrap64 (aA - 1))).f9.f1)).bind fun bL => ((impl_tunOf.f ((rd_T103 l0 aA).f0) ((rd_T103 l0 aA).f1) ((rd_T103 l0 aA).f2) ((rd_T103 l0 aA).f3) ((rd_T103 l0 aA).f4) ((rd_T103 l0 aA).f5) ((rd_T103 l0 aA).f6) ((rd_T103 l0 aA).f7) ((rd_T103 l0 aA).f8) ((rd_T103 l0 aA).f9.f0) ((rd_T103 l0 aA).f9.f1)).bind fun bH => (impl_ascending_tunOf.j1 k1 l0 a1 l0 (l0.length : Int) aA (decide (bL ≥ bH))))) else (none)) else (none)) else (impl_ascending_tunOf.j1 k1 l0 a1 l0 (l0.length : Int) aA false))) else (impl_ascending_tunOf.j1 k1 l0 a1 l0 (l0.length : Int) aA true)) = some r := H
       have cO := Aside0.mk cN
       clear cN
       by_cases cP : cM = true
       ·subst cP
        have H1 := pf H
        clear H
        have H := H1
        clear H1
        by_cases cJ : ((rd_T103 l0 aA).f4) > a1
        ·rw [if_pos cJ] at H
         have c12b0 : decide (a1 < ((rd_T103 l0 aA).f4)) = true := decide_eq_true cJ
         clear cJ
         (first | rw [c12b0] | (simp only [i64_w, i32_w]; rw [c12b0]) | skip)
         have H' := Aside0.mk H
         clear H
         try go_wp2
         generalize hq_ : (((((((((((w8.setCell ⟨aC, 0, none⟩ (.int .i64 ((rd_T103 l0 aA).f0))).setCell ⟨aC, 1, none⟩ (.int .i64 ((rd_T103 l0 aA).f1))).setCell ⟨aC, 2, none⟩ (.string ((rd_T103 l0 aA).f2))).setCell ⟨aC, 3, none⟩ (.string ((rd_T103 l0 aA).f3))).setCell ⟨aC, 4, none⟩ (.int .i64 ((rd_T103 l0 aA).f4))).setCell ⟨aC, 5, none⟩ (.int .i64 ((rd_T103 l0 aA).f5))).setCell ⟨aC, 6, none⟩ (.int .i64 ((rd_T103 l0 aA).f6))).setCell ⟨aC, 7, none⟩ (.int .i64 ((rd_T103 l0 aA).f7))).setCell ⟨aC, 8, none⟩ (.int .i64 ((rd_T103 l0 aA).f8))).setCell ⟨aC, 9, none⟩ (.int .i64 ((rd_T103 l0 aA).f9.f0))).setCell ⟨aC, 10, none⟩ (.slice aE ((rd_T103 l0 aA).f9.f1).length aF)) = dK
         have n0_ : Aside0 (dK.heap[aC]? = some (.cells #[.int .i64 ((rd_T103 l0 aA).f0), .int .i64 ((rd_T103 l0 aA).f1), .string ((rd_T103 l0 aA).f2), .string ((rd_T103 l0 aA).f3), .int .i64 ((rd_T103 l0 aA).f4), .int .i64 ((rd_T103 l0 aA).f5), .int .i64 ((rd_T103 l0 aA).f6), .int .i64 ((rd_T103 l0 aA).f7), .int .i64 ((rd_T103 l0 aA).f8), .int .i64 ((rd_T103 l0 aA).f9.f0), .slice aE ((rd_T103 l0 aA).f9.f1).length aF] 103 (0, 0))) := ⟨by rw [← hq_]; exact P11 aB⟩
         have n1_ : Aside0 (Below w.heap.size w dK) := ⟨by rw [← hq_]; exact K1 HB aI.out⟩
         clear hq_
         (try clear aB)
         (try clear HB)
         have aB := n0_
         have HB := n1_
         clear n0_ n1_
         replace aB := am (blk_drew aB.out)
         replace HB := am (below_drew1 HB.out)
         refine start_ (n := 26) (S := fun w' => de11 w' aC (.int .i64 ((rd_T103 l0 aA).f0)) (.int .i64 ((rd_T103 l0 aA).f1)) (.string ((rd_T103 l0 aA).f2)) (.string ((rd_T103 l0 aA).f3)) (.int .i64 ((rd_T103 l0 aA).f4)) (.int .i64 ((rd_T103 l0 aA).f5)) (.int .i64 ((rd_T103 l0 aA).f6)) (.int .i64 ((rd_T103 l0 aA).f7)) (.int .i64 ((rd_T103 l0 aA).f8)) (.int .i64 ((rd_T103 l0 aA).f9.f0)) (.slice aE ((rd_T103 l0 aA).f9.f1).length aF)) (ds := []) (tf 0 26) (by kernel_rfl) rfl rfl ⟨z0 _ aB.out, z1 _ aB.out, z2 _ aB.out, z3 _ aB.out, z4 _ aB.out, z5 _ aB.out, z6 _ aB.out, z7 _ aB.out, z8 _ aB.out, z9 _ aB.out, z10 _ aB.out⟩ (fun aH => ?_); refine with_tabW impl_ascending_tunOf.tab4 impl_ascending_tunOf.bits4 (fun aD cC => ?_)
         generalize dK.drew = dY at aB HB aH ⊢
         refine tk 0 (some 16) (tf 1 25) (take_ofW aD.out cC.out (by kernel_rfl)) aH ?_
         refine one_ (i := 1) (N := some 17) (tf 2 24) rfl rfl (one_of aD.out (by kernel_rfl)) (by decide) (fun K hK => ?_)
         refine goes_ Tryz.func75 (by kernel_rfl) rfl #[.agg #[.int .i64 ((rd_T103 l0 aA).f0), .int .i64 ((rd_T103 l0 aA).f1), .string ((rd_T103 l0 aA).f2), .string ((rd_T103 l0 aA).f3), .int .i64 ((rd_T103 l0 aA).f4), .int .i64 ((rd_T103 l0 aA).f5), .int .i64 ((rd_T103 l0 aA).f6), .int .i64 ((rd_T103 l0 aA).f7), .int .i64 ((rd_T103 l0 aA).f8), .int .i64 ((rd_T103 l0 aA).f9.f0), .slice aE ((rd_T103 l0 aA).f9.f1).length aF]] (by rfl) rfl rfl MT ?_
         with_reducible refine (impl_SaOk.calls k1 ((rd_T103 l0 aA).f0) ((rd_T103 l0 aA).f1) ((rd_T103 l0 aA).f2) ((rd_T103 l0 aA).f3) ((rd_T103 l0 aA).f4) ((rd_T103 l0 aA).f5) ((rd_T103 l0 aA).f6) ((rd_T103 l0 aA).f7) ((rd_T103 l0 aA).f8) ((rd_T103 l0 aA).f9.f0) _ _ ((rd_T103 l0 aA).f9.f1) true _ ?_ ?_ cO.out).mono ?_
         exact KD aJ HB
         exact aK.out
         rintro e dZ ⟨rfl, hb⟩
         refine ⟨_, rfl, ?_⟩
         replace aB := am (BB aB hb)
         replace HB := bl (K1 HB aI.out) hb
         (try clear hb)
         (try clear hb2)
         (try clear hk)
         (try clear hi)
         refine hK.out _ _ ⟨z0 _ aB.out, z1 _ aB.out, z2 _ aB.out, z3 _ aB.out, z4 _ aB.out, z5 _ aB.out, z6 _ aB.out, z7 _ aB.out, z8 _ aB.out, z9 _ aB.out, z10 _ aB.out⟩ (fun aH => ?_)
         clear hK K
         refine nm (some 17) ?_
         refine pv aD 2 18 (tf 3 23) ?_
         refine pv aD 3 19 (tf 4 22) ?_
         refine pv aD 4 20 (tf 5 21) ?_
         refine pv aD 6 22 (tr [5, 1, 1, 19]) ?_
         refine tk 5 (some 21) (tf 7 19) (take_ofW aD.out cC.out (by kernel_rfl)) aH ?_
         refine pv aD 7 23 (tf 8 18) ?_
         refine pv aD 8 24 (tf 9 17) ?_
         refine pv aD 9 25 (tf 10 16) ?_
         refine pw aD 10 26 (tf 11 15) ?_
         refine pw aD 11 27 (tf 12 14) ?_
         refine pw aD 12 28 (tf 13 13) ?_
         refine pw aD 13 29 (tf 14 12) ?_
         refine pw aD 14 30 (tf 15 11) ?_
         refine pw aD 15 31 (tf 16 10) ?_
         refine pw aD 16 32 (tf 17 9) ?_
         refine pw aD 17 33 (tf 18 8) ?_
         refine pw aD 18 34 (tf 19 7) ?_
         refine pw aD 19 35 (tf 20 6) ?_
         refine pw aD 20 36 (tf 21 5) ?_
         refine pw aD 21 37 (tf 22 4) ?_
         refine pw aD 22 38 (tf 23 3) ?_
         refine pw aD 23 39 (tf 24 2) ?_
         refine pw aD 24 40 (tf 25 1) ?_
         refine pv aD 25 41 (tf 26 0) ?_
         refine done_ (done_of aD.out (by kernel_rfl)) ?_
         try go_wp2
         go_meet
         case rel => exact ⟨_, (true), (by first | rfl | (simp; done) | (simp [*]; done)), H', ⟨by have := HK1.out; first | omega | exact Nat.le_refl _⟩, ⟨KB aB⟩, ⟨K1 HB aI.out⟩⟩
        ·rw [if_neg cJ] at H
         have c12b0 : decide (a1 < ((rd_T103 l0 aA).f4)) = false := decide_eq_false cJ
         clear cJ
         (first | rw [c12b0] | (simp only [i64_w, i32_w]; rw [c12b0]) | skip)
         by_cases cG : aA > 0
         ·rw [if_pos cG] at H
          have c16b0 : decide (0 < aA) = true := decide_eq_true cG
          clear cG
          obtain ⟨ji17, hji17⟩ : ∃ j_ : Int, (wrap64 (aA - 1)) = j_ := ⟨_, rfl⟩
          replace H : (if 0 ≤ (ji17) then (if (ji17) < (l0.length : Int) then ((impl_tunOf.f ((rd_T103 l0 (ji17)).f0) ((rd_T103 l0 (ji17)).f1) ((rd_T103 l0 (ji17)).f2) ((rd_T103 l0 (ji17)).f3) ((rd_T103 l0 (ji17)).f4) ((rd_T103 l0 (ji17)).f5) ((rd_T103 l0 (ji17)).f6) ((rd_T103 l0 (ji17)).f7) ((rd_T103 l0 (ji17)).f8) ((rd_T103 l0 (ji17)).f9.f0) ((rd_T103 l0 (ji17)).f9.f1)).bind fun bL => ((impl_tunOf.f ((rd_T103 l0 aA).f0) ((rd_T103 l0 aA).f1) ((rd_T103 l0 aA).f2) ((rd_T103 l0 aA).f3) ((rd_T103 l0 aA).f4) ((rd_T103 l0 aA).f5) ((rd_T103 l0 aA).f6) ((rd_T103 l0 aA).f7) ((rd_T103 l0 aA).f8) ((rd_T103 l0 aA).f9.f0) ((rd_T103 l0 aA).f9.f1)).bind fun bH => (impl_ascending_tunOf.j1 k1 l0 a1 l0 (l0.length : Int) aA (decide (bL ≥ bH))))) else (none)) else (none)) = some r := by first | (rw [hji17] at H; exact H) | (simp only [hji17] at H ⊢; exact H)
          (try rw [hji17] at cO)
          have hji17w : (IntKind.i64.wrap (aA - 1)) = ji17 := (i64_w _).trans hji17
          by_cases cQ : 0 ≤ (ji17)
          ·rw [if_pos cQ] at H
           have c18b0 : decide (0 ≤ (ji17)) = true := decide_eq_true cQ
           clear cQ
           by_cases cR : (ji17) < (l0.length : Int)
           ·rw [if_pos cR] at H
            have c19b0 : decide ((ji17) < (l0.length : Int)) = true := decide_eq_true cR
            clear cR
            replace H := bm H
            obtain ⟨bL, cS, H⟩ := H
            replace H : ((impl_tunOf.f ((rd_T103 l0 aA).f0) ((rd_T103 l0 aA).f1) ((rd_T103 l0 aA).f2) ((rd_T103 l0 aA).f3) ((rd_T103 l0 aA).f4) ((rd_T103 l0 aA).f5) ((rd_T103 l0 aA).f6) ((rd_T103 l0 aA).f7) ((rd_T103 l0 aA).f8) ((rd_T103 l0 aA).f9.f0) ((rd_T103 l0 aA).f9.f1)).bind fun bH => (impl_ascending_tunOf.j1 k1 l0 a1 l0 (l0.length : Int) aA (decide (bL ≥ bH)))) = some r := H
            have dV := Aside0.mk cS
            clear cS
            replace H := bm H
            obtain ⟨bH, cT, H⟩ := H
            replace H : (impl_ascending_tunOf.j1 k1 l0 a1 l0 (l0.length : Int) aA (decide (bL ≥ bH))) = some r := H
            have dW := Aside0.mk cT
            clear cT
            have H' := Aside0.mk H
            clear H
            try go_wp2
            generalize hq_ : (((((((((((w8.setCell ⟨aC, 0, none⟩ (.int .i64 ((rd_T103 l0 aA).f0))).setCell ⟨aC, 1, none⟩ (.int .i64 ((rd_T103 l0 aA).f1))).setCell ⟨aC, 2, none⟩ (.string ((rd_T103 l0 aA).f2))).setCell ⟨aC, 3, none⟩ (.string ((rd_T103 l0 aA).f3))).setCell ⟨aC, 4, none⟩ (.int .i64 ((rd_T103 l0 aA).f4))).setCell ⟨aC, 5, none⟩ (.int .i64 ((rd_T103 l0 aA).f5))).setCell ⟨aC, 6, none⟩ (.int .i64 ((rd_T103 l0 aA).f6))).setCell ⟨aC, 7, none⟩ (.int .i64 ((rd_T103 l0 aA).f7))).setCell ⟨aC, 8, none⟩ (.int .i64 ((rd_T103 l0 aA).f8))).setCell ⟨aC, 9, none⟩ (.int .i64 ((rd_T103 l0 aA).f9.f0))).setCell ⟨aC, 10, none⟩ (.slice aE ((rd_T103 l0 aA).f9.f1).length aF)) = dL
            have n0_ : Aside0 (dL.heap[aC]? = some (.cells #[.int .i64 ((rd_T103 l0 aA).f0), .int .i64 ((rd_T103 l0 aA).f1), .string ((rd_T103 l0 aA).f2), .string ((rd_T103 l0 aA).f3), .int .i64 ((rd_T103 l0 aA).f4), .int .i64 ((rd_T103 l0 aA).f5), .int .i64 ((rd_T103 l0 aA).f6), .int .i64 ((rd_T103 l0 aA).f7), .int .i64 ((rd_T103 l0 aA).f8), .int .i64 ((rd_T103 l0 aA).f9.f0), .slice aE ((rd_T103 l0 aA).f9.f1).length aF] 103 (0, 0))) := ⟨by rw [← hq_]; exact P11 aB⟩
            have n1_ : Aside0 (Below w.heap.size w dL) := ⟨by rw [← hq_]; exact K1 HB aI.out⟩
            clear hq_
            (try clear aB)
            (try clear HB)
            have aB := n0_
            have HB := n1_
            clear n0_ n1_
            replace aB := am (blk_drew aB.out)
            replace HB := am (below_drew1 HB.out)
            have cH : 0 ≤ ((ji17) : Int) := OD
            have cI : (ji17) < (l0.length : Int) := OD
            obtain ⟨cU, cA, cB, dM, aN, aO, aP, aQ, aR, aS, aT, aU, aV, aW, aL, bM, bN⟩ := at_T103 dS.out (ji17) cH cI
            have aM := aL
            have aX := aW
            have aY := aV
            have aZ := aU
            have bA := aT
            have bB := aS
            have bC := aR
            have bD := aQ
            have bE := aP
            have bF := aO
            have bG := aN
            obtain rfl : aG = cU := (by injection dM)
            replace aN := CX HB.out aN
            replace aO := CX HB.out aO
            replace aP := CX HB.out aP
            replace aQ := CX HB.out aQ
            replace aR := CX HB.out aR
            replace aS := CX HB.out aS
            replace aT := CX HB.out aT
            replace aU := CX HB.out aU
            replace aV := CX HB.out aV
            replace aW := CX HB.out aW
            replace aL := CX HB.out aL
            have bO := Aside0.mk bN
            have cD := Aside0.mk bM
            clear bN bM
            replace cH := eq_true cH
            replace cI := eq_true cI
            refine start_ (n := 26) (S := fun w' => ce11 w' aC (.int .i64 ((rd_T103 l0 aA).f0)) (.int .i64 ((rd_T103 l0 aA).f1)) (.string ((rd_T103 l0 aA).f2)) (.string ((rd_T103 l0 aA).f3)) (.int .i64 ((rd_T103 l0 aA).f4)) (.int .i64 ((rd_T103 l0 aA).f5)) (.int .i64 ((rd_T103 l0 aA).f6)) (.int .i64 ((rd_T103 l0 aA).f7)) (.int .i64 ((rd_T103 l0 aA).f8)) (.int .i64 ((rd_T103 l0 aA).f9.f0)) (.slice aE ((rd_T103 l0 aA).f9.f1).length aF) (w'.cell? (aG.add (((ji17)).toNat * 11)) = some (.int .i64 ((rd_T103 l0 (ji17)).f0)) ∧ w'.cell? ⟨(aG.add (((ji17)).toNat * 11)).block, (aG.add (((ji17)).toNat * 11)).off + 1, none⟩ = some (.int .i64 ((rd_T103 l0 (ji17)).f1)) ∧ w'.cell? ⟨(aG.add (((ji17)).toNat * 11)).block, (aG.add (((ji17)).toNat * 11)).off + 2, none⟩ = some (.string ((rd_T103 l0 (ji17)).f2)) ∧ w'.cell? ⟨(aG.add (((ji17)).toNat * 11)).block, (aG.add (((ji17)).toNat * 11)).off + 3, none⟩ = some (.string ((rd_T103 l0 (ji17)).f3)) ∧ w'.cell? ⟨(aG.add (((ji17)).toNat * 11)).block, (aG.add (((ji17)).toNat * 11)).off + 4, none⟩ = some (.int .i64 ((rd_T103 l0 (ji17)).f4)) ∧ w'.cell? ⟨(aG.add (((ji17)).toNat * 11)).block, (aG.add (((ji17)).toNat * 11)).off + 5, none⟩ = some (.int .i64 ((rd_T103 l0 (ji17)).f5)) ∧ w'.cell? ⟨(aG.add (((ji17)).toNat * 11)).block, (aG.add (((ji17)).toNat * 11)).off + 6, none⟩ = some (.int .i64 ((rd_T103 l0 (ji17)).f6)) ∧ w'.cell? ⟨(aG.add (((ji17)).toNat * 11)).block, (aG.add (((ji17)).toNat * 11)).off + 7, none⟩ = some (.int .i64 ((rd_T103 l0 (ji17)).f7)) ∧ w'.cell? ⟨(aG.add (((ji17)).toNat * 11)).block, (aG.add (((ji17)).toNat * 11)).off + 8, none⟩ = some (.int .i64 ((rd_T103 l0 (ji17)).f8)) ∧ w'.cell? ⟨(aG.add (((ji17)).toNat * 11)).block, (aG.add (((ji17)).toNat * 11)).off + 9, none⟩ = some (.int .i64 ((rd_T103 l0 (ji17)).f9.f0)) ∧ w'.cell? ⟨(aG.add (((ji17)).toNat * 11)).block, (aG.add (((ji17)).toNat * 11)).off + 10, none⟩ = some (.slice cA ((rd_T103 l0 (ji17)).f9.f1).length cB))) (ds := []) (tf 0 26) (by kernel_rfl) rfl rfl ⟨z0 _ aB.out, z1 _ aB.out, z2 _ aB.out, z3 _ aB.out, z4 _ aB.out, z5 _ aB.out, z6 _ aB.out, z7 _ aB.out, z8 _ aB.out, z9 _ aB.out, z10 _ aB.out, (CY HB.out bG), (CY HB.out bF), (CY HB.out bE), (CY HB.out bD), (CY HB.out bC), (CY HB.out bB), (CY HB.out bA), (CY HB.out aZ), (CY HB.out aY), (CY HB.out aX), (CY HB.out aM)⟩ (fun aH => ?_); refine with_tabW impl_ascending_tunOf.tab4 impl_ascending_tunOf.bits4 (fun aD cC => ?_)
            generalize dL.drew = eA at aB HB bO aN aO aL aP aQ aR aS aT aU aV aW aH ⊢
            refine tk 0 (some 16) (tf 1 25) (take_ofW aD.out cC.out (by kernel_rfl)) aH ?_
            refine one_ (i := 1) (N := some 17) (tf 2 24) rfl rfl (one_of aD.out (by kernel_rfl)) (by decide) (fun K hK => ?_)
            refine goes_ Tryz.func75 (by kernel_rfl) rfl #[.agg #[.int .i64 ((rd_T103 l0 aA).f0), .int .i64 ((rd_T103 l0 aA).f1), .string ((rd_T103 l0 aA).f2), .string ((rd_T103 l0 aA).f3), .int .i64 ((rd_T103 l0 aA).f4), .int .i64 ((rd_T103 l0 aA).f5), .int .i64 ((rd_T103 l0 aA).f6), .int .i64 ((rd_T103 l0 aA).f7), .int .i64 ((rd_T103 l0 aA).f8), .int .i64 ((rd_T103 l0 aA).f9.f0), .slice aE ((rd_T103 l0 aA).f9.f1).length aF]] (by rfl) rfl rfl MT ?_
            with_reducible refine (impl_SaOk.calls k1 ((rd_T103 l0 aA).f0) ((rd_T103 l0 aA).f1) ((rd_T103 l0 aA).f2) ((rd_T103 l0 aA).f3) ((rd_T103 l0 aA).f4) ((rd_T103 l0 aA).f5) ((rd_T103 l0 aA).f6) ((rd_T103 l0 aA).f7) ((rd_T103 l0 aA).f8) ((rd_T103 l0 aA).f9.f0) _ _ ((rd_T103 l0 aA).f9.f1) true _ ?_ ?_ cO.out).mono ?_
            exact KD aJ HB
            exact aK.out
            rintro e eB ⟨rfl, hb⟩
            refine ⟨_, rfl, ?_⟩
            replace aB := am (BB aB hb)
            replace HB := bl (K1 HB aI.out) hb
            (try clear hb)
            (try clear hb2)
            (try clear hk)
            (try clear hi)
            refine hK.out _ _ ⟨z0 _ aB.out, z1 _ aB.out, z2 _ aB.out, z3 _ aB.out, z4 _ aB.out, z5 _ aB.out, z6 _ aB.out, z7 _ aB.out, z8 _ aB.out, z9 _ aB.out, z10 _ aB.out, (CY HB.out bG), (CY HB.out bF), (CY HB.out bE), (CY HB.out bD), (CY HB.out bC), (CY HB.out bB), (CY HB.out bA), (CY HB.out aZ), (CY HB.out aY), (CY HB.out aX), (CY HB.out aM)⟩ (fun aH => ?_)
            clear hK K
            refine nm (some 17) ?_
            refine pv aD 2 18 (tf 3 23) ?_
            refine pv aD 3 19 (tf 4 22) ?_
            refine pv aD 4 20 (tf 5 21) ?_
            refine pv aD 6 22 (tr [5, 1, 1, 19]) ?_
            refine tk 5 (some 21) (tf 7 19) (take_ofW aD.out cC.out (by kernel_rfl)) aH ?_
            refine pv aD 7 23 (tf 8 18) ?_
            refine pv aD 8 24 (tf 9 17) ?_
            refine pv aD 9 25 (tf 10 16) ?_
            refine pv aD 10 26 (tf 11 15) ?_
            refine pv aD 11 27 (tf 12 14) ?_
            refine pv aD 12 28 (tf 13 13) ?_
            refine pv aD 13 29 (tf 14 12) ?_
            refine pv aD 14 30 (tf 15 11) ?_
            refine pv aD 15 31 (tf 16 10) ?_
            refine pv aD 16 32 (tf 17 9) ?_
            refine pv aD 17 33 (tf 18 8) ?_
            refine pv aD 20 36 (tr [18, 2, 1, 5]) ?_
            refine tk 18 (some 34) (tr [19, 1, 1, 5]) (take_ofW aD.out cC.out (by kernel_rfl)) aH ?_
            refine tk 21 (some 37) (tr [19, 1, 2, 4]) (take_ofW aD.out cC.out (by kernel_rfl)) aH ?_
            refine one_ (i := 19) (N := some 35) (tf 22 4) rfl rfl (one_of aD.out (by kernel_rfl)) (by decide) (fun K hK => ?_)
            refine goesW_ Tryz.func54 (by kernel_rfl) rfl #[.agg #[.int .i64 ((rd_T103 l0 (ji17)).f0), .int .i64 ((rd_T103 l0 (ji17)).f1), .string ((rd_T103 l0 (ji17)).f2), .string ((rd_T103 l0 (ji17)).f3), .int .i64 ((rd_T103 l0 (ji17)).f4), .int .i64 ((rd_T103 l0 (ji17)).f5), .int .i64 ((rd_T103 l0 (ji17)).f6), .int .i64 ((rd_T103 l0 (ji17)).f7), .int .i64 ((rd_T103 l0 (ji17)).f8), .int .i64 ((rd_T103 l0 (ji17)).f9.f0), .slice cA ((rd_T103 l0 (ji17)).f9.f1).length cB]] (by rfl) rfl rfl (by first | rfl | (simp [Act.eval, Act.put]; done)) (by (try simp only [List.map_toArray, List.map_cons, List.map_nil]); first | done | (simp only [hji17]; rfl) | rfl | (simp only [List.length_drop, List.length_take]; rfl)) ?_
            with_reducible refine (impl_tunOf.calls ((rd_T103 l0 (ji17)).f0) ((rd_T103 l0 (ji17)).f1) ((rd_T103 l0 (ji17)).f2) ((rd_T103 l0 (ji17)).f3) ((rd_T103 l0 (ji17)).f4) ((rd_T103 l0 (ji17)).f5) ((rd_T103 l0 (ji17)).f6) ((rd_T103 l0 (ji17)).f7) ((rd_T103 l0 (ji17)).f8) ((rd_T103 l0 (ji17)).f9.f0) _ _ ((rd_T103 l0 (ji17)).f9.f1) bL _ ?_ ?_ dV.out).mono ?_
            exact KD bO HB
            exact cD.out
            rintro e eC ⟨rfl, hb⟩
            refine ⟨_, rfl, ?_⟩
            replace aB := am (BB aB hb)
            replace HB := bl (K1 HB aI.out) hb
            (try clear hb)
            (try clear hb2)
            (try clear hk)
            (try clear hi)
            refine hK.out _ _ ⟨z0 _ aB.out, z1 _ aB.out, z2 _ aB.out, z3 _ aB.out, z4 _ aB.out, z5 _ aB.out, z6 _ aB.out, z7 _ aB.out, z8 _ aB.out, z9 _ aB.out, z10 _ aB.out, (CY HB.out bG), (CY HB.out bF), (CY HB.out bE), (CY HB.out bD), (CY HB.out bC), (CY HB.out bB), (CY HB.out bA), (CY HB.out aZ), (CY HB.out aY), (CY HB.out aX), (CY HB.out aM)⟩ (fun aH => ?_)
            clear hK K
            refine nm (some 35) ?_
            refine one_ (i := 22) (N := some 38) (tf 23 3) rfl rfl (one_of aD.out (by kernel_rfl)) (by decide) (fun K hK => ?_)
            refine goesW_ Tryz.func54 (by kernel_rfl) rfl #[.agg #[.int .i64 ((rd_T103 l0 aA).f0), .int .i64 ((rd_T103 l0 aA).f1), .string ((rd_T103 l0 aA).f2), .string ((rd_T103 l0 aA).f3), .int .i64 ((rd_T103 l0 aA).f4), .int .i64 ((rd_T103 l0 aA).f5), .int .i64 ((rd_T103 l0 aA).f6), .int .i64 ((rd_T103 l0 aA).f7), .int .i64 ((rd_T103 l0 aA).f8), .int .i64 ((rd_T103 l0 aA).f9.f0), .slice aE ((rd_T103 l0 aA).f9.f1).length aF]] (by rfl) rfl rfl (by first | rfl | (simp [Act.eval, Act.put]; done)) MT ?_
            with_reducible refine (impl_tunOf.calls ((rd_T103 l0 aA).f0) ((rd_T103 l0 aA).f1) ((rd_T103 l0 aA).f2) ((rd_T103 l0 aA).f3) ((rd_T103 l0 aA).f4) ((rd_T103 l0 aA).f5) ((rd_T103 l0 aA).f6) ((rd_T103 l0 aA).f7) ((rd_T103 l0 aA).f8) ((rd_T103 l0 aA).f9.f0) _ _ ((rd_T103 l0 aA).f9.f1) bH _ ?_ ?_ dW.out).mono ?_
            exact KD aJ HB
            exact aK.out
            rintro e eD ⟨rfl, hb⟩
            refine ⟨_, rfl, ?_⟩
            replace aB := am (BB aB hb)
            replace HB := bl (K1 HB aI.out) hb
            (try clear hb)
            (try clear hb2)
            (try clear hk)
            (try clear hi)
            refine hK.out _ _ ⟨z0 _ aB.out, z1 _ aB.out, z2 _ aB.out, z3 _ aB.out, z4 _ aB.out, z5 _ aB.out, z6 _ aB.out, z7 _ aB.out, z8 _ aB.out, z9 _ aB.out, z10 _ aB.out, (CY HB.out bG), (CY HB.out bF), (CY HB.out bE), (CY HB.out bD), (CY HB.out bC), (CY HB.out bB), (CY HB.out bA), (CY HB.out aZ), (CY HB.out aY), (CY HB.out aX), (CY HB.out aM)⟩ (fun aH => ?_)
            clear hK K
            refine nm (some 38) ?_
            refine pv aD 23 39 (tf 24 2) ?_
            refine pv aD 24 40 (tf 25 1) ?_
            refine pv aD 25 41 (tf 26 0) ?_
            refine done_ (done_of aD.out (by kernel_rfl)) ?_
            try go_wp2
            go_meet
            case rel => exact ⟨_, (decide (bL ≥ bH)), (by first | rfl | (simp; done) | (simp [*]; done)), H', ⟨by have := HK1.out; first | omega | exact Nat.le_refl _⟩, ⟨KB aB⟩, ⟨K1 HB aI.out⟩⟩
           ·rw [if_neg cR] at H
            exact absurd H (by simp)
          ·rw [if_neg cQ] at H
           exact absurd H (by simp)
         ·rw [if_neg cG] at H
          have c16b0 : decide (0 < aA) = false := decide_eq_false cG
          clear cG
          have H' := Aside0.mk H
          clear H
          try go_wp2
          generalize hq_ : (((((((((((w8.setCell ⟨aC, 0, none⟩ (.int .i64 ((rd_T103 l0 aA).f0))).setCell ⟨aC, 1, none⟩ (.int .i64 ((rd_T103 l0 aA).f1))).setCell ⟨aC, 2, none⟩ (.string ((rd_T103 l0 aA).f2))).setCell ⟨aC, 3, none⟩ (.string ((rd_T103 l0 aA).f3))).setCell ⟨aC, 4, none⟩ (.int .i64 ((rd_T103 l0 aA).f4))).setCell ⟨aC, 5, none⟩ (.int .i64 ((rd_T103 l0 aA).f5))).setCell ⟨aC, 6, none⟩ (.int .i64 ((rd_T103 l0 aA).f6))).setCell ⟨aC, 7, none⟩ (.int .i64 ((rd_T103 l0 aA).f7))).setCell ⟨aC, 8, none⟩ (.int .i64 ((rd_T103 l0 aA).f8))).setCell ⟨aC, 9, none⟩ (.int .i64 ((rd_T103 l0 aA).f9.f0))).setCell ⟨aC, 10, none⟩ (.slice aE ((rd_T103 l0 aA).f9.f1).length aF)) = dN
          have n0_ : Aside0 (dN.heap[aC]? = some (.cells #[.int .i64 ((rd_T103 l0 aA).f0), .int .i64 ((rd_T103 l0 aA).f1), .string ((rd_T103 l0 aA).f2), .string ((rd_T103 l0 aA).f3), .int .i64 ((rd_T103 l0 aA).f4), .int .i64 ((rd_T103 l0 aA).f5), .int .i64 ((rd_T103 l0 aA).f6), .int .i64 ((rd_T103 l0 aA).f7), .int .i64 ((rd_T103 l0 aA).f8), .int .i64 ((rd_T103 l0 aA).f9.f0), .slice aE ((rd_T103 l0 aA).f9.f1).length aF] 103 (0, 0))) := ⟨by rw [← hq_]; exact P11 aB⟩
          have n1_ : Aside0 (Below w.heap.size w dN) := ⟨by rw [← hq_]; exact K1 HB aI.out⟩
          clear hq_
          (try clear aB)
          (try clear HB)
          have aB := n0_
          have HB := n1_
          clear n0_ n1_
          replace aB := am (blk_drew aB.out)
          replace HB := am (below_drew1 HB.out)
          refine start_ (n := 26) (S := fun w' => de11 w' aC (.int .i64 ((rd_T103 l0 aA).f0)) (.int .i64 ((rd_T103 l0 aA).f1)) (.string ((rd_T103 l0 aA).f2)) (.string ((rd_T103 l0 aA).f3)) (.int .i64 ((rd_T103 l0 aA).f4)) (.int .i64 ((rd_T103 l0 aA).f5)) (.int .i64 ((rd_T103 l0 aA).f6)) (.int .i64 ((rd_T103 l0 aA).f7)) (.int .i64 ((rd_T103 l0 aA).f8)) (.int .i64 ((rd_T103 l0 aA).f9.f0)) (.slice aE ((rd_T103 l0 aA).f9.f1).length aF)) (ds := []) (tf 0 26) (by kernel_rfl) rfl rfl ⟨z0 _ aB.out, z1 _ aB.out, z2 _ aB.out, z3 _ aB.out, z4 _ aB.out, z5 _ aB.out, z6 _ aB.out, z7 _ aB.out, z8 _ aB.out, z9 _ aB.out, z10 _ aB.out⟩ (fun aH => ?_); refine with_tabW impl_ascending_tunOf.tab4 impl_ascending_tunOf.bits4 (fun aD cC => ?_)
          generalize dN.drew = eE at aB HB aH ⊢
          refine tk 0 (some 16) (tf 1 25) (take_ofW aD.out cC.out (by kernel_rfl)) aH ?_
          refine one_ (i := 1) (N := some 17) (tf 2 24) rfl rfl (one_of aD.out (by kernel_rfl)) (by decide) (fun K hK => ?_)
          refine goes_ Tryz.func75 (by kernel_rfl) rfl #[.agg #[.int .i64 ((rd_T103 l0 aA).f0), .int .i64 ((rd_T103 l0 aA).f1), .string ((rd_T103 l0 aA).f2), .string ((rd_T103 l0 aA).f3), .int .i64 ((rd_T103 l0 aA).f4), .int .i64 ((rd_T103 l0 aA).f5), .int .i64 ((rd_T103 l0 aA).f6), .int .i64 ((rd_T103 l0 aA).f7), .int .i64 ((rd_T103 l0 aA).f8), .int .i64 ((rd_T103 l0 aA).f9.f0), .slice aE ((rd_T103 l0 aA).f9.f1).length aF]] (by rfl) rfl rfl MT ?_
          with_reducible refine (impl_SaOk.calls k1 ((rd_T103 l0 aA).f0) ((rd_T103 l0 aA).f1) ((rd_T103 l0 aA).f2) ((rd_T103 l0 aA).f3) ((rd_T103 l0 aA).f4) ((rd_T103 l0 aA).f5) ((rd_T103 l0 aA).f6) ((rd_T103 l0 aA).f7) ((rd_T103 l0 aA).f8) ((rd_T103 l0 aA).f9.f0) _ _ ((rd_T103 l0 aA).f9.f1) true _ ?_ ?_ cO.out).mono ?_
          exact KD aJ HB
          exact aK.out
          rintro e eF ⟨rfl, hb⟩
          refine ⟨_, rfl, ?_⟩
          replace aB := am (BB aB hb)
          replace HB := bl (K1 HB aI.out) hb
          (try clear hb)
          (try clear hb2)
          (try clear hk)
          (try clear hi)
          refine hK.out _ _ ⟨z0 _ aB.out, z1 _ aB.out, z2 _ aB.out, z3 _ aB.out, z4 _ aB.out, z5 _ aB.out, z6 _ aB.out, z7 _ aB.out, z8 _ aB.out, z9 _ aB.out, z10 _ aB.out⟩ (fun aH => ?_)
          clear hK K
          refine nm (some 17) ?_
          refine pv aD 2 18 (tf 3 23) ?_
          refine pv aD 3 19 (tf 4 22) ?_
          refine pv aD 4 20 (tf 5 21) ?_
          refine pv aD 6 22 (tr [5, 1, 1, 19]) ?_
          refine tk 5 (some 21) (tf 7 19) (take_ofW aD.out cC.out (by kernel_rfl)) aH ?_
          refine pv aD 7 23 (tf 8 18) ?_
          refine pv aD 8 24 (tf 9 17) ?_
          refine pv aD 9 25 (tf 10 16) ?_
          refine pv aD 10 26 (tf 11 15) ?_
          refine pv aD 11 27 (tf 12 14) ?_
          refine pv aD 12 28 (tf 13 13) ?_
          refine pw aD 13 29 (tf 14 12) ?_
          refine pw aD 14 30 (tf 15 11) ?_
          refine pw aD 15 31 (tf 16 10) ?_
          refine pw aD 16 32 (tf 17 9) ?_
          refine pw aD 17 33 (tf 18 8) ?_
          refine pw aD 18 34 (tf 19 7) ?_
          refine pw aD 19 35 (tf 20 6) ?_
          refine pw aD 20 36 (tf 21 5) ?_
          refine pw aD 21 37 (tf 22 4) ?_
          refine pw aD 22 38 (tf 23 3) ?_
          refine pw aD 23 39 (tf 24 2) ?_
          refine pv aD 24 40 (tf 25 1) ?_
          refine pv aD 25 41 (tf 26 0) ?_
          refine done_ (done_of aD.out (by kernel_rfl)) ?_
          try go_wp2
          go_meet
          case rel => exact ⟨_, (false), (by first | rfl | (simp; done) | (simp [*]; done)), H', ⟨by have := HK1.out; first | omega | exact Nat.le_refl _⟩, ⟨KB aB⟩, ⟨K1 HB aI.out⟩⟩
       ·replace cP := Bool.eq_false_iff.mpr cP
        subst cP
        have H1 := nf H
        clear H
        have H := H1
        clear H1
        have H' := Aside0.mk H
        clear H
        try go_wp2
        generalize hq_ : (((((((((((w8.setCell ⟨aC, 0, none⟩ (.int .i64 ((rd_T103 l0 aA).f0))).setCell ⟨aC, 1, none⟩ (.int .i64 ((rd_T103 l0 aA).f1))).setCell ⟨aC, 2, none⟩ (.string ((rd_T103 l0 aA).f2))).setCell ⟨aC, 3, none⟩ (.string ((rd_T103 l0 aA).f3))).setCell ⟨aC, 4, none⟩ (.int .i64 ((rd_T103 l0 aA).f4))).setCell ⟨aC, 5, none⟩ (.int .i64 ((rd_T103 l0 aA).f5))).setCell ⟨aC, 6, none⟩ (.int .i64 ((rd_T103 l0 aA).f6))).setCell ⟨aC, 7, none⟩ (.int .i64 ((rd_T103 l0 aA).f7))).setCell ⟨aC, 8, none⟩ (.int .i64 ((rd_T103 l0 aA).f8))).setCell ⟨aC, 9, none⟩ (.int .i64 ((rd_T103 l0 aA).f9.f0))).setCell ⟨aC, 10, none⟩ (.slice aE ((rd_T103 l0 aA).f9.f1).length aF)) = dO
        have n0_ : Aside0 (dO.heap[aC]? = some (.cells #[.int .i64 ((rd_T103 l0 aA).f0), .int .i64 ((rd_T103 l0 aA).f1), .string ((rd_T103 l0 aA).f2), .string ((rd_T103 l0 aA).f3), .int .i64 ((rd_T103 l0 aA).f4), .int .i64 ((rd_T103 l0 aA).f5), .int .i64 ((rd_T103 l0 aA).f6), .int .i64 ((rd_T103 l0 aA).f7), .int .i64 ((rd_T103 l0 aA).f8), .int .i64 ((rd_T103 l0 aA).f9.f0), .slice aE ((rd_T103 l0 aA).f9.f1).length aF] 103 (0, 0))) := ⟨by rw [← hq_]; exact P11 aB⟩
        have n1_ : Aside0 (Below w.heap.size w dO) := ⟨by rw [← hq_]; exact K1 HB aI.out⟩
        clear hq_
        (try clear aB)
        (try clear HB)
        have aB := n0_
        have HB := n1_
        clear n0_ n1_
        replace aB := am (blk_drew aB.out)
        replace HB := am (below_drew1 HB.out)
        refine start_ (n := 26) (S := fun w' => de11 w' aC (.int .i64 ((rd_T103 l0 aA).f0)) (.int .i64 ((rd_T103 l0 aA).f1)) (.string ((rd_T103 l0 aA).f2)) (.string ((rd_T103 l0 aA).f3)) (.int .i64 ((rd_T103 l0 aA).f4)) (.int .i64 ((rd_T103 l0 aA).f5)) (.int .i64 ((rd_T103 l0 aA).f6)) (.int .i64 ((rd_T103 l0 aA).f7)) (.int .i64 ((rd_T103 l0 aA).f8)) (.int .i64 ((rd_T103 l0 aA).f9.f0)) (.slice aE ((rd_T103 l0 aA).f9.f1).length aF)) (ds := []) (tf 0 26) (by kernel_rfl) rfl rfl ⟨z0 _ aB.out, z1 _ aB.out, z2 _ aB.out, z3 _ aB.out, z4 _ aB.out, z5 _ aB.out, z6 _ aB.out, z7 _ aB.out, z8 _ aB.out, z9 _ aB.out, z10 _ aB.out⟩ (fun aH => ?_); refine with_tabW impl_ascending_tunOf.tab4 impl_ascending_tunOf.bits4 (fun aD cC => ?_)
        generalize dO.drew = eG at aB HB aH ⊢
        refine tk 0 (some 16) (tf 1 25) (take_ofW aD.out cC.out (by kernel_rfl)) aH ?_
        refine one_ (i := 1) (N := some 17) (tf 2 24) rfl rfl (one_of aD.out (by kernel_rfl)) (by decide) (fun K hK => ?_)
        refine goes_ Tryz.func75 (by kernel_rfl) rfl #[.agg #[.int .i64 ((rd_T103 l0 aA).f0), .int .i64 ((rd_T103 l0 aA).f1), .string ((rd_T103 l0 aA).f2), .string ((rd_T103 l0 aA).f3), .int .i64 ((rd_T103 l0 aA).f4), .int .i64 ((rd_T103 l0 aA).f5), .int .i64 ((rd_T103 l0 aA).f6), .int .i64 ((rd_T103 l0 aA).f7), .int .i64 ((rd_T103 l0 aA).f8), .int .i64 ((rd_T103 l0 aA).f9.f0), .slice aE ((rd_T103 l0 aA).f9.f1).length aF]] (by rfl) rfl rfl MT ?_
        with_reducible refine (impl_SaOk.calls k1 ((rd_T103 l0 aA).f0) ((rd_T103 l0 aA).f1) ((rd_T103 l0 aA).f2) ((rd_T103 l0 aA).f3) ((rd_T103 l0 aA).f4) ((rd_T103 l0 aA).f5) ((rd_T103 l0 aA).f6) ((rd_T103 l0 aA).f7) ((rd_T103 l0 aA).f8) ((rd_T103 l0 aA).f9.f0) _ _ ((rd_T103 l0 aA).f9.f1) false _ ?_ ?_ cO.out).mono ?_
        exact KD aJ HB
        exact aK.out
        rintro e eH ⟨rfl, hb⟩
        refine ⟨_, rfl, ?_⟩
        replace aB := am (BB aB hb)
        replace HB := bl (K1 HB aI.out) hb
        (try clear hb)
        (try clear hb2)
        (try clear hk)
        (try clear hi)
        refine hK.out _ _ ⟨z0 _ aB.out, z1 _ aB.out, z2 _ aB.out, z3 _ aB.out, z4 _ aB.out, z5 _ aB.out, z6 _ aB.out, z7 _ aB.out, z8 _ aB.out, z9 _ aB.out, z10 _ aB.out⟩ (fun aH => ?_)
        clear hK K
        refine nm (some 17) ?_
        refine pv aD 2 18 (tf 3 23) ?_
        refine pv aD 3 19 (tf 4 22) ?_
        refine pw aD 4 20 (tf 5 21) ?_
        refine pw aD 5 21 (tf 6 20) ?_
        refine pw aD 6 22 (tf 7 19) ?_
        refine pw aD 7 23 (tf 8 18) ?_
        refine pv aD 8 24 (tf 9 17) ?_
        refine pv aD 9 25 (tf 10 16) ?_
        refine pw aD 10 26 (tf 11 15) ?_
        refine pw aD 11 27 (tf 12 14) ?_
        refine pw aD 12 28 (tf 13 13) ?_
        refine pw aD 13 29 (tf 14 12) ?_
        refine pw aD 14 30 (tf 15 11) ?_
        refine pw aD 15 31 (tf 16 10) ?_
        refine pw aD 16 32 (tf 17 9) ?_
        refine pw aD 17 33 (tf 18 8) ?_
        refine pw aD 18 34 (tf 19 7) ?_
        refine pw aD 19 35 (tf 20 6) ?_
        refine pw aD 20 36 (tf 21 5) ?_
        refine pw aD 21 37 (tf 22 4) ?_
        refine pw aD 22 38 (tf 23 3) ?_
        refine pw aD 23 39 (tf 24 2) ?_
        refine pw aD 24 40 (tf 25 1) ?_
        refine pv aD 25 41 (tf 26 0) ?_
        refine done_ (done_of aD.out (by kernel_rfl)) ?_
        try go_wp2
        go_meet
        case rel => exact ⟨_, (true), (by first | rfl | (simp; done) | (simp [*]; done)), H', ⟨by have := HK1.out; first | omega | exact Nat.le_refl _⟩, ⟨KB aB⟩, ⟨K1 HB aI.out⟩⟩
      case rest =>
       clear cX
       try clear c1
       try clear p2
       try clear c5
       try clear c7
       try clear eI
       try clear cP
       try clear cG
       try clear c16b0
       try clear cQ
       try clear cR
       obtain ⟨kq, bZ, rfl, HA, HJ6, aB, HB⟩ := hcut
       cases kq with
       | zero => exact absurd HA.out (by simp [impl_ascending_tunOf.j1])
       | succ kj6 =>
        have H := HA.out
        clear HA
        simp only [impl_ascending_tunOf.j1] at H
        by_cases cW : bZ = true
        ·subst cW
         have H1 := pf H
         clear H
         have H := H1
         clear H1
         obtain rfl := sj H
         go_wp2
         go_ret
         exact ⟨ER, K1 HB aI.out⟩
        ·replace cW := Bool.eq_false_iff.mpr cW
         subst cW
         have H1 := nf H
         clear H
         have H := H1
         clear H1
         have H' := Aside0.mk H
         clear H
         go_wp2
         go_roundg kj6
         case measure => have := HK1.out; have := HJ6.out; omega
         case rel => exact ⟨(wrap64 (aA + 1)), (by first | rfl | (simp; done) | (simp [*]; done)), H', ⟨by have := HK1.out; have := HJ6.out; omega⟩, ⟨K1 HB aI.out⟩⟩
     ·rw [if_neg c6] at H
      exact absurd H (by simp)
    ·rw [if_neg c5] at H
     exact absurd H (by simp)
   ·rw [if_neg c4] at H
    have c4b0 : decide (aA < (l0.length : Int)) = false := decide_eq_false c4
    clear c4
    obtain rfl := sj H
    go_wp2
    go_ret
    exact ⟨ER, KL HB⟩
mutual
def impl_ascending_spiOf.l0 : Nat → List (S103) → Int → List (S103) → Int → Int → Option (Bool)
 | 0, _, _, _, _, _ => none
 | k + 1, x0, x1, x9, x10, x11 => if x11 < x10 then (if 0 ≤ x11 then (if x11 < (x9.length : Int) then ((impl_SaOk.f k ((rd_T103 x9 x11).f0) ((rd_T103 x9 x11).f1) ((rd_T103 x9 x11).f2) ((rd_T103 x9 x11).f3) ((rd_T103 x9 x11).f4) ((rd_T103 x9 x11).f5) ((rd_T103 x9 x11).f6) ((rd_T103 x9 x11).f7) ((rd_T103 x9 x11).f8) ((rd_T103 x9 x11).f9.f0) ((rd_T103 x9 x11).f9.f1)).bind fun t103 => (if t103 = true then (if ((rd_T103 x9 x11).f4) > x1 then (impl_ascending_spiOf.j1 k x0 x1 x9 x10 x11 true) else (if x11 > 0 then (if 0 ≤ (wrap64 (x11 - 1)) then (if (wrap64 (x11 - 1)) < (x0.length : Int) then ((impl_spiOf.f ((rd_T103 x0 (wrap64 (x11 - 1))).f0) ((rd_T103 x0 (wrap64 (x11 - 1))).f1) ((rd_T103 x0 (wrap64 (x11 - 1))).f2) ((rd_T103 x0 (wrap64 (x11 - 1))).f3) ((rd_T103 x0 (wrap64 (x11 - 1))).f4) ((rd_T103 x0 (wrap64 (x11 - 1))).f5) ((rd_T103 x0 (wrap64 (x11 - 1))).f6) ((rd_T103 x0 (wrap64 (x11 - 1))).f7) ((rd_T103 x0 (wrap64 (x11 - 1))).f8) ((rd_T103 x0 (wrap64 (x11 - 1))).f9.f0) ((rd_T103 x0 (wrap64 (x11 - 1))).f9.f1)).bind fun t105 => ((impl_spiOf.f ((rd_T103 x9 x11).f0) ((rd_T103 x9 x11).f1) ((rd_T103 x9 x11).f2) ((rd_T103 x9 x11).f3) ((rd_T103 x9 x11).f4) ((rd_T103 x9 x11).f5) ((rd_T103 x9 x11).f6) ((rd_T103 x9 x11).f7) ((rd_T103 x9 x11).f8) ((rd_T103 x9 x11).f9.f0) ((rd_T103 x9 x11).f9.f1)).bind fun t106 => (impl_ascending_spiOf.j1 k x0 x1 x9 x10 x11 (decide (t105 ≥ t106))))) else (none)) else (none)) else (impl_ascending_spiOf.j1 k x0 x1 x9 x10 x11 false))) else (impl_ascending_spiOf.j1 k x0 x1 x9 x10 x11 true))) else (none)) else (none)) else (some true)
def impl_ascending_spiOf.j1 : Nat → List (S103) → Int → List (S103) → Int → Int → Bool → Option (Bool)
 | 0, _, _, _, _, _, _ => none
 | k + 1, x0, x1, x9, x10, x11, x41 => if x41 = true then (some false) else (impl_ascending_spiOf.l0 k x0 x1 x9 x10 (wrap64 (x11 + 1)))
end
def impl_ascending_spiOf.f (k : Nat) (l0 : List (S103)) (a1 : Int)  : Option (Bool) := impl_ascending_spiOf.l0 k l0 a1 l0 (l0.length : Int) 0
def impl_ascending_spiOf.T4 : Bool × List (List Nat × List Nat) := (true, [([], []), ([0], [0]), ([1], [1]), ([2, 1], [2]), ([3], [3]), ([4, 3], [3, 4]), ([3], [3]), ([5, 6, 3], [3, 5, 6]), ([3, 7], [3, 7]), ([8, 3], [8]), ([9], [9]), ([10, 9], [9, 10]), ([11, 9, 9], [9, 11]), ([12], [12]), ([12], [12]), ([12], [12]), ([15, 12], [12, 15]), ([14, 16, 12], [12, 14, 16]), ([17, 12], [12, 17]), ([13, 18, 12, 12], [12, 13, 18]), ([12], [12]), ([12], [12]), ([20, 21, 19, 12], [12, 20, 21]), ([19, 22, 12], [12, 19, 22]), ([12, 23, 9], [9, 12, 23]), ([9, 24], [9, 24])])
def impl_ascending_spiOf.B4 : List Nat := [0, 1, 3, 7, 15, 31, 15, 127, 255, 511, 1023, 2047, 4095, 8191, 8191, 8191, 40959, 122879, 253951, 524287, 8191, 8191, 4194303, 8388607, 16777215, 33554431]
theorem impl_ascending_spiOf.tab4 : rtab .any (opsOf Tryz.f53 4) = impl_ascending_spiOf.T4 := by kernel_rfl
theorem impl_ascending_spiOf.bits4 : waitsOk impl_ascending_spiOf.T4.2 impl_ascending_spiOf.B4 = true := by kernel_rfl
theorem impl_ascending_spiOf.calls (k : Nat) (A0 : Option Addr) (c0 : Nat) (l0 : List (S103)) (a1 : Int)  (r : Bool) (w : World) (dP : Kd.C k103 w A0 l0.length l0) (dQ : l0.length ≤ c0) (h : impl_ascending_spiOf.f k l0 a1 = some r) :
  Calls Tryz.prog 53 #[.slice A0 l0.length c0, .int .i64 a1, .func (.func 55) #[] #[]] w fun e w' => e = .returned (.bool r) ∧ Below w.heap.size w w' := by
 have dR := Tryz.underlying103
 have dS := Aside0.mk dP
 have dX := Aside0.mk dQ
 clear dP dQ
 have HB := am (Below.refl w.heap.size w)
 have H : (impl_ascending_spiOf.l0 k l0 a1 l0 (l0.length : Int) 0) = some r := h
 clear h
 have H' := Aside0.mk H
 clear H
 go_enter Tryz.func53, Tryz.ntmps53
 go_wp2
 go_loopg [11] k (fun kq dT w' => ∃ (aA : Int), dT = .int .i64 aA ∧ Aside0 (impl_ascending_spiOf.l0 kq l0 a1 l0 (l0.length : Int) aA = some r) ∧ Aside0 (kq ≤ k) ∧ Aside0 (Below w.heap.size w w'))
 case atStart => exact ⟨(0), (by first | rfl | (simp; done) | (simp [*]; done)), H', ⟨Nat.le_refl _⟩, ⟨KL HB⟩⟩
 case round =>
  clear H'
  try clear p2
  obtain ⟨aA, rfl, HA, HK1, HB⟩ := hrel
  cases gk with
  | zero => exact absurd HA.out (by simp [impl_ascending_spiOf.l0])
  | succ k1 =>
   have H := HA.out
   clear HA
   simp only [impl_ascending_spiOf.l0] at H
   by_cases c4 : aA < (l0.length : Int)
   ·rw [if_pos c4] at H
    have c4b0 : decide (aA < (l0.length : Int)) = true := decide_eq_true c4
    clear c4
    by_cases c5 : 0 ≤ aA
    ·rw [if_pos c5] at H
     have c5b0 : decide (0 ≤ aA) = true := decide_eq_true c5
     clear c5
     by_cases c6 : aA < (l0.length : Int)
     ·rw [if_pos c6] at H
      have c6b0 : decide (aA < (l0.length : Int)) = true := decide_eq_true c6
      clear c6
      have cX := Aside0.mk H
      clear H
      have cE : 0 ≤ (aA : Int) := OD
      have cF : aA < (l0.length : Int) := OD
      obtain ⟨aG, aE, aF, cY, bP, bQ, bR, bS, bT, bU, bV, bW, bX, bY, bI, bJ, bK⟩ := at_T103 dS.out aA cE cF
      cases cY
      replace bP := CX HB.out bP
      replace bQ := CX HB.out bQ
      replace bR := CX HB.out bR
      replace bS := CX HB.out bS
      replace bT := CX HB.out bT
      replace bU := CX HB.out bU
      replace bV := CX HB.out bV
      replace bW := CX HB.out bW
      replace bX := CX HB.out bX
      replace bY := CX HB.out bY
      replace bI := CX HB.out bI
      have aJ := Aside0.mk bK
      have aK := Aside0.mk bJ
      clear bK bJ
      replace cE := eq_true cE
      replace cF := eq_true cF
      go_upto_region 4 with (first | ((with_reducible refine gate_dst (N := 8) rfl ?_); refine box_event rfl (N := 8) rfl (cs := #[.int .i64 0, .int .i64 0, .string (⟨#[]⟩ : ByteArray), .string (⟨#[]⟩ : ByteArray), .int .i64 0, .int .i64 0, .int .i64 0, .int .i64 0, .int .i64 0, .int .i64 0, .slice none 0 0]) (t := 103) BX ?_; intro aC hg w8 cK hb; have aB := am (cK); have cL := am (GH HB hg); have aI := cL; replace HB := bl (KL HB) hb; clear hb cK hg; have ⟨_, _, _, _, _, _, _, _, _, _, _, _⟩ := y11 w8 aB.out))
      (try simp only [Act.put, List.setIfInBounds_toArray, List.set_cons_zero, List.set_cons_succ])
      go_cut [41] (fun dU wc => ∃ (kq : Nat) (bZ : Bool), dU = .bool bZ ∧ Aside0 (impl_ascending_spiOf.j1 kq l0 a1 l0 (l0.length : Int) aA bZ = some r) ∧ Aside0 (kq ≤ k1) ∧ Aside0 (wc.heap[aC]? = some (.cells #[.int .i64 ((rd_T103 l0 aA).f0), .int .i64 ((rd_T103 l0 aA).f1), .string ((rd_T103 l0 aA).f2), .string ((rd_T103 l0 aA).f3), .int .i64 ((rd_T103 l0 aA).f4), .int .i64 ((rd_T103 l0 aA).f5), .int .i64 ((rd_T103 l0 aA).f6), .int .i64 ((rd_T103 l0 aA).f7), .int .i64 ((rd_T103 l0 aA).f8), .int .i64 ((rd_T103 l0 aA).f9.f0), (.slice aE ((rd_T103 l0 aA).f9.f1).length aF)] 103 (0, 0))) ∧ Aside0 (Below w.heap.size w wc))
      case first =>
       have H := cX.out
       clear cX
       replace H := bm H
       obtain ⟨cM, cN, H⟩ := H
       replace H : (if cM = true then (if ((rd_T103 l0 aA).f4) > a1 then (impl_ascending_spiOf.j1 k1 l0 a1 l0 (l0.length : Int) aA true) else (if aA > 0 then (if 0 ≤ (wrap64 (aA - 1)) then (if (wrap64 (aA - 1)) < (l0.length : Int) then ((impl_spiOf.f ((rd_T103 l0 (wrap64 (aA - 1))).f0) ((rd_T103 l0 (wrap64 (aA - 1))).f1) ((rd_T103 l0 (wrap64 (aA - 1))).f2) ((rd_T103 l0 (wrap64 (aA - 1))).f3) ((rd_T103 l0 (wrap64 (aA - 1))).f4) ((rd_T103 l0 (wrap64 (aA - 1))).f5) ((rd_T103 l0 (wrap64 (aA - 1))).f6) ((rd_T103 l0 (wrap64 (aA - 1))).f7) ((rd_T103 l0 (wrap64 (aA - 1))).f8) ((rd_T103 l0 (wrap64 (aA - 1))).f9.f0) ((rd_T103 l0 (wrap64 (aA - 1))).f9.f1)).bind fun bL => ((impl_spiOf.f ((rd_T103 l0 aA).f0) ((rd_T103 l0 aA).f1) ((rd_T103 l0 aA).f2) ((rd_T103 l0 aA).f3) ((rd_T103 l0 aA).f4) ((rd_T103 l0 aA).f5) ((rd_T103 l0 aA).f6) ((rd_T103 l0 aA).f7) ((rd_T103 l0 aA).f8) ((rd_T103 l0 aA).f9.f0) ((rd_T103 l0 aA).f9.f1)).bind fun bH => (impl_ascending_spiOf.j1 k1 l0 a1 l0 (l0.length : Int) aA (decide (bL ≥ bH))))) else (none)) else (none)) else (impl_ascending_spiOf.j1 k1 l0 a1 l0 (l0.length : Int) aA false))) else (impl_ascending_spiOf.j1 k1 l0 a1 l0 (l0.length : Int) aA true)) = some r := H
       have cO := Aside0.mk cN
       clear cN
       by_cases cP : cM = true
       ·subst cP
        have H1 := pf H
        clear H
        have H := H1
        clear H1
        by_cases cJ : ((rd_T103 l0 aA).f4) > a1
        ·rw [if_pos cJ] at H
         have c12b0 : decide (a1 < ((rd_T103 l0 aA).f4)) = true := decide_eq_true cJ
         clear cJ
         (first | rw [c12b0] | (simp only [i64_w, i32_w]; rw [c12b0]) | skip)
         have H' := Aside0.mk H
         clear H
         try go_wp2
         generalize hq_ : (((((((((((w8.setCell ⟨aC, 0, none⟩ (.int .i64 ((rd_T103 l0 aA).f0))).setCell ⟨aC, 1, none⟩ (.int .i64 ((rd_T103 l0 aA).f1))).setCell ⟨aC, 2, none⟩ (.string ((rd_T103 l0 aA).f2))).setCell ⟨aC, 3, none⟩ (.string ((rd_T103 l0 aA).f3))).setCell ⟨aC, 4, none⟩ (.int .i64 ((rd_T103 l0 aA).f4))).setCell ⟨aC, 5, none⟩ (.int .i64 ((rd_T103 l0 aA).f5))).setCell ⟨aC, 6, none⟩ (.int .i64 ((rd_T103 l0 aA).f6))).setCell ⟨aC, 7, none⟩ (.int .i64 ((rd_T103 l0 aA).f7))).setCell ⟨aC, 8, none⟩ (.int .i64 ((rd_T103 l0 aA).f8))).setCell ⟨aC, 9, none⟩ (.int .i64 ((rd_T103 l0 aA).f9.f0))).setCell ⟨aC, 10, none⟩ (.slice aE ((rd_T103 l0 aA).f9.f1).length aF)) = dK
         have n0_ : Aside0 (dK.heap[aC]? = some (.cells #[.int .i64 ((rd_T103 l0 aA).f0), .int .i64 ((rd_T103 l0 aA).f1), .string ((rd_T103 l0 aA).f2), .string ((rd_T103 l0 aA).f3), .int .i64 ((rd_T103 l0 aA).f4), .int .i64 ((rd_T103 l0 aA).f5), .int .i64 ((rd_T103 l0 aA).f6), .int .i64 ((rd_T103 l0 aA).f7), .int .i64 ((rd_T103 l0 aA).f8), .int .i64 ((rd_T103 l0 aA).f9.f0), .slice aE ((rd_T103 l0 aA).f9.f1).length aF] 103 (0, 0))) := ⟨by rw [← hq_]; exact P11 aB⟩
         have n1_ : Aside0 (Below w.heap.size w dK) := ⟨by rw [← hq_]; exact K1 HB aI.out⟩
         clear hq_
         (try clear aB)
         (try clear HB)
         have aB := n0_
         have HB := n1_
         clear n0_ n1_
         replace aB := am (blk_drew aB.out)
         replace HB := am (below_drew1 HB.out)
         refine start_ (n := 26) (S := fun w' => de11 w' aC (.int .i64 ((rd_T103 l0 aA).f0)) (.int .i64 ((rd_T103 l0 aA).f1)) (.string ((rd_T103 l0 aA).f2)) (.string ((rd_T103 l0 aA).f3)) (.int .i64 ((rd_T103 l0 aA).f4)) (.int .i64 ((rd_T103 l0 aA).f5)) (.int .i64 ((rd_T103 l0 aA).f6)) (.int .i64 ((rd_T103 l0 aA).f7)) (.int .i64 ((rd_T103 l0 aA).f8)) (.int .i64 ((rd_T103 l0 aA).f9.f0)) (.slice aE ((rd_T103 l0 aA).f9.f1).length aF)) (ds := []) (tf 0 26) (by kernel_rfl) rfl rfl ⟨z0 _ aB.out, z1 _ aB.out, z2 _ aB.out, z3 _ aB.out, z4 _ aB.out, z5 _ aB.out, z6 _ aB.out, z7 _ aB.out, z8 _ aB.out, z9 _ aB.out, z10 _ aB.out⟩ (fun aH => ?_); refine with_tabW impl_ascending_spiOf.tab4 impl_ascending_spiOf.bits4 (fun aD cC => ?_)
         generalize dK.drew = dY at aB HB aH ⊢
         refine tk 0 (some 16) (tf 1 25) (take_ofW aD.out cC.out (by kernel_rfl)) aH ?_
         refine one_ (i := 1) (N := some 17) (tf 2 24) rfl rfl (one_of aD.out (by kernel_rfl)) (by decide) (fun K hK => ?_)
         refine goes_ Tryz.func75 (by kernel_rfl) rfl #[.agg #[.int .i64 ((rd_T103 l0 aA).f0), .int .i64 ((rd_T103 l0 aA).f1), .string ((rd_T103 l0 aA).f2), .string ((rd_T103 l0 aA).f3), .int .i64 ((rd_T103 l0 aA).f4), .int .i64 ((rd_T103 l0 aA).f5), .int .i64 ((rd_T103 l0 aA).f6), .int .i64 ((rd_T103 l0 aA).f7), .int .i64 ((rd_T103 l0 aA).f8), .int .i64 ((rd_T103 l0 aA).f9.f0), .slice aE ((rd_T103 l0 aA).f9.f1).length aF]] (by rfl) rfl rfl MT ?_
         with_reducible refine (impl_SaOk.calls k1 ((rd_T103 l0 aA).f0) ((rd_T103 l0 aA).f1) ((rd_T103 l0 aA).f2) ((rd_T103 l0 aA).f3) ((rd_T103 l0 aA).f4) ((rd_T103 l0 aA).f5) ((rd_T103 l0 aA).f6) ((rd_T103 l0 aA).f7) ((rd_T103 l0 aA).f8) ((rd_T103 l0 aA).f9.f0) _ _ ((rd_T103 l0 aA).f9.f1) true _ ?_ ?_ cO.out).mono ?_
         exact KD aJ HB
         exact aK.out
         rintro e dZ ⟨rfl, hb⟩
         refine ⟨_, rfl, ?_⟩
         replace aB := am (BB aB hb)
         replace HB := bl (K1 HB aI.out) hb
         (try clear hb)
         (try clear hb2)
         (try clear hk)
         (try clear hi)
         refine hK.out _ _ ⟨z0 _ aB.out, z1 _ aB.out, z2 _ aB.out, z3 _ aB.out, z4 _ aB.out, z5 _ aB.out, z6 _ aB.out, z7 _ aB.out, z8 _ aB.out, z9 _ aB.out, z10 _ aB.out⟩ (fun aH => ?_)
         clear hK K
         refine nm (some 17) ?_
         refine pv aD 2 18 (tf 3 23) ?_
         refine pv aD 3 19 (tf 4 22) ?_
         refine pv aD 4 20 (tf 5 21) ?_
         refine pv aD 6 22 (tr [5, 1, 1, 19]) ?_
         refine tk 5 (some 21) (tf 7 19) (take_ofW aD.out cC.out (by kernel_rfl)) aH ?_
         refine pv aD 7 23 (tf 8 18) ?_
         refine pv aD 8 24 (tf 9 17) ?_
         refine pv aD 9 25 (tf 10 16) ?_
         refine pw aD 10 26 (tf 11 15) ?_
         refine pw aD 11 27 (tf 12 14) ?_
         refine pw aD 12 28 (tf 13 13) ?_
         refine pw aD 13 29 (tf 14 12) ?_
         refine pw aD 14 30 (tf 15 11) ?_
         refine pw aD 15 31 (tf 16 10) ?_
         refine pw aD 16 32 (tf 17 9) ?_
         refine pw aD 17 33 (tf 18 8) ?_
         refine pw aD 18 34 (tf 19 7) ?_
         refine pw aD 19 35 (tf 20 6) ?_
         refine pw aD 20 36 (tf 21 5) ?_
         refine pw aD 21 37 (tf 22 4) ?_
         refine pw aD 22 38 (tf 23 3) ?_
         refine pw aD 23 39 (tf 24 2) ?_
         refine pw aD 24 40 (tf 25 1) ?_
         refine pv aD 25 41 (tf 26 0) ?_
         refine done_ (done_of aD.out (by kernel_rfl)) ?_
         try go_wp2
         go_meet
         case rel => exact ⟨_, (true), (by first | rfl | (simp; done) | (simp [*]; done)), H', ⟨by have := HK1.out; first | omega | exact Nat.le_refl _⟩, ⟨KB aB⟩, ⟨K1 HB aI.out⟩⟩
        ·rw [if_neg cJ] at H
         have c12b0 : decide (a1 < ((rd_T103 l0 aA).f4)) = false := decide_eq_false cJ
         clear cJ
         (first | rw [c12b0] | (simp only [i64_w, i32_w]; rw [c12b0]) | skip)
         by_cases cG : aA > 0
         ·rw [if_pos cG] at H
          have c16b0 : decide (0 < aA) = true := decide_eq_true cG
          clear cG
          obtain ⟨ji17, hji17⟩ : ∃ j_ : Int, (wrap64 (aA - 1)) = j_ := ⟨_, rfl⟩
          replace H : (if 0 ≤ (ji17) then (if (ji17) < (l0.length : Int) then ((impl_spiOf.f ((rd_T103 l0 (ji17)).f0) ((rd_T103 l0 (ji17)).f1) ((rd_T103 l0 (ji17)).f2) ((rd_T103 l0 (ji17)).f3) ((rd_T103 l0 (ji17)).f4) ((rd_T103 l0 (ji17)).f5) ((rd_T103 l0 (ji17)).f6) ((rd_T103 l0 (ji17)).f7) ((rd_T103 l0 (ji17)).f8) ((rd_T103 l0 (ji17)).f9.f0) ((rd_T103 l0 (ji17)).f9.f1)).bind fun bL => ((impl_spiOf.f ((rd_T103 l0 aA).f0) ((rd_T103 l0 aA).f1) ((rd_T103 l0 aA).f2) ((rd_T103 l0 aA).f3) ((rd_T103 l0 aA).f4) ((rd_T103 l0 aA).f5) ((rd_T103 l0 aA).f6) ((rd_T103 l0 aA).f7) ((rd_T103 l0 aA).f8) ((rd_T103 l0 aA).f9.f0) ((rd_T103 l0 aA).f9.f1)).bind fun bH => (impl_ascending_spiOf.j1 k1 l0 a1 l0 (l0.length : Int) aA (decide (bL ≥ bH))))) else (none)) else (none)) = some r := by first | (rw [hji17] at H; exact H) | (simp only [hji17] at H ⊢; exact H)
          (try rw [hji17] at cO)
          have hji17w : (IntKind.i64.wrap (aA - 1)) = ji17 := (i64_w _).trans hji17
          by_cases cQ : 0 ≤ (ji17)
          ·rw [if_pos cQ] at H
           have c18b0 : decide (0 ≤ (ji17)) = true := decide_eq_true cQ
           clear cQ
           by_cases cR : (ji17) < (l0.length : Int)
           ·rw [if_pos cR] at H
            have c19b0 : decide ((ji17) < (l0.length : Int)) = true := decide_eq_true cR
            clear cR
            replace H := bm H
            obtain ⟨bL, cS, H⟩ := H
            replace H : ((impl_spiOf.f ((rd_T103 l0 aA).f0) ((rd_T103 l0 aA).f1) ((rd_T103 l0 aA).f2) ((rd_T103 l0 aA).f3) ((rd_T103 l0 aA).f4) ((rd_T103 l0 aA).f5) ((rd_T103 l0 aA).f6) ((rd_T103 l0 aA).f7) ((rd_T103 l0 aA).f8) ((rd_T103 l0 aA).f9.f0) ((rd_T103 l0 aA).f9.f1)).bind fun bH => (impl_ascending_spiOf.j1 k1 l0 a1 l0 (l0.length : Int) aA (decide (bL ≥ bH)))) = some r := H
            have dV := Aside0.mk cS
            clear cS
            replace H := bm H
            obtain ⟨bH, cT, H⟩ := H
            replace H : (impl_ascending_spiOf.j1 k1 l0 a1 l0 (l0.length : Int) aA (decide (bL ≥ bH))) = some r := H
            have dW := Aside0.mk cT
            clear cT
            have H' := Aside0.mk H
            clear H
            try go_wp2
            generalize hq_ : (((((((((((w8.setCell ⟨aC, 0, none⟩ (.int .i64 ((rd_T103 l0 aA).f0))).setCell ⟨aC, 1, none⟩ (.int .i64 ((rd_T103 l0 aA).f1))).setCell ⟨aC, 2, none⟩ (.string ((rd_T103 l0 aA).f2))).setCell ⟨aC, 3, none⟩ (.string ((rd_T103 l0 aA).f3))).setCell ⟨aC, 4, none⟩ (.int .i64 ((rd_T103 l0 aA).f4))).setCell ⟨aC, 5, none⟩ (.int .i64 ((rd_T103 l0 aA).f5))).setCell ⟨aC, 6, none⟩ (.int .i64 ((rd_T103 l0 aA).f6))).setCell ⟨aC, 7, none⟩ (.int .i64 ((rd_T103 l0 aA).f7))).setCell ⟨aC, 8, none⟩ (.int .i64 ((rd_T103 l0 aA).f8))).setCell ⟨aC, 9, none⟩ (.int .i64 ((rd_T103 l0 aA).f9.f0))).setCell ⟨aC, 10, none⟩ (.slice aE ((rd_T103 l0 aA).f9.f1).length aF)) = dL
            have n0_ : Aside0 (dL.heap[aC]? = some (.cells #[.int .i64 ((rd_T103 l0 aA).f0), .int .i64 ((rd_T103 l0 aA).f1), .string ((rd_T103 l0 aA).f2), .string ((rd_T103 l0 aA).f3), .int .i64 ((rd_T103 l0 aA).f4), .int .i64 ((rd_T103 l0 aA).f5), .int .i64 ((rd_T103 l0 aA).f6), .int .i64 ((rd_T103 l0 aA).f7), .int .i64 ((rd_T103 l0 aA).f8), .int .i64 ((rd_T103 l0 aA).f9.f0), .slice aE ((rd_T103 l0 aA).f9.f1).length aF] 103 (0, 0))) := ⟨by rw [← hq_]; exact P11 aB⟩
            have n1_ : Aside0 (Below w.heap.size w dL) := ⟨by rw [← hq_]; exact K1 HB aI.out⟩
            clear hq_
            (try clear aB)
            (try clear HB)
            have aB := n0_
            have HB := n1_
            clear n0_ n1_
            replace aB := am (blk_drew aB.out)
            replace HB := am (below_drew1 HB.out)
            have cH : 0 ≤ ((ji17) : Int) := OD
            have cI : (ji17) < (l0.length : Int) := OD
            obtain ⟨cU, cA, cB, dM, aN, aO, aP, aQ, aR, aS, aT, aU, aV, aW, aL, bM, bN⟩ := at_T103 dS.out (ji17) cH cI
            have aM := aL
            have aX := aW
            have aY := aV
            have aZ := aU
            have bA := aT
            have bB := aS
            have bC := aR
            have bD := aQ
            have bE := aP
            have bF := aO
            have bG := aN
            obtain rfl : aG = cU := (by injection dM)
            replace aN := CX HB.out aN
            replace aO := CX HB.out aO
            replace aP := CX HB.out aP
            replace aQ := CX HB.out aQ
            replace aR := CX HB.out aR
            replace aS := CX HB.out aS
            replace aT := CX HB.out aT
            replace aU := CX HB.out aU
            replace aV := CX HB.out aV
            replace aW := CX HB.out aW
            replace aL := CX HB.out aL
            have bO := Aside0.mk bN
            have cD := Aside0.mk bM
            clear bN bM
            replace cH := eq_true cH
            replace cI := eq_true cI
            refine start_ (n := 26) (S := fun w' => ce11 w' aC (.int .i64 ((rd_T103 l0 aA).f0)) (.int .i64 ((rd_T103 l0 aA).f1)) (.string ((rd_T103 l0 aA).f2)) (.string ((rd_T103 l0 aA).f3)) (.int .i64 ((rd_T103 l0 aA).f4)) (.int .i64 ((rd_T103 l0 aA).f5)) (.int .i64 ((rd_T103 l0 aA).f6)) (.int .i64 ((rd_T103 l0 aA).f7)) (.int .i64 ((rd_T103 l0 aA).f8)) (.int .i64 ((rd_T103 l0 aA).f9.f0)) (.slice aE ((rd_T103 l0 aA).f9.f1).length aF) (w'.cell? (aG.add (((ji17)).toNat * 11)) = some (.int .i64 ((rd_T103 l0 (ji17)).f0)) ∧ w'.cell? ⟨(aG.add (((ji17)).toNat * 11)).block, (aG.add (((ji17)).toNat * 11)).off + 1, none⟩ = some (.int .i64 ((rd_T103 l0 (ji17)).f1)) ∧ w'.cell? ⟨(aG.add (((ji17)).toNat * 11)).block, (aG.add (((ji17)).toNat * 11)).off + 2, none⟩ = some (.string ((rd_T103 l0 (ji17)).f2)) ∧ w'.cell? ⟨(aG.add (((ji17)).toNat * 11)).block, (aG.add (((ji17)).toNat * 11)).off + 3, none⟩ = some (.string ((rd_T103 l0 (ji17)).f3)) ∧ w'.cell? ⟨(aG.add (((ji17)).toNat * 11)).block, (aG.add (((ji17)).toNat * 11)).off + 4, none⟩ = some (.int .i64 ((rd_T103 l0 (ji17)).f4)) ∧ w'.cell? ⟨(aG.add (((ji17)).toNat * 11)).block, (aG.add (((ji17)).toNat * 11)).off + 5, none⟩ = some (.int .i64 ((rd_T103 l0 (ji17)).f5)) ∧ w'.cell? ⟨(aG.add (((ji17)).toNat * 11)).block, (aG.add (((ji17)).toNat * 11)).off + 6, none⟩ = some (.int .i64 ((rd_T103 l0 (ji17)).f6)) ∧ w'.cell? ⟨(aG.add (((ji17)).toNat * 11)).block, (aG.add (((ji17)).toNat * 11)).off + 7, none⟩ = some (.int .i64 ((rd_T103 l0 (ji17)).f7)) ∧ w'.cell? ⟨(aG.add (((ji17)).toNat * 11)).block, (aG.add (((ji17)).toNat * 11)).off + 8, none⟩ = some (.int .i64 ((rd_T103 l0 (ji17)).f8)) ∧ w'.cell? ⟨(aG.add (((ji17)).toNat * 11)).block, (aG.add (((ji17)).toNat * 11)).off + 9, none⟩ = some (.int .i64 ((rd_T103 l0 (ji17)).f9.f0)) ∧ w'.cell? ⟨(aG.add (((ji17)).toNat * 11)).block, (aG.add (((ji17)).toNat * 11)).off + 10, none⟩ = some (.slice cA ((rd_T103 l0 (ji17)).f9.f1).length cB))) (ds := []) (tf 0 26) (by kernel_rfl) rfl rfl ⟨z0 _ aB.out, z1 _ aB.out, z2 _ aB.out, z3 _ aB.out, z4 _ aB.out, z5 _ aB.out, z6 _ aB.out, z7 _ aB.out, z8 _ aB.out, z9 _ aB.out, z10 _ aB.out, (CY HB.out bG), (CY HB.out bF), (CY HB.out bE), (CY HB.out bD), (CY HB.out bC), (CY HB.out bB), (CY HB.out bA), (CY HB.out aZ), (CY HB.out aY), (CY HB.out aX), (CY HB.out aM)⟩ (fun aH => ?_); refine with_tabW impl_ascending_spiOf.tab4 impl_ascending_spiOf.bits4 (fun aD cC => ?_)
            generalize dL.drew = eA at aB HB bO aN aO aL aP aQ aR aS aT aU aV aW aH ⊢
            refine tk 0 (some 16) (tf 1 25) (take_ofW aD.out cC.out (by kernel_rfl)) aH ?_
            refine one_ (i := 1) (N := some 17) (tf 2 24) rfl rfl (one_of aD.out (by kernel_rfl)) (by decide) (fun K hK => ?_)
            refine goes_ Tryz.func75 (by kernel_rfl) rfl #[.agg #[.int .i64 ((rd_T103 l0 aA).f0), .int .i64 ((rd_T103 l0 aA).f1), .string ((rd_T103 l0 aA).f2), .string ((rd_T103 l0 aA).f3), .int .i64 ((rd_T103 l0 aA).f4), .int .i64 ((rd_T103 l0 aA).f5), .int .i64 ((rd_T103 l0 aA).f6), .int .i64 ((rd_T103 l0 aA).f7), .int .i64 ((rd_T103 l0 aA).f8), .int .i64 ((rd_T103 l0 aA).f9.f0), .slice aE ((rd_T103 l0 aA).f9.f1).length aF]] (by rfl) rfl rfl MT ?_
            with_reducible refine (impl_SaOk.calls k1 ((rd_T103 l0 aA).f0) ((rd_T103 l0 aA).f1) ((rd_T103 l0 aA).f2) ((rd_T103 l0 aA).f3) ((rd_T103 l0 aA).f4) ((rd_T103 l0 aA).f5) ((rd_T103 l0 aA).f6) ((rd_T103 l0 aA).f7) ((rd_T103 l0 aA).f8) ((rd_T103 l0 aA).f9.f0) _ _ ((rd_T103 l0 aA).f9.f1) true _ ?_ ?_ cO.out).mono ?_
            exact KD aJ HB
            exact aK.out
            rintro e eB ⟨rfl, hb⟩
            refine ⟨_, rfl, ?_⟩
            replace aB := am (BB aB hb)
            replace HB := bl (K1 HB aI.out) hb
            (try clear hb)
            (try clear hb2)
            (try clear hk)
            (try clear hi)
            refine hK.out _ _ ⟨z0 _ aB.out, z1 _ aB.out, z2 _ aB.out, z3 _ aB.out, z4 _ aB.out, z5 _ aB.out, z6 _ aB.out, z7 _ aB.out, z8 _ aB.out, z9 _ aB.out, z10 _ aB.out, (CY HB.out bG), (CY HB.out bF), (CY HB.out bE), (CY HB.out bD), (CY HB.out bC), (CY HB.out bB), (CY HB.out bA), (CY HB.out aZ), (CY HB.out aY), (CY HB.out aX), (CY HB.out aM)⟩ (fun aH => ?_)
            clear hK K
            refine nm (some 17) ?_
            refine pv aD 2 18 (tf 3 23) ?_
            refine pv aD 3 19 (tf 4 22) ?_
            refine pv aD 4 20 (tf 5 21) ?_
            refine pv aD 6 22 (tr [5, 1, 1, 19]) ?_
            refine tk 5 (some 21) (tf 7 19) (take_ofW aD.out cC.out (by kernel_rfl)) aH ?_
            refine pv aD 7 23 (tf 8 18) ?_
            refine pv aD 8 24 (tf 9 17) ?_
            refine pv aD 9 25 (tf 10 16) ?_
            refine pv aD 10 26 (tf 11 15) ?_
            refine pv aD 11 27 (tf 12 14) ?_
            refine pv aD 12 28 (tf 13 13) ?_
            refine pv aD 13 29 (tf 14 12) ?_
            refine pv aD 14 30 (tf 15 11) ?_
            refine pv aD 15 31 (tf 16 10) ?_
            refine pv aD 16 32 (tf 17 9) ?_
            refine pv aD 17 33 (tf 18 8) ?_
            refine pv aD 20 36 (tr [18, 2, 1, 5]) ?_
            refine tk 18 (some 34) (tr [19, 1, 1, 5]) (take_ofW aD.out cC.out (by kernel_rfl)) aH ?_
            refine tk 21 (some 37) (tr [19, 1, 2, 4]) (take_ofW aD.out cC.out (by kernel_rfl)) aH ?_
            refine one_ (i := 19) (N := some 35) (tf 22 4) rfl rfl (one_of aD.out (by kernel_rfl)) (by decide) (fun K hK => ?_)
            refine goesW_ Tryz.func55 (by kernel_rfl) rfl #[.agg #[.int .i64 ((rd_T103 l0 (ji17)).f0), .int .i64 ((rd_T103 l0 (ji17)).f1), .string ((rd_T103 l0 (ji17)).f2), .string ((rd_T103 l0 (ji17)).f3), .int .i64 ((rd_T103 l0 (ji17)).f4), .int .i64 ((rd_T103 l0 (ji17)).f5), .int .i64 ((rd_T103 l0 (ji17)).f6), .int .i64 ((rd_T103 l0 (ji17)).f7), .int .i64 ((rd_T103 l0 (ji17)).f8), .int .i64 ((rd_T103 l0 (ji17)).f9.f0), .slice cA ((rd_T103 l0 (ji17)).f9.f1).length cB]] (by rfl) rfl rfl (by first | rfl | (simp [Act.eval, Act.put]; done)) (by (try simp only [List.map_toArray, List.map_cons, List.map_nil]); first | done | (simp only [hji17]; rfl) | rfl | (simp only [List.length_drop, List.length_take]; rfl)) ?_
            with_reducible refine (impl_spiOf.calls ((rd_T103 l0 (ji17)).f0) ((rd_T103 l0 (ji17)).f1) ((rd_T103 l0 (ji17)).f2) ((rd_T103 l0 (ji17)).f3) ((rd_T103 l0 (ji17)).f4) ((rd_T103 l0 (ji17)).f5) ((rd_T103 l0 (ji17)).f6) ((rd_T103 l0 (ji17)).f7) ((rd_T103 l0 (ji17)).f8) ((rd_T103 l0 (ji17)).f9.f0) _ _ ((rd_T103 l0 (ji17)).f9.f1) bL _ ?_ ?_ dV.out).mono ?_
            exact KD bO HB
            exact cD.out
            rintro e eC ⟨rfl, hb⟩
            refine ⟨_, rfl, ?_⟩
            replace aB := am (BB aB hb)
            replace HB := bl (K1 HB aI.out) hb
            (try clear hb)
            (try clear hb2)
            (try clear hk)
            (try clear hi)
            refine hK.out _ _ ⟨z0 _ aB.out, z1 _ aB.out, z2 _ aB.out, z3 _ aB.out, z4 _ aB.out, z5 _ aB.out, z6 _ aB.out, z7 _ aB.out, z8 _ aB.out, z9 _ aB.out, z10 _ aB.out, (CY HB.out bG), (CY HB.out bF), (CY HB.out bE), (CY HB.out bD), (CY HB.out bC), (CY HB.out bB), (CY HB.out bA), (CY HB.out aZ), (CY HB.out aY), (CY HB.out aX), (CY HB.out aM)⟩ (fun aH => ?_)
            clear hK K
            refine nm (some 35) ?_
            refine one_ (i := 22) (N := some 38) (tf 23 3) rfl rfl (one_of aD.out (by kernel_rfl)) (by decide) (fun K hK => ?_)
            refine goesW_ Tryz.func55 (by kernel_rfl) rfl #[.agg #[.int .i64 ((rd_T103 l0 aA).f0), .int .i64 ((rd_T103 l0 aA).f1), .string ((rd_T103 l0 aA).f2), .string ((rd_T103 l0 aA).f3), .int .i64 ((rd_T103 l0 aA).f4), .int .i64 ((rd_T103 l0 aA).f5), .int .i64 ((rd_T103 l0 aA).f6), .int .i64 ((rd_T103 l0 aA).f7), .int .i64 ((rd_T103 l0 aA).f8), .int .i64 ((rd_T103 l0 aA).f9.f0), .slice aE ((rd_T103 l0 aA).f9.f1).length aF]] (by rfl) rfl rfl (by first | rfl | (simp [Act.eval, Act.put]; done)) MT ?_
            with_reducible refine (impl_spiOf.calls ((rd_T103 l0 aA).f0) ((rd_T103 l0 aA).f1) ((rd_T103 l0 aA).f2) ((rd_T103 l0 aA).f3) ((rd_T103 l0 aA).f4) ((rd_T103 l0 aA).f5) ((rd_T103 l0 aA).f6) ((rd_T103 l0 aA).f7) ((rd_T103 l0 aA).f8) ((rd_T103 l0 aA).f9.f0) _ _ ((rd_T103 l0 aA).f9.f1) bH _ ?_ ?_ dW.out).mono ?_
            exact KD aJ HB
            exact aK.out
            rintro e eD ⟨rfl, hb⟩
            refine ⟨_, rfl, ?_⟩
            replace aB := am (BB aB hb)
            replace HB := bl (K1 HB aI.out) hb
            (try clear hb)
            (try clear hb2)
            (try clear hk)
            (try clear hi)
            refine hK.out _ _ ⟨z0 _ aB.out, z1 _ aB.out, z2 _ aB.out, z3 _ aB.out, z4 _ aB.out, z5 _ aB.out, z6 _ aB.out, z7 _ aB.out, z8 _ aB.out, z9 _ aB.out, z10 _ aB.out, (CY HB.out bG), (CY HB.out bF), (CY HB.out bE), (CY HB.out bD), (CY HB.out bC), (CY HB.out bB), (CY HB.out bA), (CY HB.out aZ), (CY HB.out aY), (CY HB.out aX), (CY HB.out aM)⟩ (fun aH => ?_)
            clear hK K
            refine nm (some 38) ?_
            refine pv aD 23 39 (tf 24 2) ?_
            refine pv aD 24 40 (tf 25 1) ?_
            refine pv aD 25 41 (tf 26 0) ?_
            refine done_ (done_of aD.out (by kernel_rfl)) ?_
            try go_wp2
            go_meet
            case rel => exact ⟨_, (decide (bL ≥ bH)), (by first | rfl | (simp; done) | (simp [*]; done)), H', ⟨by have := HK1.out; first | omega | exact Nat.le_refl _⟩, ⟨KB aB⟩, ⟨K1 HB aI.out⟩⟩
           ·rw [if_neg cR] at H
            exact absurd H (by simp)
          ·rw [if_neg cQ] at H
           exact absurd H (by simp)
         ·rw [if_neg cG] at H
          have c16b0 : decide (0 < aA) = false := decide_eq_false cG
          clear cG
          have H' := Aside0.mk H
          clear H
          try go_wp2
          generalize hq_ : (((((((((((w8.setCell ⟨aC, 0, none⟩ (.int .i64 ((rd_T103 l0 aA).f0))).setCell ⟨aC, 1, none⟩ (.int .i64 ((rd_T103 l0 aA).f1))).setCell ⟨aC, 2, none⟩ (.string ((rd_T103 l0 aA).f2))).setCell ⟨aC, 3, none⟩ (.string ((rd_T103 l0 aA).f3))).setCell ⟨aC, 4, none⟩ (.int .i64 ((rd_T103 l0 aA).f4))).setCell ⟨aC, 5, none⟩ (.int .i64 ((rd_T103 l0 aA).f5))).setCell ⟨aC, 6, none⟩ (.int .i64 ((rd_T103 l0 aA).f6))).setCell ⟨aC, 7, none⟩ (.int .i64 ((rd_T103 l0 aA).f7))).setCell ⟨aC, 8, none⟩ (.int .i64 ((rd_T103 l0 aA).f8))).setCell ⟨aC, 9, none⟩ (.int .i64 ((rd_T103 l0 aA).f9.f0))).setCell ⟨aC, 10, none⟩ (.slice aE ((rd_T103 l0 aA).f9.f1).length aF)) = dN
          have n0_ : Aside0 (dN.heap[aC]? = some (.cells #[.int .i64 ((rd_T103 l0 aA).f0), .int .i64 ((rd_T103 l0 aA).f1), .string ((rd_T103 l0 aA).f2), .string ((rd_T103 l0 aA).f3), .int .i64 ((rd_T103 l0 aA).f4), .int .i64 ((rd_T103 l0 aA).f5), .int .i64 ((rd_T103 l0 aA).f6), .int .i64 ((rd_T103 l0 aA).f7), .int .i64 ((rd_T103 l0 aA).f8), .int .i64 ((rd_T103 l0 aA).f9.f0), .slice aE ((rd_T103 l0 aA).f9.f1).length aF] 103 (0, 0))) := ⟨by rw [← hq_]; exact P11 aB⟩
          have n1_ : Aside0 (Below w.heap.size w dN) := ⟨by rw [← hq_]; exact K1 HB aI.out⟩
          clear hq_
          (try clear aB)
          (try clear HB)
          have aB := n0_
          have HB := n1_
          clear n0_ n1_
          replace aB := am (blk_drew aB.out)
          replace HB := am (below_drew1 HB.out)
          refine start_ (n := 26) (S := fun w' => de11 w' aC (.int .i64 ((rd_T103 l0 aA).f0)) (.int .i64 ((rd_T103 l0 aA).f1)) (.string ((rd_T103 l0 aA).f2)) (.string ((rd_T103 l0 aA).f3)) (.int .i64 ((rd_T103 l0 aA).f4)) (.int .i64 ((rd_T103 l0 aA).f5)) (.int .i64 ((rd_T103 l0 aA).f6)) (.int .i64 ((rd_T103 l0 aA).f7)) (.int .i64 ((rd_T103 l0 aA).f8)) (.int .i64 ((rd_T103 l0 aA).f9.f0)) (.slice aE ((rd_T103 l0 aA).f9.f1).length aF)) (ds := []) (tf 0 26) (by kernel_rfl) rfl rfl ⟨z0 _ aB.out, z1 _ aB.out, z2 _ aB.out, z3 _ aB.out, z4 _ aB.out, z5 _ aB.out, z6 _ aB.out, z7 _ aB.out, z8 _ aB.out, z9 _ aB.out, z10 _ aB.out⟩ (fun aH => ?_); refine with_tabW impl_ascending_spiOf.tab4 impl_ascending_spiOf.bits4 (fun aD cC => ?_)
          generalize dN.drew = eE at aB HB aH ⊢
          refine tk 0 (some 16) (tf 1 25) (take_ofW aD.out cC.out (by kernel_rfl)) aH ?_
          refine one_ (i := 1) (N := some 17) (tf 2 24) rfl rfl (one_of aD.out (by kernel_rfl)) (by decide) (fun K hK => ?_)
          refine goes_ Tryz.func75 (by kernel_rfl) rfl #[.agg #[.int .i64 ((rd_T103 l0 aA).f0), .int .i64 ((rd_T103 l0 aA).f1), .string ((rd_T103 l0 aA).f2), .string ((rd_T103 l0 aA).f3), .int .i64 ((rd_T103 l0 aA).f4), .int .i64 ((rd_T103 l0 aA).f5), .int .i64 ((rd_T103 l0 aA).f6), .int .i64 ((rd_T103 l0 aA).f7), .int .i64 ((rd_T103 l0 aA).f8), .int .i64 ((rd_T103 l0 aA).f9.f0), .slice aE ((rd_T103 l0 aA).f9.f1).length aF]] (by rfl) rfl rfl MT ?_
          with_reducible refine (impl_SaOk.calls k1 ((rd_T103 l0 aA).f0) ((rd_T103 l0 aA).f1) ((rd_T103 l0 aA).f2) ((rd_T103 l0 aA).f3) ((rd_T103 l0 aA).f4) ((rd_T103 l0 aA).f5) ((rd_T103 l0 aA).f6) ((rd_T103 l0 aA).f7) ((rd_T103 l0 aA).f8) ((rd_T103 l0 aA).f9.f0) _ _ ((rd_T103 l0 aA).f9.f1) true _ ?_ ?_ cO.out).mono ?_
          exact KD aJ HB
          exact aK.out
          rintro e eF ⟨rfl, hb⟩
          refine ⟨_, rfl, ?_⟩
          replace aB := am (BB aB hb)
          replace HB := bl (K1 HB aI.out) hb
          (try clear hb)
          (try clear hb2)
          (try clear hk)
          (try clear hi)
          refine hK.out _ _ ⟨z0 _ aB.out, z1 _ aB.out, z2 _ aB.out, z3 _ aB.out, z4 _ aB.out, z5 _ aB.out, z6 _ aB.out, z7 _ aB.out, z8 _ aB.out, z9 _ aB.out, z10 _ aB.out⟩ (fun aH => ?_)
          clear hK K
          refine nm (some 17) ?_
          refine pv aD 2 18 (tf 3 23) ?_
          refine pv aD 3 19 (tf 4 22) ?_
          refine pv aD 4 20 (tf 5 21) ?_
          refine pv aD 6 22 (tr [5, 1, 1, 19]) ?_
          refine tk 5 (some 21) (tf 7 19) (take_ofW aD.out cC.out (by kernel_rfl)) aH ?_
          refine pv aD 7 23 (tf 8 18) ?_
          refine pv aD 8 24 (tf 9 17) ?_
          refine pv aD 9 25 (tf 10 16) ?_
          refine pv aD 10 26 (tf 11 15) ?_
          refine pv aD 11 27 (tf 12 14) ?_
          refine pv aD 12 28 (tf 13 13) ?_
          refine pw aD 13 29 (tf 14 12) ?_
          refine pw aD 14 30 (tf 15 11) ?_
          refine pw aD 15 31 (tf 16 10) ?_
          refine pw aD 16 32 (tf 17 9) ?_
          refine pw aD 17 33 (tf 18 8) ?_
          refine pw aD 18 34 (tf 19 7) ?_
          refine pw aD 19 35 (tf 20 6) ?_
          refine pw aD 20 36 (tf 21 5) ?_
          refine pw aD 21 37 (tf 22 4) ?_
          refine pw aD 22 38 (tf 23 3) ?_
          refine pw aD 23 39 (tf 24 2) ?_
          refine pv aD 24 40 (tf 25 1) ?_
          refine pv aD 25 41 (tf 26 0) ?_
          refine done_ (done_of aD.out (by kernel_rfl)) ?_
          try go_wp2
          go_meet
          case rel => exact ⟨_, (false), (by first | rfl | (simp; done) | (simp [*]; done)), H', ⟨by have := HK1.out; first | omega | exact Nat.le_refl _⟩, ⟨KB aB⟩, ⟨K1 HB aI.out⟩⟩
       ·replace cP := Bool.eq_false_iff.mpr cP
        subst cP
        have H1 := nf H
        clear H
        have H := H1
        clear H1
        have H' := Aside0.mk H
        clear H
        try go_wp2
        generalize hq_ : (((((((((((w8.setCell ⟨aC, 0, none⟩ (.int .i64 ((rd_T103 l0 aA).f0))).setCell ⟨aC, 1, none⟩ (.int .i64 ((rd_T103 l0 aA).f1))).setCell ⟨aC, 2, none⟩ (.string ((rd_T103 l0 aA).f2))).setCell ⟨aC, 3, none⟩ (.string ((rd_T103 l0 aA).f3))).setCell ⟨aC, 4, none⟩ (.int .i64 ((rd_T103 l0 aA).f4))).setCell ⟨aC, 5, none⟩ (.int .i64 ((rd_T103 l0 aA).f5))).setCell ⟨aC, 6, none⟩ (.int .i64 ((rd_T103 l0 aA).f6))).setCell ⟨aC, 7, none⟩ (.int .i64 ((rd_T103 l0 aA).f7))).setCell ⟨aC, 8, none⟩ (.int .i64 ((rd_T103 l0 aA).f8))).setCell ⟨aC, 9, none⟩ (.int .i64 ((rd_T103 l0 aA).f9.f0))).setCell ⟨aC, 10, none⟩ (.slice aE ((rd_T103 l0 aA).f9.f1).length aF)) = dO
        have n0_ : Aside0 (dO.heap[aC]? = some (.cells #[.int .i64 ((rd_T103 l0 aA).f0), .int .i64 ((rd_T103 l0 aA).f1), .string ((rd_T103 l0 aA).f2), .string ((rd_T103 l0 aA).f3), .int .i64 ((rd_T103 l0 aA).f4), .int .i64 ((rd_T103 l0 aA).f5), .int .i64 ((rd_T103 l0 aA).f6), .int .i64 ((rd_T103 l0 aA).f7), .int .i64 ((rd_T103 l0 aA).f8), .int .i64 ((rd_T103 l0 aA).f9.f0), .slice aE ((rd_T103 l0 aA).f9.f1).length aF] 103 (0, 0))) := ⟨by rw [← hq_]; exact P11 aB⟩
        have n1_ : Aside0 (Below w.heap.size w dO) := ⟨by rw [← hq_]; exact K1 HB aI.out⟩
        clear hq_
        (try clear aB)
        (try clear HB)
        have aB := n0_
        have HB := n1_
        clear n0_ n1_
        replace aB := am (blk_drew aB.out)
        replace HB := am (below_drew1 HB.out)
        refine start_ (n := 26) (S := fun w' => de11 w' aC (.int .i64 ((rd_T103 l0 aA).f0)) (.int .i64 ((rd_T103 l0 aA).f1)) (.string ((rd_T103 l0 aA).f2)) (.string ((rd_T103 l0 aA).f3)) (.int .i64 ((rd_T103 l0 aA).f4)) (.int .i64 ((rd_T103 l0 aA).f5)) (.int .i64 ((rd_T103 l0 aA).f6)) (.int .i64 ((rd_T103 l0 aA).f7)) (.int .i64 ((rd_T103 l0 aA).f8)) (.int .i64 ((rd_T103 l0 aA).f9.f0)) (.slice aE ((rd_T103 l0 aA).f9.f1).length aF)) (ds := []) (tf 0 26) (by kernel_rfl) rfl rfl ⟨z0 _ aB.out, z1 _ aB.out, z2 _ aB.out, z3 _ aB.out, z4 _ aB.out, z5 _ aB.out, z6 _ aB.out, z7 _ aB.out, z8 _ aB.out, z9 _ aB.out, z10 _ aB.out⟩ (fun aH => ?_); refine with_tabW impl_ascending_spiOf.tab4 impl_ascending_spiOf.bits4 (fun aD cC => ?_)
        generalize dO.drew = eG at aB HB aH ⊢
        refine tk 0 (some 16) (tf 1 25) (take_ofW aD.out cC.out (by kernel_rfl)) aH ?_
        refine one_ (i := 1) (N := some 17) (tf 2 24) rfl rfl (one_of aD.out (by kernel_rfl)) (by decide) (fun K hK => ?_)
        refine goes_ Tryz.func75 (by kernel_rfl) rfl #[.agg #[.int .i64 ((rd_T103 l0 aA).f0), .int .i64 ((rd_T103 l0 aA).f1), .string ((rd_T103 l0 aA).f2), .string ((rd_T103 l0 aA).f3), .int .i64 ((rd_T103 l0 aA).f4), .int .i64 ((rd_T103 l0 aA).f5), .int .i64 ((rd_T103 l0 aA).f6), .int .i64 ((rd_T103 l0 aA).f7), .int .i64 ((rd_T103 l0 aA).f8), .int .i64 ((rd_T103 l0 aA).f9.f0), .slice aE ((rd_T103 l0 aA).f9.f1).length aF]] (by rfl) rfl rfl MT ?_
        with_reducible refine (impl_SaOk.calls k1 ((rd_T103 l0 aA).f0) ((rd_T103 l0 aA).f1) ((rd_T103 l0 aA).f2) ((rd_T103 l0 aA).f3) ((rd_T103 l0 aA).f4) ((rd_T103 l0 aA).f5) ((rd_T103 l0 aA).f6) ((rd_T103 l0 aA).f7) ((rd_T103 l0 aA).f8) ((rd_T103 l0 aA).f9.f0) _ _ ((rd_T103 l0 aA).f9.f1) false _ ?_ ?_ cO.out).mono ?_
        exact KD aJ HB
        exact aK.out
        rintro e eH ⟨rfl, hb⟩
        refine ⟨_, rfl, ?_⟩
        replace aB := am (BB aB hb)
        replace HB := bl (K1 HB aI.out) hb
        (try clear hb)
        (try clear hb2)
        (try clear hk)
        (try clear hi)
        refine hK.out _ _ ⟨z0 _ aB.out, z1 _ aB.out, z2 _ aB.out, z3 _ aB.out, z4 _ aB.out, z5 _ aB.out, z6 _ aB.out, z7 _ aB.out, z8 _ aB.out, z9 _ aB.out, z10 _ aB.out⟩ (fun aH => ?_)
        clear hK K
        refine nm (some 17) ?_
        refine pv aD 2 18 (tf 3 23) ?_
        refine pv aD 3 19 (tf 4 22) ?_
        refine pw aD 4 20 (tf 5 21) ?_
        refine pw aD 5 21 (tf 6 20) ?_
        refine pw aD 6 22 (tf 7 19) ?_
        refine pw aD 7 23 (tf 8 18) ?_
        refine pv aD 8 24 (tf 9 17) ?_
        refine pv aD 9 25 (tf 10 16) ?_
        refine pw aD 10 26 (tf 11 15) ?_
        refine pw aD 11 27 (tf 12 14) ?_
        refine pw aD 12 28 (tf 13 13) ?_
        refine pw aD 13 29 (tf 14 12) ?_
        refine pw aD 14 30 (tf 15 11) ?_
        refine pw aD 15 31 (tf 16 10) ?_
        refine pw aD 16 32 (tf 17 9) ?_
        refine pw aD 17 33 (tf 18 8) ?_
        refine pw aD 18 34 (tf 19 7) ?_
        refine pw aD 19 35 (tf 20 6) ?_
        refine pw aD 20 36 (tf 21 5) ?_
        refine pw aD 21 37 (tf 22 4) ?_
        refine pw aD 22 38 (tf 23 3) ?_
        refine pw aD 23 39 (tf 24 2) ?_
        refine pw aD 24 40 (tf 25 1) ?_
        refine pv aD 25 41 (tf 26 0) ?_
        refine done_ (done_of aD.out (by kernel_rfl)) ?_
        try go_wp2
        go_meet
        case rel => exact ⟨_, (true), (by first | rfl | (simp; done) | (simp [*]; done)), H', ⟨by have := HK1.out; first | omega | exact Nat.le_refl _⟩, ⟨KB aB⟩, ⟨K1 HB aI.out⟩⟩
      case rest =>
       clear cX
       try clear c1
       try clear p2
       try clear c5
       try clear c7
       try clear eI
       try clear cP
       try clear cG
       try clear c16b0
       try clear cQ
       try clear cR
       obtain ⟨kq, bZ, rfl, HA, HJ6, aB, HB⟩ := hcut
       cases kq with
       | zero => exact absurd HA.out (by simp [impl_ascending_spiOf.j1])
       | succ kj6 =>
        have H := HA.out
        clear HA
        simp only [impl_ascending_spiOf.j1] at H
        by_cases cW : bZ = true
        ·subst cW
         have H1 := pf H
         clear H
         have H := H1
         clear H1
         obtain rfl := sj H
         go_wp2
         go_ret
         exact ⟨ER, K1 HB aI.out⟩
        ·replace cW := Bool.eq_false_iff.mpr cW
         subst cW
         have H1 := nf H
         clear H
         have H := H1
         clear H1
         have H' := Aside0.mk H
         clear H
         go_wp2
         go_roundg kj6
         case measure => have := HK1.out; have := HJ6.out; omega
         case rel => exact ⟨(wrap64 (aA + 1)), (by first | rfl | (simp; done) | (simp [*]; done)), H', ⟨by have := HK1.out; have := HJ6.out; omega⟩, ⟨K1 HB aI.out⟩⟩
     ·rw [if_neg c6] at H
      exact absurd H (by simp)
    ·rw [if_neg c5] at H
     exact absurd H (by simp)
   ·rw [if_neg c4] at H
    have c4b0 : decide (aA < (l0.length : Int)) = false := decide_eq_false c4
    clear c4
    obtain rfl := sj H
    go_wp2
    go_ret
    exact ⟨ER, KL HB⟩
def impl_Air_56_WorldOk_cl1.l0 : Nat → List (S76) → Int → Int → Option (Int)
 | 0, _, _, _ => none
 | k + 1, x0, x7, x8 => if x8 < x7 then (if 0 ≤ x8 then (if x8 < (x0.length : Int) then ((impl_WorldOk_1.f ((rd_T76 x0 x8).f0) ((rd_T76 x0 x8).f1)).bind fun t102 => (if t102 = true then (some x8) else (impl_Air_56_WorldOk_cl1.l0 k x0 x7 (wrap64 (x8 + 1))))) else (none)) else (none)) else (some (-1))
def impl_Air_56_WorldOk_cl1.f (k : Nat) (l0 : List (S76))  : Option (Int) := impl_Air_56_WorldOk_cl1.l0 k l0 (l0.length : Int) 0
theorem impl_Air_56_WorldOk_cl1.calls (k : Nat) (A0 : Option Addr) (c0 : Nat) (l0 : List (S76))  (r : Int) (w : World) (aI : Kd.C k76 w A0 l0.length l0) (aJ : l0.length ≤ c0) (h : impl_Air_56_WorldOk_cl1.f k l0 = some r) :
  Calls Tryz.prog 56 #[.slice A0 l0.length c0, .func (.func 32) #[] #[]] w fun e w' => e = .returned (.int .i64 r) ∧ Below w.heap.size w w' := by
 have aM := Tryz.underlying76
 have aK := Aside0.mk aI
 have aN := Aside0.mk aJ
 clear aI aJ
 have HB := am (Below.refl w.heap.size w)
 have H : (impl_Air_56_WorldOk_cl1.l0 k l0 (l0.length : Int) 0) = some r := h
 clear h
 have H' := Aside0.mk H
 clear H
 go_enter Tryz.func56, Tryz.ntmps56
 go_wp2
 go_loopg [8] k (fun kq v8 w' => ∃ (aA : Int), v8 = .int .i64 aA ∧ Aside0 (impl_Air_56_WorldOk_cl1.l0 kq l0 (l0.length : Int) aA = some r) ∧ Aside0 (kq ≤ k) ∧ Aside0 (Below w.heap.size w w'))
 case atStart => exact ⟨(0), (by first | rfl | (simp; done) | (simp [*]; done)), H', ⟨Nat.le_refl _⟩, ⟨KL HB⟩⟩
 case round =>
  clear H'
  try clear p2
  obtain ⟨aA, rfl, HA, HK1, HB⟩ := hrel
  cases gk with
  | zero => exact absurd HA.out (by simp [impl_Air_56_WorldOk_cl1.l0])
  | succ k1 =>
   have H := HA.out
   clear HA
   simp only [impl_Air_56_WorldOk_cl1.l0] at H
   by_cases c3 : aA < (l0.length : Int)
   ·rw [if_pos c3] at H
    have c3b0 : decide (aA < (l0.length : Int)) = true := decide_eq_true c3
    clear c3
    by_cases c4 : 0 ≤ aA
    ·rw [if_pos c4] at H
     have c4b0 : decide (0 ≤ aA) = true := decide_eq_true c4
     clear c4
     by_cases c5 : aA < (l0.length : Int)
     ·rw [if_pos c5] at H
      have c5b0 : decide (aA < (l0.length : Int)) = true := decide_eq_true c5
      clear c5
      replace H := bm H
      obtain ⟨aG, aL, H⟩ := H
      replace H : (if aG = true then (some aA) else (impl_Air_56_WorldOk_cl1.l0 k1 l0 (l0.length : Int) (wrap64 (aA + 1)))) = some r := H
      have A6 := Aside0.mk aL
      clear aL
      by_cases c7 : aG = true
      ·subst c7
       have H1 := pf H
       clear H
       have H := H1
       clear H1
       obtain rfl := sj H
       have aD : 0 ≤ (aA : Int) := OD
       have aE : aA < (l0.length : Int) := OD
       obtain ⟨aH, aF, aB, aC⟩ := at_T76 aK.out aA aD aE
       cases aF
       replace aB := CX HB.out aB
       replace aC := CX HB.out aC
       replace aD := eq_true aD
       replace aE := eq_true aE
       go_wp2_with (first | ((with_reducible refine gate_dst (N := 16) rfl ?_); refine goesV_ (some 16) rfl rfl Tryz.func32 (by kernel_rfl) rfl #[.agg #[.string ((rd_T76 l0 aA).f0), .bool ((rd_T76 l0 aA).f1)]] rfl (by first | rfl | (simp [Act.eval, Act.put]; done)) MT ?_; (with_reducible refine (impl_WorldOk_1.calls ((rd_T76 l0 aA).f0) ((rd_T76 l0 aA).f1) true _ A6.out).mono ?_); rintro e w8 ⟨rfl, hb⟩; refine ⟨_, rfl, ?_⟩; replace HB := bl (KL HB) hb; (try clear hb)))
       go_ret
       exact ⟨ER, KL HB⟩
      ·replace c7 := Bool.eq_false_iff.mpr c7
       subst c7
       have H1 := nf H
       clear H
       have H := H1
       clear H1
       have H' := Aside0.mk H
       clear H
       have aD : 0 ≤ (aA : Int) := OD
       have aE : aA < (l0.length : Int) := OD
       obtain ⟨aH, aF, aB, aC⟩ := at_T76 aK.out aA aD aE
       cases aF
       replace aB := CX HB.out aB
       replace aC := CX HB.out aC
       replace aD := eq_true aD
       replace aE := eq_true aE
       go_wp2_with (first | ((with_reducible refine gate_dst (N := 16) rfl ?_); refine goesV_ (some 16) rfl rfl Tryz.func32 (by kernel_rfl) rfl #[.agg #[.string ((rd_T76 l0 aA).f0), .bool ((rd_T76 l0 aA).f1)]] rfl (by first | rfl | (simp [Act.eval, Act.put]; done)) MT ?_; (with_reducible refine (impl_WorldOk_1.calls ((rd_T76 l0 aA).f0) ((rd_T76 l0 aA).f1) false _ A6.out).mono ?_); rintro e w9 ⟨rfl, hb⟩; refine ⟨_, rfl, ?_⟩; replace HB := bl (KL HB) hb; (try clear hb)))
       go_roundg k1
       case measure => have := HK1.out; omega
       case rel => exact ⟨(wrap64 (aA + 1)), (by first | rfl | (simp; done) | (simp [*]; done)), H', ⟨by have := HK1.out; omega⟩, ⟨KL HB⟩⟩
     ·rw [if_neg c5] at H
      exact absurd H (by simp)
    ·rw [if_neg c4] at H
     exact absurd H (by simp)
   ·rw [if_neg c3] at H
    have c3b0 : decide (aA < (l0.length : Int)) = false := decide_eq_false c3
    clear c3
    obtain rfl := sj H
    go_wp2
    go_ret
    exact ⟨ER, KL HB⟩
def impl_Air_34_WorldOk_cl1.f (k : Nat) (l0 : List (S76))  : Option (Bool) := (impl_Air_56_WorldOk_cl1.f k l0).bind fun t101 => (some (decide (t101 ≥ 0)))
theorem impl_Air_34_WorldOk_cl1.calls (k : Nat) (A0 : Option Addr) (c0 : Nat) (l0 : List (S76))  (r : Bool) (w : World) (aB : Kd.C k76 w A0 l0.length l0) (aC : l0.length ≤ c0) (h : impl_Air_34_WorldOk_cl1.f k l0 = some r) :
  Calls Tryz.prog 34 #[.slice A0 l0.length c0, .func (.func 32) #[] #[]] w fun e w' => e = .returned (.bool r) ∧ Below w.heap.size w w' := by
 have aE := Aside0.mk aB
 have aF := Aside0.mk aC
 clear aB aC
 have HB := am (Below.refl w.heap.size w)
 have H : ((impl_Air_56_WorldOk_cl1.f k l0).bind fun aA => (some (decide (aA ≥ 0)))) = some r := h
 clear h
 replace H := bm H
 obtain ⟨aA, aD, H⟩ := H
 replace H : (some (decide (aA ≥ 0))) = some r := H
 have A3 := Aside0.mk aD
 clear aD
 obtain rfl := sj H
 go_enter Tryz.func34, Tryz.ntmps34
 go_wp2_with (first | ((with_reducible refine gate_callee (f := 56) rfl ?_); refine goesL_ (some 7) rfl rfl Tryz.func56 (by kernel_rfl) rfl #[.slice A0 l0.length c0, .func (.func 32) #[] #[]] rfl MT ?_; (with_reducible refine (impl_Air_56_WorldOk_cl1.calls k _ _ l0  aA _ ?_ ?_ A3.out).mono ?_); exact KC aE.out; exact aF.out; rintro e w4 ⟨rfl, hb⟩; refine ⟨_, rfl, ?_⟩; replace HB := bl (KL HB) hb; (try clear hb)))
 go_ret
 exact ⟨ER, KL HB⟩
end Go.Proofs.YtgjbbnmjeblcgaaGreat.PAll
end
section
namespace Go.Proofs.YtgjbbnmjeblcgaaGreat.PAll
open Go.RowKit Go.Proofs.YtgjbbnmjeblcgaaGreatW.PrintWords Go.Proofs.YtgjbbnmjeblcgaaGreatW.PrintLast Go.Proofs.YtgjbbnmjeblcgaaGreatW.PrintMore
attribute [local go_sem] max2_int min2_int max_two min_two max_three min_three max_four min_four
set_option linter.unusedVariables false
set_option linter.unusedSimpArgs false
attribute [local go_sem high] eqA55
def impl_Sent_35.l0 : Nat → List (S55) → Int → Int → Int → Int → Int → ByteArray → Int → Int → Int → Option (Int)
 | 0, _, _, _, _, _, _, _, _, _, _ => none
 | k + 1, x0, x7, x8, x102000, x102001, x102002, x102003, x102004, x102005, x102006 => if x8 < x7 then (if 0 ≤ x8 then (if x8 < (x0.length : Int) then (if ((x102000 == ((rd_T55 x0 x8).f0.f0) && (x102001 == ((rd_T55 x0 x8).f0.f1) && (x102002 == ((rd_T55 x0 x8).f0.f2) && (x102003.toList == (((rd_T55 x0 x8).f0.f3).toList))))) && (x102004 == ((rd_T55 x0 x8).f1) && (x102005 == ((rd_T55 x0 x8).f2) && (x102006 == ((rd_T55 x0 x8).f3))))) = true then (some x8) else (impl_Sent_35.l0 k x0 x7 (wrap64 (x8 + 1)) x102000 x102001 x102002 x102003 x102004 x102005 x102006)) else (none)) else (none)) else (some (-1))
def impl_Sent_35.f (k : Nat) (l0 : List (S55)) (a1_0 : Int) (a1_1 : Int) (a1_2 : Int) (a1_3 : ByteArray) (a1_4 : Int) (a1_5 : Int) (a1_6 : Int) : Option (Int) := impl_Sent_35.l0 k l0 (l0.length : Int) 0 a1_0 a1_1 a1_2 a1_3 a1_4 a1_5 a1_6
theorem impl_Sent_35.calls (k : Nat) (A0 : Option Addr) (c0 : Nat) (l0 : List (S55)) (aI : Int) (aJ : Int) (aK : Int) (aL : ByteArray) (aM : Int) (aN : Int) (aO : Int) (r : Int) (w : World) (bO : Kd.C k55 w A0 l0.length l0) (bP : l0.length ≤ c0) (h : impl_Sent_35.f k l0 aI aJ aK aL aM aN aO = some r) :
  Calls Tryz.prog 35 #[.slice A0 l0.length c0, .agg #[.int .i64 aI, .int .i64 aJ, .int .i64 aK, .string aL, .int .i64 aM, .int .i64 aN, .int .i64 aO]] w fun e w' => e = .returned (.int .i64 r) ∧ Below w.heap.size w w' := by
 have bR := Tryz.underlying55
 have bQ := Aside0.mk bO
 have bS := Aside0.mk bP
 clear bO bP
 have HB := am (Below.refl w.heap.size w)
 have H : (impl_Sent_35.l0 k l0 (l0.length : Int) 0 aI aJ aK aL aM aN aO) = some r := h
 clear h
 have H' := Aside0.mk H
 clear H
 go_enter Tryz.func35, Tryz.ntmps35
 go_wp2_with (first | ((with_reducible refine gate_dst (N := 3) rfl ?_); refine box_event rfl (N := 3) rfl (cs := #[.int .i64 aI, .int .i64 aJ, .int .i64 aK, .string aL, .int .i64 aM, .int .i64 aN, .int .i64 aO]) (t := 55) BX ?_; intro aV hg w3 aR hb; have aP := am (aR); have aS := am (GH HB hg); have aQ := aS; replace HB := bl (KL HB) hb; clear hb aR hg))
 repeat (go_quiet (first | ((with_reducible refine gate_dst (N := 3) rfl ?_); refine box_event rfl (N := 3) rfl (cs := #[.int .i64 aI, .int .i64 aJ, .int .i64 aK, .string aL, .int .i64 aM, .int .i64 aN, .int .i64 aO]) (t := 55) BX ?_; intro aV hg w3 aR hb; have aP := am (aR); have aS := am (GH HB hg); have aQ := aS; replace HB := bl (KL HB) hb; clear hb aR hg)); try go_wp2_with (first | ((with_reducible refine gate_dst (N := 3) rfl ?_); refine box_event rfl (N := 3) rfl (cs := #[.int .i64 aI, .int .i64 aJ, .int .i64 aK, .string aL, .int .i64 aM, .int .i64 aN, .int .i64 aO]) (t := 55) BX ?_; intro aV hg w3 aR hb; have aP := am (aR); have aS := am (GH HB hg); have aQ := aS; replace HB := bl (KL HB) hb; clear hb aR hg)))
 go_loopg [8] k (fun kq v8 w' => ∃ (aA : Int), v8 = .int .i64 aA ∧ Aside0 (impl_Sent_35.l0 kq l0 (l0.length : Int) aA aI aJ aK aL aM aN aO = some r) ∧ Aside0 (kq ≤ k) ∧ Aside0 (w'.heap[aV]? = some (.cells #[.int .i64 aI, .int .i64 aJ, .int .i64 aK, .string aL, .int .i64 aM, .int .i64 aN, .int .i64 aO] 55 (0, 0))) ∧ Aside0 (Below w.heap.size w w'))
 case atStart => exact ⟨(0), (by first | rfl | (simp; done) | (simp [*]; done)), H', ⟨Nat.le_refl _⟩, ⟨KB aP⟩, ⟨K1 HB aQ.out⟩⟩
 case round =>
  clear H'
  try clear p2
  try clear c3
  obtain ⟨aA, rfl, HA, HK1, aP, HB⟩ := hrel
  cases gk with
  | zero => exact absurd HA.out (by simp [impl_Sent_35.l0])
  | succ k1 =>
   have H := HA.out
   clear HA
   simp only [impl_Sent_35.l0] at H
   by_cases c4 : aA < (l0.length : Int)
   ·rw [if_pos c4] at H
    have c4b0 : decide (aA < (l0.length : Int)) = true := decide_eq_true c4
    clear c4
    by_cases c5 : 0 ≤ aA
    ·rw [if_pos c5] at H
     have c5b0 : decide (0 ≤ aA) = true := decide_eq_true c5
     clear c5
     by_cases c6 : aA < (l0.length : Int)
     ·rw [if_pos c6] at H
      have c6b0 : decide (aA < (l0.length : Int)) = true := decide_eq_true c6
      clear c6
      by_cases c7 : ((aI == ((rd_T55 l0 aA).f0.f0) && (aJ == ((rd_T55 l0 aA).f0.f1) && (aK == ((rd_T55 l0 aA).f0.f2) && (aL.toList == (((rd_T55 l0 aA).f0.f3).toList))))) && (aM == ((rd_T55 l0 aA).f1) && (aN == ((rd_T55 l0 aA).f2) && (aO == ((rd_T55 l0 aA).f3))))) = true
      ·rw [if_pos c7] at H
       have c7b0 : ((aI == ((rd_T55 l0 aA).f0.f0) && (aJ == ((rd_T55 l0 aA).f0.f1) && (aK == ((rd_T55 l0 aA).f0.f2) && (aL.toList == (((rd_T55 l0 aA).f0.f3).toList))))) && (aM == ((rd_T55 l0 aA).f1) && (aN == ((rd_T55 l0 aA).f2) && (aO == ((rd_T55 l0 aA).f3))))) = true := c7
       clear c7
       obtain rfl := sj H
       have ⟨_, _, _, _, _, _, _, _⟩ := y7 wr aP.out
       have aT : 0 ≤ (aA : Int) := OD
       have aU : aA < (l0.length : Int) := OD
       obtain ⟨aX, aW, aB, aC, aD, aE, aF, aG, aH⟩ := at_T55 bQ.out aA aT aU
       cases aW
       replace aB := CX HB.out aB
       replace aC := CX HB.out aC
       replace aD := CX HB.out aD
       replace aE := CX HB.out aE
       replace aF := CX HB.out aF
       replace aG := CX HB.out aG
       replace aH := CX HB.out aH
       replace aT := eq_true aT
       replace aU := eq_true aU
       go_wp2
       repeat (go_quiet (fail); try go_wp2)
       go_ret
       exact ⟨ER, K1 HB aQ.out⟩
      ·rw [if_neg c7] at H
       have c7b0 : ((aI == ((rd_T55 l0 aA).f0.f0) && (aJ == ((rd_T55 l0 aA).f0.f1) && (aK == ((rd_T55 l0 aA).f0.f2) && (aL.toList == (((rd_T55 l0 aA).f0.f3).toList))))) && (aM == ((rd_T55 l0 aA).f1) && (aN == ((rd_T55 l0 aA).f2) && (aO == ((rd_T55 l0 aA).f3))))) = false := by simpa using c7
       clear c7
       have H' := Aside0.mk H
       clear H
       have ⟨_, _, _, _, _, _, _, _⟩ := y7 wr aP.out
       have aT : 0 ≤ (aA : Int) := OD
       have aU : aA < (l0.length : Int) := OD
       obtain ⟨aX, aW, aB, aC, aD, aE, aF, aG, aH⟩ := at_T55 bQ.out aA aT aU
       cases aW
       replace aB := CX HB.out aB
       replace aC := CX HB.out aC
       replace aD := CX HB.out aD
       replace aE := CX HB.out aE
       replace aF := CX HB.out aF
       replace aG := CX HB.out aG
       replace aH := CX HB.out aH
       replace aT := eq_true aT
       replace aU := eq_true aU
       go_wp2
       repeat (go_quiet (fail); try go_wp2)
       go_roundg k1
       case measure => have := HK1.out; omega
       case rel => exact ⟨(wrap64 (aA + 1)), (by first | rfl | (simp; done) | (simp [*]; done)), H', ⟨by have := HK1.out; omega⟩, ⟨KB aP⟩, ⟨K1 HB aQ.out⟩⟩
     ·rw [if_neg c6] at H
      exact absurd H (by simp)
    ·rw [if_neg c5] at H
     exact absurd H (by simp)
   ·rw [if_neg c4] at H
    have c4b0 : decide (aA < (l0.length : Int)) = false := decide_eq_false c4
    clear c4
    obtain rfl := sj H
    go_wp2
    repeat (go_quiet (fail); try go_wp2)
    go_ret
    exact ⟨ER, K1 HB aQ.out⟩
end Go.Proofs.YtgjbbnmjeblcgaaGreat.PAll
end
section
namespace Go.Proofs.YtgjbbnmjeblcgaaGreat.PAll
open Go.RowKit Go.Proofs.YtgjbbnmjeblcgaaGreatW.PrintWords Go.Proofs.YtgjbbnmjeblcgaaGreatW.PrintLast Go.Proofs.YtgjbbnmjeblcgaaGreatW.PrintMore
attribute [local go_sem] max2_int min2_int max_two min_two max_three min_three max_four min_four
set_option linter.unusedVariables false
set_option linter.unusedSimpArgs false
def impl_Sent_17.f (k : Nat) (l0 : List (S55)) (a1_0 : Int) (a1_1 : Int) (a1_2 : Int) (a1_3 : ByteArray) (a1_4 : Int) (a1_5 : Int) (a1_6 : Int) : Option (Bool) := (impl_Sent_35.f k l0 a1_0 a1_1 a1_2 a1_3 a1_4 a1_5 a1_6).bind fun t102 => (some (decide (t102 ≥ 0)))
theorem impl_Sent_17.calls (k : Nat) (A0 : Option Addr) (c0 : Nat) (l0 : List (S55)) (aA : Int) (aB : Int) (aC : Int) (aD : ByteArray) (aE : Int) (aF : Int) (aG : Int) (r : Bool) (w : World) (aU : Kd.C k55 w A0 l0.length l0) (aV : l0.length ≤ c0) (h : impl_Sent_17.f k l0 aA aB aC aD aE aF aG = some r) :
  Calls Tryz.prog 17 #[.slice A0 l0.length c0, .agg #[.int .i64 aA, .int .i64 aB, .int .i64 aC, .string aD, .int .i64 aE, .int .i64 aF, .int .i64 aG]] w fun e w' => e = .returned (.bool r) ∧ Below w.heap.size w w' := by
 have aY := Tryz.underlying55
 have aZ := Aside0.mk aU
 have bA := Aside0.mk aV
 clear aU aV
 have HB := am (Below.refl w.heap.size w)
 have H : ((impl_Sent_35.f k l0 aA aB aC aD aE aF aG).bind fun aI => (some (decide (aI ≥ 0)))) = some r := h
 clear h
 replace H := bm H
 obtain ⟨aI, aW, H⟩ := H
 replace H : (some (decide (aI ≥ 0))) = some r := H
 have A3 := Aside0.mk aW
 clear aW
 obtain rfl := sj H
 go_enter Tryz.func17, Tryz.ntmps17
 go_wp2_with (first | ((with_reducible refine gate_dst (N := 3) rfl ?_); refine box_event rfl (N := 3) rfl (cs := #[.int .i64 aA, .int .i64 aB, .int .i64 aC, .string aD, .int .i64 aE, .int .i64 aF, .int .i64 aG]) (t := 55) BX ?_; intro aX hg w4 aK hb; have aH := am (aK); have aL := am (GH HB hg); have aJ := aL; replace HB := bl (KL HB) hb; clear hb aK hg; have ⟨_, _, _, _, _, _, _, _⟩ := y7 w4 aH.out) | ((with_reducible refine gate_callee (f := 35) rfl ?_); refine goesL_ (some 7) rfl rfl Tryz.func35 (by kernel_rfl) rfl #[.slice A0 l0.length c0, .agg #[.int .i64 aA, .int .i64 aB, .int .i64 aC, .string aD, .int .i64 aE, .int .i64 aF, .int .i64 aG]] rfl MT ?_; (with_reducible refine (impl_Sent_35.calls k _ _ l0 aA aB aC aD aE aF aG aI _ ?_ ?_ A3.out).mono ?_); exact KD aZ HB; exact bA.out; rintro e w6 ⟨rfl, hb⟩; refine ⟨_, rfl, ?_⟩; replace aH := am (BB aH hb); replace HB := bl (K1 HB aJ.out) hb; (try clear hb)))
 go_ret
 exact ⟨ER, K1 HB aJ.out⟩
def laws_eqWorld.f (k : Nat) (a0_0 : Int) (l0_1 : List (S107)) (a0_2 : Int) (l0_3 : List (S128)) (l0_4 : List (S103)) (l0_5 : List (S103)) (a0_6 : Int) (l0_7 : List (S107)) (a0_8 : Int) (l0_9 : List (S128)) (l0_10 : List (S103)) (l0_11 : List (S103)) (l0_12 : List (S76)) (l0_13 : List (S55)) (l0_14 : List (S55)) (a1_0 : Int) (l1_1 : List (S107)) (a1_2 : Int) (l1_3 : List (S128)) (l1_4 : List (S103)) (l1_5 : List (S103)) (a1_6 : Int) (l1_7 : List (S107)) (a1_8 : Int) (l1_9 : List (S128)) (l1_10 : List (S103)) (l1_11 : List (S103)) (l1_12 : List (S76)) (l1_13 : List (S55)) (l1_14 : List (S55)) : Option (Bool) := (laws_eqGate.f k a0_0 l0_1 a0_2 l0_3 l0_4 l0_5 a1_0 l1_1 a1_2 l1_3 l1_4 l1_5).bind fun t103 => (if t103 = true then ((laws_eqGate.f k a0_6 l0_7 a0_8 l0_9 l0_10 l0_11 a1_6 l1_7 a1_8 l1_9 l1_10 l1_11).bind fun t104 => (if t104 = true then ((laws_eqAirS.f k l0_12 l1_12).bind fun t105 => (if t105 = true then ((laws_eqSentS.f k l0_13 l1_13).bind fun t106 => (if t106 = true then ((laws_eqSentS.f k l0_14 l1_14).bind fun t107 => (if t107 = true then (some true) else (some false))) else (some false))) else (some false))) else (some false))) else (some false))
end Go.Proofs.YtgjbbnmjeblcgaaGreat.PAll
end
