/- Contracts of the functions that the statement reaches. -/
import Derived.Test.YtgjbbnmjeblcgaaGreatCFnExactWorldSafe3
import Derived.Test.YtgjbbnmjeblcgaaGreatCFnExactWorldSafe4
import Derived.Test.YtgjbbnmjeblcgaaGreatCFnExactWorldSafe5
import Derived.Test.YtgjbbnmjeblcgaaGreatCFnExactWorldSafe6
set_option maxHeartbeats 8000000
set_option maxRecDepth 100000
section
namespace Go.Proofs.YtgjbbnmjeblcgaaGreat.PAll
open Go.RowKit Go.Proofs.YtgjbbnmjeblcgaaGreatW.PrintWords Go.Proofs.YtgjbbnmjeblcgaaGreatW.PrintLast Go.Proofs.YtgjbbnmjeblcgaaGreatW.PrintMore
attribute [local go_sem] max2_int min2_int max_two min_two max_three min_three max_four min_four
set_option linter.unusedVariables false
set_option linter.unusedSimpArgs false
def spec_WindowOk.l0 : Nat → Int → Int → Int → List Int → Option (Bool)
 | 0, _, _, _, _ => none
 | k + 1, x3, x4, x102000, x102001 => if x4 < x3 then (if 0 ≤ x4 then (if x4 < (x102001.length : Int) then (if (rd x102001 x4) ≤ (wrap64 (x102000 - 16)) then (some false) else (if (rd x102001 x4) < 1 then (some false) else (if x4 > 0 then (if 0 ≤ (wrap64 (x4 - 1)) then (if (wrap64 (x4 - 1)) < (x102001.length : Int) then (if (rd x102001 (wrap64 (x4 - 1))) ≥ (rd x102001 x4) then (some false) else (spec_WindowOk.l0 k x3 (wrap64 (x4 + 1)) x102000 x102001)) else (none)) else (none)) else (spec_WindowOk.l0 k x3 (wrap64 (x4 + 1)) x102000 x102001)))) else (none)) else (none)) else (if 0 ≤ (wrap64 (x3 - 1)) then (if (wrap64 (x3 - 1)) < (x102001.length : Int) then (if (rd x102001 (wrap64 (x3 - 1))) = x102000 then (some (decide (x102000 ≤ 1000000))) else (some false)) else (none)) else (none))
def spec_WindowOk.f (k : Nat) (a0_0 : Int) (l0_1 : List Int) : Option (Bool) := if (l0_1.length : Int) = 0 then (some (a0_0 == 0)) else (spec_WindowOk.l0 k (l0_1.length : Int) 0 a0_0 l0_1)
theorem spec_WindowOk.calls (k : Nat) (aF : Int) (aU : Option Addr) (aV : Nat) (aA : List Int) (r : Bool) (w : World) (bM : Kd.C (Kd.int .i64) w aU aA.length aA) (bN : aA.length ≤ aV) (h : spec_WindowOk.f k aF aA = some r) :
  Calls Tryz.prog 66 #[.agg #[.int .i64 aF, .slice aU aA.length aV]] w fun e w' => e = .returned (.bool r) ∧ Below w.heap.size w w' := by
 have cW := Tryz.underlying101
 have aG := Aside0.mk bM
 have cX := Aside0.mk bN
 clear bM bN
 have HB := am (Below.refl w.heap.size w)
 have H : (if (aA.length : Int) = 0 then (some (aF == 0)) else (spec_WindowOk.l0 k (aA.length : Int) 0 aF aA)) = some r := h
 clear h
 by_cases c2 : (aA.length : Int) = 0
 ·rw [if_pos c2] at H
  have c2b0 : ((aA.length : Int) == 0) = true := beq_iff_eq.mpr c2
  have c2b1 : ((aA.length : Int) != 0) = false := bne_eq_false_iff_eq.mpr c2
  clear c2
  obtain rfl := sj H
  go_enter Tryz.func66, Tryz.ntmps66
  go_wp2_with (first | ((with_reducible refine gate_dst (N := 1) rfl ?_); refine box_event rfl (N := 1) rfl (cs := #[.int .i64 aF, .slice aU aA.length aV]) (t := 101) BX ?_; intro aT hg w3 aL hb; have aD := am (aL); have aM := am (GH HB hg); have aH := aM; replace HB := bl (KL HB) hb; clear hb aL hg; obtain ⟨aX, aY, aZ⟩ := y2 w3 aD.out))
  repeat (go_quiet (first | ((with_reducible refine gate_dst (N := 1) rfl ?_); refine box_event rfl (N := 1) rfl (cs := #[.int .i64 aF, .slice aU aA.length aV]) (t := 101) BX ?_; intro aT hg w3 aL hb; have aD := am (aL); have aM := am (GH HB hg); have aH := aM; replace HB := bl (KL HB) hb; clear hb aL hg; obtain ⟨aX, aY, aZ⟩ := y2 w3 aD.out)); try go_wp2_with (first | ((with_reducible refine gate_dst (N := 1) rfl ?_); refine box_event rfl (N := 1) rfl (cs := #[.int .i64 aF, .slice aU aA.length aV]) (t := 101) BX ?_; intro aT hg w3 aL hb; have aD := am (aL); have aM := am (GH HB hg); have aH := aM; replace HB := bl (KL HB) hb; clear hb aL hg; obtain ⟨aX, aY, aZ⟩ := y2 w3 aD.out)))
  go_ret
  exact ⟨ER, K1 HB aH.out⟩
 ·rw [if_neg c2] at H
  have c2b0 : ((aA.length : Int) == 0) = false := beq_eq_false_iff_ne.mpr c2
  have c2b1 : ((aA.length : Int) != 0) = true := bne_iff_ne.mpr c2
  have c2b2 : ¬ (aA = []) := fun h_ => c2 (by rw [h_]; rfl)
  have H' := Aside0.mk H
  clear H
  go_enter Tryz.func66, Tryz.ntmps66
  go_wp2_with (first | ((with_reducible refine gate_dst (N := 1) rfl ?_); refine box_event rfl (N := 1) rfl (cs := #[.int .i64 aF, .slice aU aA.length aV]) (t := 101) BX ?_; intro aT hg w5 aL hb; have aD := am (aL); have aM := am (GH HB hg); have aH := aM; replace HB := bl (KL HB) hb; clear hb aL hg; obtain ⟨bA, bB, bC⟩ := y2 w5 aD.out))
  repeat (go_quiet (first | ((with_reducible refine gate_dst (N := 1) rfl ?_); refine box_event rfl (N := 1) rfl (cs := #[.int .i64 aF, .slice aU aA.length aV]) (t := 101) BX ?_; intro aT hg w5 aL hb; have aD := am (aL); have aM := am (GH HB hg); have aH := aM; replace HB := bl (KL HB) hb; clear hb aL hg; obtain ⟨bA, bB, bC⟩ := y2 w5 aD.out)); try go_wp2_with (first | ((with_reducible refine gate_dst (N := 1) rfl ?_); refine box_event rfl (N := 1) rfl (cs := #[.int .i64 aF, .slice aU aA.length aV]) (t := 101) BX ?_; intro aT hg w5 aL hb; have aD := am (aL); have aM := am (GH HB hg); have aH := aM; replace HB := bl (KL HB) hb; clear hb aL hg; obtain ⟨bA, bB, bC⟩ := y2 w5 aD.out)))
  go_loopg [4] k (fun kq v4 w' => ∃ (aB : Int), v4 = .int .i64 aB ∧ Aside0 (spec_WindowOk.l0 kq (aA.length : Int) aB aF aA = some r) ∧ Aside0 (kq ≤ k) ∧ Aside0 (w'.heap[aT]? = some (.cells #[.int .i64 aF, (.slice aU aA.length aV)] 101 (0, 0))) ∧ Aside0 (Below w.heap.size w w'))
  case atStart => exact ⟨(0), (by first | rfl | (simp; done) | (simp [*]; done)), H', ⟨Nat.le_refl _⟩, ⟨KB aD⟩, ⟨K1 HB aH.out⟩⟩
  case round =>
   clear H'
   try clear c2
   try clear c2b0
   try clear c2b1
   try clear c2b2
   try clear p2
   try clear c6
   try clear aX aY aZ
   try clear bA bB bC
   obtain ⟨aB, rfl, HA, HK1, aD, HB⟩ := hrel
   cases gk with
   | zero => exact absurd HA.out (by simp [spec_WindowOk.l0])
   | succ k1 =>
    have H := HA.out
    clear HA
    simp only [spec_WindowOk.l0] at H
    by_cases c7 : aB < (aA.length : Int)
    ·rw [if_pos c7] at H
     have c7b0 : decide (aB < (aA.length : Int)) = true := decide_eq_true c7
     clear c7
     by_cases c8 : 0 ≤ aB
     ·rw [if_pos c8] at H
      have c8b0 : decide (0 ≤ aB) = true := decide_eq_true c8
      clear c8
      by_cases c9 : aB < (aA.length : Int)
      ·rw [if_pos c9] at H
       have c9b0 : decide (aB < (aA.length : Int)) = true := decide_eq_true c9
       clear c9
       by_cases bS : (rd aA aB) ≤ (wrap64 (aF - 16))
       ·rw [if_pos bS] at H
        have c10b0 : decide ((rd aA aB) ≤ (wrap64 (aF - 16))) = true := decide_eq_true bS
        clear bS
        obtain rfl := sj H
        have ⟨_, _, _⟩ := y2 wr aD.out
        have aI : 0 ≤ (aB : Int) := OD
        have aJ : aB < (aA.length : Int) := OD
        obtain ⟨aK, aW, aC⟩ := Kd.at_int aG.out aB aI aJ
        cases aW
        replace aC := CX HB.out aC
        replace aI := eq_true aI
        replace aJ := eq_true aJ
        go_wp2
        repeat (go_quiet (fail); try go_wp2)
        go_ret
        exact ⟨ER, K1 HB aH.out⟩
       ·rw [if_neg bS] at H
        have c10b0 : decide ((rd aA aB) ≤ (wrap64 (aF - 16))) = false := decide_eq_false bS
        clear bS
        by_cases bT : (rd aA aB) < 1
        ·rw [if_pos bT] at H
         have c12b0 : decide ((rd aA aB) < 1) = true := decide_eq_true bT
         clear bT
         obtain rfl := sj H
         have ⟨_, _, _⟩ := y2 wr aD.out
         have aI : 0 ≤ (aB : Int) := OD
         have aJ : aB < (aA.length : Int) := OD
         obtain ⟨aK, aW, aC⟩ := Kd.at_int aG.out aB aI aJ
         cases aW
         replace aC := CX HB.out aC
         replace aI := eq_true aI
         replace aJ := eq_true aJ
         have aN : 0 ≤ (aB : Int) := OD
         have aO : aB < (aA.length : Int) := OD
         obtain ⟨aS, bD, aE⟩ := Kd.at_int aG.out aB aN aO
         obtain rfl : aK = aS := (by injection bD)
         replace aE := CX HB.out aE
         replace aN := eq_true aN
         replace aO := eq_true aO
         go_wp2
         repeat (go_quiet (fail); try go_wp2)
         go_ret
         exact ⟨ER, K1 HB aH.out⟩
        ·rw [if_neg bT] at H
         have c12b0 : decide ((rd aA aB) < 1) = false := decide_eq_false bT
         clear bT
         by_cases bU : aB > 0
         ·rw [if_pos bU] at H
          have c14b0 : decide (0 < aB) = true := decide_eq_true bU
          clear bU
          obtain ⟨ji15, hji15⟩ : ∃ j_ : Int, (wrap64 (aB - 1)) = j_ := ⟨_, rfl⟩
          replace H : (if 0 ≤ (ji15) then (if (ji15) < (aA.length : Int) then (if (rd aA (ji15)) ≥ (rd aA aB) then (some false) else (spec_WindowOk.l0 k1 (aA.length : Int) (wrap64 (aB + 1)) aF aA)) else (none)) else (none)) = some r := by first | (rw [hji15] at H; exact H) | (simp only [hji15] at H ⊢; exact H)
          have hji15w : (IntKind.i64.wrap (aB - 1)) = ji15 := (i64_w _).trans hji15
          by_cases cD : 0 ≤ (ji15)
          ·rw [if_pos cD] at H
           have c16b0 : decide (0 ≤ (ji15)) = true := decide_eq_true cD
           clear cD
           by_cases cE : (ji15) < (aA.length : Int)
           ·rw [if_pos cE] at H
            have c17b0 : decide ((ji15) < (aA.length : Int)) = true := decide_eq_true cE
            clear cE
            by_cases bV : (rd aA (ji15)) ≥ (rd aA aB)
            ·rw [if_pos bV] at H
             have c18b0 : decide ((rd aA aB) ≤ (rd aA (ji15))) = true := decide_eq_true bV
             clear bV
             obtain rfl := sj H
             have ⟨_, _, _⟩ := y2 wr aD.out
             have aI : 0 ≤ (aB : Int) := OD
             have aJ : aB < (aA.length : Int) := OD
             obtain ⟨aK, aW, aC⟩ := Kd.at_int aG.out aB aI aJ
             cases aW
             replace aC := CX HB.out aC
             replace aI := eq_true aI
             replace aJ := eq_true aJ
             have aN : 0 ≤ (aB : Int) := OD
             have aO : aB < (aA.length : Int) := OD
             obtain ⟨aS, bD, aE⟩ := Kd.at_int aG.out aB aN aO
             obtain rfl : aK = aS := (by injection bD)
             replace aE := CX HB.out aE
             replace aN := eq_true aN
             replace aO := eq_true aO
             have bE : 0 ≤ ((ji15) : Int) := OD
             have bF : (ji15) < (aA.length : Int) := OD
             obtain ⟨bK, bO, aP⟩ := Kd.at_int aG.out (ji15) bE bF
             obtain rfl : aK = bK := (by injection bO)
             replace aP := CX HB.out aP
             replace bE := eq_true bE
             replace bF := eq_true bF
             have bG : 0 ≤ (aB : Int) := OD
             have bH : aB < (aA.length : Int) := OD
             obtain ⟨bL, bP, aQ⟩ := Kd.at_int aG.out aB bG bH
             obtain rfl : aK = bL := (by injection bP)
             replace aQ := CX HB.out aQ
             replace bG := eq_true bG
             replace bH := eq_true bH
             go_wp2
             repeat (go_quiet (fail); try go_wp2)
             go_ret
             exact ⟨by first | rfl | (simp [errW_none, errW_some] <;> rfl) | (simp only [← hji15]; first | rfl | (simp [errW_none, errW_some] <;> rfl)) | (simp [*, errW_none, errW_some] <;> rfl), K1 HB aH.out⟩
            ·rw [if_neg bV] at H
             have c18b0 : decide ((rd aA aB) ≤ (rd aA (ji15))) = false := decide_eq_false bV
             clear bV
             have H' := Aside0.mk H
             clear H
             have ⟨_, _, _⟩ := y2 wr aD.out
             have aI : 0 ≤ (aB : Int) := OD
             have aJ : aB < (aA.length : Int) := OD
             obtain ⟨aK, aW, aC⟩ := Kd.at_int aG.out aB aI aJ
             cases aW
             replace aC := CX HB.out aC
             replace aI := eq_true aI
             replace aJ := eq_true aJ
             have aN : 0 ≤ (aB : Int) := OD
             have aO : aB < (aA.length : Int) := OD
             obtain ⟨aS, bD, aE⟩ := Kd.at_int aG.out aB aN aO
             obtain rfl : aK = aS := (by injection bD)
             replace aE := CX HB.out aE
             replace aN := eq_true aN
             replace aO := eq_true aO
             have bE : 0 ≤ ((ji15) : Int) := OD
             have bF : (ji15) < (aA.length : Int) := OD
             obtain ⟨bK, bO, aP⟩ := Kd.at_int aG.out (ji15) bE bF
             obtain rfl : aK = bK := (by injection bO)
             replace aP := CX HB.out aP
             replace bE := eq_true bE
             replace bF := eq_true bF
             have bG : 0 ≤ (aB : Int) := OD
             have bH : aB < (aA.length : Int) := OD
             obtain ⟨bL, bP, aQ⟩ := Kd.at_int aG.out aB bG bH
             obtain rfl : aK = bL := (by injection bP)
             replace aQ := CX HB.out aQ
             replace bG := eq_true bG
             replace bH := eq_true bH
             go_wp2
             repeat (go_quiet (fail); try go_wp2)
             go_roundg k1
             case measure => have := HK1.out; omega
             case rel => exact ⟨(wrap64 (aB + 1)), (by first | rfl | (simp; done) | (simp [*]; done)), H', ⟨by have := HK1.out; omega⟩, ⟨KB aD⟩, ⟨K1 HB aH.out⟩⟩
           ·rw [if_neg cE] at H
            exact absurd H (by simp)
          ·rw [if_neg cD] at H
           exact absurd H (by simp)
         ·rw [if_neg bU] at H
          have c14b0 : decide (0 < aB) = false := decide_eq_false bU
          clear bU
          have H' := Aside0.mk H
          clear H
          have ⟨_, _, _⟩ := y2 wr aD.out
          have aI : 0 ≤ (aB : Int) := OD
          have aJ : aB < (aA.length : Int) := OD
          obtain ⟨aK, aW, aC⟩ := Kd.at_int aG.out aB aI aJ
          cases aW
          replace aC := CX HB.out aC
          replace aI := eq_true aI
          replace aJ := eq_true aJ
          have aN : 0 ≤ (aB : Int) := OD
          have aO : aB < (aA.length : Int) := OD
          obtain ⟨aS, bD, aE⟩ := Kd.at_int aG.out aB aN aO
          obtain rfl : aK = aS := (by injection bD)
          replace aE := CX HB.out aE
          replace aN := eq_true aN
          replace aO := eq_true aO
          go_wp2
          repeat (go_quiet (fail); try go_wp2)
          go_roundg k1
          case measure => have := HK1.out; omega
          case rel => exact ⟨(wrap64 (aB + 1)), (by first | rfl | (simp; done) | (simp [*]; done)), H', ⟨by have := HK1.out; omega⟩, ⟨KB aD⟩, ⟨K1 HB aH.out⟩⟩
      ·rw [if_neg c9] at H
       exact absurd H (by simp)
     ·rw [if_neg c8] at H
      exact absurd H (by simp)
    ·rw [if_neg c7] at H
     have c7b0 : decide (aB < (aA.length : Int)) = false := decide_eq_false c7
     clear c7
     obtain ⟨ji22, hji22⟩ : ∃ j_ : Int, (wrap64 ((aA.length : Int) - 1)) = j_ := ⟨_, rfl⟩
     replace H : (if 0 ≤ (ji22) then (if (ji22) < (aA.length : Int) then (if (rd aA (ji22)) = aF then (some (decide (aF ≤ 1000000))) else (some false)) else (none)) else (none)) = some r := by first | (rw [hji22] at H; exact H) | (simp only [hji22] at H ⊢; exact H)
     have hji22w : (IntKind.i64.wrap ((aA.length : Int) - 1)) = ji22 := (i64_w _).trans hji22
     by_cases cO : 0 ≤ (ji22)
     ·rw [if_pos cO] at H
      have c23b0 : decide (0 ≤ (ji22)) = true := decide_eq_true cO
      clear cO
      by_cases cP : (ji22) < (aA.length : Int)
      ·rw [if_pos cP] at H
       have c24b0 : decide ((ji22) < (aA.length : Int)) = true := decide_eq_true cP
       clear cP
       by_cases bQ : (rd aA (ji22)) = aF
       ·rw [if_pos bQ] at H
        have c25b0 : ((rd aA (ji22)) == aF) = true := beq_iff_eq.mpr bQ
        have c25b1 : ((rd aA (ji22)) != aF) = false := bne_eq_false_iff_eq.mpr bQ
        clear bQ
        obtain rfl := sj H
        have ⟨_, _, _⟩ := y2 wr aD.out
        have bI : 0 ≤ ((ji22) : Int) := OD
        have bJ : (ji22) < (aA.length : Int) := OD
        obtain ⟨bW, bR, aR⟩ := Kd.at_int aG.out (ji22) bI bJ
        cases bR
        replace aR := CX HB.out aR
        replace bI := eq_true bI
        replace bJ := eq_true bJ
        go_wp2
        repeat (go_quiet (fail); try go_wp2)
        go_ret
        exact ⟨by first | rfl | (simp [errW_none, errW_some] <;> rfl) | (simp only [← hji22]; first | rfl | (simp [errW_none, errW_some] <;> rfl)) | (simp [*, errW_none, errW_some] <;> rfl), K1 HB aH.out⟩
       ·rw [if_neg bQ] at H
        have c25b0 : ((rd aA (ji22)) == aF) = false := beq_eq_false_iff_ne.mpr bQ
        have c25b1 : ((rd aA (ji22)) != aF) = true := bne_iff_ne.mpr bQ
        obtain rfl := sj H
        have ⟨_, _, _⟩ := y2 wr aD.out
        have bI : 0 ≤ ((ji22) : Int) := OD
        have bJ : (ji22) < (aA.length : Int) := OD
        obtain ⟨bW, bR, aR⟩ := Kd.at_int aG.out (ji22) bI bJ
        cases bR
        replace aR := CX HB.out aR
        replace bI := eq_true bI
        replace bJ := eq_true bJ
        go_wp2
        repeat (go_quiet (fail); try go_wp2)
        go_ret
        exact ⟨by first | rfl | (simp [errW_none, errW_some] <;> rfl) | (simp only [← hji22]; first | rfl | (simp [errW_none, errW_some] <;> rfl)) | (simp [*, errW_none, errW_some] <;> rfl), K1 HB aH.out⟩
      ·rw [if_neg cP] at H
       exact absurd H (by simp)
     ·rw [if_neg cO] at H
      exact absurd H (by simp)
def spec_SaOk.f (k : Nat) (a0_0 : Int) (a0_1 : Int) (a0_2 : ByteArray) (a0_3 : ByteArray) (a0_4 : Int) (a0_5 : Int) (a0_6 : Int) (a0_7 : Int) (a0_8 : Int) (a0_9 : Int) (l0_10 : List Int) : Option (Bool) := (spec_l1In.f a0_0 1 999).bind fun t102 => (if t102 = true then ((spec_l1In.f a0_1 0 3).bind fun t103 => (if t103 = true then ((spec_l8Keys.f a0_2 a0_3).bind fun t104 => (if t104 = true then ((spec_l1In.f a0_4 0 1000000).bind fun t105 => (if t105 = true then ((spec_l1In.f a0_5 1 a0_6).bind fun t106 => (if t106 = true then ((spec_l1In.f a0_6 1 1000000).bind fun t107 => (if t107 = true then ((spec_l1In.f a0_7 1 1000000).bind fun t108 => (if t108 = true then ((spec_l1In.f a0_8 0 a0_6).bind fun t109 => (if t109 = true then ((spec_WindowOk.f k a0_9 l0_10).bind fun t110 => (some t110)) else (some false))) else (some false))) else (some false))) else (some false))) else (some false))) else (some false))) else (some false))) else (some false))
theorem spec_SaOk.calls (k : Nat) (aC : Int) (aH : Int) (aI : ByteArray) (aJ : ByteArray) (aK : Int) (aL : Int) (aA : Int) (aM : Int) (aN : Int) (aO : Int) (aR : Option Addr) (aS : Nat) (aB : List Int) (r : Bool) (w : World) (bA : Kd.C (Kd.int .i64) w aR aB.length aB) (bB : aB.length ≤ aS) (h : spec_SaOk.f k aC aH aI aJ aK aL aA aM aN aO aB = some r) :
  Calls Tryz.prog 46 #[.agg #[.int .i64 aC, .int .i64 aH, .string aI, .string aJ, .int .i64 aK, .int .i64 aL, .int .i64 aA, .int .i64 aM, .int .i64 aN, .int .i64 aO, .slice aR aB.length aS]] w fun e w' => e = .returned (.bool r) ∧ Below w.heap.size w w' := by
 have fV := Tryz.underlying103
 have fW := Tryz.underlying101
 have bD := Aside0.mk bA
 have bE := Aside0.mk bB
 clear bA bB
 have HB := am (Below.refl w.heap.size w)
 have H : ((spec_l1In.f aC 1 999).bind fun bC => (if bC = true then ((spec_l1In.f aH 0 3).bind fun aZ => (if aZ = true then ((spec_l8Keys.f aI aJ).bind fun aY => (if aY = true then ((spec_l1In.f aK 0 1000000).bind fun aX => (if aX = true then ((spec_l1In.f aL 1 aA).bind fun aW => (if aW = true then ((spec_l1In.f aA 1 1000000).bind fun aU => (if aU = true then ((spec_l1In.f aM 1 1000000).bind fun aT => (if aT = true then ((spec_l1In.f aN 0 aA).bind fun aQ => (if aQ = true then ((spec_WindowOk.f k aO aB).bind fun aP => (some aP)) else (some false))) else (some false))) else (some false))) else (some false))) else (some false))) else (some false))) else (some false))) else (some false))) = some r := h
 clear h
 replace H := bm H
 obtain ⟨bC, fX, H⟩ := H
 replace H : (if bC = true then ((spec_l1In.f aH 0 3).bind fun aZ => (if aZ = true then ((spec_l8Keys.f aI aJ).bind fun aY => (if aY = true then ((spec_l1In.f aK 0 1000000).bind fun aX => (if aX = true then ((spec_l1In.f aL 1 aA).bind fun aW => (if aW = true then ((spec_l1In.f aA 1 1000000).bind fun aU => (if aU = true then ((spec_l1In.f aM 1 1000000).bind fun aT => (if aT = true then ((spec_l1In.f aN 0 aA).bind fun aQ => (if aQ = true then ((spec_WindowOk.f k aO aB).bind fun aP => (some aP)) else (some false))) else (some false))) else (some false))) else (some false))) else (some false))) else (some false))) else (some false))) else (some false)) = some r := H
 have A2 := Aside0.mk fX
 clear fX
 by_cases c3 : bC = true
 ·subst c3
  have H1 := pf H
  clear H
  have H := H1
  clear H1
  replace H := bm H
  obtain ⟨aZ, fY, H⟩ := H
  replace H : (if aZ = true then ((spec_l8Keys.f aI aJ).bind fun aY => (if aY = true then ((spec_l1In.f aK 0 1000000).bind fun aX => (if aX = true then ((spec_l1In.f aL 1 aA).bind fun aW => (if aW = true then ((spec_l1In.f aA 1 1000000).bind fun aU => (if aU = true then ((spec_l1In.f aM 1 1000000).bind fun aT => (if aT = true then ((spec_l1In.f aN 0 aA).bind fun aQ => (if aQ = true then ((spec_WindowOk.f k aO aB).bind fun aP => (some aP)) else (some false))) else (some false))) else (some false))) else (some false))) else (some false))) else (some false))) else (some false)) = some r := H
  have A4 := Aside0.mk fY
  clear fY
  by_cases c5 : aZ = true
  ·subst c5
   have H1 := pf H
   clear H
   have H := H1
   clear H1
   replace H := bm H
   obtain ⟨aY, fZ, H⟩ := H
   replace H : (if aY = true then ((spec_l1In.f aK 0 1000000).bind fun aX => (if aX = true then ((spec_l1In.f aL 1 aA).bind fun aW => (if aW = true then ((spec_l1In.f aA 1 1000000).bind fun aU => (if aU = true then ((spec_l1In.f aM 1 1000000).bind fun aT => (if aT = true then ((spec_l1In.f aN 0 aA).bind fun aQ => (if aQ = true then ((spec_WindowOk.f k aO aB).bind fun aP => (some aP)) else (some false))) else (some false))) else (some false))) else (some false))) else (some false))) else (some false)) = some r := H
   have A6 := Aside0.mk fZ
   clear fZ
   by_cases c7 : aY = true
   ·subst c7
    have H1 := pf H
    clear H
    have H := H1
    clear H1
    replace H := bm H
    obtain ⟨aX, gA, H⟩ := H
    replace H : (if aX = true then ((spec_l1In.f aL 1 aA).bind fun aW => (if aW = true then ((spec_l1In.f aA 1 1000000).bind fun aU => (if aU = true then ((spec_l1In.f aM 1 1000000).bind fun aT => (if aT = true then ((spec_l1In.f aN 0 aA).bind fun aQ => (if aQ = true then ((spec_WindowOk.f k aO aB).bind fun aP => (some aP)) else (some false))) else (some false))) else (some false))) else (some false))) else (some false)) = some r := H
    have A8 := Aside0.mk gA
    clear gA
    by_cases c9 : aX = true
    ·subst c9
     have H1 := pf H
     clear H
     have H := H1
     clear H1
     replace H := bm H
     obtain ⟨aW, bF, H⟩ := H
     replace H : (if aW = true then ((spec_l1In.f aA 1 1000000).bind fun aU => (if aU = true then ((spec_l1In.f aM 1 1000000).bind fun aT => (if aT = true then ((spec_l1In.f aN 0 aA).bind fun aQ => (if aQ = true then ((spec_WindowOk.f k aO aB).bind fun aP => (some aP)) else (some false))) else (some false))) else (some false))) else (some false)) = some r := H
     have bG := Aside0.mk bF
     clear bF
     by_cases bU : aW = true
     ·subst bU
      have H1 := pf H
      clear H
      have H := H1
      clear H1
      replace H := bm H
      obtain ⟨aU, bH, H⟩ := H
      replace H : (if aU = true then ((spec_l1In.f aM 1 1000000).bind fun aT => (if aT = true then ((spec_l1In.f aN 0 aA).bind fun aQ => (if aQ = true then ((spec_WindowOk.f k aO aB).bind fun aP => (some aP)) else (some false))) else (some false))) else (some false)) = some r := H
      have bV := Aside0.mk bH
      clear bH
      by_cases bW : aU = true
      ·subst bW
       have H1 := pf H
       clear H
       have H := H1
       clear H1
       replace H := bm H
       obtain ⟨aT, bI, H⟩ := H
       replace H : (if aT = true then ((spec_l1In.f aN 0 aA).bind fun aQ => (if aQ = true then ((spec_WindowOk.f k aO aB).bind fun aP => (some aP)) else (some false))) else (some false)) = some r := H
       have fU := Aside0.mk bI
       clear bI
       by_cases bX : aT = true
       ·subst bX
        have H1 := pf H
        clear H
        have H := H1
        clear H1
        replace H := bm H
        obtain ⟨aQ, bJ, H⟩ := H
        replace H : (if aQ = true then ((spec_WindowOk.f k aO aB).bind fun aP => (some aP)) else (some false)) = some r := H
        have gB := Aside0.mk bJ
        clear bJ
        by_cases bY : aQ = true
        ·subst bY
         have H1 := pf H
         clear H
         have H := H1
         clear H1
         replace H := bm H
         obtain ⟨aP, bK, H⟩ := H
         replace H : (some aP) = some r := H
         have gC := Aside0.mk bK
         clear bK
         obtain rfl := sj H
         go_enter Tryz.func46, Tryz.ntmps46
         go_wp2_with (first | ((with_reducible refine gate_dst (N := 1) rfl ?_); refine box_event rfl (N := 1) rfl (cs := #[.int .i64 aC, .int .i64 aH, .string aI, .string aJ, .int .i64 aK, .int .i64 aL, .int .i64 aA, .int .i64 aM, .int .i64 aN, .int .i64 aO, .slice aR aB.length aS]) (t := 103) BX ?_; intro aV hg gD aF hb; have aD := am (aF); have aG := am (GH HB hg); have aE := aG; replace HB := bl (KL HB) hb; clear hb aF hg; have ⟨_, _, _, _, _, _, _, _, _, _, _, _⟩ := y11 gD aD.out) | ((with_reducible refine gate_callee (f := 44) rfl ?_); refine goesL_ (some 5) rfl rfl Tryz.func44 (by kernel_rfl) rfl #[.int .i64 aC, .int .i64 1, .int .i64 999] rfl MT ?_; (with_reducible refine (spec_l1In.calls aC 1 999 true _ A2.out).mono ?_); rintro e w' ⟨rfl, ⟨nd, rfl⟩⟩; refine ⟨_, rfl, ?_⟩) | (go_at_call 44; (with_reducible refine (spec_l1In.calls aH 0 3 true _ A4.out).mono ?_); rintro e w' ⟨rfl, ⟨nd, rfl⟩⟩) | (go_at_call 65; (with_reducible refine (spec_l8Keys.calls aI aJ true _ A6.out).mono ?_); rintro e w' ⟨rfl, ⟨nd, rfl⟩⟩) | (go_at_call 44; (with_reducible refine (spec_l1In.calls aK 0 1000000 true _ A8.out).mono ?_); rintro e w' ⟨rfl, ⟨nd, rfl⟩⟩) | (go_at_call 44; (with_reducible refine (spec_l1In.calls aL 1 aA true _ bG.out).mono ?_); rintro e w' ⟨rfl, ⟨nd, rfl⟩⟩) | (go_at_call 44; (with_reducible refine (spec_l1In.calls aA 1 1000000 true _ bV.out).mono ?_); rintro e w' ⟨rfl, ⟨nd, rfl⟩⟩) | (go_at_call 44; (with_reducible refine (spec_l1In.calls aM 1 1000000 true _ fU.out).mono ?_); rintro e w' ⟨rfl, ⟨nd, rfl⟩⟩) | (go_at_call 44; (with_reducible refine (spec_l1In.calls aN 0 aA true _ gB.out).mono ?_); rintro e w' ⟨rfl, ⟨nd, rfl⟩⟩) | (go_at_call 66; (with_reducible refine (spec_WindowOk.calls k aO _ _ aB aP _ ?_ ?_ gC.out).mono ?_); (repeat (first | exact (Kd.C_below bD.out (K1 HB aE.out)) | (with_reducible refine Kd.C_alloc ?_ _) | (with_reducible refine Kd.C_drewN ?_ _) | (with_reducible refine Kd.C_drew ?_))); exact bE.out; rintro e gM ⟨rfl, hb⟩; replace aD := am (BB aD hb); replace HB := bl (K1 HB aE.out) hb; (try clear hb)))
         go_ret
         exact ⟨ER, K1 HB aE.out⟩
        ·replace bY := Bool.eq_false_iff.mpr bY
         subst bY
         have H1 := nf H
         clear H
         have H := H1
         clear H1
         obtain rfl := sj H
         go_enter Tryz.func46, Tryz.ntmps46
         go_wp2_with (first | ((with_reducible refine gate_dst (N := 1) rfl ?_); refine box_event rfl (N := 1) rfl (cs := #[.int .i64 aC, .int .i64 aH, .string aI, .string aJ, .int .i64 aK, .int .i64 aL, .int .i64 aA, .int .i64 aM, .int .i64 aN, .int .i64 aO, .slice aR aB.length aS]) (t := 103) BX ?_; intro aV hg gE aF hb; have aD := am (aF); have aG := am (GH HB hg); have aE := aG; replace HB := bl (KL HB) hb; clear hb aF hg; have ⟨_, _, _, _, _, _, _, _, _, _, _, _⟩ := y11 gE aD.out) | ((with_reducible refine gate_callee (f := 44) rfl ?_); refine goesL_ (some 5) rfl rfl Tryz.func44 (by kernel_rfl) rfl #[.int .i64 aC, .int .i64 1, .int .i64 999] rfl MT ?_; (with_reducible refine (spec_l1In.calls aC 1 999 true _ A2.out).mono ?_); rintro e w' ⟨rfl, ⟨nd, rfl⟩⟩; refine ⟨_, rfl, ?_⟩) | (go_at_call 44; (with_reducible refine (spec_l1In.calls aH 0 3 true _ A4.out).mono ?_); rintro e w' ⟨rfl, ⟨nd, rfl⟩⟩) | (go_at_call 65; (with_reducible refine (spec_l8Keys.calls aI aJ true _ A6.out).mono ?_); rintro e w' ⟨rfl, ⟨nd, rfl⟩⟩) | (go_at_call 44; (with_reducible refine (spec_l1In.calls aK 0 1000000 true _ A8.out).mono ?_); rintro e w' ⟨rfl, ⟨nd, rfl⟩⟩) | (go_at_call 44; (with_reducible refine (spec_l1In.calls aL 1 aA true _ bG.out).mono ?_); rintro e w' ⟨rfl, ⟨nd, rfl⟩⟩) | (go_at_call 44; (with_reducible refine (spec_l1In.calls aA 1 1000000 true _ bV.out).mono ?_); rintro e w' ⟨rfl, ⟨nd, rfl⟩⟩) | (go_at_call 44; (with_reducible refine (spec_l1In.calls aM 1 1000000 true _ fU.out).mono ?_); rintro e w' ⟨rfl, ⟨nd, rfl⟩⟩) | (go_at_call 44; (with_reducible refine (spec_l1In.calls aN 0 aA false _ gB.out).mono ?_); rintro e w' ⟨rfl, ⟨nd, rfl⟩⟩))
         go_ret
         exact ⟨ER, K1 HB aE.out⟩
       ·replace bX := Bool.eq_false_iff.mpr bX
        subst bX
        have H1 := nf H
        clear H
        have H := H1
        clear H1
        obtain rfl := sj H
        go_enter Tryz.func46, Tryz.ntmps46
        go_wp2_with (first | ((with_reducible refine gate_dst (N := 1) rfl ?_); refine box_event rfl (N := 1) rfl (cs := #[.int .i64 aC, .int .i64 aH, .string aI, .string aJ, .int .i64 aK, .int .i64 aL, .int .i64 aA, .int .i64 aM, .int .i64 aN, .int .i64 aO, .slice aR aB.length aS]) (t := 103) BX ?_; intro aV hg gF aF hb; have aD := am (aF); have aG := am (GH HB hg); have aE := aG; replace HB := bl (KL HB) hb; clear hb aF hg; have ⟨_, _, _, _, _, _, _, _, _, _, _, _⟩ := y11 gF aD.out) | ((with_reducible refine gate_callee (f := 44) rfl ?_); refine goesL_ (some 5) rfl rfl Tryz.func44 (by kernel_rfl) rfl #[.int .i64 aC, .int .i64 1, .int .i64 999] rfl MT ?_; (with_reducible refine (spec_l1In.calls aC 1 999 true _ A2.out).mono ?_); rintro e w' ⟨rfl, ⟨nd, rfl⟩⟩; refine ⟨_, rfl, ?_⟩) | (go_at_call 44; (with_reducible refine (spec_l1In.calls aH 0 3 true _ A4.out).mono ?_); rintro e w' ⟨rfl, ⟨nd, rfl⟩⟩) | (go_at_call 65; (with_reducible refine (spec_l8Keys.calls aI aJ true _ A6.out).mono ?_); rintro e w' ⟨rfl, ⟨nd, rfl⟩⟩) | (go_at_call 44; (with_reducible refine (spec_l1In.calls aK 0 1000000 true _ A8.out).mono ?_); rintro e w' ⟨rfl, ⟨nd, rfl⟩⟩) | (go_at_call 44; (with_reducible refine (spec_l1In.calls aL 1 aA true _ bG.out).mono ?_); rintro e w' ⟨rfl, ⟨nd, rfl⟩⟩) | (go_at_call 44; (with_reducible refine (spec_l1In.calls aA 1 1000000 true _ bV.out).mono ?_); rintro e w' ⟨rfl, ⟨nd, rfl⟩⟩) | (go_at_call 44; (with_reducible refine (spec_l1In.calls aM 1 1000000 false _ fU.out).mono ?_); rintro e w' ⟨rfl, ⟨nd, rfl⟩⟩))
        go_ret
        exact ⟨ER, K1 HB aE.out⟩
      ·replace bW := Bool.eq_false_iff.mpr bW
       subst bW
       have H1 := nf H
       clear H
       have H := H1
       clear H1
       obtain rfl := sj H
       go_enter Tryz.func46, Tryz.ntmps46
       go_wp2_with (first | ((with_reducible refine gate_dst (N := 1) rfl ?_); refine box_event rfl (N := 1) rfl (cs := #[.int .i64 aC, .int .i64 aH, .string aI, .string aJ, .int .i64 aK, .int .i64 aL, .int .i64 aA, .int .i64 aM, .int .i64 aN, .int .i64 aO, .slice aR aB.length aS]) (t := 103) BX ?_; intro aV hg gG aF hb; have aD := am (aF); have aG := am (GH HB hg); have aE := aG; replace HB := bl (KL HB) hb; clear hb aF hg; have ⟨_, _, _, _, _, _, _, _, _, _, _, _⟩ := y11 gG aD.out) | ((with_reducible refine gate_callee (f := 44) rfl ?_); refine goesL_ (some 5) rfl rfl Tryz.func44 (by kernel_rfl) rfl #[.int .i64 aC, .int .i64 1, .int .i64 999] rfl MT ?_; (with_reducible refine (spec_l1In.calls aC 1 999 true _ A2.out).mono ?_); rintro e w' ⟨rfl, ⟨nd, rfl⟩⟩; refine ⟨_, rfl, ?_⟩) | (go_at_call 44; (with_reducible refine (spec_l1In.calls aH 0 3 true _ A4.out).mono ?_); rintro e w' ⟨rfl, ⟨nd, rfl⟩⟩) | (go_at_call 65; (with_reducible refine (spec_l8Keys.calls aI aJ true _ A6.out).mono ?_); rintro e w' ⟨rfl, ⟨nd, rfl⟩⟩) | (go_at_call 44; (with_reducible refine (spec_l1In.calls aK 0 1000000 true _ A8.out).mono ?_); rintro e w' ⟨rfl, ⟨nd, rfl⟩⟩) | (go_at_call 44; (with_reducible refine (spec_l1In.calls aL 1 aA true _ bG.out).mono ?_); rintro e w' ⟨rfl, ⟨nd, rfl⟩⟩) | (go_at_call 44; (with_reducible refine (spec_l1In.calls aA 1 1000000 false _ bV.out).mono ?_); rintro e w' ⟨rfl, ⟨nd, rfl⟩⟩))
       go_ret
       exact ⟨ER, K1 HB aE.out⟩
     ·replace bU := Bool.eq_false_iff.mpr bU
      subst bU
      have H1 := nf H
      clear H
      have H := H1
      clear H1
      obtain rfl := sj H
      go_enter Tryz.func46, Tryz.ntmps46
      go_wp2_with (first | ((with_reducible refine gate_dst (N := 1) rfl ?_); refine box_event rfl (N := 1) rfl (cs := #[.int .i64 aC, .int .i64 aH, .string aI, .string aJ, .int .i64 aK, .int .i64 aL, .int .i64 aA, .int .i64 aM, .int .i64 aN, .int .i64 aO, .slice aR aB.length aS]) (t := 103) BX ?_; intro aV hg gH aF hb; have aD := am (aF); have aG := am (GH HB hg); have aE := aG; replace HB := bl (KL HB) hb; clear hb aF hg; have ⟨_, _, _, _, _, _, _, _, _, _, _, _⟩ := y11 gH aD.out) | ((with_reducible refine gate_callee (f := 44) rfl ?_); refine goesL_ (some 5) rfl rfl Tryz.func44 (by kernel_rfl) rfl #[.int .i64 aC, .int .i64 1, .int .i64 999] rfl MT ?_; (with_reducible refine (spec_l1In.calls aC 1 999 true _ A2.out).mono ?_); rintro e w' ⟨rfl, ⟨nd, rfl⟩⟩; refine ⟨_, rfl, ?_⟩) | (go_at_call 44; (with_reducible refine (spec_l1In.calls aH 0 3 true _ A4.out).mono ?_); rintro e w' ⟨rfl, ⟨nd, rfl⟩⟩) | (go_at_call 65; (with_reducible refine (spec_l8Keys.calls aI aJ true _ A6.out).mono ?_); rintro e w' ⟨rfl, ⟨nd, rfl⟩⟩) | (go_at_call 44; (with_reducible refine (spec_l1In.calls aK 0 1000000 true _ A8.out).mono ?_); rintro e w' ⟨rfl, ⟨nd, rfl⟩⟩) | (go_at_call 44; (with_reducible refine (spec_l1In.calls aL 1 aA false _ bG.out).mono ?_); rintro e w' ⟨rfl, ⟨nd, rfl⟩⟩))
      go_ret
      exact ⟨ER, K1 HB aE.out⟩
    ·replace c9 := Bool.eq_false_iff.mpr c9
     subst c9
     have H1 := nf H
     clear H
     have H := H1
     clear H1
     obtain rfl := sj H
     go_enter Tryz.func46, Tryz.ntmps46
     go_wp2_with (first | ((with_reducible refine gate_dst (N := 1) rfl ?_); refine box_event rfl (N := 1) rfl (cs := #[.int .i64 aC, .int .i64 aH, .string aI, .string aJ, .int .i64 aK, .int .i64 aL, .int .i64 aA, .int .i64 aM, .int .i64 aN, .int .i64 aO, .slice aR aB.length aS]) (t := 103) BX ?_; intro aV hg gI aF hb; have aD := am (aF); have aG := am (GH HB hg); have aE := aG; replace HB := bl (KL HB) hb; clear hb aF hg; have ⟨_, _, _, _, _, _, _, _, _, _, _, _⟩ := y11 gI aD.out) | ((with_reducible refine gate_callee (f := 44) rfl ?_); refine goesL_ (some 5) rfl rfl Tryz.func44 (by kernel_rfl) rfl #[.int .i64 aC, .int .i64 1, .int .i64 999] rfl MT ?_; (with_reducible refine (spec_l1In.calls aC 1 999 true _ A2.out).mono ?_); rintro e w' ⟨rfl, ⟨nd, rfl⟩⟩; refine ⟨_, rfl, ?_⟩) | (go_at_call 44; (with_reducible refine (spec_l1In.calls aH 0 3 true _ A4.out).mono ?_); rintro e w' ⟨rfl, ⟨nd, rfl⟩⟩) | (go_at_call 65; (with_reducible refine (spec_l8Keys.calls aI aJ true _ A6.out).mono ?_); rintro e w' ⟨rfl, ⟨nd, rfl⟩⟩) | (go_at_call 44; (with_reducible refine (spec_l1In.calls aK 0 1000000 false _ A8.out).mono ?_); rintro e w' ⟨rfl, ⟨nd, rfl⟩⟩))
     go_ret
     exact ⟨ER, K1 HB aE.out⟩
   ·replace c7 := Bool.eq_false_iff.mpr c7
    subst c7
    have H1 := nf H
    clear H
    have H := H1
    clear H1
    obtain rfl := sj H
    go_enter Tryz.func46, Tryz.ntmps46
    go_wp2_with (first | ((with_reducible refine gate_dst (N := 1) rfl ?_); refine box_event rfl (N := 1) rfl (cs := #[.int .i64 aC, .int .i64 aH, .string aI, .string aJ, .int .i64 aK, .int .i64 aL, .int .i64 aA, .int .i64 aM, .int .i64 aN, .int .i64 aO, .slice aR aB.length aS]) (t := 103) BX ?_; intro aV hg gJ aF hb; have aD := am (aF); have aG := am (GH HB hg); have aE := aG; replace HB := bl (KL HB) hb; clear hb aF hg; have ⟨_, _, _, _, _, _, _, _, _, _, _, _⟩ := y11 gJ aD.out) | ((with_reducible refine gate_callee (f := 44) rfl ?_); refine goesL_ (some 5) rfl rfl Tryz.func44 (by kernel_rfl) rfl #[.int .i64 aC, .int .i64 1, .int .i64 999] rfl MT ?_; (with_reducible refine (spec_l1In.calls aC 1 999 true _ A2.out).mono ?_); rintro e w' ⟨rfl, ⟨nd, rfl⟩⟩; refine ⟨_, rfl, ?_⟩) | (go_at_call 44; (with_reducible refine (spec_l1In.calls aH 0 3 true _ A4.out).mono ?_); rintro e w' ⟨rfl, ⟨nd, rfl⟩⟩) | (go_at_call 65; (with_reducible refine (spec_l8Keys.calls aI aJ false _ A6.out).mono ?_); rintro e w' ⟨rfl, ⟨nd, rfl⟩⟩))
    go_ret
    exact ⟨ER, K1 HB aE.out⟩
  ·replace c5 := Bool.eq_false_iff.mpr c5
   subst c5
   have H1 := nf H
   clear H
   have H := H1
   clear H1
   obtain rfl := sj H
   go_enter Tryz.func46, Tryz.ntmps46
   go_wp2_with (first | ((with_reducible refine gate_dst (N := 1) rfl ?_); refine box_event rfl (N := 1) rfl (cs := #[.int .i64 aC, .int .i64 aH, .string aI, .string aJ, .int .i64 aK, .int .i64 aL, .int .i64 aA, .int .i64 aM, .int .i64 aN, .int .i64 aO, .slice aR aB.length aS]) (t := 103) BX ?_; intro aV hg gK aF hb; have aD := am (aF); have aG := am (GH HB hg); have aE := aG; replace HB := bl (KL HB) hb; clear hb aF hg; have ⟨_, _, _, _, _, _, _, _, _, _, _, _⟩ := y11 gK aD.out) | ((with_reducible refine gate_callee (f := 44) rfl ?_); refine goesL_ (some 5) rfl rfl Tryz.func44 (by kernel_rfl) rfl #[.int .i64 aC, .int .i64 1, .int .i64 999] rfl MT ?_; (with_reducible refine (spec_l1In.calls aC 1 999 true _ A2.out).mono ?_); rintro e w' ⟨rfl, ⟨nd, rfl⟩⟩; refine ⟨_, rfl, ?_⟩) | (go_at_call 44; (with_reducible refine (spec_l1In.calls aH 0 3 false _ A4.out).mono ?_); rintro e w' ⟨rfl, ⟨nd, rfl⟩⟩))
   go_ret
   exact ⟨ER, K1 HB aE.out⟩
 ·replace c3 := Bool.eq_false_iff.mpr c3
  subst c3
  have H1 := nf H
  clear H
  have H := H1
  clear H1
  obtain rfl := sj H
  go_enter Tryz.func46, Tryz.ntmps46
  go_wp2_with (first | ((with_reducible refine gate_dst (N := 1) rfl ?_); refine box_event rfl (N := 1) rfl (cs := #[.int .i64 aC, .int .i64 aH, .string aI, .string aJ, .int .i64 aK, .int .i64 aL, .int .i64 aA, .int .i64 aM, .int .i64 aN, .int .i64 aO, .slice aR aB.length aS]) (t := 103) BX ?_; intro aV hg gL aF hb; have aD := am (aF); have aG := am (GH HB hg); have aE := aG; replace HB := bl (KL HB) hb; clear hb aF hg; have ⟨_, _, _, _, _, _, _, _, _, _, _, _⟩ := y11 gL aD.out) | ((with_reducible refine gate_callee (f := 44) rfl ?_); refine goesL_ (some 5) rfl rfl Tryz.func44 (by kernel_rfl) rfl #[.int .i64 aC, .int .i64 1, .int .i64 999] rfl MT ?_; (with_reducible refine (spec_l1In.calls aC 1 999 false _ A2.out).mono ?_); rintro e w' ⟨rfl, ⟨nd, rfl⟩⟩; refine ⟨_, rfl, ?_⟩))
  go_ret
  exact ⟨ER, K1 HB aE.out⟩
mutual
def spec_GateOk.j0 : Nat → Bool → Int → List (S107) → Int → List (S128) → List (S103) → List (S103) → Option (Bool)
 | 0, _, _, _, _, _, _, _ => none
 | k + 1, x34, x102000, x102001, x102002, x102003, x102004, x102005 => if x34 = true then (some false) else (spec_GateOk.l0 k 0 x102000 x102001 x102002 x102003 x102004 x102005)
def spec_GateOk.l0 : Nat → Int → Int → List (S107) → Int → List (S128) → List (S103) → List (S103) → Option (Bool)
 | 0, _, _, _, _, _, _, _ => none
 | k + 1, x3, x102000, x102001, x102002, x102003, x102004, x102005 => if x3 < (x102004.length : Int) then (if 0 ≤ x3 then ((spec_SaOk.f k ((rd_T103 x102004 x3).f0) ((rd_T103 x102004 x3).f1) ((rd_T103 x102004 x3).f2) ((rd_T103 x102004 x3).f3) ((rd_T103 x102004 x3).f4) ((rd_T103 x102004 x3).f5) ((rd_T103 x102004 x3).f6) ((rd_T103 x102004 x3).f7) ((rd_T103 x102004 x3).f8) ((rd_T103 x102004 x3).f9.f0) ((rd_T103 x102004 x3).f9.f1)).bind fun t105 => (if t105 = true then (if ((rd_T103 x102004 x3).f4) > x102000 then (spec_GateOk.j2 k x3 true x102000 x102001 x102002 x102003 x102004 x102005) else (if x3 > 0 then (if 0 ≤ (wrap64 (x3 - 1)) then (if (wrap64 (x3 - 1)) < (x102004.length : Int) then (spec_GateOk.j2 k x3 (decide (((rd_T103 x102004 (wrap64 (x3 - 1))).f1) ≥ ((rd_T103 x102004 x3).f1))) x102000 x102001 x102002 x102003 x102004 x102005) else (none)) else (none)) else (spec_GateOk.j2 k x3 false x102000 x102001 x102002 x102003 x102004 x102005))) else (spec_GateOk.j2 k x3 true x102000 x102001 x102002 x102003 x102004 x102005))) else (none)) else (spec_GateOk.l1 k 0 x102000 x102001 x102002 x102003 x102004 x102005)
def spec_GateOk.j2 : Nat → Int → Bool → Int → List (S107) → Int → List (S128) → List (S103) → List (S103) → Option (Bool)
 | 0, _, _, _, _, _, _, _, _ => none
 | k + 1, x3, x79, x102000, x102001, x102002, x102003, x102004, x102005 => if x79 = true then (some false) else (spec_GateOk.l0 k (wrap64 (x3 + 1)) x102000 x102001 x102002 x102003 x102004 x102005)
def spec_GateOk.l1 : Nat → Int → Int → List (S107) → Int → List (S128) → List (S103) → List (S103) → Option (Bool)
 | 0, _, _, _, _, _, _, _ => none
 | k + 1, x4, x102000, x102001, x102002, x102003, x102004, x102005 => if x4 < (x102005.length : Int) then (if 0 ≤ x4 then ((spec_SaOk.f k ((rd_T103 x102005 x4).f0) ((rd_T103 x102005 x4).f1) ((rd_T103 x102005 x4).f2) ((rd_T103 x102005 x4).f3) ((rd_T103 x102005 x4).f4) ((rd_T103 x102005 x4).f5) ((rd_T103 x102005 x4).f6) ((rd_T103 x102005 x4).f7) ((rd_T103 x102005 x4).f8) ((rd_T103 x102005 x4).f9.f0) ((rd_T103 x102005 x4).f9.f1)).bind fun t110 => (if t110 = true then (if ((rd_T103 x102005 x4).f4) > x102000 then (spec_GateOk.j4 k x4 true x102000 x102001 x102002 x102003 x102004 x102005) else (if x4 > 0 then (if 0 ≤ (wrap64 (x4 - 1)) then (if (wrap64 (x4 - 1)) < (x102005.length : Int) then (spec_GateOk.j4 k x4 (decide (((rd_T103 x102005 (wrap64 (x4 - 1))).f0) ≥ ((rd_T103 x102005 x4).f0))) x102000 x102001 x102002 x102003 x102004 x102005) else (none)) else (none)) else (spec_GateOk.j4 k x4 false x102000 x102001 x102002 x102003 x102004 x102005))) else (spec_GateOk.j4 k x4 true x102000 x102001 x102002 x102003 x102004 x102005))) else (none)) else (some true)
def spec_GateOk.j4 : Nat → Int → Bool → Int → List (S107) → Int → List (S128) → List (S103) → List (S103) → Option (Bool)
 | 0, _, _, _, _, _, _, _, _ => none
 | k + 1, x4, x124, x102000, x102001, x102002, x102003, x102004, x102005 => if x124 = true then (some false) else (spec_GateOk.l1 k (wrap64 (x4 + 1)) x102000 x102001 x102002 x102003 x102004 x102005)
end
def spec_GateOk.f (k : Nat) (a0_0 : Int) (l0_1 : List (S107)) (a0_2 : Int) (l0_3 : List (S128)) (l0_4 : List (S103)) (l0_5 : List (S103)) : Option (Bool) := (spec_l1In.f a0_0 0 1000000).bind fun t102 => (if t102 = true then (if a0_2 = 4 then ((spec_CacheOk.f k l0_1 a0_2 l0_3).bind fun t103 => (if t103 = true then (if (l0_4.length : Int) > 4 then (spec_GateOk.j0 k true a0_0 l0_1 a0_2 l0_3 l0_4 l0_5) else (spec_GateOk.j0 k (decide ((l0_5.length : Int) > 6)) a0_0 l0_1 a0_2 l0_3 l0_4 l0_5)) else (spec_GateOk.j0 k true a0_0 l0_1 a0_2 l0_3 l0_4 l0_5))) else (spec_GateOk.j0 k true a0_0 l0_1 a0_2 l0_3 l0_4 l0_5)) else (spec_GateOk.j0 k true a0_0 l0_1 a0_2 l0_3 l0_4 l0_5))
def spec_GateOk.T6 : Bool × List (List Nat × List Nat) := (true, [([], []), ([0], [0]), ([], []), ([1, 2], [1, 2]), ([3], [3]), ([4], [4]), ([5], [5]), ([6, 5], [6]), ([7], [7]), ([8, 7], [7, 8]), ([7], [7]), ([9, 10, 7], [7, 9, 10]), ([11, 7], [7, 11]), ([12, 7], [7, 12]), ([7], [7]), ([14, 7], [7, 14]), ([13, 15, 7], [7, 13, 15]), ([7, 16], [7, 16]), ([17, 7], [17]), ([18], [18]), ([19, 18], [18, 19]), ([20, 18, 18], [18, 20]), ([21], [21]), ([22, 21], [21, 22]), ([21], [21]), ([24, 21], [21, 24]), ([23, 25, 21], [21, 23, 25]), ([26, 21], [21, 26]), ([27, 21], [21, 27]), ([21], [21]), ([29, 21], [21, 29]), ([21], [21]), ([30, 31, 21], [21, 30, 31]), ([32, 21], [21, 32]), ([33, 21], [21, 33]), ([28, 34, 21], [21, 28, 34]), ([21, 35, 18], [18, 21, 35]), ([18, 36], [18, 36])])
def spec_GateOk.B6 : List Nat := [0, 1, 0, 7, 15, 31, 63, 127, 255, 511, 255, 2047, 4095, 8191, 255, 16639, 65535, 131071, 262143, 524287, 1048575, 2097151, 4194303, 8388607, 4194303, 20971519, 67108863, 134217727, 268435455, 4194303, 541065215, 4194303, 3762290687, 8057257983, 16647192575, 34359738367, 68719476735, 137438953471]
theorem spec_GateOk.tab6 : rtab .any (opsOf Tryz.f26 6) = spec_GateOk.T6 := by kernel_rfl
theorem spec_GateOk.bits6 : waitsOk spec_GateOk.T6.2 spec_GateOk.B6 = true := by kernel_rfl
def spec_GateOk.T11 : Bool × List (List Nat × List Nat) := (true, [([], []), ([0], [0]), ([], []), ([1, 2], [1, 2]), ([3], [3]), ([4], [4]), ([5], [5]), ([6, 5], [6]), ([7], [7]), ([8, 7], [7, 8]), ([7], [7]), ([9, 10, 7], [7, 9, 10]), ([11, 7], [7, 11]), ([12, 7], [7, 12]), ([7], [7]), ([14, 7], [7, 14]), ([13, 15, 7], [7, 13, 15]), ([7, 16], [7, 16]), ([17, 7], [17]), ([18], [18]), ([19, 18], [18, 19]), ([20, 18, 18], [18, 20]), ([21], [21]), ([22, 21], [21, 22]), ([21], [21]), ([24, 21], [21, 24]), ([23, 25, 21], [21, 23, 25]), ([26, 21], [21, 26]), ([27, 21], [21, 27]), ([21], [21]), ([29, 21], [21, 29]), ([21], [21]), ([30, 31, 21], [21, 30, 31]), ([32, 21], [21, 32]), ([33, 21], [21, 33]), ([28, 34, 21], [21, 28, 34]), ([21, 35, 18], [18, 21, 35]), ([18, 36], [18, 36])])
def spec_GateOk.B11 : List Nat := [0, 1, 0, 7, 15, 31, 63, 127, 255, 511, 255, 2047, 4095, 8191, 255, 16639, 65535, 131071, 262143, 524287, 1048575, 2097151, 4194303, 8388607, 4194303, 20971519, 67108863, 134217727, 268435455, 4194303, 541065215, 4194303, 3762290687, 8057257983, 16647192575, 34359738367, 68719476735, 137438953471]
theorem spec_GateOk.tab11 : rtab .any (opsOf Tryz.f26 11) = spec_GateOk.T11 := by kernel_rfl
theorem spec_GateOk.bits11 : waitsOk spec_GateOk.T11.2 spec_GateOk.B11 = true := by kernel_rfl
theorem spec_GateOk.calls (k : Nat) (aK : Int) (fA : Option Addr) (fB : Nat) (aZ : List (S107)) (aN : Int) (fC : Option Addr) (fD : Nat) (bA : List (S128)) (fO : Option Addr) (fE : Nat) (aE : List (S103)) (fP : Option Addr) (fF : Nat) (aF : List (S103)) (r : Bool) (w : World) (mK : Kd.C k107 w fA aZ.length aZ) (mL : aZ.length ≤ fB) (mM : Kd.C k128 w fC bA.length bA) (mN : bA.length ≤ fD) (mO : Kd.C k103 w fO aE.length aE) (mP : aE.length ≤ fE) (mQ : Kd.C k103 w fP aF.length aF) (mR : aF.length ≤ fF) (h : spec_GateOk.f k aK aZ aN bA aE aF = some r) :
  Calls Tryz.prog 26 #[.agg #[.int .i64 aK, .slice fA aZ.length fB, .int .i64 aN, .slice fC bA.length fD, .slice fO aE.length fE, .slice fP aF.length fF]] w fun e w' => e = .returned (.bool r) ∧ Below w.heap.size w w' := by
 have pY := Tryz.underlying41
 have pZ := Tryz.underlying38
 have pR := Tryz.underlying103
 have lO := Aside0.mk mK
 have lP := Aside0.mk mL
 clear mK mL
 have lQ := Aside0.mk mM
 have lR := Aside0.mk mN
 clear mM mN
 have fI := Aside0.mk mO
 have pS := Aside0.mk mP
 clear mO mP
 have fJ := Aside0.mk mQ
 have pT := Aside0.mk mR
 clear mQ mR
 have HB := am (Below.refl w.heap.size w)
 have H : ((spec_l1In.f aK 0 1000000).bind fun lY => (if lY = true then (if aN = 4 then ((spec_CacheOk.f k aZ aN bA).bind fun lN => (if lN = true then (if (aE.length : Int) > 4 then (spec_GateOk.j0 k true aK aZ aN bA aE aF) else (spec_GateOk.j0 k (decide ((aF.length : Int) > 6)) aK aZ aN bA aE aF)) else (spec_GateOk.j0 k true aK aZ aN bA aE aF))) else (spec_GateOk.j0 k true aK aZ aN bA aE aF)) else (spec_GateOk.j0 k true aK aZ aN bA aE aF))) = some r := h
 clear h
 have pJ := Aside0.mk H
 clear H
 go_enter Tryz.func26, Tryz.ntmps26
 go_upto_region 1 with (first | ((with_reducible refine gate_dst (N := 1) rfl ?_); (try (refine gate_guard (by rfl) ?_; dsimp only)); refine box_event rfl (N := 1) rfl (cs := #[.int .i64 aK, .slice fA aZ.length fB, .int .i64 aN, .slice fC bA.length fD, .slice fO aE.length fE, .slice fP aF.length fF]) (t := 41) BX ?_; intro eP hg w3 nK hb; have aG := am (nK); have nL := am (GH HB hg); have aM := nL; replace HB := bl (KL HB) hb; clear hb nK hg))
 (try simp only [Act.put, List.setIfInBounds_toArray, List.set_cons_zero, List.set_cons_succ])
 go_cut [34] (fun qA wc => ∃ (kq : Nat) (iB : Bool), qA = .bool iB ∧ Aside0 (spec_GateOk.j0 kq iB aK aZ aN bA aE aF = some r) ∧ Aside0 (kq ≤ k) ∧ Aside0 (wc.heap[eP]? = some (.cells #[.int .i64 aK, (.slice fA aZ.length fB), .int .i64 aN, (.slice fC bA.length fD), (.slice fO aE.length fE), (.slice fP aF.length fF)] 41 (0, 0))) ∧ Aside0 (Below w.heap.size w wc))
 case first =>
  have H := pJ.out
  clear pJ
  replace H := bm H
  obtain ⟨lY, pU, H⟩ := H
  replace H : (if lY = true then (if aN = 4 then ((spec_CacheOk.f k aZ aN bA).bind fun lN => (if lN = true then (if (aE.length : Int) > 4 then (spec_GateOk.j0 k true aK aZ aN bA aE aF) else (spec_GateOk.j0 k (decide ((aF.length : Int) > 6)) aK aZ aN bA aE aF)) else (spec_GateOk.j0 k true aK aZ aN bA aE aF))) else (spec_GateOk.j0 k true aK aZ aN bA aE aF)) else (spec_GateOk.j0 k true aK aZ aN bA aE aF)) = some r := H
  have A4 := Aside0.mk pU
  clear pU
  by_cases c5 : lY = true
  ·subst c5
   have H1 := pf H
   clear H
   have H := H1
   clear H1
   by_cases c6 : aN = 4
   ·rw [if_pos c6] at H
    have c6b0 : (aN == 4) = true := beq_iff_eq.mpr c6
    have c6b1 : (aN != 4) = false := bne_eq_false_iff_eq.mpr c6
    clear c6
    (first | rw [c6b0] | (simp only [i64_w, i32_w]; rw [c6b0]) | skip)
    replace H := bm H
    obtain ⟨lN, pV, H⟩ := H
    replace H : (if lN = true then (if (aE.length : Int) > 4 then (spec_GateOk.j0 k true aK aZ aN bA aE aF) else (spec_GateOk.j0 k (decide ((aF.length : Int) > 6)) aK aZ aN bA aE aF)) else (spec_GateOk.j0 k true aK aZ aN bA aE aF)) = some r := H
    have A7 := Aside0.mk pV
    clear pV
    by_cases c8 : lN = true
    ·subst c8
     have H1 := pf H
     clear H
     have H := H1
     clear H1
     by_cases c9 : (aE.length : Int) > 4
     ·rw [if_pos c9] at H
      have c9b0 : decide (4 < (aE.length : Int)) = true := decide_eq_true c9
      have c9b1 : decide (4 < aE.length) = true := decide_eq_true (by omega)
      clear c9
      have H' := Aside0.mk H
      clear H
      obtain ⟨iC, iD, iE, iF, iG, iH, iI⟩ := y6 w3 aG.out
      go_wp2_with (first | ((with_reducible refine gate_callee (f := 44) rfl ?_); refine goesL_ (some 7) rfl rfl Tryz.func44 (by kernel_rfl) rfl #[.int .i64 aK, .int .i64 0, .int .i64 1000000] rfl MT ?_; (with_reducible refine (spec_l1In.calls aK 0 1000000 true _ A4.out).mono ?_); rintro e w' ⟨rfl, ⟨nd, rfl⟩⟩; refine ⟨_, rfl, ?_⟩) | (go_at_call 45; (with_reducible refine (spec_CacheOk.calls k _ _ aZ aN _ _ bA true _ ?_ ?_ ?_ ?_ A7.out).mono ?_); (repeat (first | exact (Kd.C_below lO.out (K1 HB aM.out)) | (with_reducible refine Kd.C_alloc ?_ _) | (with_reducible refine Kd.C_drewN ?_ _) | (with_reducible refine Kd.C_drew ?_))); exact lP.out; (repeat (first | exact (Kd.C_below lQ.out (K1 HB aM.out)) | (with_reducible refine Kd.C_alloc ?_ _) | (with_reducible refine Kd.C_drewN ?_ _) | (with_reducible refine Kd.C_drew ?_))); exact lR.out; rintro e qB ⟨rfl, hb⟩; replace aG := am (BB aG hb); replace HB := bl (K1 HB aM.out) hb; (try clear hb); obtain ⟨iJ, iK, iL, iM, iN, iO, iP⟩ := y6 qB aG.out))
      go_meet
      case rel => exact ⟨_, (true), (by first | rfl | (simp; done) | (simp [*]; done)), H', ⟨by first | omega | exact Nat.le_refl _⟩, ⟨KB aG⟩, ⟨K1 HB aM.out⟩⟩
     ·rw [if_neg c9] at H
      have c9b0 : decide (4 < (aE.length : Int)) = false := decide_eq_false c9
      have c9b1 : decide (4 < aE.length) = false := decide_eq_false (by omega)
      clear c9
      have H' := Aside0.mk H
      clear H
      obtain ⟨iQ, iR, iS, iT, iU, iV, iW⟩ := y6 w3 aG.out
      go_wp2_with (first | ((with_reducible refine gate_callee (f := 44) rfl ?_); refine goesL_ (some 7) rfl rfl Tryz.func44 (by kernel_rfl) rfl #[.int .i64 aK, .int .i64 0, .int .i64 1000000] rfl MT ?_; (with_reducible refine (spec_l1In.calls aK 0 1000000 true _ A4.out).mono ?_); rintro e w' ⟨rfl, ⟨nd, rfl⟩⟩; refine ⟨_, rfl, ?_⟩) | (go_at_call 45; (with_reducible refine (spec_CacheOk.calls k _ _ aZ aN _ _ bA true _ ?_ ?_ ?_ ?_ A7.out).mono ?_); (repeat (first | exact (Kd.C_below lO.out (K1 HB aM.out)) | (with_reducible refine Kd.C_alloc ?_ _) | (with_reducible refine Kd.C_drewN ?_ _) | (with_reducible refine Kd.C_drew ?_))); exact lP.out; (repeat (first | exact (Kd.C_below lQ.out (K1 HB aM.out)) | (with_reducible refine Kd.C_alloc ?_ _) | (with_reducible refine Kd.C_drewN ?_ _) | (with_reducible refine Kd.C_drew ?_))); exact lR.out; rintro e qC ⟨rfl, hb⟩; replace aG := am (BB aG hb); replace HB := bl (K1 HB aM.out) hb; (try clear hb); obtain ⟨iX, iY, iZ, jA, jB, jC, jD⟩ := y6 qC aG.out))
      go_meet
      case rel => exact ⟨_, (decide ((aF.length : Int) > 6)), (by first | rfl | (simp; done) | (simp [*]; done)), H', ⟨by first | omega | exact Nat.le_refl _⟩, ⟨KB aG⟩, ⟨K1 HB aM.out⟩⟩
    ·replace c8 := Bool.eq_false_iff.mpr c8
     subst c8
     have H1 := nf H
     clear H
     have H := H1
     clear H1
     have H' := Aside0.mk H
     clear H
     obtain ⟨jE, jF, jG, jH, jI, jJ, jK⟩ := y6 w3 aG.out
     go_wp2_with (first | ((with_reducible refine gate_callee (f := 44) rfl ?_); refine goesL_ (some 7) rfl rfl Tryz.func44 (by kernel_rfl) rfl #[.int .i64 aK, .int .i64 0, .int .i64 1000000] rfl MT ?_; (with_reducible refine (spec_l1In.calls aK 0 1000000 true _ A4.out).mono ?_); rintro e w' ⟨rfl, ⟨nd, rfl⟩⟩; refine ⟨_, rfl, ?_⟩) | (go_at_call 45; (with_reducible refine (spec_CacheOk.calls k _ _ aZ aN _ _ bA false _ ?_ ?_ ?_ ?_ A7.out).mono ?_); (repeat (first | exact (Kd.C_below lO.out (K1 HB aM.out)) | (with_reducible refine Kd.C_alloc ?_ _) | (with_reducible refine Kd.C_drewN ?_ _) | (with_reducible refine Kd.C_drew ?_))); exact lP.out; (repeat (first | exact (Kd.C_below lQ.out (K1 HB aM.out)) | (with_reducible refine Kd.C_alloc ?_ _) | (with_reducible refine Kd.C_drewN ?_ _) | (with_reducible refine Kd.C_drew ?_))); exact lR.out; rintro e qF ⟨rfl, hb⟩; replace aG := am (BB aG hb); replace HB := bl (K1 HB aM.out) hb; (try clear hb)))
     go_meet
     case rel => exact ⟨_, (true), (by first | rfl | (simp; done) | (simp [*]; done)), H', ⟨by first | omega | exact Nat.le_refl _⟩, ⟨KB aG⟩, ⟨K1 HB aM.out⟩⟩
   ·rw [if_neg c6] at H
    have c6b0 : (aN == 4) = false := beq_eq_false_iff_ne.mpr c6
    have c6b1 : (aN != 4) = true := bne_iff_ne.mpr c6
    (first | rw [c6b0] | (simp only [i64_w, i32_w]; rw [c6b0]) | skip)
    have H' := Aside0.mk H
    clear H
    obtain ⟨jL, jM, jN, jO, jP, jQ, jR⟩ := y6 w3 aG.out
    go_wp2_with (first | ((with_reducible refine gate_callee (f := 44) rfl ?_); refine goesL_ (some 7) rfl rfl Tryz.func44 (by kernel_rfl) rfl #[.int .i64 aK, .int .i64 0, .int .i64 1000000] rfl MT ?_; (with_reducible refine (spec_l1In.calls aK 0 1000000 true _ A4.out).mono ?_); rintro e w' ⟨rfl, ⟨nd, rfl⟩⟩; refine ⟨_, rfl, ?_⟩))
    go_meet
    case rel => exact ⟨_, (true), (by first | rfl | (simp; done) | (simp [*]; done)), H', ⟨by first | omega | exact Nat.le_refl _⟩, ⟨KB aG⟩, ⟨K1 HB aM.out⟩⟩
  ·replace c5 := Bool.eq_false_iff.mpr c5
   subst c5
   have H1 := nf H
   clear H
   have H := H1
   clear H1
   have H' := Aside0.mk H
   clear H
   obtain ⟨jS, jT, jU, jV, jW, jX, jY⟩ := y6 w3 aG.out
   go_wp2_with (first | ((with_reducible refine gate_callee (f := 44) rfl ?_); refine goesL_ (some 7) rfl rfl Tryz.func44 (by kernel_rfl) rfl #[.int .i64 aK, .int .i64 0, .int .i64 1000000] rfl MT ?_; (with_reducible refine (spec_l1In.calls aK 0 1000000 false _ A4.out).mono ?_); rintro e w' ⟨rfl, ⟨nd, rfl⟩⟩; refine ⟨_, rfl, ?_⟩))
   go_meet
   case rel => exact ⟨_, (true), (by first | rfl | (simp; done) | (simp [*]; done)), H', ⟨by first | omega | exact Nat.le_refl _⟩, ⟨KB aG⟩, ⟨K1 HB aM.out⟩⟩
 case rest =>
  clear pJ
  try clear c2
  try clear p2
  try clear c4
  try clear c5
  try clear c6
  try clear c6b0
  try clear c6b1
  try clear c8
  try clear c9
  try clear c9b0
  try clear c9b1
  try clear iC iD iE iF iG iH iI
  try clear iJ iK iL iM iN iO iP
  try clear iQ iR iS iT iU iV iW
  try clear iX iY iZ jA jB jC jD
  try clear jE jF jG jH jI jJ jK
  try clear jL jM jN jO jP jQ jR
  try clear jS jT jU jV jW jX jY
  obtain ⟨kq, iB, rfl, HA, HJ1, aG, HB⟩ := hcut
  cases kq with
  | zero => exact absurd HA.out (by simp [spec_GateOk.j0])
  | succ kj1 =>
   have H := HA.out
   clear HA
   simp only [spec_GateOk.j0] at H
   by_cases nM : iB = true
   ·subst nM
    have H1 := pf H
    clear H
    have H := H1
    clear H1
    obtain rfl := sj H
    go_wp2
    go_ret
    exact ⟨ER, K1 HB aM.out⟩
   ·replace nM := Bool.eq_false_iff.mpr nM
    subst nM
    have H1 := nf H
    clear H
    have H := H1
    clear H1
    have H' := Aside0.mk H
    clear H
    go_wp2
    go_loopg [3] kj1 (fun kq v3 w' => ∃ (aA : Int), v3 = .int .i64 aA ∧ Aside0 (spec_GateOk.l0 kq aA aK aZ aN bA aE aF = some r) ∧ Aside0 (kq ≤ kj1) ∧ Aside0 (w'.heap[eP]? = some (.cells #[.int .i64 aK, (.slice fA aZ.length fB), .int .i64 aN, (.slice fC bA.length fD), (.slice fO aE.length fE), (.slice fP aF.length fF)] 41 (0, 0))) ∧ Aside0 (Below w.heap.size w w'))
    case atStart => exact ⟨(0), (by first | rfl | (simp; done) | (simp [*]; done)), H', ⟨Nat.le_refl _⟩, ⟨KB aG⟩, ⟨K1 HB aM.out⟩⟩
    case round =>
     clear H'
     try clear c2
     try clear p2
     try clear c4
     try clear c5
     try clear c6
     try clear c6b0
     try clear c6b1
     try clear c8
     try clear c9
     try clear c9b0
     try clear c9b1
     try clear nM
     try clear iC iD iE iF iG iH iI
     try clear iJ iK iL iM iN iO iP
     try clear iQ iR iS iT iU iV iW
     try clear iX iY iZ jA jB jC jD
     try clear jE jF jG jH jI jJ jK
     try clear jL jM jN jO jP jQ jR
     try clear jS jT jU jV jW jX jY
     try clear p2
     obtain ⟨aA, rfl, HA, HK2, aG, HB⟩ := hrel
     cases gk with
     | zero => exact absurd HA.out (by simp [spec_GateOk.l0])
     | succ k2 =>
      have H := HA.out
      clear HA
      simp only [spec_GateOk.l0] at H
      by_cases mS : aA < (aE.length : Int)
      ·rw [if_pos mS] at H
       have c21b0 : decide (aA < (aE.length : Int)) = true := decide_eq_true mS
       clear mS
       have mT := Aside0.mk H
       clear H
       have ⟨_, _, _, _, _, _, _⟩ := y6 wr aG.out
       go_upto_region 6 with (fail)
       go_cut [79] (fun qD wc => ∃ (kq : Nat) (hH : Bool), qD = .bool hH ∧ Aside0 (spec_GateOk.j2 kq aA hH aK aZ aN bA aE aF = some r) ∧ Aside0 (kq ≤ k2) ∧ Aside0 (wc.heap[eP]? = some (.cells #[.int .i64 aK, (.slice fA aZ.length fB), .int .i64 aN, (.slice fC bA.length fD), (.slice fO aE.length fE), (.slice fP aF.length fF)] 41 (0, 0))) ∧ Aside0 (Below w.heap.size w wc))
       case first =>
        have H := mT.out
        clear mT
        by_cases nD : 0 ≤ aA
        ·rw [if_pos nD] at H
         have c24b0 : decide (0 ≤ aA) = true := decide_eq_true nD
         clear nD
         (first | rw [c24b0] | (simp only [i64_w, i32_w]; rw [c24b0]) | skip)
         replace H := bm H
         obtain ⟨nN, nO, H⟩ := H
         replace H : (if nN = true then (if ((rd_T103 aE aA).f4) > aK then (spec_GateOk.j2 k2 aA true aK aZ aN bA aE aF) else (if aA > 0 then (if 0 ≤ (wrap64 (aA - 1)) then (if (wrap64 (aA - 1)) < (aE.length : Int) then (spec_GateOk.j2 k2 aA (decide (((rd_T103 aE (wrap64 (aA - 1))).f1) ≥ ((rd_T103 aE aA).f1))) aK aZ aN bA aE aF) else (none)) else (none)) else (spec_GateOk.j2 k2 aA false aK aZ aN bA aE aF))) else (spec_GateOk.j2 k2 aA true aK aZ aN bA aE aF)) = some r := H
         have nP := Aside0.mk nO
         clear nO
         by_cases nE : nN = true
         ·subst nE
          have H1 := pf H
          clear H
          have H := H1
          clear H1
          by_cases nF : ((rd_T103 aE aA).f4) > aK
          ·rw [if_pos nF] at H
           have c27b0 : decide (aK < ((rd_T103 aE aA).f4)) = true := decide_eq_true nF
           clear nF
           have H' := Aside0.mk H
           clear H
           try go_wp2
           replace aG := am (blk_drew aG.out)
           replace HB := am (below_drew1 HB.out)
           have eQ : 0 ≤ (aA : Int) := OD
           have eR : aA < (aE.length : Int) := OD
           obtain ⟨aC, cO, cP, hZ, aO, aP, aQ, aR, aS, aT, aU, aV, aW, aX, aJ, cG, cH⟩ := at_T103 fI.out aA eQ eR
           have cI := aJ
           have cQ := aX
           have cR := aW
           have cS := aV
           have cT := aU
           have cU := aT
           have cV := aS
           have cW := aR
           have cX := aQ
           have cY := aP
           have cZ := aO
           cases hZ
           replace aO := CX HB.out aO
           replace aP := CX HB.out aP
           replace aQ := CX HB.out aQ
           replace aR := CX HB.out aR
           replace aS := CX HB.out aS
           replace aT := CX HB.out aT
           replace aU := CX HB.out aU
           replace aV := CX HB.out aV
           replace aW := CX HB.out aW
           replace aX := CX HB.out aX
           replace aJ := CX HB.out aJ
           have cJ := Aside0.mk cH
           have dT := Aside0.mk cG
           clear cH cG
           replace eQ := eq_true eQ
           replace eR := eq_true eR
           have fM : 0 ≤ (aA : Int) := OD
           have fN : aA < (aE.length : Int) := OD
           obtain ⟨hI, eW, eX, lS, bM, bN, bO, bP, bQ, bR, bS, bT, bU, bV, aY, dM, dN⟩ := at_T103 fI.out aA fM fN
           have dO := aY
           have dV := bV
           have dW := bU
           have dX := bT
           have dY := bS
           have dZ := bR
           have eA := bQ
           have eB := bP
           have eC := bO
           have eD := bN
           have eE := bM
           obtain rfl : aC = hI := (by injection lS)
           replace bM := CX HB.out bM
           replace bN := CX HB.out bN
           replace bO := CX HB.out bO
           replace bP := CX HB.out bP
           replace bQ := CX HB.out bQ
           replace bR := CX HB.out bR
           replace bS := CX HB.out bS
           replace bT := CX HB.out bT
           replace bU := CX HB.out bU
           replace bV := CX HB.out bV
           replace aY := CX HB.out aY
           have eS := Aside0.mk dN
           have hJ := Aside0.mk dM
           clear dN dM
           replace fM := eq_true fM
           replace fN := eq_true fN
           refine start_ (n := 38) (S := fun w' => ce6 w' eP (.int .i64 aK) (.slice fA aZ.length fB) (.int .i64 aN) (.slice fC bA.length fD) (.slice (some aC) aE.length fE) (.slice fP aF.length fF) (w'.cell? (aC.add ((aA).toNat * 11)) = some (.int .i64 ((rd_T103 aE aA).f0)) ∧ w'.cell? ⟨(aC.add ((aA).toNat * 11)).block, (aC.add ((aA).toNat * 11)).off + 1, none⟩ = some (.int .i64 ((rd_T103 aE aA).f1)) ∧ w'.cell? ⟨(aC.add ((aA).toNat * 11)).block, (aC.add ((aA).toNat * 11)).off + 2, none⟩ = some (.string ((rd_T103 aE aA).f2)) ∧ w'.cell? ⟨(aC.add ((aA).toNat * 11)).block, (aC.add ((aA).toNat * 11)).off + 3, none⟩ = some (.string ((rd_T103 aE aA).f3)) ∧ w'.cell? ⟨(aC.add ((aA).toNat * 11)).block, (aC.add ((aA).toNat * 11)).off + 4, none⟩ = some (.int .i64 ((rd_T103 aE aA).f4)) ∧ w'.cell? ⟨(aC.add ((aA).toNat * 11)).block, (aC.add ((aA).toNat * 11)).off + 5, none⟩ = some (.int .i64 ((rd_T103 aE aA).f5)) ∧ w'.cell? ⟨(aC.add ((aA).toNat * 11)).block, (aC.add ((aA).toNat * 11)).off + 6, none⟩ = some (.int .i64 ((rd_T103 aE aA).f6)) ∧ w'.cell? ⟨(aC.add ((aA).toNat * 11)).block, (aC.add ((aA).toNat * 11)).off + 7, none⟩ = some (.int .i64 ((rd_T103 aE aA).f7)) ∧ w'.cell? ⟨(aC.add ((aA).toNat * 11)).block, (aC.add ((aA).toNat * 11)).off + 8, none⟩ = some (.int .i64 ((rd_T103 aE aA).f8)) ∧ w'.cell? ⟨(aC.add ((aA).toNat * 11)).block, (aC.add ((aA).toNat * 11)).off + 9, none⟩ = some (.int .i64 ((rd_T103 aE aA).f9.f0)) ∧ w'.cell? ⟨(aC.add ((aA).toNat * 11)).block, (aC.add ((aA).toNat * 11)).off + 10, none⟩ = some (.slice cO ((rd_T103 aE aA).f9.f1).length cP) ∧ w'.cell? (aC.add ((aA).toNat * 11)) = some (.int .i64 ((rd_T103 aE aA).f0)) ∧ w'.cell? ⟨(aC.add ((aA).toNat * 11)).block, (aC.add ((aA).toNat * 11)).off + 1, none⟩ = some (.int .i64 ((rd_T103 aE aA).f1)) ∧ w'.cell? ⟨(aC.add ((aA).toNat * 11)).block, (aC.add ((aA).toNat * 11)).off + 2, none⟩ = some (.string ((rd_T103 aE aA).f2)) ∧ w'.cell? ⟨(aC.add ((aA).toNat * 11)).block, (aC.add ((aA).toNat * 11)).off + 3, none⟩ = some (.string ((rd_T103 aE aA).f3)) ∧ w'.cell? ⟨(aC.add ((aA).toNat * 11)).block, (aC.add ((aA).toNat * 11)).off + 4, none⟩ = some (.int .i64 ((rd_T103 aE aA).f4)) ∧ w'.cell? ⟨(aC.add ((aA).toNat * 11)).block, (aC.add ((aA).toNat * 11)).off + 5, none⟩ = some (.int .i64 ((rd_T103 aE aA).f5)) ∧ w'.cell? ⟨(aC.add ((aA).toNat * 11)).block, (aC.add ((aA).toNat * 11)).off + 6, none⟩ = some (.int .i64 ((rd_T103 aE aA).f6)) ∧ w'.cell? ⟨(aC.add ((aA).toNat * 11)).block, (aC.add ((aA).toNat * 11)).off + 7, none⟩ = some (.int .i64 ((rd_T103 aE aA).f7)) ∧ w'.cell? ⟨(aC.add ((aA).toNat * 11)).block, (aC.add ((aA).toNat * 11)).off + 8, none⟩ = some (.int .i64 ((rd_T103 aE aA).f8)) ∧ w'.cell? ⟨(aC.add ((aA).toNat * 11)).block, (aC.add ((aA).toNat * 11)).off + 9, none⟩ = some (.int .i64 ((rd_T103 aE aA).f9.f0)) ∧ w'.cell? ⟨(aC.add ((aA).toNat * 11)).block, (aC.add ((aA).toNat * 11)).off + 10, none⟩ = some (.slice eW ((rd_T103 aE aA).f9.f1).length eX))) (ds := []) (tf 0 38) (by kernel_rfl) rfl rfl ⟨z0 _ aG.out, z1 _ aG.out, z2 _ aG.out, z3 _ aG.out, z4 _ aG.out, z5 _ aG.out, (CY HB.out cZ), (CY HB.out cY), (CY HB.out cX), (CY HB.out cW), (CY HB.out cV), (CY HB.out cU), (CY HB.out cT), (CY HB.out cS), (CY HB.out cR), (CY HB.out cQ), (CY HB.out cI), (CY HB.out eE), (CY HB.out eD), (CY HB.out eC), (CY HB.out eB), (CY HB.out eA), (CY HB.out dZ), (CY HB.out dY), (CY HB.out dX), (CY HB.out dW), (CY HB.out dV), (CY HB.out dO)⟩ (fun aI => ?_); refine with_tabW spec_GateOk.tab6 spec_GateOk.bits6 (fun aH dS => ?_)
           generalize wr.drew = qG at aG HB cJ eS aO aP aJ aQ aR aS aT aU aV aW aX bM bN aY bO bP bQ bR bS bT bU bV aI ⊢
           refine pv aH 0 42 (tf 1 37) ?_
           refine pv aH 2 44 (tr [1, 1, 1, 35]) ?_
           refine tk 1 (some 43) (tf 3 35) (take_ofW aH.out dS.out (by kernel_rfl)) aI ?_
           refine pv aH 3 45 (tf 4 34) ?_
           refine tk 4 (some 46) (tf 5 33) (take_ofW aH.out dS.out (by kernel_rfl)) aI ?_
           refine one_ (i := 5) (N := some 47) (tf 6 32) rfl rfl (one_of aH.out (by kernel_rfl)) (by decide) (fun K hK => ?_)
           refine goes_ Tryz.func46 (by kernel_rfl) rfl #[.agg #[.int .i64 ((rd_T103 aE aA).f0), .int .i64 ((rd_T103 aE aA).f1), .string ((rd_T103 aE aA).f2), .string ((rd_T103 aE aA).f3), .int .i64 ((rd_T103 aE aA).f4), .int .i64 ((rd_T103 aE aA).f5), .int .i64 ((rd_T103 aE aA).f6), .int .i64 ((rd_T103 aE aA).f7), .int .i64 ((rd_T103 aE aA).f8), .int .i64 ((rd_T103 aE aA).f9.f0), .slice cO ((rd_T103 aE aA).f9.f1).length cP]] (by rfl) rfl rfl MT ?_
           with_reducible refine (spec_SaOk.calls k2 ((rd_T103 aE aA).f0) ((rd_T103 aE aA).f1) ((rd_T103 aE aA).f2) ((rd_T103 aE aA).f3) ((rd_T103 aE aA).f4) ((rd_T103 aE aA).f5) ((rd_T103 aE aA).f6) ((rd_T103 aE aA).f7) ((rd_T103 aE aA).f8) ((rd_T103 aE aA).f9.f0) _ _ ((rd_T103 aE aA).f9.f1) true _ ?_ ?_ nP.out).mono ?_
           exact KD cJ HB
           exact dT.out
           rintro e qH ⟨rfl, hb⟩
           refine ⟨_, rfl, ?_⟩
           replace aG := am (BB aG hb)
           replace HB := bl (K1 HB aM.out) hb
           (try clear hb)
           (try clear hb2)
           (try clear hk)
           (try clear hi)
           refine hK.out _ _ ⟨z0 _ aG.out, z1 _ aG.out, z2 _ aG.out, z3 _ aG.out, z4 _ aG.out, z5 _ aG.out, (CY HB.out cZ), (CY HB.out cY), (CY HB.out cX), (CY HB.out cW), (CY HB.out cV), (CY HB.out cU), (CY HB.out cT), (CY HB.out cS), (CY HB.out cR), (CY HB.out cQ), (CY HB.out cI), (CY HB.out eE), (CY HB.out eD), (CY HB.out eC), (CY HB.out eB), (CY HB.out eA), (CY HB.out dZ), (CY HB.out dY), (CY HB.out dX), (CY HB.out dW), (CY HB.out dV), (CY HB.out dO)⟩ (fun aI => ?_)
           clear hK K
           refine nm (some 47) ?_
           refine pv aH 6 48 (tf 7 31) ?_
           refine pv aH 7 49 (tf 8 30) ?_
           refine pv aH 8 50 (tf 9 29) ?_
           refine pv aH 10 52 (tr [9, 1, 1, 27]) ?_
           refine pv aH 14 56 (tr [9, 1, 1, 3, 1, 23]) ?_
           refine tk 9 (some 51) (tr [11, 3, 1, 23]) (take_ofW aH.out dS.out (by kernel_rfl)) aI ?_
           refine pv aH 11 53 (tr [12, 2, 1, 23]) ?_
           refine pv aH 12 54 (tr [13, 1, 1, 23]) ?_
           refine tk 13 (some 55) (tf 15 23) (take_ofW aH.out dS.out (by kernel_rfl)) aI ?_
           refine tk 15 (some 57) (tf 16 22) (take_ofW aH.out dS.out (by kernel_rfl)) aI ?_
           refine pv aH 16 58 (tf 17 21) ?_
           refine pv aH 17 59 (tf 18 20) ?_
           refine pv aH 18 60 (tf 19 19) ?_
           refine pw aH 19 61 (tf 20 18) ?_
           refine pw aH 20 62 (tf 21 17) ?_
           refine pw aH 21 63 (tf 22 16) ?_
           refine pw aH 22 64 (tf 23 15) ?_
           refine pw aH 23 65 (tf 24 14) ?_
           refine pw aH 24 66 (tf 25 13) ?_
           refine pw aH 25 67 (tf 26 12) ?_
           refine pw aH 26 68 (tf 27 11) ?_
           refine pw aH 27 69 (tf 28 10) ?_
           refine pw aH 28 70 (tf 29 9) ?_
           refine pw aH 29 71 (tf 30 8) ?_
           refine pw aH 30 72 (tf 31 7) ?_
           refine pw aH 31 73 (tf 32 6) ?_
           refine pw aH 32 74 (tf 33 5) ?_
           refine pw aH 33 75 (tf 34 4) ?_
           refine pw aH 34 76 (tf 35 3) ?_
           refine pw aH 35 77 (tf 36 2) ?_
           refine pw aH 36 78 (tf 37 1) ?_
           refine pv aH 37 79 (tf 38 0) ?_
           refine done_ (done_of aH.out (by kernel_rfl)) ?_
           try go_wp2
           go_meet
           case rel => exact ⟨_, (true), (by first | rfl | (simp; done) | (simp [*]; done)), H', ⟨by have := HJ1.out; have := HK2.out; first | omega | exact Nat.le_refl _⟩, ⟨KB aG⟩, ⟨K1 HB aM.out⟩⟩
          ·rw [if_neg nF] at H
           have c27b0 : decide (aK < ((rd_T103 aE aA).f4)) = false := decide_eq_false nF
           clear nF
           by_cases nG : aA > 0
           ·rw [if_pos nG] at H
            have c30b0 : decide (0 < aA) = true := decide_eq_true nG
            clear nG
            obtain ⟨ji31, hji31⟩ : ∃ j_ : Int, (wrap64 (aA - 1)) = j_ := ⟨_, rfl⟩
            replace H : (if 0 ≤ (ji31) then (if (ji31) < (aE.length : Int) then (spec_GateOk.j2 k2 aA (decide (((rd_T103 aE (ji31)).f1) ≥ ((rd_T103 aE aA).f1))) aK aZ aN bA aE aF) else (none)) else (none)) = some r := by first | (rw [hji31] at H; exact H) | (simp only [hji31] at H ⊢; exact H)
            (try rw [hji31] at nP)
            have hji31w : (IntKind.i64.wrap (aA - 1)) = ji31 := (i64_w _).trans hji31
            by_cases oM : 0 ≤ (ji31)
            ·rw [if_pos oM] at H
             have c32b0 : decide (0 ≤ (ji31)) = true := decide_eq_true oM
             clear oM
             by_cases oN : (ji31) < (aE.length : Int)
             ·rw [if_pos oN] at H
              have c33b0 : decide ((ji31) < (aE.length : Int)) = true := decide_eq_true oN
              clear oN
              have H' := Aside0.mk H
              clear H
              try go_wp2
              replace aG := am (blk_drew aG.out)
              replace HB := am (below_drew1 HB.out)
              have eQ : 0 ≤ (aA : Int) := OD
              have eR : aA < (aE.length : Int) := OD
              obtain ⟨aC, cO, cP, hZ, aO, aP, aQ, aR, aS, aT, aU, aV, aW, aX, aJ, cG, cH⟩ := at_T103 fI.out aA eQ eR
              have cI := aJ
              have cQ := aX
              have cR := aW
              have cS := aV
              have cT := aU
              have cU := aT
              have cV := aS
              have cW := aR
              have cX := aQ
              have cY := aP
              have cZ := aO
              cases hZ
              replace aO := CX HB.out aO
              replace aP := CX HB.out aP
              replace aQ := CX HB.out aQ
              replace aR := CX HB.out aR
              replace aS := CX HB.out aS
              replace aT := CX HB.out aT
              replace aU := CX HB.out aU
              replace aV := CX HB.out aV
              replace aW := CX HB.out aW
              replace aX := CX HB.out aX
              replace aJ := CX HB.out aJ
              have cJ := Aside0.mk cH
              have dT := Aside0.mk cG
              clear cH cG
              replace eQ := eq_true eQ
              replace eR := eq_true eR
              have fM : 0 ≤ (aA : Int) := OD
              have fN : aA < (aE.length : Int) := OD
              obtain ⟨hI, eW, eX, lS, bM, bN, bO, bP, bQ, bR, bS, bT, bU, bV, aY, dM, dN⟩ := at_T103 fI.out aA fM fN
              have dO := aY
              have dV := bV
              have dW := bU
              have dX := bT
              have dY := bS
              have dZ := bR
              have eA := bQ
              have eB := bP
              have eC := bO
              have eD := bN
              have eE := bM
              obtain rfl : aC = hI := (by injection lS)
              replace bM := CX HB.out bM
              replace bN := CX HB.out bN
              replace bO := CX HB.out bO
              replace bP := CX HB.out bP
              replace bQ := CX HB.out bQ
              replace bR := CX HB.out bR
              replace bS := CX HB.out bS
              replace bT := CX HB.out bT
              replace bU := CX HB.out bU
              replace bV := CX HB.out bV
              replace aY := CX HB.out aY
              have eS := Aside0.mk dN
              have hJ := Aside0.mk dM
              clear dN dM
              replace fM := eq_true fM
              replace fN := eq_true fN
              have mU : 0 ≤ ((ji31) : Int) := OD
              have mV : (ji31) < (aE.length : Int) := OD
              obtain ⟨nQ, lZ, mA, pK, fS, fT, fU, fV, fW, fX, fY, fZ, gA, gB, fK, hL, hM⟩ := at_T103 fI.out (ji31) mU mV
              have hN := fK
              have jZ := gB
              have kA := gA
              have kB := fZ
              have kC := fY
              have kD := fX
              have kE := fW
              have kF := fV
              have kG := fU
              have kH := fT
              have kI := fS
              obtain rfl : aC = nQ := (by injection pK)
              replace fS := CX HB.out fS
              replace fT := CX HB.out fT
              replace fU := CX HB.out fU
              replace fV := CX HB.out fV
              replace fW := CX HB.out fW
              replace fX := CX HB.out fX
              replace fY := CX HB.out fY
              replace fZ := CX HB.out fZ
              replace gA := CX HB.out gA
              replace gB := CX HB.out gB
              replace fK := CX HB.out fK
              have lT := Aside0.mk hM
              have nR := Aside0.mk hL
              clear hM hL
              replace mU := eq_true mU
              replace mV := eq_true mV
              have mW : 0 ≤ (aA : Int) := OD
              have mX : aA < (aE.length : Int) := OD
              obtain ⟨nS, _, _, pL, gC, gD, gE, gF, gG, gH, gI, gJ, gK, gL, eT, hO, hP⟩ := at_T103 fI.out aA mW mX
              have hQ := eT
              have kJ := gL
              have kK := gK
              have kL := gJ
              have kM := gI
              have kN := gH
              have kO := gG
              have kP := gF
              have kQ := gE
              have kR := gD
              have kS := gC
              obtain rfl : aC = nS := (by injection pL)
              replace gC := CX HB.out gC
              replace gD := CX HB.out gD
              replace gE := CX HB.out gE
              replace gF := CX HB.out gF
              replace gG := CX HB.out gG
              replace gH := CX HB.out gH
              replace gI := CX HB.out gI
              replace gJ := CX HB.out gJ
              replace gK := CX HB.out gK
              replace gL := CX HB.out gL
              replace eT := CX HB.out eT
              have lU := Aside0.mk hP
              have nT := Aside0.mk hO
              clear hP hO
              replace mW := eq_true mW
              replace mX := eq_true mX
              have ea_ := Option.some.inj (aY.symm.trans eT)
              injection ea_ with ea_ en_ ec_
              subst ea_
              subst ec_
              clear en_
              refine start_ (n := 38) (S := fun w' => ce6 w' eP (.int .i64 aK) (.slice fA aZ.length fB) (.int .i64 aN) (.slice fC bA.length fD) (.slice (some aC) aE.length fE) (.slice fP aF.length fF) (w'.cell? (aC.add ((aA).toNat * 11)) = some (.int .i64 ((rd_T103 aE aA).f0)) ∧ w'.cell? ⟨(aC.add ((aA).toNat * 11)).block, (aC.add ((aA).toNat * 11)).off + 1, none⟩ = some (.int .i64 ((rd_T103 aE aA).f1)) ∧ w'.cell? ⟨(aC.add ((aA).toNat * 11)).block, (aC.add ((aA).toNat * 11)).off + 2, none⟩ = some (.string ((rd_T103 aE aA).f2)) ∧ w'.cell? ⟨(aC.add ((aA).toNat * 11)).block, (aC.add ((aA).toNat * 11)).off + 3, none⟩ = some (.string ((rd_T103 aE aA).f3)) ∧ w'.cell? ⟨(aC.add ((aA).toNat * 11)).block, (aC.add ((aA).toNat * 11)).off + 4, none⟩ = some (.int .i64 ((rd_T103 aE aA).f4)) ∧ w'.cell? ⟨(aC.add ((aA).toNat * 11)).block, (aC.add ((aA).toNat * 11)).off + 5, none⟩ = some (.int .i64 ((rd_T103 aE aA).f5)) ∧ w'.cell? ⟨(aC.add ((aA).toNat * 11)).block, (aC.add ((aA).toNat * 11)).off + 6, none⟩ = some (.int .i64 ((rd_T103 aE aA).f6)) ∧ w'.cell? ⟨(aC.add ((aA).toNat * 11)).block, (aC.add ((aA).toNat * 11)).off + 7, none⟩ = some (.int .i64 ((rd_T103 aE aA).f7)) ∧ w'.cell? ⟨(aC.add ((aA).toNat * 11)).block, (aC.add ((aA).toNat * 11)).off + 8, none⟩ = some (.int .i64 ((rd_T103 aE aA).f8)) ∧ w'.cell? ⟨(aC.add ((aA).toNat * 11)).block, (aC.add ((aA).toNat * 11)).off + 9, none⟩ = some (.int .i64 ((rd_T103 aE aA).f9.f0)) ∧ w'.cell? ⟨(aC.add ((aA).toNat * 11)).block, (aC.add ((aA).toNat * 11)).off + 10, none⟩ = some (.slice cO ((rd_T103 aE aA).f9.f1).length cP) ∧ w'.cell? (aC.add ((aA).toNat * 11)) = some (.int .i64 ((rd_T103 aE aA).f0)) ∧ w'.cell? ⟨(aC.add ((aA).toNat * 11)).block, (aC.add ((aA).toNat * 11)).off + 1, none⟩ = some (.int .i64 ((rd_T103 aE aA).f1)) ∧ w'.cell? ⟨(aC.add ((aA).toNat * 11)).block, (aC.add ((aA).toNat * 11)).off + 2, none⟩ = some (.string ((rd_T103 aE aA).f2)) ∧ w'.cell? ⟨(aC.add ((aA).toNat * 11)).block, (aC.add ((aA).toNat * 11)).off + 3, none⟩ = some (.string ((rd_T103 aE aA).f3)) ∧ w'.cell? ⟨(aC.add ((aA).toNat * 11)).block, (aC.add ((aA).toNat * 11)).off + 4, none⟩ = some (.int .i64 ((rd_T103 aE aA).f4)) ∧ w'.cell? ⟨(aC.add ((aA).toNat * 11)).block, (aC.add ((aA).toNat * 11)).off + 5, none⟩ = some (.int .i64 ((rd_T103 aE aA).f5)) ∧ w'.cell? ⟨(aC.add ((aA).toNat * 11)).block, (aC.add ((aA).toNat * 11)).off + 6, none⟩ = some (.int .i64 ((rd_T103 aE aA).f6)) ∧ w'.cell? ⟨(aC.add ((aA).toNat * 11)).block, (aC.add ((aA).toNat * 11)).off + 7, none⟩ = some (.int .i64 ((rd_T103 aE aA).f7)) ∧ w'.cell? ⟨(aC.add ((aA).toNat * 11)).block, (aC.add ((aA).toNat * 11)).off + 8, none⟩ = some (.int .i64 ((rd_T103 aE aA).f8)) ∧ w'.cell? ⟨(aC.add ((aA).toNat * 11)).block, (aC.add ((aA).toNat * 11)).off + 9, none⟩ = some (.int .i64 ((rd_T103 aE aA).f9.f0)) ∧ w'.cell? ⟨(aC.add ((aA).toNat * 11)).block, (aC.add ((aA).toNat * 11)).off + 10, none⟩ = some (.slice eW ((rd_T103 aE aA).f9.f1).length eX) ∧ w'.cell? (aC.add (((ji31)).toNat * 11)) = some (.int .i64 ((rd_T103 aE (ji31)).f0)) ∧ w'.cell? ⟨(aC.add (((ji31)).toNat * 11)).block, (aC.add (((ji31)).toNat * 11)).off + 1, none⟩ = some (.int .i64 ((rd_T103 aE (ji31)).f1)) ∧ w'.cell? ⟨(aC.add (((ji31)).toNat * 11)).block, (aC.add (((ji31)).toNat * 11)).off + 2, none⟩ = some (.string ((rd_T103 aE (ji31)).f2)) ∧ w'.cell? ⟨(aC.add (((ji31)).toNat * 11)).block, (aC.add (((ji31)).toNat * 11)).off + 3, none⟩ = some (.string ((rd_T103 aE (ji31)).f3)) ∧ w'.cell? ⟨(aC.add (((ji31)).toNat * 11)).block, (aC.add (((ji31)).toNat * 11)).off + 4, none⟩ = some (.int .i64 ((rd_T103 aE (ji31)).f4)) ∧ w'.cell? ⟨(aC.add (((ji31)).toNat * 11)).block, (aC.add (((ji31)).toNat * 11)).off + 5, none⟩ = some (.int .i64 ((rd_T103 aE (ji31)).f5)) ∧ w'.cell? ⟨(aC.add (((ji31)).toNat * 11)).block, (aC.add (((ji31)).toNat * 11)).off + 6, none⟩ = some (.int .i64 ((rd_T103 aE (ji31)).f6)) ∧ w'.cell? ⟨(aC.add (((ji31)).toNat * 11)).block, (aC.add (((ji31)).toNat * 11)).off + 7, none⟩ = some (.int .i64 ((rd_T103 aE (ji31)).f7)) ∧ w'.cell? ⟨(aC.add (((ji31)).toNat * 11)).block, (aC.add (((ji31)).toNat * 11)).off + 8, none⟩ = some (.int .i64 ((rd_T103 aE (ji31)).f8)) ∧ w'.cell? ⟨(aC.add (((ji31)).toNat * 11)).block, (aC.add (((ji31)).toNat * 11)).off + 9, none⟩ = some (.int .i64 ((rd_T103 aE (ji31)).f9.f0)) ∧ w'.cell? ⟨(aC.add (((ji31)).toNat * 11)).block, (aC.add (((ji31)).toNat * 11)).off + 10, none⟩ = some (.slice lZ ((rd_T103 aE (ji31)).f9.f1).length mA) ∧ w'.cell? (aC.add ((aA).toNat * 11)) = some (.int .i64 ((rd_T103 aE aA).f0)) ∧ w'.cell? ⟨(aC.add ((aA).toNat * 11)).block, (aC.add ((aA).toNat * 11)).off + 1, none⟩ = some (.int .i64 ((rd_T103 aE aA).f1)) ∧ w'.cell? ⟨(aC.add ((aA).toNat * 11)).block, (aC.add ((aA).toNat * 11)).off + 2, none⟩ = some (.string ((rd_T103 aE aA).f2)) ∧ w'.cell? ⟨(aC.add ((aA).toNat * 11)).block, (aC.add ((aA).toNat * 11)).off + 3, none⟩ = some (.string ((rd_T103 aE aA).f3)) ∧ w'.cell? ⟨(aC.add ((aA).toNat * 11)).block, (aC.add ((aA).toNat * 11)).off + 4, none⟩ = some (.int .i64 ((rd_T103 aE aA).f4)) ∧ w'.cell? ⟨(aC.add ((aA).toNat * 11)).block, (aC.add ((aA).toNat * 11)).off + 5, none⟩ = some (.int .i64 ((rd_T103 aE aA).f5)) ∧ w'.cell? ⟨(aC.add ((aA).toNat * 11)).block, (aC.add ((aA).toNat * 11)).off + 6, none⟩ = some (.int .i64 ((rd_T103 aE aA).f6)) ∧ w'.cell? ⟨(aC.add ((aA).toNat * 11)).block, (aC.add ((aA).toNat * 11)).off + 7, none⟩ = some (.int .i64 ((rd_T103 aE aA).f7)) ∧ w'.cell? ⟨(aC.add ((aA).toNat * 11)).block, (aC.add ((aA).toNat * 11)).off + 8, none⟩ = some (.int .i64 ((rd_T103 aE aA).f8)) ∧ w'.cell? ⟨(aC.add ((aA).toNat * 11)).block, (aC.add ((aA).toNat * 11)).off + 9, none⟩ = some (.int .i64 ((rd_T103 aE aA).f9.f0)) ∧ w'.cell? ⟨(aC.add ((aA).toNat * 11)).block, (aC.add ((aA).toNat * 11)).off + 10, none⟩ = some (.slice eW ((rd_T103 aE aA).f9.f1).length eX))) (ds := []) (tf 0 38) (by kernel_rfl) rfl rfl ⟨z0 _ aG.out, z1 _ aG.out, z2 _ aG.out, z3 _ aG.out, z4 _ aG.out, z5 _ aG.out, (CY HB.out cZ), (CY HB.out cY), (CY HB.out cX), (CY HB.out cW), (CY HB.out cV), (CY HB.out cU), (CY HB.out cT), (CY HB.out cS), (CY HB.out cR), (CY HB.out cQ), (CY HB.out cI), (CY HB.out eE), (CY HB.out eD), (CY HB.out eC), (CY HB.out eB), (CY HB.out eA), (CY HB.out dZ), (CY HB.out dY), (CY HB.out dX), (CY HB.out dW), (CY HB.out dV), (CY HB.out dO), (CY HB.out kI), (CY HB.out kH), (CY HB.out kG), (CY HB.out kF), (CY HB.out kE), (CY HB.out kD), (CY HB.out kC), (CY HB.out kB), (CY HB.out kA), (CY HB.out jZ), (CY HB.out hN), (CY HB.out kS), (CY HB.out kR), (CY HB.out kQ), (CY HB.out kP), (CY HB.out kO), (CY HB.out kN), (CY HB.out kM), (CY HB.out kL), (CY HB.out kK), (CY HB.out kJ), (CY HB.out hQ)⟩ (fun aI => ?_); refine with_tabW spec_GateOk.tab6 spec_GateOk.bits6 (fun aH dS => ?_)
              generalize wr.drew = qI at aG HB cJ eS lT lU aO aP aJ aQ aR aS aT aU aV aW aX bM bN aY bO bP bQ bR bS bT bU bV fS fT fK fU fV fW fX fY fZ gA gB gC gD eT gE gF gG gH gI gJ gK gL aI ⊢
              refine pv aH 0 42 (tf 1 37) ?_
              refine pv aH 2 44 (tr [1, 1, 1, 35]) ?_
              refine tk 1 (some 43) (tf 3 35) (take_ofW aH.out dS.out (by kernel_rfl)) aI ?_
              refine pv aH 3 45 (tf 4 34) ?_
              refine tk 4 (some 46) (tf 5 33) (take_ofW aH.out dS.out (by kernel_rfl)) aI ?_
              refine one_ (i := 5) (N := some 47) (tf 6 32) rfl rfl (one_of aH.out (by kernel_rfl)) (by decide) (fun K hK => ?_)
              refine goes_ Tryz.func46 (by kernel_rfl) rfl #[.agg #[.int .i64 ((rd_T103 aE aA).f0), .int .i64 ((rd_T103 aE aA).f1), .string ((rd_T103 aE aA).f2), .string ((rd_T103 aE aA).f3), .int .i64 ((rd_T103 aE aA).f4), .int .i64 ((rd_T103 aE aA).f5), .int .i64 ((rd_T103 aE aA).f6), .int .i64 ((rd_T103 aE aA).f7), .int .i64 ((rd_T103 aE aA).f8), .int .i64 ((rd_T103 aE aA).f9.f0), .slice cO ((rd_T103 aE aA).f9.f1).length cP]] (by rfl) rfl rfl MT ?_
              with_reducible refine (spec_SaOk.calls k2 ((rd_T103 aE aA).f0) ((rd_T103 aE aA).f1) ((rd_T103 aE aA).f2) ((rd_T103 aE aA).f3) ((rd_T103 aE aA).f4) ((rd_T103 aE aA).f5) ((rd_T103 aE aA).f6) ((rd_T103 aE aA).f7) ((rd_T103 aE aA).f8) ((rd_T103 aE aA).f9.f0) _ _ ((rd_T103 aE aA).f9.f1) true _ ?_ ?_ nP.out).mono ?_
              exact KD cJ HB
              exact dT.out
              rintro e qJ ⟨rfl, hb⟩
              refine ⟨_, rfl, ?_⟩
              replace aG := am (BB aG hb)
              replace HB := bl (K1 HB aM.out) hb
              (try clear hb)
              (try clear hb2)
              (try clear hk)
              (try clear hi)
              refine hK.out _ _ ⟨z0 _ aG.out, z1 _ aG.out, z2 _ aG.out, z3 _ aG.out, z4 _ aG.out, z5 _ aG.out, (CY HB.out cZ), (CY HB.out cY), (CY HB.out cX), (CY HB.out cW), (CY HB.out cV), (CY HB.out cU), (CY HB.out cT), (CY HB.out cS), (CY HB.out cR), (CY HB.out cQ), (CY HB.out cI), (CY HB.out eE), (CY HB.out eD), (CY HB.out eC), (CY HB.out eB), (CY HB.out eA), (CY HB.out dZ), (CY HB.out dY), (CY HB.out dX), (CY HB.out dW), (CY HB.out dV), (CY HB.out dO), (CY HB.out kI), (CY HB.out kH), (CY HB.out kG), (CY HB.out kF), (CY HB.out kE), (CY HB.out kD), (CY HB.out kC), (CY HB.out kB), (CY HB.out kA), (CY HB.out jZ), (CY HB.out hN), (CY HB.out kS), (CY HB.out kR), (CY HB.out kQ), (CY HB.out kP), (CY HB.out kO), (CY HB.out kN), (CY HB.out kM), (CY HB.out kL), (CY HB.out kK), (CY HB.out kJ), (CY HB.out hQ)⟩ (fun aI => ?_)
              clear hK K
              refine nm (some 47) ?_
              refine pv aH 6 48 (tf 7 31) ?_
              refine pv aH 7 49 (tf 8 30) ?_
              refine pv aH 8 50 (tf 9 29) ?_
              refine pv aH 10 52 (tr [9, 1, 1, 27]) ?_
              refine pv aH 14 56 (tr [9, 1, 1, 3, 1, 23]) ?_
              refine tk 9 (some 51) (tr [11, 3, 1, 23]) (take_ofW aH.out dS.out (by kernel_rfl)) aI ?_
              refine pv aH 11 53 (tr [12, 2, 1, 23]) ?_
              refine pv aH 12 54 (tr [13, 1, 1, 23]) ?_
              refine tk 13 (some 55) (tf 15 23) (take_ofW aH.out dS.out (by kernel_rfl)) aI ?_
              refine tk 15 (some 57) (tf 16 22) (take_ofW aH.out dS.out (by kernel_rfl)) aI ?_
              refine pv aH 16 58 (tf 17 21) ?_
              refine pv aH 17 59 (tf 18 20) ?_
              refine pv aH 18 60 (tf 19 19) ?_
              refine pv aH 19 61 (tf 20 18) ?_
              refine pv aH 20 62 (tf 21 17) ?_
              refine pv aH 21 63 (tf 22 16) ?_
              refine pv aH 22 64 (tf 23 15) ?_
              refine pv aH 24 66 (tr [23, 1, 1, 13]) ?_
              refine pv aH 25 67 (tr [23, 1, 2, 12]) ?_
              refine pv aH 29 71 (tr [23, 1, 2, 3, 1, 8]) ?_
              refine pv aH 31 73 (tr [23, 1, 2, 3, 1, 1, 1, 6]) ?_
              refine tk 23 (some 65) (tr [26, 3, 1, 1, 1, 6]) (take_ofW aH.out dS.out (by kernel_rfl)) aI ?_
              refine pv aH 26 68 (tr [27, 2, 1, 1, 1, 6]) ?_
              refine pv aH 27 69 (tr [28, 1, 1, 1, 1, 6]) ?_
              refine tk 28 (some 70) (tr [30, 1, 1, 6]) (take_ofW aH.out dS.out (by kernel_rfl)) aI ?_
              refine tk 30 (some 72) (tf 32 6) (take_ofW aH.out dS.out (by kernel_rfl)) aI ?_
              refine pv aH 32 74 (tf 33 5) ?_
              refine pv aH 33 75 (tf 34 4) ?_
              refine tk 34 (some 76) (tf 35 3) (take_ofW aH.out dS.out (by kernel_rfl)) aI ?_
              refine pv aH 35 77 (tf 36 2) ?_
              refine pv aH 36 78 (tf 37 1) ?_
              refine pv aH 37 79 (tf 38 0) ?_
              refine done_ (done_of aH.out (by kernel_rfl)) ?_
              try go_wp2
              go_meet
              case rel => exact ⟨_, (decide (((rd_T103 aE (ji31)).f1) ≥ ((rd_T103 aE aA).f1))), (by first | rfl | (simp; done) | (simp only [← hji31] <;> (first | rfl | simp)) | (simp [*]; done)), H', ⟨by have := HJ1.out; have := HK2.out; first | omega | exact Nat.le_refl _⟩, ⟨KB aG⟩, ⟨K1 HB aM.out⟩⟩
             ·rw [if_neg oN] at H
              exact absurd H (by simp)
            ·rw [if_neg oM] at H
             exact absurd H (by simp)
           ·rw [if_neg nG] at H
            have c30b0 : decide (0 < aA) = false := decide_eq_false nG
            clear nG
            have H' := Aside0.mk H
            clear H
            try go_wp2
            replace aG := am (blk_drew aG.out)
            replace HB := am (below_drew1 HB.out)
            have eQ : 0 ≤ (aA : Int) := OD
            have eR : aA < (aE.length : Int) := OD
            obtain ⟨aC, cO, cP, hZ, aO, aP, aQ, aR, aS, aT, aU, aV, aW, aX, aJ, cG, cH⟩ := at_T103 fI.out aA eQ eR
            have cI := aJ
            have cQ := aX
            have cR := aW
            have cS := aV
            have cT := aU
            have cU := aT
            have cV := aS
            have cW := aR
            have cX := aQ
            have cY := aP
            have cZ := aO
            cases hZ
            replace aO := CX HB.out aO
            replace aP := CX HB.out aP
            replace aQ := CX HB.out aQ
            replace aR := CX HB.out aR
            replace aS := CX HB.out aS
            replace aT := CX HB.out aT
            replace aU := CX HB.out aU
            replace aV := CX HB.out aV
            replace aW := CX HB.out aW
            replace aX := CX HB.out aX
            replace aJ := CX HB.out aJ
            have cJ := Aside0.mk cH
            have dT := Aside0.mk cG
            clear cH cG
            replace eQ := eq_true eQ
            replace eR := eq_true eR
            have fM : 0 ≤ (aA : Int) := OD
            have fN : aA < (aE.length : Int) := OD
            obtain ⟨hI, eW, eX, lS, bM, bN, bO, bP, bQ, bR, bS, bT, bU, bV, aY, dM, dN⟩ := at_T103 fI.out aA fM fN
            have dO := aY
            have dV := bV
            have dW := bU
            have dX := bT
            have dY := bS
            have dZ := bR
            have eA := bQ
            have eB := bP
            have eC := bO
            have eD := bN
            have eE := bM
            obtain rfl : aC = hI := (by injection lS)
            replace bM := CX HB.out bM
            replace bN := CX HB.out bN
            replace bO := CX HB.out bO
            replace bP := CX HB.out bP
            replace bQ := CX HB.out bQ
            replace bR := CX HB.out bR
            replace bS := CX HB.out bS
            replace bT := CX HB.out bT
            replace bU := CX HB.out bU
            replace bV := CX HB.out bV
            replace aY := CX HB.out aY
            have eS := Aside0.mk dN
            have hJ := Aside0.mk dM
            clear dN dM
            replace fM := eq_true fM
            replace fN := eq_true fN
            refine start_ (n := 38) (S := fun w' => ce6 w' eP (.int .i64 aK) (.slice fA aZ.length fB) (.int .i64 aN) (.slice fC bA.length fD) (.slice (some aC) aE.length fE) (.slice fP aF.length fF) (w'.cell? (aC.add ((aA).toNat * 11)) = some (.int .i64 ((rd_T103 aE aA).f0)) ∧ w'.cell? ⟨(aC.add ((aA).toNat * 11)).block, (aC.add ((aA).toNat * 11)).off + 1, none⟩ = some (.int .i64 ((rd_T103 aE aA).f1)) ∧ w'.cell? ⟨(aC.add ((aA).toNat * 11)).block, (aC.add ((aA).toNat * 11)).off + 2, none⟩ = some (.string ((rd_T103 aE aA).f2)) ∧ w'.cell? ⟨(aC.add ((aA).toNat * 11)).block, (aC.add ((aA).toNat * 11)).off + 3, none⟩ = some (.string ((rd_T103 aE aA).f3)) ∧ w'.cell? ⟨(aC.add ((aA).toNat * 11)).block, (aC.add ((aA).toNat * 11)).off + 4, none⟩ = some (.int .i64 ((rd_T103 aE aA).f4)) ∧ w'.cell? ⟨(aC.add ((aA).toNat * 11)).block, (aC.add ((aA).toNat * 11)).off + 5, none⟩ = some (.int .i64 ((rd_T103 aE aA).f5)) ∧ w'.cell? ⟨(aC.add ((aA).toNat * 11)).block, (aC.add ((aA).toNat * 11)).off + 6, none⟩ = some (.int .i64 ((rd_T103 aE aA).f6)) ∧ w'.cell? ⟨(aC.add ((aA).toNat * 11)).block, (aC.add ((aA).toNat * 11)).off + 7, none⟩ = some (.int .i64 ((rd_T103 aE aA).f7)) ∧ w'.cell? ⟨(aC.add ((aA).toNat * 11)).block, (aC.add ((aA).toNat * 11)).off + 8, none⟩ = some (.int .i64 ((rd_T103 aE aA).f8)) ∧ w'.cell? ⟨(aC.add ((aA).toNat * 11)).block, (aC.add ((aA).toNat * 11)).off + 9, none⟩ = some (.int .i64 ((rd_T103 aE aA).f9.f0)) ∧ w'.cell? ⟨(aC.add ((aA).toNat * 11)).block, (aC.add ((aA).toNat * 11)).off + 10, none⟩ = some (.slice cO ((rd_T103 aE aA).f9.f1).length cP) ∧ w'.cell? (aC.add ((aA).toNat * 11)) = some (.int .i64 ((rd_T103 aE aA).f0)) ∧ w'.cell? ⟨(aC.add ((aA).toNat * 11)).block, (aC.add ((aA).toNat * 11)).off + 1, none⟩ = some (.int .i64 ((rd_T103 aE aA).f1)) ∧ w'.cell? ⟨(aC.add ((aA).toNat * 11)).block, (aC.add ((aA).toNat * 11)).off + 2, none⟩ = some (.string ((rd_T103 aE aA).f2)) ∧ w'.cell? ⟨(aC.add ((aA).toNat * 11)).block, (aC.add ((aA).toNat * 11)).off + 3, none⟩ = some (.string ((rd_T103 aE aA).f3)) ∧ w'.cell? ⟨(aC.add ((aA).toNat * 11)).block, (aC.add ((aA).toNat * 11)).off + 4, none⟩ = some (.int .i64 ((rd_T103 aE aA).f4)) ∧ w'.cell? ⟨(aC.add ((aA).toNat * 11)).block, (aC.add ((aA).toNat * 11)).off + 5, none⟩ = some (.int .i64 ((rd_T103 aE aA).f5)) ∧ w'.cell? ⟨(aC.add ((aA).toNat * 11)).block, (aC.add ((aA).toNat * 11)).off + 6, none⟩ = some (.int .i64 ((rd_T103 aE aA).f6)) ∧ w'.cell? ⟨(aC.add ((aA).toNat * 11)).block, (aC.add ((aA).toNat * 11)).off + 7, none⟩ = some (.int .i64 ((rd_T103 aE aA).f7)) ∧ w'.cell? ⟨(aC.add ((aA).toNat * 11)).block, (aC.add ((aA).toNat * 11)).off + 8, none⟩ = some (.int .i64 ((rd_T103 aE aA).f8)) ∧ w'.cell? ⟨(aC.add ((aA).toNat * 11)).block, (aC.add ((aA).toNat * 11)).off + 9, none⟩ = some (.int .i64 ((rd_T103 aE aA).f9.f0)) ∧ w'.cell? ⟨(aC.add ((aA).toNat * 11)).block, (aC.add ((aA).toNat * 11)).off + 10, none⟩ = some (.slice eW ((rd_T103 aE aA).f9.f1).length eX))) (ds := []) (tf 0 38) (by kernel_rfl) rfl rfl ⟨z0 _ aG.out, z1 _ aG.out, z2 _ aG.out, z3 _ aG.out, z4 _ aG.out, z5 _ aG.out, (CY HB.out cZ), (CY HB.out cY), (CY HB.out cX), (CY HB.out cW), (CY HB.out cV), (CY HB.out cU), (CY HB.out cT), (CY HB.out cS), (CY HB.out cR), (CY HB.out cQ), (CY HB.out cI), (CY HB.out eE), (CY HB.out eD), (CY HB.out eC), (CY HB.out eB), (CY HB.out eA), (CY HB.out dZ), (CY HB.out dY), (CY HB.out dX), (CY HB.out dW), (CY HB.out dV), (CY HB.out dO)⟩ (fun aI => ?_); refine with_tabW spec_GateOk.tab6 spec_GateOk.bits6 (fun aH dS => ?_)
            generalize wr.drew = qK at aG HB cJ eS aO aP aJ aQ aR aS aT aU aV aW aX bM bN aY bO bP bQ bR bS bT bU bV aI ⊢
            refine pv aH 0 42 (tf 1 37) ?_
            refine pv aH 2 44 (tr [1, 1, 1, 35]) ?_
            refine tk 1 (some 43) (tf 3 35) (take_ofW aH.out dS.out (by kernel_rfl)) aI ?_
            refine pv aH 3 45 (tf 4 34) ?_
            refine tk 4 (some 46) (tf 5 33) (take_ofW aH.out dS.out (by kernel_rfl)) aI ?_
            refine one_ (i := 5) (N := some 47) (tf 6 32) rfl rfl (one_of aH.out (by kernel_rfl)) (by decide) (fun K hK => ?_)
            refine goes_ Tryz.func46 (by kernel_rfl) rfl #[.agg #[.int .i64 ((rd_T103 aE aA).f0), .int .i64 ((rd_T103 aE aA).f1), .string ((rd_T103 aE aA).f2), .string ((rd_T103 aE aA).f3), .int .i64 ((rd_T103 aE aA).f4), .int .i64 ((rd_T103 aE aA).f5), .int .i64 ((rd_T103 aE aA).f6), .int .i64 ((rd_T103 aE aA).f7), .int .i64 ((rd_T103 aE aA).f8), .int .i64 ((rd_T103 aE aA).f9.f0), .slice cO ((rd_T103 aE aA).f9.f1).length cP]] (by rfl) rfl rfl MT ?_
            with_reducible refine (spec_SaOk.calls k2 ((rd_T103 aE aA).f0) ((rd_T103 aE aA).f1) ((rd_T103 aE aA).f2) ((rd_T103 aE aA).f3) ((rd_T103 aE aA).f4) ((rd_T103 aE aA).f5) ((rd_T103 aE aA).f6) ((rd_T103 aE aA).f7) ((rd_T103 aE aA).f8) ((rd_T103 aE aA).f9.f0) _ _ ((rd_T103 aE aA).f9.f1) true _ ?_ ?_ nP.out).mono ?_
            exact KD cJ HB
            exact dT.out
            rintro e qL ⟨rfl, hb⟩
            refine ⟨_, rfl, ?_⟩
            replace aG := am (BB aG hb)
            replace HB := bl (K1 HB aM.out) hb
            (try clear hb)
            (try clear hb2)
            (try clear hk)
            (try clear hi)
            refine hK.out _ _ ⟨z0 _ aG.out, z1 _ aG.out, z2 _ aG.out, z3 _ aG.out, z4 _ aG.out, z5 _ aG.out, (CY HB.out cZ), (CY HB.out cY), (CY HB.out cX), (CY HB.out cW), (CY HB.out cV), (CY HB.out cU), (CY HB.out cT), (CY HB.out cS), (CY HB.out cR), (CY HB.out cQ), (CY HB.out cI), (CY HB.out eE), (CY HB.out eD), (CY HB.out eC), (CY HB.out eB), (CY HB.out eA), (CY HB.out dZ), (CY HB.out dY), (CY HB.out dX), (CY HB.out dW), (CY HB.out dV), (CY HB.out dO)⟩ (fun aI => ?_)
            clear hK K
            refine nm (some 47) ?_
            refine pv aH 6 48 (tf 7 31) ?_
            refine pv aH 7 49 (tf 8 30) ?_
            refine pv aH 8 50 (tf 9 29) ?_
            refine pv aH 10 52 (tr [9, 1, 1, 27]) ?_
            refine pv aH 14 56 (tr [9, 1, 1, 3, 1, 23]) ?_
            refine tk 9 (some 51) (tr [11, 3, 1, 23]) (take_ofW aH.out dS.out (by kernel_rfl)) aI ?_
            refine pv aH 11 53 (tr [12, 2, 1, 23]) ?_
            refine pv aH 12 54 (tr [13, 1, 1, 23]) ?_
            refine tk 13 (some 55) (tf 15 23) (take_ofW aH.out dS.out (by kernel_rfl)) aI ?_
            refine tk 15 (some 57) (tf 16 22) (take_ofW aH.out dS.out (by kernel_rfl)) aI ?_
            refine pv aH 16 58 (tf 17 21) ?_
            refine pv aH 17 59 (tf 18 20) ?_
            refine pv aH 18 60 (tf 19 19) ?_
            refine pv aH 19 61 (tf 20 18) ?_
            refine pv aH 20 62 (tf 21 17) ?_
            refine pv aH 21 63 (tf 22 16) ?_
            refine pw aH 22 64 (tf 23 15) ?_
            refine pw aH 23 65 (tf 24 14) ?_
            refine pw aH 24 66 (tf 25 13) ?_
            refine pw aH 25 67 (tf 26 12) ?_
            refine pw aH 26 68 (tf 27 11) ?_
            refine pw aH 27 69 (tf 28 10) ?_
            refine pw aH 28 70 (tf 29 9) ?_
            refine pw aH 29 71 (tf 30 8) ?_
            refine pw aH 30 72 (tf 31 7) ?_
            refine pw aH 31 73 (tf 32 6) ?_
            refine pw aH 32 74 (tf 33 5) ?_
            refine pw aH 33 75 (tf 34 4) ?_
            refine pw aH 34 76 (tf 35 3) ?_
            refine pw aH 35 77 (tf 36 2) ?_
            refine pv aH 36 78 (tf 37 1) ?_
            refine pv aH 37 79 (tf 38 0) ?_
            refine done_ (done_of aH.out (by kernel_rfl)) ?_
            try go_wp2
            go_meet
            case rel => exact ⟨_, (false), (by first | rfl | (simp; done) | (simp [*]; done)), H', ⟨by have := HJ1.out; have := HK2.out; first | omega | exact Nat.le_refl _⟩, ⟨KB aG⟩, ⟨K1 HB aM.out⟩⟩
         ·replace nE := Bool.eq_false_iff.mpr nE
          subst nE
          have H1 := nf H
          clear H
          have H := H1
          clear H1
          have H' := Aside0.mk H
          clear H
          try go_wp2
          replace aG := am (blk_drew aG.out)
          replace HB := am (below_drew1 HB.out)
          have eQ : 0 ≤ (aA : Int) := OD
          have eR : aA < (aE.length : Int) := OD
          obtain ⟨aC, cO, cP, hZ, aO, aP, aQ, aR, aS, aT, aU, aV, aW, aX, aJ, cG, cH⟩ := at_T103 fI.out aA eQ eR
          have cI := aJ
          have cQ := aX
          have cR := aW
          have cS := aV
          have cT := aU
          have cU := aT
          have cV := aS
          have cW := aR
          have cX := aQ
          have cY := aP
          have cZ := aO
          cases hZ
          replace aO := CX HB.out aO
          replace aP := CX HB.out aP
          replace aQ := CX HB.out aQ
          replace aR := CX HB.out aR
          replace aS := CX HB.out aS
          replace aT := CX HB.out aT
          replace aU := CX HB.out aU
          replace aV := CX HB.out aV
          replace aW := CX HB.out aW
          replace aX := CX HB.out aX
          replace aJ := CX HB.out aJ
          have cJ := Aside0.mk cH
          have dT := Aside0.mk cG
          clear cH cG
          replace eQ := eq_true eQ
          replace eR := eq_true eR
          refine start_ (n := 38) (S := fun w' => ce6 w' eP (.int .i64 aK) (.slice fA aZ.length fB) (.int .i64 aN) (.slice fC bA.length fD) (.slice (some aC) aE.length fE) (.slice fP aF.length fF) (w'.cell? (aC.add ((aA).toNat * 11)) = some (.int .i64 ((rd_T103 aE aA).f0)) ∧ w'.cell? ⟨(aC.add ((aA).toNat * 11)).block, (aC.add ((aA).toNat * 11)).off + 1, none⟩ = some (.int .i64 ((rd_T103 aE aA).f1)) ∧ w'.cell? ⟨(aC.add ((aA).toNat * 11)).block, (aC.add ((aA).toNat * 11)).off + 2, none⟩ = some (.string ((rd_T103 aE aA).f2)) ∧ w'.cell? ⟨(aC.add ((aA).toNat * 11)).block, (aC.add ((aA).toNat * 11)).off + 3, none⟩ = some (.string ((rd_T103 aE aA).f3)) ∧ w'.cell? ⟨(aC.add ((aA).toNat * 11)).block, (aC.add ((aA).toNat * 11)).off + 4, none⟩ = some (.int .i64 ((rd_T103 aE aA).f4)) ∧ w'.cell? ⟨(aC.add ((aA).toNat * 11)).block, (aC.add ((aA).toNat * 11)).off + 5, none⟩ = some (.int .i64 ((rd_T103 aE aA).f5)) ∧ w'.cell? ⟨(aC.add ((aA).toNat * 11)).block, (aC.add ((aA).toNat * 11)).off + 6, none⟩ = some (.int .i64 ((rd_T103 aE aA).f6)) ∧ w'.cell? ⟨(aC.add ((aA).toNat * 11)).block, (aC.add ((aA).toNat * 11)).off + 7, none⟩ = some (.int .i64 ((rd_T103 aE aA).f7)) ∧ w'.cell? ⟨(aC.add ((aA).toNat * 11)).block, (aC.add ((aA).toNat * 11)).off + 8, none⟩ = some (.int .i64 ((rd_T103 aE aA).f8)) ∧ w'.cell? ⟨(aC.add ((aA).toNat * 11)).block, (aC.add ((aA).toNat * 11)).off + 9, none⟩ = some (.int .i64 ((rd_T103 aE aA).f9.f0)) ∧ w'.cell? ⟨(aC.add ((aA).toNat * 11)).block, (aC.add ((aA).toNat * 11)).off + 10, none⟩ = some (.slice cO ((rd_T103 aE aA).f9.f1).length cP))) (ds := []) (tf 0 38) (by kernel_rfl) rfl rfl ⟨z0 _ aG.out, z1 _ aG.out, z2 _ aG.out, z3 _ aG.out, z4 _ aG.out, z5 _ aG.out, (CY HB.out cZ), (CY HB.out cY), (CY HB.out cX), (CY HB.out cW), (CY HB.out cV), (CY HB.out cU), (CY HB.out cT), (CY HB.out cS), (CY HB.out cR), (CY HB.out cQ), (CY HB.out cI)⟩ (fun aI => ?_); refine with_tabW spec_GateOk.tab6 spec_GateOk.bits6 (fun aH dS => ?_)
          generalize wr.drew = qM at aG HB cJ aO aP aJ aQ aR aS aT aU aV aW aX aI ⊢
          refine pv aH 0 42 (tf 1 37) ?_
          refine pv aH 2 44 (tr [1, 1, 1, 35]) ?_
          refine tk 1 (some 43) (tf 3 35) (take_ofW aH.out dS.out (by kernel_rfl)) aI ?_
          refine pv aH 3 45 (tf 4 34) ?_
          refine tk 4 (some 46) (tf 5 33) (take_ofW aH.out dS.out (by kernel_rfl)) aI ?_
          refine one_ (i := 5) (N := some 47) (tf 6 32) rfl rfl (one_of aH.out (by kernel_rfl)) (by decide) (fun K hK => ?_)
          refine goes_ Tryz.func46 (by kernel_rfl) rfl #[.agg #[.int .i64 ((rd_T103 aE aA).f0), .int .i64 ((rd_T103 aE aA).f1), .string ((rd_T103 aE aA).f2), .string ((rd_T103 aE aA).f3), .int .i64 ((rd_T103 aE aA).f4), .int .i64 ((rd_T103 aE aA).f5), .int .i64 ((rd_T103 aE aA).f6), .int .i64 ((rd_T103 aE aA).f7), .int .i64 ((rd_T103 aE aA).f8), .int .i64 ((rd_T103 aE aA).f9.f0), .slice cO ((rd_T103 aE aA).f9.f1).length cP]] (by rfl) rfl rfl MT ?_
          with_reducible refine (spec_SaOk.calls k2 ((rd_T103 aE aA).f0) ((rd_T103 aE aA).f1) ((rd_T103 aE aA).f2) ((rd_T103 aE aA).f3) ((rd_T103 aE aA).f4) ((rd_T103 aE aA).f5) ((rd_T103 aE aA).f6) ((rd_T103 aE aA).f7) ((rd_T103 aE aA).f8) ((rd_T103 aE aA).f9.f0) _ _ ((rd_T103 aE aA).f9.f1) false _ ?_ ?_ nP.out).mono ?_
          exact KD cJ HB
          exact dT.out
          rintro e qN ⟨rfl, hb⟩
          refine ⟨_, rfl, ?_⟩
          replace aG := am (BB aG hb)
          replace HB := bl (K1 HB aM.out) hb
          (try clear hb)
          (try clear hb2)
          (try clear hk)
          (try clear hi)
          refine hK.out _ _ ⟨z0 _ aG.out, z1 _ aG.out, z2 _ aG.out, z3 _ aG.out, z4 _ aG.out, z5 _ aG.out, (CY HB.out cZ), (CY HB.out cY), (CY HB.out cX), (CY HB.out cW), (CY HB.out cV), (CY HB.out cU), (CY HB.out cT), (CY HB.out cS), (CY HB.out cR), (CY HB.out cQ), (CY HB.out cI)⟩ (fun aI => ?_)
          clear hK K
          refine nm (some 47) ?_
          refine pv aH 6 48 (tf 7 31) ?_
          refine pv aH 7 49 (tf 8 30) ?_
          refine pw aH 8 50 (tf 9 29) ?_
          refine pw aH 9 51 (tf 10 28) ?_
          refine pw aH 10 52 (tf 11 27) ?_
          refine pw aH 11 53 (tf 12 26) ?_
          refine pw aH 12 54 (tf 13 25) ?_
          refine pw aH 13 55 (tf 14 24) ?_
          refine pw aH 14 56 (tf 15 23) ?_
          refine pw aH 15 57 (tf 16 22) ?_
          refine pw aH 16 58 (tf 17 21) ?_
          refine pv aH 17 59 (tf 18 20) ?_
          refine pv aH 18 60 (tf 19 19) ?_
          refine pw aH 19 61 (tf 20 18) ?_
          refine pw aH 20 62 (tf 21 17) ?_
          refine pw aH 21 63 (tf 22 16) ?_
          refine pw aH 22 64 (tf 23 15) ?_
          refine pw aH 23 65 (tf 24 14) ?_
          refine pw aH 24 66 (tf 25 13) ?_
          refine pw aH 25 67 (tf 26 12) ?_
          refine pw aH 26 68 (tf 27 11) ?_
          refine pw aH 27 69 (tf 28 10) ?_
          refine pw aH 28 70 (tf 29 9) ?_
          refine pw aH 29 71 (tf 30 8) ?_
          refine pw aH 30 72 (tf 31 7) ?_
          refine pw aH 31 73 (tf 32 6) ?_
          refine pw aH 32 74 (tf 33 5) ?_
          refine pw aH 33 75 (tf 34 4) ?_
          refine pw aH 34 76 (tf 35 3) ?_
          refine pw aH 35 77 (tf 36 2) ?_
          refine pw aH 36 78 (tf 37 1) ?_
          refine pv aH 37 79 (tf 38 0) ?_
          refine done_ (done_of aH.out (by kernel_rfl)) ?_
          try go_wp2
          go_meet
          case rel => exact ⟨_, (true), (by first | rfl | (simp; done) | (simp [*]; done)), H', ⟨by have := HJ1.out; have := HK2.out; first | omega | exact Nat.le_refl _⟩, ⟨KB aG⟩, ⟨K1 HB aM.out⟩⟩
        ·rw [if_neg nD] at H
         exact absurd H (by simp)
       case rest =>
        clear mT
        try clear c1
        try clear p1
        try clear q1
        try clear pW
        try clear c2
        try clear p2
        try clear c4
        try clear pX
        try clear pM
        try clear pN
        try clear nU
        try clear nD
        try clear nE
        try clear aO
        try clear aP
        try clear aJ
        try clear aQ
        try clear aR
        try clear aS
        try clear aT
        try clear aU
        try clear aV
        try clear aW
        try clear aX
        try clear bM
        try clear bN
        try clear aY
        try clear bO
        try clear bP
        try clear bQ
        try clear bR
        try clear bS
        try clear bT
        try clear bU
        try clear bV
        try clear eQ
        try clear fM
        try clear eR
        try clear fN
        obtain ⟨kq, hH, rfl, HA, HJ21, aG, HB⟩ := hcut
        cases kq with
        | zero => exact absurd HA.out (by simp [spec_GateOk.j2])
        | succ kj21 =>
         have H := HA.out
         clear HA
         simp only [spec_GateOk.j2] at H
         by_cases nV : hH = true
         ·subst nV
          have H1 := pf H
          clear H
          have H := H1
          clear H1
          obtain rfl := sj H
          go_wp2
          go_ret
          exact ⟨ER, K1 HB aM.out⟩
         ·replace nV := Bool.eq_false_iff.mpr nV
          subst nV
          have H1 := nf H
          clear H
          have H := H1
          clear H1
          have H' := Aside0.mk H
          clear H
          go_wp2
          go_roundg kj21
          case measure => have := HJ1.out; have := HK2.out; have := HJ21.out; omega
          case rel => exact ⟨(wrap64 (aA + 1)), (by first | rfl | (simp; done) | (simp [*]; done)), H', ⟨by have := HJ1.out; have := HK2.out; have := HJ21.out; omega⟩, ⟨KB aG⟩, ⟨K1 HB aM.out⟩⟩
      ·rw [if_neg mS] at H
       have c21b0 : decide (aA < (aE.length : Int)) = false := decide_eq_false mS
       clear mS
       have H' := Aside0.mk H
       clear H
       obtain ⟨mB, mC, mD, mE, mF, mG, mH⟩ := y6 wr aG.out
       go_wp2
       go_loopg [4] k2 (fun kq v4 w' => ∃ (aB : Int), v4 = .int .i64 aB ∧ Aside0 (spec_GateOk.l1 kq aB aK aZ aN bA aE aF = some r) ∧ Aside0 (kq ≤ k2) ∧ Aside0 (w'.heap[eP]? = some (.cells #[.int .i64 aK, (.slice fA aZ.length fB), .int .i64 aN, (.slice fC bA.length fD), (.slice fO aE.length fE), (.slice fP aF.length fF)] 41 (0, 0))) ∧ Aside0 (Below w.heap.size w w'))
       case atStart => exact ⟨(0), (by first | rfl | (simp; done) | (simp [*]; done)), H', ⟨Nat.le_refl _⟩, ⟨KB aG⟩, ⟨K1 HB aM.out⟩⟩
       case round =>
        clear H'
        try clear c1
        try clear p1
        try clear q1
        try clear pW
        try clear c2
        try clear p2
        try clear c4
        try clear p6
        try clear pX
        try clear pM
        try clear pN
        try clear nU
        try clear mS
        try clear c21b0
        try clear nD
        try clear nE
        try clear nV
        try clear mB mC mD mE mF mG mH
        try clear aO
        try clear aP
        try clear aJ
        try clear aQ
        try clear aR
        try clear aS
        try clear aT
        try clear aU
        try clear aV
        try clear aW
        try clear aX
        try clear bM
        try clear bN
        try clear aY
        try clear bO
        try clear bP
        try clear bQ
        try clear bR
        try clear bS
        try clear bT
        try clear bU
        try clear bV
        try clear p1
        try clear pM
        try clear eQ
        try clear fM
        try clear p2
        try clear q1
        try clear pN
        try clear eR
        try clear fN
        obtain ⟨aB, rfl, HA, HK3, aG, HB⟩ := hrel
        cases gk with
        | zero => exact absurd HA.out (by simp [spec_GateOk.l1])
        | succ k3 =>
         have H := HA.out
         clear HA
         simp only [spec_GateOk.l1] at H
         by_cases nH : aB < (aF.length : Int)
         ·rw [if_pos nH] at H
          have c42b0 : decide (aB < (aF.length : Int)) = true := decide_eq_true nH
          clear nH
          have mY := Aside0.mk H
          clear H
          have ⟨_, _, _, _, _, _, _⟩ := y6 wr aG.out
          go_upto_region 11 with (fail)
          go_cut [124] (fun pO wc => ∃ (kq : Nat) (gM : Bool), pO = .bool gM ∧ Aside0 (spec_GateOk.j4 kq aB gM aK aZ aN bA aE aF = some r) ∧ Aside0 (kq ≤ k3) ∧ Aside0 (wc.heap[eP]? = some (.cells #[.int .i64 aK, (.slice fA aZ.length fB), .int .i64 aN, (.slice fC bA.length fD), (.slice fO aE.length fE), (.slice fP aF.length fF)] 41 (0, 0))) ∧ Aside0 (Below w.heap.size w wc))
          case first =>
           have H := mY.out
           clear mY
           by_cases nW : 0 ≤ aB
           ·rw [if_pos nW] at H
            have c45b0 : decide (0 ≤ aB) = true := decide_eq_true nW
            clear nW
            (first | rw [c45b0] | (simp only [i64_w, i32_w]; rw [c45b0]) | skip)
            replace H := bm H
            obtain ⟨nX, nY, H⟩ := H
            replace H : (if nX = true then (if ((rd_T103 aF aB).f4) > aK then (spec_GateOk.j4 k3 aB true aK aZ aN bA aE aF) else (if aB > 0 then (if 0 ≤ (wrap64 (aB - 1)) then (if (wrap64 (aB - 1)) < (aF.length : Int) then (spec_GateOk.j4 k3 aB (decide (((rd_T103 aF (wrap64 (aB - 1))).f0) ≥ ((rd_T103 aF aB).f0))) aK aZ aN bA aE aF) else (none)) else (none)) else (spec_GateOk.j4 k3 aB false aK aZ aN bA aE aF))) else (spec_GateOk.j4 k3 aB true aK aZ aN bA aE aF)) = some r := H
            have nZ := Aside0.mk nY
            clear nY
            by_cases oA : nX = true
            ·subst oA
             have H1 := pf H
             clear H
             have H := H1
             clear H1
             by_cases nI : ((rd_T103 aF aB).f4) > aK
             ·rw [if_pos nI] at H
              have c48b0 : decide (aK < ((rd_T103 aF aB).f4)) = true := decide_eq_true nI
              clear nI
              have H' := Aside0.mk H
              clear H
              try go_wp2
              replace aG := am (blk_drew aG.out)
              replace HB := am (below_drew1 HB.out)
              have fG : 0 ≤ (aB : Int) := OD
              have fH : aB < (aF.length : Int) := OD
              obtain ⟨aD, dA, dB, iA, bB, bC, bD, bE, bF, bG, bH, bI, bJ, bK, aL, cK, cL⟩ := at_T103 fJ.out aB fG fH
              have cM := aL
              have dC := bK
              have dD := bJ
              have dE := bI
              have dF := bH
              have dG := bG
              have dH := bF
              have dI := bE
              have dJ := bD
              have dK := bC
              have dL := bB
              cases iA
              replace bB := CX HB.out bB
              replace bC := CX HB.out bC
              replace bD := CX HB.out bD
              replace bE := CX HB.out bE
              replace bF := CX HB.out bF
              replace bG := CX HB.out bG
              replace bH := CX HB.out bH
              replace bI := CX HB.out bI
              replace bJ := CX HB.out bJ
              replace bK := CX HB.out bK
              replace aL := CX HB.out aL
              have cN := Aside0.mk cL
              have dU := Aside0.mk cK
              clear cL cK
              replace fG := eq_true fG
              replace fH := eq_true fH
              have fQ : 0 ≤ (aB : Int) := OD
              have fR : aB < (aF.length : Int) := OD
              obtain ⟨hR, eY, eZ, lV, bW, bX, bY, bZ, cA, cB, cC, cD, cE, cF, bL, dP, dQ⟩ := at_T103 fJ.out aB fQ fR
              have dR := bL
              have eF := cF
              have eG := cE
              have eH := cD
              have eI := cC
              have eJ := cB
              have eK := cA
              have eL := bZ
              have eM := bY
              have eN := bX
              have eO := bW
              obtain rfl : aD = hR := (by injection lV)
              replace bW := CX HB.out bW
              replace bX := CX HB.out bX
              replace bY := CX HB.out bY
              replace bZ := CX HB.out bZ
              replace cA := CX HB.out cA
              replace cB := CX HB.out cB
              replace cC := CX HB.out cC
              replace cD := CX HB.out cD
              replace cE := CX HB.out cE
              replace cF := CX HB.out cF
              replace bL := CX HB.out bL
              have eU := Aside0.mk dQ
              have hS := Aside0.mk dP
              clear dQ dP
              replace fQ := eq_true fQ
              replace fR := eq_true fR
              refine start_ (n := 38) (S := fun w' => ce6 w' eP (.int .i64 aK) (.slice fA aZ.length fB) (.int .i64 aN) (.slice fC bA.length fD) (.slice fO aE.length fE) (.slice (some aD) aF.length fF) (w'.cell? (aD.add ((aB).toNat * 11)) = some (.int .i64 ((rd_T103 aF aB).f0)) ∧ w'.cell? ⟨(aD.add ((aB).toNat * 11)).block, (aD.add ((aB).toNat * 11)).off + 1, none⟩ = some (.int .i64 ((rd_T103 aF aB).f1)) ∧ w'.cell? ⟨(aD.add ((aB).toNat * 11)).block, (aD.add ((aB).toNat * 11)).off + 2, none⟩ = some (.string ((rd_T103 aF aB).f2)) ∧ w'.cell? ⟨(aD.add ((aB).toNat * 11)).block, (aD.add ((aB).toNat * 11)).off + 3, none⟩ = some (.string ((rd_T103 aF aB).f3)) ∧ w'.cell? ⟨(aD.add ((aB).toNat * 11)).block, (aD.add ((aB).toNat * 11)).off + 4, none⟩ = some (.int .i64 ((rd_T103 aF aB).f4)) ∧ w'.cell? ⟨(aD.add ((aB).toNat * 11)).block, (aD.add ((aB).toNat * 11)).off + 5, none⟩ = some (.int .i64 ((rd_T103 aF aB).f5)) ∧ w'.cell? ⟨(aD.add ((aB).toNat * 11)).block, (aD.add ((aB).toNat * 11)).off + 6, none⟩ = some (.int .i64 ((rd_T103 aF aB).f6)) ∧ w'.cell? ⟨(aD.add ((aB).toNat * 11)).block, (aD.add ((aB).toNat * 11)).off + 7, none⟩ = some (.int .i64 ((rd_T103 aF aB).f7)) ∧ w'.cell? ⟨(aD.add ((aB).toNat * 11)).block, (aD.add ((aB).toNat * 11)).off + 8, none⟩ = some (.int .i64 ((rd_T103 aF aB).f8)) ∧ w'.cell? ⟨(aD.add ((aB).toNat * 11)).block, (aD.add ((aB).toNat * 11)).off + 9, none⟩ = some (.int .i64 ((rd_T103 aF aB).f9.f0)) ∧ w'.cell? ⟨(aD.add ((aB).toNat * 11)).block, (aD.add ((aB).toNat * 11)).off + 10, none⟩ = some (.slice dA ((rd_T103 aF aB).f9.f1).length dB) ∧ w'.cell? (aD.add ((aB).toNat * 11)) = some (.int .i64 ((rd_T103 aF aB).f0)) ∧ w'.cell? ⟨(aD.add ((aB).toNat * 11)).block, (aD.add ((aB).toNat * 11)).off + 1, none⟩ = some (.int .i64 ((rd_T103 aF aB).f1)) ∧ w'.cell? ⟨(aD.add ((aB).toNat * 11)).block, (aD.add ((aB).toNat * 11)).off + 2, none⟩ = some (.string ((rd_T103 aF aB).f2)) ∧ w'.cell? ⟨(aD.add ((aB).toNat * 11)).block, (aD.add ((aB).toNat * 11)).off + 3, none⟩ = some (.string ((rd_T103 aF aB).f3)) ∧ w'.cell? ⟨(aD.add ((aB).toNat * 11)).block, (aD.add ((aB).toNat * 11)).off + 4, none⟩ = some (.int .i64 ((rd_T103 aF aB).f4)) ∧ w'.cell? ⟨(aD.add ((aB).toNat * 11)).block, (aD.add ((aB).toNat * 11)).off + 5, none⟩ = some (.int .i64 ((rd_T103 aF aB).f5)) ∧ w'.cell? ⟨(aD.add ((aB).toNat * 11)).block, (aD.add ((aB).toNat * 11)).off + 6, none⟩ = some (.int .i64 ((rd_T103 aF aB).f6)) ∧ w'.cell? ⟨(aD.add ((aB).toNat * 11)).block, (aD.add ((aB).toNat * 11)).off + 7, none⟩ = some (.int .i64 ((rd_T103 aF aB).f7)) ∧ w'.cell? ⟨(aD.add ((aB).toNat * 11)).block, (aD.add ((aB).toNat * 11)).off + 8, none⟩ = some (.int .i64 ((rd_T103 aF aB).f8)) ∧ w'.cell? ⟨(aD.add ((aB).toNat * 11)).block, (aD.add ((aB).toNat * 11)).off + 9, none⟩ = some (.int .i64 ((rd_T103 aF aB).f9.f0)) ∧ w'.cell? ⟨(aD.add ((aB).toNat * 11)).block, (aD.add ((aB).toNat * 11)).off + 10, none⟩ = some (.slice eY ((rd_T103 aF aB).f9.f1).length eZ))) (ds := []) (tf 0 38) (by kernel_rfl) rfl rfl ⟨z0 _ aG.out, z1 _ aG.out, z2 _ aG.out, z3 _ aG.out, z4 _ aG.out, z5 _ aG.out, (CY HB.out dL), (CY HB.out dK), (CY HB.out dJ), (CY HB.out dI), (CY HB.out dH), (CY HB.out dG), (CY HB.out dF), (CY HB.out dE), (CY HB.out dD), (CY HB.out dC), (CY HB.out cM), (CY HB.out eO), (CY HB.out eN), (CY HB.out eM), (CY HB.out eL), (CY HB.out eK), (CY HB.out eJ), (CY HB.out eI), (CY HB.out eH), (CY HB.out eG), (CY HB.out eF), (CY HB.out dR)⟩ (fun aI => ?_); refine with_tabW spec_GateOk.tab11 spec_GateOk.bits11 (fun aH dS => ?_)
              generalize wr.drew = qO at aG HB cN eU bB bC aL bD bE bF bG bH bI bJ bK bW bX bL bY bZ cA cB cC cD cE cF aI ⊢
              refine pv aH 0 87 (tf 1 37) ?_
              refine pv aH 2 89 (tr [1, 1, 1, 35]) ?_
              refine tk 1 (some 88) (tf 3 35) (take_ofW aH.out dS.out (by kernel_rfl)) aI ?_
              refine pv aH 3 90 (tf 4 34) ?_
              refine tk 4 (some 91) (tf 5 33) (take_ofW aH.out dS.out (by kernel_rfl)) aI ?_
              refine one_ (i := 5) (N := some 92) (tf 6 32) rfl rfl (one_of aH.out (by kernel_rfl)) (by decide) (fun K hK => ?_)
              refine goes_ Tryz.func46 (by kernel_rfl) rfl #[.agg #[.int .i64 ((rd_T103 aF aB).f0), .int .i64 ((rd_T103 aF aB).f1), .string ((rd_T103 aF aB).f2), .string ((rd_T103 aF aB).f3), .int .i64 ((rd_T103 aF aB).f4), .int .i64 ((rd_T103 aF aB).f5), .int .i64 ((rd_T103 aF aB).f6), .int .i64 ((rd_T103 aF aB).f7), .int .i64 ((rd_T103 aF aB).f8), .int .i64 ((rd_T103 aF aB).f9.f0), .slice dA ((rd_T103 aF aB).f9.f1).length dB]] (by rfl) rfl rfl MT ?_
              with_reducible refine (spec_SaOk.calls k3 ((rd_T103 aF aB).f0) ((rd_T103 aF aB).f1) ((rd_T103 aF aB).f2) ((rd_T103 aF aB).f3) ((rd_T103 aF aB).f4) ((rd_T103 aF aB).f5) ((rd_T103 aF aB).f6) ((rd_T103 aF aB).f7) ((rd_T103 aF aB).f8) ((rd_T103 aF aB).f9.f0) _ _ ((rd_T103 aF aB).f9.f1) true _ ?_ ?_ nZ.out).mono ?_
              exact KD cN HB
              exact dU.out
              rintro e qP ⟨rfl, hb⟩
              refine ⟨_, rfl, ?_⟩
              replace aG := am (BB aG hb)
              replace HB := bl (K1 HB aM.out) hb
              (try clear hb)
              (try clear hb2)
              (try clear hk)
              (try clear hi)
              refine hK.out _ _ ⟨z0 _ aG.out, z1 _ aG.out, z2 _ aG.out, z3 _ aG.out, z4 _ aG.out, z5 _ aG.out, (CY HB.out dL), (CY HB.out dK), (CY HB.out dJ), (CY HB.out dI), (CY HB.out dH), (CY HB.out dG), (CY HB.out dF), (CY HB.out dE), (CY HB.out dD), (CY HB.out dC), (CY HB.out cM), (CY HB.out eO), (CY HB.out eN), (CY HB.out eM), (CY HB.out eL), (CY HB.out eK), (CY HB.out eJ), (CY HB.out eI), (CY HB.out eH), (CY HB.out eG), (CY HB.out eF), (CY HB.out dR)⟩ (fun aI => ?_)
              clear hK K
              refine nm (some 92) ?_
              refine pv aH 6 93 (tf 7 31) ?_
              refine pv aH 7 94 (tf 8 30) ?_
              refine pv aH 8 95 (tf 9 29) ?_
              refine pv aH 10 97 (tr [9, 1, 1, 27]) ?_
              refine pv aH 14 101 (tr [9, 1, 1, 3, 1, 23]) ?_
              refine tk 9 (some 96) (tr [11, 3, 1, 23]) (take_ofW aH.out dS.out (by kernel_rfl)) aI ?_
              refine pv aH 11 98 (tr [12, 2, 1, 23]) ?_
              refine pv aH 12 99 (tr [13, 1, 1, 23]) ?_
              refine tk 13 (some 100) (tf 15 23) (take_ofW aH.out dS.out (by kernel_rfl)) aI ?_
              refine tk 15 (some 102) (tf 16 22) (take_ofW aH.out dS.out (by kernel_rfl)) aI ?_
              refine pv aH 16 103 (tf 17 21) ?_
              refine pv aH 17 104 (tf 18 20) ?_
              refine pv aH 18 105 (tf 19 19) ?_
              refine pw aH 19 106 (tf 20 18) ?_
              refine pw aH 20 107 (tf 21 17) ?_
              refine pw aH 21 108 (tf 22 16) ?_
              refine pw aH 22 109 (tf 23 15) ?_
              refine pw aH 23 110 (tf 24 14) ?_
              refine pw aH 24 111 (tf 25 13) ?_
              refine pw aH 25 112 (tf 26 12) ?_
              refine pw aH 26 113 (tf 27 11) ?_
              refine pw aH 27 114 (tf 28 10) ?_
              refine pw aH 28 115 (tf 29 9) ?_
              refine pw aH 29 116 (tf 30 8) ?_
              refine pw aH 30 117 (tf 31 7) ?_
              refine pw aH 31 118 (tf 32 6) ?_
              refine pw aH 32 119 (tf 33 5) ?_
              refine pw aH 33 120 (tf 34 4) ?_
              refine pw aH 34 121 (tf 35 3) ?_
              refine pw aH 35 122 (tf 36 2) ?_
              refine pw aH 36 123 (tf 37 1) ?_
              refine pv aH 37 124 (tf 38 0) ?_
              refine done_ (done_of aH.out (by kernel_rfl)) ?_
              try go_wp2
              go_meet
              case rel => exact ⟨_, (true), (by first | rfl | (simp; done) | (simp [*]; done)), H', ⟨by have := HJ1.out; have := HK2.out; have := HK3.out; first | omega | exact Nat.le_refl _⟩, ⟨KB aG⟩, ⟨K1 HB aM.out⟩⟩
             ·rw [if_neg nI] at H
              have c48b0 : decide (aK < ((rd_T103 aF aB).f4)) = false := decide_eq_false nI
              clear nI
              by_cases nJ : aB > 0
              ·rw [if_pos nJ] at H
               have c51b0 : decide (0 < aB) = true := decide_eq_true nJ
               clear nJ
               obtain ⟨ji52, hji52⟩ : ∃ j_ : Int, (wrap64 (aB - 1)) = j_ := ⟨_, rfl⟩
               replace H : (if 0 ≤ (ji52) then (if (ji52) < (aF.length : Int) then (spec_GateOk.j4 k3 aB (decide (((rd_T103 aF (ji52)).f0) ≥ ((rd_T103 aF aB).f0))) aK aZ aN bA aE aF) else (none)) else (none)) = some r := by first | (rw [hji52] at H; exact H) | (simp only [hji52] at H ⊢; exact H)
               (try rw [hji52] at nZ)
               have hji52w : (IntKind.i64.wrap (aB - 1)) = ji52 := (i64_w _).trans hji52
               by_cases oX : 0 ≤ (ji52)
               ·rw [if_pos oX] at H
                have c53b0 : decide (0 ≤ (ji52)) = true := decide_eq_true oX
                clear oX
                by_cases oY : (ji52) < (aF.length : Int)
                ·rw [if_pos oY] at H
                 have c54b0 : decide ((ji52) < (aF.length : Int)) = true := decide_eq_true oY
                 clear oY
                 have H' := Aside0.mk H
                 clear H
                 try go_wp2
                 replace aG := am (blk_drew aG.out)
                 replace HB := am (below_drew1 HB.out)
                 have fG : 0 ≤ (aB : Int) := OD
                 have fH : aB < (aF.length : Int) := OD
                 obtain ⟨aD, dA, dB, iA, bB, bC, bD, bE, bF, bG, bH, bI, bJ, bK, aL, cK, cL⟩ := at_T103 fJ.out aB fG fH
                 have cM := aL
                 have dC := bK
                 have dD := bJ
                 have dE := bI
                 have dF := bH
                 have dG := bG
                 have dH := bF
                 have dI := bE
                 have dJ := bD
                 have dK := bC
                 have dL := bB
                 cases iA
                 replace bB := CX HB.out bB
                 replace bC := CX HB.out bC
                 replace bD := CX HB.out bD
                 replace bE := CX HB.out bE
                 replace bF := CX HB.out bF
                 replace bG := CX HB.out bG
                 replace bH := CX HB.out bH
                 replace bI := CX HB.out bI
                 replace bJ := CX HB.out bJ
                 replace bK := CX HB.out bK
                 replace aL := CX HB.out aL
                 have cN := Aside0.mk cL
                 have dU := Aside0.mk cK
                 clear cL cK
                 replace fG := eq_true fG
                 replace fH := eq_true fH
                 have fQ : 0 ≤ (aB : Int) := OD
                 have fR : aB < (aF.length : Int) := OD
                 obtain ⟨hR, eY, eZ, lV, bW, bX, bY, bZ, cA, cB, cC, cD, cE, cF, bL, dP, dQ⟩ := at_T103 fJ.out aB fQ fR
                 have dR := bL
                 have eF := cF
                 have eG := cE
                 have eH := cD
                 have eI := cC
                 have eJ := cB
                 have eK := cA
                 have eL := bZ
                 have eM := bY
                 have eN := bX
                 have eO := bW
                 obtain rfl : aD = hR := (by injection lV)
                 replace bW := CX HB.out bW
                 replace bX := CX HB.out bX
                 replace bY := CX HB.out bY
                 replace bZ := CX HB.out bZ
                 replace cA := CX HB.out cA
                 replace cB := CX HB.out cB
                 replace cC := CX HB.out cC
                 replace cD := CX HB.out cD
                 replace cE := CX HB.out cE
                 replace cF := CX HB.out cF
                 replace bL := CX HB.out bL
                 have eU := Aside0.mk dQ
                 have hS := Aside0.mk dP
                 clear dQ dP
                 replace fQ := eq_true fQ
                 replace fR := eq_true fR
                 have mZ : 0 ≤ ((ji52) : Int) := OD
                 have nA : (ji52) < (aF.length : Int) := OD
                 obtain ⟨oB, mI, mJ, pP, gN, gO, gP, gQ, gR, gS, gT, gU, gV, gW, fL, hT, hU⟩ := at_T103 fJ.out (ji52) mZ nA
                 have hV := fL
                 have kT := gW
                 have kU := gV
                 have kV := gU
                 have kW := gT
                 have kX := gS
                 have kY := gR
                 have kZ := gQ
                 have lA := gP
                 have lB := gO
                 have lC := gN
                 obtain rfl : aD = oB := (by injection pP)
                 replace gN := CX HB.out gN
                 replace gO := CX HB.out gO
                 replace gP := CX HB.out gP
                 replace gQ := CX HB.out gQ
                 replace gR := CX HB.out gR
                 replace gS := CX HB.out gS
                 replace gT := CX HB.out gT
                 replace gU := CX HB.out gU
                 replace gV := CX HB.out gV
                 replace gW := CX HB.out gW
                 replace fL := CX HB.out fL
                 have lW := Aside0.mk hU
                 have oC := Aside0.mk hT
                 clear hU hT
                 replace mZ := eq_true mZ
                 replace nA := eq_true nA
                 have nB : 0 ≤ (aB : Int) := OD
                 have nC : aB < (aF.length : Int) := OD
                 obtain ⟨oD, _, _, pQ, gX, gY, gZ, hA, hB, hC, hD, hE, hF, hG, eV, hW, hX⟩ := at_T103 fJ.out aB nB nC
                 have hY := eV
                 have lD := hG
                 have lE := hF
                 have lF := hE
                 have lG := hD
                 have lH := hC
                 have lI := hB
                 have lJ := hA
                 have lK := gZ
                 have lL := gY
                 have lM := gX
                 obtain rfl : aD = oD := (by injection pQ)
                 replace gX := CX HB.out gX
                 replace gY := CX HB.out gY
                 replace gZ := CX HB.out gZ
                 replace hA := CX HB.out hA
                 replace hB := CX HB.out hB
                 replace hC := CX HB.out hC
                 replace hD := CX HB.out hD
                 replace hE := CX HB.out hE
                 replace hF := CX HB.out hF
                 replace hG := CX HB.out hG
                 replace eV := CX HB.out eV
                 have lX := Aside0.mk hX
                 have oE := Aside0.mk hW
                 clear hX hW
                 replace nB := eq_true nB
                 replace nC := eq_true nC
                 have ea_ := Option.some.inj (bL.symm.trans eV)
                 injection ea_ with ea_ en_ ec_
                 subst ea_
                 subst ec_
                 clear en_
                 refine start_ (n := 38) (S := fun w' => ce6 w' eP (.int .i64 aK) (.slice fA aZ.length fB) (.int .i64 aN) (.slice fC bA.length fD) (.slice fO aE.length fE) (.slice (some aD) aF.length fF) (w'.cell? (aD.add ((aB).toNat * 11)) = some (.int .i64 ((rd_T103 aF aB).f0)) ∧ w'.cell? ⟨(aD.add ((aB).toNat * 11)).block, (aD.add ((aB).toNat * 11)).off + 1, none⟩ = some (.int .i64 ((rd_T103 aF aB).f1)) ∧ w'.cell? ⟨(aD.add ((aB).toNat * 11)).block, (aD.add ((aB).toNat * 11)).off + 2, none⟩ = some (.string ((rd_T103 aF aB).f2)) ∧ w'.cell? ⟨(aD.add ((aB).toNat * 11)).block, (aD.add ((aB).toNat * 11)).off + 3, none⟩ = some (.string ((rd_T103 aF aB).f3)) ∧ w'.cell? ⟨(aD.add ((aB).toNat * 11)).block, (aD.add ((aB).toNat * 11)).off + 4, none⟩ = some (.int .i64 ((rd_T103 aF aB).f4)) ∧ w'.cell? ⟨(aD.add ((aB).toNat * 11)).block, (aD.add ((aB).toNat * 11)).off + 5, none⟩ = some (.int .i64 ((rd_T103 aF aB).f5)) ∧ w'.cell? ⟨(aD.add ((aB).toNat * 11)).block, (aD.add ((aB).toNat * 11)).off + 6, none⟩ = some (.int .i64 ((rd_T103 aF aB).f6)) ∧ w'.cell? ⟨(aD.add ((aB).toNat * 11)).block, (aD.add ((aB).toNat * 11)).off + 7, none⟩ = some (.int .i64 ((rd_T103 aF aB).f7)) ∧ w'.cell? ⟨(aD.add ((aB).toNat * 11)).block, (aD.add ((aB).toNat * 11)).off + 8, none⟩ = some (.int .i64 ((rd_T103 aF aB).f8)) ∧ w'.cell? ⟨(aD.add ((aB).toNat * 11)).block, (aD.add ((aB).toNat * 11)).off + 9, none⟩ = some (.int .i64 ((rd_T103 aF aB).f9.f0)) ∧ w'.cell? ⟨(aD.add ((aB).toNat * 11)).block, (aD.add ((aB).toNat * 11)).off + 10, none⟩ = some (.slice dA ((rd_T103 aF aB).f9.f1).length dB) ∧ w'.cell? (aD.add ((aB).toNat * 11)) = some (.int .i64 ((rd_T103 aF aB).f0)) ∧ w'.cell? ⟨(aD.add ((aB).toNat * 11)).block, (aD.add ((aB).toNat * 11)).off + 1, none⟩ = some (.int .i64 ((rd_T103 aF aB).f1)) ∧ w'.cell? ⟨(aD.add ((aB).toNat * 11)).block, (aD.add ((aB).toNat * 11)).off + 2, none⟩ = some (.string ((rd_T103 aF aB).f2)) ∧ w'.cell? ⟨(aD.add ((aB).toNat * 11)).block, (aD.add ((aB).toNat * 11)).off + 3, none⟩ = some (.string ((rd_T103 aF aB).f3)) ∧ w'.cell? ⟨(aD.add ((aB).toNat * 11)).block, (aD.add ((aB).toNat * 11)).off + 4, none⟩ = some (.int .i64 ((rd_T103 aF aB).f4)) ∧ w'.cell? ⟨(aD.add ((aB).toNat * 11)).block, (aD.add ((aB).toNat * 11)).off + 5, none⟩ = some (.int .i64 ((rd_T103 aF aB).f5)) ∧ w'.cell? ⟨(aD.add ((aB).toNat * 11)).block, (aD.add ((aB).toNat * 11)).off + 6, none⟩ = some (.int .i64 ((rd_T103 aF aB).f6)) ∧ w'.cell? ⟨(aD.add ((aB).toNat * 11)).block, (aD.add ((aB).toNat * 11)).off + 7, none⟩ = some (.int .i64 ((rd_T103 aF aB).f7)) ∧ w'.cell? ⟨(aD.add ((aB).toNat * 11)).block, (aD.add ((aB).toNat * 11)).off + 8, none⟩ = some (.int .i64 ((rd_T103 aF aB).f8)) ∧ w'.cell? ⟨(aD.add ((aB).toNat * 11)).block, (aD.add ((aB).toNat * 11)).off + 9, none⟩ = some (.int .i64 ((rd_T103 aF aB).f9.f0)) ∧ w'.cell? ⟨(aD.add ((aB).toNat * 11)).block, (aD.add ((aB).toNat * 11)).off + 10, none⟩ = some (.slice eY ((rd_T103 aF aB).f9.f1).length eZ) ∧ w'.cell? (aD.add (((ji52)).toNat * 11)) = some (.int .i64 ((rd_T103 aF (ji52)).f0)) ∧ w'.cell? ⟨(aD.add (((ji52)).toNat * 11)).block, (aD.add (((ji52)).toNat * 11)).off + 1, none⟩ = some (.int .i64 ((rd_T103 aF (ji52)).f1)) ∧ w'.cell? ⟨(aD.add (((ji52)).toNat * 11)).block, (aD.add (((ji52)).toNat * 11)).off + 2, none⟩ = some (.string ((rd_T103 aF (ji52)).f2)) ∧ w'.cell? ⟨(aD.add (((ji52)).toNat * 11)).block, (aD.add (((ji52)).toNat * 11)).off + 3, none⟩ = some (.string ((rd_T103 aF (ji52)).f3)) ∧ w'.cell? ⟨(aD.add (((ji52)).toNat * 11)).block, (aD.add (((ji52)).toNat * 11)).off + 4, none⟩ = some (.int .i64 ((rd_T103 aF (ji52)).f4)) ∧ w'.cell? ⟨(aD.add (((ji52)).toNat * 11)).block, (aD.add (((ji52)).toNat * 11)).off + 5, none⟩ = some (.int .i64 ((rd_T103 aF (ji52)).f5)) ∧ w'.cell? ⟨(aD.add (((ji52)).toNat * 11)).block, (aD.add (((ji52)).toNat * 11)).off + 6, none⟩ = some (.int .i64 ((rd_T103 aF (ji52)).f6)) ∧ w'.cell? ⟨(aD.add (((ji52)).toNat * 11)).block, (aD.add (((ji52)).toNat * 11)).off + 7, none⟩ = some (.int .i64 ((rd_T103 aF (ji52)).f7)) ∧ w'.cell? ⟨(aD.add (((ji52)).toNat * 11)).block, (aD.add (((ji52)).toNat * 11)).off + 8, none⟩ = some (.int .i64 ((rd_T103 aF (ji52)).f8)) ∧ w'.cell? ⟨(aD.add (((ji52)).toNat * 11)).block, (aD.add (((ji52)).toNat * 11)).off + 9, none⟩ = some (.int .i64 ((rd_T103 aF (ji52)).f9.f0)) ∧ w'.cell? ⟨(aD.add (((ji52)).toNat * 11)).block, (aD.add (((ji52)).toNat * 11)).off + 10, none⟩ = some (.slice mI ((rd_T103 aF (ji52)).f9.f1).length mJ) ∧ w'.cell? (aD.add ((aB).toNat * 11)) = some (.int .i64 ((rd_T103 aF aB).f0)) ∧ w'.cell? ⟨(aD.add ((aB).toNat * 11)).block, (aD.add ((aB).toNat * 11)).off + 1, none⟩ = some (.int .i64 ((rd_T103 aF aB).f1)) ∧ w'.cell? ⟨(aD.add ((aB).toNat * 11)).block, (aD.add ((aB).toNat * 11)).off + 2, none⟩ = some (.string ((rd_T103 aF aB).f2)) ∧ w'.cell? ⟨(aD.add ((aB).toNat * 11)).block, (aD.add ((aB).toNat * 11)).off + 3, none⟩ = some (.string ((rd_T103 aF aB).f3)) ∧ w'.cell? ⟨(aD.add ((aB).toNat * 11)).block, (aD.add ((aB).toNat * 11)).off + 4, none⟩ = some (.int .i64 ((rd_T103 aF aB).f4)) ∧ w'.cell? ⟨(aD.add ((aB).toNat * 11)).block, (aD.add ((aB).toNat * 11)).off + 5, none⟩ = some (.int .i64 ((rd_T103 aF aB).f5)) ∧ w'.cell? ⟨(aD.add ((aB).toNat * 11)).block, (aD.add ((aB).toNat * 11)).off + 6, none⟩ = some (.int .i64 ((rd_T103 aF aB).f6)) ∧ w'.cell? ⟨(aD.add ((aB).toNat * 11)).block, (aD.add ((aB).toNat * 11)).off + 7, none⟩ = some (.int .i64 ((rd_T103 aF aB).f7)) ∧ w'.cell? ⟨(aD.add ((aB).toNat * 11)).block, (aD.add ((aB).toNat * 11)).off + 8, none⟩ = some (.int .i64 ((rd_T103 aF aB).f8)) ∧ w'.cell? ⟨(aD.add ((aB).toNat * 11)).block, (aD.add ((aB).toNat * 11)).off + 9, none⟩ = some (.int .i64 ((rd_T103 aF aB).f9.f0)) ∧ w'.cell? ⟨(aD.add ((aB).toNat * 11)).block, (aD.add ((aB).toNat * 11)).off + 10, none⟩ = some (.slice eY ((rd_T103 aF aB).f9.f1).length eZ))) (ds := []) (tf 0 38) (by kernel_rfl) rfl rfl ⟨z0 _ aG.out, z1 _ aG.out, z2 _ aG.out, z3 _ aG.out, z4 _ aG.out, z5 _ aG.out, (CY HB.out dL), (CY HB.out dK), (CY HB.out dJ), (CY HB.out dI), (CY HB.out dH), (CY HB.out dG), (CY HB.out dF), (CY HB.out dE), (CY HB.out dD), (CY HB.out dC), (CY HB.out cM), (CY HB.out eO), (CY HB.out eN), (CY HB.out eM), (CY HB.out eL), (CY HB.out eK), (CY HB.out eJ), (CY HB.out eI), (CY HB.out eH), (CY HB.out eG), (CY HB.out eF), (CY HB.out dR), (CY HB.out lC), (CY HB.out lB), (CY HB.out lA), (CY HB.out kZ), (CY HB.out kY), (CY HB.out kX), (CY HB.out kW), (CY HB.out kV), (CY HB.out kU), (CY HB.out kT), (CY HB.out hV), (CY HB.out lM), (CY HB.out lL), (CY HB.out lK), (CY HB.out lJ), (CY HB.out lI), (CY HB.out lH), (CY HB.out lG), (CY HB.out lF), (CY HB.out lE), (CY HB.out lD), (CY HB.out hY)⟩ (fun aI => ?_); refine with_tabW spec_GateOk.tab11 spec_GateOk.bits11 (fun aH dS => ?_)
                 generalize wr.drew = qQ at aG HB cN eU lW lX bB bC aL bD bE bF bG bH bI bJ bK bW bX bL bY bZ cA cB cC cD cE cF gN gO fL gP gQ gR gS gT gU gV gW gX gY eV gZ hA hB hC hD hE hF hG aI ⊢
                 refine pv aH 0 87 (tf 1 37) ?_
                 refine pv aH 2 89 (tr [1, 1, 1, 35]) ?_
                 refine tk 1 (some 88) (tf 3 35) (take_ofW aH.out dS.out (by kernel_rfl)) aI ?_
                 refine pv aH 3 90 (tf 4 34) ?_
                 refine tk 4 (some 91) (tf 5 33) (take_ofW aH.out dS.out (by kernel_rfl)) aI ?_
                 refine one_ (i := 5) (N := some 92) (tf 6 32) rfl rfl (one_of aH.out (by kernel_rfl)) (by decide) (fun K hK => ?_)
                 refine goes_ Tryz.func46 (by kernel_rfl) rfl #[.agg #[.int .i64 ((rd_T103 aF aB).f0), .int .i64 ((rd_T103 aF aB).f1), .string ((rd_T103 aF aB).f2), .string ((rd_T103 aF aB).f3), .int .i64 ((rd_T103 aF aB).f4), .int .i64 ((rd_T103 aF aB).f5), .int .i64 ((rd_T103 aF aB).f6), .int .i64 ((rd_T103 aF aB).f7), .int .i64 ((rd_T103 aF aB).f8), .int .i64 ((rd_T103 aF aB).f9.f0), .slice dA ((rd_T103 aF aB).f9.f1).length dB]] (by rfl) rfl rfl MT ?_
                 with_reducible refine (spec_SaOk.calls k3 ((rd_T103 aF aB).f0) ((rd_T103 aF aB).f1) ((rd_T103 aF aB).f2) ((rd_T103 aF aB).f3) ((rd_T103 aF aB).f4) ((rd_T103 aF aB).f5) ((rd_T103 aF aB).f6) ((rd_T103 aF aB).f7) ((rd_T103 aF aB).f8) ((rd_T103 aF aB).f9.f0) _ _ ((rd_T103 aF aB).f9.f1) true _ ?_ ?_ nZ.out).mono ?_
                 exact KD cN HB
                 exact dU.out
                 rintro e qR ⟨rfl, hb⟩
                 refine ⟨_, rfl, ?_⟩
                 replace aG := am (BB aG hb)
                 replace HB := bl (K1 HB aM.out) hb
                 (try clear hb)
                 (try clear hb2)
                 (try clear hk)
                 (try clear hi)
                 refine hK.out _ _ ⟨z0 _ aG.out, z1 _ aG.out, z2 _ aG.out, z3 _ aG.out, z4 _ aG.out, z5 _ aG.out, (CY HB.out dL), (CY HB.out dK), (CY HB.out dJ), (CY HB.out dI), (CY HB.out dH), (CY HB.out dG), (CY HB.out dF), (CY HB.out dE), (CY HB.out dD), (CY HB.out dC), (CY HB.out cM), (CY HB.out eO), (CY HB.out eN), (CY HB.out eM), (CY HB.out eL), (CY HB.out eK), (CY HB.out eJ), (CY HB.out eI), (CY HB.out eH), (CY HB.out eG), (CY HB.out eF), (CY HB.out dR), (CY HB.out lC), (CY HB.out lB), (CY HB.out lA), (CY HB.out kZ), (CY HB.out kY), (CY HB.out kX), (CY HB.out kW), (CY HB.out kV), (CY HB.out kU), (CY HB.out kT), (CY HB.out hV), (CY HB.out lM), (CY HB.out lL), (CY HB.out lK), (CY HB.out lJ), (CY HB.out lI), (CY HB.out lH), (CY HB.out lG), (CY HB.out lF), (CY HB.out lE), (CY HB.out lD), (CY HB.out hY)⟩ (fun aI => ?_)
                 clear hK K
                 refine nm (some 92) ?_
                 refine pv aH 6 93 (tf 7 31) ?_
                 refine pv aH 7 94 (tf 8 30) ?_
                 refine pv aH 8 95 (tf 9 29) ?_
                 refine pv aH 10 97 (tr [9, 1, 1, 27]) ?_
                 refine pv aH 14 101 (tr [9, 1, 1, 3, 1, 23]) ?_
                 refine tk 9 (some 96) (tr [11, 3, 1, 23]) (take_ofW aH.out dS.out (by kernel_rfl)) aI ?_
                 refine pv aH 11 98 (tr [12, 2, 1, 23]) ?_
                 refine pv aH 12 99 (tr [13, 1, 1, 23]) ?_
                 refine tk 13 (some 100) (tf 15 23) (take_ofW aH.out dS.out (by kernel_rfl)) aI ?_
                 refine tk 15 (some 102) (tf 16 22) (take_ofW aH.out dS.out (by kernel_rfl)) aI ?_
                 refine pv aH 16 103 (tf 17 21) ?_
                 refine pv aH 17 104 (tf 18 20) ?_
                 refine pv aH 18 105 (tf 19 19) ?_
                 refine pv aH 19 106 (tf 20 18) ?_
                 refine pv aH 20 107 (tf 21 17) ?_
                 refine pv aH 21 108 (tf 22 16) ?_
                 refine pv aH 22 109 (tf 23 15) ?_
                 refine pv aH 24 111 (tr [23, 1, 1, 13]) ?_
                 refine pv aH 25 112 (tr [23, 1, 2, 12]) ?_
                 refine pv aH 29 116 (tr [23, 1, 2, 3, 1, 8]) ?_
                 refine pv aH 31 118 (tr [23, 1, 2, 3, 1, 1, 1, 6]) ?_
                 refine tk 23 (some 110) (tr [26, 3, 1, 1, 1, 6]) (take_ofW aH.out dS.out (by kernel_rfl)) aI ?_
                 refine pv aH 26 113 (tr [27, 2, 1, 1, 1, 6]) ?_
                 refine pv aH 27 114 (tr [28, 1, 1, 1, 1, 6]) ?_
                 refine tk 28 (some 115) (tr [30, 1, 1, 6]) (take_ofW aH.out dS.out (by kernel_rfl)) aI ?_
                 refine tk 30 (some 117) (tf 32 6) (take_ofW aH.out dS.out (by kernel_rfl)) aI ?_
                 refine pv aH 32 119 (tf 33 5) ?_
                 refine pv aH 33 120 (tf 34 4) ?_
                 refine tk 34 (some 121) (tf 35 3) (take_ofW aH.out dS.out (by kernel_rfl)) aI ?_
                 refine pv aH 35 122 (tf 36 2) ?_
                 refine pv aH 36 123 (tf 37 1) ?_
                 refine pv aH 37 124 (tf 38 0) ?_
                 refine done_ (done_of aH.out (by kernel_rfl)) ?_
                 try go_wp2
                 go_meet
                 case rel => exact ⟨_, (decide (((rd_T103 aF (ji52)).f0) ≥ ((rd_T103 aF aB).f0))), (by first | rfl | (simp; done) | (simp only [← hji52] <;> (first | rfl | simp)) | (simp [*]; done)), H', ⟨by have := HJ1.out; have := HK2.out; have := HK3.out; first | omega | exact Nat.le_refl _⟩, ⟨KB aG⟩, ⟨K1 HB aM.out⟩⟩
                ·rw [if_neg oY] at H
                 exact absurd H (by simp)
               ·rw [if_neg oX] at H
                exact absurd H (by simp)
              ·rw [if_neg nJ] at H
               have c51b0 : decide (0 < aB) = false := decide_eq_false nJ
               clear nJ
               have H' := Aside0.mk H
               clear H
               try go_wp2
               replace aG := am (blk_drew aG.out)
               replace HB := am (below_drew1 HB.out)
               have fG : 0 ≤ (aB : Int) := OD
               have fH : aB < (aF.length : Int) := OD
               obtain ⟨aD, dA, dB, iA, bB, bC, bD, bE, bF, bG, bH, bI, bJ, bK, aL, cK, cL⟩ := at_T103 fJ.out aB fG fH
               have cM := aL
               have dC := bK
               have dD := bJ
               have dE := bI
               have dF := bH
               have dG := bG
               have dH := bF
               have dI := bE
               have dJ := bD
               have dK := bC
               have dL := bB
               cases iA
               replace bB := CX HB.out bB
               replace bC := CX HB.out bC
               replace bD := CX HB.out bD
               replace bE := CX HB.out bE
               replace bF := CX HB.out bF
               replace bG := CX HB.out bG
               replace bH := CX HB.out bH
               replace bI := CX HB.out bI
               replace bJ := CX HB.out bJ
               replace bK := CX HB.out bK
               replace aL := CX HB.out aL
               have cN := Aside0.mk cL
               have dU := Aside0.mk cK
               clear cL cK
               replace fG := eq_true fG
               replace fH := eq_true fH
               have fQ : 0 ≤ (aB : Int) := OD
               have fR : aB < (aF.length : Int) := OD
               obtain ⟨hR, eY, eZ, lV, bW, bX, bY, bZ, cA, cB, cC, cD, cE, cF, bL, dP, dQ⟩ := at_T103 fJ.out aB fQ fR
               have dR := bL
               have eF := cF
               have eG := cE
               have eH := cD
               have eI := cC
               have eJ := cB
               have eK := cA
               have eL := bZ
               have eM := bY
               have eN := bX
               have eO := bW
               obtain rfl : aD = hR := (by injection lV)
               replace bW := CX HB.out bW
               replace bX := CX HB.out bX
               replace bY := CX HB.out bY
               replace bZ := CX HB.out bZ
               replace cA := CX HB.out cA
               replace cB := CX HB.out cB
               replace cC := CX HB.out cC
               replace cD := CX HB.out cD
               replace cE := CX HB.out cE
               replace cF := CX HB.out cF
               replace bL := CX HB.out bL
               have eU := Aside0.mk dQ
               have hS := Aside0.mk dP
               clear dQ dP
               replace fQ := eq_true fQ
               replace fR := eq_true fR
               refine start_ (n := 38) (S := fun w' => ce6 w' eP (.int .i64 aK) (.slice fA aZ.length fB) (.int .i64 aN) (.slice fC bA.length fD) (.slice fO aE.length fE) (.slice (some aD) aF.length fF) (w'.cell? (aD.add ((aB).toNat * 11)) = some (.int .i64 ((rd_T103 aF aB).f0)) ∧ w'.cell? ⟨(aD.add ((aB).toNat * 11)).block, (aD.add ((aB).toNat * 11)).off + 1, none⟩ = some (.int .i64 ((rd_T103 aF aB).f1)) ∧ w'.cell? ⟨(aD.add ((aB).toNat * 11)).block, (aD.add ((aB).toNat * 11)).off + 2, none⟩ = some (.string ((rd_T103 aF aB).f2)) ∧ w'.cell? ⟨(aD.add ((aB).toNat * 11)).block, (aD.add ((aB).toNat * 11)).off + 3, none⟩ = some (.string ((rd_T103 aF aB).f3)) ∧ w'.cell? ⟨(aD.add ((aB).toNat * 11)).block, (aD.add ((aB).toNat * 11)).off + 4, none⟩ = some (.int .i64 ((rd_T103 aF aB).f4)) ∧ w'.cell? ⟨(aD.add ((aB).toNat * 11)).block, (aD.add ((aB).toNat * 11)).off + 5, none⟩ = some (.int .i64 ((rd_T103 aF aB).f5)) ∧ w'.cell? ⟨(aD.add ((aB).toNat * 11)).block, (aD.add ((aB).toNat * 11)).off + 6, none⟩ = some (.int .i64 ((rd_T103 aF aB).f6)) ∧ w'.cell? ⟨(aD.add ((aB).toNat * 11)).block, (aD.add ((aB).toNat * 11)).off + 7, none⟩ = some (.int .i64 ((rd_T103 aF aB).f7)) ∧ w'.cell? ⟨(aD.add ((aB).toNat * 11)).block, (aD.add ((aB).toNat * 11)).off + 8, none⟩ = some (.int .i64 ((rd_T103 aF aB).f8)) ∧ w'.cell? ⟨(aD.add ((aB).toNat * 11)).block, (aD.add ((aB).toNat * 11)).off + 9, none⟩ = some (.int .i64 ((rd_T103 aF aB).f9.f0)) ∧ w'.cell? ⟨(aD.add ((aB).toNat * 11)).block, (aD.add ((aB).toNat * 11)).off + 10, none⟩ = some (.slice dA ((rd_T103 aF aB).f9.f1).length dB) ∧ w'.cell? (aD.add ((aB).toNat * 11)) = some (.int .i64 ((rd_T103 aF aB).f0)) ∧ w'.cell? ⟨(aD.add ((aB).toNat * 11)).block, (aD.add ((aB).toNat * 11)).off + 1, none⟩ = some (.int .i64 ((rd_T103 aF aB).f1)) ∧ w'.cell? ⟨(aD.add ((aB).toNat * 11)).block, (aD.add ((aB).toNat * 11)).off + 2, none⟩ = some (.string ((rd_T103 aF aB).f2)) ∧ w'.cell? ⟨(aD.add ((aB).toNat * 11)).block, (aD.add ((aB).toNat * 11)).off + 3, none⟩ = some (.string ((rd_T103 aF aB).f3)) ∧ w'.cell? ⟨(aD.add ((aB).toNat * 11)).block, (aD.add ((aB).toNat * 11)).off + 4, none⟩ = some (.int .i64 ((rd_T103 aF aB).f4)) ∧ w'.cell? ⟨(aD.add ((aB).toNat * 11)).block, (aD.add ((aB).toNat * 11)).off + 5, none⟩ = some (.int .i64 ((rd_T103 aF aB).f5)) ∧ w'.cell? ⟨(aD.add ((aB).toNat * 11)).block, (aD.add ((aB).toNat * 11)).off + 6, none⟩ = some (.int .i64 ((rd_T103 aF aB).f6)) ∧ w'.cell? ⟨(aD.add ((aB).toNat * 11)).block, (aD.add ((aB).toNat * 11)).off + 7, none⟩ = some (.int .i64 ((rd_T103 aF aB).f7)) ∧ w'.cell? ⟨(aD.add ((aB).toNat * 11)).block, (aD.add ((aB).toNat * 11)).off + 8, none⟩ = some (.int .i64 ((rd_T103 aF aB).f8)) ∧ w'.cell? ⟨(aD.add ((aB).toNat * 11)).block, (aD.add ((aB).toNat * 11)).off + 9, none⟩ = some (.int .i64 ((rd_T103 aF aB).f9.f0)) ∧ w'.cell? ⟨(aD.add ((aB).toNat * 11)).block, (aD.add ((aB).toNat * 11)).off + 10, none⟩ = some (.slice eY ((rd_T103 aF aB).f9.f1).length eZ))) (ds := []) (tf 0 38) (by kernel_rfl) rfl rfl ⟨z0 _ aG.out, z1 _ aG.out, z2 _ aG.out, z3 _ aG.out, z4 _ aG.out, z5 _ aG.out, (CY HB.out dL), (CY HB.out dK), (CY HB.out dJ), (CY HB.out dI), (CY HB.out dH), (CY HB.out dG), (CY HB.out dF), (CY HB.out dE), (CY HB.out dD), (CY HB.out dC), (CY HB.out cM), (CY HB.out eO), (CY HB.out eN), (CY HB.out eM), (CY HB.out eL), (CY HB.out eK), (CY HB.out eJ), (CY HB.out eI), (CY HB.out eH), (CY HB.out eG), (CY HB.out eF), (CY HB.out dR)⟩ (fun aI => ?_); refine with_tabW spec_GateOk.tab11 spec_GateOk.bits11 (fun aH dS => ?_)
               generalize wr.drew = qS at aG HB cN eU bB bC aL bD bE bF bG bH bI bJ bK bW bX bL bY bZ cA cB cC cD cE cF aI ⊢
               refine pv aH 0 87 (tf 1 37) ?_
               refine pv aH 2 89 (tr [1, 1, 1, 35]) ?_
               refine tk 1 (some 88) (tf 3 35) (take_ofW aH.out dS.out (by kernel_rfl)) aI ?_
               refine pv aH 3 90 (tf 4 34) ?_
               refine tk 4 (some 91) (tf 5 33) (take_ofW aH.out dS.out (by kernel_rfl)) aI ?_
               refine one_ (i := 5) (N := some 92) (tf 6 32) rfl rfl (one_of aH.out (by kernel_rfl)) (by decide) (fun K hK => ?_)
               refine goes_ Tryz.func46 (by kernel_rfl) rfl #[.agg #[.int .i64 ((rd_T103 aF aB).f0), .int .i64 ((rd_T103 aF aB).f1), .string ((rd_T103 aF aB).f2), .string ((rd_T103 aF aB).f3), .int .i64 ((rd_T103 aF aB).f4), .int .i64 ((rd_T103 aF aB).f5), .int .i64 ((rd_T103 aF aB).f6), .int .i64 ((rd_T103 aF aB).f7), .int .i64 ((rd_T103 aF aB).f8), .int .i64 ((rd_T103 aF aB).f9.f0), .slice dA ((rd_T103 aF aB).f9.f1).length dB]] (by rfl) rfl rfl MT ?_
               with_reducible refine (spec_SaOk.calls k3 ((rd_T103 aF aB).f0) ((rd_T103 aF aB).f1) ((rd_T103 aF aB).f2) ((rd_T103 aF aB).f3) ((rd_T103 aF aB).f4) ((rd_T103 aF aB).f5) ((rd_T103 aF aB).f6) ((rd_T103 aF aB).f7) ((rd_T103 aF aB).f8) ((rd_T103 aF aB).f9.f0) _ _ ((rd_T103 aF aB).f9.f1) true _ ?_ ?_ nZ.out).mono ?_
               exact KD cN HB
               exact dU.out
               rintro e qT ⟨rfl, hb⟩
               refine ⟨_, rfl, ?_⟩
               replace aG := am (BB aG hb)
               replace HB := bl (K1 HB aM.out) hb
               (try clear hb)
               (try clear hb2)
               (try clear hk)
               (try clear hi)
               refine hK.out _ _ ⟨z0 _ aG.out, z1 _ aG.out, z2 _ aG.out, z3 _ aG.out, z4 _ aG.out, z5 _ aG.out, (CY HB.out dL), (CY HB.out dK), (CY HB.out dJ), (CY HB.out dI), (CY HB.out dH), (CY HB.out dG), (CY HB.out dF), (CY HB.out dE), (CY HB.out dD), (CY HB.out dC), (CY HB.out cM), (CY HB.out eO), (CY HB.out eN), (CY HB.out eM), (CY HB.out eL), (CY HB.out eK), (CY HB.out eJ), (CY HB.out eI), (CY HB.out eH), (CY HB.out eG), (CY HB.out eF), (CY HB.out dR)⟩ (fun aI => ?_)
               clear hK K
               refine nm (some 92) ?_
               refine pv aH 6 93 (tf 7 31) ?_
               refine pv aH 7 94 (tf 8 30) ?_
               refine pv aH 8 95 (tf 9 29) ?_
               refine pv aH 10 97 (tr [9, 1, 1, 27]) ?_
               refine pv aH 14 101 (tr [9, 1, 1, 3, 1, 23]) ?_
               refine tk 9 (some 96) (tr [11, 3, 1, 23]) (take_ofW aH.out dS.out (by kernel_rfl)) aI ?_
               refine pv aH 11 98 (tr [12, 2, 1, 23]) ?_
               refine pv aH 12 99 (tr [13, 1, 1, 23]) ?_
               refine tk 13 (some 100) (tf 15 23) (take_ofW aH.out dS.out (by kernel_rfl)) aI ?_
               refine tk 15 (some 102) (tf 16 22) (take_ofW aH.out dS.out (by kernel_rfl)) aI ?_
               refine pv aH 16 103 (tf 17 21) ?_
               refine pv aH 17 104 (tf 18 20) ?_
               refine pv aH 18 105 (tf 19 19) ?_
               refine pv aH 19 106 (tf 20 18) ?_
               refine pv aH 20 107 (tf 21 17) ?_
               refine pv aH 21 108 (tf 22 16) ?_
               refine pw aH 22 109 (tf 23 15) ?_
               refine pw aH 23 110 (tf 24 14) ?_
               refine pw aH 24 111 (tf 25 13) ?_
               refine pw aH 25 112 (tf 26 12) ?_
               refine pw aH 26 113 (tf 27 11) ?_
               refine pw aH 27 114 (tf 28 10) ?_
               refine pw aH 28 115 (tf 29 9) ?_
               refine pw aH 29 116 (tf 30 8) ?_
               refine pw aH 30 117 (tf 31 7) ?_
               refine pw aH 31 118 (tf 32 6) ?_
               refine pw aH 32 119 (tf 33 5) ?_
               refine pw aH 33 120 (tf 34 4) ?_
               refine pw aH 34 121 (tf 35 3) ?_
               refine pw aH 35 122 (tf 36 2) ?_
               refine pv aH 36 123 (tf 37 1) ?_
               refine pv aH 37 124 (tf 38 0) ?_
               refine done_ (done_of aH.out (by kernel_rfl)) ?_
               try go_wp2
               go_meet
               case rel => exact ⟨_, (false), (by first | rfl | (simp; done) | (simp [*]; done)), H', ⟨by have := HJ1.out; have := HK2.out; have := HK3.out; first | omega | exact Nat.le_refl _⟩, ⟨KB aG⟩, ⟨K1 HB aM.out⟩⟩
            ·replace oA := Bool.eq_false_iff.mpr oA
             subst oA
             have H1 := nf H
             clear H
             have H := H1
             clear H1
             have H' := Aside0.mk H
             clear H
             try go_wp2
             replace aG := am (blk_drew aG.out)
             replace HB := am (below_drew1 HB.out)
             have fG : 0 ≤ (aB : Int) := OD
             have fH : aB < (aF.length : Int) := OD
             obtain ⟨aD, dA, dB, iA, bB, bC, bD, bE, bF, bG, bH, bI, bJ, bK, aL, cK, cL⟩ := at_T103 fJ.out aB fG fH
             have cM := aL
             have dC := bK
             have dD := bJ
             have dE := bI
             have dF := bH
             have dG := bG
             have dH := bF
             have dI := bE
             have dJ := bD
             have dK := bC
             have dL := bB
             cases iA
             replace bB := CX HB.out bB
             replace bC := CX HB.out bC
             replace bD := CX HB.out bD
             replace bE := CX HB.out bE
             replace bF := CX HB.out bF
             replace bG := CX HB.out bG
             replace bH := CX HB.out bH
             replace bI := CX HB.out bI
             replace bJ := CX HB.out bJ
             replace bK := CX HB.out bK
             replace aL := CX HB.out aL
             have cN := Aside0.mk cL
             have dU := Aside0.mk cK
             clear cL cK
             replace fG := eq_true fG
             replace fH := eq_true fH
             refine start_ (n := 38) (S := fun w' => ce6 w' eP (.int .i64 aK) (.slice fA aZ.length fB) (.int .i64 aN) (.slice fC bA.length fD) (.slice fO aE.length fE) (.slice (some aD) aF.length fF) (w'.cell? (aD.add ((aB).toNat * 11)) = some (.int .i64 ((rd_T103 aF aB).f0)) ∧ w'.cell? ⟨(aD.add ((aB).toNat * 11)).block, (aD.add ((aB).toNat * 11)).off + 1, none⟩ = some (.int .i64 ((rd_T103 aF aB).f1)) ∧ w'.cell? ⟨(aD.add ((aB).toNat * 11)).block, (aD.add ((aB).toNat * 11)).off + 2, none⟩ = some (.string ((rd_T103 aF aB).f2)) ∧ w'.cell? ⟨(aD.add ((aB).toNat * 11)).block, (aD.add ((aB).toNat * 11)).off + 3, none⟩ = some (.string ((rd_T103 aF aB).f3)) ∧ w'.cell? ⟨(aD.add ((aB).toNat * 11)).block, (aD.add ((aB).toNat * 11)).off + 4, none⟩ = some (.int .i64 ((rd_T103 aF aB).f4)) ∧ w'.cell? ⟨(aD.add ((aB).toNat * 11)).block, (aD.add ((aB).toNat * 11)).off + 5, none⟩ = some (.int .i64 ((rd_T103 aF aB).f5)) ∧ w'.cell? ⟨(aD.add ((aB).toNat * 11)).block, (aD.add ((aB).toNat * 11)).off + 6, none⟩ = some (.int .i64 ((rd_T103 aF aB).f6)) ∧ w'.cell? ⟨(aD.add ((aB).toNat * 11)).block, (aD.add ((aB).toNat * 11)).off + 7, none⟩ = some (.int .i64 ((rd_T103 aF aB).f7)) ∧ w'.cell? ⟨(aD.add ((aB).toNat * 11)).block, (aD.add ((aB).toNat * 11)).off + 8, none⟩ = some (.int .i64 ((rd_T103 aF aB).f8)) ∧ w'.cell? ⟨(aD.add ((aB).toNat * 11)).block, (aD.add ((aB).toNat * 11)).off + 9, none⟩ = some (.int .i64 ((rd_T103 aF aB).f9.f0)) ∧ w'.cell? ⟨(aD.add ((aB).toNat * 11)).block, (aD.add ((aB).toNat * 11)).off + 10, none⟩ = some (.slice dA ((rd_T103 aF aB).f9.f1).length dB))) (ds := []) (tf 0 38) (by kernel_rfl) rfl rfl ⟨z0 _ aG.out, z1 _ aG.out, z2 _ aG.out, z3 _ aG.out, z4 _ aG.out, z5 _ aG.out, (CY HB.out dL), (CY HB.out dK), (CY HB.out dJ), (CY HB.out dI), (CY HB.out dH), (CY HB.out dG), (CY HB.out dF), (CY HB.out dE), (CY HB.out dD), (CY HB.out dC), (CY HB.out cM)⟩ (fun aI => ?_); refine with_tabW spec_GateOk.tab11 spec_GateOk.bits11 (fun aH dS => ?_)
             generalize wr.drew = qU at aG HB cN bB bC aL bD bE bF bG bH bI bJ bK aI ⊢
             refine pv aH 0 87 (tf 1 37) ?_
             refine pv aH 2 89 (tr [1, 1, 1, 35]) ?_
             refine tk 1 (some 88) (tf 3 35) (take_ofW aH.out dS.out (by kernel_rfl)) aI ?_
             refine pv aH 3 90 (tf 4 34) ?_
             refine tk 4 (some 91) (tf 5 33) (take_ofW aH.out dS.out (by kernel_rfl)) aI ?_
             refine one_ (i := 5) (N := some 92) (tf 6 32) rfl rfl (one_of aH.out (by kernel_rfl)) (by decide) (fun K hK => ?_)
             refine goes_ Tryz.func46 (by kernel_rfl) rfl #[.agg #[.int .i64 ((rd_T103 aF aB).f0), .int .i64 ((rd_T103 aF aB).f1), .string ((rd_T103 aF aB).f2), .string ((rd_T103 aF aB).f3), .int .i64 ((rd_T103 aF aB).f4), .int .i64 ((rd_T103 aF aB).f5), .int .i64 ((rd_T103 aF aB).f6), .int .i64 ((rd_T103 aF aB).f7), .int .i64 ((rd_T103 aF aB).f8), .int .i64 ((rd_T103 aF aB).f9.f0), .slice dA ((rd_T103 aF aB).f9.f1).length dB]] (by rfl) rfl rfl MT ?_
             with_reducible refine (spec_SaOk.calls k3 ((rd_T103 aF aB).f0) ((rd_T103 aF aB).f1) ((rd_T103 aF aB).f2) ((rd_T103 aF aB).f3) ((rd_T103 aF aB).f4) ((rd_T103 aF aB).f5) ((rd_T103 aF aB).f6) ((rd_T103 aF aB).f7) ((rd_T103 aF aB).f8) ((rd_T103 aF aB).f9.f0) _ _ ((rd_T103 aF aB).f9.f1) false _ ?_ ?_ nZ.out).mono ?_
             exact KD cN HB
             exact dU.out
             rintro e qV ⟨rfl, hb⟩
             refine ⟨_, rfl, ?_⟩
             replace aG := am (BB aG hb)
             replace HB := bl (K1 HB aM.out) hb
             (try clear hb)
             (try clear hb2)
             (try clear hk)
             (try clear hi)
             refine hK.out _ _ ⟨z0 _ aG.out, z1 _ aG.out, z2 _ aG.out, z3 _ aG.out, z4 _ aG.out, z5 _ aG.out, (CY HB.out dL), (CY HB.out dK), (CY HB.out dJ), (CY HB.out dI), (CY HB.out dH), (CY HB.out dG), (CY HB.out dF), (CY HB.out dE), (CY HB.out dD), (CY HB.out dC), (CY HB.out cM)⟩ (fun aI => ?_)
             clear hK K
             refine nm (some 92) ?_
             refine pv aH 6 93 (tf 7 31) ?_
             refine pv aH 7 94 (tf 8 30) ?_
             refine pw aH 8 95 (tf 9 29) ?_
             refine pw aH 9 96 (tf 10 28) ?_
             refine pw aH 10 97 (tf 11 27) ?_
             refine pw aH 11 98 (tf 12 26) ?_
             refine pw aH 12 99 (tf 13 25) ?_
             refine pw aH 13 100 (tf 14 24) ?_
             refine pw aH 14 101 (tf 15 23) ?_
             refine pw aH 15 102 (tf 16 22) ?_
             refine pw aH 16 103 (tf 17 21) ?_
             refine pv aH 17 104 (tf 18 20) ?_
             refine pv aH 18 105 (tf 19 19) ?_
             refine pw aH 19 106 (tf 20 18) ?_
             refine pw aH 20 107 (tf 21 17) ?_
             refine pw aH 21 108 (tf 22 16) ?_
             refine pw aH 22 109 (tf 23 15) ?_
             refine pw aH 23 110 (tf 24 14) ?_
             refine pw aH 24 111 (tf 25 13) ?_
             refine pw aH 25 112 (tf 26 12) ?_
             refine pw aH 26 113 (tf 27 11) ?_
             refine pw aH 27 114 (tf 28 10) ?_
             refine pw aH 28 115 (tf 29 9) ?_
             refine pw aH 29 116 (tf 30 8) ?_
             refine pw aH 30 117 (tf 31 7) ?_
             refine pw aH 31 118 (tf 32 6) ?_
             refine pw aH 32 119 (tf 33 5) ?_
             refine pw aH 33 120 (tf 34 4) ?_
             refine pw aH 34 121 (tf 35 3) ?_
             refine pw aH 35 122 (tf 36 2) ?_
             refine pw aH 36 123 (tf 37 1) ?_
             refine pv aH 37 124 (tf 38 0) ?_
             refine done_ (done_of aH.out (by kernel_rfl)) ?_
             try go_wp2
             go_meet
             case rel => exact ⟨_, (true), (by first | rfl | (simp; done) | (simp [*]; done)), H', ⟨by have := HJ1.out; have := HK2.out; have := HK3.out; first | omega | exact Nat.le_refl _⟩, ⟨KB aG⟩, ⟨K1 HB aM.out⟩⟩
           ·rw [if_neg nW] at H
            exact absurd H (by simp)
          case rest =>
           clear mY
           try clear c1
           try clear p1
           try clear q1
           try clear pW
           try clear p2
           try clear c4
           try clear pX
           try clear pM
           try clear pN
           try clear nU
           try clear qW
           try clear qX
           try clear qY
           try clear qE
           try clear nW
           try clear qZ
           try clear oA
           try clear bB
           try clear bC
           try clear aL
           try clear bD
           try clear bE
           try clear bF
           try clear bG
           try clear bH
           try clear bI
           try clear bJ
           try clear bK
           try clear bW
           try clear bX
           try clear bL
           try clear bY
           try clear bZ
           try clear cA
           try clear cB
           try clear cC
           try clear cD
           try clear cE
           try clear cF
           try clear fG
           try clear fQ
           try clear fH
           try clear fR
           obtain ⟨kq, gM, rfl, HA, HJ42, aG, HB⟩ := hcut
           cases kq with
           | zero => exact absurd HA.out (by simp [spec_GateOk.j4])
           | succ kj42 =>
            have H := HA.out
            clear HA
            simp only [spec_GateOk.j4] at H
            by_cases pB : gM = true
            ·subst pB
             have H1 := pf H
             clear H
             have H := H1
             clear H1
             obtain rfl := sj H
             go_wp2
             go_ret
             exact ⟨ER, K1 HB aM.out⟩
            ·replace pB := Bool.eq_false_iff.mpr pB
             subst pB
             have H1 := nf H
             clear H
             have H := H1
             clear H1
             have H' := Aside0.mk H
             clear H
             go_wp2
             go_roundg kj42
             case measure => have := HJ1.out; have := HK2.out; have := HK3.out; have := HJ42.out; omega
             case rel => exact ⟨(wrap64 (aB + 1)), (by first | rfl | (simp; done) | (simp [*]; done)), H', ⟨by have := HJ1.out; have := HK2.out; have := HK3.out; have := HJ42.out; omega⟩, ⟨KB aG⟩, ⟨K1 HB aM.out⟩⟩
         ·rw [if_neg nH] at H
          have c42b0 : decide (aB < (aF.length : Int)) = false := decide_eq_false nH
          clear nH
          obtain rfl := sj H
          have ⟨_, _, _, _, _, _, _⟩ := y6 wr aG.out
          go_wp2
          go_ret
          exact ⟨ER, K1 HB aM.out⟩
mutual
def spec_WorldOk.j0 : Nat → Bool → Int → List (S107) → Int → List (S128) → List (S103) → List (S103) → Int → List (S107) → Int → List (S128) → List (S103) → List (S103) → List (S76) → List (S55) → List (S55) → Option (Bool)
 | 0, _, _, _, _, _, _, _, _, _, _, _, _, _, _, _, _ => none
 | k + 1, x40, x102000, x102001, x102002, x102003, x102004, x102005, x102006, x102007, x102008, x102009, x102010, x102011, x102012, x102013, x102014 => if x40 = true then (some false) else (spec_WorldOk.l0 k 0 x102000 x102001 x102002 x102003 x102004 x102005 x102006 x102007 x102008 x102009 x102010 x102011 x102012 x102013 x102014)
def spec_WorldOk.l0 : Nat → Int → Int → List (S107) → Int → List (S128) → List (S103) → List (S103) → Int → List (S107) → Int → List (S128) → List (S103) → List (S103) → List (S76) → List (S55) → List (S55) → Option (Bool)
 | 0, _, _, _, _, _, _, _, _, _, _, _, _, _, _, _, _ => none
 | k + 1, x3, x102000, x102001, x102002, x102003, x102004, x102005, x102006, x102007, x102008, x102009, x102010, x102011, x102012, x102013, x102014 => if x3 < (x102012.length : Int) then (if 0 ≤ x3 then (if (((rd_T76 x102012 x3).f0).size : Int) > 141 then (some false) else (spec_WorldOk.l0 k (wrap64 (x3 + 1)) x102000 x102001 x102002 x102003 x102004 x102005 x102006 x102007 x102008 x102009 x102010 x102011 x102012 x102013 x102014)) else (none)) else (some true)
end
def spec_WorldOk.f (k : Nat) (a0_0 : Int) (l0_1 : List (S107)) (a0_2 : Int) (l0_3 : List (S128)) (l0_4 : List (S103)) (l0_5 : List (S103)) (a0_6 : Int) (l0_7 : List (S107)) (a0_8 : Int) (l0_9 : List (S128)) (l0_10 : List (S103)) (l0_11 : List (S103)) (l0_12 : List (S76)) (l0_13 : List (S55)) (l0_14 : List (S55)) : Option (Bool) := (spec_GateOk.f k a0_0 l0_1 a0_2 l0_3 l0_4 l0_5).bind fun t102 => (if t102 = true then ((spec_GateOk.f k a0_6 l0_7 a0_8 l0_9 l0_10 l0_11).bind fun t103 => (if t103 = true then (if a0_0 = a0_6 then (if (l0_12.length : Int) > 12 then (spec_WorldOk.j0 k true a0_0 l0_1 a0_2 l0_3 l0_4 l0_5 a0_6 l0_7 a0_8 l0_9 l0_10 l0_11 l0_12 l0_13 l0_14) else (if (l0_13.length : Int) > 40 then (spec_WorldOk.j0 k true a0_0 l0_1 a0_2 l0_3 l0_4 l0_5 a0_6 l0_7 a0_8 l0_9 l0_10 l0_11 l0_12 l0_13 l0_14) else (spec_WorldOk.j0 k (decide ((l0_14.length : Int) > 40)) a0_0 l0_1 a0_2 l0_3 l0_4 l0_5 a0_6 l0_7 a0_8 l0_9 l0_10 l0_11 l0_12 l0_13 l0_14))) else (spec_WorldOk.j0 k true a0_0 l0_1 a0_2 l0_3 l0_4 l0_5 a0_6 l0_7 a0_8 l0_9 l0_10 l0_11 l0_12 l0_13 l0_14)) else (spec_WorldOk.j0 k true a0_0 l0_1 a0_2 l0_3 l0_4 l0_5 a0_6 l0_7 a0_8 l0_9 l0_10 l0_11 l0_12 l0_13 l0_14))) else (spec_WorldOk.j0 k true a0_0 l0_1 a0_2 l0_3 l0_4 l0_5 a0_6 l0_7 a0_8 l0_9 l0_10 l0_11 l0_12 l0_13 l0_14))
theorem spec_WorldOk.calls (k : Nat) (aG : Int) (aU : Option Addr) (aV : Nat) (aH : List (S107)) (aM : Int) (aW : Option Addr) (aX : Nat) (aI : List (S128)) (aY : Option Addr) (aZ : Nat) (aJ : List (S103)) (bA : Option Addr) (bB : Nat) (aK : List (S103)) (aL : Int) (lM : Option Addr) (lN : Nat) (aN : List (S107)) (aQ : Int) (lO : Option Addr) (lP : Nat) (aO : List (S128)) (bO : Option Addr) (bP : Nat) (aD : List (S103)) (bQ : Option Addr) (bR : Nat) (aE : List (S103)) (bS : Option Addr) (bT : Nat) (aB : List (S76)) (bU : Option Addr) (bV : Nat) (aC : List (S55)) (bW : Option Addr) (bX : Nat) (aF : List (S55)) (r : Bool) (w : World) (mC : Kd.C k107 w aU aH.length aH) (mD : aH.length ≤ aV) (mE : Kd.C k128 w aW aI.length aI) (mF : aI.length ≤ aX) (mG : Kd.C k103 w aY aJ.length aJ) (mH : aJ.length ≤ aZ) (mI : Kd.C k103 w bA aK.length aK) (mJ : aK.length ≤ bB) (mK : Kd.C k107 w lM aN.length aN) (mL : aN.length ≤ lN) (mM : Kd.C k128 w lO aO.length aO) (mN : aO.length ≤ lP) (lQ : Kd.C k103 w bO aD.length aD) (lR : aD.length ≤ bP) (lS : Kd.C k103 w bQ aE.length aE) (lT : aE.length ≤ bR) (lU : Kd.C k76 w bS aB.length aB) (lV : aB.length ≤ bT) (lW : Kd.C k55 w bU aC.length aC) (lX : aC.length ≤ bV) (lY : Kd.C k55 w bW aF.length aF) (lZ : aF.length ≤ bX) (h : spec_WorldOk.f k aG aH aM aI aJ aK aL aN aQ aO aD aE aB aC aF = some r) :
  Calls Tryz.prog 12 #[.agg #[.int .i64 aG, .slice aU aH.length aV, .int .i64 aM, .slice aW aI.length aX, .slice aY aJ.length aZ, .slice bA aK.length bB, .int .i64 aL, .slice lM aN.length lN, .int .i64 aQ, .slice lO aO.length lP, .slice bO aD.length bP, .slice bQ aE.length bR, .slice bS aB.length bT, .slice bU aC.length bV, .slice bW aF.length bX]] w fun e w' => e = .returned (.bool r) ∧ Below w.heap.size w w' := by
 have pC := Tryz.underlying45
 have pD := Tryz.underlying41
 have bG := Aside0.mk mC
 have bH := Aside0.mk mD
 clear mC mD
 have bI := Aside0.mk mE
 have bJ := Aside0.mk mF
 clear mE mF
 have bK := Aside0.mk mG
 have bL := Aside0.mk mH
 clear mG mH
 have bM := Aside0.mk mI
 have bN := Aside0.mk mJ
 clear mI mJ
 have bY := Aside0.mk mK
 have bZ := Aside0.mk mL
 clear mK mL
 have cA := Aside0.mk mM
 have cB := Aside0.mk mN
 clear mM mN
 have bC := Aside0.mk lQ
 have bD := Aside0.mk lR
 clear lQ lR
 have bE := Aside0.mk lS
 have bF := Aside0.mk lT
 clear lS lT
 have mA := Aside0.mk lU
 have oU := Aside0.mk lV
 clear lU lV
 have oV := Aside0.mk lW
 have oW := Aside0.mk lX
 clear lW lX
 have oX := Aside0.mk lY
 have oY := Aside0.mk lZ
 clear lY lZ
 have HB := am (Below.refl w.heap.size w)
 have H : ((spec_GateOk.f k aG aH aM aI aJ aK).bind fun mB => (if mB = true then ((spec_GateOk.f k aL aN aQ aO aD aE).bind fun lL => (if lL = true then (if aG = aL then (if (aB.length : Int) > 12 then (spec_WorldOk.j0 k true aG aH aM aI aJ aK aL aN aQ aO aD aE aB aC aF) else (if (aC.length : Int) > 40 then (spec_WorldOk.j0 k true aG aH aM aI aJ aK aL aN aQ aO aD aE aB aC aF) else (spec_WorldOk.j0 k (decide ((aF.length : Int) > 40)) aG aH aM aI aJ aK aL aN aQ aO aD aE aB aC aF))) else (spec_WorldOk.j0 k true aG aH aM aI aJ aK aL aN aQ aO aD aE aB aC aF)) else (spec_WorldOk.j0 k true aG aH aM aI aJ aK aL aN aQ aO aD aE aB aC aF))) else (spec_WorldOk.j0 k true aG aH aM aI aJ aK aL aN aQ aO aD aE aB aC aF))) = some r := h
 clear h
 have oZ := Aside0.mk H
 clear H
 go_enter Tryz.func12, Tryz.ntmps12
 go_upto_region 1 with (first | ((with_reducible refine gate_dst (N := 1) rfl ?_); (try (refine gate_guard (by rfl) ?_; dsimp only)); refine box_event rfl (N := 1) rfl (cs := #[.int .i64 aG, .slice aU aH.length aV, .int .i64 aM, .slice aW aI.length aX, .slice aY aJ.length aZ, .slice bA aK.length bB, .int .i64 aL, .slice lM aN.length lN, .int .i64 aQ, .slice lO aO.length lP, .slice bO aD.length bP, .slice bQ aE.length bR, .slice bS aB.length bT, .slice bU aC.length bV, .slice bW aF.length bX]) (t := 45) BX ?_; intro mO hg w3 mT hb; have aA := am (mT); have mU := am (GH HB hg); have aP := mU; replace HB := bl (KL HB) hb; clear hb mT hg))
 (try simp only [Act.put, List.setIfInBounds_toArray, List.set_cons_zero, List.set_cons_succ])
 go_cut [40] (fun pE wc => ∃ (kq : Nat) (fB : Bool), pE = .bool fB ∧ Aside0 (spec_WorldOk.j0 kq fB aG aH aM aI aJ aK aL aN aQ aO aD aE aB aC aF = some r) ∧ Aside0 (kq ≤ k) ∧ Aside0 (wc.heap[mO]? = some (.cells #[.int .i64 aG, (.slice aU aH.length aV), .int .i64 aM, (.slice aW aI.length aX), (.slice aY aJ.length aZ), (.slice bA aK.length bB), .int .i64 aL, (.slice lM aN.length lN), .int .i64 aQ, (.slice lO aO.length lP), (.slice bO aD.length bP), (.slice bQ aE.length bR), (.slice bS aB.length bT), (.slice bU aC.length bV), (.slice bW aF.length bX)] 45 (0, 0))) ∧ Aside0 (Below w.heap.size w wc))
 case first =>
  have H := oZ.out
  clear oZ
  replace H := bm H
  obtain ⟨mB, pA, H⟩ := H
  replace H : (if mB = true then ((spec_GateOk.f k aL aN aQ aO aD aE).bind fun lL => (if lL = true then (if aG = aL then (if (aB.length : Int) > 12 then (spec_WorldOk.j0 k true aG aH aM aI aJ aK aL aN aQ aO aD aE aB aC aF) else (if (aC.length : Int) > 40 then (spec_WorldOk.j0 k true aG aH aM aI aJ aK aL aN aQ aO aD aE aB aC aF) else (spec_WorldOk.j0 k (decide ((aF.length : Int) > 40)) aG aH aM aI aJ aK aL aN aQ aO aD aE aB aC aF))) else (spec_WorldOk.j0 k true aG aH aM aI aJ aK aL aN aQ aO aD aE aB aC aF)) else (spec_WorldOk.j0 k true aG aH aM aI aJ aK aL aN aQ aO aD aE aB aC aF))) else (spec_WorldOk.j0 k true aG aH aM aI aJ aK aL aN aQ aO aD aE aB aC aF)) = some r := H
  have A4 := Aside0.mk pA
  clear pA
  by_cases c5 : mB = true
  ·subst c5
   have H1 := pf H
   clear H
   have H := H1
   clear H1
   replace H := bm H
   obtain ⟨lL, pB, H⟩ := H
   replace H : (if lL = true then (if aG = aL then (if (aB.length : Int) > 12 then (spec_WorldOk.j0 k true aG aH aM aI aJ aK aL aN aQ aO aD aE aB aC aF) else (if (aC.length : Int) > 40 then (spec_WorldOk.j0 k true aG aH aM aI aJ aK aL aN aQ aO aD aE aB aC aF) else (spec_WorldOk.j0 k (decide ((aF.length : Int) > 40)) aG aH aM aI aJ aK aL aN aQ aO aD aE aB aC aF))) else (spec_WorldOk.j0 k true aG aH aM aI aJ aK aL aN aQ aO aD aE aB aC aF)) else (spec_WorldOk.j0 k true aG aH aM aI aJ aK aL aN aQ aO aD aE aB aC aF)) = some r := H
   have A6 := Aside0.mk pB
   clear pB
   by_cases c7 : lL = true
   ·subst c7
    have H1 := pf H
    clear H
    have H := H1
    clear H1
    by_cases c8 : aG = aL
    ·rw [if_pos c8] at H
     have c8b0 : (aG == aL) = true := beq_iff_eq.mpr c8
     have c8b1 : (aG != aL) = false := bne_eq_false_iff_eq.mpr c8
     clear c8
     (first | rw [c8b0] | (simp only [i64_w, i32_w]; rw [c8b0]) | skip)
     by_cases c9 : (aB.length : Int) > 12
     ·rw [if_pos c9] at H
      have c9b0 : decide (12 < (aB.length : Int)) = true := decide_eq_true c9
      have c9b1 : decide (12 < aB.length) = true := decide_eq_true (by omega)
      clear c9
      have H' := Aside0.mk H
      clear H
      obtain ⟨fC, fD, fE, fF, fG, fH, fI, fJ, fK, fL, cC, cD, cE, cF, cG, fM⟩ := y15 w3 aA.out
      go_wp2_with (first | ((with_reducible refine gate_callee (f := 26) rfl ?_); refine goesL_ (some 6) rfl rfl Tryz.func26 (by kernel_rfl) rfl #[.agg #[.int .i64 aG, .slice aU aH.length aV, .int .i64 aM, .slice aW aI.length aX, .slice aY aJ.length aZ, .slice bA aK.length bB]] rfl MT ?_; (with_reducible refine (spec_GateOk.calls k aG _ _ aH aM _ _ aI _ _ aJ _ _ aK true _ ?_ ?_ ?_ ?_ ?_ ?_ ?_ ?_ A4.out).mono ?_); exact KD bG HB; exact bH.out; exact KD bI HB; exact bJ.out; exact KD bK HB; exact bL.out; exact KD bM HB; exact bN.out; rintro e pF ⟨rfl, hb⟩; refine ⟨_, rfl, ?_⟩; replace aA := am (BB aA hb); replace HB := bl (K1 HB aP.out) hb; (try clear hb); obtain ⟨fN, fO, fP, fQ, fR, fS, fT, fU, fV, fW, cH, cI, cJ, cK, cL, fX⟩ := y15 pF aA.out) | (go_at_call 26; (with_reducible refine (spec_GateOk.calls k aL _ _ aN aQ _ _ aO _ _ aD _ _ aE true _ ?_ ?_ ?_ ?_ ?_ ?_ ?_ ?_ A6.out).mono ?_); exact KD bY HB; exact bZ.out; exact KD cA HB; exact cB.out; exact KD bC HB; exact bD.out; exact KD bE HB; exact bF.out; rintro e pG ⟨rfl, hb⟩; replace aA := am (BB aA hb); replace HB := bl (K1 HB aP.out) hb; (try clear hb); obtain ⟨fY, fZ, gA, gB, gC, gD, gE, gF, gG, gH, cM, cN, cO, cP, cQ, gI⟩ := y15 pG aA.out))
      go_meet
      case rel => exact ⟨_, (true), (by first | rfl | (simp; done) | (simp [*]; done)), H', ⟨by first | omega | exact Nat.le_refl _⟩, ⟨KB aA⟩, ⟨K1 HB aP.out⟩⟩
     ·rw [if_neg c9] at H
      have c9b0 : decide (12 < (aB.length : Int)) = false := decide_eq_false c9
      have c9b1 : decide (12 < aB.length) = false := decide_eq_false (by omega)
      clear c9
      by_cases mP : (aC.length : Int) > 40
      ·rw [if_pos mP] at H
       have c15b0 : decide (40 < (aC.length : Int)) = true := decide_eq_true mP
       have c15b1 : decide (40 < aC.length) = true := decide_eq_true (by omega)
       clear mP
       have H' := Aside0.mk H
       clear H
       obtain ⟨gJ, gK, gL, gM, gN, gO, gP, gQ, gR, gS, cR, cS, cT, cU, cV, gT⟩ := y15 w3 aA.out
       go_wp2_with (first | ((with_reducible refine gate_callee (f := 26) rfl ?_); refine goesL_ (some 6) rfl rfl Tryz.func26 (by kernel_rfl) rfl #[.agg #[.int .i64 aG, .slice aU aH.length aV, .int .i64 aM, .slice aW aI.length aX, .slice aY aJ.length aZ, .slice bA aK.length bB]] rfl MT ?_; (with_reducible refine (spec_GateOk.calls k aG _ _ aH aM _ _ aI _ _ aJ _ _ aK true _ ?_ ?_ ?_ ?_ ?_ ?_ ?_ ?_ A4.out).mono ?_); exact KD bG HB; exact bH.out; exact KD bI HB; exact bJ.out; exact KD bK HB; exact bL.out; exact KD bM HB; exact bN.out; rintro e pH ⟨rfl, hb⟩; refine ⟨_, rfl, ?_⟩; replace aA := am (BB aA hb); replace HB := bl (K1 HB aP.out) hb; (try clear hb); obtain ⟨gU, gV, gW, gX, gY, gZ, hA, hB, hC, hD, cW, cX, cY, cZ, dA, hE⟩ := y15 pH aA.out) | (go_at_call 26; (with_reducible refine (spec_GateOk.calls k aL _ _ aN aQ _ _ aO _ _ aD _ _ aE true _ ?_ ?_ ?_ ?_ ?_ ?_ ?_ ?_ A6.out).mono ?_); exact KD bY HB; exact bZ.out; exact KD cA HB; exact cB.out; exact KD bC HB; exact bD.out; exact KD bE HB; exact bF.out; rintro e pI ⟨rfl, hb⟩; replace aA := am (BB aA hb); replace HB := bl (K1 HB aP.out) hb; (try clear hb); obtain ⟨hF, hG, hH, hI, hJ, hK, hL, hM, hN, hO, dB, dC, dD, dE, dF, hP⟩ := y15 pI aA.out))
       go_meet
       case rel => exact ⟨_, (true), (by first | rfl | (simp; done) | (simp [*]; done)), H', ⟨by first | omega | exact Nat.le_refl _⟩, ⟨KB aA⟩, ⟨K1 HB aP.out⟩⟩
      ·rw [if_neg mP] at H
       have c15b0 : decide (40 < (aC.length : Int)) = false := decide_eq_false mP
       have c15b1 : decide (40 < aC.length) = false := decide_eq_false (by omega)
       clear mP
       have H' := Aside0.mk H
       clear H
       obtain ⟨hQ, hR, hS, hT, hU, hV, hW, hX, hY, hZ, dG, dH, dI, dJ, dK, iA⟩ := y15 w3 aA.out
       go_wp2_with (first | ((with_reducible refine gate_callee (f := 26) rfl ?_); refine goesL_ (some 6) rfl rfl Tryz.func26 (by kernel_rfl) rfl #[.agg #[.int .i64 aG, .slice aU aH.length aV, .int .i64 aM, .slice aW aI.length aX, .slice aY aJ.length aZ, .slice bA aK.length bB]] rfl MT ?_; (with_reducible refine (spec_GateOk.calls k aG _ _ aH aM _ _ aI _ _ aJ _ _ aK true _ ?_ ?_ ?_ ?_ ?_ ?_ ?_ ?_ A4.out).mono ?_); exact KD bG HB; exact bH.out; exact KD bI HB; exact bJ.out; exact KD bK HB; exact bL.out; exact KD bM HB; exact bN.out; rintro e pJ ⟨rfl, hb⟩; refine ⟨_, rfl, ?_⟩; replace aA := am (BB aA hb); replace HB := bl (K1 HB aP.out) hb; (try clear hb); obtain ⟨iB, iC, iD, iE, iF, iG, iH, iI, iJ, iK, dL, dM, dN, dO, dP, iL⟩ := y15 pJ aA.out) | (go_at_call 26; (with_reducible refine (spec_GateOk.calls k aL _ _ aN aQ _ _ aO _ _ aD _ _ aE true _ ?_ ?_ ?_ ?_ ?_ ?_ ?_ ?_ A6.out).mono ?_); exact KD bY HB; exact bZ.out; exact KD cA HB; exact cB.out; exact KD bC HB; exact bD.out; exact KD bE HB; exact bF.out; rintro e pK ⟨rfl, hb⟩; replace aA := am (BB aA hb); replace HB := bl (K1 HB aP.out) hb; (try clear hb); obtain ⟨iM, iN, iO, iP, iQ, iR, iS, iT, iU, iV, dQ, dR, dS, dT, dU, iW⟩ := y15 pK aA.out))
       go_meet
       case rel => exact ⟨_, (decide ((aF.length : Int) > 40)), (by first | rfl | (simp; done) | (simp [*]; done)), H', ⟨by first | omega | exact Nat.le_refl _⟩, ⟨KB aA⟩, ⟨K1 HB aP.out⟩⟩
    ·rw [if_neg c8] at H
     have c8b0 : (aG == aL) = false := beq_eq_false_iff_ne.mpr c8
     have c8b1 : (aG != aL) = true := bne_iff_ne.mpr c8
     (first | rw [c8b0] | (simp only [i64_w, i32_w]; rw [c8b0]) | skip)
     have H' := Aside0.mk H
     clear H
     obtain ⟨iX, iY, iZ, jA, jB, jC, jD, jE, jF, jG, dV, dW, dX, dY, dZ, jH⟩ := y15 w3 aA.out
     go_wp2_with (first | ((with_reducible refine gate_callee (f := 26) rfl ?_); refine goesL_ (some 6) rfl rfl Tryz.func26 (by kernel_rfl) rfl #[.agg #[.int .i64 aG, .slice aU aH.length aV, .int .i64 aM, .slice aW aI.length aX, .slice aY aJ.length aZ, .slice bA aK.length bB]] rfl MT ?_; (with_reducible refine (spec_GateOk.calls k aG _ _ aH aM _ _ aI _ _ aJ _ _ aK true _ ?_ ?_ ?_ ?_ ?_ ?_ ?_ ?_ A4.out).mono ?_); exact KD bG HB; exact bH.out; exact KD bI HB; exact bJ.out; exact KD bK HB; exact bL.out; exact KD bM HB; exact bN.out; rintro e pL ⟨rfl, hb⟩; refine ⟨_, rfl, ?_⟩; replace aA := am (BB aA hb); replace HB := bl (K1 HB aP.out) hb; (try clear hb); obtain ⟨jI, jJ, jK, jL, jM, jN, jO, jP, jQ, jR, eA, eB, eC, eD, eE, jS⟩ := y15 pL aA.out) | (go_at_call 26; (with_reducible refine (spec_GateOk.calls k aL _ _ aN aQ _ _ aO _ _ aD _ _ aE true _ ?_ ?_ ?_ ?_ ?_ ?_ ?_ ?_ A6.out).mono ?_); exact KD bY HB; exact bZ.out; exact KD cA HB; exact cB.out; exact KD bC HB; exact bD.out; exact KD bE HB; exact bF.out; rintro e pM ⟨rfl, hb⟩; replace aA := am (BB aA hb); replace HB := bl (K1 HB aP.out) hb; (try clear hb); obtain ⟨jT, jU, jV, jW, jX, jY, jZ, kA, kB, kC, eF, eG, eH, eI, eJ, kD⟩ := y15 pM aA.out))
     go_meet
     case rel => exact ⟨_, (true), (by first | rfl | (simp; done) | (simp [*]; done)), H', ⟨by first | omega | exact Nat.le_refl _⟩, ⟨KB aA⟩, ⟨K1 HB aP.out⟩⟩
   ·replace c7 := Bool.eq_false_iff.mpr c7
    subst c7
    have H1 := nf H
    clear H
    have H := H1
    clear H1
    have H' := Aside0.mk H
    clear H
    obtain ⟨kE, kF, kG, kH, kI, kJ, kK, kL, kM, kN, eK, eL, eM, eN, eO, kO⟩ := y15 w3 aA.out
    go_wp2_with (first | ((with_reducible refine gate_callee (f := 26) rfl ?_); refine goesL_ (some 6) rfl rfl Tryz.func26 (by kernel_rfl) rfl #[.agg #[.int .i64 aG, .slice aU aH.length aV, .int .i64 aM, .slice aW aI.length aX, .slice aY aJ.length aZ, .slice bA aK.length bB]] rfl MT ?_; (with_reducible refine (spec_GateOk.calls k aG _ _ aH aM _ _ aI _ _ aJ _ _ aK true _ ?_ ?_ ?_ ?_ ?_ ?_ ?_ ?_ A4.out).mono ?_); exact KD bG HB; exact bH.out; exact KD bI HB; exact bJ.out; exact KD bK HB; exact bL.out; exact KD bM HB; exact bN.out; rintro e pN ⟨rfl, hb⟩; refine ⟨_, rfl, ?_⟩; replace aA := am (BB aA hb); replace HB := bl (K1 HB aP.out) hb; (try clear hb); obtain ⟨kP, kQ, kR, kS, kT, kU, kV, kW, kX, kY, eP, eQ, eR, eS, eT, kZ⟩ := y15 pN aA.out) | (go_at_call 26; (with_reducible refine (spec_GateOk.calls k aL _ _ aN aQ _ _ aO _ _ aD _ _ aE false _ ?_ ?_ ?_ ?_ ?_ ?_ ?_ ?_ A6.out).mono ?_); exact KD bY HB; exact bZ.out; exact KD cA HB; exact cB.out; exact KD bC HB; exact bD.out; exact KD bE HB; exact bF.out; rintro e pQ ⟨rfl, hb⟩; replace aA := am (BB aA hb); replace HB := bl (K1 HB aP.out) hb; (try clear hb)))
    go_meet
    case rel => exact ⟨_, (true), (by first | rfl | (simp; done) | (simp [*]; done)), H', ⟨by first | omega | exact Nat.le_refl _⟩, ⟨KB aA⟩, ⟨K1 HB aP.out⟩⟩
  ·replace c5 := Bool.eq_false_iff.mpr c5
   subst c5
   have H1 := nf H
   clear H
   have H := H1
   clear H1
   have H' := Aside0.mk H
   clear H
   obtain ⟨lA, lB, lC, lD, lE, lF, lG, lH, lI, lJ, eU, eV, eW, eX, eY, lK⟩ := y15 w3 aA.out
   go_wp2_with (first | ((with_reducible refine gate_callee (f := 26) rfl ?_); refine goesL_ (some 6) rfl rfl Tryz.func26 (by kernel_rfl) rfl #[.agg #[.int .i64 aG, .slice aU aH.length aV, .int .i64 aM, .slice aW aI.length aX, .slice aY aJ.length aZ, .slice bA aK.length bB]] rfl MT ?_; (with_reducible refine (spec_GateOk.calls k aG _ _ aH aM _ _ aI _ _ aJ _ _ aK false _ ?_ ?_ ?_ ?_ ?_ ?_ ?_ ?_ A4.out).mono ?_); exact KD bG HB; exact bH.out; exact KD bI HB; exact bJ.out; exact KD bK HB; exact bL.out; exact KD bM HB; exact bN.out; rintro e pR ⟨rfl, hb⟩; refine ⟨_, rfl, ?_⟩; replace aA := am (BB aA hb); replace HB := bl (K1 HB aP.out) hb; (try clear hb)))
   go_meet
   case rel => exact ⟨_, (true), (by first | rfl | (simp; done) | (simp [*]; done)), H', ⟨by first | omega | exact Nat.le_refl _⟩, ⟨KB aA⟩, ⟨K1 HB aP.out⟩⟩
 case rest =>
  clear oZ
  try clear c1
  try clear c2
  try clear p2
  try clear c5
  try clear c7
  try clear c8
  try clear c8b0
  try clear c8b1
  try clear c9
  try clear c9b0
  try clear c9b1
  try clear pO
  try clear mP
  try clear c15b0
  try clear c15b1
  try clear pP
  try clear fC fD cC cD cE cF cG fE fF fG fH fI fJ fK fL fM
  try clear fN fO cH cI cJ cK cL fP fQ fR fS fT fU fV fW fX
  try clear fY fZ cM cN cO cP cQ gA gB gC gD gE gF gG gH gI
  try clear gJ gK cR cS cT cU cV gL gM gN gO gP gQ gR gS gT
  try clear gU gV cW cX cY cZ dA gW gX gY gZ hA hB hC hD hE
  try clear hF hG dB dC dD dE dF hH hI hJ hK hL hM hN hO hP
  try clear hQ hR dG dH dI dJ dK hS hT hU hV hW hX hY hZ iA
  try clear iB iC dL dM dN dO dP iD iE iF iG iH iI iJ iK iL
  try clear iM iN dQ dR dS dT dU iO iP iQ iR iS iT iU iV iW
  try clear iX iY dV dW dX dY dZ iZ jA jB jC jD jE jF jG jH
  try clear jI jJ eA eB eC eD eE jK jL jM jN jO jP jQ jR jS
  try clear jT jU eF eG eH eI eJ jV jW jX jY jZ kA kB kC kD
  try clear kE kF eK eL eM eN eO kG kH kI kJ kK kL kM kN kO
  try clear kP kQ eP eQ eR eS eT kR kS kT kU kV kW kX kY kZ
  try clear lA lB eU eV eW eX eY lC lD lE lF lG lH lI lJ lK
  obtain ⟨kq, fB, rfl, HA, HJ1, aA, HB⟩ := hcut
  cases kq with
  | zero => exact absurd HA.out (by simp [spec_WorldOk.j0])
  | succ kj1 =>
   have H := HA.out
   clear HA
   simp only [spec_WorldOk.j0] at H
   by_cases mV : fB = true
   ·subst mV
    have H1 := pf H
    clear H
    have H := H1
    clear H1
    obtain rfl := sj H
    go_wp2
    go_ret
    exact ⟨ER, K1 HB aP.out⟩
   ·replace mV := Bool.eq_false_iff.mpr mV
    subst mV
    have H1 := nf H
    clear H
    have H := H1
    clear H1
    have H' := Aside0.mk H
    clear H
    go_wp2
    go_loopg [3] kj1 (fun kq v3 w' => ∃ (aR : Int), v3 = .int .i64 aR ∧ Aside0 (spec_WorldOk.l0 kq aR aG aH aM aI aJ aK aL aN aQ aO aD aE aB aC aF = some r) ∧ Aside0 (kq ≤ kj1) ∧ Aside0 (w'.heap[mO]? = some (.cells #[.int .i64 aG, (.slice aU aH.length aV), .int .i64 aM, (.slice aW aI.length aX), (.slice aY aJ.length aZ), (.slice bA aK.length bB), .int .i64 aL, (.slice lM aN.length lN), .int .i64 aQ, (.slice lO aO.length lP), (.slice bO aD.length bP), (.slice bQ aE.length bR), (.slice bS aB.length bT), (.slice bU aC.length bV), (.slice bW aF.length bX)] 45 (0, 0))) ∧ Aside0 (Below w.heap.size w w'))
    case atStart => exact ⟨(0), (by first | rfl | (simp; done) | (simp [*]; done)), H', ⟨Nat.le_refl _⟩, ⟨KB aA⟩, ⟨K1 HB aP.out⟩⟩
    case round =>
     clear H'
     try clear c1
     try clear c2
     try clear p2
     try clear c3
     try clear c5
     try clear c7
     try clear c8
     try clear c8b0
     try clear c8b1
     try clear c9
     try clear c9b0
     try clear c9b1
     try clear pO
     try clear mP
     try clear c15b0
     try clear c15b1
     try clear pP
     try clear mV
     try clear fC fD cC cD cE cF cG fE fF fG fH fI fJ fK fL fM
     try clear fN fO cH cI cJ cK cL fP fQ fR fS fT fU fV fW fX
     try clear fY fZ cM cN cO cP cQ gA gB gC gD gE gF gG gH gI
     try clear gJ gK cR cS cT cU cV gL gM gN gO gP gQ gR gS gT
     try clear gU gV cW cX cY cZ dA gW gX gY gZ hA hB hC hD hE
     try clear hF hG dB dC dD dE dF hH hI hJ hK hL hM hN hO hP
     try clear hQ hR dG dH dI dJ dK hS hT hU hV hW hX hY hZ iA
     try clear iB iC dL dM dN dO dP iD iE iF iG iH iI iJ iK iL
     try clear iM iN dQ dR dS dT dU iO iP iQ iR iS iT iU iV iW
     try clear iX iY dV dW dX dY dZ iZ jA jB jC jD jE jF jG jH
     try clear jI jJ eA eB eC eD eE jK jL jM jN jO jP jQ jR jS
     try clear jT jU eF eG eH eI eJ jV jW jX jY jZ kA kB kC kD
     try clear kE kF eK eL eM eN eO kG kH kI kJ kK kL kM kN kO
     try clear kP kQ eP eQ eR eS eT kR kS kT kU kV kW kX kY kZ
     try clear lA lB eU eV eW eX eY lC lD lE lF lG lH lI lJ lK
     try clear p2
     obtain ⟨aR, rfl, HA, HK2, aA, HB⟩ := hrel
     cases gk with
     | zero => exact absurd HA.out (by simp [spec_WorldOk.l0])
     | succ k2 =>
      have H := HA.out
      clear HA
      simp only [spec_WorldOk.l0] at H
      by_cases mR : aR < (aB.length : Int)
      ·rw [if_pos mR] at H
       have c38b0 : decide (aR < (aB.length : Int)) = true := decide_eq_true mR
       clear mR
       by_cases nM : 0 ≤ aR
       ·rw [if_pos nM] at H
        have c39b0 : decide (0 ≤ aR) = true := decide_eq_true nM
        clear nM
        by_cases mS : (((rd_T76 aB aR).f0).size : Int) > 141
        ·rw [if_pos mS] at H
         have c40b0 : decide (141 < (((rd_T76 aB aR).f0).size : Int)) = true := decide_eq_true mS
         have c40b1 : decide (141 < ((rd_T76 aB aR).f0).size) = true := decide_eq_true (by omega)
         clear mS
         obtain rfl := sj H
         have ⟨_, _, _, _, _, _, _, _, _, _, _, _, _, _, _, _⟩ := y15 wr aA.out
         have eZ : 0 ≤ (aR : Int) := OD
         have fA : aR < (aB.length : Int) := OD
         obtain ⟨nB, mQ, aS, aT⟩ := at_T76 mA.out aR eZ fA
         cases mQ
         replace aS := CX HB.out aS
         replace aT := CX HB.out aT
         replace eZ := eq_true eZ
         replace fA := eq_true fA
         go_wp2
         go_ret
         exact ⟨ER, K1 HB aP.out⟩
        ·rw [if_neg mS] at H
         have c40b0 : decide (141 < (((rd_T76 aB aR).f0).size : Int)) = false := decide_eq_false mS
         have c40b1 : decide (141 < ((rd_T76 aB aR).f0).size) = false := decide_eq_false (by omega)
         clear mS
         have H' := Aside0.mk H
         clear H
         have ⟨_, _, _, _, _, _, _, _, _, _, _, _, _, _, _, _⟩ := y15 wr aA.out
         have eZ : 0 ≤ (aR : Int) := OD
         have fA : aR < (aB.length : Int) := OD
         obtain ⟨nB, mQ, aS, aT⟩ := at_T76 mA.out aR eZ fA
         cases mQ
         replace aS := CX HB.out aS
         replace aT := CX HB.out aT
         replace eZ := eq_true eZ
         replace fA := eq_true fA
         go_wp2
         go_roundg k2
         case measure => have := HJ1.out; have := HK2.out; omega
         case rel => exact ⟨(wrap64 (aR + 1)), (by first | rfl | (simp; done) | (simp [*]; done)), H', ⟨by have := HJ1.out; have := HK2.out; omega⟩, ⟨KB aA⟩, ⟨K1 HB aP.out⟩⟩
       ·rw [if_neg nM] at H
        exact absurd H (by simp)
      ·rw [if_neg mR] at H
       have c38b0 : decide (aR < (aB.length : Int)) = false := decide_eq_false mR
       clear mR
       obtain rfl := sj H
       have ⟨_, _, _, _, _, _, _, _, _, _, _, _, _, _, _, _⟩ := y15 wr aA.out
       go_wp2
       go_ret
       exact ⟨ER, K1 HB aP.out⟩
end Go.Proofs.YtgjbbnmjeblcgaaGreat.PAll
end
section
namespace Go.Proofs.YtgjbbnmjeblcgaaGreat.PAll
open Go.RowKit Go.Proofs.YtgjbbnmjeblcgaaGreatW.PrintWords Go.Proofs.YtgjbbnmjeblcgaaGreatW.PrintLast Go.Proofs.YtgjbbnmjeblcgaaGreatW.PrintMore
attribute [local go_sem] max2_int min2_int max_two min_two max_three min_three max_four min_four
set_option linter.unusedVariables false
set_option linter.unusedSimpArgs false
attribute [local go_sem high] eqA55
mutual
def spec_WorldSafe.l0 : Nat → Int → Int → List (S107) → Int → List (S128) → List (S103) → List (S103) → Int → List (S107) → Int → List (S128) → List (S103) → List (S103) → List (S76) → List (S55) → List (S55) → Option (Bool)
 | 0, _, _, _, _, _, _, _, _, _, _, _, _, _, _, _, _ => none
 | k + 1, x3, x102000, x102001, x102002, x102003, x102004, x102005, x102006, x102007, x102008, x102009, x102010, x102011, x102012, x102013, x102014 => if x3 < (x102014.length : Int) then (spec_WorldSafe.l1 k x3 false 0 x102000 x102001 x102002 x102003 x102004 x102005 x102006 x102007 x102008 x102009 x102010 x102011 x102012 x102013 x102014) else (some true)
def spec_WorldSafe.l1 : Nat → Int → Bool → Int → Int → List (S107) → Int → List (S128) → List (S103) → List (S103) → Int → List (S107) → Int → List (S128) → List (S103) → List (S103) → List (S76) → List (S55) → List (S55) → Option (Bool)
 | 0, _, _, _, _, _, _, _, _, _, _, _, _, _, _, _, _, _, _ => none
 | k + 1, x3, x4, x5, x102000, x102001, x102002, x102003, x102004, x102005, x102006, x102007, x102008, x102009, x102010, x102011, x102012, x102013, x102014 => if x5 < (x102013.length : Int) then (if x4 = true then (spec_WorldSafe.l1 k x3 true (wrap64 (x5 + 1)) x102000 x102001 x102002 x102003 x102004 x102005 x102006 x102007 x102008 x102009 x102010 x102011 x102012 x102013 x102014) else (if 0 ≤ x5 then (if 0 ≤ x3 then (if x3 < (x102014.length : Int) then (spec_WorldSafe.l1 k x3 ((((rd_T55 x102013 x5).f0.f0) == ((rd_T55 x102014 x3).f0.f0) && (((rd_T55 x102013 x5).f0.f1) == ((rd_T55 x102014 x3).f0.f1) && (((rd_T55 x102013 x5).f0.f2) == ((rd_T55 x102014 x3).f0.f2) && ((((rd_T55 x102013 x5).f0.f3).toList) == (((rd_T55 x102014 x3).f0.f3).toList))))) && (((rd_T55 x102013 x5).f1) == ((rd_T55 x102014 x3).f1) && (((rd_T55 x102013 x5).f2) == ((rd_T55 x102014 x3).f2) && (((rd_T55 x102013 x5).f3) == ((rd_T55 x102014 x3).f3))))) (wrap64 (x5 + 1)) x102000 x102001 x102002 x102003 x102004 x102005 x102006 x102007 x102008 x102009 x102010 x102011 x102012 x102013 x102014) else (none)) else (none)) else (none))) else (spec_WorldSafe.l2 k x3 x4 0 x102000 x102001 x102002 x102003 x102004 x102005 x102006 x102007 x102008 x102009 x102010 x102011 x102012 x102013 x102014)
def spec_WorldSafe.l2 : Nat → Int → Bool → Int → Int → List (S107) → Int → List (S128) → List (S103) → List (S103) → Int → List (S107) → Int → List (S128) → List (S103) → List (S103) → List (S76) → List (S55) → List (S55) → Option (Bool)
 | 0, _, _, _, _, _, _, _, _, _, _, _, _, _, _, _, _, _, _ => none
 | k + 1, x3, x4, x6, x102000, x102001, x102002, x102003, x102004, x102005, x102006, x102007, x102008, x102009, x102010, x102011, x102012, x102013, x102014 => if x6 < x3 then (if 0 ≤ x6 then (if x6 < (x102014.length : Int) then (if 0 ≤ x3 then (if x3 < (x102014.length : Int) then (if ((rd_T55 x102014 x6).f2) = ((rd_T55 x102014 x3).f2) then (if ((rd_T55 x102014 x6).f3) = ((rd_T55 x102014 x3).f3) then (some false) else (spec_WorldSafe.l2 k x3 x4 (wrap64 (x6 + 1)) x102000 x102001 x102002 x102003 x102004 x102005 x102006 x102007 x102008 x102009 x102010 x102011 x102012 x102013 x102014)) else (spec_WorldSafe.l2 k x3 x4 (wrap64 (x6 + 1)) x102000 x102001 x102002 x102003 x102004 x102005 x102006 x102007 x102008 x102009 x102010 x102011 x102012 x102013 x102014)) else (none)) else (none)) else (none)) else (none)) else (if x4 = true then (spec_WorldSafe.l0 k (wrap64 (x3 + 1)) x102000 x102001 x102002 x102003 x102004 x102005 x102006 x102007 x102008 x102009 x102010 x102011 x102012 x102013 x102014) else (some false))
end
def spec_WorldSafe.f (k : Nat) (a0_0 : Int) (l0_1 : List (S107)) (a0_2 : Int) (l0_3 : List (S128)) (l0_4 : List (S103)) (l0_5 : List (S103)) (a0_6 : Int) (l0_7 : List (S107)) (a0_8 : Int) (l0_9 : List (S128)) (l0_10 : List (S103)) (l0_11 : List (S103)) (l0_12 : List (S76)) (l0_13 : List (S55)) (l0_14 : List (S55)) : Option (Bool) := (spec_WorldOk.f k a0_0 l0_1 a0_2 l0_3 l0_4 l0_5 a0_6 l0_7 a0_8 l0_9 l0_10 l0_11 l0_12 l0_13 l0_14).bind fun t102 => (if t102 = true then (spec_WorldSafe.l0 k 0 a0_0 l0_1 a0_2 l0_3 l0_4 l0_5 a0_6 l0_7 a0_8 l0_9 l0_10 l0_11 l0_12 l0_13 l0_14) else (some false))
theorem spec_WorldSafe.calls (k : Nat) (aQ : Int) (cZ : Option Addr) (dA : Nat) (aK : List (S107)) (aR : Int) (dB : Option Addr) (dC : Nat) (aL : List (S128)) (dD : Option Addr) (dE : Nat) (aM : List (S103)) (dF : Option Addr) (dG : Nat) (aN : List (S103)) (aS : Int) (dH : Option Addr) (dI : Nat) (aO : List (S107)) (aT : Int) (dJ : Option Addr) (dK : Nat) (aP : List (S128)) (bJ : Option Addr) (bK : Nat) (aE : List (S103)) (bL : Option Addr) (bM : Nat) (aF : List (S103)) (bN : Option Addr) (bO : Nat) (aG : List (S76)) (bP : Option Addr) (bQ : Nat) (aC : List (S55)) (bR : Option Addr) (bS : Nat) (aA : List (S55)) (r : Bool) (w : World) (jB : Kd.C k107 w cZ aK.length aK) (jC : aK.length ≤ dA) (jD : Kd.C k128 w dB aL.length aL) (jE : aL.length ≤ dC) (jF : Kd.C k103 w dD aM.length aM) (jG : aM.length ≤ dE) (jH : Kd.C k103 w dF aN.length aN) (jI : aN.length ≤ dG) (jJ : Kd.C k107 w dH aO.length aO) (jK : aO.length ≤ dI) (jL : Kd.C k128 w dJ aP.length aP) (jM : aP.length ≤ dK) (gB : Kd.C k103 w bJ aE.length aE) (gC : aE.length ≤ bK) (gD : Kd.C k103 w bL aF.length aF) (gE : aF.length ≤ bM) (gF : Kd.C k76 w bN aG.length aG) (gG : aG.length ≤ bO) (gH : Kd.C k55 w bP aC.length aC) (gI : aC.length ≤ bQ) (gJ : Kd.C k55 w bR aA.length aA) (gK : aA.length ≤ bS) (h : spec_WorldSafe.f k aQ aK aR aL aM aN aS aO aT aP aE aF aG aC aA = some r) :
  Calls Tryz.prog 5 #[.agg #[.int .i64 aQ, .slice cZ aK.length dA, .int .i64 aR, .slice dB aL.length dC, .slice dD aM.length dE, .slice dF aN.length dG, .int .i64 aS, .slice dH aO.length dI, .int .i64 aT, .slice dJ aP.length dK, .slice bJ aE.length bK, .slice bL aF.length bM, .slice bN aG.length bO, .slice bP aC.length bQ, .slice bR aA.length bS]] w fun e w' => e = .returned (.bool r) ∧ Below w.heap.size w w' := by
 have mU := Tryz.underlying45
 have mV := Tryz.underlying55
 have eA := Aside0.mk jB
 have eB := Aside0.mk jC
 clear jB jC
 have eC := Aside0.mk jD
 have eD := Aside0.mk jE
 clear jD jE
 have eE := Aside0.mk jF
 have eF := Aside0.mk jG
 clear jF jG
 have eG := Aside0.mk jH
 have eH := Aside0.mk jI
 clear jH jI
 have eI := Aside0.mk jJ
 have eJ := Aside0.mk jK
 clear jJ jK
 have eK := Aside0.mk jL
 have eL := Aside0.mk jM
 clear jL jM
 have cQ := Aside0.mk gB
 have cR := Aside0.mk gC
 clear gB gC
 have cS := Aside0.mk gD
 have cT := Aside0.mk gE
 clear gD gE
 have cU := Aside0.mk gF
 have cV := Aside0.mk gG
 clear gF gG
 have bV := Aside0.mk gH
 have cW := Aside0.mk gI
 clear gH gI
 have aI := Aside0.mk gJ
 have cX := Aside0.mk gK
 clear gJ gK
 have HB := am (Below.refl w.heap.size w)
 have H : ((spec_WorldOk.f k aQ aK aR aL aM aN aS aO aT aP aE aF aG aC aA).bind fun hP => (if hP = true then (spec_WorldSafe.l0 k 0 aQ aK aR aL aM aN aS aO aT aP aE aF aG aC aA) else (some false))) = some r := h
 clear h
 replace H := bm H
 obtain ⟨hP, mQ, H⟩ := H
 replace H : (if hP = true then (spec_WorldSafe.l0 k 0 aQ aK aR aL aM aN aS aO aT aP aE aF aG aC aA) else (some false)) = some r := H
 have A2 := Aside0.mk mQ
 clear mQ
 by_cases c3 : hP = true
 ·subst c3
  have H1 := pf H
  clear H
  have H := H1
  clear H1
  have H' := Aside0.mk H
  clear H
  go_enter Tryz.func5, Tryz.ntmps5
  go_wp2_with (first | ((with_reducible refine gate_dst (N := 1) rfl ?_); refine box_event rfl (N := 1) rfl (cs := #[.int .i64 aQ, .slice cZ aK.length dA, .int .i64 aR, .slice dB aL.length dC, .slice dD aM.length dE, .slice dF aN.length dG, .int .i64 aS, .slice dH aO.length dI, .int .i64 aT, .slice dJ aP.length dK, .slice bJ aE.length bK, .slice bL aF.length bM, .slice bN aG.length bO, .slice bP aC.length bQ, .slice bR aA.length bS]) (t := 45) BX ?_; intro cY hg w4 bT hb; have aB := am (bT); have bU := am (GH HB hg); have aJ := bU; replace HB := bl (KL HB) hb; clear hb bT hg; obtain ⟨dL, dM, dN, dO, dP, dQ, dR, dS, dT, dU, bW, bX, bY, bZ, cA, dV⟩ := y15 w4 aB.out) | (go_at_call 12; (with_reducible refine (spec_WorldOk.calls k aQ _ _ aK aR _ _ aL _ _ aM _ _ aN aS _ _ aO aT _ _ aP _ _ aE _ _ aF _ _ aG _ _ aC _ _ aA true _ ?_ ?_ ?_ ?_ ?_ ?_ ?_ ?_ ?_ ?_ ?_ ?_ ?_ ?_ ?_ ?_ ?_ ?_ ?_ ?_ ?_ ?_ A2.out).mono ?_); exact KD eA HB; exact eB.out; exact KD eC HB; exact eD.out; exact KD eE HB; exact eF.out; exact KD eG HB; exact eH.out; exact KD eI HB; exact eJ.out; exact KD eK HB; exact eL.out; exact KD cQ HB; exact cR.out; exact KD cS HB; exact cT.out; exact KD cU HB; exact cV.out; exact KD bV HB; exact cW.out; exact KD aI HB; exact cX.out; rintro e w6 ⟨rfl, hb⟩; replace aB := am (BB aB hb); replace HB := bl (K1 HB aJ.out) hb; (try clear hb)))
  repeat (go_quiet (first | ((with_reducible refine gate_dst (N := 1) rfl ?_); refine box_event rfl (N := 1) rfl (cs := #[.int .i64 aQ, .slice cZ aK.length dA, .int .i64 aR, .slice dB aL.length dC, .slice dD aM.length dE, .slice dF aN.length dG, .int .i64 aS, .slice dH aO.length dI, .int .i64 aT, .slice dJ aP.length dK, .slice bJ aE.length bK, .slice bL aF.length bM, .slice bN aG.length bO, .slice bP aC.length bQ, .slice bR aA.length bS]) (t := 45) BX ?_; intro cY hg w4 bT hb; have aB := am (bT); have bU := am (GH HB hg); have aJ := bU; replace HB := bl (KL HB) hb; clear hb bT hg; obtain ⟨dL, dM, dN, dO, dP, dQ, dR, dS, dT, dU, bW, bX, bY, bZ, cA, dV⟩ := y15 w4 aB.out) | (go_at_call 12; (with_reducible refine (spec_WorldOk.calls k aQ _ _ aK aR _ _ aL _ _ aM _ _ aN aS _ _ aO aT _ _ aP _ _ aE _ _ aF _ _ aG _ _ aC _ _ aA true _ ?_ ?_ ?_ ?_ ?_ ?_ ?_ ?_ ?_ ?_ ?_ ?_ ?_ ?_ ?_ ?_ ?_ ?_ ?_ ?_ ?_ ?_ A2.out).mono ?_); exact KD eA HB; exact eB.out; exact KD eC HB; exact eD.out; exact KD eE HB; exact eF.out; exact KD eG HB; exact eH.out; exact KD eI HB; exact eJ.out; exact KD eK HB; exact eL.out; exact KD cQ HB; exact cR.out; exact KD cS HB; exact cT.out; exact KD cU HB; exact cV.out; exact KD bV HB; exact cW.out; exact KD aI HB; exact cX.out; rintro e w6 ⟨rfl, hb⟩; replace aB := am (BB aB hb); replace HB := bl (K1 HB aJ.out) hb; (try clear hb))); try go_wp2_with (first | ((with_reducible refine gate_dst (N := 1) rfl ?_); refine box_event rfl (N := 1) rfl (cs := #[.int .i64 aQ, .slice cZ aK.length dA, .int .i64 aR, .slice dB aL.length dC, .slice dD aM.length dE, .slice dF aN.length dG, .int .i64 aS, .slice dH aO.length dI, .int .i64 aT, .slice dJ aP.length dK, .slice bJ aE.length bK, .slice bL aF.length bM, .slice bN aG.length bO, .slice bP aC.length bQ, .slice bR aA.length bS]) (t := 45) BX ?_; intro cY hg w4 bT hb; have aB := am (bT); have bU := am (GH HB hg); have aJ := bU; replace HB := bl (KL HB) hb; clear hb bT hg; obtain ⟨dL, dM, dN, dO, dP, dQ, dR, dS, dT, dU, bW, bX, bY, bZ, cA, dV⟩ := y15 w4 aB.out) | (go_at_call 12; (with_reducible refine (spec_WorldOk.calls k aQ _ _ aK aR _ _ aL _ _ aM _ _ aN aS _ _ aO aT _ _ aP _ _ aE _ _ aF _ _ aG _ _ aC _ _ aA true _ ?_ ?_ ?_ ?_ ?_ ?_ ?_ ?_ ?_ ?_ ?_ ?_ ?_ ?_ ?_ ?_ ?_ ?_ ?_ ?_ ?_ ?_ A2.out).mono ?_); exact KD eA HB; exact eB.out; exact KD eC HB; exact eD.out; exact KD eE HB; exact eF.out; exact KD eG HB; exact eH.out; exact KD eI HB; exact eJ.out; exact KD eK HB; exact eL.out; exact KD cQ HB; exact cR.out; exact KD cS HB; exact cT.out; exact KD cU HB; exact cV.out; exact KD bV HB; exact cW.out; exact KD aI HB; exact cX.out; rintro e w6 ⟨rfl, hb⟩; replace aB := am (BB aB hb); replace HB := bl (K1 HB aJ.out) hb; (try clear hb))))
  go_loopg [3] k (fun kq v3 w' => ∃ (aD : Int), v3 = .int .i64 aD ∧ Aside0 (spec_WorldSafe.l0 kq aD aQ aK aR aL aM aN aS aO aT aP aE aF aG aC aA = some r) ∧ Aside0 (kq ≤ k) ∧ Aside0 (w'.heap[cY]? = some (.cells #[.int .i64 aQ, (.slice cZ aK.length dA), .int .i64 aR, (.slice dB aL.length dC), (.slice dD aM.length dE), (.slice dF aN.length dG), .int .i64 aS, (.slice dH aO.length dI), .int .i64 aT, (.slice dJ aP.length dK), (.slice bJ aE.length bK), (.slice bL aF.length bM), (.slice bN aG.length bO), (.slice bP aC.length bQ), (.slice bR aA.length bS)] 45 (0, 0))) ∧ Aside0 (Below w.heap.size w w'))
  case atStart => exact ⟨(0), (by first | rfl | (simp; done) | (simp [*]; done)), H', ⟨Nat.le_refl _⟩, ⟨KB aB⟩, ⟨K1 HB aJ.out⟩⟩
  case round =>
   clear H'
   try clear p2
   try clear c3
   try clear c5
   try clear dL dM bW bX bY bZ cA dN dO dP dQ dR dS dT dU dV
   obtain ⟨aD, rfl, HA, HK1, aB, HB⟩ := hrel
   cases gk with
   | zero => exact absurd HA.out (by simp [spec_WorldSafe.l0])
   | succ k1 =>
    have H := HA.out
    clear HA
    simp only [spec_WorldSafe.l0] at H
    by_cases c7 : aD < (aA.length : Int)
    ·rw [if_pos c7] at H
     have c7b0 : decide (aD < (aA.length : Int)) = true := decide_eq_true c7
     clear c7
     have H' := Aside0.mk H
     clear H
     obtain ⟨gL, gM, gN, gO, gP, gQ, gR, gS, gT, gU, fK, fL, fM, fN, fO, gV⟩ := y15 wr aB.out
     go_wp2
     repeat (go_quiet (fail); try go_wp2)
     go_loopg [4, 5] k1 (fun kq v4 v5 w' => ∃ (gA : Bool) (bI : Int), v4 = .bool gA ∧ v5 = .int .i64 bI ∧ Aside0 (spec_WorldSafe.l1 kq aD gA bI aQ aK aR aL aM aN aS aO aT aP aE aF aG aC aA = some r) ∧ Aside0 (kq ≤ k1) ∧ Aside0 (w'.heap[cY]? = some (.cells #[.int .i64 aQ, (.slice cZ aK.length dA), .int .i64 aR, (.slice dB aL.length dC), (.slice dD aM.length dE), (.slice dF aN.length dG), .int .i64 aS, (.slice dH aO.length dI), .int .i64 aT, (.slice dJ aP.length dK), (.slice bJ aE.length bK), (.slice bL aF.length bM), (.slice bN aG.length bO), (.slice bP aC.length bQ), (.slice bR aA.length bS)] 45 (0, 0))) ∧ Aside0 (Below w.heap.size w w'))
     case atStart => exact ⟨(false), (0), (by first | rfl | (simp; done) | (simp [*]; done)), (by first | rfl | (simp; done) | (simp [*]; done)), H', ⟨Nat.le_refl _⟩, ⟨KB aB⟩, ⟨K1 HB aJ.out⟩⟩
     case round =>
      clear H'
      try clear p2
      try clear c3
      try clear c5
      try clear c7
      try clear c7b0
      try clear dL dM bW bX bY bZ cA dN dO dP dQ dR dS dT dU dV
      try clear gL gM fK fL fM fN fO gN gO gP gQ gR gS gT gU gV
      try clear p2
      obtain ⟨gA, bI, rfl, rfl, HA, HK2, aB, HB⟩ := hrel
      cases gk with
      | zero => exact absurd HA.out (by simp [spec_WorldSafe.l1])
      | succ k2 =>
       have H := HA.out
       clear HA
       simp only [spec_WorldSafe.l1] at H
       by_cases c9 : bI < (aC.length : Int)
       ·rw [if_pos c9] at H
        have c9b0 : decide (bI < (aC.length : Int)) = true := decide_eq_true c9
        clear c9
        by_cases jS : gA = true
        ·subst jS
         have H1 := pf H
         clear H
         have H := H1
         clear H1
         have H' := Aside0.mk H
         clear H
         obtain ⟨hQ, hR, hS, hT, hU, hV, hW, hX, hY, hZ, gW, gX, gY, gZ, hA, iA⟩ := y15 wr aB.out
         go_wp2
         repeat (go_quiet (fail); try go_wp2)
         go_roundg k2
         case measure => have := HK1.out; have := HK2.out; omega
         case rel => exact ⟨(true), (wrap64 (bI + 1)), (by first | rfl | (simp; done) | (simp [*]; done)), (by first | rfl | (simp; done) | (simp [*]; done)), H', ⟨by have := HK1.out; have := HK2.out; omega⟩, ⟨KB aB⟩, ⟨K1 HB aJ.out⟩⟩
        ·replace jS := Bool.eq_false_iff.mpr jS
         subst jS
         have H1 := nf H
         clear H
         have H := H1
         clear H1
         by_cases jT : 0 ≤ bI
         ·rw [if_pos jT] at H
          have c12b0 : decide (0 ≤ bI) = true := decide_eq_true jT
          clear jT
          by_cases jU : 0 ≤ aD
          ·rw [if_pos jU] at H
           have c13b0 : decide (0 ≤ aD) = true := decide_eq_true jU
           clear jU
           by_cases jV : aD < (aA.length : Int)
           ·rw [if_pos jV] at H
            have c14b0 : decide (aD < (aA.length : Int)) = true := decide_eq_true jV
            clear jV
            have H' := Aside0.mk H
            clear H
            obtain ⟨iB, iC, iD, iE, iF, iG, iH, iI, iJ, iK, hB, hC, hD, hE, hF, iL⟩ := y15 wr aB.out
            have iM : 0 ≤ (bI : Int) := OD
            have iN : bI < (aC.length : Int) := OD
            obtain ⟨_, mO, eM, eN, eO, eP, eQ, eR, eS⟩ := at_T55 bV.out bI iM iN
            cases mO
            replace eM := CX HB.out eM
            replace eN := CX HB.out eN
            replace eO := CX HB.out eO
            replace eP := CX HB.out eP
            replace eQ := CX HB.out eQ
            replace eR := CX HB.out eR
            replace eS := CX HB.out eS
            replace iM := eq_true iM
            replace iN := eq_true iN
            have iO : 0 ≤ (aD : Int) := OD
            have iP : aD < (aA.length : Int) := OD
            obtain ⟨_, mP, eT, eU, eV, eW, eX, eY, eZ⟩ := at_T55 aI.out aD iO iP
            cases mP
            replace eT := CX HB.out eT
            replace eU := CX HB.out eU
            replace eV := CX HB.out eV
            replace eW := CX HB.out eW
            replace eX := CX HB.out eX
            replace eY := CX HB.out eY
            replace eZ := CX HB.out eZ
            replace iO := eq_true iO
            replace iP := eq_true iP
            go_wp2
            repeat (go_quiet (fail); try go_wp2)
            go_roundg k2
            case measure => have := HK1.out; have := HK2.out; omega
            case rel => exact ⟨(((((rd_T55 aC bI).f0.f0) == ((rd_T55 aA aD).f0.f0) && (((rd_T55 aC bI).f0.f1) == ((rd_T55 aA aD).f0.f1) && (((rd_T55 aC bI).f0.f2) == ((rd_T55 aA aD).f0.f2) && ((((rd_T55 aC bI).f0.f3).toList) == (((rd_T55 aA aD).f0.f3).toList))))) && (((rd_T55 aC bI).f1) == ((rd_T55 aA aD).f1) && (((rd_T55 aC bI).f2) == ((rd_T55 aA aD).f2) && (((rd_T55 aC bI).f3) == ((rd_T55 aA aD).f3)))))), (wrap64 (bI + 1)), (by first | rfl | (simp; done) | (simp [*]; done)), (by first | rfl | (simp; done) | (simp [*]; done)), H', ⟨by have := HK1.out; have := HK2.out; omega⟩, ⟨KB aB⟩, ⟨K1 HB aJ.out⟩⟩
           ·rw [if_neg jV] at H
            exact absurd H (by simp)
          ·rw [if_neg jU] at H
           exact absurd H (by simp)
         ·rw [if_neg jT] at H
          exact absurd H (by simp)
       ·rw [if_neg c9] at H
        have c9b0 : decide (bI < (aC.length : Int)) = false := decide_eq_false c9
        clear c9
        have H' := Aside0.mk H
        clear H
        obtain ⟨iQ, iR, iS, iT, iU, iV, iW, iX, iY, iZ, hG, hH, hI, hJ, hK, jA⟩ := y15 wr aB.out
        go_wp2
        repeat (go_quiet (fail); try go_wp2)
        go_loopg [6] k2 (fun kq v6 w' => ∃ (aH : Int), v6 = .int .i64 aH ∧ Aside0 (spec_WorldSafe.l2 kq aD gA aH aQ aK aR aL aM aN aS aO aT aP aE aF aG aC aA = some r) ∧ Aside0 (kq ≤ k2) ∧ Aside0 (w'.heap[cY]? = some (.cells #[.int .i64 aQ, (.slice cZ aK.length dA), .int .i64 aR, (.slice dB aL.length dC), (.slice dD aM.length dE), (.slice dF aN.length dG), .int .i64 aS, (.slice dH aO.length dI), .int .i64 aT, (.slice dJ aP.length dK), (.slice bJ aE.length bK), (.slice bL aF.length bM), (.slice bN aG.length bO), (.slice bP aC.length bQ), (.slice bR aA.length bS)] 45 (0, 0))) ∧ Aside0 (Below w.heap.size w w'))
        case atStart => exact ⟨(0), (by first | rfl | (simp; done) | (simp [*]; done)), H', ⟨Nat.le_refl _⟩, ⟨KB aB⟩, ⟨K1 HB aJ.out⟩⟩
        case round =>
         clear H'
         try clear c1
         try clear p1
         try clear q1
         try clear mX
         try clear p2
         try clear c3
         try clear c5
         try clear p6
         try clear c7
         try clear c7b0
         try clear c9
         try clear c9b0
         try clear jS
         try clear mY
         try clear mZ
         try clear mW
         try clear jT
         try clear c12b0
         try clear jU
         try clear c13b0
         try clear jV
         try clear c14b0
         try clear hQ hR gW gX gY gZ hA hS hT hU hV hW hX hY hZ iA
         try clear iB iC hB hC hD hE hF iD iE iF iG iH iI iJ iK iL
         try clear iQ iR hG hH hI hJ hK iS iT iU iV iW iX iY iZ jA
         try clear dL dM bW bX bY bZ cA dN dO dP dQ dR dS dT dU dV
         try clear gL gM fK fL fM fN fO gN gO gP gQ gR gS gT gU gV
         try clear eM
         try clear eN
         try clear eO
         try clear eP
         try clear eQ
         try clear eR
         try clear eS
         try clear eT
         try clear eU
         try clear eV
         try clear eW
         try clear eX
         try clear eY
         try clear eZ
         try clear iM
         try clear iO
         try clear p2
         try clear iN
         try clear iP
         obtain ⟨aH, rfl, HA, HK3, aB, HB⟩ := hrel
         cases gk with
         | zero => exact absurd HA.out (by simp [spec_WorldSafe.l2])
         | succ k3 =>
          have H := HA.out
          clear HA
          simp only [spec_WorldSafe.l2] at H
          by_cases jR : aH < aD
          ·rw [if_pos jR] at H
           have c17b0 : decide (aH < aD) = true := decide_eq_true jR
           clear jR
           by_cases kR : 0 ≤ aH
           ·rw [if_pos kR] at H
            have c18b0 : decide (0 ≤ aH) = true := decide_eq_true kR
            clear kR
            by_cases kS : aH < (aA.length : Int)
            ·rw [if_pos kS] at H
             have c19b0 : decide (aH < (aA.length : Int)) = true := decide_eq_true kS
             clear kS
             by_cases kT : 0 ≤ aD
             ·rw [if_pos kT] at H
              have c20b0 : decide (0 ≤ aD) = true := decide_eq_true kT
              clear kT
              by_cases kU : aD < (aA.length : Int)
              ·rw [if_pos kU] at H
               have c21b0 : decide (aD < (aA.length : Int)) = true := decide_eq_true kU
               clear kU
               by_cases jN : ((rd_T55 aA aH).f2) = ((rd_T55 aA aD).f2)
               ·rw [if_pos jN] at H
                have c22b0 : (((rd_T55 aA aH).f2) == ((rd_T55 aA aD).f2)) = true := beq_iff_eq.mpr jN
                have c22b1 : (((rd_T55 aA aH).f2) != ((rd_T55 aA aD).f2)) = false := bne_eq_false_iff_eq.mpr jN
                clear jN
                by_cases jO : ((rd_T55 aA aH).f3) = ((rd_T55 aA aD).f3)
                ·rw [if_pos jO] at H
                 have c23b0 : (((rd_T55 aA aH).f3) == ((rd_T55 aA aD).f3)) = true := beq_iff_eq.mpr jO
                 have c23b1 : (((rd_T55 aA aH).f3) != ((rd_T55 aA aD).f3)) = false := bne_eq_false_iff_eq.mpr jO
                 clear jO
                 obtain rfl := sj H
                 have ⟨_, _, _, _, _, _, _, _, _, _, _, _, _, _, _, _⟩ := y15 wr aB.out
                 have dW : 0 ≤ (aH : Int) := OD
                 have dX : aH < (aA.length : Int) := OD
                 obtain ⟨cB, hL, aU, aV, aW, aX, aY, aZ, bA⟩ := at_T55 aI.out aH dW dX
                 cases hL
                 replace aU := CX HB.out aU
                 replace aV := CX HB.out aV
                 replace aW := CX HB.out aW
                 replace aX := CX HB.out aX
                 replace aY := CX HB.out aY
                 replace aZ := CX HB.out aZ
                 replace bA := CX HB.out bA
                 replace dW := eq_true dW
                 replace dX := eq_true dX
                 have dY : 0 ≤ (aD : Int) := OD
                 have dZ : aD < (aA.length : Int) := OD
                 obtain ⟨fA, hM, bB, bC, bD, bE, bF, bG, bH⟩ := at_T55 aI.out aD dY dZ
                 obtain rfl : cB = fA := (by injection hM)
                 replace bB := CX HB.out bB
                 replace bC := CX HB.out bC
                 replace bD := CX HB.out bD
                 replace bE := CX HB.out bE
                 replace bF := CX HB.out bF
                 replace bG := CX HB.out bG
                 replace bH := CX HB.out bH
                 replace dY := eq_true dY
                 replace dZ := eq_true dZ
                 have fG : 0 ≤ (aH : Int) := OD
                 have fH : aH < (aA.length : Int) := OD
                 obtain ⟨hN, jP, cC, cD, cE, cF, cG, cH, cI⟩ := at_T55 aI.out aH fG fH
                 obtain rfl : cB = hN := (by injection jP)
                 replace cC := CX HB.out cC
                 replace cD := CX HB.out cD
                 replace cE := CX HB.out cE
                 replace cF := CX HB.out cF
                 replace cG := CX HB.out cG
                 replace cH := CX HB.out cH
                 replace cI := CX HB.out cI
                 replace fG := eq_true fG
                 replace fH := eq_true fH
                 have fI : 0 ≤ (aD : Int) := OD
                 have fJ : aD < (aA.length : Int) := OD
                 obtain ⟨hO, jQ, cJ, cK, cL, cM, cN, cO, cP⟩ := at_T55 aI.out aD fI fJ
                 obtain rfl : cB = hO := (by injection jQ)
                 replace cJ := CX HB.out cJ
                 replace cK := CX HB.out cK
                 replace cL := CX HB.out cL
                 replace cM := CX HB.out cM
                 replace cN := CX HB.out cN
                 replace cO := CX HB.out cO
                 replace cP := CX HB.out cP
                 replace fI := eq_true fI
                 replace fJ := eq_true fJ
                 go_wp2
                 repeat (go_quiet (fail); try go_wp2)
                 go_ret
                 exact ⟨ER, K1 HB aJ.out⟩
                ·rw [if_neg jO] at H
                 have c23b0 : (((rd_T55 aA aH).f3) == ((rd_T55 aA aD).f3)) = false := beq_eq_false_iff_ne.mpr jO
                 have c23b1 : (((rd_T55 aA aH).f3) != ((rd_T55 aA aD).f3)) = true := bne_iff_ne.mpr jO
                 have H' := Aside0.mk H
                 clear H
                 have ⟨_, _, _, _, _, _, _, _, _, _, _, _, _, _, _, _⟩ := y15 wr aB.out
                 have dW : 0 ≤ (aH : Int) := OD
                 have dX : aH < (aA.length : Int) := OD
                 obtain ⟨cB, hL, aU, aV, aW, aX, aY, aZ, bA⟩ := at_T55 aI.out aH dW dX
                 cases hL
                 replace aU := CX HB.out aU
                 replace aV := CX HB.out aV
                 replace aW := CX HB.out aW
                 replace aX := CX HB.out aX
                 replace aY := CX HB.out aY
                 replace aZ := CX HB.out aZ
                 replace bA := CX HB.out bA
                 replace dW := eq_true dW
                 replace dX := eq_true dX
                 have dY : 0 ≤ (aD : Int) := OD
                 have dZ : aD < (aA.length : Int) := OD
                 obtain ⟨fA, hM, bB, bC, bD, bE, bF, bG, bH⟩ := at_T55 aI.out aD dY dZ
                 obtain rfl : cB = fA := (by injection hM)
                 replace bB := CX HB.out bB
                 replace bC := CX HB.out bC
                 replace bD := CX HB.out bD
                 replace bE := CX HB.out bE
                 replace bF := CX HB.out bF
                 replace bG := CX HB.out bG
                 replace bH := CX HB.out bH
                 replace dY := eq_true dY
                 replace dZ := eq_true dZ
                 have fG : 0 ≤ (aH : Int) := OD
                 have fH : aH < (aA.length : Int) := OD
                 obtain ⟨hN, jP, cC, cD, cE, cF, cG, cH, cI⟩ := at_T55 aI.out aH fG fH
                 obtain rfl : cB = hN := (by injection jP)
                 replace cC := CX HB.out cC
                 replace cD := CX HB.out cD
                 replace cE := CX HB.out cE
                 replace cF := CX HB.out cF
                 replace cG := CX HB.out cG
                 replace cH := CX HB.out cH
                 replace cI := CX HB.out cI
                 replace fG := eq_true fG
                 replace fH := eq_true fH
                 have fI : 0 ≤ (aD : Int) := OD
                 have fJ : aD < (aA.length : Int) := OD
                 obtain ⟨hO, jQ, cJ, cK, cL, cM, cN, cO, cP⟩ := at_T55 aI.out aD fI fJ
                 obtain rfl : cB = hO := (by injection jQ)
                 replace cJ := CX HB.out cJ
                 replace cK := CX HB.out cK
                 replace cL := CX HB.out cL
                 replace cM := CX HB.out cM
                 replace cN := CX HB.out cN
                 replace cO := CX HB.out cO
                 replace cP := CX HB.out cP
                 replace fI := eq_true fI
                 replace fJ := eq_true fJ
                 go_wp2
                 repeat (go_quiet (fail); try go_wp2)
                 go_roundg k3
                 case measure => have := HK1.out; have := HK2.out; have := HK3.out; omega
                 case rel => exact ⟨(wrap64 (aH + 1)), (by first | rfl | (simp; done) | (simp [*]; done)), H', ⟨by have := HK1.out; have := HK2.out; have := HK3.out; omega⟩, ⟨KB aB⟩, ⟨K1 HB aJ.out⟩⟩
               ·rw [if_neg jN] at H
                have c22b0 : (((rd_T55 aA aH).f2) == ((rd_T55 aA aD).f2)) = false := beq_eq_false_iff_ne.mpr jN
                have c22b1 : (((rd_T55 aA aH).f2) != ((rd_T55 aA aD).f2)) = true := bne_iff_ne.mpr jN
                have H' := Aside0.mk H
                clear H
                have ⟨_, _, _, _, _, _, _, _, _, _, _, _, _, _, _, _⟩ := y15 wr aB.out
                have dW : 0 ≤ (aH : Int) := OD
                have dX : aH < (aA.length : Int) := OD
                obtain ⟨cB, hL, aU, aV, aW, aX, aY, aZ, bA⟩ := at_T55 aI.out aH dW dX
                cases hL
                replace aU := CX HB.out aU
                replace aV := CX HB.out aV
                replace aW := CX HB.out aW
                replace aX := CX HB.out aX
                replace aY := CX HB.out aY
                replace aZ := CX HB.out aZ
                replace bA := CX HB.out bA
                replace dW := eq_true dW
                replace dX := eq_true dX
                have dY : 0 ≤ (aD : Int) := OD
                have dZ : aD < (aA.length : Int) := OD
                obtain ⟨fA, hM, bB, bC, bD, bE, bF, bG, bH⟩ := at_T55 aI.out aD dY dZ
                obtain rfl : cB = fA := (by injection hM)
                replace bB := CX HB.out bB
                replace bC := CX HB.out bC
                replace bD := CX HB.out bD
                replace bE := CX HB.out bE
                replace bF := CX HB.out bF
                replace bG := CX HB.out bG
                replace bH := CX HB.out bH
                replace dY := eq_true dY
                replace dZ := eq_true dZ
                go_wp2
                repeat (go_quiet (fail); try go_wp2)
                go_roundg k3
                case measure => have := HK1.out; have := HK2.out; have := HK3.out; omega
                case rel => exact ⟨(wrap64 (aH + 1)), (by first | rfl | (simp; done) | (simp [*]; done)), H', ⟨by have := HK1.out; have := HK2.out; have := HK3.out; omega⟩, ⟨KB aB⟩, ⟨K1 HB aJ.out⟩⟩
              ·rw [if_neg kU] at H
               exact absurd H (by simp)
             ·rw [if_neg kT] at H
              exact absurd H (by simp)
            ·rw [if_neg kS] at H
             exact absurd H (by simp)
           ·rw [if_neg kR] at H
            exact absurd H (by simp)
          ·rw [if_neg jR] at H
           have c17b0 : decide (aH < aD) = false := decide_eq_false jR
           clear jR
           by_cases mC : gA = true
           ·subst mC
            have H1 := pf H
            clear H
            have H := H1
            clear H1
            have H' := Aside0.mk H
            clear H
            go_wp2
            repeat (go_quiet (fail); try go_wp2)
            go_roundg k3
            case measure => have := HK1.out; have := HK2.out; have := HK3.out; omega
            case rel => exact ⟨(wrap64 (aD + 1)), (by first | rfl | (simp; done) | (simp [*]; done)), H', ⟨by have := HK1.out; have := HK2.out; have := HK3.out; omega⟩, ⟨KB aB⟩, ⟨K1 HB aJ.out⟩⟩
           ·replace mC := Bool.eq_false_iff.mpr mC
            subst mC
            have H1 := nf H
            clear H
            have H := H1
            clear H1
            obtain rfl := sj H
            go_wp2
            repeat (go_quiet (fail); try go_wp2)
            go_ret
            exact ⟨ER, K1 HB aJ.out⟩
    ·rw [if_neg c7] at H
     have c7b0 : decide (aD < (aA.length : Int)) = false := decide_eq_false c7
     clear c7
     obtain rfl := sj H
     have ⟨_, _, _, _, _, _, _, _, _, _, _, _, _, _, _, _⟩ := y15 wr aB.out
     go_wp2
     repeat (go_quiet (fail); try go_wp2)
     go_ret
     exact ⟨ER, K1 HB aJ.out⟩
 ·replace c3 := Bool.eq_false_iff.mpr c3
  subst c3
  have H1 := nf H
  clear H
  have H := H1
  clear H1
  obtain rfl := sj H
  go_enter Tryz.func5, Tryz.ntmps5
  go_wp2_with (first | ((with_reducible refine gate_dst (N := 1) rfl ?_); refine box_event rfl (N := 1) rfl (cs := #[.int .i64 aQ, .slice cZ aK.length dA, .int .i64 aR, .slice dB aL.length dC, .slice dD aM.length dE, .slice dF aN.length dG, .int .i64 aS, .slice dH aO.length dI, .int .i64 aT, .slice dJ aP.length dK, .slice bJ aE.length bK, .slice bL aF.length bM, .slice bN aG.length bO, .slice bP aC.length bQ, .slice bR aA.length bS]) (t := 45) BX ?_; intro cY hg kQ bT hb; have aB := am (bT); have bU := am (GH HB hg); have aJ := bU; replace HB := bl (KL HB) hb; clear hb bT hg; obtain ⟨fP, fQ, fR, fS, fT, fU, fV, fW, fX, fY, fB, fC, fD, fE, fF, fZ⟩ := y15 kQ aB.out) | (go_at_call 12; (with_reducible refine (spec_WorldOk.calls k aQ _ _ aK aR _ _ aL _ _ aM _ _ aN aS _ _ aO aT _ _ aP _ _ aE _ _ aF _ _ aG _ _ aC _ _ aA false _ ?_ ?_ ?_ ?_ ?_ ?_ ?_ ?_ ?_ ?_ ?_ ?_ ?_ ?_ ?_ ?_ ?_ ?_ ?_ ?_ ?_ ?_ A2.out).mono ?_); exact KD eA HB; exact eB.out; exact KD eC HB; exact eD.out; exact KD eE HB; exact eF.out; exact KD eG HB; exact eH.out; exact KD eI HB; exact eJ.out; exact KD eK HB; exact eL.out; exact KD cQ HB; exact cR.out; exact KD cS HB; exact cT.out; exact KD cU HB; exact cV.out; exact KD bV HB; exact cW.out; exact KD aI HB; exact cX.out; rintro e mT ⟨rfl, hb⟩; replace aB := am (BB aB hb); replace HB := bl (K1 HB aJ.out) hb; (try clear hb)))
  repeat (go_quiet (first | ((with_reducible refine gate_dst (N := 1) rfl ?_); refine box_event rfl (N := 1) rfl (cs := #[.int .i64 aQ, .slice cZ aK.length dA, .int .i64 aR, .slice dB aL.length dC, .slice dD aM.length dE, .slice dF aN.length dG, .int .i64 aS, .slice dH aO.length dI, .int .i64 aT, .slice dJ aP.length dK, .slice bJ aE.length bK, .slice bL aF.length bM, .slice bN aG.length bO, .slice bP aC.length bQ, .slice bR aA.length bS]) (t := 45) BX ?_; intro cY hg kQ bT hb; have aB := am (bT); have bU := am (GH HB hg); have aJ := bU; replace HB := bl (KL HB) hb; clear hb bT hg; obtain ⟨fP, fQ, fR, fS, fT, fU, fV, fW, fX, fY, fB, fC, fD, fE, fF, fZ⟩ := y15 kQ aB.out) | (go_at_call 12; (with_reducible refine (spec_WorldOk.calls k aQ _ _ aK aR _ _ aL _ _ aM _ _ aN aS _ _ aO aT _ _ aP _ _ aE _ _ aF _ _ aG _ _ aC _ _ aA false _ ?_ ?_ ?_ ?_ ?_ ?_ ?_ ?_ ?_ ?_ ?_ ?_ ?_ ?_ ?_ ?_ ?_ ?_ ?_ ?_ ?_ ?_ A2.out).mono ?_); exact KD eA HB; exact eB.out; exact KD eC HB; exact eD.out; exact KD eE HB; exact eF.out; exact KD eG HB; exact eH.out; exact KD eI HB; exact eJ.out; exact KD eK HB; exact eL.out; exact KD cQ HB; exact cR.out; exact KD cS HB; exact cT.out; exact KD cU HB; exact cV.out; exact KD bV HB; exact cW.out; exact KD aI HB; exact cX.out; rintro e mT ⟨rfl, hb⟩; replace aB := am (BB aB hb); replace HB := bl (K1 HB aJ.out) hb; (try clear hb))); try go_wp2_with (first | ((with_reducible refine gate_dst (N := 1) rfl ?_); refine box_event rfl (N := 1) rfl (cs := #[.int .i64 aQ, .slice cZ aK.length dA, .int .i64 aR, .slice dB aL.length dC, .slice dD aM.length dE, .slice dF aN.length dG, .int .i64 aS, .slice dH aO.length dI, .int .i64 aT, .slice dJ aP.length dK, .slice bJ aE.length bK, .slice bL aF.length bM, .slice bN aG.length bO, .slice bP aC.length bQ, .slice bR aA.length bS]) (t := 45) BX ?_; intro cY hg kQ bT hb; have aB := am (bT); have bU := am (GH HB hg); have aJ := bU; replace HB := bl (KL HB) hb; clear hb bT hg; obtain ⟨fP, fQ, fR, fS, fT, fU, fV, fW, fX, fY, fB, fC, fD, fE, fF, fZ⟩ := y15 kQ aB.out) | (go_at_call 12; (with_reducible refine (spec_WorldOk.calls k aQ _ _ aK aR _ _ aL _ _ aM _ _ aN aS _ _ aO aT _ _ aP _ _ aE _ _ aF _ _ aG _ _ aC _ _ aA false _ ?_ ?_ ?_ ?_ ?_ ?_ ?_ ?_ ?_ ?_ ?_ ?_ ?_ ?_ ?_ ?_ ?_ ?_ ?_ ?_ ?_ ?_ A2.out).mono ?_); exact KD eA HB; exact eB.out; exact KD eC HB; exact eD.out; exact KD eE HB; exact eF.out; exact KD eG HB; exact eH.out; exact KD eI HB; exact eJ.out; exact KD eK HB; exact eL.out; exact KD cQ HB; exact cR.out; exact KD cS HB; exact cT.out; exact KD cU HB; exact cV.out; exact KD bV HB; exact cW.out; exact KD aI HB; exact cX.out; rintro e mT ⟨rfl, hb⟩; replace aB := am (BB aB hb); replace HB := bl (K1 HB aJ.out) hb; (try clear hb))))
  go_ret
  exact ⟨ER, K1 HB aJ.out⟩
end Go.Proofs.YtgjbbnmjeblcgaaGreat.PAll
end
section
namespace Go.Proofs.YtgjbbnmjeblcgaaGreat.PAll
open Go.RowKit Go.Proofs.YtgjbbnmjeblcgaaGreatW.PrintWords Go.Proofs.YtgjbbnmjeblcgaaGreatW.PrintLast Go.Proofs.YtgjbbnmjeblcgaaGreatW.PrintMore
attribute [local go_sem] max2_int min2_int max_two min_two max_three min_three max_four min_four
set_option linter.unusedVariables false
set_option linter.unusedSimpArgs false
def impl_isAddr.f (a0 : Int) : Option (Bool) := (impl_in.f a0 0 4294967295).bind fun t101 => (some t101)
theorem impl_isAddr.calls (a0 : Int) (r : Bool) (w : World) (h : impl_isAddr.f a0 = some r) :
  Calls Tryz.prog 88 #[.int .i64 a0] w fun e w' => e = .returned (.bool r) ∧ Drawn0 w w' := by
 have H : ((impl_in.f a0 0 4294967295).bind fun aA => (some aA)) = some r := h
 clear h
 replace H := bm H
 obtain ⟨aA, aB, H⟩ := H
 replace H : (some aA) = some r := H
 have A2 := Aside0.mk aB
 clear aB
 obtain rfl := sj H
 go_enter Tryz.func88, Tryz.ntmps88
 go_wp2_with (first | ((with_reducible refine gate_callee (f := 51) rfl ?_); refine goesL_ (some 4) rfl rfl Tryz.func51 (by kernel_rfl) rfl #[.int .i64 a0, .int .i64 0, .int .i64 4294967295] rfl MT ?_; (with_reducible refine (impl_in.calls a0 0 4294967295 aA _ A2.out).mono ?_); rintro e w' ⟨rfl, ⟨nd, rfl⟩⟩; refine ⟨_, rfl, ?_⟩))
 go_ret
 exact ⟨by first | rfl | (simp; done) | (simp [*]; done), by repeat (first | exact Drawn0.refl _ | apply Drawn0.step)⟩
def impl_BlockOk.f (a0_0 : Int) (a0_1 : Int) : Option (Bool) := (impl_isAddr.f a0_0).bind fun t102 => (if t102 = true then ((impl_in.f a0_1 0 32).bind fun t103 => (if t103 = true then ((impl_Block_size.f a0_0 a0_1).bind fun t104 => (if t104 = 0 then (none) else (some ((Int.tmod a0_0 t104) == 0)))) else (some false))) else (some false))
def impl_BlockOk.T1 : Bool × List (List Nat × List Nat) := (true, [([], []), ([0], [0]), ([1], [1]), ([2, 2], [2]), ([3], [3]), ([4, 3], [3, 4]), ([5, 3, 3], [3, 5]), ([3, 6], [3, 6]), ([7, 6], [7]), ([8], [8]), ([9, 8], [8, 9]), ([8], [8]), ([11, 8, 8], [8, 11]), ([10, 12, 8], [8, 10, 12]), ([13, 8], [8, 13]), ([8, 14], [8, 14]), ([15, 12, 0, 1, 2, 3, 4, 5, 6, 7, 8, 9, 10, 11, 12, 13, 14, 15], [15])])
def impl_BlockOk.B1 : List Nat := [0, 1, 3, 7, 15, 31, 63, 127, 255, 511, 1023, 511, 2559, 8191, 16383, 32767, 65535]
theorem impl_BlockOk.tab1 : rtab .any (opsOf Tryz.f99 1) = impl_BlockOk.T1 := by kernel_rfl
theorem impl_BlockOk.bits1 : waitsOk impl_BlockOk.T1.2 impl_BlockOk.B1 = true := by kernel_rfl
theorem impl_BlockOk.calls (aD : Int) (aE : Int) (r : Bool) (w : World) (h : impl_BlockOk.f aD aE = some r) :
  Calls Tryz.prog 99 #[.agg #[.int .i64 aD, .int .i64 aE]] w fun e w' => e = .returned (.bool r) ∧ Below w.heap.size w w' := by
 have aN := Tryz.underlying105
 have HB := am (Below.refl w.heap.size w)
 have H : ((impl_isAddr.f aD).bind fun aL => (if aL = true then ((impl_in.f aE 0 32).bind fun aK => (if aK = true then ((impl_Block_size.f aD aE).bind fun aF => (if aF = 0 then (none) else (some ((Int.tmod aD aF) == 0)))) else (some false))) else (some false))) = some r := h
 clear h
 replace H := bm H
 obtain ⟨aL, aO, H⟩ := H
 replace H : (if aL = true then ((impl_in.f aE 0 32).bind fun aK => (if aK = true then ((impl_Block_size.f aD aE).bind fun aF => (if aF = 0 then (none) else (some ((Int.tmod aD aF) == 0)))) else (some false))) else (some false)) = some r := H
 have A2 := Aside0.mk aO
 clear aO
 by_cases c3 : aL = true
 ·subst c3
  have H1 := pf H
  clear H
  have H := H1
  clear H1
  replace H := bm H
  obtain ⟨aK, aP, H⟩ := H
  replace H : (if aK = true then ((impl_Block_size.f aD aE).bind fun aF => (if aF = 0 then (none) else (some ((Int.tmod aD aF) == 0)))) else (some false)) = some r := H
  have A4 := Aside0.mk aP
  clear aP
  by_cases c5 : aK = true
  ·subst c5
   have H1 := pf H
   clear H
   have H := H1
   clear H1
   replace H := bm H
   obtain ⟨aF, aQ, H⟩ := H
   replace H : (if aF = 0 then (none) else (some ((Int.tmod aD aF) == 0))) = some r := H
   have A6 := Aside0.mk aQ
   clear aQ
   by_cases c7 : aF = 0
   ·rw [if_pos c7] at H
    exact absurd H (by simp)
   ·rw [if_neg c7] at H
    have c7b0 : (aF == 0) = false := beq_eq_false_iff_ne.mpr c7
    have c7b1 : (aF != 0) = true := bne_iff_ne.mpr c7
    obtain rfl := sj H
    go_enter Tryz.func99, Tryz.ntmps99
    try go_wp2_with (first | ((with_reducible refine gate_dst (N := 1) rfl ?_); refine box_event rfl (N := 1) rfl (cs := #[.int .i64 aD, .int .i64 aE]) (t := 105) BX ?_; intro aH hg w8 aI hb; have aA := am (aI); have aJ := am (GH HB hg); have aG := aJ; replace HB := bl (KL HB) hb; clear hb aI hg))
    replace aA := am (blk_drew aA.out)
    replace HB := am (below_drew1 HB.out)
    refine start_ (n := 17) (S := fun w' => de2 w' aH (.int .i64 aD) (.int .i64 aE)) (ds := []) (tf 0 17) (by kernel_rfl) rfl rfl ⟨z0 _ aA.out, z1 _ aA.out⟩ (fun aB => ?_); refine with_tabW impl_BlockOk.tab1 impl_BlockOk.bits1 (fun aC aM => ?_)
    generalize w8.drew = w9 at aA HB aB ⊢
    refine pv aC 0 3 (tf 1 16) ?_
    refine tk 1 (some 4) (tf 2 15) (take_ofW aC.out aM.out (by kernel_rfl)) aB ?_
    refine one_ (i := 2) (N := some 5) (tf 3 14) rfl rfl (one_of aC.out (by kernel_rfl)) (by decide) (fun K hK => ?_)
    refine goes_ Tryz.func88 (by kernel_rfl) rfl #[.int .i64 aD] (by rfl) rfl rfl MT ?_
    with_reducible refine (impl_isAddr.calls aD true _ A2.out).mono ?_
    rintro e w' ⟨rfl, ⟨nd, rfl⟩⟩
    refine ⟨_, rfl, ?_⟩
    refine hK.out _ _ ⟨z0 _ aA.out, z1 _ aA.out⟩ (fun aB => ?_)
    clear hK K
    refine nm (some 5) ?_
    refine pv aC 3 6 (tf 4 13) ?_
    refine pv aC 4 7 (tf 5 12) ?_
    refine tk 5 (some 8) (tf 6 11) (take_ofW aC.out aM.out (by kernel_rfl)) aB ?_
    refine one_ (i := 6) (N := some 9) (tf 7 10) rfl rfl (one_of aC.out (by kernel_rfl)) (by decide) (fun K hK => ?_)
    refine goes_ Tryz.func51 (by kernel_rfl) rfl #[.int .i64 aE, .int .i64 0, .int .i64 32] (by rfl) rfl rfl MT ?_
    with_reducible refine (impl_in.calls aE 0 32 true _ A4.out).mono ?_
    rintro e w' ⟨rfl, ⟨nd, rfl⟩⟩
    refine ⟨_, rfl, ?_⟩
    refine hK.out _ _ ⟨z0 _ aA.out, z1 _ aA.out⟩ (fun aB => ?_)
    clear hK K
    refine nm (some 9) ?_
    refine pv aC 7 10 (tf 8 9) ?_
    refine pv aC 8 11 (tf 9 8) ?_
    refine pv aC 9 12 (tf 10 7) ?_
    refine tk 10 (some 13) (tf 11 6) (take_ofW aC.out aM.out (by kernel_rfl)) aB ?_
    refine tk 11 (some 14) (tf 12 5) (take_ofW aC.out aM.out (by kernel_rfl)) aB ?_
    refine one_ (i := 12) (N := some 15) (tf 13 4) rfl rfl (one_of aC.out (by kernel_rfl)) (by decide) (fun K hK => ?_)
    refine goes_ Tryz.func102 (by kernel_rfl) rfl #[.agg #[.int .i64 aD, .int .i64 aE]] (by rfl) rfl rfl MT ?_
    with_reducible refine (impl_Block_size.calls aD aE aF _ A6.out).mono ?_
    rintro e aT ⟨rfl, hb⟩
    refine ⟨_, rfl, ?_⟩
    replace aA := am (BB aA hb)
    replace HB := bl (K1 HB aG.out) hb
    (try clear hb)
    (try clear hb2)
    (try clear hk)
    (try clear hi)
    refine hK.out _ _ ⟨z0 _ aA.out, z1 _ aA.out⟩ (fun aB => ?_)
    clear hK K
    refine nm (some 15) ?_
    refine pv aC 13 16 (tf 14 3) ?_
    refine pv aC 14 17 (tf 15 2) ?_
    refine pv aC 15 18 (tf 16 1) ?_
    refine pv aC 16 2 (tf 17 0) ?_
    refine done_ (done_of aC.out (by kernel_rfl)) ?_
    try go_wp2
    go_ret
    exact ⟨ER, K1 HB aG.out⟩
  ·replace c5 := Bool.eq_false_iff.mpr c5
   subst c5
   have H1 := nf H
   clear H
   have H := H1
   clear H1
   obtain rfl := sj H
   go_enter Tryz.func99, Tryz.ntmps99
   try go_wp2_with (first | ((with_reducible refine gate_dst (N := 1) rfl ?_); refine box_event rfl (N := 1) rfl (cs := #[.int .i64 aD, .int .i64 aE]) (t := 105) BX ?_; intro aH hg aR aI hb; have aA := am (aI); have aJ := am (GH HB hg); have aG := aJ; replace HB := bl (KL HB) hb; clear hb aI hg))
   replace aA := am (blk_drew aA.out)
   replace HB := am (below_drew1 HB.out)
   refine start_ (n := 17) (S := fun w' => de2 w' aH (.int .i64 aD) (.int .i64 aE)) (ds := []) (tf 0 17) (by kernel_rfl) rfl rfl ⟨z0 _ aA.out, z1 _ aA.out⟩ (fun aB => ?_); refine with_tabW impl_BlockOk.tab1 impl_BlockOk.bits1 (fun aC aM => ?_)
   generalize aR.drew = aU at aA HB aB ⊢
   refine pv aC 0 3 (tf 1 16) ?_
   refine tk 1 (some 4) (tf 2 15) (take_ofW aC.out aM.out (by kernel_rfl)) aB ?_
   refine one_ (i := 2) (N := some 5) (tf 3 14) rfl rfl (one_of aC.out (by kernel_rfl)) (by decide) (fun K hK => ?_)
   refine goes_ Tryz.func88 (by kernel_rfl) rfl #[.int .i64 aD] (by rfl) rfl rfl MT ?_
   with_reducible refine (impl_isAddr.calls aD true _ A2.out).mono ?_
   rintro e w' ⟨rfl, ⟨nd, rfl⟩⟩
   refine ⟨_, rfl, ?_⟩
   refine hK.out _ _ ⟨z0 _ aA.out, z1 _ aA.out⟩ (fun aB => ?_)
   clear hK K
   refine nm (some 5) ?_
   refine pv aC 3 6 (tf 4 13) ?_
   refine pv aC 4 7 (tf 5 12) ?_
   refine tk 5 (some 8) (tf 6 11) (take_ofW aC.out aM.out (by kernel_rfl)) aB ?_
   refine one_ (i := 6) (N := some 9) (tf 7 10) rfl rfl (one_of aC.out (by kernel_rfl)) (by decide) (fun K hK => ?_)
   refine goes_ Tryz.func51 (by kernel_rfl) rfl #[.int .i64 aE, .int .i64 0, .int .i64 32] (by rfl) rfl rfl MT ?_
   with_reducible refine (impl_in.calls aE 0 32 false _ A4.out).mono ?_
   rintro e w' ⟨rfl, ⟨nd, rfl⟩⟩
   refine ⟨_, rfl, ?_⟩
   refine hK.out _ _ ⟨z0 _ aA.out, z1 _ aA.out⟩ (fun aB => ?_)
   clear hK K
   refine nm (some 9) ?_
   refine pv aC 7 10 (tf 8 9) ?_
   refine pv aC 8 11 (tf 9 8) ?_
   refine pw aC 9 12 (tf 10 7) ?_
   refine pw aC 10 13 (tf 11 6) ?_
   refine pw aC 11 14 (tf 12 5) ?_
   refine pw aC 12 15 (tf 13 4) ?_
   refine pw aC 13 16 (tf 14 3) ?_
   refine pw aC 14 17 (tf 15 2) ?_
   refine pv aC 15 18 (tf 16 1) ?_
   refine pv aC 16 2 (tf 17 0) ?_
   refine done_ (done_of aC.out (by kernel_rfl)) ?_
   try go_wp2
   go_ret
   exact ⟨ER, K1 HB aG.out⟩
 ·replace c3 := Bool.eq_false_iff.mpr c3
  subst c3
  have H1 := nf H
  clear H
  have H := H1
  clear H1
  obtain rfl := sj H
  go_enter Tryz.func99, Tryz.ntmps99
  try go_wp2_with (first | ((with_reducible refine gate_dst (N := 1) rfl ?_); refine box_event rfl (N := 1) rfl (cs := #[.int .i64 aD, .int .i64 aE]) (t := 105) BX ?_; intro aH hg aS aI hb; have aA := am (aI); have aJ := am (GH HB hg); have aG := aJ; replace HB := bl (KL HB) hb; clear hb aI hg))
  replace aA := am (blk_drew aA.out)
  replace HB := am (below_drew1 HB.out)
  refine start_ (n := 17) (S := fun w' => de2 w' aH (.int .i64 aD) (.int .i64 aE)) (ds := []) (tf 0 17) (by kernel_rfl) rfl rfl ⟨z0 _ aA.out, z1 _ aA.out⟩ (fun aB => ?_); refine with_tabW impl_BlockOk.tab1 impl_BlockOk.bits1 (fun aC aM => ?_)
  generalize aS.drew = aV at aA HB aB ⊢
  refine pv aC 0 3 (tf 1 16) ?_
  refine tk 1 (some 4) (tf 2 15) (take_ofW aC.out aM.out (by kernel_rfl)) aB ?_
  refine one_ (i := 2) (N := some 5) (tf 3 14) rfl rfl (one_of aC.out (by kernel_rfl)) (by decide) (fun K hK => ?_)
  refine goes_ Tryz.func88 (by kernel_rfl) rfl #[.int .i64 aD] (by rfl) rfl rfl MT ?_
  with_reducible refine (impl_isAddr.calls aD false _ A2.out).mono ?_
  rintro e w' ⟨rfl, ⟨nd, rfl⟩⟩
  refine ⟨_, rfl, ?_⟩
  refine hK.out _ _ ⟨z0 _ aA.out, z1 _ aA.out⟩ (fun aB => ?_)
  clear hK K
  refine nm (some 5) ?_
  refine pv aC 3 6 (tf 4 13) ?_
  refine pw aC 4 7 (tf 5 12) ?_
  refine pw aC 5 8 (tf 6 11) ?_
  refine pw aC 6 9 (tf 7 10) ?_
  refine pv aC 7 10 (tf 8 9) ?_
  refine pv aC 8 11 (tf 9 8) ?_
  refine pw aC 9 12 (tf 10 7) ?_
  refine pw aC 10 13 (tf 11 6) ?_
  refine pw aC 11 14 (tf 12 5) ?_
  refine pw aC 12 15 (tf 13 4) ?_
  refine pw aC 13 16 (tf 14 3) ?_
  refine pw aC 14 17 (tf 15 2) ?_
  refine pv aC 15 18 (tf 16 1) ?_
  refine pv aC 16 2 (tf 17 0) ?_
  refine done_ (done_of aC.out (by kernel_rfl)) ?_
  try go_wp2
  go_ret
  exact ⟨ER, K1 HB aG.out⟩
def impl_Rule_right.j0 : Nat → Bool → Int → Int → Int → Int → Int → Int → Int → Int → Option (Bool)
 | 0, _, _, _, _, _, _, _, _, _ => none
 | k + 1, x3, x102000, x102001, x102002, x102003, x102004, x102005, x102006, x102007 => (impl_BlockOk.f x102002 x102003).bind fun t103 => (if t103 = true then ((impl_BlockOk.f x102004 x102005).bind fun t104 => (if t104 = true then ((impl_in.f x102006 0 x102007).bind fun t105 => (if t105 = true then (if x102007 ≤ 65535 then ((impl_in.f x102000 0 2).bind fun t106 => (if t106 = true then (some x3) else (some false))) else (some false)) else (some false))) else (some false))) else (some false))
def impl_Rule_right.f (k : Nat) (a0_0 : Int) (a0_1 : Int) (a0_2 : Int) (a0_3 : Int) (a0_4 : Int) (a0_5 : Int) (a0_6 : Int) (a0_7 : Int) : Option (Bool) := if a0_1 = 0 then (impl_Rule_right.j0 k true a0_0 a0_1 a0_2 a0_3 a0_4 a0_5 a0_6 a0_7) else (if a0_0 = 2 then ((impl_in.f a0_1 0 3).bind fun t102 => (impl_Rule_right.j0 k t102 a0_0 a0_1 a0_2 a0_3 a0_4 a0_5 a0_6 a0_7)) else (impl_Rule_right.j0 k false a0_0 a0_1 a0_2 a0_3 a0_4 a0_5 a0_6 a0_7))
theorem impl_Rule_right.calls (k : Nat) (aF : Int) (aG : Int) (aC : Int) (aD : Int) (aH : Int) (aI : Int) (aJ : Int) (aE : Int) (r : Bool) (w : World) (h : impl_Rule_right.f k aF aG aC aD aH aI aJ aE = some r) :
  Calls Tryz.prog 87 #[.agg #[.int .i64 aF, .int .i64 aG, .int .i64 aC, .int .i64 aD, .int .i64 aH, .int .i64 aI, .int .i64 aJ, .int .i64 aE]] w fun e w' => e = .returned (.bool r) ∧ Below w.heap.size w w' := by
 have hM := Tryz.underlying107
 have hN := Tryz.underlying105
 have HB := am (Below.refl w.heap.size w)
 have H : (if aG = 0 then (impl_Rule_right.j0 k true aF aG aC aD aH aI aJ aE) else (if aF = 2 then ((impl_in.f aG 0 3).bind fun aN => (impl_Rule_right.j0 k aN aF aG aC aD aH aI aJ aE)) else (impl_Rule_right.j0 k false aF aG aC aD aH aI aJ aE))) = some r := h
 clear h
 have hL := Aside0.mk H
 clear H
 go_enter Tryz.func87, Tryz.ntmps87
 go_upto_region 1 with (first | ((with_reducible refine gate_dst (N := 1) rfl ?_); refine box_event rfl (N := 1) rfl (cs := #[.int .i64 aF, .int .i64 aG, .int .i64 aC, .int .i64 aD, .int .i64 aH, .int .i64 aI, .int .i64 aJ, .int .i64 aE]) (t := 107) BX ?_; intro bS hg w3 bT hb; have aA := am (bT); have bU := am (GH HB hg); have aB := bU; replace HB := bl (KL HB) hb; clear hb bT hg))
 (try simp only [Act.put, List.setIfInBounds_toArray, List.set_cons_zero, List.set_cons_succ])
 go_cut [3] (fun v3 wc => ∃ (kq : Nat) (aL : Bool), v3 = .bool aL ∧ Aside0 (impl_Rule_right.j0 kq aL aF aG aC aD aH aI aJ aE = some r) ∧ Aside0 (kq ≤ k) ∧ Aside0 (wc.heap[bS]? = some (.cells #[.int .i64 aF, .int .i64 aG, .int .i64 aC, .int .i64 aD, .int .i64 aH, .int .i64 aI, .int .i64 aJ, .int .i64 aE] 107 (0, 0))) ∧ Aside0 (Below w.heap.size w wc))
 case first =>
  have H := hL.out
  clear hL
  by_cases c4 : aG = 0
  ·rw [if_pos c4] at H
   have c4b0 : (aG == 0) = true := beq_iff_eq.mpr c4
   have c4b1 : (aG != 0) = false := bne_eq_false_iff_eq.mpr c4
   clear c4
   (first | rw [c4b0] | (simp only [i64_w, i32_w]; rw [c4b0]) | skip)
   have H' := Aside0.mk H
   clear H
   obtain ⟨aP, aQ, aR, aS, aT, aU, aV, aW, aX⟩ := y8 w3 aA.out
   go_wp2
   go_meet
   case rel => exact ⟨_, (true), (by first | rfl | (simp; done) | (simp [*]; done)), H', ⟨by first | omega | exact Nat.le_refl _⟩, ⟨KB aA⟩, ⟨K1 HB aB.out⟩⟩
  ·rw [if_neg c4] at H
   have c4b0 : (aG == 0) = false := beq_eq_false_iff_ne.mpr c4
   have c4b1 : (aG != 0) = true := bne_iff_ne.mpr c4
   (first | rw [c4b0] | (simp only [i64_w, i32_w]; rw [c4b0]) | skip)
   by_cases c6 : aF = 2
   ·rw [if_pos c6] at H
    have c6b0 : (aF == 2) = true := beq_iff_eq.mpr c6
    have c6b1 : (aF != 2) = false := bne_eq_false_iff_eq.mpr c6
    clear c6
    replace H := bm H
    obtain ⟨aN, hO, H⟩ := H
    replace H : (impl_Rule_right.j0 k aN aF aG aC aD aH aI aJ aE) = some r := H
    have A7 := Aside0.mk hO
    clear hO
    have H' := Aside0.mk H
    clear H
    obtain ⟨aY, aZ, bA, bB, bC, bD, bE, bF, bG⟩ := y8 w3 aA.out
    go_wp2_with (first | (go_at_call 51; (with_reducible refine (impl_in.calls aG 0 3 aN _ A7.out).mono ?_); rintro e w' ⟨rfl, ⟨nd, rfl⟩⟩))
    go_meet
    case rel => exact ⟨_, (aN), (by first | rfl | (simp; done) | (simp [*]; done)), H', ⟨by first | omega | exact Nat.le_refl _⟩, ⟨KB aA⟩, ⟨K1 HB aB.out⟩⟩
   ·rw [if_neg c6] at H
    have c6b0 : (aF == 2) = false := beq_eq_false_iff_ne.mpr c6
    have c6b1 : (aF != 2) = true := bne_iff_ne.mpr c6
    have H' := Aside0.mk H
    clear H
    obtain ⟨bH, bI, bJ, bK, bL, bM, bN, bO, bP⟩ := y8 w3 aA.out
    go_wp2
    go_meet
    case rel => exact ⟨_, (false), (by first | rfl | (simp; done) | (simp [*]; done)), H', ⟨by first | omega | exact Nat.le_refl _⟩, ⟨KB aA⟩, ⟨K1 HB aB.out⟩⟩
 case rest =>
  clear hL
  try clear p2
  try clear c4
  try clear c4b0
  try clear c4b1
  try clear c6
  try clear c6b0
  try clear c6b1
  try clear c8
  try clear aP aQ aR aS aT aU aV aW aX
  try clear aY aZ bA bB bC bD bE bF bG
  try clear bH bI bJ bK bL bM bN bO bP
  obtain ⟨kq, aL, rfl, HA, HJ1, aA, HB⟩ := hcut
  cases kq with
  | zero => exact absurd HA.out (by simp [impl_Rule_right.j0])
  | succ kj1 =>
   have H := HA.out
   clear HA
   simp only [impl_Rule_right.j0] at H
   replace H := bm H
   obtain ⟨bV, bW, H⟩ := H
   replace H : (if bV = true then ((impl_BlockOk.f aH aI).bind fun aO => (if aO = true then ((impl_in.f aJ 0 aE).bind fun aM => (if aM = true then (if aE ≤ 65535 then ((impl_in.f aF 0 2).bind fun aK => (if aK = true then (some aL) else (some false))) else (some false)) else (some false))) else (some false))) else (some false)) = some r := H
   have bQ := Aside0.mk bW
   clear bW
   by_cases cB : bV = true
   ·subst cB
    have H1 := pf H
    clear H
    have H := H1
    clear H1
    replace H := bm H
    obtain ⟨aO, bX, H⟩ := H
    replace H : (if aO = true then ((impl_in.f aJ 0 aE).bind fun aM => (if aM = true then (if aE ≤ 65535 then ((impl_in.f aF 0 2).bind fun aK => (if aK = true then (some aL) else (some false))) else (some false)) else (some false))) else (some false)) = some r := H
    have bY := Aside0.mk bX
    clear bX
    by_cases cC : aO = true
    ·subst cC
     have H1 := pf H
     clear H
     have H := H1
     clear H1
     replace H := bm H
     obtain ⟨aM, bZ, H⟩ := H
     replace H : (if aM = true then (if aE ≤ 65535 then ((impl_in.f aF 0 2).bind fun aK => (if aK = true then (some aL) else (some false))) else (some false)) else (some false)) = some r := H
     have cD := Aside0.mk bZ
     clear bZ
     by_cases cE : aM = true
     ·subst cE
      have H1 := pf H
      clear H
      have H := H1
      clear H1
      by_cases bR : aE ≤ 65535
      ·rw [if_pos bR] at H
       have c16b0 : decide (aE ≤ 65535) = true := decide_eq_true bR
       clear bR
       replace H := bm H
       obtain ⟨aK, cA, H⟩ := H
       replace H : (if aK = true then (some aL) else (some false)) = some r := H
       have hP := Aside0.mk cA
       clear cA
       by_cases cF : aK = true
       ·subst cF
        have H1 := pf H
        clear H
        have H := H1
        clear H1
        obtain rfl := sj H
        have ⟨_, _, _, _, _, _, _, _, _⟩ := y8 wc aA.out
        go_wp2_with (first | ((with_reducible refine gate_callee (f := 99) rfl ?_); refine goesL_ (some 19) rfl rfl Tryz.func99 (by kernel_rfl) rfl #[.agg #[.int .i64 aC, .int .i64 aD]] rfl MT ?_; (with_reducible refine (impl_BlockOk.calls aC aD true _ bQ.out).mono ?_); rintro e hQ ⟨rfl, hb⟩; refine ⟨_, rfl, ?_⟩; replace aA := am (BB aA hb); replace HB := bl (K1 HB aB.out) hb; (try clear hb); have ⟨_, _, _, _, _, _, _, _, _⟩ := y8 hQ aA.out) | (go_at_call 99; (with_reducible refine (impl_BlockOk.calls aH aI true _ bY.out).mono ?_); rintro e hR ⟨rfl, hb⟩; replace aA := am (BB aA hb); replace HB := bl (K1 HB aB.out) hb; (try clear hb); have ⟨_, _, _, _, _, _, _, _, _⟩ := y8 hR aA.out) | (go_at_call 51; (with_reducible refine (impl_in.calls aJ 0 aE true _ cD.out).mono ?_); rintro e w' ⟨rfl, ⟨nd, rfl⟩⟩) | (go_at_call 51; (with_reducible refine (impl_in.calls aF 0 2 true _ hP.out).mono ?_); rintro e w' ⟨rfl, ⟨nd, rfl⟩⟩))
        go_ret
        exact ⟨ER, K1 HB aB.out⟩
       ·replace cF := Bool.eq_false_iff.mpr cF
        subst cF
        have H1 := nf H
        clear H
        have H := H1
        clear H1
        obtain rfl := sj H
        have ⟨_, _, _, _, _, _, _, _, _⟩ := y8 wc aA.out
        go_wp2_with (first | ((with_reducible refine gate_callee (f := 99) rfl ?_); refine goesL_ (some 19) rfl rfl Tryz.func99 (by kernel_rfl) rfl #[.agg #[.int .i64 aC, .int .i64 aD]] rfl MT ?_; (with_reducible refine (impl_BlockOk.calls aC aD true _ bQ.out).mono ?_); rintro e hS ⟨rfl, hb⟩; refine ⟨_, rfl, ?_⟩; replace aA := am (BB aA hb); replace HB := bl (K1 HB aB.out) hb; (try clear hb); have ⟨_, _, _, _, _, _, _, _, _⟩ := y8 hS aA.out) | (go_at_call 99; (with_reducible refine (impl_BlockOk.calls aH aI true _ bY.out).mono ?_); rintro e hT ⟨rfl, hb⟩; replace aA := am (BB aA hb); replace HB := bl (K1 HB aB.out) hb; (try clear hb); have ⟨_, _, _, _, _, _, _, _, _⟩ := y8 hT aA.out) | (go_at_call 51; (with_reducible refine (impl_in.calls aJ 0 aE true _ cD.out).mono ?_); rintro e w' ⟨rfl, ⟨nd, rfl⟩⟩) | (go_at_call 51; (with_reducible refine (impl_in.calls aF 0 2 false _ hP.out).mono ?_); rintro e w' ⟨rfl, ⟨nd, rfl⟩⟩))
        go_ret
        exact ⟨ER, K1 HB aB.out⟩
      ·rw [if_neg bR] at H
       have c16b0 : decide (aE ≤ 65535) = false := decide_eq_false bR
       clear bR
       obtain rfl := sj H
       have ⟨_, _, _, _, _, _, _, _, _⟩ := y8 wc aA.out
       go_wp2_with (first | ((with_reducible refine gate_callee (f := 99) rfl ?_); refine goesL_ (some 19) rfl rfl Tryz.func99 (by kernel_rfl) rfl #[.agg #[.int .i64 aC, .int .i64 aD]] rfl MT ?_; (with_reducible refine (impl_BlockOk.calls aC aD true _ bQ.out).mono ?_); rintro e hU ⟨rfl, hb⟩; refine ⟨_, rfl, ?_⟩; replace aA := am (BB aA hb); replace HB := bl (K1 HB aB.out) hb; (try clear hb); have ⟨_, _, _, _, _, _, _, _, _⟩ := y8 hU aA.out) | (go_at_call 99; (with_reducible refine (impl_BlockOk.calls aH aI true _ bY.out).mono ?_); rintro e hV ⟨rfl, hb⟩; replace aA := am (BB aA hb); replace HB := bl (K1 HB aB.out) hb; (try clear hb); have ⟨_, _, _, _, _, _, _, _, _⟩ := y8 hV aA.out) | (go_at_call 51; (with_reducible refine (impl_in.calls aJ 0 aE true _ cD.out).mono ?_); rintro e w' ⟨rfl, ⟨nd, rfl⟩⟩))
       go_ret
       exact ⟨ER, K1 HB aB.out⟩
     ·replace cE := Bool.eq_false_iff.mpr cE
      subst cE
      have H1 := nf H
      clear H
      have H := H1
      clear H1
      obtain rfl := sj H
      have ⟨_, _, _, _, _, _, _, _, _⟩ := y8 wc aA.out
      go_wp2_with (first | ((with_reducible refine gate_callee (f := 99) rfl ?_); refine goesL_ (some 19) rfl rfl Tryz.func99 (by kernel_rfl) rfl #[.agg #[.int .i64 aC, .int .i64 aD]] rfl MT ?_; (with_reducible refine (impl_BlockOk.calls aC aD true _ bQ.out).mono ?_); rintro e hW ⟨rfl, hb⟩; refine ⟨_, rfl, ?_⟩; replace aA := am (BB aA hb); replace HB := bl (K1 HB aB.out) hb; (try clear hb); have ⟨_, _, _, _, _, _, _, _, _⟩ := y8 hW aA.out) | (go_at_call 99; (with_reducible refine (impl_BlockOk.calls aH aI true _ bY.out).mono ?_); rintro e hX ⟨rfl, hb⟩; replace aA := am (BB aA hb); replace HB := bl (K1 HB aB.out) hb; (try clear hb); have ⟨_, _, _, _, _, _, _, _, _⟩ := y8 hX aA.out) | (go_at_call 51; (with_reducible refine (impl_in.calls aJ 0 aE false _ cD.out).mono ?_); rintro e w' ⟨rfl, ⟨nd, rfl⟩⟩))
      go_ret
      exact ⟨ER, K1 HB aB.out⟩
    ·replace cC := Bool.eq_false_iff.mpr cC
     subst cC
     have H1 := nf H
     clear H
     have H := H1
     clear H1
     obtain rfl := sj H
     have ⟨_, _, _, _, _, _, _, _, _⟩ := y8 wc aA.out
     go_wp2_with (first | ((with_reducible refine gate_callee (f := 99) rfl ?_); refine goesL_ (some 19) rfl rfl Tryz.func99 (by kernel_rfl) rfl #[.agg #[.int .i64 aC, .int .i64 aD]] rfl MT ?_; (with_reducible refine (impl_BlockOk.calls aC aD true _ bQ.out).mono ?_); rintro e hY ⟨rfl, hb⟩; refine ⟨_, rfl, ?_⟩; replace aA := am (BB aA hb); replace HB := bl (K1 HB aB.out) hb; (try clear hb); have ⟨_, _, _, _, _, _, _, _, _⟩ := y8 hY aA.out) | (go_at_call 99; (with_reducible refine (impl_BlockOk.calls aH aI false _ bY.out).mono ?_); rintro e hZ ⟨rfl, hb⟩; replace aA := am (BB aA hb); replace HB := bl (K1 HB aB.out) hb; (try clear hb)))
     go_ret
     exact ⟨ER, K1 HB aB.out⟩
   ·replace cB := Bool.eq_false_iff.mpr cB
    subst cB
    have H1 := nf H
    clear H
    have H := H1
    clear H1
    obtain rfl := sj H
    have ⟨_, _, _, _, _, _, _, _, _⟩ := y8 wc aA.out
    go_wp2_with (first | ((with_reducible refine gate_callee (f := 99) rfl ?_); refine goesL_ (some 19) rfl rfl Tryz.func99 (by kernel_rfl) rfl #[.agg #[.int .i64 aC, .int .i64 aD]] rfl MT ?_; (with_reducible refine (impl_BlockOk.calls aC aD false _ bQ.out).mono ?_); rintro e iA ⟨rfl, hb⟩; refine ⟨_, rfl, ?_⟩; replace aA := am (BB aA hb); replace HB := bl (K1 HB aB.out) hb; (try clear hb)))
    go_ret
    exact ⟨ER, K1 HB aB.out⟩
def impl_isCall.f (a0_0 : Int) (a0_1 : Int) (a0_2 : Int) : Option (Bool) := (impl_isAddr.f a0_0).bind fun t102 => (if t102 = true then ((impl_isAddr.f a0_1).bind fun t103 => (if t103 = true then ((impl_in.f a0_2 0 65535).bind fun t104 => (some t104)) else (some false))) else (some false))
theorem impl_isCall.calls (aA : Int) (aB : Int) (aC : Int) (r : Bool) (w : World) (h : impl_isCall.f aA aB aC = some r) :
  Calls Tryz.prog 72 #[.agg #[.int .i64 aA, .int .i64 aB, .int .i64 aC]] w fun e w' => e = .returned (.bool r) ∧ Below w.heap.size w w' := by
 have aX := Tryz.underlying126
 have HB := am (Below.refl w.heap.size w)
 have H : ((impl_isAddr.f aA).bind fun aJ => (if aJ = true then ((impl_isAddr.f aB).bind fun aI => (if aI = true then ((impl_in.f aC 0 65535).bind fun aD => (some aD)) else (some false))) else (some false))) = some r := h
 clear h
 replace H := bm H
 obtain ⟨aJ, aY, H⟩ := H
 replace H : (if aJ = true then ((impl_isAddr.f aB).bind fun aI => (if aI = true then ((impl_in.f aC 0 65535).bind fun aD => (some aD)) else (some false))) else (some false)) = some r := H
 have A2 := Aside0.mk aY
 clear aY
 by_cases c3 : aJ = true
 ·subst c3
  have H1 := pf H
  clear H
  have H := H1
  clear H1
  replace H := bm H
  obtain ⟨aI, aZ, H⟩ := H
  replace H : (if aI = true then ((impl_in.f aC 0 65535).bind fun aD => (some aD)) else (some false)) = some r := H
  have A4 := Aside0.mk aZ
  clear aZ
  by_cases c5 : aI = true
  ·subst c5
   have H1 := pf H
   clear H
   have H := H1
   clear H1
   replace H := bm H
   obtain ⟨aD, bA, H⟩ := H
   replace H : (some aD) = some r := H
   have A6 := Aside0.mk bA
   clear bA
   obtain rfl := sj H
   go_enter Tryz.func72, Tryz.ntmps72
   go_wp2_with (first | ((with_reducible refine gate_dst (N := 1) rfl ?_); refine box_event rfl (N := 1) rfl (cs := #[.int .i64 aA, .int .i64 aB, .int .i64 aC]) (t := 126) BX ?_; intro aK hg w7 aE hb; have aF := am (aE); have aG := am (GH HB hg); have aH := aG; replace HB := bl (KL HB) hb; clear hb aE hg; have ⟨_, _, _, _⟩ := y3 w7 aF.out) | ((with_reducible refine gate_callee (f := 88) rfl ?_); refine goesL_ (some 5) rfl rfl Tryz.func88 (by kernel_rfl) rfl #[.int .i64 aA] rfl MT ?_; (with_reducible refine (impl_isAddr.calls aA true _ A2.out).mono ?_); rintro e w' ⟨rfl, ⟨nd, rfl⟩⟩; refine ⟨_, rfl, ?_⟩) | (go_at_call 88; (with_reducible refine (impl_isAddr.calls aB true _ A4.out).mono ?_); rintro e w' ⟨rfl, ⟨nd, rfl⟩⟩) | (go_at_call 51; (with_reducible refine (impl_in.calls aC 0 65535 aD _ A6.out).mono ?_); rintro e w' ⟨rfl, ⟨nd, rfl⟩⟩))
   go_ret
   exact ⟨ER, K1 HB aH.out⟩
  ·replace c5 := Bool.eq_false_iff.mpr c5
   subst c5
   have H1 := nf H
   clear H
   have H := H1
   clear H1
   obtain rfl := sj H
   go_enter Tryz.func72, Tryz.ntmps72
   go_wp2_with (first | ((with_reducible refine gate_dst (N := 1) rfl ?_); refine box_event rfl (N := 1) rfl (cs := #[.int .i64 aA, .int .i64 aB, .int .i64 aC]) (t := 126) BX ?_; intro aK hg w9 aE hb; have aF := am (aE); have aG := am (GH HB hg); have aH := aG; replace HB := bl (KL HB) hb; clear hb aE hg; have ⟨_, _, _, _⟩ := y3 w9 aF.out) | ((with_reducible refine gate_callee (f := 88) rfl ?_); refine goesL_ (some 5) rfl rfl Tryz.func88 (by kernel_rfl) rfl #[.int .i64 aA] rfl MT ?_; (with_reducible refine (impl_isAddr.calls aA true _ A2.out).mono ?_); rintro e w' ⟨rfl, ⟨nd, rfl⟩⟩; refine ⟨_, rfl, ?_⟩) | (go_at_call 88; (with_reducible refine (impl_isAddr.calls aB false _ A4.out).mono ?_); rintro e w' ⟨rfl, ⟨nd, rfl⟩⟩))
   go_ret
   exact ⟨ER, K1 HB aH.out⟩
 ·replace c3 := Bool.eq_false_iff.mpr c3
  subst c3
  have H1 := nf H
  clear H
  have H := H1
  clear H1
  obtain rfl := sj H
  go_enter Tryz.func72, Tryz.ntmps72
  go_wp2_with (first | ((with_reducible refine gate_dst (N := 1) rfl ?_); refine box_event rfl (N := 1) rfl (cs := #[.int .i64 aA, .int .i64 aB, .int .i64 aC]) (t := 126) BX ?_; intro aK hg bB aE hb; have aF := am (aE); have aG := am (GH HB hg); have aH := aG; replace HB := bl (KL HB) hb; clear hb aE hg; have ⟨_, _, _, _⟩ := y3 bB aF.out) | ((with_reducible refine gate_callee (f := 88) rfl ?_); refine goesL_ (some 5) rfl rfl Tryz.func88 (by kernel_rfl) rfl #[.int .i64 aA] rfl MT ?_; (with_reducible refine (impl_isAddr.calls aA false _ A2.out).mono ?_); rintro e w' ⟨rfl, ⟨nd, rfl⟩⟩; refine ⟨_, rfl, ?_⟩))
  go_ret
  exact ⟨ER, K1 HB aH.out⟩
def impl_Block_last.f (a0_0 : Int) (a0_1 : Int) : Option (Int) := (impl_Block_size.f a0_0 a0_1).bind fun t102 => (some (wrap64 ((wrap64 (a0_0 + t102)) - 1)))
theorem impl_Block_last.calls (aB : Int) (aC : Int) (r : Int) (w : World) (h : impl_Block_last.f aB aC = some r) :
  Calls Tryz.prog 103 #[.agg #[.int .i64 aB, .int .i64 aC]] w fun e w' => e = .returned (.int .i64 r) ∧ Below w.heap.size w w' := by
 have aJ := Tryz.underlying105
 have HB := am (Below.refl w.heap.size w)
 have H : ((impl_Block_size.f aB aC).bind fun aE => (some (wrap64 ((wrap64 (aB + aE)) - 1)))) = some r := h
 clear h
 replace H := bm H
 obtain ⟨aE, aK, H⟩ := H
 replace H : (some (wrap64 ((wrap64 (aB + aE)) - 1))) = some r := H
 have A2 := Aside0.mk aK
 clear aK
 obtain rfl := sj H
 go_enter Tryz.func103, Tryz.ntmps103
 try go_wp2_with (first | ((with_reducible refine gate_dst (N := 1) rfl ?_); refine box_event rfl (N := 1) rfl (cs := #[.int .i64 aB, .int .i64 aC]) (t := 105) BX ?_; intro aG hg w3 aH hb; have aA := am (aH); have aI := am (GH HB hg); have aF := aI; replace HB := bl (KL HB) hb; clear hb aH hg))
 replace aA := am (blk_drew aA.out)
 replace HB := am (below_drew1 HB.out)
 refine start_ (n := 7) (S := fun w' => de2 w' aG (.int .i64 aB) (.int .i64 aC)) (ds := []) (tf 0 7) (by kernel_rfl) rfl rfl ⟨z0 _ aA.out, z1 _ aA.out⟩ (fun aD => ?_)
 generalize w3.drew = w4 at aA HB aD ⊢
 refine pure_ (i := 0) (N := some 3) (v := ?_) (a' := ?_) (tf 1 6) rfl rfl (by kernel_rfl) (fun _ _ _ h => h) (Or.inl ⟨by rfl, ?_⟩) ?_ ?_; rotate_left; (· intro w'; go_simp; with_reducible rfl); rotate_left; (· simp only [Act.put, List.setIfInBounds_toArray, List.set_cons_zero, List.set_cons_succ, i64_w, i32_w]; rfl)
 refine take_ (i := 1) (N := some 4) (v := ?_) (a' := ?_) (tf 2 5) rfl rfl (by kernel_rfl) (fun _ _ _ h => h) (Or.inl ⟨by rfl, ?_⟩) aD ?_ ?_
 rotate_left
 ·rintro w' ⟨s0, s1⟩
  go_simp
  with_reducible rfl
 rotate_left
 ·simp only [Act.put, List.setIfInBounds_toArray, List.set_cons_zero, List.set_cons_succ, i64_w, i32_w]
  rfl
 refine take_ (i := 2) (N := some 5) (v := ?_) (a' := ?_) (tf 3 4) rfl rfl (by kernel_rfl) (fun _ _ _ h => h) (Or.inl ⟨by rfl, ?_⟩) aD ?_ ?_
 rotate_left
 ·rintro w' ⟨s0, s1⟩
  go_simp
  with_reducible rfl
 rotate_left
 ·simp only [Act.put, List.setIfInBounds_toArray, List.set_cons_zero, List.set_cons_succ, i64_w, i32_w]
  rfl
 refine one_ (i := 3) (N := some 6) (tf 4 3) rfl rfl (by kernel_rfl) (by decide) (fun K hK => ?_)
 refine goes_ Tryz.func102 (by kernel_rfl) rfl #[.agg #[.int .i64 aB, .int .i64 aC]] (by rfl) rfl rfl MT ?_
 with_reducible refine (impl_Block_size.calls aB aC aE _ A2.out).mono ?_
 rintro e w5 ⟨rfl, hb⟩
 refine ⟨_, rfl, ?_⟩
 replace aA := am (BB aA hb)
 replace HB := bl (K1 HB aF.out) hb
 (try clear hb)
 (try clear hb2)
 (try clear hk)
 (try clear hi)
 refine hK.out _ _ ⟨z0 _ aA.out, z1 _ aA.out⟩ (fun aD => ?_)
 clear hK K
 refine nm (some 6) ?_
 refine pure_ (i := 4) (N := some 7) (v := ?_) (a' := ?_) (tf 5 2) rfl rfl (by kernel_rfl) (fun _ _ _ h => h) (Or.inl ⟨by rfl, ?_⟩) ?_ ?_; rotate_left; (· intro w'; go_simp; with_reducible rfl); rotate_left; (· simp only [Act.put, List.setIfInBounds_toArray, List.set_cons_zero, List.set_cons_succ, i64_w, i32_w]; rfl)
 refine pure_ (i := 5) (N := some 8) (v := ?_) (a' := ?_) (tf 6 1) rfl rfl (by kernel_rfl) (fun _ _ _ h => h) (Or.inl ⟨by rfl, ?_⟩) ?_ ?_; rotate_left; (· intro w'; go_simp; with_reducible rfl); rotate_left; (· simp only [Act.put, List.setIfInBounds_toArray, List.set_cons_zero, List.set_cons_succ, i64_w, i32_w]; rfl)
 refine pure_ (i := 6) (N := some 2) (v := ?_) (a' := ?_) (tf 7 0) rfl rfl (by kernel_rfl) (fun _ _ _ h => h) (Or.inl ⟨by rfl, ?_⟩) ?_ ?_; rotate_left; (· intro w'; go_simp; with_reducible rfl); rotate_left; (· simp only [Act.put, List.setIfInBounds_toArray, List.set_cons_zero, List.set_cons_succ, i64_w, i32_w]; rfl)
 refine done_ (by kernel_rfl) ?_
 try go_wp2
 go_ret
 exact ⟨ER, K1 HB aF.out⟩
def impl_Block_has.f (a0_0 : Int) (a0_1 : Int) (a1 : Int) : Option (Bool) := (impl_Block_last.f a0_0 a0_1).bind fun t102 => ((impl_in.f a1 a0_0 t102).bind fun t103 => (some t103))
theorem impl_Block_has.calls (aB : Int) (aD : Int) (a1 : Int) (r : Bool) (w : World) (h : impl_Block_has.f aB aD a1 = some r) :
  Calls Tryz.prog 100 #[.agg #[.int .i64 aB, .int .i64 aD], .int .i64 a1] w fun e w' => e = .returned (.bool r) ∧ Below w.heap.size w w' := by
 have aK := Tryz.underlying105
 have HB := am (Below.refl w.heap.size w)
 have H : ((impl_Block_last.f aB aD).bind fun aE => ((impl_in.f a1 aB aE).bind fun aF => (some aF))) = some r := h
 clear h
 replace H := bm H
 obtain ⟨aE, aL, H⟩ := H
 replace H : ((impl_in.f a1 aB aE).bind fun aF => (some aF)) = some r := H
 have A3 := Aside0.mk aL
 clear aL
 replace H := bm H
 obtain ⟨aF, aM, H⟩ := H
 replace H : (some aF) = some r := H
 have A4 := Aside0.mk aM
 clear aM
 obtain rfl := sj H
 go_enter Tryz.func100, Tryz.ntmps100
 try go_wp2_with (first | ((with_reducible refine gate_dst (N := 2) rfl ?_); refine box_event rfl (N := 2) rfl (cs := #[.int .i64 aB, .int .i64 aD]) (t := 105) BX ?_; intro aH hg w5 aI hb; have aA := am (aI); have aJ := am (GH HB hg); have aG := aJ; replace HB := bl (KL HB) hb; clear hb aI hg))
 replace aA := am (blk_drew aA.out)
 replace HB := am (below_drew1 HB.out)
 refine start_ (n := 7) (S := fun w' => de2 w' aH (.int .i64 aB) (.int .i64 aD)) (ds := []) (tf 0 7) (by kernel_rfl) rfl rfl ⟨z0 _ aA.out, z1 _ aA.out⟩ (fun aC => ?_)
 generalize w5.drew = w6 at aA HB aC ⊢
 refine pure_ (i := 0) (N := some 5) (v := ?_) (a' := ?_) (tf 1 6) rfl rfl (by kernel_rfl) (fun _ _ _ h => h) (Or.inl ⟨by rfl, ?_⟩) ?_ ?_; rotate_left; (· intro w'; go_simp; with_reducible rfl); rotate_left; (· simp only [Act.put, List.setIfInBounds_toArray, List.set_cons_zero, List.set_cons_succ, i64_w, i32_w]; rfl)
 refine pure_ (i := 1) (N := some 6) (v := ?_) (a' := ?_) (tf 2 5) rfl rfl (by kernel_rfl) (fun _ _ _ h => h) (Or.inl ⟨by rfl, ?_⟩) ?_ ?_; rotate_left; (· intro w'; go_simp; with_reducible rfl); rotate_left; (· simp only [Act.put, List.setIfInBounds_toArray, List.set_cons_zero, List.set_cons_succ, i64_w, i32_w]; rfl)
 refine take_ (i := 2) (N := some 7) (v := ?_) (a' := ?_) (tf 3 4) rfl rfl (by kernel_rfl) (fun _ _ _ h => h) (Or.inl ⟨by rfl, ?_⟩) aC ?_ ?_
 rotate_left
 ·rintro w' ⟨s0, s1⟩
  go_simp
  with_reducible rfl
 rotate_left
 ·simp only [Act.put, List.setIfInBounds_toArray, List.set_cons_zero, List.set_cons_succ, i64_w, i32_w]
  rfl
 refine take_ (i := 3) (N := some 8) (v := ?_) (a' := ?_) (tf 4 3) rfl rfl (by kernel_rfl) (fun _ _ _ h => h) (Or.inl ⟨by rfl, ?_⟩) aC ?_ ?_
 rotate_left
 ·rintro w' ⟨s0, s1⟩
  go_simp
  with_reducible rfl
 rotate_left
 ·simp only [Act.put, List.setIfInBounds_toArray, List.set_cons_zero, List.set_cons_succ, i64_w, i32_w]
  rfl
 refine one_ (i := 4) (N := some 9) (tf 5 2) rfl rfl (by kernel_rfl) (by decide) (fun K hK => ?_)
 refine goes_ Tryz.func103 (by kernel_rfl) rfl #[.agg #[.int .i64 aB, .int .i64 aD]] (by rfl) rfl rfl MT ?_
 with_reducible refine (impl_Block_last.calls aB aD aE _ A3.out).mono ?_
 rintro e w7 ⟨rfl, hb⟩
 refine ⟨_, rfl, ?_⟩
 replace aA := am (BB aA hb)
 replace HB := bl (K1 HB aG.out) hb
 (try clear hb)
 (try clear hb2)
 (try clear hk)
 (try clear hi)
 refine hK.out _ _ ⟨z0 _ aA.out, z1 _ aA.out⟩ (fun aC => ?_)
 clear hK K
 refine nm (some 9) ?_
 refine one_ (i := 5) (N := some 10) (tf 6 1) rfl rfl (by kernel_rfl) (by decide) (fun K hK => ?_)
 refine goes_ Tryz.func51 (by kernel_rfl) rfl #[.int .i64 a1, .int .i64 aB, .int .i64 aE] (by rfl) rfl rfl MT ?_
 with_reducible refine (impl_in.calls a1 aB aE aF _ A4.out).mono ?_
 rintro e w' ⟨rfl, ⟨nd, rfl⟩⟩
 refine ⟨_, rfl, ?_⟩
 refine hK.out _ _ ⟨z0 _ aA.out, z1 _ aA.out⟩ (fun aC => ?_)
 clear hK K
 refine nm (some 10) ?_
 refine pure_ (i := 6) (N := some 4) (v := ?_) (a' := ?_) (tf 7 0) rfl rfl (by kernel_rfl) (fun _ _ _ h => h) (Or.inl ⟨by rfl, ?_⟩) ?_ ?_; rotate_left; (· intro w'; go_simp; with_reducible rfl); rotate_left; (· simp only [Act.put, List.setIfInBounds_toArray, List.set_cons_zero, List.set_cons_succ, i64_w, i32_w]; rfl)
 refine done_ (by kernel_rfl) ?_
 try go_wp2
 go_ret
 exact ⟨ER, K1 HB aG.out⟩
def impl_Rule_matches.f (a0_0 : Int) (a0_1 : Int) (a0_2 : Int) (a0_3 : Int) (a0_4 : Int) (a0_5 : Int) (a0_6 : Int) (a0_7 : Int) (a1_0 : Int) (a1_1 : Int) (a1_2 : Int) : Option (Bool) := (impl_Block_has.f a0_2 a0_3 a1_0).bind fun t103 => (if t103 = true then ((impl_Block_has.f a0_4 a0_5 a1_1).bind fun t104 => (if t104 = true then ((impl_in.f a1_2 a0_6 a0_7).bind fun t105 => (some t105)) else (some false))) else (some false))
theorem impl_Rule_matches.calls (aU : Int) (aV : Int) (aH : Int) (aI : Int) (aK : Int) (aL : Int) (aM : Int) (aN : Int) (aJ : Int) (aO : Int) (aP : Int) (r : Bool) (w : World) (h : impl_Rule_matches.f aU aV aH aI aK aL aM aN aJ aO aP = some r) :
  Calls Tryz.prog 91 #[.agg #[.int .i64 aU, .int .i64 aV, .int .i64 aH, .int .i64 aI, .int .i64 aK, .int .i64 aL, .int .i64 aM, .int .i64 aN], .agg #[.int .i64 aJ, .int .i64 aO, .int .i64 aP]] w fun e w' => e = .returned (.bool r) ∧ Below w.heap.size w w' := by
 have dZ := Tryz.underlying107
 have eA := Tryz.underlying126
 have eB := Tryz.underlying105
 have HB := am (Below.refl w.heap.size w)
 have H : ((impl_Block_has.f aH aI aJ).bind fun aW => (if aW = true then ((impl_Block_has.f aK aL aO).bind fun aT => (if aT = true then ((impl_in.f aP aM aN).bind fun aQ => (some aQ)) else (some false))) else (some false))) = some r := h
 clear h
 replace H := bm H
 obtain ⟨aW, eC, H⟩ := H
 replace H : (if aW = true then ((impl_Block_has.f aK aL aO).bind fun aT => (if aT = true then ((impl_in.f aP aM aN).bind fun aQ => (some aQ)) else (some false))) else (some false)) = some r := H
 have A3 := Aside0.mk eC
 clear eC
 by_cases c4 : aW = true
 ·subst c4
  have H1 := pf H
  clear H
  have H := H1
  clear H1
  replace H := bm H
  obtain ⟨aT, eD, H⟩ := H
  replace H : (if aT = true then ((impl_in.f aP aM aN).bind fun aQ => (some aQ)) else (some false)) = some r := H
  have A5 := Aside0.mk eD
  clear eD
  by_cases c6 : aT = true
  ·subst c6
   have H1 := pf H
   clear H
   have H := H1
   clear H1
   replace H := bm H
   obtain ⟨aQ, eE, H⟩ := H
   replace H : (some aQ) = some r := H
   have A7 := Aside0.mk eE
   clear eE
   obtain rfl := sj H
   go_enter Tryz.func91, Tryz.ntmps91
   go_wp2_with (first | ((with_reducible refine gate_dst (N := 2) rfl ?_); refine box_event rfl (N := 2) rfl (cs := #[.int .i64 aU, .int .i64 aV, .int .i64 aH, .int .i64 aI, .int .i64 aK, .int .i64 aL, .int .i64 aM, .int .i64 aN]) (t := 107) BX ?_; intro aX hg w8 aF hb; have aA := am (aF); have aR := am (GH HB hg); have aC := aR; replace HB := bl (KL HB) hb; clear hb aF hg) | ((with_reducible refine gate_dst (N := 3) rfl ?_); refine box_event rfl (N := 3) rfl (cs := #[.int .i64 aJ, .int .i64 aO, .int .i64 aP]) (t := 126) BX ?_; intro aY hg w9 aF hb; have aB := am (aF); have aS := am (GH1 HB aC.out hg); have aG := aS; replace HB := bl (K1 HB aC.out) hb; have aD := am (NL aA hg); have aE := am (NG aA hg); replace aA := am (BB aA hb); clear hb aF hg; have eF := aD.out; have eG := aE.out; have ⟨_, _, _, _, _, _, _, _, _⟩ := y8 w9 aA.out; have ⟨_, _, _, _⟩ := y3 w9 aB.out) | ((with_reducible refine gate_callee (f := 100) rfl ?_); refine goesL_ (some 9) rfl rfl Tryz.func100 (by kernel_rfl) rfl #[.agg #[.int .i64 aH, .int .i64 aI], .int .i64 aJ] rfl MT ?_; (with_reducible refine (impl_Block_has.calls aH aI aJ true _ A3.out).mono ?_); rintro e eH ⟨rfl, hb⟩; refine ⟨_, rfl, ?_⟩; replace aA := am (BB aA hb); replace aB := am (BB aB hb); replace HB := bl (K2 HB aC.out aG.out) hb; (try clear hb); have ⟨_, _, _, _, _, _, _, _, _⟩ := y8 eH aA.out; have ⟨_, _, _, _⟩ := y3 eH aB.out) | (go_at_call 100; (with_reducible refine (impl_Block_has.calls aK aL aO true _ A5.out).mono ?_); rintro e eI ⟨rfl, hb⟩; replace aA := am (BB aA hb); replace aB := am (BB aB hb); replace HB := bl (K2 HB aC.out aG.out) hb; (try clear hb); have ⟨_, _, _, _⟩ := y3 eI aB.out; have ⟨_, _, _, _, _, _, _, _, _⟩ := y8 eI aA.out) | (go_at_call 51; (with_reducible refine (impl_in.calls aP aM aN aQ _ A7.out).mono ?_); rintro e w' ⟨rfl, ⟨nd, rfl⟩⟩))
   go_ret
   exact ⟨ER, K2 HB aC.out aG.out⟩
  ·replace c6 := Bool.eq_false_iff.mpr c6
   subst c6
   have H1 := nf H
   clear H
   have H := H1
   clear H1
   obtain rfl := sj H
   go_enter Tryz.func91, Tryz.ntmps91
   go_wp2_with (first | ((with_reducible refine gate_dst (N := 2) rfl ?_); refine box_event rfl (N := 2) rfl (cs := #[.int .i64 aU, .int .i64 aV, .int .i64 aH, .int .i64 aI, .int .i64 aK, .int .i64 aL, .int .i64 aM, .int .i64 aN]) (t := 107) BX ?_; intro aX hg eQ aF hb; have aA := am (aF); have aR := am (GH HB hg); have aC := aR; replace HB := bl (KL HB) hb; clear hb aF hg) | ((with_reducible refine gate_dst (N := 3) rfl ?_); refine box_event rfl (N := 3) rfl (cs := #[.int .i64 aJ, .int .i64 aO, .int .i64 aP]) (t := 126) BX ?_; intro aY hg eJ aF hb; have aB := am (aF); have aS := am (GH1 HB aC.out hg); have aG := aS; replace HB := bl (K1 HB aC.out) hb; have aD := am (NL aA hg); have aE := am (NG aA hg); replace aA := am (BB aA hb); clear hb aF hg; have eK := aD.out; have eL := aE.out; have ⟨_, _, _, _, _, _, _, _, _⟩ := y8 eJ aA.out; have ⟨_, _, _, _⟩ := y3 eJ aB.out) | ((with_reducible refine gate_callee (f := 100) rfl ?_); refine goesL_ (some 9) rfl rfl Tryz.func100 (by kernel_rfl) rfl #[.agg #[.int .i64 aH, .int .i64 aI], .int .i64 aJ] rfl MT ?_; (with_reducible refine (impl_Block_has.calls aH aI aJ true _ A3.out).mono ?_); rintro e eM ⟨rfl, hb⟩; refine ⟨_, rfl, ?_⟩; replace aA := am (BB aA hb); replace aB := am (BB aB hb); replace HB := bl (K2 HB aC.out aG.out) hb; (try clear hb); have ⟨_, _, _, _, _, _, _, _, _⟩ := y8 eM aA.out; have ⟨_, _, _, _⟩ := y3 eM aB.out) | (go_at_call 100; (with_reducible refine (impl_Block_has.calls aK aL aO false _ A5.out).mono ?_); rintro e eR ⟨rfl, hb⟩; replace aA := am (BB aA hb); replace aB := am (BB aB hb); replace HB := bl (K2 HB aC.out aG.out) hb; (try clear hb)))
   go_ret
   exact ⟨ER, K2 HB aC.out aG.out⟩
 ·replace c4 := Bool.eq_false_iff.mpr c4
  subst c4
  have H1 := nf H
  clear H
  have H := H1
  clear H1
  obtain rfl := sj H
  go_enter Tryz.func91, Tryz.ntmps91
  go_wp2_with (first | ((with_reducible refine gate_dst (N := 2) rfl ?_); refine box_event rfl (N := 2) rfl (cs := #[.int .i64 aU, .int .i64 aV, .int .i64 aH, .int .i64 aI, .int .i64 aK, .int .i64 aL, .int .i64 aM, .int .i64 aN]) (t := 107) BX ?_; intro aX hg eS aF hb; have aA := am (aF); have aR := am (GH HB hg); have aC := aR; replace HB := bl (KL HB) hb; clear hb aF hg) | ((with_reducible refine gate_dst (N := 3) rfl ?_); refine box_event rfl (N := 3) rfl (cs := #[.int .i64 aJ, .int .i64 aO, .int .i64 aP]) (t := 126) BX ?_; intro aY hg eN aF hb; have aB := am (aF); have aS := am (GH1 HB aC.out hg); have aG := aS; replace HB := bl (K1 HB aC.out) hb; have aD := am (NL aA hg); have aE := am (NG aA hg); replace aA := am (BB aA hb); clear hb aF hg; have eO := aD.out; have eP := aE.out; have ⟨_, _, _, _, _, _, _, _, _⟩ := y8 eN aA.out; have ⟨_, _, _, _⟩ := y3 eN aB.out) | ((with_reducible refine gate_callee (f := 100) rfl ?_); refine goesL_ (some 9) rfl rfl Tryz.func100 (by kernel_rfl) rfl #[.agg #[.int .i64 aH, .int .i64 aI], .int .i64 aJ] rfl MT ?_; (with_reducible refine (impl_Block_has.calls aH aI aJ false _ A3.out).mono ?_); rintro e eT ⟨rfl, hb⟩; refine ⟨_, rfl, ?_⟩; replace aA := am (BB aA hb); replace aB := am (BB aB hb); replace HB := bl (K2 HB aC.out aG.out) hb; (try clear hb)))
  go_ret
  exact ⟨ER, K2 HB aC.out aG.out⟩
def impl_tunOf.f (a0_0 : Int) (a0_1 : Int) (a0_2 : ByteArray) (a0_3 : ByteArray) (a0_4 : Int) (a0_5 : Int) (a0_6 : Int) (a0_7 : Int) (a0_8 : Int) (a0_9 : Int) (l0_10 : List Int) : Option (Int) := some a0_1
theorem impl_tunOf.calls (aG : Int) (aF : Int) (aH : ByteArray) (aI : ByteArray) (aJ : Int) (aK : Int) (aL : Int) (aM : Int) (aN : Int) (aO : Int) (aB : Option Addr) (aC : Nat) (aA : List Int) (r : Int) (w : World) (aD : Kd.C (Kd.int .i64) w aB aA.length aA) (aE : aA.length ≤ aC) (h : impl_tunOf.f aG aF aH aI aJ aK aL aM aN aO aA = some r) :
  Calls Tryz.prog 54 #[.agg #[.int .i64 aG, .int .i64 aF, .string aH, .string aI, .int .i64 aJ, .int .i64 aK, .int .i64 aL, .int .i64 aM, .int .i64 aN, .int .i64 aO, .slice aB aA.length aC]] w fun e w' => e = .returned (.int .i64 r) ∧ Below w.heap.size w w' := by
 have bH := Tryz.underlying103
 have aU := Aside0.mk aD
 have aV := Aside0.mk aE
 clear aD aE
 have HB := am (Below.refl w.heap.size w)
 have H : (some aF) = some r := h
 clear h
 obtain rfl := sj H
 go_enter Tryz.func54, Tryz.ntmps54
 go_wp2_with (first | ((with_reducible refine gate_dst (N := 1) rfl ?_); refine box_event rfl (N := 1) rfl (cs := #[.int .i64 aG, .int .i64 aF, .string aH, .string aI, .int .i64 aJ, .int .i64 aK, .int .i64 aL, .int .i64 aM, .int .i64 aN, .int .i64 aO, .slice aB aA.length aC]) (t := 103) BX ?_; intro bI hg w2 aP hb; have aQ := am (aP); have aR := am (GH HB hg); have aS := aR; replace HB := bl (KL HB) hb; clear hb aP hg; have ⟨_, _, _, _, _, _, _, _, _, _, _, _⟩ := y11 w2 aQ.out))
 go_ret
 exact ⟨ER, K1 HB aS.out⟩
def impl_keysOk.f (a0 : ByteArray) (a1 : ByteArray) : Option (Bool) := if (a0.size : Int) = 16 then ((impl_in.f (a1.size : Int) 1 64).bind fun t101 => (some t101)) else (some false)
theorem impl_keysOk.calls (a0 : ByteArray) (a1 : ByteArray) (r : Bool) (w : World) (h : impl_keysOk.f a0 a1 = some r) :
  Calls Tryz.prog 93 #[.string a0, .string a1] w fun e w' => e = .returned (.bool r) ∧ Drawn0 w w' := by
 have H : (if (a0.size : Int) = 16 then ((impl_in.f (a1.size : Int) 1 64).bind fun aA => (some aA)) else (some false)) = some r := h
 clear h
 by_cases c3 : (a0.size : Int) = 16
 ·rw [if_pos c3] at H
  have c3b0 : ((a0.size : Int) == 16) = true := beq_iff_eq.mpr c3
  have c3b1 : ((a0.size : Int) != 16) = false := bne_eq_false_iff_eq.mpr c3
  clear c3
  replace H := bm H
  obtain ⟨aA, aB, H⟩ := H
  replace H : (some aA) = some r := H
  have A4 := Aside0.mk aB
  clear aB
  obtain rfl := sj H
  go_enter Tryz.func93, Tryz.ntmps93
  go_wp2_with (first | (go_at_call 51; (with_reducible refine (impl_in.calls (a1.size : Int) 1 64 aA _ A4.out).mono ?_); rintro e w' ⟨rfl, ⟨nd, rfl⟩⟩))
  go_ret
  exact ⟨by first | rfl | (simp; done) | (simp [*]; done), by repeat (first | exact Drawn0.refl _ | apply Drawn0.step)⟩
 ·rw [if_neg c3] at H
  have c3b0 : ((a0.size : Int) == 16) = false := beq_eq_false_iff_ne.mpr c3
  have c3b1 : ((a0.size : Int) != 16) = true := bne_iff_ne.mpr c3
  obtain rfl := sj H
  go_enter Tryz.func93, Tryz.ntmps93
  go_wp2
  go_ret
  exact ⟨by first | rfl | (simp; done) | (simp [*]; done), by repeat (first | exact Drawn0.refl _ | apply Drawn0.step)⟩
def impl_spiOf.f (a0_0 : Int) (a0_1 : Int) (a0_2 : ByteArray) (a0_3 : ByteArray) (a0_4 : Int) (a0_5 : Int) (a0_6 : Int) (a0_7 : Int) (a0_8 : Int) (a0_9 : Int) (l0_10 : List Int) : Option (Int) := some a0_0
theorem impl_spiOf.calls (aF : Int) (aG : Int) (aH : ByteArray) (aI : ByteArray) (aJ : Int) (aK : Int) (aL : Int) (aM : Int) (aN : Int) (aO : Int) (aB : Option Addr) (aC : Nat) (aA : List Int) (r : Int) (w : World) (aD : Kd.C (Kd.int .i64) w aB aA.length aA) (aE : aA.length ≤ aC) (h : impl_spiOf.f aF aG aH aI aJ aK aL aM aN aO aA = some r) :
  Calls Tryz.prog 55 #[.agg #[.int .i64 aF, .int .i64 aG, .string aH, .string aI, .int .i64 aJ, .int .i64 aK, .int .i64 aL, .int .i64 aM, .int .i64 aN, .int .i64 aO, .slice aB aA.length aC]] w fun e w' => e = .returned (.int .i64 r) ∧ Below w.heap.size w w' := by
 have bH := Tryz.underlying103
 have aU := Aside0.mk aD
 have aV := Aside0.mk aE
 clear aD aE
 have HB := am (Below.refl w.heap.size w)
 have H : (some aF) = some r := h
 clear h
 obtain rfl := sj H
 go_enter Tryz.func55, Tryz.ntmps55
 go_wp2_with (first | ((with_reducible refine gate_dst (N := 1) rfl ?_); refine box_event rfl (N := 1) rfl (cs := #[.int .i64 aF, .int .i64 aG, .string aH, .string aI, .int .i64 aJ, .int .i64 aK, .int .i64 aL, .int .i64 aM, .int .i64 aN, .int .i64 aO, .slice aB aA.length aC]) (t := 103) BX ?_; intro bI hg w2 aP hb; have aQ := am (aP); have aR := am (GH HB hg); have aS := aR; replace HB := bl (KL HB) hb; clear hb aP hg; have ⟨_, _, _, _, _, _, _, _, _, _, _, _⟩ := y11 w2 aQ.out))
 go_ret
 exact ⟨ER, K1 HB aS.out⟩
def impl_WorldOk_1.f (a0_0 : ByteArray) (a0_1 : Bool) : Option (Bool) := some (decide ((a0_0.size : Int) > 141))
theorem impl_WorldOk_1.calls (aA : ByteArray) (aB : Bool) (r : Bool) (w : World) (h : impl_WorldOk_1.f aA aB = some r) :
  Calls Tryz.prog 32 #[.agg #[.string aA, .bool aB]] w fun e w' => e = .returned (.bool r) ∧ Below w.heap.size w w' := by
 have aK := Tryz.underlying76
 have HB := am (Below.refl w.heap.size w)
 have H : (some (decide ((aA.size : Int) > 141))) = some r := h
 clear h
 obtain rfl := sj H
 go_enter Tryz.func32, Tryz.ntmps32
 go_wp2_with (first | ((with_reducible refine gate_dst (N := 1) rfl ?_); refine box_event rfl (N := 1) rfl (cs := #[.string aA, .bool aB]) (t := 76) BX ?_; intro aJ hg w2 aC hb; have aD := am (aC); have aE := am (GH HB hg); have aF := aE; replace HB := bl (KL HB) hb; clear hb aC hg; have ⟨_, _, _⟩ := y2 w2 aD.out))
 go_ret
 exact ⟨ER, K1 HB aF.out⟩
end Go.Proofs.YtgjbbnmjeblcgaaGreat.PAll
end
