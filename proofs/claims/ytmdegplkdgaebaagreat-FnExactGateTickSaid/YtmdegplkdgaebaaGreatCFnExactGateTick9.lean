/- Contracts of the functions that the statement reaches. -/
import Derived.Test.YtmdegplkdgaebaaGreatCFnExactGateTick3
import Derived.Test.YtmdegplkdgaebaaGreatCFnExactGateTick4
set_option maxHeartbeats 8000000
set_option maxRecDepth 100000
section
namespace Go.Proofs.YtmdegplkdgaebaaGreat.PAll
open Go.RowKit Go.Proofs.YtmdegplkdgaebaaGreatW.PrintWords Go.Proofs.YtmdegplkdgaebaaGreatW.PrintLast Go.Proofs.YtmdegplkdgaebaaGreatW.PrintMore
attribute [local go_sem] max2_int min2_int max_two min_two max_three min_three max_four min_four
set_option linter.unusedVariables false
set_option linter.unusedSimpArgs false
def laws_markIntS.l0 : Nat → List Int → Int → Int → Option (Int × List Int)
 | 0, _, _, _ => none
 | k + 1, x0, x1, x5 => if x5 < (x0.length : Int) then (if 0 ≤ x5 then (laws_markIntS.l0 k (x0.set (x5 : Int).toNat x1) (wrap64 (x1 + 1)) (wrap64 (x5 + 1))) else (none)) else (some (x1, x0))
def laws_markIntS.f (k : Nat) (l0 : List Int) (a1 : Int) : Option (Int × List Int) := laws_markIntS.l0 k l0 a1 0
theorem laws_markIntS.calls (k : Nat) (P0_ : Nat → Prop) (u9000_ : Value) (l0 : List Int) (a1 : Int) (r1 : Int) (r2 : List Int) (w0 w : World) (hB : Below w0.heap.size w0 w) (aK : Kd.R (Kd.int .i64) 3 w w0.heap.size P0_ u9000_ l0) (h : laws_markIntS.f k l0 a1 = some (r1, r2)) :
  Calls Tryz.prog 58 #[u9000_, .int .i64 a1] w fun e w' => e = .returned (.int .i64 r1) ∧ Kd.R (Kd.int .i64) 3 w' w0.heap.size (fun k_ => (P0_ k_ ∨ w.heap.size ≤ k_)) u9000_ r2 ∧ Below w0.heap.size w0 w' ∧ Kept w w' (fun k_ => P0_ k_) := by
 have aL := am (show Kd.R (Kd.int .i64) 3 w w0.heap.size (fun k_ => (P0_ k_ ∨ w.heap.size ≤ k_)) u9000_ l0 from Kd.R_mono aK (fun k_ hk => (.inl hk)))
 have HK := am (Kept.refl w (fun k_ => P0_ k_))
 have HW0 := Aside0.mk hB.size
 have HB := Aside0.mk hB
 clear hB
 have H : (laws_markIntS.l0 k l0 a1 0) = some (r1, r2) := h
 clear h
 have H' := Aside0.mk H
 clear H
 go_enter Tryz.func58, Tryz.ntmps58
 go_wp2
 go_loopg [1, 5] k (fun kq v1 v5 w' => ∃ (aC : List Int) (aD : Int) (aA : Int), v1 = .int .i64 aD ∧ v5 = .int .i64 aA ∧ Aside0 (laws_markIntS.l0 kq aC aD aA = some (r1, r2)) ∧ Aside0 (kq ≤ k) ∧ Aside0 (Kd.R (Kd.int .i64) 3 w' w0.heap.size (fun k_ => (P0_ k_ ∨ w.heap.size ≤ k_)) u9000_ aC) ∧ Aside0 (Kept w w' (fun k_ => P0_ k_)) ∧ Aside0 (Below w0.heap.size w0 w'))
 case atStart => exact ⟨(l0), (a1), (0), (by first | rfl | (simp; done) | (simp [*]; done)), (by first | rfl | (simp; done) | (simp [*]; done)), H', ⟨Nat.le_refl _⟩, ⟨KR aL⟩, ⟨by repeat (first | (with_reducible first | exact HK.out | apply Kept.alloc | apply Kept.drewN | apply Kept.drew) | exact HK.out)⟩, ⟨KL HB⟩⟩
 case round =>
  clear H'
  try clear p2
  obtain ⟨aC, aD, aA, rfl, rfl, HA, HK1, aB, HK, HB⟩ := hrel
  cases gk with
  | zero => exact absurd HA.out (by simp [laws_markIntS.l0])
  | succ k1 =>
   have H := HA.out
   clear HA
   simp only [laws_markIntS.l0] at H
   by_cases c3 : aA < (aC.length : Int)
   ·rw [if_pos c3] at H
    have c3b0 : decide (aA < (aC.length : Int)) = true := decide_eq_true c3
    clear c3
    by_cases c4 : 0 ≤ aA
    ·rw [if_pos c4] at H
     have c4b0 : decide (0 ≤ aA) = true := decide_eq_true c4
     clear c4
     obtain ⟨aF, aE⟩ : ∃ y_ : List Int, y_ = (aC.set (aA : Int).toNat aD) := ⟨_, rfl⟩
     replace H : (laws_markIntS.l0 k1 aF (wrap64 (aD + 1)) (wrap64 (aA + 1))) = some (r1, r2) := by first | (rw [aE]; with_reducible exact H) | (have H2_ := (Option.bind_some _ _).symm.trans H; rw [aE]; with_reducible exact H2_) | (have H2_ := (Option.bind_some _ _).symm.trans H; with_reducible exact H2_) | with_reducible exact H | (rw [aE]; exact H) | exact H
     have Ny101 := Aside0.mk aE
     clear aE
     have H' := Aside0.mk H
     clear H
     obtain ⟨_, aM, aN⟩ := Kd.R_slice aB.out
     subst aN
     have p5 : 0 ≤ (aA : Int) := OD
     have q5 : (aA : Int) < ((aC.length : Int) : Int) := OD
     obtain ⟨go5, _, aG, aH, gl5, cl5, HG5⟩ := Kd.R_form aB.out (by omega)
     (first | cases aG | (injection aG with ea_ en_ ec_; (first | subst ea_ | (injection ea_ with ea_; subst ea_)); subst ec_; clear en_))
     have GB5 := Aside0.mk aH
     have GG5 := Aside0.mk HG5
     clear aH gl5 HG5
     have HMgo5 := am (show (P0_ go5 ∨ w.heap.size ≤ go5) from (aB.out.1 _ rfl))
     obtain ⟨_, _⟩ := Kd.R_celln 0 aB.out (aA : Int) p5 q5
     replace p5 := eq_true p5
     replace q5 := eq_true q5
     have HP7 := Kd.R_putg aB.out (aA : Int) aD
     go_wp2_with (first | ((with_reducible refine gate_store (t := 3) (p := 15) rfl ?_); refine store_event (t := 3) (p := 15) (v := ?vo_w8) (w1 := (wr.setCell ⟨go5, (aA : Int).toNat, none⟩ (.int .i64 aD))) ?hg ?ho ?hn ?hr ?_; (case ho => rfl); (case hg => rfl); (case hn => rfl); (case hr => first | (go_simp; done) | (go_simp; rfl)); intro w8 hw; have hg : wr.grownBy w8 (some go5) := (by rw [hw]; exact HP7.2); have hp_ : Kd.R (Kd.int .i64) 3 w8 w0.heap.size (fun k_ => (P0_ k_ ∨ w.heap.size ≤ k_)) (.slice (some ⟨go5, 0, none⟩) aC.length aM) aF := (by rw [hw, Ny101.out]; exact HP7.1); clear HP7; replace HB := am ((by rw [hw]; exact below_set (HB.out) GB5.out : Below w0.heap.size w0 w8)); replace HK := am (Kept.of_grown (S := (fun k_ => P0_ k_)) hg (by repeat (first | (with_reducible first | exact HK.out | apply Kept.alloc | apply Kept.drewN | apply Kept.drew) | exact HK.out)) (fun k_ e_ => (aB.out.1 k_ e_))); replace aB := am (hp_); clear hg hw hp_))
     go_roundg k1
     case measure => have := HK1.out; omega
     case rel => exact ⟨(aF), (wrap64 (aD + 1)), (wrap64 (aA + 1)), (by first | rfl | (simp; done) | (simp [*]; done)), (by first | rfl | (simp; done) | (simp [*]; done)), H', ⟨by have := HK1.out; omega⟩, ⟨KR aB⟩, ⟨by repeat (first | (with_reducible first | exact HK.out | apply Kept.alloc | apply Kept.drewN | apply Kept.drew) | exact HK.out)⟩, ⟨KL HB⟩⟩
    ·rw [if_neg c4] at H
     exact absurd H (by simp)
   ·rw [if_neg c3] at H
    have c3b0 : decide (aA < (aC.length : Int)) = false := decide_eq_false c3
    clear c3
    simp only [Option.some.injEq, Prod.mk.injEq] at H
    obtain ⟨rfl, rfl⟩ := H
    obtain ⟨_, _, aO⟩ := Kd.R_slice aB.out
    subst aO
    go_wp2
    go_ret
    exact ⟨ER, by refine KW ?_; exact aB.out, KL HB, by repeat (first | (with_reducible first | exact HK.out | apply Kept.alloc | apply Kept.drewN | apply Kept.drew) | exact HK.out)⟩
def laws_heldIntS.l0 : Nat → List Int → Int → Int → Option (Int)
 | 0, _, _, _ => none
 | k + 1, x0, x1, x5 => if x5 < (x0.length : Int) then (if 0 ≤ x5 then (if (rd x0 x5) = x1 then (laws_heldIntS.l0 k x0 (wrap64 (x1 + 1)) (wrap64 (x5 + 1))) else (some (-1))) else (none)) else (some x1)
def laws_heldIntS.f (k : Nat) (l0 : List Int) (a1 : Int) : Option (Int) := laws_heldIntS.l0 k l0 a1 0
theorem laws_heldIntS.calls (k : Nat) (A0 : Option Addr) (c0 : Nat) (l0 : List Int) (a1 : Int) (r : Int) (w : World) (aH : Kd.C (Kd.int .i64) w A0 l0.length l0) (aI : l0.length ≤ c0) (h : laws_heldIntS.f k l0 a1 = some r) :
  Calls Tryz.prog 60 #[.slice A0 l0.length c0, .int .i64 a1] w fun e w' => e = .returned (.int .i64 r) ∧ Drawn0 w w' := by
 have aJ := Aside0.mk aH
 have aK := Aside0.mk aI
 clear aH aI
 have H : (laws_heldIntS.l0 k l0 a1 0) = some r := h
 clear h
 have H' := Aside0.mk H
 clear H
 go_enter Tryz.func60, Tryz.ntmps60
 go_wp2
 go_loopg [1, 5] k (fun kq v1 v5 w' => ∃ (aB : Int) (aA : Int), v1 = .int .i64 aB ∧ v5 = .int .i64 aA ∧ Aside0 (laws_heldIntS.l0 kq l0 aB aA = some r) ∧ Aside0 (kq ≤ k) ∧ Drawn0 w w')
 case atStart => exact ⟨(a1), (0), (by first | rfl | (simp; done) | (simp [*]; done)), (by first | rfl | (simp; done) | (simp [*]; done)), H', ⟨Nat.le_refl _⟩, by repeat (first | exact Drawn0.refl _ | apply Drawn0.step)⟩
 case round =>
  clear H'
  try clear p2
  obtain ⟨aB, aA, rfl, rfl, HA, HK1, ⟨m1, rfl⟩⟩ := hrel
  cases gk with
  | zero => exact absurd HA.out (by simp [laws_heldIntS.l0])
  | succ k1 =>
   have H := HA.out
   clear HA
   simp only [laws_heldIntS.l0] at H
   by_cases c3 : aA < (l0.length : Int)
   ·rw [if_pos c3] at H
    have c3b0 : decide (aA < (l0.length : Int)) = true := decide_eq_true c3
    clear c3
    by_cases c4 : 0 ≤ aA
    ·rw [if_pos c4] at H
     have c4b0 : decide (0 ≤ aA) = true := decide_eq_true c4
     clear c4
     by_cases c5 : (rd l0 aA) = aB
     ·rw [if_pos c5] at H
      have c5b0 : ((rd l0 aA) == aB) = true := beq_iff_eq.mpr c5
      have c5b1 : ((rd l0 aA) != aB) = false := bne_eq_false_iff_eq.mpr c5
      clear c5
      have H' := Aside0.mk H
      clear H
      have aC : 0 ≤ (aA : Int) := OD
      have aD : aA < (l0.length : Int) := OD
      obtain ⟨aG, aF, aE⟩ := Kd.at_int aJ.out aA aC aD
      cases aF
      replace aC := eq_true aC
      replace aD := eq_true aD
      go_wp2
      go_roundg k1
      case measure => have := HK1.out; omega
      case rel => exact ⟨(wrap64 (aB + 1)), (wrap64 (aA + 1)), (by first | rfl | (simp; done) | (simp [*]; done)), (by first | rfl | (simp; done) | (simp [*]; done)), H', ⟨by have := HK1.out; omega⟩, by repeat (first | exact Drawn0.refl _ | apply Drawn0.step)⟩
     ·rw [if_neg c5] at H
      have c5b0 : ((rd l0 aA) == aB) = false := beq_eq_false_iff_ne.mpr c5
      have c5b1 : ((rd l0 aA) != aB) = true := bne_iff_ne.mpr c5
      obtain rfl := sj H
      have aC : 0 ≤ (aA : Int) := OD
      have aD : aA < (l0.length : Int) := OD
      obtain ⟨aG, aF, aE⟩ := Kd.at_int aJ.out aA aC aD
      cases aF
      replace aC := eq_true aC
      replace aD := eq_true aD
      go_wp2
      go_ret
      exact ⟨by first | rfl | (simp; done) | (simp [*]; done), by repeat (first | exact Drawn0.refl _ | apply Drawn0.step)⟩
    ·rw [if_neg c4] at H
     exact absurd H (by simp)
   ·rw [if_neg c3] at H
    have c3b0 : decide (aA < (l0.length : Int)) = false := decide_eq_false c3
    clear c3
    obtain rfl := sj H
    go_wp2
    go_ret
    exact ⟨by first | rfl | (simp; done) | (simp [*]; done), by repeat (first | exact Drawn0.refl _ | apply Drawn0.step)⟩
def laws_eqBlock.f (a0_0 : Int) (a0_1 : Int) (a1_0 : Int) (a1_1 : Int) : Option (Bool) := if a0_0 = a1_0 then (if a0_1 = a1_1 then (some true) else (some false)) else (some false)
theorem laws_eqBlock.calls (aF : Int) (aG : Int) (aH : Int) (aI : Int) (r : Bool) (w : World) (h : laws_eqBlock.f aF aG aH aI = some r) :
  Calls Tryz.prog 77 #[.agg #[.int .i64 aF, .int .i64 aG], .agg #[.int .i64 aH, .int .i64 aI]] w fun e w' => e = .returned (.bool r) ∧ Below w.heap.size w w' := by
 have bN := Tryz.underlying75
 have HB := am (Below.refl w.heap.size w)
 have H : (if aF = aH then (if aG = aI then (some true) else (some false)) else (some false)) = some r := h
 clear h
 by_cases c3 : aF = aH
 ·rw [if_pos c3] at H
  have c3b0 : (aF == aH) = true := beq_iff_eq.mpr c3
  have c3b1 : (aF != aH) = false := bne_eq_false_iff_eq.mpr c3
  clear c3
  by_cases c4 : aG = aI
  ·rw [if_pos c4] at H
   have c4b0 : (aG == aI) = true := beq_iff_eq.mpr c4
   have c4b1 : (aG != aI) = false := bne_eq_false_iff_eq.mpr c4
   clear c4
   obtain rfl := sj H
   go_enter Tryz.func77, Tryz.ntmps77
   go_wp2_with (first | ((with_reducible refine gate_dst (N := 2) rfl ?_); refine box_event rfl (N := 2) rfl (cs := #[.int .i64 aF, .int .i64 aG]) (t := 75) BX ?_; intro aN hg w5 aD hb; have aA := am (aD); have aJ := am (GH HB hg); have aE := aJ; replace HB := bl (KL HB) hb; clear hb aD hg) | ((with_reducible refine gate_dst (N := 3) rfl ?_); refine box_event rfl (N := 3) rfl (cs := #[.int .i64 aH, .int .i64 aI]) (t := 75) BX ?_; intro aO hg w6 aD hb; have aK := am (aD); have aL := am (GH1 HB aE.out hg); have aM := aL; replace HB := bl (K1 HB aE.out) hb; have aB := am (NL aA hg); have aC := am (NG aA hg); replace aA := am (BB aA hb); clear hb aD hg; have bO := aB.out; have bP := aC.out; have ⟨_, _, _⟩ := y2 w6 aA.out; have ⟨_, _, _⟩ := y2 w6 aK.out))
   go_ret
   exact ⟨ER, K2 HB aE.out aM.out⟩
  ·rw [if_neg c4] at H
   have c4b0 : (aG == aI) = false := beq_eq_false_iff_ne.mpr c4
   have c4b1 : (aG != aI) = true := bne_iff_ne.mpr c4
   obtain rfl := sj H
   go_enter Tryz.func77, Tryz.ntmps77
   go_wp2_with (first | ((with_reducible refine gate_dst (N := 2) rfl ?_); refine box_event rfl (N := 2) rfl (cs := #[.int .i64 aF, .int .i64 aG]) (t := 75) BX ?_; intro aN hg bQ aD hb; have aA := am (aD); have aJ := am (GH HB hg); have aE := aJ; replace HB := bl (KL HB) hb; clear hb aD hg) | ((with_reducible refine gate_dst (N := 3) rfl ?_); refine box_event rfl (N := 3) rfl (cs := #[.int .i64 aH, .int .i64 aI]) (t := 75) BX ?_; intro aO hg bH aD hb; have aK := am (aD); have aL := am (GH1 HB aE.out hg); have aM := aL; replace HB := bl (K1 HB aE.out) hb; have aB := am (NL aA hg); have aC := am (NG aA hg); replace aA := am (BB aA hb); clear hb aD hg; have bI := aB.out; have bJ := aC.out; have ⟨_, _, _⟩ := y2 bH aA.out; have ⟨_, _, _⟩ := y2 bH aK.out))
   go_ret
   exact ⟨ER, K2 HB aE.out aM.out⟩
 ·rw [if_neg c3] at H
  have c3b0 : (aF == aH) = false := beq_eq_false_iff_ne.mpr c3
  have c3b1 : (aF != aH) = true := bne_iff_ne.mpr c3
  obtain rfl := sj H
  go_enter Tryz.func77, Tryz.ntmps77
  go_wp2_with (first | ((with_reducible refine gate_dst (N := 2) rfl ?_); refine box_event rfl (N := 2) rfl (cs := #[.int .i64 aF, .int .i64 aG]) (t := 75) BX ?_; intro aN hg bR aD hb; have aA := am (aD); have aJ := am (GH HB hg); have aE := aJ; replace HB := bl (KL HB) hb; clear hb aD hg) | ((with_reducible refine gate_dst (N := 3) rfl ?_); refine box_event rfl (N := 3) rfl (cs := #[.int .i64 aH, .int .i64 aI]) (t := 75) BX ?_; intro aO hg bK aD hb; have aK := am (aD); have aL := am (GH1 HB aE.out hg); have aM := aL; replace HB := bl (K1 HB aE.out) hb; have aB := am (NL aA hg); have aC := am (NG aA hg); replace aA := am (BB aA hb); clear hb aD hg; have bL := aB.out; have bM := aC.out; have ⟨_, _, _⟩ := y2 bK aA.out; have ⟨_, _, _⟩ := y2 bK aK.out))
  go_ret
  exact ⟨ER, K2 HB aE.out aM.out⟩
def laws_eqCall.f (a0_0 : Int) (a0_1 : Int) (a0_2 : Int) (a1_0 : Int) (a1_1 : Int) (a1_2 : Int) : Option (Bool) := if a0_0 = a1_0 then (if a0_1 = a1_1 then (if a0_2 = a1_2 then (some true) else (some false)) else (some false)) else (some false)
theorem laws_eqCall.calls (aF : Int) (aG : Int) (aH : Int) (aI : Int) (aJ : Int) (aK : Int) (r : Bool) (w : World) (h : laws_eqCall.f aF aG aH aI aJ aK = some r) :
  Calls Tryz.prog 97 #[.agg #[.int .i64 aF, .int .i64 aG, .int .i64 aH], .agg #[.int .i64 aI, .int .i64 aJ, .int .i64 aK]] w fun e w' => e = .returned (.bool r) ∧ Below w.heap.size w w' := by
 have cG := Tryz.underlying89
 have HB := am (Below.refl w.heap.size w)
 have H : (if aF = aI then (if aG = aJ then (if aH = aK then (some true) else (some false)) else (some false)) else (some false)) = some r := h
 clear h
 by_cases c3 : aF = aI
 ·rw [if_pos c3] at H
  have c3b0 : (aF == aI) = true := beq_iff_eq.mpr c3
  have c3b1 : (aF != aI) = false := bne_eq_false_iff_eq.mpr c3
  clear c3
  by_cases c4 : aG = aJ
  ·rw [if_pos c4] at H
   have c4b0 : (aG == aJ) = true := beq_iff_eq.mpr c4
   have c4b1 : (aG != aJ) = false := bne_eq_false_iff_eq.mpr c4
   clear c4
   by_cases c5 : aH = aK
   ·rw [if_pos c5] at H
    have c5b0 : (aH == aK) = true := beq_iff_eq.mpr c5
    have c5b1 : (aH != aK) = false := bne_eq_false_iff_eq.mpr c5
    clear c5
    obtain rfl := sj H
    go_enter Tryz.func97, Tryz.ntmps97
    go_wp2_with (first | ((with_reducible refine gate_dst (N := 2) rfl ?_); refine box_event rfl (N := 2) rfl (cs := #[.int .i64 aF, .int .i64 aG, .int .i64 aH]) (t := 89) BX ?_; intro aP hg w6 aD hb; have aA := am (aD); have aL := am (GH HB hg); have aE := aL; replace HB := bl (KL HB) hb; clear hb aD hg) | ((with_reducible refine gate_dst (N := 3) rfl ?_); refine box_event rfl (N := 3) rfl (cs := #[.int .i64 aI, .int .i64 aJ, .int .i64 aK]) (t := 89) BX ?_; intro aQ hg w7 aD hb; have aM := am (aD); have aN := am (GH1 HB aE.out hg); have aO := aN; replace HB := bl (K1 HB aE.out) hb; have aB := am (NL aA hg); have aC := am (NG aA hg); replace aA := am (BB aA hb); clear hb aD hg; have cH := aB.out; have cI := aC.out; have ⟨_, _, _, _⟩ := y3 w7 aA.out; have ⟨_, _, _, _⟩ := y3 w7 aM.out))
    go_ret
    exact ⟨ER, K2 HB aE.out aO.out⟩
   ·rw [if_neg c5] at H
    have c5b0 : (aH == aK) = false := beq_eq_false_iff_ne.mpr c5
    have c5b1 : (aH != aK) = true := bne_iff_ne.mpr c5
    obtain rfl := sj H
    go_enter Tryz.func97, Tryz.ntmps97
    go_wp2_with (first | ((with_reducible refine gate_dst (N := 2) rfl ?_); refine box_event rfl (N := 2) rfl (cs := #[.int .i64 aF, .int .i64 aG, .int .i64 aH]) (t := 89) BX ?_; intro aP hg cJ aD hb; have aA := am (aD); have aL := am (GH HB hg); have aE := aL; replace HB := bl (KL HB) hb; clear hb aD hg) | ((with_reducible refine gate_dst (N := 3) rfl ?_); refine box_event rfl (N := 3) rfl (cs := #[.int .i64 aI, .int .i64 aJ, .int .i64 aK]) (t := 89) BX ?_; intro aQ hg bX aD hb; have aM := am (aD); have aN := am (GH1 HB aE.out hg); have aO := aN; replace HB := bl (K1 HB aE.out) hb; have aB := am (NL aA hg); have aC := am (NG aA hg); replace aA := am (BB aA hb); clear hb aD hg; have bY := aB.out; have bZ := aC.out; have ⟨_, _, _, _⟩ := y3 bX aA.out; have ⟨_, _, _, _⟩ := y3 bX aM.out))
    go_ret
    exact ⟨ER, K2 HB aE.out aO.out⟩
  ·rw [if_neg c4] at H
   have c4b0 : (aG == aJ) = false := beq_eq_false_iff_ne.mpr c4
   have c4b1 : (aG != aJ) = true := bne_iff_ne.mpr c4
   obtain rfl := sj H
   go_enter Tryz.func97, Tryz.ntmps97
   go_wp2_with (first | ((with_reducible refine gate_dst (N := 2) rfl ?_); refine box_event rfl (N := 2) rfl (cs := #[.int .i64 aF, .int .i64 aG, .int .i64 aH]) (t := 89) BX ?_; intro aP hg cK aD hb; have aA := am (aD); have aL := am (GH HB hg); have aE := aL; replace HB := bl (KL HB) hb; clear hb aD hg) | ((with_reducible refine gate_dst (N := 3) rfl ?_); refine box_event rfl (N := 3) rfl (cs := #[.int .i64 aI, .int .i64 aJ, .int .i64 aK]) (t := 89) BX ?_; intro aQ hg cA aD hb; have aM := am (aD); have aN := am (GH1 HB aE.out hg); have aO := aN; replace HB := bl (K1 HB aE.out) hb; have aB := am (NL aA hg); have aC := am (NG aA hg); replace aA := am (BB aA hb); clear hb aD hg; have cB := aB.out; have cC := aC.out; have ⟨_, _, _, _⟩ := y3 cA aA.out; have ⟨_, _, _, _⟩ := y3 cA aM.out))
   go_ret
   exact ⟨ER, K2 HB aE.out aO.out⟩
 ·rw [if_neg c3] at H
  have c3b0 : (aF == aI) = false := beq_eq_false_iff_ne.mpr c3
  have c3b1 : (aF != aI) = true := bne_iff_ne.mpr c3
  obtain rfl := sj H
  go_enter Tryz.func97, Tryz.ntmps97
  go_wp2_with (first | ((with_reducible refine gate_dst (N := 2) rfl ?_); refine box_event rfl (N := 2) rfl (cs := #[.int .i64 aF, .int .i64 aG, .int .i64 aH]) (t := 89) BX ?_; intro aP hg cL aD hb; have aA := am (aD); have aL := am (GH HB hg); have aE := aL; replace HB := bl (KL HB) hb; clear hb aD hg) | ((with_reducible refine gate_dst (N := 3) rfl ?_); refine box_event rfl (N := 3) rfl (cs := #[.int .i64 aI, .int .i64 aJ, .int .i64 aK]) (t := 89) BX ?_; intro aQ hg cD aD hb; have aM := am (aD); have aN := am (GH1 HB aE.out hg); have aO := aN; replace HB := bl (K1 HB aE.out) hb; have aB := am (NL aA hg); have aC := am (NG aA hg); replace aA := am (BB aA hb); clear hb aD hg; have cE := aB.out; have cF := aC.out; have ⟨_, _, _, _⟩ := y3 cD aA.out; have ⟨_, _, _, _⟩ := y3 cD aM.out))
  go_ret
  exact ⟨ER, K2 HB aE.out aO.out⟩
end Go.Proofs.YtmdegplkdgaebaaGreat.PAll
end
