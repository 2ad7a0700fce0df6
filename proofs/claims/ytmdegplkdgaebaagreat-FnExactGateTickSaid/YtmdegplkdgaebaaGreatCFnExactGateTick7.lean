/- Contracts of the functions that the statement reaches. -/
import Derived.Lib.LazyBuf
import Derived.Test.YtmdegplkdgaebaaGreatCFnExactGateTick3
import Derived.Test.YtmdegplkdgaebaaGreatCFnExactGateTick4
import Derived.Test.YtmdegplkdgaebaaGreatCFnExactGateTick6
set_option maxHeartbeats 8000000
set_option maxRecDepth 100000
section
namespace Go.Proofs.YtmdegplkdgaebaaGreat.PAll
open Go.RowKit Go.Proofs.YtmdegplkdgaebaaGreatW.PrintWords Go.Proofs.YtmdegplkdgaebaaGreatW.PrintLast Go.Proofs.YtmdegplkdgaebaaGreatW.PrintMore
attribute [local go_sem] max2_int min2_int max_two min_two max_three min_three max_four min_four
set_option linter.unusedVariables false
set_option linter.unusedSimpArgs false
def laws_toIntS.l0 : Nat → List Int → List Int → Int → Option (List Int)
 | 0, _, _, _ => none
 | k + 1, x0, x3, x4 => if x4 < (x0.length : Int) then (if 0 ≤ x4 then (if x4 < (x3.length : Int) then (laws_toIntS.l0 k x0 (x3.set (x4 : Int).toNat (rd x0 x4)) (wrap64 (x4 + 1))) else (none)) else (none)) else (some x3)
def laws_toIntS.f (k : Nat) (l0 : List Int) : Option (List Int) := if 0 ≤ (l0.length : Int) then (if ((l0.length : Int) : Int).toNat ≤ 35184372088832 then (laws_toIntS.l0 k l0 (List.replicate ((l0.length : Int) : Int).toNat 0) 0) else (none)) else (none)
theorem laws_toIntS.calls (k : Nat) (A0 : Option Addr) (c0 : Nat) (l0 : List Int) (r : List Int) (w : World) (aP : Kd.C (Kd.int .i64) w A0 l0.length l0) (aQ : l0.length ≤ c0) (h : laws_toIntS.f k l0 = some r) :
  Calls Tryz.prog 85 #[.slice A0 l0.length c0] w fun e w' => ∃ v0_ : Value, e = .returned (v0_) ∧ Kd.R (Kd.int .i64) 3 w' w.heap.size (fun _ => True) v0_ r ∧ Below w.heap.size w w' := by
 have aW := Aside0.mk aP
 have aY := Aside0.mk aQ
 clear aP aQ
 have HB := am (Below.refl w.heap.size w)
 have H : (if 0 ≤ (l0.length : Int) then (if ((l0.length : Int) : Int).toNat ≤ 35184372088832 then (laws_toIntS.l0 k l0 (List.replicate ((l0.length : Int) : Int).toNat 0) 0) else (none)) else (none)) = some r := h
 clear h
 by_cases c2 : 0 ≤ (l0.length : Int)
 ·rw [if_pos c2] at H
  have c2b0 := eq_true c2
  have c2b1 : decide (0 ≤ (l0.length : Int)) = true := decide_eq_true c2
  clear c2
  by_cases c3 : ((l0.length : Int) : Int).toNat ≤ 35184372088832
  ·rw [if_pos c3] at H
   have c3b0 := eq_true c3
   have c3b1 : decide (((l0.length : Int) : Int).toNat ≤ 35184372088832) = true := decide_eq_true c3
   clear c3
   obtain ⟨aJ, aB⟩ : ∃ y_ : List Int, y_ = (List.replicate ((l0.length : Int) : Int).toNat 0) := ⟨_, rfl⟩
   replace H : (laws_toIntS.l0 k l0 aJ 0) = some r := by first | (rw [aB]; with_reducible exact H) | (have H2_ := (Option.bind_some _ _).symm.trans H; rw [aB]; with_reducible exact H2_) | (have H2_ := (Option.bind_some _ _).symm.trans H; with_reducible exact H2_) | with_reducible exact H | (rw [aB]; exact H) | exact H
   have Ny101 := Aside0.mk aB
   clear aB
   have H' := Aside0.mk H
   clear H
   go_enter Tryz.func85, Tryz.ntmps85
   go_wp2_with (first | ((with_reducible refine gate_dst (N := 7) rfl ?_); refine Kd.R_make (Kd.int .i64) _ 3 rfl (N := 7) rfl 46 _ _ rfl (l0.length : Int) rfl rfl Tryz.underlying46 (.int .i64 0) 8 info3 rfl (by decide) (by omega) 0 (ok := fun _ => True) (okp := fun _ => True) rfl (fun _ hk => hk) trivial (OD) (Nat.le_trans (Nat.mul_le_mul_right _ (OD : (l0.length : Int).toNat ≤ 35184372088832)) (by omega)) (Below.refl _ _) (Nat.le_refl _) ?_; intro aM w4 aK hb hg_ hnew_; clear hg_ hnew_; (first | rw [← Ny101.out] at aK | (simp only [Int.reduceToNat] at aK; rw [← Ny101.out] at aK)); have aL := am (Kd.R_lower aK (below_size (KL HB))); replace HB := bl (KL HB) hb; clear hb aK))
   go_loopg [4] k (fun kq v4 w' => ∃ (aC : List Int) (aA : Int), v4 = .int .i64 aA ∧ Aside0 (laws_toIntS.l0 kq l0 aC aA = some r) ∧ Aside0 (kq ≤ k) ∧ Aside0 (Kd.R (Kd.int .i64) 3 w' w.heap.size (fun _ => True) aM aC) ∧ Aside0 (Below w.heap.size w w'))
   case atStart => exact ⟨(aJ), (0), (by first | rfl | (simp; done) | (simp [*]; done)), H', ⟨Nat.le_refl _⟩, ⟨KR aL⟩, ⟨KL HB⟩⟩
   case round =>
    clear H'
    try clear c2
    try clear c2b0
    try clear c2b1
    try clear p2
    try clear c3
    try clear c3b0
    try clear c3b1
    obtain ⟨aC, aA, rfl, HA, HK1, aF, HB⟩ := hrel
    cases gk with
    | zero => exact absurd HA.out (by simp [laws_toIntS.l0])
    | succ k1 =>
     have H := HA.out
     clear HA
     simp only [laws_toIntS.l0] at H
     by_cases c6 : aA < (l0.length : Int)
     ·rw [if_pos c6] at H
      have c6b0 : decide (aA < (l0.length : Int)) = true := decide_eq_true c6
      clear c6
      by_cases c7 : 0 ≤ aA
      ·rw [if_pos c7] at H
       have c7b0 : decide (0 ≤ aA) = true := decide_eq_true c7
       clear c7
       by_cases c8 : aA < (aC.length : Int)
       ·rw [if_pos c8] at H
        have c8b0 : decide (aA < (aC.length : Int)) = true := decide_eq_true c8
        clear c8
        obtain ⟨aG, aD⟩ : ∃ y_ : List Int, y_ = (aC.set (aA : Int).toNat (rd l0 aA)) := ⟨_, rfl⟩
        replace H : (laws_toIntS.l0 k1 l0 aG (wrap64 (aA + 1))) = some r := by first | (rw [aD]; with_reducible exact H) | (have H2_ := (Option.bind_some _ _).symm.trans H; rw [aD]; with_reducible exact H2_) | (have H2_ := (Option.bind_some _ _).symm.trans H; with_reducible exact H2_) | with_reducible exact H | (rw [aD]; exact H) | exact H
        have Ny105 := Aside0.mk aD
        clear aD
        have H' := Aside0.mk H
        clear H
        have aH : 0 ≤ (aA : Int) := OD
        have aI : aA < (l0.length : Int) := OD
        obtain ⟨_, aN, aE⟩ := Kd.at_int aW.out aA aH aI
        cases aN
        replace aE := CX HB.out aE
        replace aH := eq_true aH
        replace aI := eq_true aI
        have p9 : 0 ≤ (aA : Int) := OD
        have q9 : (aA : Int) < ((aC.length : Int) : Int) := OD
        obtain ⟨go9, aX, aS, aT, gl9, cl9, HG9⟩ := Kd.R_form aF.out (by omega)
        (first | cases aS | (injection aS with ea_ en_ ec_; (first | subst ea_ | (injection ea_ with ea_; subst ea_)); subst ec_; clear en_))
        have GB9 := Aside0.mk aT
        have GG9 := Aside0.mk HG9
        clear aT gl9 HG9
        obtain ⟨_, _⟩ := Kd.R_celln 0 aF.out (aA : Int) p9 q9
        replace p9 := eq_true p9
        replace q9 := eq_true q9
        have HP10 := Kd.R_putg aF.out (aA : Int) (rd l0 aA)
        go_wp2_with (first | ((with_reducible refine gate_store (t := 3) (p := 20) rfl ?_); refine store_event (t := 3) (p := 20) (v := ?vo_w11) (w1 := (wr.setCell ⟨go9, (aA : Int).toNat, none⟩ (.int .i64 (rd l0 aA)))) ?hg ?ho ?hn ?hr ?_; (case ho => rfl); (case hg => rfl); (case hn => rfl); (case hr => first | (go_simp; done) | (go_simp; rfl)); intro aO hw; have hg : wr.grownBy aO (some go9) := (by rw [hw]; exact HP10.2); have hp_ : Kd.R (Kd.int .i64) 3 aO w.heap.size (fun _ => True) (.slice (some ⟨go9, 0, none⟩) aC.length aX) aG := (by rw [hw, Ny105.out]; exact HP10.1); clear HP10; replace aF := am (hp_); replace HB := am ((by rw [hw]; exact below_set (HB.out) GB9.out : Below w.heap.size w aO)); clear hg hw hp_))
        go_roundg k1
        case measure => have := HK1.out; omega
        case rel => exact ⟨(aG), (wrap64 (aA + 1)), (by first | rfl | (simp; done) | (simp [*]; done)), H', ⟨by have := HK1.out; omega⟩, ⟨KR aF⟩, ⟨KL HB⟩⟩
       ·rw [if_neg c8] at H
        exact absurd H (by simp)
      ·rw [if_neg c7] at H
       exact absurd H (by simp)
     ·rw [if_neg c6] at H
      have c6b0 : decide (aA < (l0.length : Int)) = false := decide_eq_false c6
      clear c6
      obtain rfl := sj H
      go_wp2
      go_ret
      exact ⟨_, ER, by refine KW ?_; exact aF.out, KL HB⟩
  ·rw [if_neg c3] at H
   exact absurd H (by simp)
 ·rw [if_neg c2] at H
  exact absurd H (by simp)
def laws_toWindow.f (k : Nat) (a0_0 : Int) (l0_1 : List Int) : Option (Int × List Int) := (laws_toIntS.f k l0_1).bind fun t104 => (some (a0_0, t104))
theorem laws_toWindow.calls (k : Nat) (aE : Int) (aR : Option Addr) (aS : Nat) (aF : List Int) (r1 : Int) (r2 : List Int) (w : World) (aT : Kd.C (Kd.int .i64) w aR aF.length aF) (aU : aF.length ≤ aS) (h : laws_toWindow.f k aE aF = some (r1, r2)) :
  Calls Tryz.prog 69 #[.agg #[.int .i64 aE, .slice aR aF.length aS]] w fun e w' => ∃ v1_ : Value, e = .returned (.agg #[.int .i64 r1, v1_]) ∧ Kd.R (Kd.int .i64) 3 w' w.heap.size (fun _ => True) v1_ r2 ∧ Below w.heap.size w w' := by
 have bV := Tryz.underlying67
 have bW := Tryz.underlying48
 have aZ := Aside0.mk aT
 have bA := Aside0.mk aU
 clear aT aU
 have HB := am (Below.refl w.heap.size w)
 have H : ((laws_toIntS.f k aF).bind fun aK => (some (aE, aK))) = some (r1, r2) := h
 clear h
 replace H := bm H
 obtain ⟨aK, bS, H⟩ := H
 replace H : (some (aE, aK)) = some (r1, r2) := H
 have A2 := Aside0.mk bS
 clear bS
 simp only [Option.some.injEq, Prod.mk.injEq] at H
 obtain ⟨rfl, rfl⟩ := H
 go_enter Tryz.func69, Tryz.ntmps69
 go_wp2_with (first | ((with_reducible refine gate_dst (N := 1) rfl ?_); refine box_event rfl (N := 1) rfl (cs := #[.int .i64 aE, .slice aR aF.length aS]) (t := 67) BX ?_; intro bB hg w3 aI hb; have aA := am (aI); have bC := am (GH HB hg); have aD := bC; replace HB := bl (KL HB) hb; clear hb aI hg) | ((with_reducible refine gate_dst (N := 2) rfl ?_); refine box_event rfl (N := 2) rfl (cs := #[.int .i64 0, .slice none 0 0]) (t := 48) BX ?_; intro aL hg w4 aI hb; have aB := am (aI); have bD := am (GH1 HB aD.out hg); have aG := bD; replace HB := bl (K1 HB aD.out) hb; have aN := am (NL aA hg); have aO := am (NG aA hg); replace aA := am (BB aA hb); clear hb aI hg) | ((with_reducible refine gate_dst (N := 3) rfl ?_); refine box_event rfl (N := 3) rfl (cs := #[.int .i64 0, .slice none 0 0]) (t := 48) BX ?_; intro aV hg w5 aI hb; have aJ := am (aI); have bE := am (GH2 HB aD.out aG.out hg); have aM := bE; replace HB := bl (K2 HB aD.out aG.out) hb; have aH := am (NL aA hg); have aP := am (NG aA hg); replace aA := am (BB aA hb); have aC := am (NL aB hg); have aQ := am (NG aB hg); replace aB := am (BB aB hb); clear hb aI hg; have bX := aN.out; have bY := aO.out; have bZ := aH.out; have cA := aP.out; have ⟨_, _, _⟩ := y2 w5 aA.out; have cB := aQ.out; have cC := aC.out; have ⟨_, _, _⟩ := y2 w5 aJ.out) | ((with_reducible refine gate_callee (f := 85) rfl ?_); refine goesL_ (some 9) rfl rfl Tryz.func85 (by kernel_rfl) rfl #[.slice aR aF.length aS] rfl MT ?_; (with_reducible refine (laws_toIntS.calls k _ _ aF aK _ ?_ ?_ A2.out).mono ?_); exact Kd.C_below aZ.out (K3 HB aD.out aG.out aM.out); exact bA.out; rintro e bT ⟨cD, rfl, bU, hb⟩; refine ⟨_, rfl, ?_⟩; have aW := am (Kd.R_lower bU (below_size (K3 HB aD.out aG.out aM.out))); replace aA := am (blk_below (g := bB) (o := .cells #[.int .i64 aE, .slice aR aF.length aS] 67 (0, 0)) (by refine BD ?_; refine blk_far ?_ aH.out _; refine BD ?_; exact aA.out) hb); replace aB := am (blk_below (g := aL) (o := .cells #[.int .i64 0, .slice none 0 0] 48 (0, 0)) (by refine BD ?_; refine blk_far ?_ aC.out _; refine BD ?_; exact aB.out) hb); replace aJ := am (blk_below (g := aV) (o := .cells #[.int .i64 aE, .slice none 0 0] 48 (0, 0)) (by refine BD ?_; refine blk_put (cs := #[.int .i64 0, .slice none 0 0]) ?_ 0 _ rfl; refine BD ?_; exact aJ.out) hb); replace HB := bl (K3 HB aD.out aG.out aM.out) hb; (try clear hb); (try clear hb2); (try clear hk); (try clear hi); (try clear bU); obtain ⟨aX, aY, bR⟩ := Kd.R_slice aW.out; subst bR; have ⟨_, _, _⟩ := y2 bT aJ.out; have ⟨_, _, _⟩ := y2 bT aB.out))
 refine bodyPost_ret (results_cell_row rfl _ _ aL 48 #[.int .i64 aE, .slice aX aK.length aY] (0, 0) _ rfl (by refine BD ?_; refine blk_put (cs := #[.int .i64 aE, .slice none 0 0]) ?_ 1 _ rfl; refine BD ?_; refine blk_put (cs := #[.int .i64 0, .slice none 0 0]) ?_ 0 _ rfl; refine BD ?_; refine blk_far ?_ aC.out _; refine BD ?_; exact aB.out) Tryz.underlying48 rfl (by kernel_rfl)) rfl ?_
 exact ⟨_, ER, by refine KW ?_; exact Kd.R_mono (Kd.R_far (p := ⟨aL, 1, none⟩) (Kd.R_far (p := ⟨aL, 0, none⟩) (Kd.R_far (p := ⟨aV, 1, none⟩) (Kd.R_types (Kd.R_types aW.out aJ.out (by decide)) aB.out (by decide)) (fun _ hk => hk.1.2) (.slice aX aK.length aY)) (fun _ hk => hk.2) (.int .i64 aE)) (fun _ hk => hk.2) (.slice aX aK.length aY)) (fun _ hk => trivial), K3 HB aD.out aG.out aM.out⟩
def laws_toSa.f (k : Nat) (a0_0 : Int) (a0_1 : Int) (a0_2 : ByteArray) (a0_3 : ByteArray) (a0_4 : Int) (a0_5 : Int) (a0_6 : Int) (a0_7 : Int) (a0_8 : Int) (a0_9 : Int) (l0_10 : List Int) : Option (Int × Int × ByteArray × ByteArray × Int × Int × Int × Int × Int × Int × List Int) := (laws_toWindow.f k a0_9 l0_10).bind fun bt104 => (some (a0_0, a0_1, a0_2, a0_3, a0_4, a0_5, a0_6, a0_7, a0_8, bt104.1, bt104.2))
theorem laws_toSa.calls (k : Nat) (aC : Int) (aD : Int) (aE : ByteArray) (aF : ByteArray) (aH : Int) (aI : Int) (aL : Int) (aN : Int) (aP : Int) (aV : Int) (aR : Option Addr) (aS : Nat) (aK : List Int) (r1 : Int) (r2 : Int) (r3 : ByteArray) (r4 : ByteArray) (r5 : Int) (r6 : Int) (r7 : Int) (r8 : Int) (r9 : Int) (r10 : Int) (r11 : List Int) (w : World) (bC : Kd.C (Kd.int .i64) w aR aK.length aK) (bD : aK.length ≤ aS) (h : laws_toSa.f k aC aD aE aF aH aI aL aN aP aV aK = some (r1, r2, r3, r4, r5, r6, r7, r8, r9, r10, r11)) :
  Calls Tryz.prog 43 #[.agg #[.int .i64 aC, .int .i64 aD, .string aE, .string aF, .int .i64 aH, .int .i64 aI, .int .i64 aL, .int .i64 aN, .int .i64 aP, .int .i64 aV, .slice aR aK.length aS]] w fun e w' => ∃ v10_ : Value, e = .returned (.agg #[.int .i64 r1, .int .i64 r2, .string r3, .string r4, .int .i64 r5, .int .i64 r6, .int .i64 r7, .int .i64 r8, .int .i64 r9, .int .i64 r10, v10_]) ∧ Kd.R (Kd.int .i64) 3 w' w.heap.size (fun _ => True) v10_ r11 ∧ Below w.heap.size w w' := by
 have dQ := Tryz.underlying69
 have dR := Tryz.underlying50
 have dS := Tryz.underlying67
 have dT := Tryz.underlying48
 have bI := Aside0.mk bC
 have bJ := Aside0.mk bD
 clear bC bD
 have HB := am (Below.refl w.heap.size w)
 have H : ((laws_toWindow.f k aV aK).bind fun bG => (some (aC, aD, aE, aF, aH, aI, aL, aN, aP, bG.1, bG.2))) = some (r1, r2, r3, r4, r5, r6, r7, r8, r9, r10, r11) := h
 clear h
 replace H := bm H
 obtain ⟨⟨aX, bE⟩, dN, H⟩ := H
 replace H : (some (aC, aD, aE, aF, aH, aI, aL, aN, aP, aX, bE)) = some (r1, r2, r3, r4, r5, r6, r7, r8, r9, r10, r11) := H
 have A2 := Aside0.mk dN
 clear dN
 simp only [Option.some.injEq, Prod.mk.injEq] at H
 obtain ⟨rfl, rfl, rfl, rfl, rfl, rfl, rfl, rfl, rfl, rfl, rfl⟩ := H
 go_enter Tryz.func43, Tryz.ntmps43
 go_wp2_with (first | ((with_reducible refine gate_dst (N := 1) rfl ?_); refine box_event rfl (N := 1) rfl (cs := #[.int .i64 aC, .int .i64 aD, .string aE, .string aF, .int .i64 aH, .int .i64 aI, .int .i64 aL, .int .i64 aN, .int .i64 aP, .int .i64 aV, .slice aR aK.length aS]) (t := 69) BX ?_; intro bM hg w3 aT hb; have aJ := am (aT); have bN := am (GH HB hg); have aO := bN; replace HB := bl (KL HB) hb; clear hb aT hg) | ((with_reducible refine gate_dst (N := 2) rfl ?_); refine box_event rfl (N := 2) rfl (cs := #[.int .i64 0, .int .i64 0, .string (⟨#[]⟩ : ByteArray), .string (⟨#[]⟩ : ByteArray), .int .i64 0, .int .i64 0, .int .i64 0, .int .i64 0, .int .i64 0, .int .i64 0, .slice none 0 0]) (t := 50) BX ?_; intro aG hg w4 aT hb; have aM := am (aT); have bO := am (GH1 HB aO.out hg); have aQ := bO; replace HB := bl (K1 HB aO.out) hb; have aY := am (NL aJ hg); have aZ := am (NG aJ hg); replace aJ := am (BB aJ hb); clear hb aT hg) | ((with_reducible refine gate_dst (N := 3) rfl ?_); refine box_event rfl (N := 3) rfl (cs := #[.int .i64 0, .int .i64 0, .string (⟨#[]⟩ : ByteArray), .string (⟨#[]⟩ : ByteArray), .int .i64 0, .int .i64 0, .int .i64 0, .int .i64 0, .int .i64 0, .int .i64 0, .slice none 0 0]) (t := 50) BX ?_; intro bF hg w5 aT hb; have aU := am (aT); have bP := am (GH2 HB aO.out aQ.out hg); have aW := bP; replace HB := bl (K2 HB aO.out aQ.out) hb; have aB := am (NL aJ hg); have bA := am (NG aJ hg); replace aJ := am (BB aJ hb); have aA := am (NL aM hg); have bB := am (NG aM hg); replace aM := am (BB aM hb); clear hb aT hg; have dU := aY.out; have dV := aZ.out; have dW := aB.out; have dX := bA.out; have ⟨_, _, _, _, _, _, _, _, _, _, _, _⟩ := y11 w5 aJ.out; have dY := bB.out; have dZ := aA.out; have ⟨_, _, _, _, _, _, _, _, _, _, _, _⟩ := y11 w5 aU.out) | ((with_reducible refine gate_callee (f := 69) rfl ?_); refine goesL_ (some 33) rfl rfl Tryz.func69 (by kernel_rfl) rfl #[.agg #[.int .i64 aV, .slice aR aK.length aS]] rfl MT ?_; (with_reducible refine (laws_toWindow.calls k aV _ _ aK aX bE _ ?_ ?_ A2.out).mono ?_); exact Kd.C_below bI.out (K3 HB aO.out aQ.out aW.out); exact bJ.out; rintro e dO ⟨eA, rfl, dP, hb⟩; refine ⟨_, rfl, ?_⟩; have bH := am (Kd.R_lower dP (below_size (K3 HB aO.out aQ.out aW.out))); replace aJ := am (blk_below (g := bM) (o := .cells #[.int .i64 aC, .int .i64 aD, .string aE, .string aF, .int .i64 aH, .int .i64 aI, .int .i64 aL, .int .i64 aN, .int .i64 aP, .int .i64 aV, .slice aR aK.length aS] 69 (0, 0)) (by refine BD ?_; refine blk_far ?_ aB.out _; refine BD ?_; refine blk_far ?_ aB.out _; refine BD ?_; refine blk_far ?_ aB.out _; refine BD ?_; refine blk_far ?_ aB.out _; refine BD ?_; refine blk_far ?_ aB.out _; refine BD ?_; refine blk_far ?_ aB.out _; refine BD ?_; refine blk_far ?_ aB.out _; refine BD ?_; refine blk_far ?_ aB.out _; refine BD ?_; refine blk_far ?_ aB.out _; refine BD ?_; exact aJ.out) hb); replace aM := am (blk_below (g := aG) (o := .cells #[.int .i64 0, .int .i64 0, .string (⟨#[]⟩ : ByteArray), .string (⟨#[]⟩ : ByteArray), .int .i64 0, .int .i64 0, .int .i64 0, .int .i64 0, .int .i64 0, .int .i64 0, .slice none 0 0] 50 (0, 0)) (by refine BD ?_; refine blk_far ?_ aA.out _; refine BD ?_; refine blk_far ?_ aA.out _; refine BD ?_; refine blk_far ?_ aA.out _; refine BD ?_; refine blk_far ?_ aA.out _; refine BD ?_; refine blk_far ?_ aA.out _; refine BD ?_; refine blk_far ?_ aA.out _; refine BD ?_; refine blk_far ?_ aA.out _; refine BD ?_; refine blk_far ?_ aA.out _; refine BD ?_; refine blk_far ?_ aA.out _; refine BD ?_; exact aM.out) hb); replace aU := am (blk_below (g := bF) (o := .cells #[.int .i64 aC, .int .i64 aD, .string aE, .string aF, .int .i64 aH, .int .i64 aI, .int .i64 aL, .int .i64 aN, .int .i64 aP, .int .i64 0, .slice none 0 0] 50 (0, 0)) (by refine BD ?_; refine blk_put (cs := #[.int .i64 aC, .int .i64 aD, .string aE, .string aF, .int .i64 aH, .int .i64 aI, .int .i64 aL, .int .i64 aN, .int .i64 0, .int .i64 0, .slice none 0 0]) ?_ 8 _ rfl; refine BD ?_; refine blk_put (cs := #[.int .i64 aC, .int .i64 aD, .string aE, .string aF, .int .i64 aH, .int .i64 aI, .int .i64 aL, .int .i64 0, .int .i64 0, .int .i64 0, .slice none 0 0]) ?_ 7 _ rfl; refine BD ?_; refine blk_put (cs := #[.int .i64 aC, .int .i64 aD, .string aE, .string aF, .int .i64 aH, .int .i64 aI, .int .i64 0, .int .i64 0, .int .i64 0, .int .i64 0, .slice none 0 0]) ?_ 6 _ rfl; refine BD ?_; refine blk_put (cs := #[.int .i64 aC, .int .i64 aD, .string aE, .string aF, .int .i64 aH, .int .i64 0, .int .i64 0, .int .i64 0, .int .i64 0, .int .i64 0, .slice none 0 0]) ?_ 5 _ rfl; refine BD ?_; refine blk_put (cs := #[.int .i64 aC, .int .i64 aD, .string aE, .string aF, .int .i64 0, .int .i64 0, .int .i64 0, .int .i64 0, .int .i64 0, .int .i64 0, .slice none 0 0]) ?_ 4 _ rfl; refine BD ?_; refine blk_put (cs := #[.int .i64 aC, .int .i64 aD, .string aE, .string (⟨#[]⟩ : ByteArray), .int .i64 0, .int .i64 0, .int .i64 0, .int .i64 0, .int .i64 0, .int .i64 0, .slice none 0 0]) ?_ 3 _ rfl; refine BD ?_; refine blk_put (cs := #[.int .i64 aC, .int .i64 aD, .string (⟨#[]⟩ : ByteArray), .string (⟨#[]⟩ : ByteArray), .int .i64 0, .int .i64 0, .int .i64 0, .int .i64 0, .int .i64 0, .int .i64 0, .slice none 0 0]) ?_ 2 _ rfl; refine BD ?_; refine blk_put (cs := #[.int .i64 aC, .int .i64 0, .string (⟨#[]⟩ : ByteArray), .string (⟨#[]⟩ : ByteArray), .int .i64 0, .int .i64 0, .int .i64 0, .int .i64 0, .int .i64 0, .int .i64 0, .slice none 0 0]) ?_ 1 _ rfl; refine BD ?_; refine blk_put (cs := #[.int .i64 0, .int .i64 0, .string (⟨#[]⟩ : ByteArray), .string (⟨#[]⟩ : ByteArray), .int .i64 0, .int .i64 0, .int .i64 0, .int .i64 0, .int .i64 0, .int .i64 0, .slice none 0 0]) ?_ 0 _ rfl; refine BD ?_; exact aU.out) hb); replace HB := bl (K3 HB aO.out aQ.out aW.out) hb; (try clear hb); (try clear hb2); (try clear hk); (try clear hi); (try clear dP); have ⟨_, _, _, _, _, _, _, _, _, _, _, _⟩ := y11 dO aU.out; obtain ⟨bK, bL, dM⟩ := Kd.R_slice bH.out; subst dM; have ⟨_, _, _, _, _, _, _, _, _, _, _, _⟩ := y11 dO aM.out))
 refine bodyPost_ret (results_cell_row rfl _ _ aG 50 #[.int .i64 aC, .int .i64 aD, .string aE, .string aF, .int .i64 aH, .int .i64 aI, .int .i64 aL, .int .i64 aN, .int .i64 aP, .int .i64 aX, .slice bK bE.length bL] (0, 0) _ rfl (by refine BD ?_; refine blk_put (cs := #[.int .i64 aC, .int .i64 aD, .string aE, .string aF, .int .i64 aH, .int .i64 aI, .int .i64 aL, .int .i64 aN, .int .i64 aP, .int .i64 aX, .slice none 0 0]) ?_ 10 _ rfl; refine BD ?_; refine blk_put (cs := #[.int .i64 aC, .int .i64 aD, .string aE, .string aF, .int .i64 aH, .int .i64 aI, .int .i64 aL, .int .i64 aN, .int .i64 aP, .int .i64 0, .slice none 0 0]) ?_ 9 _ rfl; refine BD ?_; refine blk_put (cs := #[.int .i64 aC, .int .i64 aD, .string aE, .string aF, .int .i64 aH, .int .i64 aI, .int .i64 aL, .int .i64 aN, .int .i64 0, .int .i64 0, .slice none 0 0]) ?_ 8 _ rfl; refine BD ?_; refine blk_put (cs := #[.int .i64 aC, .int .i64 aD, .string aE, .string aF, .int .i64 aH, .int .i64 aI, .int .i64 aL, .int .i64 0, .int .i64 0, .int .i64 0, .slice none 0 0]) ?_ 7 _ rfl; refine BD ?_; refine blk_put (cs := #[.int .i64 aC, .int .i64 aD, .string aE, .string aF, .int .i64 aH, .int .i64 aI, .int .i64 0, .int .i64 0, .int .i64 0, .int .i64 0, .slice none 0 0]) ?_ 6 _ rfl; refine BD ?_; refine blk_put (cs := #[.int .i64 aC, .int .i64 aD, .string aE, .string aF, .int .i64 aH, .int .i64 0, .int .i64 0, .int .i64 0, .int .i64 0, .int .i64 0, .slice none 0 0]) ?_ 5 _ rfl; refine BD ?_; refine blk_put (cs := #[.int .i64 aC, .int .i64 aD, .string aE, .string aF, .int .i64 0, .int .i64 0, .int .i64 0, .int .i64 0, .int .i64 0, .int .i64 0, .slice none 0 0]) ?_ 4 _ rfl; refine BD ?_; refine blk_put (cs := #[.int .i64 aC, .int .i64 aD, .string aE, .string (⟨#[]⟩ : ByteArray), .int .i64 0, .int .i64 0, .int .i64 0, .int .i64 0, .int .i64 0, .int .i64 0, .slice none 0 0]) ?_ 3 _ rfl; refine BD ?_; refine blk_put (cs := #[.int .i64 aC, .int .i64 aD, .string (⟨#[]⟩ : ByteArray), .string (⟨#[]⟩ : ByteArray), .int .i64 0, .int .i64 0, .int .i64 0, .int .i64 0, .int .i64 0, .int .i64 0, .slice none 0 0]) ?_ 2 _ rfl; refine BD ?_; refine blk_put (cs := #[.int .i64 aC, .int .i64 0, .string (⟨#[]⟩ : ByteArray), .string (⟨#[]⟩ : ByteArray), .int .i64 0, .int .i64 0, .int .i64 0, .int .i64 0, .int .i64 0, .int .i64 0, .slice none 0 0]) ?_ 1 _ rfl; refine BD ?_; refine blk_put (cs := #[.int .i64 0, .int .i64 0, .string (⟨#[]⟩ : ByteArray), .string (⟨#[]⟩ : ByteArray), .int .i64 0, .int .i64 0, .int .i64 0, .int .i64 0, .int .i64 0, .int .i64 0, .slice none 0 0]) ?_ 0 _ rfl; refine BD ?_; refine blk_far ?_ aA.out _; refine BD ?_; refine blk_far ?_ aA.out _; refine BD ?_; exact aM.out) Tryz.underlying50 rfl (by kernel_rfl)) rfl ?_
 exact ⟨_, ER, by refine KW ?_; exact Kd.R_mono (Kd.R_far (p := ⟨aG, 10, none⟩) (Kd.R_far (p := ⟨aG, 9, none⟩) (Kd.R_far (p := ⟨aG, 8, none⟩) (Kd.R_far (p := ⟨aG, 7, none⟩) (Kd.R_far (p := ⟨aG, 6, none⟩) (Kd.R_far (p := ⟨aG, 5, none⟩) (Kd.R_far (p := ⟨aG, 4, none⟩) (Kd.R_far (p := ⟨aG, 3, none⟩) (Kd.R_far (p := ⟨aG, 2, none⟩) (Kd.R_far (p := ⟨aG, 1, none⟩) (Kd.R_far (p := ⟨aG, 0, none⟩) (Kd.R_far (p := ⟨bF, 10, none⟩) (Kd.R_far (p := ⟨bF, 9, none⟩) (Kd.R_types (Kd.R_types bH.out aU.out (by decide)) aM.out (by decide)) (fun _ hk => hk.1.2) (.int .i64 aX)) (fun _ hk => hk.1.2) (.slice bK bE.length bL)) (fun _ hk => hk.2) (.int .i64 aC)) (fun _ hk => hk.2) (.int .i64 aD)) (fun _ hk => hk.2) (.string aE)) (fun _ hk => hk.2) (.string aF)) (fun _ hk => hk.2) (.int .i64 aH)) (fun _ hk => hk.2) (.int .i64 aI)) (fun _ hk => hk.2) (.int .i64 aL)) (fun _ hk => hk.2) (.int .i64 aN)) (fun _ hk => hk.2) (.int .i64 aP)) (fun _ hk => hk.2) (.int .i64 aX)) (fun _ hk => hk.2) (.slice bK bE.length bL)) (fun _ hk => trivial), K3 HB aO.out aQ.out aW.out⟩
def laws_toSaS.l0 : Nat → List (S69) → List (S50) → Int → Option ((List (S50)))
 | 0, _, _, _ => none
 | k + 1, x0, x3, x4 => if x4 < (x0.length : Int) then (if 0 ≤ x4 then ((laws_toSa.f k ((rd_T69 x0 x4).f0) ((rd_T69 x0 x4).f1) ((rd_T69 x0 x4).f2) ((rd_T69 x0 x4).f3) ((rd_T69 x0 x4).f4) ((rd_T69 x0 x4).f5) ((rd_T69 x0 x4).f6) ((rd_T69 x0 x4).f7) ((rd_T69 x0 x4).f8) ((rd_T69 x0 x4).f9.f0) ((rd_T69 x0 x4).f9.f1)).bind fun bt105 => (if x4 < (x3.length : Int) then (laws_toSaS.l0 k x0 (x3.set (x4 : Int).toNat (⟨bt105.1, bt105.2.1, bt105.2.2.1, bt105.2.2.2.1, bt105.2.2.2.2.1, bt105.2.2.2.2.2.1, bt105.2.2.2.2.2.2.1, bt105.2.2.2.2.2.2.2.1, bt105.2.2.2.2.2.2.2.2.1, (⟨bt105.2.2.2.2.2.2.2.2.2.1, bt105.2.2.2.2.2.2.2.2.2.2⟩ : S48)⟩ : S50)) (wrap64 (x4 + 1))) else (none))) else (none)) else (some x3)
def laws_toSaS.f (k : Nat) (l0 : List (S69)) : Option ((List (S50))) := if 0 ≤ (l0.length : Int) then (if ((l0.length : Int) : Int).toNat ≤ 2345624805922 then (laws_toSaS.l0 k l0 (List.replicate ((l0.length : Int) : Int).toNat z50) 0) else (none)) else (none)
theorem laws_toSaS.calls (k : Nat) (A0 : Option Addr) (c0 : Nat) (l0 : List (S69)) (r : List (S50)) (w : World) (dV : Kd.C k69 w A0 l0.length l0) (dW : l0.length ≤ c0) (h : laws_toSaS.f k l0 = some r) :
  Calls Tryz.prog 19 #[.slice A0 l0.length c0] w fun e w' => ∃ v0_ : Value, e = .returned (v0_) ∧ Kd.S k50 50 w' w.heap.size (fun _ => True) v0_ r ∧ Below w.heap.size w w' := by
 have dZ := Tryz.underlying69
 have eA := Tryz.underlying50
 have eB := Aside0.mk dV
 have eC := Aside0.mk dW
 clear dV dW
 have HB := am (Below.refl w.heap.size w)
 have H : (if 0 ≤ (l0.length : Int) then (if ((l0.length : Int) : Int).toNat ≤ 2345624805922 then (laws_toSaS.l0 k l0 (List.replicate ((l0.length : Int) : Int).toNat z50) 0) else (none)) else (none)) = some r := h
 clear h
 by_cases c2 : 0 ≤ (l0.length : Int)
 ·rw [if_pos c2] at H
  have c2b0 := eq_true c2
  have c2b1 : decide (0 ≤ (l0.length : Int)) = true := decide_eq_true c2
  clear c2
  by_cases c3 : ((l0.length : Int) : Int).toNat ≤ 2345624805922
  ·rw [if_pos c3] at H
   have c3b0 := eq_true c3
   have c3b1 : decide (((l0.length : Int) : Int).toNat ≤ 2345624805922) = true := decide_eq_true c3
   clear c3
   obtain ⟨cN, aI⟩ : ∃ y_ : List (S50), y_ = (List.replicate ((l0.length : Int) : Int).toNat z50) := ⟨_, rfl⟩
   replace H : (laws_toSaS.l0 k l0 cN 0) = some r := by first | (rw [aI]; with_reducible exact H) | (have H2_ := (Option.bind_some _ _).symm.trans H; rw [aI]; with_reducible exact H2_) | (have H2_ := (Option.bind_some _ _).symm.trans H; with_reducible exact H2_) | with_reducible exact H | (rw [aI]; exact H) | exact H
   have Ny101 := Aside0.mk aI
   clear aI
   have H' := Aside0.mk H
   clear H
   go_enter Tryz.func19, Tryz.ntmps19
   go_wp2_with (first | ((with_reducible refine gate_dst (N := 7) rfl ?_); refine Kd.S_make k50 _ 50 rfl (N := 7) rfl 34 _ _ rfl (l0.length : Int) rfl rfl Tryz.underlying34 (.agg #[(.int .i64 0), (.int .i64 0), (.string ⟨#[]⟩), (.string ⟨#[]⟩), (.int .i64 0), (.int .i64 0), (.int .i64 0), (.int .i64 0), (.int .i64 0), (.int .i64 0), (.slice none 0 0)]) 120 info50 rfl (by decide) (by omega) z50 (ok := fun _ => True) (okp := fun _ => True) (k50_mkM _ _ _ z50 (Kd.R_nil _ _ _ _ _)) (fun _ hk => hk) trivial (OD) (Nat.le_trans (Nat.mul_le_mul_right _ (OD : (l0.length : Int).toNat ≤ 2345624805922)) (by omega)) (Below.refl _ _) (Nat.le_refl _) ?_; intro cW w4 cO hb hg_ hnew_; clear hg_ hnew_; (first | rw [← Ny101.out] at cO | (simp only [Int.reduceToNat] at cO; rw [← Ny101.out] at cO)); have cP := am (Kd.S_lower cO (below_size (KL HB))); replace HB := bl (KL HB) hb; clear hb cO))
   go_loopg [4] k (fun kq v4 w' => ∃ (aB : List (S50)) (aA : Int), v4 = .int .i64 aA ∧ Aside0 (laws_toSaS.l0 kq l0 aB aA = some r) ∧ Aside0 (kq ≤ k) ∧ Aside0 (Kd.S k50 50 w' w.heap.size (fun _ => True) cW aB) ∧ Aside0 (Below w.heap.size w w'))
   case atStart => exact ⟨(cN), (0), (by first | rfl | (simp; done) | (simp [*]; done)), H', ⟨Nat.le_refl _⟩, ⟨by refine KX ?_; exact cP.out⟩, ⟨KL HB⟩⟩
   case round =>
    clear H'
    try clear c1
    try clear c2
    try clear c2b0
    try clear c2b1
    try clear p2
    try clear c3
    try clear c3b0
    try clear c3b1
    obtain ⟨aB, aA, rfl, HA, HK1, aG, HB⟩ := hrel
    cases gk with
    | zero => exact absurd HA.out (by simp [laws_toSaS.l0])
    | succ k1 =>
     have H := HA.out
     clear HA
     simp only [laws_toSaS.l0] at H
     by_cases c6 : aA < (l0.length : Int)
     ·rw [if_pos c6] at H
      have c6b0 : decide (aA < (l0.length : Int)) = true := decide_eq_true c6
      clear c6
      by_cases c7 : 0 ≤ aA
      ·rw [if_pos c7] at H
       have c7b0 : decide (0 ≤ aA) = true := decide_eq_true c7
       clear c7
       replace H := bm H
       obtain ⟨⟨aN, aO, aP, aQ, aR, aS, aT, aU, aV, aW, bI⟩, dX, H⟩ := H
       replace H : (if aA < (aB.length : Int) then (laws_toSaS.l0 k1 l0 (aB.set (aA : Int).toNat (⟨aN, aO, aP, aQ, aR, aS, aT, aU, aV, (⟨aW, bI⟩ : S48)⟩ : S50)) (wrap64 (aA + 1))) else (none)) = some r := H
       have A8 := Aside0.mk dX
       clear dX
       by_cases c9 : aA < (aB.length : Int)
       ·rw [if_pos c9] at H
        have c9b0 : decide (aA < (aB.length : Int)) = true := decide_eq_true c9
        clear c9
        obtain ⟨bQ, aJ⟩ : ∃ y_ : List (S50), y_ = (aB.set (aA : Int).toNat (⟨aN, aO, aP, aQ, aR, aS, aT, aU, aV, (⟨aW, bI⟩ : S48)⟩ : S50)) := ⟨_, rfl⟩
        replace H : (laws_toSaS.l0 k1 l0 bQ (wrap64 (aA + 1))) = some r := by first | (rw [aJ]; with_reducible exact H) | (have H2_ := (Option.bind_some _ _).symm.trans H; rw [aJ]; with_reducible exact H2_) | (have H2_ := (Option.bind_some _ _).symm.trans H; with_reducible exact H2_) | with_reducible exact H | (rw [aJ]; exact H) | exact H
        have Ny118 := Aside0.mk aJ
        clear aJ
        have H' := Aside0.mk H
        clear H
        have bR : 0 ≤ (aA : Int) := OD
        have bS : aA < (l0.length : Int) := OD
        obtain ⟨_, bM, bN, cX, aX, aY, aZ, bA, bB, bC, bD, bE, bF, bG, aK, aL, aM⟩ := at_T69 eB.out aA bR bS
        cases cX
        replace aX := CX HB.out aX
        replace aY := CX HB.out aY
        replace aZ := CX HB.out aZ
        replace bA := CX HB.out bA
        replace bB := CX HB.out bB
        replace bC := CX HB.out bC
        replace bD := CX HB.out bD
        replace bE := CX HB.out bE
        replace bF := CX HB.out bF
        replace bG := CX HB.out bG
        replace aK := CX HB.out aK
        have bJ := Aside0.mk aM
        have bK := Aside0.mk aL
        clear aM aL
        replace bR := eq_true bR
        replace bS := eq_true bS
        go_wp2_with (first | ((with_reducible refine gate_callee (f := 43) rfl ?_); refine goesL_ (some 20) rfl rfl Tryz.func43 (by kernel_rfl) rfl #[.agg #[.int .i64 ((rd_T69 l0 aA).f0), .int .i64 ((rd_T69 l0 aA).f1), .string ((rd_T69 l0 aA).f2), .string ((rd_T69 l0 aA).f3), .int .i64 ((rd_T69 l0 aA).f4), .int .i64 ((rd_T69 l0 aA).f5), .int .i64 ((rd_T69 l0 aA).f6), .int .i64 ((rd_T69 l0 aA).f7), .int .i64 ((rd_T69 l0 aA).f8), .int .i64 ((rd_T69 l0 aA).f9.f0), .slice bM ((rd_T69 l0 aA).f9.f1).length bN]] rfl MT ?_; (with_reducible refine (laws_toSa.calls k1 ((rd_T69 l0 aA).f0) ((rd_T69 l0 aA).f1) ((rd_T69 l0 aA).f2) ((rd_T69 l0 aA).f3) ((rd_T69 l0 aA).f4) ((rd_T69 l0 aA).f5) ((rd_T69 l0 aA).f6) ((rd_T69 l0 aA).f7) ((rd_T69 l0 aA).f8) ((rd_T69 l0 aA).f9.f0) _ _ ((rd_T69 l0 aA).f9.f1) aN aO aP aQ aR aS aT aU aV aW bI _ ?_ ?_ A8.out).mono ?_); exact KD bJ HB; exact bK.out; rintro e aH ⟨bH, rfl, cT, hb⟩; refine ⟨_, rfl, ?_⟩; have HSv116 : ∀ (a : Addr) (w : World), (store a bH).run Tryz.prog w = stored Tryz.prog w a bH .plain := fun a w => run_store _ _ _ _ _ (R_one cT); replace aG := am (Kd.S_elder' (by refine KX ?_; exact aG.out) (Kd.R_base cT) hb); have bL := am (Kd.R_lower cT (below_size (KL HB))); replace HB := bl (KL HB) hb; (try clear hb); (try clear hb2); (try clear hk); (try clear hi); (try clear cT); have cY : 0 ≤ (aA : Int) := OD; have cZ : (aA : Int) < ((aB.length : Int) : Int) := OD; obtain ⟨go10, cQ, cR, cS, gl10, cl10, HG10⟩ := Kd.S_form aG.out (by omega); (first | cases cR | (injection cR with ea_ en_ ec_; (first | subst ea_ | (injection ea_ with ea_; subst ea_)); subst ec_; clear en_)); have GB10 := Aside0.mk cS; have GG10 := Aside0.mk HG10; clear cS gl10 HG10; obtain ⟨_, ce10, hcl10, hM10, aC, aD, _, _⟩ := Kd.S_elem aG.out z50 (aA : Int) cY cZ; obtain ⟨ve10_10, rfl, ge10_10⟩ := k50_openM hM10; have dA : aH.cell? ⟨go10, (aA : Int).toNat * 11, none⟩ = some (.int .i64 ((rd_T50 aB aA).f0)) := aC 0 _ rfl; have dB : aH.cell? ⟨go10, (aA : Int).toNat * 11 + 1, none⟩ = some (.int .i64 ((rd_T50 aB aA).f1)) := aC 1 _ rfl; have dC : aH.cell? ⟨go10, (aA : Int).toNat * 11 + 2, none⟩ = some (.string ((rd_T50 aB aA).f2)) := aC 2 _ rfl; have dD : aH.cell? ⟨go10, (aA : Int).toNat * 11 + 3, none⟩ = some (.string ((rd_T50 aB aA).f3)) := aC 3 _ rfl; have dE : aH.cell? ⟨go10, (aA : Int).toNat * 11 + 4, none⟩ = some (.int .i64 ((rd_T50 aB aA).f4)) := aC 4 _ rfl; have dF : aH.cell? ⟨go10, (aA : Int).toNat * 11 + 5, none⟩ = some (.int .i64 ((rd_T50 aB aA).f5)) := aC 5 _ rfl; have dG : aH.cell? ⟨go10, (aA : Int).toNat * 11 + 6, none⟩ = some (.int .i64 ((rd_T50 aB aA).f6)) := aC 6 _ rfl; have dH : aH.cell? ⟨go10, (aA : Int).toNat * 11 + 7, none⟩ = some (.int .i64 ((rd_T50 aB aA).f7)) := aC 7 _ rfl; have dI : aH.cell? ⟨go10, (aA : Int).toNat * 11 + 8, none⟩ = some (.int .i64 ((rd_T50 aB aA).f8)) := aC 8 _ rfl; have dJ : aH.cell? ⟨go10, (aA : Int).toNat * 11 + 9, none⟩ = some (.int .i64 ((rd_T50 aB aA).f9.f0)) := aC 9 _ rfl; have cU : aH.cell? ⟨go10, (aA : Int).toNat * 11 + 10, none⟩ = some (ve10_10) := aC 10 _ rfl; have dK : aH.frozen? ⟨go10, (aA : Int).toNat * 11, none⟩ = false := aD 0; have dL : aH.frozen? ⟨go10, (aA : Int).toNat * 11 + 1, none⟩ = false := aD 1; have dM : aH.frozen? ⟨go10, (aA : Int).toNat * 11 + 2, none⟩ = false := aD 2; have dN : aH.frozen? ⟨go10, (aA : Int).toNat * 11 + 3, none⟩ = false := aD 3; have dO : aH.frozen? ⟨go10, (aA : Int).toNat * 11 + 4, none⟩ = false := aD 4; have dP : aH.frozen? ⟨go10, (aA : Int).toNat * 11 + 5, none⟩ = false := aD 5; have dQ : aH.frozen? ⟨go10, (aA : Int).toNat * 11 + 6, none⟩ = false := aD 6; have dR : aH.frozen? ⟨go10, (aA : Int).toNat * 11 + 7, none⟩ = false := aD 7; have dS : aH.frozen? ⟨go10, (aA : Int).toNat * 11 + 8, none⟩ = false := aD 8; have dT : aH.frozen? ⟨go10, (aA : Int).toNat * 11 + 9, none⟩ = false := aD 9; have cV : aH.frozen? ⟨go10, (aA : Int).toNat * 11 + 10, none⟩ = false := aD 10; clear hcl10 aC aD hM10; replace cY := eq_true cY; replace cZ := eq_true cZ; have n_ := am (Kd.S_mono (ok' := (fun k_ => some k_ ≠ (bH : Value).ownBlock)) aG.out (fun k_ hk => hk.2)); clear aG; have aG := n_; clear n_; have HX12 := am (show Kd.S k50 50 aH w.heap.size (fun k_ => ((fun _ => True)) k_ ∧ ¬ ((fun k_ => some k_ = (bH : Value).ownBlock)) k_) (.slice (some ⟨go10, 0, none⟩) aB.length cQ) aB from (by refine KX ?_; exact Kd.S_mono aG.out (fun k_ hk => ⟨trivial, fun e_ => hk e_⟩))); obtain ⟨oki12, ce12, hcl12, hM12, aE, aF, hoki12, hH12⟩ := Kd.S_elem HX12.out z50 (aA : Int) (OD) (by have h_ : (aA : Int) < ((aB.length : Int) : Int) := OD; first | exact h_ | (have e_ := (Kd.S_reads' aG.out).1; omega) | simpa using h_); obtain ⟨ve12_10, rfl, ge12_10⟩ := k50_openM hM12; have HP12 := Kd.S_seg hH12 (OD) (by have h_ : (aA : Int) < ((aB.length : Int) : Int) := OD; first | exact h_ | (have e_ := (Kd.S_reads' aG.out).1; omega) | simpa using h_) (seg := [.int .i64 aN, .int .i64 aO, .string aP, .string aQ, .int .i64 aR, .int .i64 aS, .int .i64 aT, .int .i64 aU, .int .i64 aV, .int .i64 aW, bH]) (j := 0) (show 11 ≤ 11 from by decide) (x' := (⟨aN, aO, aP, aQ, aR, aS, aT, aU, aV, (⟨aW, bI⟩ : S48)⟩ : S50)) (k50_mkM _ _ _ (⟨aN, aO, aP, aQ, aR, aS, aT, aU, aV, (⟨aW, bI⟩ : S48)⟩ : S50) (Kd.R_mono (Kd.R_tight rfl (Kd.R_mono (ok' := fun k_ => ((fun _ => True)) k_ ∧ k_ ≠ go10) (Kd.R_apart' (bL.out) (Kd.S_typed aG.out) (by decide)) (fun k_ hk => ⟨trivial, fun e_ => (hk.2) (by rw [e_]; rfl)⟩))) (fun _ h_ => Or.inr (h_)))) (fun _ hk => hk) (fun k_ hk_ => ((Kd.R_mono (ok' := fun k_ => ((fun _ => True)) k_ ∧ k_ ≠ go10) (Kd.R_apart' (bL.out) (Kd.S_typed aG.out) (by decide)) (fun k_ hk => ⟨trivial, fun e_ => (hk.2) (by rw [e_]; rfl)⟩))).1 k_ hk_.symm); have bT := aE 0 _ rfl; (try simp only [show (k50).sz = 11 from rfl, Nat.mul_one, Nat.add_zero] at bT); have bU := aF 0; (try simp only [show (k50).sz = 11 from rfl, Nat.mul_one, Nat.add_zero] at bU); have bV := aE 1 _ rfl; (try simp only [show (k50).sz = 11 from rfl, Nat.mul_one, Nat.add_zero] at bV); have bW := aF 1; (try simp only [show (k50).sz = 11 from rfl, Nat.mul_one, Nat.add_zero] at bW); have bX := aE 2 _ rfl; (try simp only [show (k50).sz = 11 from rfl, Nat.mul_one, Nat.add_zero] at bX); have bY := aF 2; (try simp only [show (k50).sz = 11 from rfl, Nat.mul_one, Nat.add_zero] at bY); have bZ := aE 3 _ rfl; (try simp only [show (k50).sz = 11 from rfl, Nat.mul_one, Nat.add_zero] at bZ); have cA := aF 3; (try simp only [show (k50).sz = 11 from rfl, Nat.mul_one, Nat.add_zero] at cA); have cB := aE 4 _ rfl; (try simp only [show (k50).sz = 11 from rfl, Nat.mul_one, Nat.add_zero] at cB); have cC := aF 4; (try simp only [show (k50).sz = 11 from rfl, Nat.mul_one, Nat.add_zero] at cC); have cD := aE 5 _ rfl; (try simp only [show (k50).sz = 11 from rfl, Nat.mul_one, Nat.add_zero] at cD); have cE := aF 5; (try simp only [show (k50).sz = 11 from rfl, Nat.mul_one, Nat.add_zero] at cE); have cF := aE 6 _ rfl; (try simp only [show (k50).sz = 11 from rfl, Nat.mul_one, Nat.add_zero] at cF); have cG := aF 6; (try simp only [show (k50).sz = 11 from rfl, Nat.mul_one, Nat.add_zero] at cG); have cH := aE 7 _ rfl; (try simp only [show (k50).sz = 11 from rfl, Nat.mul_one, Nat.add_zero] at cH); have cI := aF 7; (try simp only [show (k50).sz = 11 from rfl, Nat.mul_one, Nat.add_zero] at cI); have cJ := aE 8 _ rfl; (try simp only [show (k50).sz = 11 from rfl, Nat.mul_one, Nat.add_zero] at cJ); have cK := aF 8; (try simp only [show (k50).sz = 11 from rfl, Nat.mul_one, Nat.add_zero] at cK); have cL := aE 9 _ rfl; (try simp only [show (k50).sz = 11 from rfl, Nat.mul_one, Nat.add_zero] at cL); have cM := aF 9; (try simp only [show (k50).sz = 11 from rfl, Nat.mul_one, Nat.add_zero] at cM); have bO := aE 10 _ rfl; (try simp only [show (k50).sz = 11 from rfl, Nat.mul_one, Nat.add_zero] at bO); have bP := aF 10; (try simp only [show (k50).sz = 11 from rfl, Nat.mul_one, Nat.add_zero] at bP); clear hcl12 aE aF hM12 hoki12 hH12) | ((with_reducible refine gate_store (t := 50) (p := 21) rfl ?_); refine store_event (t := 50) (p := 21) (v := ?vo_w13) (w1 := (((((((((((aH.setCell ⟨go10, (aA : Int).toNat * 11, none⟩ (.int .i64 aN)).setCell ⟨go10, (aA : Int).toNat * 11 + 1, none⟩ (.int .i64 aO)).setCell ⟨go10, (aA : Int).toNat * 11 + 2, none⟩ (.string aP)).setCell ⟨go10, (aA : Int).toNat * 11 + 3, none⟩ (.string aQ)).setCell ⟨go10, (aA : Int).toNat * 11 + 4, none⟩ (.int .i64 aR)).setCell ⟨go10, (aA : Int).toNat * 11 + 5, none⟩ (.int .i64 aS)).setCell ⟨go10, (aA : Int).toNat * 11 + 6, none⟩ (.int .i64 aT)).setCell ⟨go10, (aA : Int).toNat * 11 + 7, none⟩ (.int .i64 aU)).setCell ⟨go10, (aA : Int).toNat * 11 + 8, none⟩ (.int .i64 aV)).setCell ⟨go10, (aA : Int).toNat * 11 + 9, none⟩ (.int .i64 aW)).setCell ⟨go10, (aA : Int).toNat * 11 + 10, none⟩ (bH))) ?hg ?ho ?hn ?hr ?_; (case ho => rfl); (case hg => rfl); (case hn => rfl); (case hr => first | (go_simp; done) | (go_simp; rfl)); intro dU hw; have hg : aH.grownBy dU (some go10) := (by rw [hw]; exact HP12.2); have hp_ : Kd.S k50 50 dU w.heap.size (fun _ => True) (.slice (some ⟨go10, 0, none⟩) aB.length cQ) bQ := (by rw [hw, Ny118.out]; exact HP12.1); clear HP12; replace aG := am (hp_); replace HB := am ((by rw [hw]; exact below_set (below_set (below_set (below_set (below_set (below_set (below_set (below_set (below_set (below_set (below_set (HB.out) GB10.out) GB10.out) GB10.out) GB10.out) GB10.out) GB10.out) GB10.out) GB10.out) GB10.out) GB10.out) GB10.out : Below w.heap.size w dU)); clear bL; clear hg hw hp_))
        go_roundg k1
        case measure => have := HK1.out; omega
        case rel => exact ⟨(bQ), (wrap64 (aA + 1)), (by first | rfl | (simp; done) | (simp [*]; done)), H', ⟨by have := HK1.out; omega⟩, ⟨by refine KX ?_; exact aG.out⟩, ⟨KL HB⟩⟩
       ·rw [if_neg c9] at H
        exact absurd H (by simp)
      ·rw [if_neg c7] at H
       exact absurd H (by simp)
     ·rw [if_neg c6] at H
      have c6b0 : decide (aA < (l0.length : Int)) = false := decide_eq_false c6
      clear c6
      obtain rfl := sj H
      go_wp2
      go_ret
      exact ⟨_, ER, by refine KX ?_; exact aG.out, KL HB⟩
  ·rw [if_neg c3] at H
   exact absurd H (by simp)
 ·rw [if_neg c2] at H
  exact absurd H (by simp)
def laws_toGate.f (k : Nat) (a0_0 : Int) (l0_1 : List (S81)) (a0_2 : Int) (l0_3 : List (S109)) (l0_4 : List (S69)) (l0_5 : List (S69)) : Option (Int × (List (S77)) × Int × (List (S91)) × (List (S50)) × (List (S50))) := (laws_toRuleS.f k l0_1).bind fun t104 => ((laws_toCache.f k a0_2 l0_3).bind fun bt107 => ((laws_toSaS.f k l0_4).bind fun t111 => ((laws_toSaS.f k l0_5).bind fun t114 => (some (a0_0, t104, bt107.1, bt107.2, t111, t114)))))
def impl_isAddr.f (a0 : Int) : Option (Bool) := (impl_in.f a0 0 4294967295).bind fun t101 => (some t101)
theorem impl_isAddr.calls (a0 : Int) (r : Bool) (w : World) (h : impl_isAddr.f a0 = some r) :
  Calls Tryz.prog 89 #[.int .i64 a0] w fun e w' => e = .returned (.bool r) ∧ Drawn0 w w' := by
 have H : ((impl_in.f a0 0 4294967295).bind fun aA => (some aA)) = some r := h
 clear h
 replace H := bm H
 obtain ⟨aA, aB, H⟩ := H
 replace H : (some aA) = some r := H
 have A2 := Aside0.mk aB
 clear aB
 obtain rfl := sj H
 go_enter Tryz.func89, Tryz.ntmps89
 go_wp2_with (first | ((with_reducible refine gate_callee (f := 44) rfl ?_); refine goesL_ (some 4) rfl rfl Tryz.func44 (by kernel_rfl) rfl #[.int .i64 a0, .int .i64 0, .int .i64 4294967295] rfl MT ?_; (with_reducible refine (impl_in.calls a0 0 4294967295 aA _ A2.out).mono ?_); rintro e w' ⟨rfl, ⟨nd, rfl⟩⟩; refine ⟨_, rfl, ?_⟩))
 go_ret
 exact ⟨by first | rfl | (simp; done) | (simp [*]; done), by repeat (first | exact Drawn0.refl _ | apply Drawn0.step)⟩
def impl_BlockOk.f (a0_0 : Int) (a0_1 : Int) : Option (Bool) := (impl_isAddr.f a0_0).bind fun t102 => (if t102 = true then ((impl_in.f a0_1 0 32).bind fun t103 => (if t103 = true then ((impl_Block_size.f a0_0 a0_1).bind fun t104 => (if t104 = 0 then (none) else (some ((Int.tmod a0_0 t104) == 0)))) else (some false))) else (some false))
def impl_BlockOk.T1 : Bool × List (List Nat × List Nat) := (true, [([], []), ([0], [0]), ([1], [1]), ([2, 2], [2]), ([3], [3]), ([4, 3], [3, 4]), ([5, 3, 3], [3, 5]), ([3, 6], [3, 6]), ([7, 6], [7]), ([8], [8]), ([9, 8], [8, 9]), ([8], [8]), ([11, 8, 8], [8, 11]), ([10, 12, 8], [8, 10, 12]), ([13, 8], [8, 13]), ([8, 14], [8, 14]), ([15, 12, 0, 1, 2, 3, 4, 5, 6, 7, 8, 9, 10, 11, 12, 13, 14, 15], [15])])
def impl_BlockOk.B1 : List Nat := [0, 1, 3, 7, 15, 31, 63, 127, 255, 511, 1023, 511, 2559, 8191, 16383, 32767, 65535]
theorem impl_BlockOk.tab1 : rtab .any (opsOf Tryz.f101 1) = impl_BlockOk.T1 := by kernel_rfl
theorem impl_BlockOk.bits1 : waitsOk impl_BlockOk.T1.2 impl_BlockOk.B1 = true := by kernel_rfl
theorem impl_BlockOk.calls (aD : Int) (aE : Int) (r : Bool) (w : World) (h : impl_BlockOk.f aD aE = some r) :
  Calls Tryz.prog 101 #[.agg #[.int .i64 aD, .int .i64 aE]] w fun e w' => e = .returned (.bool r) ∧ Below w.heap.size w w' := by
 have aQ := Tryz.underlying75
 have HB := am (Below.refl w.heap.size w)
 have H : ((impl_isAddr.f aD).bind fun aL => (if aL = true then ((impl_in.f aE 0 32).bind fun aK => (if aK = true then ((impl_Block_size.f aD aE).bind fun aF => (if aF = 0 then (none) else (some ((Int.tmod aD aF) == 0)))) else (some false))) else (some false))) = some r := h
 clear h
 replace H := bm H
 obtain ⟨aL, aN, H⟩ := H
 replace H : (if aL = true then ((impl_in.f aE 0 32).bind fun aK => (if aK = true then ((impl_Block_size.f aD aE).bind fun aF => (if aF = 0 then (none) else (some ((Int.tmod aD aF) == 0)))) else (some false))) else (some false)) = some r := H
 have A2 := Aside0.mk aN
 clear aN
 by_cases c3 : aL = true
 ·subst c3
  have H1 := pf H
  clear H
  have H := H1
  clear H1
  replace H := bm H
  obtain ⟨aK, aO, H⟩ := H
  replace H : (if aK = true then ((impl_Block_size.f aD aE).bind fun aF => (if aF = 0 then (none) else (some ((Int.tmod aD aF) == 0)))) else (some false)) = some r := H
  have A4 := Aside0.mk aO
  clear aO
  by_cases c5 : aK = true
  ·subst c5
   have H1 := pf H
   clear H
   have H := H1
   clear H1
   replace H := bm H
   obtain ⟨aF, aP, H⟩ := H
   replace H : (if aF = 0 then (none) else (some ((Int.tmod aD aF) == 0))) = some r := H
   have A6 := Aside0.mk aP
   clear aP
   by_cases c7 : aF = 0
   ·rw [if_pos c7] at H
    exact absurd H (by simp)
   ·rw [if_neg c7] at H
    have c7b0 : (aF == 0) = false := beq_eq_false_iff_ne.mpr c7
    have c7b1 : (aF != 0) = true := bne_iff_ne.mpr c7
    obtain rfl := sj H
    go_enter Tryz.func101, Tryz.ntmps101
    try go_wp2_with (first | ((with_reducible refine gate_dst (N := 1) rfl ?_); refine box_event rfl (N := 1) rfl (cs := #[.int .i64 aD, .int .i64 aE]) (t := 75) BX ?_; intro aH hg w8 aI hb; have aA := am (aI); have aJ := am (GH HB hg); have aG := aJ; replace HB := bl (KL HB) hb; clear hb aI hg))
    replace aA := am (blk_drew aA.out)
    replace HB := am (below_drew1 HB.out)
    refine start_ (n := 17) (S := fun w' => de2 w' aH (.int .i64 aD) (.int .i64 aE)) (ds := []) (tf 0 17) (by kernel_rfl) rfl rfl ⟨z0 _ aA.out, z1 _ aA.out⟩ (fun aB => ?_); refine with_tabW impl_BlockOk.tab1 impl_BlockOk.bits1 (fun aC aM => ?_)
    generalize w8.drew = w9 at aA HB aB ⊢
    refine pv aC 0 3 (tf 1 16) ?_
    refine tk 1 (some 4) (tf 2 15) (take_ofW aC.out aM.out (by kernel_rfl)) aB ?_
    refine one_ (i := 2) (N := some 5) (tf 3 14) rfl rfl (one_of aC.out (by kernel_rfl)) (by decide) (fun K hK => ?_)
    refine goes_ Tryz.func89 (by kernel_rfl) rfl #[.int .i64 aD] (by rfl) rfl rfl MT ?_
    with_reducible refine (impl_isAddr.calls aD true _ A2.out).mono ?_
    rintro e w' ⟨rfl, ⟨nd, rfl⟩⟩
    refine ⟨_, rfl, ?_⟩
    refine hK.out _ _ ⟨z0 _ aA.out, z1 _ aA.out⟩ (fun aB => ?_)
    clear hK K
    refine nm (some 5) ?_
    refine pv aC 3 6 (tf 4 13) ?_
    refine pv aC 4 7 (tf 5 12) ?_
    refine tk 5 (some 8) (tf 6 11) (take_ofW aC.out aM.out (by kernel_rfl)) aB ?_
    refine one_ (i := 6) (N := some 9) (tf 7 10) rfl rfl (one_of aC.out (by kernel_rfl)) (by decide) (fun K hK => ?_)
    refine goes_ Tryz.func44 (by kernel_rfl) rfl #[.int .i64 aE, .int .i64 0, .int .i64 32] (by rfl) rfl rfl MT ?_
    with_reducible refine (impl_in.calls aE 0 32 true _ A4.out).mono ?_
    rintro e w' ⟨rfl, ⟨nd, rfl⟩⟩
    refine ⟨_, rfl, ?_⟩
    refine hK.out _ _ ⟨z0 _ aA.out, z1 _ aA.out⟩ (fun aB => ?_)
    clear hK K
    refine nm (some 9) ?_
    refine pv aC 7 10 (tf 8 9) ?_
    refine pv aC 8 11 (tf 9 8) ?_
    refine pv aC 9 12 (tf 10 7) ?_
    refine tk 10 (some 13) (tf 11 6) (take_ofW aC.out aM.out (by kernel_rfl)) aB ?_
    refine tk 11 (some 14) (tf 12 5) (take_ofW aC.out aM.out (by kernel_rfl)) aB ?_
    refine one_ (i := 12) (N := some 15) (tf 13 4) rfl rfl (one_of aC.out (by kernel_rfl)) (by decide) (fun K hK => ?_)
    refine goes_ Tryz.func105 (by kernel_rfl) rfl #[.agg #[.int .i64 aD, .int .i64 aE]] (by rfl) rfl rfl MT ?_
    with_reducible refine (impl_Block_size.calls aD aE aF _ A6.out).mono ?_
    rintro e aT ⟨rfl, hb⟩
    refine ⟨_, rfl, ?_⟩
    replace aA := am (BB aA hb)
    replace HB := bl (K1 HB aG.out) hb
    (try clear hb)
    (try clear hb2)
    (try clear hk)
    (try clear hi)
    refine hK.out _ _ ⟨z0 _ aA.out, z1 _ aA.out⟩ (fun aB => ?_)
    clear hK K
    refine nm (some 15) ?_
    refine pv aC 13 16 (tf 14 3) ?_
    refine pv aC 14 17 (tf 15 2) ?_
    refine pv aC 15 18 (tf 16 1) ?_
    refine pv aC 16 2 (tf 17 0) ?_
    refine done_ (done_of aC.out (by kernel_rfl)) ?_
    try go_wp2
    go_ret
    exact ⟨ER, K1 HB aG.out⟩
  ·replace c5 := Bool.eq_false_iff.mpr c5
   subst c5
   have H1 := nf H
   clear H
   have H := H1
   clear H1
   obtain rfl := sj H
   go_enter Tryz.func101, Tryz.ntmps101
   try go_wp2_with (first | ((with_reducible refine gate_dst (N := 1) rfl ?_); refine box_event rfl (N := 1) rfl (cs := #[.int .i64 aD, .int .i64 aE]) (t := 75) BX ?_; intro aH hg aR aI hb; have aA := am (aI); have aJ := am (GH HB hg); have aG := aJ; replace HB := bl (KL HB) hb; clear hb aI hg))
   replace aA := am (blk_drew aA.out)
   replace HB := am (below_drew1 HB.out)
   refine start_ (n := 17) (S := fun w' => de2 w' aH (.int .i64 aD) (.int .i64 aE)) (ds := []) (tf 0 17) (by kernel_rfl) rfl rfl ⟨z0 _ aA.out, z1 _ aA.out⟩ (fun aB => ?_); refine with_tabW impl_BlockOk.tab1 impl_BlockOk.bits1 (fun aC aM => ?_)
   generalize aR.drew = aU at aA HB aB ⊢
   refine pv aC 0 3 (tf 1 16) ?_
   refine tk 1 (some 4) (tf 2 15) (take_ofW aC.out aM.out (by kernel_rfl)) aB ?_
   refine one_ (i := 2) (N := some 5) (tf 3 14) rfl rfl (one_of aC.out (by kernel_rfl)) (by decide) (fun K hK => ?_)
   refine goes_ Tryz.func89 (by kernel_rfl) rfl #[.int .i64 aD] (by rfl) rfl rfl MT ?_
   with_reducible refine (impl_isAddr.calls aD true _ A2.out).mono ?_
   rintro e w' ⟨rfl, ⟨nd, rfl⟩⟩
   refine ⟨_, rfl, ?_⟩
   refine hK.out _ _ ⟨z0 _ aA.out, z1 _ aA.out⟩ (fun aB => ?_)
   clear hK K
   refine nm (some 5) ?_
   refine pv aC 3 6 (tf 4 13) ?_
   refine pv aC 4 7 (tf 5 12) ?_
   refine tk 5 (some 8) (tf 6 11) (take_ofW aC.out aM.out (by kernel_rfl)) aB ?_
   refine one_ (i := 6) (N := some 9) (tf 7 10) rfl rfl (one_of aC.out (by kernel_rfl)) (by decide) (fun K hK => ?_)
   refine goes_ Tryz.func44 (by kernel_rfl) rfl #[.int .i64 aE, .int .i64 0, .int .i64 32] (by rfl) rfl rfl MT ?_
   with_reducible refine (impl_in.calls aE 0 32 false _ A4.out).mono ?_
   rintro e w' ⟨rfl, ⟨nd, rfl⟩⟩
   refine ⟨_, rfl, ?_⟩
   refine hK.out _ _ ⟨z0 _ aA.out, z1 _ aA.out⟩ (fun aB => ?_)
   clear hK K
   refine nm (some 9) ?_
   refine pv aC 7 10 (tf 8 9) ?_
   refine pv aC 8 11 (tf 9 8) ?_
   refine pw aC 9 12 (tf 10 7) ?_
   refine pw aC 10 13 (tf 11 6) ?_
   refine pw aC 11 14 (tf 12 5) ?_
   refine pw aC 12 15 (tf 13 4) ?_
   refine pw aC 13 16 (tf 14 3) ?_
   refine pw aC 14 17 (tf 15 2) ?_
   refine pv aC 15 18 (tf 16 1) ?_
   refine pv aC 16 2 (tf 17 0) ?_
   refine done_ (done_of aC.out (by kernel_rfl)) ?_
   try go_wp2
   go_ret
   exact ⟨ER, K1 HB aG.out⟩
 ·replace c3 := Bool.eq_false_iff.mpr c3
  subst c3
  have H1 := nf H
  clear H
  have H := H1
  clear H1
  obtain rfl := sj H
  go_enter Tryz.func101, Tryz.ntmps101
  try go_wp2_with (first | ((with_reducible refine gate_dst (N := 1) rfl ?_); refine box_event rfl (N := 1) rfl (cs := #[.int .i64 aD, .int .i64 aE]) (t := 75) BX ?_; intro aH hg aS aI hb; have aA := am (aI); have aJ := am (GH HB hg); have aG := aJ; replace HB := bl (KL HB) hb; clear hb aI hg))
  replace aA := am (blk_drew aA.out)
  replace HB := am (below_drew1 HB.out)
  refine start_ (n := 17) (S := fun w' => de2 w' aH (.int .i64 aD) (.int .i64 aE)) (ds := []) (tf 0 17) (by kernel_rfl) rfl rfl ⟨z0 _ aA.out, z1 _ aA.out⟩ (fun aB => ?_); refine with_tabW impl_BlockOk.tab1 impl_BlockOk.bits1 (fun aC aM => ?_)
  generalize aS.drew = aV at aA HB aB ⊢
  refine pv aC 0 3 (tf 1 16) ?_
  refine tk 1 (some 4) (tf 2 15) (take_ofW aC.out aM.out (by kernel_rfl)) aB ?_
  refine one_ (i := 2) (N := some 5) (tf 3 14) rfl rfl (one_of aC.out (by kernel_rfl)) (by decide) (fun K hK => ?_)
  refine goes_ Tryz.func89 (by kernel_rfl) rfl #[.int .i64 aD] (by rfl) rfl rfl MT ?_
  with_reducible refine (impl_isAddr.calls aD false _ A2.out).mono ?_
  rintro e w' ⟨rfl, ⟨nd, rfl⟩⟩
  refine ⟨_, rfl, ?_⟩
  refine hK.out _ _ ⟨z0 _ aA.out, z1 _ aA.out⟩ (fun aB => ?_)
  clear hK K
  refine nm (some 5) ?_
  refine pv aC 3 6 (tf 4 13) ?_
  refine pw aC 4 7 (tf 5 12) ?_
  refine pw aC 5 8 (tf 6 11) ?_
  refine pw aC 6 9 (tf 7 10) ?_
  refine pv aC 7 10 (tf 8 9) ?_
  refine pv aC 8 11 (tf 9 8) ?_
  refine pw aC 9 12 (tf 10 7) ?_
  refine pw aC 10 13 (tf 11 6) ?_
  refine pw aC 11 14 (tf 12 5) ?_
  refine pw aC 12 15 (tf 13 4) ?_
  refine pw aC 13 16 (tf 14 3) ?_
  refine pw aC 14 17 (tf 15 2) ?_
  refine pv aC 15 18 (tf 16 1) ?_
  refine pv aC 16 2 (tf 17 0) ?_
  refine done_ (done_of aC.out (by kernel_rfl)) ?_
  try go_wp2
  go_ret
  exact ⟨ER, K1 HB aG.out⟩
def impl_Rule_right.j0 : Nat → Bool → Int → Int → Int → Int → Int → Int → Int → Int → Option (Bool)
 | 0, _, _, _, _, _, _, _, _, _ => none
 | k + 1, x3, x102000, x102001, x102002, x102003, x102004, x102005, x102006, x102007 => (impl_BlockOk.f x102002 x102003).bind fun t103 => (if t103 = true then ((impl_BlockOk.f x102004 x102005).bind fun t104 => (if t104 = true then ((impl_in.f x102006 0 x102007).bind fun t105 => (if t105 = true then (if x102007 ≤ 65535 then ((impl_in.f x102000 0 2).bind fun t106 => (if t106 = true then (some x3) else (some false))) else (some false)) else (some false))) else (some false))) else (some false))
def impl_Rule_right.f (k : Nat) (a0_0 : Int) (a0_1 : Int) (a0_2 : Int) (a0_3 : Int) (a0_4 : Int) (a0_5 : Int) (a0_6 : Int) (a0_7 : Int) : Option (Bool) := if a0_1 = 0 then (impl_Rule_right.j0 k true a0_0 a0_1 a0_2 a0_3 a0_4 a0_5 a0_6 a0_7) else (if a0_0 = 2 then ((impl_in.f a0_1 0 3).bind fun t102 => (impl_Rule_right.j0 k t102 a0_0 a0_1 a0_2 a0_3 a0_4 a0_5 a0_6 a0_7)) else (impl_Rule_right.j0 k false a0_0 a0_1 a0_2 a0_3 a0_4 a0_5 a0_6 a0_7))
theorem impl_Rule_right.calls (k : Nat) (aF : Int) (aG : Int) (aC : Int) (aD : Int) (aH : Int) (aI : Int) (aJ : Int) (aE : Int) (r : Bool) (w : World) (h : impl_Rule_right.f k aF aG aC aD aH aI aJ aE = some r) :
  Calls Tryz.prog 88 #[.agg #[.int .i64 aF, .int .i64 aG, .int .i64 aC, .int .i64 aD, .int .i64 aH, .int .i64 aI, .int .i64 aJ, .int .i64 aE]] w fun e w' => e = .returned (.bool r) ∧ Below w.heap.size w w' := by
 have hO := Tryz.underlying77
 have hP := Tryz.underlying75
 have HB := am (Below.refl w.heap.size w)
 have H : (if aG = 0 then (impl_Rule_right.j0 k true aF aG aC aD aH aI aJ aE) else (if aF = 2 then ((impl_in.f aG 0 3).bind fun aN => (impl_Rule_right.j0 k aN aF aG aC aD aH aI aJ aE)) else (impl_Rule_right.j0 k false aF aG aC aD aH aI aJ aE))) = some r := h
 clear h
 have hL := Aside0.mk H
 clear H
 go_enter Tryz.func88, Tryz.ntmps88
 go_upto_region 1 with (first | ((with_reducible refine gate_dst (N := 1) rfl ?_); refine box_event rfl (N := 1) rfl (cs := #[.int .i64 aF, .int .i64 aG, .int .i64 aC, .int .i64 aD, .int .i64 aH, .int .i64 aI, .int .i64 aJ, .int .i64 aE]) (t := 77) BX ?_; intro bS hg w3 bT hb; have aA := am (bT); have bU := am (GH HB hg); have aB := bU; replace HB := bl (KL HB) hb; clear hb bT hg))
 (try simp only [Act.put, List.setIfInBounds_toArray, List.set_cons_zero, List.set_cons_succ])
 go_cut [3] (fun v3 wc => ∃ (kq : Nat) (aL : Bool), v3 = .bool aL ∧ Aside0 (impl_Rule_right.j0 kq aL aF aG aC aD aH aI aJ aE = some r) ∧ Aside0 (kq ≤ k) ∧ Aside0 (wc.heap[bS]? = some (.cells #[.int .i64 aF, .int .i64 aG, .int .i64 aC, .int .i64 aD, .int .i64 aH, .int .i64 aI, .int .i64 aJ, .int .i64 aE] 77 (0, 0))) ∧ Aside0 (Below w.heap.size w wc))
 case first =>
  have H := hL.out
  clear hL
  by_cases c4 : aG = 0
  ·rw [if_pos c4] at H
   have c4b0 : (aG == 0) = true := beq_iff_eq.mpr c4
   have c4b1 : (aG != 0) = false := bne_eq_false_iff_eq.mpr c4
   clear c4
   (first | rw [c4b0] | (simp only [i64_w, i32_w]; rw [c4b0]) | skip)
   have H' := Aside0.mk H
   clear H
   obtain ⟨aP, aQ, aR, aS, aT, aU, aV, aW, aX⟩ := y8 w3 aA.out
   go_wp2
   go_meet
   case rel => exact ⟨_, (true), (by first | rfl | (simp; done) | (simp [*]; done)), H', ⟨by first | omega | exact Nat.le_refl _⟩, ⟨KB aA⟩, ⟨K1 HB aB.out⟩⟩
  ·rw [if_neg c4] at H
   have c4b0 : (aG == 0) = false := beq_eq_false_iff_ne.mpr c4
   have c4b1 : (aG != 0) = true := bne_iff_ne.mpr c4
   (first | rw [c4b0] | (simp only [i64_w, i32_w]; rw [c4b0]) | skip)
   by_cases c6 : aF = 2
   ·rw [if_pos c6] at H
    have c6b0 : (aF == 2) = true := beq_iff_eq.mpr c6
    have c6b1 : (aF != 2) = false := bne_eq_false_iff_eq.mpr c6
    clear c6
    replace H := bm H
    obtain ⟨aN, hM, H⟩ := H
    replace H : (impl_Rule_right.j0 k aN aF aG aC aD aH aI aJ aE) = some r := H
    have A7 := Aside0.mk hM
    clear hM
    have H' := Aside0.mk H
    clear H
    obtain ⟨aY, aZ, bA, bB, bC, bD, bE, bF, bG⟩ := y8 w3 aA.out
    go_wp2_with (first | (go_at_call 44; (with_reducible refine (impl_in.calls aG 0 3 aN _ A7.out).mono ?_); rintro e w' ⟨rfl, ⟨nd, rfl⟩⟩))
    go_meet
    case rel => exact ⟨_, (aN), (by first | rfl | (simp; done) | (simp [*]; done)), H', ⟨by first | omega | exact Nat.le_refl _⟩, ⟨KB aA⟩, ⟨K1 HB aB.out⟩⟩
   ·rw [if_neg c6] at H
    have c6b0 : (aF == 2) = false := beq_eq_false_iff_ne.mpr c6
    have c6b1 : (aF != 2) = true := bne_iff_ne.mpr c6
    have H' := Aside0.mk H
    clear H
    obtain ⟨bH, bI, bJ, bK, bL, bM, bN, bO, bP⟩ := y8 w3 aA.out
    go_wp2
    go_meet
    case rel => exact ⟨_, (false), (by first | rfl | (simp; done) | (simp [*]; done)), H', ⟨by first | omega | exact Nat.le_refl _⟩, ⟨KB aA⟩, ⟨K1 HB aB.out⟩⟩
 case rest =>
  clear hL
  try clear p2
  try clear c4
  try clear c4b0
  try clear c4b1
  try clear c6
  try clear c6b0
  try clear c6b1
  try clear c8
  try clear aP aQ aR aS aT aU aV aW aX
  try clear aY aZ bA bB bC bD bE bF bG
  try clear bH bI bJ bK bL bM bN bO bP
  obtain ⟨kq, aL, rfl, HA, HJ1, aA, HB⟩ := hcut
  cases kq with
  | zero => exact absurd HA.out (by simp [impl_Rule_right.j0])
  | succ kj1 =>
   have H := HA.out
   clear HA
   simp only [impl_Rule_right.j0] at H
   replace H := bm H
   obtain ⟨bV, bW, H⟩ := H
   replace H : (if bV = true then ((impl_BlockOk.f aH aI).bind fun aO => (if aO = true then ((impl_in.f aJ 0 aE).bind fun aM => (if aM = true then (if aE ≤ 65535 then ((impl_in.f aF 0 2).bind fun aK => (if aK = true then (some aL) else (some false))) else (some false)) else (some false))) else (some false))) else (some false)) = some r := H
   have bQ := Aside0.mk bW
   clear bW
   by_cases cB : bV = true
   ·subst cB
    have H1 := pf H
    clear H
    have H := H1
    clear H1
    replace H := bm H
    obtain ⟨aO, bX, H⟩ := H
    replace H : (if aO = true then ((impl_in.f aJ 0 aE).bind fun aM => (if aM = true then (if aE ≤ 65535 then ((impl_in.f aF 0 2).bind fun aK => (if aK = true then (some aL) else (some false))) else (some false)) else (some false))) else (some false)) = some r := H
    have bY := Aside0.mk bX
    clear bX
    by_cases cC : aO = true
    ·subst cC
     have H1 := pf H
     clear H
     have H := H1
     clear H1
     replace H := bm H
     obtain ⟨aM, bZ, H⟩ := H
     replace H : (if aM = true then (if aE ≤ 65535 then ((impl_in.f aF 0 2).bind fun aK => (if aK = true then (some aL) else (some false))) else (some false)) else (some false)) = some r := H
     have cD := Aside0.mk bZ
     clear bZ
     by_cases cE : aM = true
     ·subst cE
      have H1 := pf H
      clear H
      have H := H1
      clear H1
      by_cases bR : aE ≤ 65535
      ·rw [if_pos bR] at H
       have c16b0 : decide (aE ≤ 65535) = true := decide_eq_true bR
       clear bR
       replace H := bm H
       obtain ⟨aK, cA, H⟩ := H
       replace H : (if aK = true then (some aL) else (some false)) = some r := H
       have hN := Aside0.mk cA
       clear cA
       by_cases cF : aK = true
       ·subst cF
        have H1 := pf H
        clear H
        have H := H1
        clear H1
        obtain rfl := sj H
        have ⟨_, _, _, _, _, _, _, _, _⟩ := y8 wc aA.out
        go_wp2_with (first | ((with_reducible refine gate_callee (f := 101) rfl ?_); refine goesL_ (some 19) rfl rfl Tryz.func101 (by kernel_rfl) rfl #[.agg #[.int .i64 aC, .int .i64 aD]] rfl MT ?_; (with_reducible refine (impl_BlockOk.calls aC aD true _ bQ.out).mono ?_); rintro e hQ ⟨rfl, hb⟩; refine ⟨_, rfl, ?_⟩; replace aA := am (BB aA hb); replace HB := bl (K1 HB aB.out) hb; (try clear hb); have ⟨_, _, _, _, _, _, _, _, _⟩ := y8 hQ aA.out) | (go_at_call 101; (with_reducible refine (impl_BlockOk.calls aH aI true _ bY.out).mono ?_); rintro e hR ⟨rfl, hb⟩; replace aA := am (BB aA hb); replace HB := bl (K1 HB aB.out) hb; (try clear hb); have ⟨_, _, _, _, _, _, _, _, _⟩ := y8 hR aA.out) | (go_at_call 44; (with_reducible refine (impl_in.calls aJ 0 aE true _ cD.out).mono ?_); rintro e w' ⟨rfl, ⟨nd, rfl⟩⟩) | (go_at_call 44; (with_reducible refine (impl_in.calls aF 0 2 true _ hN.out).mono ?_); rintro e w' ⟨rfl, ⟨nd, rfl⟩⟩))
        go_ret
        exact ⟨ER, K1 HB aB.out⟩
       ·replace cF := Bool.eq_false_iff.mpr cF
        subst cF
        have H1 := nf H
        clear H
        have H := H1
        clear H1
        obtain rfl := sj H
        have ⟨_, _, _, _, _, _, _, _, _⟩ := y8 wc aA.out
        go_wp2_with (first | ((with_reducible refine gate_callee (f := 101) rfl ?_); refine goesL_ (some 19) rfl rfl Tryz.func101 (by kernel_rfl) rfl #[.agg #[.int .i64 aC, .int .i64 aD]] rfl MT ?_; (with_reducible refine (impl_BlockOk.calls aC aD true _ bQ.out).mono ?_); rintro e hS ⟨rfl, hb⟩; refine ⟨_, rfl, ?_⟩; replace aA := am (BB aA hb); replace HB := bl (K1 HB aB.out) hb; (try clear hb); have ⟨_, _, _, _, _, _, _, _, _⟩ := y8 hS aA.out) | (go_at_call 101; (with_reducible refine (impl_BlockOk.calls aH aI true _ bY.out).mono ?_); rintro e hT ⟨rfl, hb⟩; replace aA := am (BB aA hb); replace HB := bl (K1 HB aB.out) hb; (try clear hb); have ⟨_, _, _, _, _, _, _, _, _⟩ := y8 hT aA.out) | (go_at_call 44; (with_reducible refine (impl_in.calls aJ 0 aE true _ cD.out).mono ?_); rintro e w' ⟨rfl, ⟨nd, rfl⟩⟩) | (go_at_call 44; (with_reducible refine (impl_in.calls aF 0 2 false _ hN.out).mono ?_); rintro e w' ⟨rfl, ⟨nd, rfl⟩⟩))
        go_ret
        exact ⟨ER, K1 HB aB.out⟩
      ·rw [if_neg bR] at H
       have c16b0 : decide (aE ≤ 65535) = false := decide_eq_false bR
       clear bR
       obtain rfl := sj H
       have ⟨_, _, _, _, _, _, _, _, _⟩ := y8 wc aA.out
       go_wp2_with (first | ((with_reducible refine gate_callee (f := 101) rfl ?_); refine goesL_ (some 19) rfl rfl Tryz.func101 (by kernel_rfl) rfl #[.agg #[.int .i64 aC, .int .i64 aD]] rfl MT ?_; (with_reducible refine (impl_BlockOk.calls aC aD true _ bQ.out).mono ?_); rintro e hU ⟨rfl, hb⟩; refine ⟨_, rfl, ?_⟩; replace aA := am (BB aA hb); replace HB := bl (K1 HB aB.out) hb; (try clear hb); have ⟨_, _, _, _, _, _, _, _, _⟩ := y8 hU aA.out) | (go_at_call 101; (with_reducible refine (impl_BlockOk.calls aH aI true _ bY.out).mono ?_); rintro e hV ⟨rfl, hb⟩; replace aA := am (BB aA hb); replace HB := bl (K1 HB aB.out) hb; (try clear hb); have ⟨_, _, _, _, _, _, _, _, _⟩ := y8 hV aA.out) | (go_at_call 44; (with_reducible refine (impl_in.calls aJ 0 aE true _ cD.out).mono ?_); rintro e w' ⟨rfl, ⟨nd, rfl⟩⟩))
       go_ret
       exact ⟨ER, K1 HB aB.out⟩
     ·replace cE := Bool.eq_false_iff.mpr cE
      subst cE
      have H1 := nf H
      clear H
      have H := H1
      clear H1
      obtain rfl := sj H
      have ⟨_, _, _, _, _, _, _, _, _⟩ := y8 wc aA.out
      go_wp2_with (first | ((with_reducible refine gate_callee (f := 101) rfl ?_); refine goesL_ (some 19) rfl rfl Tryz.func101 (by kernel_rfl) rfl #[.agg #[.int .i64 aC, .int .i64 aD]] rfl MT ?_; (with_reducible refine (impl_BlockOk.calls aC aD true _ bQ.out).mono ?_); rintro e hW ⟨rfl, hb⟩; refine ⟨_, rfl, ?_⟩; replace aA := am (BB aA hb); replace HB := bl (K1 HB aB.out) hb; (try clear hb); have ⟨_, _, _, _, _, _, _, _, _⟩ := y8 hW aA.out) | (go_at_call 101; (with_reducible refine (impl_BlockOk.calls aH aI true _ bY.out).mono ?_); rintro e hX ⟨rfl, hb⟩; replace aA := am (BB aA hb); replace HB := bl (K1 HB aB.out) hb; (try clear hb); have ⟨_, _, _, _, _, _, _, _, _⟩ := y8 hX aA.out) | (go_at_call 44; (with_reducible refine (impl_in.calls aJ 0 aE false _ cD.out).mono ?_); rintro e w' ⟨rfl, ⟨nd, rfl⟩⟩))
      go_ret
      exact ⟨ER, K1 HB aB.out⟩
    ·replace cC := Bool.eq_false_iff.mpr cC
     subst cC
     have H1 := nf H
     clear H
     have H := H1
     clear H1
     obtain rfl := sj H
     have ⟨_, _, _, _, _, _, _, _, _⟩ := y8 wc aA.out
     go_wp2_with (first | ((with_reducible refine gate_callee (f := 101) rfl ?_); refine goesL_ (some 19) rfl rfl Tryz.func101 (by kernel_rfl) rfl #[.agg #[.int .i64 aC, .int .i64 aD]] rfl MT ?_; (with_reducible refine (impl_BlockOk.calls aC aD true _ bQ.out).mono ?_); rintro e hY ⟨rfl, hb⟩; refine ⟨_, rfl, ?_⟩; replace aA := am (BB aA hb); replace HB := bl (K1 HB aB.out) hb; (try clear hb); have ⟨_, _, _, _, _, _, _, _, _⟩ := y8 hY aA.out) | (go_at_call 101; (with_reducible refine (impl_BlockOk.calls aH aI false _ bY.out).mono ?_); rintro e hZ ⟨rfl, hb⟩; replace aA := am (BB aA hb); replace HB := bl (K1 HB aB.out) hb; (try clear hb)))
     go_ret
     exact ⟨ER, K1 HB aB.out⟩
   ·replace cB := Bool.eq_false_iff.mpr cB
    subst cB
    have H1 := nf H
    clear H
    have H := H1
    clear H1
    obtain rfl := sj H
    have ⟨_, _, _, _, _, _, _, _, _⟩ := y8 wc aA.out
    go_wp2_with (first | ((with_reducible refine gate_callee (f := 101) rfl ?_); refine goesL_ (some 19) rfl rfl Tryz.func101 (by kernel_rfl) rfl #[.agg #[.int .i64 aC, .int .i64 aD]] rfl MT ?_; (with_reducible refine (impl_BlockOk.calls aC aD false _ bQ.out).mono ?_); rintro e iA ⟨rfl, hb⟩; refine ⟨_, rfl, ?_⟩; replace aA := am (BB aA hb); replace HB := bl (K1 HB aB.out) hb; (try clear hb)))
    go_ret
    exact ⟨ER, K1 HB aB.out⟩
def impl_isCall.f (a0_0 : Int) (a0_1 : Int) (a0_2 : Int) : Option (Bool) := (impl_isAddr.f a0_0).bind fun t102 => (if t102 = true then ((impl_isAddr.f a0_1).bind fun t103 => (if t103 = true then ((impl_in.f a0_2 0 65535).bind fun t104 => (some t104)) else (some false))) else (some false))
theorem impl_isCall.calls (aA : Int) (aB : Int) (aC : Int) (r : Bool) (w : World) (h : impl_isCall.f aA aB aC = some r) :
  Calls Tryz.prog 72 #[.agg #[.int .i64 aA, .int .i64 aB, .int .i64 aC]] w fun e w' => e = .returned (.bool r) ∧ Below w.heap.size w w' := by
 have bA := Tryz.underlying89
 have HB := am (Below.refl w.heap.size w)
 have H : ((impl_isAddr.f aA).bind fun aJ => (if aJ = true then ((impl_isAddr.f aB).bind fun aI => (if aI = true then ((impl_in.f aC 0 65535).bind fun aD => (some aD)) else (some false))) else (some false))) = some r := h
 clear h
 replace H := bm H
 obtain ⟨aJ, aX, H⟩ := H
 replace H : (if aJ = true then ((impl_isAddr.f aB).bind fun aI => (if aI = true then ((impl_in.f aC 0 65535).bind fun aD => (some aD)) else (some false))) else (some false)) = some r := H
 have A2 := Aside0.mk aX
 clear aX
 by_cases c3 : aJ = true
 ·subst c3
  have H1 := pf H
  clear H
  have H := H1
  clear H1
  replace H := bm H
  obtain ⟨aI, aY, H⟩ := H
  replace H : (if aI = true then ((impl_in.f aC 0 65535).bind fun aD => (some aD)) else (some false)) = some r := H
  have A4 := Aside0.mk aY
  clear aY
  by_cases c5 : aI = true
  ·subst c5
   have H1 := pf H
   clear H
   have H := H1
   clear H1
   replace H := bm H
   obtain ⟨aD, aZ, H⟩ := H
   replace H : (some aD) = some r := H
   have A6 := Aside0.mk aZ
   clear aZ
   obtain rfl := sj H
   go_enter Tryz.func72, Tryz.ntmps72
   go_wp2_with (first | ((with_reducible refine gate_dst (N := 1) rfl ?_); refine box_event rfl (N := 1) rfl (cs := #[.int .i64 aA, .int .i64 aB, .int .i64 aC]) (t := 89) BX ?_; intro aK hg w7 aE hb; have aF := am (aE); have aG := am (GH HB hg); have aH := aG; replace HB := bl (KL HB) hb; clear hb aE hg; have ⟨_, _, _, _⟩ := y3 w7 aF.out) | ((with_reducible refine gate_callee (f := 89) rfl ?_); refine goesL_ (some 5) rfl rfl Tryz.func89 (by kernel_rfl) rfl #[.int .i64 aA] rfl MT ?_; (with_reducible refine (impl_isAddr.calls aA true _ A2.out).mono ?_); rintro e w' ⟨rfl, ⟨nd, rfl⟩⟩; refine ⟨_, rfl, ?_⟩) | (go_at_call 89; (with_reducible refine (impl_isAddr.calls aB true _ A4.out).mono ?_); rintro e w' ⟨rfl, ⟨nd, rfl⟩⟩) | (go_at_call 44; (with_reducible refine (impl_in.calls aC 0 65535 aD _ A6.out).mono ?_); rintro e w' ⟨rfl, ⟨nd, rfl⟩⟩))
   go_ret
   exact ⟨ER, K1 HB aH.out⟩
  ·replace c5 := Bool.eq_false_iff.mpr c5
   subst c5
   have H1 := nf H
   clear H
   have H := H1
   clear H1
   obtain rfl := sj H
   go_enter Tryz.func72, Tryz.ntmps72
   go_wp2_with (first | ((with_reducible refine gate_dst (N := 1) rfl ?_); refine box_event rfl (N := 1) rfl (cs := #[.int .i64 aA, .int .i64 aB, .int .i64 aC]) (t := 89) BX ?_; intro aK hg w9 aE hb; have aF := am (aE); have aG := am (GH HB hg); have aH := aG; replace HB := bl (KL HB) hb; clear hb aE hg; have ⟨_, _, _, _⟩ := y3 w9 aF.out) | ((with_reducible refine gate_callee (f := 89) rfl ?_); refine goesL_ (some 5) rfl rfl Tryz.func89 (by kernel_rfl) rfl #[.int .i64 aA] rfl MT ?_; (with_reducible refine (impl_isAddr.calls aA true _ A2.out).mono ?_); rintro e w' ⟨rfl, ⟨nd, rfl⟩⟩; refine ⟨_, rfl, ?_⟩) | (go_at_call 89; (with_reducible refine (impl_isAddr.calls aB false _ A4.out).mono ?_); rintro e w' ⟨rfl, ⟨nd, rfl⟩⟩))
   go_ret
   exact ⟨ER, K1 HB aH.out⟩
 ·replace c3 := Bool.eq_false_iff.mpr c3
  subst c3
  have H1 := nf H
  clear H
  have H := H1
  clear H1
  obtain rfl := sj H
  go_enter Tryz.func72, Tryz.ntmps72
  go_wp2_with (first | ((with_reducible refine gate_dst (N := 1) rfl ?_); refine box_event rfl (N := 1) rfl (cs := #[.int .i64 aA, .int .i64 aB, .int .i64 aC]) (t := 89) BX ?_; intro aK hg bB aE hb; have aF := am (aE); have aG := am (GH HB hg); have aH := aG; replace HB := bl (KL HB) hb; clear hb aE hg; have ⟨_, _, _, _⟩ := y3 bB aF.out) | ((with_reducible refine gate_callee (f := 89) rfl ?_); refine goesL_ (some 5) rfl rfl Tryz.func89 (by kernel_rfl) rfl #[.int .i64 aA] rfl MT ?_; (with_reducible refine (impl_isAddr.calls aA false _ A2.out).mono ?_); rintro e w' ⟨rfl, ⟨nd, rfl⟩⟩; refine ⟨_, rfl, ?_⟩))
  go_ret
  exact ⟨ER, K1 HB aH.out⟩
def impl_Block_last.f (a0_0 : Int) (a0_1 : Int) : Option (Int) := (impl_Block_size.f a0_0 a0_1).bind fun t102 => (some (wrap64 ((wrap64 (a0_0 + t102)) - 1)))
theorem impl_Block_last.calls (aB : Int) (aC : Int) (r : Int) (w : World) (h : impl_Block_last.f aB aC = some r) :
  Calls Tryz.prog 106 #[.agg #[.int .i64 aB, .int .i64 aC]] w fun e w' => e = .returned (.int .i64 r) ∧ Below w.heap.size w w' := by
 have aK := Tryz.underlying75
 have HB := am (Below.refl w.heap.size w)
 have H : ((impl_Block_size.f aB aC).bind fun aE => (some (wrap64 ((wrap64 (aB + aE)) - 1)))) = some r := h
 clear h
 replace H := bm H
 obtain ⟨aE, aJ, H⟩ := H
 replace H : (some (wrap64 ((wrap64 (aB + aE)) - 1))) = some r := H
 have A2 := Aside0.mk aJ
 clear aJ
 obtain rfl := sj H
 go_enter Tryz.func106, Tryz.ntmps106
 try go_wp2_with (first | ((with_reducible refine gate_dst (N := 1) rfl ?_); refine box_event rfl (N := 1) rfl (cs := #[.int .i64 aB, .int .i64 aC]) (t := 75) BX ?_; intro aG hg w3 aH hb; have aA := am (aH); have aI := am (GH HB hg); have aF := aI; replace HB := bl (KL HB) hb; clear hb aH hg))
 replace aA := am (blk_drew aA.out)
 replace HB := am (below_drew1 HB.out)
 refine start_ (n := 7) (S := fun w' => de2 w' aG (.int .i64 aB) (.int .i64 aC)) (ds := []) (tf 0 7) (by kernel_rfl) rfl rfl ⟨z0 _ aA.out, z1 _ aA.out⟩ (fun aD => ?_)
 generalize w3.drew = w4 at aA HB aD ⊢
 refine pure_ (i := 0) (N := some 3) (v := ?_) (a' := ?_) (tf 1 6) rfl rfl (by kernel_rfl) (fun _ _ _ h => h) (Or.inl ⟨by rfl, ?_⟩) ?_ ?_; rotate_left; (· intro w'; go_simp; with_reducible rfl); rotate_left; (· simp only [Act.put, List.setIfInBounds_toArray, List.set_cons_zero, List.set_cons_succ, i64_w, i32_w]; rfl)
 refine take_ (i := 1) (N := some 4) (v := ?_) (a' := ?_) (tf 2 5) rfl rfl (by kernel_rfl) (fun _ _ _ h => h) (Or.inl ⟨by rfl, ?_⟩) aD ?_ ?_
 rotate_left
 ·rintro w' ⟨s0, s1⟩
  go_simp
  with_reducible rfl
 rotate_left
 ·simp only [Act.put, List.setIfInBounds_toArray, List.set_cons_zero, List.set_cons_succ, i64_w, i32_w]
  rfl
 refine take_ (i := 2) (N := some 5) (v := ?_) (a' := ?_) (tf 3 4) rfl rfl (by kernel_rfl) (fun _ _ _ h => h) (Or.inl ⟨by rfl, ?_⟩) aD ?_ ?_
 rotate_left
 ·rintro w' ⟨s0, s1⟩
  go_simp
  with_reducible rfl
 rotate_left
 ·simp only [Act.put, List.setIfInBounds_toArray, List.set_cons_zero, List.set_cons_succ, i64_w, i32_w]
  rfl
 refine one_ (i := 3) (N := some 6) (tf 4 3) rfl rfl (by kernel_rfl) (by decide) (fun K hK => ?_)
 refine goes_ Tryz.func105 (by kernel_rfl) rfl #[.agg #[.int .i64 aB, .int .i64 aC]] (by rfl) rfl rfl MT ?_
 with_reducible refine (impl_Block_size.calls aB aC aE _ A2.out).mono ?_
 rintro e w5 ⟨rfl, hb⟩
 refine ⟨_, rfl, ?_⟩
 replace aA := am (BB aA hb)
 replace HB := bl (K1 HB aF.out) hb
 (try clear hb)
 (try clear hb2)
 (try clear hk)
 (try clear hi)
 refine hK.out _ _ ⟨z0 _ aA.out, z1 _ aA.out⟩ (fun aD => ?_)
 clear hK K
 refine nm (some 6) ?_
 refine pure_ (i := 4) (N := some 7) (v := ?_) (a' := ?_) (tf 5 2) rfl rfl (by kernel_rfl) (fun _ _ _ h => h) (Or.inl ⟨by rfl, ?_⟩) ?_ ?_; rotate_left; (· intro w'; go_simp; with_reducible rfl); rotate_left; (· simp only [Act.put, List.setIfInBounds_toArray, List.set_cons_zero, List.set_cons_succ, i64_w, i32_w]; rfl)
 refine pure_ (i := 5) (N := some 8) (v := ?_) (a' := ?_) (tf 6 1) rfl rfl (by kernel_rfl) (fun _ _ _ h => h) (Or.inl ⟨by rfl, ?_⟩) ?_ ?_; rotate_left; (· intro w'; go_simp; with_reducible rfl); rotate_left; (· simp only [Act.put, List.setIfInBounds_toArray, List.set_cons_zero, List.set_cons_succ, i64_w, i32_w]; rfl)
 refine pure_ (i := 6) (N := some 2) (v := ?_) (a' := ?_) (tf 7 0) rfl rfl (by kernel_rfl) (fun _ _ _ h => h) (Or.inl ⟨by rfl, ?_⟩) ?_ ?_; rotate_left; (· intro w'; go_simp; with_reducible rfl); rotate_left; (· simp only [Act.put, List.setIfInBounds_toArray, List.set_cons_zero, List.set_cons_succ, i64_w, i32_w]; rfl)
 refine done_ (by kernel_rfl) ?_
 try go_wp2
 go_ret
 exact ⟨ER, K1 HB aF.out⟩
def impl_Block_has.f (a0_0 : Int) (a0_1 : Int) (a1 : Int) : Option (Bool) := (impl_Block_last.f a0_0 a0_1).bind fun t102 => ((impl_in.f a1 a0_0 t102).bind fun t103 => (some t103))
theorem impl_Block_has.calls (aB : Int) (aD : Int) (a1 : Int) (r : Bool) (w : World) (h : impl_Block_has.f aB aD a1 = some r) :
  Calls Tryz.prog 102 #[.agg #[.int .i64 aB, .int .i64 aD], .int .i64 a1] w fun e w' => e = .returned (.bool r) ∧ Below w.heap.size w w' := by
 have aM := Tryz.underlying75
 have HB := am (Below.refl w.heap.size w)
 have H : ((impl_Block_last.f aB aD).bind fun aE => ((impl_in.f a1 aB aE).bind fun aF => (some aF))) = some r := h
 clear h
 replace H := bm H
 obtain ⟨aE, aK, H⟩ := H
 replace H : ((impl_in.f a1 aB aE).bind fun aF => (some aF)) = some r := H
 have A3 := Aside0.mk aK
 clear aK
 replace H := bm H
 obtain ⟨aF, aL, H⟩ := H
 replace H : (some aF) = some r := H
 have A4 := Aside0.mk aL
 clear aL
 obtain rfl := sj H
 go_enter Tryz.func102, Tryz.ntmps102
 try go_wp2_with (first | ((with_reducible refine gate_dst (N := 2) rfl ?_); refine box_event rfl (N := 2) rfl (cs := #[.int .i64 aB, .int .i64 aD]) (t := 75) BX ?_; intro aH hg w5 aI hb; have aA := am (aI); have aJ := am (GH HB hg); have aG := aJ; replace HB := bl (KL HB) hb; clear hb aI hg))
 replace aA := am (blk_drew aA.out)
 replace HB := am (below_drew1 HB.out)
 refine start_ (n := 7) (S := fun w' => de2 w' aH (.int .i64 aB) (.int .i64 aD)) (ds := []) (tf 0 7) (by kernel_rfl) rfl rfl ⟨z0 _ aA.out, z1 _ aA.out⟩ (fun aC => ?_)
 generalize w5.drew = w6 at aA HB aC ⊢
 refine pure_ (i := 0) (N := some 5) (v := ?_) (a' := ?_) (tf 1 6) rfl rfl (by kernel_rfl) (fun _ _ _ h => h) (Or.inl ⟨by rfl, ?_⟩) ?_ ?_; rotate_left; (· intro w'; go_simp; with_reducible rfl); rotate_left; (· simp only [Act.put, List.setIfInBounds_toArray, List.set_cons_zero, List.set_cons_succ, i64_w, i32_w]; rfl)
 refine pure_ (i := 1) (N := some 6) (v := ?_) (a' := ?_) (tf 2 5) rfl rfl (by kernel_rfl) (fun _ _ _ h => h) (Or.inl ⟨by rfl, ?_⟩) ?_ ?_; rotate_left; (· intro w'; go_simp; with_reducible rfl); rotate_left; (· simp only [Act.put, List.setIfInBounds_toArray, List.set_cons_zero, List.set_cons_succ, i64_w, i32_w]; rfl)
 refine take_ (i := 2) (N := some 7) (v := ?_) (a' := ?_) (tf 3 4) rfl rfl (by kernel_rfl) (fun _ _ _ h => h) (Or.inl ⟨by rfl, ?_⟩) aC ?_ ?_
 rotate_left
 ·rintro w' ⟨s0, s1⟩
  go_simp
  with_reducible rfl
 rotate_left
 ·simp only [Act.put, List.setIfInBounds_toArray, List.set_cons_zero, List.set_cons_succ, i64_w, i32_w]
  rfl
 refine take_ (i := 3) (N := some 8) (v := ?_) (a' := ?_) (tf 4 3) rfl rfl (by kernel_rfl) (fun _ _ _ h => h) (Or.inl ⟨by rfl, ?_⟩) aC ?_ ?_
 rotate_left
 ·rintro w' ⟨s0, s1⟩
  go_simp
  with_reducible rfl
 rotate_left
 ·simp only [Act.put, List.setIfInBounds_toArray, List.set_cons_zero, List.set_cons_succ, i64_w, i32_w]
  rfl
 refine one_ (i := 4) (N := some 9) (tf 5 2) rfl rfl (by kernel_rfl) (by decide) (fun K hK => ?_)
 refine goes_ Tryz.func106 (by kernel_rfl) rfl #[.agg #[.int .i64 aB, .int .i64 aD]] (by rfl) rfl rfl MT ?_
 with_reducible refine (impl_Block_last.calls aB aD aE _ A3.out).mono ?_
 rintro e w7 ⟨rfl, hb⟩
 refine ⟨_, rfl, ?_⟩
 replace aA := am (BB aA hb)
 replace HB := bl (K1 HB aG.out) hb
 (try clear hb)
 (try clear hb2)
 (try clear hk)
 (try clear hi)
 refine hK.out _ _ ⟨z0 _ aA.out, z1 _ aA.out⟩ (fun aC => ?_)
 clear hK K
 refine nm (some 9) ?_
 refine one_ (i := 5) (N := some 10) (tf 6 1) rfl rfl (by kernel_rfl) (by decide) (fun K hK => ?_)
 refine goes_ Tryz.func44 (by kernel_rfl) rfl #[.int .i64 a1, .int .i64 aB, .int .i64 aE] (by rfl) rfl rfl MT ?_
 with_reducible refine (impl_in.calls a1 aB aE aF _ A4.out).mono ?_
 rintro e w' ⟨rfl, ⟨nd, rfl⟩⟩
 refine ⟨_, rfl, ?_⟩
 refine hK.out _ _ ⟨z0 _ aA.out, z1 _ aA.out⟩ (fun aC => ?_)
 clear hK K
 refine nm (some 10) ?_
 refine pure_ (i := 6) (N := some 4) (v := ?_) (a' := ?_) (tf 7 0) rfl rfl (by kernel_rfl) (fun _ _ _ h => h) (Or.inl ⟨by rfl, ?_⟩) ?_ ?_; rotate_left; (· intro w'; go_simp; with_reducible rfl); rotate_left; (· simp only [Act.put, List.setIfInBounds_toArray, List.set_cons_zero, List.set_cons_succ, i64_w, i32_w]; rfl)
 refine done_ (by kernel_rfl) ?_
 try go_wp2
 go_ret
 exact ⟨ER, K1 HB aG.out⟩
def impl_Rule_matches.f (a0_0 : Int) (a0_1 : Int) (a0_2 : Int) (a0_3 : Int) (a0_4 : Int) (a0_5 : Int) (a0_6 : Int) (a0_7 : Int) (a1_0 : Int) (a1_1 : Int) (a1_2 : Int) : Option (Bool) := (impl_Block_has.f a0_2 a0_3 a1_0).bind fun t103 => (if t103 = true then ((impl_Block_has.f a0_4 a0_5 a1_1).bind fun t104 => (if t104 = true then ((impl_in.f a1_2 a0_6 a0_7).bind fun t105 => (some t105)) else (some false))) else (some false))
theorem impl_Rule_matches.calls (aU : Int) (aV : Int) (aH : Int) (aI : Int) (aK : Int) (aL : Int) (aM : Int) (aN : Int) (aJ : Int) (aO : Int) (aP : Int) (r : Bool) (w : World) (h : impl_Rule_matches.f aU aV aH aI aK aL aM aN aJ aO aP = some r) :
  Calls Tryz.prog 92 #[.agg #[.int .i64 aU, .int .i64 aV, .int .i64 aH, .int .i64 aI, .int .i64 aK, .int .i64 aL, .int .i64 aM, .int .i64 aN], .agg #[.int .i64 aJ, .int .i64 aO, .int .i64 aP]] w fun e w' => e = .returned (.bool r) ∧ Below w.heap.size w w' := by
 have eN := Tryz.underlying77
 have eO := Tryz.underlying89
 have eP := Tryz.underlying75
 have HB := am (Below.refl w.heap.size w)
 have H : ((impl_Block_has.f aH aI aJ).bind fun aW => (if aW = true then ((impl_Block_has.f aK aL aO).bind fun aT => (if aT = true then ((impl_in.f aP aM aN).bind fun aQ => (some aQ)) else (some false))) else (some false))) = some r := h
 clear h
 replace H := bm H
 obtain ⟨aW, dZ, H⟩ := H
 replace H : (if aW = true then ((impl_Block_has.f aK aL aO).bind fun aT => (if aT = true then ((impl_in.f aP aM aN).bind fun aQ => (some aQ)) else (some false))) else (some false)) = some r := H
 have A3 := Aside0.mk dZ
 clear dZ
 by_cases c4 : aW = true
 ·subst c4
  have H1 := pf H
  clear H
  have H := H1
  clear H1
  replace H := bm H
  obtain ⟨aT, eA, H⟩ := H
  replace H : (if aT = true then ((impl_in.f aP aM aN).bind fun aQ => (some aQ)) else (some false)) = some r := H
  have A5 := Aside0.mk eA
  clear eA
  by_cases c6 : aT = true
  ·subst c6
   have H1 := pf H
   clear H
   have H := H1
   clear H1
   replace H := bm H
   obtain ⟨aQ, eB, H⟩ := H
   replace H : (some aQ) = some r := H
   have A7 := Aside0.mk eB
   clear eB
   obtain rfl := sj H
   go_enter Tryz.func92, Tryz.ntmps92
   go_wp2_with (first | ((with_reducible refine gate_dst (N := 2) rfl ?_); refine box_event rfl (N := 2) rfl (cs := #[.int .i64 aU, .int .i64 aV, .int .i64 aH, .int .i64 aI, .int .i64 aK, .int .i64 aL, .int .i64 aM, .int .i64 aN]) (t := 77) BX ?_; intro aX hg w8 aF hb; have aA := am (aF); have aR := am (GH HB hg); have aC := aR; replace HB := bl (KL HB) hb; clear hb aF hg) | ((with_reducible refine gate_dst (N := 3) rfl ?_); refine box_event rfl (N := 3) rfl (cs := #[.int .i64 aJ, .int .i64 aO, .int .i64 aP]) (t := 89) BX ?_; intro aY hg w9 aF hb; have aB := am (aF); have aS := am (GH1 HB aC.out hg); have aG := aS; replace HB := bl (K1 HB aC.out) hb; have aD := am (NL aA hg); have aE := am (NG aA hg); replace aA := am (BB aA hb); clear hb aF hg; have eC := aD.out; have eD := aE.out; have ⟨_, _, _, _, _, _, _, _, _⟩ := y8 w9 aA.out; have ⟨_, _, _, _⟩ := y3 w9 aB.out) | ((with_reducible refine gate_callee (f := 102) rfl ?_); refine goesL_ (some 9) rfl rfl Tryz.func102 (by kernel_rfl) rfl #[.agg #[.int .i64 aH, .int .i64 aI], .int .i64 aJ] rfl MT ?_; (with_reducible refine (impl_Block_has.calls aH aI aJ true _ A3.out).mono ?_); rintro e eE ⟨rfl, hb⟩; refine ⟨_, rfl, ?_⟩; replace aA := am (BB aA hb); replace aB := am (BB aB hb); replace HB := bl (K2 HB aC.out aG.out) hb; (try clear hb); have ⟨_, _, _, _, _, _, _, _, _⟩ := y8 eE aA.out; have ⟨_, _, _, _⟩ := y3 eE aB.out) | (go_at_call 102; (with_reducible refine (impl_Block_has.calls aK aL aO true _ A5.out).mono ?_); rintro e eF ⟨rfl, hb⟩; replace aA := am (BB aA hb); replace aB := am (BB aB hb); replace HB := bl (K2 HB aC.out aG.out) hb; (try clear hb); have ⟨_, _, _, _⟩ := y3 eF aB.out; have ⟨_, _, _, _, _, _, _, _, _⟩ := y8 eF aA.out) | (go_at_call 44; (with_reducible refine (impl_in.calls aP aM aN aQ _ A7.out).mono ?_); rintro e w' ⟨rfl, ⟨nd, rfl⟩⟩))
   go_ret
   exact ⟨ER, K2 HB aC.out aG.out⟩
  ·replace c6 := Bool.eq_false_iff.mpr c6
   subst c6
   have H1 := nf H
   clear H
   have H := H1
   clear H1
   obtain rfl := sj H
   go_enter Tryz.func92, Tryz.ntmps92
   go_wp2_with (first | ((with_reducible refine gate_dst (N := 2) rfl ?_); refine box_event rfl (N := 2) rfl (cs := #[.int .i64 aU, .int .i64 aV, .int .i64 aH, .int .i64 aI, .int .i64 aK, .int .i64 aL, .int .i64 aM, .int .i64 aN]) (t := 77) BX ?_; intro aX hg eQ aF hb; have aA := am (aF); have aR := am (GH HB hg); have aC := aR; replace HB := bl (KL HB) hb; clear hb aF hg) | ((with_reducible refine gate_dst (N := 3) rfl ?_); refine box_event rfl (N := 3) rfl (cs := #[.int .i64 aJ, .int .i64 aO, .int .i64 aP]) (t := 89) BX ?_; intro aY hg eG aF hb; have aB := am (aF); have aS := am (GH1 HB aC.out hg); have aG := aS; replace HB := bl (K1 HB aC.out) hb; have aD := am (NL aA hg); have aE := am (NG aA hg); replace aA := am (BB aA hb); clear hb aF hg; have eH := aD.out; have eI := aE.out; have ⟨_, _, _, _, _, _, _, _, _⟩ := y8 eG aA.out; have ⟨_, _, _, _⟩ := y3 eG aB.out) | ((with_reducible refine gate_callee (f := 102) rfl ?_); refine goesL_ (some 9) rfl rfl Tryz.func102 (by kernel_rfl) rfl #[.agg #[.int .i64 aH, .int .i64 aI], .int .i64 aJ] rfl MT ?_; (with_reducible refine (impl_Block_has.calls aH aI aJ true _ A3.out).mono ?_); rintro e eJ ⟨rfl, hb⟩; refine ⟨_, rfl, ?_⟩; replace aA := am (BB aA hb); replace aB := am (BB aB hb); replace HB := bl (K2 HB aC.out aG.out) hb; (try clear hb); have ⟨_, _, _, _, _, _, _, _, _⟩ := y8 eJ aA.out; have ⟨_, _, _, _⟩ := y3 eJ aB.out) | (go_at_call 102; (with_reducible refine (impl_Block_has.calls aK aL aO false _ A5.out).mono ?_); rintro e eR ⟨rfl, hb⟩; replace aA := am (BB aA hb); replace aB := am (BB aB hb); replace HB := bl (K2 HB aC.out aG.out) hb; (try clear hb)))
   go_ret
   exact ⟨ER, K2 HB aC.out aG.out⟩
 ·replace c4 := Bool.eq_false_iff.mpr c4
  subst c4
  have H1 := nf H
  clear H
  have H := H1
  clear H1
  obtain rfl := sj H
  go_enter Tryz.func92, Tryz.ntmps92
  go_wp2_with (first | ((with_reducible refine gate_dst (N := 2) rfl ?_); refine box_event rfl (N := 2) rfl (cs := #[.int .i64 aU, .int .i64 aV, .int .i64 aH, .int .i64 aI, .int .i64 aK, .int .i64 aL, .int .i64 aM, .int .i64 aN]) (t := 77) BX ?_; intro aX hg eS aF hb; have aA := am (aF); have aR := am (GH HB hg); have aC := aR; replace HB := bl (KL HB) hb; clear hb aF hg) | ((with_reducible refine gate_dst (N := 3) rfl ?_); refine box_event rfl (N := 3) rfl (cs := #[.int .i64 aJ, .int .i64 aO, .int .i64 aP]) (t := 89) BX ?_; intro aY hg eK aF hb; have aB := am (aF); have aS := am (GH1 HB aC.out hg); have aG := aS; replace HB := bl (K1 HB aC.out) hb; have aD := am (NL aA hg); have aE := am (NG aA hg); replace aA := am (BB aA hb); clear hb aF hg; have eL := aD.out; have eM := aE.out; have ⟨_, _, _, _, _, _, _, _, _⟩ := y8 eK aA.out; have ⟨_, _, _, _⟩ := y3 eK aB.out) | ((with_reducible refine gate_callee (f := 102) rfl ?_); refine goesL_ (some 9) rfl rfl Tryz.func102 (by kernel_rfl) rfl #[.agg #[.int .i64 aH, .int .i64 aI], .int .i64 aJ] rfl MT ?_; (with_reducible refine (impl_Block_has.calls aH aI aJ false _ A3.out).mono ?_); rintro e eT ⟨rfl, hb⟩; refine ⟨_, rfl, ?_⟩; replace aA := am (BB aA hb); replace aB := am (BB aB hb); replace HB := bl (K2 HB aC.out aG.out) hb; (try clear hb)))
  go_ret
  exact ⟨ER, K2 HB aC.out aG.out⟩
def impl_tunOf.f (a0_0 : Int) (a0_1 : Int) (a0_2 : ByteArray) (a0_3 : ByteArray) (a0_4 : Int) (a0_5 : Int) (a0_6 : Int) (a0_7 : Int) (a0_8 : Int) (a0_9 : Int) (l0_10 : List Int) : Option (Int) := some a0_1
theorem impl_tunOf.calls (aG : Int) (aF : Int) (aH : ByteArray) (aI : ByteArray) (aJ : Int) (aK : Int) (aL : Int) (aM : Int) (aN : Int) (aO : Int) (aB : Option Addr) (aC : Nat) (aA : List Int) (r : Int) (w : World) (aD : Kd.C (Kd.int .i64) w aB aA.length aA) (aE : aA.length ≤ aC) (h : impl_tunOf.f aG aF aH aI aJ aK aL aM aN aO aA = some r) :
  Calls Tryz.prog 47 #[.agg #[.int .i64 aG, .int .i64 aF, .string aH, .string aI, .int .i64 aJ, .int .i64 aK, .int .i64 aL, .int .i64 aM, .int .i64 aN, .int .i64 aO, .slice aB aA.length aC]] w fun e w' => e = .returned (.int .i64 r) ∧ Below w.heap.size w w' := by
 have bI := Tryz.underlying50
 have aU := Aside0.mk aD
 have aV := Aside0.mk aE
 clear aD aE
 have HB := am (Below.refl w.heap.size w)
 have H : (some aF) = some r := h
 clear h
 obtain rfl := sj H
 go_enter Tryz.func47, Tryz.ntmps47
 go_wp2_with (first | ((with_reducible refine gate_dst (N := 1) rfl ?_); refine box_event rfl (N := 1) rfl (cs := #[.int .i64 aG, .int .i64 aF, .string aH, .string aI, .int .i64 aJ, .int .i64 aK, .int .i64 aL, .int .i64 aM, .int .i64 aN, .int .i64 aO, .slice aB aA.length aC]) (t := 50) BX ?_; intro bH hg w2 aP hb; have aQ := am (aP); have aR := am (GH HB hg); have aS := aR; replace HB := bl (KL HB) hb; clear hb aP hg; have ⟨_, _, _, _, _, _, _, _, _, _, _, _⟩ := y11 w2 aQ.out))
 go_ret
 exact ⟨ER, K1 HB aS.out⟩
def impl_keysOk.f (a0 : ByteArray) (a1 : ByteArray) : Option (Bool) := if (a0.size : Int) = 16 then ((impl_in.f (a1.size : Int) 1 64).bind fun t101 => (some t101)) else (some false)
theorem impl_keysOk.calls (a0 : ByteArray) (a1 : ByteArray) (r : Bool) (w : World) (h : impl_keysOk.f a0 a1 = some r) :
  Calls Tryz.prog 94 #[.string a0, .string a1] w fun e w' => e = .returned (.bool r) ∧ Drawn0 w w' := by
 have H : (if (a0.size : Int) = 16 then ((impl_in.f (a1.size : Int) 1 64).bind fun aA => (some aA)) else (some false)) = some r := h
 clear h
 by_cases c3 : (a0.size : Int) = 16
 ·rw [if_pos c3] at H
  have c3b0 : ((a0.size : Int) == 16) = true := beq_iff_eq.mpr c3
  have c3b1 : ((a0.size : Int) != 16) = false := bne_eq_false_iff_eq.mpr c3
  clear c3
  replace H := bm H
  obtain ⟨aA, aB, H⟩ := H
  replace H : (some aA) = some r := H
  have A4 := Aside0.mk aB
  clear aB
  obtain rfl := sj H
  go_enter Tryz.func94, Tryz.ntmps94
  go_wp2_with (first | (go_at_call 44; (with_reducible refine (impl_in.calls (a1.size : Int) 1 64 aA _ A4.out).mono ?_); rintro e w' ⟨rfl, ⟨nd, rfl⟩⟩))
  go_ret
  exact ⟨by first | rfl | (simp; done) | (simp [*]; done), by repeat (first | exact Drawn0.refl _ | apply Drawn0.step)⟩
 ·rw [if_neg c3] at H
  have c3b0 : ((a0.size : Int) == 16) = false := beq_eq_false_iff_ne.mpr c3
  have c3b1 : ((a0.size : Int) != 16) = true := bne_iff_ne.mpr c3
  obtain rfl := sj H
  go_enter Tryz.func94, Tryz.ntmps94
  go_wp2
  go_ret
  exact ⟨by first | rfl | (simp; done) | (simp [*]; done), by repeat (first | exact Drawn0.refl _ | apply Drawn0.step)⟩
def impl_WindowOk.l0 : Nat → List Int → Int → Int → Int → List Int → Option (Bool)
 | 0, _, _, _, _, _ => none
 | k + 1, x13, x14, x15, x102000, x102001 => if x15 < x14 then (if 0 ≤ x15 then (if x15 < (x13.length : Int) then (if (rd x13 x15) < 1 then (some false) else (if (rd x13 x15) ≤ (wrap64 (x102000 - 16)) then (some false) else (if x15 > 0 then (if 0 ≤ (wrap64 (x15 - 1)) then (if (wrap64 (x15 - 1)) < (x102001.length : Int) then (if (rd x13 x15) ≤ (rd x102001 (wrap64 (x15 - 1))) then (some false) else (impl_WindowOk.l0 k x13 x14 (wrap64 (x15 + 1)) x102000 x102001)) else (none)) else (none)) else (impl_WindowOk.l0 k x13 x14 (wrap64 (x15 + 1)) x102000 x102001)))) else (none)) else (none)) else (if 0 ≤ (wrap64 ((x102001.length : Int) - 1)) then (if (wrap64 ((x102001.length : Int) - 1)) < (x102001.length : Int) then (if (rd x102001 (wrap64 ((x102001.length : Int) - 1))) = x102000 then (some (decide (x102000 ≤ 1000000))) else (some false)) else (none)) else (none))
def impl_WindowOk.f (k : Nat) (a0_0 : Int) (l0_1 : List Int) : Option (Bool) := if (l0_1.length : Int) = 0 then (some (a0_0 == 0)) else (impl_WindowOk.l0 k l0_1 (l0_1.length : Int) 0 a0_0 l0_1)
theorem impl_WindowOk.calls (k : Nat) (aE : Int) (aP : Option Addr) (aQ : Nat) (aA : List Int) (r : Bool) (w : World) (bD : Kd.C (Kd.int .i64) w aP aA.length aA) (bE : aA.length ≤ aQ) (h : impl_WindowOk.f k aE aA = some r) :
  Calls Tryz.prog 95 #[.agg #[.int .i64 aE, .slice aP aA.length aQ]] w fun e w' => e = .returned (.bool r) ∧ Below w.heap.size w w' := by
 have cK := Tryz.underlying48
 have aK := Aside0.mk bD
 have cJ := Aside0.mk bE
 clear bD bE
 have HB := am (Below.refl w.heap.size w)
 have H : (if (aA.length : Int) = 0 then (some (aE == 0)) else (impl_WindowOk.l0 k aA (aA.length : Int) 0 aE aA)) = some r := h
 clear h
 by_cases c2 : (aA.length : Int) = 0
 ·rw [if_pos c2] at H
  have c2b0 : ((aA.length : Int) == 0) = true := beq_iff_eq.mpr c2
  have c2b1 : ((aA.length : Int) != 0) = false := bne_eq_false_iff_eq.mpr c2
  clear c2
  obtain rfl := sj H
  go_enter Tryz.func95, Tryz.ntmps95
  go_wp2_with (first | ((with_reducible refine gate_dst (N := 1) rfl ?_); refine box_event rfl (N := 1) rfl (cs := #[.int .i64 aE, .slice aP aA.length aQ]) (t := 48) BX ?_; intro aN hg w3 aI hb; have aD := am (aI); have aJ := am (GH HB hg); have aF := aJ; replace HB := bl (KL HB) hb; clear hb aI hg; obtain ⟨aS, aT, aU⟩ := y2 w3 aD.out))
  repeat (go_quiet (first | ((with_reducible refine gate_dst (N := 1) rfl ?_); refine box_event rfl (N := 1) rfl (cs := #[.int .i64 aE, .slice aP aA.length aQ]) (t := 48) BX ?_; intro aN hg w3 aI hb; have aD := am (aI); have aJ := am (GH HB hg); have aF := aJ; replace HB := bl (KL HB) hb; clear hb aI hg; obtain ⟨aS, aT, aU⟩ := y2 w3 aD.out)); try go_wp2_with (first | ((with_reducible refine gate_dst (N := 1) rfl ?_); refine box_event rfl (N := 1) rfl (cs := #[.int .i64 aE, .slice aP aA.length aQ]) (t := 48) BX ?_; intro aN hg w3 aI hb; have aD := am (aI); have aJ := am (GH HB hg); have aF := aJ; replace HB := bl (KL HB) hb; clear hb aI hg; obtain ⟨aS, aT, aU⟩ := y2 w3 aD.out)))
  go_ret
  exact ⟨ER, K1 HB aF.out⟩
 ·rw [if_neg c2] at H
  have c2b0 : ((aA.length : Int) == 0) = false := beq_eq_false_iff_ne.mpr c2
  have c2b1 : ((aA.length : Int) != 0) = true := bne_iff_ne.mpr c2
  have c2b2 : ¬ (aA = []) := fun h_ => c2 (by rw [h_]; rfl)
  have H' := Aside0.mk H
  clear H
  go_enter Tryz.func95, Tryz.ntmps95
  go_wp2_with (first | ((with_reducible refine gate_dst (N := 1) rfl ?_); refine box_event rfl (N := 1) rfl (cs := #[.int .i64 aE, .slice aP aA.length aQ]) (t := 48) BX ?_; intro aN hg w5 aI hb; have aD := am (aI); have aJ := am (GH HB hg); have aF := aJ; replace HB := bl (KL HB) hb; clear hb aI hg; obtain ⟨aV, aW, aX⟩ := y2 w5 aD.out))
  repeat (go_quiet (first | ((with_reducible refine gate_dst (N := 1) rfl ?_); refine box_event rfl (N := 1) rfl (cs := #[.int .i64 aE, .slice aP aA.length aQ]) (t := 48) BX ?_; intro aN hg w5 aI hb; have aD := am (aI); have aJ := am (GH HB hg); have aF := aJ; replace HB := bl (KL HB) hb; clear hb aI hg; obtain ⟨aV, aW, aX⟩ := y2 w5 aD.out)); try go_wp2_with (first | ((with_reducible refine gate_dst (N := 1) rfl ?_); refine box_event rfl (N := 1) rfl (cs := #[.int .i64 aE, .slice aP aA.length aQ]) (t := 48) BX ?_; intro aN hg w5 aI hb; have aD := am (aI); have aJ := am (GH HB hg); have aF := aJ; replace HB := bl (KL HB) hb; clear hb aI hg; obtain ⟨aV, aW, aX⟩ := y2 w5 aD.out)))
  go_loopg [15] k (fun kq cL w' => ∃ (aB : Int), cL = .int .i64 aB ∧ Aside0 (impl_WindowOk.l0 kq aA (aA.length : Int) aB aE aA = some r) ∧ Aside0 (kq ≤ k) ∧ Aside0 (w'.heap[aN]? = some (.cells #[.int .i64 aE, (.slice aP aA.length aQ)] 48 (0, 0))) ∧ Aside0 (Below w.heap.size w w'))
  case atStart => exact ⟨(0), (by first | rfl | (simp; done) | (simp [*]; done)), H', ⟨Nat.le_refl _⟩, ⟨KB aD⟩, ⟨K1 HB aF.out⟩⟩
  case round =>
   clear H'
   try clear c2
   try clear c2b0
   try clear c2b1
   try clear c2b2
   try clear p2
   try clear aS aT aU
   try clear aV aW aX
   obtain ⟨aB, rfl, HA, HK1, aD, HB⟩ := hrel
   cases gk with
   | zero => exact absurd HA.out (by simp [impl_WindowOk.l0])
   | succ k1 =>
    have H := HA.out
    clear HA
    simp only [impl_WindowOk.l0] at H
    by_cases c7 : aB < (aA.length : Int)
    ·rw [if_pos c7] at H
     have c7b0 : decide (aB < (aA.length : Int)) = true := decide_eq_true c7
     clear c7
     by_cases c8 : 0 ≤ aB
     ·rw [if_pos c8] at H
      have c8b0 : decide (0 ≤ aB) = true := decide_eq_true c8
      clear c8
      by_cases c9 : aB < (aA.length : Int)
      ·rw [if_pos c9] at H
       have c9b0 : decide (aB < (aA.length : Int)) = true := decide_eq_true c9
       clear c9
       by_cases bI : (rd aA aB) < 1
       ·rw [if_pos bI] at H
        have c10b0 : decide ((rd aA aB) < 1) = true := decide_eq_true bI
        clear bI
        obtain rfl := sj H
        have aG : 0 ≤ (aB : Int) := OD
        have aH : aB < (aA.length : Int) := OD
        obtain ⟨aO, aR, aC⟩ := Kd.at_int aK.out aB aG aH
        cases aR
        replace aC := CX HB.out aC
        replace aG := eq_true aG
        replace aH := eq_true aH
        go_wp2
        repeat (go_quiet (fail); try go_wp2)
        go_ret
        exact ⟨ER, K1 HB aF.out⟩
       ·rw [if_neg bI] at H
        have c10b0 : decide ((rd aA aB) < 1) = false := decide_eq_false bI
        clear bI
        by_cases bJ : (rd aA aB) ≤ (wrap64 (aE - 16))
        ·rw [if_pos bJ] at H
         have c11b0 : decide ((rd aA aB) ≤ (wrap64 (aE - 16))) = true := decide_eq_true bJ
         clear bJ
         obtain rfl := sj H
         have aG : 0 ≤ (aB : Int) := OD
         have aH : aB < (aA.length : Int) := OD
         obtain ⟨aO, aR, aC⟩ := Kd.at_int aK.out aB aG aH
         cases aR
         replace aC := CX HB.out aC
         replace aG := eq_true aG
         replace aH := eq_true aH
         have ⟨_, _, _⟩ := y2 wr aD.out
         go_wp2
         repeat (go_quiet (fail); try go_wp2)
         go_ret
         exact ⟨ER, K1 HB aF.out⟩
        ·rw [if_neg bJ] at H
         have c11b0 : decide ((rd aA aB) ≤ (wrap64 (aE - 16))) = false := decide_eq_false bJ
         clear bJ
         by_cases bK : aB > 0
         ·rw [if_pos bK] at H
          have c13b0 : decide (0 < aB) = true := decide_eq_true bK
          clear bK
          obtain ⟨ji14, hji14⟩ : ∃ j_ : Int, (wrap64 (aB - 1)) = j_ := ⟨_, rfl⟩
          replace H : (if 0 ≤ (ji14) then (if (ji14) < (aA.length : Int) then (if (rd aA aB) ≤ (rd aA (ji14)) then (some false) else (impl_WindowOk.l0 k1 aA (aA.length : Int) (wrap64 (aB + 1)) aE aA)) else (none)) else (none)) = some r := by first | (rw [hji14] at H; exact H) | (simp only [hji14] at H ⊢; exact H)
          have hji14w : (IntKind.i64.wrap (aB - 1)) = ji14 := (i64_w _).trans hji14
          by_cases bQ : 0 ≤ (ji14)
          ·rw [if_pos bQ] at H
           have c15b0 : decide (0 ≤ (ji14)) = true := decide_eq_true bQ
           clear bQ
           by_cases bR : (ji14) < (aA.length : Int)
           ·rw [if_pos bR] at H
            have c16b0 : decide ((ji14) < (aA.length : Int)) = true := decide_eq_true bR
            clear bR
            by_cases bL : (rd aA aB) ≤ (rd aA (ji14))
            ·rw [if_pos bL] at H
             have c17b0 : decide ((rd aA aB) ≤ (rd aA (ji14))) = true := decide_eq_true bL
             clear bL
             obtain rfl := sj H
             have aG : 0 ≤ (aB : Int) := OD
             have aH : aB < (aA.length : Int) := OD
             obtain ⟨aO, aR, aC⟩ := Kd.at_int aK.out aB aG aH
             cases aR
             replace aC := CX HB.out aC
             replace aG := eq_true aG
             replace aH := eq_true aH
             have ⟨_, _, _⟩ := y2 wr aD.out
             have aY : 0 ≤ ((ji14) : Int) := OD
             have aZ : (ji14) < (aA.length : Int) := OD
             obtain ⟨bC, bF, aL⟩ := Kd.at_int aK.out (ji14) aY aZ
             obtain rfl : aO = bC := (by injection bF)
             replace aL := CX HB.out aL
             replace aY := eq_true aY
             replace aZ := eq_true aZ
             go_wp2
             repeat (go_quiet (fail); try go_wp2)
             go_ret
             exact ⟨by first | rfl | (simp [errW_none, errW_some] <;> rfl) | (simp only [← hji14]; first | rfl | (simp [errW_none, errW_some] <;> rfl)) | (simp [*, errW_none, errW_some] <;> rfl), K1 HB aF.out⟩
            ·rw [if_neg bL] at H
             have c17b0 : decide ((rd aA aB) ≤ (rd aA (ji14))) = false := decide_eq_false bL
             clear bL
             have H' := Aside0.mk H
             clear H
             have aG : 0 ≤ (aB : Int) := OD
             have aH : aB < (aA.length : Int) := OD
             obtain ⟨aO, aR, aC⟩ := Kd.at_int aK.out aB aG aH
             cases aR
             replace aC := CX HB.out aC
             replace aG := eq_true aG
             replace aH := eq_true aH
             have ⟨_, _, _⟩ := y2 wr aD.out
             have aY : 0 ≤ ((ji14) : Int) := OD
             have aZ : (ji14) < (aA.length : Int) := OD
             obtain ⟨bC, bF, aL⟩ := Kd.at_int aK.out (ji14) aY aZ
             obtain rfl : aO = bC := (by injection bF)
             replace aL := CX HB.out aL
             replace aY := eq_true aY
             replace aZ := eq_true aZ
             go_wp2
             repeat (go_quiet (fail); try go_wp2)
             go_roundg k1
             case measure => have := HK1.out; omega
             case rel => exact ⟨(wrap64 (aB + 1)), (by first | rfl | (simp; done) | (simp [*]; done)), H', ⟨by have := HK1.out; omega⟩, ⟨KB aD⟩, ⟨K1 HB aF.out⟩⟩
           ·rw [if_neg bR] at H
            exact absurd H (by simp)
          ·rw [if_neg bQ] at H
           exact absurd H (by simp)
         ·rw [if_neg bK] at H
          have c13b0 : decide (0 < aB) = false := decide_eq_false bK
          clear bK
          have H' := Aside0.mk H
          clear H
          have aG : 0 ≤ (aB : Int) := OD
          have aH : aB < (aA.length : Int) := OD
          obtain ⟨aO, aR, aC⟩ := Kd.at_int aK.out aB aG aH
          cases aR
          replace aC := CX HB.out aC
          replace aG := eq_true aG
          replace aH := eq_true aH
          have ⟨_, _, _⟩ := y2 wr aD.out
          go_wp2
          repeat (go_quiet (fail); try go_wp2)
          go_roundg k1
          case measure => have := HK1.out; omega
          case rel => exact ⟨(wrap64 (aB + 1)), (by first | rfl | (simp; done) | (simp [*]; done)), H', ⟨by have := HK1.out; omega⟩, ⟨KB aD⟩, ⟨K1 HB aF.out⟩⟩
      ·rw [if_neg c9] at H
       exact absurd H (by simp)
     ·rw [if_neg c8] at H
      exact absurd H (by simp)
    ·rw [if_neg c7] at H
     have c7b0 : decide (aB < (aA.length : Int)) = false := decide_eq_false c7
     clear c7
     obtain ⟨ji21, hji21⟩ : ∃ j_ : Int, (wrap64 ((aA.length : Int) - 1)) = j_ := ⟨_, rfl⟩
     replace H : (if 0 ≤ (ji21) then (if (ji21) < (aA.length : Int) then (if (rd aA (ji21)) = aE then (some (decide (aE ≤ 1000000))) else (some false)) else (none)) else (none)) = some r := by first | (rw [hji21] at H; exact H) | (simp only [hji21] at H ⊢; exact H)
     have hji21w : (IntKind.i64.wrap ((aA.length : Int) - 1)) = ji21 := (i64_w _).trans hji21
     by_cases cB : 0 ≤ (ji21)
     ·rw [if_pos cB] at H
      have c22b0 : decide (0 ≤ (ji21)) = true := decide_eq_true cB
      clear cB
      by_cases cC : (ji21) < (aA.length : Int)
      ·rw [if_pos cC] at H
       have c23b0 : decide ((ji21) < (aA.length : Int)) = true := decide_eq_true cC
       clear cC
       by_cases bG : (rd aA (ji21)) = aE
       ·rw [if_pos bG] at H
        have c24b0 : ((rd aA (ji21)) == aE) = true := beq_iff_eq.mpr bG
        have c24b1 : ((rd aA (ji21)) != aE) = false := bne_eq_false_iff_eq.mpr bG
        clear bG
        obtain rfl := sj H
        have ⟨_, _, _⟩ := y2 wr aD.out
        have bA : 0 ≤ ((ji21) : Int) := OD
        have bB : (ji21) < (aA.length : Int) := OD
        obtain ⟨bM, bH, aM⟩ := Kd.at_int aK.out (ji21) bA bB
        cases bH
        replace aM := CX HB.out aM
        replace bA := eq_true bA
        replace bB := eq_true bB
        go_wp2
        repeat (go_quiet (fail); try go_wp2)
        go_ret
        exact ⟨by first | rfl | (simp [errW_none, errW_some] <;> rfl) | (simp only [← hji21]; first | rfl | (simp [errW_none, errW_some] <;> rfl)) | (simp [*, errW_none, errW_some] <;> rfl), K1 HB aF.out⟩
       ·rw [if_neg bG] at H
        have c24b0 : ((rd aA (ji21)) == aE) = false := beq_eq_false_iff_ne.mpr bG
        have c24b1 : ((rd aA (ji21)) != aE) = true := bne_iff_ne.mpr bG
        obtain rfl := sj H
        have ⟨_, _, _⟩ := y2 wr aD.out
        have bA : 0 ≤ ((ji21) : Int) := OD
        have bB : (ji21) < (aA.length : Int) := OD
        obtain ⟨bM, bH, aM⟩ := Kd.at_int aK.out (ji21) bA bB
        cases bH
        replace aM := CX HB.out aM
        replace bA := eq_true bA
        replace bB := eq_true bB
        go_wp2
        repeat (go_quiet (fail); try go_wp2)
        go_ret
        exact ⟨by first | rfl | (simp [errW_none, errW_some] <;> rfl) | (simp only [← hji21]; first | rfl | (simp [errW_none, errW_some] <;> rfl)) | (simp [*, errW_none, errW_some] <;> rfl), K1 HB aF.out⟩
      ·rw [if_neg cC] at H
       exact absurd H (by simp)
     ·rw [if_neg cB] at H
      exact absurd H (by simp)
def impl_SaOk.j0 : Nat → Bool → Int → Int → ByteArray → ByteArray → Int → Int → Int → Int → Int → Int → List Int → Option (Bool)
 | 0, _, _, _, _, _, _, _, _, _, _, _, _ => none
 | k + 1, x3, x102000, x102001, x102002, x102003, x102004, x102005, x102006, x102007, x102008, x102009, x102010 => (impl_in.f x102004 0 1000000).bind fun t105 => (if t105 = true then ((impl_in.f x102006 1 1000000).bind fun t106 => (if t106 = true then ((impl_in.f x102005 1 x102006).bind fun t107 => (if t107 = true then ((impl_in.f x102007 1 1000000).bind fun t108 => (if x3 = true then (if t108 = true then ((impl_in.f x102008 0 x102006).bind fun t109 => (if t109 = true then ((impl_WindowOk.f k x102009 x102010).bind fun t110 => (some t110)) else (some false))) else (some false)) else (some false))) else (if x3 = true then (some false) else (some false)))) else (if x3 = true then (some false) else (some false)))) else (if x3 = true then (some false) else (some false)))
def impl_SaOk.f (k : Nat) (a0_0 : Int) (a0_1 : Int) (a0_2 : ByteArray) (a0_3 : ByteArray) (a0_4 : Int) (a0_5 : Int) (a0_6 : Int) (a0_7 : Int) (a0_8 : Int) (a0_9 : Int) (l0_10 : List Int) : Option (Bool) := (impl_in.f a0_0 1 999).bind fun t102 => (if t102 = true then ((impl_in.f a0_1 0 3).bind fun t103 => (if t103 = true then ((impl_keysOk.f a0_2 a0_3).bind fun t104 => (impl_SaOk.j0 k t104 a0_0 a0_1 a0_2 a0_3 a0_4 a0_5 a0_6 a0_7 a0_8 a0_9 l0_10)) else (impl_SaOk.j0 k false a0_0 a0_1 a0_2 a0_3 a0_4 a0_5 a0_6 a0_7 a0_8 a0_9 l0_10))) else (impl_SaOk.j0 k false a0_0 a0_1 a0_2 a0_3 a0_4 a0_5 a0_6 a0_7 a0_8 a0_9 l0_10))
theorem impl_SaOk.calls (k : Nat) (aG : Int) (aK : Int) (aL : ByteArray) (aM : ByteArray) (aC : Int) (aF : Int) (aA : Int) (aH : Int) (aI : Int) (aJ : Int) (aS : Option Addr) (aT : Nat) (aB : List Int) (r : Bool) (w : World) (aW : Kd.C (Kd.int .i64) w aS aB.length aB) (aX : aB.length ≤ aT) (h : impl_SaOk.f k aG aK aL aM aC aF aA aH aI aJ aB = some r) :
  Calls Tryz.prog 75 #[.agg #[.int .i64 aG, .int .i64 aK, .string aL, .string aM, .int .i64 aC, .int .i64 aF, .int .i64 aA, .int .i64 aH, .int .i64 aI, .int .i64 aJ, .slice aS aB.length aT]] w fun e w' => e = .returned (.bool r) ∧ Below w.heap.size w w' := by
 have iE := Tryz.underlying50
 have iF := Tryz.underlying48
 have cB := Aside0.mk aW
 have cC := Aside0.mk aX
 clear aW aX
 have HB := am (Below.refl w.heap.size w)
 have H : ((impl_in.f aG 1 999).bind fun bB => (if bB = true then ((impl_in.f aK 0 3).bind fun aU => (if aU = true then ((impl_keysOk.f aL aM).bind fun aQ => (impl_SaOk.j0 k aQ aG aK aL aM aC aF aA aH aI aJ aB)) else (impl_SaOk.j0 k false aG aK aL aM aC aF aA aH aI aJ aB))) else (impl_SaOk.j0 k false aG aK aL aM aC aF aA aH aI aJ aB))) = some r := h
 clear h
 have hZ := Aside0.mk H
 clear H
 go_enter Tryz.func75, Tryz.ntmps75
 go_upto_region 1 with (first | ((with_reducible refine gate_dst (N := 1) rfl ?_); refine box_event rfl (N := 1) rfl (cs := #[.int .i64 aG, .int .i64 aK, .string aL, .string aM, .int .i64 aC, .int .i64 aF, .int .i64 aA, .int .i64 aH, .int .i64 aI, .int .i64 aJ, .slice aS aB.length aT]) (t := 50) BX ?_; intro cP hg w3 cQ hb; have aD := am (cQ); have cR := am (GH HB hg); have aE := cR; replace HB := bl (KL HB) hb; clear hb cQ hg))
 (try simp only [Act.put, List.setIfInBounds_toArray, List.set_cons_zero, List.set_cons_succ])
 go_cut [3] (fun v3 wc => ∃ (kq : Nat) (aN : Bool), v3 = .bool aN ∧ Aside0 (impl_SaOk.j0 kq aN aG aK aL aM aC aF aA aH aI aJ aB = some r) ∧ Aside0 (kq ≤ k) ∧ Aside0 (wc.heap[cP]? = some (.cells #[.int .i64 aG, .int .i64 aK, .string aL, .string aM, .int .i64 aC, .int .i64 aF, .int .i64 aA, .int .i64 aH, .int .i64 aI, .int .i64 aJ, (.slice aS aB.length aT)] 50 (0, 0))) ∧ Aside0 (Below w.heap.size w wc))
 case first =>
  have H := hZ.out
  clear hZ
  replace H := bm H
  obtain ⟨bB, iA, H⟩ := H
  replace H : (if bB = true then ((impl_in.f aK 0 3).bind fun aU => (if aU = true then ((impl_keysOk.f aL aM).bind fun aQ => (impl_SaOk.j0 k aQ aG aK aL aM aC aF aA aH aI aJ aB)) else (impl_SaOk.j0 k false aG aK aL aM aC aF aA aH aI aJ aB))) else (impl_SaOk.j0 k false aG aK aL aM aC aF aA aH aI aJ aB)) = some r := H
  have A4 := Aside0.mk iA
  clear iA
  by_cases c5 : bB = true
  ·subst c5
   have H1 := pf H
   clear H
   have H := H1
   clear H1
   replace H := bm H
   obtain ⟨aU, iB, H⟩ := H
   replace H : (if aU = true then ((impl_keysOk.f aL aM).bind fun aQ => (impl_SaOk.j0 k aQ aG aK aL aM aC aF aA aH aI aJ aB)) else (impl_SaOk.j0 k false aG aK aL aM aC aF aA aH aI aJ aB)) = some r := H
   have A6 := Aside0.mk iB
   clear iB
   by_cases c7 : aU = true
   ·subst c7
    have H1 := pf H
    clear H
    have H := H1
    clear H1
    replace H := bm H
    obtain ⟨aQ, iC, H⟩ := H
    replace H : (impl_SaOk.j0 k aQ aG aK aL aM aC aF aA aH aI aJ aB) = some r := H
    have A8 := Aside0.mk iC
    clear iC
    have H' := Aside0.mk H
    clear H
    obtain ⟨cD, cE, cF, cG, cH, cI, cJ, cK, cL, cM, bC, cN⟩ := y11 w3 aD.out
    go_wp2_with (first | ((with_reducible refine gate_callee (f := 44) rfl ?_); refine goesL_ (some 7) rfl rfl Tryz.func44 (by kernel_rfl) rfl #[.int .i64 aG, .int .i64 1, .int .i64 999] rfl MT ?_; (with_reducible refine (impl_in.calls aG 1 999 true _ A4.out).mono ?_); rintro e w' ⟨rfl, ⟨nd, rfl⟩⟩; refine ⟨_, rfl, ?_⟩) | (go_at_call 44; (with_reducible refine (impl_in.calls aK 0 3 true _ A6.out).mono ?_); rintro e w' ⟨rfl, ⟨nd, rfl⟩⟩) | (go_at_call 94; (with_reducible refine (impl_keysOk.calls aL aM aQ _ A8.out).mono ?_); rintro e w' ⟨rfl, ⟨nd, rfl⟩⟩))
    go_meet
    case rel => exact ⟨_, (aQ), (by first | rfl | (simp; done) | (simp [*]; done)), H', ⟨by first | omega | exact Nat.le_refl _⟩, ⟨KB aD⟩, ⟨K1 HB aE.out⟩⟩
   ·replace c7 := Bool.eq_false_iff.mpr c7
    subst c7
    have H1 := nf H
    clear H
    have H := H1
    clear H1
    have H' := Aside0.mk H
    clear H
    obtain ⟨bD, bE, bF, bG, bH, bI, bJ, bK, bL, bM, aY, bN⟩ := y11 w3 aD.out
    go_wp2_with (first | ((with_reducible refine gate_callee (f := 44) rfl ?_); refine goesL_ (some 7) rfl rfl Tryz.func44 (by kernel_rfl) rfl #[.int .i64 aG, .int .i64 1, .int .i64 999] rfl MT ?_; (with_reducible refine (impl_in.calls aG 1 999 true _ A4.out).mono ?_); rintro e w' ⟨rfl, ⟨nd, rfl⟩⟩; refine ⟨_, rfl, ?_⟩) | (go_at_call 44; (with_reducible refine (impl_in.calls aK 0 3 false _ A6.out).mono ?_); rintro e w' ⟨rfl, ⟨nd, rfl⟩⟩))
    go_meet
    case rel => exact ⟨_, (false), (by first | rfl | (simp; done) | (simp [*]; done)), H', ⟨by first | omega | exact Nat.le_refl _⟩, ⟨KB aD⟩, ⟨K1 HB aE.out⟩⟩
  ·replace c5 := Bool.eq_false_iff.mpr c5
   subst c5
   have H1 := nf H
   clear H
   have H := H1
   clear H1
   have H' := Aside0.mk H
   clear H
   obtain ⟨bO, bP, bQ, bR, bS, bT, bU, bV, bW, bX, aZ, bY⟩ := y11 w3 aD.out
   go_wp2_with (first | ((with_reducible refine gate_callee (f := 44) rfl ?_); refine goesL_ (some 7) rfl rfl Tryz.func44 (by kernel_rfl) rfl #[.int .i64 aG, .int .i64 1, .int .i64 999] rfl MT ?_; (with_reducible refine (impl_in.calls aG 1 999 false _ A4.out).mono ?_); rintro e w' ⟨rfl, ⟨nd, rfl⟩⟩; refine ⟨_, rfl, ?_⟩))
   go_meet
   case rel => exact ⟨_, (false), (by first | rfl | (simp; done) | (simp [*]; done)), H', ⟨by first | omega | exact Nat.le_refl _⟩, ⟨KB aD⟩, ⟨K1 HB aE.out⟩⟩
 case rest =>
  clear hZ
  try clear p2
  try clear c4
  try clear c5
  try clear c7
  try clear bD bE aY bF bG bH bI bJ bK bL bM bN
  try clear bO bP aZ bQ bR bS bT bU bV bW bX bY
  try clear cD cE bC cF cG cH cI cJ cK cL cM cN
  obtain ⟨kq, aN, rfl, HA, HJ1, aD, HB⟩ := hcut
  cases kq with
  | zero => exact absurd HA.out (by simp [impl_SaOk.j0])
  | succ kj1 =>
   have H := HA.out
   clear HA
   simp only [impl_SaOk.j0] at H
   replace H := bm H
   obtain ⟨cS, cT, H⟩ := H
   replace H : (if cS = true then ((impl_in.f aA 1 1000000).bind fun bZ => (if bZ = true then ((impl_in.f aF 1 aA).bind fun aV => (if aV = true then ((impl_in.f aH 1 1000000).bind fun aR => (if aN = true then (if aR = true then ((impl_in.f aI 0 aA).bind fun aP => (if aP = true then ((impl_WindowOk.f kj1 aJ aB).bind fun aO => (some aO)) else (some false))) else (some false)) else (some false))) else (if aN = true then (some false) else (some false)))) else (if aN = true then (some false) else (some false)))) else (if aN = true then (some false) else (some false))) = some r := H
   have bA := Aside0.mk cT
   clear cT
   by_cases dJ : cS = true
   ·subst dJ
    have H1 := pf H
    clear H
    have H := H1
    clear H1
    replace H := bm H
    obtain ⟨bZ, cU, H⟩ := H
    replace H : (if bZ = true then ((impl_in.f aF 1 aA).bind fun aV => (if aV = true then ((impl_in.f aH 1 1000000).bind fun aR => (if aN = true then (if aR = true then ((impl_in.f aI 0 aA).bind fun aP => (if aP = true then ((impl_WindowOk.f kj1 aJ aB).bind fun aO => (some aO)) else (some false))) else (some false)) else (some false))) else (if aN = true then (some false) else (some false)))) else (if aN = true then (some false) else (some false))) = some r := H
    have cA := Aside0.mk cU
    clear cU
    by_cases dK : bZ = true
    ·subst dK
     have H1 := pf H
     clear H
     have H := H1
     clear H1
     replace H := bm H
     obtain ⟨aV, cV, H⟩ := H
     replace H : (if aV = true then ((impl_in.f aH 1 1000000).bind fun aR => (if aN = true then (if aR = true then ((impl_in.f aI 0 aA).bind fun aP => (if aP = true then ((impl_WindowOk.f kj1 aJ aB).bind fun aO => (some aO)) else (some false))) else (some false)) else (some false))) else (if aN = true then (some false) else (some false))) = some r := H
     have cO := Aside0.mk cV
     clear cV
     by_cases dL : aV = true
     ·subst dL
      have H1 := pf H
      clear H
      have H := H1
      clear H1
      replace H := bm H
      obtain ⟨aR, cW, H⟩ := H
      replace H : (if aN = true then (if aR = true then ((impl_in.f aI 0 aA).bind fun aP => (if aP = true then ((impl_WindowOk.f kj1 aJ aB).bind fun aO => (some aO)) else (some false))) else (some false)) else (some false)) = some r := H
      have dM := Aside0.mk cW
      clear cW
      by_cases dN : aN = true
      ·subst dN
       have H1 := pf H
       clear H
       have H := H1
       clear H1
       by_cases dO : aR = true
       ·subst dO
        have H1 := pf H
        clear H
        have H := H1
        clear H1
        replace H := bm H
        obtain ⟨aP, cX, H⟩ := H
        replace H : (if aP = true then ((impl_WindowOk.f kj1 aJ aB).bind fun aO => (some aO)) else (some false)) = some r := H
        have iD := Aside0.mk cX
        clear cX
        by_cases dP : aP = true
        ·subst dP
         have H1 := pf H
         clear H
         have H := H1
         clear H1
         replace H := bm H
         obtain ⟨aO, cY, H⟩ := H
         replace H : (some aO) = some r := H
         have iG := Aside0.mk cY
         clear cY
         obtain rfl := sj H
         have ⟨_, _, _, _, _, _, _, _, _, _, _, _⟩ := y11 wc aD.out
         go_wp2_with (first | ((with_reducible refine gate_callee (f := 44) rfl ?_); refine goesL_ (some 22) rfl rfl Tryz.func44 (by kernel_rfl) rfl #[.int .i64 aC, .int .i64 0, .int .i64 1000000] rfl MT ?_; (with_reducible refine (impl_in.calls aC 0 1000000 true _ bA.out).mono ?_); rintro e w' ⟨rfl, ⟨nd, rfl⟩⟩; refine ⟨_, rfl, ?_⟩) | (go_at_call 44; (with_reducible refine (impl_in.calls aA 1 1000000 true _ cA.out).mono ?_); rintro e w' ⟨rfl, ⟨nd, rfl⟩⟩) | (go_at_call 44; (with_reducible refine (impl_in.calls aF 1 aA true _ cO.out).mono ?_); rintro e w' ⟨rfl, ⟨nd, rfl⟩⟩) | (go_at_call 44; (with_reducible refine (impl_in.calls aH 1 1000000 true _ dM.out).mono ?_); rintro e w' ⟨rfl, ⟨nd, rfl⟩⟩) | (go_at_call 44; (with_reducible refine (impl_in.calls aI 0 aA true _ iD.out).mono ?_); rintro e w' ⟨rfl, ⟨nd, rfl⟩⟩) | (go_at_call 95; (with_reducible refine (impl_WindowOk.calls kj1 aJ _ _ aB aO _ ?_ ?_ iG.out).mono ?_); (repeat (first | exact (Kd.C_below cB.out (K1 HB aE.out)) | (with_reducible refine Kd.C_alloc ?_ _) | (with_reducible refine Kd.C_drewN ?_ _) | (with_reducible refine Kd.C_drew ?_))); exact cC.out; rintro e iH ⟨rfl, hb⟩; replace aD := am (BB aD hb); replace HB := bl (K1 HB aE.out) hb; (try clear hb)))
         go_ret
         exact ⟨ER, K1 HB aE.out⟩
        ·replace dP := Bool.eq_false_iff.mpr dP
         subst dP
         have H1 := nf H
         clear H
         have H := H1
         clear H1
         obtain rfl := sj H
         have ⟨_, _, _, _, _, _, _, _, _, _, _, _⟩ := y11 wc aD.out
         go_wp2_with (first | ((with_reducible refine gate_callee (f := 44) rfl ?_); refine goesL_ (some 22) rfl rfl Tryz.func44 (by kernel_rfl) rfl #[.int .i64 aC, .int .i64 0, .int .i64 1000000] rfl MT ?_; (with_reducible refine (impl_in.calls aC 0 1000000 true _ bA.out).mono ?_); rintro e w' ⟨rfl, ⟨nd, rfl⟩⟩; refine ⟨_, rfl, ?_⟩) | (go_at_call 44; (with_reducible refine (impl_in.calls aA 1 1000000 true _ cA.out).mono ?_); rintro e w' ⟨rfl, ⟨nd, rfl⟩⟩) | (go_at_call 44; (with_reducible refine (impl_in.calls aF 1 aA true _ cO.out).mono ?_); rintro e w' ⟨rfl, ⟨nd, rfl⟩⟩) | (go_at_call 44; (with_reducible refine (impl_in.calls aH 1 1000000 true _ dM.out).mono ?_); rintro e w' ⟨rfl, ⟨nd, rfl⟩⟩) | (go_at_call 44; (with_reducible refine (impl_in.calls aI 0 aA false _ iD.out).mono ?_); rintro e w' ⟨rfl, ⟨nd, rfl⟩⟩))
         go_ret
         exact ⟨ER, K1 HB aE.out⟩
       ·replace dO := Bool.eq_false_iff.mpr dO
        subst dO
        have H1 := nf H
        clear H
        have H := H1
        clear H1
        obtain rfl := sj H
        have ⟨_, _, _, _, _, _, _, _, _, _, _, _⟩ := y11 wc aD.out
        go_wp2_with (first | ((with_reducible refine gate_callee (f := 44) rfl ?_); refine goesL_ (some 22) rfl rfl Tryz.func44 (by kernel_rfl) rfl #[.int .i64 aC, .int .i64 0, .int .i64 1000000] rfl MT ?_; (with_reducible refine (impl_in.calls aC 0 1000000 true _ bA.out).mono ?_); rintro e w' ⟨rfl, ⟨nd, rfl⟩⟩; refine ⟨_, rfl, ?_⟩) | (go_at_call 44; (with_reducible refine (impl_in.calls aA 1 1000000 true _ cA.out).mono ?_); rintro e w' ⟨rfl, ⟨nd, rfl⟩⟩) | (go_at_call 44; (with_reducible refine (impl_in.calls aF 1 aA true _ cO.out).mono ?_); rintro e w' ⟨rfl, ⟨nd, rfl⟩⟩) | (go_at_call 44; (with_reducible refine (impl_in.calls aH 1 1000000 false _ dM.out).mono ?_); rintro e w' ⟨rfl, ⟨nd, rfl⟩⟩))
        go_ret
        exact ⟨ER, K1 HB aE.out⟩
      ·replace dN := Bool.eq_false_iff.mpr dN
       subst dN
       have H1 := nf H
       clear H
       have H := H1
       clear H1
       obtain rfl := sj H
       have ⟨_, _, _, _, _, _, _, _, _, _, _, _⟩ := y11 wc aD.out
       go_wp2_with (first | ((with_reducible refine gate_callee (f := 44) rfl ?_); refine goesL_ (some 22) rfl rfl Tryz.func44 (by kernel_rfl) rfl #[.int .i64 aC, .int .i64 0, .int .i64 1000000] rfl MT ?_; (with_reducible refine (impl_in.calls aC 0 1000000 true _ bA.out).mono ?_); rintro e w' ⟨rfl, ⟨nd, rfl⟩⟩; refine ⟨_, rfl, ?_⟩) | (go_at_call 44; (with_reducible refine (impl_in.calls aA 1 1000000 true _ cA.out).mono ?_); rintro e w' ⟨rfl, ⟨nd, rfl⟩⟩) | (go_at_call 44; (with_reducible refine (impl_in.calls aF 1 aA true _ cO.out).mono ?_); rintro e w' ⟨rfl, ⟨nd, rfl⟩⟩) | (go_at_call 44; (with_reducible refine (impl_in.calls aH 1 1000000 aR _ dM.out).mono ?_); rintro e w' ⟨rfl, ⟨nd, rfl⟩⟩))
       go_ret
       exact ⟨ER, K1 HB aE.out⟩
     ·replace dL := Bool.eq_false_iff.mpr dL
      subst dL
      have H1 := nf H
      clear H
      have H := H1
      clear H1
      by_cases fI : aN = true
      ·subst fI
       have H1 := pf H
       clear H
       have H := H1
       clear H1
       obtain rfl := sj H
       have ⟨_, _, _, _, _, _, _, _, _, _, _, _⟩ := y11 wc aD.out
       go_wp2_with (first | ((with_reducible refine gate_callee (f := 44) rfl ?_); refine goesL_ (some 22) rfl rfl Tryz.func44 (by kernel_rfl) rfl #[.int .i64 aC, .int .i64 0, .int .i64 1000000] rfl MT ?_; (with_reducible refine (impl_in.calls aC 0 1000000 true _ bA.out).mono ?_); rintro e w' ⟨rfl, ⟨nd, rfl⟩⟩; refine ⟨_, rfl, ?_⟩) | (go_at_call 44; (with_reducible refine (impl_in.calls aA 1 1000000 true _ cA.out).mono ?_); rintro e w' ⟨rfl, ⟨nd, rfl⟩⟩) | (go_at_call 44; (with_reducible refine (impl_in.calls aF 1 aA false _ cO.out).mono ?_); rintro e w' ⟨rfl, ⟨nd, rfl⟩⟩))
       go_ret
       exact ⟨ER, K1 HB aE.out⟩
      ·replace fI := Bool.eq_false_iff.mpr fI
       subst fI
       have H1 := nf H
       clear H
       have H := H1
       clear H1
       obtain rfl := sj H
       have ⟨_, _, _, _, _, _, _, _, _, _, _, _⟩ := y11 wc aD.out
       go_wp2_with (first | ((with_reducible refine gate_callee (f := 44) rfl ?_); refine goesL_ (some 22) rfl rfl Tryz.func44 (by kernel_rfl) rfl #[.int .i64 aC, .int .i64 0, .int .i64 1000000] rfl MT ?_; (with_reducible refine (impl_in.calls aC 0 1000000 true _ bA.out).mono ?_); rintro e w' ⟨rfl, ⟨nd, rfl⟩⟩; refine ⟨_, rfl, ?_⟩) | (go_at_call 44; (with_reducible refine (impl_in.calls aA 1 1000000 true _ cA.out).mono ?_); rintro e w' ⟨rfl, ⟨nd, rfl⟩⟩) | (go_at_call 44; (with_reducible refine (impl_in.calls aF 1 aA false _ cO.out).mono ?_); rintro e w' ⟨rfl, ⟨nd, rfl⟩⟩))
       go_ret
       exact ⟨ER, K1 HB aE.out⟩
    ·replace dK := Bool.eq_false_iff.mpr dK
     subst dK
     have H1 := nf H
     clear H
     have H := H1
     clear H1
     by_cases gF : aN = true
     ·subst gF
      have H1 := pf H
      clear H
      have H := H1
      clear H1
      obtain rfl := sj H
      have ⟨_, _, _, _, _, _, _, _, _, _, _, _⟩ := y11 wc aD.out
      go_wp2_with (first | ((with_reducible refine gate_callee (f := 44) rfl ?_); refine goesL_ (some 22) rfl rfl Tryz.func44 (by kernel_rfl) rfl #[.int .i64 aC, .int .i64 0, .int .i64 1000000] rfl MT ?_; (with_reducible refine (impl_in.calls aC 0 1000000 true _ bA.out).mono ?_); rintro e w' ⟨rfl, ⟨nd, rfl⟩⟩; refine ⟨_, rfl, ?_⟩) | (go_at_call 44; (with_reducible refine (impl_in.calls aA 1 1000000 false _ cA.out).mono ?_); rintro e w' ⟨rfl, ⟨nd, rfl⟩⟩))
      go_ret
      exact ⟨ER, K1 HB aE.out⟩
     ·replace gF := Bool.eq_false_iff.mpr gF
      subst gF
      have H1 := nf H
      clear H
      have H := H1
      clear H1
      obtain rfl := sj H
      have ⟨_, _, _, _, _, _, _, _, _, _, _, _⟩ := y11 wc aD.out
      go_wp2_with (first | ((with_reducible refine gate_callee (f := 44) rfl ?_); refine goesL_ (some 22) rfl rfl Tryz.func44 (by kernel_rfl) rfl #[.int .i64 aC, .int .i64 0, .int .i64 1000000] rfl MT ?_; (with_reducible refine (impl_in.calls aC 0 1000000 true _ bA.out).mono ?_); rintro e w' ⟨rfl, ⟨nd, rfl⟩⟩; refine ⟨_, rfl, ?_⟩) | (go_at_call 44; (with_reducible refine (impl_in.calls aA 1 1000000 false _ cA.out).mono ?_); rintro e w' ⟨rfl, ⟨nd, rfl⟩⟩))
      go_ret
      exact ⟨ER, K1 HB aE.out⟩
   ·replace dJ := Bool.eq_false_iff.mpr dJ
    subst dJ
    have H1 := nf H
    clear H
    have H := H1
    clear H1
    by_cases hC : aN = true
    ·subst hC
     have H1 := pf H
     clear H
     have H := H1
     clear H1
     obtain rfl := sj H
     have ⟨_, _, _, _, _, _, _, _, _, _, _, _⟩ := y11 wc aD.out
     go_wp2_with (first | ((with_reducible refine gate_callee (f := 44) rfl ?_); refine goesL_ (some 22) rfl rfl Tryz.func44 (by kernel_rfl) rfl #[.int .i64 aC, .int .i64 0, .int .i64 1000000] rfl MT ?_; (with_reducible refine (impl_in.calls aC 0 1000000 false _ bA.out).mono ?_); rintro e w' ⟨rfl, ⟨nd, rfl⟩⟩; refine ⟨_, rfl, ?_⟩))
     go_ret
     exact ⟨ER, K1 HB aE.out⟩
    ·replace hC := Bool.eq_false_iff.mpr hC
     subst hC
     have H1 := nf H
     clear H
     have H := H1
     clear H1
     obtain rfl := sj H
     have ⟨_, _, _, _, _, _, _, _, _, _, _, _⟩ := y11 wc aD.out
     go_wp2_with (first | ((with_reducible refine gate_callee (f := 44) rfl ?_); refine goesL_ (some 22) rfl rfl Tryz.func44 (by kernel_rfl) rfl #[.int .i64 aC, .int .i64 0, .int .i64 1000000] rfl MT ?_; (with_reducible refine (impl_in.calls aC 0 1000000 false _ bA.out).mono ?_); rintro e w' ⟨rfl, ⟨nd, rfl⟩⟩; refine ⟨_, rfl, ?_⟩))
     go_ret
     exact ⟨ER, K1 HB aE.out⟩
mutual
def impl_ascending_tunOf.l0 : Nat → List (S50) → Int → List (S50) → Int → Int → Option (Bool)
 | 0, _, _, _, _, _ => none
 | k + 1, x0, x1, x9, x10, x11 => if x11 < x10 then (if 0 ≤ x11 then (if x11 < (x9.length : Int) then ((impl_SaOk.f k ((rd_T50 x9 x11).f0) ((rd_T50 x9 x11).f1) ((rd_T50 x9 x11).f2) ((rd_T50 x9 x11).f3) ((rd_T50 x9 x11).f4) ((rd_T50 x9 x11).f5) ((rd_T50 x9 x11).f6) ((rd_T50 x9 x11).f7) ((rd_T50 x9 x11).f8) ((rd_T50 x9 x11).f9.f0) ((rd_T50 x9 x11).f9.f1)).bind fun t103 => (if t103 = true then (if ((rd_T50 x9 x11).f4) > x1 then (impl_ascending_tunOf.j1 k x0 x1 x9 x10 x11 true) else (if x11 > 0 then (if 0 ≤ (wrap64 (x11 - 1)) then (if (wrap64 (x11 - 1)) < (x0.length : Int) then ((impl_tunOf.f ((rd_T50 x0 (wrap64 (x11 - 1))).f0) ((rd_T50 x0 (wrap64 (x11 - 1))).f1) ((rd_T50 x0 (wrap64 (x11 - 1))).f2) ((rd_T50 x0 (wrap64 (x11 - 1))).f3) ((rd_T50 x0 (wrap64 (x11 - 1))).f4) ((rd_T50 x0 (wrap64 (x11 - 1))).f5) ((rd_T50 x0 (wrap64 (x11 - 1))).f6) ((rd_T50 x0 (wrap64 (x11 - 1))).f7) ((rd_T50 x0 (wrap64 (x11 - 1))).f8) ((rd_T50 x0 (wrap64 (x11 - 1))).f9.f0) ((rd_T50 x0 (wrap64 (x11 - 1))).f9.f1)).bind fun t105 => ((impl_tunOf.f ((rd_T50 x9 x11).f0) ((rd_T50 x9 x11).f1) ((rd_T50 x9 x11).f2) ((rd_T50 x9 x11).f3) ((rd_T50 x9 x11).f4) ((rd_T50 x9 x11).f5) ((rd_T50 x9 x11).f6) ((rd_T50 x9 x11).f7) ((rd_T50 x9 x11).f8) ((rd_T50 x9 x11).f9.f0) ((rd_T50 x9 x11).f9.f1)).bind fun t106 => (impl_ascending_tunOf.j1 k x0 x1 x9 x10 x11 (decide (t105 ≥ t106))))) else (none)) else (none)) else (impl_ascending_tunOf.j1 k x0 x1 x9 x10 x11 false))) else (impl_ascending_tunOf.j1 k x0 x1 x9 x10 x11 true))) else (none)) else (none)) else (some true)
def impl_ascending_tunOf.j1 : Nat → List (S50) → Int → List (S50) → Int → Int → Bool → Option (Bool)
 | 0, _, _, _, _, _, _ => none
 | k + 1, x0, x1, x9, x10, x11, x41 => if x41 = true then (some false) else (impl_ascending_tunOf.l0 k x0 x1 x9 x10 (wrap64 (x11 + 1)))
end
def impl_ascending_tunOf.f (k : Nat) (l0 : List (S50)) (a1 : Int)  : Option (Bool) := impl_ascending_tunOf.l0 k l0 a1 l0 (l0.length : Int) 0
def impl_ascending_tunOf.T4 : Bool × List (List Nat × List Nat) := (true, [([], []), ([0], [0]), ([1], [1]), ([2, 1], [2]), ([3], [3]), ([4, 3], [3, 4]), ([3], [3]), ([5, 6, 3], [3, 5, 6]), ([3, 7], [3, 7]), ([8, 3], [8]), ([9], [9]), ([10, 9], [9, 10]), ([11, 9, 9], [9, 11]), ([12], [12]), ([12], [12]), ([12], [12]), ([15, 12], [12, 15]), ([14, 16, 12], [12, 14, 16]), ([17, 12], [12, 17]), ([13, 18, 12, 12], [12, 13, 18]), ([12], [12]), ([12], [12]), ([20, 21, 19, 12], [12, 20, 21]), ([19, 22, 12], [12, 19, 22]), ([12, 23, 9], [9, 12, 23]), ([9, 24], [9, 24])])
def impl_ascending_tunOf.B4 : List Nat := [0, 1, 3, 7, 15, 31, 15, 127, 255, 511, 1023, 2047, 4095, 8191, 8191, 8191, 40959, 122879, 253951, 524287, 8191, 8191, 4194303, 8388607, 16777215, 33554431]
theorem impl_ascending_tunOf.tab4 : rtab .any (opsOf Tryz.f46 4) = impl_ascending_tunOf.T4 := by kernel_rfl
theorem impl_ascending_tunOf.bits4 : waitsOk impl_ascending_tunOf.T4.2 impl_ascending_tunOf.B4 = true := by kernel_rfl
theorem impl_ascending_tunOf.calls (k : Nat) (A0 : Option Addr) (c0 : Nat) (l0 : List (S50)) (a1 : Int)  (r : Bool) (w : World) (dP : Kd.C k50 w A0 l0.length l0) (dQ : l0.length ≤ c0) (h : impl_ascending_tunOf.f k l0 a1 = some r) :
  Calls Tryz.prog 46 #[.slice A0 l0.length c0, .int .i64 a1, .func (.func 47) #[] #[]] w fun e w' => e = .returned (.bool r) ∧ Below w.heap.size w w' := by
 have dS := Tryz.underlying50
 have dR := Aside0.mk dP
 have dX := Aside0.mk dQ
 clear dP dQ
 have HB := am (Below.refl w.heap.size w)
 have H : (impl_ascending_tunOf.l0 k l0 a1 l0 (l0.length : Int) 0) = some r := h
 clear h
 have H' := Aside0.mk H
 clear H
 go_enter Tryz.func46, Tryz.ntmps46
 go_wp2
 go_loopg [11] k (fun kq dT w' => ∃ (aA : Int), dT = .int .i64 aA ∧ Aside0 (impl_ascending_tunOf.l0 kq l0 a1 l0 (l0.length : Int) aA = some r) ∧ Aside0 (kq ≤ k) ∧ Aside0 (Below w.heap.size w w'))
 case atStart => exact ⟨(0), (by first | rfl | (simp; done) | (simp [*]; done)), H', ⟨Nat.le_refl _⟩, ⟨KL HB⟩⟩
 case round =>
  clear H'
  try clear p2
  obtain ⟨aA, rfl, HA, HK1, HB⟩ := hrel
  cases gk with
  | zero => exact absurd HA.out (by simp [impl_ascending_tunOf.l0])
  | succ k1 =>
   have H := HA.out
   clear HA
   simp only [impl_ascending_tunOf.l0] at H
   by_cases c4 : aA < (l0.length : Int)
   ·rw [if_pos c4] at H
    have c4b0 : decide (aA < (l0.length : Int)) = true := decide_eq_true c4
    clear c4
    by_cases c5 : 0 ≤ aA
    ·rw [if_pos c5] at H
     have c5b0 : decide (0 ≤ aA) = true := decide_eq_true c5
     clear c5
     by_cases c6 : aA < (l0.length : Int)
     ·rw [if_pos c6] at H
      have c6b0 : decide (aA < (l0.length : Int)) = true := decide_eq_true c6
      clear c6
      have cX := Aside0.mk H
      clear H
      have cE : 0 ≤ (aA : Int) := OD
      have cF : aA < (l0.length : Int) := OD
      obtain ⟨aG, aE, aF, cY, bP, bQ, bR, bS, bT, bU, bV, bW, bX, bY, bI, bJ, bK⟩ := at_T50 dR.out aA cE cF
      cases cY
      replace bP := CX HB.out bP
      replace bQ := CX HB.out bQ
      replace bR := CX HB.out bR
      replace bS := CX HB.out bS
      replace bT := CX HB.out bT
      replace bU := CX HB.out bU
      replace bV := CX HB.out bV
      replace bW := CX HB.out bW
      replace bX := CX HB.out bX
      replace bY := CX HB.out bY
      replace bI := CX HB.out bI
      have aJ := Aside0.mk bK
      have aK := Aside0.mk bJ
      clear bK bJ
      replace cE := eq_true cE
      replace cF := eq_true cF
      go_upto_region 4 with (first | ((with_reducible refine gate_dst (N := 8) rfl ?_); refine box_event rfl (N := 8) rfl (cs := #[.int .i64 0, .int .i64 0, .string (⟨#[]⟩ : ByteArray), .string (⟨#[]⟩ : ByteArray), .int .i64 0, .int .i64 0, .int .i64 0, .int .i64 0, .int .i64 0, .int .i64 0, .slice none 0 0]) (t := 50) BX ?_; intro aC hg w8 cK hb; have aB := am (cK); have cL := am (GH HB hg); have aI := cL; replace HB := bl (KL HB) hb; clear hb cK hg; have ⟨_, _, _, _, _, _, _, _, _, _, _, _⟩ := y11 w8 aB.out))
      (try simp only [Act.put, List.setIfInBounds_toArray, List.set_cons_zero, List.set_cons_succ])
      go_cut [41] (fun dU wc => ∃ (kq : Nat) (bZ : Bool), dU = .bool bZ ∧ Aside0 (impl_ascending_tunOf.j1 kq l0 a1 l0 (l0.length : Int) aA bZ = some r) ∧ Aside0 (kq ≤ k1) ∧ Aside0 (wc.heap[aC]? = some (.cells #[.int .i64 ((rd_T50 l0 aA).f0), .int .i64 ((rd_T50 l0 aA).f1), .string ((rd_T50 l0 aA).f2), .string ((rd_T50 l0 aA).f3), .int .i64 ((rd_T50 l0 aA).f4), .int .i64 ((rd_T50 l0 aA).f5), .int .i64 ((rd_T50 l0 aA).f6), .int .i64 ((rd_T50 l0 aA).f7), .int .i64 ((rd_T50 l0 aA).f8), .int .i64 ((rd_T50 l0 aA).f9.f0), (.slice aE ((rd_T50 l0 aA).f9.f1).length aF)] 50 (0, 0))) ∧ Aside0 (Below w.heap.size w wc))
      case first =>
       have H := cX.out
       clear cX
       replace H := bm H
       obtain ⟨cM, cN, H⟩ := H
       replace H : (if cM = true then (if ((rd_T50 l0 aA).f4) > a1 then (impl_ascending_tunOf.j1 k1 l0 a1 l0 (l0.length : Int) aA true) else (if aA > 0 then (if 0 ≤ (wrap64 (aA - 1)) then (if (wrap64 (aA - 1)) < (l0.length : Int) then ((impl_tunOf.f ((rd_T50 l0 (wrap64 (aA - 1))).f0) ((rd_T50 l0 (wrap64 (aA - 1))).f1) ((rd_T50 l0 (wrap64 (aA - 1))).f2) ((rd_T50 l0 (wrap64 (aA - 1))).f3) ((rd_T50 l0 (wrap64 (aA - 1))).f4) ((rd_T50 l0 (wrap64 (aA - 1))).f5) ((rd_T50 l0 (wrap64 (aA - 1))).f6) ((rd_T50 l0 (wrap64 (aA - 1))).f7) ((rd_T50 l0 (wrap64 (aA - 1))).f8) ((rd_T50 l0 (wrap64 (aA - 1))).f9.f0) ((rd_T50 l0 (wrap64 (aA - 1))).f9.f1)).bind fun bL => ((impl_tunOf.f ((rd_T50 l0 aA).f0) ((rd_T50 l0 aA).f1) ((rd_T50 l0 aA).f2) ((rd_T50 l0 aA).f3) ((rd_T50 l0 aA).f4) ((rd_T50 l0 aA).f5) ((rd_T50 l0 aA).f6) ((rd_T50 l0 aA).f7) ((rd_T50 l0 aA).f8) ((rd_T50 l0 aA).f9.f0) ((rd_T50 l0 aA).f9.f1)).bind fun bH => (impl_ascending_tunOf.j1 k1 l0 a1 l0 (l0.length : Int) aA (decide (bL ≥ bH))))) else (none)) else (none)) else (impl_ascending_tunOf.j1 k1 l0 a1 l0 (l0.length : Int) aA false))) else (impl_ascending_tunOf.j1 k1 l0 a1 l0 (l0.length : Int) aA true)) = some r := H
       have cO := Aside0.mk cN
       clear cN
       by_cases cP : cM = true
       ·subst cP
        have H1 := pf H
        clear H
        have H := H1
        clear H1
        by_cases cJ : ((rd_T50 l0 aA).f4) > a1
        ·rw [if_pos cJ] at H
         have c12b0 : decide (a1 < ((rd_T50 l0 aA).f4)) = true := decide_eq_true cJ
         clear cJ
         (first | rw [c12b0] | (simp only [i64_w, i32_w]; rw [c12b0]) | skip)
         have H' := Aside0.mk H
         clear H
         try go_wp2
         generalize hq_ : (((((((((((w8.setCell ⟨aC, 0, none⟩ (.int .i64 ((rd_T50 l0 aA).f0))).setCell ⟨aC, 1, none⟩ (.int .i64 ((rd_T50 l0 aA).f1))).setCell ⟨aC, 2, none⟩ (.string ((rd_T50 l0 aA).f2))).setCell ⟨aC, 3, none⟩ (.string ((rd_T50 l0 aA).f3))).setCell ⟨aC, 4, none⟩ (.int .i64 ((rd_T50 l0 aA).f4))).setCell ⟨aC, 5, none⟩ (.int .i64 ((rd_T50 l0 aA).f5))).setCell ⟨aC, 6, none⟩ (.int .i64 ((rd_T50 l0 aA).f6))).setCell ⟨aC, 7, none⟩ (.int .i64 ((rd_T50 l0 aA).f7))).setCell ⟨aC, 8, none⟩ (.int .i64 ((rd_T50 l0 aA).f8))).setCell ⟨aC, 9, none⟩ (.int .i64 ((rd_T50 l0 aA).f9.f0))).setCell ⟨aC, 10, none⟩ (.slice aE ((rd_T50 l0 aA).f9.f1).length aF)) = dK
         have n0_ : Aside0 (dK.heap[aC]? = some (.cells #[.int .i64 ((rd_T50 l0 aA).f0), .int .i64 ((rd_T50 l0 aA).f1), .string ((rd_T50 l0 aA).f2), .string ((rd_T50 l0 aA).f3), .int .i64 ((rd_T50 l0 aA).f4), .int .i64 ((rd_T50 l0 aA).f5), .int .i64 ((rd_T50 l0 aA).f6), .int .i64 ((rd_T50 l0 aA).f7), .int .i64 ((rd_T50 l0 aA).f8), .int .i64 ((rd_T50 l0 aA).f9.f0), .slice aE ((rd_T50 l0 aA).f9.f1).length aF] 50 (0, 0))) := ⟨by rw [← hq_]; exact P11 aB⟩
         have n1_ : Aside0 (Below w.heap.size w dK) := ⟨by rw [← hq_]; exact K1 HB aI.out⟩
         clear hq_
         (try clear aB)
         (try clear HB)
         have aB := n0_
         have HB := n1_
         clear n0_ n1_
         replace aB := am (blk_drew aB.out)
         replace HB := am (below_drew1 HB.out)
         refine start_ (n := 26) (S := fun w' => de11 w' aC (.int .i64 ((rd_T50 l0 aA).f0)) (.int .i64 ((rd_T50 l0 aA).f1)) (.string ((rd_T50 l0 aA).f2)) (.string ((rd_T50 l0 aA).f3)) (.int .i64 ((rd_T50 l0 aA).f4)) (.int .i64 ((rd_T50 l0 aA).f5)) (.int .i64 ((rd_T50 l0 aA).f6)) (.int .i64 ((rd_T50 l0 aA).f7)) (.int .i64 ((rd_T50 l0 aA).f8)) (.int .i64 ((rd_T50 l0 aA).f9.f0)) (.slice aE ((rd_T50 l0 aA).f9.f1).length aF)) (ds := []) (tf 0 26) (by kernel_rfl) rfl rfl ⟨z0 _ aB.out, z1 _ aB.out, z2 _ aB.out, z3 _ aB.out, z4 _ aB.out, z5 _ aB.out, z6 _ aB.out, z7 _ aB.out, z8 _ aB.out, z9 _ aB.out, z10 _ aB.out⟩ (fun aH => ?_); refine with_tabW impl_ascending_tunOf.tab4 impl_ascending_tunOf.bits4 (fun aD cC => ?_)
         generalize dK.drew = dY at aB HB aH ⊢
         refine tk 0 (some 16) (tf 1 25) (take_ofW aD.out cC.out (by kernel_rfl)) aH ?_
         refine one_ (i := 1) (N := some 17) (tf 2 24) rfl rfl (one_of aD.out (by kernel_rfl)) (by decide) (fun K hK => ?_)
         refine goes_ Tryz.func75 (by kernel_rfl) rfl #[.agg #[.int .i64 ((rd_T50 l0 aA).f0), .int .i64 ((rd_T50 l0 aA).f1), .string ((rd_T50 l0 aA).f2), .string ((rd_T50 l0 aA).f3), .int .i64 ((rd_T50 l0 aA).f4), .int .i64 ((rd_T50 l0 aA).f5), .int .i64 ((rd_T50 l0 aA).f6), .int .i64 ((rd_T50 l0 aA).f7), .int .i64 ((rd_T50 l0 aA).f8), .int .i64 ((rd_T50 l0 aA).f9.f0), .slice aE ((rd_T50 l0 aA).f9.f1).length aF]] (by rfl) rfl rfl MT ?_
         with_reducible refine (impl_SaOk.calls k1 ((rd_T50 l0 aA).f0) ((rd_T50 l0 aA).f1) ((rd_T50 l0 aA).f2) ((rd_T50 l0 aA).f3) ((rd_T50 l0 aA).f4) ((rd_T50 l0 aA).f5) ((rd_T50 l0 aA).f6) ((rd_T50 l0 aA).f7) ((rd_T50 l0 aA).f8) ((rd_T50 l0 aA).f9.f0) _ _ ((rd_T50 l0 aA).f9.f1) true _ ?_ ?_ cO.out).mono ?_
         exact KD aJ HB
         exact aK.out
         rintro e dZ ⟨rfl, hb⟩
         refine ⟨_, rfl, ?_⟩
         replace aB := am (BB aB hb)
         replace HB := bl (K1 HB aI.out) hb
         (try clear hb)
         (try clear hb2)
         (try clear hk)
         (try clear hi)
         refine hK.out _ _ ⟨z0 _ aB.out, z1 _ aB.out, z2 _ aB.out, z3 _ aB.out, z4 _ aB.out, z5 _ aB.out, z6 _ aB.out, z7 _ aB.out, z8 _ aB.out, z9 _ aB.out, z10 _ aB.out⟩ (fun aH => ?_)
         clear hK K
         refine nm (some 17) ?_
         refine pv aD 2 18 (tf 3 23) ?_
         refine pv aD 3 19 (tf 4 22) ?_
         refine pv aD 4 20 (tf 5 21) ?_
         refine pv aD 6 22 (tr [5, 1, 1, 19]) ?_
         refine tk 5 (some 21) (tf 7 19) (take_ofW aD.out cC.out (by kernel_rfl)) aH ?_
         refine pv aD 7 23 (tf 8 18) ?_
         refine pv aD 8 24 (tf 9 17) ?_
         refine pv aD 9 25 (tf 10 16) ?_
         refine pw aD 10 26 (tf 11 15) ?_
         refine pw aD 11 27 (tf 12 14) ?_
         refine pw aD 12 28 (tf 13 13) ?_
         refine pw aD 13 29 (tf 14 12) ?_
         refine pw aD 14 30 (tf 15 11) ?_
         refine pw aD 15 31 (tf 16 10) ?_
         refine pw aD 16 32 (tf 17 9) ?_
         refine pw aD 17 33 (tf 18 8) ?_
         refine pw aD 18 34 (tf 19 7) ?_
         refine pw aD 19 35 (tf 20 6) ?_
         refine pw aD 20 36 (tf 21 5) ?_
         refine pw aD 21 37 (tf 22 4) ?_
         refine pw aD 22 38 (tf 23 3) ?_
         refine pw aD 23 39 (tf 24 2) ?_
         refine pw aD 24 40 (tf 25 1) ?_
         refine pv aD 25 41 (tf 26 0) ?_
         refine done_ (done_of aD.out (by kernel_rfl)) ?_
         try go_wp2
         go_meet
         case rel => exact ⟨_, (true), (by first | rfl | (simp; done) | (simp [*]; done)), H', ⟨by have := HK1.out; first | omega | exact Nat.le_refl _⟩, ⟨KB aB⟩, ⟨K1 HB aI.out⟩⟩
        ·rw [if_neg cJ] at H
         have c12b0 : decide (a1 < ((rd_T50 l0 aA).f4)) = false := decide_eq_false cJ
         clear cJ
         (first | rw [c12b0] | (simp only [i64_w, i32_w]; rw [c12b0]) | skip)
         by_cases cG : aA > 0
         ·rw [if_pos cG] at H
          have c16b0 : decide (0 < aA) = true := decide_eq_true cG
          clear cG
          obtain ⟨ji17, hji17⟩ : ∃ j_ : Int, (wrap64 (aA - 1)) = j_ := ⟨_, rfl⟩
          replace H : (if 0 ≤ (ji17) then (if (ji17) < (l0.length : Int) then ((impl_tunOf.f ((rd_T50 l0 (ji17)).f0) ((rd_T50 l0 (ji17)).f1) ((rd_T50 l0 (ji17)).f2) ((rd_T50 l0 (ji17)).f3) ((rd_T50 l0 (ji17)).f4) ((rd_T50 l0 (ji17)).f5) ((rd_T50 l0 (ji17)).f6) ((rd_T50 l0 (ji17)).f7) ((rd_T50 l0 (ji17)).f8) ((rd_T50 l0 (ji17)).f9.f0) ((rd_T50 l0 (ji17)).f9.f1)).bind fun bL => ((impl_tunOf.f ((rd_T50 l0 aA).f0) ((rd_T50 l0 aA).f1) ((rd_T50 l0 aA).f2) ((rd_T50 l0 aA).f3) ((rd_T50 l0 aA).f4) ((rd_T50 l0 aA).f5) ((rd_T50 l0 aA).f6) ((rd_T50 l0 aA).f7) ((rd_T50 l0 aA).f8) ((rd_T50 l0 aA).f9.f0) ((rd_T50 l0 aA).f9.f1)).bind fun bH => (impl_ascending_tunOf.j1 k1 l0 a1 l0 (l0.length : Int) aA (decide (bL ≥ bH))))) else (none)) else (none)) = some r := by first | (rw [hji17] at H; exact H) | (simp only [hji17] at H ⊢; exact H)
          (try rw [hji17] at cO)
          have hji17w : (IntKind.i64.wrap (aA - 1)) = ji17 := (i64_w _).trans hji17
          by_cases cQ : 0 ≤ (ji17)
          ·rw [if_pos cQ] at H
           have c18b0 : decide (0 ≤ (ji17)) = true := decide_eq_true cQ
           clear cQ
           by_cases cR : (ji17) < (l0.length : Int)
           ·rw [if_pos cR] at H
            have c19b0 : decide ((ji17) < (l0.length : Int)) = true := decide_eq_true cR
            clear cR
            replace H := bm H
            obtain ⟨bL, cS, H⟩ := H
            replace H : ((impl_tunOf.f ((rd_T50 l0 aA).f0) ((rd_T50 l0 aA).f1) ((rd_T50 l0 aA).f2) ((rd_T50 l0 aA).f3) ((rd_T50 l0 aA).f4) ((rd_T50 l0 aA).f5) ((rd_T50 l0 aA).f6) ((rd_T50 l0 aA).f7) ((rd_T50 l0 aA).f8) ((rd_T50 l0 aA).f9.f0) ((rd_T50 l0 aA).f9.f1)).bind fun bH => (impl_ascending_tunOf.j1 k1 l0 a1 l0 (l0.length : Int) aA (decide (bL ≥ bH)))) = some r := H
            have dV := Aside0.mk cS
            clear cS
            replace H := bm H
            obtain ⟨bH, cT, H⟩ := H
            replace H : (impl_ascending_tunOf.j1 k1 l0 a1 l0 (l0.length : Int) aA (decide (bL ≥ bH))) = some r := H
            have dW := Aside0.mk cT
            clear cT
            have H' := Aside0.mk H
            clear H
            try go_wp2
            generalize hq_ : (((((((((((w8.setCell ⟨aC, 0, none⟩ (.int .i64 ((rd_T50 l0 aA).f0))).setCell ⟨aC, 1, none⟩ (.int .i64 ((rd_T50 l0 aA).f1))).setCell ⟨aC, 2, none⟩ (.string ((rd_T50 l0 aA).f2))).setCell ⟨aC, 3, none⟩ (.string ((rd_T50 l0 aA).f3))).setCell ⟨aC, 4, none⟩ (.int .i64 ((rd_T50 l0 aA).f4))).setCell ⟨aC, 5, none⟩ (.int .i64 ((rd_T50 l0 aA).f5))).setCell ⟨aC, 6, none⟩ (.int .i64 ((rd_T50 l0 aA).f6))).setCell ⟨aC, 7, none⟩ (.int .i64 ((rd_T50 l0 aA).f7))).setCell ⟨aC, 8, none⟩ (.int .i64 ((rd_T50 l0 aA).f8))).setCell ⟨aC, 9, none⟩ (.int .i64 ((rd_T50 l0 aA).f9.f0))).setCell ⟨aC, 10, none⟩ (.slice aE ((rd_T50 l0 aA).f9.f1).length aF)) = dL
            have n0_ : Aside0 (dL.heap[aC]? = some (.cells #[.int .i64 ((rd_T50 l0 aA).f0), .int .i64 ((rd_T50 l0 aA).f1), .string ((rd_T50 l0 aA).f2), .string ((rd_T50 l0 aA).f3), .int .i64 ((rd_T50 l0 aA).f4), .int .i64 ((rd_T50 l0 aA).f5), .int .i64 ((rd_T50 l0 aA).f6), .int .i64 ((rd_T50 l0 aA).f7), .int .i64 ((rd_T50 l0 aA).f8), .int .i64 ((rd_T50 l0 aA).f9.f0), .slice aE ((rd_T50 l0 aA).f9.f1).length aF] 50 (0, 0))) := ⟨by rw [← hq_]; exact P11 aB⟩
            have n1_ : Aside0 (Below w.heap.size w dL) := ⟨by rw [← hq_]; exact K1 HB aI.out⟩
            clear hq_
            (try clear aB)
            (try clear HB)
            have aB := n0_
            have HB := n1_
            clear n0_ n1_
            replace aB := am (blk_drew aB.out)
            replace HB := am (below_drew1 HB.out)
            have cH : 0 ≤ ((ji17) : Int) := OD
            have cI : (ji17) < (l0.length : Int) := OD
            obtain ⟨cU, cA, cB, dM, aN, aO, aP, aQ, aR, aS, aT, aU, aV, aW, aL, bM, bN⟩ := at_T50 dR.out (ji17) cH cI
            have aM := aL
            have aX := aW
            have aY := aV
            have aZ := aU
            have bA := aT
            have bB := aS
            have bC := aR
            have bD := aQ
            have bE := aP
            have bF := aO
            have bG := aN
            obtain rfl : aG = cU := (by injection dM)
            replace aN := CX HB.out aN
            replace aO := CX HB.out aO
            replace aP := CX HB.out aP
            replace aQ := CX HB.out aQ
            replace aR := CX HB.out aR
            replace aS := CX HB.out aS
            replace aT := CX HB.out aT
            replace aU := CX HB.out aU
            replace aV := CX HB.out aV
            replace aW := CX HB.out aW
            replace aL := CX HB.out aL
            have bO := Aside0.mk bN
            have cD := Aside0.mk bM
            clear bN bM
            replace cH := eq_true cH
            replace cI := eq_true cI
            refine start_ (n := 26) (S := fun w' => ce11 w' aC (.int .i64 ((rd_T50 l0 aA).f0)) (.int .i64 ((rd_T50 l0 aA).f1)) (.string ((rd_T50 l0 aA).f2)) (.string ((rd_T50 l0 aA).f3)) (.int .i64 ((rd_T50 l0 aA).f4)) (.int .i64 ((rd_T50 l0 aA).f5)) (.int .i64 ((rd_T50 l0 aA).f6)) (.int .i64 ((rd_T50 l0 aA).f7)) (.int .i64 ((rd_T50 l0 aA).f8)) (.int .i64 ((rd_T50 l0 aA).f9.f0)) (.slice aE ((rd_T50 l0 aA).f9.f1).length aF) (w'.cell? (aG.add (((ji17)).toNat * 11)) = some (.int .i64 ((rd_T50 l0 (ji17)).f0)) ∧ w'.cell? ⟨(aG.add (((ji17)).toNat * 11)).block, (aG.add (((ji17)).toNat * 11)).off + 1, none⟩ = some (.int .i64 ((rd_T50 l0 (ji17)).f1)) ∧ w'.cell? ⟨(aG.add (((ji17)).toNat * 11)).block, (aG.add (((ji17)).toNat * 11)).off + 2, none⟩ = some (.string ((rd_T50 l0 (ji17)).f2)) ∧ w'.cell? ⟨(aG.add (((ji17)).toNat * 11)).block, (aG.add (((ji17)).toNat * 11)).off + 3, none⟩ = some (.string ((rd_T50 l0 (ji17)).f3)) ∧ w'.cell? ⟨(aG.add (((ji17)).toNat * 11)).block, (aG.add (((ji17)).toNat * 11)).off + 4, none⟩ = some (.int .i64 ((rd_T50 l0 (ji17)).f4)) ∧ w'.cell? ⟨(aG.add (((ji17)).toNat * 11)).block, (aG.add (((ji17)).toNat * 11)).off + 5, none⟩ = some (.int .i64 ((rd_T50 l0 (ji17)).f5)) ∧ w'.cell? ⟨(aG.add (((ji17)).toNat * 11)).block, (aG.add (((ji17)).toNat * 11)).off + 6, none⟩ = some (.int .i64 ((rd_T50 l0 (ji17)).f6)) ∧ w'.cell? ⟨(aG.add (((ji17)).toNat * 11)).block, (aG.add (((ji17)).toNat * 11)).off + 7, none⟩ = some (.int .i64 ((rd_T50 l0 (ji17)).f7)) ∧ w'.cell? ⟨(aG.add (((ji17)).toNat * 11)).block, (aG.add (((ji17)).toNat * 11)).off + 8, none⟩ = some (.int .i64 ((rd_T50 l0 (ji17)).f8)) ∧ w'.cell? ⟨(aG.add (((ji17)).toNat * 11)).block, (aG.add (((ji17)).toNat * 11)).off + 9, none⟩ = some (.int .i64 ((rd_T50 l0 (ji17)).f9.f0)) ∧ w'.cell? ⟨(aG.add (((ji17)).toNat * 11)).block, (aG.add (((ji17)).toNat * 11)).off + 10, none⟩ = some (.slice cA ((rd_T50 l0 (ji17)).f9.f1).length cB))) (ds := []) (tf 0 26) (by kernel_rfl) rfl rfl ⟨z0 _ aB.out, z1 _ aB.out, z2 _ aB.out, z3 _ aB.out, z4 _ aB.out, z5 _ aB.out, z6 _ aB.out, z7 _ aB.out, z8 _ aB.out, z9 _ aB.out, z10 _ aB.out, (CY HB.out bG), (CY HB.out bF), (CY HB.out bE), (CY HB.out bD), (CY HB.out bC), (CY HB.out bB), (CY HB.out bA), (CY HB.out aZ), (CY HB.out aY), (CY HB.out aX), (CY HB.out aM)⟩ (fun aH => ?_); refine with_tabW impl_ascending_tunOf.tab4 impl_ascending_tunOf.bits4 (fun aD cC => ?_)
            generalize dL.drew = eA at aB HB bO aN aO aL aP aQ aR aS aT aU aV aW aH ⊢
            refine tk 0 (some 16) (tf 1 25) (take_ofW aD.out cC.out (by kernel_rfl)) aH ?_
            refine one_ (i := 1) (N := some 17) (tf 2 24) rfl rfl (one_of aD.out (by kernel_rfl)) (by decide) (fun K hK => ?_)
            refine goes_ Tryz.func75 (by kernel_rfl) rfl #[.agg #[.int .i64 ((rd_T50 l0 aA).f0), .int .i64 ((rd_T50 l0 aA).f1), .string ((rd_T50 l0 aA).f2), .string ((rd_T50 l0 aA).f3), .int .i64 ((rd_T50 l0 aA).f4), .int .i64 ((rd_T50 l0 aA).f5), .int .i64 ((rd_T50 l0 aA).f6), .int .i64 ((rd_T50 l0 aA).f7), .int .i64 ((rd_T50 l0 aA).f8), .int .i64 ((rd_T50 l0 aA).f9.f0), .slice aE ((rd_T50 l0 aA).f9.f1).length aF]] (by rfl) rfl rfl MT ?_
            with_reducible refine (impl_SaOk.calls k1 ((rd_T50 l0 aA).f0) ((rd_T50 l0 aA).f1) ((rd_T50 l0 aA).f2) ((rd_T50 l0 aA).f3) ((rd_T50 l0 aA).f4) ((rd_T50 l0 aA).f5) ((rd_T50 l0 aA).f6) ((rd_T50 l0 aA).f7) ((rd_T50 l0 aA).f8) ((rd_T50 l0 aA).f9.f0) _ _ ((rd_T50 l0 aA).f9.f1) true _ ?_ ?_ cO.out).mono ?_
            exact KD aJ HB
            exact aK.out
            rintro e eB ⟨rfl, hb⟩
            refine ⟨_, rfl, ?_⟩
            replace aB := am (BB aB hb)
            replace HB := bl (K1 HB aI.out) hb
            (try clear hb)
            (try clear hb2)
            (try clear hk)
            (try clear hi)
            refine hK.out _ _ ⟨z0 _ aB.out, z1 _ aB.out, z2 _ aB.out, z3 _ aB.out, z4 _ aB.out, z5 _ aB.out, z6 _ aB.out, z7 _ aB.out, z8 _ aB.out, z9 _ aB.out, z10 _ aB.out, (CY HB.out bG), (CY HB.out bF), (CY HB.out bE), (CY HB.out bD), (CY HB.out bC), (CY HB.out bB), (CY HB.out bA), (CY HB.out aZ), (CY HB.out aY), (CY HB.out aX), (CY HB.out aM)⟩ (fun aH => ?_)
            clear hK K
            refine nm (some 17) ?_
            refine pv aD 2 18 (tf 3 23) ?_
            refine pv aD 3 19 (tf 4 22) ?_
            refine pv aD 4 20 (tf 5 21) ?_
            refine pv aD 6 22 (tr [5, 1, 1, 19]) ?_
            refine tk 5 (some 21) (tf 7 19) (take_ofW aD.out cC.out (by kernel_rfl)) aH ?_
            refine pv aD 7 23 (tf 8 18) ?_
            refine pv aD 8 24 (tf 9 17) ?_
            refine pv aD 9 25 (tf 10 16) ?_
            refine pv aD 10 26 (tf 11 15) ?_
            refine pv aD 11 27 (tf 12 14) ?_
            refine pv aD 12 28 (tf 13 13) ?_
            refine pv aD 13 29 (tf 14 12) ?_
            refine pv aD 14 30 (tf 15 11) ?_
            refine pv aD 15 31 (tf 16 10) ?_
            refine pv aD 16 32 (tf 17 9) ?_
            refine pv aD 17 33 (tf 18 8) ?_
            refine pv aD 20 36 (tr [18, 2, 1, 5]) ?_
            refine tk 18 (some 34) (tr [19, 1, 1, 5]) (take_ofW aD.out cC.out (by kernel_rfl)) aH ?_
            refine tk 21 (some 37) (tr [19, 1, 2, 4]) (take_ofW aD.out cC.out (by kernel_rfl)) aH ?_
            refine one_ (i := 19) (N := some 35) (tf 22 4) rfl rfl (one_of aD.out (by kernel_rfl)) (by decide) (fun K hK => ?_)
            refine goesW_ Tryz.func47 (by kernel_rfl) rfl #[.agg #[.int .i64 ((rd_T50 l0 (ji17)).f0), .int .i64 ((rd_T50 l0 (ji17)).f1), .string ((rd_T50 l0 (ji17)).f2), .string ((rd_T50 l0 (ji17)).f3), .int .i64 ((rd_T50 l0 (ji17)).f4), .int .i64 ((rd_T50 l0 (ji17)).f5), .int .i64 ((rd_T50 l0 (ji17)).f6), .int .i64 ((rd_T50 l0 (ji17)).f7), .int .i64 ((rd_T50 l0 (ji17)).f8), .int .i64 ((rd_T50 l0 (ji17)).f9.f0), .slice cA ((rd_T50 l0 (ji17)).f9.f1).length cB]] (by rfl) rfl rfl (by first | rfl | (simp [Act.eval, Act.put]; done)) (by (try simp only [List.map_toArray, List.map_cons, List.map_nil]); first | done | (simp only [hji17]; rfl) | rfl | (simp only [List.length_drop, List.length_take]; rfl)) ?_
            with_reducible refine (impl_tunOf.calls ((rd_T50 l0 (ji17)).f0) ((rd_T50 l0 (ji17)).f1) ((rd_T50 l0 (ji17)).f2) ((rd_T50 l0 (ji17)).f3) ((rd_T50 l0 (ji17)).f4) ((rd_T50 l0 (ji17)).f5) ((rd_T50 l0 (ji17)).f6) ((rd_T50 l0 (ji17)).f7) ((rd_T50 l0 (ji17)).f8) ((rd_T50 l0 (ji17)).f9.f0) _ _ ((rd_T50 l0 (ji17)).f9.f1) bL _ ?_ ?_ dV.out).mono ?_
            exact KD bO HB
            exact cD.out
            rintro e eC ⟨rfl, hb⟩
            refine ⟨_, rfl, ?_⟩
            replace aB := am (BB aB hb)
            replace HB := bl (K1 HB aI.out) hb
            (try clear hb)
            (try clear hb2)
            (try clear hk)
            (try clear hi)
            refine hK.out _ _ ⟨z0 _ aB.out, z1 _ aB.out, z2 _ aB.out, z3 _ aB.out, z4 _ aB.out, z5 _ aB.out, z6 _ aB.out, z7 _ aB.out, z8 _ aB.out, z9 _ aB.out, z10 _ aB.out, (CY HB.out bG), (CY HB.out bF), (CY HB.out bE), (CY HB.out bD), (CY HB.out bC), (CY HB.out bB), (CY HB.out bA), (CY HB.out aZ), (CY HB.out aY), (CY HB.out aX), (CY HB.out aM)⟩ (fun aH => ?_)
            clear hK K
            refine nm (some 35) ?_
            refine one_ (i := 22) (N := some 38) (tf 23 3) rfl rfl (one_of aD.out (by kernel_rfl)) (by decide) (fun K hK => ?_)
            refine goesW_ Tryz.func47 (by kernel_rfl) rfl #[.agg #[.int .i64 ((rd_T50 l0 aA).f0), .int .i64 ((rd_T50 l0 aA).f1), .string ((rd_T50 l0 aA).f2), .string ((rd_T50 l0 aA).f3), .int .i64 ((rd_T50 l0 aA).f4), .int .i64 ((rd_T50 l0 aA).f5), .int .i64 ((rd_T50 l0 aA).f6), .int .i64 ((rd_T50 l0 aA).f7), .int .i64 ((rd_T50 l0 aA).f8), .int .i64 ((rd_T50 l0 aA).f9.f0), .slice aE ((rd_T50 l0 aA).f9.f1).length aF]] (by rfl) rfl rfl (by first | rfl | (simp [Act.eval, Act.put]; done)) MT ?_
            with_reducible refine (impl_tunOf.calls ((rd_T50 l0 aA).f0) ((rd_T50 l0 aA).f1) ((rd_T50 l0 aA).f2) ((rd_T50 l0 aA).f3) ((rd_T50 l0 aA).f4) ((rd_T50 l0 aA).f5) ((rd_T50 l0 aA).f6) ((rd_T50 l0 aA).f7) ((rd_T50 l0 aA).f8) ((rd_T50 l0 aA).f9.f0) _ _ ((rd_T50 l0 aA).f9.f1) bH _ ?_ ?_ dW.out).mono ?_
            exact KD aJ HB
            exact aK.out
            rintro e eD ⟨rfl, hb⟩
            refine ⟨_, rfl, ?_⟩
            replace aB := am (BB aB hb)
            replace HB := bl (K1 HB aI.out) hb
            (try clear hb)
            (try clear hb2)
            (try clear hk)
            (try clear hi)
            refine hK.out _ _ ⟨z0 _ aB.out, z1 _ aB.out, z2 _ aB.out, z3 _ aB.out, z4 _ aB.out, z5 _ aB.out, z6 _ aB.out, z7 _ aB.out, z8 _ aB.out, z9 _ aB.out, z10 _ aB.out, (CY HB.out bG), (CY HB.out bF), (CY HB.out bE), (CY HB.out bD), (CY HB.out bC), (CY HB.out bB), (CY HB.out bA), (CY HB.out aZ), (CY HB.out aY), (CY HB.out aX), (CY HB.out aM)⟩ (fun aH => ?_)
            clear hK K
            refine nm (some 38) ?_
            refine pv aD 23 39 (tf 24 2) ?_
            refine pv aD 24 40 (tf 25 1) ?_
            refine pv aD 25 41 (tf 26 0) ?_
            refine done_ (done_of aD.out (by kernel_rfl)) ?_
            try go_wp2
            go_meet
            case rel => exact ⟨_, (decide (bL ≥ bH)), (by first | rfl | (simp; done) | (simp [*]; done)), H', ⟨by have := HK1.out; first | omega | exact Nat.le_refl _⟩, ⟨KB aB⟩, ⟨K1 HB aI.out⟩⟩
           ·rw [if_neg cR] at H
            exact absurd H (by simp)
          ·rw [if_neg cQ] at H
           exact absurd H (by simp)
         ·rw [if_neg cG] at H
          have c16b0 : decide (0 < aA) = false := decide_eq_false cG
          clear cG
          have H' := Aside0.mk H
          clear H
          try go_wp2
          generalize hq_ : (((((((((((w8.setCell ⟨aC, 0, none⟩ (.int .i64 ((rd_T50 l0 aA).f0))).setCell ⟨aC, 1, none⟩ (.int .i64 ((rd_T50 l0 aA).f1))).setCell ⟨aC, 2, none⟩ (.string ((rd_T50 l0 aA).f2))).setCell ⟨aC, 3, none⟩ (.string ((rd_T50 l0 aA).f3))).setCell ⟨aC, 4, none⟩ (.int .i64 ((rd_T50 l0 aA).f4))).setCell ⟨aC, 5, none⟩ (.int .i64 ((rd_T50 l0 aA).f5))).setCell ⟨aC, 6, none⟩ (.int .i64 ((rd_T50 l0 aA).f6))).setCell ⟨aC, 7, none⟩ (.int .i64 ((rd_T50 l0 aA).f7))).setCell ⟨aC, 8, none⟩ (.int .i64 ((rd_T50 l0 aA).f8))).setCell ⟨aC, 9, none⟩ (.int .i64 ((rd_T50 l0 aA).f9.f0))).setCell ⟨aC, 10, none⟩ (.slice aE ((rd_T50 l0 aA).f9.f1).length aF)) = dN
          have n0_ : Aside0 (dN.heap[aC]? = some (.cells #[.int .i64 ((rd_T50 l0 aA).f0), .int .i64 ((rd_T50 l0 aA).f1), .string ((rd_T50 l0 aA).f2), .string ((rd_T50 l0 aA).f3), .int .i64 ((rd_T50 l0 aA).f4), .int .i64 ((rd_T50 l0 aA).f5), .int .i64 ((rd_T50 l0 aA).f6), .int .i64 ((rd_T50 l0 aA).f7), .int .i64 ((rd_T50 l0 aA).f8), .int .i64 ((rd_T50 l0 aA).f9.f0), .slice aE ((rd_T50 l0 aA).f9.f1).length aF] 50 (0, 0))) := ⟨by rw [← hq_]; exact P11 aB⟩
          have n1_ : Aside0 (Below w.heap.size w dN) := ⟨by rw [← hq_]; exact K1 HB aI.out⟩
          clear hq_
          (try clear aB)
          (try clear HB)
          have aB := n0_
          have HB := n1_
          clear n0_ n1_
          replace aB := am (blk_drew aB.out)
          replace HB := am (below_drew1 HB.out)
          refine start_ (n := 26) (S := fun w' => de11 w' aC (.int .i64 ((rd_T50 l0 aA).f0)) (.int .i64 ((rd_T50 l0 aA).f1)) (.string ((rd_T50 l0 aA).f2)) (.string ((rd_T50 l0 aA).f3)) (.int .i64 ((rd_T50 l0 aA).f4)) (.int .i64 ((rd_T50 l0 aA).f5)) (.int .i64 ((rd_T50 l0 aA).f6)) (.int .i64 ((rd_T50 l0 aA).f7)) (.int .i64 ((rd_T50 l0 aA).f8)) (.int .i64 ((rd_T50 l0 aA).f9.f0)) (.slice aE ((rd_T50 l0 aA).f9.f1).length aF)) (ds := []) (tf 0 26) (by kernel_rfl) rfl rfl ⟨z0 _ aB.out, z1 _ aB.out, z2 _ aB.out, z3 _ aB.out, z4 _ aB.out, z5 _ aB.out, z6 _ aB.out, z7 _ aB.out, z8 _ aB.out, z9 _ aB.out, z10 _ aB.out⟩ (fun aH => ?_); refine with_tabW impl_ascending_tunOf.tab4 impl_ascending_tunOf.bits4 (fun aD cC => ?_)
          generalize dN.drew = eE at aB HB aH ⊢
          refine tk 0 (some 16) (tf 1 25) (take_ofW aD.out cC.out (by kernel_rfl)) aH ?_
          refine one_ (i := 1) (N := some 17) (tf 2 24) rfl rfl (one_of aD.out (by kernel_rfl)) (by decide) (fun K hK => ?_)
          refine goes_ Tryz.func75 (by kernel_rfl) rfl #[.agg #[.int .i64 ((rd_T50 l0 aA).f0), .int .i64 ((rd_T50 l0 aA).f1), .string ((rd_T50 l0 aA).f2), .string ((rd_T50 l0 aA).f3), .int .i64 ((rd_T50 l0 aA).f4), .int .i64 ((rd_T50 l0 aA).f5), .int .i64 ((rd_T50 l0 aA).f6), .int .i64 ((rd_T50 l0 aA).f7), .int .i64 ((rd_T50 l0 aA).f8), .int .i64 ((rd_T50 l0 aA).f9.f0), .slice aE ((rd_T50 l0 aA).f9.f1).length aF]] (by rfl) rfl rfl MT ?_
          with_reducible refine (impl_SaOk.calls k1 ((rd_T50 l0 aA).f0) ((rd_T50 l0 aA).f1) ((rd_T50 l0 aA).f2) ((rd_T50 l0 aA).f3) ((rd_T50 l0 aA).f4) ((rd_T50 l0 aA).f5) ((rd_T50 l0 aA).f6) ((rd_T50 l0 aA).f7) ((rd_T50 l0 aA).f8) ((rd_T50 l0 aA).f9.f0) _ _ ((rd_T50 l0 aA).f9.f1) true _ ?_ ?_ cO.out).mono ?_
          exact KD aJ HB
          exact aK.out
          rintro e eF ⟨rfl, hb⟩
          refine ⟨_, rfl, ?_⟩
          replace aB := am (BB aB hb)
          replace HB := bl (K1 HB aI.out) hb
          (try clear hb)
          (try clear hb2)
          (try clear hk)
          (try clear hi)
          refine hK.out _ _ ⟨z0 _ aB.out, z1 _ aB.out, z2 _ aB.out, z3 _ aB.out, z4 _ aB.out, z5 _ aB.out, z6 _ aB.out, z7 _ aB.out, z8 _ aB.out, z9 _ aB.out, z10 _ aB.out⟩ (fun aH => ?_)
          clear hK K
          refine nm (some 17) ?_
          refine pv aD 2 18 (tf 3 23) ?_
          refine pv aD 3 19 (tf 4 22) ?_
          refine pv aD 4 20 (tf 5 21) ?_
          refine pv aD 6 22 (tr [5, 1, 1, 19]) ?_
          refine tk 5 (some 21) (tf 7 19) (take_ofW aD.out cC.out (by kernel_rfl)) aH ?_
          refine pv aD 7 23 (tf 8 18) ?_
          refine pv aD 8 24 (tf 9 17) ?_
          refine pv aD 9 25 (tf 10 16) ?_
          refine pv aD 10 26 (tf 11 15) ?_
          refine pv aD 11 27 (tf 12 14) ?_
          refine pv aD 12 28 (tf 13 13) ?_
          refine pw aD 13 29 (tf 14 12) ?_
          refine pw aD 14 30 (tf 15 11) ?_
          refine pw aD 15 31 (tf 16 10) ?_
          refine pw aD 16 32 (tf 17 9) ?_
          refine pw aD 17 33 (tf 18 8) ?_
          refine pw aD 18 34 (tf 19 7) ?_
          refine pw aD 19 35 (tf 20 6) ?_
          refine pw aD 20 36 (tf 21 5) ?_
          refine pw aD 21 37 (tf 22 4) ?_
          refine pw aD 22 38 (tf 23 3) ?_
          refine pw aD 23 39 (tf 24 2) ?_
          refine pv aD 24 40 (tf 25 1) ?_
          refine pv aD 25 41 (tf 26 0) ?_
          refine done_ (done_of aD.out (by kernel_rfl)) ?_
          try go_wp2
          go_meet
          case rel => exact ⟨_, (false), (by first | rfl | (simp; done) | (simp [*]; done)), H', ⟨by have := HK1.out; first | omega | exact Nat.le_refl _⟩, ⟨KB aB⟩, ⟨K1 HB aI.out⟩⟩
       ·replace cP := Bool.eq_false_iff.mpr cP
        subst cP
        have H1 := nf H
        clear H
        have H := H1
        clear H1
        have H' := Aside0.mk H
        clear H
        try go_wp2
        generalize hq_ : (((((((((((w8.setCell ⟨aC, 0, none⟩ (.int .i64 ((rd_T50 l0 aA).f0))).setCell ⟨aC, 1, none⟩ (.int .i64 ((rd_T50 l0 aA).f1))).setCell ⟨aC, 2, none⟩ (.string ((rd_T50 l0 aA).f2))).setCell ⟨aC, 3, none⟩ (.string ((rd_T50 l0 aA).f3))).setCell ⟨aC, 4, none⟩ (.int .i64 ((rd_T50 l0 aA).f4))).setCell ⟨aC, 5, none⟩ (.int .i64 ((rd_T50 l0 aA).f5))).setCell ⟨aC, 6, none⟩ (.int .i64 ((rd_T50 l0 aA).f6))).setCell ⟨aC, 7, none⟩ (.int .i64 ((rd_T50 l0 aA).f7))).setCell ⟨aC, 8, none⟩ (.int .i64 ((rd_T50 l0 aA).f8))).setCell ⟨aC, 9, none⟩ (.int .i64 ((rd_T50 l0 aA).f9.f0))).setCell ⟨aC, 10, none⟩ (.slice aE ((rd_T50 l0 aA).f9.f1).length aF)) = dO
        have n0_ : Aside0 (dO.heap[aC]? = some (.cells #[.int .i64 ((rd_T50 l0 aA).f0), .int .i64 ((rd_T50 l0 aA).f1), .string ((rd_T50 l0 aA).f2), .string ((rd_T50 l0 aA).f3), .int .i64 ((rd_T50 l0 aA).f4), .int .i64 ((rd_T50 l0 aA).f5), .int .i64 ((rd_T50 l0 aA).f6), .int .i64 ((rd_T50 l0 aA).f7), .int .i64 ((rd_T50 l0 aA).f8), .int .i64 ((rd_T50 l0 aA).f9.f0), .slice aE ((rd_T50 l0 aA).f9.f1).length aF] 50 (0, 0))) := ⟨by rw [← hq_]; exact P11 aB⟩
        have n1_ : Aside0 (Below w.heap.size w dO) := ⟨by rw [← hq_]; exact K1 HB aI.out⟩
        clear hq_
        (try clear aB)
        (try clear HB)
        have aB := n0_
        have HB := n1_
        clear n0_ n1_
        replace aB := am (blk_drew aB.out)
        replace HB := am (below_drew1 HB.out)
        refine start_ (n := 26) (S := fun w' => de11 w' aC (.int .i64 ((rd_T50 l0 aA).f0)) (.int .i64 ((rd_T50 l0 aA).f1)) (.string ((rd_T50 l0 aA).f2)) (.string ((rd_T50 l0 aA).f3)) (.int .i64 ((rd_T50 l0 aA).f4)) (.int .i64 ((rd_T50 l0 aA).f5)) (.int .i64 ((rd_T50 l0 aA).f6)) (.int .i64 ((rd_T50 l0 aA).f7)) (.int .i64 ((rd_T50 l0 aA).f8)) (.int .i64 ((rd_T50 l0 aA).f9.f0)) (.slice aE ((rd_T50 l0 aA).f9.f1).length aF)) (ds := []) (tf 0 26) (by kernel_rfl) rfl rfl ⟨z0 _ aB.out, z1 _ aB.out, z2 _ aB.out, z3 _ aB.out, z4 _ aB.out, z5 _ aB.out, z6 _ aB.out, z7 _ aB.out, z8 _ aB.out, z9 _ aB.out, z10 _ aB.out⟩ (fun aH => ?_); refine with_tabW impl_ascending_tunOf.tab4 impl_ascending_tunOf.bits4 (fun aD cC => ?_)
        generalize dO.drew = eG at aB HB aH ⊢
        refine tk 0 (some 16) (tf 1 25) (take_ofW aD.out cC.out (by kernel_rfl)) aH ?_
        refine one_ (i := 1) (N := some 17) (tf 2 24) rfl rfl (one_of aD.out (by kernel_rfl)) (by decide) (fun K hK => ?_)
        refine goes_ Tryz.func75 (by kernel_rfl) rfl #[.agg #[.int .i64 ((rd_T50 l0 aA).f0), .int .i64 ((rd_T50 l0 aA).f1), .string ((rd_T50 l0 aA).f2), .string ((rd_T50 l0 aA).f3), .int .i64 ((rd_T50 l0 aA).f4), .int .i64 ((rd_T50 l0 aA).f5), .int .i64 ((rd_T50 l0 aA).f6), .int .i64 ((rd_T50 l0 aA).f7), .int .i64 ((rd_T50 l0 aA).f8), .int .i64 ((rd_T50 l0 aA).f9.f0), .slice aE ((rd_T50 l0 aA).f9.f1).length aF]] (by rfl) rfl rfl MT ?_
        with_reducible refine (impl_SaOk.calls k1 ((rd_T50 l0 aA).f0) ((rd_T50 l0 aA).f1) ((rd_T50 l0 aA).f2) ((rd_T50 l0 aA).f3) ((rd_T50 l0 aA).f4) ((rd_T50 l0 aA).f5) ((rd_T50 l0 aA).f6) ((rd_T50 l0 aA).f7) ((rd_T50 l0 aA).f8) ((rd_T50 l0 aA).f9.f0) _ _ ((rd_T50 l0 aA).f9.f1) false _ ?_ ?_ cO.out).mono ?_
        exact KD aJ HB
        exact aK.out
        rintro e eH ⟨rfl, hb⟩
        refine ⟨_, rfl, ?_⟩
        replace aB := am (BB aB hb)
        replace HB := bl (K1 HB aI.out) hb
        (try clear hb)
        (try clear hb2)
        (try clear hk)
        (try clear hi)
        refine hK.out _ _ ⟨z0 _ aB.out, z1 _ aB.out, z2 _ aB.out, z3 _ aB.out, z4 _ aB.out, z5 _ aB.out, z6 _ aB.out, z7 _ aB.out, z8 _ aB.out, z9 _ aB.out, z10 _ aB.out⟩ (fun aH => ?_)
        clear hK K
        refine nm (some 17) ?_
        refine pv aD 2 18 (tf 3 23) ?_
        refine pv aD 3 19 (tf 4 22) ?_
        refine pw aD 4 20 (tf 5 21) ?_
        refine pw aD 5 21 (tf 6 20) ?_
        refine pw aD 6 22 (tf 7 19) ?_
        refine pw aD 7 23 (tf 8 18) ?_
        refine pv aD 8 24 (tf 9 17) ?_
        refine pv aD 9 25 (tf 10 16) ?_
        refine pw aD 10 26 (tf 11 15) ?_
        refine pw aD 11 27 (tf 12 14) ?_
        refine pw aD 12 28 (tf 13 13) ?_
        refine pw aD 13 29 (tf 14 12) ?_
        refine pw aD 14 30 (tf 15 11) ?_
        refine pw aD 15 31 (tf 16 10) ?_
        refine pw aD 16 32 (tf 17 9) ?_
        refine pw aD 17 33 (tf 18 8) ?_
        refine pw aD 18 34 (tf 19 7) ?_
        refine pw aD 19 35 (tf 20 6) ?_
        refine pw aD 20 36 (tf 21 5) ?_
        refine pw aD 21 37 (tf 22 4) ?_
        refine pw aD 22 38 (tf 23 3) ?_
        refine pw aD 23 39 (tf 24 2) ?_
        refine pw aD 24 40 (tf 25 1) ?_
        refine pv aD 25 41 (tf 26 0) ?_
        refine done_ (done_of aD.out (by kernel_rfl)) ?_
        try go_wp2
        go_meet
        case rel => exact ⟨_, (true), (by first | rfl | (simp; done) | (simp [*]; done)), H', ⟨by have := HK1.out; first | omega | exact Nat.le_refl _⟩, ⟨KB aB⟩, ⟨K1 HB aI.out⟩⟩
      case rest =>
       clear cX
       try clear c1
       try clear p2
       try clear c4
       try clear c7
       try clear eI
       try clear cP
       try clear cG
       try clear c16b0
       try clear cQ
       try clear cR
       obtain ⟨kq, bZ, rfl, HA, HJ6, aB, HB⟩ := hcut
       cases kq with
       | zero => exact absurd HA.out (by simp [impl_ascending_tunOf.j1])
       | succ kj6 =>
        have H := HA.out
        clear HA
        simp only [impl_ascending_tunOf.j1] at H
        by_cases cW : bZ = true
        ·subst cW
         have H1 := pf H
         clear H
         have H := H1
         clear H1
         obtain rfl := sj H
         go_wp2
         go_ret
         exact ⟨ER, K1 HB aI.out⟩
        ·replace cW := Bool.eq_false_iff.mpr cW
         subst cW
         have H1 := nf H
         clear H
         have H := H1
         clear H1
         have H' := Aside0.mk H
         clear H
         go_wp2
         go_roundg kj6
         case measure => have := HK1.out; have := HJ6.out; omega
         case rel => exact ⟨(wrap64 (aA + 1)), (by first | rfl | (simp; done) | (simp [*]; done)), H', ⟨by have := HK1.out; have := HJ6.out; omega⟩, ⟨K1 HB aI.out⟩⟩
     ·rw [if_neg c6] at H
      exact absurd H (by simp)
    ·rw [if_neg c5] at H
     exact absurd H (by simp)
   ·rw [if_neg c4] at H
    have c4b0 : decide (aA < (l0.length : Int)) = false := decide_eq_false c4
    clear c4
    obtain rfl := sj H
    go_wp2
    go_ret
    exact ⟨ER, KL HB⟩
def impl_spiOf.f (a0_0 : Int) (a0_1 : Int) (a0_2 : ByteArray) (a0_3 : ByteArray) (a0_4 : Int) (a0_5 : Int) (a0_6 : Int) (a0_7 : Int) (a0_8 : Int) (a0_9 : Int) (l0_10 : List Int) : Option (Int) := some a0_0
theorem impl_spiOf.calls (aF : Int) (aG : Int) (aH : ByteArray) (aI : ByteArray) (aJ : Int) (aK : Int) (aL : Int) (aM : Int) (aN : Int) (aO : Int) (aB : Option Addr) (aC : Nat) (aA : List Int) (r : Int) (w : World) (aD : Kd.C (Kd.int .i64) w aB aA.length aA) (aE : aA.length ≤ aC) (h : impl_spiOf.f aF aG aH aI aJ aK aL aM aN aO aA = some r) :
  Calls Tryz.prog 48 #[.agg #[.int .i64 aF, .int .i64 aG, .string aH, .string aI, .int .i64 aJ, .int .i64 aK, .int .i64 aL, .int .i64 aM, .int .i64 aN, .int .i64 aO, .slice aB aA.length aC]] w fun e w' => e = .returned (.int .i64 r) ∧ Below w.heap.size w w' := by
 have bI := Tryz.underlying50
 have aU := Aside0.mk aD
 have aV := Aside0.mk aE
 clear aD aE
 have HB := am (Below.refl w.heap.size w)
 have H : (some aF) = some r := h
 clear h
 obtain rfl := sj H
 go_enter Tryz.func48, Tryz.ntmps48
 go_wp2_with (first | ((with_reducible refine gate_dst (N := 1) rfl ?_); refine box_event rfl (N := 1) rfl (cs := #[.int .i64 aF, .int .i64 aG, .string aH, .string aI, .int .i64 aJ, .int .i64 aK, .int .i64 aL, .int .i64 aM, .int .i64 aN, .int .i64 aO, .slice aB aA.length aC]) (t := 50) BX ?_; intro bH hg w2 aP hb; have aQ := am (aP); have aR := am (GH HB hg); have aS := aR; replace HB := bl (KL HB) hb; clear hb aP hg; have ⟨_, _, _, _, _, _, _, _, _, _, _, _⟩ := y11 w2 aQ.out))
 go_ret
 exact ⟨ER, K1 HB aS.out⟩
mutual
def impl_ascending_spiOf.l0 : Nat → List (S50) → Int → List (S50) → Int → Int → Option (Bool)
 | 0, _, _, _, _, _ => none
 | k + 1, x0, x1, x9, x10, x11 => if x11 < x10 then (if 0 ≤ x11 then (if x11 < (x9.length : Int) then ((impl_SaOk.f k ((rd_T50 x9 x11).f0) ((rd_T50 x9 x11).f1) ((rd_T50 x9 x11).f2) ((rd_T50 x9 x11).f3) ((rd_T50 x9 x11).f4) ((rd_T50 x9 x11).f5) ((rd_T50 x9 x11).f6) ((rd_T50 x9 x11).f7) ((rd_T50 x9 x11).f8) ((rd_T50 x9 x11).f9.f0) ((rd_T50 x9 x11).f9.f1)).bind fun t103 => (if t103 = true then (if ((rd_T50 x9 x11).f4) > x1 then (impl_ascending_spiOf.j1 k x0 x1 x9 x10 x11 true) else (if x11 > 0 then (if 0 ≤ (wrap64 (x11 - 1)) then (if (wrap64 (x11 - 1)) < (x0.length : Int) then ((impl_spiOf.f ((rd_T50 x0 (wrap64 (x11 - 1))).f0) ((rd_T50 x0 (wrap64 (x11 - 1))).f1) ((rd_T50 x0 (wrap64 (x11 - 1))).f2) ((rd_T50 x0 (wrap64 (x11 - 1))).f3) ((rd_T50 x0 (wrap64 (x11 - 1))).f4) ((rd_T50 x0 (wrap64 (x11 - 1))).f5) ((rd_T50 x0 (wrap64 (x11 - 1))).f6) ((rd_T50 x0 (wrap64 (x11 - 1))).f7) ((rd_T50 x0 (wrap64 (x11 - 1))).f8) ((rd_T50 x0 (wrap64 (x11 - 1))).f9.f0) ((rd_T50 x0 (wrap64 (x11 - 1))).f9.f1)).bind fun t105 => ((impl_spiOf.f ((rd_T50 x9 x11).f0) ((rd_T50 x9 x11).f1) ((rd_T50 x9 x11).f2) ((rd_T50 x9 x11).f3) ((rd_T50 x9 x11).f4) ((rd_T50 x9 x11).f5) ((rd_T50 x9 x11).f6) ((rd_T50 x9 x11).f7) ((rd_T50 x9 x11).f8) ((rd_T50 x9 x11).f9.f0) ((rd_T50 x9 x11).f9.f1)).bind fun t106 => (impl_ascending_spiOf.j1 k x0 x1 x9 x10 x11 (decide (t105 ≥ t106))))) else (none)) else (none)) else (impl_ascending_spiOf.j1 k x0 x1 x9 x10 x11 false))) else (impl_ascending_spiOf.j1 k x0 x1 x9 x10 x11 true))) else (none)) else (none)) else (some true)
def impl_ascending_spiOf.j1 : Nat → List (S50) → Int → List (S50) → Int → Int → Bool → Option (Bool)
 | 0, _, _, _, _, _, _ => none
 | k + 1, x0, x1, x9, x10, x11, x41 => if x41 = true then (some false) else (impl_ascending_spiOf.l0 k x0 x1 x9 x10 (wrap64 (x11 + 1)))
end
def impl_ascending_spiOf.f (k : Nat) (l0 : List (S50)) (a1 : Int)  : Option (Bool) := impl_ascending_spiOf.l0 k l0 a1 l0 (l0.length : Int) 0
def impl_ascending_spiOf.T4 : Bool × List (List Nat × List Nat) := (true, [([], []), ([0], [0]), ([1], [1]), ([2, 1], [2]), ([3], [3]), ([4, 3], [3, 4]), ([3], [3]), ([5, 6, 3], [3, 5, 6]), ([3, 7], [3, 7]), ([8, 3], [8]), ([9], [9]), ([10, 9], [9, 10]), ([11, 9, 9], [9, 11]), ([12], [12]), ([12], [12]), ([12], [12]), ([15, 12], [12, 15]), ([14, 16, 12], [12, 14, 16]), ([17, 12], [12, 17]), ([13, 18, 12, 12], [12, 13, 18]), ([12], [12]), ([12], [12]), ([20, 21, 19, 12], [12, 20, 21]), ([19, 22, 12], [12, 19, 22]), ([12, 23, 9], [9, 12, 23]), ([9, 24], [9, 24])])
def impl_ascending_spiOf.B4 : List Nat := [0, 1, 3, 7, 15, 31, 15, 127, 255, 511, 1023, 2047, 4095, 8191, 8191, 8191, 40959, 122879, 253951, 524287, 8191, 8191, 4194303, 8388607, 16777215, 33554431]
theorem impl_ascending_spiOf.tab4 : rtab .any (opsOf Tryz.f46 4) = impl_ascending_spiOf.T4 := by kernel_rfl
theorem impl_ascending_spiOf.bits4 : waitsOk impl_ascending_spiOf.T4.2 impl_ascending_spiOf.B4 = true := by kernel_rfl
theorem impl_ascending_spiOf.calls (k : Nat) (A0 : Option Addr) (c0 : Nat) (l0 : List (S50)) (a1 : Int)  (r : Bool) (w : World) (dP : Kd.C k50 w A0 l0.length l0) (dQ : l0.length ≤ c0) (h : impl_ascending_spiOf.f k l0 a1 = some r) :
  Calls Tryz.prog 46 #[.slice A0 l0.length c0, .int .i64 a1, .func (.func 48) #[] #[]] w fun e w' => e = .returned (.bool r) ∧ Below w.heap.size w w' := by
 have dS := Tryz.underlying50
 have dR := Aside0.mk dP
 have dX := Aside0.mk dQ
 clear dP dQ
 have HB := am (Below.refl w.heap.size w)
 have H : (impl_ascending_spiOf.l0 k l0 a1 l0 (l0.length : Int) 0) = some r := h
 clear h
 have H' := Aside0.mk H
 clear H
 go_enter Tryz.func46, Tryz.ntmps46
 go_wp2
 go_loopg [11] k (fun kq dT w' => ∃ (aA : Int), dT = .int .i64 aA ∧ Aside0 (impl_ascending_spiOf.l0 kq l0 a1 l0 (l0.length : Int) aA = some r) ∧ Aside0 (kq ≤ k) ∧ Aside0 (Below w.heap.size w w'))
 case atStart => exact ⟨(0), (by first | rfl | (simp; done) | (simp [*]; done)), H', ⟨Nat.le_refl _⟩, ⟨KL HB⟩⟩
 case round =>
  clear H'
  try clear p2
  obtain ⟨aA, rfl, HA, HK1, HB⟩ := hrel
  cases gk with
  | zero => exact absurd HA.out (by simp [impl_ascending_spiOf.l0])
  | succ k1 =>
   have H := HA.out
   clear HA
   simp only [impl_ascending_spiOf.l0] at H
   by_cases c4 : aA < (l0.length : Int)
   ·rw [if_pos c4] at H
    have c4b0 : decide (aA < (l0.length : Int)) = true := decide_eq_true c4
    clear c4
    by_cases c5 : 0 ≤ aA
    ·rw [if_pos c5] at H
     have c5b0 : decide (0 ≤ aA) = true := decide_eq_true c5
     clear c5
     by_cases c6 : aA < (l0.length : Int)
     ·rw [if_pos c6] at H
      have c6b0 : decide (aA < (l0.length : Int)) = true := decide_eq_true c6
      clear c6
      have cX := Aside0.mk H
      clear H
      have cE : 0 ≤ (aA : Int) := OD
      have cF : aA < (l0.length : Int) := OD
      obtain ⟨aG, aE, aF, cY, bP, bQ, bR, bS, bT, bU, bV, bW, bX, bY, bI, bJ, bK⟩ := at_T50 dR.out aA cE cF
      cases cY
      replace bP := CX HB.out bP
      replace bQ := CX HB.out bQ
      replace bR := CX HB.out bR
      replace bS := CX HB.out bS
      replace bT := CX HB.out bT
      replace bU := CX HB.out bU
      replace bV := CX HB.out bV
      replace bW := CX HB.out bW
      replace bX := CX HB.out bX
      replace bY := CX HB.out bY
      replace bI := CX HB.out bI
      have aJ := Aside0.mk bK
      have aK := Aside0.mk bJ
      clear bK bJ
      replace cE := eq_true cE
      replace cF := eq_true cF
      go_upto_region 4 with (first | ((with_reducible refine gate_dst (N := 8) rfl ?_); refine box_event rfl (N := 8) rfl (cs := #[.int .i64 0, .int .i64 0, .string (⟨#[]⟩ : ByteArray), .string (⟨#[]⟩ : ByteArray), .int .i64 0, .int .i64 0, .int .i64 0, .int .i64 0, .int .i64 0, .int .i64 0, .slice none 0 0]) (t := 50) BX ?_; intro aC hg w8 cK hb; have aB := am (cK); have cL := am (GH HB hg); have aI := cL; replace HB := bl (KL HB) hb; clear hb cK hg; have ⟨_, _, _, _, _, _, _, _, _, _, _, _⟩ := y11 w8 aB.out))
      (try simp only [Act.put, List.setIfInBounds_toArray, List.set_cons_zero, List.set_cons_succ])
      go_cut [41] (fun dU wc => ∃ (kq : Nat) (bZ : Bool), dU = .bool bZ ∧ Aside0 (impl_ascending_spiOf.j1 kq l0 a1 l0 (l0.length : Int) aA bZ = some r) ∧ Aside0 (kq ≤ k1) ∧ Aside0 (wc.heap[aC]? = some (.cells #[.int .i64 ((rd_T50 l0 aA).f0), .int .i64 ((rd_T50 l0 aA).f1), .string ((rd_T50 l0 aA).f2), .string ((rd_T50 l0 aA).f3), .int .i64 ((rd_T50 l0 aA).f4), .int .i64 ((rd_T50 l0 aA).f5), .int .i64 ((rd_T50 l0 aA).f6), .int .i64 ((rd_T50 l0 aA).f7), .int .i64 ((rd_T50 l0 aA).f8), .int .i64 ((rd_T50 l0 aA).f9.f0), (.slice aE ((rd_T50 l0 aA).f9.f1).length aF)] 50 (0, 0))) ∧ Aside0 (Below w.heap.size w wc))
      case first =>
       have H := cX.out
       clear cX
       replace H := bm H
       obtain ⟨cM, cN, H⟩ := H
       replace H : (if cM = true then (if ((rd_T50 l0 aA).f4) > a1 then (impl_ascending_spiOf.j1 k1 l0 a1 l0 (l0.length : Int) aA true) else (if aA > 0 then (if 0 ≤ (wrap64 (aA - 1)) then (if (wrap64 (aA - 1)) < (l0.length : Int) then ((impl_spiOf.f ((rd_T50 l0 (wrap64 (aA - 1))).f0) ((rd_T50 l0 (wrap64 (aA - 1))).f1) ((rd_T50 l0 (wrap64 (aA - 1))).f2) ((rd_T50 l0 (wrap64 (aA - 1))).f3) ((rd_T50 l0 (wrap64 (aA - 1))).f4) ((rd_T50 l0 (wrap64 (aA - 1))).f5) ((rd_T50 l0 (wrap64 (aA - 1))).f6) ((rd_T50 l0 (wrap64 (aA - 1))).f7) ((rd_T50 l0 (wrap64 (aA - 1))).f8) ((rd_T50 l0 (wrap64 (aA - 1))).f9.f0) ((rd_T50 l0 (wrap64 (aA - 1))).f9.f1)).bind fun bL => ((impl_spiOf.f ((rd_T50 l0 aA).f0) ((rd_T50 l0 aA).f1) ((rd_T50 l0 aA).f2) ((rd_T50 l0 aA).f3) ((rd_T50 l0 aA).f4) ((rd_T50 l0 aA).f5) ((rd_T50 l0 aA).f6) ((rd_T50 l0 aA).f7) ((rd_T50 l0 aA).f8) ((rd_T50 l0 aA).f9.f0) ((rd_T50 l0 aA).f9.f1)).bind fun bH => (impl_ascending_spiOf.j1 k1 l0 a1 l0 (l0.length : Int) aA (decide (bL ≥ bH))))) else (none)) else (none)) else (impl_ascending_spiOf.j1 k1 l0 a1 l0 (l0.length : Int) aA false))) else (impl_ascending_spiOf.j1 k1 l0 a1 l0 (l0.length : Int) aA true)) = some r := H
       have cO := Aside0.mk cN
       clear cN
       by_cases cP : cM = true
       ·subst cP
        have H1 := pf H
        clear H
        have H := H1
        clear H1
        by_cases cJ : ((rd_T50 l0 aA).f4) > a1
        ·rw [if_pos cJ] at H
         have c12b0 : decide (a1 < ((rd_T50 l0 aA).f4)) = true := decide_eq_true cJ
         clear cJ
         (first | rw [c12b0] | (simp only [i64_w, i32_w]; rw [c12b0]) | skip)
         have H' := Aside0.mk H
         clear H
         try go_wp2
         generalize hq_ : (((((((((((w8.setCell ⟨aC, 0, none⟩ (.int .i64 ((rd_T50 l0 aA).f0))).setCell ⟨aC, 1, none⟩ (.int .i64 ((rd_T50 l0 aA).f1))).setCell ⟨aC, 2, none⟩ (.string ((rd_T50 l0 aA).f2))).setCell ⟨aC, 3, none⟩ (.string ((rd_T50 l0 aA).f3))).setCell ⟨aC, 4, none⟩ (.int .i64 ((rd_T50 l0 aA).f4))).setCell ⟨aC, 5, none⟩ (.int .i64 ((rd_T50 l0 aA).f5))).setCell ⟨aC, 6, none⟩ (.int .i64 ((rd_T50 l0 aA).f6))).setCell ⟨aC, 7, none⟩ (.int .i64 ((rd_T50 l0 aA).f7))).setCell ⟨aC, 8, none⟩ (.int .i64 ((rd_T50 l0 aA).f8))).setCell ⟨aC, 9, none⟩ (.int .i64 ((rd_T50 l0 aA).f9.f0))).setCell ⟨aC, 10, none⟩ (.slice aE ((rd_T50 l0 aA).f9.f1).length aF)) = dK
         have n0_ : Aside0 (dK.heap[aC]? = some (.cells #[.int .i64 ((rd_T50 l0 aA).f0), .int .i64 ((rd_T50 l0 aA).f1), .string ((rd_T50 l0 aA).f2), .string ((rd_T50 l0 aA).f3), .int .i64 ((rd_T50 l0 aA).f4), .int .i64 ((rd_T50 l0 aA).f5), .int .i64 ((rd_T50 l0 aA).f6), .int .i64 ((rd_T50 l0 aA).f7), .int .i64 ((rd_T50 l0 aA).f8), .int .i64 ((rd_T50 l0 aA).f9.f0), .slice aE ((rd_T50 l0 aA).f9.f1).length aF] 50 (0, 0))) := ⟨by rw [← hq_]; exact P11 aB⟩
         have n1_ : Aside0 (Below w.heap.size w dK) := ⟨by rw [← hq_]; exact K1 HB aI.out⟩
         clear hq_
         (try clear aB)
         (try clear HB)
         have aB := n0_
         have HB := n1_
         clear n0_ n1_
         replace aB := am (blk_drew aB.out)
         replace HB := am (below_drew1 HB.out)
         refine start_ (n := 26) (S := fun w' => de11 w' aC (.int .i64 ((rd_T50 l0 aA).f0)) (.int .i64 ((rd_T50 l0 aA).f1)) (.string ((rd_T50 l0 aA).f2)) (.string ((rd_T50 l0 aA).f3)) (.int .i64 ((rd_T50 l0 aA).f4)) (.int .i64 ((rd_T50 l0 aA).f5)) (.int .i64 ((rd_T50 l0 aA).f6)) (.int .i64 ((rd_T50 l0 aA).f7)) (.int .i64 ((rd_T50 l0 aA).f8)) (.int .i64 ((rd_T50 l0 aA).f9.f0)) (.slice aE ((rd_T50 l0 aA).f9.f1).length aF)) (ds := []) (tf 0 26) (by kernel_rfl) rfl rfl ⟨z0 _ aB.out, z1 _ aB.out, z2 _ aB.out, z3 _ aB.out, z4 _ aB.out, z5 _ aB.out, z6 _ aB.out, z7 _ aB.out, z8 _ aB.out, z9 _ aB.out, z10 _ aB.out⟩ (fun aH => ?_); refine with_tabW impl_ascending_spiOf.tab4 impl_ascending_spiOf.bits4 (fun aD cC => ?_)
         generalize dK.drew = dY at aB HB aH ⊢
         refine tk 0 (some 16) (tf 1 25) (take_ofW aD.out cC.out (by kernel_rfl)) aH ?_
         refine one_ (i := 1) (N := some 17) (tf 2 24) rfl rfl (one_of aD.out (by kernel_rfl)) (by decide) (fun K hK => ?_)
         refine goes_ Tryz.func75 (by kernel_rfl) rfl #[.agg #[.int .i64 ((rd_T50 l0 aA).f0), .int .i64 ((rd_T50 l0 aA).f1), .string ((rd_T50 l0 aA).f2), .string ((rd_T50 l0 aA).f3), .int .i64 ((rd_T50 l0 aA).f4), .int .i64 ((rd_T50 l0 aA).f5), .int .i64 ((rd_T50 l0 aA).f6), .int .i64 ((rd_T50 l0 aA).f7), .int .i64 ((rd_T50 l0 aA).f8), .int .i64 ((rd_T50 l0 aA).f9.f0), .slice aE ((rd_T50 l0 aA).f9.f1).length aF]] (by rfl) rfl rfl MT ?_
         with_reducible refine (impl_SaOk.calls k1 ((rd_T50 l0 aA).f0) ((rd_T50 l0 aA).f1) ((rd_T50 l0 aA).f2) ((rd_T50 l0 aA).f3) ((rd_T50 l0 aA).f4) ((rd_T50 l0 aA).f5) ((rd_T50 l0 aA).f6) ((rd_T50 l0 aA).f7) ((rd_T50 l0 aA).f8) ((rd_T50 l0 aA).f9.f0) _ _ ((rd_T50 l0 aA).f9.f1) true _ ?_ ?_ cO.out).mono ?_
         exact KD aJ HB
         exact aK.out
         rintro e dZ ⟨rfl, hb⟩
         refine ⟨_, rfl, ?_⟩
         replace aB := am (BB aB hb)
         replace HB := bl (K1 HB aI.out) hb
         (try clear hb)
         (try clear hb2)
         (try clear hk)
         (try clear hi)
         refine hK.out _ _ ⟨z0 _ aB.out, z1 _ aB.out, z2 _ aB.out, z3 _ aB.out, z4 _ aB.out, z5 _ aB.out, z6 _ aB.out, z7 _ aB.out, z8 _ aB.out, z9 _ aB.out, z10 _ aB.out⟩ (fun aH => ?_)
         clear hK K
         refine nm (some 17) ?_
         refine pv aD 2 18 (tf 3 23) ?_
         refine pv aD 3 19 (tf 4 22) ?_
         refine pv aD 4 20 (tf 5 21) ?_
         refine pv aD 6 22 (tr [5, 1, 1, 19]) ?_
         refine tk 5 (some 21) (tf 7 19) (take_ofW aD.out cC.out (by kernel_rfl)) aH ?_
         refine pv aD 7 23 (tf 8 18) ?_
         refine pv aD 8 24 (tf 9 17) ?_
         refine pv aD 9 25 (tf 10 16) ?_
         refine pw aD 10 26 (tf 11 15) ?_
         refine pw aD 11 27 (tf 12 14) ?_
         refine pw aD 12 28 (tf 13 13) ?_
         refine pw aD 13 29 (tf 14 12) ?_
         refine pw aD 14 30 (tf 15 11) ?_
         refine pw aD 15 31 (tf 16 10) ?_
         refine pw aD 16 32 (tf 17 9) ?_
         refine pw aD 17 33 (tf 18 8) ?_
         refine pw aD 18 34 (tf 19 7) ?_
         refine pw aD 19 35 (tf 20 6) ?_
         refine pw aD 20 36 (tf 21 5) ?_
         refine pw aD 21 37 (tf 22 4) ?_
         refine pw aD 22 38 (tf 23 3) ?_
         refine pw aD 23 39 (tf 24 2) ?_
         refine pw aD 24 40 (tf 25 1) ?_
         refine pv aD 25 41 (tf 26 0) ?_
         refine done_ (done_of aD.out (by kernel_rfl)) ?_
         try go_wp2
         go_meet
         case rel => exact ⟨_, (true), (by first | rfl | (simp; done) | (simp [*]; done)), H', ⟨by have := HK1.out; first | omega | exact Nat.le_refl _⟩, ⟨KB aB⟩, ⟨K1 HB aI.out⟩⟩
        ·rw [if_neg cJ] at H
         have c12b0 : decide (a1 < ((rd_T50 l0 aA).f4)) = false := decide_eq_false cJ
         clear cJ
         (first | rw [c12b0] | (simp only [i64_w, i32_w]; rw [c12b0]) | skip)
         by_cases cG : aA > 0
         ·rw [if_pos cG] at H
          have c16b0 : decide (0 < aA) = true := decide_eq_true cG
          clear cG
          obtain ⟨ji17, hji17⟩ : ∃ j_ : Int, (wrap64 (aA - 1)) = j_ := ⟨_, rfl⟩
          replace H : (if 0 ≤ (ji17) then (if (ji17) < (l0.length : Int) then ((impl_spiOf.f ((rd_T50 l0 (ji17)).f0) ((rd_T50 l0 (ji17)).f1) ((rd_T50 l0 (ji17)).f2) ((rd_T50 l0 (ji17)).f3) ((rd_T50 l0 (ji17)).f4) ((rd_T50 l0 (ji17)).f5) ((rd_T50 l0 (ji17)).f6) ((rd_T50 l0 (ji17)).f7) ((rd_T50 l0 (ji17)).f8) ((rd_T50 l0 (ji17)).f9.f0) ((rd_T50 l0 (ji17)).f9.f1)).bind fun bL => ((impl_spiOf.f ((rd_T50 l0 aA).f0) ((rd_T50 l0 aA).f1) ((rd_T50 l0 aA).f2) ((rd_T50 l0 aA).f3) ((rd_T50 l0 aA).f4) ((rd_T50 l0 aA).f5) ((rd_T50 l0 aA).f6) ((rd_T50 l0 aA).f7) ((rd_T50 l0 aA).f8) ((rd_T50 l0 aA).f9.f0) ((rd_T50 l0 aA).f9.f1)).bind fun bH => (impl_ascending_spiOf.j1 k1 l0 a1 l0 (l0.length : Int) aA (decide (bL ≥ bH))))) else (none)) else (none)) = some r := by first | (rw [hji17] at H; exact H) | (simp only [hji17] at H ⊢; exact H)
          (try rw [hji17] at cO)
          have hji17w : (IntKind.i64.wrap (aA - 1)) = ji17 := (i64_w _).trans hji17
          by_cases cQ : 0 ≤ (ji17)
          ·rw [if_pos cQ] at H
           have c18b0 : decide (0 ≤ (ji17)) = true := decide_eq_true cQ
           clear cQ
           by_cases cR : (ji17) < (l0.length : Int)
           ·rw [if_pos cR] at H
            have c19b0 : decide ((ji17) < (l0.length : Int)) = true := decide_eq_true cR
            clear cR
            replace H := bm H
            obtain ⟨bL, cS, H⟩ := H
            replace H : ((impl_spiOf.f ((rd_T50 l0 aA).f0) ((rd_T50 l0 aA).f1) ((rd_T50 l0 aA).f2) ((rd_T50 l0 aA).f3) ((rd_T50 l0 aA).f4) ((rd_T50 l0 aA).f5) ((rd_T50 l0 aA).f6) ((rd_T50 l0 aA).f7) ((rd_T50 l0 aA).f8) ((rd_T50 l0 aA).f9.f0) ((rd_T50 l0 aA).f9.f1)).bind fun bH => (impl_ascending_spiOf.j1 k1 l0 a1 l0 (l0.length : Int) aA (decide (bL ≥ bH)))) = some r := H
            have dV := Aside0.mk cS
            clear cS
            replace H := bm H
            obtain ⟨bH, cT, H⟩ := H
            replace H : (impl_ascending_spiOf.j1 k1 l0 a1 l0 (l0.length : Int) aA (decide (bL ≥ bH))) = some r := H
            have dW := Aside0.mk cT
            clear cT
            have H' := Aside0.mk H
            clear H
            try go_wp2
            generalize hq_ : (((((((((((w8.setCell ⟨aC, 0, none⟩ (.int .i64 ((rd_T50 l0 aA).f0))).setCell ⟨aC, 1, none⟩ (.int .i64 ((rd_T50 l0 aA).f1))).setCell ⟨aC, 2, none⟩ (.string ((rd_T50 l0 aA).f2))).setCell ⟨aC, 3, none⟩ (.string ((rd_T50 l0 aA).f3))).setCell ⟨aC, 4, none⟩ (.int .i64 ((rd_T50 l0 aA).f4))).setCell ⟨aC, 5, none⟩ (.int .i64 ((rd_T50 l0 aA).f5))).setCell ⟨aC, 6, none⟩ (.int .i64 ((rd_T50 l0 aA).f6))).setCell ⟨aC, 7, none⟩ (.int .i64 ((rd_T50 l0 aA).f7))).setCell ⟨aC, 8, none⟩ (.int .i64 ((rd_T50 l0 aA).f8))).setCell ⟨aC, 9, none⟩ (.int .i64 ((rd_T50 l0 aA).f9.f0))).setCell ⟨aC, 10, none⟩ (.slice aE ((rd_T50 l0 aA).f9.f1).length aF)) = dL
            have n0_ : Aside0 (dL.heap[aC]? = some (.cells #[.int .i64 ((rd_T50 l0 aA).f0), .int .i64 ((rd_T50 l0 aA).f1), .string ((rd_T50 l0 aA).f2), .string ((rd_T50 l0 aA).f3), .int .i64 ((rd_T50 l0 aA).f4), .int .i64 ((rd_T50 l0 aA).f5), .int .i64 ((rd_T50 l0 aA).f6), .int .i64 ((rd_T50 l0 aA).f7), .int .i64 ((rd_T50 l0 aA).f8), .int .i64 ((rd_T50 l0 aA).f9.f0), .slice aE ((rd_T50 l0 aA).f9.f1).length aF] 50 (0, 0))) := ⟨by rw [← hq_]; exact P11 aB⟩
            have n1_ : Aside0 (Below w.heap.size w dL) := ⟨by rw [← hq_]; exact K1 HB aI.out⟩
            clear hq_
            (try clear aB)
            (try clear HB)
            have aB := n0_
            have HB := n1_
            clear n0_ n1_
            replace aB := am (blk_drew aB.out)
            replace HB := am (below_drew1 HB.out)
            have cH : 0 ≤ ((ji17) : Int) := OD
            have cI : (ji17) < (l0.length : Int) := OD
            obtain ⟨cU, cA, cB, dM, aN, aO, aP, aQ, aR, aS, aT, aU, aV, aW, aL, bM, bN⟩ := at_T50 dR.out (ji17) cH cI
            have aM := aL
            have aX := aW
            have aY := aV
            have aZ := aU
            have bA := aT
            have bB := aS
            have bC := aR
            have bD := aQ
            have bE := aP
            have bF := aO
            have bG := aN
            obtain rfl : aG = cU := (by injection dM)
            replace aN := CX HB.out aN
            replace aO := CX HB.out aO
            replace aP := CX HB.out aP
            replace aQ := CX HB.out aQ
            replace aR := CX HB.out aR
            replace aS := CX HB.out aS
            replace aT := CX HB.out aT
            replace aU := CX HB.out aU
            replace aV := CX HB.out aV
            replace aW := CX HB.out aW
            replace aL := CX HB.out aL
            have bO := Aside0.mk bN
            have cD := Aside0.mk bM
            clear bN bM
            replace cH := eq_true cH
            replace cI := eq_true cI
            refine start_ (n := 26) (S := fun w' => ce11 w' aC (.int .i64 ((rd_T50 l0 aA).f0)) (.int .i64 ((rd_T50 l0 aA).f1)) (.string ((rd_T50 l0 aA).f2)) (.string ((rd_T50 l0 aA).f3)) (.int .i64 ((rd_T50 l0 aA).f4)) (.int .i64 ((rd_T50 l0 aA).f5)) (.int .i64 ((rd_T50 l0 aA).f6)) (.int .i64 ((rd_T50 l0 aA).f7)) (.int .i64 ((rd_T50 l0 aA).f8)) (.int .i64 ((rd_T50 l0 aA).f9.f0)) (.slice aE ((rd_T50 l0 aA).f9.f1).length aF) (w'.cell? (aG.add (((ji17)).toNat * 11)) = some (.int .i64 ((rd_T50 l0 (ji17)).f0)) ∧ w'.cell? ⟨(aG.add (((ji17)).toNat * 11)).block, (aG.add (((ji17)).toNat * 11)).off + 1, none⟩ = some (.int .i64 ((rd_T50 l0 (ji17)).f1)) ∧ w'.cell? ⟨(aG.add (((ji17)).toNat * 11)).block, (aG.add (((ji17)).toNat * 11)).off + 2, none⟩ = some (.string ((rd_T50 l0 (ji17)).f2)) ∧ w'.cell? ⟨(aG.add (((ji17)).toNat * 11)).block, (aG.add (((ji17)).toNat * 11)).off + 3, none⟩ = some (.string ((rd_T50 l0 (ji17)).f3)) ∧ w'.cell? ⟨(aG.add (((ji17)).toNat * 11)).block, (aG.add (((ji17)).toNat * 11)).off + 4, none⟩ = some (.int .i64 ((rd_T50 l0 (ji17)).f4)) ∧ w'.cell? ⟨(aG.add (((ji17)).toNat * 11)).block, (aG.add (((ji17)).toNat * 11)).off + 5, none⟩ = some (.int .i64 ((rd_T50 l0 (ji17)).f5)) ∧ w'.cell? ⟨(aG.add (((ji17)).toNat * 11)).block, (aG.add (((ji17)).toNat * 11)).off + 6, none⟩ = some (.int .i64 ((rd_T50 l0 (ji17)).f6)) ∧ w'.cell? ⟨(aG.add (((ji17)).toNat * 11)).block, (aG.add (((ji17)).toNat * 11)).off + 7, none⟩ = some (.int .i64 ((rd_T50 l0 (ji17)).f7)) ∧ w'.cell? ⟨(aG.add (((ji17)).toNat * 11)).block, (aG.add (((ji17)).toNat * 11)).off + 8, none⟩ = some (.int .i64 ((rd_T50 l0 (ji17)).f8)) ∧ w'.cell? ⟨(aG.add (((ji17)).toNat * 11)).block, (aG.add (((ji17)).toNat * 11)).off + 9, none⟩ = some (.int .i64 ((rd_T50 l0 (ji17)).f9.f0)) ∧ w'.cell? ⟨(aG.add (((ji17)).toNat * 11)).block, (aG.add (((ji17)).toNat * 11)).off + 10, none⟩ = some (.slice cA ((rd_T50 l0 (ji17)).f9.f1).length cB))) (ds := []) (tf 0 26) (by kernel_rfl) rfl rfl ⟨z0 _ aB.out, z1 _ aB.out, z2 _ aB.out, z3 _ aB.out, z4 _ aB.out, z5 _ aB.out, z6 _ aB.out, z7 _ aB.out, z8 _ aB.out, z9 _ aB.out, z10 _ aB.out, (CY HB.out bG), (CY HB.out bF), (CY HB.out bE), (CY HB.out bD), (CY HB.out bC), (CY HB.out bB), (CY HB.out bA), (CY HB.out aZ), (CY HB.out aY), (CY HB.out aX), (CY HB.out aM)⟩ (fun aH => ?_); refine with_tabW impl_ascending_spiOf.tab4 impl_ascending_spiOf.bits4 (fun aD cC => ?_)
            generalize dL.drew = eA at aB HB bO aN aO aL aP aQ aR aS aT aU aV aW aH ⊢
            refine tk 0 (some 16) (tf 1 25) (take_ofW aD.out cC.out (by kernel_rfl)) aH ?_
            refine one_ (i := 1) (N := some 17) (tf 2 24) rfl rfl (one_of aD.out (by kernel_rfl)) (by decide) (fun K hK => ?_)
            refine goes_ Tryz.func75 (by kernel_rfl) rfl #[.agg #[.int .i64 ((rd_T50 l0 aA).f0), .int .i64 ((rd_T50 l0 aA).f1), .string ((rd_T50 l0 aA).f2), .string ((rd_T50 l0 aA).f3), .int .i64 ((rd_T50 l0 aA).f4), .int .i64 ((rd_T50 l0 aA).f5), .int .i64 ((rd_T50 l0 aA).f6), .int .i64 ((rd_T50 l0 aA).f7), .int .i64 ((rd_T50 l0 aA).f8), .int .i64 ((rd_T50 l0 aA).f9.f0), .slice aE ((rd_T50 l0 aA).f9.f1).length aF]] (by rfl) rfl rfl MT ?_
            with_reducible refine (impl_SaOk.calls k1 ((rd_T50 l0 aA).f0) ((rd_T50 l0 aA).f1) ((rd_T50 l0 aA).f2) ((rd_T50 l0 aA).f3) ((rd_T50 l0 aA).f4) ((rd_T50 l0 aA).f5) ((rd_T50 l0 aA).f6) ((rd_T50 l0 aA).f7) ((rd_T50 l0 aA).f8) ((rd_T50 l0 aA).f9.f0) _ _ ((rd_T50 l0 aA).f9.f1) true _ ?_ ?_ cO.out).mono ?_
            exact KD aJ HB
            exact aK.out
            rintro e eB ⟨rfl, hb⟩
            refine ⟨_, rfl, ?_⟩
            replace aB := am (BB aB hb)
            replace HB := bl (K1 HB aI.out) hb
            (try clear hb)
            (try clear hb2)
            (try clear hk)
            (try clear hi)
            refine hK.out _ _ ⟨z0 _ aB.out, z1 _ aB.out, z2 _ aB.out, z3 _ aB.out, z4 _ aB.out, z5 _ aB.out, z6 _ aB.out, z7 _ aB.out, z8 _ aB.out, z9 _ aB.out, z10 _ aB.out, (CY HB.out bG), (CY HB.out bF), (CY HB.out bE), (CY HB.out bD), (CY HB.out bC), (CY HB.out bB), (CY HB.out bA), (CY HB.out aZ), (CY HB.out aY), (CY HB.out aX), (CY HB.out aM)⟩ (fun aH => ?_)
            clear hK K
            refine nm (some 17) ?_
            refine pv aD 2 18 (tf 3 23) ?_
            refine pv aD 3 19 (tf 4 22) ?_
            refine pv aD 4 20 (tf 5 21) ?_
            refine pv aD 6 22 (tr [5, 1, 1, 19]) ?_
            refine tk 5 (some 21) (tf 7 19) (take_ofW aD.out cC.out (by kernel_rfl)) aH ?_
            refine pv aD 7 23 (tf 8 18) ?_
            refine pv aD 8 24 (tf 9 17) ?_
            refine pv aD 9 25 (tf 10 16) ?_
            refine pv aD 10 26 (tf 11 15) ?_
            refine pv aD 11 27 (tf 12 14) ?_
            refine pv aD 12 28 (tf 13 13) ?_
            refine pv aD 13 29 (tf 14 12) ?_
            refine pv aD 14 30 (tf 15 11) ?_
            refine pv aD 15 31 (tf 16 10) ?_
            refine pv aD 16 32 (tf 17 9) ?_
            refine pv aD 17 33 (tf 18 8) ?_
            refine pv aD 20 36 (tr [18, 2, 1, 5]) ?_
            refine tk 18 (some 34) (tr [19, 1, 1, 5]) (take_ofW aD.out cC.out (by kernel_rfl)) aH ?_
            refine tk 21 (some 37) (tr [19, 1, 2, 4]) (take_ofW aD.out cC.out (by kernel_rfl)) aH ?_
            refine one_ (i := 19) (N := some 35) (tf 22 4) rfl rfl (one_of aD.out (by kernel_rfl)) (by decide) (fun K hK => ?_)
            refine goesW_ Tryz.func48 (by kernel_rfl) rfl #[.agg #[.int .i64 ((rd_T50 l0 (ji17)).f0), .int .i64 ((rd_T50 l0 (ji17)).f1), .string ((rd_T50 l0 (ji17)).f2), .string ((rd_T50 l0 (ji17)).f3), .int .i64 ((rd_T50 l0 (ji17)).f4), .int .i64 ((rd_T50 l0 (ji17)).f5), .int .i64 ((rd_T50 l0 (ji17)).f6), .int .i64 ((rd_T50 l0 (ji17)).f7), .int .i64 ((rd_T50 l0 (ji17)).f8), .int .i64 ((rd_T50 l0 (ji17)).f9.f0), .slice cA ((rd_T50 l0 (ji17)).f9.f1).length cB]] (by rfl) rfl rfl (by first | rfl | (simp [Act.eval, Act.put]; done)) (by (try simp only [List.map_toArray, List.map_cons, List.map_nil]); first | done | (simp only [hji17]; rfl) | rfl | (simp only [List.length_drop, List.length_take]; rfl)) ?_
            with_reducible refine (impl_spiOf.calls ((rd_T50 l0 (ji17)).f0) ((rd_T50 l0 (ji17)).f1) ((rd_T50 l0 (ji17)).f2) ((rd_T50 l0 (ji17)).f3) ((rd_T50 l0 (ji17)).f4) ((rd_T50 l0 (ji17)).f5) ((rd_T50 l0 (ji17)).f6) ((rd_T50 l0 (ji17)).f7) ((rd_T50 l0 (ji17)).f8) ((rd_T50 l0 (ji17)).f9.f0) _ _ ((rd_T50 l0 (ji17)).f9.f1) bL _ ?_ ?_ dV.out).mono ?_
            exact KD bO HB
            exact cD.out
            rintro e eC ⟨rfl, hb⟩
            refine ⟨_, rfl, ?_⟩
            replace aB := am (BB aB hb)
            replace HB := bl (K1 HB aI.out) hb
            (try clear hb)
            (try clear hb2)
            (try clear hk)
            (try clear hi)
            refine hK.out _ _ ⟨z0 _ aB.out, z1 _ aB.out, z2 _ aB.out, z3 _ aB.out, z4 _ aB.out, z5 _ aB.out, z6 _ aB.out, z7 _ aB.out, z8 _ aB.out, z9 _ aB.out, z10 _ aB.out, (CY HB.out bG), (CY HB.out bF), (CY HB.out bE), (CY HB.out bD), (CY HB.out bC), (CY HB.out bB), (CY HB.out bA), (CY HB.out aZ), (CY HB.out aY), (CY HB.out aX), (CY HB.out aM)⟩ (fun aH => ?_)
            clear hK K
            refine nm (some 35) ?_
            refine one_ (i := 22) (N := some 38) (tf 23 3) rfl rfl (one_of aD.out (by kernel_rfl)) (by decide) (fun K hK => ?_)
            refine goesW_ Tryz.func48 (by kernel_rfl) rfl #[.agg #[.int .i64 ((rd_T50 l0 aA).f0), .int .i64 ((rd_T50 l0 aA).f1), .string ((rd_T50 l0 aA).f2), .string ((rd_T50 l0 aA).f3), .int .i64 ((rd_T50 l0 aA).f4), .int .i64 ((rd_T50 l0 aA).f5), .int .i64 ((rd_T50 l0 aA).f6), .int .i64 ((rd_T50 l0 aA).f7), .int .i64 ((rd_T50 l0 aA).f8), .int .i64 ((rd_T50 l0 aA).f9.f0), .slice aE ((rd_T50 l0 aA).f9.f1).length aF]] (by rfl) rfl rfl (by first | rfl | (simp [Act.eval, Act.put]; done)) MT ?_
            with_reducible refine (impl_spiOf.calls ((rd_T50 l0 aA).f0) ((rd_T50 l0 aA).f1) ((rd_T50 l0 aA).f2) ((rd_T50 l0 aA).f3) ((rd_T50 l0 aA).f4) ((rd_T50 l0 aA).f5) ((rd_T50 l0 aA).f6) ((rd_T50 l0 aA).f7) ((rd_T50 l0 aA).f8) ((rd_T50 l0 aA).f9.f0) _ _ ((rd_T50 l0 aA).f9.f1) bH _ ?_ ?_ dW.out).mono ?_
            exact KD aJ HB
            exact aK.out
            rintro e eD ⟨rfl, hb⟩
            refine ⟨_, rfl, ?_⟩
            replace aB := am (BB aB hb)
            replace HB := bl (K1 HB aI.out) hb
            (try clear hb)
            (try clear hb2)
            (try clear hk)
            (try clear hi)
            refine hK.out _ _ ⟨z0 _ aB.out, z1 _ aB.out, z2 _ aB.out, z3 _ aB.out, z4 _ aB.out, z5 _ aB.out, z6 _ aB.out, z7 _ aB.out, z8 _ aB.out, z9 _ aB.out, z10 _ aB.out, (CY HB.out bG), (CY HB.out bF), (CY HB.out bE), (CY HB.out bD), (CY HB.out bC), (CY HB.out bB), (CY HB.out bA), (CY HB.out aZ), (CY HB.out aY), (CY HB.out aX), (CY HB.out aM)⟩ (fun aH => ?_)
            clear hK K
            refine nm (some 38) ?_
            refine pv aD 23 39 (tf 24 2) ?_
            refine pv aD 24 40 (tf 25 1) ?_
            refine pv aD 25 41 (tf 26 0) ?_
            refine done_ (done_of aD.out (by kernel_rfl)) ?_
            try go_wp2
            go_meet
            case rel => exact ⟨_, (decide (bL ≥ bH)), (by first | rfl | (simp; done) | (simp [*]; done)), H', ⟨by have := HK1.out; first | omega | exact Nat.le_refl _⟩, ⟨KB aB⟩, ⟨K1 HB aI.out⟩⟩
           ·rw [if_neg cR] at H
            exact absurd H (by simp)
          ·rw [if_neg cQ] at H
           exact absurd H (by simp)
         ·rw [if_neg cG] at H
          have c16b0 : decide (0 < aA) = false := decide_eq_false cG
          clear cG
          have H' := Aside0.mk H
          clear H
          try go_wp2
          generalize hq_ : (((((((((((w8.setCell ⟨aC, 0, none⟩ (.int .i64 ((rd_T50 l0 aA).f0))).setCell ⟨aC, 1, none⟩ (.int .i64 ((rd_T50 l0 aA).f1))).setCell ⟨aC, 2, none⟩ (.string ((rd_T50 l0 aA).f2))).setCell ⟨aC, 3, none⟩ (.string ((rd_T50 l0 aA).f3))).setCell ⟨aC, 4, none⟩ (.int .i64 ((rd_T50 l0 aA).f4))).setCell ⟨aC, 5, none⟩ (.int .i64 ((rd_T50 l0 aA).f5))).setCell ⟨aC, 6, none⟩ (.int .i64 ((rd_T50 l0 aA).f6))).setCell ⟨aC, 7, none⟩ (.int .i64 ((rd_T50 l0 aA).f7))).setCell ⟨aC, 8, none⟩ (.int .i64 ((rd_T50 l0 aA).f8))).setCell ⟨aC, 9, none⟩ (.int .i64 ((rd_T50 l0 aA).f9.f0))).setCell ⟨aC, 10, none⟩ (.slice aE ((rd_T50 l0 aA).f9.f1).length aF)) = dN
          have n0_ : Aside0 (dN.heap[aC]? = some (.cells #[.int .i64 ((rd_T50 l0 aA).f0), .int .i64 ((rd_T50 l0 aA).f1), .string ((rd_T50 l0 aA).f2), .string ((rd_T50 l0 aA).f3), .int .i64 ((rd_T50 l0 aA).f4), .int .i64 ((rd_T50 l0 aA).f5), .int .i64 ((rd_T50 l0 aA).f6), .int .i64 ((rd_T50 l0 aA).f7), .int .i64 ((rd_T50 l0 aA).f8), .int .i64 ((rd_T50 l0 aA).f9.f0), .slice aE ((rd_T50 l0 aA).f9.f1).length aF] 50 (0, 0))) := ⟨by rw [← hq_]; exact P11 aB⟩
          have n1_ : Aside0 (Below w.heap.size w dN) := ⟨by rw [← hq_]; exact K1 HB aI.out⟩
          clear hq_
          (try clear aB)
          (try clear HB)
          have aB := n0_
          have HB := n1_
          clear n0_ n1_
          replace aB := am (blk_drew aB.out)
          replace HB := am (below_drew1 HB.out)
          refine start_ (n := 26) (S := fun w' => de11 w' aC (.int .i64 ((rd_T50 l0 aA).f0)) (.int .i64 ((rd_T50 l0 aA).f1)) (.string ((rd_T50 l0 aA).f2)) (.string ((rd_T50 l0 aA).f3)) (.int .i64 ((rd_T50 l0 aA).f4)) (.int .i64 ((rd_T50 l0 aA).f5)) (.int .i64 ((rd_T50 l0 aA).f6)) (.int .i64 ((rd_T50 l0 aA).f7)) (.int .i64 ((rd_T50 l0 aA).f8)) (.int .i64 ((rd_T50 l0 aA).f9.f0)) (.slice aE ((rd_T50 l0 aA).f9.f1).length aF)) (ds := []) (tf 0 26) (by kernel_rfl) rfl rfl ⟨z0 _ aB.out, z1 _ aB.out, z2 _ aB.out, z3 _ aB.out, z4 _ aB.out, z5 _ aB.out, z6 _ aB.out, z7 _ aB.out, z8 _ aB.out, z9 _ aB.out, z10 _ aB.out⟩ (fun aH => ?_); refine with_tabW impl_ascending_spiOf.tab4 impl_ascending_spiOf.bits4 (fun aD cC => ?_)
          generalize dN.drew = eE at aB HB aH ⊢
          refine tk 0 (some 16) (tf 1 25) (take_ofW aD.out cC.out (by kernel_rfl)) aH ?_
          refine one_ (i := 1) (N := some 17) (tf 2 24) rfl rfl (one_of aD.out (by kernel_rfl)) (by decide) (fun K hK => ?_)
          refine goes_ Tryz.func75 (by kernel_rfl) rfl #[.agg #[.int .i64 ((rd_T50 l0 aA).f0), .int .i64 ((rd_T50 l0 aA).f1), .string ((rd_T50 l0 aA).f2), .string ((rd_T50 l0 aA).f3), .int .i64 ((rd_T50 l0 aA).f4), .int .i64 ((rd_T50 l0 aA).f5), .int .i64 ((rd_T50 l0 aA).f6), .int .i64 ((rd_T50 l0 aA).f7), .int .i64 ((rd_T50 l0 aA).f8), .int .i64 ((rd_T50 l0 aA).f9.f0), .slice aE ((rd_T50 l0 aA).f9.f1).length aF]] (by rfl) rfl rfl MT ?_
          with_reducible refine (impl_SaOk.calls k1 ((rd_T50 l0 aA).f0) ((rd_T50 l0 aA).f1) ((rd_T50 l0 aA).f2) ((rd_T50 l0 aA).f3) ((rd_T50 l0 aA).f4) ((rd_T50 l0 aA).f5) ((rd_T50 l0 aA).f6) ((rd_T50 l0 aA).f7) ((rd_T50 l0 aA).f8) ((rd_T50 l0 aA).f9.f0) _ _ ((rd_T50 l0 aA).f9.f1) true _ ?_ ?_ cO.out).mono ?_
          exact KD aJ HB
          exact aK.out
          rintro e eF ⟨rfl, hb⟩
          refine ⟨_, rfl, ?_⟩
          replace aB := am (BB aB hb)
          replace HB := bl (K1 HB aI.out) hb
          (try clear hb)
          (try clear hb2)
          (try clear hk)
          (try clear hi)
          refine hK.out _ _ ⟨z0 _ aB.out, z1 _ aB.out, z2 _ aB.out, z3 _ aB.out, z4 _ aB.out, z5 _ aB.out, z6 _ aB.out, z7 _ aB.out, z8 _ aB.out, z9 _ aB.out, z10 _ aB.out⟩ (fun aH => ?_)
          clear hK K
          refine nm (some 17) ?_
          refine pv aD 2 18 (tf 3 23) ?_
          refine pv aD 3 19 (tf 4 22) ?_
          refine pv aD 4 20 (tf 5 21) ?_
          refine pv aD 6 22 (tr [5, 1, 1, 19]) ?_
          refine tk 5 (some 21) (tf 7 19) (take_ofW aD.out cC.out (by kernel_rfl)) aH ?_
          refine pv aD 7 23 (tf 8 18) ?_
          refine pv aD 8 24 (tf 9 17) ?_
          refine pv aD 9 25 (tf 10 16) ?_
          refine pv aD 10 26 (tf 11 15) ?_
          refine pv aD 11 27 (tf 12 14) ?_
          refine pv aD 12 28 (tf 13 13) ?_
          refine pw aD 13 29 (tf 14 12) ?_
          refine pw aD 14 30 (tf 15 11) ?_
          refine pw aD 15 31 (tf 16 10) ?_
          refine pw aD 16 32 (tf 17 9) ?_
          refine pw aD 17 33 (tf 18 8) ?_
          refine pw aD 18 34 (tf 19 7) ?_
          refine pw aD 19 35 (tf 20 6) ?_
          refine pw aD 20 36 (tf 21 5) ?_
          refine pw aD 21 37 (tf 22 4) ?_
          refine pw aD 22 38 (tf 23 3) ?_
          refine pw aD 23 39 (tf 24 2) ?_
          refine pv aD 24 40 (tf 25 1) ?_
          refine pv aD 25 41 (tf 26 0) ?_
          refine done_ (done_of aD.out (by kernel_rfl)) ?_
          try go_wp2
          go_meet
          case rel => exact ⟨_, (false), (by first | rfl | (simp; done) | (simp [*]; done)), H', ⟨by have := HK1.out; first | omega | exact Nat.le_refl _⟩, ⟨KB aB⟩, ⟨K1 HB aI.out⟩⟩
       ·replace cP := Bool.eq_false_iff.mpr cP
        subst cP
        have H1 := nf H
        clear H
        have H := H1
        clear H1
        have H' := Aside0.mk H
        clear H
        try go_wp2
        generalize hq_ : (((((((((((w8.setCell ⟨aC, 0, none⟩ (.int .i64 ((rd_T50 l0 aA).f0))).setCell ⟨aC, 1, none⟩ (.int .i64 ((rd_T50 l0 aA).f1))).setCell ⟨aC, 2, none⟩ (.string ((rd_T50 l0 aA).f2))).setCell ⟨aC, 3, none⟩ (.string ((rd_T50 l0 aA).f3))).setCell ⟨aC, 4, none⟩ (.int .i64 ((rd_T50 l0 aA).f4))).setCell ⟨aC, 5, none⟩ (.int .i64 ((rd_T50 l0 aA).f5))).setCell ⟨aC, 6, none⟩ (.int .i64 ((rd_T50 l0 aA).f6))).setCell ⟨aC, 7, none⟩ (.int .i64 ((rd_T50 l0 aA).f7))).setCell ⟨aC, 8, none⟩ (.int .i64 ((rd_T50 l0 aA).f8))).setCell ⟨aC, 9, none⟩ (.int .i64 ((rd_T50 l0 aA).f9.f0))).setCell ⟨aC, 10, none⟩ (.slice aE ((rd_T50 l0 aA).f9.f1).length aF)) = dO
        have n0_ : Aside0 (dO.heap[aC]? = some (.cells #[.int .i64 ((rd_T50 l0 aA).f0), .int .i64 ((rd_T50 l0 aA).f1), .string ((rd_T50 l0 aA).f2), .string ((rd_T50 l0 aA).f3), .int .i64 ((rd_T50 l0 aA).f4), .int .i64 ((rd_T50 l0 aA).f5), .int .i64 ((rd_T50 l0 aA).f6), .int .i64 ((rd_T50 l0 aA).f7), .int .i64 ((rd_T50 l0 aA).f8), .int .i64 ((rd_T50 l0 aA).f9.f0), .slice aE ((rd_T50 l0 aA).f9.f1).length aF] 50 (0, 0))) := ⟨by rw [← hq_]; exact P11 aB⟩
        have n1_ : Aside0 (Below w.heap.size w dO) := ⟨by rw [← hq_]; exact K1 HB aI.out⟩
        clear hq_
        (try clear aB)
        (try clear HB)
        have aB := n0_
        have HB := n1_
        clear n0_ n1_
        replace aB := am (blk_drew aB.out)
        replace HB := am (below_drew1 HB.out)
        refine start_ (n := 26) (S := fun w' => de11 w' aC (.int .i64 ((rd_T50 l0 aA).f0)) (.int .i64 ((rd_T50 l0 aA).f1)) (.string ((rd_T50 l0 aA).f2)) (.string ((rd_T50 l0 aA).f3)) (.int .i64 ((rd_T50 l0 aA).f4)) (.int .i64 ((rd_T50 l0 aA).f5)) (.int .i64 ((rd_T50 l0 aA).f6)) (.int .i64 ((rd_T50 l0 aA).f7)) (.int .i64 ((rd_T50 l0 aA).f8)) (.int .i64 ((rd_T50 l0 aA).f9.f0)) (.slice aE ((rd_T50 l0 aA).f9.f1).length aF)) (ds := []) (tf 0 26) (by kernel_rfl) rfl rfl ⟨z0 _ aB.out, z1 _ aB.out, z2 _ aB.out, z3 _ aB.out, z4 _ aB.out, z5 _ aB.out, z6 _ aB.out, z7 _ aB.out, z8 _ aB.out, z9 _ aB.out, z10 _ aB.out⟩ (fun aH => ?_); refine with_tabW impl_ascending_spiOf.tab4 impl_ascending_spiOf.bits4 (fun aD cC => ?_)
        generalize dO.drew = eG at aB HB aH ⊢
        refine tk 0 (some 16) (tf 1 25) (take_ofW aD.out cC.out (by kernel_rfl)) aH ?_
        refine one_ (i := 1) (N := some 17) (tf 2 24) rfl rfl (one_of aD.out (by kernel_rfl)) (by decide) (fun K hK => ?_)
        refine goes_ Tryz.func75 (by kernel_rfl) rfl #[.agg #[.int .i64 ((rd_T50 l0 aA).f0), .int .i64 ((rd_T50 l0 aA).f1), .string ((rd_T50 l0 aA).f2), .string ((rd_T50 l0 aA).f3), .int .i64 ((rd_T50 l0 aA).f4), .int .i64 ((rd_T50 l0 aA).f5), .int .i64 ((rd_T50 l0 aA).f6), .int .i64 ((rd_T50 l0 aA).f7), .int .i64 ((rd_T50 l0 aA).f8), .int .i64 ((rd_T50 l0 aA).f9.f0), .slice aE ((rd_T50 l0 aA).f9.f1).length aF]] (by rfl) rfl rfl MT ?_
        with_reducible refine (impl_SaOk.calls k1 ((rd_T50 l0 aA).f0) ((rd_T50 l0 aA).f1) ((rd_T50 l0 aA).f2) ((rd_T50 l0 aA).f3) ((rd_T50 l0 aA).f4) ((rd_T50 l0 aA).f5) ((rd_T50 l0 aA).f6) ((rd_T50 l0 aA).f7) ((rd_T50 l0 aA).f8) ((rd_T50 l0 aA).f9.f0) _ _ ((rd_T50 l0 aA).f9.f1) false _ ?_ ?_ cO.out).mono ?_
        exact KD aJ HB
        exact aK.out
        rintro e eH ⟨rfl, hb⟩
        refine ⟨_, rfl, ?_⟩
        replace aB := am (BB aB hb)
        replace HB := bl (K1 HB aI.out) hb
        (try clear hb)
        (try clear hb2)
        (try clear hk)
        (try clear hi)
        refine hK.out _ _ ⟨z0 _ aB.out, z1 _ aB.out, z2 _ aB.out, z3 _ aB.out, z4 _ aB.out, z5 _ aB.out, z6 _ aB.out, z7 _ aB.out, z8 _ aB.out, z9 _ aB.out, z10 _ aB.out⟩ (fun aH => ?_)
        clear hK K
        refine nm (some 17) ?_
        refine pv aD 2 18 (tf 3 23) ?_
        refine pv aD 3 19 (tf 4 22) ?_
        refine pw aD 4 20 (tf 5 21) ?_
        refine pw aD 5 21 (tf 6 20) ?_
        refine pw aD 6 22 (tf 7 19) ?_
        refine pw aD 7 23 (tf 8 18) ?_
        refine pv aD 8 24 (tf 9 17) ?_
        refine pv aD 9 25 (tf 10 16) ?_
        refine pw aD 10 26 (tf 11 15) ?_
        refine pw aD 11 27 (tf 12 14) ?_
        refine pw aD 12 28 (tf 13 13) ?_
        refine pw aD 13 29 (tf 14 12) ?_
        refine pw aD 14 30 (tf 15 11) ?_
        refine pw aD 15 31 (tf 16 10) ?_
        refine pw aD 16 32 (tf 17 9) ?_
        refine pw aD 17 33 (tf 18 8) ?_
        refine pw aD 18 34 (tf 19 7) ?_
        refine pw aD 19 35 (tf 20 6) ?_
        refine pw aD 20 36 (tf 21 5) ?_
        refine pw aD 21 37 (tf 22 4) ?_
        refine pw aD 22 38 (tf 23 3) ?_
        refine pw aD 23 39 (tf 24 2) ?_
        refine pw aD 24 40 (tf 25 1) ?_
        refine pv aD 25 41 (tf 26 0) ?_
        refine done_ (done_of aD.out (by kernel_rfl)) ?_
        try go_wp2
        go_meet
        case rel => exact ⟨_, (true), (by first | rfl | (simp; done) | (simp [*]; done)), H', ⟨by have := HK1.out; first | omega | exact Nat.le_refl _⟩, ⟨KB aB⟩, ⟨K1 HB aI.out⟩⟩
      case rest =>
       clear cX
       try clear c1
       try clear p2
       try clear c4
       try clear c7
       try clear eI
       try clear cP
       try clear cG
       try clear c16b0
       try clear cQ
       try clear cR
       obtain ⟨kq, bZ, rfl, HA, HJ6, aB, HB⟩ := hcut
       cases kq with
       | zero => exact absurd HA.out (by simp [impl_ascending_spiOf.j1])
       | succ kj6 =>
        have H := HA.out
        clear HA
        simp only [impl_ascending_spiOf.j1] at H
        by_cases cW : bZ = true
        ·subst cW
         have H1 := pf H
         clear H
         have H := H1
         clear H1
         obtain rfl := sj H
         go_wp2
         go_ret
         exact ⟨ER, K1 HB aI.out⟩
        ·replace cW := Bool.eq_false_iff.mpr cW
         subst cW
         have H1 := nf H
         clear H
         have H := H1
         clear H1
         have H' := Aside0.mk H
         clear H
         go_wp2
         go_roundg kj6
         case measure => have := HK1.out; have := HJ6.out; omega
         case rel => exact ⟨(wrap64 (aA + 1)), (by first | rfl | (simp; done) | (simp [*]; done)), H', ⟨by have := HK1.out; have := HJ6.out; omega⟩, ⟨K1 HB aI.out⟩⟩
     ·rw [if_neg c6] at H
      exact absurd H (by simp)
    ·rw [if_neg c5] at H
     exact absurd H (by simp)
   ·rw [if_neg c4] at H
    have c4b0 : decide (aA < (l0.length : Int)) = false := decide_eq_false c4
    clear c4
    obtain rfl := sj H
    go_wp2
    go_ret
    exact ⟨ER, KL HB⟩
def slices_Clone_Rule.f (l0 : List (S77)) : Option (List (S77)) := if l0.length < 2199023255552 then some l0 else none
theorem slices_Clone_Rule.calls (A0 : Option Addr) (c0 : Nat) (l0 : List (S77)) (r : List (S77)) (w : World) (aD : Kd.C k77 w A0 l0.length l0) (aG : l0.length ≤ c0) (h : slices_Clone_Rule.f l0 = some r) :
  Calls Tryz.prog 49 #[.slice A0 l0.length c0] w fun e w' => ∃ v0_ : Value, e = .returned (v0_) ∧ Kd.R k77 77 w' w.heap.size (fun _ => True) v0_ r ∧ Below w.heap.size w w' := by
 have hlim : l0.length < 2199023255552 ∧ l0 = r := by
  unfold slices_Clone_Rule.f at h
  by_cases c : l0.length < 2199023255552
  ·rw [if_pos c] at h; exact ⟨c, Option.some.inj h⟩
  ·rw [if_neg c] at h; cases h
 obtain ⟨hlim, rfl⟩ := hlim
 have HL := Aside0.mk hlim
 have aK : ∀ (w : World) (a : Option Addr) (n c : Nat), (binOp .eql 30 (.slice a n c) (.slice none 0 0)).run Tryz.prog w = .ok (.bool a.isNone) w := fun w a n c => Go.run_eql_slice_nil w _ _ a n c Tryz.underlying30
 cases A0 with
 | none =>
  have hz : l0 = [] := by
   cases l0 with
   | nil => rfl
   | cons x l => obtain ⟨ad, e, _⟩ := aD.2.2 (by simp); cases e
  subst hz
  clear aD aG h hlim
  go_enter Tryz.func49, Tryz.ntmps49
  go_wp2
  go_ret
  exact ⟨_, rfl, Kd.R_nil _ _ _ _ _, Below.refl _ _⟩
 | some a =>
  have aI := Aside0.mk aD
  have HB := am (Below.refl w.heap.size w)
  clear aD aG h hlim
  go_enter Tryz.func49, Tryz.ntmps49
  go_wp2_with (first | ((with_reducible refine gate_dst (N := 5) rfl ?_); refine Kd.R_lit k77 _ 77 ?hg (N := 5) ?hd (xs := ([] : List (S77))) (inner := []) (ok := fun _ => True) (okp := fun _ => True) ?hr ?hp (fun _ hk => hk) trivial (Below.refl _ _) (Nat.le_refl _) (by simp) ?_; (case hd => rfl); (case hg => rfl); (case hr => first | (go_simp; done) | (go_simp; rfl)); (case hp => exact (Reps.none _ _)); intro aE w3 aH hb hg_ hnew_; clear hg_ hnew_; have aA := am (Kd.R_lower aH (below_size (KL HB))); replace HB := bl (KL HB) hb; clear hb aH) | ((with_reducible refine gate_builtin (b := .append) (xs := #[.tmp 5, .tmp 6]) rfl ?_); at_builtin; refine Kd.R_append_rows k77 (w0 := w) w.heap.size rfl (.tmp 5) (.tmp 6) 30 77 (.agg #[(.int .i64 0), (.int .i64 0), (.int .i64 0), (.int .i64 0), (.int .i64 0), (.int .i64 0), (.int .i64 0), (.int .i64 0)]) 64 rfl Tryz.underlying30 info77 rfl (by decide) (by omega) aE [] l0 _ _ _ (fun _ => True) (fun _ => False) rfl rfl ?aO ?aR (fun _ _ h => h) (fun _ h => h.elim) ?aF ?aB ?aS ?aL ?_; (case aR => exact KD aI HB); (case aB => exact (KL HB)); (case aF => exact (fun _ _ => trivial)); (case aO => exact (KR aA)); (case aS => exact (below_size (KL HB))); (case aL => have := HL.out; simp only [List.length_nil]; omega); intro aJ w5 ho hb hg hat; rw [List.nil_append] at ho; replace HB := am (hb); have aC := am (ho); clear aA; clear ho hb hg hat))
  go_ret
  exact ⟨_, rfl, by refine KW ?_; exact aC.out, KL HB⟩
def slices_Clone_Seen.f (l0 : List (S91)) : Option (List (S91)) := if l0.length < 4398046511104 then some l0 else none
theorem slices_Clone_Seen.calls (A0 : Option Addr) (c0 : Nat) (l0 : List (S91)) (r : List (S91)) (w : World) (aD : Kd.C k91 w A0 l0.length l0) (aG : l0.length ≤ c0) (h : slices_Clone_Seen.f l0 = some r) :
  Calls Tryz.prog 50 #[.slice A0 l0.length c0] w fun e w' => ∃ v0_ : Value, e = .returned (v0_) ∧ Kd.R k91 91 w' w.heap.size (fun _ => True) v0_ r ∧ Below w.heap.size w w' := by
 have hlim : l0.length < 4398046511104 ∧ l0 = r := by
  unfold slices_Clone_Seen.f at h
  by_cases c : l0.length < 4398046511104
  ·rw [if_pos c] at h; exact ⟨c, Option.some.inj h⟩
  ·rw [if_neg c] at h; cases h
 obtain ⟨hlim, rfl⟩ := hlim
 have HL := Aside0.mk hlim
 have aK : ∀ (w : World) (a : Option Addr) (n c : Nat), (binOp .eql 31 (.slice a n c) (.slice none 0 0)).run Tryz.prog w = .ok (.bool a.isNone) w := fun w a n c => Go.run_eql_slice_nil w _ _ a n c Tryz.underlying31
 cases A0 with
 | none =>
  have hz : l0 = [] := by
   cases l0 with
   | nil => rfl
   | cons x l => obtain ⟨ad, e, _⟩ := aD.2.2 (by simp); cases e
  subst hz
  clear aD aG h hlim
  go_enter Tryz.func50, Tryz.ntmps50
  go_wp2
  go_ret
  exact ⟨_, rfl, Kd.R_nil _ _ _ _ _, Below.refl _ _⟩
 | some a =>
  have aI := Aside0.mk aD
  have HB := am (Below.refl w.heap.size w)
  clear aD aG h hlim
  go_enter Tryz.func50, Tryz.ntmps50
  go_wp2_with (first | ((with_reducible refine gate_dst (N := 5) rfl ?_); refine Kd.R_lit k91 _ 91 ?hg (N := 5) ?hd (xs := ([] : List (S91))) (inner := []) (ok := fun _ => True) (okp := fun _ => True) ?hr ?hp (fun _ hk => hk) trivial (Below.refl _ _) (Nat.le_refl _) (by simp) ?_; (case hd => rfl); (case hg => rfl); (case hr => first | (go_simp; done) | (go_simp; rfl)); (case hp => exact (Reps.none _ _)); intro aE w3 aH hb hg_ hnew_; clear hg_ hnew_; have aA := am (Kd.R_lower aH (below_size (KL HB))); replace HB := bl (KL HB) hb; clear hb aH) | ((with_reducible refine gate_builtin (b := .append) (xs := #[.tmp 5, .tmp 6]) rfl ?_); at_builtin; refine Kd.R_append_rows k91 (w0 := w) w.heap.size rfl (.tmp 5) (.tmp 6) 31 91 (.agg #[(.int .i64 0), (.int .i64 0), (.int .i64 0), (.int .i64 0)]) 32 rfl Tryz.underlying31 info91 rfl (by decide) (by omega) aE [] l0 _ _ _ (fun _ => True) (fun _ => False) rfl rfl ?aO ?aR (fun _ _ h => h) (fun _ h => h.elim) ?aF ?aB ?aS ?aL ?_; (case aR => exact KD aI HB); (case aB => exact (KL HB)); (case aF => exact (fun _ _ => trivial)); (case aO => exact (KR aA)); (case aS => exact (below_size (KL HB))); (case aL => have := HL.out; simp only [List.length_nil]; omega); intro aJ w5 ho hb hg hat; rw [List.nil_append] at ho; replace HB := am (hb); have aC := am (ho); clear aA; clear ho hb hg hat))
  go_ret
  exact ⟨_, rfl, by refine KW ?_; exact aC.out, KL HB⟩
def slices_Clone_int.f (l0 : List Int) : Option (List Int) := if l0.length < 17592186044416 then some l0 else none
theorem slices_Clone_int.calls (A0 : Option Addr) (c0 : Nat) (l0 : List Int) (r : List Int) (w : World) (aD : Kd.C (Kd.int .i64) w A0 l0.length l0) (aG : l0.length ≤ c0) (h : slices_Clone_int.f l0 = some r) :
  Calls Tryz.prog 103 #[.slice A0 l0.length c0] w fun e w' => ∃ v0_ : Value, e = .returned (v0_) ∧ Kd.R (Kd.int .i64) 3 w' w.heap.size (fun _ => True) v0_ r ∧ Below w.heap.size w w' := by
 have hlim : l0.length < 17592186044416 ∧ l0 = r := by
  unfold slices_Clone_int.f at h
  by_cases c : l0.length < 17592186044416
  ·rw [if_pos c] at h; exact ⟨c, Option.some.inj h⟩
  ·rw [if_neg c] at h; cases h
 obtain ⟨hlim, rfl⟩ := hlim
 have HL := Aside0.mk hlim
 have aK : ∀ (w : World) (a : Option Addr) (n c : Nat), (binOp .eql 46 (.slice a n c) (.slice none 0 0)).run Tryz.prog w = .ok (.bool a.isNone) w := fun w a n c => Go.run_eql_slice_nil w _ _ a n c Tryz.underlying46
 cases A0 with
 | none =>
  have hz : l0 = [] := by
   cases l0 with
   | nil => rfl
   | cons x l => obtain ⟨ad, e, _⟩ := aD.2.2 (by simp); cases e
  subst hz
  clear aD aG h hlim
  go_enter Tryz.func103, Tryz.ntmps103
  go_wp2
  go_ret
  exact ⟨_, rfl, Kd.R_nil _ _ _ _ _, Below.refl _ _⟩
 | some a =>
  have aI := Aside0.mk aD
  have HB := am (Below.refl w.heap.size w)
  clear aD aG h hlim
  go_enter Tryz.func103, Tryz.ntmps103
  go_wp2_with (first | ((with_reducible refine gate_dst (N := 5) rfl ?_); refine Kd.R_lit (Kd.int .i64) _ 3 ?hg (N := 5) ?hd (xs := ([] : List Int)) (inner := []) (ok := fun _ => True) (okp := fun _ => True) ?hr ?hp (fun _ hk => hk) trivial (Below.refl _ _) (Nat.le_refl _) (by simp) ?_; (case hd => rfl); (case hg => rfl); (case hr => first | (go_simp; done) | (go_simp; rfl)); (case hp => exact (Reps.none _ _)); intro aE w3 aH hb hg_ hnew_; clear hg_ hnew_; have aA := am (Kd.R_lower aH (below_size (KL HB))); replace HB := bl (KL HB) hb; clear hb aH) | ((with_reducible refine gate_builtin (b := .append) (xs := #[.tmp 5, .tmp 6]) rfl ?_); at_builtin; refine Kd.R_append_rows (Kd.int .i64) (w0 := w) w.heap.size rfl (.tmp 5) (.tmp 6) 46 3 (.int .i64 0) 8 rfl Tryz.underlying46 info3 rfl (by decide) (by omega) aE [] l0 _ _ _ (fun _ => True) (fun _ => False) rfl rfl ?aO ?aR (fun _ _ h => h) (fun _ h => h.elim) ?aF ?aB ?aS ?aL ?_; (case aR => exact KD aI HB); (case aB => exact (KL HB)); (case aF => exact (fun _ _ => trivial)); (case aO => exact (KR aA)); (case aS => exact (below_size (KL HB))); (case aL => have := HL.out; simp only [List.length_nil]; omega); intro aJ w5 ho hb hg hat; rw [List.nil_append] at ho; replace HB := am (hb); have aC := am (ho); clear aA; clear ho hb hg hat))
  go_ret
  exact ⟨_, rfl, by refine KW ?_; exact aC.out, KL HB⟩
def impl_Window_copied.f (a0_0 : Int) (l0_1 : List Int) : Option (Int × List Int) := (slices_Clone_int.f l0_1).bind fun t103 => (some (a0_0, t103))
theorem impl_Window_copied.calls (aH : Int) (aK : Option Addr) (aL : Nat) (aF : List Int) (r1 : Int) (r2 : List Int) (w : World) (aO : Kd.C (Kd.int .i64) w aK aF.length aF) (aP : aF.length ≤ aL) (h : impl_Window_copied.f aH aF = some (r1, r2)) :
  Calls Tryz.prog 96 #[.agg #[.int .i64 aH, .slice aK aF.length aL]] w fun e w' => ∃ v1_ : Value, e = .returned (.agg #[.int .i64 r1, v1_]) ∧ Kd.R (Kd.int .i64) 3 w' w.heap.size (fun _ => True) v1_ r2 ∧ Below w.heap.size w w' := by
 have bB := Tryz.underlying48
 have aR := Aside0.mk aO
 have aS := Aside0.mk aP
 clear aO aP
 have HB := am (Below.refl w.heap.size w)
 have H : ((slices_Clone_int.f aF).bind fun aJ => (some (aH, aJ))) = some (r1, r2) := h
 clear h
 replace H := bm H
 obtain ⟨aJ, aW, H⟩ := H
 replace H : (some (aH, aJ)) = some (r1, r2) := H
 have A2 := Aside0.mk aW
 clear aW
 simp only [Option.some.injEq, Prod.mk.injEq] at H
 obtain ⟨rfl, rfl⟩ := H
 go_enter Tryz.func96, Tryz.ntmps96
 try go_wp2_with (first | ((with_reducible refine gate_dst (N := 1) rfl ?_); refine box_event rfl (N := 1) rfl (cs := #[.int .i64 aH, .slice aK aF.length aL]) (t := 48) BX ?_; intro aT hg w3 aM hb; have aB := am (aM); have aU := am (GH HB hg); have aI := aU; replace HB := bl (KL HB) hb; clear hb aM hg) | ((with_reducible refine gate_dst (N := 2) rfl ?_); refine box_event rfl (N := 2) rfl (cs := #[.int .i64 0, .slice none 0 0]) (t := 48) BX ?_; intro aD hg w4 aM hb; have aC := am (aM); have aV := am (GH1 HB aI.out hg); have aN := aV; replace HB := bl (K1 HB aI.out) hb; have aA := am (NL aB hg); have aG := am (NG aB hg); replace aB := am (BB aB hb); clear hb aM hg))
 replace aB := am (blk_drew aB.out)
 replace aC := am (blk_drew aC.out)
 replace HB := am (below_drew1 HB.out)
 refine start_ (n := 7) (S := fun w' => de2 w' aT (.int .i64 aH) (.slice aK aF.length aL)) (ds := []) (tf 0 7) (by kernel_rfl) rfl rfl ⟨z0 _ aB.out, z1 _ aB.out⟩ (fun aE => ?_)
 generalize w4.drew = w5 at aB aC HB aE ⊢
 refine pure_ (i := 0) (N := some 3) (v := ?_) (a' := ?_) (tf 1 6) rfl rfl (by kernel_rfl) (fun _ _ _ h => h) (Or.inl ⟨by rfl, ?_⟩) ?_ ?_; rotate_left; (· intro w'; go_simp; with_reducible rfl); rotate_left; (· simp only [Act.put, List.setIfInBounds_toArray, List.set_cons_zero, List.set_cons_succ, i64_w, i32_w]; rfl)
 refine pure_ (i := 2) (N := some 5) (v := ?_) (a' := ?_) (tr [1, 1, 1, 4]) rfl rfl (by kernel_rfl) (fun _ _ _ h => h) (Or.inl ⟨by rfl, ?_⟩) ?_ ?_; rotate_left; (· intro w'; go_simp; with_reducible rfl); rotate_left; (· simp only [Act.put, List.setIfInBounds_toArray, List.set_cons_zero, List.set_cons_succ, i64_w, i32_w]; rfl)
 refine take_ (i := 1) (N := some 4) (v := ?_) (a' := ?_) (tf 3 4) rfl rfl (by kernel_rfl) (fun _ _ _ h => h) (Or.inl ⟨by rfl, ?_⟩) aE ?_ ?_
 rotate_left
 ·rintro w' ⟨s0, s1⟩
  go_simp
  with_reducible rfl
 rotate_left
 ·simp only [Act.put, List.setIfInBounds_toArray, List.set_cons_zero, List.set_cons_succ, i64_w, i32_w]
  rfl
 refine take_ (i := 3) (N := some 6) (v := ?_) (a' := ?_) (tf 4 3) rfl rfl (by kernel_rfl) (fun _ _ _ h => h) (Or.inl ⟨by rfl, ?_⟩) aE ?_ ?_
 rotate_left
 ·rintro w' ⟨s0, s1⟩
  go_simp
  with_reducible rfl
 rotate_left
 ·simp only [Act.put, List.setIfInBounds_toArray, List.set_cons_zero, List.set_cons_succ, i64_w, i32_w]
  rfl
 refine one_ (i := 4) (N := some 7) (tf 5 2) rfl rfl (by kernel_rfl) (by decide) (fun K hK => ?_)
 refine goes_ Tryz.func103 (by kernel_rfl) rfl #[.slice aK aF.length aL] (by rfl) rfl rfl MT ?_
 with_reducible refine (slices_Clone_int.calls _ _ aF aJ _ ?_ ?_ A2.out).mono ?_
 exact KD aR HB
 exact aS.out
 rintro e w6 ⟨bC, rfl, aX, hb⟩
 refine ⟨_, rfl, ?_⟩
 have aQ := am (Kd.R_lower aX (below_size (K2 HB aI.out aN.out)))
 replace aB := am (BB aB hb)
 replace aC := am (BB aC hb)
 replace HB := bl (K2 HB aI.out aN.out) hb
 (try clear hb)
 (try clear hb2)
 (try clear hk)
 (try clear hi)
 (try clear aX)
 obtain ⟨aY, aZ, bA⟩ := Kd.R_slice aQ.out
 (first | subst bA | (injection bA with f1_ f2_ f3_; have f4_ := f1_.symm; have f5_ := f3_.symm; clear f1_ f2_ f3_; subst f4_; subst f5_))
 refine hK.out _ _ ⟨z0 _ aB.out, z1 _ aB.out⟩ (fun aE => ?_)
 clear hK K
 refine nm (some 7) ?_
 refine pure_ (i := 5) (N := some 8) (v := ?_) (a' := ?_) (tf 6 1) rfl rfl (by kernel_rfl) (fun _ _ _ h => h) (Or.inl ⟨by rfl, ?_⟩) ?_ ?_; rotate_left; (· intro w'; go_simp; with_reducible rfl); rotate_left; (· simp only [Act.put, List.setIfInBounds_toArray, List.set_cons_zero, List.set_cons_succ, i64_w, i32_w]; rfl)
 refine one_ (i := 6) (N := none) (tf 7 0) rfl rfl (by kernel_rfl) (by decide) (fun K hK => ?_)
 have hs8 : w6.cell? ⟨aD, 0, none⟩ = some (.int .i64 0) := z0 _ aC.out
 have hfs8 := blk_frozen aC.out 0
 have hns8_0 := aA.out
 have hms8_0 := aG.out
 have hs9 : w6.cell? ⟨aD, 1, none⟩ = some (.slice none 0 0) := z1 _ aC.out
 have hfs9 := blk_frozen aC.out 1
 have hns9_0 := aA.out
 have hms9_0 := aG.out
 refine skip_ (w1 := ?_) (by rfl) rfl ?_ ?_
 rotate_left
 ·go_simp
  rfl
 refine hK.out _ _ ⟨((cell_far (p := ⟨aD, _, none⟩) aA.out _).trans (((cell_far (p := ⟨aD, _, none⟩) aA.out _).trans (aE.1)))), ((cell_far (p := ⟨aD, _, none⟩) aA.out _).trans (((cell_far (p := ⟨aD, _, none⟩) aA.out _).trans (aE.2))))⟩ (fun aE => ?_)
 clear hK K
 refine done_ (by kernel_rfl) ?_
 try go_wp2
 refine bodyPost_ret (results_cell_row rfl _ _ aD 48 #[.int .i64 aH, .slice aY aJ.length aZ] (0, 0) _ rfl (by refine BD ?_; refine blk_put (cs := #[.int .i64 aH, .slice none 0 0]) ?_ 1 _ rfl; refine BD ?_; refine blk_put (cs := #[.int .i64 0, .slice none 0 0]) ?_ 0 _ rfl; refine BD ?_; exact aC.out) Tryz.underlying48 rfl (by kernel_rfl)) rfl ?_
 exact ⟨_, ER, by refine KW ?_; exact Kd.R_mono (Kd.R_far (p := ⟨aD, 1, none⟩) (Kd.R_far (p := ⟨aD, 0, none⟩) (Kd.R_types aQ.out aC.out (by decide)) (fun _ hk => hk.2) (.int .i64 aH)) (fun _ hk => hk.2) (.slice aY aJ.length aZ)) (fun _ hk => trivial), K2 HB aI.out aN.out⟩
def impl_Sa_copied.f (a0_0 : Int) (a0_1 : Int) (a0_2 : ByteArray) (a0_3 : ByteArray) (a0_4 : Int) (a0_5 : Int) (a0_6 : Int) (a0_7 : Int) (a0_8 : Int) (a0_9 : Int) (l0_10 : List Int) : Option (Int × Int × ByteArray × ByteArray × Int × Int × Int × Int × Int × Int × List Int) := (impl_Window_copied.f a0_9 l0_10).bind fun bt103 => (some (a0_0, a0_1, a0_2, a0_3, a0_4, a0_5, a0_6, a0_7, a0_8, bt103.1, bt103.2))
theorem impl_Sa_copied.calls (aB : Int) (aC : Int) (aD : ByteArray) (aE : ByteArray) (aH : Int) (aJ : Int) (aK : Int) (aL : Int) (aM : Int) (aR : Int) (aP : Option Addr) (aQ : Nat) (aF : List Int) (r1 : Int) (r2 : Int) (r3 : ByteArray) (r4 : ByteArray) (r5 : Int) (r6 : Int) (r7 : Int) (r8 : Int) (r9 : Int) (r10 : Int) (r11 : List Int) (w : World) (aU : Kd.C (Kd.int .i64) w aP aF.length aF) (aV : aF.length ≤ aQ) (h : impl_Sa_copied.f aB aC aD aE aH aJ aK aL aM aR aF = some (r1, r2, r3, r4, r5, r6, r7, r8, r9, r10, r11)) :
  Calls Tryz.prog 76 #[.agg #[.int .i64 aB, .int .i64 aC, .string aD, .string aE, .int .i64 aH, .int .i64 aJ, .int .i64 aK, .int .i64 aL, .int .i64 aM, .int .i64 aR, .slice aP aF.length aQ]] w fun e w' => ∃ v10_ : Value, e = .returned (.agg #[.int .i64 r1, .int .i64 r2, .string r3, .string r4, .int .i64 r5, .int .i64 r6, .int .i64 r7, .int .i64 r8, .int .i64 r9, .int .i64 r10, v10_]) ∧ Kd.R (Kd.int .i64) 3 w' w.heap.size (fun _ => True) v10_ r11 ∧ Below w.heap.size w w' := by
 have cU := Tryz.underlying50
 have cV := Tryz.underlying48
 have bC := Aside0.mk aU
 have bD := Aside0.mk aV
 clear aU aV
 have HB := am (Below.refl w.heap.size w)
 have H : ((impl_Window_copied.f aR aF).bind fun aZ => (some (aB, aC, aD, aE, aH, aJ, aK, aL, aM, aZ.1, aZ.2))) = some (r1, r2, r3, r4, r5, r6, r7, r8, r9, r10, r11) := h
 clear h
 replace H := bm H
 obtain ⟨⟨aS, aW⟩, cS, H⟩ := H
 replace H : (some (aB, aC, aD, aE, aH, aJ, aK, aL, aM, aS, aW)) = some (r1, r2, r3, r4, r5, r6, r7, r8, r9, r10, r11) := H
 have A2 := Aside0.mk cS
 clear cS
 simp only [Option.some.injEq, Prod.mk.injEq] at H
 obtain ⟨rfl, rfl, rfl, rfl, rfl, rfl, rfl, rfl, rfl, rfl, rfl⟩ := H
 go_enter Tryz.func76, Tryz.ntmps76
 go_wp2_with (first | ((with_reducible refine gate_dst (N := 1) rfl ?_); refine box_event rfl (N := 1) rfl (cs := #[.int .i64 aB, .int .i64 aC, .string aD, .string aE, .int .i64 aH, .int .i64 aJ, .int .i64 aK, .int .i64 aL, .int .i64 aM, .int .i64 aR, .slice aP aF.length aQ]) (t := 50) BX ?_; intro bA hg w3 aX hb; have aG := am (aX); have bE := am (GH HB hg); have aN := bE; replace HB := bl (KL HB) hb; clear hb aX hg) | ((with_reducible refine gate_dst (N := 2) rfl ?_); refine box_event rfl (N := 2) rfl (cs := #[.int .i64 0, .int .i64 0, .string (⟨#[]⟩ : ByteArray), .string (⟨#[]⟩ : ByteArray), .int .i64 0, .int .i64 0, .int .i64 0, .int .i64 0, .int .i64 0, .int .i64 0, .slice none 0 0]) (t := 50) BX ?_; intro aA hg w4 aX hb; have aO := am (aX); have bF := am (GH1 HB aN.out hg); have aY := bF; replace HB := bl (K1 HB aN.out) hb; have aT := am (NL aG hg); have aI := am (NG aG hg); replace aG := am (BB aG hb); clear hb aX hg; have cW := aT.out; have cX := aI.out; have ⟨_, _, _, _, _, _, _, _, _, _, _, _⟩ := y11 w4 aG.out) | ((with_reducible refine gate_callee (f := 96) rfl ?_); refine goesL_ (some 5) rfl rfl Tryz.func96 (by kernel_rfl) rfl #[.agg #[.int .i64 aR, .slice aP aF.length aQ]] rfl MT ?_; (with_reducible refine (impl_Window_copied.calls aR _ _ aF aS aW _ ?_ ?_ A2.out).mono ?_); exact KD bC HB; exact bD.out; rintro e w7 ⟨cY, rfl, cT, hb⟩; refine ⟨_, rfl, ?_⟩; have bB := am (Kd.R_lower cT (below_size (K2 HB aN.out aY.out))); replace aG := am (BB aG hb); replace aO := am (BB aO hb); replace HB := bl (K2 HB aN.out aY.out) hb; (try clear hb); (try clear cT); have ⟨_, _, _, _, _, _, _, _, _, _, _, _⟩ := y11 w7 aG.out; obtain ⟨cQ, cR, cZ⟩ := Kd.R_slice bB.out; subst cZ; have ⟨_, _, _, _, _, _, _, _, _, _, _, _⟩ := y11 w7 aO.out))
 refine bodyPost_ret (results_cell_row rfl _ _ aA 50 #[.int .i64 aB, .int .i64 aC, .string aD, .string aE, .int .i64 aH, .int .i64 aJ, .int .i64 aK, .int .i64 aL, .int .i64 aM, .int .i64 aS, .slice cQ aW.length cR] (0, 0) _ rfl (by refine BD ?_; refine blk_put (cs := #[.int .i64 aB, .int .i64 aC, .string aD, .string aE, .int .i64 aH, .int .i64 aJ, .int .i64 aK, .int .i64 aL, .int .i64 aM, .int .i64 aS, .slice none 0 0]) ?_ 10 _ rfl; refine BD ?_; refine blk_put (cs := #[.int .i64 aB, .int .i64 aC, .string aD, .string aE, .int .i64 aH, .int .i64 aJ, .int .i64 aK, .int .i64 aL, .int .i64 aM, .int .i64 0, .slice none 0 0]) ?_ 9 _ rfl; refine BD ?_; refine blk_put (cs := #[.int .i64 aB, .int .i64 aC, .string aD, .string aE, .int .i64 aH, .int .i64 aJ, .int .i64 aK, .int .i64 aL, .int .i64 0, .int .i64 0, .slice none 0 0]) ?_ 8 _ rfl; refine BD ?_; refine blk_put (cs := #[.int .i64 aB, .int .i64 aC, .string aD, .string aE, .int .i64 aH, .int .i64 aJ, .int .i64 aK, .int .i64 0, .int .i64 0, .int .i64 0, .slice none 0 0]) ?_ 7 _ rfl; refine BD ?_; refine blk_put (cs := #[.int .i64 aB, .int .i64 aC, .string aD, .string aE, .int .i64 aH, .int .i64 aJ, .int .i64 0, .int .i64 0, .int .i64 0, .int .i64 0, .slice none 0 0]) ?_ 6 _ rfl; refine BD ?_; refine blk_put (cs := #[.int .i64 aB, .int .i64 aC, .string aD, .string aE, .int .i64 aH, .int .i64 0, .int .i64 0, .int .i64 0, .int .i64 0, .int .i64 0, .slice none 0 0]) ?_ 5 _ rfl; refine BD ?_; refine blk_put (cs := #[.int .i64 aB, .int .i64 aC, .string aD, .string aE, .int .i64 0, .int .i64 0, .int .i64 0, .int .i64 0, .int .i64 0, .int .i64 0, .slice none 0 0]) ?_ 4 _ rfl; refine BD ?_; refine blk_put (cs := #[.int .i64 aB, .int .i64 aC, .string aD, .string (⟨#[]⟩ : ByteArray), .int .i64 0, .int .i64 0, .int .i64 0, .int .i64 0, .int .i64 0, .int .i64 0, .slice none 0 0]) ?_ 3 _ rfl; refine BD ?_; refine blk_put (cs := #[.int .i64 aB, .int .i64 aC, .string (⟨#[]⟩ : ByteArray), .string (⟨#[]⟩ : ByteArray), .int .i64 0, .int .i64 0, .int .i64 0, .int .i64 0, .int .i64 0, .int .i64 0, .slice none 0 0]) ?_ 2 _ rfl; refine BD ?_; refine blk_put (cs := #[.int .i64 aB, .int .i64 0, .string (⟨#[]⟩ : ByteArray), .string (⟨#[]⟩ : ByteArray), .int .i64 0, .int .i64 0, .int .i64 0, .int .i64 0, .int .i64 0, .int .i64 0, .slice none 0 0]) ?_ 1 _ rfl; refine BD ?_; refine blk_put (cs := #[.int .i64 0, .int .i64 0, .string (⟨#[]⟩ : ByteArray), .string (⟨#[]⟩ : ByteArray), .int .i64 0, .int .i64 0, .int .i64 0, .int .i64 0, .int .i64 0, .int .i64 0, .slice none 0 0]) ?_ 0 _ rfl; refine BD ?_; refine blk_far ?_ aI.out _; refine BD ?_; refine blk_far ?_ aI.out _; refine BD ?_; exact aO.out) Tryz.underlying50 rfl (by kernel_rfl)) rfl ?_
 exact ⟨_, ER, by refine KW ?_; exact Kd.R_mono (Kd.R_far (p := ⟨aA, 10, none⟩) (Kd.R_far (p := ⟨aA, 9, none⟩) (Kd.R_far (p := ⟨aA, 8, none⟩) (Kd.R_far (p := ⟨aA, 7, none⟩) (Kd.R_far (p := ⟨aA, 6, none⟩) (Kd.R_far (p := ⟨aA, 5, none⟩) (Kd.R_far (p := ⟨aA, 4, none⟩) (Kd.R_far (p := ⟨aA, 3, none⟩) (Kd.R_far (p := ⟨aA, 2, none⟩) (Kd.R_far (p := ⟨aA, 1, none⟩) (Kd.R_far (p := ⟨aA, 0, none⟩) (Kd.R_far (p := ⟨bA, 10, none⟩) (Kd.R_far (p := ⟨bA, 9, none⟩) (Kd.R_types (Kd.R_types bB.out aG.out (by decide)) aO.out (by decide)) (fun _ hk => hk.1.2) (.int .i64 aS)) (fun _ hk => hk.1.2) (.slice cQ aW.length cR)) (fun _ hk => hk.2) (.int .i64 aB)) (fun _ hk => hk.2) (.int .i64 aC)) (fun _ hk => hk.2) (.string aD)) (fun _ hk => hk.2) (.string aE)) (fun _ hk => hk.2) (.int .i64 aH)) (fun _ hk => hk.2) (.int .i64 aJ)) (fun _ hk => hk.2) (.int .i64 aK)) (fun _ hk => hk.2) (.int .i64 aL)) (fun _ hk => hk.2) (.int .i64 aM)) (fun _ hk => hk.2) (.int .i64 aS)) (fun _ hk => hk.2) (.slice cQ aW.length cR)) (fun _ hk => trivial), K2 HB aN.out aY.out⟩
def impl_copies.l0 : Nat → List (S50) → List (S50) → Int → Int → Option ((List (S50)))
 | 0, _, _, _, _ => none
 | k + 1, x3, x6, x7, x8 => if x8 < x7 then (if 0 ≤ x8 then (if x8 < (x6.length : Int) then ((impl_Sa_copied.f ((rd_T50 x6 x8).f0) ((rd_T50 x6 x8).f1) ((rd_T50 x6 x8).f2) ((rd_T50 x6 x8).f3) ((rd_T50 x6 x8).f4) ((rd_T50 x6 x8).f5) ((rd_T50 x6 x8).f6) ((rd_T50 x6 x8).f7) ((rd_T50 x6 x8).f8) ((rd_T50 x6 x8).f9.f0) ((rd_T50 x6 x8).f9.f1)).bind fun bt103 => (if x3.length < 1172812402961 then (impl_copies.l0 k (x3 ++ [(⟨bt103.1, bt103.2.1, bt103.2.2.1, bt103.2.2.2.1, bt103.2.2.2.2.1, bt103.2.2.2.2.2.1, bt103.2.2.2.2.2.2.1, bt103.2.2.2.2.2.2.2.1, bt103.2.2.2.2.2.2.2.2.1, (⟨bt103.2.2.2.2.2.2.2.2.2.1, bt103.2.2.2.2.2.2.2.2.2.2⟩ : S48)⟩ : S50)]) x6 x7 (wrap64 (x8 + 1))) else (none))) else (none)) else (none)) else (some x3)
def impl_copies.f (k : Nat) (l0 : List (S50)) : Option ((List (S50))) := impl_copies.l0 k ([] : List (S50)) l0 (l0.length : Int) 0
theorem impl_copies.calls (k : Nat) (A0 : Option Addr) (c0 : Nat) (l0 : List (S50)) (r : List (S50)) (w : World) (cN : Kd.C k50 w A0 l0.length l0) (cO : l0.length ≤ c0) (h : impl_copies.f k l0 = some r) :
  Calls Tryz.prog 51 #[.slice A0 l0.length c0] w fun e w' => ∃ v0_ : Value, e = .returned (v0_) ∧ Kd.S k50 50 w' w.heap.size (fun _ => True) v0_ r ∧ Below w.heap.size w w' := by
 have cR := Tryz.underlying50
 have cS := Aside0.mk cN
 have cV := Aside0.mk cO
 clear cN cO
 have HB := am (Below.refl w.heap.size w)
 have H : (impl_copies.l0 k ([] : List (S50)) l0 (l0.length : Int) 0) = some r := h
 clear h
 have H' := Aside0.mk H
 clear H
 go_enter Tryz.func51, Tryz.ntmps51
 go_wp2
 go_loopg [3, 8] k (fun kq v3 v8 w' => ∃ (aJ : List (S50)) (aA : Int), v8 = .int .i64 aA ∧ Aside0 (impl_copies.l0 kq aJ l0 (l0.length : Int) aA = some r) ∧ Aside0 (kq ≤ k) ∧ Aside0 (Kd.S k50 50 w' w.heap.size (fun _ => True) v3 aJ) ∧ Aside0 (Below w.heap.size w w'))
 case atStart => exact ⟨(([] : List (S50))), (0), (by first | rfl | (simp; done) | (simp [*]; done)), H', ⟨Nat.le_refl _⟩, ⟨by first | exact Kd.S_nil _ _ _ _ _ | exact Kd.N_nil _ _ _ _ _ | exact Kd.V_nil _ _ _ _ _ | exact Kd.Q_nil _ _ _ _ _ | exact Kd.R_nil _ _ _ _ _⟩, ⟨KL HB⟩⟩
 case round =>
  clear H'
  obtain ⟨aJ, aA, rfl, HA, HK1, aH, HB⟩ := hrel
  cases gk with
  | zero => exact absurd HA.out (by simp [impl_copies.l0])
  | succ k1 =>
   have H := HA.out
   clear HA
   simp only [impl_copies.l0] at H
   by_cases c2 : aA < (l0.length : Int)
   ·rw [if_pos c2] at H
    have c2b0 : decide (aA < (l0.length : Int)) = true := decide_eq_true c2
    clear c2
    by_cases c3 : 0 ≤ aA
    ·rw [if_pos c3] at H
     have c3b0 : decide (0 ≤ aA) = true := decide_eq_true c3
     clear c3
     by_cases c4 : aA < (l0.length : Int)
     ·rw [if_pos c4] at H
      have c4b0 : decide (aA < (l0.length : Int)) = true := decide_eq_true c4
      clear c4
      replace H := bm H
      obtain ⟨⟨bE, bF, bG, bH, bI, bJ, bK, bL, bM, bN, aR⟩, cP, H⟩ := H
      replace H : (if aJ.length < 1172812402961 then (impl_copies.l0 k1 (aJ ++ [(⟨bE, bF, bG, bH, bI, bJ, bK, bL, bM, (⟨bN, aR⟩ : S48)⟩ : S50)]) l0 (l0.length : Int) (wrap64 (aA + 1))) else (none)) = some r := H
      have A5 := Aside0.mk cP
      clear cP
      by_cases c6 : aJ.length < 1172812402961
      ·rw [if_pos c6] at H
       have LMc6 := Aside0.mk c6
       clear c6
       obtain ⟨bS, aK⟩ : ∃ y_ : List (S50), y_ = (aJ ++ [(⟨bE, bF, bG, bH, bI, bJ, bK, bL, bM, (⟨bN, aR⟩ : S48)⟩ : S50)]) := ⟨_, rfl⟩
       replace H : (impl_copies.l0 k1 bS l0 (l0.length : Int) (wrap64 (aA + 1))) = some r := by first | (rw [aK]; with_reducible exact H) | (have H2_ := (Option.bind_some _ _).symm.trans H; rw [aK]; with_reducible exact H2_) | (have H2_ := (Option.bind_some _ _).symm.trans H; with_reducible exact H2_) | with_reducible exact H | (rw [aK]; exact H) | exact H
       have Ny116 := Aside0.mk aK
       clear aK
       have H' := Aside0.mk H
       clear H
       have bQ : 0 ≤ (aA : Int) := OD
       have bR : aA < (l0.length : Int) := OD
       obtain ⟨_, aD, aE, bZ, aT, aU, aV, aW, aX, aY, aZ, bA, bB, bC, aM, aN, aQ⟩ := at_T50 cS.out aA bQ bR
       cases bZ
       replace aT := CX HB.out aT
       replace aU := CX HB.out aU
       replace aV := CX HB.out aV
       replace aW := CX HB.out aW
       replace aX := CX HB.out aX
       replace aY := CX HB.out aY
       replace aZ := CX HB.out aZ
       replace bA := CX HB.out bA
       replace bB := CX HB.out bB
       replace bC := CX HB.out bC
       replace aM := CX HB.out aM
       have bO := Aside0.mk aQ
       have bP := Aside0.mk aN
       clear aQ aN
       replace bQ := eq_true bQ
       replace bR := eq_true bR
       go_wp2_with (first | ((with_reducible refine gate_dst (N := 5) rfl ?_); refine box_event rfl (N := 5) rfl (cs := #[.int .i64 0, .int .i64 0, .string (⟨#[]⟩ : ByteArray), .string (⟨#[]⟩ : ByteArray), .int .i64 0, .int .i64 0, .int .i64 0, .int .i64 0, .int .i64 0, .int .i64 0, .slice none 0 0]) (t := 50) BX ?_; intro aC hg w7 bT hb; replace aH := am (Kd.S_below (Kd.S_elderB (by refine KX ?_; exact aH.out) aC (Nat.le_of_eq hg.symm)) hb); have aG := am (bT); have bU := am (GH HB hg); have aI := bU; replace HB := bl (KL HB) hb; clear hb bT hg; have ⟨_, _, _, _, _, _, _, _, _, _, _, _⟩ := y11 w7 aG.out) | ((with_reducible refine gate_callee (f := 76) rfl ?_); refine goesL_ (some 14) rfl rfl Tryz.func76 (by kernel_rfl) rfl #[.agg #[.int .i64 ((rd_T50 l0 aA).f0), .int .i64 ((rd_T50 l0 aA).f1), .string ((rd_T50 l0 aA).f2), .string ((rd_T50 l0 aA).f3), .int .i64 ((rd_T50 l0 aA).f4), .int .i64 ((rd_T50 l0 aA).f5), .int .i64 ((rd_T50 l0 aA).f6), .int .i64 ((rd_T50 l0 aA).f7), .int .i64 ((rd_T50 l0 aA).f8), .int .i64 ((rd_T50 l0 aA).f9.f0), .slice aD ((rd_T50 l0 aA).f9.f1).length aE]] rfl MT ?_; (with_reducible refine (impl_Sa_copied.calls ((rd_T50 l0 aA).f0) ((rd_T50 l0 aA).f1) ((rd_T50 l0 aA).f2) ((rd_T50 l0 aA).f3) ((rd_T50 l0 aA).f4) ((rd_T50 l0 aA).f5) ((rd_T50 l0 aA).f6) ((rd_T50 l0 aA).f7) ((rd_T50 l0 aA).f8) ((rd_T50 l0 aA).f9.f0) _ _ ((rd_T50 l0 aA).f9.f1) bE bF bG bH bI bJ bK bL bM bN aR _ ?_ ?_ A5.out).mono ?_); exact Kd.C_below bO.out (K1 HB aI.out); exact bP.out; rintro e w9 ⟨cT, rfl, cL, hb⟩; refine ⟨_, rfl, ?_⟩; replace aH := am (Kd.S_elder' (by refine KX ?_; exact (Kd.S_mono (Kd.S_far (p := ⟨aC, 10, none⟩) (Kd.S_far (p := ⟨aC, 9, none⟩) (Kd.S_far (p := ⟨aC, 8, none⟩) (Kd.S_far (p := ⟨aC, 7, none⟩) (Kd.S_far (p := ⟨aC, 6, none⟩) (Kd.S_far (p := ⟨aC, 5, none⟩) (Kd.S_far (p := ⟨aC, 4, none⟩) (Kd.S_far (p := ⟨aC, 3, none⟩) (Kd.S_far (p := ⟨aC, 2, none⟩) (Kd.S_far (p := ⟨aC, 1, none⟩) (Kd.S_far (p := ⟨aC, 0, none⟩) (Kd.S_mono aH.out (fun k_ hk => (⟨hk, hk.2⟩ : _ ∧ k_ ≠ aC))) (fun _ hk => hk.2) (.int .i64 ((rd_T50 l0 aA).f0))) (fun _ hk => hk.2) (.int .i64 ((rd_T50 l0 aA).f1))) (fun _ hk => hk.2) (.string ((rd_T50 l0 aA).f2))) (fun _ hk => hk.2) (.string ((rd_T50 l0 aA).f3))) (fun _ hk => hk.2) (.int .i64 ((rd_T50 l0 aA).f4))) (fun _ hk => hk.2) (.int .i64 ((rd_T50 l0 aA).f5))) (fun _ hk => hk.2) (.int .i64 ((rd_T50 l0 aA).f6))) (fun _ hk => hk.2) (.int .i64 ((rd_T50 l0 aA).f7))) (fun _ hk => hk.2) (.int .i64 ((rd_T50 l0 aA).f8))) (fun _ hk => hk.2) (.int .i64 ((rd_T50 l0 aA).f9.f0))) (fun _ hk => hk.2) (.slice aD ((rd_T50 l0 aA).f9.f1).length aE)) (fun _ h_ => h_.1))) (Kd.R_base cL) hb); have bD := am (Kd.R_lower cL (below_size (K1 HB aI.out))); replace aG := am (blk_below (g := aC) (o := .cells #[.int .i64 ((rd_T50 l0 aA).f0), .int .i64 ((rd_T50 l0 aA).f1), .string ((rd_T50 l0 aA).f2), .string ((rd_T50 l0 aA).f3), .int .i64 ((rd_T50 l0 aA).f4), .int .i64 ((rd_T50 l0 aA).f5), .int .i64 ((rd_T50 l0 aA).f6), .int .i64 ((rd_T50 l0 aA).f7), .int .i64 ((rd_T50 l0 aA).f8), .int .i64 ((rd_T50 l0 aA).f9.f0), .slice aD ((rd_T50 l0 aA).f9.f1).length aE] 50 (0, 0)) (by refine BD ?_; refine blk_put (cs := #[.int .i64 ((rd_T50 l0 aA).f0), .int .i64 ((rd_T50 l0 aA).f1), .string ((rd_T50 l0 aA).f2), .string ((rd_T50 l0 aA).f3), .int .i64 ((rd_T50 l0 aA).f4), .int .i64 ((rd_T50 l0 aA).f5), .int .i64 ((rd_T50 l0 aA).f6), .int .i64 ((rd_T50 l0 aA).f7), .int .i64 ((rd_T50 l0 aA).f8), .int .i64 ((rd_T50 l0 aA).f9.f0), .slice none 0 0]) ?_ 10 _ rfl; refine BD ?_; refine blk_put (cs := #[.int .i64 ((rd_T50 l0 aA).f0), .int .i64 ((rd_T50 l0 aA).f1), .string ((rd_T50 l0 aA).f2), .string ((rd_T50 l0 aA).f3), .int .i64 ((rd_T50 l0 aA).f4), .int .i64 ((rd_T50 l0 aA).f5), .int .i64 ((rd_T50 l0 aA).f6), .int .i64 ((rd_T50 l0 aA).f7), .int .i64 ((rd_T50 l0 aA).f8), .int .i64 0, .slice none 0 0]) ?_ 9 _ rfl; refine BD ?_; refine blk_put (cs := #[.int .i64 ((rd_T50 l0 aA).f0), .int .i64 ((rd_T50 l0 aA).f1), .string ((rd_T50 l0 aA).f2), .string ((rd_T50 l0 aA).f3), .int .i64 ((rd_T50 l0 aA).f4), .int .i64 ((rd_T50 l0 aA).f5), .int .i64 ((rd_T50 l0 aA).f6), .int .i64 ((rd_T50 l0 aA).f7), .int .i64 0, .int .i64 0, .slice none 0 0]) ?_ 8 _ rfl; refine BD ?_; refine blk_put (cs := #[.int .i64 ((rd_T50 l0 aA).f0), .int .i64 ((rd_T50 l0 aA).f1), .string ((rd_T50 l0 aA).f2), .string ((rd_T50 l0 aA).f3), .int .i64 ((rd_T50 l0 aA).f4), .int .i64 ((rd_T50 l0 aA).f5), .int .i64 ((rd_T50 l0 aA).f6), .int .i64 0, .int .i64 0, .int .i64 0, .slice none 0 0]) ?_ 7 _ rfl; refine BD ?_; refine blk_put (cs := #[.int .i64 ((rd_T50 l0 aA).f0), .int .i64 ((rd_T50 l0 aA).f1), .string ((rd_T50 l0 aA).f2), .string ((rd_T50 l0 aA).f3), .int .i64 ((rd_T50 l0 aA).f4), .int .i64 ((rd_T50 l0 aA).f5), .int .i64 0, .int .i64 0, .int .i64 0, .int .i64 0, .slice none 0 0]) ?_ 6 _ rfl; refine BD ?_; refine blk_put (cs := #[.int .i64 ((rd_T50 l0 aA).f0), .int .i64 ((rd_T50 l0 aA).f1), .string ((rd_T50 l0 aA).f2), .string ((rd_T50 l0 aA).f3), .int .i64 ((rd_T50 l0 aA).f4), .int .i64 0, .int .i64 0, .int .i64 0, .int .i64 0, .int .i64 0, .slice none 0 0]) ?_ 5 _ rfl; refine BD ?_; refine blk_put (cs := #[.int .i64 ((rd_T50 l0 aA).f0), .int .i64 ((rd_T50 l0 aA).f1), .string ((rd_T50 l0 aA).f2), .string ((rd_T50 l0 aA).f3), .int .i64 0, .int .i64 0, .int .i64 0, .int .i64 0, .int .i64 0, .int .i64 0, .slice none 0 0]) ?_ 4 _ rfl; refine BD ?_; refine blk_put (cs := #[.int .i64 ((rd_T50 l0 aA).f0), .int .i64 ((rd_T50 l0 aA).f1), .string ((rd_T50 l0 aA).f2), .string (⟨#[]⟩ : ByteArray), .int .i64 0, .int .i64 0, .int .i64 0, .int .i64 0, .int .i64 0, .int .i64 0, .slice none 0 0]) ?_ 3 _ rfl; refine BD ?_; refine blk_put (cs := #[.int .i64 ((rd_T50 l0 aA).f0), .int .i64 ((rd_T50 l0 aA).f1), .string (⟨#[]⟩ : ByteArray), .string (⟨#[]⟩ : ByteArray), .int .i64 0, .int .i64 0, .int .i64 0, .int .i64 0, .int .i64 0, .int .i64 0, .slice none 0 0]) ?_ 2 _ rfl; refine BD ?_; refine blk_put (cs := #[.int .i64 ((rd_T50 l0 aA).f0), .int .i64 0, .string (⟨#[]⟩ : ByteArray), .string (⟨#[]⟩ : ByteArray), .int .i64 0, .int .i64 0, .int .i64 0, .int .i64 0, .int .i64 0, .int .i64 0, .slice none 0 0]) ?_ 1 _ rfl; refine BD ?_; refine blk_put (cs := #[.int .i64 0, .int .i64 0, .string (⟨#[]⟩ : ByteArray), .string (⟨#[]⟩ : ByteArray), .int .i64 0, .int .i64 0, .int .i64 0, .int .i64 0, .int .i64 0, .int .i64 0, .slice none 0 0]) ?_ 0 _ rfl; refine BD ?_; exact aG.out) hb); replace HB := bl (K1 HB aI.out) hb; (try clear hb); (try clear hb2); (try clear hk); (try clear hi); (try clear cL); obtain ⟨bV, bW, cM⟩ := Kd.R_slice bD.out; subst cM) | ((with_reducible refine gate_builtin (b := .append) (xs := #[.tmp 12, .tmp 15]) rfl ?_); at_builtin; refine Kd.S_append k50 (w0 := w) w.heap.size rfl (.tmp 12) (.tmp 15) 34 50 (.agg #[(.int .i64 0), (.int .i64 0), (.string ⟨#[]⟩), (.string ⟨#[]⟩), (.int .i64 0), (.int .i64 0), (.int .i64 0), (.int .i64 0), (.int .i64 0), (.int .i64 0), (.slice none 0 0)]) 120 rfl Tryz.underlying34 info50 rfl (by decide) (by omega) u3 aJ (⟨bE, bF, bG, bH, bI, bJ, bK, bL, bM, (⟨bN, aR⟩ : S48)⟩ : S50) [.int .i64 bE, .int .i64 bF, .string bG, .string bH, .int .i64 bI, .int .i64 bJ, .int .i64 bK, .int .i64 bL, .int .i64 bM, .int .i64 bN, .slice bV aR.length bW] (fun k_ => k_ ≠ aC) (fun k_ => some k_ = (.slice bV aR.length bW : Value).ownBlock) rfl rfl ?aP (fun k_ hk_ => ((Kd.R_mono (ok' := fun k_ => ((fun k_ => k_ ≠ aC)) k_ ∧ some k_ ≠ (u3 : Value).ownBlock) (Kd.R_types (Kd.R_apart' (bD.out) (Kd.S_typed aH.out) (by decide)) aG.out (by decide)) (fun k_ hk => ⟨hk.2, hk.1.2⟩))).1 k_ hk_.symm) ?aF ?aO ?aB ?aS ?aL ?_; (case aP => exact k50_mkM _ _ _ (⟨bE, bF, bG, bH, bI, bJ, bK, bL, bM, (⟨bN, aR⟩ : S48)⟩ : S50) (Kd.R_mono (Kd.R_tight rfl (Kd.R_mono (ok' := fun k_ => ((fun k_ => k_ ≠ aC)) k_ ∧ some k_ ≠ (u3 : Value).ownBlock) (Kd.R_types (Kd.R_apart' (bD.out) (Kd.S_typed aH.out) (by decide)) aG.out (by decide)) (fun k_ hk => ⟨hk.2, hk.1.2⟩))) (fun _ h_ => h_))); (case aB => exact (K1 HB aI.out)); (case aF => exact (fun k_ hk => Kd.freshB (g := aC) (o := .cells #[.int .i64 ((rd_T50 l0 aA).f0), .int .i64 ((rd_T50 l0 aA).f1), .string ((rd_T50 l0 aA).f2), .string ((rd_T50 l0 aA).f3), .int .i64 ((rd_T50 l0 aA).f4), .int .i64 ((rd_T50 l0 aA).f5), .int .i64 ((rd_T50 l0 aA).f6), .int .i64 ((rd_T50 l0 aA).f7), .int .i64 ((rd_T50 l0 aA).f8), .int .i64 ((rd_T50 l0 aA).f9.f0), .slice aD ((rd_T50 l0 aA).f9.f1).length aE] 50 (0, 0)) (KB aG) k_ hk)); (case aO => exact (by refine KX ?_; exact Kd.S_mono aH.out (fun k_ hk => ⟨hk.1.2, fun e_ => hk.2 e_⟩))); (case aS => exact (below_size (K1 HB aI.out))); (case aL => have := LMc6.out; omega); intro cU cW ho hb hg hat; rw [← Ny116.out] at ho; replace aG := am (blk_grown (g := aC) (o := .cells #[.int .i64 ((rd_T50 l0 aA).f0), .int .i64 ((rd_T50 l0 aA).f1), .string ((rd_T50 l0 aA).f2), .string ((rd_T50 l0 aA).f3), .int .i64 ((rd_T50 l0 aA).f4), .int .i64 ((rd_T50 l0 aA).f5), .int .i64 ((rd_T50 l0 aA).f6), .int .i64 ((rd_T50 l0 aA).f7), .int .i64 ((rd_T50 l0 aA).f8), .int .i64 ((rd_T50 l0 aA).f9.f0), .slice aD ((rd_T50 l0 aA).f9.f1).length aE] 50 (0, 0)) (KB aG) hg (Kd.S_away aH.out (fun _ hk => hk.1.2))); replace HB := am (hb); have bX := am (ho); clear aH bD; clear ho hb hg hat))
       go_roundg k1
       case measure => have := HK1.out; omega
       case rel => exact ⟨(bS), (wrap64 (aA + 1)), (by first | rfl | (simp; done) | (simp [*]; done)), H', ⟨by have := HK1.out; omega⟩, ⟨by refine KX ?_; exact Kd.S_mono bX.out (fun _ hk => trivial)⟩, ⟨K1 HB aI.out⟩⟩
      ·rw [if_neg c6] at H
       exact absurd H (by simp)
     ·rw [if_neg c4] at H
      exact absurd H (by simp)
    ·rw [if_neg c3] at H
     exact absurd H (by simp)
   ·rw [if_neg c2] at H
    have c2b0 : decide (aA < (l0.length : Int)) = false := decide_eq_false c2
    clear c2
    obtain rfl := sj H
    go_wp2
    go_ret
    exact ⟨_, ER, by refine KX ?_; exact aH.out, KL HB⟩
def impl_Gate_copied.f (k : Nat) (a0_0 : Int) (l0_1 : List (S77)) (a0_2 : Int) (l0_3 : List (S91)) (l0_4 : List (S50)) (l0_5 : List (S50)) : Option (Int × (List (S77)) × Int × (List (S91)) × (List (S50)) × (List (S50))) := (slices_Clone_Rule.f l0_1).bind fun t103 => ((slices_Clone_Seen.f l0_3).bind fun t106 => ((impl_copies.f k l0_4).bind fun t109 => ((impl_copies.f k l0_5).bind fun t112 => (some (a0_0, t103, a0_2, t106, t109, t112)))))
def impl_Gate_copied.T1 : Bool × List (List Nat × List Nat) := (true, [([], []), ([0], [0]), ([], []), ([2], [2]), ([3], [3]), ([], []), ([5], [5]), ([6], [6]), ([], []), ([8], [8]), ([9], [9]), ([10, 4], [10]), ([7, 11], [7, 11]), ([], []), ([13], [13]), ([14, 11], [14]), ([], []), ([16], [16]), ([17, 15], [17]), ([1, 4, 12, 15, 18], [1, 4, 12, 15, 18]), ([19, 18, 0, 1, 2, 3, 4, 5, 6, 7, 8, 9, 10, 11, 12, 13, 14, 15, 16, 17, 18, 19], [19])])
def impl_Gate_copied.B1 : List Nat := [0, 1, 0, 4, 12, 0, 32, 96, 0, 256, 768, 1820, 4092, 0, 8192, 28444, 0, 65536, 257820, 524287, 1048575]
theorem impl_Gate_copied.tab1 : rtab .any (opsOf Tryz.f21 1) = impl_Gate_copied.T1 := by kernel_rfl
theorem impl_Gate_copied.bits1 : waitsOk impl_Gate_copied.T1.2 impl_Gate_copied.B1 = true := by kernel_rfl
theorem impl_Gate_copied.calls (k : Nat) (aG : Int) (bC : Option Addr) (bD : Nat) (aT : List (S77)) (aH : Int) (bE : Option Addr) (bF : Nat) (aR : List (S91)) (bG : Option Addr) (bH : Nat) (aQ : List (S50)) (bI : Option Addr) (bJ : Nat) (aO : List (S50)) (r1 : Int) (r2 : List (S77)) (r3 : Int) (r4 : List (S91)) (r5 : List (S50)) (r6 : List (S50)) (w : World) (bO : Kd.C k77 w bC aT.length aT) (bP : aT.length ≤ bD) (bQ : Kd.C k91 w bE aR.length aR) (bR : aR.length ≤ bF) (bS : Kd.C k50 w bG aQ.length aQ) (bT : aQ.length ≤ bH) (bU : Kd.C k50 w bI aO.length aO) (bV : aO.length ≤ bJ) (h : impl_Gate_copied.f k aG aT aH aR aQ aO = some (r1, r2, r3, r4, r5, r6)) :
  Calls Tryz.prog 21 #[.agg #[.int .i64 aG, .slice bC aT.length bD, .int .i64 aH, .slice bE aR.length bF, .slice bG aQ.length bH, .slice bI aO.length bJ]] w fun e w' => ∃ v1_ v3_ v4_ v5_ : Value, e = .returned (.agg #[.int .i64 r1, v1_, .int .i64 r3, v3_, v4_, v5_]) ∧ Kd.R k77 77 w' w.heap.size (fun _ => True) v1_ r2 ∧ Kd.R k91 91 w' w.heap.size (fun _ => True) v3_ r4 ∧ (∃ N_, Kd.S k50 50 w' w.heap.size (fun k_ => k_ < N_) v4_ r5 ∧ Kd.S k50 50 w' w.heap.size (fun k_ => N_ ≤ k_) v5_ r6) ∧ Below w.heap.size w w' := by
 have cS := Tryz.underlying36
 have cT := Tryz.underlying33
 have bZ := Aside0.mk bO
 have cA := Aside0.mk bP
 clear bO bP
 have cB := Aside0.mk bQ
 have cC := Aside0.mk bR
 clear bQ bR
 have cD := Aside0.mk bS
 have cE := Aside0.mk bT
 clear bS bT
 have cF := Aside0.mk bU
 have cG := Aside0.mk bV
 clear bU bV
 have HB := am (Below.refl w.heap.size w)
 have H : ((slices_Clone_Rule.f aT).bind fun aJ => ((slices_Clone_Seen.f aR).bind fun aK => ((impl_copies.f k aQ).bind fun aL => ((impl_copies.f k aO).bind fun aM => (some (aG, aJ, aH, aK, aL, aM)))))) = some (r1, r2, r3, r4, r5, r6) := h
 clear h
 replace H := bm H
 obtain ⟨aJ, cO, H⟩ := H
 replace H : ((slices_Clone_Seen.f aR).bind fun aK => ((impl_copies.f k aQ).bind fun aL => ((impl_copies.f k aO).bind fun aM => (some (aG, aJ, aH, aK, aL, aM))))) = some (r1, r2, r3, r4, r5, r6) := H
 have A2 := Aside0.mk cO
 clear cO
 replace H := bm H
 obtain ⟨aK, cP, H⟩ := H
 replace H : ((impl_copies.f k aQ).bind fun aL => ((impl_copies.f k aO).bind fun aM => (some (aG, aJ, aH, aK, aL, aM)))) = some (r1, r2, r3, r4, r5, r6) := H
 have A3 := Aside0.mk cP
 clear cP
 replace H := bm H
 obtain ⟨aL, cQ, H⟩ := H
 replace H : ((impl_copies.f k aO).bind fun aM => (some (aG, aJ, aH, aK, aL, aM))) = some (r1, r2, r3, r4, r5, r6) := H
 have A4 := Aside0.mk cQ
 clear cQ
 replace H := bm H
 obtain ⟨aM, cR, H⟩ := H
 replace H : (some (aG, aJ, aH, aK, aL, aM)) = some (r1, r2, r3, r4, r5, r6) := H
 have A5 := Aside0.mk cR
 clear cR
 simp only [Option.some.injEq, Prod.mk.injEq] at H
 obtain ⟨rfl, rfl, rfl, rfl, rfl, rfl⟩ := H
 go_enter Tryz.func21, Tryz.ntmps21
 try go_wp2_with (first | ((with_reducible refine gate_dst (N := 1) rfl ?_); refine box_event rfl (N := 1) rfl (cs := #[.int .i64 aG, .slice bC aT.length bD, .int .i64 aH, .slice bE aR.length bF, .slice bG aQ.length bH, .slice bI aO.length bJ]) (t := 36) BX ?_; intro cH hg w6 bK hb; have aC := am (bK); have cI := am (GH HB hg); have aI := cI; replace HB := bl (KL HB) hb; clear hb bK hg) | ((with_reducible refine gate_dst (N := 2) rfl ?_); refine box_event rfl (N := 2) rfl (cs := #[.int .i64 0, .slice none 0 0, .int .i64 0, .slice none 0 0, .slice none 0 0, .slice none 0 0]) (t := 36) BX ?_; intro aB hg w7 bK hb; have aD := am (bK); have cJ := am (GH1 HB aI.out hg); have aN := cJ; replace HB := bl (K1 HB aI.out) hb; have aA := am (NL aC hg); have aF := am (NG aC hg); replace aC := am (BB aC hb); clear hb bK hg))
 replace aC := am (blk_drew aC.out)
 replace aD := am (blk_drew aD.out)
 replace HB := am (below_drew1 HB.out)
 refine start_ (n := 21) (S := fun w' => de6 w' cH (.int .i64 aG) (.slice bC aT.length bD) (.int .i64 aH) (.slice bE aR.length bF) (.slice bG aQ.length bH) (.slice bI aO.length bJ)) (ds := []) (tf 0 21) (by kernel_rfl) rfl rfl ⟨z0 _ aC.out, z1 _ aC.out, z2 _ aC.out, z3 _ aC.out, z4 _ aC.out, z5 _ aC.out⟩ (fun aE => ?_); refine with_tabW impl_Gate_copied.tab1 impl_Gate_copied.bits1 (fun aS bX => ?_)
 generalize w7.drew = w8 at aC aD HB aE ⊢
 refine pv aS 0 3 (tf 1 20) ?_
 refine pv aS 2 5 (tr [1, 1, 1, 18]) ?_
 refine pv aS 5 8 (tr [1, 1, 1, 2, 1, 15]) ?_
 refine pv aS 6 9 (tr [1, 1, 1, 2, 2, 14]) ?_
 refine pv aS 8 11 (tr [1, 1, 1, 2, 2, 1, 1, 12]) ?_
 refine pv aS 9 12 (tr [1, 1, 1, 2, 2, 1, 2, 11]) ?_
 refine pv aS 13 16 (tr [1, 1, 1, 2, 2, 1, 2, 3, 1, 7]) ?_
 refine pv aS 16 19 (tr [1, 1, 1, 2, 2, 1, 2, 3, 1, 2, 1, 4]) ?_
 refine tk 1 (some 4) (tr [3, 2, 2, 1, 2, 3, 1, 2, 1, 4]) (take_ofW aS.out bX.out (by kernel_rfl)) aE ?_
 refine tk 3 (some 6) (tr [4, 1, 2, 1, 2, 3, 1, 2, 1, 4]) (take_ofW aS.out bX.out (by kernel_rfl)) aE ?_
 refine tk 7 (some 10) (tr [4, 1, 5, 3, 1, 2, 1, 4]) (take_ofW aS.out bX.out (by kernel_rfl)) aE ?_
 refine tk 10 (some 13) (tr [4, 1, 6, 2, 1, 2, 1, 4]) (take_ofW aS.out bX.out (by kernel_rfl)) aE ?_
 refine tk 14 (some 17) (tr [4, 1, 6, 2, 2, 1, 1, 4]) (take_ofW aS.out bX.out (by kernel_rfl)) aE ?_
 refine tk 17 (some 20) (tr [4, 1, 6, 2, 2, 1, 2, 3]) (take_ofW aS.out bX.out (by kernel_rfl)) aE ?_
 refine one_ (i := 4) (N := some 7) (tr [11, 2, 2, 1, 2, 3]) rfl rfl (one_of aS.out (by kernel_rfl)) (by decide) (fun K hK => ?_)
 refine goes_ Tryz.func49 (by kernel_rfl) rfl #[.slice bC aT.length bD] (by rfl) rfl rfl MT ?_
 with_reducible refine (slices_Clone_Rule.calls _ _ aT aJ _ ?_ ?_ A2.out).mono ?_
 exact KD bZ HB
 exact cA.out
 rintro e w9 ⟨cU, rfl, bL, hb⟩
 refine ⟨_, rfl, ?_⟩
 have aP := am (Kd.R_lower bL (below_size (K2 HB aI.out aN.out)))
 replace aC := am (BB aC hb)
 replace aD := am (BB aD hb)
 replace HB := bl (K2 HB aI.out aN.out) hb
 (try clear hb)
 (try clear hb2)
 (try clear hk)
 (try clear hi)
 (try clear bL)
 refine hK.out _ _ ⟨z0 _ aC.out, z1 _ aC.out, z2 _ aC.out, z3 _ aC.out, z4 _ aC.out, z5 _ aC.out⟩ (fun aE => ?_)
 clear hK K
 refine nm (some 7) ?_
 refine one_ (i := 11) (N := some 14) (tr [12, 1, 2, 1, 2, 3]) rfl rfl (one_of aS.out (by kernel_rfl)) (by decide) (fun K hK => ?_)
 refine goes_ Tryz.func50 (by kernel_rfl) rfl #[.slice bE aR.length bF] (by rfl) rfl rfl MT ?_
 with_reducible refine (slices_Clone_Seen.calls _ _ aR aK _ ?_ ?_ A3.out).mono ?_
 exact KD cB HB
 exact cC.out
 rintro e cZ ⟨cV, rfl, bL, hb⟩
 refine ⟨_, rfl, ?_⟩
 replace aP := am (Kd.R_below (KR aP) hb)
 have aU := am (Kd.R_lower bL (below_size (K2 HB aI.out aN.out)))
 replace aC := am (BB aC hb)
 replace aD := am (BB aD hb)
 replace HB := bl (K2 HB aI.out aN.out) hb
 (try clear hb)
 (try clear hb2)
 (try clear hk)
 (try clear hi)
 (try clear bL)
 obtain ⟨aX, aY, cK⟩ := Kd.R_slice aU.out
 (first | subst cK | (injection cK with f1_ f2_ f3_; have f4_ := f1_.symm; have f5_ := f3_.symm; clear f1_ f2_ f3_; subst f4_; subst f5_))
 refine hK.out _ _ ⟨z0 _ aC.out, z1 _ aC.out, z2 _ aC.out, z3 _ aC.out, z4 _ aC.out, z5 _ aC.out⟩ (fun aE => ?_)
 clear hK K
 refine nm (some 14) ?_
 refine pv aS 12 15 (tr [15, 1, 2, 3]) ?_
 refine one_ (i := 15) (N := some 18) (tf 18 3) rfl rfl (one_of aS.out (by kernel_rfl)) (by decide) (fun K hK => ?_)
 refine goes_ Tryz.func51 (by kernel_rfl) rfl #[.slice bG aQ.length bH] (by rfl) rfl rfl MT ?_
 with_reducible refine (impl_copies.calls k _ _ aQ aL _ ?_ ?_ A4.out).mono ?_
 exact KD cD HB
 exact cE.out
 rintro e cW ⟨cX, rfl, bL, hb⟩
 refine ⟨_, rfl, ?_⟩
 replace aP := am (Kd.R_below (KR aP) hb)
 replace aU := am (Kd.R_below (KR aU) hb)
 have aZ := am (Kd.S_lower bL (below_size (K2 HB aI.out aN.out)))
 replace aC := am (BB aC hb)
 replace aD := am (BB aD hb)
 replace HB := bl (K2 HB aI.out aN.out) hb
 (try clear hb)
 (try clear hb2)
 (try clear hk)
 (try clear hi)
 (try clear bL)
 refine hK.out _ _ ⟨z0 _ aC.out, z1 _ aC.out, z2 _ aC.out, z3 _ aC.out, z4 _ aC.out, z5 _ aC.out⟩ (fun aE => ?_)
 clear hK K
 refine nm (some 18) ?_
 refine one_ (i := 18) (N := some 21) (tf 19 2) rfl rfl (one_of aS.out (by kernel_rfl)) (by decide) (fun K hK => ?_)
 refine goes_ Tryz.func51 (by kernel_rfl) rfl #[.slice bI aO.length bJ] (by rfl) rfl rfl MT ?_
 with_reducible refine (impl_copies.calls k _ _ aO aM _ ?_ ?_ A5.out).mono ?_
 exact KD cF HB
 exact cG.out
 rintro e bY ⟨cY, rfl, bL, hb⟩
 refine ⟨_, rfl, ?_⟩
 replace aP := am (Kd.R_below (KR aP) hb)
 replace aU := am (Kd.R_below (KR aU) hb)
 have bW := am (Kd.S_lower (Kd.S_mono (Kd.S_bound bL) (fun _ hk => hk.2.1)) (below_size (K2 HB aI.out aN.out)))
 replace aZ := am (Kd.S_mono (Kd.S_old (KX aZ.out) hb) (fun _ hk => hk.2))
 replace aC := am (BB aC hb)
 replace aD := am (BB aD hb)
 replace HB := bl (K2 HB aI.out aN.out) hb
 (try clear hb)
 (try clear hb2)
 (try clear hk)
 (try clear hi)
 (try clear bL)
 obtain ⟨bM, bN, cL⟩ := Kd.S_slice bW.out
 (first | subst cL | (injection cL with f1_ f2_ f3_; have f4_ := f1_.symm; have f5_ := f3_.symm; clear f1_ f2_ f3_; subst f4_; subst f5_))
 obtain ⟨bA, bB, cM⟩ := Kd.S_slice aZ.out
 (first | subst cM | (injection cM with f1_ f2_ f3_; have f4_ := f1_.symm; have f5_ := f3_.symm; clear f1_ f2_ f3_; subst f4_; subst f5_))
 obtain ⟨aV, aW, cN⟩ := Kd.R_slice aP.out
 (first | subst cN | (injection cN with f1_ f2_ f3_; have f4_ := f1_.symm; have f5_ := f3_.symm; clear f1_ f2_ f3_; subst f4_; subst f5_))
 refine hK.out _ _ ⟨z0 _ aC.out, z1 _ aC.out, z2 _ aC.out, z3 _ aC.out, z4 _ aC.out, z5 _ aC.out⟩ (fun aE => ?_)
 clear hK K
 refine nm (some 21) ?_
 refine pv aS 19 22 (tf 20 1) ?_
 refine one_ (i := 20) (N := none) (tf 21 0) rfl rfl (one_of aS.out (by kernel_rfl)) (by decide) (fun K hK => ?_)
 have hs17 : bY.cell? ⟨aB, 0, none⟩ = some (.int .i64 0) := z0 _ aD.out
 have hfs17 := blk_frozen aD.out 0
 have hns17_0 := aA.out
 have hms17_0 := aF.out
 have hs18 : bY.cell? ⟨aB, 1, none⟩ = some (.slice none 0 0) := z1 _ aD.out
 have hfs18 := blk_frozen aD.out 1
 have hns18_0 := aA.out
 have hms18_0 := aF.out
 have hs19 : bY.cell? ⟨aB, 2, none⟩ = some (.int .i64 0) := z2 _ aD.out
 have hfs19 := blk_frozen aD.out 2
 have hns19_0 := aA.out
 have hms19_0 := aF.out
 have hs20 : bY.cell? ⟨aB, 3, none⟩ = some (.slice none 0 0) := z3 _ aD.out
 have hfs20 := blk_frozen aD.out 3
 have hns20_0 := aA.out
 have hms20_0 := aF.out
 have hs21 : bY.cell? ⟨aB, 4, none⟩ = some (.slice none 0 0) := z4 _ aD.out
 have hfs21 := blk_frozen aD.out 4
 have hns21_0 := aA.out
 have hms21_0 := aF.out
 have hs22 : bY.cell? ⟨aB, 5, none⟩ = some (.slice none 0 0) := z5 _ aD.out
 have hfs22 := blk_frozen aD.out 5
 have hns22_0 := aA.out
 have hms22_0 := aF.out
 refine skip_ (w1 := ?_) (by rfl) rfl ?_ ?_
 rotate_left
 ·go_simp
  rfl
 refine hK.out _ _ ⟨((cell_far (p := ⟨aB, _, none⟩) aA.out _).trans (((cell_far (p := ⟨aB, _, none⟩) aA.out _).trans (((cell_far (p := ⟨aB, _, none⟩) aA.out _).trans (((cell_far (p := ⟨aB, _, none⟩) aA.out _).trans (((cell_far (p := ⟨aB, _, none⟩) aA.out _).trans (((cell_far (p := ⟨aB, _, none⟩) aA.out _).trans (aE.1)))))))))))), ((cell_far (p := ⟨aB, _, none⟩) aA.out _).trans (((cell_far (p := ⟨aB, _, none⟩) aA.out _).trans (((cell_far (p := ⟨aB, _, none⟩) aA.out _).trans (((cell_far (p := ⟨aB, _, none⟩) aA.out _).trans (((cell_far (p := ⟨aB, _, none⟩) aA.out _).trans (((cell_far (p := ⟨aB, _, none⟩) aA.out _).trans (aE.2.1)))))))))))), ((cell_far (p := ⟨aB, _, none⟩) aA.out _).trans (((cell_far (p := ⟨aB, _, none⟩) aA.out _).trans (((cell_far (p := ⟨aB, _, none⟩) aA.out _).trans (((cell_far (p := ⟨aB, _, none⟩) aA.out _).trans (((cell_far (p := ⟨aB, _, none⟩) aA.out _).trans (((cell_far (p := ⟨aB, _, none⟩) aA.out _).trans (aE.2.2.1)))))))))))), ((cell_far (p := ⟨aB, _, none⟩) aA.out _).trans (((cell_far (p := ⟨aB, _, none⟩) aA.out _).trans (((cell_far (p := ⟨aB, _, none⟩) aA.out _).trans (((cell_far (p := ⟨aB, _, none⟩) aA.out _).trans (((cell_far (p := ⟨aB, _, none⟩) aA.out _).trans (((cell_far (p := ⟨aB, _, none⟩) aA.out _).trans (aE.2.2.2.1)))))))))))), ((cell_far (p := ⟨aB, _, none⟩) aA.out _).trans (((cell_far (p := ⟨aB, _, none⟩) aA.out _).trans (((cell_far (p := ⟨aB, _, none⟩) aA.out _).trans (((cell_far (p := ⟨aB, _, none⟩) aA.out _).trans (((cell_far (p := ⟨aB, _, none⟩) aA.out _).trans (((cell_far (p := ⟨aB, _, none⟩) aA.out _).trans (aE.2.2.2.2.1)))))))))))), ((cell_far (p := ⟨aB, _, none⟩) aA.out _).trans (((cell_far (p := ⟨aB, _, none⟩) aA.out _).trans (((cell_far (p := ⟨aB, _, none⟩) aA.out _).trans (((cell_far (p := ⟨aB, _, none⟩) aA.out _).trans (((cell_far (p := ⟨aB, _, none⟩) aA.out _).trans (((cell_far (p := ⟨aB, _, none⟩) aA.out _).trans (aE.2.2.2.2.2))))))))))))⟩ (fun aE => ?_)
 clear hK K
 refine done_ (done_of aS.out (by kernel_rfl)) ?_
 try go_wp2
 refine bodyPost_ret (results_cell_row rfl _ _ aB 36 #[.int .i64 aG, .slice aV aJ.length aW, .int .i64 aH, .slice aX aK.length aY, .slice bA aL.length bB, .slice bM aM.length bN] (0, 0) _ rfl (by refine BD ?_; refine blk_put (cs := #[.int .i64 aG, .slice aV aJ.length aW, .int .i64 aH, .slice aX aK.length aY, .slice bA aL.length bB, .slice none 0 0]) ?_ 5 _ rfl; refine BD ?_; refine blk_put (cs := #[.int .i64 aG, .slice aV aJ.length aW, .int .i64 aH, .slice aX aK.length aY, .slice none 0 0, .slice none 0 0]) ?_ 4 _ rfl; refine BD ?_; refine blk_put (cs := #[.int .i64 aG, .slice aV aJ.length aW, .int .i64 aH, .slice none 0 0, .slice none 0 0, .slice none 0 0]) ?_ 3 _ rfl; refine BD ?_; refine blk_put (cs := #[.int .i64 aG, .slice aV aJ.length aW, .int .i64 0, .slice none 0 0, .slice none 0 0, .slice none 0 0]) ?_ 2 _ rfl; refine BD ?_; refine blk_put (cs := #[.int .i64 aG, .slice none 0 0, .int .i64 0, .slice none 0 0, .slice none 0 0, .slice none 0 0]) ?_ 1 _ rfl; refine BD ?_; refine blk_put (cs := #[.int .i64 0, .slice none 0 0, .int .i64 0, .slice none 0 0, .slice none 0 0, .slice none 0 0]) ?_ 0 _ rfl; refine BD ?_; exact aD.out) Tryz.underlying36 rfl (by kernel_rfl)) rfl ?_
 exact ⟨_, _, _, _, ER, by refine KW ?_; exact Kd.R_mono (Kd.R_far (p := ⟨aB, 5, none⟩) (Kd.R_far (p := ⟨aB, 4, none⟩) (Kd.R_far (p := ⟨aB, 3, none⟩) (Kd.R_far (p := ⟨aB, 2, none⟩) (Kd.R_far (p := ⟨aB, 1, none⟩) (Kd.R_far (p := ⟨aB, 0, none⟩) (Kd.R_types aP.out aD.out (by decide)) (fun _ hk => hk.2) (.int .i64 aG)) (fun _ hk => hk.2) (.slice aV aJ.length aW)) (fun _ hk => hk.2) (.int .i64 aH)) (fun _ hk => hk.2) (.slice aX aK.length aY)) (fun _ hk => hk.2) (.slice bA aL.length bB)) (fun _ hk => hk.2) (.slice bM aM.length bN)) (fun _ hk => trivial), by refine KW ?_; exact Kd.R_mono (Kd.R_far (p := ⟨aB, 5, none⟩) (Kd.R_far (p := ⟨aB, 4, none⟩) (Kd.R_far (p := ⟨aB, 3, none⟩) (Kd.R_far (p := ⟨aB, 2, none⟩) (Kd.R_far (p := ⟨aB, 1, none⟩) (Kd.R_far (p := ⟨aB, 0, none⟩) (Kd.R_types aU.out aD.out (by decide)) (fun _ hk => hk.2) (.int .i64 aG)) (fun _ hk => hk.2) (.slice aV aJ.length aW)) (fun _ hk => hk.2) (.int .i64 aH)) (fun _ hk => hk.2) (.slice aX aK.length aY)) (fun _ hk => hk.2) (.slice bA aL.length bB)) (fun _ hk => hk.2) (.slice bM aM.length bN)) (fun _ hk => trivial), ⟨cW.heap.size, by refine KX ?_; exact Kd.S_mono (Kd.S_far (p := ⟨aB, 5, none⟩) (Kd.S_far (p := ⟨aB, 4, none⟩) (Kd.S_far (p := ⟨aB, 3, none⟩) (Kd.S_far (p := ⟨aB, 2, none⟩) (Kd.S_far (p := ⟨aB, 1, none⟩) (Kd.S_far (p := ⟨aB, 0, none⟩) (Kd.S_types aZ.out aD.out (by decide)) (fun _ hk => hk.2) (.int .i64 aG)) (fun _ hk => hk.2) (.slice aV aJ.length aW)) (fun _ hk => hk.2) (.int .i64 aH)) (fun _ hk => hk.2) (.slice aX aK.length aY)) (fun _ hk => hk.2) (.slice bA aL.length bB)) (fun _ hk => hk.2) (.slice bM aM.length bN)) (fun _ hk => hk.1), by refine KX ?_; exact Kd.S_mono (Kd.S_far (p := ⟨aB, 5, none⟩) (Kd.S_far (p := ⟨aB, 4, none⟩) (Kd.S_far (p := ⟨aB, 3, none⟩) (Kd.S_far (p := ⟨aB, 2, none⟩) (Kd.S_far (p := ⟨aB, 1, none⟩) (Kd.S_far (p := ⟨aB, 0, none⟩) (Kd.S_types bW.out aD.out (by decide)) (fun _ hk => hk.2) (.int .i64 aG)) (fun _ hk => hk.2) (.slice aV aJ.length aW)) (fun _ hk => hk.2) (.int .i64 aH)) (fun _ hk => hk.2) (.slice aX aK.length aY)) (fun _ hk => hk.2) (.slice bA aL.length bB)) (fun _ hk => hk.2) (.slice bM aM.length bN)) (fun _ hk => hk.1)⟩, K2 HB aI.out aN.out⟩
def impl_Sa_late.f (a0_0 : Int) (a0_1 : Int) (a0_2 : ByteArray) (a0_3 : ByteArray) (a0_4 : Int) (a0_5 : Int) (a0_6 : Int) (a0_7 : Int) (a0_8 : Int) (a0_9 : Int) (l0_10 : List Int) (a1 : Int) : Option (Bool) := some (decide (a1 ≥ (wrap64 (a0_4 + (wrap64 (2 * a0_7))))))
theorem impl_Sa_late.calls (aH : Int) (aI : Int) (aJ : ByteArray) (aK : ByteArray) (aF : Int) (aL : Int) (aM : Int) (aG : Int) (aN : Int) (aO : Int) (aB : Option Addr) (aC : Nat) (aA : List Int) (a1 : Int) (r : Bool) (w : World) (aD : Kd.C (Kd.int .i64) w aB aA.length aA) (aE : aA.length ≤ aC) (h : impl_Sa_late.f aH aI aJ aK aF aL aM aG aN aO aA a1 = some r) :
  Calls Tryz.prog 24 #[.agg #[.int .i64 aH, .int .i64 aI, .string aJ, .string aK, .int .i64 aF, .int .i64 aL, .int .i64 aM, .int .i64 aG, .int .i64 aN, .int .i64 aO, .slice aB aA.length aC], .int .i64 a1] w fun e w' => e = .returned (.bool r) ∧ Below w.heap.size w w' := by
 have bI := Tryz.underlying50
 have aU := Aside0.mk aD
 have aV := Aside0.mk aE
 clear aD aE
 have HB := am (Below.refl w.heap.size w)
 have H : (some (decide (a1 ≥ (wrap64 (aF + (wrap64 (2 * aG))))))) = some r := h
 clear h
 obtain rfl := sj H
 go_enter Tryz.func24, Tryz.ntmps24
 go_wp2_with (first | ((with_reducible refine gate_dst (N := 2) rfl ?_); refine box_event rfl (N := 2) rfl (cs := #[.int .i64 aH, .int .i64 aI, .string aJ, .string aK, .int .i64 aF, .int .i64 aL, .int .i64 aM, .int .i64 aG, .int .i64 aN, .int .i64 aO, .slice aB aA.length aC]) (t := 50) BX ?_; intro bH hg w3 aP hb; have aQ := am (aP); have aR := am (GH HB hg); have aS := aR; replace HB := bl (KL HB) hb; clear hb aP hg; have ⟨_, _, _, _, _, _, _, _, _, _, _, _⟩ := y11 w3 aQ.out))
 go_ret
 exact ⟨ER, K1 HB aS.out⟩
def laws_markText.l0 : Nat → Int → ByteArray → Option (ByteArray)
 | 0, _, _ => none
 | k + 1, x0, x3 => if x0 > 0 then ((some (([(wrap64 (48 + (Int.tmod x0 10))) % 256] : List Int) : List Int)).bind fun y101 => (if (strOfNums y101).size + x3.size ≤ 9223372036854775807 then (laws_markText.l0 k (wrap64 (Int.tdiv x0 10)) ((strOfNums y101) ++ x3)) else (none))) else (if 1 + x3.size ≤ 9223372036854775807 then (some ((⟨#[109]⟩ : ByteArray) ++ x3)) else (none))
def laws_markText.f (k : Nat) (a0 : Int) : Option (ByteArray) := if a0 ≤ 0 then (some (⟨#[109, 48]⟩ : ByteArray)) else (laws_markText.l0 k a0 (⟨#[]⟩ : ByteArray))
theorem laws_markText.calls (k : Nat) (a0 : Int) (r : ByteArray) (w : World) (h : laws_markText.f k a0 = some r) :
  Calls Tryz.prog 57 #[.int .i64 a0] w fun e w' => e = .returned (.string r) ∧ Below w.heap.size w w' := by
 have HB := am (Below.refl w.heap.size w)
 have H : (if a0 ≤ 0 then (some (⟨#[109, 48]⟩ : ByteArray)) else (laws_markText.l0 k a0 (⟨#[]⟩ : ByteArray))) = some r := h
 clear h
 by_cases c2 : a0 ≤ 0
 ·rw [if_pos c2] at H
  have c2b0 : decide (a0 ≤ 0) = true := decide_eq_true c2
  clear c2
  obtain rfl := sj H
  go_enter Tryz.func57, Tryz.ntmps57
  go_wp2
  go_ret
  exact ⟨ER, KL HB⟩
 ·rw [if_neg c2] at H
  have c2b0 : decide (a0 ≤ 0) = false := decide_eq_false c2
  clear c2
  have H' := Aside0.mk H
  clear H
  go_enter Tryz.func57, Tryz.ntmps57
  go_wp2
  go_loopg [0, 3] k (fun kq v0 v3 w' => ∃ (aA : Int) (aB : ByteArray), v0 = .int .i64 aA ∧ v3 = .string aB ∧ Aside0 (laws_markText.l0 kq aA aB = some r) ∧ Aside0 (kq ≤ k) ∧ Aside0 (Below w.heap.size w w'))
  case atStart => exact ⟨(a0), ((⟨#[]⟩ : ByteArray)), (by first | rfl | (simp; done) | (simp [*]; done)), (by first | rfl | (simp; done) | (simp [*]; done)), H', ⟨Nat.le_refl _⟩, ⟨KL HB⟩⟩
  case round =>
   clear H'
   try clear c2
   try clear c2b0
   try clear p2
   obtain ⟨aA, aB, rfl, rfl, HA, HK1, HB⟩ := hrel
   cases gk with
   | zero => exact absurd HA.out (by simp [laws_markText.l0])
   | succ k1 =>
    have H := HA.out
    clear HA
    simp only [laws_markText.l0] at H
    by_cases c3 : aA > 0
    ·rw [if_pos c3] at H
     have c3b0 : decide (0 < aA) = true := decide_eq_true c3
     clear c3
     obtain ⟨aD, aC⟩ : ∃ y_ : List Int, y_ = (([(wrap64 (48 + (Int.tmod aA 10))) % 256] : List Int)) := ⟨_, rfl⟩
     replace H : (if (strOfNums aD).size + aB.size ≤ 9223372036854775807 then (laws_markText.l0 k1 (wrap64 (Int.tdiv aA 10)) ((strOfNums aD) ++ aB)) else (none)) = some r := by first | (rw [aC]; with_reducible exact H) | (have H2_ := (Option.bind_some _ _).symm.trans H; rw [aC]; with_reducible exact H2_) | (have H2_ := (Option.bind_some _ _).symm.trans H; with_reducible exact H2_) | with_reducible exact H | (rw [aC]; exact H) | exact H
     have Ny101 := Aside0.mk aC
     clear aC
     by_cases c4 : (strOfNums aD).size + aB.size ≤ 9223372036854775807
     ·rw [if_pos c4] at H
      have c4b0 := eq_true c4
      have c4b1 : decide ((strOfNums aD).size + aB.size ≤ 9223372036854775807) = true := decide_eq_true c4
      try have c4b2 : (9223372036854775807 < (strOfNums aD).size + aB.size) = False := eq_false (Nat.not_lt.2 c4)
      have H' := Aside0.mk H
      clear H
      go_wp2_with (first | ((with_reducible refine gate_dst (N := 12) rfl ?_); refine Kd.R_lit (Kd.int .u8) _ 5 ?hg (N := 12) ?hd (xs := ([(wrap64 (48 + (Int.tmod aA 10))) % 256] : List Int)) (inner := [.int .u8 ((wrap64 (48 + (Int.tmod aA 10))) % 256)]) (ok := fun _ => True) (okp := fun _ => True) ?hr ?hp (fun _ hk => hk) trivial (Below.refl _ _) (Nat.le_refl _) (by simp) ?_; (case hd => rfl); (case hg => rfl); (case hr => first | (go_simp; done) | (go_simp; rfl)); (case hp => exact (Reps.one (show Kd.M (Kd.int .u8) _ _ _ ((wrap64 (48 + (Int.tmod aA 10))) % 256) [.int .u8 ((wrap64 (48 + (Int.tmod aA 10))) % 256)] from rfl) (Reps.none _ _))); intro aG w5 aE hb hg_ hnew_; clear hg_ hnew_; (first | rw [← Ny101.out] at aE | (simp only [Int.reduceToNat] at aE; rw [← Ny101.out] at aE)); have aF := am (Kd.R_lower aE (below_size (KL HB))); replace HB := bl (KL HB) hb; clear hb aE; have hcv7 := own_string (P := Tryz.prog) Tryz.underlying117 Tryz.underlying5 Tryz.underlying9 (Kd.own_of_R aF.out)))
      go_roundg k1
      case measure => have := HK1.out; omega
      case rel => exact ⟨(wrap64 (Int.tdiv aA 10)), ((strOfNums aD) ++ aB), (by first | rfl | (simp; done) | (simp [*]; done)), (by first | rfl | (simp; done) | (simp [*]; done)), H', ⟨by have := HK1.out; omega⟩, ⟨KL HB⟩⟩
     ·rw [if_neg c4] at H
      exact absurd H (by simp)
    ·rw [if_neg c3] at H
     have c3b0 : decide (0 < aA) = false := decide_eq_false c3
     clear c3
     by_cases c8 : 1 + aB.size ≤ 9223372036854775807
     ·rw [if_pos c8] at H
      have c8b0 := eq_true c8
      have c8b1 : decide (1 + aB.size ≤ 9223372036854775807) = true := decide_eq_true c8
      try have c8b2 : (9223372036854775807 < 1 + aB.size) = False := eq_false (Nat.not_lt.2 c8)
      obtain rfl := sj H
      go_wp2
      go_ret
      exact ⟨ER, KL HB⟩
     ·rw [if_neg c8] at H
      exact absurd H (by simp)
end Go.Proofs.YtmdegplkdgaebaaGreat.PAll
end
