/- Contracts of the functions that the statement reaches. -/
import Derived.Test.YtdijeimekbinkaaCFnExactWorldNew3
import Derived.Test.YtdijeimekbinkaaCFnExactWorldNew4
import Derived.Test.YtdijeimekbinkaaCFnExactWorldNew5
set_option maxHeartbeats 8000000
set_option maxRecDepth 100000
section
namespace Go.Proofs.Ytdijeimekbinkaa.PAll
open Go.RowKit Go.Proofs.YtdijeimekbinkaaW.PrintWords Go.Proofs.YtdijeimekbinkaaW.PrintLast Go.Proofs.YtdijeimekbinkaaW.PrintMore
attribute [local go_sem] max2_int min2_int max_two min_two max_three min_three max_four min_four
set_option linter.unusedVariables false
set_option linter.unusedSimpArgs false
def laws_markRuleS.l0 : Nat → List (S63) → Int → Int → Option (Int × (List (S63)))
 | 0, _, _, _ => none
 | k + 1, x0, x1, x5 => if x5 < (x0.length : Int) then (if 0 ≤ x5 then ((some (x0.set (x5 : Int).toNat (⟨x1, (rd_T63 x0 x5).f1, (⟨(rd_T63 x0 x5).f2.f0, (rd_T63 x0 x5).f2.f1⟩ : S61), (⟨(rd_T63 x0 x5).f3.f0, (rd_T63 x0 x5).f3.f1⟩ : S61), (rd_T63 x0 x5).f4, (rd_T63 x0 x5).f5⟩ : S63) : List (S63))).bind fun y101 => ((some (y101.set (x5 : Int).toNat (⟨(rd_T63 y101 x5).f0, wrap64 (x1 + 1), (⟨(rd_T63 y101 x5).f2.f0, (rd_T63 y101 x5).f2.f1⟩ : S61), (⟨(rd_T63 y101 x5).f3.f0, (rd_T63 y101 x5).f3.f1⟩ : S61), (rd_T63 y101 x5).f4, (rd_T63 y101 x5).f5⟩ : S63) : List (S63))).bind fun y102 => ((some (y102.set (x5 : Int).toNat (⟨(rd_T63 y102 x5).f0, (rd_T63 y102 x5).f1, (⟨wrap64 ((wrap64 (x1 + 1)) + 1), (rd_T63 y102 x5).f2.f1⟩ : S61), (⟨(rd_T63 y102 x5).f3.f0, (rd_T63 y102 x5).f3.f1⟩ : S61), (rd_T63 y102 x5).f4, (rd_T63 y102 x5).f5⟩ : S63) : List (S63))).bind fun y103 => ((some (y103.set (x5 : Int).toNat (⟨(rd_T63 y103 x5).f0, (rd_T63 y103 x5).f1, (⟨(rd_T63 y103 x5).f2.f0, wrap64 ((wrap64 ((wrap64 (x1 + 1)) + 1)) + 1)⟩ : S61), (⟨(rd_T63 y103 x5).f3.f0, (rd_T63 y103 x5).f3.f1⟩ : S61), (rd_T63 y103 x5).f4, (rd_T63 y103 x5).f5⟩ : S63) : List (S63))).bind fun y104 => ((some (y104.set (x5 : Int).toNat (⟨(rd_T63 y104 x5).f0, (rd_T63 y104 x5).f1, (⟨(rd_T63 y104 x5).f2.f0, (rd_T63 y104 x5).f2.f1⟩ : S61), (⟨wrap64 ((wrap64 ((wrap64 ((wrap64 (x1 + 1)) + 1)) + 1)) + 1), (rd_T63 y104 x5).f3.f1⟩ : S61), (rd_T63 y104 x5).f4, (rd_T63 y104 x5).f5⟩ : S63) : List (S63))).bind fun y105 => ((some (y105.set (x5 : Int).toNat (⟨(rd_T63 y105 x5).f0, (rd_T63 y105 x5).f1, (⟨(rd_T63 y105 x5).f2.f0, (rd_T63 y105 x5).f2.f1⟩ : S61), (⟨(rd_T63 y105 x5).f3.f0, wrap64 ((wrap64 ((wrap64 ((wrap64 ((wrap64 (x1 + 1)) + 1)) + 1)) + 1)) + 1)⟩ : S61), (rd_T63 y105 x5).f4, (rd_T63 y105 x5).f5⟩ : S63) : List (S63))).bind fun y106 => ((some (y106.set (x5 : Int).toNat (⟨(rd_T63 y106 x5).f0, (rd_T63 y106 x5).f1, (⟨(rd_T63 y106 x5).f2.f0, (rd_T63 y106 x5).f2.f1⟩ : S61), (⟨(rd_T63 y106 x5).f3.f0, (rd_T63 y106 x5).f3.f1⟩ : S61), wrap64 ((wrap64 ((wrap64 ((wrap64 ((wrap64 ((wrap64 (x1 + 1)) + 1)) + 1)) + 1)) + 1)) + 1), (rd_T63 y106 x5).f5⟩ : S63) : List (S63))).bind fun y107 => (laws_markRuleS.l0 k (y107.set (x5 : Int).toNat (⟨(rd_T63 y107 x5).f0, (rd_T63 y107 x5).f1, (⟨(rd_T63 y107 x5).f2.f0, (rd_T63 y107 x5).f2.f1⟩ : S61), (⟨(rd_T63 y107 x5).f3.f0, (rd_T63 y107 x5).f3.f1⟩ : S61), (rd_T63 y107 x5).f4, wrap64 ((wrap64 ((wrap64 ((wrap64 ((wrap64 ((wrap64 ((wrap64 (x1 + 1)) + 1)) + 1)) + 1)) + 1)) + 1)) + 1)⟩ : S63)) (wrap64 ((wrap64 ((wrap64 ((wrap64 ((wrap64 ((wrap64 ((wrap64 ((wrap64 (x1 + 1)) + 1)) + 1)) + 1)) + 1)) + 1)) + 1)) + 1)) (wrap64 (x5 + 1)))))))))) else (none)) else (some (x1, x0))
def laws_markRuleS.f (k : Nat) (l0 : List (S63)) (a1 : Int) : Option (Int × (List (S63))) := laws_markRuleS.l0 k l0 a1 0
theorem laws_markRuleS.calls (k : Nat) (P0_ : Nat → Prop) (u9000_ : Value) (l0 : List (S63)) (a1 : Int) (r1 : Int) (r2 : List (S63)) (w0 w : World) (hB : Below w0.heap.size w0 w) (iI : Kd.R k63 63 w w0.heap.size P0_ u9000_ l0) (h : laws_markRuleS.f k l0 a1 = some (r1, r2)) :
  Calls Try.prog 25 #[u9000_, .int .i64 a1] w fun e w' => e = .returned (.int .i64 r1) ∧ Kd.R k63 63 w' w0.heap.size (fun k_ => (P0_ k_ ∨ w.heap.size ≤ k_)) u9000_ r2 ∧ Below w0.heap.size w0 w' ∧ Kept w w' (fun k_ => P0_ k_) := by
 have iJ := am (show Kd.R k63 63 w w0.heap.size (fun k_ => (P0_ k_ ∨ w.heap.size ≤ k_)) u9000_ l0 from Kd.R_mono iI (fun k_ hk => (.inl hk)))
 have HK := am (Kept.refl w (fun k_ => P0_ k_))
 have HW0 := Aside0.mk hB.size
 have HB := Aside0.mk hB
 clear hB
 have H : (laws_markRuleS.l0 k l0 a1 0) = some (r1, r2) := h
 clear h
 have H' := Aside0.mk H
 clear H
 go_enter Try.func25, Try.ntmps25
 go_wp2
 go_loopg [1, 5] k (fun kq v1 v5 w' => ∃ (aE : List (S63)) (aD : Int) (aA : Int), v1 = .int .i64 aD ∧ v5 = .int .i64 aA ∧ Aside0 (laws_markRuleS.l0 kq aE aD aA = some (r1, r2)) ∧ Aside0 (kq ≤ k) ∧ Aside0 (Kd.R k63 63 w' w0.heap.size (fun k_ => (P0_ k_ ∨ w.heap.size ≤ k_)) u9000_ aE) ∧ Aside0 (Kept w w' (fun k_ => P0_ k_)) ∧ Aside0 (Below w0.heap.size w0 w'))
 case atStart => exact ⟨(l0), (a1), (0), (by first | rfl | (simp; done) | (simp [*]; done)), (by first | rfl | (simp; done) | (simp [*]; done)), H', ⟨Nat.le_refl _⟩, ⟨KR iJ⟩, ⟨by repeat (first | (with_reducible first | exact HK.out | apply Kept.alloc | apply Kept.drewN | apply Kept.drew) | exact HK.out)⟩, ⟨KL HB⟩⟩
 case round =>
  clear H'
  try clear c2
  try clear p2
  obtain ⟨aE, aD, aA, rfl, rfl, HA, HK1, aI, HK, HB⟩ := hrel
  cases gk with
  | zero => exact absurd HA.out (by simp [laws_markRuleS.l0])
  | succ k1 =>
   have H := HA.out
   clear HA
   simp only [laws_markRuleS.l0] at H
   by_cases c3 : aA < (aE.length : Int)
   ·rw [if_pos c3] at H
    have c3b0 : decide (aA < (aE.length : Int)) = true := decide_eq_true c3
    clear c3
    by_cases c4 : 0 ≤ aA
    ·rw [if_pos c4] at H
     have c4b0 : decide (0 ≤ aA) = true := decide_eq_true c4
     clear c4
     obtain ⟨aK, bJ⟩ : ∃ y_ : List (S63), y_ = (aE.set (aA : Int).toNat (⟨aD, (rd_T63 aE aA).f1, (⟨(rd_T63 aE aA).f2.f0, (rd_T63 aE aA).f2.f1⟩ : S61), (⟨(rd_T63 aE aA).f3.f0, (rd_T63 aE aA).f3.f1⟩ : S61), (rd_T63 aE aA).f4, (rd_T63 aE aA).f5⟩ : S63)) := ⟨_, rfl⟩
     replace H : ((some (aK.set (aA : Int).toNat (⟨(rd_T63 aK aA).f0, wrap64 (aD + 1), (⟨(rd_T63 aK aA).f2.f0, (rd_T63 aK aA).f2.f1⟩ : S61), (⟨(rd_T63 aK aA).f3.f0, (rd_T63 aK aA).f3.f1⟩ : S61), (rd_T63 aK aA).f4, (rd_T63 aK aA).f5⟩ : S63) : List (S63))).bind fun aJ => ((some (aJ.set (aA : Int).toNat (⟨(rd_T63 aJ aA).f0, (rd_T63 aJ aA).f1, (⟨wrap64 ((wrap64 (aD + 1)) + 1), (rd_T63 aJ aA).f2.f1⟩ : S61), (⟨(rd_T63 aJ aA).f3.f0, (rd_T63 aJ aA).f3.f1⟩ : S61), (rd_T63 aJ aA).f4, (rd_T63 aJ aA).f5⟩ : S63) : List (S63))).bind fun aH => ((some (aH.set (aA : Int).toNat (⟨(rd_T63 aH aA).f0, (rd_T63 aH aA).f1, (⟨(rd_T63 aH aA).f2.f0, wrap64 ((wrap64 ((wrap64 (aD + 1)) + 1)) + 1)⟩ : S61), (⟨(rd_T63 aH aA).f3.f0, (rd_T63 aH aA).f3.f1⟩ : S61), (rd_T63 aH aA).f4, (rd_T63 aH aA).f5⟩ : S63) : List (S63))).bind fun aG => ((some (aG.set (aA : Int).toNat (⟨(rd_T63 aG aA).f0, (rd_T63 aG aA).f1, (⟨(rd_T63 aG aA).f2.f0, (rd_T63 aG aA).f2.f1⟩ : S61), (⟨wrap64 ((wrap64 ((wrap64 ((wrap64 (aD + 1)) + 1)) + 1)) + 1), (rd_T63 aG aA).f3.f1⟩ : S61), (rd_T63 aG aA).f4, (rd_T63 aG aA).f5⟩ : S63) : List (S63))).bind fun aF => ((some (aF.set (aA : Int).toNat (⟨(rd_T63 aF aA).f0, (rd_T63 aF aA).f1, (⟨(rd_T63 aF aA).f2.f0, (rd_T63 aF aA).f2.f1⟩ : S61), (⟨(rd_T63 aF aA).f3.f0, wrap64 ((wrap64 ((wrap64 ((wrap64 ((wrap64 (aD + 1)) + 1)) + 1)) + 1)) + 1)⟩ : S61), (rd_T63 aF aA).f4, (rd_T63 aF aA).f5⟩ : S63) : List (S63))).bind fun aC => ((some (aC.set (aA : Int).toNat (⟨(rd_T63 aC aA).f0, (rd_T63 aC aA).f1, (⟨(rd_T63 aC aA).f2.f0, (rd_T63 aC aA).f2.f1⟩ : S61), (⟨(rd_T63 aC aA).f3.f0, (rd_T63 aC aA).f3.f1⟩ : S61), wrap64 ((wrap64 ((wrap64 ((wrap64 ((wrap64 ((wrap64 (aD + 1)) + 1)) + 1)) + 1)) + 1)) + 1), (rd_T63 aC aA).f5⟩ : S63) : List (S63))).bind fun aB => (laws_markRuleS.l0 k1 (aB.set (aA : Int).toNat (⟨(rd_T63 aB aA).f0, (rd_T63 aB aA).f1, (⟨(rd_T63 aB aA).f2.f0, (rd_T63 aB aA).f2.f1⟩ : S61), (⟨(rd_T63 aB aA).f3.f0, (rd_T63 aB aA).f3.f1⟩ : S61), (rd_T63 aB aA).f4, wrap64 ((wrap64 ((wrap64 ((wrap64 ((wrap64 ((wrap64 ((wrap64 (aD + 1)) + 1)) + 1)) + 1)) + 1)) + 1)) + 1)⟩ : S63)) (wrap64 ((wrap64 ((wrap64 ((wrap64 ((wrap64 ((wrap64 ((wrap64 ((wrap64 (aD + 1)) + 1)) + 1)) + 1)) + 1)) + 1)) + 1)) + 1)) (wrap64 (aA + 1))))))))) = some (r1, r2) := by first | (rw [bJ]; with_reducible exact H) | (have H2_ := (Option.bind_some _ _).symm.trans H; rw [bJ]; with_reducible exact H2_) | (have H2_ := (Option.bind_some _ _).symm.trans H; with_reducible exact H2_) | with_reducible exact H | (rw [bJ]; exact H) | exact H
     have Ny101 := Aside0.mk bJ
     clear bJ
     obtain ⟨aJ, bK⟩ : ∃ y_ : List (S63), y_ = (aK.set (aA : Int).toNat (⟨(rd_T63 aK aA).f0, wrap64 (aD + 1), (⟨(rd_T63 aK aA).f2.f0, (rd_T63 aK aA).f2.f1⟩ : S61), (⟨(rd_T63 aK aA).f3.f0, (rd_T63 aK aA).f3.f1⟩ : S61), (rd_T63 aK aA).f4, (rd_T63 aK aA).f5⟩ : S63)) := ⟨_, rfl⟩
     replace H : ((some (aJ.set (aA : Int).toNat (⟨(rd_T63 aJ aA).f0, (rd_T63 aJ aA).f1, (⟨wrap64 ((wrap64 (aD + 1)) + 1), (rd_T63 aJ aA).f2.f1⟩ : S61), (⟨(rd_T63 aJ aA).f3.f0, (rd_T63 aJ aA).f3.f1⟩ : S61), (rd_T63 aJ aA).f4, (rd_T63 aJ aA).f5⟩ : S63) : List (S63))).bind fun aH => ((some (aH.set (aA : Int).toNat (⟨(rd_T63 aH aA).f0, (rd_T63 aH aA).f1, (⟨(rd_T63 aH aA).f2.f0, wrap64 ((wrap64 ((wrap64 (aD + 1)) + 1)) + 1)⟩ : S61), (⟨(rd_T63 aH aA).f3.f0, (rd_T63 aH aA).f3.f1⟩ : S61), (rd_T63 aH aA).f4, (rd_T63 aH aA).f5⟩ : S63) : List (S63))).bind fun aG => ((some (aG.set (aA : Int).toNat (⟨(rd_T63 aG aA).f0, (rd_T63 aG aA).f1, (⟨(rd_T63 aG aA).f2.f0, (rd_T63 aG aA).f2.f1⟩ : S61), (⟨wrap64 ((wrap64 ((wrap64 ((wrap64 (aD + 1)) + 1)) + 1)) + 1), (rd_T63 aG aA).f3.f1⟩ : S61), (rd_T63 aG aA).f4, (rd_T63 aG aA).f5⟩ : S63) : List (S63))).bind fun aF => ((some (aF.set (aA : Int).toNat (⟨(rd_T63 aF aA).f0, (rd_T63 aF aA).f1, (⟨(rd_T63 aF aA).f2.f0, (rd_T63 aF aA).f2.f1⟩ : S61), (⟨(rd_T63 aF aA).f3.f0, wrap64 ((wrap64 ((wrap64 ((wrap64 ((wrap64 (aD + 1)) + 1)) + 1)) + 1)) + 1)⟩ : S61), (rd_T63 aF aA).f4, (rd_T63 aF aA).f5⟩ : S63) : List (S63))).bind fun aC => ((some (aC.set (aA : Int).toNat (⟨(rd_T63 aC aA).f0, (rd_T63 aC aA).f1, (⟨(rd_T63 aC aA).f2.f0, (rd_T63 aC aA).f2.f1⟩ : S61), (⟨(rd_T63 aC aA).f3.f0, (rd_T63 aC aA).f3.f1⟩ : S61), wrap64 ((wrap64 ((wrap64 ((wrap64 ((wrap64 ((wrap64 (aD + 1)) + 1)) + 1)) + 1)) + 1)) + 1), (rd_T63 aC aA).f5⟩ : S63) : List (S63))).bind fun aB => (laws_markRuleS.l0 k1 (aB.set (aA : Int).toNat (⟨(rd_T63 aB aA).f0, (rd_T63 aB aA).f1, (⟨(rd_T63 aB aA).f2.f0, (rd_T63 aB aA).f2.f1⟩ : S61), (⟨(rd_T63 aB aA).f3.f0, (rd_T63 aB aA).f3.f1⟩ : S61), (rd_T63 aB aA).f4, wrap64 ((wrap64 ((wrap64 ((wrap64 ((wrap64 ((wrap64 ((wrap64 (aD + 1)) + 1)) + 1)) + 1)) + 1)) + 1)) + 1)⟩ : S63)) (wrap64 ((wrap64 ((wrap64 ((wrap64 ((wrap64 ((wrap64 ((wrap64 ((wrap64 (aD + 1)) + 1)) + 1)) + 1)) + 1)) + 1)) + 1)) + 1)) (wrap64 (aA + 1)))))))) = some (r1, r2) := by first | (rw [bK]; with_reducible exact H) | (have H2_ := (Option.bind_some _ _).symm.trans H; rw [bK]; with_reducible exact H2_) | (have H2_ := (Option.bind_some _ _).symm.trans H; with_reducible exact H2_) | with_reducible exact H | (rw [bK]; exact H) | exact H
     have Ny102 := Aside0.mk bK
     clear bK
     obtain ⟨aH, bL⟩ : ∃ y_ : List (S63), y_ = (aJ.set (aA : Int).toNat (⟨(rd_T63 aJ aA).f0, (rd_T63 aJ aA).f1, (⟨wrap64 ((wrap64 (aD + 1)) + 1), (rd_T63 aJ aA).f2.f1⟩ : S61), (⟨(rd_T63 aJ aA).f3.f0, (rd_T63 aJ aA).f3.f1⟩ : S61), (rd_T63 aJ aA).f4, (rd_T63 aJ aA).f5⟩ : S63)) := ⟨_, rfl⟩
     replace H : ((some (aH.set (aA : Int).toNat (⟨(rd_T63 aH aA).f0, (rd_T63 aH aA).f1, (⟨(rd_T63 aH aA).f2.f0, wrap64 ((wrap64 ((wrap64 (aD + 1)) + 1)) + 1)⟩ : S61), (⟨(rd_T63 aH aA).f3.f0, (rd_T63 aH aA).f3.f1⟩ : S61), (rd_T63 aH aA).f4, (rd_T63 aH aA).f5⟩ : S63) : List (S63))).bind fun aG => ((some (aG.set (aA : Int).toNat (⟨(rd_T63 aG aA).f0, (rd_T63 aG aA).f1, (⟨(rd_T63 aG aA).f2.f0, (rd_T63 aG aA).f2.f1⟩ : S61), (⟨wrap64 ((wrap64 ((wrap64 ((wrap64 (aD + 1)) + 1)) + 1)) + 1), (rd_T63 aG aA).f3.f1⟩ : S61), (rd_T63 aG aA).f4, (rd_T63 aG aA).f5⟩ : S63) : List (S63))).bind fun aF => ((some (aF.set (aA : Int).toNat (⟨(rd_T63 aF aA).f0, (rd_T63 aF aA).f1, (⟨(rd_T63 aF aA).f2.f0, (rd_T63 aF aA).f2.f1⟩ : S61), (⟨(rd_T63 aF aA).f3.f0, wrap64 ((wrap64 ((wrap64 ((wrap64 ((wrap64 (aD + 1)) + 1)) + 1)) + 1)) + 1)⟩ : S61), (rd_T63 aF aA).f4, (rd_T63 aF aA).f5⟩ : S63) : List (S63))).bind fun aC => ((some (aC.set (aA : Int).toNat (⟨(rd_T63 aC aA).f0, (rd_T63 aC aA).f1, (⟨(rd_T63 aC aA).f2.f0, (rd_T63 aC aA).f2.f1⟩ : S61), (⟨(rd_T63 aC aA).f3.f0, (rd_T63 aC aA).f3.f1⟩ : S61), wrap64 ((wrap64 ((wrap64 ((wrap64 ((wrap64 ((wrap64 (aD + 1)) + 1)) + 1)) + 1)) + 1)) + 1), (rd_T63 aC aA).f5⟩ : S63) : List (S63))).bind fun aB => (laws_markRuleS.l0 k1 (aB.set (aA : Int).toNat (⟨(rd_T63 aB aA).f0, (rd_T63 aB aA).f1, (⟨(rd_T63 aB aA).f2.f0, (rd_T63 aB aA).f2.f1⟩ : S61), (⟨(rd_T63 aB aA).f3.f0, (rd_T63 aB aA).f3.f1⟩ : S61), (rd_T63 aB aA).f4, wrap64 ((wrap64 ((wrap64 ((wrap64 ((wrap64 ((wrap64 ((wrap64 (aD + 1)) + 1)) + 1)) + 1)) + 1)) + 1)) + 1)⟩ : S63)) (wrap64 ((wrap64 ((wrap64 ((wrap64 ((wrap64 ((wrap64 ((wrap64 ((wrap64 (aD + 1)) + 1)) + 1)) + 1)) + 1)) + 1)) + 1)) + 1)) (wrap64 (aA + 1))))))) = some (r1, r2) := by first | (rw [bL]; with_reducible exact H) | (have H2_ := (Option.bind_some _ _).symm.trans H; rw [bL]; with_reducible exact H2_) | (have H2_ := (Option.bind_some _ _).symm.trans H; with_reducible exact H2_) | with_reducible exact H | (rw [bL]; exact H) | exact H
     have Ny103 := Aside0.mk bL
     clear bL
     obtain ⟨aG, bM⟩ : ∃ y_ : List (S63), y_ = (aH.set (aA : Int).toNat (⟨(rd_T63 aH aA).f0, (rd_T63 aH aA).f1, (⟨(rd_T63 aH aA).f2.f0, wrap64 ((wrap64 ((wrap64 (aD + 1)) + 1)) + 1)⟩ : S61), (⟨(rd_T63 aH aA).f3.f0, (rd_T63 aH aA).f3.f1⟩ : S61), (rd_T63 aH aA).f4, (rd_T63 aH aA).f5⟩ : S63)) := ⟨_, rfl⟩
     replace H : ((some (aG.set (aA : Int).toNat (⟨(rd_T63 aG aA).f0, (rd_T63 aG aA).f1, (⟨(rd_T63 aG aA).f2.f0, (rd_T63 aG aA).f2.f1⟩ : S61), (⟨wrap64 ((wrap64 ((wrap64 ((wrap64 (aD + 1)) + 1)) + 1)) + 1), (rd_T63 aG aA).f3.f1⟩ : S61), (rd_T63 aG aA).f4, (rd_T63 aG aA).f5⟩ : S63) : List (S63))).bind fun aF => ((some (aF.set (aA : Int).toNat (⟨(rd_T63 aF aA).f0, (rd_T63 aF aA).f1, (⟨(rd_T63 aF aA).f2.f0, (rd_T63 aF aA).f2.f1⟩ : S61), (⟨(rd_T63 aF aA).f3.f0, wrap64 ((wrap64 ((wrap64 ((wrap64 ((wrap64 (aD + 1)) + 1)) + 1)) + 1)) + 1)⟩ : S61), (rd_T63 aF aA).f4, (rd_T63 aF aA).f5⟩ : S63) : List (S63))).bind fun aC => ((some (aC.set (aA : Int).toNat (⟨(rd_T63 aC aA).f0, (rd_T63 aC aA).f1, (⟨(rd_T63 aC aA).f2.f0, (rd_T63 aC aA).f2.f1⟩ : S61), (⟨(rd_T63 aC aA).f3.f0, (rd_T63 aC aA).f3.f1⟩ : S61), wrap64 ((wrap64 ((wrap64 ((wrap64 ((wrap64 ((wrap64 (aD + 1)) + 1)) + 1)) + 1)) + 1)) + 1), (rd_T63 aC aA).f5⟩ : S63) : List (S63))).bind fun aB => (laws_markRuleS.l0 k1 (aB.set (aA : Int).toNat (⟨(rd_T63 aB aA).f0, (rd_T63 aB aA).f1, (⟨(rd_T63 aB aA).f2.f0, (rd_T63 aB aA).f2.f1⟩ : S61), (⟨(rd_T63 aB aA).f3.f0, (rd_T63 aB aA).f3.f1⟩ : S61), (rd_T63 aB aA).f4, wrap64 ((wrap64 ((wrap64 ((wrap64 ((wrap64 ((wrap64 ((wrap64 (aD + 1)) + 1)) + 1)) + 1)) + 1)) + 1)) + 1)⟩ : S63)) (wrap64 ((wrap64 ((wrap64 ((wrap64 ((wrap64 ((wrap64 ((wrap64 ((wrap64 (aD + 1)) + 1)) + 1)) + 1)) + 1)) + 1)) + 1)) + 1)) (wrap64 (aA + 1)))))) = some (r1, r2) := by first | (rw [bM]; with_reducible exact H) | (have H2_ := (Option.bind_some _ _).symm.trans H; rw [bM]; with_reducible exact H2_) | (have H2_ := (Option.bind_some _ _).symm.trans H; with_reducible exact H2_) | with_reducible exact H | (rw [bM]; exact H) | exact H
     have Ny104 := Aside0.mk bM
     clear bM
     obtain ⟨aF, bN⟩ : ∃ y_ : List (S63), y_ = (aG.set (aA : Int).toNat (⟨(rd_T63 aG aA).f0, (rd_T63 aG aA).f1, (⟨(rd_T63 aG aA).f2.f0, (rd_T63 aG aA).f2.f1⟩ : S61), (⟨wrap64 ((wrap64 ((wrap64 ((wrap64 (aD + 1)) + 1)) + 1)) + 1), (rd_T63 aG aA).f3.f1⟩ : S61), (rd_T63 aG aA).f4, (rd_T63 aG aA).f5⟩ : S63)) := ⟨_, rfl⟩
     replace H : ((some (aF.set (aA : Int).toNat (⟨(rd_T63 aF aA).f0, (rd_T63 aF aA).f1, (⟨(rd_T63 aF aA).f2.f0, (rd_T63 aF aA).f2.f1⟩ : S61), (⟨(rd_T63 aF aA).f3.f0, wrap64 ((wrap64 ((wrap64 ((wrap64 ((wrap64 (aD + 1)) + 1)) + 1)) + 1)) + 1)⟩ : S61), (rd_T63 aF aA).f4, (rd_T63 aF aA).f5⟩ : S63) : List (S63))).bind fun aC => ((some (aC.set (aA : Int).toNat (⟨(rd_T63 aC aA).f0, (rd_T63 aC aA).f1, (⟨(rd_T63 aC aA).f2.f0, (rd_T63 aC aA).f2.f1⟩ : S61), (⟨(rd_T63 aC aA).f3.f0, (rd_T63 aC aA).f3.f1⟩ : S61), wrap64 ((wrap64 ((wrap64 ((wrap64 ((wrap64 ((wrap64 (aD + 1)) + 1)) + 1)) + 1)) + 1)) + 1), (rd_T63 aC aA).f5⟩ : S63) : List (S63))).bind fun aB => (laws_markRuleS.l0 k1 (aB.set (aA : Int).toNat (⟨(rd_T63 aB aA).f0, (rd_T63 aB aA).f1, (⟨(rd_T63 aB aA).f2.f0, (rd_T63 aB aA).f2.f1⟩ : S61), (⟨(rd_T63 aB aA).f3.f0, (rd_T63 aB aA).f3.f1⟩ : S61), (rd_T63 aB aA).f4, wrap64 ((wrap64 ((wrap64 ((wrap64 ((wrap64 ((wrap64 ((wrap64 (aD + 1)) + 1)) + 1)) + 1)) + 1)) + 1)) + 1)⟩ : S63)) (wrap64 ((wrap64 ((wrap64 ((wrap64 ((wrap64 ((wrap64 ((wrap64 ((wrap64 (aD + 1)) + 1)) + 1)) + 1)) + 1)) + 1)) + 1)) + 1)) (wrap64 (aA + 1))))) = some (r1, r2) := by first | (rw [bN]; with_reducible exact H) | (have H2_ := (Option.bind_some _ _).symm.trans H; rw [bN]; with_reducible exact H2_) | (have H2_ := (Option.bind_some _ _).symm.trans H; with_reducible exact H2_) | with_reducible exact H | (rw [bN]; exact H) | exact H
     have Ny105 := Aside0.mk bN
     clear bN
     obtain ⟨aC, bO⟩ : ∃ y_ : List (S63), y_ = (aF.set (aA : Int).toNat (⟨(rd_T63 aF aA).f0, (rd_T63 aF aA).f1, (⟨(rd_T63 aF aA).f2.f0, (rd_T63 aF aA).f2.f1⟩ : S61), (⟨(rd_T63 aF aA).f3.f0, wrap64 ((wrap64 ((wrap64 ((wrap64 ((wrap64 (aD + 1)) + 1)) + 1)) + 1)) + 1)⟩ : S61), (rd_T63 aF aA).f4, (rd_T63 aF aA).f5⟩ : S63)) := ⟨_, rfl⟩
     replace H : ((some (aC.set (aA : Int).toNat (⟨(rd_T63 aC aA).f0, (rd_T63 aC aA).f1, (⟨(rd_T63 aC aA).f2.f0, (rd_T63 aC aA).f2.f1⟩ : S61), (⟨(rd_T63 aC aA).f3.f0, (rd_T63 aC aA).f3.f1⟩ : S61), wrap64 ((wrap64 ((wrap64 ((wrap64 ((wrap64 ((wrap64 (aD + 1)) + 1)) + 1)) + 1)) + 1)) + 1), (rd_T63 aC aA).f5⟩ : S63) : List (S63))).bind fun aB => (laws_markRuleS.l0 k1 (aB.set (aA : Int).toNat (⟨(rd_T63 aB aA).f0, (rd_T63 aB aA).f1, (⟨(rd_T63 aB aA).f2.f0, (rd_T63 aB aA).f2.f1⟩ : S61), (⟨(rd_T63 aB aA).f3.f0, (rd_T63 aB aA).f3.f1⟩ : S61), (rd_T63 aB aA).f4, wrap64 ((wrap64 ((wrap64 ((wrap64 ((wrap64 ((wrap64 ((wrap64 (aD + 1)) + 1)) + 1)) + 1)) + 1)) + 1)) + 1)⟩ : S63)) (wrap64 ((wrap64 ((wrap64 ((wrap64 ((wrap64 ((wrap64 ((wrap64 ((wrap64 (aD + 1)) + 1)) + 1)) + 1)) + 1)) + 1)) + 1)) + 1)) (wrap64 (aA + 1)))) = some (r1, r2) := by first | (rw [bO]; with_reducible exact H) | (have H2_ := (Option.bind_some _ _).symm.trans H; rw [bO]; with_reducible exact H2_) | (have H2_ := (Option.bind_some _ _).symm.trans H; with_reducible exact H2_) | with_reducible exact H | (rw [bO]; exact H) | exact H
     have Ny106 := Aside0.mk bO
     clear bO
     obtain ⟨aB, bP⟩ : ∃ y_ : List (S63), y_ = (aC.set (aA : Int).toNat (⟨(rd_T63 aC aA).f0, (rd_T63 aC aA).f1, (⟨(rd_T63 aC aA).f2.f0, (rd_T63 aC aA).f2.f1⟩ : S61), (⟨(rd_T63 aC aA).f3.f0, (rd_T63 aC aA).f3.f1⟩ : S61), wrap64 ((wrap64 ((wrap64 ((wrap64 ((wrap64 ((wrap64 (aD + 1)) + 1)) + 1)) + 1)) + 1)) + 1), (rd_T63 aC aA).f5⟩ : S63)) := ⟨_, rfl⟩
     replace H : (laws_markRuleS.l0 k1 (aB.set (aA : Int).toNat (⟨(rd_T63 aB aA).f0, (rd_T63 aB aA).f1, (⟨(rd_T63 aB aA).f2.f0, (rd_T63 aB aA).f2.f1⟩ : S61), (⟨(rd_T63 aB aA).f3.f0, (rd_T63 aB aA).f3.f1⟩ : S61), (rd_T63 aB aA).f4, wrap64 ((wrap64 ((wrap64 ((wrap64 ((wrap64 ((wrap64 ((wrap64 (aD + 1)) + 1)) + 1)) + 1)) + 1)) + 1)) + 1)⟩ : S63)) (wrap64 ((wrap64 ((wrap64 ((wrap64 ((wrap64 ((wrap64 ((wrap64 ((wrap64 (aD + 1)) + 1)) + 1)) + 1)) + 1)) + 1)) + 1)) + 1)) (wrap64 (aA + 1))) = some (r1, r2) := by first | (rw [bP]; with_reducible exact H) | (have H2_ := (Option.bind_some _ _).symm.trans H; rw [bP]; with_reducible exact H2_) | (have H2_ := (Option.bind_some _ _).symm.trans H; with_reducible exact H2_) | with_reducible exact H | (rw [bP]; exact H) | exact H
     have Ny107 := Aside0.mk bP
     clear bP
     obtain ⟨cH, bQ⟩ : ∃ y_ : List (S63), y_ = (aB.set (aA : Int).toNat (⟨(rd_T63 aB aA).f0, (rd_T63 aB aA).f1, (⟨(rd_T63 aB aA).f2.f0, (rd_T63 aB aA).f2.f1⟩ : S61), (⟨(rd_T63 aB aA).f3.f0, (rd_T63 aB aA).f3.f1⟩ : S61), (rd_T63 aB aA).f4, wrap64 ((wrap64 ((wrap64 ((wrap64 ((wrap64 ((wrap64 ((wrap64 (aD + 1)) + 1)) + 1)) + 1)) + 1)) + 1)) + 1)⟩ : S63)) := ⟨_, rfl⟩
     replace H : (laws_markRuleS.l0 k1 cH (wrap64 ((wrap64 ((wrap64 ((wrap64 ((wrap64 ((wrap64 ((wrap64 ((wrap64 (aD + 1)) + 1)) + 1)) + 1)) + 1)) + 1)) + 1)) + 1)) (wrap64 (aA + 1))) = some (r1, r2) := by first | (rw [bQ]; with_reducible exact H) | (have H2_ := (Option.bind_some _ _).symm.trans H; rw [bQ]; with_reducible exact H2_) | (have H2_ := (Option.bind_some _ _).symm.trans H; with_reducible exact H2_) | with_reducible exact H | (rw [bQ]; exact H) | exact H
     have Ny108 := Aside0.mk bQ
     clear bQ
     have H' := Aside0.mk H
     clear H
     obtain ⟨_, aL, cY⟩ := Kd.R_slice aI.out
     subst cY
     have p5 : 0 ≤ (aA : Int) := OD
     have q5 : (aA : Int) < ((aE.length : Int) : Int) := OD
     obtain ⟨go5, _, fD, fE, gl5, cl5, HG5⟩ := Kd.R_form aI.out (by omega)
     (first | cases fD | (injection fD with ea_ en_ ec_; (first | subst ea_ | (injection ea_ with ea_; subst ea_)); subst ec_; clear en_))
     have GB5 := Aside0.mk fE
     have GG5 := Aside0.mk HG5
     clear fE gl5 HG5
     have HMgo5 := am (show (P0_ go5 ∨ w.heap.size ≤ go5) from (aI.out.1 _ rfl))
     obtain ⟨ce5, hcl5, hM5, aZ, bA⟩ := Kd.R_elem aI.out z63 (aA : Int) p5 q5
     obtain rfl := k63_openM hM5
     have fF : wr.cell? ⟨go5, (aA : Int).toNat * 8, none⟩ = some (.int .i64 ((rd_T63 aE aA).f0)) := aZ 0 _ rfl
     have fG : wr.cell? ⟨go5, (aA : Int).toNat * 8 + 1, none⟩ = some (.int .i64 ((rd_T63 aE aA).f1)) := aZ 1 _ rfl
     have fH : wr.cell? ⟨go5, (aA : Int).toNat * 8 + 2, none⟩ = some (.int .i64 ((rd_T63 aE aA).f2.f0)) := aZ 2 _ rfl
     have fI : wr.cell? ⟨go5, (aA : Int).toNat * 8 + 3, none⟩ = some (.int .i64 ((rd_T63 aE aA).f2.f1)) := aZ 3 _ rfl
     have fJ : wr.cell? ⟨go5, (aA : Int).toNat * 8 + 4, none⟩ = some (.int .i64 ((rd_T63 aE aA).f3.f0)) := aZ 4 _ rfl
     have fK : wr.cell? ⟨go5, (aA : Int).toNat * 8 + 5, none⟩ = some (.int .i64 ((rd_T63 aE aA).f3.f1)) := aZ 5 _ rfl
     have fL : wr.cell? ⟨go5, (aA : Int).toNat * 8 + 6, none⟩ = some (.int .i64 ((rd_T63 aE aA).f4)) := aZ 6 _ rfl
     have fM : wr.cell? ⟨go5, (aA : Int).toNat * 8 + 7, none⟩ = some (.int .i64 ((rd_T63 aE aA).f5)) := aZ 7 _ rfl
     have fN : wr.frozen? ⟨go5, (aA : Int).toNat * 8, none⟩ = false := bA 0
     have fO : wr.frozen? ⟨go5, (aA : Int).toNat * 8 + 1, none⟩ = false := bA 1
     have fP : wr.frozen? ⟨go5, (aA : Int).toNat * 8 + 2, none⟩ = false := bA 2
     have fQ : wr.frozen? ⟨go5, (aA : Int).toNat * 8 + 3, none⟩ = false := bA 3
     have fR : wr.frozen? ⟨go5, (aA : Int).toNat * 8 + 4, none⟩ = false := bA 4
     have fS : wr.frozen? ⟨go5, (aA : Int).toNat * 8 + 5, none⟩ = false := bA 5
     have fT : wr.frozen? ⟨go5, (aA : Int).toNat * 8 + 6, none⟩ = false := bA 6
     have fU : wr.frozen? ⟨go5, (aA : Int).toNat * 8 + 7, none⟩ = false := bA 7
     clear hcl5 aZ bA hM5
     replace p5 := eq_true p5
     replace q5 := eq_true q5
     have HX14 := am (show Kd.R k63 63 wr w0.heap.size (fun k_ => (P0_ k_ ∨ w.heap.size ≤ k_)) (.slice (some ⟨go5, 0, none⟩) aE.length aL) aE from (KR aI))
     obtain ⟨ce14, hcl14, hM14, bR, bZ⟩ := Kd.R_elem HX14.out z63 (aA : Int) (OD) (by have h_ : (aA : Int) < ((aE.length : Int) : Int) := OD; first | exact h_ | (have e_ := (Kd.R_reads' aI.out).1; omega) | simpa using h_)
     obtain rfl := k63_openM hM14
     have HP14 := Kd.R_seg HX14.out (aA : Int) (OD) (by have h_ : (aA : Int) < ((aE.length : Int) : Int) := OD; first | exact h_ | (have e_ := (Kd.R_reads' aI.out).1; omega) | simpa using h_) (seg := [.int .i64 aD]) (j := 0) hcl14 bR (show 1 ≤ 8 from by decide) (x' := (⟨aD, (rd_T63 aE aA).f1, (⟨(rd_T63 aE aA).f2.f0, (rd_T63 aE aA).f2.f1⟩ : S61), (⟨(rd_T63 aE aA).f3.f0, (rd_T63 aE aA).f3.f1⟩ : S61), (rd_T63 aE aA).f4, (rd_T63 aE aA).f5⟩ : S63)) (k63_mkM _ _ _ (⟨aD, (rd_T63 aE aA).f1, (⟨(rd_T63 aE aA).f2.f0, (rd_T63 aE aA).f2.f1⟩ : S61), (⟨(rd_T63 aE aA).f3.f0, (rd_T63 aE aA).f3.f1⟩ : S61), (rd_T63 aE aA).f4, (rd_T63 aE aA).f5⟩ : S63) ) (fun _ hk => hk)
     have cI := bR 0 _ rfl
     (try simp only [show (k63).sz = 8 from rfl, Nat.mul_one, Nat.add_zero] at cI)
     have cJ := bZ 0
     (try simp only [show (k63).sz = 8 from rfl, Nat.mul_one, Nat.add_zero] at cJ)
     clear hcl14 bR bZ hM14
     go_wp2_with (first | ((with_reducible refine gate_store (t := 3) (p := 16) rfl ?_); refine store_event (t := 3) (p := 16) (v := ?vo_w15) (w1 := (wr.setCell ⟨go5, (aA : Int).toNat * 8, none⟩ (.int .i64 aD))) ?hg ?ho ?hn ?hr ?_; (case ho => rfl); (case hg => rfl); (case hn => rfl); (case hr => first | (go_simp; done) | (go_simp; rfl)); intro aS hw; have hg : wr.grownBy aS (some go5) := (by rw [hw]; exact HP14.2); have hp_ : Kd.R k63 63 aS w0.heap.size (fun k_ => (P0_ k_ ∨ w.heap.size ≤ k_)) (.slice (some ⟨go5, 0, none⟩) aE.length aL) aK := (by rw [hw, Ny101.out]; exact HP14.1); clear HP14; replace HB := am ((by rw [hw]; exact below_set (HB.out) GB5.out : Below w0.heap.size w0 aS)); replace HK := am (Kept.of_grown (S := (fun k_ => P0_ k_)) hg (by repeat (first | (with_reducible first | exact HK.out | apply Kept.alloc | apply Kept.drewN | apply Kept.drew) | exact HK.out)) (fun k_ e_ => (aI.out.1 k_ e_))); replace aI := am (hp_); clear hg hw hp_; have p6 : 0 ≤ (aA : Int) := OD; have q6 : (aA : Int) < ((aE.length : Int) : Int) := OD; obtain ⟨ce6, hcl6, hM6, bB, bC⟩ := Kd.R_elem aI.out z63 (aA : Int) p6 q6; obtain rfl := k63_openM hM6; have fV : aS.cell? ⟨go5, (aA : Int).toNat * 8, none⟩ = some (.int .i64 ((rd_T63 aK aA).f0)) := bB 0 _ rfl; have fW : aS.cell? ⟨go5, (aA : Int).toNat * 8 + 1, none⟩ = some (.int .i64 ((rd_T63 aK aA).f1)) := bB 1 _ rfl; have fX : aS.cell? ⟨go5, (aA : Int).toNat * 8 + 2, none⟩ = some (.int .i64 ((rd_T63 aK aA).f2.f0)) := bB 2 _ rfl; have fY : aS.cell? ⟨go5, (aA : Int).toNat * 8 + 3, none⟩ = some (.int .i64 ((rd_T63 aK aA).f2.f1)) := bB 3 _ rfl; have fZ : aS.cell? ⟨go5, (aA : Int).toNat * 8 + 4, none⟩ = some (.int .i64 ((rd_T63 aK aA).f3.f0)) := bB 4 _ rfl; have gA : aS.cell? ⟨go5, (aA : Int).toNat * 8 + 5, none⟩ = some (.int .i64 ((rd_T63 aK aA).f3.f1)) := bB 5 _ rfl; have gB : aS.cell? ⟨go5, (aA : Int).toNat * 8 + 6, none⟩ = some (.int .i64 ((rd_T63 aK aA).f4)) := bB 6 _ rfl; have gC : aS.cell? ⟨go5, (aA : Int).toNat * 8 + 7, none⟩ = some (.int .i64 ((rd_T63 aK aA).f5)) := bB 7 _ rfl; have gD : aS.frozen? ⟨go5, (aA : Int).toNat * 8, none⟩ = false := bC 0; have gE : aS.frozen? ⟨go5, (aA : Int).toNat * 8 + 1, none⟩ = false := bC 1; have gF : aS.frozen? ⟨go5, (aA : Int).toNat * 8 + 2, none⟩ = false := bC 2; have gG : aS.frozen? ⟨go5, (aA : Int).toNat * 8 + 3, none⟩ = false := bC 3; have gH : aS.frozen? ⟨go5, (aA : Int).toNat * 8 + 4, none⟩ = false := bC 4; have gI : aS.frozen? ⟨go5, (aA : Int).toNat * 8 + 5, none⟩ = false := bC 5; have gJ : aS.frozen? ⟨go5, (aA : Int).toNat * 8 + 6, none⟩ = false := bC 6; have gK : aS.frozen? ⟨go5, (aA : Int).toNat * 8 + 7, none⟩ = false := bC 7; clear hcl6 bB bC hM6; replace p6 := eq_true p6; replace q6 := eq_true q6; have HX16 := am (show Kd.R k63 63 aS w0.heap.size (fun k_ => (P0_ k_ ∨ w.heap.size ≤ k_)) (.slice (some ⟨go5, 0, none⟩) aE.length aL) aK from (KR aI)); obtain ⟨ce16, hcl16, hM16, bS, cA⟩ := Kd.R_elem HX16.out z63 (aA : Int) (OD) (by have h_ : (aA : Int) < ((aE.length : Int) : Int) := OD; first | exact h_ | (have e_ := (Kd.R_reads' aI.out).1; omega) | simpa using h_); obtain rfl := k63_openM hM16; have HP16 := Kd.R_seg HX16.out (aA : Int) (OD) (by have h_ : (aA : Int) < ((aE.length : Int) : Int) := OD; first | exact h_ | (have e_ := (Kd.R_reads' aI.out).1; omega) | simpa using h_) (seg := [.int .i64 (wrap64 (aD + 1))]) (j := 1) hcl16 bS (show 2 ≤ 8 from by decide) (x' := (⟨(rd_T63 aK aA).f0, wrap64 (aD + 1), (⟨(rd_T63 aK aA).f2.f0, (rd_T63 aK aA).f2.f1⟩ : S61), (⟨(rd_T63 aK aA).f3.f0, (rd_T63 aK aA).f3.f1⟩ : S61), (rd_T63 aK aA).f4, (rd_T63 aK aA).f5⟩ : S63)) (k63_mkM _ _ _ (⟨(rd_T63 aK aA).f0, wrap64 (aD + 1), (⟨(rd_T63 aK aA).f2.f0, (rd_T63 aK aA).f2.f1⟩ : S61), (⟨(rd_T63 aK aA).f3.f0, (rd_T63 aK aA).f3.f1⟩ : S61), (rd_T63 aK aA).f4, (rd_T63 aK aA).f5⟩ : S63) ) (fun _ hk => hk); have cK := bS 1 _ rfl; (try simp only [show (k63).sz = 8 from rfl, Nat.mul_one, Nat.add_zero] at cK); have cL := cA 1; (try simp only [show (k63).sz = 8 from rfl, Nat.mul_one, Nat.add_zero] at cL); clear hcl16 bS cA hM16) | ((with_reducible refine gate_store (t := 3) (p := 23) rfl ?_); refine store_event (t := 3) (p := 23) (v := ?vo_w17) (w1 := (aS.setCell ⟨go5, (aA : Int).toNat * 8 + 1, none⟩ (.int .i64 (wrap64 (aD + 1))))) ?hg ?ho ?hn ?hr ?_; (case ho => rfl); (case hg => rfl); (case hn => rfl); (case hr => first | (go_simp; done) | (go_simp; rfl)); intro aT hw; have hg : aS.grownBy aT (some go5) := (by rw [hw]; exact HP16.2); have hp_ : Kd.R k63 63 aT w0.heap.size (fun k_ => (P0_ k_ ∨ w.heap.size ≤ k_)) (.slice (some ⟨go5, 0, none⟩) aE.length aL) aJ := (by rw [hw, Ny102.out]; exact HP16.1); clear HP16; replace HB := am ((by rw [hw]; exact below_set (HB.out) GB5.out : Below w0.heap.size w0 aT)); replace HK := am (Kept.of_grown (S := (fun k_ => P0_ k_)) hg (by repeat (first | (with_reducible first | exact HK.out | apply Kept.alloc | apply Kept.drewN | apply Kept.drew) | exact HK.out)) (fun k_ e_ => (aI.out.1 k_ e_))); replace aI := am (hp_); clear hg hw hp_; have p7 : 0 ≤ (aA : Int) := OD; have q7 : (aA : Int) < ((aE.length : Int) : Int) := OD; obtain ⟨ce7, hcl7, hM7, bD, bE⟩ := Kd.R_elem aI.out z63 (aA : Int) p7 q7; obtain rfl := k63_openM hM7; have gL : aT.cell? ⟨go5, (aA : Int).toNat * 8, none⟩ = some (.int .i64 ((rd_T63 aJ aA).f0)) := bD 0 _ rfl; have gM : aT.cell? ⟨go5, (aA : Int).toNat * 8 + 1, none⟩ = some (.int .i64 ((rd_T63 aJ aA).f1)) := bD 1 _ rfl; have gN : aT.cell? ⟨go5, (aA : Int).toNat * 8 + 2, none⟩ = some (.int .i64 ((rd_T63 aJ aA).f2.f0)) := bD 2 _ rfl; have gO : aT.cell? ⟨go5, (aA : Int).toNat * 8 + 3, none⟩ = some (.int .i64 ((rd_T63 aJ aA).f2.f1)) := bD 3 _ rfl; have gP : aT.cell? ⟨go5, (aA : Int).toNat * 8 + 4, none⟩ = some (.int .i64 ((rd_T63 aJ aA).f3.f0)) := bD 4 _ rfl; have gQ : aT.cell? ⟨go5, (aA : Int).toNat * 8 + 5, none⟩ = some (.int .i64 ((rd_T63 aJ aA).f3.f1)) := bD 5 _ rfl; have gR : aT.cell? ⟨go5, (aA : Int).toNat * 8 + 6, none⟩ = some (.int .i64 ((rd_T63 aJ aA).f4)) := bD 6 _ rfl; have gS : aT.cell? ⟨go5, (aA : Int).toNat * 8 + 7, none⟩ = some (.int .i64 ((rd_T63 aJ aA).f5)) := bD 7 _ rfl; have gT : aT.frozen? ⟨go5, (aA : Int).toNat * 8, none⟩ = false := bE 0; have gU : aT.frozen? ⟨go5, (aA : Int).toNat * 8 + 1, none⟩ = false := bE 1; have gV : aT.frozen? ⟨go5, (aA : Int).toNat * 8 + 2, none⟩ = false := bE 2; have gW : aT.frozen? ⟨go5, (aA : Int).toNat * 8 + 3, none⟩ = false := bE 3; have gX : aT.frozen? ⟨go5, (aA : Int).toNat * 8 + 4, none⟩ = false := bE 4; have gY : aT.frozen? ⟨go5, (aA : Int).toNat * 8 + 5, none⟩ = false := bE 5; have gZ : aT.frozen? ⟨go5, (aA : Int).toNat * 8 + 6, none⟩ = false := bE 6; have hA : aT.frozen? ⟨go5, (aA : Int).toNat * 8 + 7, none⟩ = false := bE 7; clear hcl7 bD bE hM7; replace p7 := eq_true p7; replace q7 := eq_true q7; have HX18 := am (show Kd.R k63 63 aT w0.heap.size (fun k_ => (P0_ k_ ∨ w.heap.size ≤ k_)) (.slice (some ⟨go5, 0, none⟩) aE.length aL) aJ from (KR aI)); obtain ⟨ce18, hcl18, hM18, bT, cB⟩ := Kd.R_elem HX18.out z63 (aA : Int) (OD) (by have h_ : (aA : Int) < ((aE.length : Int) : Int) := OD; first | exact h_ | (have e_ := (Kd.R_reads' aI.out).1; omega) | simpa using h_); obtain rfl := k63_openM hM18; have HP18 := Kd.R_seg HX18.out (aA : Int) (OD) (by have h_ : (aA : Int) < ((aE.length : Int) : Int) := OD; first | exact h_ | (have e_ := (Kd.R_reads' aI.out).1; omega) | simpa using h_) (seg := [.int .i64 (wrap64 ((wrap64 (aD + 1)) + 1))]) (j := 2) hcl18 bT (show 3 ≤ 8 from by decide) (x' := (⟨(rd_T63 aJ aA).f0, (rd_T63 aJ aA).f1, (⟨wrap64 ((wrap64 (aD + 1)) + 1), (rd_T63 aJ aA).f2.f1⟩ : S61), (⟨(rd_T63 aJ aA).f3.f0, (rd_T63 aJ aA).f3.f1⟩ : S61), (rd_T63 aJ aA).f4, (rd_T63 aJ aA).f5⟩ : S63)) (k63_mkM _ _ _ (⟨(rd_T63 aJ aA).f0, (rd_T63 aJ aA).f1, (⟨wrap64 ((wrap64 (aD + 1)) + 1), (rd_T63 aJ aA).f2.f1⟩ : S61), (⟨(rd_T63 aJ aA).f3.f0, (rd_T63 aJ aA).f3.f1⟩ : S61), (rd_T63 aJ aA).f4, (rd_T63 aJ aA).f5⟩ : S63) ) (fun _ hk => hk); have cM := bT 2 _ rfl; (try simp only [show (k63).sz = 8 from rfl, Nat.mul_one, Nat.add_zero] at cM); have cN := cB 2; (try simp only [show (k63).sz = 8 from rfl, Nat.mul_one, Nat.add_zero] at cN); clear hcl18 bT cB hM18) | ((with_reducible refine gate_store (t := 3) (p := 31) rfl ?_); refine store_event (t := 3) (p := 31) (v := ?vo_w19) (w1 := (aT.setCell ⟨go5, (aA : Int).toNat * 8 + 2, none⟩ (.int .i64 (wrap64 ((wrap64 (aD + 1)) + 1))))) ?hg ?ho ?hn ?hr ?_; (case ho => rfl); (case hg => rfl); (case hn => rfl); (case hr => first | (go_simp; done) | (go_simp; rfl)); intro aU hw; have hg : aT.grownBy aU (some go5) := (by rw [hw]; exact HP18.2); have hp_ : Kd.R k63 63 aU w0.heap.size (fun k_ => (P0_ k_ ∨ w.heap.size ≤ k_)) (.slice (some ⟨go5, 0, none⟩) aE.length aL) aH := (by rw [hw, Ny103.out]; exact HP18.1); clear HP18; replace HB := am ((by rw [hw]; exact below_set (HB.out) GB5.out : Below w0.heap.size w0 aU)); replace HK := am (Kept.of_grown (S := (fun k_ => P0_ k_)) hg (by repeat (first | (with_reducible first | exact HK.out | apply Kept.alloc | apply Kept.drewN | apply Kept.drew) | exact HK.out)) (fun k_ e_ => (aI.out.1 k_ e_))); replace aI := am (hp_); clear hg hw hp_; have p8 : 0 ≤ (aA : Int) := OD; have q8 : (aA : Int) < ((aE.length : Int) : Int) := OD; obtain ⟨ce8, hcl8, hM8, bF, bG⟩ := Kd.R_elem aI.out z63 (aA : Int) p8 q8; obtain rfl := k63_openM hM8; have hC : aU.cell? ⟨go5, (aA : Int).toNat * 8, none⟩ = some (.int .i64 ((rd_T63 aH aA).f0)) := bF 0 _ rfl; have hD : aU.cell? ⟨go5, (aA : Int).toNat * 8 + 1, none⟩ = some (.int .i64 ((rd_T63 aH aA).f1)) := bF 1 _ rfl; have hE : aU.cell? ⟨go5, (aA : Int).toNat * 8 + 2, none⟩ = some (.int .i64 ((rd_T63 aH aA).f2.f0)) := bF 2 _ rfl; have hF : aU.cell? ⟨go5, (aA : Int).toNat * 8 + 3, none⟩ = some (.int .i64 ((rd_T63 aH aA).f2.f1)) := bF 3 _ rfl; have hG : aU.cell? ⟨go5, (aA : Int).toNat * 8 + 4, none⟩ = some (.int .i64 ((rd_T63 aH aA).f3.f0)) := bF 4 _ rfl; have hH : aU.cell? ⟨go5, (aA : Int).toNat * 8 + 5, none⟩ = some (.int .i64 ((rd_T63 aH aA).f3.f1)) := bF 5 _ rfl; have hI : aU.cell? ⟨go5, (aA : Int).toNat * 8 + 6, none⟩ = some (.int .i64 ((rd_T63 aH aA).f4)) := bF 6 _ rfl; have hJ : aU.cell? ⟨go5, (aA : Int).toNat * 8 + 7, none⟩ = some (.int .i64 ((rd_T63 aH aA).f5)) := bF 7 _ rfl; have hK : aU.frozen? ⟨go5, (aA : Int).toNat * 8, none⟩ = false := bG 0; have hL : aU.frozen? ⟨go5, (aA : Int).toNat * 8 + 1, none⟩ = false := bG 1; have hM : aU.frozen? ⟨go5, (aA : Int).toNat * 8 + 2, none⟩ = false := bG 2; have hN : aU.frozen? ⟨go5, (aA : Int).toNat * 8 + 3, none⟩ = false := bG 3; have hO : aU.frozen? ⟨go5, (aA : Int).toNat * 8 + 4, none⟩ = false := bG 4; have hP : aU.frozen? ⟨go5, (aA : Int).toNat * 8 + 5, none⟩ = false := bG 5; have hQ : aU.frozen? ⟨go5, (aA : Int).toNat * 8 + 6, none⟩ = false := bG 6; have hR : aU.frozen? ⟨go5, (aA : Int).toNat * 8 + 7, none⟩ = false := bG 7; clear hcl8 bF bG hM8; replace p8 := eq_true p8; replace q8 := eq_true q8; have HX20 := am (show Kd.R k63 63 aU w0.heap.size (fun k_ => (P0_ k_ ∨ w.heap.size ≤ k_)) (.slice (some ⟨go5, 0, none⟩) aE.length aL) aH from (KR aI)); obtain ⟨ce20, hcl20, hM20, bU, cC⟩ := Kd.R_elem HX20.out z63 (aA : Int) (OD) (by have h_ : (aA : Int) < ((aE.length : Int) : Int) := OD; first | exact h_ | (have e_ := (Kd.R_reads' aI.out).1; omega) | simpa using h_); obtain rfl := k63_openM hM20; have HP20 := Kd.R_seg HX20.out (aA : Int) (OD) (by have h_ : (aA : Int) < ((aE.length : Int) : Int) := OD; first | exact h_ | (have e_ := (Kd.R_reads' aI.out).1; omega) | simpa using h_) (seg := [.int .i64 (wrap64 ((wrap64 ((wrap64 (aD + 1)) + 1)) + 1))]) (j := 3) hcl20 bU (show 4 ≤ 8 from by decide) (x' := (⟨(rd_T63 aH aA).f0, (rd_T63 aH aA).f1, (⟨(rd_T63 aH aA).f2.f0, wrap64 ((wrap64 ((wrap64 (aD + 1)) + 1)) + 1)⟩ : S61), (⟨(rd_T63 aH aA).f3.f0, (rd_T63 aH aA).f3.f1⟩ : S61), (rd_T63 aH aA).f4, (rd_T63 aH aA).f5⟩ : S63)) (k63_mkM _ _ _ (⟨(rd_T63 aH aA).f0, (rd_T63 aH aA).f1, (⟨(rd_T63 aH aA).f2.f0, wrap64 ((wrap64 ((wrap64 (aD + 1)) + 1)) + 1)⟩ : S61), (⟨(rd_T63 aH aA).f3.f0, (rd_T63 aH aA).f3.f1⟩ : S61), (rd_T63 aH aA).f4, (rd_T63 aH aA).f5⟩ : S63) ) (fun _ hk => hk); have cO := bU 3 _ rfl; (try simp only [show (k63).sz = 8 from rfl, Nat.mul_one, Nat.add_zero] at cO); have cP := cC 3; (try simp only [show (k63).sz = 8 from rfl, Nat.mul_one, Nat.add_zero] at cP); clear hcl20 bU cC hM20) | ((with_reducible refine gate_store (t := 3) (p := 39) rfl ?_); refine store_event (t := 3) (p := 39) (v := ?vo_w21) (w1 := (aU.setCell ⟨go5, (aA : Int).toNat * 8 + 3, none⟩ (.int .i64 (wrap64 ((wrap64 ((wrap64 (aD + 1)) + 1)) + 1))))) ?hg ?ho ?hn ?hr ?_; (case ho => rfl); (case hg => rfl); (case hn => rfl); (case hr => first | (go_simp; done) | (go_simp; rfl)); intro aV hw; have hg : aU.grownBy aV (some go5) := (by rw [hw]; exact HP20.2); have hp_ : Kd.R k63 63 aV w0.heap.size (fun k_ => (P0_ k_ ∨ w.heap.size ≤ k_)) (.slice (some ⟨go5, 0, none⟩) aE.length aL) aG := (by rw [hw, Ny104.out]; exact HP20.1); clear HP20; replace HB := am ((by rw [hw]; exact below_set (HB.out) GB5.out : Below w0.heap.size w0 aV)); replace HK := am (Kept.of_grown (S := (fun k_ => P0_ k_)) hg (by repeat (first | (with_reducible first | exact HK.out | apply Kept.alloc | apply Kept.drewN | apply Kept.drew) | exact HK.out)) (fun k_ e_ => (aI.out.1 k_ e_))); replace aI := am (hp_); clear hg hw hp_; have p9 : 0 ≤ (aA : Int) := OD; have q9 : (aA : Int) < ((aE.length : Int) : Int) := OD; obtain ⟨ce9, hcl9, hM9, bH, bI⟩ := Kd.R_elem aI.out z63 (aA : Int) p9 q9; obtain rfl := k63_openM hM9; have hS : aV.cell? ⟨go5, (aA : Int).toNat * 8, none⟩ = some (.int .i64 ((rd_T63 aG aA).f0)) := bH 0 _ rfl; have hT : aV.cell? ⟨go5, (aA : Int).toNat * 8 + 1, none⟩ = some (.int .i64 ((rd_T63 aG aA).f1)) := bH 1 _ rfl; have hU : aV.cell? ⟨go5, (aA : Int).toNat * 8 + 2, none⟩ = some (.int .i64 ((rd_T63 aG aA).f2.f0)) := bH 2 _ rfl; have hV : aV.cell? ⟨go5, (aA : Int).toNat * 8 + 3, none⟩ = some (.int .i64 ((rd_T63 aG aA).f2.f1)) := bH 3 _ rfl; have hW : aV.cell? ⟨go5, (aA : Int).toNat * 8 + 4, none⟩ = some (.int .i64 ((rd_T63 aG aA).f3.f0)) := bH 4 _ rfl; have hX : aV.cell? ⟨go5, (aA : Int).toNat * 8 + 5, none⟩ = some (.int .i64 ((rd_T63 aG aA).f3.f1)) := bH 5 _ rfl; have hY : aV.cell? ⟨go5, (aA : Int).toNat * 8 + 6, none⟩ = some (.int .i64 ((rd_T63 aG aA).f4)) := bH 6 _ rfl; have hZ : aV.cell? ⟨go5, (aA : Int).toNat * 8 + 7, none⟩ = some (.int .i64 ((rd_T63 aG aA).f5)) := bH 7 _ rfl; have iA : aV.frozen? ⟨go5, (aA : Int).toNat * 8, none⟩ = false := bI 0; have iB : aV.frozen? ⟨go5, (aA : Int).toNat * 8 + 1, none⟩ = false := bI 1; have iC : aV.frozen? ⟨go5, (aA : Int).toNat * 8 + 2, none⟩ = false := bI 2; have iD : aV.frozen? ⟨go5, (aA : Int).toNat * 8 + 3, none⟩ = false := bI 3; have iE : aV.frozen? ⟨go5, (aA : Int).toNat * 8 + 4, none⟩ = false := bI 4; have iF : aV.frozen? ⟨go5, (aA : Int).toNat * 8 + 5, none⟩ = false := bI 5; have iG : aV.frozen? ⟨go5, (aA : Int).toNat * 8 + 6, none⟩ = false := bI 6; have iH : aV.frozen? ⟨go5, (aA : Int).toNat * 8 + 7, none⟩ = false := bI 7; clear hcl9 bH bI hM9; replace p9 := eq_true p9; replace q9 := eq_true q9; have HX22 := am (show Kd.R k63 63 aV w0.heap.size (fun k_ => (P0_ k_ ∨ w.heap.size ≤ k_)) (.slice (some ⟨go5, 0, none⟩) aE.length aL) aG from (KR aI)); obtain ⟨ce22, hcl22, hM22, bV, cD⟩ := Kd.R_elem HX22.out z63 (aA : Int) (OD) (by have h_ : (aA : Int) < ((aE.length : Int) : Int) := OD; first | exact h_ | (have e_ := (Kd.R_reads' aI.out).1; omega) | simpa using h_); obtain rfl := k63_openM hM22; have HP22 := Kd.R_seg HX22.out (aA : Int) (OD) (by have h_ : (aA : Int) < ((aE.length : Int) : Int) := OD; first | exact h_ | (have e_ := (Kd.R_reads' aI.out).1; omega) | simpa using h_) (seg := [.int .i64 (wrap64 ((wrap64 ((wrap64 ((wrap64 (aD + 1)) + 1)) + 1)) + 1))]) (j := 4) hcl22 bV (show 5 ≤ 8 from by decide) (x' := (⟨(rd_T63 aG aA).f0, (rd_T63 aG aA).f1, (⟨(rd_T63 aG aA).f2.f0, (rd_T63 aG aA).f2.f1⟩ : S61), (⟨wrap64 ((wrap64 ((wrap64 ((wrap64 (aD + 1)) + 1)) + 1)) + 1), (rd_T63 aG aA).f3.f1⟩ : S61), (rd_T63 aG aA).f4, (rd_T63 aG aA).f5⟩ : S63)) (k63_mkM _ _ _ (⟨(rd_T63 aG aA).f0, (rd_T63 aG aA).f1, (⟨(rd_T63 aG aA).f2.f0, (rd_T63 aG aA).f2.f1⟩ : S61), (⟨wrap64 ((wrap64 ((wrap64 ((wrap64 (aD + 1)) + 1)) + 1)) + 1), (rd_T63 aG aA).f3.f1⟩ : S61), (rd_T63 aG aA).f4, (rd_T63 aG aA).f5⟩ : S63) ) (fun _ hk => hk); have cQ := bV 4 _ rfl; (try simp only [show (k63).sz = 8 from rfl, Nat.mul_one, Nat.add_zero] at cQ); have cR := cD 4; (try simp only [show (k63).sz = 8 from rfl, Nat.mul_one, Nat.add_zero] at cR); clear hcl22 bV cD hM22) | ((with_reducible refine gate_store (t := 3) (p := 47) rfl ?_); refine store_event (t := 3) (p := 47) (v := ?vo_w23) (w1 := (aV.setCell ⟨go5, (aA : Int).toNat * 8 + 4, none⟩ (.int .i64 (wrap64 ((wrap64 ((wrap64 ((wrap64 (aD + 1)) + 1)) + 1)) + 1))))) ?hg ?ho ?hn ?hr ?_; (case ho => rfl); (case hg => rfl); (case hn => rfl); (case hr => first | (go_simp; done) | (go_simp; rfl)); intro aW hw; have hg : aV.grownBy aW (some go5) := (by rw [hw]; exact HP22.2); have hp_ : Kd.R k63 63 aW w0.heap.size (fun k_ => (P0_ k_ ∨ w.heap.size ≤ k_)) (.slice (some ⟨go5, 0, none⟩) aE.length aL) aF := (by rw [hw, Ny105.out]; exact HP22.1); clear HP22; replace HB := am ((by rw [hw]; exact below_set (HB.out) GB5.out : Below w0.heap.size w0 aW)); replace HK := am (Kept.of_grown (S := (fun k_ => P0_ k_)) hg (by repeat (first | (with_reducible first | exact HK.out | apply Kept.alloc | apply Kept.drewN | apply Kept.drew) | exact HK.out)) (fun k_ e_ => (aI.out.1 k_ e_))); replace aI := am (hp_); clear hg hw hp_; have cZ : 0 ≤ (aA : Int) := OD; have dA : (aA : Int) < ((aE.length : Int) : Int) := OD; obtain ⟨ce10, hcl10, hM10, aM, aN⟩ := Kd.R_elem aI.out z63 (aA : Int) cZ dA; obtain rfl := k63_openM hM10; have dB : aW.cell? ⟨go5, (aA : Int).toNat * 8, none⟩ = some (.int .i64 ((rd_T63 aF aA).f0)) := aM 0 _ rfl; have dC : aW.cell? ⟨go5, (aA : Int).toNat * 8 + 1, none⟩ = some (.int .i64 ((rd_T63 aF aA).f1)) := aM 1 _ rfl; have dD : aW.cell? ⟨go5, (aA : Int).toNat * 8 + 2, none⟩ = some (.int .i64 ((rd_T63 aF aA).f2.f0)) := aM 2 _ rfl; have dE : aW.cell? ⟨go5, (aA : Int).toNat * 8 + 3, none⟩ = some (.int .i64 ((rd_T63 aF aA).f2.f1)) := aM 3 _ rfl; have dF : aW.cell? ⟨go5, (aA : Int).toNat * 8 + 4, none⟩ = some (.int .i64 ((rd_T63 aF aA).f3.f0)) := aM 4 _ rfl; have dG : aW.cell? ⟨go5, (aA : Int).toNat * 8 + 5, none⟩ = some (.int .i64 ((rd_T63 aF aA).f3.f1)) := aM 5 _ rfl; have dH : aW.cell? ⟨go5, (aA : Int).toNat * 8 + 6, none⟩ = some (.int .i64 ((rd_T63 aF aA).f4)) := aM 6 _ rfl; have dI : aW.cell? ⟨go5, (aA : Int).toNat * 8 + 7, none⟩ = some (.int .i64 ((rd_T63 aF aA).f5)) := aM 7 _ rfl; have dJ : aW.frozen? ⟨go5, (aA : Int).toNat * 8, none⟩ = false := aN 0; have dK : aW.frozen? ⟨go5, (aA : Int).toNat * 8 + 1, none⟩ = false := aN 1; have dL : aW.frozen? ⟨go5, (aA : Int).toNat * 8 + 2, none⟩ = false := aN 2; have dM : aW.frozen? ⟨go5, (aA : Int).toNat * 8 + 3, none⟩ = false := aN 3; have dN : aW.frozen? ⟨go5, (aA : Int).toNat * 8 + 4, none⟩ = false := aN 4; have dO : aW.frozen? ⟨go5, (aA : Int).toNat * 8 + 5, none⟩ = false := aN 5; have dP : aW.frozen? ⟨go5, (aA : Int).toNat * 8 + 6, none⟩ = false := aN 6; have dQ : aW.frozen? ⟨go5, (aA : Int).toNat * 8 + 7, none⟩ = false := aN 7; clear hcl10 aM aN hM10; replace cZ := eq_true cZ; replace dA := eq_true dA; have HX24 := am (show Kd.R k63 63 aW w0.heap.size (fun k_ => (P0_ k_ ∨ w.heap.size ≤ k_)) (.slice (some ⟨go5, 0, none⟩) aE.length aL) aF from (KR aI)); obtain ⟨ce24, hcl24, hM24, bW, cE⟩ := Kd.R_elem HX24.out z63 (aA : Int) (OD) (by have h_ : (aA : Int) < ((aE.length : Int) : Int) := OD; first | exact h_ | (have e_ := (Kd.R_reads' aI.out).1; omega) | simpa using h_); obtain rfl := k63_openM hM24; have HP24 := Kd.R_seg HX24.out (aA : Int) (OD) (by have h_ : (aA : Int) < ((aE.length : Int) : Int) := OD; first | exact h_ | (have e_ := (Kd.R_reads' aI.out).1; omega) | simpa using h_) (seg := [.int .i64 (wrap64 ((wrap64 ((wrap64 ((wrap64 ((wrap64 (aD + 1)) + 1)) + 1)) + 1)) + 1))]) (j := 5) hcl24 bW (show 6 ≤ 8 from by decide) (x' := (⟨(rd_T63 aF aA).f0, (rd_T63 aF aA).f1, (⟨(rd_T63 aF aA).f2.f0, (rd_T63 aF aA).f2.f1⟩ : S61), (⟨(rd_T63 aF aA).f3.f0, wrap64 ((wrap64 ((wrap64 ((wrap64 ((wrap64 (aD + 1)) + 1)) + 1)) + 1)) + 1)⟩ : S61), (rd_T63 aF aA).f4, (rd_T63 aF aA).f5⟩ : S63)) (k63_mkM _ _ _ (⟨(rd_T63 aF aA).f0, (rd_T63 aF aA).f1, (⟨(rd_T63 aF aA).f2.f0, (rd_T63 aF aA).f2.f1⟩ : S61), (⟨(rd_T63 aF aA).f3.f0, wrap64 ((wrap64 ((wrap64 ((wrap64 ((wrap64 (aD + 1)) + 1)) + 1)) + 1)) + 1)⟩ : S61), (rd_T63 aF aA).f4, (rd_T63 aF aA).f5⟩ : S63) ) (fun _ hk => hk); have cS := bW 5 _ rfl; (try simp only [show (k63).sz = 8 from rfl, Nat.mul_one, Nat.add_zero] at cS); have cT := cE 5; (try simp only [show (k63).sz = 8 from rfl, Nat.mul_one, Nat.add_zero] at cT); clear hcl24 bW cE hM24) | ((with_reducible refine gate_store (t := 3) (p := 55) rfl ?_); refine store_event (t := 3) (p := 55) (v := ?vo_w25) (w1 := (aW.setCell ⟨go5, (aA : Int).toNat * 8 + 5, none⟩ (.int .i64 (wrap64 ((wrap64 ((wrap64 ((wrap64 ((wrap64 (aD + 1)) + 1)) + 1)) + 1)) + 1))))) ?hg ?ho ?hn ?hr ?_; (case ho => rfl); (case hg => rfl); (case hn => rfl); (case hr => first | (go_simp; done) | (go_simp; rfl)); intro aX hw; have hg : aW.grownBy aX (some go5) := (by rw [hw]; exact HP24.2); have hp_ : Kd.R k63 63 aX w0.heap.size (fun k_ => (P0_ k_ ∨ w.heap.size ≤ k_)) (.slice (some ⟨go5, 0, none⟩) aE.length aL) aC := (by rw [hw, Ny106.out]; exact HP24.1); clear HP24; replace HB := am ((by rw [hw]; exact below_set (HB.out) GB5.out : Below w0.heap.size w0 aX)); replace HK := am (Kept.of_grown (S := (fun k_ => P0_ k_)) hg (by repeat (first | (with_reducible first | exact HK.out | apply Kept.alloc | apply Kept.drewN | apply Kept.drew) | exact HK.out)) (fun k_ e_ => (aI.out.1 k_ e_))); replace aI := am (hp_); clear hg hw hp_; have dR : 0 ≤ (aA : Int) := OD; have dS : (aA : Int) < ((aE.length : Int) : Int) := OD; obtain ⟨ce11, hcl11, hM11, aO, aP⟩ := Kd.R_elem aI.out z63 (aA : Int) dR dS; obtain rfl := k63_openM hM11; have dT : aX.cell? ⟨go5, (aA : Int).toNat * 8, none⟩ = some (.int .i64 ((rd_T63 aC aA).f0)) := aO 0 _ rfl; have dU : aX.cell? ⟨go5, (aA : Int).toNat * 8 + 1, none⟩ = some (.int .i64 ((rd_T63 aC aA).f1)) := aO 1 _ rfl; have dV : aX.cell? ⟨go5, (aA : Int).toNat * 8 + 2, none⟩ = some (.int .i64 ((rd_T63 aC aA).f2.f0)) := aO 2 _ rfl; have dW : aX.cell? ⟨go5, (aA : Int).toNat * 8 + 3, none⟩ = some (.int .i64 ((rd_T63 aC aA).f2.f1)) := aO 3 _ rfl; have dX : aX.cell? ⟨go5, (aA : Int).toNat * 8 + 4, none⟩ = some (.int .i64 ((rd_T63 aC aA).f3.f0)) := aO 4 _ rfl; have dY : aX.cell? ⟨go5, (aA : Int).toNat * 8 + 5, none⟩ = some (.int .i64 ((rd_T63 aC aA).f3.f1)) := aO 5 _ rfl; have dZ : aX.cell? ⟨go5, (aA : Int).toNat * 8 + 6, none⟩ = some (.int .i64 ((rd_T63 aC aA).f4)) := aO 6 _ rfl; have eA : aX.cell? ⟨go5, (aA : Int).toNat * 8 + 7, none⟩ = some (.int .i64 ((rd_T63 aC aA).f5)) := aO 7 _ rfl; have eB : aX.frozen? ⟨go5, (aA : Int).toNat * 8, none⟩ = false := aP 0; have eC : aX.frozen? ⟨go5, (aA : Int).toNat * 8 + 1, none⟩ = false := aP 1; have eD : aX.frozen? ⟨go5, (aA : Int).toNat * 8 + 2, none⟩ = false := aP 2; have eE : aX.frozen? ⟨go5, (aA : Int).toNat * 8 + 3, none⟩ = false := aP 3; have eF : aX.frozen? ⟨go5, (aA : Int).toNat * 8 + 4, none⟩ = false := aP 4; have eG : aX.frozen? ⟨go5, (aA : Int).toNat * 8 + 5, none⟩ = false := aP 5; have eH : aX.frozen? ⟨go5, (aA : Int).toNat * 8 + 6, none⟩ = false := aP 6; have eI : aX.frozen? ⟨go5, (aA : Int).toNat * 8 + 7, none⟩ = false := aP 7; clear hcl11 aO aP hM11; replace dR := eq_true dR; replace dS := eq_true dS; have HX26 := am (show Kd.R k63 63 aX w0.heap.size (fun k_ => (P0_ k_ ∨ w.heap.size ≤ k_)) (.slice (some ⟨go5, 0, none⟩) aE.length aL) aC from (KR aI)); obtain ⟨ce26, hcl26, hM26, bX, cF⟩ := Kd.R_elem HX26.out z63 (aA : Int) (OD) (by have h_ : (aA : Int) < ((aE.length : Int) : Int) := OD; first | exact h_ | (have e_ := (Kd.R_reads' aI.out).1; omega) | simpa using h_); obtain rfl := k63_openM hM26; have HP26 := Kd.R_seg HX26.out (aA : Int) (OD) (by have h_ : (aA : Int) < ((aE.length : Int) : Int) := OD; first | exact h_ | (have e_ := (Kd.R_reads' aI.out).1; omega) | simpa using h_) (seg := [.int .i64 (wrap64 ((wrap64 ((wrap64 ((wrap64 ((wrap64 ((wrap64 (aD + 1)) + 1)) + 1)) + 1)) + 1)) + 1))]) (j := 6) hcl26 bX (show 7 ≤ 8 from by decide) (x' := (⟨(rd_T63 aC aA).f0, (rd_T63 aC aA).f1, (⟨(rd_T63 aC aA).f2.f0, (rd_T63 aC aA).f2.f1⟩ : S61), (⟨(rd_T63 aC aA).f3.f0, (rd_T63 aC aA).f3.f1⟩ : S61), wrap64 ((wrap64 ((wrap64 ((wrap64 ((wrap64 ((wrap64 (aD + 1)) + 1)) + 1)) + 1)) + 1)) + 1), (rd_T63 aC aA).f5⟩ : S63)) (k63_mkM _ _ _ (⟨(rd_T63 aC aA).f0, (rd_T63 aC aA).f1, (⟨(rd_T63 aC aA).f2.f0, (rd_T63 aC aA).f2.f1⟩ : S61), (⟨(rd_T63 aC aA).f3.f0, (rd_T63 aC aA).f3.f1⟩ : S61), wrap64 ((wrap64 ((wrap64 ((wrap64 ((wrap64 ((wrap64 (aD + 1)) + 1)) + 1)) + 1)) + 1)) + 1), (rd_T63 aC aA).f5⟩ : S63) ) (fun _ hk => hk); have cU := bX 6 _ rfl; (try simp only [show (k63).sz = 8 from rfl, Nat.mul_one, Nat.add_zero] at cU); have cV := cF 6; (try simp only [show (k63).sz = 8 from rfl, Nat.mul_one, Nat.add_zero] at cV); clear hcl26 bX cF hM26) | ((with_reducible refine gate_store (t := 3) (p := 62) rfl ?_); refine store_event (t := 3) (p := 62) (v := ?vo_w27) (w1 := (aX.setCell ⟨go5, (aA : Int).toNat * 8 + 6, none⟩ (.int .i64 (wrap64 ((wrap64 ((wrap64 ((wrap64 ((wrap64 ((wrap64 (aD + 1)) + 1)) + 1)) + 1)) + 1)) + 1))))) ?hg ?ho ?hn ?hr ?_; (case ho => rfl); (case hg => rfl); (case hn => rfl); (case hr => first | (go_simp; done) | (go_simp; rfl)); intro aY hw; have hg : aX.grownBy aY (some go5) := (by rw [hw]; exact HP26.2); have hp_ : Kd.R k63 63 aY w0.heap.size (fun k_ => (P0_ k_ ∨ w.heap.size ≤ k_)) (.slice (some ⟨go5, 0, none⟩) aE.length aL) aB := (by rw [hw, Ny107.out]; exact HP26.1); clear HP26; replace HB := am ((by rw [hw]; exact below_set (HB.out) GB5.out : Below w0.heap.size w0 aY)); replace HK := am (Kept.of_grown (S := (fun k_ => P0_ k_)) hg (by repeat (first | (with_reducible first | exact HK.out | apply Kept.alloc | apply Kept.drewN | apply Kept.drew) | exact HK.out)) (fun k_ e_ => (aI.out.1 k_ e_))); replace aI := am (hp_); clear hg hw hp_; have eJ : 0 ≤ (aA : Int) := OD; have eK : (aA : Int) < ((aE.length : Int) : Int) := OD; obtain ⟨ce12, hcl12, hM12, aQ, aR⟩ := Kd.R_elem aI.out z63 (aA : Int) eJ eK; obtain rfl := k63_openM hM12; have eL : aY.cell? ⟨go5, (aA : Int).toNat * 8, none⟩ = some (.int .i64 ((rd_T63 aB aA).f0)) := aQ 0 _ rfl; have eM : aY.cell? ⟨go5, (aA : Int).toNat * 8 + 1, none⟩ = some (.int .i64 ((rd_T63 aB aA).f1)) := aQ 1 _ rfl; have eN : aY.cell? ⟨go5, (aA : Int).toNat * 8 + 2, none⟩ = some (.int .i64 ((rd_T63 aB aA).f2.f0)) := aQ 2 _ rfl; have eO : aY.cell? ⟨go5, (aA : Int).toNat * 8 + 3, none⟩ = some (.int .i64 ((rd_T63 aB aA).f2.f1)) := aQ 3 _ rfl; have eP : aY.cell? ⟨go5, (aA : Int).toNat * 8 + 4, none⟩ = some (.int .i64 ((rd_T63 aB aA).f3.f0)) := aQ 4 _ rfl; have eQ : aY.cell? ⟨go5, (aA : Int).toNat * 8 + 5, none⟩ = some (.int .i64 ((rd_T63 aB aA).f3.f1)) := aQ 5 _ rfl; have eR : aY.cell? ⟨go5, (aA : Int).toNat * 8 + 6, none⟩ = some (.int .i64 ((rd_T63 aB aA).f4)) := aQ 6 _ rfl; have eS : aY.cell? ⟨go5, (aA : Int).toNat * 8 + 7, none⟩ = some (.int .i64 ((rd_T63 aB aA).f5)) := aQ 7 _ rfl; have eT : aY.frozen? ⟨go5, (aA : Int).toNat * 8, none⟩ = false := aR 0; have eU : aY.frozen? ⟨go5, (aA : Int).toNat * 8 + 1, none⟩ = false := aR 1; have eV : aY.frozen? ⟨go5, (aA : Int).toNat * 8 + 2, none⟩ = false := aR 2; have eW : aY.frozen? ⟨go5, (aA : Int).toNat * 8 + 3, none⟩ = false := aR 3; have eX : aY.frozen? ⟨go5, (aA : Int).toNat * 8 + 4, none⟩ = false := aR 4; have eY : aY.frozen? ⟨go5, (aA : Int).toNat * 8 + 5, none⟩ = false := aR 5; have eZ : aY.frozen? ⟨go5, (aA : Int).toNat * 8 + 6, none⟩ = false := aR 6; have fA : aY.frozen? ⟨go5, (aA : Int).toNat * 8 + 7, none⟩ = false := aR 7; clear hcl12 aQ aR hM12; replace eJ := eq_true eJ; replace eK := eq_true eK; have HX28 := am (show Kd.R k63 63 aY w0.heap.size (fun k_ => (P0_ k_ ∨ w.heap.size ≤ k_)) (.slice (some ⟨go5, 0, none⟩) aE.length aL) aB from (KR aI)); obtain ⟨ce28, hcl28, hM28, bY, cG⟩ := Kd.R_elem HX28.out z63 (aA : Int) (OD) (by have h_ : (aA : Int) < ((aE.length : Int) : Int) := OD; first | exact h_ | (have e_ := (Kd.R_reads' aI.out).1; omega) | simpa using h_); obtain rfl := k63_openM hM28; have HP28 := Kd.R_seg HX28.out (aA : Int) (OD) (by have h_ : (aA : Int) < ((aE.length : Int) : Int) := OD; first | exact h_ | (have e_ := (Kd.R_reads' aI.out).1; omega) | simpa using h_) (seg := [.int .i64 (wrap64 ((wrap64 ((wrap64 ((wrap64 ((wrap64 ((wrap64 ((wrap64 (aD + 1)) + 1)) + 1)) + 1)) + 1)) + 1)) + 1))]) (j := 7) hcl28 bY (show 8 ≤ 8 from by decide) (x' := (⟨(rd_T63 aB aA).f0, (rd_T63 aB aA).f1, (⟨(rd_T63 aB aA).f2.f0, (rd_T63 aB aA).f2.f1⟩ : S61), (⟨(rd_T63 aB aA).f3.f0, (rd_T63 aB aA).f3.f1⟩ : S61), (rd_T63 aB aA).f4, wrap64 ((wrap64 ((wrap64 ((wrap64 ((wrap64 ((wrap64 ((wrap64 (aD + 1)) + 1)) + 1)) + 1)) + 1)) + 1)) + 1)⟩ : S63)) (k63_mkM _ _ _ (⟨(rd_T63 aB aA).f0, (rd_T63 aB aA).f1, (⟨(rd_T63 aB aA).f2.f0, (rd_T63 aB aA).f2.f1⟩ : S61), (⟨(rd_T63 aB aA).f3.f0, (rd_T63 aB aA).f3.f1⟩ : S61), (rd_T63 aB aA).f4, wrap64 ((wrap64 ((wrap64 ((wrap64 ((wrap64 ((wrap64 ((wrap64 (aD + 1)) + 1)) + 1)) + 1)) + 1)) + 1)) + 1)⟩ : S63) ) (fun _ hk => hk); have cW := bY 7 _ rfl; (try simp only [show (k63).sz = 8 from rfl, Nat.mul_one, Nat.add_zero] at cW); have cX := cG 7; (try simp only [show (k63).sz = 8 from rfl, Nat.mul_one, Nat.add_zero] at cX); clear hcl28 bY cG hM28) | ((with_reducible refine gate_store (t := 3) (p := 69) rfl ?_); refine store_event (t := 3) (p := 69) (v := ?vo_w29) (w1 := (aY.setCell ⟨go5, (aA : Int).toNat * 8 + 7, none⟩ (.int .i64 (wrap64 ((wrap64 ((wrap64 ((wrap64 ((wrap64 ((wrap64 ((wrap64 (aD + 1)) + 1)) + 1)) + 1)) + 1)) + 1)) + 1))))) ?hg ?ho ?hn ?hr ?_; (case ho => rfl); (case hg => rfl); (case hn => rfl); (case hr => first | (go_simp; done) | (go_simp; rfl)); intro fB hw; have hg : aY.grownBy fB (some go5) := (by rw [hw]; exact HP28.2); have hp_ : Kd.R k63 63 fB w0.heap.size (fun k_ => (P0_ k_ ∨ w.heap.size ≤ k_)) (.slice (some ⟨go5, 0, none⟩) aE.length aL) cH := (by rw [hw, Ny108.out]; exact HP28.1); clear HP28; replace HB := am ((by rw [hw]; exact below_set (HB.out) GB5.out : Below w0.heap.size w0 fB)); replace HK := am (Kept.of_grown (S := (fun k_ => P0_ k_)) hg (by repeat (first | (with_reducible first | exact HK.out | apply Kept.alloc | apply Kept.drewN | apply Kept.drew) | exact HK.out)) (fun k_ e_ => (aI.out.1 k_ e_))); replace aI := am (hp_); clear hg hw hp_))
     go_roundg k1
     case measure => have := HK1.out; omega
     case rel => exact ⟨(cH), (wrap64 ((wrap64 ((wrap64 ((wrap64 ((wrap64 ((wrap64 ((wrap64 ((wrap64 (aD + 1)) + 1)) + 1)) + 1)) + 1)) + 1)) + 1)) + 1)), (wrap64 (aA + 1)), (by first | rfl | (simp; done) | (simp [*]; done)), (by first | rfl | (simp; done) | (simp [*]; done)), H', ⟨by have := HK1.out; omega⟩, ⟨KR aI⟩, ⟨by repeat (first | (with_reducible first | exact HK.out | apply Kept.alloc | apply Kept.drewN | apply Kept.drew) | exact HK.out)⟩, ⟨KL HB⟩⟩
    ·rw [if_neg c4] at H
     exact absurd H (by simp)
   ·rw [if_neg c3] at H
    have c3b0 : decide (aA < (aE.length : Int)) = false := decide_eq_false c3
    clear c3
    simp only [Option.some.injEq, Prod.mk.injEq] at H
    obtain ⟨rfl, rfl⟩ := H
    obtain ⟨_, _, fC⟩ := Kd.R_slice aI.out
    subst fC
    go_wp2
    go_ret
    exact ⟨ER, by refine KW ?_; exact aI.out, KL HB, by repeat (first | (with_reducible first | exact HK.out | apply Kept.alloc | apply Kept.drewN | apply Kept.drew) | exact HK.out)⟩
def laws_markGate.f (k : Nat) (a0_0 : Int) (l0_1 : List (S63)) (a0_2 : Int) (l0_3 : List (S80)) (l0_4 : List (S70)) (l0_5 : List (S70)) (a1 : Int) : Option (Int × (List (S63)) × (List (S80))) := (laws_markRuleS.f k l0_1 a1).bind fun bt102 => ((laws_markCache.f k a0_2 l0_3 bt102.1).bind fun bt104 => ((laws_markSaS.f l0_4 bt104.1).bind fun t106 => ((laws_markSaS.f l0_5 t106).bind fun t107 => (some (t107, bt102.2, bt104.2)))))
theorem laws_markGate.calls (k : Nat) (bB : Int) (P0_1_ : Nat → Prop) (u9000_ : Value) (aI : List (S63)) (aL : Int) (P0_3_ : Nat → Prop) (u9001_ : Value) (aF : List (S80)) (aO : Option Addr) (aP : Nat) (aE : List (S70)) (aQ : Option Addr) (aR : Nat) (aD : List (S70)) (a1 : Int) (r1 : Int) (r2 : List (S63)) (r3 : List (S80)) (w0 w : World) (hB : Below w0.heap.size w0 w) (bC : Kd.R k63 63 w w0.heap.size P0_1_ u9000_ aI) (bD : Kd.R k80 80 w w0.heap.size P0_3_ u9001_ aF) (aV : ∀ W_, Kept w W_ (fun k_ => P0_1_ k_ ∨ P0_3_ k_) → Kd.C k70 W_ aO aE.length aE) (aW : aE.length ≤ aP) (aX : ∀ W_, Kept w W_ (fun k_ => P0_1_ k_ ∨ P0_3_ k_) → Kd.C k70 W_ aQ aD.length aD) (aY : aD.length ≤ aR) (h : laws_markGate.f k bB aI aL aF aE aD a1 = some (r1, r2, r3)) :
  Calls Try.prog 14 #[.agg #[.int .i64 bB, u9000_, .int .i64 aL, u9001_, .slice aO aE.length aP, .slice aQ aD.length aR], .int .i64 a1] w fun e w' => e = .returned (.int .i64 r1) ∧ Kd.R k63 63 w' w0.heap.size (fun k_ => ((P0_1_ k_ ∨ P0_3_ k_) ∨ w.heap.size ≤ k_)) u9000_ r2 ∧ Kd.R k80 80 w' w0.heap.size (fun k_ => ((P0_1_ k_ ∨ P0_3_ k_) ∨ w.heap.size ≤ k_)) u9001_ r3 ∧ Below w0.heap.size w0 w' ∧ Kept w w' (fun k_ => P0_1_ k_ ∨ P0_3_ k_) := by
 have cN := Try.underlying28
 have cO := Try.underlying25
 have aA := am (show Kd.R k63 63 w w0.heap.size (fun k_ => ((P0_1_ k_ ∨ P0_3_ k_) ∨ w.heap.size ≤ k_)) u9000_ aI from Kd.R_mono bC (fun k_ hk => (.inl (.inl hk))))
 have aB := am (show Kd.R k80 80 w w0.heap.size (fun k_ => ((P0_1_ k_ ∨ P0_3_ k_) ∨ w.heap.size ≤ k_)) u9001_ aF from Kd.R_mono bD (fun k_ hk => (.inl (.inr hk))))
 have bE := Aside0.mk aV
 have bF := Aside0.mk aW
 clear aV aW
 have bG := Aside0.mk aX
 have bH := Aside0.mk aY
 clear aX aY
 have HK := am (Kept.refl w (fun k_ => P0_1_ k_ ∨ P0_3_ k_))
 have HW0 := Aside0.mk hB.size
 have HB := Aside0.mk hB
 clear hB
 have H : ((laws_markRuleS.f k aI a1).bind fun aZ => ((laws_markCache.f k aL aF aZ.1).bind fun aJ => ((laws_markSaS.f aE aJ.1).bind fun aG => ((laws_markSaS.f aD aG).bind fun aH => (some (aH, aZ.2, aJ.2)))))) = some (r1, r2, r3) := h
 clear h
 replace H := bm H
 obtain ⟨⟨aS, aM⟩, cJ, H⟩ := H
 replace H : ((laws_markCache.f k aL aF aS).bind fun aJ => ((laws_markSaS.f aE aJ.1).bind fun aG => ((laws_markSaS.f aD aG).bind fun aH => (some (aH, aM, aJ.2))))) = some (r1, r2, r3) := H
 have A3 := Aside0.mk cJ
 clear cJ
 replace H := bm H
 obtain ⟨⟨aT, aU⟩, cK, H⟩ := H
 replace H : ((laws_markSaS.f aE aT).bind fun aG => ((laws_markSaS.f aD aG).bind fun aH => (some (aH, aM, aU)))) = some (r1, r2, r3) := H
 have A4 := Aside0.mk cK
 clear cK
 replace H := bm H
 obtain ⟨aG, cL, H⟩ := H
 replace H : ((laws_markSaS.f aD aG).bind fun aH => (some (aH, aM, aU))) = some (r1, r2, r3) := H
 have A5 := Aside0.mk cL
 clear cL
 replace H := bm H
 obtain ⟨aH, cM, H⟩ := H
 replace H : (some (aH, aM, aU)) = some (r1, r2, r3) := H
 have A6 := Aside0.mk cM
 clear cM
 simp only [Option.some.injEq, Prod.mk.injEq] at H
 obtain ⟨rfl, rfl, rfl⟩ := H
 obtain ⟨bK, bL, cP⟩ := Kd.R_slice aA.out
 subst cP
 obtain ⟨bM, bN, cQ⟩ := Kd.R_slice aB.out
 subst cQ
 go_enter Try.func14, Try.ntmps14
 go_wp2_with (first | ((with_reducible refine gate_dst (N := 2) rfl ?_); refine box_event rfl (N := 2) rfl (cs := #[.int .i64 bB, .slice bK aI.length bL, .int .i64 aL, .slice bM aF.length bN, .slice aO aE.length aP, .slice aQ aD.length aR]) (t := 28) BX ?_; intro bA hg w9 bI hb; replace aA := am (Kd.R_below (KR aA) hb); replace aB := am (Kd.R_below (KR aB) hb); have aC := am (bI); have aK := am ((by rw [hg]; exact (by first | exact HK.out.1 | exact (show Kept w _ (fun k_ => P0_1_ k_ ∨ P0_3_ k_) from by repeat (first | (with_reducible first | exact HK.out | apply Kept.alloc | apply Kept.drewN | apply Kept.drew) | exact HK.out)).1) : w.heap.size ≤ bA)); replace HK := am (Kept.below (S := (fun k_ => P0_1_ k_ ∨ P0_3_ k_)) (by repeat (first | (with_reducible first | exact HK.out | apply Kept.alloc | apply Kept.drewN | apply Kept.drew) | exact HK.out)) hb); have aN := am ((by rw [hg]; exact (below_size (KL HB)) : w0.heap.size ≤ bA)); replace HB := bl (KL HB) hb; clear hb bI hg; have ⟨_, _, _, _, _, _, _⟩ := y6 w9 aC.out) | ((with_reducible refine gate_callee (f := 25) rfl ?_); refine goesL_ (some 8) rfl rfl Try.func25 (by kernel_rfl) rfl #[.slice bK aI.length bL, .int .i64 a1] rfl MT ?_; (with_reducible refine (laws_markRuleS.calls k (fun k_ => some k_ = (.slice bK aI.length bL : Value).ownBlock) (.slice bK aI.length bL) aI a1 aS aM w0 _ ?_ ?_ A3.out).mono ?_); exact K1 HB aN.out; exact Kd.R_tight rfl aA.out; rintro e cR ⟨rfl, bJ, hb, hkp⟩; refine ⟨_, rfl, ?_⟩; replace aB := am (Kd.R_mono (ok' := fun k_ => ((P0_1_ k_ ∨ P0_3_ k_) ∨ w.heap.size ≤ k_)) (Kd.R_keptB ((Kd.R_apart' aB.out (Kd.R_typed aA.out) (by decide))) hkp (fun k_ hk_ hs_ => (hk_.2) hs_)) (fun k_ hk_ => hk_.1.1)); replace aC := am (blk_kept (KB aC) hkp (fun hs_ => (fun e_ => (Kd.R_ne aA.out aC.out (by decide)) e_) hs_)); replace HK := am (Kept.then_ (S := (fun k_ => P0_1_ k_ ∨ P0_3_ k_)) (by repeat (first | (with_reducible first | exact HK.out | apply Kept.alloc | apply Kept.drewN | apply Kept.drew | refine Kept.setCell ?_ (.inr aK.out) _) | exact HK.out)) hkp (fun k_ hs_ => (fun e_ => (aA.out.1 k_ e_.symm)) hs_)); replace aA := am (Kd.R_reok rfl bJ (fun k_ e_ => aA.out.1 k_ e_)); replace HB := am (hb); (try clear hb); (try clear hkp); (try clear bJ); have ⟨_, _, _, _, _, _, _⟩ := y6 cR aC.out) | ((with_reducible refine gate_callee (f := 26) rfl ?_); refine goesL_ (some 12) rfl rfl Try.func26 (by kernel_rfl) rfl #[.agg #[.int .i64 aL, .slice bM aF.length bN], .int .i64 aS] rfl MT ?_; (with_reducible refine (laws_markCache.calls k aL (fun k_ => some k_ = (.slice bM aF.length bN : Value).ownBlock) (.slice bM aF.length bN) aF aS aT aU w0 _ ?_ ?_ A4.out).mono ?_); exact K1 HB aN.out; exact Kd.R_tight rfl aB.out; rintro e cS ⟨rfl, bJ, hb, hkp⟩; refine ⟨_, rfl, ?_⟩; replace aA := am (Kd.R_mono (ok' := fun k_ => ((P0_1_ k_ ∨ P0_3_ k_) ∨ w.heap.size ≤ k_)) (Kd.R_keptB ((Kd.R_apart' aA.out (Kd.R_typed aB.out) (by decide))) hkp (fun k_ hk_ hs_ => (hk_.2) hs_)) (fun k_ hk_ => hk_.1.1)); replace aC := am (blk_kept (KB aC) hkp (fun hs_ => (fun e_ => (Kd.R_ne aB.out aC.out (by decide)) e_) hs_)); replace HK := am (Kept.then_ (S := (fun k_ => P0_1_ k_ ∨ P0_3_ k_)) (by repeat (first | (with_reducible first | exact HK.out | apply Kept.alloc | apply Kept.drewN | apply Kept.drew | refine Kept.setCell ?_ (.inr aK.out) _) | exact HK.out)) hkp (fun k_ hs_ => (fun e_ => (aB.out.1 k_ e_.symm)) hs_)); replace aB := am (Kd.R_reok rfl bJ (fun k_ e_ => aB.out.1 k_ e_)); replace HB := am (hb); (try clear hb); (try clear hkp); (try clear bJ); have ⟨_, _, _, _, _, _, _⟩ := y6 cS aC.out) | ((with_reducible refine gate_callee (f := 27) rfl ?_); refine goesL_ (some 16) rfl rfl Try.func27 (by kernel_rfl) rfl #[.slice aO aE.length aP, .int .i64 aT] rfl MT ?_; (with_reducible refine (laws_markSaS.calls _ _ aE aT aG _ ?_ ?_ A5.out).mono ?_); (exact Kd.C_kept_now bE.out (by repeat (first | (with_reducible first | exact HK.out | apply Kept.alloc | apply Kept.drewN | apply Kept.drew | refine Kept.setCell ?_ (.inr aK.out) _) | exact HK.out))); exact bF.out; rintro e w' ⟨rfl, ⟨nd, rfl⟩⟩; refine ⟨_, rfl, ?_⟩) | ((with_reducible refine gate_callee (f := 27) rfl ?_); refine goesL_ (some 20) rfl rfl Try.func27 (by kernel_rfl) rfl #[.slice aQ aD.length aR, .int .i64 aG] rfl MT ?_; (with_reducible refine (laws_markSaS.calls _ _ aD aG aH _ ?_ ?_ A6.out).mono ?_); (exact Kd.C_kept_now bG.out (by repeat (first | (with_reducible first | exact HK.out | apply Kept.alloc | apply Kept.drewN | apply Kept.drew | refine Kept.setCell ?_ (.inr aK.out) _) | exact HK.out))); exact bH.out; rintro e w' ⟨rfl, ⟨nd, rfl⟩⟩; refine ⟨_, rfl, ?_⟩))
 go_ret
 exact ⟨ER, by refine KW ?_; exact aA.out, by refine KW ?_; exact aB.out, K1 HB aN.out, by repeat (first | (with_reducible first | exact HK.out | apply Kept.alloc | apply Kept.drewN | apply Kept.drew | refine Kept.setCell ?_ (.inr aK.out) _) | exact HK.out)⟩
def laws_markSentS.l0 : Nat → List (S54) → Int → Int → Option (Int × (List (S54)))
 | 0, _, _, _ => none
 | k + 1, x0, x1, x5 => if x5 < (x0.length : Int) then (if 0 ≤ x5 then ((some (x0.set (x5 : Int).toNat (⟨(⟨x1, (rd_T54 x0 x5).f0.f1, (rd_T54 x0 x5).f0.f2, (rd_T54 x0 x5).f0.f3⟩ : S52), (rd_T54 x0 x5).f1, (rd_T54 x0 x5).f2, (rd_T54 x0 x5).f3⟩ : S54) : List (S54))).bind fun y101 => ((some (y101.set (x5 : Int).toNat (⟨(⟨(rd_T54 y101 x5).f0.f0, wrap64 (x1 + 1), (rd_T54 y101 x5).f0.f2, (rd_T54 y101 x5).f0.f3⟩ : S52), (rd_T54 y101 x5).f1, (rd_T54 y101 x5).f2, (rd_T54 y101 x5).f3⟩ : S54) : List (S54))).bind fun y102 => ((some (y102.set (x5 : Int).toNat (⟨(⟨(rd_T54 y102 x5).f0.f0, (rd_T54 y102 x5).f0.f1, wrap64 ((wrap64 (x1 + 1)) + 1), (rd_T54 y102 x5).f0.f3⟩ : S52), (rd_T54 y102 x5).f1, (rd_T54 y102 x5).f2, (rd_T54 y102 x5).f3⟩ : S54) : List (S54))).bind fun y103 => ((laws_markText.f k (wrap64 ((wrap64 ((wrap64 (x1 + 1)) + 1)) + 1))).bind fun t104 => ((some (y103.set (x5 : Int).toNat (⟨(⟨(rd_T54 y103 x5).f0.f0, (rd_T54 y103 x5).f0.f1, (rd_T54 y103 x5).f0.f2, t104⟩ : S52), (rd_T54 y103 x5).f1, (rd_T54 y103 x5).f2, (rd_T54 y103 x5).f3⟩ : S54) : List (S54))).bind fun y105 => ((some (y105.set (x5 : Int).toNat (⟨(⟨(rd_T54 y105 x5).f0.f0, (rd_T54 y105 x5).f0.f1, (rd_T54 y105 x5).f0.f2, (rd_T54 y105 x5).f0.f3⟩ : S52), wrap64 ((wrap64 ((wrap64 ((wrap64 (x1 + 1)) + 1)) + 1)) + 1), (rd_T54 y105 x5).f2, (rd_T54 y105 x5).f3⟩ : S54) : List (S54))).bind fun y106 => ((some (y106.set (x5 : Int).toNat (⟨(⟨(rd_T54 y106 x5).f0.f0, (rd_T54 y106 x5).f0.f1, (rd_T54 y106 x5).f0.f2, (rd_T54 y106 x5).f0.f3⟩ : S52), (rd_T54 y106 x5).f1, wrap64 ((wrap64 ((wrap64 ((wrap64 ((wrap64 (x1 + 1)) + 1)) + 1)) + 1)) + 1), (rd_T54 y106 x5).f3⟩ : S54) : List (S54))).bind fun y107 => (laws_markSentS.l0 k (y107.set (x5 : Int).toNat (⟨(⟨(rd_T54 y107 x5).f0.f0, (rd_T54 y107 x5).f0.f1, (rd_T54 y107 x5).f0.f2, (rd_T54 y107 x5).f0.f3⟩ : S52), (rd_T54 y107 x5).f1, (rd_T54 y107 x5).f2, wrap64 ((wrap64 ((wrap64 ((wrap64 ((wrap64 ((wrap64 (x1 + 1)) + 1)) + 1)) + 1)) + 1)) + 1)⟩ : S54)) (wrap64 ((wrap64 ((wrap64 ((wrap64 ((wrap64 ((wrap64 ((wrap64 (x1 + 1)) + 1)) + 1)) + 1)) + 1)) + 1)) + 1)) (wrap64 (x5 + 1)))))))))) else (none)) else (some (x1, x0))
def laws_markSentS.f (k : Nat) (l0 : List (S54)) (a1 : Int) : Option (Int × (List (S54))) := laws_markSentS.l0 k l0 a1 0
theorem laws_markSentS.calls (k : Nat) (P0_ : Nat → Prop) (u9000_ : Value) (l0 : List (S54)) (a1 : Int) (r1 : Int) (r2 : List (S54)) (w0 w : World) (hB : Below w0.heap.size w0 w) (gX : Kd.R k54 54 w w0.heap.size P0_ u9000_ l0) (h : laws_markSentS.f k l0 a1 = some (r1, r2)) :
  Calls Try.prog 16 #[u9000_, .int .i64 a1] w fun e w' => e = .returned (.int .i64 r1) ∧ Kd.R k54 54 w' w0.heap.size (fun k_ => (P0_ k_ ∨ w.heap.size ≤ k_)) u9000_ r2 ∧ Below w0.heap.size w0 w' ∧ Kept w w' (fun k_ => P0_ k_) := by
 have gY := am (show Kd.R k54 54 w w0.heap.size (fun k_ => (P0_ k_ ∨ w.heap.size ≤ k_)) u9000_ l0 from Kd.R_mono gX (fun k_ hk => (.inl hk)))
 have HK := am (Kept.refl w (fun k_ => P0_ k_))
 have HW0 := Aside0.mk hB.size
 have HB := Aside0.mk hB
 clear hB
 have H : (laws_markSentS.l0 k l0 a1 0) = some (r1, r2) := h
 clear h
 have H' := Aside0.mk H
 clear H
 go_enter Try.func16, Try.ntmps16
 go_wp2
 go_loopg [1, 5] k (fun kq v1 v5 w' => ∃ (aD : List (S54)) (aE : Int) (aA : Int), v1 = .int .i64 aE ∧ v5 = .int .i64 aA ∧ Aside0 (laws_markSentS.l0 kq aD aE aA = some (r1, r2)) ∧ Aside0 (kq ≤ k) ∧ Aside0 (Kd.R k54 54 w' w0.heap.size (fun k_ => (P0_ k_ ∨ w.heap.size ≤ k_)) u9000_ aD) ∧ Aside0 (Kept w w' (fun k_ => P0_ k_)) ∧ Aside0 (Below w0.heap.size w0 w'))
 case atStart => exact ⟨(l0), (a1), (0), (by first | rfl | (simp; done) | (simp [*]; done)), (by first | rfl | (simp; done) | (simp [*]; done)), H', ⟨Nat.le_refl _⟩, ⟨KR gY⟩, ⟨by repeat (first | (with_reducible first | exact HK.out | apply Kept.alloc | apply Kept.drewN | apply Kept.drew) | exact HK.out)⟩, ⟨KL HB⟩⟩
 case round =>
  clear H'
  try clear c1
  try clear p2
  obtain ⟨aD, aE, aA, rfl, rfl, HA, HK1, aH, HK, HB⟩ := hrel
  cases gk with
  | zero => exact absurd HA.out (by simp [laws_markSentS.l0])
  | succ k1 =>
   have H := HA.out
   clear HA
   simp only [laws_markSentS.l0] at H
   by_cases c3 : aA < (aD.length : Int)
   ·rw [if_pos c3] at H
    have c3b0 : decide (aA < (aD.length : Int)) = true := decide_eq_true c3
    clear c3
    by_cases c4 : 0 ≤ aA
    ·rw [if_pos c4] at H
     have c4b0 : decide (0 ≤ aA) = true := decide_eq_true c4
     clear c4
     obtain ⟨aJ, aX⟩ : ∃ y_ : List (S54), y_ = (aD.set (aA : Int).toNat (⟨(⟨aE, (rd_T54 aD aA).f0.f1, (rd_T54 aD aA).f0.f2, (rd_T54 aD aA).f0.f3⟩ : S52), (rd_T54 aD aA).f1, (rd_T54 aD aA).f2, (rd_T54 aD aA).f3⟩ : S54)) := ⟨_, rfl⟩
     replace H : ((some (aJ.set (aA : Int).toNat (⟨(⟨(rd_T54 aJ aA).f0.f0, wrap64 (aE + 1), (rd_T54 aJ aA).f0.f2, (rd_T54 aJ aA).f0.f3⟩ : S52), (rd_T54 aJ aA).f1, (rd_T54 aJ aA).f2, (rd_T54 aJ aA).f3⟩ : S54) : List (S54))).bind fun aI => ((some (aI.set (aA : Int).toNat (⟨(⟨(rd_T54 aI aA).f0.f0, (rd_T54 aI aA).f0.f1, wrap64 ((wrap64 (aE + 1)) + 1), (rd_T54 aI aA).f0.f3⟩ : S52), (rd_T54 aI aA).f1, (rd_T54 aI aA).f2, (rd_T54 aI aA).f3⟩ : S54) : List (S54))).bind fun aG => ((laws_markText.f k1 (wrap64 ((wrap64 ((wrap64 (aE + 1)) + 1)) + 1))).bind fun aL => ((some (aG.set (aA : Int).toNat (⟨(⟨(rd_T54 aG aA).f0.f0, (rd_T54 aG aA).f0.f1, (rd_T54 aG aA).f0.f2, aL⟩ : S52), (rd_T54 aG aA).f1, (rd_T54 aG aA).f2, (rd_T54 aG aA).f3⟩ : S54) : List (S54))).bind fun aF => ((some (aF.set (aA : Int).toNat (⟨(⟨(rd_T54 aF aA).f0.f0, (rd_T54 aF aA).f0.f1, (rd_T54 aF aA).f0.f2, (rd_T54 aF aA).f0.f3⟩ : S52), wrap64 ((wrap64 ((wrap64 ((wrap64 (aE + 1)) + 1)) + 1)) + 1), (rd_T54 aF aA).f2, (rd_T54 aF aA).f3⟩ : S54) : List (S54))).bind fun aC => ((some (aC.set (aA : Int).toNat (⟨(⟨(rd_T54 aC aA).f0.f0, (rd_T54 aC aA).f0.f1, (rd_T54 aC aA).f0.f2, (rd_T54 aC aA).f0.f3⟩ : S52), (rd_T54 aC aA).f1, wrap64 ((wrap64 ((wrap64 ((wrap64 ((wrap64 (aE + 1)) + 1)) + 1)) + 1)) + 1), (rd_T54 aC aA).f3⟩ : S54) : List (S54))).bind fun aB => (laws_markSentS.l0 k1 (aB.set (aA : Int).toNat (⟨(⟨(rd_T54 aB aA).f0.f0, (rd_T54 aB aA).f0.f1, (rd_T54 aB aA).f0.f2, (rd_T54 aB aA).f0.f3⟩ : S52), (rd_T54 aB aA).f1, (rd_T54 aB aA).f2, wrap64 ((wrap64 ((wrap64 ((wrap64 ((wrap64 ((wrap64 (aE + 1)) + 1)) + 1)) + 1)) + 1)) + 1)⟩ : S54)) (wrap64 ((wrap64 ((wrap64 ((wrap64 ((wrap64 ((wrap64 ((wrap64 (aE + 1)) + 1)) + 1)) + 1)) + 1)) + 1)) + 1)) (wrap64 (aA + 1))))))))) = some (r1, r2) := by first | (rw [aX]; with_reducible exact H) | (have H2_ := (Option.bind_some _ _).symm.trans H; rw [aX]; with_reducible exact H2_) | (have H2_ := (Option.bind_some _ _).symm.trans H; with_reducible exact H2_) | with_reducible exact H | (rw [aX]; exact H) | exact H
     have Ny101 := Aside0.mk aX
     clear aX
     obtain ⟨aI, aY⟩ : ∃ y_ : List (S54), y_ = (aJ.set (aA : Int).toNat (⟨(⟨(rd_T54 aJ aA).f0.f0, wrap64 (aE + 1), (rd_T54 aJ aA).f0.f2, (rd_T54 aJ aA).f0.f3⟩ : S52), (rd_T54 aJ aA).f1, (rd_T54 aJ aA).f2, (rd_T54 aJ aA).f3⟩ : S54)) := ⟨_, rfl⟩
     replace H : ((some (aI.set (aA : Int).toNat (⟨(⟨(rd_T54 aI aA).f0.f0, (rd_T54 aI aA).f0.f1, wrap64 ((wrap64 (aE + 1)) + 1), (rd_T54 aI aA).f0.f3⟩ : S52), (rd_T54 aI aA).f1, (rd_T54 aI aA).f2, (rd_T54 aI aA).f3⟩ : S54) : List (S54))).bind fun aG => ((laws_markText.f k1 (wrap64 ((wrap64 ((wrap64 (aE + 1)) + 1)) + 1))).bind fun aL => ((some (aG.set (aA : Int).toNat (⟨(⟨(rd_T54 aG aA).f0.f0, (rd_T54 aG aA).f0.f1, (rd_T54 aG aA).f0.f2, aL⟩ : S52), (rd_T54 aG aA).f1, (rd_T54 aG aA).f2, (rd_T54 aG aA).f3⟩ : S54) : List (S54))).bind fun aF => ((some (aF.set (aA : Int).toNat (⟨(⟨(rd_T54 aF aA).f0.f0, (rd_T54 aF aA).f0.f1, (rd_T54 aF aA).f0.f2, (rd_T54 aF aA).f0.f3⟩ : S52), wrap64 ((wrap64 ((wrap64 ((wrap64 (aE + 1)) + 1)) + 1)) + 1), (rd_T54 aF aA).f2, (rd_T54 aF aA).f3⟩ : S54) : List (S54))).bind fun aC => ((some (aC.set (aA : Int).toNat (⟨(⟨(rd_T54 aC aA).f0.f0, (rd_T54 aC aA).f0.f1, (rd_T54 aC aA).f0.f2, (rd_T54 aC aA).f0.f3⟩ : S52), (rd_T54 aC aA).f1, wrap64 ((wrap64 ((wrap64 ((wrap64 ((wrap64 (aE + 1)) + 1)) + 1)) + 1)) + 1), (rd_T54 aC aA).f3⟩ : S54) : List (S54))).bind fun aB => (laws_markSentS.l0 k1 (aB.set (aA : Int).toNat (⟨(⟨(rd_T54 aB aA).f0.f0, (rd_T54 aB aA).f0.f1, (rd_T54 aB aA).f0.f2, (rd_T54 aB aA).f0.f3⟩ : S52), (rd_T54 aB aA).f1, (rd_T54 aB aA).f2, wrap64 ((wrap64 ((wrap64 ((wrap64 ((wrap64 ((wrap64 (aE + 1)) + 1)) + 1)) + 1)) + 1)) + 1)⟩ : S54)) (wrap64 ((wrap64 ((wrap64 ((wrap64 ((wrap64 ((wrap64 ((wrap64 (aE + 1)) + 1)) + 1)) + 1)) + 1)) + 1)) + 1)) (wrap64 (aA + 1)))))))) = some (r1, r2) := by first | (rw [aY]; with_reducible exact H) | (have H2_ := (Option.bind_some _ _).symm.trans H; rw [aY]; with_reducible exact H2_) | (have H2_ := (Option.bind_some _ _).symm.trans H; with_reducible exact H2_) | with_reducible exact H | (rw [aY]; exact H) | exact H
     have Ny102 := Aside0.mk aY
     clear aY
     obtain ⟨aG, aZ⟩ : ∃ y_ : List (S54), y_ = (aI.set (aA : Int).toNat (⟨(⟨(rd_T54 aI aA).f0.f0, (rd_T54 aI aA).f0.f1, wrap64 ((wrap64 (aE + 1)) + 1), (rd_T54 aI aA).f0.f3⟩ : S52), (rd_T54 aI aA).f1, (rd_T54 aI aA).f2, (rd_T54 aI aA).f3⟩ : S54)) := ⟨_, rfl⟩
     replace H : ((laws_markText.f k1 (wrap64 ((wrap64 ((wrap64 (aE + 1)) + 1)) + 1))).bind fun aL => ((some (aG.set (aA : Int).toNat (⟨(⟨(rd_T54 aG aA).f0.f0, (rd_T54 aG aA).f0.f1, (rd_T54 aG aA).f0.f2, aL⟩ : S52), (rd_T54 aG aA).f1, (rd_T54 aG aA).f2, (rd_T54 aG aA).f3⟩ : S54) : List (S54))).bind fun aF => ((some (aF.set (aA : Int).toNat (⟨(⟨(rd_T54 aF aA).f0.f0, (rd_T54 aF aA).f0.f1, (rd_T54 aF aA).f0.f2, (rd_T54 aF aA).f0.f3⟩ : S52), wrap64 ((wrap64 ((wrap64 ((wrap64 (aE + 1)) + 1)) + 1)) + 1), (rd_T54 aF aA).f2, (rd_T54 aF aA).f3⟩ : S54) : List (S54))).bind fun aC => ((some (aC.set (aA : Int).toNat (⟨(⟨(rd_T54 aC aA).f0.f0, (rd_T54 aC aA).f0.f1, (rd_T54 aC aA).f0.f2, (rd_T54 aC aA).f0.f3⟩ : S52), (rd_T54 aC aA).f1, wrap64 ((wrap64 ((wrap64 ((wrap64 ((wrap64 (aE + 1)) + 1)) + 1)) + 1)) + 1), (rd_T54 aC aA).f3⟩ : S54) : List (S54))).bind fun aB => (laws_markSentS.l0 k1 (aB.set (aA : Int).toNat (⟨(⟨(rd_T54 aB aA).f0.f0, (rd_T54 aB aA).f0.f1, (rd_T54 aB aA).f0.f2, (rd_T54 aB aA).f0.f3⟩ : S52), (rd_T54 aB aA).f1, (rd_T54 aB aA).f2, wrap64 ((wrap64 ((wrap64 ((wrap64 ((wrap64 ((wrap64 (aE + 1)) + 1)) + 1)) + 1)) + 1)) + 1)⟩ : S54)) (wrap64 ((wrap64 ((wrap64 ((wrap64 ((wrap64 ((wrap64 ((wrap64 (aE + 1)) + 1)) + 1)) + 1)) + 1)) + 1)) + 1)) (wrap64 (aA + 1))))))) = some (r1, r2) := by first | (rw [aZ]; with_reducible exact H) | (have H2_ := (Option.bind_some _ _).symm.trans H; rw [aZ]; with_reducible exact H2_) | (have H2_ := (Option.bind_some _ _).symm.trans H; with_reducible exact H2_) | with_reducible exact H | (rw [aZ]; exact H) | exact H
     have Ny103 := Aside0.mk aZ
     clear aZ
     replace H := bm H
     obtain ⟨aL, eQ, H⟩ := H
     replace H : ((some (aG.set (aA : Int).toNat (⟨(⟨(rd_T54 aG aA).f0.f0, (rd_T54 aG aA).f0.f1, (rd_T54 aG aA).f0.f2, aL⟩ : S52), (rd_T54 aG aA).f1, (rd_T54 aG aA).f2, (rd_T54 aG aA).f3⟩ : S54) : List (S54))).bind fun aF => ((some (aF.set (aA : Int).toNat (⟨(⟨(rd_T54 aF aA).f0.f0, (rd_T54 aF aA).f0.f1, (rd_T54 aF aA).f0.f2, (rd_T54 aF aA).f0.f3⟩ : S52), wrap64 ((wrap64 ((wrap64 ((wrap64 (aE + 1)) + 1)) + 1)) + 1), (rd_T54 aF aA).f2, (rd_T54 aF aA).f3⟩ : S54) : List (S54))).bind fun aC => ((some (aC.set (aA : Int).toNat (⟨(⟨(rd_T54 aC aA).f0.f0, (rd_T54 aC aA).f0.f1, (rd_T54 aC aA).f0.f2, (rd_T54 aC aA).f0.f3⟩ : S52), (rd_T54 aC aA).f1, wrap64 ((wrap64 ((wrap64 ((wrap64 ((wrap64 (aE + 1)) + 1)) + 1)) + 1)) + 1), (rd_T54 aC aA).f3⟩ : S54) : List (S54))).bind fun aB => (laws_markSentS.l0 k1 (aB.set (aA : Int).toNat (⟨(⟨(rd_T54 aB aA).f0.f0, (rd_T54 aB aA).f0.f1, (rd_T54 aB aA).f0.f2, (rd_T54 aB aA).f0.f3⟩ : S52), (rd_T54 aB aA).f1, (rd_T54 aB aA).f2, wrap64 ((wrap64 ((wrap64 ((wrap64 ((wrap64 ((wrap64 (aE + 1)) + 1)) + 1)) + 1)) + 1)) + 1)⟩ : S54)) (wrap64 ((wrap64 ((wrap64 ((wrap64 ((wrap64 ((wrap64 ((wrap64 (aE + 1)) + 1)) + 1)) + 1)) + 1)) + 1)) + 1)) (wrap64 (aA + 1)))))) = some (r1, r2) := H
     have A8 := Aside0.mk eQ
     clear eQ
     obtain ⟨aF, bA⟩ : ∃ y_ : List (S54), y_ = (aG.set (aA : Int).toNat (⟨(⟨(rd_T54 aG aA).f0.f0, (rd_T54 aG aA).f0.f1, (rd_T54 aG aA).f0.f2, aL⟩ : S52), (rd_T54 aG aA).f1, (rd_T54 aG aA).f2, (rd_T54 aG aA).f3⟩ : S54)) := ⟨_, rfl⟩
     replace H : ((some (aF.set (aA : Int).toNat (⟨(⟨(rd_T54 aF aA).f0.f0, (rd_T54 aF aA).f0.f1, (rd_T54 aF aA).f0.f2, (rd_T54 aF aA).f0.f3⟩ : S52), wrap64 ((wrap64 ((wrap64 ((wrap64 (aE + 1)) + 1)) + 1)) + 1), (rd_T54 aF aA).f2, (rd_T54 aF aA).f3⟩ : S54) : List (S54))).bind fun aC => ((some (aC.set (aA : Int).toNat (⟨(⟨(rd_T54 aC aA).f0.f0, (rd_T54 aC aA).f0.f1, (rd_T54 aC aA).f0.f2, (rd_T54 aC aA).f0.f3⟩ : S52), (rd_T54 aC aA).f1, wrap64 ((wrap64 ((wrap64 ((wrap64 ((wrap64 (aE + 1)) + 1)) + 1)) + 1)) + 1), (rd_T54 aC aA).f3⟩ : S54) : List (S54))).bind fun aB => (laws_markSentS.l0 k1 (aB.set (aA : Int).toNat (⟨(⟨(rd_T54 aB aA).f0.f0, (rd_T54 aB aA).f0.f1, (rd_T54 aB aA).f0.f2, (rd_T54 aB aA).f0.f3⟩ : S52), (rd_T54 aB aA).f1, (rd_T54 aB aA).f2, wrap64 ((wrap64 ((wrap64 ((wrap64 ((wrap64 ((wrap64 (aE + 1)) + 1)) + 1)) + 1)) + 1)) + 1)⟩ : S54)) (wrap64 ((wrap64 ((wrap64 ((wrap64 ((wrap64 ((wrap64 ((wrap64 (aE + 1)) + 1)) + 1)) + 1)) + 1)) + 1)) + 1)) (wrap64 (aA + 1))))) = some (r1, r2) := by first | (rw [bA]; with_reducible exact H) | (have H2_ := (Option.bind_some _ _).symm.trans H; rw [bA]; with_reducible exact H2_) | (have H2_ := (Option.bind_some _ _).symm.trans H; with_reducible exact H2_) | with_reducible exact H | (rw [bA]; exact H) | exact H
     have Ny105 := Aside0.mk bA
     clear bA
     obtain ⟨aC, bB⟩ : ∃ y_ : List (S54), y_ = (aF.set (aA : Int).toNat (⟨(⟨(rd_T54 aF aA).f0.f0, (rd_T54 aF aA).f0.f1, (rd_T54 aF aA).f0.f2, (rd_T54 aF aA).f0.f3⟩ : S52), wrap64 ((wrap64 ((wrap64 ((wrap64 (aE + 1)) + 1)) + 1)) + 1), (rd_T54 aF aA).f2, (rd_T54 aF aA).f3⟩ : S54)) := ⟨_, rfl⟩
     replace H : ((some (aC.set (aA : Int).toNat (⟨(⟨(rd_T54 aC aA).f0.f0, (rd_T54 aC aA).f0.f1, (rd_T54 aC aA).f0.f2, (rd_T54 aC aA).f0.f3⟩ : S52), (rd_T54 aC aA).f1, wrap64 ((wrap64 ((wrap64 ((wrap64 ((wrap64 (aE + 1)) + 1)) + 1)) + 1)) + 1), (rd_T54 aC aA).f3⟩ : S54) : List (S54))).bind fun aB => (laws_markSentS.l0 k1 (aB.set (aA : Int).toNat (⟨(⟨(rd_T54 aB aA).f0.f0, (rd_T54 aB aA).f0.f1, (rd_T54 aB aA).f0.f2, (rd_T54 aB aA).f0.f3⟩ : S52), (rd_T54 aB aA).f1, (rd_T54 aB aA).f2, wrap64 ((wrap64 ((wrap64 ((wrap64 ((wrap64 ((wrap64 (aE + 1)) + 1)) + 1)) + 1)) + 1)) + 1)⟩ : S54)) (wrap64 ((wrap64 ((wrap64 ((wrap64 ((wrap64 ((wrap64 ((wrap64 (aE + 1)) + 1)) + 1)) + 1)) + 1)) + 1)) + 1)) (wrap64 (aA + 1)))) = some (r1, r2) := by first | (rw [bB]; with_reducible exact H) | (have H2_ := (Option.bind_some _ _).symm.trans H; rw [bB]; with_reducible exact H2_) | (have H2_ := (Option.bind_some _ _).symm.trans H; with_reducible exact H2_) | with_reducible exact H | (rw [bB]; exact H) | exact H
     have Ny106 := Aside0.mk bB
     clear bB
     obtain ⟨aB, bC⟩ : ∃ y_ : List (S54), y_ = (aC.set (aA : Int).toNat (⟨(⟨(rd_T54 aC aA).f0.f0, (rd_T54 aC aA).f0.f1, (rd_T54 aC aA).f0.f2, (rd_T54 aC aA).f0.f3⟩ : S52), (rd_T54 aC aA).f1, wrap64 ((wrap64 ((wrap64 ((wrap64 ((wrap64 (aE + 1)) + 1)) + 1)) + 1)) + 1), (rd_T54 aC aA).f3⟩ : S54)) := ⟨_, rfl⟩
     replace H : (laws_markSentS.l0 k1 (aB.set (aA : Int).toNat (⟨(⟨(rd_T54 aB aA).f0.f0, (rd_T54 aB aA).f0.f1, (rd_T54 aB aA).f0.f2, (rd_T54 aB aA).f0.f3⟩ : S52), (rd_T54 aB aA).f1, (rd_T54 aB aA).f2, wrap64 ((wrap64 ((wrap64 ((wrap64 ((wrap64 ((wrap64 (aE + 1)) + 1)) + 1)) + 1)) + 1)) + 1)⟩ : S54)) (wrap64 ((wrap64 ((wrap64 ((wrap64 ((wrap64 ((wrap64 ((wrap64 (aE + 1)) + 1)) + 1)) + 1)) + 1)) + 1)) + 1)) (wrap64 (aA + 1))) = some (r1, r2) := by first | (rw [bC]; with_reducible exact H) | (have H2_ := (Option.bind_some _ _).symm.trans H; rw [bC]; with_reducible exact H2_) | (have H2_ := (Option.bind_some _ _).symm.trans H; with_reducible exact H2_) | with_reducible exact H | (rw [bC]; exact H) | exact H
     have Ny107 := Aside0.mk bC
     clear bC
     obtain ⟨cB, bD⟩ : ∃ y_ : List (S54), y_ = (aB.set (aA : Int).toNat (⟨(⟨(rd_T54 aB aA).f0.f0, (rd_T54 aB aA).f0.f1, (rd_T54 aB aA).f0.f2, (rd_T54 aB aA).f0.f3⟩ : S52), (rd_T54 aB aA).f1, (rd_T54 aB aA).f2, wrap64 ((wrap64 ((wrap64 ((wrap64 ((wrap64 ((wrap64 (aE + 1)) + 1)) + 1)) + 1)) + 1)) + 1)⟩ : S54)) := ⟨_, rfl⟩
     replace H : (laws_markSentS.l0 k1 cB (wrap64 ((wrap64 ((wrap64 ((wrap64 ((wrap64 ((wrap64 ((wrap64 (aE + 1)) + 1)) + 1)) + 1)) + 1)) + 1)) + 1)) (wrap64 (aA + 1))) = some (r1, r2) := by first | (rw [bD]; with_reducible exact H) | (have H2_ := (Option.bind_some _ _).symm.trans H; rw [bD]; with_reducible exact H2_) | (have H2_ := (Option.bind_some _ _).symm.trans H; with_reducible exact H2_) | with_reducible exact H | (rw [bD]; exact H) | exact H
     have Ny108 := Aside0.mk bD
     clear bD
     have H' := Aside0.mk H
     clear H
     obtain ⟨_, aK, cQ⟩ := Kd.R_slice aH.out
     subst cQ
     have p5 : 0 ≤ (aA : Int) := OD
     have q5 : (aA : Int) < ((aD.length : Int) : Int) := OD
     obtain ⟨go5, _, eR, eS, gl5, cl5, HG5⟩ := Kd.R_form aH.out (by omega)
     (first | cases eR | (injection eR with ea_ en_ ec_; (first | subst ea_ | (injection ea_ with ea_; subst ea_)); subst ec_; clear en_))
     have GB5 := Aside0.mk eS
     have GG5 := Aside0.mk HG5
     clear eS gl5 HG5
     have HMgo5 := am (show (P0_ go5 ∨ w.heap.size ≤ go5) from (aH.out.1 _ rfl))
     obtain ⟨ce5, hcl5, hM5, bE, bF⟩ := Kd.R_elem aH.out z54 (aA : Int) p5 q5
     obtain rfl := k54_openM hM5
     have eT : wr.cell? ⟨go5, (aA : Int).toNat * 7, none⟩ = some (.int .i64 ((rd_T54 aD aA).f0.f0)) := bE 0 _ rfl
     have eU : wr.cell? ⟨go5, (aA : Int).toNat * 7 + 1, none⟩ = some (.int .i64 ((rd_T54 aD aA).f0.f1)) := bE 1 _ rfl
     have eV : wr.cell? ⟨go5, (aA : Int).toNat * 7 + 2, none⟩ = some (.int .i64 ((rd_T54 aD aA).f0.f2)) := bE 2 _ rfl
     have eW : wr.cell? ⟨go5, (aA : Int).toNat * 7 + 3, none⟩ = some (.string ((rd_T54 aD aA).f0.f3)) := bE 3 _ rfl
     have eX : wr.cell? ⟨go5, (aA : Int).toNat * 7 + 4, none⟩ = some (.int .i64 ((rd_T54 aD aA).f1)) := bE 4 _ rfl
     have eY : wr.cell? ⟨go5, (aA : Int).toNat * 7 + 5, none⟩ = some (.int .i64 ((rd_T54 aD aA).f2)) := bE 5 _ rfl
     have eZ : wr.cell? ⟨go5, (aA : Int).toNat * 7 + 6, none⟩ = some (.int .i64 ((rd_T54 aD aA).f3)) := bE 6 _ rfl
     have fA : wr.frozen? ⟨go5, (aA : Int).toNat * 7, none⟩ = false := bF 0
     have fB : wr.frozen? ⟨go5, (aA : Int).toNat * 7 + 1, none⟩ = false := bF 1
     have fC : wr.frozen? ⟨go5, (aA : Int).toNat * 7 + 2, none⟩ = false := bF 2
     have fD : wr.frozen? ⟨go5, (aA : Int).toNat * 7 + 3, none⟩ = false := bF 3
     have fE : wr.frozen? ⟨go5, (aA : Int).toNat * 7 + 4, none⟩ = false := bF 4
     have fF : wr.frozen? ⟨go5, (aA : Int).toNat * 7 + 5, none⟩ = false := bF 5
     have fG : wr.frozen? ⟨go5, (aA : Int).toNat * 7 + 6, none⟩ = false := bF 6
     clear hcl5 bE bF hM5
     replace p5 := eq_true p5
     replace q5 := eq_true q5
     have HX14 := am (show Kd.R k54 54 wr w0.heap.size (fun k_ => (P0_ k_ ∨ w.heap.size ≤ k_)) (.slice (some ⟨go5, 0, none⟩) aD.length aK) aD from (KR aH))
     obtain ⟨ce14, hcl14, hM14, bN, bU⟩ := Kd.R_elem HX14.out z54 (aA : Int) (OD) (by have h_ : (aA : Int) < ((aD.length : Int) : Int) := OD; first | exact h_ | (have e_ := (Kd.R_reads' aH.out).1; omega) | simpa using h_)
     obtain rfl := k54_openM hM14
     have HP14 := Kd.R_seg HX14.out (aA : Int) (OD) (by have h_ : (aA : Int) < ((aD.length : Int) : Int) := OD; first | exact h_ | (have e_ := (Kd.R_reads' aH.out).1; omega) | simpa using h_) (seg := [.int .i64 aE]) (j := 0) hcl14 bN (show 1 ≤ 7 from by decide) (x' := (⟨(⟨aE, (rd_T54 aD aA).f0.f1, (rd_T54 aD aA).f0.f2, (rd_T54 aD aA).f0.f3⟩ : S52), (rd_T54 aD aA).f1, (rd_T54 aD aA).f2, (rd_T54 aD aA).f3⟩ : S54)) (k54_mkM _ _ _ (⟨(⟨aE, (rd_T54 aD aA).f0.f1, (rd_T54 aD aA).f0.f2, (rd_T54 aD aA).f0.f3⟩ : S52), (rd_T54 aD aA).f1, (rd_T54 aD aA).f2, (rd_T54 aD aA).f3⟩ : S54) ) (fun _ hk => hk)
     have cC := bN 0 _ rfl
     (try simp only [show (k54).sz = 7 from rfl, Nat.mul_one, Nat.add_zero] at cC)
     have cD := bU 0
     (try simp only [show (k54).sz = 7 from rfl, Nat.mul_one, Nat.add_zero] at cD)
     clear hcl14 bN bU hM14
     go_wp2_with (first | ((with_reducible refine gate_store (t := 3) (p := 17) rfl ?_); refine store_event (t := 3) (p := 17) (v := ?vo_w15) (w1 := (wr.setCell ⟨go5, (aA : Int).toNat * 7, none⟩ (.int .i64 aE))) ?hg ?ho ?hn ?hr ?_; (case ho => rfl); (case hg => rfl); (case hn => rfl); (case hr => first | (go_simp; done) | (go_simp; rfl)); intro aS hw; have hg : wr.grownBy aS (some go5) := (by rw [hw]; exact HP14.2); have hp_ : Kd.R k54 54 aS w0.heap.size (fun k_ => (P0_ k_ ∨ w.heap.size ≤ k_)) (.slice (some ⟨go5, 0, none⟩) aD.length aK) aJ := (by rw [hw, Ny101.out]; exact HP14.1); clear HP14; replace HB := am ((by rw [hw]; exact below_set (HB.out) GB5.out : Below w0.heap.size w0 aS)); replace HK := am (Kept.of_grown (S := (fun k_ => P0_ k_)) hg (by repeat (first | (with_reducible first | exact HK.out | apply Kept.alloc | apply Kept.drewN | apply Kept.drew) | exact HK.out)) (fun k_ e_ => (aH.out.1 k_ e_))); replace aH := am (hp_); clear hg hw hp_; have p6 : 0 ≤ (aA : Int) := OD; have q6 : (aA : Int) < ((aD.length : Int) : Int) := OD; obtain ⟨ce6, hcl6, hM6, bG, bH⟩ := Kd.R_elem aH.out z54 (aA : Int) p6 q6; obtain rfl := k54_openM hM6; have fH : aS.cell? ⟨go5, (aA : Int).toNat * 7, none⟩ = some (.int .i64 ((rd_T54 aJ aA).f0.f0)) := bG 0 _ rfl; have fI : aS.cell? ⟨go5, (aA : Int).toNat * 7 + 1, none⟩ = some (.int .i64 ((rd_T54 aJ aA).f0.f1)) := bG 1 _ rfl; have fJ : aS.cell? ⟨go5, (aA : Int).toNat * 7 + 2, none⟩ = some (.int .i64 ((rd_T54 aJ aA).f0.f2)) := bG 2 _ rfl; have fK : aS.cell? ⟨go5, (aA : Int).toNat * 7 + 3, none⟩ = some (.string ((rd_T54 aJ aA).f0.f3)) := bG 3 _ rfl; have fL : aS.cell? ⟨go5, (aA : Int).toNat * 7 + 4, none⟩ = some (.int .i64 ((rd_T54 aJ aA).f1)) := bG 4 _ rfl; have fM : aS.cell? ⟨go5, (aA : Int).toNat * 7 + 5, none⟩ = some (.int .i64 ((rd_T54 aJ aA).f2)) := bG 5 _ rfl; have fN : aS.cell? ⟨go5, (aA : Int).toNat * 7 + 6, none⟩ = some (.int .i64 ((rd_T54 aJ aA).f3)) := bG 6 _ rfl; have fO : aS.frozen? ⟨go5, (aA : Int).toNat * 7, none⟩ = false := bH 0; have fP : aS.frozen? ⟨go5, (aA : Int).toNat * 7 + 1, none⟩ = false := bH 1; have fQ : aS.frozen? ⟨go5, (aA : Int).toNat * 7 + 2, none⟩ = false := bH 2; have fR : aS.frozen? ⟨go5, (aA : Int).toNat * 7 + 3, none⟩ = false := bH 3; have fS : aS.frozen? ⟨go5, (aA : Int).toNat * 7 + 4, none⟩ = false := bH 4; have fT : aS.frozen? ⟨go5, (aA : Int).toNat * 7 + 5, none⟩ = false := bH 5; have fU : aS.frozen? ⟨go5, (aA : Int).toNat * 7 + 6, none⟩ = false := bH 6; clear hcl6 bG bH hM6; replace p6 := eq_true p6; replace q6 := eq_true q6; have HX16 := am (show Kd.R k54 54 aS w0.heap.size (fun k_ => (P0_ k_ ∨ w.heap.size ≤ k_)) (.slice (some ⟨go5, 0, none⟩) aD.length aK) aJ from (KR aH)); obtain ⟨ce16, hcl16, hM16, bO, bV⟩ := Kd.R_elem HX16.out z54 (aA : Int) (OD) (by have h_ : (aA : Int) < ((aD.length : Int) : Int) := OD; first | exact h_ | (have e_ := (Kd.R_reads' aH.out).1; omega) | simpa using h_); obtain rfl := k54_openM hM16; have HP16 := Kd.R_seg HX16.out (aA : Int) (OD) (by have h_ : (aA : Int) < ((aD.length : Int) : Int) := OD; first | exact h_ | (have e_ := (Kd.R_reads' aH.out).1; omega) | simpa using h_) (seg := [.int .i64 (wrap64 (aE + 1))]) (j := 1) hcl16 bO (show 2 ≤ 7 from by decide) (x' := (⟨(⟨(rd_T54 aJ aA).f0.f0, wrap64 (aE + 1), (rd_T54 aJ aA).f0.f2, (rd_T54 aJ aA).f0.f3⟩ : S52), (rd_T54 aJ aA).f1, (rd_T54 aJ aA).f2, (rd_T54 aJ aA).f3⟩ : S54)) (k54_mkM _ _ _ (⟨(⟨(rd_T54 aJ aA).f0.f0, wrap64 (aE + 1), (rd_T54 aJ aA).f0.f2, (rd_T54 aJ aA).f0.f3⟩ : S52), (rd_T54 aJ aA).f1, (rd_T54 aJ aA).f2, (rd_T54 aJ aA).f3⟩ : S54) ) (fun _ hk => hk); have cE := bO 1 _ rfl; (try simp only [show (k54).sz = 7 from rfl, Nat.mul_one, Nat.add_zero] at cE); have cF := bV 1; (try simp only [show (k54).sz = 7 from rfl, Nat.mul_one, Nat.add_zero] at cF); clear hcl16 bO bV hM16) | ((with_reducible refine gate_store (t := 3) (p := 25) rfl ?_); refine store_event (t := 3) (p := 25) (v := ?vo_w17) (w1 := (aS.setCell ⟨go5, (aA : Int).toNat * 7 + 1, none⟩ (.int .i64 (wrap64 (aE + 1))))) ?hg ?ho ?hn ?hr ?_; (case ho => rfl); (case hg => rfl); (case hn => rfl); (case hr => first | (go_simp; done) | (go_simp; rfl)); intro aT hw; have hg : aS.grownBy aT (some go5) := (by rw [hw]; exact HP16.2); have hp_ : Kd.R k54 54 aT w0.heap.size (fun k_ => (P0_ k_ ∨ w.heap.size ≤ k_)) (.slice (some ⟨go5, 0, none⟩) aD.length aK) aI := (by rw [hw, Ny102.out]; exact HP16.1); clear HP16; replace HB := am ((by rw [hw]; exact below_set (HB.out) GB5.out : Below w0.heap.size w0 aT)); replace HK := am (Kept.of_grown (S := (fun k_ => P0_ k_)) hg (by repeat (first | (with_reducible first | exact HK.out | apply Kept.alloc | apply Kept.drewN | apply Kept.drew) | exact HK.out)) (fun k_ e_ => (aH.out.1 k_ e_))); replace aH := am (hp_); clear hg hw hp_; have p7 : 0 ≤ (aA : Int) := OD; have q7 : (aA : Int) < ((aD.length : Int) : Int) := OD; obtain ⟨ce7, hcl7, hM7, bI, bJ⟩ := Kd.R_elem aH.out z54 (aA : Int) p7 q7; obtain rfl := k54_openM hM7; have fV : aT.cell? ⟨go5, (aA : Int).toNat * 7, none⟩ = some (.int .i64 ((rd_T54 aI aA).f0.f0)) := bI 0 _ rfl; have fW : aT.cell? ⟨go5, (aA : Int).toNat * 7 + 1, none⟩ = some (.int .i64 ((rd_T54 aI aA).f0.f1)) := bI 1 _ rfl; have fX : aT.cell? ⟨go5, (aA : Int).toNat * 7 + 2, none⟩ = some (.int .i64 ((rd_T54 aI aA).f0.f2)) := bI 2 _ rfl; have fY : aT.cell? ⟨go5, (aA : Int).toNat * 7 + 3, none⟩ = some (.string ((rd_T54 aI aA).f0.f3)) := bI 3 _ rfl; have fZ : aT.cell? ⟨go5, (aA : Int).toNat * 7 + 4, none⟩ = some (.int .i64 ((rd_T54 aI aA).f1)) := bI 4 _ rfl; have gA : aT.cell? ⟨go5, (aA : Int).toNat * 7 + 5, none⟩ = some (.int .i64 ((rd_T54 aI aA).f2)) := bI 5 _ rfl; have gB : aT.cell? ⟨go5, (aA : Int).toNat * 7 + 6, none⟩ = some (.int .i64 ((rd_T54 aI aA).f3)) := bI 6 _ rfl; have gC : aT.frozen? ⟨go5, (aA : Int).toNat * 7, none⟩ = false := bJ 0; have gD : aT.frozen? ⟨go5, (aA : Int).toNat * 7 + 1, none⟩ = false := bJ 1; have gE : aT.frozen? ⟨go5, (aA : Int).toNat * 7 + 2, none⟩ = false := bJ 2; have gF : aT.frozen? ⟨go5, (aA : Int).toNat * 7 + 3, none⟩ = false := bJ 3; have gG : aT.frozen? ⟨go5, (aA : Int).toNat * 7 + 4, none⟩ = false := bJ 4; have gH : aT.frozen? ⟨go5, (aA : Int).toNat * 7 + 5, none⟩ = false := bJ 5; have gI : aT.frozen? ⟨go5, (aA : Int).toNat * 7 + 6, none⟩ = false := bJ 6; clear hcl7 bI bJ hM7; replace p7 := eq_true p7; replace q7 := eq_true q7; have HX18 := am (show Kd.R k54 54 aT w0.heap.size (fun k_ => (P0_ k_ ∨ w.heap.size ≤ k_)) (.slice (some ⟨go5, 0, none⟩) aD.length aK) aI from (KR aH)); obtain ⟨ce18, hcl18, hM18, bP, bW⟩ := Kd.R_elem HX18.out z54 (aA : Int) (OD) (by have h_ : (aA : Int) < ((aD.length : Int) : Int) := OD; first | exact h_ | (have e_ := (Kd.R_reads' aH.out).1; omega) | simpa using h_); obtain rfl := k54_openM hM18; have HP18 := Kd.R_seg HX18.out (aA : Int) (OD) (by have h_ : (aA : Int) < ((aD.length : Int) : Int) := OD; first | exact h_ | (have e_ := (Kd.R_reads' aH.out).1; omega) | simpa using h_) (seg := [.int .i64 (wrap64 ((wrap64 (aE + 1)) + 1))]) (j := 2) hcl18 bP (show 3 ≤ 7 from by decide) (x' := (⟨(⟨(rd_T54 aI aA).f0.f0, (rd_T54 aI aA).f0.f1, wrap64 ((wrap64 (aE + 1)) + 1), (rd_T54 aI aA).f0.f3⟩ : S52), (rd_T54 aI aA).f1, (rd_T54 aI aA).f2, (rd_T54 aI aA).f3⟩ : S54)) (k54_mkM _ _ _ (⟨(⟨(rd_T54 aI aA).f0.f0, (rd_T54 aI aA).f0.f1, wrap64 ((wrap64 (aE + 1)) + 1), (rd_T54 aI aA).f0.f3⟩ : S52), (rd_T54 aI aA).f1, (rd_T54 aI aA).f2, (rd_T54 aI aA).f3⟩ : S54) ) (fun _ hk => hk); have cG := bP 2 _ rfl; (try simp only [show (k54).sz = 7 from rfl, Nat.mul_one, Nat.add_zero] at cG); have cH := bW 2; (try simp only [show (k54).sz = 7 from rfl, Nat.mul_one, Nat.add_zero] at cH); clear hcl18 bP bW hM18) | ((with_reducible refine gate_store (t := 3) (p := 33) rfl ?_); refine store_event (t := 3) (p := 33) (v := ?vo_w19) (w1 := (aT.setCell ⟨go5, (aA : Int).toNat * 7 + 2, none⟩ (.int .i64 (wrap64 ((wrap64 (aE + 1)) + 1))))) ?hg ?ho ?hn ?hr ?_; (case ho => rfl); (case hg => rfl); (case hn => rfl); (case hr => first | (go_simp; done) | (go_simp; rfl)); intro cR hw; have hg : aT.grownBy cR (some go5) := (by rw [hw]; exact HP18.2); have hp_ : Kd.R k54 54 cR w0.heap.size (fun k_ => (P0_ k_ ∨ w.heap.size ≤ k_)) (.slice (some ⟨go5, 0, none⟩) aD.length aK) aG := (by rw [hw, Ny103.out]; exact HP18.1); clear HP18; replace HB := am ((by rw [hw]; exact below_set (HB.out) GB5.out : Below w0.heap.size w0 cR)); replace HK := am (Kept.of_grown (S := (fun k_ => P0_ k_)) hg (by repeat (first | (with_reducible first | exact HK.out | apply Kept.alloc | apply Kept.drewN | apply Kept.drew) | exact HK.out)) (fun k_ e_ => (aH.out.1 k_ e_))); replace aH := am (hp_); clear hg hw hp_) | ((with_reducible refine gate_callee (f := 28) rfl ?_); refine goesL_ (some 39) rfl rfl Try.func28 (by kernel_rfl) rfl #[.int .i64 (wrap64 ((wrap64 ((wrap64 (aE + 1)) + 1)) + 1))] rfl MT ?_; (with_reducible refine (laws_markText.calls k1 (wrap64 ((wrap64 ((wrap64 (aE + 1)) + 1)) + 1)) aL _ A8.out).mono ?_); rintro e bK ⟨rfl, hb⟩; refine ⟨_, rfl, ?_⟩; replace aH := am (Kd.R_below (KR aH) hb); replace HK := am (Kept.below (S := (fun k_ => P0_ k_)) (by repeat (first | (with_reducible first | exact HK.out | apply Kept.alloc | apply Kept.drewN | apply Kept.drew) | exact HK.out)) hb); replace HB := bl (KL HB) hb; (try clear hb); (try clear hb2); (try clear hk); (try clear hi); have p9 : 0 ≤ (aA : Int) := OD; have q9 : (aA : Int) < ((aD.length : Int) : Int) := OD; obtain ⟨ce9, hcl9, hM9, bL, bM⟩ := Kd.R_elem aH.out z54 (aA : Int) p9 q9; obtain rfl := k54_openM hM9; have gJ : bK.cell? ⟨go5, (aA : Int).toNat * 7, none⟩ = some (.int .i64 ((rd_T54 aG aA).f0.f0)) := bL 0 _ rfl; have gK : bK.cell? ⟨go5, (aA : Int).toNat * 7 + 1, none⟩ = some (.int .i64 ((rd_T54 aG aA).f0.f1)) := bL 1 _ rfl; have gL : bK.cell? ⟨go5, (aA : Int).toNat * 7 + 2, none⟩ = some (.int .i64 ((rd_T54 aG aA).f0.f2)) := bL 2 _ rfl; have gM : bK.cell? ⟨go5, (aA : Int).toNat * 7 + 3, none⟩ = some (.string ((rd_T54 aG aA).f0.f3)) := bL 3 _ rfl; have gN : bK.cell? ⟨go5, (aA : Int).toNat * 7 + 4, none⟩ = some (.int .i64 ((rd_T54 aG aA).f1)) := bL 4 _ rfl; have gO : bK.cell? ⟨go5, (aA : Int).toNat * 7 + 5, none⟩ = some (.int .i64 ((rd_T54 aG aA).f2)) := bL 5 _ rfl; have gP : bK.cell? ⟨go5, (aA : Int).toNat * 7 + 6, none⟩ = some (.int .i64 ((rd_T54 aG aA).f3)) := bL 6 _ rfl; have gQ : bK.frozen? ⟨go5, (aA : Int).toNat * 7, none⟩ = false := bM 0; have gR : bK.frozen? ⟨go5, (aA : Int).toNat * 7 + 1, none⟩ = false := bM 1; have gS : bK.frozen? ⟨go5, (aA : Int).toNat * 7 + 2, none⟩ = false := bM 2; have gT : bK.frozen? ⟨go5, (aA : Int).toNat * 7 + 3, none⟩ = false := bM 3; have gU : bK.frozen? ⟨go5, (aA : Int).toNat * 7 + 4, none⟩ = false := bM 4; have gV : bK.frozen? ⟨go5, (aA : Int).toNat * 7 + 5, none⟩ = false := bM 5; have gW : bK.frozen? ⟨go5, (aA : Int).toNat * 7 + 6, none⟩ = false := bM 6; clear hcl9 bL bM hM9; replace p9 := eq_true p9; replace q9 := eq_true q9; have HX21 := am (show Kd.R k54 54 bK w0.heap.size (fun k_ => (P0_ k_ ∨ w.heap.size ≤ k_)) (.slice (some ⟨go5, 0, none⟩) aD.length aK) aG from (KR aH)); obtain ⟨ce21, hcl21, hM21, bQ, bX⟩ := Kd.R_elem HX21.out z54 (aA : Int) (OD) (by have h_ : (aA : Int) < ((aD.length : Int) : Int) := OD; first | exact h_ | (have e_ := (Kd.R_reads' aH.out).1; omega) | simpa using h_); obtain rfl := k54_openM hM21; have HP21 := Kd.R_seg HX21.out (aA : Int) (OD) (by have h_ : (aA : Int) < ((aD.length : Int) : Int) := OD; first | exact h_ | (have e_ := (Kd.R_reads' aH.out).1; omega) | simpa using h_) (seg := [.string aL]) (j := 3) hcl21 bQ (show 4 ≤ 7 from by decide) (x' := (⟨(⟨(rd_T54 aG aA).f0.f0, (rd_T54 aG aA).f0.f1, (rd_T54 aG aA).f0.f2, aL⟩ : S52), (rd_T54 aG aA).f1, (rd_T54 aG aA).f2, (rd_T54 aG aA).f3⟩ : S54)) (k54_mkM _ _ _ (⟨(⟨(rd_T54 aG aA).f0.f0, (rd_T54 aG aA).f0.f1, (rd_T54 aG aA).f0.f2, aL⟩ : S52), (rd_T54 aG aA).f1, (rd_T54 aG aA).f2, (rd_T54 aG aA).f3⟩ : S54) ) (fun _ hk => hk); have cI := bQ 3 _ rfl; (try simp only [show (k54).sz = 7 from rfl, Nat.mul_one, Nat.add_zero] at cI); have cJ := bX 3; (try simp only [show (k54).sz = 7 from rfl, Nat.mul_one, Nat.add_zero] at cJ); clear hcl21 bQ bX hM21) | ((with_reducible refine gate_store (t := 9) (p := 42) rfl ?_); refine store_event (t := 9) (p := 42) (v := ?vo_w22) (w1 := (bK.setCell ⟨go5, (aA : Int).toNat * 7 + 3, none⟩ (.string aL))) ?hg ?ho ?hn ?hr ?_; (case ho => rfl); (case hg => rfl); (case hn => rfl); (case hr => first | (go_simp; done) | (go_simp; rfl)); intro aU hw; have hg : bK.grownBy aU (some go5) := (by rw [hw]; exact HP21.2); have hp_ : Kd.R k54 54 aU w0.heap.size (fun k_ => (P0_ k_ ∨ w.heap.size ≤ k_)) (.slice (some ⟨go5, 0, none⟩) aD.length aK) aF := (by rw [hw, Ny105.out]; exact HP21.1); clear HP21; replace HB := am ((by rw [hw]; exact below_set (HB.out) GB5.out : Below w0.heap.size w0 aU)); replace HK := am (Kept.of_grown (S := (fun k_ => P0_ k_)) hg (by repeat (first | (with_reducible first | exact HK.out | apply Kept.alloc | apply Kept.drewN | apply Kept.drew) | exact HK.out)) (fun k_ e_ => (aH.out.1 k_ e_))); replace aH := am (hp_); clear hg hw hp_; have cS : 0 ≤ (aA : Int) := OD; have cT : (aA : Int) < ((aD.length : Int) : Int) := OD; obtain ⟨ce10, hcl10, hM10, aM, aN⟩ := Kd.R_elem aH.out z54 (aA : Int) cS cT; obtain rfl := k54_openM hM10; have cU : aU.cell? ⟨go5, (aA : Int).toNat * 7, none⟩ = some (.int .i64 ((rd_T54 aF aA).f0.f0)) := aM 0 _ rfl; have cV : aU.cell? ⟨go5, (aA : Int).toNat * 7 + 1, none⟩ = some (.int .i64 ((rd_T54 aF aA).f0.f1)) := aM 1 _ rfl; have cW : aU.cell? ⟨go5, (aA : Int).toNat * 7 + 2, none⟩ = some (.int .i64 ((rd_T54 aF aA).f0.f2)) := aM 2 _ rfl; have cX : aU.cell? ⟨go5, (aA : Int).toNat * 7 + 3, none⟩ = some (.string ((rd_T54 aF aA).f0.f3)) := aM 3 _ rfl; have cY : aU.cell? ⟨go5, (aA : Int).toNat * 7 + 4, none⟩ = some (.int .i64 ((rd_T54 aF aA).f1)) := aM 4 _ rfl; have cZ : aU.cell? ⟨go5, (aA : Int).toNat * 7 + 5, none⟩ = some (.int .i64 ((rd_T54 aF aA).f2)) := aM 5 _ rfl; have dA : aU.cell? ⟨go5, (aA : Int).toNat * 7 + 6, none⟩ = some (.int .i64 ((rd_T54 aF aA).f3)) := aM 6 _ rfl; have dB : aU.frozen? ⟨go5, (aA : Int).toNat * 7, none⟩ = false := aN 0; have dC : aU.frozen? ⟨go5, (aA : Int).toNat * 7 + 1, none⟩ = false := aN 1; have dD : aU.frozen? ⟨go5, (aA : Int).toNat * 7 + 2, none⟩ = false := aN 2; have dE : aU.frozen? ⟨go5, (aA : Int).toNat * 7 + 3, none⟩ = false := aN 3; have dF : aU.frozen? ⟨go5, (aA : Int).toNat * 7 + 4, none⟩ = false := aN 4; have dG : aU.frozen? ⟨go5, (aA : Int).toNat * 7 + 5, none⟩ = false := aN 5; have dH : aU.frozen? ⟨go5, (aA : Int).toNat * 7 + 6, none⟩ = false := aN 6; clear hcl10 aM aN hM10; replace cS := eq_true cS; replace cT := eq_true cT; have HX23 := am (show Kd.R k54 54 aU w0.heap.size (fun k_ => (P0_ k_ ∨ w.heap.size ≤ k_)) (.slice (some ⟨go5, 0, none⟩) aD.length aK) aF from (KR aH)); obtain ⟨ce23, hcl23, hM23, bR, bY⟩ := Kd.R_elem HX23.out z54 (aA : Int) (OD) (by have h_ : (aA : Int) < ((aD.length : Int) : Int) := OD; first | exact h_ | (have e_ := (Kd.R_reads' aH.out).1; omega) | simpa using h_); obtain rfl := k54_openM hM23; have HP23 := Kd.R_seg HX23.out (aA : Int) (OD) (by have h_ : (aA : Int) < ((aD.length : Int) : Int) := OD; first | exact h_ | (have e_ := (Kd.R_reads' aH.out).1; omega) | simpa using h_) (seg := [.int .i64 (wrap64 ((wrap64 ((wrap64 ((wrap64 (aE + 1)) + 1)) + 1)) + 1))]) (j := 4) hcl23 bR (show 5 ≤ 7 from by decide) (x' := (⟨(⟨(rd_T54 aF aA).f0.f0, (rd_T54 aF aA).f0.f1, (rd_T54 aF aA).f0.f2, (rd_T54 aF aA).f0.f3⟩ : S52), wrap64 ((wrap64 ((wrap64 ((wrap64 (aE + 1)) + 1)) + 1)) + 1), (rd_T54 aF aA).f2, (rd_T54 aF aA).f3⟩ : S54)) (k54_mkM _ _ _ (⟨(⟨(rd_T54 aF aA).f0.f0, (rd_T54 aF aA).f0.f1, (rd_T54 aF aA).f0.f2, (rd_T54 aF aA).f0.f3⟩ : S52), wrap64 ((wrap64 ((wrap64 ((wrap64 (aE + 1)) + 1)) + 1)) + 1), (rd_T54 aF aA).f2, (rd_T54 aF aA).f3⟩ : S54) ) (fun _ hk => hk); have cK := bR 4 _ rfl; (try simp only [show (k54).sz = 7 from rfl, Nat.mul_one, Nat.add_zero] at cK); have cL := bY 4; (try simp only [show (k54).sz = 7 from rfl, Nat.mul_one, Nat.add_zero] at cL); clear hcl23 bR bY hM23) | ((with_reducible refine gate_store (t := 3) (p := 49) rfl ?_); refine store_event (t := 3) (p := 49) (v := ?vo_w24) (w1 := (aU.setCell ⟨go5, (aA : Int).toNat * 7 + 4, none⟩ (.int .i64 (wrap64 ((wrap64 ((wrap64 ((wrap64 (aE + 1)) + 1)) + 1)) + 1))))) ?hg ?ho ?hn ?hr ?_; (case ho => rfl); (case hg => rfl); (case hn => rfl); (case hr => first | (go_simp; done) | (go_simp; rfl)); intro aV hw; have hg : aU.grownBy aV (some go5) := (by rw [hw]; exact HP23.2); have hp_ : Kd.R k54 54 aV w0.heap.size (fun k_ => (P0_ k_ ∨ w.heap.size ≤ k_)) (.slice (some ⟨go5, 0, none⟩) aD.length aK) aC := (by rw [hw, Ny106.out]; exact HP23.1); clear HP23; replace HB := am ((by rw [hw]; exact below_set (HB.out) GB5.out : Below w0.heap.size w0 aV)); replace HK := am (Kept.of_grown (S := (fun k_ => P0_ k_)) hg (by repeat (first | (with_reducible first | exact HK.out | apply Kept.alloc | apply Kept.drewN | apply Kept.drew) | exact HK.out)) (fun k_ e_ => (aH.out.1 k_ e_))); replace aH := am (hp_); clear hg hw hp_; have dI : 0 ≤ (aA : Int) := OD; have dJ : (aA : Int) < ((aD.length : Int) : Int) := OD; obtain ⟨ce11, hcl11, hM11, aO, aP⟩ := Kd.R_elem aH.out z54 (aA : Int) dI dJ; obtain rfl := k54_openM hM11; have dK : aV.cell? ⟨go5, (aA : Int).toNat * 7, none⟩ = some (.int .i64 ((rd_T54 aC aA).f0.f0)) := aO 0 _ rfl; have dL : aV.cell? ⟨go5, (aA : Int).toNat * 7 + 1, none⟩ = some (.int .i64 ((rd_T54 aC aA).f0.f1)) := aO 1 _ rfl; have dM : aV.cell? ⟨go5, (aA : Int).toNat * 7 + 2, none⟩ = some (.int .i64 ((rd_T54 aC aA).f0.f2)) := aO 2 _ rfl; have dN : aV.cell? ⟨go5, (aA : Int).toNat * 7 + 3, none⟩ = some (.string ((rd_T54 aC aA).f0.f3)) := aO 3 _ rfl; have dO : aV.cell? ⟨go5, (aA : Int).toNat * 7 + 4, none⟩ = some (.int .i64 ((rd_T54 aC aA).f1)) := aO 4 _ rfl; have dP : aV.cell? ⟨go5, (aA : Int).toNat * 7 + 5, none⟩ = some (.int .i64 ((rd_T54 aC aA).f2)) := aO 5 _ rfl; have dQ : aV.cell? ⟨go5, (aA : Int).toNat * 7 + 6, none⟩ = some (.int .i64 ((rd_T54 aC aA).f3)) := aO 6 _ rfl; have dR : aV.frozen? ⟨go5, (aA : Int).toNat * 7, none⟩ = false := aP 0; have dS : aV.frozen? ⟨go5, (aA : Int).toNat * 7 + 1, none⟩ = false := aP 1; have dT : aV.frozen? ⟨go5, (aA : Int).toNat * 7 + 2, none⟩ = false := aP 2; have dU : aV.frozen? ⟨go5, (aA : Int).toNat * 7 + 3, none⟩ = false := aP 3; have dV : aV.frozen? ⟨go5, (aA : Int).toNat * 7 + 4, none⟩ = false := aP 4; have dW : aV.frozen? ⟨go5, (aA : Int).toNat * 7 + 5, none⟩ = false := aP 5; have dX : aV.frozen? ⟨go5, (aA : Int).toNat * 7 + 6, none⟩ = false := aP 6; clear hcl11 aO aP hM11; replace dI := eq_true dI; replace dJ := eq_true dJ; have HX25 := am (show Kd.R k54 54 aV w0.heap.size (fun k_ => (P0_ k_ ∨ w.heap.size ≤ k_)) (.slice (some ⟨go5, 0, none⟩) aD.length aK) aC from (KR aH)); obtain ⟨ce25, hcl25, hM25, bS, bZ⟩ := Kd.R_elem HX25.out z54 (aA : Int) (OD) (by have h_ : (aA : Int) < ((aD.length : Int) : Int) := OD; first | exact h_ | (have e_ := (Kd.R_reads' aH.out).1; omega) | simpa using h_); obtain rfl := k54_openM hM25; have HP25 := Kd.R_seg HX25.out (aA : Int) (OD) (by have h_ : (aA : Int) < ((aD.length : Int) : Int) := OD; first | exact h_ | (have e_ := (Kd.R_reads' aH.out).1; omega) | simpa using h_) (seg := [.int .i64 (wrap64 ((wrap64 ((wrap64 ((wrap64 ((wrap64 (aE + 1)) + 1)) + 1)) + 1)) + 1))]) (j := 5) hcl25 bS (show 6 ≤ 7 from by decide) (x' := (⟨(⟨(rd_T54 aC aA).f0.f0, (rd_T54 aC aA).f0.f1, (rd_T54 aC aA).f0.f2, (rd_T54 aC aA).f0.f3⟩ : S52), (rd_T54 aC aA).f1, wrap64 ((wrap64 ((wrap64 ((wrap64 ((wrap64 (aE + 1)) + 1)) + 1)) + 1)) + 1), (rd_T54 aC aA).f3⟩ : S54)) (k54_mkM _ _ _ (⟨(⟨(rd_T54 aC aA).f0.f0, (rd_T54 aC aA).f0.f1, (rd_T54 aC aA).f0.f2, (rd_T54 aC aA).f0.f3⟩ : S52), (rd_T54 aC aA).f1, wrap64 ((wrap64 ((wrap64 ((wrap64 ((wrap64 (aE + 1)) + 1)) + 1)) + 1)) + 1), (rd_T54 aC aA).f3⟩ : S54) ) (fun _ hk => hk); have cM := bS 5 _ rfl; (try simp only [show (k54).sz = 7 from rfl, Nat.mul_one, Nat.add_zero] at cM); have cN := bZ 5; (try simp only [show (k54).sz = 7 from rfl, Nat.mul_one, Nat.add_zero] at cN); clear hcl25 bS bZ hM25) | ((with_reducible refine gate_store (t := 3) (p := 56) rfl ?_); refine store_event (t := 3) (p := 56) (v := ?vo_w26) (w1 := (aV.setCell ⟨go5, (aA : Int).toNat * 7 + 5, none⟩ (.int .i64 (wrap64 ((wrap64 ((wrap64 ((wrap64 ((wrap64 (aE + 1)) + 1)) + 1)) + 1)) + 1))))) ?hg ?ho ?hn ?hr ?_; (case ho => rfl); (case hg => rfl); (case hn => rfl); (case hr => first | (go_simp; done) | (go_simp; rfl)); intro aW hw; have hg : aV.grownBy aW (some go5) := (by rw [hw]; exact HP25.2); have hp_ : Kd.R k54 54 aW w0.heap.size (fun k_ => (P0_ k_ ∨ w.heap.size ≤ k_)) (.slice (some ⟨go5, 0, none⟩) aD.length aK) aB := (by rw [hw, Ny107.out]; exact HP25.1); clear HP25; replace HB := am ((by rw [hw]; exact below_set (HB.out) GB5.out : Below w0.heap.size w0 aW)); replace HK := am (Kept.of_grown (S := (fun k_ => P0_ k_)) hg (by repeat (first | (with_reducible first | exact HK.out | apply Kept.alloc | apply Kept.drewN | apply Kept.drew) | exact HK.out)) (fun k_ e_ => (aH.out.1 k_ e_))); replace aH := am (hp_); clear hg hw hp_; have dY : 0 ≤ (aA : Int) := OD; have dZ : (aA : Int) < ((aD.length : Int) : Int) := OD; obtain ⟨ce12, hcl12, hM12, aQ, aR⟩ := Kd.R_elem aH.out z54 (aA : Int) dY dZ; obtain rfl := k54_openM hM12; have eA : aW.cell? ⟨go5, (aA : Int).toNat * 7, none⟩ = some (.int .i64 ((rd_T54 aB aA).f0.f0)) := aQ 0 _ rfl; have eB : aW.cell? ⟨go5, (aA : Int).toNat * 7 + 1, none⟩ = some (.int .i64 ((rd_T54 aB aA).f0.f1)) := aQ 1 _ rfl; have eC : aW.cell? ⟨go5, (aA : Int).toNat * 7 + 2, none⟩ = some (.int .i64 ((rd_T54 aB aA).f0.f2)) := aQ 2 _ rfl; have eD : aW.cell? ⟨go5, (aA : Int).toNat * 7 + 3, none⟩ = some (.string ((rd_T54 aB aA).f0.f3)) := aQ 3 _ rfl; have eE : aW.cell? ⟨go5, (aA : Int).toNat * 7 + 4, none⟩ = some (.int .i64 ((rd_T54 aB aA).f1)) := aQ 4 _ rfl; have eF : aW.cell? ⟨go5, (aA : Int).toNat * 7 + 5, none⟩ = some (.int .i64 ((rd_T54 aB aA).f2)) := aQ 5 _ rfl; have eG : aW.cell? ⟨go5, (aA : Int).toNat * 7 + 6, none⟩ = some (.int .i64 ((rd_T54 aB aA).f3)) := aQ 6 _ rfl; have eH : aW.frozen? ⟨go5, (aA : Int).toNat * 7, none⟩ = false := aR 0; have eI : aW.frozen? ⟨go5, (aA : Int).toNat * 7 + 1, none⟩ = false := aR 1; have eJ : aW.frozen? ⟨go5, (aA : Int).toNat * 7 + 2, none⟩ = false := aR 2; have eK : aW.frozen? ⟨go5, (aA : Int).toNat * 7 + 3, none⟩ = false := aR 3; have eL : aW.frozen? ⟨go5, (aA : Int).toNat * 7 + 4, none⟩ = false := aR 4; have eM : aW.frozen? ⟨go5, (aA : Int).toNat * 7 + 5, none⟩ = false := aR 5; have eN : aW.frozen? ⟨go5, (aA : Int).toNat * 7 + 6, none⟩ = false := aR 6; clear hcl12 aQ aR hM12; replace dY := eq_true dY; replace dZ := eq_true dZ; have HX27 := am (show Kd.R k54 54 aW w0.heap.size (fun k_ => (P0_ k_ ∨ w.heap.size ≤ k_)) (.slice (some ⟨go5, 0, none⟩) aD.length aK) aB from (KR aH)); obtain ⟨ce27, hcl27, hM27, bT, cA⟩ := Kd.R_elem HX27.out z54 (aA : Int) (OD) (by have h_ : (aA : Int) < ((aD.length : Int) : Int) := OD; first | exact h_ | (have e_ := (Kd.R_reads' aH.out).1; omega) | simpa using h_); obtain rfl := k54_openM hM27; have HP27 := Kd.R_seg HX27.out (aA : Int) (OD) (by have h_ : (aA : Int) < ((aD.length : Int) : Int) := OD; first | exact h_ | (have e_ := (Kd.R_reads' aH.out).1; omega) | simpa using h_) (seg := [.int .i64 (wrap64 ((wrap64 ((wrap64 ((wrap64 ((wrap64 ((wrap64 (aE + 1)) + 1)) + 1)) + 1)) + 1)) + 1))]) (j := 6) hcl27 bT (show 7 ≤ 7 from by decide) (x' := (⟨(⟨(rd_T54 aB aA).f0.f0, (rd_T54 aB aA).f0.f1, (rd_T54 aB aA).f0.f2, (rd_T54 aB aA).f0.f3⟩ : S52), (rd_T54 aB aA).f1, (rd_T54 aB aA).f2, wrap64 ((wrap64 ((wrap64 ((wrap64 ((wrap64 ((wrap64 (aE + 1)) + 1)) + 1)) + 1)) + 1)) + 1)⟩ : S54)) (k54_mkM _ _ _ (⟨(⟨(rd_T54 aB aA).f0.f0, (rd_T54 aB aA).f0.f1, (rd_T54 aB aA).f0.f2, (rd_T54 aB aA).f0.f3⟩ : S52), (rd_T54 aB aA).f1, (rd_T54 aB aA).f2, wrap64 ((wrap64 ((wrap64 ((wrap64 ((wrap64 ((wrap64 (aE + 1)) + 1)) + 1)) + 1)) + 1)) + 1)⟩ : S54) ) (fun _ hk => hk); have cO := bT 6 _ rfl; (try simp only [show (k54).sz = 7 from rfl, Nat.mul_one, Nat.add_zero] at cO); have cP := cA 6; (try simp only [show (k54).sz = 7 from rfl, Nat.mul_one, Nat.add_zero] at cP); clear hcl27 bT cA hM27) | ((with_reducible refine gate_store (t := 3) (p := 63) rfl ?_); refine store_event (t := 3) (p := 63) (v := ?vo_w28) (w1 := (aW.setCell ⟨go5, (aA : Int).toNat * 7 + 6, none⟩ (.int .i64 (wrap64 ((wrap64 ((wrap64 ((wrap64 ((wrap64 ((wrap64 (aE + 1)) + 1)) + 1)) + 1)) + 1)) + 1))))) ?hg ?ho ?hn ?hr ?_; (case ho => rfl); (case hg => rfl); (case hn => rfl); (case hr => first | (go_simp; done) | (go_simp; rfl)); intro eO hw; have hg : aW.grownBy eO (some go5) := (by rw [hw]; exact HP27.2); have hp_ : Kd.R k54 54 eO w0.heap.size (fun k_ => (P0_ k_ ∨ w.heap.size ≤ k_)) (.slice (some ⟨go5, 0, none⟩) aD.length aK) cB := (by rw [hw, Ny108.out]; exact HP27.1); clear HP27; replace HB := am ((by rw [hw]; exact below_set (HB.out) GB5.out : Below w0.heap.size w0 eO)); replace HK := am (Kept.of_grown (S := (fun k_ => P0_ k_)) hg (by repeat (first | (with_reducible first | exact HK.out | apply Kept.alloc | apply Kept.drewN | apply Kept.drew) | exact HK.out)) (fun k_ e_ => (aH.out.1 k_ e_))); replace aH := am (hp_); clear hg hw hp_))
     go_roundg k1
     case measure => have := HK1.out; omega
     case rel => exact ⟨(cB), (wrap64 ((wrap64 ((wrap64 ((wrap64 ((wrap64 ((wrap64 ((wrap64 (aE + 1)) + 1)) + 1)) + 1)) + 1)) + 1)) + 1)), (wrap64 (aA + 1)), (by first | rfl | (simp; done) | (simp [*]; done)), (by first | rfl | (simp; done) | (simp [*]; done)), H', ⟨by have := HK1.out; omega⟩, ⟨KR aH⟩, ⟨by repeat (first | (with_reducible first | exact HK.out | apply Kept.alloc | apply Kept.drewN | apply Kept.drew) | exact HK.out)⟩, ⟨KL HB⟩⟩
    ·rw [if_neg c4] at H
     exact absurd H (by simp)
   ·rw [if_neg c3] at H
    have c3b0 : decide (aA < (aD.length : Int)) = false := decide_eq_false c3
    clear c3
    simp only [Option.some.injEq, Prod.mk.injEq] at H
    obtain ⟨rfl, rfl⟩ := H
    obtain ⟨_, _, eP⟩ := Kd.R_slice aH.out
    subst eP
    go_wp2
    go_ret
    exact ⟨ER, by refine KW ?_; exact aH.out, KL HB, by repeat (first | (with_reducible first | exact HK.out | apply Kept.alloc | apply Kept.drewN | apply Kept.drew) | exact HK.out)⟩
def laws_markWorld.f (k : Nat) (a0_0 : Int) (l0_1 : List (S63)) (a0_2 : Int) (l0_3 : List (S80)) (l0_4 : List (S70)) (l0_5 : List (S70)) (a0_6 : Int) (l0_7 : List (S63)) (a0_8 : Int) (l0_9 : List (S80)) (l0_10 : List (S70)) (l0_11 : List (S70)) (l0_12 : List (S49)) (l0_13 : List (S54)) (l0_14 : List (S54)) (a1 : Int) : Option (Int × (List (S63)) × (List (S80)) × (List (S63)) × (List (S80)) × (List (S49)) × (List (S54)) × (List (S54))) := (laws_markGate.f k a0_0 l0_1 a0_2 l0_3 l0_4 l0_5 a1).bind fun bt102 => ((laws_markGate.f k a0_6 l0_7 a0_8 l0_9 l0_10 l0_11 bt102.1).bind fun bt105 => ((laws_markAirS.f k l0_12 bt105.1).bind fun bt108 => ((laws_markSentS.f k l0_13 bt108.1).bind fun bt110 => ((laws_markSentS.f k l0_14 bt110.1).bind fun bt112 => (some (bt112.1, bt102.2.1, bt102.2.2, bt105.2.1, bt105.2.2, bt108.2, bt110.2, bt112.2))))))
theorem laws_markWorld.calls (k : Nat) (bO : Int) (P0_1_ : Nat → Prop) (u9000_ : Value) (aS : List (S63)) (bP : Int) (P0_3_ : Nat → Prop) (u9001_ : Value) (aT : List (S80)) (cB : Option Addr) (cC : Nat) (aX : List (S70)) (cD : Option Addr) (cE : Nat) (aY : List (S70)) (bH : Int) (P0_7_ : Nat → Prop) (u9002_ : Value) (aQ : List (S63)) (bI : Int) (P0_9_ : Nat → Prop) (u9003_ : Value) (aR : List (S80)) (bJ : Option Addr) (bK : Nat) (aN : List (S70)) (bL : Option Addr) (bM : Nat) (aO : List (S70)) (P0_12_ : Nat → Prop) (u9004_ : Value) (aL : List (S49)) (P0_13_ : Nat → Prop) (u9005_ : Value) (aJ : List (S54)) (P0_14_ : Nat → Prop) (u9006_ : Value) (aI : List (S54)) (a1 : Int) (r1 : Int) (r2 : List (S63)) (r3 : List (S80)) (r4 : List (S63)) (r5 : List (S80)) (r6 : List (S49)) (r7 : List (S54)) (r8 : List (S54)) (w0 w : World) (hB : Below w0.heap.size w0 w) (cM : Kd.R k63 63 w w0.heap.size P0_1_ u9000_ aS) (hp0_1_0_7 : ∀ k_, P0_1_ k_ → ¬ P0_7_ k_) (cN : Kd.R k80 80 w w0.heap.size P0_3_ u9001_ aT) (hp0_3_0_9 : ∀ k_, P0_3_ k_ → ¬ P0_9_ k_) (cO : ∀ W_, Kept w W_ (fun k_ => P0_1_ k_ ∨ P0_3_ k_ ∨ P0_7_ k_ ∨ P0_9_ k_ ∨ P0_12_ k_ ∨ P0_13_ k_ ∨ P0_14_ k_) → Kd.C k70 W_ cB aX.length aX) (cP : aX.length ≤ cC) (cQ : ∀ W_, Kept w W_ (fun k_ => P0_1_ k_ ∨ P0_3_ k_ ∨ P0_7_ k_ ∨ P0_9_ k_ ∨ P0_12_ k_ ∨ P0_13_ k_ ∨ P0_14_ k_) → Kd.C k70 W_ cD aY.length aY) (cR : aY.length ≤ cE) (cS : Kd.R k63 63 w w0.heap.size P0_7_ u9002_ aQ) (hp0_7_0_1 : ∀ k_, P0_7_ k_ → ¬ P0_1_ k_) (cT : Kd.R k80 80 w w0.heap.size P0_9_ u9003_ aR) (hp0_9_0_3 : ∀ k_, P0_9_ k_ → ¬ P0_3_ k_) (bS : ∀ W_, Kept w W_ (fun k_ => P0_1_ k_ ∨ P0_3_ k_ ∨ P0_7_ k_ ∨ P0_9_ k_ ∨ P0_12_ k_ ∨ P0_13_ k_ ∨ P0_14_ k_) → Kd.C k70 W_ bJ aN.length aN) (bT : aN.length ≤ bK) (bU : ∀ W_, Kept w W_ (fun k_ => P0_1_ k_ ∨ P0_3_ k_ ∨ P0_7_ k_ ∨ P0_9_ k_ ∨ P0_12_ k_ ∨ P0_13_ k_ ∨ P0_14_ k_) → Kd.C k70 W_ bL aO.length aO) (bV : aO.length ≤ bM) (cZ : Kd.R k49 49 w w0.heap.size P0_12_ u9004_ aL) (bW : Kd.R k54 54 w w0.heap.size P0_13_ u9005_ aJ) (hp0_13_0_14 : ∀ k_, P0_13_ k_ → ¬ P0_14_ k_) (bX : Kd.R k54 54 w w0.heap.size P0_14_ u9006_ aI) (hp0_14_0_13 : ∀ k_, P0_14_ k_ → ¬ P0_13_ k_) (h : laws_markWorld.f k bO aS bP aT aX aY bH aQ bI aR aN aO aL aJ aI a1 = some (r1, r2, r3, r4, r5, r6, r7, r8)) :
  Calls Try.prog 7 #[.agg #[.int .i64 bO, u9000_, .int .i64 bP, u9001_, .slice cB aX.length cC, .slice cD aY.length cE, .int .i64 bH, u9002_, .int .i64 bI, u9003_, .slice bJ aN.length bK, .slice bL aO.length bM, u9004_, u9005_, u9006_], .int .i64 a1] w fun e w' => e = .returned (.int .i64 r1) ∧ Kd.R k63 63 w' w0.heap.size (fun k_ => ((P0_1_ k_ ∨ P0_3_ k_ ∨ P0_7_ k_ ∨ P0_9_ k_ ∨ P0_12_ k_ ∨ P0_13_ k_ ∨ P0_14_ k_) ∨ w.heap.size ≤ k_)) u9000_ r2 ∧ Kd.R k80 80 w' w0.heap.size (fun k_ => ((P0_1_ k_ ∨ P0_3_ k_ ∨ P0_7_ k_ ∨ P0_9_ k_ ∨ P0_12_ k_ ∨ P0_13_ k_ ∨ P0_14_ k_) ∨ w.heap.size ≤ k_)) u9001_ r3 ∧ Kd.R k63 63 w' w0.heap.size (fun k_ => ((P0_1_ k_ ∨ P0_3_ k_ ∨ P0_7_ k_ ∨ P0_9_ k_ ∨ P0_12_ k_ ∨ P0_13_ k_ ∨ P0_14_ k_) ∨ w.heap.size ≤ k_)) u9002_ r4 ∧ Kd.R k80 80 w' w0.heap.size (fun k_ => ((P0_1_ k_ ∨ P0_3_ k_ ∨ P0_7_ k_ ∨ P0_9_ k_ ∨ P0_12_ k_ ∨ P0_13_ k_ ∨ P0_14_ k_) ∨ w.heap.size ≤ k_)) u9003_ r5 ∧ Kd.R k49 49 w' w0.heap.size (fun k_ => ((P0_1_ k_ ∨ P0_3_ k_ ∨ P0_7_ k_ ∨ P0_9_ k_ ∨ P0_12_ k_ ∨ P0_13_ k_ ∨ P0_14_ k_) ∨ w.heap.size ≤ k_)) u9004_ r6 ∧ Kd.R k54 54 w' w0.heap.size (fun k_ => ((P0_1_ k_ ∨ P0_3_ k_ ∨ P0_7_ k_ ∨ P0_9_ k_ ∨ P0_12_ k_ ∨ P0_13_ k_ ∨ P0_14_ k_) ∨ w.heap.size ≤ k_)) u9005_ r7 ∧ Kd.R k54 54 w' w0.heap.size (fun k_ => ((P0_1_ k_ ∨ P0_3_ k_ ∨ P0_7_ k_ ∨ P0_9_ k_ ∨ P0_12_ k_ ∨ P0_13_ k_ ∨ P0_14_ k_) ∨ w.heap.size ≤ k_)) u9006_ r8 ∧ Below w0.heap.size w0 w' ∧ Kept w w' (fun k_ => P0_1_ k_ ∨ P0_3_ k_ ∨ P0_7_ k_ ∨ P0_9_ k_ ∨ P0_12_ k_ ∨ P0_13_ k_ ∨ P0_14_ k_) := by
 have gZ := Try.underlying32
 have hA := Try.underlying28
 have aD := am (show Kd.R k63 63 w w0.heap.size (fun k_ => ((P0_1_ k_ ∨ P0_3_ k_ ∨ P0_7_ k_ ∨ P0_9_ k_ ∨ P0_12_ k_ ∨ P0_13_ k_ ∨ P0_14_ k_) ∨ w.heap.size ≤ k_) ∧ some k_ ≠ (u9002_ : Value).ownBlock) u9000_ aS from Kd.R_mono cM (fun k_ hk => ⟨(.inl (.inl hk)), fun e_ => hp0_1_0_7 k_ hk (cS.1 k_ e_.symm)⟩))
 have aE := am (show Kd.R k80 80 w w0.heap.size (fun k_ => ((P0_1_ k_ ∨ P0_3_ k_ ∨ P0_7_ k_ ∨ P0_9_ k_ ∨ P0_12_ k_ ∨ P0_13_ k_ ∨ P0_14_ k_) ∨ w.heap.size ≤ k_) ∧ some k_ ≠ (u9003_ : Value).ownBlock) u9001_ aT from Kd.R_mono cN (fun k_ hk => ⟨(.inl (.inr (.inl hk))), fun e_ => hp0_3_0_9 k_ hk (cT.1 k_ e_.symm)⟩))
 have dF := Aside0.mk cO
 have dG := Aside0.mk cP
 clear cO cP
 have dH := Aside0.mk cQ
 have dI := Aside0.mk cR
 clear cQ cR
 have aF := am (show Kd.R k63 63 w w0.heap.size (fun k_ => ((P0_1_ k_ ∨ P0_3_ k_ ∨ P0_7_ k_ ∨ P0_9_ k_ ∨ P0_12_ k_ ∨ P0_13_ k_ ∨ P0_14_ k_) ∨ w.heap.size ≤ k_) ∧ some k_ ≠ (u9000_ : Value).ownBlock) u9002_ aQ from Kd.R_mono cS (fun k_ hk => ⟨(.inl (.inr (.inr (.inl hk)))), fun e_ => hp0_7_0_1 k_ hk (cM.1 k_ e_.symm)⟩))
 have aG := am (show Kd.R k80 80 w w0.heap.size (fun k_ => ((P0_1_ k_ ∨ P0_3_ k_ ∨ P0_7_ k_ ∨ P0_9_ k_ ∨ P0_12_ k_ ∨ P0_13_ k_ ∨ P0_14_ k_) ∨ w.heap.size ≤ k_) ∧ some k_ ≠ (u9001_ : Value).ownBlock) u9003_ aR from Kd.R_mono cT (fun k_ hk => ⟨(.inl (.inr (.inr (.inr (.inl hk))))), fun e_ => hp0_9_0_3 k_ hk (cN.1 k_ e_.symm)⟩))
 have dA := Aside0.mk bS
 have dB := Aside0.mk bT
 clear bS bT
 have dC := Aside0.mk bU
 have dD := Aside0.mk bV
 clear bU bV
 have aA := am (show Kd.R k49 49 w w0.heap.size (fun k_ => ((P0_1_ k_ ∨ P0_3_ k_ ∨ P0_7_ k_ ∨ P0_9_ k_ ∨ P0_12_ k_ ∨ P0_13_ k_ ∨ P0_14_ k_) ∨ w.heap.size ≤ k_)) u9004_ aL from Kd.R_mono cZ (fun k_ hk => (.inl (.inr (.inr (.inr (.inr (.inl hk))))))))
 have aB := am (show Kd.R k54 54 w w0.heap.size (fun k_ => ((P0_1_ k_ ∨ P0_3_ k_ ∨ P0_7_ k_ ∨ P0_9_ k_ ∨ P0_12_ k_ ∨ P0_13_ k_ ∨ P0_14_ k_) ∨ w.heap.size ≤ k_) ∧ some k_ ≠ (u9006_ : Value).ownBlock) u9005_ aJ from Kd.R_mono bW (fun k_ hk => ⟨(.inl (.inr (.inr (.inr (.inr (.inr (.inl hk))))))), fun e_ => hp0_13_0_14 k_ hk (bX.1 k_ e_.symm)⟩))
 have aC := am (show Kd.R k54 54 w w0.heap.size (fun k_ => ((P0_1_ k_ ∨ P0_3_ k_ ∨ P0_7_ k_ ∨ P0_9_ k_ ∨ P0_12_ k_ ∨ P0_13_ k_ ∨ P0_14_ k_) ∨ w.heap.size ≤ k_) ∧ some k_ ≠ (u9005_ : Value).ownBlock) u9006_ aI from Kd.R_mono bX (fun k_ hk => ⟨(.inl (.inr (.inr (.inr (.inr (.inr (.inr hk))))))), fun e_ => hp0_14_0_13 k_ hk (bW.1 k_ e_.symm)⟩))
 have HK := am (Kept.refl w (fun k_ => P0_1_ k_ ∨ P0_3_ k_ ∨ P0_7_ k_ ∨ P0_9_ k_ ∨ P0_12_ k_ ∨ P0_13_ k_ ∨ P0_14_ k_))
 have HW0 := Aside0.mk hB.size
 have HB := Aside0.mk hB
 clear hB
 have H : ((laws_markGate.f k bO aS bP aT aX aY a1).bind fun bY => ((laws_markGate.f k bH aQ bI aR aN aO bY.1).bind fun aV => ((laws_markAirS.f k aL aV.1).bind fun aU => ((laws_markSentS.f k aJ aU.1).bind fun aM => ((laws_markSentS.f k aI aM.1).bind fun aK => (some (aK.1, bY.2.1, bY.2.2, aV.2.1, aV.2.2, aU.2, aM.2, aK.2))))))) = some (r1, r2, r3, r4, r5, r6, r7, r8) := h
 clear h
 replace H := bm H
 obtain ⟨⟨cF, bQ, bR⟩, gU, H⟩ := H
 replace H : ((laws_markGate.f k bH aQ bI aR aN aO cF).bind fun aV => ((laws_markAirS.f k aL aV.1).bind fun aU => ((laws_markSentS.f k aJ aU.1).bind fun aM => ((laws_markSentS.f k aI aM.1).bind fun aK => (some (aK.1, bQ, bR, aV.2.1, aV.2.2, aU.2, aM.2, aK.2)))))) = some (r1, r2, r3, r4, r5, r6, r7, r8) := H
 have A3 := Aside0.mk gU
 clear gU
 replace H := bm H
 obtain ⟨⟨cG, bZ, cA⟩, gV, H⟩ := H
 replace H : ((laws_markAirS.f k aL cG).bind fun aU => ((laws_markSentS.f k aJ aU.1).bind fun aM => ((laws_markSentS.f k aI aM.1).bind fun aK => (some (aK.1, bQ, bR, bZ, cA, aU.2, aM.2, aK.2))))) = some (r1, r2, r3, r4, r5, r6, r7, r8) := H
 have A4 := Aside0.mk gV
 clear gV
 replace H := bm H
 obtain ⟨⟨cH, cI⟩, gW, H⟩ := H
 replace H : ((laws_markSentS.f k aJ cH).bind fun aM => ((laws_markSentS.f k aI aM.1).bind fun aK => (some (aK.1, bQ, bR, bZ, cA, cI, aM.2, aK.2)))) = some (r1, r2, r3, r4, r5, r6, r7, r8) := H
 have A5 := Aside0.mk gW
 clear gW
 replace H := bm H
 obtain ⟨⟨cJ, dE⟩, gX, H⟩ := H
 replace H : ((laws_markSentS.f k aI cJ).bind fun aK => (some (aK.1, bQ, bR, bZ, cA, cI, dE, aK.2))) = some (r1, r2, r3, r4, r5, r6, r7, r8) := H
 have A6 := Aside0.mk gX
 clear gX
 replace H := bm H
 obtain ⟨⟨dJ, dK⟩, gY, H⟩ := H
 replace H : (some (dJ, bQ, bR, bZ, cA, cI, dE, dK)) = some (r1, r2, r3, r4, r5, r6, r7, r8) := H
 have A7 := Aside0.mk gY
 clear gY
 simp only [Option.some.injEq, Prod.mk.injEq] at H
 obtain ⟨rfl, rfl, rfl, rfl, rfl, rfl, rfl, rfl⟩ := H
 obtain ⟨cU, cV, hC⟩ := Kd.R_slice aD.out
 subst hC
 obtain ⟨cW, cX, hD⟩ := Kd.R_slice aE.out
 subst hD
 obtain ⟨aZ, bA, gP⟩ := Kd.R_slice aF.out
 subst gP
 obtain ⟨bB, bC, gQ⟩ := Kd.R_slice aG.out
 subst gQ
 obtain ⟨cK, cL, gR⟩ := Kd.R_slice aA.out
 subst gR
 obtain ⟨bD, bE, gS⟩ := Kd.R_slice aB.out
 subst gS
 obtain ⟨bF, bG, gT⟩ := Kd.R_slice aC.out
 subst gT
 go_enter Try.func7, Try.ntmps7
 go_wp2_with (first | ((with_reducible refine gate_dst (N := 2) rfl ?_); refine box_event rfl (N := 2) rfl (cs := #[.int .i64 bO, .slice cU aS.length cV, .int .i64 bP, .slice cW aT.length cX, .slice cB aX.length cC, .slice cD aY.length cE, .int .i64 bH, .slice aZ aQ.length bA, .int .i64 bI, .slice bB aR.length bC, .slice bJ aN.length bK, .slice bL aO.length bM, .slice cK aL.length cL, .slice bD aJ.length bE, .slice bF aI.length bG]) (t := 32) BX ?_; intro cY hg hE dL hb; replace aD := am (Kd.R_below (KR aD) hb); replace aE := am (Kd.R_below (KR aE) hb); replace aF := am (Kd.R_below (KR aF) hb); replace aG := am (Kd.R_below (KR aG) hb); replace aA := am (Kd.R_below (KR aA) hb); replace aB := am (Kd.R_below (KR aB) hb); replace aC := am (Kd.R_below (KR aC) hb); have aH := am (dL); have aP := am ((by rw [hg]; exact (by first | exact HK.out.1 | exact (show Kept w _ (fun k_ => P0_1_ k_ ∨ P0_3_ k_ ∨ P0_7_ k_ ∨ P0_9_ k_ ∨ P0_12_ k_ ∨ P0_13_ k_ ∨ P0_14_ k_) from by repeat (first | (with_reducible first | exact HK.out | apply Kept.alloc | apply Kept.drewN | apply Kept.drew) | exact HK.out)).1) : w.heap.size ≤ cY)); replace HK := am (Kept.below (S := (fun k_ => P0_1_ k_ ∨ P0_3_ k_ ∨ P0_7_ k_ ∨ P0_9_ k_ ∨ P0_12_ k_ ∨ P0_13_ k_ ∨ P0_14_ k_)) (by repeat (first | (with_reducible first | exact HK.out | apply Kept.alloc | apply Kept.drewN | apply Kept.drew) | exact HK.out)) hb); have aW := am ((by rw [hg]; exact (below_size (KL HB)) : w0.heap.size ≤ cY)); replace HB := bl (KL HB) hb; clear hb dL hg; have ⟨_, _, _, _, _, _, _, _, _, _, _, _, _, _, _, _⟩ := y15 hE aH.out) | ((with_reducible refine gate_callee (f := 14) rfl ?_); refine goesL_ (some 8) rfl rfl Try.func14 (by kernel_rfl) rfl #[.agg #[.int .i64 bO, .slice cU aS.length cV, .int .i64 bP, .slice cW aT.length cX, .slice cB aX.length cC, .slice cD aY.length cE], .int .i64 a1] rfl MT ?_; (with_reducible refine (laws_markGate.calls k bO (fun k_ => some k_ = (.slice cU aS.length cV : Value).ownBlock) (.slice cU aS.length cV) aS bP (fun k_ => some k_ = (.slice cW aT.length cX : Value).ownBlock) (.slice cW aT.length cX) aT _ _ aX _ _ aY a1 cF bQ bR w0 _ ?_ ?_ ?_ ?_ ?_ ?_ ?_ A3.out).mono ?_); exact K1 HB aW.out; exact Kd.R_tight rfl aD.out; exact Kd.R_tight rfl aE.out; (exact Kd.C_kept_call dF.out (by repeat (first | (with_reducible first | exact HK.out | apply Kept.alloc | apply Kept.drewN | apply Kept.drew | refine Kept.setCell ?_ (.inr aP.out) _) | exact HK.out)) (fun k_ hs_ => Or.elim hs_ (fun e_ => (fun e_ => (aD.out.1 k_ e_.symm).1) e_) (fun e_ => (fun e_ => (aE.out.1 k_ e_.symm).1) e_))); exact dG.out; (exact Kd.C_kept_call dH.out (by repeat (first | (with_reducible first | exact HK.out | apply Kept.alloc | apply Kept.drewN | apply Kept.drew | refine Kept.setCell ?_ (.inr aP.out) _) | exact HK.out)) (fun k_ hs_ => Or.elim hs_ (fun e_ => (fun e_ => (aD.out.1 k_ e_.symm).1) e_) (fun e_ => (fun e_ => (aE.out.1 k_ e_.symm).1) e_))); exact dI.out; rintro e hF ⟨rfl, bN, dR, hb, hkp⟩; refine ⟨_, rfl, ?_⟩; replace aF := am (Kd.R_mono (ok' := fun k_ => ((P0_1_ k_ ∨ P0_3_ k_ ∨ P0_7_ k_ ∨ P0_9_ k_ ∨ P0_12_ k_ ∨ P0_13_ k_ ∨ P0_14_ k_) ∨ w.heap.size ≤ k_) ∧ some k_ ≠ (.slice cU aS.length cV : Value).ownBlock) (Kd.R_keptB ((Kd.R_apart' aF.out (Kd.R_typed aE.out) (by decide))) hkp (fun k_ hk_ hs_ => Or.elim hs_ (fun e_ => (hk_.1.2) e_) (fun e_ => (hk_.2) e_))) (fun k_ hk_ => ⟨hk_.1.1.1, hk_.1.1.2⟩)); replace aG := am (Kd.R_mono (ok' := fun k_ => ((P0_1_ k_ ∨ P0_3_ k_ ∨ P0_7_ k_ ∨ P0_9_ k_ ∨ P0_12_ k_ ∨ P0_13_ k_ ∨ P0_14_ k_) ∨ w.heap.size ≤ k_) ∧ some k_ ≠ (.slice cW aT.length cX : Value).ownBlock) (Kd.R_keptB ((Kd.R_apart' aG.out (Kd.R_typed aD.out) (by decide))) hkp (fun k_ hk_ hs_ => Or.elim hs_ (fun e_ => (hk_.2) e_) (fun e_ => (hk_.1.2) e_))) (fun k_ hk_ => ⟨hk_.1.1.1, hk_.1.1.2⟩)); replace aA := am (Kd.R_mono (ok' := fun k_ => ((P0_1_ k_ ∨ P0_3_ k_ ∨ P0_7_ k_ ∨ P0_9_ k_ ∨ P0_12_ k_ ∨ P0_13_ k_ ∨ P0_14_ k_) ∨ w.heap.size ≤ k_)) (Kd.R_keptB ((Kd.R_apart' (Kd.R_apart' aA.out (Kd.R_typed aD.out) (by decide)) (Kd.R_typed aE.out) (by decide))) hkp (fun k_ hk_ hs_ => Or.elim hs_ (fun e_ => (hk_.1.2) e_) (fun e_ => (hk_.2) e_))) (fun k_ hk_ => hk_.1.1.1)); replace aB := am (Kd.R_mono (ok' := fun k_ => ((P0_1_ k_ ∨ P0_3_ k_ ∨ P0_7_ k_ ∨ P0_9_ k_ ∨ P0_12_ k_ ∨ P0_13_ k_ ∨ P0_14_ k_) ∨ w.heap.size ≤ k_) ∧ some k_ ≠ (.slice bF aI.length bG : Value).ownBlock) (Kd.R_keptB ((Kd.R_apart' (Kd.R_apart' aB.out (Kd.R_typed aD.out) (by decide)) (Kd.R_typed aE.out) (by decide))) hkp (fun k_ hk_ hs_ => Or.elim hs_ (fun e_ => (hk_.1.2) e_) (fun e_ => (hk_.2) e_))) (fun k_ hk_ => ⟨hk_.1.1.1.1, hk_.1.1.1.2⟩)); replace aC := am (Kd.R_mono (ok' := fun k_ => ((P0_1_ k_ ∨ P0_3_ k_ ∨ P0_7_ k_ ∨ P0_9_ k_ ∨ P0_12_ k_ ∨ P0_13_ k_ ∨ P0_14_ k_) ∨ w.heap.size ≤ k_) ∧ some k_ ≠ (.slice bD aJ.length bE : Value).ownBlock) (Kd.R_keptB ((Kd.R_apart' (Kd.R_apart' aC.out (Kd.R_typed aD.out) (by decide)) (Kd.R_typed aE.out) (by decide))) hkp (fun k_ hk_ hs_ => Or.elim hs_ (fun e_ => (hk_.1.2) e_) (fun e_ => (hk_.2) e_))) (fun k_ hk_ => ⟨hk_.1.1.1.1, hk_.1.1.1.2⟩)); replace aH := am (blk_kept (KB aH) hkp (fun hs_ => Or.elim hs_ (fun e_ => (fun e_ => (Kd.R_ne aD.out aH.out (by decide)) e_) e_) (fun e_ => (fun e_ => (Kd.R_ne aE.out aH.out (by decide)) e_) e_))); replace HK := am (Kept.then_ (S := (fun k_ => P0_1_ k_ ∨ P0_3_ k_ ∨ P0_7_ k_ ∨ P0_9_ k_ ∨ P0_12_ k_ ∨ P0_13_ k_ ∨ P0_14_ k_)) (by repeat (first | (with_reducible first | exact HK.out | apply Kept.alloc | apply Kept.drewN | apply Kept.drew | refine Kept.setCell ?_ (.inr aP.out) _) | exact HK.out)) hkp (fun k_ hs_ => Or.elim hs_ (fun e_ => (fun e_ => (aD.out.1 k_ e_.symm).1) e_) (fun e_ => (fun e_ => (aE.out.1 k_ e_.symm).1) e_))); replace aD := am (Kd.R_reok rfl bN (fun k_ e_ => aD.out.1 k_ e_)); replace aE := am (Kd.R_reok rfl dR (fun k_ e_ => aE.out.1 k_ e_)); replace HB := am (hb); (try clear hb); (try clear hkp); (try clear bN); (try clear dR); have ⟨_, _, _, _, _, _, _, _, _, _, _, _, _, _, _, _⟩ := y15 hF aH.out) | ((with_reducible refine gate_callee (f := 14) rfl ?_); refine goesL_ (some 12) rfl rfl Try.func14 (by kernel_rfl) rfl #[.agg #[.int .i64 bH, .slice aZ aQ.length bA, .int .i64 bI, .slice bB aR.length bC, .slice bJ aN.length bK, .slice bL aO.length bM], .int .i64 cF] rfl MT ?_; (with_reducible refine (laws_markGate.calls k bH (fun k_ => some k_ = (.slice aZ aQ.length bA : Value).ownBlock) (.slice aZ aQ.length bA) aQ bI (fun k_ => some k_ = (.slice bB aR.length bC : Value).ownBlock) (.slice bB aR.length bC) aR _ _ aN _ _ aO cF cG bZ cA w0 _ ?_ ?_ ?_ ?_ ?_ ?_ ?_ A4.out).mono ?_); exact K1 HB aW.out; exact Kd.R_tight rfl aF.out; exact Kd.R_tight rfl aG.out; (exact Kd.C_kept_call dA.out (by repeat (first | (with_reducible first | exact HK.out | apply Kept.alloc | apply Kept.drewN | apply Kept.drew | refine Kept.setCell ?_ (.inr aP.out) _) | exact HK.out)) (fun k_ hs_ => Or.elim hs_ (fun e_ => (fun e_ => (aF.out.1 k_ e_.symm).1) e_) (fun e_ => (fun e_ => (aG.out.1 k_ e_.symm).1) e_))); exact dB.out; (exact Kd.C_kept_call dC.out (by repeat (first | (with_reducible first | exact HK.out | apply Kept.alloc | apply Kept.drewN | apply Kept.drew | refine Kept.setCell ?_ (.inr aP.out) _) | exact HK.out)) (fun k_ hs_ => Or.elim hs_ (fun e_ => (fun e_ => (aF.out.1 k_ e_.symm).1) e_) (fun e_ => (fun e_ => (aG.out.1 k_ e_.symm).1) e_))); exact dD.out; rintro e hG ⟨rfl, bN, dR, hb, hkp⟩; refine ⟨_, rfl, ?_⟩; replace aD := am (Kd.R_mono (ok' := fun k_ => ((P0_1_ k_ ∨ P0_3_ k_ ∨ P0_7_ k_ ∨ P0_9_ k_ ∨ P0_12_ k_ ∨ P0_13_ k_ ∨ P0_14_ k_) ∨ w.heap.size ≤ k_) ∧ some k_ ≠ (.slice aZ aQ.length bA : Value).ownBlock) (Kd.R_keptB ((Kd.R_apart' aD.out (Kd.R_typed aG.out) (by decide))) hkp (fun k_ hk_ hs_ => Or.elim hs_ (fun e_ => (hk_.1.2) e_) (fun e_ => (hk_.2) e_))) (fun k_ hk_ => ⟨hk_.1.1.1, hk_.1.1.2⟩)); replace aE := am (Kd.R_mono (ok' := fun k_ => ((P0_1_ k_ ∨ P0_3_ k_ ∨ P0_7_ k_ ∨ P0_9_ k_ ∨ P0_12_ k_ ∨ P0_13_ k_ ∨ P0_14_ k_) ∨ w.heap.size ≤ k_) ∧ some k_ ≠ (.slice bB aR.length bC : Value).ownBlock) (Kd.R_keptB ((Kd.R_apart' aE.out (Kd.R_typed aF.out) (by decide))) hkp (fun k_ hk_ hs_ => Or.elim hs_ (fun e_ => (hk_.2) e_) (fun e_ => (hk_.1.2) e_))) (fun k_ hk_ => ⟨hk_.1.1.1, hk_.1.1.2⟩)); replace aA := am (Kd.R_mono (ok' := fun k_ => ((P0_1_ k_ ∨ P0_3_ k_ ∨ P0_7_ k_ ∨ P0_9_ k_ ∨ P0_12_ k_ ∨ P0_13_ k_ ∨ P0_14_ k_) ∨ w.heap.size ≤ k_)) (Kd.R_keptB ((Kd.R_apart' (Kd.R_apart' aA.out (Kd.R_typed aF.out) (by decide)) (Kd.R_typed aG.out) (by decide))) hkp (fun k_ hk_ hs_ => Or.elim hs_ (fun e_ => (hk_.1.2) e_) (fun e_ => (hk_.2) e_))) (fun k_ hk_ => hk_.1.1.1)); replace aB := am (Kd.R_mono (ok' := fun k_ => ((P0_1_ k_ ∨ P0_3_ k_ ∨ P0_7_ k_ ∨ P0_9_ k_ ∨ P0_12_ k_ ∨ P0_13_ k_ ∨ P0_14_ k_) ∨ w.heap.size ≤ k_) ∧ some k_ ≠ (.slice bF aI.length bG : Value).ownBlock) (Kd.R_keptB ((Kd.R_apart' (Kd.R_apart' aB.out (Kd.R_typed aF.out) (by decide)) (Kd.R_typed aG.out) (by decide))) hkp (fun k_ hk_ hs_ => Or.elim hs_ (fun e_ => (hk_.1.2) e_) (fun e_ => (hk_.2) e_))) (fun k_ hk_ => ⟨hk_.1.1.1.1, hk_.1.1.1.2⟩)); replace aC := am (Kd.R_mono (ok' := fun k_ => ((P0_1_ k_ ∨ P0_3_ k_ ∨ P0_7_ k_ ∨ P0_9_ k_ ∨ P0_12_ k_ ∨ P0_13_ k_ ∨ P0_14_ k_) ∨ w.heap.size ≤ k_) ∧ some k_ ≠ (.slice bD aJ.length bE : Value).ownBlock) (Kd.R_keptB ((Kd.R_apart' (Kd.R_apart' aC.out (Kd.R_typed aF.out) (by decide)) (Kd.R_typed aG.out) (by decide))) hkp (fun k_ hk_ hs_ => Or.elim hs_ (fun e_ => (hk_.1.2) e_) (fun e_ => (hk_.2) e_))) (fun k_ hk_ => ⟨hk_.1.1.1.1, hk_.1.1.1.2⟩)); replace aH := am (blk_kept (KB aH) hkp (fun hs_ => Or.elim hs_ (fun e_ => (fun e_ => (Kd.R_ne aF.out aH.out (by decide)) e_) e_) (fun e_ => (fun e_ => (Kd.R_ne aG.out aH.out (by decide)) e_) e_))); replace HK := am (Kept.then_ (S := (fun k_ => P0_1_ k_ ∨ P0_3_ k_ ∨ P0_7_ k_ ∨ P0_9_ k_ ∨ P0_12_ k_ ∨ P0_13_ k_ ∨ P0_14_ k_)) (by repeat (first | (with_reducible first | exact HK.out | apply Kept.alloc | apply Kept.drewN | apply Kept.drew | refine Kept.setCell ?_ (.inr aP.out) _) | exact HK.out)) hkp (fun k_ hs_ => Or.elim hs_ (fun e_ => (fun e_ => (aF.out.1 k_ e_.symm).1) e_) (fun e_ => (fun e_ => (aG.out.1 k_ e_.symm).1) e_))); replace aF := am (Kd.R_reok rfl bN (fun k_ e_ => aF.out.1 k_ e_)); replace aG := am (Kd.R_reok rfl dR (fun k_ e_ => aG.out.1 k_ e_)); replace HB := am (hb); (try clear hb); (try clear hkp); (try clear bN); (try clear dR); have ⟨_, _, _, _, _, _, _, _, _, _, _, _, _, _, _, _⟩ := y15 hG aH.out) | ((with_reducible refine gate_callee (f := 15) rfl ?_); refine goesL_ (some 16) rfl rfl Try.func15 (by kernel_rfl) rfl #[.slice cK aL.length cL, .int .i64 cG] rfl MT ?_; (with_reducible refine (laws_markAirS.calls k (fun k_ => some k_ = (.slice cK aL.length cL : Value).ownBlock) (.slice cK aL.length cL) aL cG cH cI w0 _ ?_ ?_ A5.out).mono ?_); exact K1 HB aW.out; exact Kd.R_tight rfl aA.out; rintro e hH ⟨rfl, bN, hb, hkp⟩; refine ⟨_, rfl, ?_⟩; replace aD := am (Kd.R_mono (ok' := fun k_ => ((P0_1_ k_ ∨ P0_3_ k_ ∨ P0_7_ k_ ∨ P0_9_ k_ ∨ P0_12_ k_ ∨ P0_13_ k_ ∨ P0_14_ k_) ∨ w.heap.size ≤ k_) ∧ some k_ ≠ (.slice aZ aQ.length bA : Value).ownBlock) (Kd.R_keptB ((Kd.R_apart' aD.out (Kd.R_typed aA.out) (by decide))) hkp (fun k_ hk_ hs_ => (hk_.2) hs_)) (fun k_ hk_ => ⟨hk_.1.1.1, hk_.1.1.2⟩)); replace aE := am (Kd.R_mono (ok' := fun k_ => ((P0_1_ k_ ∨ P0_3_ k_ ∨ P0_7_ k_ ∨ P0_9_ k_ ∨ P0_12_ k_ ∨ P0_13_ k_ ∨ P0_14_ k_) ∨ w.heap.size ≤ k_) ∧ some k_ ≠ (.slice bB aR.length bC : Value).ownBlock) (Kd.R_keptB ((Kd.R_apart' aE.out (Kd.R_typed aA.out) (by decide))) hkp (fun k_ hk_ hs_ => (hk_.2) hs_)) (fun k_ hk_ => ⟨hk_.1.1.1, hk_.1.1.2⟩)); replace aF := am (Kd.R_mono (ok' := fun k_ => ((P0_1_ k_ ∨ P0_3_ k_ ∨ P0_7_ k_ ∨ P0_9_ k_ ∨ P0_12_ k_ ∨ P0_13_ k_ ∨ P0_14_ k_) ∨ w.heap.size ≤ k_) ∧ some k_ ≠ (.slice cU aS.length cV : Value).ownBlock) (Kd.R_keptB ((Kd.R_apart' aF.out (Kd.R_typed aA.out) (by decide))) hkp (fun k_ hk_ hs_ => (hk_.2) hs_)) (fun k_ hk_ => ⟨hk_.1.1.1, hk_.1.1.2⟩)); replace aG := am (Kd.R_mono (ok' := fun k_ => ((P0_1_ k_ ∨ P0_3_ k_ ∨ P0_7_ k_ ∨ P0_9_ k_ ∨ P0_12_ k_ ∨ P0_13_ k_ ∨ P0_14_ k_) ∨ w.heap.size ≤ k_) ∧ some k_ ≠ (.slice cW aT.length cX : Value).ownBlock) (Kd.R_keptB ((Kd.R_apart' aG.out (Kd.R_typed aA.out) (by decide))) hkp (fun k_ hk_ hs_ => (hk_.2) hs_)) (fun k_ hk_ => ⟨hk_.1.1.1, hk_.1.1.2⟩)); replace aB := am (Kd.R_mono (ok' := fun k_ => ((P0_1_ k_ ∨ P0_3_ k_ ∨ P0_7_ k_ ∨ P0_9_ k_ ∨ P0_12_ k_ ∨ P0_13_ k_ ∨ P0_14_ k_) ∨ w.heap.size ≤ k_) ∧ some k_ ≠ (.slice bF aI.length bG : Value).ownBlock) (Kd.R_keptB ((Kd.R_apart' aB.out (Kd.R_typed aA.out) (by decide))) hkp (fun k_ hk_ hs_ => (hk_.2) hs_)) (fun k_ hk_ => ⟨hk_.1.1.1, hk_.1.1.2⟩)); replace aC := am (Kd.R_mono (ok' := fun k_ => ((P0_1_ k_ ∨ P0_3_ k_ ∨ P0_7_ k_ ∨ P0_9_ k_ ∨ P0_12_ k_ ∨ P0_13_ k_ ∨ P0_14_ k_) ∨ w.heap.size ≤ k_) ∧ some k_ ≠ (.slice bD aJ.length bE : Value).ownBlock) (Kd.R_keptB ((Kd.R_apart' aC.out (Kd.R_typed aA.out) (by decide))) hkp (fun k_ hk_ hs_ => (hk_.2) hs_)) (fun k_ hk_ => ⟨hk_.1.1.1, hk_.1.1.2⟩)); replace aH := am (blk_kept (KB aH) hkp (fun hs_ => (fun e_ => (Kd.R_ne aA.out aH.out (by decide)) e_) hs_)); replace HK := am (Kept.then_ (S := (fun k_ => P0_1_ k_ ∨ P0_3_ k_ ∨ P0_7_ k_ ∨ P0_9_ k_ ∨ P0_12_ k_ ∨ P0_13_ k_ ∨ P0_14_ k_)) (by repeat (first | (with_reducible first | exact HK.out | apply Kept.alloc | apply Kept.drewN | apply Kept.drew | refine Kept.setCell ?_ (.inr aP.out) _) | exact HK.out)) hkp (fun k_ hs_ => (fun e_ => (aA.out.1 k_ e_.symm)) hs_)); replace aA := am (Kd.R_reok rfl bN (fun k_ e_ => aA.out.1 k_ e_)); replace HB := am (hb); (try clear hb); (try clear hkp); (try clear bN); have ⟨_, _, _, _, _, _, _, _, _, _, _, _, _, _, _, _⟩ := y15 hH aH.out) | ((with_reducible refine gate_callee (f := 16) rfl ?_); refine goesL_ (some 20) rfl rfl Try.func16 (by kernel_rfl) rfl #[.slice bD aJ.length bE, .int .i64 cH] rfl MT ?_; (with_reducible refine (laws_markSentS.calls k (fun k_ => some k_ = (.slice bD aJ.length bE : Value).ownBlock) (.slice bD aJ.length bE) aJ cH cJ dE w0 _ ?_ ?_ A6.out).mono ?_); exact K1 HB aW.out; exact Kd.R_tight rfl aB.out; rintro e hI ⟨rfl, bN, hb, hkp⟩; refine ⟨_, rfl, ?_⟩; replace aD := am (Kd.R_mono (ok' := fun k_ => ((P0_1_ k_ ∨ P0_3_ k_ ∨ P0_7_ k_ ∨ P0_9_ k_ ∨ P0_12_ k_ ∨ P0_13_ k_ ∨ P0_14_ k_) ∨ w.heap.size ≤ k_) ∧ some k_ ≠ (.slice aZ aQ.length bA : Value).ownBlock) (Kd.R_keptB ((Kd.R_apart' aD.out (Kd.R_typed aB.out) (by decide))) hkp (fun k_ hk_ hs_ => (hk_.2) hs_)) (fun k_ hk_ => ⟨hk_.1.1.1, hk_.1.1.2⟩)); replace aE := am (Kd.R_mono (ok' := fun k_ => ((P0_1_ k_ ∨ P0_3_ k_ ∨ P0_7_ k_ ∨ P0_9_ k_ ∨ P0_12_ k_ ∨ P0_13_ k_ ∨ P0_14_ k_) ∨ w.heap.size ≤ k_) ∧ some k_ ≠ (.slice bB aR.length bC : Value).ownBlock) (Kd.R_keptB ((Kd.R_apart' aE.out (Kd.R_typed aB.out) (by decide))) hkp (fun k_ hk_ hs_ => (hk_.2) hs_)) (fun k_ hk_ => ⟨hk_.1.1.1, hk_.1.1.2⟩)); replace aF := am (Kd.R_mono (ok' := fun k_ => ((P0_1_ k_ ∨ P0_3_ k_ ∨ P0_7_ k_ ∨ P0_9_ k_ ∨ P0_12_ k_ ∨ P0_13_ k_ ∨ P0_14_ k_) ∨ w.heap.size ≤ k_) ∧ some k_ ≠ (.slice cU aS.length cV : Value).ownBlock) (Kd.R_keptB ((Kd.R_apart' aF.out (Kd.R_typed aB.out) (by decide))) hkp (fun k_ hk_ hs_ => (hk_.2) hs_)) (fun k_ hk_ => ⟨hk_.1.1.1, hk_.1.1.2⟩)); replace aG := am (Kd.R_mono (ok' := fun k_ => ((P0_1_ k_ ∨ P0_3_ k_ ∨ P0_7_ k_ ∨ P0_9_ k_ ∨ P0_12_ k_ ∨ P0_13_ k_ ∨ P0_14_ k_) ∨ w.heap.size ≤ k_) ∧ some k_ ≠ (.slice cW aT.length cX : Value).ownBlock) (Kd.R_keptB ((Kd.R_apart' aG.out (Kd.R_typed aB.out) (by decide))) hkp (fun k_ hk_ hs_ => (hk_.2) hs_)) (fun k_ hk_ => ⟨hk_.1.1.1, hk_.1.1.2⟩)); replace aA := am (Kd.R_mono (ok' := fun k_ => ((P0_1_ k_ ∨ P0_3_ k_ ∨ P0_7_ k_ ∨ P0_9_ k_ ∨ P0_12_ k_ ∨ P0_13_ k_ ∨ P0_14_ k_) ∨ w.heap.size ≤ k_)) (Kd.R_keptB ((Kd.R_apart' aA.out (Kd.R_typed aB.out) (by decide))) hkp (fun k_ hk_ hs_ => (hk_.2) hs_)) (fun k_ hk_ => hk_.1.1)); replace aC := am (Kd.R_mono (ok' := fun k_ => ((P0_1_ k_ ∨ P0_3_ k_ ∨ P0_7_ k_ ∨ P0_9_ k_ ∨ P0_12_ k_ ∨ P0_13_ k_ ∨ P0_14_ k_) ∨ w.heap.size ≤ k_) ∧ some k_ ≠ (.slice bD aJ.length bE : Value).ownBlock) (Kd.R_keptB (aC.out) hkp (fun k_ hk_ hs_ => (hk_.2) hs_)) (fun k_ hk_ => ⟨hk_.1.1, hk_.1.2⟩)); replace aH := am (blk_kept (KB aH) hkp (fun hs_ => (fun e_ => (Kd.R_ne aB.out aH.out (by decide)) e_) hs_)); replace HK := am (Kept.then_ (S := (fun k_ => P0_1_ k_ ∨ P0_3_ k_ ∨ P0_7_ k_ ∨ P0_9_ k_ ∨ P0_12_ k_ ∨ P0_13_ k_ ∨ P0_14_ k_)) (by repeat (first | (with_reducible first | exact HK.out | apply Kept.alloc | apply Kept.drewN | apply Kept.drew | refine Kept.setCell ?_ (.inr aP.out) _) | exact HK.out)) hkp (fun k_ hs_ => (fun e_ => (aB.out.1 k_ e_.symm).1) hs_)); replace aB := am (Kd.R_reok rfl bN (fun k_ e_ => aB.out.1 k_ e_)); replace HB := am (hb); (try clear hb); (try clear hkp); (try clear bN); have ⟨_, _, _, _, _, _, _, _, _, _, _, _, _, _, _, _⟩ := y15 hI aH.out) | ((with_reducible refine gate_callee (f := 16) rfl ?_); refine goesL_ (some 24) rfl rfl Try.func16 (by kernel_rfl) rfl #[.slice bF aI.length bG, .int .i64 cJ] rfl MT ?_; (with_reducible refine (laws_markSentS.calls k (fun k_ => some k_ = (.slice bF aI.length bG : Value).ownBlock) (.slice bF aI.length bG) aI cJ dJ dK w0 _ ?_ ?_ A7.out).mono ?_); exact K1 HB aW.out; exact Kd.R_tight rfl aC.out; rintro e hJ ⟨rfl, bN, hb, hkp⟩; refine ⟨_, rfl, ?_⟩; replace aD := am (Kd.R_mono (ok' := fun k_ => ((P0_1_ k_ ∨ P0_3_ k_ ∨ P0_7_ k_ ∨ P0_9_ k_ ∨ P0_12_ k_ ∨ P0_13_ k_ ∨ P0_14_ k_) ∨ w.heap.size ≤ k_) ∧ some k_ ≠ (.slice aZ aQ.length bA : Value).ownBlock) (Kd.R_keptB ((Kd.R_apart' aD.out (Kd.R_typed aC.out) (by decide))) hkp (fun k_ hk_ hs_ => (hk_.2) hs_)) (fun k_ hk_ => ⟨hk_.1.1.1, hk_.1.1.2⟩)); replace aE := am (Kd.R_mono (ok' := fun k_ => ((P0_1_ k_ ∨ P0_3_ k_ ∨ P0_7_ k_ ∨ P0_9_ k_ ∨ P0_12_ k_ ∨ P0_13_ k_ ∨ P0_14_ k_) ∨ w.heap.size ≤ k_) ∧ some k_ ≠ (.slice bB aR.length bC : Value).ownBlock) (Kd.R_keptB ((Kd.R_apart' aE.out (Kd.R_typed aC.out) (by decide))) hkp (fun k_ hk_ hs_ => (hk_.2) hs_)) (fun k_ hk_ => ⟨hk_.1.1.1, hk_.1.1.2⟩)); replace aF := am (Kd.R_mono (ok' := fun k_ => ((P0_1_ k_ ∨ P0_3_ k_ ∨ P0_7_ k_ ∨ P0_9_ k_ ∨ P0_12_ k_ ∨ P0_13_ k_ ∨ P0_14_ k_) ∨ w.heap.size ≤ k_) ∧ some k_ ≠ (.slice cU aS.length cV : Value).ownBlock) (Kd.R_keptB ((Kd.R_apart' aF.out (Kd.R_typed aC.out) (by decide))) hkp (fun k_ hk_ hs_ => (hk_.2) hs_)) (fun k_ hk_ => ⟨hk_.1.1.1, hk_.1.1.2⟩)); replace aG := am (Kd.R_mono (ok' := fun k_ => ((P0_1_ k_ ∨ P0_3_ k_ ∨ P0_7_ k_ ∨ P0_9_ k_ ∨ P0_12_ k_ ∨ P0_13_ k_ ∨ P0_14_ k_) ∨ w.heap.size ≤ k_) ∧ some k_ ≠ (.slice cW aT.length cX : Value).ownBlock) (Kd.R_keptB ((Kd.R_apart' aG.out (Kd.R_typed aC.out) (by decide))) hkp (fun k_ hk_ hs_ => (hk_.2) hs_)) (fun k_ hk_ => ⟨hk_.1.1.1, hk_.1.1.2⟩)); replace aA := am (Kd.R_mono (ok' := fun k_ => ((P0_1_ k_ ∨ P0_3_ k_ ∨ P0_7_ k_ ∨ P0_9_ k_ ∨ P0_12_ k_ ∨ P0_13_ k_ ∨ P0_14_ k_) ∨ w.heap.size ≤ k_)) (Kd.R_keptB ((Kd.R_apart' aA.out (Kd.R_typed aC.out) (by decide))) hkp (fun k_ hk_ hs_ => (hk_.2) hs_)) (fun k_ hk_ => hk_.1.1)); replace aB := am (Kd.R_mono (ok' := fun k_ => ((P0_1_ k_ ∨ P0_3_ k_ ∨ P0_7_ k_ ∨ P0_9_ k_ ∨ P0_12_ k_ ∨ P0_13_ k_ ∨ P0_14_ k_) ∨ w.heap.size ≤ k_) ∧ some k_ ≠ (.slice bF aI.length bG : Value).ownBlock) (Kd.R_keptB (aB.out) hkp (fun k_ hk_ hs_ => (hk_.2) hs_)) (fun k_ hk_ => ⟨hk_.1.1, hk_.1.2⟩)); replace aH := am (blk_kept (KB aH) hkp (fun hs_ => (fun e_ => (Kd.R_ne aC.out aH.out (by decide)) e_) hs_)); replace HK := am (Kept.then_ (S := (fun k_ => P0_1_ k_ ∨ P0_3_ k_ ∨ P0_7_ k_ ∨ P0_9_ k_ ∨ P0_12_ k_ ∨ P0_13_ k_ ∨ P0_14_ k_)) (by repeat (first | (with_reducible first | exact HK.out | apply Kept.alloc | apply Kept.drewN | apply Kept.drew | refine Kept.setCell ?_ (.inr aP.out) _) | exact HK.out)) hkp (fun k_ hs_ => (fun e_ => (aC.out.1 k_ e_.symm).1) hs_)); replace aC := am (Kd.R_reok rfl bN (fun k_ e_ => aC.out.1 k_ e_)); replace HB := am (hb); (try clear hb); (try clear hkp); (try clear bN)))
 go_ret
 exact ⟨ER, by refine KW ?_; exact Kd.R_mono aD.out (fun _ hk => hk.1), by refine KW ?_; exact Kd.R_mono aE.out (fun _ hk => hk.1), by refine KW ?_; exact Kd.R_mono aF.out (fun _ hk => hk.1), by refine KW ?_; exact Kd.R_mono aG.out (fun _ hk => hk.1), by refine KW ?_; exact aA.out, by refine KW ?_; exact Kd.R_mono aB.out (fun _ hk => hk.1), by refine KW ?_; exact Kd.R_mono aC.out (fun _ hk => hk.1), K1 HB aW.out, by repeat (first | (with_reducible first | exact HK.out | apply Kept.alloc | apply Kept.drewN | apply Kept.drew | refine Kept.setCell ?_ (.inr aP.out) _) | exact HK.out)⟩
def laws_heldRuleS.l0 : Nat → List (S63) → Int → Int → Option (Int)
 | 0, _, _, _ => none
 | k + 1, x0, x1, x5 => if x5 < (x0.length : Int) then (if 0 ≤ x5 then (if ((rd_T63 x0 x5).f0) = x1 then (if ((rd_T63 x0 x5).f1) = (wrap64 (x1 + 1)) then (if ((rd_T63 x0 x5).f2.f0) = (wrap64 ((wrap64 (x1 + 1)) + 1)) then (if ((rd_T63 x0 x5).f2.f1) = (wrap64 ((wrap64 ((wrap64 (x1 + 1)) + 1)) + 1)) then (if ((rd_T63 x0 x5).f3.f0) = (wrap64 ((wrap64 ((wrap64 ((wrap64 (x1 + 1)) + 1)) + 1)) + 1)) then (if ((rd_T63 x0 x5).f3.f1) = (wrap64 ((wrap64 ((wrap64 ((wrap64 ((wrap64 (x1 + 1)) + 1)) + 1)) + 1)) + 1)) then (if ((rd_T63 x0 x5).f4) = (wrap64 ((wrap64 ((wrap64 ((wrap64 ((wrap64 ((wrap64 (x1 + 1)) + 1)) + 1)) + 1)) + 1)) + 1)) then (if ((rd_T63 x0 x5).f5) = (wrap64 ((wrap64 ((wrap64 ((wrap64 ((wrap64 ((wrap64 ((wrap64 (x1 + 1)) + 1)) + 1)) + 1)) + 1)) + 1)) + 1)) then (laws_heldRuleS.l0 k x0 (wrap64 ((wrap64 ((wrap64 ((wrap64 ((wrap64 ((wrap64 ((wrap64 ((wrap64 (x1 + 1)) + 1)) + 1)) + 1)) + 1)) + 1)) + 1)) + 1)) (wrap64 (x5 + 1))) else (some (-1))) else (some (-1))) else (some (-1))) else (some (-1))) else (some (-1))) else (some (-1))) else (some (-1))) else (some (-1))) else (none)) else (some x1)
def laws_heldRuleS.f (k : Nat) (l0 : List (S63)) (a1 : Int) : Option (Int) := laws_heldRuleS.l0 k l0 a1 0
theorem laws_heldRuleS.calls (k : Nat) (A0 : Option Addr) (c0 : Nat) (l0 : List (S63)) (a1 : Int) (r : Int) (w : World) (dY : Kd.C k63 w A0 l0.length l0) (dZ : l0.length ≤ c0) (h : laws_heldRuleS.f k l0 a1 = some r) :
  Calls Try.prog 29 #[.slice A0 l0.length c0, .int .i64 a1] w fun e w' => e = .returned (.int .i64 r) ∧ Drawn0 w w' := by
 have aM := Aside0.mk dY
 have eA := Aside0.mk dZ
 clear dY dZ
 have H : (laws_heldRuleS.l0 k l0 a1 0) = some r := h
 clear h
 have H' := Aside0.mk H
 clear H
 go_enter Try.func29, Try.ntmps29
 go_wp2
 go_loopg [1, 5] k (fun kq v1 v5 w' => ∃ (aC : Int) (aA : Int), v1 = .int .i64 aC ∧ v5 = .int .i64 aA ∧ Aside0 (laws_heldRuleS.l0 kq l0 aC aA = some r) ∧ Aside0 (kq ≤ k) ∧ Drawn0 w w')
 case atStart => exact ⟨(a1), (0), (by first | rfl | (simp; done) | (simp [*]; done)), (by first | rfl | (simp; done) | (simp [*]; done)), H', ⟨Nat.le_refl _⟩, by repeat (first | exact Drawn0.refl _ | apply Drawn0.step)⟩
 case round =>
  clear H'
  try clear c2
  try clear p2
  obtain ⟨aC, aA, rfl, rfl, HA, HK1, ⟨m1, rfl⟩⟩ := hrel
  cases gk with
  | zero => exact absurd HA.out (by simp [laws_heldRuleS.l0])
  | succ k1 =>
   have H := HA.out
   clear HA
   simp only [laws_heldRuleS.l0] at H
   by_cases c3 : aA < (l0.length : Int)
   ·rw [if_pos c3] at H
    have c3b0 : decide (aA < (l0.length : Int)) = true := decide_eq_true c3
    clear c3
    by_cases c4 : 0 ≤ aA
    ·rw [if_pos c4] at H
     have c4b0 : decide (0 ≤ aA) = true := decide_eq_true c4
     clear c4
     by_cases c5 : ((rd_T63 l0 aA).f0) = aC
     ·rw [if_pos c5] at H
      have c5b0 : (((rd_T63 l0 aA).f0) == aC) = true := beq_iff_eq.mpr c5
      have c5b1 : (((rd_T63 l0 aA).f0) != aC) = false := bne_eq_false_iff_eq.mpr c5
      clear c5
      by_cases c6 : ((rd_T63 l0 aA).f1) = (wrap64 (aC + 1))
      ·rw [if_pos c6] at H
       have c6b0 : (((rd_T63 l0 aA).f1) == (wrap64 (aC + 1))) = true := beq_iff_eq.mpr c6
       have c6b1 : (((rd_T63 l0 aA).f1) != (wrap64 (aC + 1))) = false := bne_eq_false_iff_eq.mpr c6
       clear c6
       by_cases c7 : ((rd_T63 l0 aA).f2.f0) = (wrap64 ((wrap64 (aC + 1)) + 1))
       ·rw [if_pos c7] at H
        have c7b0 : (((rd_T63 l0 aA).f2.f0) == (wrap64 ((wrap64 (aC + 1)) + 1))) = true := beq_iff_eq.mpr c7
        have c7b1 : (((rd_T63 l0 aA).f2.f0) != (wrap64 ((wrap64 (aC + 1)) + 1))) = false := bne_eq_false_iff_eq.mpr c7
        clear c7
        by_cases c8 : ((rd_T63 l0 aA).f2.f1) = (wrap64 ((wrap64 ((wrap64 (aC + 1)) + 1)) + 1))
        ·rw [if_pos c8] at H
         have c8b0 : (((rd_T63 l0 aA).f2.f1) == (wrap64 ((wrap64 ((wrap64 (aC + 1)) + 1)) + 1))) = true := beq_iff_eq.mpr c8
         have c8b1 : (((rd_T63 l0 aA).f2.f1) != (wrap64 ((wrap64 ((wrap64 (aC + 1)) + 1)) + 1))) = false := bne_eq_false_iff_eq.mpr c8
         clear c8
         by_cases c9 : ((rd_T63 l0 aA).f3.f0) = (wrap64 ((wrap64 ((wrap64 ((wrap64 (aC + 1)) + 1)) + 1)) + 1))
         ·rw [if_pos c9] at H
          have c9b0 : (((rd_T63 l0 aA).f3.f0) == (wrap64 ((wrap64 ((wrap64 ((wrap64 (aC + 1)) + 1)) + 1)) + 1))) = true := beq_iff_eq.mpr c9
          have c9b1 : (((rd_T63 l0 aA).f3.f0) != (wrap64 ((wrap64 ((wrap64 ((wrap64 (aC + 1)) + 1)) + 1)) + 1))) = false := bne_eq_false_iff_eq.mpr c9
          clear c9
          by_cases dU : ((rd_T63 l0 aA).f3.f1) = (wrap64 ((wrap64 ((wrap64 ((wrap64 ((wrap64 (aC + 1)) + 1)) + 1)) + 1)) + 1))
          ·rw [if_pos dU] at H
           have c10b0 : (((rd_T63 l0 aA).f3.f1) == (wrap64 ((wrap64 ((wrap64 ((wrap64 ((wrap64 (aC + 1)) + 1)) + 1)) + 1)) + 1))) = true := beq_iff_eq.mpr dU
           have c10b1 : (((rd_T63 l0 aA).f3.f1) != (wrap64 ((wrap64 ((wrap64 ((wrap64 ((wrap64 (aC + 1)) + 1)) + 1)) + 1)) + 1))) = false := bne_eq_false_iff_eq.mpr dU
           clear dU
           by_cases dV : ((rd_T63 l0 aA).f4) = (wrap64 ((wrap64 ((wrap64 ((wrap64 ((wrap64 ((wrap64 (aC + 1)) + 1)) + 1)) + 1)) + 1)) + 1))
           ·rw [if_pos dV] at H
            have c11b0 : (((rd_T63 l0 aA).f4) == (wrap64 ((wrap64 ((wrap64 ((wrap64 ((wrap64 ((wrap64 (aC + 1)) + 1)) + 1)) + 1)) + 1)) + 1))) = true := beq_iff_eq.mpr dV
            have c11b1 : (((rd_T63 l0 aA).f4) != (wrap64 ((wrap64 ((wrap64 ((wrap64 ((wrap64 ((wrap64 (aC + 1)) + 1)) + 1)) + 1)) + 1)) + 1))) = false := bne_eq_false_iff_eq.mpr dV
            clear dV
            by_cases dW : ((rd_T63 l0 aA).f5) = (wrap64 ((wrap64 ((wrap64 ((wrap64 ((wrap64 ((wrap64 ((wrap64 (aC + 1)) + 1)) + 1)) + 1)) + 1)) + 1)) + 1))
            ·rw [if_pos dW] at H
             have c12b0 : (((rd_T63 l0 aA).f5) == (wrap64 ((wrap64 ((wrap64 ((wrap64 ((wrap64 ((wrap64 ((wrap64 (aC + 1)) + 1)) + 1)) + 1)) + 1)) + 1)) + 1))) = true := beq_iff_eq.mpr dW
             have c12b1 : (((rd_T63 l0 aA).f5) != (wrap64 ((wrap64 ((wrap64 ((wrap64 ((wrap64 ((wrap64 ((wrap64 (aC + 1)) + 1)) + 1)) + 1)) + 1)) + 1)) + 1))) = false := bne_eq_false_iff_eq.mpr dW
             clear dW
             have H' := Aside0.mk H
             clear H
             have aD : 0 ≤ (aA : Int) := OD
             have aE : aA < (l0.length : Int) := OD
             obtain ⟨aB, bG, aN, aO, aP, aQ, aR, aS, aT, aU⟩ := at_T63 aM.out aA aD aE
             cases bG
             replace aD := eq_true aD
             replace aE := eq_true aE
             have aF : 0 ≤ (aA : Int) := OD
             have aG : aA < (l0.length : Int) := OD
             obtain ⟨aJ, bQ, aW, aX, aY, aZ, bA, bB, bC, bD⟩ := at_T63 aM.out aA aF aG
             obtain rfl : aB = aJ := (by injection bQ)
             replace aF := eq_true aF
             replace aG := eq_true aG
             have aH : 0 ≤ (aA : Int) := OD
             have aI : aA < (l0.length : Int) := OD
             obtain ⟨aV, cC, bI, bJ, bK, bL, bM, bN, bO, bP⟩ := at_T63 aM.out aA aH aI
             obtain rfl : aB = aV := (by injection cC)
             replace aH := eq_true aH
             replace aI := eq_true aI
             have aK : 0 ≤ (aA : Int) := OD
             have aL : aA < (l0.length : Int) := OD
             obtain ⟨bH, cL, bT, bU, bV, bW, bX, bY, bZ, cA⟩ := at_T63 aM.out aA aK aL
             obtain rfl : aB = bH := (by injection cL)
             replace aK := eq_true aK
             replace aL := eq_true aL
             have bE : 0 ≤ (aA : Int) := OD
             have bF : aA < (l0.length : Int) := OD
             obtain ⟨cB, cP, cD, cE, cF, cG, cH, cI, cJ, cK⟩ := at_T63 aM.out aA bE bF
             obtain rfl : aB = cB := (by injection cP)
             replace bE := eq_true bE
             replace bF := eq_true bF
             have bR : 0 ≤ (aA : Int) := OD
             have bS : aA < (l0.length : Int) := OD
             obtain ⟨cM, cZ, cQ, cR, cS, cT, cU, cV, cW, cX⟩ := at_T63 aM.out aA bR bS
             obtain rfl : aB = cM := (by injection cZ)
             replace bR := eq_true bR
             replace bS := eq_true bS
             have cN : 0 ≤ (aA : Int) := OD
             have cO : aA < (l0.length : Int) := OD
             obtain ⟨cY, dK, dC, dD, dE, dF, dG, dH, dI, dJ⟩ := at_T63 aM.out aA cN cO
             obtain rfl : aB = cY := (by injection dK)
             replace cN := eq_true cN
             replace cO := eq_true cO
             have dA : 0 ≤ (aA : Int) := OD
             have dB : aA < (l0.length : Int) := OD
             obtain ⟨dL, dX, dM, dN, dO, dP, dQ, dR, dS, dT⟩ := at_T63 aM.out aA dA dB
             obtain rfl : aB = dL := (by injection dX)
             replace dA := eq_true dA
             replace dB := eq_true dB
             go_wp2
             go_roundg k1
             case measure => have := HK1.out; omega
             case rel => exact ⟨(wrap64 ((wrap64 ((wrap64 ((wrap64 ((wrap64 ((wrap64 ((wrap64 ((wrap64 (aC + 1)) + 1)) + 1)) + 1)) + 1)) + 1)) + 1)) + 1)), (wrap64 (aA + 1)), (by first | rfl | (simp; done) | (simp [*]; done)), (by first | rfl | (simp; done) | (simp [*]; done)), H', ⟨by have := HK1.out; omega⟩, by repeat (first | exact Drawn0.refl _ | apply Drawn0.step)⟩
            ·rw [if_neg dW] at H
             have c12b0 : (((rd_T63 l0 aA).f5) == (wrap64 ((wrap64 ((wrap64 ((wrap64 ((wrap64 ((wrap64 ((wrap64 (aC + 1)) + 1)) + 1)) + 1)) + 1)) + 1)) + 1))) = false := beq_eq_false_iff_ne.mpr dW
             have c12b1 : (((rd_T63 l0 aA).f5) != (wrap64 ((wrap64 ((wrap64 ((wrap64 ((wrap64 ((wrap64 ((wrap64 (aC + 1)) + 1)) + 1)) + 1)) + 1)) + 1)) + 1))) = true := bne_iff_ne.mpr dW
             obtain rfl := sj H
             have aD : 0 ≤ (aA : Int) := OD
             have aE : aA < (l0.length : Int) := OD
             obtain ⟨aB, bG, aN, aO, aP, aQ, aR, aS, aT, aU⟩ := at_T63 aM.out aA aD aE
             cases bG
             replace aD := eq_true aD
             replace aE := eq_true aE
             have aF : 0 ≤ (aA : Int) := OD
             have aG : aA < (l0.length : Int) := OD
             obtain ⟨aJ, bQ, aW, aX, aY, aZ, bA, bB, bC, bD⟩ := at_T63 aM.out aA aF aG
             obtain rfl : aB = aJ := (by injection bQ)
             replace aF := eq_true aF
             replace aG := eq_true aG
             have aH : 0 ≤ (aA : Int) := OD
             have aI : aA < (l0.length : Int) := OD
             obtain ⟨aV, cC, bI, bJ, bK, bL, bM, bN, bO, bP⟩ := at_T63 aM.out aA aH aI
             obtain rfl : aB = aV := (by injection cC)
             replace aH := eq_true aH
             replace aI := eq_true aI
             have aK : 0 ≤ (aA : Int) := OD
             have aL : aA < (l0.length : Int) := OD
             obtain ⟨bH, cL, bT, bU, bV, bW, bX, bY, bZ, cA⟩ := at_T63 aM.out aA aK aL
             obtain rfl : aB = bH := (by injection cL)
             replace aK := eq_true aK
             replace aL := eq_true aL
             have bE : 0 ≤ (aA : Int) := OD
             have bF : aA < (l0.length : Int) := OD
             obtain ⟨cB, cP, cD, cE, cF, cG, cH, cI, cJ, cK⟩ := at_T63 aM.out aA bE bF
             obtain rfl : aB = cB := (by injection cP)
             replace bE := eq_true bE
             replace bF := eq_true bF
             have bR : 0 ≤ (aA : Int) := OD
             have bS : aA < (l0.length : Int) := OD
             obtain ⟨cM, cZ, cQ, cR, cS, cT, cU, cV, cW, cX⟩ := at_T63 aM.out aA bR bS
             obtain rfl : aB = cM := (by injection cZ)
             replace bR := eq_true bR
             replace bS := eq_true bS
             have cN : 0 ≤ (aA : Int) := OD
             have cO : aA < (l0.length : Int) := OD
             obtain ⟨cY, dK, dC, dD, dE, dF, dG, dH, dI, dJ⟩ := at_T63 aM.out aA cN cO
             obtain rfl : aB = cY := (by injection dK)
             replace cN := eq_true cN
             replace cO := eq_true cO
             have dA : 0 ≤ (aA : Int) := OD
             have dB : aA < (l0.length : Int) := OD
             obtain ⟨dL, dX, dM, dN, dO, dP, dQ, dR, dS, dT⟩ := at_T63 aM.out aA dA dB
             obtain rfl : aB = dL := (by injection dX)
             replace dA := eq_true dA
             replace dB := eq_true dB
             go_wp2
             go_ret
             exact ⟨by first | rfl | (simp; done) | (simp [*]; done), by repeat (first | exact Drawn0.refl _ | apply Drawn0.step)⟩
           ·rw [if_neg dV] at H
            have c11b0 : (((rd_T63 l0 aA).f4) == (wrap64 ((wrap64 ((wrap64 ((wrap64 ((wrap64 ((wrap64 (aC + 1)) + 1)) + 1)) + 1)) + 1)) + 1))) = false := beq_eq_false_iff_ne.mpr dV
            have c11b1 : (((rd_T63 l0 aA).f4) != (wrap64 ((wrap64 ((wrap64 ((wrap64 ((wrap64 ((wrap64 (aC + 1)) + 1)) + 1)) + 1)) + 1)) + 1))) = true := bne_iff_ne.mpr dV
            obtain rfl := sj H
            have aD : 0 ≤ (aA : Int) := OD
            have aE : aA < (l0.length : Int) := OD
            obtain ⟨aB, bG, aN, aO, aP, aQ, aR, aS, aT, aU⟩ := at_T63 aM.out aA aD aE
            cases bG
            replace aD := eq_true aD
            replace aE := eq_true aE
            have aF : 0 ≤ (aA : Int) := OD
            have aG : aA < (l0.length : Int) := OD
            obtain ⟨aJ, bQ, aW, aX, aY, aZ, bA, bB, bC, bD⟩ := at_T63 aM.out aA aF aG
            obtain rfl : aB = aJ := (by injection bQ)
            replace aF := eq_true aF
            replace aG := eq_true aG
            have aH : 0 ≤ (aA : Int) := OD
            have aI : aA < (l0.length : Int) := OD
            obtain ⟨aV, cC, bI, bJ, bK, bL, bM, bN, bO, bP⟩ := at_T63 aM.out aA aH aI
            obtain rfl : aB = aV := (by injection cC)
            replace aH := eq_true aH
            replace aI := eq_true aI
            have aK : 0 ≤ (aA : Int) := OD
            have aL : aA < (l0.length : Int) := OD
            obtain ⟨bH, cL, bT, bU, bV, bW, bX, bY, bZ, cA⟩ := at_T63 aM.out aA aK aL
            obtain rfl : aB = bH := (by injection cL)
            replace aK := eq_true aK
            replace aL := eq_true aL
            have bE : 0 ≤ (aA : Int) := OD
            have bF : aA < (l0.length : Int) := OD
            obtain ⟨cB, cP, cD, cE, cF, cG, cH, cI, cJ, cK⟩ := at_T63 aM.out aA bE bF
            obtain rfl : aB = cB := (by injection cP)
            replace bE := eq_true bE
            replace bF := eq_true bF
            have bR : 0 ≤ (aA : Int) := OD
            have bS : aA < (l0.length : Int) := OD
            obtain ⟨cM, cZ, cQ, cR, cS, cT, cU, cV, cW, cX⟩ := at_T63 aM.out aA bR bS
            obtain rfl : aB = cM := (by injection cZ)
            replace bR := eq_true bR
            replace bS := eq_true bS
            have cN : 0 ≤ (aA : Int) := OD
            have cO : aA < (l0.length : Int) := OD
            obtain ⟨cY, dK, dC, dD, dE, dF, dG, dH, dI, dJ⟩ := at_T63 aM.out aA cN cO
            obtain rfl : aB = cY := (by injection dK)
            replace cN := eq_true cN
            replace cO := eq_true cO
            go_wp2
            go_ret
            exact ⟨by first | rfl | (simp; done) | (simp [*]; done), by repeat (first | exact Drawn0.refl _ | apply Drawn0.step)⟩
          ·rw [if_neg dU] at H
           have c10b0 : (((rd_T63 l0 aA).f3.f1) == (wrap64 ((wrap64 ((wrap64 ((wrap64 ((wrap64 (aC + 1)) + 1)) + 1)) + 1)) + 1))) = false := beq_eq_false_iff_ne.mpr dU
           have c10b1 : (((rd_T63 l0 aA).f3.f1) != (wrap64 ((wrap64 ((wrap64 ((wrap64 ((wrap64 (aC + 1)) + 1)) + 1)) + 1)) + 1))) = true := bne_iff_ne.mpr dU
           obtain rfl := sj H
           have aD : 0 ≤ (aA : Int) := OD
           have aE : aA < (l0.length : Int) := OD
           obtain ⟨aB, bG, aN, aO, aP, aQ, aR, aS, aT, aU⟩ := at_T63 aM.out aA aD aE
           cases bG
           replace aD := eq_true aD
           replace aE := eq_true aE
           have aF : 0 ≤ (aA : Int) := OD
           have aG : aA < (l0.length : Int) := OD
           obtain ⟨aJ, bQ, aW, aX, aY, aZ, bA, bB, bC, bD⟩ := at_T63 aM.out aA aF aG
           obtain rfl : aB = aJ := (by injection bQ)
           replace aF := eq_true aF
           replace aG := eq_true aG
           have aH : 0 ≤ (aA : Int) := OD
           have aI : aA < (l0.length : Int) := OD
           obtain ⟨aV, cC, bI, bJ, bK, bL, bM, bN, bO, bP⟩ := at_T63 aM.out aA aH aI
           obtain rfl : aB = aV := (by injection cC)
           replace aH := eq_true aH
           replace aI := eq_true aI
           have aK : 0 ≤ (aA : Int) := OD
           have aL : aA < (l0.length : Int) := OD
           obtain ⟨bH, cL, bT, bU, bV, bW, bX, bY, bZ, cA⟩ := at_T63 aM.out aA aK aL
           obtain rfl : aB = bH := (by injection cL)
           replace aK := eq_true aK
           replace aL := eq_true aL
           have bE : 0 ≤ (aA : Int) := OD
           have bF : aA < (l0.length : Int) := OD
           obtain ⟨cB, cP, cD, cE, cF, cG, cH, cI, cJ, cK⟩ := at_T63 aM.out aA bE bF
           obtain rfl : aB = cB := (by injection cP)
           replace bE := eq_true bE
           replace bF := eq_true bF
           have bR : 0 ≤ (aA : Int) := OD
           have bS : aA < (l0.length : Int) := OD
           obtain ⟨cM, cZ, cQ, cR, cS, cT, cU, cV, cW, cX⟩ := at_T63 aM.out aA bR bS
           obtain rfl : aB = cM := (by injection cZ)
           replace bR := eq_true bR
           replace bS := eq_true bS
           go_wp2
           go_ret
           exact ⟨by first | rfl | (simp; done) | (simp [*]; done), by repeat (first | exact Drawn0.refl _ | apply Drawn0.step)⟩
         ·rw [if_neg c9] at H
          have c9b0 : (((rd_T63 l0 aA).f3.f0) == (wrap64 ((wrap64 ((wrap64 ((wrap64 (aC + 1)) + 1)) + 1)) + 1))) = false := beq_eq_false_iff_ne.mpr c9
          have c9b1 : (((rd_T63 l0 aA).f3.f0) != (wrap64 ((wrap64 ((wrap64 ((wrap64 (aC + 1)) + 1)) + 1)) + 1))) = true := bne_iff_ne.mpr c9
          obtain rfl := sj H
          have aD : 0 ≤ (aA : Int) := OD
          have aE : aA < (l0.length : Int) := OD
          obtain ⟨aB, bG, aN, aO, aP, aQ, aR, aS, aT, aU⟩ := at_T63 aM.out aA aD aE
          cases bG
          replace aD := eq_true aD
          replace aE := eq_true aE
          have aF : 0 ≤ (aA : Int) := OD
          have aG : aA < (l0.length : Int) := OD
          obtain ⟨aJ, bQ, aW, aX, aY, aZ, bA, bB, bC, bD⟩ := at_T63 aM.out aA aF aG
          obtain rfl : aB = aJ := (by injection bQ)
          replace aF := eq_true aF
          replace aG := eq_true aG
          have aH : 0 ≤ (aA : Int) := OD
          have aI : aA < (l0.length : Int) := OD
          obtain ⟨aV, cC, bI, bJ, bK, bL, bM, bN, bO, bP⟩ := at_T63 aM.out aA aH aI
          obtain rfl : aB = aV := (by injection cC)
          replace aH := eq_true aH
          replace aI := eq_true aI
          have aK : 0 ≤ (aA : Int) := OD
          have aL : aA < (l0.length : Int) := OD
          obtain ⟨bH, cL, bT, bU, bV, bW, bX, bY, bZ, cA⟩ := at_T63 aM.out aA aK aL
          obtain rfl : aB = bH := (by injection cL)
          replace aK := eq_true aK
          replace aL := eq_true aL
          have bE : 0 ≤ (aA : Int) := OD
          have bF : aA < (l0.length : Int) := OD
          obtain ⟨cB, cP, cD, cE, cF, cG, cH, cI, cJ, cK⟩ := at_T63 aM.out aA bE bF
          obtain rfl : aB = cB := (by injection cP)
          replace bE := eq_true bE
          replace bF := eq_true bF
          go_wp2
          go_ret
          exact ⟨by first | rfl | (simp; done) | (simp [*]; done), by repeat (first | exact Drawn0.refl _ | apply Drawn0.step)⟩
        ·rw [if_neg c8] at H
         have c8b0 : (((rd_T63 l0 aA).f2.f1) == (wrap64 ((wrap64 ((wrap64 (aC + 1)) + 1)) + 1))) = false := beq_eq_false_iff_ne.mpr c8
         have c8b1 : (((rd_T63 l0 aA).f2.f1) != (wrap64 ((wrap64 ((wrap64 (aC + 1)) + 1)) + 1))) = true := bne_iff_ne.mpr c8
         obtain rfl := sj H
         have aD : 0 ≤ (aA : Int) := OD
         have aE : aA < (l0.length : Int) := OD
         obtain ⟨aB, bG, aN, aO, aP, aQ, aR, aS, aT, aU⟩ := at_T63 aM.out aA aD aE
         cases bG
         replace aD := eq_true aD
         replace aE := eq_true aE
         have aF : 0 ≤ (aA : Int) := OD
         have aG : aA < (l0.length : Int) := OD
         obtain ⟨aJ, bQ, aW, aX, aY, aZ, bA, bB, bC, bD⟩ := at_T63 aM.out aA aF aG
         obtain rfl : aB = aJ := (by injection bQ)
         replace aF := eq_true aF
         replace aG := eq_true aG
         have aH : 0 ≤ (aA : Int) := OD
         have aI : aA < (l0.length : Int) := OD
         obtain ⟨aV, cC, bI, bJ, bK, bL, bM, bN, bO, bP⟩ := at_T63 aM.out aA aH aI
         obtain rfl : aB = aV := (by injection cC)
         replace aH := eq_true aH
         replace aI := eq_true aI
         have aK : 0 ≤ (aA : Int) := OD
         have aL : aA < (l0.length : Int) := OD
         obtain ⟨bH, cL, bT, bU, bV, bW, bX, bY, bZ, cA⟩ := at_T63 aM.out aA aK aL
         obtain rfl : aB = bH := (by injection cL)
         replace aK := eq_true aK
         replace aL := eq_true aL
         go_wp2
         go_ret
         exact ⟨by first | rfl | (simp; done) | (simp [*]; done), by repeat (first | exact Drawn0.refl _ | apply Drawn0.step)⟩
       ·rw [if_neg c7] at H
        have c7b0 : (((rd_T63 l0 aA).f2.f0) == (wrap64 ((wrap64 (aC + 1)) + 1))) = false := beq_eq_false_iff_ne.mpr c7
        have c7b1 : (((rd_T63 l0 aA).f2.f0) != (wrap64 ((wrap64 (aC + 1)) + 1))) = true := bne_iff_ne.mpr c7
        obtain rfl := sj H
        have aD : 0 ≤ (aA : Int) := OD
        have aE : aA < (l0.length : Int) := OD
        obtain ⟨aB, bG, aN, aO, aP, aQ, aR, aS, aT, aU⟩ := at_T63 aM.out aA aD aE
        cases bG
        replace aD := eq_true aD
        replace aE := eq_true aE
        have aF : 0 ≤ (aA : Int) := OD
        have aG : aA < (l0.length : Int) := OD
        obtain ⟨aJ, bQ, aW, aX, aY, aZ, bA, bB, bC, bD⟩ := at_T63 aM.out aA aF aG
        obtain rfl : aB = aJ := (by injection bQ)
        replace aF := eq_true aF
        replace aG := eq_true aG
        have aH : 0 ≤ (aA : Int) := OD
        have aI : aA < (l0.length : Int) := OD
        obtain ⟨aV, cC, bI, bJ, bK, bL, bM, bN, bO, bP⟩ := at_T63 aM.out aA aH aI
        obtain rfl : aB = aV := (by injection cC)
        replace aH := eq_true aH
        replace aI := eq_true aI
        go_wp2
        go_ret
        exact ⟨by first | rfl | (simp; done) | (simp [*]; done), by repeat (first | exact Drawn0.refl _ | apply Drawn0.step)⟩
      ·rw [if_neg c6] at H
       have c6b0 : (((rd_T63 l0 aA).f1) == (wrap64 (aC + 1))) = false := beq_eq_false_iff_ne.mpr c6
       have c6b1 : (((rd_T63 l0 aA).f1) != (wrap64 (aC + 1))) = true := bne_iff_ne.mpr c6
       obtain rfl := sj H
       have aD : 0 ≤ (aA : Int) := OD
       have aE : aA < (l0.length : Int) := OD
       obtain ⟨aB, bG, aN, aO, aP, aQ, aR, aS, aT, aU⟩ := at_T63 aM.out aA aD aE
       cases bG
       replace aD := eq_true aD
       replace aE := eq_true aE
       have aF : 0 ≤ (aA : Int) := OD
       have aG : aA < (l0.length : Int) := OD
       obtain ⟨aJ, bQ, aW, aX, aY, aZ, bA, bB, bC, bD⟩ := at_T63 aM.out aA aF aG
       obtain rfl : aB = aJ := (by injection bQ)
       replace aF := eq_true aF
       replace aG := eq_true aG
       go_wp2
       go_ret
       exact ⟨by first | rfl | (simp; done) | (simp [*]; done), by repeat (first | exact Drawn0.refl _ | apply Drawn0.step)⟩
     ·rw [if_neg c5] at H
      have c5b0 : (((rd_T63 l0 aA).f0) == aC) = false := beq_eq_false_iff_ne.mpr c5
      have c5b1 : (((rd_T63 l0 aA).f0) != aC) = true := bne_iff_ne.mpr c5
      obtain rfl := sj H
      have aD : 0 ≤ (aA : Int) := OD
      have aE : aA < (l0.length : Int) := OD
      obtain ⟨aB, bG, aN, aO, aP, aQ, aR, aS, aT, aU⟩ := at_T63 aM.out aA aD aE
      cases bG
      replace aD := eq_true aD
      replace aE := eq_true aE
      go_wp2
      go_ret
      exact ⟨by first | rfl | (simp; done) | (simp [*]; done), by repeat (first | exact Drawn0.refl _ | apply Drawn0.step)⟩
    ·rw [if_neg c4] at H
     exact absurd H (by simp)
   ·rw [if_neg c3] at H
    have c3b0 : decide (aA < (l0.length : Int)) = false := decide_eq_false c3
    clear c3
    obtain rfl := sj H
    go_wp2
    go_ret
    exact ⟨by first | rfl | (simp; done) | (simp [*]; done), by repeat (first | exact Drawn0.refl _ | apply Drawn0.step)⟩
def laws_heldSeenS.l0 : Nat → List (S80) → Int → Int → Option (Int)
 | 0, _, _, _ => none
 | k + 1, x0, x1, x5 => if x5 < (x0.length : Int) then (if 0 ≤ x5 then (if ((rd_T80 x0 x5).f0.f0) = x1 then (if ((rd_T80 x0 x5).f0.f1) = (wrap64 (x1 + 1)) then (if ((rd_T80 x0 x5).f0.f2) = (wrap64 ((wrap64 (x1 + 1)) + 1)) then (if ((rd_T80 x0 x5).f1) = (wrap64 ((wrap64 ((wrap64 (x1 + 1)) + 1)) + 1)) then (laws_heldSeenS.l0 k x0 (wrap64 ((wrap64 ((wrap64 ((wrap64 (x1 + 1)) + 1)) + 1)) + 1)) (wrap64 (x5 + 1))) else (some (-1))) else (some (-1))) else (some (-1))) else (some (-1))) else (none)) else (some x1)
def laws_heldSeenS.f (k : Nat) (l0 : List (S80)) (a1 : Int) : Option (Int) := laws_heldSeenS.l0 k l0 a1 0
theorem laws_heldSeenS.calls (k : Nat) (A0 : Option Addr) (c0 : Nat) (l0 : List (S80)) (a1 : Int) (r : Int) (w : World) (bJ : Kd.C k80 w A0 l0.length l0) (bK : l0.length ≤ c0) (h : laws_heldSeenS.f k l0 a1 = some r) :
  Calls Try.prog 38 #[.slice A0 l0.length c0, .int .i64 a1] w fun e w' => e = .returned (.int .i64 r) ∧ Drawn0 w w' := by
 have aX := Aside0.mk bJ
 have bL := Aside0.mk bK
 clear bJ bK
 have H : (laws_heldSeenS.l0 k l0 a1 0) = some r := h
 clear h
 have H' := Aside0.mk H
 clear H
 go_enter Try.func38, Try.ntmps38
 go_wp2
 go_loopg [1, 5] k (fun kq v1 v5 w' => ∃ (aB : Int) (aA : Int), v1 = .int .i64 aB ∧ v5 = .int .i64 aA ∧ Aside0 (laws_heldSeenS.l0 kq l0 aB aA = some r) ∧ Aside0 (kq ≤ k) ∧ Drawn0 w w')
 case atStart => exact ⟨(a1), (0), (by first | rfl | (simp; done) | (simp [*]; done)), (by first | rfl | (simp; done) | (simp [*]; done)), H', ⟨Nat.le_refl _⟩, by repeat (first | exact Drawn0.refl _ | apply Drawn0.step)⟩
 case round =>
  clear H'
  try clear p2
  obtain ⟨aB, aA, rfl, rfl, HA, HK1, ⟨m1, rfl⟩⟩ := hrel
  cases gk with
  | zero => exact absurd HA.out (by simp [laws_heldSeenS.l0])
  | succ k1 =>
   have H := HA.out
   clear HA
   simp only [laws_heldSeenS.l0] at H
   by_cases c3 : aA < (l0.length : Int)
   ·rw [if_pos c3] at H
    have c3b0 : decide (aA < (l0.length : Int)) = true := decide_eq_true c3
    clear c3
    by_cases c4 : 0 ≤ aA
    ·rw [if_pos c4] at H
     have c4b0 : decide (0 ≤ aA) = true := decide_eq_true c4
     clear c4
     by_cases c5 : ((rd_T80 l0 aA).f0.f0) = aB
     ·rw [if_pos c5] at H
      have c5b0 : (((rd_T80 l0 aA).f0.f0) == aB) = true := beq_iff_eq.mpr c5
      have c5b1 : (((rd_T80 l0 aA).f0.f0) != aB) = false := bne_eq_false_iff_eq.mpr c5
      clear c5
      by_cases c6 : ((rd_T80 l0 aA).f0.f1) = (wrap64 (aB + 1))
      ·rw [if_pos c6] at H
       have c6b0 : (((rd_T80 l0 aA).f0.f1) == (wrap64 (aB + 1))) = true := beq_iff_eq.mpr c6
       have c6b1 : (((rd_T80 l0 aA).f0.f1) != (wrap64 (aB + 1))) = false := bne_eq_false_iff_eq.mpr c6
       clear c6
       by_cases c7 : ((rd_T80 l0 aA).f0.f2) = (wrap64 ((wrap64 (aB + 1)) + 1))
       ·rw [if_pos c7] at H
        have c7b0 : (((rd_T80 l0 aA).f0.f2) == (wrap64 ((wrap64 (aB + 1)) + 1))) = true := beq_iff_eq.mpr c7
        have c7b1 : (((rd_T80 l0 aA).f0.f2) != (wrap64 ((wrap64 (aB + 1)) + 1))) = false := bne_eq_false_iff_eq.mpr c7
        clear c7
        by_cases c8 : ((rd_T80 l0 aA).f1) = (wrap64 ((wrap64 ((wrap64 (aB + 1)) + 1)) + 1))
        ·rw [if_pos c8] at H
         have c8b0 : (((rd_T80 l0 aA).f1) == (wrap64 ((wrap64 ((wrap64 (aB + 1)) + 1)) + 1))) = true := beq_iff_eq.mpr c8
         have c8b1 : (((rd_T80 l0 aA).f1) != (wrap64 ((wrap64 ((wrap64 (aB + 1)) + 1)) + 1))) = false := bne_eq_false_iff_eq.mpr c8
         clear c8
         have H' := Aside0.mk H
         clear H
         have aD : 0 ≤ (aA : Int) := OD
         have aE : aA < (l0.length : Int) := OD
         obtain ⟨aC, aO, aH, aI, aJ, aK⟩ := at_T80 aX.out aA aD aE
         cases aO
         replace aD := eq_true aD
         replace aE := eq_true aE
         have aF : 0 ≤ (aA : Int) := OD
         have aG : aA < (l0.length : Int) := OD
         obtain ⟨aL, aU, aP, aQ, aR, aS⟩ := at_T80 aX.out aA aF aG
         obtain rfl : aC = aL := (by injection aU)
         replace aF := eq_true aF
         replace aG := eq_true aG
         have aM : 0 ≤ (aA : Int) := OD
         have aN : aA < (l0.length : Int) := OD
         obtain ⟨aT, bC, aY, aZ, bA, bB⟩ := at_T80 aX.out aA aM aN
         obtain rfl : aC = aT := (by injection bC)
         replace aM := eq_true aM
         replace aN := eq_true aN
         have aV : 0 ≤ (aA : Int) := OD
         have aW : aA < (l0.length : Int) := OD
         obtain ⟨bD, bI, bE, bF, bG, bH⟩ := at_T80 aX.out aA aV aW
         obtain rfl : aC = bD := (by injection bI)
         replace aV := eq_true aV
         replace aW := eq_true aW
         go_wp2
         go_roundg k1
         case measure => have := HK1.out; omega
         case rel => exact ⟨(wrap64 ((wrap64 ((wrap64 ((wrap64 (aB + 1)) + 1)) + 1)) + 1)), (wrap64 (aA + 1)), (by first | rfl | (simp; done) | (simp [*]; done)), (by first | rfl | (simp; done) | (simp [*]; done)), H', ⟨by have := HK1.out; omega⟩, by repeat (first | exact Drawn0.refl _ | apply Drawn0.step)⟩
        ·rw [if_neg c8] at H
         have c8b0 : (((rd_T80 l0 aA).f1) == (wrap64 ((wrap64 ((wrap64 (aB + 1)) + 1)) + 1))) = false := beq_eq_false_iff_ne.mpr c8
         have c8b1 : (((rd_T80 l0 aA).f1) != (wrap64 ((wrap64 ((wrap64 (aB + 1)) + 1)) + 1))) = true := bne_iff_ne.mpr c8
         obtain rfl := sj H
         have aD : 0 ≤ (aA : Int) := OD
         have aE : aA < (l0.length : Int) := OD
         obtain ⟨aC, aO, aH, aI, aJ, aK⟩ := at_T80 aX.out aA aD aE
         cases aO
         replace aD := eq_true aD
         replace aE := eq_true aE
         have aF : 0 ≤ (aA : Int) := OD
         have aG : aA < (l0.length : Int) := OD
         obtain ⟨aL, aU, aP, aQ, aR, aS⟩ := at_T80 aX.out aA aF aG
         obtain rfl : aC = aL := (by injection aU)
         replace aF := eq_true aF
         replace aG := eq_true aG
         have aM : 0 ≤ (aA : Int) := OD
         have aN : aA < (l0.length : Int) := OD
         obtain ⟨aT, bC, aY, aZ, bA, bB⟩ := at_T80 aX.out aA aM aN
         obtain rfl : aC = aT := (by injection bC)
         replace aM := eq_true aM
         replace aN := eq_true aN
         have aV : 0 ≤ (aA : Int) := OD
         have aW : aA < (l0.length : Int) := OD
         obtain ⟨bD, bI, bE, bF, bG, bH⟩ := at_T80 aX.out aA aV aW
         obtain rfl : aC = bD := (by injection bI)
         replace aV := eq_true aV
         replace aW := eq_true aW
         go_wp2
         go_ret
         exact ⟨by first | rfl | (simp; done) | (simp [*]; done), by repeat (first | exact Drawn0.refl _ | apply Drawn0.step)⟩
       ·rw [if_neg c7] at H
        have c7b0 : (((rd_T80 l0 aA).f0.f2) == (wrap64 ((wrap64 (aB + 1)) + 1))) = false := beq_eq_false_iff_ne.mpr c7
        have c7b1 : (((rd_T80 l0 aA).f0.f2) != (wrap64 ((wrap64 (aB + 1)) + 1))) = true := bne_iff_ne.mpr c7
        obtain rfl := sj H
        have aD : 0 ≤ (aA : Int) := OD
        have aE : aA < (l0.length : Int) := OD
        obtain ⟨aC, aO, aH, aI, aJ, aK⟩ := at_T80 aX.out aA aD aE
        cases aO
        replace aD := eq_true aD
        replace aE := eq_true aE
        have aF : 0 ≤ (aA : Int) := OD
        have aG : aA < (l0.length : Int) := OD
        obtain ⟨aL, aU, aP, aQ, aR, aS⟩ := at_T80 aX.out aA aF aG
        obtain rfl : aC = aL := (by injection aU)
        replace aF := eq_true aF
        replace aG := eq_true aG
        have aM : 0 ≤ (aA : Int) := OD
        have aN : aA < (l0.length : Int) := OD
        obtain ⟨aT, bC, aY, aZ, bA, bB⟩ := at_T80 aX.out aA aM aN
        obtain rfl : aC = aT := (by injection bC)
        replace aM := eq_true aM
        replace aN := eq_true aN
        go_wp2
        go_ret
        exact ⟨by first | rfl | (simp; done) | (simp [*]; done), by repeat (first | exact Drawn0.refl _ | apply Drawn0.step)⟩
      ·rw [if_neg c6] at H
       have c6b0 : (((rd_T80 l0 aA).f0.f1) == (wrap64 (aB + 1))) = false := beq_eq_false_iff_ne.mpr c6
       have c6b1 : (((rd_T80 l0 aA).f0.f1) != (wrap64 (aB + 1))) = true := bne_iff_ne.mpr c6
       obtain rfl := sj H
       have aD : 0 ≤ (aA : Int) := OD
       have aE : aA < (l0.length : Int) := OD
       obtain ⟨aC, aO, aH, aI, aJ, aK⟩ := at_T80 aX.out aA aD aE
       cases aO
       replace aD := eq_true aD
       replace aE := eq_true aE
       have aF : 0 ≤ (aA : Int) := OD
       have aG : aA < (l0.length : Int) := OD
       obtain ⟨aL, aU, aP, aQ, aR, aS⟩ := at_T80 aX.out aA aF aG
       obtain rfl : aC = aL := (by injection aU)
       replace aF := eq_true aF
       replace aG := eq_true aG
       go_wp2
       go_ret
       exact ⟨by first | rfl | (simp; done) | (simp [*]; done), by repeat (first | exact Drawn0.refl _ | apply Drawn0.step)⟩
     ·rw [if_neg c5] at H
      have c5b0 : (((rd_T80 l0 aA).f0.f0) == aB) = false := beq_eq_false_iff_ne.mpr c5
      have c5b1 : (((rd_T80 l0 aA).f0.f0) != aB) = true := bne_iff_ne.mpr c5
      obtain rfl := sj H
      have aD : 0 ≤ (aA : Int) := OD
      have aE : aA < (l0.length : Int) := OD
      obtain ⟨aC, aO, aH, aI, aJ, aK⟩ := at_T80 aX.out aA aD aE
      cases aO
      replace aD := eq_true aD
      replace aE := eq_true aE
      go_wp2
      go_ret
      exact ⟨by first | rfl | (simp; done) | (simp [*]; done), by repeat (first | exact Drawn0.refl _ | apply Drawn0.step)⟩
    ·rw [if_neg c4] at H
     exact absurd H (by simp)
   ·rw [if_neg c3] at H
    have c3b0 : decide (aA < (l0.length : Int)) = false := decide_eq_false c3
    clear c3
    obtain rfl := sj H
    go_wp2
    go_ret
    exact ⟨by first | rfl | (simp; done) | (simp [*]; done), by repeat (first | exact Drawn0.refl _ | apply Drawn0.step)⟩
def laws_heldCache.f (k : Nat) (a0_0 : Int) (l0_1 : List (S80)) (a1 : Int) : Option (Int) := (laws_heldSeenS.f k l0_1 a1).bind fun t102 => (if t102 < 0 then (some (-1)) else (some t102))
theorem laws_heldCache.calls (k : Nat) (aI : Int) (aC : Option Addr) (aD : Nat) (aA : List (S80)) (a1 : Int) (r : Int) (w : World) (aJ : Kd.C k80 w aC aA.length aA) (aK : aA.length ≤ aD) (h : laws_heldCache.f k aI aA a1 = some r) :
  Calls Try.prog 30 #[.agg #[.int .i64 aI, .slice aC aA.length aD], .int .i64 a1] w fun e w' => e = .returned (.int .i64 r) ∧ Below w.heap.size w w' := by
 have aV := Try.underlying25
 have aL := Aside0.mk aJ
 have aM := Aside0.mk aK
 clear aJ aK
 have HB := am (Below.refl w.heap.size w)
 have H : ((laws_heldSeenS.f k aA a1).bind fun aB => (if aB < 0 then (some (-1)) else (some aB))) = some r := h
 clear h
 replace H := bm H
 obtain ⟨aB, aU, H⟩ := H
 replace H : (if aB < 0 then (some (-1)) else (some aB)) = some r := H
 have A3 := Aside0.mk aU
 clear aU
 by_cases c4 : aB < 0
 ·rw [if_pos c4] at H
  have c4b0 : decide (aB < 0) = true := decide_eq_true c4
  clear c4
  obtain rfl := sj H
  go_enter Try.func30, Try.ntmps30
  go_wp2_with (first | ((with_reducible refine gate_dst (N := 2) rfl ?_); refine box_event rfl (N := 2) rfl (cs := #[.int .i64 aI, .slice aC aA.length aD]) (t := 25) BX ?_; intro aN hg w5 aE hb; have aF := am (aE); have aG := am (GH HB hg); have aH := aG; replace HB := bl (KL HB) hb; clear hb aE hg; have ⟨_, _, _⟩ := y2 w5 aF.out) | ((with_reducible refine gate_callee (f := 38) rfl ?_); refine goesL_ (some 8) rfl rfl Try.func38 (by kernel_rfl) rfl #[.slice aC aA.length aD, .int .i64 a1] rfl MT ?_; (with_reducible refine (laws_heldSeenS.calls k _ _ aA a1 aB _ ?_ ?_ A3.out).mono ?_); exact KD aL HB; exact aM.out; rintro e w' ⟨rfl, ⟨nd, rfl⟩⟩; refine ⟨_, rfl, ?_⟩))
  go_ret
  exact ⟨ER, K1 HB aH.out⟩
 ·rw [if_neg c4] at H
  have c4b0 : decide (aB < 0) = false := decide_eq_false c4
  clear c4
  obtain rfl := sj H
  go_enter Try.func30, Try.ntmps30
  go_wp2_with (first | ((with_reducible refine gate_dst (N := 2) rfl ?_); refine box_event rfl (N := 2) rfl (cs := #[.int .i64 aI, .slice aC aA.length aD]) (t := 25) BX ?_; intro aN hg w7 aE hb; have aF := am (aE); have aG := am (GH HB hg); have aH := aG; replace HB := bl (KL HB) hb; clear hb aE hg; have ⟨_, _, _⟩ := y2 w7 aF.out) | ((with_reducible refine gate_callee (f := 38) rfl ?_); refine goesL_ (some 8) rfl rfl Try.func38 (by kernel_rfl) rfl #[.slice aC aA.length aD, .int .i64 a1] rfl MT ?_; (with_reducible refine (laws_heldSeenS.calls k _ _ aA a1 aB _ ?_ ?_ A3.out).mono ?_); exact KD aL HB; exact aM.out; rintro e w' ⟨rfl, ⟨nd, rfl⟩⟩; refine ⟨_, rfl, ?_⟩))
  go_ret
  exact ⟨ER, K1 HB aH.out⟩
def laws_heldGate.f (k : Nat) (a0_0 : Int) (l0_1 : List (S63)) (a0_2 : Int) (l0_3 : List (S80)) (l0_4 : List (S70)) (l0_5 : List (S70)) (a1 : Int) : Option (Int) := (laws_heldRuleS.f k l0_1 a1).bind fun t102 => (if t102 < 0 then (some (-1)) else ((laws_heldCache.f k a0_2 l0_3 t102).bind fun t103 => (if t103 < 0 then (some (-1)) else ((laws_heldSaS.f l0_4 t103).bind fun t104 => (if t104 < 0 then (some (-1)) else ((laws_heldSaS.f l0_5 t104).bind fun t105 => (if t105 < 0 then (some (-1)) else (some t105))))))))
theorem laws_heldGate.calls (k : Nat) (aX : Int) (aN : Option Addr) (aO : Nat) (aC : List (S63)) (aK : Int) (aP : Option Addr) (aQ : Nat) (aG : List (S80)) (aR : Option Addr) (aS : Nat) (aH : List (S70)) (aT : Option Addr) (aU : Nat) (aJ : List (S70)) (a1 : Int) (r : Int) (w : World) (bD : Kd.C k63 w aN aC.length aC) (bE : aC.length ≤ aO) (bF : Kd.C k80 w aP aG.length aG) (bG : aG.length ≤ aQ) (bH : Kd.C k70 w aR aH.length aH) (bI : aH.length ≤ aS) (bJ : Kd.C k70 w aT aJ.length aJ) (bK : aJ.length ≤ aU) (h : laws_heldGate.f k aX aC aK aG aH aJ a1 = some r) :
  Calls Try.prog 17 #[.agg #[.int .i64 aX, .slice aN aC.length aO, .int .i64 aK, .slice aP aG.length aQ, .slice aR aH.length aS, .slice aT aJ.length aU], .int .i64 a1] w fun e w' => e = .returned (.int .i64 r) ∧ Below w.heap.size w w' := by
 have dZ := Try.underlying28
 have eA := Try.underlying25
 have aV := Aside0.mk bD
 have aW := Aside0.mk bE
 clear bD bE
 have aY := Aside0.mk bF
 have aZ := Aside0.mk bG
 clear bF bG
 have bB := Aside0.mk bH
 have bC := Aside0.mk bI
 clear bH bI
 have bL := Aside0.mk bJ
 have bM := Aside0.mk bK
 clear bJ bK
 have HB := am (Below.refl w.heap.size w)
 have H : ((laws_heldRuleS.f k aC a1).bind fun aD => (if aD < 0 then (some (-1)) else ((laws_heldCache.f k aK aG aD).bind fun aE => (if aE < 0 then (some (-1)) else ((laws_heldSaS.f aH aE).bind fun aF => (if aF < 0 then (some (-1)) else ((laws_heldSaS.f aJ aF).bind fun aI => (if aI < 0 then (some (-1)) else (some aI))))))))) = some r := h
 clear h
 replace H := bm H
 obtain ⟨aD, dW, H⟩ := H
 replace H : (if aD < 0 then (some (-1)) else ((laws_heldCache.f k aK aG aD).bind fun aE => (if aE < 0 then (some (-1)) else ((laws_heldSaS.f aH aE).bind fun aF => (if aF < 0 then (some (-1)) else ((laws_heldSaS.f aJ aF).bind fun aI => (if aI < 0 then (some (-1)) else (some aI)))))))) = some r := H
 have A3 := Aside0.mk dW
 clear dW
 by_cases c4 : aD < 0
 ·rw [if_pos c4] at H
  have c4b0 : decide (aD < 0) = true := decide_eq_true c4
  clear c4
  obtain rfl := sj H
  go_enter Try.func17, Try.ntmps17
  go_wp2_with (first | ((with_reducible refine gate_dst (N := 2) rfl ?_); refine box_event rfl (N := 2) rfl (cs := #[.int .i64 aX, .slice aN aC.length aO, .int .i64 aK, .slice aP aG.length aQ, .slice aR aH.length aS, .slice aT aJ.length aU]) (t := 28) BX ?_; intro bA hg w5 aL hb; have aA := am (aL); have aM := am (GH HB hg); have aB := aM; replace HB := bl (KL HB) hb; clear hb aL hg; have ⟨_, _, _, _, _, _, _⟩ := y6 w5 aA.out) | ((with_reducible refine gate_callee (f := 29) rfl ?_); refine goesL_ (some 8) rfl rfl Try.func29 (by kernel_rfl) rfl #[.slice aN aC.length aO, .int .i64 a1] rfl MT ?_; (with_reducible refine (laws_heldRuleS.calls k _ _ aC a1 aD _ ?_ ?_ A3.out).mono ?_); exact KD aV HB; exact aW.out; rintro e w' ⟨rfl, ⟨nd, rfl⟩⟩; refine ⟨_, rfl, ?_⟩))
  go_ret
  exact ⟨ER, K1 HB aB.out⟩
 ·rw [if_neg c4] at H
  have c4b0 : decide (aD < 0) = false := decide_eq_false c4
  clear c4
  replace H := bm H
  obtain ⟨aE, dX, H⟩ := H
  replace H : (if aE < 0 then (some (-1)) else ((laws_heldSaS.f aH aE).bind fun aF => (if aF < 0 then (some (-1)) else ((laws_heldSaS.f aJ aF).bind fun aI => (if aI < 0 then (some (-1)) else (some aI)))))) = some r := H
  have A7 := Aside0.mk dX
  clear dX
  by_cases c8 : aE < 0
  ·rw [if_pos c8] at H
   have c8b0 : decide (aE < 0) = true := decide_eq_true c8
   clear c8
   obtain rfl := sj H
   go_enter Try.func17, Try.ntmps17
   go_wp2_with (first | ((with_reducible refine gate_dst (N := 2) rfl ?_); refine box_event rfl (N := 2) rfl (cs := #[.int .i64 aX, .slice aN aC.length aO, .int .i64 aK, .slice aP aG.length aQ, .slice aR aH.length aS, .slice aT aJ.length aU]) (t := 28) BX ?_; intro bA hg w9 aL hb; have aA := am (aL); have aM := am (GH HB hg); have aB := aM; replace HB := bl (KL HB) hb; clear hb aL hg; have ⟨_, _, _, _, _, _, _⟩ := y6 w9 aA.out) | ((with_reducible refine gate_callee (f := 29) rfl ?_); refine goesL_ (some 8) rfl rfl Try.func29 (by kernel_rfl) rfl #[.slice aN aC.length aO, .int .i64 a1] rfl MT ?_; (with_reducible refine (laws_heldRuleS.calls k _ _ aC a1 aD _ ?_ ?_ A3.out).mono ?_); exact KD aV HB; exact aW.out; rintro e w' ⟨rfl, ⟨nd, rfl⟩⟩; refine ⟨_, rfl, ?_⟩) | ((with_reducible refine gate_callee (f := 30) rfl ?_); refine goesL_ (some 14) rfl rfl Try.func30 (by kernel_rfl) rfl #[.agg #[.int .i64 aK, .slice aP aG.length aQ], .int .i64 aD] rfl MT ?_; (with_reducible refine (laws_heldCache.calls k aK _ _ aG aD aE _ ?_ ?_ A7.out).mono ?_); (repeat (first | exact (Kd.C_below aY.out (K1 HB aB.out)) | (with_reducible refine Kd.C_alloc ?_ _) | (with_reducible refine Kd.C_drewN ?_ _) | (with_reducible refine Kd.C_drew ?_))); exact aZ.out; rintro e eH ⟨rfl, hb⟩; refine ⟨_, rfl, ?_⟩; replace aA := am (BB aA hb); replace HB := bl (K1 HB aB.out) hb; (try clear hb)))
   go_ret
   exact ⟨ER, K1 HB aB.out⟩
  ·rw [if_neg c8] at H
   have c8b0 : decide (aE < 0) = false := decide_eq_false c8
   clear c8
   replace H := bm H
   obtain ⟨aF, bP, H⟩ := H
   replace H : (if aF < 0 then (some (-1)) else ((laws_heldSaS.f aJ aF).bind fun aI => (if aI < 0 then (some (-1)) else (some aI)))) = some r := H
   have dV := Aside0.mk bP
   clear bP
   by_cases bN : aF < 0
   ·rw [if_pos bN] at H
    have c13b0 : decide (aF < 0) = true := decide_eq_true bN
    clear bN
    obtain rfl := sj H
    go_enter Try.func17, Try.ntmps17
    go_wp2_with (first | ((with_reducible refine gate_dst (N := 2) rfl ?_); refine box_event rfl (N := 2) rfl (cs := #[.int .i64 aX, .slice aN aC.length aO, .int .i64 aK, .slice aP aG.length aQ, .slice aR aH.length aS, .slice aT aJ.length aU]) (t := 28) BX ?_; intro bA hg eB aL hb; have aA := am (aL); have aM := am (GH HB hg); have aB := aM; replace HB := bl (KL HB) hb; clear hb aL hg; have ⟨_, _, _, _, _, _, _⟩ := y6 eB aA.out) | ((with_reducible refine gate_callee (f := 29) rfl ?_); refine goesL_ (some 8) rfl rfl Try.func29 (by kernel_rfl) rfl #[.slice aN aC.length aO, .int .i64 a1] rfl MT ?_; (with_reducible refine (laws_heldRuleS.calls k _ _ aC a1 aD _ ?_ ?_ A3.out).mono ?_); exact KD aV HB; exact aW.out; rintro e w' ⟨rfl, ⟨nd, rfl⟩⟩; refine ⟨_, rfl, ?_⟩) | ((with_reducible refine gate_callee (f := 30) rfl ?_); refine goesL_ (some 14) rfl rfl Try.func30 (by kernel_rfl) rfl #[.agg #[.int .i64 aK, .slice aP aG.length aQ], .int .i64 aD] rfl MT ?_; (with_reducible refine (laws_heldCache.calls k aK _ _ aG aD aE _ ?_ ?_ A7.out).mono ?_); (repeat (first | exact (Kd.C_below aY.out (K1 HB aB.out)) | (with_reducible refine Kd.C_alloc ?_ _) | (with_reducible refine Kd.C_drewN ?_ _) | (with_reducible refine Kd.C_drew ?_))); exact aZ.out; rintro e eC ⟨rfl, hb⟩; refine ⟨_, rfl, ?_⟩; replace aA := am (BB aA hb); replace HB := bl (K1 HB aB.out) hb; (try clear hb); have ⟨_, _, _, _, _, _, _⟩ := y6 eC aA.out) | ((with_reducible refine gate_callee (f := 31) rfl ?_); refine goesL_ (some 20) rfl rfl Try.func31 (by kernel_rfl) rfl #[.slice aR aH.length aS, .int .i64 aE] rfl MT ?_; (with_reducible refine (laws_heldSaS.calls _ _ aH aE aF _ ?_ ?_ dV.out).mono ?_); exact KD bB HB; exact bC.out; rintro e w' ⟨rfl, ⟨nd, rfl⟩⟩; refine ⟨_, rfl, ?_⟩))
    go_ret
    exact ⟨ER, K1 HB aB.out⟩
   ·rw [if_neg bN] at H
    have c13b0 : decide (aF < 0) = false := decide_eq_false bN
    clear bN
    replace H := bm H
    obtain ⟨aI, bQ, H⟩ := H
    replace H : (if aI < 0 then (some (-1)) else (some aI)) = some r := H
    have dY := Aside0.mk bQ
    clear bQ
    by_cases bO : aI < 0
    ·rw [if_pos bO] at H
     have c19b0 : decide (aI < 0) = true := decide_eq_true bO
     clear bO
     obtain rfl := sj H
     go_enter Try.func17, Try.ntmps17
     go_wp2_with (first | ((with_reducible refine gate_dst (N := 2) rfl ?_); refine box_event rfl (N := 2) rfl (cs := #[.int .i64 aX, .slice aN aC.length aO, .int .i64 aK, .slice aP aG.length aQ, .slice aR aH.length aS, .slice aT aJ.length aU]) (t := 28) BX ?_; intro bA hg eD aL hb; have aA := am (aL); have aM := am (GH HB hg); have aB := aM; replace HB := bl (KL HB) hb; clear hb aL hg; have ⟨_, _, _, _, _, _, _⟩ := y6 eD aA.out) | ((with_reducible refine gate_callee (f := 29) rfl ?_); refine goesL_ (some 8) rfl rfl Try.func29 (by kernel_rfl) rfl #[.slice aN aC.length aO, .int .i64 a1] rfl MT ?_; (with_reducible refine (laws_heldRuleS.calls k _ _ aC a1 aD _ ?_ ?_ A3.out).mono ?_); exact KD aV HB; exact aW.out; rintro e w' ⟨rfl, ⟨nd, rfl⟩⟩; refine ⟨_, rfl, ?_⟩) | ((with_reducible refine gate_callee (f := 30) rfl ?_); refine goesL_ (some 14) rfl rfl Try.func30 (by kernel_rfl) rfl #[.agg #[.int .i64 aK, .slice aP aG.length aQ], .int .i64 aD] rfl MT ?_; (with_reducible refine (laws_heldCache.calls k aK _ _ aG aD aE _ ?_ ?_ A7.out).mono ?_); (repeat (first | exact (Kd.C_below aY.out (K1 HB aB.out)) | (with_reducible refine Kd.C_alloc ?_ _) | (with_reducible refine Kd.C_drewN ?_ _) | (with_reducible refine Kd.C_drew ?_))); exact aZ.out; rintro e eE ⟨rfl, hb⟩; refine ⟨_, rfl, ?_⟩; replace aA := am (BB aA hb); replace HB := bl (K1 HB aB.out) hb; (try clear hb); have ⟨_, _, _, _, _, _, _⟩ := y6 eE aA.out) | ((with_reducible refine gate_callee (f := 31) rfl ?_); refine goesL_ (some 20) rfl rfl Try.func31 (by kernel_rfl) rfl #[.slice aR aH.length aS, .int .i64 aE] rfl MT ?_; (with_reducible refine (laws_heldSaS.calls _ _ aH aE aF _ ?_ ?_ dV.out).mono ?_); exact KD bB HB; exact bC.out; rintro e w' ⟨rfl, ⟨nd, rfl⟩⟩; refine ⟨_, rfl, ?_⟩) | ((with_reducible refine gate_callee (f := 31) rfl ?_); refine goesL_ (some 26) rfl rfl Try.func31 (by kernel_rfl) rfl #[.slice aT aJ.length aU, .int .i64 aF] rfl MT ?_; (with_reducible refine (laws_heldSaS.calls _ _ aJ aF aI _ ?_ ?_ dY.out).mono ?_); (repeat (first | exact (Kd.C_below bL.out (K1 HB aB.out)) | (with_reducible refine Kd.C_alloc ?_ _) | (with_reducible refine Kd.C_drewN ?_ _) | (with_reducible refine Kd.C_drew ?_))); exact bM.out; rintro e w' ⟨rfl, ⟨nd, rfl⟩⟩; refine ⟨_, rfl, ?_⟩))
     go_ret
     exact ⟨ER, K1 HB aB.out⟩
    ·rw [if_neg bO] at H
     have c19b0 : decide (aI < 0) = false := decide_eq_false bO
     clear bO
     obtain rfl := sj H
     go_enter Try.func17, Try.ntmps17
     go_wp2_with (first | ((with_reducible refine gate_dst (N := 2) rfl ?_); refine box_event rfl (N := 2) rfl (cs := #[.int .i64 aX, .slice aN aC.length aO, .int .i64 aK, .slice aP aG.length aQ, .slice aR aH.length aS, .slice aT aJ.length aU]) (t := 28) BX ?_; intro bA hg eF aL hb; have aA := am (aL); have aM := am (GH HB hg); have aB := aM; replace HB := bl (KL HB) hb; clear hb aL hg; have ⟨_, _, _, _, _, _, _⟩ := y6 eF aA.out) | ((with_reducible refine gate_callee (f := 29) rfl ?_); refine goesL_ (some 8) rfl rfl Try.func29 (by kernel_rfl) rfl #[.slice aN aC.length aO, .int .i64 a1] rfl MT ?_; (with_reducible refine (laws_heldRuleS.calls k _ _ aC a1 aD _ ?_ ?_ A3.out).mono ?_); exact KD aV HB; exact aW.out; rintro e w' ⟨rfl, ⟨nd, rfl⟩⟩; refine ⟨_, rfl, ?_⟩) | ((with_reducible refine gate_callee (f := 30) rfl ?_); refine goesL_ (some 14) rfl rfl Try.func30 (by kernel_rfl) rfl #[.agg #[.int .i64 aK, .slice aP aG.length aQ], .int .i64 aD] rfl MT ?_; (with_reducible refine (laws_heldCache.calls k aK _ _ aG aD aE _ ?_ ?_ A7.out).mono ?_); (repeat (first | exact (Kd.C_below aY.out (K1 HB aB.out)) | (with_reducible refine Kd.C_alloc ?_ _) | (with_reducible refine Kd.C_drewN ?_ _) | (with_reducible refine Kd.C_drew ?_))); exact aZ.out; rintro e eG ⟨rfl, hb⟩; refine ⟨_, rfl, ?_⟩; replace aA := am (BB aA hb); replace HB := bl (K1 HB aB.out) hb; (try clear hb); have ⟨_, _, _, _, _, _, _⟩ := y6 eG aA.out) | ((with_reducible refine gate_callee (f := 31) rfl ?_); refine goesL_ (some 20) rfl rfl Try.func31 (by kernel_rfl) rfl #[.slice aR aH.length aS, .int .i64 aE] rfl MT ?_; (with_reducible refine (laws_heldSaS.calls _ _ aH aE aF _ ?_ ?_ dV.out).mono ?_); exact KD bB HB; exact bC.out; rintro e w' ⟨rfl, ⟨nd, rfl⟩⟩; refine ⟨_, rfl, ?_⟩) | ((with_reducible refine gate_callee (f := 31) rfl ?_); refine goesL_ (some 26) rfl rfl Try.func31 (by kernel_rfl) rfl #[.slice aT aJ.length aU, .int .i64 aF] rfl MT ?_; (with_reducible refine (laws_heldSaS.calls _ _ aJ aF aI _ ?_ ?_ dY.out).mono ?_); (repeat (first | exact (Kd.C_below bL.out (K1 HB aB.out)) | (with_reducible refine Kd.C_alloc ?_ _) | (with_reducible refine Kd.C_drewN ?_ _) | (with_reducible refine Kd.C_drew ?_))); exact bM.out; rintro e w' ⟨rfl, ⟨nd, rfl⟩⟩; refine ⟨_, rfl, ?_⟩))
     go_ret
     exact ⟨ER, K1 HB aB.out⟩
def laws_heldAirS.l0 : Nat → List (S49) → Int → Int → Option (Int)
 | 0, _, _, _ => none
 | k + 1, x0, x1, x5 => if x5 < (x0.length : Int) then (if 0 ≤ x5 then ((laws_markText.f k x1).bind fun t102 => (if ((rd_T49 x0 x5).f0).toList = t102.toList then (if (((rd_T49 x0 x5).f1) != ((Int.tmod (wrap64 (x1 + 1)) 3) == 0)) = true then (some (-1)) else (laws_heldAirS.l0 k x0 (wrap64 ((wrap64 (x1 + 1)) + 1)) (wrap64 (x5 + 1)))) else (some (-1)))) else (none)) else (some x1)
def laws_heldAirS.f (k : Nat) (l0 : List (S49)) (a1 : Int) : Option (Int) := laws_heldAirS.l0 k l0 a1 0
def laws_heldAirS.T4 : Bool × List (List Nat × List Nat) := (true, [([], []), ([], []), ([0, 1], [0, 1]), ([2], [2]), ([3], [3]), ([], []), ([5], [5]), ([4, 6], [4, 6])])
def laws_heldAirS.B4 : List Nat := [0, 0, 3, 7, 15, 0, 32, 127]
theorem laws_heldAirS.tab4 : rtab .any (opsOf Try.f18 4) = laws_heldAirS.T4 := by kernel_rfl
theorem laws_heldAirS.bits4 : waitsOk laws_heldAirS.T4.2 laws_heldAirS.B4 = true := by kernel_rfl
theorem laws_heldAirS.calls (k : Nat) (A0 : Option Addr) (c0 : Nat) (l0 : List (S49)) (a1 : Int) (r : Int) (w : World) (aV : Kd.C k49 w A0 l0.length l0) (aW : l0.length ≤ c0) (h : laws_heldAirS.f k l0 a1 = some r) :
  Calls Try.prog 18 #[.slice A0 l0.length c0, .int .i64 a1] w fun e w' => e = .returned (.int .i64 r) ∧ Below w.heap.size w w' := by
 have aT := Aside0.mk aV
 have aY := Aside0.mk aW
 clear aV aW
 have HB := am (Below.refl w.heap.size w)
 have H : (laws_heldAirS.l0 k l0 a1 0) = some r := h
 clear h
 have H' := Aside0.mk H
 clear H
 go_enter Try.func18, Try.ntmps18
 go_wp2
 go_loopg [1, 5] k (fun kq v1 v5 w' => ∃ (aF : Int) (aA : Int), v1 = .int .i64 aF ∧ v5 = .int .i64 aA ∧ Aside0 (laws_heldAirS.l0 kq l0 aF aA = some r) ∧ Aside0 (kq ≤ k) ∧ Aside0 (Below w.heap.size w w'))
 case atStart => exact ⟨(a1), (0), (by first | rfl | (simp; done) | (simp [*]; done)), (by first | rfl | (simp; done) | (simp [*]; done)), H', ⟨Nat.le_refl _⟩, ⟨KL HB⟩⟩
 case round =>
  clear H'
  try clear c1
  try clear p2
  obtain ⟨aF, aA, rfl, rfl, HA, HK1, HB⟩ := hrel
  cases gk with
  | zero => exact absurd HA.out (by simp [laws_heldAirS.l0])
  | succ k1 =>
   have H := HA.out
   clear HA
   simp only [laws_heldAirS.l0] at H
   by_cases c3 : aA < (l0.length : Int)
   ·rw [if_pos c3] at H
    have c3b0 : decide (aA < (l0.length : Int)) = true := decide_eq_true c3
    clear c3
    by_cases c4 : 0 ≤ aA
    ·rw [if_pos c4] at H
     have c4b0 : decide (0 ≤ aA) = true := decide_eq_true c4
     clear c4
     replace H := bm H
     obtain ⟨aN, aX, H⟩ := H
     replace H : (if ((rd_T49 l0 aA).f0).toList = aN.toList then (if (((rd_T49 l0 aA).f1) != ((Int.tmod (wrap64 (aF + 1)) 3) == 0)) = true then (some (-1)) else (laws_heldAirS.l0 k1 l0 (wrap64 ((wrap64 (aF + 1)) + 1)) (wrap64 (aA + 1)))) else (some (-1))) = some r := H
     have A5 := Aside0.mk aX
     clear aX
     by_cases c6 : ((rd_T49 l0 aA).f0).toList = aN.toList
     ·rw [if_pos c6] at H
      have c6b0 : (((rd_T49 l0 aA).f0).toList == aN.toList) = true := beq_iff_eq.mpr c6
      have c6b1 : (((rd_T49 l0 aA).f0).toList != aN.toList) = false := bne_eq_false_iff_eq.mpr c6
      clear c6
      by_cases c7 : (((rd_T49 l0 aA).f1) != ((Int.tmod (wrap64 (aF + 1)) 3) == 0)) = true
      ·rw [if_pos c7] at H
       have c7b0 : (((rd_T49 l0 aA).f1) != ((Int.tmod (wrap64 (aF + 1)) 3) == 0)) = true := c7
       (try (have c7b1 : decide (((rd_T49 l0 aA).f1) = ((Int.tmod (wrap64 (aF + 1)) 3) == 0)) = false := by simpa using c7))
       (try (have c7b2 : (((rd_T49 l0 aA).f1) == ((Int.tmod (wrap64 (aF + 1)) 3) == 0)) = false := by simpa using c7))
       (try (have c7b3 : ¬ (((rd_T49 l0 aA).f1) = ((Int.tmod (wrap64 (aF + 1)) 3) == 0)) := by simpa using c7))
       clear c7
       obtain rfl := sj H
       try go_wp2
       replace HB := am (below_drew1 HB.out)
       have aL : 0 ≤ (aA : Int) := OD
       have aM : aA < (l0.length : Int) := OD
       obtain ⟨aG, aQ, aB, aC⟩ := at_T49 aT.out aA aL aM
       have aD := aC
       have aE := aB
       cases aQ
       replace aB := CX HB.out aB
       replace aC := CX HB.out aC
       replace aL := eq_true aL
       replace aM := eq_true aM
       refine start_ (n := 8) (S := fun w' => w'.cell? (aG.add ((aA).toNat * 2)) = some (.string ((rd_T49 l0 aA).f0)) ∧ w'.cell? ⟨(aG.add ((aA).toNat * 2)).block, (aG.add ((aA).toNat * 2)).off + 1, none⟩ = some (.bool ((rd_T49 l0 aA).f1))) (ds := []) (tf 0 8) (by kernel_rfl) rfl rfl ⟨(CY HB.out aE), (CY HB.out aD)⟩ (fun aH => ?_); refine with_tabW laws_heldAirS.tab4 laws_heldAirS.bits4 (fun aI aU => ?_)
       generalize wr.drew = w8 at HB aB aC aH ⊢
       refine pv aI 0 12 (tf 1 7) ?_
       refine pv aI 1 13 (tf 2 6) ?_
       refine pv aI 2 14 (tf 3 5) ?_
       refine pv aI 3 15 (tf 4 4) ?_
       refine pv aI 5 17 (tr [4, 1, 1, 2]) ?_
       refine tk 4 (some 16) (tf 6 2) (take_ofW aI.out aU.out (by kernel_rfl)) aH ?_
       refine one_ (i := 6) (N := some 18) (tf 7 1) rfl rfl (one_of aI.out (by kernel_rfl)) (by decide) (fun K hK => ?_)
       refine goes_ Try.func28 (by kernel_rfl) rfl #[.int .i64 aF] (by rfl) rfl rfl MT ?_
       with_reducible refine (laws_markText.calls k1 aF aN _ A5.out).mono ?_
       rintro e w9 ⟨rfl, hb⟩
       refine ⟨_, rfl, ?_⟩
       replace HB := bl (KL HB) hb
       (try clear hb)
       (try clear hb2)
       (try clear hk)
       (try clear hi)
       refine hK.out _ _ ⟨(CY HB.out aE), (CY HB.out aD)⟩ (fun aH => ?_)
       clear hK K
       refine nm (some 18) ?_
       refine pv aI 7 19 (tf 8 0) ?_
       refine done_ (done_of aI.out (by kernel_rfl)) ?_
       have aO : 0 ≤ (aA : Int) := OD
       have aP : aA < (l0.length : Int) := OD
       obtain ⟨aR, aS, aJ, aK⟩ := at_T49 aT.out aA aO aP
       obtain rfl : aG = aR := (by injection aS)
       replace aJ := CX HB.out aJ
       replace aK := CX HB.out aK
       replace aO := eq_true aO
       replace aP := eq_true aP
       try go_wp2
       go_ret
       exact ⟨ER, KL HB⟩
      ·rw [if_neg c7] at H
       have c7b0 : (((rd_T49 l0 aA).f1) != ((Int.tmod (wrap64 (aF + 1)) 3) == 0)) = false := by simpa using c7
       (try (have c7b1 : decide (((rd_T49 l0 aA).f1) = ((Int.tmod (wrap64 (aF + 1)) 3) == 0)) = true := by simpa using c7))
       (try (have c7b2 : (((rd_T49 l0 aA).f1) == ((Int.tmod (wrap64 (aF + 1)) 3) == 0)) = true := by simpa using c7))
       clear c7
       have H' := Aside0.mk H
       clear H
       try go_wp2
       replace HB := am (below_drew1 HB.out)
       have aL : 0 ≤ (aA : Int) := OD
       have aM : aA < (l0.length : Int) := OD
       obtain ⟨aG, aQ, aB, aC⟩ := at_T49 aT.out aA aL aM
       have aD := aC
       have aE := aB
       cases aQ
       replace aB := CX HB.out aB
       replace aC := CX HB.out aC
       replace aL := eq_true aL
       replace aM := eq_true aM
       refine start_ (n := 8) (S := fun w' => w'.cell? (aG.add ((aA).toNat * 2)) = some (.string ((rd_T49 l0 aA).f0)) ∧ w'.cell? ⟨(aG.add ((aA).toNat * 2)).block, (aG.add ((aA).toNat * 2)).off + 1, none⟩ = some (.bool ((rd_T49 l0 aA).f1))) (ds := []) (tf 0 8) (by kernel_rfl) rfl rfl ⟨(CY HB.out aE), (CY HB.out aD)⟩ (fun aH => ?_); refine with_tabW laws_heldAirS.tab4 laws_heldAirS.bits4 (fun aI aU => ?_)
       generalize wr.drew = aZ at HB aB aC aH ⊢
       refine pv aI 0 12 (tf 1 7) ?_
       refine pv aI 1 13 (tf 2 6) ?_
       refine pv aI 2 14 (tf 3 5) ?_
       refine pv aI 3 15 (tf 4 4) ?_
       refine pv aI 5 17 (tr [4, 1, 1, 2]) ?_
       refine tk 4 (some 16) (tf 6 2) (take_ofW aI.out aU.out (by kernel_rfl)) aH ?_
       refine one_ (i := 6) (N := some 18) (tf 7 1) rfl rfl (one_of aI.out (by kernel_rfl)) (by decide) (fun K hK => ?_)
       refine goes_ Try.func28 (by kernel_rfl) rfl #[.int .i64 aF] (by rfl) rfl rfl MT ?_
       with_reducible refine (laws_markText.calls k1 aF aN _ A5.out).mono ?_
       rintro e bA ⟨rfl, hb⟩
       refine ⟨_, rfl, ?_⟩
       replace HB := bl (KL HB) hb
       (try clear hb)
       (try clear hb2)
       (try clear hk)
       (try clear hi)
       refine hK.out _ _ ⟨(CY HB.out aE), (CY HB.out aD)⟩ (fun aH => ?_)
       clear hK K
       refine nm (some 18) ?_
       refine pv aI 7 19 (tf 8 0) ?_
       refine done_ (done_of aI.out (by kernel_rfl)) ?_
       have aO : 0 ≤ (aA : Int) := OD
       have aP : aA < (l0.length : Int) := OD
       obtain ⟨aR, aS, aJ, aK⟩ := at_T49 aT.out aA aO aP
       obtain rfl : aG = aR := (by injection aS)
       replace aJ := CX HB.out aJ
       replace aK := CX HB.out aK
       replace aO := eq_true aO
       replace aP := eq_true aP
       try go_wp2
       go_roundg k1
       case measure => have := HK1.out; omega
       case rel => exact ⟨(wrap64 ((wrap64 (aF + 1)) + 1)), (wrap64 (aA + 1)), (by first | rfl | (simp; done) | (simp [*]; done)), (by first | rfl | (simp; done) | (simp [*]; done)), H', ⟨by have := HK1.out; omega⟩, ⟨KL HB⟩⟩
     ·rw [if_neg c6] at H
      have c6b0 : (((rd_T49 l0 aA).f0).toList == aN.toList) = false := beq_eq_false_iff_ne.mpr c6
      have c6b1 : (((rd_T49 l0 aA).f0).toList != aN.toList) = true := bne_iff_ne.mpr c6
      obtain rfl := sj H
      try go_wp2
      replace HB := am (below_drew1 HB.out)
      have aL : 0 ≤ (aA : Int) := OD
      have aM : aA < (l0.length : Int) := OD
      obtain ⟨aG, aQ, aB, aC⟩ := at_T49 aT.out aA aL aM
      have aD := aC
      have aE := aB
      cases aQ
      replace aB := CX HB.out aB
      replace aC := CX HB.out aC
      replace aL := eq_true aL
      replace aM := eq_true aM
      refine start_ (n := 8) (S := fun w' => w'.cell? (aG.add ((aA).toNat * 2)) = some (.string ((rd_T49 l0 aA).f0)) ∧ w'.cell? ⟨(aG.add ((aA).toNat * 2)).block, (aG.add ((aA).toNat * 2)).off + 1, none⟩ = some (.bool ((rd_T49 l0 aA).f1))) (ds := []) (tf 0 8) (by kernel_rfl) rfl rfl ⟨(CY HB.out aE), (CY HB.out aD)⟩ (fun aH => ?_); refine with_tabW laws_heldAirS.tab4 laws_heldAirS.bits4 (fun aI aU => ?_)
      generalize wr.drew = bB at HB aB aC aH ⊢
      refine pv aI 0 12 (tf 1 7) ?_
      refine pv aI 1 13 (tf 2 6) ?_
      refine pv aI 2 14 (tf 3 5) ?_
      refine pv aI 3 15 (tf 4 4) ?_
      refine pv aI 5 17 (tr [4, 1, 1, 2]) ?_
      refine tk 4 (some 16) (tf 6 2) (take_ofW aI.out aU.out (by kernel_rfl)) aH ?_
      refine one_ (i := 6) (N := some 18) (tf 7 1) rfl rfl (one_of aI.out (by kernel_rfl)) (by decide) (fun K hK => ?_)
      refine goes_ Try.func28 (by kernel_rfl) rfl #[.int .i64 aF] (by rfl) rfl rfl MT ?_
      with_reducible refine (laws_markText.calls k1 aF aN _ A5.out).mono ?_
      rintro e bC ⟨rfl, hb⟩
      refine ⟨_, rfl, ?_⟩
      replace HB := bl (KL HB) hb
      (try clear hb)
      (try clear hb2)
      (try clear hk)
      (try clear hi)
      refine hK.out _ _ ⟨(CY HB.out aE), (CY HB.out aD)⟩ (fun aH => ?_)
      clear hK K
      refine nm (some 18) ?_
      refine pv aI 7 19 (tf 8 0) ?_
      refine done_ (done_of aI.out (by kernel_rfl)) ?_
      try go_wp2
      go_ret
      exact ⟨ER, KL HB⟩
    ·rw [if_neg c4] at H
     exact absurd H (by simp)
   ·rw [if_neg c3] at H
    have c3b0 : decide (aA < (l0.length : Int)) = false := decide_eq_false c3
    clear c3
    obtain rfl := sj H
    go_wp2
    go_ret
    exact ⟨ER, KL HB⟩
def laws_heldSentS.l0 : Nat → List (S54) → Int → Int → Option (Int)
 | 0, _, _, _ => none
 | k + 1, x0, x1, x5 => if x5 < (x0.length : Int) then (if 0 ≤ x5 then (if ((rd_T54 x0 x5).f0.f0) = x1 then (if ((rd_T54 x0 x5).f0.f1) = (wrap64 (x1 + 1)) then (if ((rd_T54 x0 x5).f0.f2) = (wrap64 ((wrap64 (x1 + 1)) + 1)) then ((laws_markText.f k (wrap64 ((wrap64 ((wrap64 (x1 + 1)) + 1)) + 1))).bind fun t105 => (if ((rd_T54 x0 x5).f0.f3).toList = t105.toList then (if ((rd_T54 x0 x5).f1) = (wrap64 ((wrap64 ((wrap64 ((wrap64 (x1 + 1)) + 1)) + 1)) + 1)) then (if ((rd_T54 x0 x5).f2) = (wrap64 ((wrap64 ((wrap64 ((wrap64 ((wrap64 (x1 + 1)) + 1)) + 1)) + 1)) + 1)) then (if ((rd_T54 x0 x5).f3) = (wrap64 ((wrap64 ((wrap64 ((wrap64 ((wrap64 ((wrap64 (x1 + 1)) + 1)) + 1)) + 1)) + 1)) + 1)) then (laws_heldSentS.l0 k x0 (wrap64 ((wrap64 ((wrap64 ((wrap64 ((wrap64 ((wrap64 ((wrap64 (x1 + 1)) + 1)) + 1)) + 1)) + 1)) + 1)) + 1)) (wrap64 (x5 + 1))) else (some (-1))) else (some (-1))) else (some (-1))) else (some (-1)))) else (some (-1))) else (some (-1))) else (some (-1))) else (none)) else (some x1)
def laws_heldSentS.f (k : Nat) (l0 : List (S54)) (a1 : Int) : Option (Int) := laws_heldSentS.l0 k l0 a1 0
def laws_heldSentS.T13 : Bool × List (List Nat × List Nat) := (true, [([], []), ([], []), ([0, 1], [0, 1]), ([2], [2]), ([3], [3]), ([4], [4]), ([], []), ([6], [6]), ([5, 7], [5, 7])])
def laws_heldSentS.B13 : List Nat := [0, 0, 3, 7, 15, 31, 0, 64, 255]
theorem laws_heldSentS.tab13 : rtab .any (opsOf Try.f19 13) = laws_heldSentS.T13 := by kernel_rfl
theorem laws_heldSentS.bits13 : waitsOk laws_heldSentS.T13.2 laws_heldSentS.B13 = true := by kernel_rfl
theorem laws_heldSentS.calls (k : Nat) (A0 : Option Addr) (c0 : Nat) (l0 : List (S54)) (a1 : Int) (r : Int) (w : World) (dQ : Kd.C k54 w A0 l0.length l0) (dR : l0.length ≤ c0) (h : laws_heldSentS.f k l0 a1 = some r) :
  Calls Try.prog 19 #[.slice A0 l0.length c0, .int .i64 a1] w fun e w' => e = .returned (.int .i64 r) ∧ Below w.heap.size w w' := by
 have cL := Aside0.mk dQ
 have dT := Aside0.mk dR
 clear dQ dR
 have HB := am (Below.refl w.heap.size w)
 have H : (laws_heldSentS.l0 k l0 a1 0) = some r := h
 clear h
 have H' := Aside0.mk H
 clear H
 go_enter Try.func19, Try.ntmps19
 go_wp2
 go_loopg [1, 5] k (fun kq v1 v5 w' => ∃ (aX : Int) (aA : Int), v1 = .int .i64 aX ∧ v5 = .int .i64 aA ∧ Aside0 (laws_heldSentS.l0 kq l0 aX aA = some r) ∧ Aside0 (kq ≤ k) ∧ Aside0 (Below w.heap.size w w'))
 case atStart => exact ⟨(a1), (0), (by first | rfl | (simp; done) | (simp [*]; done)), (by first | rfl | (simp; done) | (simp [*]; done)), H', ⟨Nat.le_refl _⟩, ⟨KL HB⟩⟩
 case round =>
  clear H'
  try clear c1
  try clear p2
  obtain ⟨aX, aA, rfl, rfl, HA, HK1, HB⟩ := hrel
  cases gk with
  | zero => exact absurd HA.out (by simp [laws_heldSentS.l0])
  | succ k1 =>
   have H := HA.out
   clear HA
   simp only [laws_heldSentS.l0] at H
   by_cases c3 : aA < (l0.length : Int)
   ·rw [if_pos c3] at H
    have c3b0 : decide (aA < (l0.length : Int)) = true := decide_eq_true c3
    clear c3
    by_cases c4 : 0 ≤ aA
    ·rw [if_pos c4] at H
     have c4b0 : decide (0 ≤ aA) = true := decide_eq_true c4
     clear c4
     by_cases c5 : ((rd_T54 l0 aA).f0.f0) = aX
     ·rw [if_pos c5] at H
      have c5b0 : (((rd_T54 l0 aA).f0.f0) == aX) = true := beq_iff_eq.mpr c5
      have c5b1 : (((rd_T54 l0 aA).f0.f0) != aX) = false := bne_eq_false_iff_eq.mpr c5
      clear c5
      by_cases c6 : ((rd_T54 l0 aA).f0.f1) = (wrap64 (aX + 1))
      ·rw [if_pos c6] at H
       have c6b0 : (((rd_T54 l0 aA).f0.f1) == (wrap64 (aX + 1))) = true := beq_iff_eq.mpr c6
       have c6b1 : (((rd_T54 l0 aA).f0.f1) != (wrap64 (aX + 1))) = false := bne_eq_false_iff_eq.mpr c6
       clear c6
       by_cases c7 : ((rd_T54 l0 aA).f0.f2) = (wrap64 ((wrap64 (aX + 1)) + 1))
       ·rw [if_pos c7] at H
        have c7b0 : (((rd_T54 l0 aA).f0.f2) == (wrap64 ((wrap64 (aX + 1)) + 1))) = true := beq_iff_eq.mpr c7
        have c7b1 : (((rd_T54 l0 aA).f0.f2) != (wrap64 ((wrap64 (aX + 1)) + 1))) = false := bne_eq_false_iff_eq.mpr c7
        clear c7
        replace H := bm H
        obtain ⟨cZ, dS, H⟩ := H
        replace H : (if ((rd_T54 l0 aA).f0.f3).toList = cZ.toList then (if ((rd_T54 l0 aA).f1) = (wrap64 ((wrap64 ((wrap64 ((wrap64 (aX + 1)) + 1)) + 1)) + 1)) then (if ((rd_T54 l0 aA).f2) = (wrap64 ((wrap64 ((wrap64 ((wrap64 ((wrap64 (aX + 1)) + 1)) + 1)) + 1)) + 1)) then (if ((rd_T54 l0 aA).f3) = (wrap64 ((wrap64 ((wrap64 ((wrap64 ((wrap64 ((wrap64 (aX + 1)) + 1)) + 1)) + 1)) + 1)) + 1)) then (laws_heldSentS.l0 k1 l0 (wrap64 ((wrap64 ((wrap64 ((wrap64 ((wrap64 ((wrap64 ((wrap64 (aX + 1)) + 1)) + 1)) + 1)) + 1)) + 1)) + 1)) (wrap64 (aA + 1))) else (some (-1))) else (some (-1))) else (some (-1))) else (some (-1))) = some r := H
        have A8 := Aside0.mk dS
        clear dS
        by_cases c9 : ((rd_T54 l0 aA).f0.f3).toList = cZ.toList
        ·rw [if_pos c9] at H
         have c9b0 : (((rd_T54 l0 aA).f0.f3).toList == cZ.toList) = true := beq_iff_eq.mpr c9
         have c9b1 : (((rd_T54 l0 aA).f0.f3).toList != cZ.toList) = false := bne_eq_false_iff_eq.mpr c9
         clear c9
         by_cases dM : ((rd_T54 l0 aA).f1) = (wrap64 ((wrap64 ((wrap64 ((wrap64 (aX + 1)) + 1)) + 1)) + 1))
         ·rw [if_pos dM] at H
          have c10b0 : (((rd_T54 l0 aA).f1) == (wrap64 ((wrap64 ((wrap64 ((wrap64 (aX + 1)) + 1)) + 1)) + 1))) = true := beq_iff_eq.mpr dM
          have c10b1 : (((rd_T54 l0 aA).f1) != (wrap64 ((wrap64 ((wrap64 ((wrap64 (aX + 1)) + 1)) + 1)) + 1))) = false := bne_eq_false_iff_eq.mpr dM
          clear dM
          by_cases dN : ((rd_T54 l0 aA).f2) = (wrap64 ((wrap64 ((wrap64 ((wrap64 ((wrap64 (aX + 1)) + 1)) + 1)) + 1)) + 1))
          ·rw [if_pos dN] at H
           have c11b0 : (((rd_T54 l0 aA).f2) == (wrap64 ((wrap64 ((wrap64 ((wrap64 ((wrap64 (aX + 1)) + 1)) + 1)) + 1)) + 1))) = true := beq_iff_eq.mpr dN
           have c11b1 : (((rd_T54 l0 aA).f2) != (wrap64 ((wrap64 ((wrap64 ((wrap64 ((wrap64 (aX + 1)) + 1)) + 1)) + 1)) + 1))) = false := bne_eq_false_iff_eq.mpr dN
           clear dN
           by_cases dO : ((rd_T54 l0 aA).f3) = (wrap64 ((wrap64 ((wrap64 ((wrap64 ((wrap64 ((wrap64 (aX + 1)) + 1)) + 1)) + 1)) + 1)) + 1))
           ·rw [if_pos dO] at H
            have c12b0 : (((rd_T54 l0 aA).f3) == (wrap64 ((wrap64 ((wrap64 ((wrap64 ((wrap64 ((wrap64 (aX + 1)) + 1)) + 1)) + 1)) + 1)) + 1))) = true := beq_iff_eq.mpr dO
            have c12b1 : (((rd_T54 l0 aA).f3) != (wrap64 ((wrap64 ((wrap64 ((wrap64 ((wrap64 ((wrap64 (aX + 1)) + 1)) + 1)) + 1)) + 1)) + 1))) = false := bne_eq_false_iff_eq.mpr dO
            clear dO
            have H' := Aside0.mk H
            clear H
            have bM : 0 ≤ (aA : Int) := OD
            have bN : aA < (l0.length : Int) := OD
            obtain ⟨aB, cN, aJ, aK, aL, aM, aN, aO, aP⟩ := at_T54 cL.out aA bM bN
            cases cN
            replace aJ := CX HB.out aJ
            replace aK := CX HB.out aK
            replace aL := CX HB.out aL
            replace aM := CX HB.out aM
            replace aN := CX HB.out aN
            replace aO := CX HB.out aO
            replace aP := CX HB.out aP
            replace bM := eq_true bM
            replace bN := eq_true bN
            have bW : 0 ≤ (aA : Int) := OD
            have bX : aA < (l0.length : Int) := OD
            obtain ⟨cI, cY, aQ, aR, aS, aT, aU, aV, aW⟩ := at_T54 cL.out aA bW bX
            obtain rfl : aB = cI := (by injection cY)
            replace aQ := CX HB.out aQ
            replace aR := CX HB.out aR
            replace aS := CX HB.out aS
            replace aT := CX HB.out aT
            replace aU := CX HB.out aU
            replace aV := CX HB.out aV
            replace aW := CX HB.out aW
            replace bW := eq_true bW
            replace bX := eq_true bX
            have bZ : 0 ≤ (aA : Int) := OD
            have cA : aA < (l0.length : Int) := OD
            obtain ⟨cM, dA, aY, aZ, bA, bB, bC, bD, bE⟩ := at_T54 cL.out aA bZ cA
            obtain rfl : aB = cM := (by injection dA)
            replace aY := CX HB.out aY
            replace aZ := CX HB.out aZ
            replace bA := CX HB.out bA
            replace bB := CX HB.out bB
            replace bC := CX HB.out bC
            replace bD := CX HB.out bD
            replace bE := CX HB.out bE
            replace bZ := eq_true bZ
            replace cA := eq_true cA
            try go_wp2
            replace HB := am (below_drew1 HB.out)
            have cJ : 0 ≤ (aA : Int) := OD
            have cK : aA < (l0.length : Int) := OD
            obtain ⟨cQ, dE, aC, aD, aE, aF, aG, aH, aI⟩ := at_T54 cL.out aA cJ cK
            have bF := aI
            have bG := aH
            have bH := aG
            have bI := aF
            have bJ := aE
            have bK := aD
            have bL := aC
            obtain rfl : aB = cQ := (by injection dE)
            replace aC := CX HB.out aC
            replace aD := CX HB.out aD
            replace aE := CX HB.out aE
            replace aF := CX HB.out aF
            replace aG := CX HB.out aG
            replace aH := CX HB.out aH
            replace aI := CX HB.out aI
            replace cJ := eq_true cJ
            replace cK := eq_true cK
            refine start_ (n := 9) (S := fun w' => w'.cell? (aB.add ((aA).toNat * 7)) = some (.int .i64 ((rd_T54 l0 aA).f0.f0)) ∧ w'.cell? ⟨(aB.add ((aA).toNat * 7)).block, (aB.add ((aA).toNat * 7)).off + 1, none⟩ = some (.int .i64 ((rd_T54 l0 aA).f0.f1)) ∧ w'.cell? ⟨(aB.add ((aA).toNat * 7)).block, (aB.add ((aA).toNat * 7)).off + 2, none⟩ = some (.int .i64 ((rd_T54 l0 aA).f0.f2)) ∧ w'.cell? ⟨(aB.add ((aA).toNat * 7)).block, (aB.add ((aA).toNat * 7)).off + 3, none⟩ = some (.string ((rd_T54 l0 aA).f0.f3)) ∧ w'.cell? ⟨(aB.add ((aA).toNat * 7)).block, (aB.add ((aA).toNat * 7)).off + 4, none⟩ = some (.int .i64 ((rd_T54 l0 aA).f1)) ∧ w'.cell? ⟨(aB.add ((aA).toNat * 7)).block, (aB.add ((aA).toNat * 7)).off + 5, none⟩ = some (.int .i64 ((rd_T54 l0 aA).f2)) ∧ w'.cell? ⟨(aB.add ((aA).toNat * 7)).block, (aB.add ((aA).toNat * 7)).off + 6, none⟩ = some (.int .i64 ((rd_T54 l0 aA).f3))) (ds := []) (tf 0 9) (by kernel_rfl) rfl rfl ⟨(CY HB.out bL), (CY HB.out bK), (CY HB.out bJ), (CY HB.out bI), (CY HB.out bH), (CY HB.out bG), (CY HB.out bF)⟩ (fun bO => ?_); refine with_tabW laws_heldSentS.tab13 laws_heldSentS.bits13 (fun bY dL => ?_)
            generalize wr.drew = dU at HB aC aD aE aF aG aH aI bO ⊢
            refine pv bY 0 42 (tf 1 8) ?_
            refine pv bY 1 43 (tf 2 7) ?_
            refine pv bY 2 44 (tf 3 6) ?_
            refine pv bY 3 45 (tf 4 5) ?_
            refine pv bY 4 46 (tf 5 4) ?_
            refine pv bY 6 48 (tr [5, 1, 1, 2]) ?_
            refine tk 5 (some 47) (tf 7 2) (take_ofW bY.out dL.out (by kernel_rfl)) bO ?_
            refine one_ (i := 7) (N := some 49) (tf 8 1) rfl rfl (one_of bY.out (by kernel_rfl)) (by decide) (fun K hK => ?_)
            refine goes_ Try.func28 (by kernel_rfl) rfl #[.int .i64 (wrap64 ((wrap64 ((wrap64 (aX + 1)) + 1)) + 1))] (by rfl) rfl rfl MT ?_
            with_reducible refine (laws_markText.calls k1 (wrap64 ((wrap64 ((wrap64 (aX + 1)) + 1)) + 1)) cZ _ A8.out).mono ?_
            rintro e dV ⟨rfl, hb⟩
            refine ⟨_, rfl, ?_⟩
            replace HB := bl (KL HB) hb
            (try clear hb)
            (try clear hb2)
            (try clear hk)
            (try clear hi)
            refine hK.out _ _ ⟨(CY HB.out bL), (CY HB.out bK), (CY HB.out bJ), (CY HB.out bI), (CY HB.out bH), (CY HB.out bG), (CY HB.out bF)⟩ (fun bO => ?_)
            clear hK K
            refine nm (some 49) ?_
            refine pv bY 8 50 (tf 9 0) ?_
            refine done_ (done_of bY.out (by kernel_rfl)) ?_
            have cO : 0 ≤ (aA : Int) := OD
            have cP : aA < (l0.length : Int) := OD
            obtain ⟨dB, dG, bP, bQ, bR, bS, bT, bU, bV⟩ := at_T54 cL.out aA cO cP
            obtain rfl : aB = dB := (by injection dG)
            replace bP := CX HB.out bP
            replace bQ := CX HB.out bQ
            replace bR := CX HB.out bR
            replace bS := CX HB.out bS
            replace bT := CX HB.out bT
            replace bU := CX HB.out bU
            replace bV := CX HB.out bV
            replace cO := eq_true cO
            replace cP := eq_true cP
            have dC : 0 ≤ (aA : Int) := OD
            have dD : aA < (l0.length : Int) := OD
            obtain ⟨dF, dJ, cB, cC, cD, cE, cF, cG, cH⟩ := at_T54 cL.out aA dC dD
            obtain rfl : aB = dF := (by injection dJ)
            replace cB := CX HB.out cB
            replace cC := CX HB.out cC
            replace cD := CX HB.out cD
            replace cE := CX HB.out cE
            replace cF := CX HB.out cF
            replace cG := CX HB.out cG
            replace cH := CX HB.out cH
            replace dC := eq_true dC
            replace dD := eq_true dD
            have dH : 0 ≤ (aA : Int) := OD
            have dI : aA < (l0.length : Int) := OD
            obtain ⟨dK, dP, cR, cS, cT, cU, cV, cW, cX⟩ := at_T54 cL.out aA dH dI
            obtain rfl : aB = dK := (by injection dP)
            replace cR := CX HB.out cR
            replace cS := CX HB.out cS
            replace cT := CX HB.out cT
            replace cU := CX HB.out cU
            replace cV := CX HB.out cV
            replace cW := CX HB.out cW
            replace cX := CX HB.out cX
            replace dH := eq_true dH
            replace dI := eq_true dI
            try go_wp2
            go_roundg k1
            case measure => have := HK1.out; omega
            case rel => exact ⟨(wrap64 ((wrap64 ((wrap64 ((wrap64 ((wrap64 ((wrap64 ((wrap64 (aX + 1)) + 1)) + 1)) + 1)) + 1)) + 1)) + 1)), (wrap64 (aA + 1)), (by first | rfl | (simp; done) | (simp [*]; done)), (by first | rfl | (simp; done) | (simp [*]; done)), H', ⟨by have := HK1.out; omega⟩, ⟨KL HB⟩⟩
           ·rw [if_neg dO] at H
            have c12b0 : (((rd_T54 l0 aA).f3) == (wrap64 ((wrap64 ((wrap64 ((wrap64 ((wrap64 ((wrap64 (aX + 1)) + 1)) + 1)) + 1)) + 1)) + 1))) = false := beq_eq_false_iff_ne.mpr dO
            have c12b1 : (((rd_T54 l0 aA).f3) != (wrap64 ((wrap64 ((wrap64 ((wrap64 ((wrap64 ((wrap64 (aX + 1)) + 1)) + 1)) + 1)) + 1)) + 1))) = true := bne_iff_ne.mpr dO
            obtain rfl := sj H
            have bM : 0 ≤ (aA : Int) := OD
            have bN : aA < (l0.length : Int) := OD
            obtain ⟨aB, cN, aJ, aK, aL, aM, aN, aO, aP⟩ := at_T54 cL.out aA bM bN
            cases cN
            replace aJ := CX HB.out aJ
            replace aK := CX HB.out aK
            replace aL := CX HB.out aL
            replace aM := CX HB.out aM
            replace aN := CX HB.out aN
            replace aO := CX HB.out aO
            replace aP := CX HB.out aP
            replace bM := eq_true bM
            replace bN := eq_true bN
            have bW : 0 ≤ (aA : Int) := OD
            have bX : aA < (l0.length : Int) := OD
            obtain ⟨cI, cY, aQ, aR, aS, aT, aU, aV, aW⟩ := at_T54 cL.out aA bW bX
            obtain rfl : aB = cI := (by injection cY)
            replace aQ := CX HB.out aQ
            replace aR := CX HB.out aR
            replace aS := CX HB.out aS
            replace aT := CX HB.out aT
            replace aU := CX HB.out aU
            replace aV := CX HB.out aV
            replace aW := CX HB.out aW
            replace bW := eq_true bW
            replace bX := eq_true bX
            have bZ : 0 ≤ (aA : Int) := OD
            have cA : aA < (l0.length : Int) := OD
            obtain ⟨cM, dA, aY, aZ, bA, bB, bC, bD, bE⟩ := at_T54 cL.out aA bZ cA
            obtain rfl : aB = cM := (by injection dA)
            replace aY := CX HB.out aY
            replace aZ := CX HB.out aZ
            replace bA := CX HB.out bA
            replace bB := CX HB.out bB
            replace bC := CX HB.out bC
            replace bD := CX HB.out bD
            replace bE := CX HB.out bE
            replace bZ := eq_true bZ
            replace cA := eq_true cA
            try go_wp2
            replace HB := am (below_drew1 HB.out)
            have cJ : 0 ≤ (aA : Int) := OD
            have cK : aA < (l0.length : Int) := OD
            obtain ⟨cQ, dE, aC, aD, aE, aF, aG, aH, aI⟩ := at_T54 cL.out aA cJ cK
            have bF := aI
            have bG := aH
            have bH := aG
            have bI := aF
            have bJ := aE
            have bK := aD
            have bL := aC
            obtain rfl : aB = cQ := (by injection dE)
            replace aC := CX HB.out aC
            replace aD := CX HB.out aD
            replace aE := CX HB.out aE
            replace aF := CX HB.out aF
            replace aG := CX HB.out aG
            replace aH := CX HB.out aH
            replace aI := CX HB.out aI
            replace cJ := eq_true cJ
            replace cK := eq_true cK
            refine start_ (n := 9) (S := fun w' => w'.cell? (aB.add ((aA).toNat * 7)) = some (.int .i64 ((rd_T54 l0 aA).f0.f0)) ∧ w'.cell? ⟨(aB.add ((aA).toNat * 7)).block, (aB.add ((aA).toNat * 7)).off + 1, none⟩ = some (.int .i64 ((rd_T54 l0 aA).f0.f1)) ∧ w'.cell? ⟨(aB.add ((aA).toNat * 7)).block, (aB.add ((aA).toNat * 7)).off + 2, none⟩ = some (.int .i64 ((rd_T54 l0 aA).f0.f2)) ∧ w'.cell? ⟨(aB.add ((aA).toNat * 7)).block, (aB.add ((aA).toNat * 7)).off + 3, none⟩ = some (.string ((rd_T54 l0 aA).f0.f3)) ∧ w'.cell? ⟨(aB.add ((aA).toNat * 7)).block, (aB.add ((aA).toNat * 7)).off + 4, none⟩ = some (.int .i64 ((rd_T54 l0 aA).f1)) ∧ w'.cell? ⟨(aB.add ((aA).toNat * 7)).block, (aB.add ((aA).toNat * 7)).off + 5, none⟩ = some (.int .i64 ((rd_T54 l0 aA).f2)) ∧ w'.cell? ⟨(aB.add ((aA).toNat * 7)).block, (aB.add ((aA).toNat * 7)).off + 6, none⟩ = some (.int .i64 ((rd_T54 l0 aA).f3))) (ds := []) (tf 0 9) (by kernel_rfl) rfl rfl ⟨(CY HB.out bL), (CY HB.out bK), (CY HB.out bJ), (CY HB.out bI), (CY HB.out bH), (CY HB.out bG), (CY HB.out bF)⟩ (fun bO => ?_); refine with_tabW laws_heldSentS.tab13 laws_heldSentS.bits13 (fun bY dL => ?_)
            generalize wr.drew = dW at HB aC aD aE aF aG aH aI bO ⊢
            refine pv bY 0 42 (tf 1 8) ?_
            refine pv bY 1 43 (tf 2 7) ?_
            refine pv bY 2 44 (tf 3 6) ?_
            refine pv bY 3 45 (tf 4 5) ?_
            refine pv bY 4 46 (tf 5 4) ?_
            refine pv bY 6 48 (tr [5, 1, 1, 2]) ?_
            refine tk 5 (some 47) (tf 7 2) (take_ofW bY.out dL.out (by kernel_rfl)) bO ?_
            refine one_ (i := 7) (N := some 49) (tf 8 1) rfl rfl (one_of bY.out (by kernel_rfl)) (by decide) (fun K hK => ?_)
            refine goes_ Try.func28 (by kernel_rfl) rfl #[.int .i64 (wrap64 ((wrap64 ((wrap64 (aX + 1)) + 1)) + 1))] (by rfl) rfl rfl MT ?_
            with_reducible refine (laws_markText.calls k1 (wrap64 ((wrap64 ((wrap64 (aX + 1)) + 1)) + 1)) cZ _ A8.out).mono ?_
            rintro e dX ⟨rfl, hb⟩
            refine ⟨_, rfl, ?_⟩
            replace HB := bl (KL HB) hb
            (try clear hb)
            (try clear hb2)
            (try clear hk)
            (try clear hi)
            refine hK.out _ _ ⟨(CY HB.out bL), (CY HB.out bK), (CY HB.out bJ), (CY HB.out bI), (CY HB.out bH), (CY HB.out bG), (CY HB.out bF)⟩ (fun bO => ?_)
            clear hK K
            refine nm (some 49) ?_
            refine pv bY 8 50 (tf 9 0) ?_
            refine done_ (done_of bY.out (by kernel_rfl)) ?_
            have cO : 0 ≤ (aA : Int) := OD
            have cP : aA < (l0.length : Int) := OD
            obtain ⟨dB, dG, bP, bQ, bR, bS, bT, bU, bV⟩ := at_T54 cL.out aA cO cP
            obtain rfl : aB = dB := (by injection dG)
            replace bP := CX HB.out bP
            replace bQ := CX HB.out bQ
            replace bR := CX HB.out bR
            replace bS := CX HB.out bS
            replace bT := CX HB.out bT
            replace bU := CX HB.out bU
            replace bV := CX HB.out bV
            replace cO := eq_true cO
            replace cP := eq_true cP
            have dC : 0 ≤ (aA : Int) := OD
            have dD : aA < (l0.length : Int) := OD
            obtain ⟨dF, dJ, cB, cC, cD, cE, cF, cG, cH⟩ := at_T54 cL.out aA dC dD
            obtain rfl : aB = dF := (by injection dJ)
            replace cB := CX HB.out cB
            replace cC := CX HB.out cC
            replace cD := CX HB.out cD
            replace cE := CX HB.out cE
            replace cF := CX HB.out cF
            replace cG := CX HB.out cG
            replace cH := CX HB.out cH
            replace dC := eq_true dC
            replace dD := eq_true dD
            have dH : 0 ≤ (aA : Int) := OD
            have dI : aA < (l0.length : Int) := OD
            obtain ⟨dK, dP, cR, cS, cT, cU, cV, cW, cX⟩ := at_T54 cL.out aA dH dI
            obtain rfl : aB = dK := (by injection dP)
            replace cR := CX HB.out cR
            replace cS := CX HB.out cS
            replace cT := CX HB.out cT
            replace cU := CX HB.out cU
            replace cV := CX HB.out cV
            replace cW := CX HB.out cW
            replace cX := CX HB.out cX
            replace dH := eq_true dH
            replace dI := eq_true dI
            try go_wp2
            go_ret
            exact ⟨ER, KL HB⟩
          ·rw [if_neg dN] at H
           have c11b0 : (((rd_T54 l0 aA).f2) == (wrap64 ((wrap64 ((wrap64 ((wrap64 ((wrap64 (aX + 1)) + 1)) + 1)) + 1)) + 1))) = false := beq_eq_false_iff_ne.mpr dN
           have c11b1 : (((rd_T54 l0 aA).f2) != (wrap64 ((wrap64 ((wrap64 ((wrap64 ((wrap64 (aX + 1)) + 1)) + 1)) + 1)) + 1))) = true := bne_iff_ne.mpr dN
           obtain rfl := sj H
           have bM : 0 ≤ (aA : Int) := OD
           have bN : aA < (l0.length : Int) := OD
           obtain ⟨aB, cN, aJ, aK, aL, aM, aN, aO, aP⟩ := at_T54 cL.out aA bM bN
           cases cN
           replace aJ := CX HB.out aJ
           replace aK := CX HB.out aK
           replace aL := CX HB.out aL
           replace aM := CX HB.out aM
           replace aN := CX HB.out aN
           replace aO := CX HB.out aO
           replace aP := CX HB.out aP
           replace bM := eq_true bM
           replace bN := eq_true bN
           have bW : 0 ≤ (aA : Int) := OD
           have bX : aA < (l0.length : Int) := OD
           obtain ⟨cI, cY, aQ, aR, aS, aT, aU, aV, aW⟩ := at_T54 cL.out aA bW bX
           obtain rfl : aB = cI := (by injection cY)
           replace aQ := CX HB.out aQ
           replace aR := CX HB.out aR
           replace aS := CX HB.out aS
           replace aT := CX HB.out aT
           replace aU := CX HB.out aU
           replace aV := CX HB.out aV
           replace aW := CX HB.out aW
           replace bW := eq_true bW
           replace bX := eq_true bX
           have bZ : 0 ≤ (aA : Int) := OD
           have cA : aA < (l0.length : Int) := OD
           obtain ⟨cM, dA, aY, aZ, bA, bB, bC, bD, bE⟩ := at_T54 cL.out aA bZ cA
           obtain rfl : aB = cM := (by injection dA)
           replace aY := CX HB.out aY
           replace aZ := CX HB.out aZ
           replace bA := CX HB.out bA
           replace bB := CX HB.out bB
           replace bC := CX HB.out bC
           replace bD := CX HB.out bD
           replace bE := CX HB.out bE
           replace bZ := eq_true bZ
           replace cA := eq_true cA
           try go_wp2
           replace HB := am (below_drew1 HB.out)
           have cJ : 0 ≤ (aA : Int) := OD
           have cK : aA < (l0.length : Int) := OD
           obtain ⟨cQ, dE, aC, aD, aE, aF, aG, aH, aI⟩ := at_T54 cL.out aA cJ cK
           have bF := aI
           have bG := aH
           have bH := aG
           have bI := aF
           have bJ := aE
           have bK := aD
           have bL := aC
           obtain rfl : aB = cQ := (by injection dE)
           replace aC := CX HB.out aC
           replace aD := CX HB.out aD
           replace aE := CX HB.out aE
           replace aF := CX HB.out aF
           replace aG := CX HB.out aG
           replace aH := CX HB.out aH
           replace aI := CX HB.out aI
           replace cJ := eq_true cJ
           replace cK := eq_true cK
           refine start_ (n := 9) (S := fun w' => w'.cell? (aB.add ((aA).toNat * 7)) = some (.int .i64 ((rd_T54 l0 aA).f0.f0)) ∧ w'.cell? ⟨(aB.add ((aA).toNat * 7)).block, (aB.add ((aA).toNat * 7)).off + 1, none⟩ = some (.int .i64 ((rd_T54 l0 aA).f0.f1)) ∧ w'.cell? ⟨(aB.add ((aA).toNat * 7)).block, (aB.add ((aA).toNat * 7)).off + 2, none⟩ = some (.int .i64 ((rd_T54 l0 aA).f0.f2)) ∧ w'.cell? ⟨(aB.add ((aA).toNat * 7)).block, (aB.add ((aA).toNat * 7)).off + 3, none⟩ = some (.string ((rd_T54 l0 aA).f0.f3)) ∧ w'.cell? ⟨(aB.add ((aA).toNat * 7)).block, (aB.add ((aA).toNat * 7)).off + 4, none⟩ = some (.int .i64 ((rd_T54 l0 aA).f1)) ∧ w'.cell? ⟨(aB.add ((aA).toNat * 7)).block, (aB.add ((aA).toNat * 7)).off + 5, none⟩ = some (.int .i64 ((rd_T54 l0 aA).f2)) ∧ w'.cell? ⟨(aB.add ((aA).toNat * 7)).block, (aB.add ((aA).toNat * 7)).off + 6, none⟩ = some (.int .i64 ((rd_T54 l0 aA).f3))) (ds := []) (tf 0 9) (by kernel_rfl) rfl rfl ⟨(CY HB.out bL), (CY HB.out bK), (CY HB.out bJ), (CY HB.out bI), (CY HB.out bH), (CY HB.out bG), (CY HB.out bF)⟩ (fun bO => ?_); refine with_tabW laws_heldSentS.tab13 laws_heldSentS.bits13 (fun bY dL => ?_)
           generalize wr.drew = dY at HB aC aD aE aF aG aH aI bO ⊢
           refine pv bY 0 42 (tf 1 8) ?_
           refine pv bY 1 43 (tf 2 7) ?_
           refine pv bY 2 44 (tf 3 6) ?_
           refine pv bY 3 45 (tf 4 5) ?_
           refine pv bY 4 46 (tf 5 4) ?_
           refine pv bY 6 48 (tr [5, 1, 1, 2]) ?_
           refine tk 5 (some 47) (tf 7 2) (take_ofW bY.out dL.out (by kernel_rfl)) bO ?_
           refine one_ (i := 7) (N := some 49) (tf 8 1) rfl rfl (one_of bY.out (by kernel_rfl)) (by decide) (fun K hK => ?_)
           refine goes_ Try.func28 (by kernel_rfl) rfl #[.int .i64 (wrap64 ((wrap64 ((wrap64 (aX + 1)) + 1)) + 1))] (by rfl) rfl rfl MT ?_
           with_reducible refine (laws_markText.calls k1 (wrap64 ((wrap64 ((wrap64 (aX + 1)) + 1)) + 1)) cZ _ A8.out).mono ?_
           rintro e dZ ⟨rfl, hb⟩
           refine ⟨_, rfl, ?_⟩
           replace HB := bl (KL HB) hb
           (try clear hb)
           (try clear hb2)
           (try clear hk)
           (try clear hi)
           refine hK.out _ _ ⟨(CY HB.out bL), (CY HB.out bK), (CY HB.out bJ), (CY HB.out bI), (CY HB.out bH), (CY HB.out bG), (CY HB.out bF)⟩ (fun bO => ?_)
           clear hK K
           refine nm (some 49) ?_
           refine pv bY 8 50 (tf 9 0) ?_
           refine done_ (done_of bY.out (by kernel_rfl)) ?_
           have cO : 0 ≤ (aA : Int) := OD
           have cP : aA < (l0.length : Int) := OD
           obtain ⟨dB, dG, bP, bQ, bR, bS, bT, bU, bV⟩ := at_T54 cL.out aA cO cP
           obtain rfl : aB = dB := (by injection dG)
           replace bP := CX HB.out bP
           replace bQ := CX HB.out bQ
           replace bR := CX HB.out bR
           replace bS := CX HB.out bS
           replace bT := CX HB.out bT
           replace bU := CX HB.out bU
           replace bV := CX HB.out bV
           replace cO := eq_true cO
           replace cP := eq_true cP
           have dC : 0 ≤ (aA : Int) := OD
           have dD : aA < (l0.length : Int) := OD
           obtain ⟨dF, dJ, cB, cC, cD, cE, cF, cG, cH⟩ := at_T54 cL.out aA dC dD
           obtain rfl : aB = dF := (by injection dJ)
           replace cB := CX HB.out cB
           replace cC := CX HB.out cC
           replace cD := CX HB.out cD
           replace cE := CX HB.out cE
           replace cF := CX HB.out cF
           replace cG := CX HB.out cG
           replace cH := CX HB.out cH
           replace dC := eq_true dC
           replace dD := eq_true dD
           try go_wp2
           go_ret
           exact ⟨ER, KL HB⟩
         ·rw [if_neg dM] at H
          have c10b0 : (((rd_T54 l0 aA).f1) == (wrap64 ((wrap64 ((wrap64 ((wrap64 (aX + 1)) + 1)) + 1)) + 1))) = false := beq_eq_false_iff_ne.mpr dM
          have c10b1 : (((rd_T54 l0 aA).f1) != (wrap64 ((wrap64 ((wrap64 ((wrap64 (aX + 1)) + 1)) + 1)) + 1))) = true := bne_iff_ne.mpr dM
          obtain rfl := sj H
          have bM : 0 ≤ (aA : Int) := OD
          have bN : aA < (l0.length : Int) := OD
          obtain ⟨aB, cN, aJ, aK, aL, aM, aN, aO, aP⟩ := at_T54 cL.out aA bM bN
          cases cN
          replace aJ := CX HB.out aJ
          replace aK := CX HB.out aK
          replace aL := CX HB.out aL
          replace aM := CX HB.out aM
          replace aN := CX HB.out aN
          replace aO := CX HB.out aO
          replace aP := CX HB.out aP
          replace bM := eq_true bM
          replace bN := eq_true bN
          have bW : 0 ≤ (aA : Int) := OD
          have bX : aA < (l0.length : Int) := OD
          obtain ⟨cI, cY, aQ, aR, aS, aT, aU, aV, aW⟩ := at_T54 cL.out aA bW bX
          obtain rfl : aB = cI := (by injection cY)
          replace aQ := CX HB.out aQ
          replace aR := CX HB.out aR
          replace aS := CX HB.out aS
          replace aT := CX HB.out aT
          replace aU := CX HB.out aU
          replace aV := CX HB.out aV
          replace aW := CX HB.out aW
          replace bW := eq_true bW
          replace bX := eq_true bX
          have bZ : 0 ≤ (aA : Int) := OD
          have cA : aA < (l0.length : Int) := OD
          obtain ⟨cM, dA, aY, aZ, bA, bB, bC, bD, bE⟩ := at_T54 cL.out aA bZ cA
          obtain rfl : aB = cM := (by injection dA)
          replace aY := CX HB.out aY
          replace aZ := CX HB.out aZ
          replace bA := CX HB.out bA
          replace bB := CX HB.out bB
          replace bC := CX HB.out bC
          replace bD := CX HB.out bD
          replace bE := CX HB.out bE
          replace bZ := eq_true bZ
          replace cA := eq_true cA
          try go_wp2
          replace HB := am (below_drew1 HB.out)
          have cJ : 0 ≤ (aA : Int) := OD
          have cK : aA < (l0.length : Int) := OD
          obtain ⟨cQ, dE, aC, aD, aE, aF, aG, aH, aI⟩ := at_T54 cL.out aA cJ cK
          have bF := aI
          have bG := aH
          have bH := aG
          have bI := aF
          have bJ := aE
          have bK := aD
          have bL := aC
          obtain rfl : aB = cQ := (by injection dE)
          replace aC := CX HB.out aC
          replace aD := CX HB.out aD
          replace aE := CX HB.out aE
          replace aF := CX HB.out aF
          replace aG := CX HB.out aG
          replace aH := CX HB.out aH
          replace aI := CX HB.out aI
          replace cJ := eq_true cJ
          replace cK := eq_true cK
          refine start_ (n := 9) (S := fun w' => w'.cell? (aB.add ((aA).toNat * 7)) = some (.int .i64 ((rd_T54 l0 aA).f0.f0)) ∧ w'.cell? ⟨(aB.add ((aA).toNat * 7)).block, (aB.add ((aA).toNat * 7)).off + 1, none⟩ = some (.int .i64 ((rd_T54 l0 aA).f0.f1)) ∧ w'.cell? ⟨(aB.add ((aA).toNat * 7)).block, (aB.add ((aA).toNat * 7)).off + 2, none⟩ = some (.int .i64 ((rd_T54 l0 aA).f0.f2)) ∧ w'.cell? ⟨(aB.add ((aA).toNat * 7)).block, (aB.add ((aA).toNat * 7)).off + 3, none⟩ = some (.string ((rd_T54 l0 aA).f0.f3)) ∧ w'.cell? ⟨(aB.add ((aA).toNat * 7)).block, (aB.add ((aA).toNat * 7)).off + 4, none⟩ = some (.int .i64 ((rd_T54 l0 aA).f1)) ∧ w'.cell? ⟨(aB.add ((aA).toNat * 7)).block, (aB.add ((aA).toNat * 7)).off + 5, none⟩ = some (.int .i64 ((rd_T54 l0 aA).f2)) ∧ w'.cell? ⟨(aB.add ((aA).toNat * 7)).block, (aB.add ((aA).toNat * 7)).off + 6, none⟩ = some (.int .i64 ((rd_T54 l0 aA).f3))) (ds := []) (tf 0 9) (by kernel_rfl) rfl rfl ⟨(CY HB.out bL), (CY HB.out bK), (CY HB.out bJ), (CY HB.out bI), (CY HB.out bH), (CY HB.out bG), (CY HB.out bF)⟩ (fun bO => ?_); refine with_tabW laws_heldSentS.tab13 laws_heldSentS.bits13 (fun bY dL => ?_)
          generalize wr.drew = eA at HB aC aD aE aF aG aH aI bO ⊢
          refine pv bY 0 42 (tf 1 8) ?_
          refine pv bY 1 43 (tf 2 7) ?_
          refine pv bY 2 44 (tf 3 6) ?_
          refine pv bY 3 45 (tf 4 5) ?_
          refine pv bY 4 46 (tf 5 4) ?_
          refine pv bY 6 48 (tr [5, 1, 1, 2]) ?_
          refine tk 5 (some 47) (tf 7 2) (take_ofW bY.out dL.out (by kernel_rfl)) bO ?_
          refine one_ (i := 7) (N := some 49) (tf 8 1) rfl rfl (one_of bY.out (by kernel_rfl)) (by decide) (fun K hK => ?_)
          refine goes_ Try.func28 (by kernel_rfl) rfl #[.int .i64 (wrap64 ((wrap64 ((wrap64 (aX + 1)) + 1)) + 1))] (by rfl) rfl rfl MT ?_
          with_reducible refine (laws_markText.calls k1 (wrap64 ((wrap64 ((wrap64 (aX + 1)) + 1)) + 1)) cZ _ A8.out).mono ?_
          rintro e eB ⟨rfl, hb⟩
          refine ⟨_, rfl, ?_⟩
          replace HB := bl (KL HB) hb
          (try clear hb)
          (try clear hb2)
          (try clear hk)
          (try clear hi)
          refine hK.out _ _ ⟨(CY HB.out bL), (CY HB.out bK), (CY HB.out bJ), (CY HB.out bI), (CY HB.out bH), (CY HB.out bG), (CY HB.out bF)⟩ (fun bO => ?_)
          clear hK K
          refine nm (some 49) ?_
          refine pv bY 8 50 (tf 9 0) ?_
          refine done_ (done_of bY.out (by kernel_rfl)) ?_
          have cO : 0 ≤ (aA : Int) := OD
          have cP : aA < (l0.length : Int) := OD
          obtain ⟨dB, dG, bP, bQ, bR, bS, bT, bU, bV⟩ := at_T54 cL.out aA cO cP
          obtain rfl : aB = dB := (by injection dG)
          replace bP := CX HB.out bP
          replace bQ := CX HB.out bQ
          replace bR := CX HB.out bR
          replace bS := CX HB.out bS
          replace bT := CX HB.out bT
          replace bU := CX HB.out bU
          replace bV := CX HB.out bV
          replace cO := eq_true cO
          replace cP := eq_true cP
          try go_wp2
          go_ret
          exact ⟨ER, KL HB⟩
        ·rw [if_neg c9] at H
         have c9b0 : (((rd_T54 l0 aA).f0.f3).toList == cZ.toList) = false := beq_eq_false_iff_ne.mpr c9
         have c9b1 : (((rd_T54 l0 aA).f0.f3).toList != cZ.toList) = true := bne_iff_ne.mpr c9
         obtain rfl := sj H
         have bM : 0 ≤ (aA : Int) := OD
         have bN : aA < (l0.length : Int) := OD
         obtain ⟨aB, cN, aJ, aK, aL, aM, aN, aO, aP⟩ := at_T54 cL.out aA bM bN
         cases cN
         replace aJ := CX HB.out aJ
         replace aK := CX HB.out aK
         replace aL := CX HB.out aL
         replace aM := CX HB.out aM
         replace aN := CX HB.out aN
         replace aO := CX HB.out aO
         replace aP := CX HB.out aP
         replace bM := eq_true bM
         replace bN := eq_true bN
         have bW : 0 ≤ (aA : Int) := OD
         have bX : aA < (l0.length : Int) := OD
         obtain ⟨cI, cY, aQ, aR, aS, aT, aU, aV, aW⟩ := at_T54 cL.out aA bW bX
         obtain rfl : aB = cI := (by injection cY)
         replace aQ := CX HB.out aQ
         replace aR := CX HB.out aR
         replace aS := CX HB.out aS
         replace aT := CX HB.out aT
         replace aU := CX HB.out aU
         replace aV := CX HB.out aV
         replace aW := CX HB.out aW
         replace bW := eq_true bW
         replace bX := eq_true bX
         have bZ : 0 ≤ (aA : Int) := OD
         have cA : aA < (l0.length : Int) := OD
         obtain ⟨cM, dA, aY, aZ, bA, bB, bC, bD, bE⟩ := at_T54 cL.out aA bZ cA
         obtain rfl : aB = cM := (by injection dA)
         replace aY := CX HB.out aY
         replace aZ := CX HB.out aZ
         replace bA := CX HB.out bA
         replace bB := CX HB.out bB
         replace bC := CX HB.out bC
         replace bD := CX HB.out bD
         replace bE := CX HB.out bE
         replace bZ := eq_true bZ
         replace cA := eq_true cA
         try go_wp2
         replace HB := am (below_drew1 HB.out)
         have cJ : 0 ≤ (aA : Int) := OD
         have cK : aA < (l0.length : Int) := OD
         obtain ⟨cQ, dE, aC, aD, aE, aF, aG, aH, aI⟩ := at_T54 cL.out aA cJ cK
         have bF := aI
         have bG := aH
         have bH := aG
         have bI := aF
         have bJ := aE
         have bK := aD
         have bL := aC
         obtain rfl : aB = cQ := (by injection dE)
         replace aC := CX HB.out aC
         replace aD := CX HB.out aD
         replace aE := CX HB.out aE
         replace aF := CX HB.out aF
         replace aG := CX HB.out aG
         replace aH := CX HB.out aH
         replace aI := CX HB.out aI
         replace cJ := eq_true cJ
         replace cK := eq_true cK
         refine start_ (n := 9) (S := fun w' => w'.cell? (aB.add ((aA).toNat * 7)) = some (.int .i64 ((rd_T54 l0 aA).f0.f0)) ∧ w'.cell? ⟨(aB.add ((aA).toNat * 7)).block, (aB.add ((aA).toNat * 7)).off + 1, none⟩ = some (.int .i64 ((rd_T54 l0 aA).f0.f1)) ∧ w'.cell? ⟨(aB.add ((aA).toNat * 7)).block, (aB.add ((aA).toNat * 7)).off + 2, none⟩ = some (.int .i64 ((rd_T54 l0 aA).f0.f2)) ∧ w'.cell? ⟨(aB.add ((aA).toNat * 7)).block, (aB.add ((aA).toNat * 7)).off + 3, none⟩ = some (.string ((rd_T54 l0 aA).f0.f3)) ∧ w'.cell? ⟨(aB.add ((aA).toNat * 7)).block, (aB.add ((aA).toNat * 7)).off + 4, none⟩ = some (.int .i64 ((rd_T54 l0 aA).f1)) ∧ w'.cell? ⟨(aB.add ((aA).toNat * 7)).block, (aB.add ((aA).toNat * 7)).off + 5, none⟩ = some (.int .i64 ((rd_T54 l0 aA).f2)) ∧ w'.cell? ⟨(aB.add ((aA).toNat * 7)).block, (aB.add ((aA).toNat * 7)).off + 6, none⟩ = some (.int .i64 ((rd_T54 l0 aA).f3))) (ds := []) (tf 0 9) (by kernel_rfl) rfl rfl ⟨(CY HB.out bL), (CY HB.out bK), (CY HB.out bJ), (CY HB.out bI), (CY HB.out bH), (CY HB.out bG), (CY HB.out bF)⟩ (fun bO => ?_); refine with_tabW laws_heldSentS.tab13 laws_heldSentS.bits13 (fun bY dL => ?_)
         generalize wr.drew = eC at HB aC aD aE aF aG aH aI bO ⊢
         refine pv bY 0 42 (tf 1 8) ?_
         refine pv bY 1 43 (tf 2 7) ?_
         refine pv bY 2 44 (tf 3 6) ?_
         refine pv bY 3 45 (tf 4 5) ?_
         refine pv bY 4 46 (tf 5 4) ?_
         refine pv bY 6 48 (tr [5, 1, 1, 2]) ?_
         refine tk 5 (some 47) (tf 7 2) (take_ofW bY.out dL.out (by kernel_rfl)) bO ?_
         refine one_ (i := 7) (N := some 49) (tf 8 1) rfl rfl (one_of bY.out (by kernel_rfl)) (by decide) (fun K hK => ?_)
         refine goes_ Try.func28 (by kernel_rfl) rfl #[.int .i64 (wrap64 ((wrap64 ((wrap64 (aX + 1)) + 1)) + 1))] (by rfl) rfl rfl MT ?_
         with_reducible refine (laws_markText.calls k1 (wrap64 ((wrap64 ((wrap64 (aX + 1)) + 1)) + 1)) cZ _ A8.out).mono ?_
         rintro e eD ⟨rfl, hb⟩
         refine ⟨_, rfl, ?_⟩
         replace HB := bl (KL HB) hb
         (try clear hb)
         (try clear hb2)
         (try clear hk)
         (try clear hi)
         refine hK.out _ _ ⟨(CY HB.out bL), (CY HB.out bK), (CY HB.out bJ), (CY HB.out bI), (CY HB.out bH), (CY HB.out bG), (CY HB.out bF)⟩ (fun bO => ?_)
         clear hK K
         refine nm (some 49) ?_
         refine pv bY 8 50 (tf 9 0) ?_
         refine done_ (done_of bY.out (by kernel_rfl)) ?_
         try go_wp2
         go_ret
         exact ⟨ER, KL HB⟩
       ·rw [if_neg c7] at H
        have c7b0 : (((rd_T54 l0 aA).f0.f2) == (wrap64 ((wrap64 (aX + 1)) + 1))) = false := beq_eq_false_iff_ne.mpr c7
        have c7b1 : (((rd_T54 l0 aA).f0.f2) != (wrap64 ((wrap64 (aX + 1)) + 1))) = true := bne_iff_ne.mpr c7
        obtain rfl := sj H
        have bM : 0 ≤ (aA : Int) := OD
        have bN : aA < (l0.length : Int) := OD
        obtain ⟨aB, cN, aJ, aK, aL, aM, aN, aO, aP⟩ := at_T54 cL.out aA bM bN
        cases cN
        replace aJ := CX HB.out aJ
        replace aK := CX HB.out aK
        replace aL := CX HB.out aL
        replace aM := CX HB.out aM
        replace aN := CX HB.out aN
        replace aO := CX HB.out aO
        replace aP := CX HB.out aP
        replace bM := eq_true bM
        replace bN := eq_true bN
        have bW : 0 ≤ (aA : Int) := OD
        have bX : aA < (l0.length : Int) := OD
        obtain ⟨cI, cY, aQ, aR, aS, aT, aU, aV, aW⟩ := at_T54 cL.out aA bW bX
        obtain rfl : aB = cI := (by injection cY)
        replace aQ := CX HB.out aQ
        replace aR := CX HB.out aR
        replace aS := CX HB.out aS
        replace aT := CX HB.out aT
        replace aU := CX HB.out aU
        replace aV := CX HB.out aV
        replace aW := CX HB.out aW
        replace bW := eq_true bW
        replace bX := eq_true bX
        have bZ : 0 ≤ (aA : Int) := OD
        have cA : aA < (l0.length : Int) := OD
        obtain ⟨cM, dA, aY, aZ, bA, bB, bC, bD, bE⟩ := at_T54 cL.out aA bZ cA
        obtain rfl : aB = cM := (by injection dA)
        replace aY := CX HB.out aY
        replace aZ := CX HB.out aZ
        replace bA := CX HB.out bA
        replace bB := CX HB.out bB
        replace bC := CX HB.out bC
        replace bD := CX HB.out bD
        replace bE := CX HB.out bE
        replace bZ := eq_true bZ
        replace cA := eq_true cA
        go_wp2
        go_ret
        exact ⟨ER, KL HB⟩
      ·rw [if_neg c6] at H
       have c6b0 : (((rd_T54 l0 aA).f0.f1) == (wrap64 (aX + 1))) = false := beq_eq_false_iff_ne.mpr c6
       have c6b1 : (((rd_T54 l0 aA).f0.f1) != (wrap64 (aX + 1))) = true := bne_iff_ne.mpr c6
       obtain rfl := sj H
       have bM : 0 ≤ (aA : Int) := OD
       have bN : aA < (l0.length : Int) := OD
       obtain ⟨aB, cN, aJ, aK, aL, aM, aN, aO, aP⟩ := at_T54 cL.out aA bM bN
       cases cN
       replace aJ := CX HB.out aJ
       replace aK := CX HB.out aK
       replace aL := CX HB.out aL
       replace aM := CX HB.out aM
       replace aN := CX HB.out aN
       replace aO := CX HB.out aO
       replace aP := CX HB.out aP
       replace bM := eq_true bM
       replace bN := eq_true bN
       have bW : 0 ≤ (aA : Int) := OD
       have bX : aA < (l0.length : Int) := OD
       obtain ⟨cI, cY, aQ, aR, aS, aT, aU, aV, aW⟩ := at_T54 cL.out aA bW bX
       obtain rfl : aB = cI := (by injection cY)
       replace aQ := CX HB.out aQ
       replace aR := CX HB.out aR
       replace aS := CX HB.out aS
       replace aT := CX HB.out aT
       replace aU := CX HB.out aU
       replace aV := CX HB.out aV
       replace aW := CX HB.out aW
       replace bW := eq_true bW
       replace bX := eq_true bX
       go_wp2
       go_ret
       exact ⟨ER, KL HB⟩
     ·rw [if_neg c5] at H
      have c5b0 : (((rd_T54 l0 aA).f0.f0) == aX) = false := beq_eq_false_iff_ne.mpr c5
      have c5b1 : (((rd_T54 l0 aA).f0.f0) != aX) = true := bne_iff_ne.mpr c5
      obtain rfl := sj H
      have bM : 0 ≤ (aA : Int) := OD
      have bN : aA < (l0.length : Int) := OD
      obtain ⟨aB, cN, aJ, aK, aL, aM, aN, aO, aP⟩ := at_T54 cL.out aA bM bN
      cases cN
      replace aJ := CX HB.out aJ
      replace aK := CX HB.out aK
      replace aL := CX HB.out aL
      replace aM := CX HB.out aM
      replace aN := CX HB.out aN
      replace aO := CX HB.out aO
      replace aP := CX HB.out aP
      replace bM := eq_true bM
      replace bN := eq_true bN
      go_wp2
      go_ret
      exact ⟨ER, KL HB⟩
    ·rw [if_neg c4] at H
     exact absurd H (by simp)
   ·rw [if_neg c3] at H
    have c3b0 : decide (aA < (l0.length : Int)) = false := decide_eq_false c3
    clear c3
    obtain rfl := sj H
    go_wp2
    go_ret
    exact ⟨ER, KL HB⟩
def laws_heldWorld.f (k : Nat) (a0_0 : Int) (l0_1 : List (S63)) (a0_2 : Int) (l0_3 : List (S80)) (l0_4 : List (S70)) (l0_5 : List (S70)) (a0_6 : Int) (l0_7 : List (S63)) (a0_8 : Int) (l0_9 : List (S80)) (l0_10 : List (S70)) (l0_11 : List (S70)) (l0_12 : List (S49)) (l0_13 : List (S54)) (l0_14 : List (S54)) (a1 : Int) : Option (Int) := (laws_heldGate.f k a0_0 l0_1 a0_2 l0_3 l0_4 l0_5 a1).bind fun t102 => (if t102 < 0 then (some (-1)) else ((laws_heldGate.f k a0_6 l0_7 a0_8 l0_9 l0_10 l0_11 t102).bind fun t103 => (if t103 < 0 then (some (-1)) else ((laws_heldAirS.f k l0_12 t103).bind fun t104 => (if t104 < 0 then (some (-1)) else ((laws_heldSentS.f k l0_13 t104).bind fun t105 => (if t105 < 0 then (some (-1)) else ((laws_heldSentS.f k l0_14 t105).bind fun t106 => (if t106 < 0 then (some (-1)) else (some t106))))))))))
theorem laws_heldWorld.calls (k : Nat) (aS : Int) (bI : Option Addr) (bJ : Nat) (aH : List (S63)) (aT : Int) (bK : Option Addr) (bL : Nat) (aI : List (S80)) (bM : Option Addr) (bN : Nat) (aJ : List (S70)) (bO : Option Addr) (bP : Nat) (aK : List (S70)) (aU : Int) (bQ : Option Addr) (bR : Nat) (aP : List (S63)) (aV : Int) (bS : Option Addr) (bT : Nat) (aQ : List (S80)) (aW : Option Addr) (aX : Nat) (aC : List (S70)) (aY : Option Addr) (aZ : Nat) (aD : List (S70)) (bA : Option Addr) (bB : Nat) (aE : List (S49)) (bC : Option Addr) (bD : Nat) (aF : List (S54)) (bG : Option Addr) (bH : Nat) (aG : List (S54)) (a1 : Int) (r : Int) (w : World) (dB : Kd.C k63 w bI aH.length aH) (dC : aH.length ≤ bJ) (dD : Kd.C k80 w bK aI.length aI) (dE : aI.length ≤ bL) (dF : Kd.C k70 w bM aJ.length aJ) (dG : aJ.length ≤ bN) (dH : Kd.C k70 w bO aK.length aK) (dI : aK.length ≤ bP) (dJ : Kd.C k63 w bQ aP.length aP) (dK : aP.length ≤ bR) (dL : Kd.C k80 w bS aQ.length aQ) (dM : aQ.length ≤ bT) (cP : Kd.C k70 w aW aC.length aC) (cQ : aC.length ≤ aX) (cR : Kd.C k70 w aY aD.length aD) (cS : aD.length ≤ aZ) (cT : Kd.C k49 w bA aE.length aE) (cU : aE.length ≤ bB) (cV : Kd.C k54 w bC aF.length aF) (cW : aF.length ≤ bD) (cX : Kd.C k54 w bG aG.length aG) (cY : aG.length ≤ bH) (h : laws_heldWorld.f k aS aH aT aI aJ aK aU aP aV aQ aC aD aE aF aG a1 = some r) :
  Calls Try.prog 8 #[.agg #[.int .i64 aS, .slice bI aH.length bJ, .int .i64 aT, .slice bK aI.length bL, .slice bM aJ.length bN, .slice bO aK.length bP, .int .i64 aU, .slice bQ aP.length bR, .int .i64 aV, .slice bS aQ.length bT, .slice aW aC.length aX, .slice aY aD.length aZ, .slice bA aE.length bB, .slice bC aF.length bD, .slice bG aG.length bH], .int .i64 a1] w fun e w' => e = .returned (.int .i64 r) ∧ Below w.heap.size w w' := by
 have qG := Try.underlying32
 have qH := Try.underlying28
 have bY := Aside0.mk dB
 have bZ := Aside0.mk dC
 clear dB dC
 have cA := Aside0.mk dD
 have cB := Aside0.mk dE
 clear dD dE
 have cC := Aside0.mk dF
 have cD := Aside0.mk dG
 clear dF dG
 have cE := Aside0.mk dH
 have cF := Aside0.mk dI
 clear dH dI
 have cI := Aside0.mk dJ
 have cJ := Aside0.mk dK
 clear dJ dK
 have cK := Aside0.mk dL
 have cL := Aside0.mk dM
 clear dL dM
 have bU := Aside0.mk cP
 have bV := Aside0.mk cQ
 clear cP cQ
 have bW := Aside0.mk cR
 have bX := Aside0.mk cS
 clear cR cS
 have cG := Aside0.mk cT
 have cH := Aside0.mk cU
 clear cT cU
 have cN := Aside0.mk cV
 have cO := Aside0.mk cW
 clear cV cW
 have cZ := Aside0.mk cX
 have dA := Aside0.mk cY
 clear cX cY
 have HB := am (Below.refl w.heap.size w)
 have H : ((laws_heldGate.f k aS aH aT aI aJ aK a1).bind fun aL => (if aL < 0 then (some (-1)) else ((laws_heldGate.f k aU aP aV aQ aC aD aL).bind fun aM => (if aM < 0 then (some (-1)) else ((laws_heldAirS.f k aE aM).bind fun aN => (if aN < 0 then (some (-1)) else ((laws_heldSentS.f k aF aN).bind fun aO => (if aO < 0 then (some (-1)) else ((laws_heldSentS.f k aG aO).bind fun aR => (if aR < 0 then (some (-1)) else (some aR))))))))))) = some r := h
 clear h
 replace H := bm H
 obtain ⟨aL, qD, H⟩ := H
 replace H : (if aL < 0 then (some (-1)) else ((laws_heldGate.f k aU aP aV aQ aC aD aL).bind fun aM => (if aM < 0 then (some (-1)) else ((laws_heldAirS.f k aE aM).bind fun aN => (if aN < 0 then (some (-1)) else ((laws_heldSentS.f k aF aN).bind fun aO => (if aO < 0 then (some (-1)) else ((laws_heldSentS.f k aG aO).bind fun aR => (if aR < 0 then (some (-1)) else (some aR)))))))))) = some r := H
 have A3 := Aside0.mk qD
 clear qD
 by_cases c4 : aL < 0
 ·rw [if_pos c4] at H
  have c4b0 : decide (aL < 0) = true := decide_eq_true c4
  clear c4
  obtain rfl := sj H
  go_enter Try.func8, Try.ntmps8
  go_wp2_with (first | ((with_reducible refine gate_dst (N := 2) rfl ?_); refine box_event rfl (N := 2) rfl (cs := #[.int .i64 aS, .slice bI aH.length bJ, .int .i64 aT, .slice bK aI.length bL, .slice bM aJ.length bN, .slice bO aK.length bP, .int .i64 aU, .slice bQ aP.length bR, .int .i64 aV, .slice bS aQ.length bT, .slice aW aC.length aX, .slice aY aD.length aZ, .slice bA aE.length bB, .slice bC aF.length bD, .slice bG aG.length bH]) (t := 32) BX ?_; intro cM hg w5 bE hb; have aA := am (bE); have bF := am (GH HB hg); have aB := bF; replace HB := bl (KL HB) hb; clear hb bE hg; have ⟨_, _, _, _, _, _, _, _, _, _, _, _, _, _, _, _⟩ := y15 w5 aA.out) | ((with_reducible refine gate_callee (f := 17) rfl ?_); refine goesL_ (some 8) rfl rfl Try.func17 (by kernel_rfl) rfl #[.agg #[.int .i64 aS, .slice bI aH.length bJ, .int .i64 aT, .slice bK aI.length bL, .slice bM aJ.length bN, .slice bO aK.length bP], .int .i64 a1] rfl MT ?_; (with_reducible refine (laws_heldGate.calls k aS _ _ aH aT _ _ aI _ _ aJ _ _ aK a1 aL _ ?_ ?_ ?_ ?_ ?_ ?_ ?_ ?_ A3.out).mono ?_); exact KD bY HB; exact bZ.out; exact KD cA HB; exact cB.out; exact KD cC HB; exact cD.out; exact KD cE HB; exact cF.out; rintro e w7 ⟨rfl, hb⟩; refine ⟨_, rfl, ?_⟩; replace aA := am (BB aA hb); replace HB := bl (K1 HB aB.out) hb; (try clear hb)))
  go_ret
  exact ⟨ER, K1 HB aB.out⟩
 ·rw [if_neg c4] at H
  have c4b0 : decide (aL < 0) = false := decide_eq_false c4
  clear c4
  replace H := bm H
  obtain ⟨aM, qE, H⟩ := H
  replace H : (if aM < 0 then (some (-1)) else ((laws_heldAirS.f k aE aM).bind fun aN => (if aN < 0 then (some (-1)) else ((laws_heldSentS.f k aF aN).bind fun aO => (if aO < 0 then (some (-1)) else ((laws_heldSentS.f k aG aO).bind fun aR => (if aR < 0 then (some (-1)) else (some aR)))))))) = some r := H
  have A8 := Aside0.mk qE
  clear qE
  by_cases c9 : aM < 0
  ·rw [if_pos c9] at H
   have c9b0 : decide (aM < 0) = true := decide_eq_true c9
   clear c9
   obtain rfl := sj H
   go_enter Try.func8, Try.ntmps8
   go_wp2_with (first | ((with_reducible refine gate_dst (N := 2) rfl ?_); refine box_event rfl (N := 2) rfl (cs := #[.int .i64 aS, .slice bI aH.length bJ, .int .i64 aT, .slice bK aI.length bL, .slice bM aJ.length bN, .slice bO aK.length bP, .int .i64 aU, .slice bQ aP.length bR, .int .i64 aV, .slice bS aQ.length bT, .slice aW aC.length aX, .slice aY aD.length aZ, .slice bA aE.length bB, .slice bC aF.length bD, .slice bG aG.length bH]) (t := 32) BX ?_; intro cM hg qI bE hb; have aA := am (bE); have bF := am (GH HB hg); have aB := bF; replace HB := bl (KL HB) hb; clear hb bE hg; have ⟨_, _, _, _, _, _, _, _, _, _, _, _, _, _, _, _⟩ := y15 qI aA.out) | ((with_reducible refine gate_callee (f := 17) rfl ?_); refine goesL_ (some 8) rfl rfl Try.func17 (by kernel_rfl) rfl #[.agg #[.int .i64 aS, .slice bI aH.length bJ, .int .i64 aT, .slice bK aI.length bL, .slice bM aJ.length bN, .slice bO aK.length bP], .int .i64 a1] rfl MT ?_; (with_reducible refine (laws_heldGate.calls k aS _ _ aH aT _ _ aI _ _ aJ _ _ aK a1 aL _ ?_ ?_ ?_ ?_ ?_ ?_ ?_ ?_ A3.out).mono ?_); exact KD bY HB; exact bZ.out; exact KD cA HB; exact cB.out; exact KD cC HB; exact cD.out; exact KD cE HB; exact cF.out; rintro e qJ ⟨rfl, hb⟩; refine ⟨_, rfl, ?_⟩; replace aA := am (BB aA hb); replace HB := bl (K1 HB aB.out) hb; (try clear hb); have ⟨_, _, _, _, _, _, _, _, _, _, _, _, _, _, _, _⟩ := y15 qJ aA.out) | ((with_reducible refine gate_callee (f := 17) rfl ?_); refine goesL_ (some 14) rfl rfl Try.func17 (by kernel_rfl) rfl #[.agg #[.int .i64 aU, .slice bQ aP.length bR, .int .i64 aV, .slice bS aQ.length bT, .slice aW aC.length aX, .slice aY aD.length aZ], .int .i64 aL] rfl MT ?_; (with_reducible refine (laws_heldGate.calls k aU _ _ aP aV _ _ aQ _ _ aC _ _ aD aL aM _ ?_ ?_ ?_ ?_ ?_ ?_ ?_ ?_ A8.out).mono ?_); exact KD cI HB; exact cJ.out; exact KD cK HB; exact cL.out; exact KD bU HB; exact bV.out; exact KD bW HB; exact bX.out; rintro e rB ⟨rfl, hb⟩; refine ⟨_, rfl, ?_⟩; replace aA := am (BB aA hb); replace HB := bl (K1 HB aB.out) hb; (try clear hb)))
   go_ret
   exact ⟨ER, K1 HB aB.out⟩
  ·rw [if_neg c9] at H
   have c9b0 : decide (aM < 0) = false := decide_eq_false c9
   clear c9
   replace H := bm H
   obtain ⟨aN, eA, H⟩ := H
   replace H : (if aN < 0 then (some (-1)) else ((laws_heldSentS.f k aF aN).bind fun aO => (if aO < 0 then (some (-1)) else ((laws_heldSentS.f k aG aO).bind fun aR => (if aR < 0 then (some (-1)) else (some aR)))))) = some r := H
   have iL := Aside0.mk eA
   clear eA
   by_cases dN : aN < 0
   ·rw [if_pos dN] at H
    have c16b0 : decide (aN < 0) = true := decide_eq_true dN
    clear dN
    obtain rfl := sj H
    go_enter Try.func8, Try.ntmps8
    go_wp2_with (first | ((with_reducible refine gate_dst (N := 2) rfl ?_); refine box_event rfl (N := 2) rfl (cs := #[.int .i64 aS, .slice bI aH.length bJ, .int .i64 aT, .slice bK aI.length bL, .slice bM aJ.length bN, .slice bO aK.length bP, .int .i64 aU, .slice bQ aP.length bR, .int .i64 aV, .slice bS aQ.length bT, .slice aW aC.length aX, .slice aY aD.length aZ, .slice bA aE.length bB, .slice bC aF.length bD, .slice bG aG.length bH]) (t := 32) BX ?_; intro cM hg qK bE hb; have aA := am (bE); have bF := am (GH HB hg); have aB := bF; replace HB := bl (KL HB) hb; clear hb bE hg; have ⟨_, _, _, _, _, _, _, _, _, _, _, _, _, _, _, _⟩ := y15 qK aA.out) | ((with_reducible refine gate_callee (f := 17) rfl ?_); refine goesL_ (some 8) rfl rfl Try.func17 (by kernel_rfl) rfl #[.agg #[.int .i64 aS, .slice bI aH.length bJ, .int .i64 aT, .slice bK aI.length bL, .slice bM aJ.length bN, .slice bO aK.length bP], .int .i64 a1] rfl MT ?_; (with_reducible refine (laws_heldGate.calls k aS _ _ aH aT _ _ aI _ _ aJ _ _ aK a1 aL _ ?_ ?_ ?_ ?_ ?_ ?_ ?_ ?_ A3.out).mono ?_); exact KD bY HB; exact bZ.out; exact KD cA HB; exact cB.out; exact KD cC HB; exact cD.out; exact KD cE HB; exact cF.out; rintro e qL ⟨rfl, hb⟩; refine ⟨_, rfl, ?_⟩; replace aA := am (BB aA hb); replace HB := bl (K1 HB aB.out) hb; (try clear hb); have ⟨_, _, _, _, _, _, _, _, _, _, _, _, _, _, _, _⟩ := y15 qL aA.out) | ((with_reducible refine gate_callee (f := 17) rfl ?_); refine goesL_ (some 14) rfl rfl Try.func17 (by kernel_rfl) rfl #[.agg #[.int .i64 aU, .slice bQ aP.length bR, .int .i64 aV, .slice bS aQ.length bT, .slice aW aC.length aX, .slice aY aD.length aZ], .int .i64 aL] rfl MT ?_; (with_reducible refine (laws_heldGate.calls k aU _ _ aP aV _ _ aQ _ _ aC _ _ aD aL aM _ ?_ ?_ ?_ ?_ ?_ ?_ ?_ ?_ A8.out).mono ?_); exact KD cI HB; exact cJ.out; exact KD cK HB; exact cL.out; exact KD bU HB; exact bV.out; exact KD bW HB; exact bX.out; rintro e qM ⟨rfl, hb⟩; refine ⟨_, rfl, ?_⟩; replace aA := am (BB aA hb); replace HB := bl (K1 HB aB.out) hb; (try clear hb); have ⟨_, _, _, _, _, _, _, _, _, _, _, _, _, _, _, _⟩ := y15 qM aA.out) | ((with_reducible refine gate_callee (f := 18) rfl ?_); refine goesL_ (some 20) rfl rfl Try.func18 (by kernel_rfl) rfl #[.slice bA aE.length bB, .int .i64 aM] rfl MT ?_; (with_reducible refine (laws_heldAirS.calls k _ _ aE aM aN _ ?_ ?_ iL.out).mono ?_); exact KD cG HB; exact cH.out; rintro e rC ⟨rfl, hb⟩; refine ⟨_, rfl, ?_⟩; replace aA := am (BB aA hb); replace HB := bl (K1 HB aB.out) hb; (try clear hb)))
    go_ret
    exact ⟨ER, K1 HB aB.out⟩
   ·rw [if_neg dN] at H
    have c16b0 : decide (aN < 0) = false := decide_eq_false dN
    clear dN
    replace H := bm H
    obtain ⟨aO, eQ, H⟩ := H
    replace H : (if aO < 0 then (some (-1)) else ((laws_heldSentS.f k aG aO).bind fun aR => (if aR < 0 then (some (-1)) else (some aR)))) = some r := H
    have qC := Aside0.mk eQ
    clear eQ
    by_cases dO : aO < 0
    ·rw [if_pos dO] at H
     have c25b0 : decide (aO < 0) = true := decide_eq_true dO
     clear dO
     obtain rfl := sj H
     go_enter Try.func8, Try.ntmps8
     go_wp2_with (first | ((with_reducible refine gate_dst (N := 2) rfl ?_); refine box_event rfl (N := 2) rfl (cs := #[.int .i64 aS, .slice bI aH.length bJ, .int .i64 aT, .slice bK aI.length bL, .slice bM aJ.length bN, .slice bO aK.length bP, .int .i64 aU, .slice bQ aP.length bR, .int .i64 aV, .slice bS aQ.length bT, .slice aW aC.length aX, .slice aY aD.length aZ, .slice bA aE.length bB, .slice bC aF.length bD, .slice bG aG.length bH]) (t := 32) BX ?_; intro cM hg qN bE hb; have aA := am (bE); have bF := am (GH HB hg); have aB := bF; replace HB := bl (KL HB) hb; clear hb bE hg; have ⟨_, _, _, _, _, _, _, _, _, _, _, _, _, _, _, _⟩ := y15 qN aA.out) | ((with_reducible refine gate_callee (f := 17) rfl ?_); refine goesL_ (some 8) rfl rfl Try.func17 (by kernel_rfl) rfl #[.agg #[.int .i64 aS, .slice bI aH.length bJ, .int .i64 aT, .slice bK aI.length bL, .slice bM aJ.length bN, .slice bO aK.length bP], .int .i64 a1] rfl MT ?_; (with_reducible refine (laws_heldGate.calls k aS _ _ aH aT _ _ aI _ _ aJ _ _ aK a1 aL _ ?_ ?_ ?_ ?_ ?_ ?_ ?_ ?_ A3.out).mono ?_); exact KD bY HB; exact bZ.out; exact KD cA HB; exact cB.out; exact KD cC HB; exact cD.out; exact KD cE HB; exact cF.out; rintro e qO ⟨rfl, hb⟩; refine ⟨_, rfl, ?_⟩; replace aA := am (BB aA hb); replace HB := bl (K1 HB aB.out) hb; (try clear hb); have ⟨_, _, _, _, _, _, _, _, _, _, _, _, _, _, _, _⟩ := y15 qO aA.out) | ((with_reducible refine gate_callee (f := 17) rfl ?_); refine goesL_ (some 14) rfl rfl Try.func17 (by kernel_rfl) rfl #[.agg #[.int .i64 aU, .slice bQ aP.length bR, .int .i64 aV, .slice bS aQ.length bT, .slice aW aC.length aX, .slice aY aD.length aZ], .int .i64 aL] rfl MT ?_; (with_reducible refine (laws_heldGate.calls k aU _ _ aP aV _ _ aQ _ _ aC _ _ aD aL aM _ ?_ ?_ ?_ ?_ ?_ ?_ ?_ ?_ A8.out).mono ?_); exact KD cI HB; exact cJ.out; exact KD cK HB; exact cL.out; exact KD bU HB; exact bV.out; exact KD bW HB; exact bX.out; rintro e qP ⟨rfl, hb⟩; refine ⟨_, rfl, ?_⟩; replace aA := am (BB aA hb); replace HB := bl (K1 HB aB.out) hb; (try clear hb); have ⟨_, _, _, _, _, _, _, _, _, _, _, _, _, _, _, _⟩ := y15 qP aA.out) | ((with_reducible refine gate_callee (f := 18) rfl ?_); refine goesL_ (some 20) rfl rfl Try.func18 (by kernel_rfl) rfl #[.slice bA aE.length bB, .int .i64 aM] rfl MT ?_; (with_reducible refine (laws_heldAirS.calls k _ _ aE aM aN _ ?_ ?_ iL.out).mono ?_); exact KD cG HB; exact cH.out; rintro e qQ ⟨rfl, hb⟩; refine ⟨_, rfl, ?_⟩; replace aA := am (BB aA hb); replace HB := bl (K1 HB aB.out) hb; (try clear hb); have ⟨_, _, _, _, _, _, _, _, _, _, _, _, _, _, _, _⟩ := y15 qQ aA.out) | ((with_reducible refine gate_callee (f := 19) rfl ?_); refine goesL_ (some 26) rfl rfl Try.func19 (by kernel_rfl) rfl #[.slice bC aF.length bD, .int .i64 aN] rfl MT ?_; (with_reducible refine (laws_heldSentS.calls k _ _ aF aN aO _ ?_ ?_ qC.out).mono ?_); exact KD cN HB; exact cO.out; rintro e rD ⟨rfl, hb⟩; refine ⟨_, rfl, ?_⟩; replace aA := am (BB aA hb); replace HB := bl (K1 HB aB.out) hb; (try clear hb)))
     go_ret
     exact ⟨ER, K1 HB aB.out⟩
    ·rw [if_neg dO] at H
     have c25b0 : decide (aO < 0) = false := decide_eq_false dO
     clear dO
     replace H := bm H
     obtain ⟨aR, fL, H⟩ := H
     replace H : (if aR < 0 then (some (-1)) else (some aR)) = some r := H
     have qF := Aside0.mk fL
     clear fL
     by_cases dP : aR < 0
     ·rw [if_pos dP] at H
      have c36b0 : decide (aR < 0) = true := decide_eq_true dP
      clear dP
      obtain rfl := sj H
      go_enter Try.func8, Try.ntmps8
      go_wp2_with (first | ((with_reducible refine gate_dst (N := 2) rfl ?_); refine box_event rfl (N := 2) rfl (cs := #[.int .i64 aS, .slice bI aH.length bJ, .int .i64 aT, .slice bK aI.length bL, .slice bM aJ.length bN, .slice bO aK.length bP, .int .i64 aU, .slice bQ aP.length bR, .int .i64 aV, .slice bS aQ.length bT, .slice aW aC.length aX, .slice aY aD.length aZ, .slice bA aE.length bB, .slice bC aF.length bD, .slice bG aG.length bH]) (t := 32) BX ?_; intro cM hg qR bE hb; have aA := am (bE); have bF := am (GH HB hg); have aB := bF; replace HB := bl (KL HB) hb; clear hb bE hg; have ⟨_, _, _, _, _, _, _, _, _, _, _, _, _, _, _, _⟩ := y15 qR aA.out) | ((with_reducible refine gate_callee (f := 17) rfl ?_); refine goesL_ (some 8) rfl rfl Try.func17 (by kernel_rfl) rfl #[.agg #[.int .i64 aS, .slice bI aH.length bJ, .int .i64 aT, .slice bK aI.length bL, .slice bM aJ.length bN, .slice bO aK.length bP], .int .i64 a1] rfl MT ?_; (with_reducible refine (laws_heldGate.calls k aS _ _ aH aT _ _ aI _ _ aJ _ _ aK a1 aL _ ?_ ?_ ?_ ?_ ?_ ?_ ?_ ?_ A3.out).mono ?_); exact KD bY HB; exact bZ.out; exact KD cA HB; exact cB.out; exact KD cC HB; exact cD.out; exact KD cE HB; exact cF.out; rintro e qS ⟨rfl, hb⟩; refine ⟨_, rfl, ?_⟩; replace aA := am (BB aA hb); replace HB := bl (K1 HB aB.out) hb; (try clear hb); have ⟨_, _, _, _, _, _, _, _, _, _, _, _, _, _, _, _⟩ := y15 qS aA.out) | ((with_reducible refine gate_callee (f := 17) rfl ?_); refine goesL_ (some 14) rfl rfl Try.func17 (by kernel_rfl) rfl #[.agg #[.int .i64 aU, .slice bQ aP.length bR, .int .i64 aV, .slice bS aQ.length bT, .slice aW aC.length aX, .slice aY aD.length aZ], .int .i64 aL] rfl MT ?_; (with_reducible refine (laws_heldGate.calls k aU _ _ aP aV _ _ aQ _ _ aC _ _ aD aL aM _ ?_ ?_ ?_ ?_ ?_ ?_ ?_ ?_ A8.out).mono ?_); exact KD cI HB; exact cJ.out; exact KD cK HB; exact cL.out; exact KD bU HB; exact bV.out; exact KD bW HB; exact bX.out; rintro e qT ⟨rfl, hb⟩; refine ⟨_, rfl, ?_⟩; replace aA := am (BB aA hb); replace HB := bl (K1 HB aB.out) hb; (try clear hb); have ⟨_, _, _, _, _, _, _, _, _, _, _, _, _, _, _, _⟩ := y15 qT aA.out) | ((with_reducible refine gate_callee (f := 18) rfl ?_); refine goesL_ (some 20) rfl rfl Try.func18 (by kernel_rfl) rfl #[.slice bA aE.length bB, .int .i64 aM] rfl MT ?_; (with_reducible refine (laws_heldAirS.calls k _ _ aE aM aN _ ?_ ?_ iL.out).mono ?_); exact KD cG HB; exact cH.out; rintro e qU ⟨rfl, hb⟩; refine ⟨_, rfl, ?_⟩; replace aA := am (BB aA hb); replace HB := bl (K1 HB aB.out) hb; (try clear hb); have ⟨_, _, _, _, _, _, _, _, _, _, _, _, _, _, _, _⟩ := y15 qU aA.out) | ((with_reducible refine gate_callee (f := 19) rfl ?_); refine goesL_ (some 26) rfl rfl Try.func19 (by kernel_rfl) rfl #[.slice bC aF.length bD, .int .i64 aN] rfl MT ?_; (with_reducible refine (laws_heldSentS.calls k _ _ aF aN aO _ ?_ ?_ qC.out).mono ?_); exact KD cN HB; exact cO.out; rintro e qV ⟨rfl, hb⟩; refine ⟨_, rfl, ?_⟩; replace aA := am (BB aA hb); replace HB := bl (K1 HB aB.out) hb; (try clear hb); have ⟨_, _, _, _, _, _, _, _, _, _, _, _, _, _, _, _⟩ := y15 qV aA.out) | ((with_reducible refine gate_callee (f := 19) rfl ?_); refine goesL_ (some 32) rfl rfl Try.func19 (by kernel_rfl) rfl #[.slice bG aG.length bH, .int .i64 aO] rfl MT ?_; (with_reducible refine (laws_heldSentS.calls k _ _ aG aO aR _ ?_ ?_ qF.out).mono ?_); exact KD cZ HB; exact dA.out; rintro e rE ⟨rfl, hb⟩; refine ⟨_, rfl, ?_⟩; replace aA := am (BB aA hb); replace HB := bl (K1 HB aB.out) hb; (try clear hb)))
      go_ret
      exact ⟨ER, K1 HB aB.out⟩
     ·rw [if_neg dP] at H
      have c36b0 : decide (aR < 0) = false := decide_eq_false dP
      clear dP
      obtain rfl := sj H
      go_enter Try.func8, Try.ntmps8
      go_wp2_with (first | ((with_reducible refine gate_dst (N := 2) rfl ?_); refine box_event rfl (N := 2) rfl (cs := #[.int .i64 aS, .slice bI aH.length bJ, .int .i64 aT, .slice bK aI.length bL, .slice bM aJ.length bN, .slice bO aK.length bP, .int .i64 aU, .slice bQ aP.length bR, .int .i64 aV, .slice bS aQ.length bT, .slice aW aC.length aX, .slice aY aD.length aZ, .slice bA aE.length bB, .slice bC aF.length bD, .slice bG aG.length bH]) (t := 32) BX ?_; intro cM hg qW bE hb; have aA := am (bE); have bF := am (GH HB hg); have aB := bF; replace HB := bl (KL HB) hb; clear hb bE hg; have ⟨_, _, _, _, _, _, _, _, _, _, _, _, _, _, _, _⟩ := y15 qW aA.out) | ((with_reducible refine gate_callee (f := 17) rfl ?_); refine goesL_ (some 8) rfl rfl Try.func17 (by kernel_rfl) rfl #[.agg #[.int .i64 aS, .slice bI aH.length bJ, .int .i64 aT, .slice bK aI.length bL, .slice bM aJ.length bN, .slice bO aK.length bP], .int .i64 a1] rfl MT ?_; (with_reducible refine (laws_heldGate.calls k aS _ _ aH aT _ _ aI _ _ aJ _ _ aK a1 aL _ ?_ ?_ ?_ ?_ ?_ ?_ ?_ ?_ A3.out).mono ?_); exact KD bY HB; exact bZ.out; exact KD cA HB; exact cB.out; exact KD cC HB; exact cD.out; exact KD cE HB; exact cF.out; rintro e qX ⟨rfl, hb⟩; refine ⟨_, rfl, ?_⟩; replace aA := am (BB aA hb); replace HB := bl (K1 HB aB.out) hb; (try clear hb); have ⟨_, _, _, _, _, _, _, _, _, _, _, _, _, _, _, _⟩ := y15 qX aA.out) | ((with_reducible refine gate_callee (f := 17) rfl ?_); refine goesL_ (some 14) rfl rfl Try.func17 (by kernel_rfl) rfl #[.agg #[.int .i64 aU, .slice bQ aP.length bR, .int .i64 aV, .slice bS aQ.length bT, .slice aW aC.length aX, .slice aY aD.length aZ], .int .i64 aL] rfl MT ?_; (with_reducible refine (laws_heldGate.calls k aU _ _ aP aV _ _ aQ _ _ aC _ _ aD aL aM _ ?_ ?_ ?_ ?_ ?_ ?_ ?_ ?_ A8.out).mono ?_); exact KD cI HB; exact cJ.out; exact KD cK HB; exact cL.out; exact KD bU HB; exact bV.out; exact KD bW HB; exact bX.out; rintro e qY ⟨rfl, hb⟩; refine ⟨_, rfl, ?_⟩; replace aA := am (BB aA hb); replace HB := bl (K1 HB aB.out) hb; (try clear hb); have ⟨_, _, _, _, _, _, _, _, _, _, _, _, _, _, _, _⟩ := y15 qY aA.out) | ((with_reducible refine gate_callee (f := 18) rfl ?_); refine goesL_ (some 20) rfl rfl Try.func18 (by kernel_rfl) rfl #[.slice bA aE.length bB, .int .i64 aM] rfl MT ?_; (with_reducible refine (laws_heldAirS.calls k _ _ aE aM aN _ ?_ ?_ iL.out).mono ?_); exact KD cG HB; exact cH.out; rintro e qZ ⟨rfl, hb⟩; refine ⟨_, rfl, ?_⟩; replace aA := am (BB aA hb); replace HB := bl (K1 HB aB.out) hb; (try clear hb); have ⟨_, _, _, _, _, _, _, _, _, _, _, _, _, _, _, _⟩ := y15 qZ aA.out) | ((with_reducible refine gate_callee (f := 19) rfl ?_); refine goesL_ (some 26) rfl rfl Try.func19 (by kernel_rfl) rfl #[.slice bC aF.length bD, .int .i64 aN] rfl MT ?_; (with_reducible refine (laws_heldSentS.calls k _ _ aF aN aO _ ?_ ?_ qC.out).mono ?_); exact KD cN HB; exact cO.out; rintro e rA ⟨rfl, hb⟩; refine ⟨_, rfl, ?_⟩; replace aA := am (BB aA hb); replace HB := bl (K1 HB aB.out) hb; (try clear hb); have ⟨_, _, _, _, _, _, _, _, _, _, _, _, _, _, _, _⟩ := y15 rA aA.out) | ((with_reducible refine gate_callee (f := 19) rfl ?_); refine goesL_ (some 32) rfl rfl Try.func19 (by kernel_rfl) rfl #[.slice bG aG.length bH, .int .i64 aO] rfl MT ?_; (with_reducible refine (laws_heldSentS.calls k _ _ aG aO aR _ ?_ ?_ qF.out).mono ?_); exact KD cZ HB; exact dA.out; rintro e rF ⟨rfl, hb⟩; refine ⟨_, rfl, ?_⟩; replace aA := am (BB aA hb); replace HB := bl (K1 HB aB.out) hb; (try clear hb)))
      go_ret
      exact ⟨ER, K1 HB aB.out⟩
end Go.Proofs.Ytdijeimekbinkaa.PAll
end
