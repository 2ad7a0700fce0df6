/- Contracts of the functions that the statement reaches, printed by a program out of the translation and joined with the plain laws. -/
import Derived.Test.YtmanlcakdcoekaaCFnExactWaysTo3
import Derived.Test.YtmanlcakdcoekaaCFnExactWaysTo4
import Derived.Test.YtmanlcakdcoekaaCFnExactWaysTo5
section
namespace Go.Proofs.Ytmanlcakdcoekaa.PAll
open Go.RowKit Go.Proofs.YtmanlcakdcoekaaW.PrintWords Go.Proofs.YtmanlcakdcoekaaW.PrintLast Go.Proofs.YtmanlcakdcoekaaW.PrintMore
attribute [local go_sem] max2_int min2_int max_two min_two max_three min_three max_four min_four   -- for this text's walks alone
set_option linter.unusedVariables false
set_option linter.unusedSimpArgs false
def spec_l3Spans.l0 : Nat → List (S95) → Int → List Int → List (S72) → Int → Option ((List (S72)))
 | 0, _, _, _, _, _ => none
 | k + 1, x0, x1, x5, x6, x7 => if x7 < (x5.length : Int) then (if 0 ≤ x7 then ((spec_l3Lead.f k x0 (rd x5 x7)).bind fun t111 => (if t111 = x1 then (if (wrap64 (x7 + 1)) < (x5.length : Int) then (if 0 ≤ (wrap64 (x7 + 1)) then (if (wrap64 ((x6.length : Int) - 1)) ≥ 0 then (if 0 ≤ (wrap64 ((x6.length : Int) - 1)) then (if (wrap64 ((x6.length : Int) - 1)) < (x6.length : Int) then (if (wrap64 (((rd_T72 x6 (wrap64 ((x6.length : Int) - 1))).f1) + 1)) = (rd x5 x7) then (spec_l3Spans.l0 k x0 x1 x5 (x6.set ((wrap64 ((x6.length : Int) - 1)) : Int).toNat (⟨(rd_T72 x6 (wrap64 ((x6.length : Int) - 1))).f0, wrap64 ((rd x5 (wrap64 (x7 + 1))) - 1)⟩ : S72)) (wrap64 (x7 + 1))) else (if x6.length < 8796093022208 then (spec_l3Spans.l0 k x0 x1 x5 (x6 ++ [(⟨rd x5 x7, wrap64 ((rd x5 (wrap64 (x7 + 1))) - 1)⟩ : S72)]) (wrap64 (x7 + 1))) else (none))) else (none)) else (none)) else (if x6.length < 8796093022208 then (spec_l3Spans.l0 k x0 x1 x5 (x6 ++ [(⟨rd x5 x7, wrap64 ((rd x5 (wrap64 (x7 + 1))) - 1)⟩ : S72)]) (wrap64 (x7 + 1))) else (none))) else (none)) else (if (wrap64 ((x6.length : Int) - 1)) ≥ 0 then (if 0 ≤ (wrap64 ((x6.length : Int) - 1)) then (if (wrap64 ((x6.length : Int) - 1)) < (x6.length : Int) then (if (wrap64 (((rd_T72 x6 (wrap64 ((x6.length : Int) - 1))).f1) + 1)) = (rd x5 x7) then (spec_l3Spans.l0 k x0 x1 x5 (x6.set ((wrap64 ((x6.length : Int) - 1)) : Int).toNat (⟨(rd_T72 x6 (wrap64 ((x6.length : Int) - 1))).f0, 4294967295⟩ : S72)) (wrap64 (x7 + 1))) else (if x6.length < 8796093022208 then (spec_l3Spans.l0 k x0 x1 x5 (x6 ++ [(⟨rd x5 x7, 4294967295⟩ : S72)]) (wrap64 (x7 + 1))) else (none))) else (none)) else (none)) else (if x6.length < 8796093022208 then (spec_l3Spans.l0 k x0 x1 x5 (x6 ++ [(⟨rd x5 x7, 4294967295⟩ : S72)]) (wrap64 (x7 + 1))) else (none)))) else (spec_l3Spans.l0 k x0 x1 x5 x6 (wrap64 (x7 + 1))))) else (none)) else (some x6)
def spec_l3Spans.f (k : Nat) (l0 : List (S95)) (a1 : Int) : Option ((List (S72))) := (spec_l3Edges.f k l0 (([0] : List Int))).bind fun t104 => (spec_l3Spans.l0 k l0 a1 t104 (([] : List (S72))) 0)
set_option maxHeartbeats 8000000 in
set_option maxRecDepth 100000 in
theorem spec_l3Spans.calls (k : Nat) (A0 : Option Addr) (c0 : Nat) (l0 : List (S95)) (a1 : Int) (r : List (S72)) (w : World) (hr0 : Kd.C k95 w A0 l0.length l0) (hc0 : l0.length ≤ c0) (h : spec_l3Spans.f k l0 a1 = some r) :
  Calls Try.prog 80 #[.slice A0 l0.length c0, .int .i64 a1] w fun e w' => ∃ v0_ : Value, e = .returned (v0_) ∧ Kd.R k72 72 w' w.heap.size (fun _ => True) v0_ r ∧ Below w.heap.size w w' := by
 have hu72 := Try.underlying72
 have HR0 := Aside0.mk hr0
 have HC0 := Aside0.mk hc0
 clear hr0 hc0
 have HB := am (Below.refl w.heap.size w)
 have H : ((spec_l3Edges.f k l0 (([0] : List Int))).bind fun t104 => (spec_l3Spans.l0 k l0 a1 t104 (([] : List (S72))) 0)) = some r := h
 clear h
 obtain ⟨y101, hy101⟩ : ∃ y_ : List Int, y_ = (([0] : List Int)) := ⟨_, rfl⟩
 replace H : ((spec_l3Edges.f k l0 y101).bind fun t104 => (spec_l3Spans.l0 k l0 a1 t104 (([] : List (S72))) 0)) = some r := by first | (rw [hy101]; with_reducible exact H) | (have H2_ := (Option.bind_some _ _).symm.trans H; rw [hy101]; with_reducible exact H2_) | (have H2_ := (Option.bind_some _ _).symm.trans H; with_reducible exact H2_) | with_reducible exact H | (rw [hy101]; exact H) | exact H
 have Ny101 := Aside0.mk hy101
 clear hy101
 replace H := Option.bind_eq_some_iff.mp H
 obtain ⟨t104, A30, H⟩ := H
 replace H : (spec_l3Spans.l0 k l0 a1 t104 (([] : List (S72))) 0) = some r := H
 have A3 := Aside0.mk A30
 clear A30
 obtain ⟨y107, hy107⟩ : ∃ y_ : List (S72), y_ = (([] : List (S72))) := ⟨_, rfl⟩
 replace H : (spec_l3Spans.l0 k l0 a1 t104 y107 0) = some r := by first | (rw [hy107]; with_reducible exact H) | (have H2_ := (Option.bind_some _ _).symm.trans H; rw [hy107]; with_reducible exact H2_) | (have H2_ := (Option.bind_some _ _).symm.trans H; with_reducible exact H2_) | with_reducible exact H | (rw [hy107]; exact H) | exact H
 have Ny107 := Aside0.mk hy107
 clear hy107
 have H' := Aside0.mk H
 clear H
 go_enter Try.func80, Try.ntmps80
 go_wp2_with (first | ((with_reducible refine gate_dst (N := 11) rfl ?_); refine Kd.R_lit (Kd.int .i64) _ 3 ?hg (N := 11) ?hd (xs := ([0] : List Int)) (inner := [.int .i64 0]) (ok := fun _ => True) (okp := fun _ => True) ?hr ?hp (fun _ hk => hk) trivial (Below.refl _ _) (Nat.le_refl _) (by simp) ?_; (case hd => rfl); (case hg => rfl); (case hr => first | (go_simp; done) | (go_simp; rfl)); (case hp => exact (Reps.one (show Kd.M (Kd.int .i64) _ _ _ 0 [.int .i64 0] from rfl) (Reps.none _ _))); intro v102 w4 ho5 hb hg_ hnew_; clear hg_ hnew_; (first | rw [← Ny101.out] at ho5 | (simp only [Int.reduceToNat] at ho5; rw [← Ny101.out] at ho5)); have HO103 := am (Kd.R_lower ho5 (below_size (KL HB))); replace HB := am (below_step (KL HB) hb); clear hb ho5; obtain ⟨Ao6, co6, eo6⟩ := Kd.R_slice HO103.out; subst eo6) | (go_at_call 103; (with_reducible refine (spec_l3Edges.calls k _ _ l0 (fun k_ => some k_ = (.slice Ao6 y101.length co6 : Value).ownBlock) _ _ y101 t104 _ ?side1 ?side2 ?side3 A3.out).mono ?_); (case side1 => exact KD HR0 HB); (case side2 => exact HC0.out); (case side3 => exact Kd.R_V (Kd.R_tight rfl (HO103.out))); rintro e w7 ⟨v105, rfl, ho0, hb⟩; replace HO103 := am (Kd.R_below (KR HO103) hb); have HO106 := am (Kd.V_lower (Kd.V_mono (ok' := fun k_ => True) ho0 (fun k_ hk_ => trivial)) (below_size (KL HB))); replace HB := am (below_step (KL HB) hb); (try clear hb); (try clear ho0)) | ((with_reducible refine gate_dst (N := 13) rfl ?_); refine Kd.R_lit k72 _ 72 ?hg (N := 13) ?hd (xs := ([] : List (S72))) (inner := []) (ok := fun _ => True) (okp := fun _ => True) ?hr ?hp (fun _ hk => hk) trivial (Below.refl _ _) (Nat.le_refl _) (by simp) ?_; (case hd => rfl); (case hg => rfl); (case hr => first | (go_simp; done) | (go_simp; rfl)); (case hp => exact (Reps.none _ _)); intro v108 w8 ho9 hb hg_ hnew_; clear hg_ hnew_; (first | rw [← Ny107.out] at ho9 | (simp only [Int.reduceToNat] at ho9; rw [← Ny107.out] at ho9)); replace HO103 := am (Kd.R_below (KR HO103) hb); replace HO106 := am (Kd.V_elder' (by (with_reducible repeat (first | apply Kd.V_alloc | apply Kd.V_drewN | apply Kd.V_drew)); exact HO106.out) (Kd.R_base ho9) hb); have HO109 := am (Kd.R_lower ho9 (below_size (KL HB))); replace HB := am (below_step (KL HB) hb); clear hb ho9))
 repeat (go_quiet (first | ((with_reducible refine gate_dst (N := 11) rfl ?_); refine Kd.R_lit (Kd.int .i64) _ 3 ?hg (N := 11) ?hd (xs := ([0] : List Int)) (inner := [.int .i64 0]) (ok := fun _ => True) (okp := fun _ => True) ?hr ?hp (fun _ hk => hk) trivial (Below.refl _ _) (Nat.le_refl _) (by simp) ?_; (case hd => rfl); (case hg => rfl); (case hr => first | (go_simp; done) | (go_simp; rfl)); (case hp => exact (Reps.one (show Kd.M (Kd.int .i64) _ _ _ 0 [.int .i64 0] from rfl) (Reps.none _ _))); intro v102 w4 ho5 hb hg_ hnew_; clear hg_ hnew_; (first | rw [← Ny101.out] at ho5 | (simp only [Int.reduceToNat] at ho5; rw [← Ny101.out] at ho5)); have HO103 := am (Kd.R_lower ho5 (below_size (KL HB))); replace HB := am (below_step (KL HB) hb); clear hb ho5; obtain ⟨Ao6, co6, eo6⟩ := Kd.R_slice HO103.out; subst eo6) | (go_at_call 103; (with_reducible refine (spec_l3Edges.calls k _ _ l0 (fun k_ => some k_ = (.slice Ao6 y101.length co6 : Value).ownBlock) _ _ y101 t104 _ ?side1 ?side2 ?side3 A3.out).mono ?_); (case side1 => exact KD HR0 HB); (case side2 => exact HC0.out); (case side3 => exact Kd.R_V (Kd.R_tight rfl (HO103.out))); rintro e w7 ⟨v105, rfl, ho0, hb⟩; replace HO103 := am (Kd.R_below (KR HO103) hb); have HO106 := am (Kd.V_lower (Kd.V_mono (ok' := fun k_ => True) ho0 (fun k_ hk_ => trivial)) (below_size (KL HB))); replace HB := am (below_step (KL HB) hb); (try clear hb); (try clear ho0)) | ((with_reducible refine gate_dst (N := 13) rfl ?_); refine Kd.R_lit k72 _ 72 ?hg (N := 13) ?hd (xs := ([] : List (S72))) (inner := []) (ok := fun _ => True) (okp := fun _ => True) ?hr ?hp (fun _ hk => hk) trivial (Below.refl _ _) (Nat.le_refl _) (by simp) ?_; (case hd => rfl); (case hg => rfl); (case hr => first | (go_simp; done) | (go_simp; rfl)); (case hp => exact (Reps.none _ _)); intro v108 w8 ho9 hb hg_ hnew_; clear hg_ hnew_; (first | rw [← Ny107.out] at ho9 | (simp only [Int.reduceToNat] at ho9; rw [← Ny107.out] at ho9)); replace HO103 := am (Kd.R_below (KR HO103) hb); replace HO106 := am (Kd.V_elder' (by (with_reducible repeat (first | apply Kd.V_alloc | apply Kd.V_drewN | apply Kd.V_drew)); exact HO106.out) (Kd.R_base ho9) hb); have HO109 := am (Kd.R_lower ho9 (below_size (KL HB))); replace HB := am (below_step (KL HB) hb); clear hb ho9)); try go_wp2_with (first | ((with_reducible refine gate_dst (N := 11) rfl ?_); refine Kd.R_lit (Kd.int .i64) _ 3 ?hg (N := 11) ?hd (xs := ([0] : List Int)) (inner := [.int .i64 0]) (ok := fun _ => True) (okp := fun _ => True) ?hr ?hp (fun _ hk => hk) trivial (Below.refl _ _) (Nat.le_refl _) (by simp) ?_; (case hd => rfl); (case hg => rfl); (case hr => first | (go_simp; done) | (go_simp; rfl)); (case hp => exact (Reps.one (show Kd.M (Kd.int .i64) _ _ _ 0 [.int .i64 0] from rfl) (Reps.none _ _))); intro v102 w4 ho5 hb hg_ hnew_; clear hg_ hnew_; (first | rw [← Ny101.out] at ho5 | (simp only [Int.reduceToNat] at ho5; rw [← Ny101.out] at ho5)); have HO103 := am (Kd.R_lower ho5 (below_size (KL HB))); replace HB := am (below_step (KL HB) hb); clear hb ho5; obtain ⟨Ao6, co6, eo6⟩ := Kd.R_slice HO103.out; subst eo6) | (go_at_call 103; (with_reducible refine (spec_l3Edges.calls k _ _ l0 (fun k_ => some k_ = (.slice Ao6 y101.length co6 : Value).ownBlock) _ _ y101 t104 _ ?side1 ?side2 ?side3 A3.out).mono ?_); (case side1 => exact KD HR0 HB); (case side2 => exact HC0.out); (case side3 => exact Kd.R_V (Kd.R_tight rfl (HO103.out))); rintro e w7 ⟨v105, rfl, ho0, hb⟩; replace HO103 := am (Kd.R_below (KR HO103) hb); have HO106 := am (Kd.V_lower (Kd.V_mono (ok' := fun k_ => True) ho0 (fun k_ hk_ => trivial)) (below_size (KL HB))); replace HB := am (below_step (KL HB) hb); (try clear hb); (try clear ho0)) | ((with_reducible refine gate_dst (N := 13) rfl ?_); refine Kd.R_lit k72 _ 72 ?hg (N := 13) ?hd (xs := ([] : List (S72))) (inner := []) (ok := fun _ => True) (okp := fun _ => True) ?hr ?hp (fun _ hk => hk) trivial (Below.refl _ _) (Nat.le_refl _) (by simp) ?_; (case hd => rfl); (case hg => rfl); (case hr => first | (go_simp; done) | (go_simp; rfl)); (case hp => exact (Reps.none _ _)); intro v108 w8 ho9 hb hg_ hnew_; clear hg_ hnew_; (first | rw [← Ny107.out] at ho9 | (simp only [Int.reduceToNat] at ho9; rw [← Ny107.out] at ho9)); replace HO103 := am (Kd.R_below (KR HO103) hb); replace HO106 := am (Kd.V_elder' (by (with_reducible repeat (first | apply Kd.V_alloc | apply Kd.V_drewN | apply Kd.V_drew)); exact HO106.out) (Kd.R_base ho9) hb); have HO109 := am (Kd.R_lower ho9 (below_size (KL HB))); replace HB := am (below_step (KL HB) hb); clear hb ho9)))
 go_loopg [6, 7] k (fun kq v6 v7 w' => ∃ (x6_1 : List (S72)) (x7_1 : Int), v7 = .int .i64 x7_1 ∧ Aside0 (spec_l3Spans.l0 kq l0 a1 t104 x6_1 x7_1 = some r) ∧ Aside0 (kq ≤ k) ∧ Aside0 (Kd.V (Kd.int .i64) 3 w' w.heap.size (fun k_ => some k_ ≠ (v6 : Value).ownBlock) v105 t104) ∧ Aside0 (Kd.R k72 72 w' w.heap.size (fun _ => True) v6 x6_1) ∧ Aside0 (Below w.heap.size w w'))
 case atStart => exact ⟨(y107), (0), (by first | rfl | (simp; done) | (simp [*]; done)), H', ⟨Nat.le_refl _⟩, ⟨by (with_reducible repeat (first | apply Kd.V_alloc | apply Kd.V_drewN | apply Kd.V_drew)); exact Kd.V_mono HO106.out (fun _ hk => hk.2)⟩, ⟨KR HO109⟩, ⟨KL HB⟩⟩
 case round =>
  clear H'
  try clear p2
  try clear c8
  obtain ⟨x6_1, x7_1, rfl, HA, HK1, HO_5, HO_6, HB⟩ := hrel
  cases gk with
  | zero => exact absurd HA.out (by simp [spec_l3Spans.l0])
  | succ k1 =>
   have H := HA.out
   clear HA
   simp only [spec_l3Spans.l0] at H
   by_cases c10 : x7_1 < (t104.length : Int)
   ·rw [if_pos c10] at H
    have c10b0 : decide (x7_1 < (t104.length : Int)) = true := decide_eq_true c10
    clear c10
    by_cases c11 : 0 ≤ x7_1
    ·rw [if_pos c11] at H
     have c11b0 : decide (0 ≤ x7_1) = true := decide_eq_true c11
     clear c11
     replace H := Option.bind_eq_some_iff.mp H
     obtain ⟨t111, A120, H⟩ := H
     replace H : (if t111 = a1 then (if (wrap64 (x7_1 + 1)) < (t104.length : Int) then (if 0 ≤ (wrap64 (x7_1 + 1)) then (if (wrap64 ((x6_1.length : Int) - 1)) ≥ 0 then (if 0 ≤ (wrap64 ((x6_1.length : Int) - 1)) then (if (wrap64 ((x6_1.length : Int) - 1)) < (x6_1.length : Int) then (if (wrap64 (((rd_T72 x6_1 (wrap64 ((x6_1.length : Int) - 1))).f1) + 1)) = (rd t104 x7_1) then (spec_l3Spans.l0 k1 l0 a1 t104 (x6_1.set ((wrap64 ((x6_1.length : Int) - 1)) : Int).toNat (⟨(rd_T72 x6_1 (wrap64 ((x6_1.length : Int) - 1))).f0, wrap64 ((rd t104 (wrap64 (x7_1 + 1))) - 1)⟩ : S72)) (wrap64 (x7_1 + 1))) else (if x6_1.length < 8796093022208 then (spec_l3Spans.l0 k1 l0 a1 t104 (x6_1 ++ [(⟨rd t104 x7_1, wrap64 ((rd t104 (wrap64 (x7_1 + 1))) - 1)⟩ : S72)]) (wrap64 (x7_1 + 1))) else (none))) else (none)) else (none)) else (if x6_1.length < 8796093022208 then (spec_l3Spans.l0 k1 l0 a1 t104 (x6_1 ++ [(⟨rd t104 x7_1, wrap64 ((rd t104 (wrap64 (x7_1 + 1))) - 1)⟩ : S72)]) (wrap64 (x7_1 + 1))) else (none))) else (none)) else (if (wrap64 ((x6_1.length : Int) - 1)) ≥ 0 then (if 0 ≤ (wrap64 ((x6_1.length : Int) - 1)) then (if (wrap64 ((x6_1.length : Int) - 1)) < (x6_1.length : Int) then (if (wrap64 (((rd_T72 x6_1 (wrap64 ((x6_1.length : Int) - 1))).f1) + 1)) = (rd t104 x7_1) then (spec_l3Spans.l0 k1 l0 a1 t104 (x6_1.set ((wrap64 ((x6_1.length : Int) - 1)) : Int).toNat (⟨(rd_T72 x6_1 (wrap64 ((x6_1.length : Int) - 1))).f0, 4294967295⟩ : S72)) (wrap64 (x7_1 + 1))) else (if x6_1.length < 8796093022208 then (spec_l3Spans.l0 k1 l0 a1 t104 (x6_1 ++ [(⟨rd t104 x7_1, 4294967295⟩ : S72)]) (wrap64 (x7_1 + 1))) else (none))) else (none)) else (none)) else (if x6_1.length < 8796093022208 then (spec_l3Spans.l0 k1 l0 a1 t104 (x6_1 ++ [(⟨rd t104 x7_1, 4294967295⟩ : S72)]) (wrap64 (x7_1 + 1))) else (none)))) else (spec_l3Spans.l0 k1 l0 a1 t104 x6_1 (wrap64 (x7_1 + 1)))) = some r := H
     have A12 := Aside0.mk A120
     clear A120
     by_cases c13 : t111 = a1
     ·rw [if_pos c13] at H
      have c13b0 : (t111 == a1) = true := beq_iff_eq.mpr c13
      have c13b1 : (t111 != a1) = false := bne_eq_false_iff_eq.mpr c13
      clear c13
      by_cases c14 : (wrap64 (x7_1 + 1)) < (t104.length : Int)
      ·rw [if_pos c14] at H
       have c14b0 : decide ((wrap64 (x7_1 + 1)) < (t104.length : Int)) = true := decide_eq_true c14
       clear c14
       obtain ⟨ji15, hji15⟩ : ∃ j_ : Int, (wrap64 (x7_1 + 1)) = j_ := ⟨_, rfl⟩
       replace H : (if 0 ≤ (ji15) then (if (wrap64 ((x6_1.length : Int) - 1)) ≥ 0 then (if 0 ≤ (wrap64 ((x6_1.length : Int) - 1)) then (if (wrap64 ((x6_1.length : Int) - 1)) < (x6_1.length : Int) then (if (wrap64 (((rd_T72 x6_1 (wrap64 ((x6_1.length : Int) - 1))).f1) + 1)) = (rd t104 x7_1) then (spec_l3Spans.l0 k1 l0 a1 t104 (x6_1.set ((wrap64 ((x6_1.length : Int) - 1)) : Int).toNat (⟨(rd_T72 x6_1 (wrap64 ((x6_1.length : Int) - 1))).f0, wrap64 ((rd t104 (ji15)) - 1)⟩ : S72)) ji15) else (if x6_1.length < 8796093022208 then (spec_l3Spans.l0 k1 l0 a1 t104 (x6_1 ++ [(⟨rd t104 x7_1, wrap64 ((rd t104 (ji15)) - 1)⟩ : S72)]) ji15) else (none))) else (none)) else (none)) else (if x6_1.length < 8796093022208 then (spec_l3Spans.l0 k1 l0 a1 t104 (x6_1 ++ [(⟨rd t104 x7_1, wrap64 ((rd t104 (ji15)) - 1)⟩ : S72)]) ji15) else (none))) else (none)) = some r := by first | (rw [hji15] at H; exact H) | (simp only [hji15] at H ⊢; exact H)
       (try rw [hji15] at c14b0)
       (try rw [hji15] at A12)
       have hji15w : (IntKind.i64.wrap (x7_1 + 1)) = ji15 := (i64_w _).trans hji15
       by_cases c16 : 0 ≤ (ji15)
       ·rw [if_pos c16] at H
        have c16b0 : decide (0 ≤ (ji15)) = true := decide_eq_true c16
        clear c16
        by_cases c17 : (wrap64 ((x6_1.length : Int) - 1)) ≥ 0
        ·rw [if_pos c17] at H
         have c17b0 : decide (0 ≤ (wrap64 ((x6_1.length : Int) - 1))) = true := decide_eq_true c17
         clear c17
         obtain ⟨ji18, hji18⟩ : ∃ j_ : Int, (wrap64 ((x6_1.length : Int) - 1)) = j_ := ⟨_, rfl⟩
         replace H : (if 0 ≤ (ji18) then (if (ji18) < (x6_1.length : Int) then (if (wrap64 (((rd_T72 x6_1 (ji18)).f1) + 1)) = (rd t104 x7_1) then (spec_l3Spans.l0 k1 l0 a1 t104 (x6_1.set ((ji18) : Int).toNat (⟨(rd_T72 x6_1 (ji18)).f0, wrap64 ((rd t104 (ji15)) - 1)⟩ : S72)) ji15) else (if x6_1.length < 8796093022208 then (spec_l3Spans.l0 k1 l0 a1 t104 (x6_1 ++ [(⟨rd t104 x7_1, wrap64 ((rd t104 (ji15)) - 1)⟩ : S72)]) ji15) else (none))) else (none)) else (none)) = some r := by first | (rw [hji18] at H; exact H) | (simp only [hji18] at H ⊢; exact H)
         (try rw [hji18] at c17b0)
         (try rw [hji18] at A12)
         have hji18w : (IntKind.i64.wrap ((x6_1.length : Int) - 1)) = ji18 := (i64_w _).trans hji18
         by_cases c19 : 0 ≤ (ji18)
         ·rw [if_pos c19] at H
          have c19b0 : decide (0 ≤ (ji18)) = true := decide_eq_true c19
          clear c19
          by_cases c20 : (ji18) < (x6_1.length : Int)
          ·rw [if_pos c20] at H
           have c20b0 : decide ((ji18) < (x6_1.length : Int)) = true := decide_eq_true c20
           clear c20
           by_cases c21 : (wrap64 (((rd_T72 x6_1 (ji18)).f1) + 1)) = (rd t104 x7_1)
           ·rw [if_pos c21] at H
            have c21b0 : ((wrap64 (((rd_T72 x6_1 (ji18)).f1) + 1)) == (rd t104 x7_1)) = true := beq_iff_eq.mpr c21
            have c21b1 : ((wrap64 (((rd_T72 x6_1 (ji18)).f1) + 1)) != (rd t104 x7_1)) = false := bne_eq_false_iff_eq.mpr c21
            clear c21
            obtain ⟨y115, hy115⟩ : ∃ y_ : List (S72), y_ = (x6_1.set ((ji18) : Int).toNat (⟨(rd_T72 x6_1 (ji18)).f0, wrap64 ((rd t104 (ji15)) - 1)⟩ : S72)) := ⟨_, rfl⟩
            replace H : (spec_l3Spans.l0 k1 l0 a1 t104 y115 ji15) = some r := by first | (rw [hy115]; with_reducible exact H) | (have H2_ := (Option.bind_some _ _).symm.trans H; rw [hy115]; with_reducible exact H2_) | (have H2_ := (Option.bind_some _ _).symm.trans H; with_reducible exact H2_) | with_reducible exact H | (rw [hy115]; exact H) | exact H
            have Ny115 := Aside0.mk hy115
            clear hy115
            have H' := Aside0.mk H
            clear H
            obtain ⟨Ao23, co23, eo23⟩ := Kd.V_slice HO_5.out
            subst eo23
            have p110 : 0 ≤ (x7_1 : Int) := OD
            have q110 : x7_1 < (t104.length : Int) := OD
            obtain ⟨ad110, e110, hx110_0⟩ := Kd.at_int (Kd.V_reads' HO_5.out).2.2 x7_1 p110 q110
            cases e110
            replace p110 := eq_true p110
            replace q110 := eq_true q110
            go_wp2_with (first | (go_at_call 104; (with_reducible refine (spec_l3Lead.calls k1 _ _ l0 (rd t104 x7_1) t111 _ ?side1 ?side2 A12.out).mono ?_); (case side1 => exact KD HR0 HB); (case side2 => exact HC0.out); rintro e w24 ⟨rfl, hb⟩; replace HO_5 := am (Kd.V_below (by (with_reducible repeat (first | apply Kd.V_alloc | apply Kd.V_drewN | apply Kd.V_drew)); exact HO_5.out) hb); replace HO_6 := am (Kd.R_below (KR HO_6) hb); replace HB := am (below_step (KL HB) hb); (try clear hb); (try clear hb2); (try clear hk); (try clear hi); have p112 : 0 ≤ ((ji15) : Int) := OD; have q112 : (ji15) < (t104.length : Int) := OD; obtain ⟨ad112, e112, hx112_0⟩ := Kd.at_int (Kd.V_reads' HO_5.out).2.2 (ji15) p112 q112; obtain rfl : ad110 = ad112 := (by injection e112); replace p112 := eq_true p112; replace q112 := eq_true q112; obtain ⟨Ao25, co25, eo25⟩ := Kd.R_slice HO_6.out; subst eo25; have p113 : 0 ≤ ((ji18) : Int) := OD; have q113 : (ji18) < (x6_1.length : Int) := OD; obtain ⟨ad113, e113, hx113_0, hx113_1⟩ := at_T72 (Kd.R_reads' HO_6.out).2.2 (ji18) p113 q113; cases e113; replace p113 := eq_true p113; replace q113 := eq_true q113; have p114 : 0 ≤ (x7_1 : Int) := OD; have q114 : x7_1 < (t104.length : Int) := OD; obtain ⟨ad114, e114, hx114_0⟩ := Kd.at_int (Kd.V_reads' HO_5.out).2.2 x7_1 p114 q114; obtain rfl : ad110 = ad114 := (by injection e114); replace p114 := eq_true p114; replace q114 := eq_true q114; have p22 : 0 ≤ ((ji18) : Int) := OD; have q22 : ((ji18) : Int) < ((x6_1.length : Int) : Int) := OD; obtain ⟨go22, co22, eo22, gb22, gl22, cl22, HG22⟩ := Kd.R_form HO_6.out (by omega); (first | cases eo22 | (injection eo22 with ea_ en_ ec_; (first | subst ea_ | (injection ea_ with ea_; subst ea_)); subst ec_; clear en_)); have GB22 := Aside0.mk gb22; have GG22 := Aside0.mk HG22; clear gb22 gl22 HG22; (first | simp only [add_plain] at hx113_0 | skip); (first | simp only [add_plain] at hx113_1 | skip); obtain ⟨ce22, hcl22, hM22, hcc22, hfr22⟩ := Kd.R_elem HO_6.out z72 ((ji18) : Int) p22 q22; obtain rfl := k72_openM hM22; have hx22_0 : w24.cell? ⟨go22, ((ji18) : Int).toNat * 2, none⟩ = some (.int .i64 ((rd_T72 x6_1 (ji18)).f0)) := hcc22 0 _ rfl; have hx22_1 : w24.cell? ⟨go22, ((ji18) : Int).toNat * 2 + 1, none⟩ = some (.int .i64 ((rd_T72 x6_1 (ji18)).f1)) := hcc22 1 _ rfl; have hf22_0 : w24.frozen? ⟨go22, ((ji18) : Int).toNat * 2, none⟩ = false := hfr22 0; have hf22_1 : w24.frozen? ⟨go22, ((ji18) : Int).toNat * 2 + 1, none⟩ = false := hfr22 1; clear hcl22 hcc22 hfr22 hM22; replace p22 := eq_true p22; replace q22 := eq_true q22; have HX26 := am (show Kd.R k72 72 w24 w.heap.size (fun _ => True) (.slice (some ⟨go22, 0, none⟩) x6_1.length co25) x6_1 from (KR HO_6)); obtain ⟨ce26, hcl26, hM26, hcc26, hfr26⟩ := Kd.R_elem HX26.out z72 ((ji18) : Int) (OD) (by have h_ : ((ji18) : Int) < ((x6_1.length : Int) : Int) := OD; first | exact h_ | (have e_ := (Kd.R_reads' HO_6.out).1; omega) | simpa using h_); obtain rfl := k72_openM hM26; have HP26 := Kd.R_seg HX26.out ((ji18) : Int) (OD) (by have h_ : ((ji18) : Int) < ((x6_1.length : Int) : Int) := OD; first | exact h_ | (have e_ := (Kd.R_reads' HO_6.out).1; omega) | simpa using h_) (seg := [.int .i64 (wrap64 ((rd t104 (ji15)) - 1))]) (j := 1) hcl26 hcc26 (show 2 ≤ 2 from by decide) (x' := (⟨(rd_T72 x6_1 (ji18)).f0, wrap64 ((rd t104 (ji15)) - 1)⟩ : S72)) (k72_mkM _ _ _ (⟨(rd_T72 x6_1 (ji18)).f0, wrap64 ((rd t104 (ji15)) - 1)⟩ : S72) ) (fun _ hk => hk); have hx26_1 := hcc26 1 _ rfl; (try simp only [show (k72).sz = 2 from rfl, Nat.mul_one, Nat.add_zero] at hx26_1); have hf26_1 := hfr26 1; (try simp only [show (k72).sz = 2 from rfl, Nat.mul_one, Nat.add_zero] at hf26_1); clear hcl26 hcc26 hfr26 hM26) | ((with_reducible refine gate_store (t := 3) (p := 61) rfl ?_); (try (rw [drewN_self w24]; generalize hq_ : World.drewN w24 _ = w24; replace HO_5 := am (v_atq hq_ HO_5.out); replace HO_6 := am (Kd.R_at hq_ HO_6.out); replace HB := am (below_at hq_ HB.out); clear hq_; (try (have HX26 := am (show Kd.R k72 72 w24 w.heap.size (fun _ => True) (.slice (some ⟨go22, 0, none⟩) x6_1.length co25) x6_1 from (KR HO_6)))); (try (obtain ⟨ce26, hcl26, hM26, hcc26, hfr26⟩ := Kd.R_elem HX26.out z72 ((ji18) : Int) (OD) (by have h_ : ((ji18) : Int) < ((x6_1.length : Int) : Int) := OD; first | exact h_ | (have e_ := (Kd.R_reads' HO_6.out).1; omega) | simpa using h_))); (try (obtain rfl := k72_openM hM26)); (try (have HP26 := Kd.R_seg HX26.out ((ji18) : Int) (OD) (by have h_ : ((ji18) : Int) < ((x6_1.length : Int) : Int) := OD; first | exact h_ | (have e_ := (Kd.R_reads' HO_6.out).1; omega) | simpa using h_) (seg := [.int .i64 (wrap64 ((rd t104 (ji15)) - 1))]) (j := 1) hcl26 hcc26 (show 2 ≤ 2 from by decide) (x' := (⟨(rd_T72 x6_1 (ji18)).f0, wrap64 ((rd t104 (ji15)) - 1)⟩ : S72)) (k72_mkM _ _ _ (⟨(rd_T72 x6_1 (ji18)).f0, wrap64 ((rd t104 (ji15)) - 1)⟩ : S72) ) (fun _ hk => hk))); (try (have hx26_1 := hcc26 1 _ rfl)); (try (try simp only [show (k72).sz = 2 from rfl, Nat.mul_one, Nat.add_zero] at hx26_1)); (try (have hf26_1 := hfr26 1)); (try (try simp only [show (k72).sz = 2 from rfl, Nat.mul_one, Nat.add_zero] at hf26_1)); (try (clear hcl26 hcc26 hfr26 hM26)))); refine store_event (t := 3) (p := 61) (v := ?vo_w27) (w1 := (w24.setCell ⟨go22, ((ji18) : Int).toNat * 2 + 1, none⟩ (.int .i64 (wrap64 ((rd t104 (ji15)) - 1))))) ?hg ?ho ?hn ?hr ?_; (case ho => rfl); (case hg => rfl); (case hn => rfl); (case hr => first | (go_simp; done) | (go_simp; rfl)); intro w27 hw; have hg : w24.grownBy w27 (some go22) := (by rw [hw]; exact HP26.2); have hp_ : Kd.R k72 72 w27 w.heap.size (fun _ => True) (.slice (some ⟨go22, 0, none⟩) x6_1.length co25) y115 := (by rw [hw, Ny115.out]; exact HP26.1); clear HP26; replace HO_5 := am (Kd.V_afterv (v := (.slice (some ⟨go22, 0, none⟩) x6_1.length co25)) (v1 := (.slice (some ⟨go22, 0, none⟩) x6_1.length co25)) (ok := (fun _ => True)) (by (with_reducible repeat (first | apply Kd.V_alloc | apply Kd.V_drewN | apply Kd.V_drew)); exact Kd.V_mono HO_5.out (fun _ hk => ⟨trivial, hk⟩)) hg (.inl rfl)); replace HO_6 := am (hp_); replace HB := am ((by rw [hw]; exact below_set (HB.out) GB22.out : Below w.heap.size w w27)); clear hg hw hp_))
            repeat (go_quiet (first | (go_at_call 104; (with_reducible refine (spec_l3Lead.calls k1 _ _ l0 (rd t104 x7_1) t111 _ ?side1 ?side2 A12.out).mono ?_); (case side1 => exact KD HR0 HB); (case side2 => exact HC0.out); rintro e w24 ⟨rfl, hb⟩; replace HO_5 := am (Kd.V_below (by (with_reducible repeat (first | apply Kd.V_alloc | apply Kd.V_drewN | apply Kd.V_drew)); exact HO_5.out) hb); replace HO_6 := am (Kd.R_below (KR HO_6) hb); replace HB := am (below_step (KL HB) hb); (try clear hb); (try clear hb2); (try clear hk); (try clear hi); have p112 : 0 ≤ ((ji15) : Int) := OD; have q112 : (ji15) < (t104.length : Int) := OD; obtain ⟨ad112, e112, hx112_0⟩ := Kd.at_int (Kd.V_reads' HO_5.out).2.2 (ji15) p112 q112; obtain rfl : ad110 = ad112 := (by injection e112); replace p112 := eq_true p112; replace q112 := eq_true q112; obtain ⟨Ao25, co25, eo25⟩ := Kd.R_slice HO_6.out; subst eo25; have p113 : 0 ≤ ((ji18) : Int) := OD; have q113 : (ji18) < (x6_1.length : Int) := OD; obtain ⟨ad113, e113, hx113_0, hx113_1⟩ := at_T72 (Kd.R_reads' HO_6.out).2.2 (ji18) p113 q113; cases e113; replace p113 := eq_true p113; replace q113 := eq_true q113; have p114 : 0 ≤ (x7_1 : Int) := OD; have q114 : x7_1 < (t104.length : Int) := OD; obtain ⟨ad114, e114, hx114_0⟩ := Kd.at_int (Kd.V_reads' HO_5.out).2.2 x7_1 p114 q114; obtain rfl : ad110 = ad114 := (by injection e114); replace p114 := eq_true p114; replace q114 := eq_true q114; have p22 : 0 ≤ ((ji18) : Int) := OD; have q22 : ((ji18) : Int) < ((x6_1.length : Int) : Int) := OD; obtain ⟨go22, co22, eo22, gb22, gl22, cl22, HG22⟩ := Kd.R_form HO_6.out (by omega); (first | cases eo22 | (injection eo22 with ea_ en_ ec_; (first | subst ea_ | (injection ea_ with ea_; subst ea_)); subst ec_; clear en_)); have GB22 := Aside0.mk gb22; have GG22 := Aside0.mk HG22; clear gb22 gl22 HG22; (first | simp only [add_plain] at hx113_0 | skip); (first | simp only [add_plain] at hx113_1 | skip); obtain ⟨ce22, hcl22, hM22, hcc22, hfr22⟩ := Kd.R_elem HO_6.out z72 ((ji18) : Int) p22 q22; obtain rfl := k72_openM hM22; have hx22_0 : w24.cell? ⟨go22, ((ji18) : Int).toNat * 2, none⟩ = some (.int .i64 ((rd_T72 x6_1 (ji18)).f0)) := hcc22 0 _ rfl; have hx22_1 : w24.cell? ⟨go22, ((ji18) : Int).toNat * 2 + 1, none⟩ = some (.int .i64 ((rd_T72 x6_1 (ji18)).f1)) := hcc22 1 _ rfl; have hf22_0 : w24.frozen? ⟨go22, ((ji18) : Int).toNat * 2, none⟩ = false := hfr22 0; have hf22_1 : w24.frozen? ⟨go22, ((ji18) : Int).toNat * 2 + 1, none⟩ = false := hfr22 1; clear hcl22 hcc22 hfr22 hM22; replace p22 := eq_true p22; replace q22 := eq_true q22; have HX26 := am (show Kd.R k72 72 w24 w.heap.size (fun _ => True) (.slice (some ⟨go22, 0, none⟩) x6_1.length co25) x6_1 from (KR HO_6)); obtain ⟨ce26, hcl26, hM26, hcc26, hfr26⟩ := Kd.R_elem HX26.out z72 ((ji18) : Int) (OD) (by have h_ : ((ji18) : Int) < ((x6_1.length : Int) : Int) := OD; first | exact h_ | (have e_ := (Kd.R_reads' HO_6.out).1; omega) | simpa using h_); obtain rfl := k72_openM hM26; have HP26 := Kd.R_seg HX26.out ((ji18) : Int) (OD) (by have h_ : ((ji18) : Int) < ((x6_1.length : Int) : Int) := OD; first | exact h_ | (have e_ := (Kd.R_reads' HO_6.out).1; omega) | simpa using h_) (seg := [.int .i64 (wrap64 ((rd t104 (ji15)) - 1))]) (j := 1) hcl26 hcc26 (show 2 ≤ 2 from by decide) (x' := (⟨(rd_T72 x6_1 (ji18)).f0, wrap64 ((rd t104 (ji15)) - 1)⟩ : S72)) (k72_mkM _ _ _ (⟨(rd_T72 x6_1 (ji18)).f0, wrap64 ((rd t104 (ji15)) - 1)⟩ : S72) ) (fun _ hk => hk); have hx26_1 := hcc26 1 _ rfl; (try simp only [show (k72).sz = 2 from rfl, Nat.mul_one, Nat.add_zero] at hx26_1); have hf26_1 := hfr26 1; (try simp only [show (k72).sz = 2 from rfl, Nat.mul_one, Nat.add_zero] at hf26_1); clear hcl26 hcc26 hfr26 hM26) | ((with_reducible refine gate_store (t := 3) (p := 61) rfl ?_); (try (rw [drewN_self w24]; generalize hq_ : World.drewN w24 _ = w24; replace HO_5 := am (v_atq hq_ HO_5.out); replace HO_6 := am (Kd.R_at hq_ HO_6.out); replace HB := am (below_at hq_ HB.out); clear hq_; (try (have HX26 := am (show Kd.R k72 72 w24 w.heap.size (fun _ => True) (.slice (some ⟨go22, 0, none⟩) x6_1.length co25) x6_1 from (KR HO_6)))); (try (obtain ⟨ce26, hcl26, hM26, hcc26, hfr26⟩ := Kd.R_elem HX26.out z72 ((ji18) : Int) (OD) (by have h_ : ((ji18) : Int) < ((x6_1.length : Int) : Int) := OD; first | exact h_ | (have e_ := (Kd.R_reads' HO_6.out).1; omega) | simpa using h_))); (try (obtain rfl := k72_openM hM26)); (try (have HP26 := Kd.R_seg HX26.out ((ji18) : Int) (OD) (by have h_ : ((ji18) : Int) < ((x6_1.length : Int) : Int) := OD; first | exact h_ | (have e_ := (Kd.R_reads' HO_6.out).1; omega) | simpa using h_) (seg := [.int .i64 (wrap64 ((rd t104 (ji15)) - 1))]) (j := 1) hcl26 hcc26 (show 2 ≤ 2 from by decide) (x' := (⟨(rd_T72 x6_1 (ji18)).f0, wrap64 ((rd t104 (ji15)) - 1)⟩ : S72)) (k72_mkM _ _ _ (⟨(rd_T72 x6_1 (ji18)).f0, wrap64 ((rd t104 (ji15)) - 1)⟩ : S72) ) (fun _ hk => hk))); (try (have hx26_1 := hcc26 1 _ rfl)); (try (try simp only [show (k72).sz = 2 from rfl, Nat.mul_one, Nat.add_zero] at hx26_1)); (try (have hf26_1 := hfr26 1)); (try (try simp only [show (k72).sz = 2 from rfl, Nat.mul_one, Nat.add_zero] at hf26_1)); (try (clear hcl26 hcc26 hfr26 hM26)))); refine store_event (t := 3) (p := 61) (v := ?vo_w27) (w1 := (w24.setCell ⟨go22, ((ji18) : Int).toNat * 2 + 1, none⟩ (.int .i64 (wrap64 ((rd t104 (ji15)) - 1))))) ?hg ?ho ?hn ?hr ?_; (case ho => rfl); (case hg => rfl); (case hn => rfl); (case hr => first | (go_simp; done) | (go_simp; rfl)); intro w27 hw; have hg : w24.grownBy w27 (some go22) := (by rw [hw]; exact HP26.2); have hp_ : Kd.R k72 72 w27 w.heap.size (fun _ => True) (.slice (some ⟨go22, 0, none⟩) x6_1.length co25) y115 := (by rw [hw, Ny115.out]; exact HP26.1); clear HP26; replace HO_5 := am (Kd.V_afterv (v := (.slice (some ⟨go22, 0, none⟩) x6_1.length co25)) (v1 := (.slice (some ⟨go22, 0, none⟩) x6_1.length co25)) (ok := (fun _ => True)) (by (with_reducible repeat (first | apply Kd.V_alloc | apply Kd.V_drewN | apply Kd.V_drew)); exact Kd.V_mono HO_5.out (fun _ hk => ⟨trivial, hk⟩)) hg (.inl rfl)); replace HO_6 := am (hp_); replace HB := am ((by rw [hw]; exact below_set (HB.out) GB22.out : Below w.heap.size w w27)); clear hg hw hp_)); try go_wp2_with (first | (go_at_call 104; (with_reducible refine (spec_l3Lead.calls k1 _ _ l0 (rd t104 x7_1) t111 _ ?side1 ?side2 A12.out).mono ?_); (case side1 => exact KD HR0 HB); (case side2 => exact HC0.out); rintro e w24 ⟨rfl, hb⟩; replace HO_5 := am (Kd.V_below (by (with_reducible repeat (first | apply Kd.V_alloc | apply Kd.V_drewN | apply Kd.V_drew)); exact HO_5.out) hb); replace HO_6 := am (Kd.R_below (KR HO_6) hb); replace HB := am (below_step (KL HB) hb); (try clear hb); (try clear hb2); (try clear hk); (try clear hi); have p112 : 0 ≤ ((ji15) : Int) := OD; have q112 : (ji15) < (t104.length : Int) := OD; obtain ⟨ad112, e112, hx112_0⟩ := Kd.at_int (Kd.V_reads' HO_5.out).2.2 (ji15) p112 q112; obtain rfl : ad110 = ad112 := (by injection e112); replace p112 := eq_true p112; replace q112 := eq_true q112; obtain ⟨Ao25, co25, eo25⟩ := Kd.R_slice HO_6.out; subst eo25; have p113 : 0 ≤ ((ji18) : Int) := OD; have q113 : (ji18) < (x6_1.length : Int) := OD; obtain ⟨ad113, e113, hx113_0, hx113_1⟩ := at_T72 (Kd.R_reads' HO_6.out).2.2 (ji18) p113 q113; cases e113; replace p113 := eq_true p113; replace q113 := eq_true q113; have p114 : 0 ≤ (x7_1 : Int) := OD; have q114 : x7_1 < (t104.length : Int) := OD; obtain ⟨ad114, e114, hx114_0⟩ := Kd.at_int (Kd.V_reads' HO_5.out).2.2 x7_1 p114 q114; obtain rfl : ad110 = ad114 := (by injection e114); replace p114 := eq_true p114; replace q114 := eq_true q114; have p22 : 0 ≤ ((ji18) : Int) := OD; have q22 : ((ji18) : Int) < ((x6_1.length : Int) : Int) := OD; obtain ⟨go22, co22, eo22, gb22, gl22, cl22, HG22⟩ := Kd.R_form HO_6.out (by omega); (first | cases eo22 | (injection eo22 with ea_ en_ ec_; (first | subst ea_ | (injection ea_ with ea_; subst ea_)); subst ec_; clear en_)); have GB22 := Aside0.mk gb22; have GG22 := Aside0.mk HG22; clear gb22 gl22 HG22; (first | simp only [add_plain] at hx113_0 | skip); (first | simp only [add_plain] at hx113_1 | skip); obtain ⟨ce22, hcl22, hM22, hcc22, hfr22⟩ := Kd.R_elem HO_6.out z72 ((ji18) : Int) p22 q22; obtain rfl := k72_openM hM22; have hx22_0 : w24.cell? ⟨go22, ((ji18) : Int).toNat * 2, none⟩ = some (.int .i64 ((rd_T72 x6_1 (ji18)).f0)) := hcc22 0 _ rfl; have hx22_1 : w24.cell? ⟨go22, ((ji18) : Int).toNat * 2 + 1, none⟩ = some (.int .i64 ((rd_T72 x6_1 (ji18)).f1)) := hcc22 1 _ rfl; have hf22_0 : w24.frozen? ⟨go22, ((ji18) : Int).toNat * 2, none⟩ = false := hfr22 0; have hf22_1 : w24.frozen? ⟨go22, ((ji18) : Int).toNat * 2 + 1, none⟩ = false := hfr22 1; clear hcl22 hcc22 hfr22 hM22; replace p22 := eq_true p22; replace q22 := eq_true q22; have HX26 := am (show Kd.R k72 72 w24 w.heap.size (fun _ => True) (.slice (some ⟨go22, 0, none⟩) x6_1.length co25) x6_1 from (KR HO_6)); obtain ⟨ce26, hcl26, hM26, hcc26, hfr26⟩ := Kd.R_elem HX26.out z72 ((ji18) : Int) (OD) (by have h_ : ((ji18) : Int) < ((x6_1.length : Int) : Int) := OD; first | exact h_ | (have e_ := (Kd.R_reads' HO_6.out).1; omega) | simpa using h_); obtain rfl := k72_openM hM26; have HP26 := Kd.R_seg HX26.out ((ji18) : Int) (OD) (by have h_ : ((ji18) : Int) < ((x6_1.length : Int) : Int) := OD; first | exact h_ | (have e_ := (Kd.R_reads' HO_6.out).1; omega) | simpa using h_) (seg := [.int .i64 (wrap64 ((rd t104 (ji15)) - 1))]) (j := 1) hcl26 hcc26 (show 2 ≤ 2 from by decide) (x' := (⟨(rd_T72 x6_1 (ji18)).f0, wrap64 ((rd t104 (ji15)) - 1)⟩ : S72)) (k72_mkM _ _ _ (⟨(rd_T72 x6_1 (ji18)).f0, wrap64 ((rd t104 (ji15)) - 1)⟩ : S72) ) (fun _ hk => hk); have hx26_1 := hcc26 1 _ rfl; (try simp only [show (k72).sz = 2 from rfl, Nat.mul_one, Nat.add_zero] at hx26_1); have hf26_1 := hfr26 1; (try simp only [show (k72).sz = 2 from rfl, Nat.mul_one, Nat.add_zero] at hf26_1); clear hcl26 hcc26 hfr26 hM26) | ((with_reducible refine gate_store (t := 3) (p := 61) rfl ?_); (try (rw [drewN_self w24]; generalize hq_ : World.drewN w24 _ = w24; replace HO_5 := am (v_atq hq_ HO_5.out); replace HO_6 := am (Kd.R_at hq_ HO_6.out); replace HB := am (below_at hq_ HB.out); clear hq_; (try (have HX26 := am (show Kd.R k72 72 w24 w.heap.size (fun _ => True) (.slice (some ⟨go22, 0, none⟩) x6_1.length co25) x6_1 from (KR HO_6)))); (try (obtain ⟨ce26, hcl26, hM26, hcc26, hfr26⟩ := Kd.R_elem HX26.out z72 ((ji18) : Int) (OD) (by have h_ : ((ji18) : Int) < ((x6_1.length : Int) : Int) := OD; first | exact h_ | (have e_ := (Kd.R_reads' HO_6.out).1; omega) | simpa using h_))); (try (obtain rfl := k72_openM hM26)); (try (have HP26 := Kd.R_seg HX26.out ((ji18) : Int) (OD) (by have h_ : ((ji18) : Int) < ((x6_1.length : Int) : Int) := OD; first | exact h_ | (have e_ := (Kd.R_reads' HO_6.out).1; omega) | simpa using h_) (seg := [.int .i64 (wrap64 ((rd t104 (ji15)) - 1))]) (j := 1) hcl26 hcc26 (show 2 ≤ 2 from by decide) (x' := (⟨(rd_T72 x6_1 (ji18)).f0, wrap64 ((rd t104 (ji15)) - 1)⟩ : S72)) (k72_mkM _ _ _ (⟨(rd_T72 x6_1 (ji18)).f0, wrap64 ((rd t104 (ji15)) - 1)⟩ : S72) ) (fun _ hk => hk))); (try (have hx26_1 := hcc26 1 _ rfl)); (try (try simp only [show (k72).sz = 2 from rfl, Nat.mul_one, Nat.add_zero] at hx26_1)); (try (have hf26_1 := hfr26 1)); (try (try simp only [show (k72).sz = 2 from rfl, Nat.mul_one, Nat.add_zero] at hf26_1)); (try (clear hcl26 hcc26 hfr26 hM26)))); refine store_event (t := 3) (p := 61) (v := ?vo_w27) (w1 := (w24.setCell ⟨go22, ((ji18) : Int).toNat * 2 + 1, none⟩ (.int .i64 (wrap64 ((rd t104 (ji15)) - 1))))) ?hg ?ho ?hn ?hr ?_; (case ho => rfl); (case hg => rfl); (case hn => rfl); (case hr => first | (go_simp; done) | (go_simp; rfl)); intro w27 hw; have hg : w24.grownBy w27 (some go22) := (by rw [hw]; exact HP26.2); have hp_ : Kd.R k72 72 w27 w.heap.size (fun _ => True) (.slice (some ⟨go22, 0, none⟩) x6_1.length co25) y115 := (by rw [hw, Ny115.out]; exact HP26.1); clear HP26; replace HO_5 := am (Kd.V_afterv (v := (.slice (some ⟨go22, 0, none⟩) x6_1.length co25)) (v1 := (.slice (some ⟨go22, 0, none⟩) x6_1.length co25)) (ok := (fun _ => True)) (by (with_reducible repeat (first | apply Kd.V_alloc | apply Kd.V_drewN | apply Kd.V_drew)); exact Kd.V_mono HO_5.out (fun _ hk => ⟨trivial, hk⟩)) hg (.inl rfl)); replace HO_6 := am (hp_); replace HB := am ((by rw [hw]; exact below_set (HB.out) GB22.out : Below w.heap.size w w27)); clear hg hw hp_)))
            go_roundg k1
            case measure => have := HK1.out; omega
            case rel => exact ⟨(y115), (ji15), (by first | rfl | (simp; done) | (simp only [← hji15] <;> (first | rfl | simp)) | (simp [*]; done)), H', ⟨by have := HK1.out; omega⟩, ⟨by (with_reducible repeat (first | apply Kd.V_alloc | apply Kd.V_drewN | apply Kd.V_drew)); exact Kd.V_mono HO_5.out (fun _ hk => hk.2)⟩, ⟨KR HO_6⟩, ⟨KL HB⟩⟩
           ·rw [if_neg c21] at H
            have c21b0 : ((wrap64 (((rd_T72 x6_1 (ji18)).f1) + 1)) == (rd t104 x7_1)) = false := beq_eq_false_iff_ne.mpr c21
            have c21b1 : ((wrap64 (((rd_T72 x6_1 (ji18)).f1) + 1)) != (rd t104 x7_1)) = true := bne_iff_ne.mpr c21
            by_cases c28 : x6_1.length < 8796093022208
            ·rw [if_pos c28] at H
             have LMc28 := Aside0.mk c28
             clear c28
             obtain ⟨y117, hy117⟩ : ∃ y_ : List (S72), y_ = (x6_1 ++ [(⟨rd t104 x7_1, wrap64 ((rd t104 (ji15)) - 1)⟩ : S72)]) := ⟨_, rfl⟩
             replace H : (spec_l3Spans.l0 k1 l0 a1 t104 y117 ji15) = some r := by first | (rw [hy117]; with_reducible exact H) | (have H2_ := (Option.bind_some _ _).symm.trans H; rw [hy117]; with_reducible exact H2_) | (have H2_ := (Option.bind_some _ _).symm.trans H; with_reducible exact H2_) | with_reducible exact H | (rw [hy117]; exact H) | exact H
             have Ny117 := Aside0.mk hy117
             clear hy117
             have H' := Aside0.mk H
             clear H
             obtain ⟨Ao29, co29, eo29⟩ := Kd.V_slice HO_5.out
             subst eo29
             have p110 : 0 ≤ (x7_1 : Int) := OD
             have q110 : x7_1 < (t104.length : Int) := OD
             obtain ⟨ad110, e110, hx110_0⟩ := Kd.at_int (Kd.V_reads' HO_5.out).2.2 x7_1 p110 q110
             cases e110
             replace p110 := eq_true p110
             replace q110 := eq_true q110
             go_wp2_with (first | (go_at_call 104; (with_reducible refine (spec_l3Lead.calls k1 _ _ l0 (rd t104 x7_1) t111 _ ?side1 ?side2 A12.out).mono ?_); (case side1 => exact KD HR0 HB); (case side2 => exact HC0.out); rintro e w30 ⟨rfl, hb⟩; replace HO_5 := am (Kd.V_below (by (with_reducible repeat (first | apply Kd.V_alloc | apply Kd.V_drewN | apply Kd.V_drew)); exact HO_5.out) hb); replace HO_6 := am (Kd.R_below (KR HO_6) hb); replace HB := am (below_step (KL HB) hb); (try clear hb); (try clear hb2); (try clear hk); (try clear hi); have p112 : 0 ≤ ((ji15) : Int) := OD; have q112 : (ji15) < (t104.length : Int) := OD; obtain ⟨ad112, e112, hx112_0⟩ := Kd.at_int (Kd.V_reads' HO_5.out).2.2 (ji15) p112 q112; obtain rfl : ad110 = ad112 := (by injection e112); replace p112 := eq_true p112; replace q112 := eq_true q112; obtain ⟨Ao31, co31, eo31⟩ := Kd.R_slice HO_6.out; subst eo31; have p113 : 0 ≤ ((ji18) : Int) := OD; have q113 : (ji18) < (x6_1.length : Int) := OD; obtain ⟨ad113, e113, hx113_0, hx113_1⟩ := at_T72 (Kd.R_reads' HO_6.out).2.2 (ji18) p113 q113; cases e113; replace p113 := eq_true p113; replace q113 := eq_true q113; have p114 : 0 ≤ (x7_1 : Int) := OD; have q114 : x7_1 < (t104.length : Int) := OD; obtain ⟨ad114, e114, hx114_0⟩ := Kd.at_int (Kd.V_reads' HO_5.out).2.2 x7_1 p114 q114; obtain rfl : ad110 = ad114 := (by injection e114); replace p114 := eq_true p114; replace q114 := eq_true q114; have p116 : 0 ≤ (x7_1 : Int) := OD; have q116 : x7_1 < (t104.length : Int) := OD; obtain ⟨ad116, e116, hx116_0⟩ := Kd.at_int (Kd.V_reads' HO_5.out).2.2 x7_1 p116 q116; obtain rfl : ad110 = ad116 := (by injection e116); replace p116 := eq_true p116; replace q116 := eq_true q116) | ((with_reducible refine gate_builtin (b := .append) (xs := #[.tmp 62, .tmp 69]) rfl ?_); at_builtin; refine Kd.R_append k72 (w0 := w) w.heap.size rfl (.tmp 62) (.tmp 69) 73 72 (.agg #[(.int .i64 0), (.int .i64 0)]) 16 rfl Try.underlying73 info72 rfl (by decide) (by omega) (.slice (some ad113) x6_1.length co31) x6_1 (⟨rd t104 x7_1, wrap64 ((rd t104 (ji15)) - 1)⟩ : S72) [.int .i64 (rd t104 x7_1), .int .i64 (wrap64 ((rd t104 (ji15)) - 1))] (fun _ => True) (fun _ => False) rfl rfl ?aP (fun _ hk => hk.elim) ?aF ?aO ?aB ?aS ?aL ?_; (case aP => exact k72_mkM _ _ _ (⟨rd t104 x7_1, wrap64 ((rd t104 (ji15)) - 1)⟩ : S72)); (case aB => exact (KL HB)); (case aF => exact (fun _ _ => trivial)); (case aO => exact (KR HO_6)); (case aS => exact (below_size (KL HB))); (case aL => have := LMc28.out; omega); intro v118 w32 ho hb hg hat; rw [← Ny117.out] at ho; replace HO_5 := am (Kd.V_afterv (ok := (fun _ => True)) (by (with_reducible repeat (first | apply Kd.V_alloc | apply Kd.V_drewN | apply Kd.V_drew)); exact Kd.V_mono HO_5.out (fun _ hk => ⟨trivial, hk⟩)) hg hat); replace HB := am (hb); have HO119 := am (ho); clear HO_6; clear ho hb hg hat))
             repeat (go_quiet (first | (go_at_call 104; (with_reducible refine (spec_l3Lead.calls k1 _ _ l0 (rd t104 x7_1) t111 _ ?side1 ?side2 A12.out).mono ?_); (case side1 => exact KD HR0 HB); (case side2 => exact HC0.out); rintro e w30 ⟨rfl, hb⟩; replace HO_5 := am (Kd.V_below (by (with_reducible repeat (first | apply Kd.V_alloc | apply Kd.V_drewN | apply Kd.V_drew)); exact HO_5.out) hb); replace HO_6 := am (Kd.R_below (KR HO_6) hb); replace HB := am (below_step (KL HB) hb); (try clear hb); (try clear hb2); (try clear hk); (try clear hi); have p112 : 0 ≤ ((ji15) : Int) := OD; have q112 : (ji15) < (t104.length : Int) := OD; obtain ⟨ad112, e112, hx112_0⟩ := Kd.at_int (Kd.V_reads' HO_5.out).2.2 (ji15) p112 q112; obtain rfl : ad110 = ad112 := (by injection e112); replace p112 := eq_true p112; replace q112 := eq_true q112; obtain ⟨Ao31, co31, eo31⟩ := Kd.R_slice HO_6.out; subst eo31; have p113 : 0 ≤ ((ji18) : Int) := OD; have q113 : (ji18) < (x6_1.length : Int) := OD; obtain ⟨ad113, e113, hx113_0, hx113_1⟩ := at_T72 (Kd.R_reads' HO_6.out).2.2 (ji18) p113 q113; cases e113; replace p113 := eq_true p113; replace q113 := eq_true q113; have p114 : 0 ≤ (x7_1 : Int) := OD; have q114 : x7_1 < (t104.length : Int) := OD; obtain ⟨ad114, e114, hx114_0⟩ := Kd.at_int (Kd.V_reads' HO_5.out).2.2 x7_1 p114 q114; obtain rfl : ad110 = ad114 := (by injection e114); replace p114 := eq_true p114; replace q114 := eq_true q114; have p116 : 0 ≤ (x7_1 : Int) := OD; have q116 : x7_1 < (t104.length : Int) := OD; obtain ⟨ad116, e116, hx116_0⟩ := Kd.at_int (Kd.V_reads' HO_5.out).2.2 x7_1 p116 q116; obtain rfl : ad110 = ad116 := (by injection e116); replace p116 := eq_true p116; replace q116 := eq_true q116) | ((with_reducible refine gate_builtin (b := .append) (xs := #[.tmp 62, .tmp 69]) rfl ?_); at_builtin; refine Kd.R_append k72 (w0 := w) w.heap.size rfl (.tmp 62) (.tmp 69) 73 72 (.agg #[(.int .i64 0), (.int .i64 0)]) 16 rfl Try.underlying73 info72 rfl (by decide) (by omega) (.slice (some ad113) x6_1.length co31) x6_1 (⟨rd t104 x7_1, wrap64 ((rd t104 (ji15)) - 1)⟩ : S72) [.int .i64 (rd t104 x7_1), .int .i64 (wrap64 ((rd t104 (ji15)) - 1))] (fun _ => True) (fun _ => False) rfl rfl ?aP (fun _ hk => hk.elim) ?aF ?aO ?aB ?aS ?aL ?_; (case aP => exact k72_mkM _ _ _ (⟨rd t104 x7_1, wrap64 ((rd t104 (ji15)) - 1)⟩ : S72)); (case aB => exact (KL HB)); (case aF => exact (fun _ _ => trivial)); (case aO => exact (KR HO_6)); (case aS => exact (below_size (KL HB))); (case aL => have := LMc28.out; omega); intro v118 w32 ho hb hg hat; rw [← Ny117.out] at ho; replace HO_5 := am (Kd.V_afterv (ok := (fun _ => True)) (by (with_reducible repeat (first | apply Kd.V_alloc | apply Kd.V_drewN | apply Kd.V_drew)); exact Kd.V_mono HO_5.out (fun _ hk => ⟨trivial, hk⟩)) hg hat); replace HB := am (hb); have HO119 := am (ho); clear HO_6; clear ho hb hg hat)); try go_wp2_with (first | (go_at_call 104; (with_reducible refine (spec_l3Lead.calls k1 _ _ l0 (rd t104 x7_1) t111 _ ?side1 ?side2 A12.out).mono ?_); (case side1 => exact KD HR0 HB); (case side2 => exact HC0.out); rintro e w30 ⟨rfl, hb⟩; replace HO_5 := am (Kd.V_below (by (with_reducible repeat (first | apply Kd.V_alloc | apply Kd.V_drewN | apply Kd.V_drew)); exact HO_5.out) hb); replace HO_6 := am (Kd.R_below (KR HO_6) hb); replace HB := am (below_step (KL HB) hb); (try clear hb); (try clear hb2); (try clear hk); (try clear hi); have p112 : 0 ≤ ((ji15) : Int) := OD; have q112 : (ji15) < (t104.length : Int) := OD; obtain ⟨ad112, e112, hx112_0⟩ := Kd.at_int (Kd.V_reads' HO_5.out).2.2 (ji15) p112 q112; obtain rfl : ad110 = ad112 := (by injection e112); replace p112 := eq_true p112; replace q112 := eq_true q112; obtain ⟨Ao31, co31, eo31⟩ := Kd.R_slice HO_6.out; subst eo31; have p113 : 0 ≤ ((ji18) : Int) := OD; have q113 : (ji18) < (x6_1.length : Int) := OD; obtain ⟨ad113, e113, hx113_0, hx113_1⟩ := at_T72 (Kd.R_reads' HO_6.out).2.2 (ji18) p113 q113; cases e113; replace p113 := eq_true p113; replace q113 := eq_true q113; have p114 : 0 ≤ (x7_1 : Int) := OD; have q114 : x7_1 < (t104.length : Int) := OD; obtain ⟨ad114, e114, hx114_0⟩ := Kd.at_int (Kd.V_reads' HO_5.out).2.2 x7_1 p114 q114; obtain rfl : ad110 = ad114 := (by injection e114); replace p114 := eq_true p114; replace q114 := eq_true q114; have p116 : 0 ≤ (x7_1 : Int) := OD; have q116 : x7_1 < (t104.length : Int) := OD; obtain ⟨ad116, e116, hx116_0⟩ := Kd.at_int (Kd.V_reads' HO_5.out).2.2 x7_1 p116 q116; obtain rfl : ad110 = ad116 := (by injection e116); replace p116 := eq_true p116; replace q116 := eq_true q116) | ((with_reducible refine gate_builtin (b := .append) (xs := #[.tmp 62, .tmp 69]) rfl ?_); at_builtin; refine Kd.R_append k72 (w0 := w) w.heap.size rfl (.tmp 62) (.tmp 69) 73 72 (.agg #[(.int .i64 0), (.int .i64 0)]) 16 rfl Try.underlying73 info72 rfl (by decide) (by omega) (.slice (some ad113) x6_1.length co31) x6_1 (⟨rd t104 x7_1, wrap64 ((rd t104 (ji15)) - 1)⟩ : S72) [.int .i64 (rd t104 x7_1), .int .i64 (wrap64 ((rd t104 (ji15)) - 1))] (fun _ => True) (fun _ => False) rfl rfl ?aP (fun _ hk => hk.elim) ?aF ?aO ?aB ?aS ?aL ?_; (case aP => exact k72_mkM _ _ _ (⟨rd t104 x7_1, wrap64 ((rd t104 (ji15)) - 1)⟩ : S72)); (case aB => exact (KL HB)); (case aF => exact (fun _ _ => trivial)); (case aO => exact (KR HO_6)); (case aS => exact (below_size (KL HB))); (case aL => have := LMc28.out; omega); intro v118 w32 ho hb hg hat; rw [← Ny117.out] at ho; replace HO_5 := am (Kd.V_afterv (ok := (fun _ => True)) (by (with_reducible repeat (first | apply Kd.V_alloc | apply Kd.V_drewN | apply Kd.V_drew)); exact Kd.V_mono HO_5.out (fun _ hk => ⟨trivial, hk⟩)) hg hat); replace HB := am (hb); have HO119 := am (ho); clear HO_6; clear ho hb hg hat)))
             go_roundg k1
             case measure => have := HK1.out; omega
             case rel => exact ⟨(y117), (ji15), (by first | rfl | (simp; done) | (simp only [← hji15] <;> (first | rfl | simp)) | (simp [*]; done)), H', ⟨by have := HK1.out; omega⟩, ⟨by (with_reducible repeat (first | apply Kd.V_alloc | apply Kd.V_drewN | apply Kd.V_drew)); exact Kd.V_mono HO_5.out (fun _ hk => hk.2)⟩, ⟨KR HO119⟩, ⟨KL HB⟩⟩
            ·rw [if_neg c28] at H
             exact absurd H (by simp)
          ·rw [if_neg c20] at H
           exact absurd H (by simp)
         ·rw [if_neg c19] at H
          exact absurd H (by simp)
        ·rw [if_neg c17] at H
         have c17b0 : decide (0 ≤ (wrap64 ((x6_1.length : Int) - 1))) = false := decide_eq_false c17
         clear c17
         by_cases c33 : x6_1.length < 8796093022208
         ·rw [if_pos c33] at H
          have LMc33 := Aside0.mk c33
          clear c33
          obtain ⟨y121, hy121⟩ : ∃ y_ : List (S72), y_ = (x6_1 ++ [(⟨rd t104 x7_1, wrap64 ((rd t104 (ji15)) - 1)⟩ : S72)]) := ⟨_, rfl⟩
          replace H : (spec_l3Spans.l0 k1 l0 a1 t104 y121 ji15) = some r := by first | (rw [hy121]; with_reducible exact H) | (have H2_ := (Option.bind_some _ _).symm.trans H; rw [hy121]; with_reducible exact H2_) | (have H2_ := (Option.bind_some _ _).symm.trans H; with_reducible exact H2_) | with_reducible exact H | (rw [hy121]; exact H) | exact H
          have Ny121 := Aside0.mk hy121
          clear hy121
          have H' := Aside0.mk H
          clear H
          obtain ⟨Ao34, co34, eo34⟩ := Kd.V_slice HO_5.out
          subst eo34
          have p110 : 0 ≤ (x7_1 : Int) := OD
          have q110 : x7_1 < (t104.length : Int) := OD
          obtain ⟨ad110, e110, hx110_0⟩ := Kd.at_int (Kd.V_reads' HO_5.out).2.2 x7_1 p110 q110
          cases e110
          replace p110 := eq_true p110
          replace q110 := eq_true q110
          go_wp2_with (first | (go_at_call 104; (with_reducible refine (spec_l3Lead.calls k1 _ _ l0 (rd t104 x7_1) t111 _ ?side1 ?side2 A12.out).mono ?_); (case side1 => exact KD HR0 HB); (case side2 => exact HC0.out); rintro e w35 ⟨rfl, hb⟩; replace HO_5 := am (Kd.V_below (by (with_reducible repeat (first | apply Kd.V_alloc | apply Kd.V_drewN | apply Kd.V_drew)); exact HO_5.out) hb); replace HO_6 := am (Kd.R_below (KR HO_6) hb); replace HB := am (below_step (KL HB) hb); (try clear hb); (try clear hb2); (try clear hk); (try clear hi); have p112 : 0 ≤ ((ji15) : Int) := OD; have q112 : (ji15) < (t104.length : Int) := OD; obtain ⟨ad112, e112, hx112_0⟩ := Kd.at_int (Kd.V_reads' HO_5.out).2.2 (ji15) p112 q112; obtain rfl : ad110 = ad112 := (by injection e112); replace p112 := eq_true p112; replace q112 := eq_true q112; obtain ⟨Ao36, co36, eo36⟩ := Kd.R_slice HO_6.out; subst eo36; have p120 : 0 ≤ (x7_1 : Int) := OD; have q120 : x7_1 < (t104.length : Int) := OD; obtain ⟨ad120, e120, hx120_0⟩ := Kd.at_int (Kd.V_reads' HO_5.out).2.2 x7_1 p120 q120; obtain rfl : ad110 = ad120 := (by injection e120); replace p120 := eq_true p120; replace q120 := eq_true q120) | ((with_reducible refine gate_builtin (b := .append) (xs := #[.tmp 62, .tmp 69]) rfl ?_); at_builtin; refine Kd.R_append k72 (w0 := w) w.heap.size rfl (.tmp 62) (.tmp 69) 73 72 (.agg #[(.int .i64 0), (.int .i64 0)]) 16 rfl Try.underlying73 info72 rfl (by decide) (by omega) (.slice Ao36 x6_1.length co36) x6_1 (⟨rd t104 x7_1, wrap64 ((rd t104 (ji15)) - 1)⟩ : S72) [.int .i64 (rd t104 x7_1), .int .i64 (wrap64 ((rd t104 (ji15)) - 1))] (fun _ => True) (fun _ => False) rfl rfl ?aP (fun _ hk => hk.elim) ?aF ?aO ?aB ?aS ?aL ?_; (case aP => exact k72_mkM _ _ _ (⟨rd t104 x7_1, wrap64 ((rd t104 (ji15)) - 1)⟩ : S72)); (case aB => exact (KL HB)); (case aF => exact (fun _ _ => trivial)); (case aO => exact (KR HO_6)); (case aS => exact (below_size (KL HB))); (case aL => have := LMc33.out; omega); intro v122 w37 ho hb hg hat; rw [← Ny121.out] at ho; replace HO_5 := am (Kd.V_afterv (ok := (fun _ => True)) (by (with_reducible repeat (first | apply Kd.V_alloc | apply Kd.V_drewN | apply Kd.V_drew)); exact Kd.V_mono HO_5.out (fun _ hk => ⟨trivial, hk⟩)) hg hat); replace HB := am (hb); have HO123 := am (ho); clear HO_6; clear ho hb hg hat))
          repeat (go_quiet (first | (go_at_call 104; (with_reducible refine (spec_l3Lead.calls k1 _ _ l0 (rd t104 x7_1) t111 _ ?side1 ?side2 A12.out).mono ?_); (case side1 => exact KD HR0 HB); (case side2 => exact HC0.out); rintro e w35 ⟨rfl, hb⟩; replace HO_5 := am (Kd.V_below (by (with_reducible repeat (first | apply Kd.V_alloc | apply Kd.V_drewN | apply Kd.V_drew)); exact HO_5.out) hb); replace HO_6 := am (Kd.R_below (KR HO_6) hb); replace HB := am (below_step (KL HB) hb); (try clear hb); (try clear hb2); (try clear hk); (try clear hi); have p112 : 0 ≤ ((ji15) : Int) := OD; have q112 : (ji15) < (t104.length : Int) := OD; obtain ⟨ad112, e112, hx112_0⟩ := Kd.at_int (Kd.V_reads' HO_5.out).2.2 (ji15) p112 q112; obtain rfl : ad110 = ad112 := (by injection e112); replace p112 := eq_true p112; replace q112 := eq_true q112; obtain ⟨Ao36, co36, eo36⟩ := Kd.R_slice HO_6.out; subst eo36; have p120 : 0 ≤ (x7_1 : Int) := OD; have q120 : x7_1 < (t104.length : Int) := OD; obtain ⟨ad120, e120, hx120_0⟩ := Kd.at_int (Kd.V_reads' HO_5.out).2.2 x7_1 p120 q120; obtain rfl : ad110 = ad120 := (by injection e120); replace p120 := eq_true p120; replace q120 := eq_true q120) | ((with_reducible refine gate_builtin (b := .append) (xs := #[.tmp 62, .tmp 69]) rfl ?_); at_builtin; refine Kd.R_append k72 (w0 := w) w.heap.size rfl (.tmp 62) (.tmp 69) 73 72 (.agg #[(.int .i64 0), (.int .i64 0)]) 16 rfl Try.underlying73 info72 rfl (by decide) (by omega) (.slice Ao36 x6_1.length co36) x6_1 (⟨rd t104 x7_1, wrap64 ((rd t104 (ji15)) - 1)⟩ : S72) [.int .i64 (rd t104 x7_1), .int .i64 (wrap64 ((rd t104 (ji15)) - 1))] (fun _ => True) (fun _ => False) rfl rfl ?aP (fun _ hk => hk.elim) ?aF ?aO ?aB ?aS ?aL ?_; (case aP => exact k72_mkM _ _ _ (⟨rd t104 x7_1, wrap64 ((rd t104 (ji15)) - 1)⟩ : S72)); (case aB => exact (KL HB)); (case aF => exact (fun _ _ => trivial)); (case aO => exact (KR HO_6)); (case aS => exact (below_size (KL HB))); (case aL => have := LMc33.out; omega); intro v122 w37 ho hb hg hat; rw [← Ny121.out] at ho; replace HO_5 := am (Kd.V_afterv (ok := (fun _ => True)) (by (with_reducible repeat (first | apply Kd.V_alloc | apply Kd.V_drewN | apply Kd.V_drew)); exact Kd.V_mono HO_5.out (fun _ hk => ⟨trivial, hk⟩)) hg hat); replace HB := am (hb); have HO123 := am (ho); clear HO_6; clear ho hb hg hat)); try go_wp2_with (first | (go_at_call 104; (with_reducible refine (spec_l3Lead.calls k1 _ _ l0 (rd t104 x7_1) t111 _ ?side1 ?side2 A12.out).mono ?_); (case side1 => exact KD HR0 HB); (case side2 => exact HC0.out); rintro e w35 ⟨rfl, hb⟩; replace HO_5 := am (Kd.V_below (by (with_reducible repeat (first | apply Kd.V_alloc | apply Kd.V_drewN | apply Kd.V_drew)); exact HO_5.out) hb); replace HO_6 := am (Kd.R_below (KR HO_6) hb); replace HB := am (below_step (KL HB) hb); (try clear hb); (try clear hb2); (try clear hk); (try clear hi); have p112 : 0 ≤ ((ji15) : Int) := OD; have q112 : (ji15) < (t104.length : Int) := OD; obtain ⟨ad112, e112, hx112_0⟩ := Kd.at_int (Kd.V_reads' HO_5.out).2.2 (ji15) p112 q112; obtain rfl : ad110 = ad112 := (by injection e112); replace p112 := eq_true p112; replace q112 := eq_true q112; obtain ⟨Ao36, co36, eo36⟩ := Kd.R_slice HO_6.out; subst eo36; have p120 : 0 ≤ (x7_1 : Int) := OD; have q120 : x7_1 < (t104.length : Int) := OD; obtain ⟨ad120, e120, hx120_0⟩ := Kd.at_int (Kd.V_reads' HO_5.out).2.2 x7_1 p120 q120; obtain rfl : ad110 = ad120 := (by injection e120); replace p120 := eq_true p120; replace q120 := eq_true q120) | ((with_reducible refine gate_builtin (b := .append) (xs := #[.tmp 62, .tmp 69]) rfl ?_); at_builtin; refine Kd.R_append k72 (w0 := w) w.heap.size rfl (.tmp 62) (.tmp 69) 73 72 (.agg #[(.int .i64 0), (.int .i64 0)]) 16 rfl Try.underlying73 info72 rfl (by decide) (by omega) (.slice Ao36 x6_1.length co36) x6_1 (⟨rd t104 x7_1, wrap64 ((rd t104 (ji15)) - 1)⟩ : S72) [.int .i64 (rd t104 x7_1), .int .i64 (wrap64 ((rd t104 (ji15)) - 1))] (fun _ => True) (fun _ => False) rfl rfl ?aP (fun _ hk => hk.elim) ?aF ?aO ?aB ?aS ?aL ?_; (case aP => exact k72_mkM _ _ _ (⟨rd t104 x7_1, wrap64 ((rd t104 (ji15)) - 1)⟩ : S72)); (case aB => exact (KL HB)); (case aF => exact (fun _ _ => trivial)); (case aO => exact (KR HO_6)); (case aS => exact (below_size (KL HB))); (case aL => have := LMc33.out; omega); intro v122 w37 ho hb hg hat; rw [← Ny121.out] at ho; replace HO_5 := am (Kd.V_afterv (ok := (fun _ => True)) (by (with_reducible repeat (first | apply Kd.V_alloc | apply Kd.V_drewN | apply Kd.V_drew)); exact Kd.V_mono HO_5.out (fun _ hk => ⟨trivial, hk⟩)) hg hat); replace HB := am (hb); have HO123 := am (ho); clear HO_6; clear ho hb hg hat)))
          go_roundg k1
          case measure => have := HK1.out; omega
          case rel => exact ⟨(y121), (ji15), (by first | rfl | (simp; done) | (simp only [← hji15] <;> (first | rfl | simp)) | (simp [*]; done)), H', ⟨by have := HK1.out; omega⟩, ⟨by (with_reducible repeat (first | apply Kd.V_alloc | apply Kd.V_drewN | apply Kd.V_drew)); exact Kd.V_mono HO_5.out (fun _ hk => hk.2)⟩, ⟨KR HO123⟩, ⟨KL HB⟩⟩
         ·rw [if_neg c33] at H
          exact absurd H (by simp)
       ·rw [if_neg c16] at H
        exact absurd H (by simp)
      ·rw [if_neg c14] at H
       have c14b0 : decide ((wrap64 (x7_1 + 1)) < (t104.length : Int)) = false := decide_eq_false c14
       clear c14
       by_cases c38 : (wrap64 ((x6_1.length : Int) - 1)) ≥ 0
       ·rw [if_pos c38] at H
        have c38b0 : decide (0 ≤ (wrap64 ((x6_1.length : Int) - 1))) = true := decide_eq_true c38
        clear c38
        obtain ⟨ji39, hji39⟩ : ∃ j_ : Int, (wrap64 ((x6_1.length : Int) - 1)) = j_ := ⟨_, rfl⟩
        replace H : (if 0 ≤ (ji39) then (if (ji39) < (x6_1.length : Int) then (if (wrap64 (((rd_T72 x6_1 (ji39)).f1) + 1)) = (rd t104 x7_1) then (spec_l3Spans.l0 k1 l0 a1 t104 (x6_1.set ((ji39) : Int).toNat (⟨(rd_T72 x6_1 (ji39)).f0, 4294967295⟩ : S72)) (wrap64 (x7_1 + 1))) else (if x6_1.length < 8796093022208 then (spec_l3Spans.l0 k1 l0 a1 t104 (x6_1 ++ [(⟨rd t104 x7_1, 4294967295⟩ : S72)]) (wrap64 (x7_1 + 1))) else (none))) else (none)) else (none)) = some r := by first | (rw [hji39] at H; exact H) | (simp only [hji39] at H ⊢; exact H)
        (try rw [hji39] at c38b0)
        (try rw [hji39] at A12)
        have hji39w : (IntKind.i64.wrap ((x6_1.length : Int) - 1)) = ji39 := (i64_w _).trans hji39
        by_cases c40 : 0 ≤ (ji39)
        ·rw [if_pos c40] at H
         have c40b0 : decide (0 ≤ (ji39)) = true := decide_eq_true c40
         clear c40
         by_cases c41 : (ji39) < (x6_1.length : Int)
         ·rw [if_pos c41] at H
          have c41b0 : decide ((ji39) < (x6_1.length : Int)) = true := decide_eq_true c41
          clear c41
          by_cases c42 : (wrap64 (((rd_T72 x6_1 (ji39)).f1) + 1)) = (rd t104 x7_1)
          ·rw [if_pos c42] at H
           have c42b0 : ((wrap64 (((rd_T72 x6_1 (ji39)).f1) + 1)) == (rd t104 x7_1)) = true := beq_iff_eq.mpr c42
           have c42b1 : ((wrap64 (((rd_T72 x6_1 (ji39)).f1) + 1)) != (rd t104 x7_1)) = false := bne_eq_false_iff_eq.mpr c42
           clear c42
           obtain ⟨y126, hy126⟩ : ∃ y_ : List (S72), y_ = (x6_1.set ((ji39) : Int).toNat (⟨(rd_T72 x6_1 (ji39)).f0, 4294967295⟩ : S72)) := ⟨_, rfl⟩
           replace H : (spec_l3Spans.l0 k1 l0 a1 t104 y126 (wrap64 (x7_1 + 1))) = some r := by first | (rw [hy126]; with_reducible exact H) | (have H2_ := (Option.bind_some _ _).symm.trans H; rw [hy126]; with_reducible exact H2_) | (have H2_ := (Option.bind_some _ _).symm.trans H; with_reducible exact H2_) | with_reducible exact H | (rw [hy126]; exact H) | exact H
           have Ny126 := Aside0.mk hy126
           clear hy126
           have H' := Aside0.mk H
           clear H
           obtain ⟨Ao44, co44, eo44⟩ := Kd.V_slice HO_5.out
           subst eo44
           have p110 : 0 ≤ (x7_1 : Int) := OD
           have q110 : x7_1 < (t104.length : Int) := OD
           obtain ⟨ad110, e110, hx110_0⟩ := Kd.at_int (Kd.V_reads' HO_5.out).2.2 x7_1 p110 q110
           cases e110
           replace p110 := eq_true p110
           replace q110 := eq_true q110
           go_wp2_with (first | (go_at_call 104; (with_reducible refine (spec_l3Lead.calls k1 _ _ l0 (rd t104 x7_1) t111 _ ?side1 ?side2 A12.out).mono ?_); (case side1 => exact KD HR0 HB); (case side2 => exact HC0.out); rintro e w45 ⟨rfl, hb⟩; replace HO_5 := am (Kd.V_below (by (with_reducible repeat (first | apply Kd.V_alloc | apply Kd.V_drewN | apply Kd.V_drew)); exact HO_5.out) hb); replace HO_6 := am (Kd.R_below (KR HO_6) hb); replace HB := am (below_step (KL HB) hb); (try clear hb); (try clear hb2); (try clear hk); (try clear hi); obtain ⟨Ao46, co46, eo46⟩ := Kd.R_slice HO_6.out; subst eo46; have p124 : 0 ≤ ((ji39) : Int) := OD; have q124 : (ji39) < (x6_1.length : Int) := OD; obtain ⟨ad124, e124, hx124_0, hx124_1⟩ := at_T72 (Kd.R_reads' HO_6.out).2.2 (ji39) p124 q124; cases e124; replace p124 := eq_true p124; replace q124 := eq_true q124; have p125 : 0 ≤ (x7_1 : Int) := OD; have q125 : x7_1 < (t104.length : Int) := OD; obtain ⟨ad125, e125, hx125_0⟩ := Kd.at_int (Kd.V_reads' HO_5.out).2.2 x7_1 p125 q125; obtain rfl : ad110 = ad125 := (by injection e125); replace p125 := eq_true p125; replace q125 := eq_true q125; have p43 : 0 ≤ ((ji39) : Int) := OD; have q43 : ((ji39) : Int) < ((x6_1.length : Int) : Int) := OD; obtain ⟨go43, co43, eo43, gb43, gl43, cl43, HG43⟩ := Kd.R_form HO_6.out (by omega); (first | cases eo43 | (injection eo43 with ea_ en_ ec_; (first | subst ea_ | (injection ea_ with ea_; subst ea_)); subst ec_; clear en_)); have GB43 := Aside0.mk gb43; have GG43 := Aside0.mk HG43; clear gb43 gl43 HG43; (first | simp only [add_plain] at hx124_0 | skip); (first | simp only [add_plain] at hx124_1 | skip); obtain ⟨ce43, hcl43, hM43, hcc43, hfr43⟩ := Kd.R_elem HO_6.out z72 ((ji39) : Int) p43 q43; obtain rfl := k72_openM hM43; have hx43_0 : w45.cell? ⟨go43, ((ji39) : Int).toNat * 2, none⟩ = some (.int .i64 ((rd_T72 x6_1 (ji39)).f0)) := hcc43 0 _ rfl; have hx43_1 : w45.cell? ⟨go43, ((ji39) : Int).toNat * 2 + 1, none⟩ = some (.int .i64 ((rd_T72 x6_1 (ji39)).f1)) := hcc43 1 _ rfl; have hf43_0 : w45.frozen? ⟨go43, ((ji39) : Int).toNat * 2, none⟩ = false := hfr43 0; have hf43_1 : w45.frozen? ⟨go43, ((ji39) : Int).toNat * 2 + 1, none⟩ = false := hfr43 1; clear hcl43 hcc43 hfr43 hM43; replace p43 := eq_true p43; replace q43 := eq_true q43; have HX47 := am (show Kd.R k72 72 w45 w.heap.size (fun _ => True) (.slice (some ⟨go43, 0, none⟩) x6_1.length co46) x6_1 from (KR HO_6)); obtain ⟨ce47, hcl47, hM47, hcc47, hfr47⟩ := Kd.R_elem HX47.out z72 ((ji39) : Int) (OD) (by have h_ : ((ji39) : Int) < ((x6_1.length : Int) : Int) := OD; first | exact h_ | (have e_ := (Kd.R_reads' HO_6.out).1; omega) | simpa using h_); obtain rfl := k72_openM hM47; have HP47 := Kd.R_seg HX47.out ((ji39) : Int) (OD) (by have h_ : ((ji39) : Int) < ((x6_1.length : Int) : Int) := OD; first | exact h_ | (have e_ := (Kd.R_reads' HO_6.out).1; omega) | simpa using h_) (seg := [.int .i64 4294967295]) (j := 1) hcl47 hcc47 (show 2 ≤ 2 from by decide) (x' := (⟨(rd_T72 x6_1 (ji39)).f0, 4294967295⟩ : S72)) (k72_mkM _ _ _ (⟨(rd_T72 x6_1 (ji39)).f0, 4294967295⟩ : S72) ) (fun _ hk => hk); have hx47_1 := hcc47 1 _ rfl; (try simp only [show (k72).sz = 2 from rfl, Nat.mul_one, Nat.add_zero] at hx47_1); have hf47_1 := hfr47 1; (try simp only [show (k72).sz = 2 from rfl, Nat.mul_one, Nat.add_zero] at hf47_1); clear hcl47 hcc47 hfr47 hM47) | ((with_reducible refine gate_store (t := 3) (p := 61) rfl ?_); (try (rw [drewN_self w45]; generalize hq_ : World.drewN w45 _ = w45; replace HO_5 := am (v_atq hq_ HO_5.out); replace HO_6 := am (Kd.R_at hq_ HO_6.out); replace HB := am (below_at hq_ HB.out); clear hq_; (try (have HX47 := am (show Kd.R k72 72 w45 w.heap.size (fun _ => True) (.slice (some ⟨go43, 0, none⟩) x6_1.length co46) x6_1 from (KR HO_6)))); (try (obtain ⟨ce47, hcl47, hM47, hcc47, hfr47⟩ := Kd.R_elem HX47.out z72 ((ji39) : Int) (OD) (by have h_ : ((ji39) : Int) < ((x6_1.length : Int) : Int) := OD; first | exact h_ | (have e_ := (Kd.R_reads' HO_6.out).1; omega) | simpa using h_))); (try (obtain rfl := k72_openM hM47)); (try (have HP47 := Kd.R_seg HX47.out ((ji39) : Int) (OD) (by have h_ : ((ji39) : Int) < ((x6_1.length : Int) : Int) := OD; first | exact h_ | (have e_ := (Kd.R_reads' HO_6.out).1; omega) | simpa using h_) (seg := [.int .i64 4294967295]) (j := 1) hcl47 hcc47 (show 2 ≤ 2 from by decide) (x' := (⟨(rd_T72 x6_1 (ji39)).f0, 4294967295⟩ : S72)) (k72_mkM _ _ _ (⟨(rd_T72 x6_1 (ji39)).f0, 4294967295⟩ : S72) ) (fun _ hk => hk))); (try (have hx47_1 := hcc47 1 _ rfl)); (try (try simp only [show (k72).sz = 2 from rfl, Nat.mul_one, Nat.add_zero] at hx47_1)); (try (have hf47_1 := hfr47 1)); (try (try simp only [show (k72).sz = 2 from rfl, Nat.mul_one, Nat.add_zero] at hf47_1)); (try (clear hcl47 hcc47 hfr47 hM47)))); refine store_event (t := 3) (p := 61) (v := ?vo_w48) (w1 := (w45.setCell ⟨go43, ((ji39) : Int).toNat * 2 + 1, none⟩ (.int .i64 4294967295))) ?hg ?ho ?hn ?hr ?_; (case ho => rfl); (case hg => rfl); (case hn => rfl); (case hr => first | (go_simp; done) | (go_simp; rfl)); intro w48 hw; have hg : w45.grownBy w48 (some go43) := (by rw [hw]; exact HP47.2); have hp_ : Kd.R k72 72 w48 w.heap.size (fun _ => True) (.slice (some ⟨go43, 0, none⟩) x6_1.length co46) y126 := (by rw [hw, Ny126.out]; exact HP47.1); clear HP47; replace HO_5 := am (Kd.V_afterv (v := (.slice (some ⟨go43, 0, none⟩) x6_1.length co46)) (v1 := (.slice (some ⟨go43, 0, none⟩) x6_1.length co46)) (ok := (fun _ => True)) (by (with_reducible repeat (first | apply Kd.V_alloc | apply Kd.V_drewN | apply Kd.V_drew)); exact Kd.V_mono HO_5.out (fun _ hk => ⟨trivial, hk⟩)) hg (.inl rfl)); replace HO_6 := am (hp_); replace HB := am ((by rw [hw]; exact below_set (HB.out) GB43.out : Below w.heap.size w w48)); clear hg hw hp_))
           repeat (go_quiet (first | (go_at_call 104; (with_reducible refine (spec_l3Lead.calls k1 _ _ l0 (rd t104 x7_1) t111 _ ?side1 ?side2 A12.out).mono ?_); (case side1 => exact KD HR0 HB); (case side2 => exact HC0.out); rintro e w45 ⟨rfl, hb⟩; replace HO_5 := am (Kd.V_below (by (with_reducible repeat (first | apply Kd.V_alloc | apply Kd.V_drewN | apply Kd.V_drew)); exact HO_5.out) hb); replace HO_6 := am (Kd.R_below (KR HO_6) hb); replace HB := am (below_step (KL HB) hb); (try clear hb); (try clear hb2); (try clear hk); (try clear hi); obtain ⟨Ao46, co46, eo46⟩ := Kd.R_slice HO_6.out; subst eo46; have p124 : 0 ≤ ((ji39) : Int) := OD; have q124 : (ji39) < (x6_1.length : Int) := OD; obtain ⟨ad124, e124, hx124_0, hx124_1⟩ := at_T72 (Kd.R_reads' HO_6.out).2.2 (ji39) p124 q124; cases e124; replace p124 := eq_true p124; replace q124 := eq_true q124; have p125 : 0 ≤ (x7_1 : Int) := OD; have q125 : x7_1 < (t104.length : Int) := OD; obtain ⟨ad125, e125, hx125_0⟩ := Kd.at_int (Kd.V_reads' HO_5.out).2.2 x7_1 p125 q125; obtain rfl : ad110 = ad125 := (by injection e125); replace p125 := eq_true p125; replace q125 := eq_true q125; have p43 : 0 ≤ ((ji39) : Int) := OD; have q43 : ((ji39) : Int) < ((x6_1.length : Int) : Int) := OD; obtain ⟨go43, co43, eo43, gb43, gl43, cl43, HG43⟩ := Kd.R_form HO_6.out (by omega); (first | cases eo43 | (injection eo43 with ea_ en_ ec_; (first | subst ea_ | (injection ea_ with ea_; subst ea_)); subst ec_; clear en_)); have GB43 := Aside0.mk gb43; have GG43 := Aside0.mk HG43; clear gb43 gl43 HG43; (first | simp only [add_plain] at hx124_0 | skip); (first | simp only [add_plain] at hx124_1 | skip); obtain ⟨ce43, hcl43, hM43, hcc43, hfr43⟩ := Kd.R_elem HO_6.out z72 ((ji39) : Int) p43 q43; obtain rfl := k72_openM hM43; have hx43_0 : w45.cell? ⟨go43, ((ji39) : Int).toNat * 2, none⟩ = some (.int .i64 ((rd_T72 x6_1 (ji39)).f0)) := hcc43 0 _ rfl; have hx43_1 : w45.cell? ⟨go43, ((ji39) : Int).toNat * 2 + 1, none⟩ = some (.int .i64 ((rd_T72 x6_1 (ji39)).f1)) := hcc43 1 _ rfl; have hf43_0 : w45.frozen? ⟨go43, ((ji39) : Int).toNat * 2, none⟩ = false := hfr43 0; have hf43_1 : w45.frozen? ⟨go43, ((ji39) : Int).toNat * 2 + 1, none⟩ = false := hfr43 1; clear hcl43 hcc43 hfr43 hM43; replace p43 := eq_true p43; replace q43 := eq_true q43; have HX47 := am (show Kd.R k72 72 w45 w.heap.size (fun _ => True) (.slice (some ⟨go43, 0, none⟩) x6_1.length co46) x6_1 from (KR HO_6)); obtain ⟨ce47, hcl47, hM47, hcc47, hfr47⟩ := Kd.R_elem HX47.out z72 ((ji39) : Int) (OD) (by have h_ : ((ji39) : Int) < ((x6_1.length : Int) : Int) := OD; first | exact h_ | (have e_ := (Kd.R_reads' HO_6.out).1; omega) | simpa using h_); obtain rfl := k72_openM hM47; have HP47 := Kd.R_seg HX47.out ((ji39) : Int) (OD) (by have h_ : ((ji39) : Int) < ((x6_1.length : Int) : Int) := OD; first | exact h_ | (have e_ := (Kd.R_reads' HO_6.out).1; omega) | simpa using h_) (seg := [.int .i64 4294967295]) (j := 1) hcl47 hcc47 (show 2 ≤ 2 from by decide) (x' := (⟨(rd_T72 x6_1 (ji39)).f0, 4294967295⟩ : S72)) (k72_mkM _ _ _ (⟨(rd_T72 x6_1 (ji39)).f0, 4294967295⟩ : S72) ) (fun _ hk => hk); have hx47_1 := hcc47 1 _ rfl; (try simp only [show (k72).sz = 2 from rfl, Nat.mul_one, Nat.add_zero] at hx47_1); have hf47_1 := hfr47 1; (try simp only [show (k72).sz = 2 from rfl, Nat.mul_one, Nat.add_zero] at hf47_1); clear hcl47 hcc47 hfr47 hM47) | ((with_reducible refine gate_store (t := 3) (p := 61) rfl ?_); (try (rw [drewN_self w45]; generalize hq_ : World.drewN w45 _ = w45; replace HO_5 := am (v_atq hq_ HO_5.out); replace HO_6 := am (Kd.R_at hq_ HO_6.out); replace HB := am (below_at hq_ HB.out); clear hq_; (try (have HX47 := am (show Kd.R k72 72 w45 w.heap.size (fun _ => True) (.slice (some ⟨go43, 0, none⟩) x6_1.length co46) x6_1 from (KR HO_6)))); (try (obtain ⟨ce47, hcl47, hM47, hcc47, hfr47⟩ := Kd.R_elem HX47.out z72 ((ji39) : Int) (OD) (by have h_ : ((ji39) : Int) < ((x6_1.length : Int) : Int) := OD; first | exact h_ | (have e_ := (Kd.R_reads' HO_6.out).1; omega) | simpa using h_))); (try (obtain rfl := k72_openM hM47)); (try (have HP47 := Kd.R_seg HX47.out ((ji39) : Int) (OD) (by have h_ : ((ji39) : Int) < ((x6_1.length : Int) : Int) := OD; first | exact h_ | (have e_ := (Kd.R_reads' HO_6.out).1; omega) | simpa using h_) (seg := [.int .i64 4294967295]) (j := 1) hcl47 hcc47 (show 2 ≤ 2 from by decide) (x' := (⟨(rd_T72 x6_1 (ji39)).f0, 4294967295⟩ : S72)) (k72_mkM _ _ _ (⟨(rd_T72 x6_1 (ji39)).f0, 4294967295⟩ : S72) ) (fun _ hk => hk))); (try (have hx47_1 := hcc47 1 _ rfl)); (try (try simp only [show (k72).sz = 2 from rfl, Nat.mul_one, Nat.add_zero] at hx47_1)); (try (have hf47_1 := hfr47 1)); (try (try simp only [show (k72).sz = 2 from rfl, Nat.mul_one, Nat.add_zero] at hf47_1)); (try (clear hcl47 hcc47 hfr47 hM47)))); refine store_event (t := 3) (p := 61) (v := ?vo_w48) (w1 := (w45.setCell ⟨go43, ((ji39) : Int).toNat * 2 + 1, none⟩ (.int .i64 4294967295))) ?hg ?ho ?hn ?hr ?_; (case ho => rfl); (case hg => rfl); (case hn => rfl); (case hr => first | (go_simp; done) | (go_simp; rfl)); intro w48 hw; have hg : w45.grownBy w48 (some go43) := (by rw [hw]; exact HP47.2); have hp_ : Kd.R k72 72 w48 w.heap.size (fun _ => True) (.slice (some ⟨go43, 0, none⟩) x6_1.length co46) y126 := (by rw [hw, Ny126.out]; exact HP47.1); clear HP47; replace HO_5 := am (Kd.V_afterv (v := (.slice (some ⟨go43, 0, none⟩) x6_1.length co46)) (v1 := (.slice (some ⟨go43, 0, none⟩) x6_1.length co46)) (ok := (fun _ => True)) (by (with_reducible repeat (first | apply Kd.V_alloc | apply Kd.V_drewN | apply Kd.V_drew)); exact Kd.V_mono HO_5.out (fun _ hk => ⟨trivial, hk⟩)) hg (.inl rfl)); replace HO_6 := am (hp_); replace HB := am ((by rw [hw]; exact below_set (HB.out) GB43.out : Below w.heap.size w w48)); clear hg hw hp_)); try go_wp2_with (first | (go_at_call 104; (with_reducible refine (spec_l3Lead.calls k1 _ _ l0 (rd t104 x7_1) t111 _ ?side1 ?side2 A12.out).mono ?_); (case side1 => exact KD HR0 HB); (case side2 => exact HC0.out); rintro e w45 ⟨rfl, hb⟩; replace HO_5 := am (Kd.V_below (by (with_reducible repeat (first | apply Kd.V_alloc | apply Kd.V_drewN | apply Kd.V_drew)); exact HO_5.out) hb); replace HO_6 := am (Kd.R_below (KR HO_6) hb); replace HB := am (below_step (KL HB) hb); (try clear hb); (try clear hb2); (try clear hk); (try clear hi); obtain ⟨Ao46, co46, eo46⟩ := Kd.R_slice HO_6.out; subst eo46; have p124 : 0 ≤ ((ji39) : Int) := OD; have q124 : (ji39) < (x6_1.length : Int) := OD; obtain ⟨ad124, e124, hx124_0, hx124_1⟩ := at_T72 (Kd.R_reads' HO_6.out).2.2 (ji39) p124 q124; cases e124; replace p124 := eq_true p124; replace q124 := eq_true q124; have p125 : 0 ≤ (x7_1 : Int) := OD; have q125 : x7_1 < (t104.length : Int) := OD; obtain ⟨ad125, e125, hx125_0⟩ := Kd.at_int (Kd.V_reads' HO_5.out).2.2 x7_1 p125 q125; obtain rfl : ad110 = ad125 := (by injection e125); replace p125 := eq_true p125; replace q125 := eq_true q125; have p43 : 0 ≤ ((ji39) : Int) := OD; have q43 : ((ji39) : Int) < ((x6_1.length : Int) : Int) := OD; obtain ⟨go43, co43, eo43, gb43, gl43, cl43, HG43⟩ := Kd.R_form HO_6.out (by omega); (first | cases eo43 | (injection eo43 with ea_ en_ ec_; (first | subst ea_ | (injection ea_ with ea_; subst ea_)); subst ec_; clear en_)); have GB43 := Aside0.mk gb43; have GG43 := Aside0.mk HG43; clear gb43 gl43 HG43; (first | simp only [add_plain] at hx124_0 | skip); (first | simp only [add_plain] at hx124_1 | skip); obtain ⟨ce43, hcl43, hM43, hcc43, hfr43⟩ := Kd.R_elem HO_6.out z72 ((ji39) : Int) p43 q43; obtain rfl := k72_openM hM43; have hx43_0 : w45.cell? ⟨go43, ((ji39) : Int).toNat * 2, none⟩ = some (.int .i64 ((rd_T72 x6_1 (ji39)).f0)) := hcc43 0 _ rfl; have hx43_1 : w45.cell? ⟨go43, ((ji39) : Int).toNat * 2 + 1, none⟩ = some (.int .i64 ((rd_T72 x6_1 (ji39)).f1)) := hcc43 1 _ rfl; have hf43_0 : w45.frozen? ⟨go43, ((ji39) : Int).toNat * 2, none⟩ = false := hfr43 0; have hf43_1 : w45.frozen? ⟨go43, ((ji39) : Int).toNat * 2 + 1, none⟩ = false := hfr43 1; clear hcl43 hcc43 hfr43 hM43; replace p43 := eq_true p43; replace q43 := eq_true q43; have HX47 := am (show Kd.R k72 72 w45 w.heap.size (fun _ => True) (.slice (some ⟨go43, 0, none⟩) x6_1.length co46) x6_1 from (KR HO_6)); obtain ⟨ce47, hcl47, hM47, hcc47, hfr47⟩ := Kd.R_elem HX47.out z72 ((ji39) : Int) (OD) (by have h_ : ((ji39) : Int) < ((x6_1.length : Int) : Int) := OD; first | exact h_ | (have e_ := (Kd.R_reads' HO_6.out).1; omega) | simpa using h_); obtain rfl := k72_openM hM47; have HP47 := Kd.R_seg HX47.out ((ji39) : Int) (OD) (by have h_ : ((ji39) : Int) < ((x6_1.length : Int) : Int) := OD; first | exact h_ | (have e_ := (Kd.R_reads' HO_6.out).1; omega) | simpa using h_) (seg := [.int .i64 4294967295]) (j := 1) hcl47 hcc47 (show 2 ≤ 2 from by decide) (x' := (⟨(rd_T72 x6_1 (ji39)).f0, 4294967295⟩ : S72)) (k72_mkM _ _ _ (⟨(rd_T72 x6_1 (ji39)).f0, 4294967295⟩ : S72) ) (fun _ hk => hk); have hx47_1 := hcc47 1 _ rfl; (try simp only [show (k72).sz = 2 from rfl, Nat.mul_one, Nat.add_zero] at hx47_1); have hf47_1 := hfr47 1; (try simp only [show (k72).sz = 2 from rfl, Nat.mul_one, Nat.add_zero] at hf47_1); clear hcl47 hcc47 hfr47 hM47) | ((with_reducible refine gate_store (t := 3) (p := 61) rfl ?_); (try (rw [drewN_self w45]; generalize hq_ : World.drewN w45 _ = w45; replace HO_5 := am (v_atq hq_ HO_5.out); replace HO_6 := am (Kd.R_at hq_ HO_6.out); replace HB := am (below_at hq_ HB.out); clear hq_; (try (have HX47 := am (show Kd.R k72 72 w45 w.heap.size (fun _ => True) (.slice (some ⟨go43, 0, none⟩) x6_1.length co46) x6_1 from (KR HO_6)))); (try (obtain ⟨ce47, hcl47, hM47, hcc47, hfr47⟩ := Kd.R_elem HX47.out z72 ((ji39) : Int) (OD) (by have h_ : ((ji39) : Int) < ((x6_1.length : Int) : Int) := OD; first | exact h_ | (have e_ := (Kd.R_reads' HO_6.out).1; omega) | simpa using h_))); (try (obtain rfl := k72_openM hM47)); (try (have HP47 := Kd.R_seg HX47.out ((ji39) : Int) (OD) (by have h_ : ((ji39) : Int) < ((x6_1.length : Int) : Int) := OD; first | exact h_ | (have e_ := (Kd.R_reads' HO_6.out).1; omega) | simpa using h_) (seg := [.int .i64 4294967295]) (j := 1) hcl47 hcc47 (show 2 ≤ 2 from by decide) (x' := (⟨(rd_T72 x6_1 (ji39)).f0, 4294967295⟩ : S72)) (k72_mkM _ _ _ (⟨(rd_T72 x6_1 (ji39)).f0, 4294967295⟩ : S72) ) (fun _ hk => hk))); (try (have hx47_1 := hcc47 1 _ rfl)); (try (try simp only [show (k72).sz = 2 from rfl, Nat.mul_one, Nat.add_zero] at hx47_1)); (try (have hf47_1 := hfr47 1)); (try (try simp only [show (k72).sz = 2 from rfl, Nat.mul_one, Nat.add_zero] at hf47_1)); (try (clear hcl47 hcc47 hfr47 hM47)))); refine store_event (t := 3) (p := 61) (v := ?vo_w48) (w1 := (w45.setCell ⟨go43, ((ji39) : Int).toNat * 2 + 1, none⟩ (.int .i64 4294967295))) ?hg ?ho ?hn ?hr ?_; (case ho => rfl); (case hg => rfl); (case hn => rfl); (case hr => first | (go_simp; done) | (go_simp; rfl)); intro w48 hw; have hg : w45.grownBy w48 (some go43) := (by rw [hw]; exact HP47.2); have hp_ : Kd.R k72 72 w48 w.heap.size (fun _ => True) (.slice (some ⟨go43, 0, none⟩) x6_1.length co46) y126 := (by rw [hw, Ny126.out]; exact HP47.1); clear HP47; replace HO_5 := am (Kd.V_afterv (v := (.slice (some ⟨go43, 0, none⟩) x6_1.length co46)) (v1 := (.slice (some ⟨go43, 0, none⟩) x6_1.length co46)) (ok := (fun _ => True)) (by (with_reducible repeat (first | apply Kd.V_alloc | apply Kd.V_drewN | apply Kd.V_drew)); exact Kd.V_mono HO_5.out (fun _ hk => ⟨trivial, hk⟩)) hg (.inl rfl)); replace HO_6 := am (hp_); replace HB := am ((by rw [hw]; exact below_set (HB.out) GB43.out : Below w.heap.size w w48)); clear hg hw hp_)))
           go_roundg k1
           case measure => have := HK1.out; omega
           case rel => exact ⟨(y126), (wrap64 (x7_1 + 1)), (by first | rfl | (simp; done) | (simp [*]; done)), H', ⟨by have := HK1.out; omega⟩, ⟨by (with_reducible repeat (first | apply Kd.V_alloc | apply Kd.V_drewN | apply Kd.V_drew)); exact Kd.V_mono HO_5.out (fun _ hk => hk.2)⟩, ⟨KR HO_6⟩, ⟨KL HB⟩⟩
          ·rw [if_neg c42] at H
           have c42b0 : ((wrap64 (((rd_T72 x6_1 (ji39)).f1) + 1)) == (rd t104 x7_1)) = false := beq_eq_false_iff_ne.mpr c42
           have c42b1 : ((wrap64 (((rd_T72 x6_1 (ji39)).f1) + 1)) != (rd t104 x7_1)) = true := bne_iff_ne.mpr c42
           by_cases c49 : x6_1.length < 8796093022208
           ·rw [if_pos c49] at H
            have LMc49 := Aside0.mk c49
            clear c49
            obtain ⟨y128, hy128⟩ : ∃ y_ : List (S72), y_ = (x6_1 ++ [(⟨rd t104 x7_1, 4294967295⟩ : S72)]) := ⟨_, rfl⟩
            replace H : (spec_l3Spans.l0 k1 l0 a1 t104 y128 (wrap64 (x7_1 + 1))) = some r := by first | (rw [hy128]; with_reducible exact H) | (have H2_ := (Option.bind_some _ _).symm.trans H; rw [hy128]; with_reducible exact H2_) | (have H2_ := (Option.bind_some _ _).symm.trans H; with_reducible exact H2_) | with_reducible exact H | (rw [hy128]; exact H) | exact H
            have Ny128 := Aside0.mk hy128
            clear hy128
            have H' := Aside0.mk H
            clear H
            obtain ⟨Ao50, co50, eo50⟩ := Kd.V_slice HO_5.out
            subst eo50
            have p110 : 0 ≤ (x7_1 : Int) := OD
            have q110 : x7_1 < (t104.length : Int) := OD
            obtain ⟨ad110, e110, hx110_0⟩ := Kd.at_int (Kd.V_reads' HO_5.out).2.2 x7_1 p110 q110
            cases e110
            replace p110 := eq_true p110
            replace q110 := eq_true q110
            go_wp2_with (first | (go_at_call 104; (with_reducible refine (spec_l3Lead.calls k1 _ _ l0 (rd t104 x7_1) t111 _ ?side1 ?side2 A12.out).mono ?_); (case side1 => exact KD HR0 HB); (case side2 => exact HC0.out); rintro e w51 ⟨rfl, hb⟩; replace HO_5 := am (Kd.V_below (by (with_reducible repeat (first | apply Kd.V_alloc | apply Kd.V_drewN | apply Kd.V_drew)); exact HO_5.out) hb); replace HO_6 := am (Kd.R_below (KR HO_6) hb); replace HB := am (below_step (KL HB) hb); (try clear hb); (try clear hb2); (try clear hk); (try clear hi); obtain ⟨Ao52, co52, eo52⟩ := Kd.R_slice HO_6.out; subst eo52; have p124 : 0 ≤ ((ji39) : Int) := OD; have q124 : (ji39) < (x6_1.length : Int) := OD; obtain ⟨ad124, e124, hx124_0, hx124_1⟩ := at_T72 (Kd.R_reads' HO_6.out).2.2 (ji39) p124 q124; cases e124; replace p124 := eq_true p124; replace q124 := eq_true q124; have p125 : 0 ≤ (x7_1 : Int) := OD; have q125 : x7_1 < (t104.length : Int) := OD; obtain ⟨ad125, e125, hx125_0⟩ := Kd.at_int (Kd.V_reads' HO_5.out).2.2 x7_1 p125 q125; obtain rfl : ad110 = ad125 := (by injection e125); replace p125 := eq_true p125; replace q125 := eq_true q125; have p127 : 0 ≤ (x7_1 : Int) := OD; have q127 : x7_1 < (t104.length : Int) := OD; obtain ⟨ad127, e127, hx127_0⟩ := Kd.at_int (Kd.V_reads' HO_5.out).2.2 x7_1 p127 q127; obtain rfl : ad110 = ad127 := (by injection e127); replace p127 := eq_true p127; replace q127 := eq_true q127) | ((with_reducible refine gate_builtin (b := .append) (xs := #[.tmp 62, .tmp 69]) rfl ?_); at_builtin; refine Kd.R_append k72 (w0 := w) w.heap.size rfl (.tmp 62) (.tmp 69) 73 72 (.agg #[(.int .i64 0), (.int .i64 0)]) 16 rfl Try.underlying73 info72 rfl (by decide) (by omega) (.slice (some ad124) x6_1.length co52) x6_1 (⟨rd t104 x7_1, 4294967295⟩ : S72) [.int .i64 (rd t104 x7_1), .int .i64 4294967295] (fun _ => True) (fun _ => False) rfl rfl ?aP (fun _ hk => hk.elim) ?aF ?aO ?aB ?aS ?aL ?_; (case aP => exact k72_mkM _ _ _ (⟨rd t104 x7_1, 4294967295⟩ : S72)); (case aB => exact (KL HB)); (case aF => exact (fun _ _ => trivial)); (case aO => exact (KR HO_6)); (case aS => exact (below_size (KL HB))); (case aL => have := LMc49.out; omega); intro v129 w53 ho hb hg hat; rw [← Ny128.out] at ho; replace HO_5 := am (Kd.V_afterv (ok := (fun _ => True)) (by (with_reducible repeat (first | apply Kd.V_alloc | apply Kd.V_drewN | apply Kd.V_drew)); exact Kd.V_mono HO_5.out (fun _ hk => ⟨trivial, hk⟩)) hg hat); replace HB := am (hb); have HO130 := am (ho); clear HO_6; clear ho hb hg hat))
            repeat (go_quiet (first | (go_at_call 104; (with_reducible refine (spec_l3Lead.calls k1 _ _ l0 (rd t104 x7_1) t111 _ ?side1 ?side2 A12.out).mono ?_); (case side1 => exact KD HR0 HB); (case side2 => exact HC0.out); rintro e w51 ⟨rfl, hb⟩; replace HO_5 := am (Kd.V_below (by (with_reducible repeat (first | apply Kd.V_alloc | apply Kd.V_drewN | apply Kd.V_drew)); exact HO_5.out) hb); replace HO_6 := am (Kd.R_below (KR HO_6) hb); replace HB := am (below_step (KL HB) hb); (try clear hb); (try clear hb2); (try clear hk); (try clear hi); obtain ⟨Ao52, co52, eo52⟩ := Kd.R_slice HO_6.out; subst eo52; have p124 : 0 ≤ ((ji39) : Int) := OD; have q124 : (ji39) < (x6_1.length : Int) := OD; obtain ⟨ad124, e124, hx124_0, hx124_1⟩ := at_T72 (Kd.R_reads' HO_6.out).2.2 (ji39) p124 q124; cases e124; replace p124 := eq_true p124; replace q124 := eq_true q124; have p125 : 0 ≤ (x7_1 : Int) := OD; have q125 : x7_1 < (t104.length : Int) := OD; obtain ⟨ad125, e125, hx125_0⟩ := Kd.at_int (Kd.V_reads' HO_5.out).2.2 x7_1 p125 q125; obtain rfl : ad110 = ad125 := (by injection e125); replace p125 := eq_true p125; replace q125 := eq_true q125; have p127 : 0 ≤ (x7_1 : Int) := OD; have q127 : x7_1 < (t104.length : Int) := OD; obtain ⟨ad127, e127, hx127_0⟩ := Kd.at_int (Kd.V_reads' HO_5.out).2.2 x7_1 p127 q127; obtain rfl : ad110 = ad127 := (by injection e127); replace p127 := eq_true p127; replace q127 := eq_true q127) | ((with_reducible refine gate_builtin (b := .append) (xs := #[.tmp 62, .tmp 69]) rfl ?_); at_builtin; refine Kd.R_append k72 (w0 := w) w.heap.size rfl (.tmp 62) (.tmp 69) 73 72 (.agg #[(.int .i64 0), (.int .i64 0)]) 16 rfl Try.underlying73 info72 rfl (by decide) (by omega) (.slice (some ad124) x6_1.length co52) x6_1 (⟨rd t104 x7_1, 4294967295⟩ : S72) [.int .i64 (rd t104 x7_1), .int .i64 4294967295] (fun _ => True) (fun _ => False) rfl rfl ?aP (fun _ hk => hk.elim) ?aF ?aO ?aB ?aS ?aL ?_; (case aP => exact k72_mkM _ _ _ (⟨rd t104 x7_1, 4294967295⟩ : S72)); (case aB => exact (KL HB)); (case aF => exact (fun _ _ => trivial)); (case aO => exact (KR HO_6)); (case aS => exact (below_size (KL HB))); (case aL => have := LMc49.out; omega); intro v129 w53 ho hb hg hat; rw [← Ny128.out] at ho; replace HO_5 := am (Kd.V_afterv (ok := (fun _ => True)) (by (with_reducible repeat (first | apply Kd.V_alloc | apply Kd.V_drewN | apply Kd.V_drew)); exact Kd.V_mono HO_5.out (fun _ hk => ⟨trivial, hk⟩)) hg hat); replace HB := am (hb); have HO130 := am (ho); clear HO_6; clear ho hb hg hat)); try go_wp2_with (first | (go_at_call 104; (with_reducible refine (spec_l3Lead.calls k1 _ _ l0 (rd t104 x7_1) t111 _ ?side1 ?side2 A12.out).mono ?_); (case side1 => exact KD HR0 HB); (case side2 => exact HC0.out); rintro e w51 ⟨rfl, hb⟩; replace HO_5 := am (Kd.V_below (by (with_reducible repeat (first | apply Kd.V_alloc | apply Kd.V_drewN | apply Kd.V_drew)); exact HO_5.out) hb); replace HO_6 := am (Kd.R_below (KR HO_6) hb); replace HB := am (below_step (KL HB) hb); (try clear hb); (try clear hb2); (try clear hk); (try clear hi); obtain ⟨Ao52, co52, eo52⟩ := Kd.R_slice HO_6.out; subst eo52; have p124 : 0 ≤ ((ji39) : Int) := OD; have q124 : (ji39) < (x6_1.length : Int) := OD; obtain ⟨ad124, e124, hx124_0, hx124_1⟩ := at_T72 (Kd.R_reads' HO_6.out).2.2 (ji39) p124 q124; cases e124; replace p124 := eq_true p124; replace q124 := eq_true q124; have p125 : 0 ≤ (x7_1 : Int) := OD; have q125 : x7_1 < (t104.length : Int) := OD; obtain ⟨ad125, e125, hx125_0⟩ := Kd.at_int (Kd.V_reads' HO_5.out).2.2 x7_1 p125 q125; obtain rfl : ad110 = ad125 := (by injection e125); replace p125 := eq_true p125; replace q125 := eq_true q125; have p127 : 0 ≤ (x7_1 : Int) := OD; have q127 : x7_1 < (t104.length : Int) := OD; obtain ⟨ad127, e127, hx127_0⟩ := Kd.at_int (Kd.V_reads' HO_5.out).2.2 x7_1 p127 q127; obtain rfl : ad110 = ad127 := (by injection e127); replace p127 := eq_true p127; replace q127 := eq_true q127) | ((with_reducible refine gate_builtin (b := .append) (xs := #[.tmp 62, .tmp 69]) rfl ?_); at_builtin; refine Kd.R_append k72 (w0 := w) w.heap.size rfl (.tmp 62) (.tmp 69) 73 72 (.agg #[(.int .i64 0), (.int .i64 0)]) 16 rfl Try.underlying73 info72 rfl (by decide) (by omega) (.slice (some ad124) x6_1.length co52) x6_1 (⟨rd t104 x7_1, 4294967295⟩ : S72) [.int .i64 (rd t104 x7_1), .int .i64 4294967295] (fun _ => True) (fun _ => False) rfl rfl ?aP (fun _ hk => hk.elim) ?aF ?aO ?aB ?aS ?aL ?_; (case aP => exact k72_mkM _ _ _ (⟨rd t104 x7_1, 4294967295⟩ : S72)); (case aB => exact (KL HB)); (case aF => exact (fun _ _ => trivial)); (case aO => exact (KR HO_6)); (case aS => exact (below_size (KL HB))); (case aL => have := LMc49.out; omega); intro v129 w53 ho hb hg hat; rw [← Ny128.out] at ho; replace HO_5 := am (Kd.V_afterv (ok := (fun _ => True)) (by (with_reducible repeat (first | apply Kd.V_alloc | apply Kd.V_drewN | apply Kd.V_drew)); exact Kd.V_mono HO_5.out (fun _ hk => ⟨trivial, hk⟩)) hg hat); replace HB := am (hb); have HO130 := am (ho); clear HO_6; clear ho hb hg hat)))
            go_roundg k1
            case measure => have := HK1.out; omega
            case rel => exact ⟨(y128), (wrap64 (x7_1 + 1)), (by first | rfl | (simp; done) | (simp [*]; done)), H', ⟨by have := HK1.out; omega⟩, ⟨by (with_reducible repeat (first | apply Kd.V_alloc | apply Kd.V_drewN | apply Kd.V_drew)); exact Kd.V_mono HO_5.out (fun _ hk => hk.2)⟩, ⟨KR HO130⟩, ⟨KL HB⟩⟩
           ·rw [if_neg c49] at H
            exact absurd H (by simp)
         ·rw [if_neg c41] at H
          exact absurd H (by simp)
        ·rw [if_neg c40] at H
         exact absurd H (by simp)
       ·rw [if_neg c38] at H
        have c38b0 : decide (0 ≤ (wrap64 ((x6_1.length : Int) - 1))) = false := decide_eq_false c38
        clear c38
        by_cases c54 : x6_1.length < 8796093022208
        ·rw [if_pos c54] at H
         have LMc54 := Aside0.mk c54
         clear c54
         obtain ⟨y132, hy132⟩ : ∃ y_ : List (S72), y_ = (x6_1 ++ [(⟨rd t104 x7_1, 4294967295⟩ : S72)]) := ⟨_, rfl⟩
         replace H : (spec_l3Spans.l0 k1 l0 a1 t104 y132 (wrap64 (x7_1 + 1))) = some r := by first | (rw [hy132]; with_reducible exact H) | (have H2_ := (Option.bind_some _ _).symm.trans H; rw [hy132]; with_reducible exact H2_) | (have H2_ := (Option.bind_some _ _).symm.trans H; with_reducible exact H2_) | with_reducible exact H | (rw [hy132]; exact H) | exact H
         have Ny132 := Aside0.mk hy132
         clear hy132
         have H' := Aside0.mk H
         clear H
         obtain ⟨Ao55, co55, eo55⟩ := Kd.V_slice HO_5.out
         subst eo55
         have p110 : 0 ≤ (x7_1 : Int) := OD
         have q110 : x7_1 < (t104.length : Int) := OD
         obtain ⟨ad110, e110, hx110_0⟩ := Kd.at_int (Kd.V_reads' HO_5.out).2.2 x7_1 p110 q110
         cases e110
         replace p110 := eq_true p110
         replace q110 := eq_true q110
         go_wp2_with (first | (go_at_call 104; (with_reducible refine (spec_l3Lead.calls k1 _ _ l0 (rd t104 x7_1) t111 _ ?side1 ?side2 A12.out).mono ?_); (case side1 => exact KD HR0 HB); (case side2 => exact HC0.out); rintro e w56 ⟨rfl, hb⟩; replace HO_5 := am (Kd.V_below (by (with_reducible repeat (first | apply Kd.V_alloc | apply Kd.V_drewN | apply Kd.V_drew)); exact HO_5.out) hb); replace HO_6 := am (Kd.R_below (KR HO_6) hb); replace HB := am (below_step (KL HB) hb); (try clear hb); (try clear hb2); (try clear hk); (try clear hi); obtain ⟨Ao57, co57, eo57⟩ := Kd.R_slice HO_6.out; subst eo57; have p131 : 0 ≤ (x7_1 : Int) := OD; have q131 : x7_1 < (t104.length : Int) := OD; obtain ⟨ad131, e131, hx131_0⟩ := Kd.at_int (Kd.V_reads' HO_5.out).2.2 x7_1 p131 q131; obtain rfl : ad110 = ad131 := (by injection e131); replace p131 := eq_true p131; replace q131 := eq_true q131) | ((with_reducible refine gate_builtin (b := .append) (xs := #[.tmp 62, .tmp 69]) rfl ?_); at_builtin; refine Kd.R_append k72 (w0 := w) w.heap.size rfl (.tmp 62) (.tmp 69) 73 72 (.agg #[(.int .i64 0), (.int .i64 0)]) 16 rfl Try.underlying73 info72 rfl (by decide) (by omega) (.slice Ao57 x6_1.length co57) x6_1 (⟨rd t104 x7_1, 4294967295⟩ : S72) [.int .i64 (rd t104 x7_1), .int .i64 4294967295] (fun _ => True) (fun _ => False) rfl rfl ?aP (fun _ hk => hk.elim) ?aF ?aO ?aB ?aS ?aL ?_; (case aP => exact k72_mkM _ _ _ (⟨rd t104 x7_1, 4294967295⟩ : S72)); (case aB => exact (KL HB)); (case aF => exact (fun _ _ => trivial)); (case aO => exact (KR HO_6)); (case aS => exact (below_size (KL HB))); (case aL => have := LMc54.out; omega); intro v133 w58 ho hb hg hat; rw [← Ny132.out] at ho; replace HO_5 := am (Kd.V_afterv (ok := (fun _ => True)) (by (with_reducible repeat (first | apply Kd.V_alloc | apply Kd.V_drewN | apply Kd.V_drew)); exact Kd.V_mono HO_5.out (fun _ hk => ⟨trivial, hk⟩)) hg hat); replace HB := am (hb); have HO134 := am (ho); clear HO_6; clear ho hb hg hat))
         repeat (go_quiet (first | (go_at_call 104; (with_reducible refine (spec_l3Lead.calls k1 _ _ l0 (rd t104 x7_1) t111 _ ?side1 ?side2 A12.out).mono ?_); (case side1 => exact KD HR0 HB); (case side2 => exact HC0.out); rintro e w56 ⟨rfl, hb⟩; replace HO_5 := am (Kd.V_below (by (with_reducible repeat (first | apply Kd.V_alloc | apply Kd.V_drewN | apply Kd.V_drew)); exact HO_5.out) hb); replace HO_6 := am (Kd.R_below (KR HO_6) hb); replace HB := am (below_step (KL HB) hb); (try clear hb); (try clear hb2); (try clear hk); (try clear hi); obtain ⟨Ao57, co57, eo57⟩ := Kd.R_slice HO_6.out; subst eo57; have p131 : 0 ≤ (x7_1 : Int) := OD; have q131 : x7_1 < (t104.length : Int) := OD; obtain ⟨ad131, e131, hx131_0⟩ := Kd.at_int (Kd.V_reads' HO_5.out).2.2 x7_1 p131 q131; obtain rfl : ad110 = ad131 := (by injection e131); replace p131 := eq_true p131; replace q131 := eq_true q131) | ((with_reducible refine gate_builtin (b := .append) (xs := #[.tmp 62, .tmp 69]) rfl ?_); at_builtin; refine Kd.R_append k72 (w0 := w) w.heap.size rfl (.tmp 62) (.tmp 69) 73 72 (.agg #[(.int .i64 0), (.int .i64 0)]) 16 rfl Try.underlying73 info72 rfl (by decide) (by omega) (.slice Ao57 x6_1.length co57) x6_1 (⟨rd t104 x7_1, 4294967295⟩ : S72) [.int .i64 (rd t104 x7_1), .int .i64 4294967295] (fun _ => True) (fun _ => False) rfl rfl ?aP (fun _ hk => hk.elim) ?aF ?aO ?aB ?aS ?aL ?_; (case aP => exact k72_mkM _ _ _ (⟨rd t104 x7_1, 4294967295⟩ : S72)); (case aB => exact (KL HB)); (case aF => exact (fun _ _ => trivial)); (case aO => exact (KR HO_6)); (case aS => exact (below_size (KL HB))); (case aL => have := LMc54.out; omega); intro v133 w58 ho hb hg hat; rw [← Ny132.out] at ho; replace HO_5 := am (Kd.V_afterv (ok := (fun _ => True)) (by (with_reducible repeat (first | apply Kd.V_alloc | apply Kd.V_drewN | apply Kd.V_drew)); exact Kd.V_mono HO_5.out (fun _ hk => ⟨trivial, hk⟩)) hg hat); replace HB := am (hb); have HO134 := am (ho); clear HO_6; clear ho hb hg hat)); try go_wp2_with (first | (go_at_call 104; (with_reducible refine (spec_l3Lead.calls k1 _ _ l0 (rd t104 x7_1) t111 _ ?side1 ?side2 A12.out).mono ?_); (case side1 => exact KD HR0 HB); (case side2 => exact HC0.out); rintro e w56 ⟨rfl, hb⟩; replace HO_5 := am (Kd.V_below (by (with_reducible repeat (first | apply Kd.V_alloc | apply Kd.V_drewN | apply Kd.V_drew)); exact HO_5.out) hb); replace HO_6 := am (Kd.R_below (KR HO_6) hb); replace HB := am (below_step (KL HB) hb); (try clear hb); (try clear hb2); (try clear hk); (try clear hi); obtain ⟨Ao57, co57, eo57⟩ := Kd.R_slice HO_6.out; subst eo57; have p131 : 0 ≤ (x7_1 : Int) := OD; have q131 : x7_1 < (t104.length : Int) := OD; obtain ⟨ad131, e131, hx131_0⟩ := Kd.at_int (Kd.V_reads' HO_5.out).2.2 x7_1 p131 q131; obtain rfl : ad110 = ad131 := (by injection e131); replace p131 := eq_true p131; replace q131 := eq_true q131) | ((with_reducible refine gate_builtin (b := .append) (xs := #[.tmp 62, .tmp 69]) rfl ?_); at_builtin; refine Kd.R_append k72 (w0 := w) w.heap.size rfl (.tmp 62) (.tmp 69) 73 72 (.agg #[(.int .i64 0), (.int .i64 0)]) 16 rfl Try.underlying73 info72 rfl (by decide) (by omega) (.slice Ao57 x6_1.length co57) x6_1 (⟨rd t104 x7_1, 4294967295⟩ : S72) [.int .i64 (rd t104 x7_1), .int .i64 4294967295] (fun _ => True) (fun _ => False) rfl rfl ?aP (fun _ hk => hk.elim) ?aF ?aO ?aB ?aS ?aL ?_; (case aP => exact k72_mkM _ _ _ (⟨rd t104 x7_1, 4294967295⟩ : S72)); (case aB => exact (KL HB)); (case aF => exact (fun _ _ => trivial)); (case aO => exact (KR HO_6)); (case aS => exact (below_size (KL HB))); (case aL => have := LMc54.out; omega); intro v133 w58 ho hb hg hat; rw [← Ny132.out] at ho; replace HO_5 := am (Kd.V_afterv (ok := (fun _ => True)) (by (with_reducible repeat (first | apply Kd.V_alloc | apply Kd.V_drewN | apply Kd.V_drew)); exact Kd.V_mono HO_5.out (fun _ hk => ⟨trivial, hk⟩)) hg hat); replace HB := am (hb); have HO134 := am (ho); clear HO_6; clear ho hb hg hat)))
         go_roundg k1
         case measure => have := HK1.out; omega
         case rel => exact ⟨(y132), (wrap64 (x7_1 + 1)), (by first | rfl | (simp; done) | (simp [*]; done)), H', ⟨by have := HK1.out; omega⟩, ⟨by (with_reducible repeat (first | apply Kd.V_alloc | apply Kd.V_drewN | apply Kd.V_drew)); exact Kd.V_mono HO_5.out (fun _ hk => hk.2)⟩, ⟨KR HO134⟩, ⟨KL HB⟩⟩
        ·rw [if_neg c54] at H
         exact absurd H (by simp)
     ·rw [if_neg c13] at H
      have c13b0 : (t111 == a1) = false := beq_eq_false_iff_ne.mpr c13
      have c13b1 : (t111 != a1) = true := bne_iff_ne.mpr c13
      have H' := Aside0.mk H
      clear H
      obtain ⟨Ao59, co59, eo59⟩ := Kd.V_slice HO_5.out
      subst eo59
      have p110 : 0 ≤ (x7_1 : Int) := OD
      have q110 : x7_1 < (t104.length : Int) := OD
      obtain ⟨ad110, e110, hx110_0⟩ := Kd.at_int (Kd.V_reads' HO_5.out).2.2 x7_1 p110 q110
      cases e110
      replace p110 := eq_true p110
      replace q110 := eq_true q110
      go_wp2_with (first | (go_at_call 104; (with_reducible refine (spec_l3Lead.calls k1 _ _ l0 (rd t104 x7_1) t111 _ ?side1 ?side2 A12.out).mono ?_); (case side1 => exact KD HR0 HB); (case side2 => exact HC0.out); rintro e w60 ⟨rfl, hb⟩; replace HO_5 := am (Kd.V_below (by (with_reducible repeat (first | apply Kd.V_alloc | apply Kd.V_drewN | apply Kd.V_drew)); exact HO_5.out) hb); replace HO_6 := am (Kd.R_below (KR HO_6) hb); replace HB := am (below_step (KL HB) hb); (try clear hb); (try clear hb2); (try clear hk); (try clear hi)))
      repeat (go_quiet (first | (go_at_call 104; (with_reducible refine (spec_l3Lead.calls k1 _ _ l0 (rd t104 x7_1) t111 _ ?side1 ?side2 A12.out).mono ?_); (case side1 => exact KD HR0 HB); (case side2 => exact HC0.out); rintro e w60 ⟨rfl, hb⟩; replace HO_5 := am (Kd.V_below (by (with_reducible repeat (first | apply Kd.V_alloc | apply Kd.V_drewN | apply Kd.V_drew)); exact HO_5.out) hb); replace HO_6 := am (Kd.R_below (KR HO_6) hb); replace HB := am (below_step (KL HB) hb); (try clear hb); (try clear hb2); (try clear hk); (try clear hi))); try go_wp2_with (first | (go_at_call 104; (with_reducible refine (spec_l3Lead.calls k1 _ _ l0 (rd t104 x7_1) t111 _ ?side1 ?side2 A12.out).mono ?_); (case side1 => exact KD HR0 HB); (case side2 => exact HC0.out); rintro e w60 ⟨rfl, hb⟩; replace HO_5 := am (Kd.V_below (by (with_reducible repeat (first | apply Kd.V_alloc | apply Kd.V_drewN | apply Kd.V_drew)); exact HO_5.out) hb); replace HO_6 := am (Kd.R_below (KR HO_6) hb); replace HB := am (below_step (KL HB) hb); (try clear hb); (try clear hb2); (try clear hk); (try clear hi))))
      go_roundg k1
      case measure => have := HK1.out; omega
      case rel => exact ⟨(x6_1), (wrap64 (x7_1 + 1)), (by first | rfl | (simp; done) | (simp [*]; done)), H', ⟨by have := HK1.out; omega⟩, ⟨by (with_reducible repeat (first | apply Kd.V_alloc | apply Kd.V_drewN | apply Kd.V_drew)); exact HO_5.out⟩, ⟨KR HO_6⟩, ⟨KL HB⟩⟩
    ·rw [if_neg c11] at H
     exact absurd H (by simp)
   ·rw [if_neg c10] at H
    have c10b0 : decide (x7_1 < (t104.length : Int)) = false := decide_eq_false c10
    clear c10
    obtain rfl := Option.some.inj H
    obtain ⟨Ao61, co61, eo61⟩ := Kd.V_slice HO_5.out
    subst eo61
    go_wp2
    repeat (go_quiet (fail); try go_wp2)
    go_ret
    exact ⟨_, ER, by (with_reducible repeat (first | apply Kd.R_alloc | apply Kd.R_drewN | apply Kd.R_drew)); exact HO_6.out, KL HB⟩
def spec_WaysTo.j0 : Nat → List (S95) → Int → Bool → Option ((List (S40)) × Bool)
 | 0, _, _, _ => none
 | k + 1, x0, x1, x13 => if x13 = true then (some ((([] : List (S40))), false)) else ((spec_l3Spans.f k x0 x1).bind fun t106 => ((spec_l2Cover.f k t106).bind fun t109 => ((spec_l2Room.f t109).bind fun bt112 => (some (bt112.1, bt112.2)))))
def spec_WaysTo.f (k : Nat) (l0 : List (S95)) (a1 : Int) : Option ((List (S40)) × Bool) := (spec_WaysOk.f k l0).bind fun t101 => (if t101 = true then ((spec_l1In.f a1 (-1) 99).bind fun t102 => (spec_WaysTo.j0 k l0 a1 (!t102))) else (spec_WaysTo.j0 k l0 a1 true))
set_option maxHeartbeats 8000000 in
set_option maxRecDepth 100000 in
theorem spec_WaysTo.calls (k : Nat) (A0 : Option Addr) (c0 : Nat) (l0 : List (S95)) (a1 : Int) (r1 : List (S40)) (r2 : Bool) (w : World) (hr0 : Kd.C k95 w A0 l0.length l0) (hc0 : l0.length ≤ c0) (h : spec_WaysTo.f k l0 a1 = some (r1, r2)) :
  Calls Try.prog 35 #[.slice A0 l0.length c0, .int .i64 a1] w fun e w' => ∃ v0_ : Value, e = .returned (.tuple #[v0_, .bool r2]) ∧ Kd.R k40 40 w' w.heap.size (fun _ => True) v0_ r1 ∧ Below w.heap.size w w' := by
 have HR0 := Aside0.mk hr0
 have HC0 := Aside0.mk hc0
 clear hr0 hc0
 have HB := am (Below.refl w.heap.size w)
 have H : ((spec_WaysOk.f k l0).bind fun t101 => (if t101 = true then ((spec_l1In.f a1 (-1) 99).bind fun t102 => (spec_WaysTo.j0 k l0 a1 (!t102))) else (spec_WaysTo.j0 k l0 a1 true))) = some (r1, r2) := h
 clear h
 have HC3 := Aside0.mk H
 clear H
 go_enter Try.func35, Try.ntmps35
 go_upto_region 1 with (fail)
 go_cut [13] (fun v13 wc => ∃ (kq : Nat) (x13_2 : Bool), v13 = .bool x13_2 ∧ Aside0 (spec_WaysTo.j0 kq l0 a1 x13_2 = some (r1, r2)) ∧ Aside0 (kq ≤ k) ∧ Aside0 (Below w.heap.size w wc))
 case first =>
  have H := HC3.out
  clear HC3
  replace H := Option.bind_eq_some_iff.mp H
  obtain ⟨t101, A40, H⟩ := H
  replace H : (if t101 = true then ((spec_l1In.f a1 (-1) 99).bind fun t102 => (spec_WaysTo.j0 k l0 a1 (!t102))) else (spec_WaysTo.j0 k l0 a1 true)) = some (r1, r2) := H
  have A4 := Aside0.mk A40
  clear A40
  by_cases c5 : t101 = true
  ·subst c5
   have H1 : ((spec_l1In.f a1 (-1) 99).bind fun t102 => (spec_WaysTo.j0 k l0 a1 (!t102))) = some (r1, r2) := by rw [if_pos rfl] at H; exact H
   clear H
   have H := H1
   clear H1
   replace H := Option.bind_eq_some_iff.mp H
   obtain ⟨t102, A60, H⟩ := H
   replace H : (spec_WaysTo.j0 k l0 a1 (!t102)) = some (r1, r2) := H
   have A6 := Aside0.mk A60
   clear A60
   have H' := Aside0.mk H
   clear H
   go_wp2_with (first | ((with_reducible refine gate_callee (f := 79) rfl ?_); refine goesL_ (some 7) rfl rfl Try.func79 (by kernel_rfl) rfl #[.slice A0 l0.length c0] rfl MT ?_; (with_reducible refine (spec_WaysOk.calls k _ _ l0 true _ ?side1 ?side2 A4.out).mono ?_); (case side1 => exact KD HR0 HB); (case side2 => exact HC0.out); rintro e w7 ⟨rfl, hb⟩; refine ⟨_, rfl, ?_⟩; replace HB := am (below_step (KL HB) hb); (try clear hb)) | (go_at_call 58; (with_reducible refine (spec_l1In.calls a1 (-1) 99 t102 _ A6.out).mono ?_); rintro e w' ⟨rfl, ⟨nd, rfl⟩⟩))
   go_meet
   case rel => exact ⟨_, (!t102), (by first | rfl | (simp; done) | (simp [*]; done)), H', ⟨by first | omega | exact Nat.le_refl _⟩, ⟨KL HB⟩⟩
  ·replace c5 := Bool.eq_false_iff.mpr c5
   subst c5
   have H1 : (spec_WaysTo.j0 k l0 a1 true) = some (r1, r2) := by rw [if_neg (show ¬ (false = true) by decide)] at H; exact H
   clear H
   have H := H1
   clear H1
   have H' := Aside0.mk H
   clear H
   go_wp2_with (first | ((with_reducible refine gate_callee (f := 79) rfl ?_); refine goesL_ (some 7) rfl rfl Try.func79 (by kernel_rfl) rfl #[.slice A0 l0.length c0] rfl MT ?_; (with_reducible refine (spec_WaysOk.calls k _ _ l0 false _ ?side1 ?side2 A4.out).mono ?_); (case side1 => exact KD HR0 HB); (case side2 => exact HC0.out); rintro e w8 ⟨rfl, hb⟩; refine ⟨_, rfl, ?_⟩; replace HB := am (below_step (KL HB) hb); (try clear hb)))
   go_meet
   case rel => exact ⟨_, (true), (by first | rfl | (simp; done) | (simp [*]; done)), H', ⟨by first | omega | exact Nat.le_refl _⟩, ⟨KL HB⟩⟩
 case rest =>
  clear HC3
  try clear p2
  try clear c3
  try clear c5
  try clear c7
  obtain ⟨kq, x13_2, rfl, HA, HJ2, HB⟩ := hcut
  cases kq with
  | zero => exact absurd HA.out (by simp [spec_WaysTo.j0])
  | succ kj2 =>
   have H := HA.out
   clear HA
   simp only [spec_WaysTo.j0] at H
   by_cases c9 : x13_2 = true
   ·subst c9
    have H1 : (some ((([] : List (S40))), false)) = some (r1, r2) := by rw [if_pos rfl] at H; exact H
    clear H
    have H := H1
    clear H1
    obtain ⟨y103, hy103⟩ : ∃ y_ : List (S40), y_ = (([] : List (S40))) := ⟨_, rfl⟩
    replace H : (some (y103, false)) = some (r1, r2) := by first | (rw [hy103]; with_reducible exact H) | (have H2_ := (Option.bind_some _ _).symm.trans H; rw [hy103]; with_reducible exact H2_) | (have H2_ := (Option.bind_some _ _).symm.trans H; with_reducible exact H2_) | with_reducible exact H | (rw [hy103]; exact H) | exact H
    have Ny103 := Aside0.mk hy103
    clear hy103
    simp only [Option.some.injEq, Prod.mk.injEq] at H
    obtain ⟨rfl, rfl⟩ := H
    go_wp2_with (first | ((with_reducible refine gate_dst (N := 14) rfl ?_); refine Kd.R_lit k40 _ 40 ?hg (N := 14) ?hd (xs := ([] : List (S40))) (inner := []) (ok := fun _ => True) (okp := fun _ => True) ?hr ?hp (fun _ hk => hk) trivial (Below.refl _ _) (Nat.le_refl _) (by simp) ?_; (case hd => rfl); (case hg => rfl); (case hr => first | (go_simp; done) | (go_simp; rfl)); (case hp => exact (Reps.none _ _)); intro v104 w10 ho11 hb hg_ hnew_; clear hg_ hnew_; (first | rw [← Ny103.out] at ho11 | (simp only [Int.reduceToNat] at ho11; rw [← Ny103.out] at ho11)); have HO105 := am (Kd.R_lower ho11 (below_size (KL HB))); replace HB := am (below_step (KL HB) hb); clear hb ho11))
    go_ret2
    exact ⟨_, ER, by (with_reducible repeat (first | apply Kd.R_alloc | apply Kd.R_drewN | apply Kd.R_drew)); exact HO105.out, KL HB⟩
   ·replace c9 := Bool.eq_false_iff.mpr c9
    subst c9
    have H1 : ((spec_l3Spans.f kj2 l0 a1).bind fun t106 => ((spec_l2Cover.f kj2 t106).bind fun t109 => ((spec_l2Room.f t109).bind fun bt112 => (some (bt112.1, bt112.2))))) = some (r1, r2) := by rw [if_neg (show ¬ (false = true) by decide)] at H; exact H
    clear H
    have H := H1
    clear H1
    replace H := Option.bind_eq_some_iff.mp H
    obtain ⟨t106, A120, H⟩ := H
    replace H : ((spec_l2Cover.f kj2 t106).bind fun t109 => ((spec_l2Room.f t109).bind fun bt112 => (some (bt112.1, bt112.2)))) = some (r1, r2) := H
    have A12 := Aside0.mk A120
    clear A120
    replace H := Option.bind_eq_some_iff.mp H
    obtain ⟨t109, A130, H⟩ := H
    replace H : ((spec_l2Room.f t109).bind fun bt112 => (some (bt112.1, bt112.2))) = some (r1, r2) := H
    have A13 := Aside0.mk A130
    clear A130
    replace H := Option.bind_eq_some_iff.mp H
    obtain ⟨⟨t112, t115⟩, A140, H⟩ := H
    replace H : (some (t112, t115)) = some (r1, r2) := H
    have A14 := Aside0.mk A140
    clear A140
    simp only [Option.some.injEq, Prod.mk.injEq] at H
    obtain ⟨rfl, rfl⟩ := H
    go_wp2_with (first | ((with_reducible refine gate_callee (f := 80) rfl ?_); refine goesL_ (some 17) rfl rfl Try.func80 (by kernel_rfl) rfl #[.slice A0 l0.length c0, .int .i64 a1] rfl MT ?_; (with_reducible refine (spec_l3Spans.calls kj2 _ _ l0 a1 t106 _ ?side1 ?side2 A12.out).mono ?_); (case side1 => exact KD HR0 HB); (case side2 => exact HC0.out); rintro e w15 ⟨v107, rfl, ho0, hb⟩; refine ⟨_, rfl, ?_⟩; have HO108 := am (Kd.R_lower ho0 (below_size (KL HB))); replace HB := am (below_step (KL HB) hb); (try clear hb); (try clear ho0); obtain ⟨Ao16, co16, eo16⟩ := Kd.R_slice HO108.out; subst eo16) | ((with_reducible refine gate_callee (f := 49) rfl ?_); refine goesL_ (some 18) rfl rfl Try.func49 (by kernel_rfl) rfl #[.slice Ao16 t106.length co16] rfl MT ?_; (with_reducible refine (spec_l2Cover.calls kj2 _ _ t106 t109 _ ?side1 ?side2 A13.out).mono ?_); (case side1 => exact KC (Kd.R_reads' HO108.out).2.2); (case side2 => exact (Kd.R_reads' HO108.out).2.1); rintro e w17 ⟨v110, rfl, ho0, hb⟩; refine ⟨_, rfl, ?_⟩; replace HO108 := am (Kd.R_below (KR HO108) hb); have HO111 := am (Kd.R_lower ho0 (below_size (KL HB))); replace HB := am (below_step (KL HB) hb); (try clear hb); (try clear ho0); obtain ⟨Ao18, co18, eo18⟩ := Kd.R_slice HO111.out; subst eo18) | ((with_reducible refine gate_callee (f := 66) rfl ?_); refine goesL_ (some 19) rfl rfl Try.func66 (by kernel_rfl) rfl #[.slice Ao18 t109.length co18] rfl MT ?_; (with_reducible refine (spec_l2Room.calls (fun k_ => some k_ = (.slice Ao18 t109.length co18 : Value).ownBlock) (.slice Ao18 t109.length co18) t109 t112 t115 w _ ?side1 ?side2 A14.out).mono ?_); (case side1 => exact KL HB); (case side2 => exact Kd.R_tight rfl HO111.out); rintro e w19 ⟨v113, rfl, ho0, hb, hkp⟩; refine ⟨_, rfl, ?_⟩; replace HO108 := am (Kd.R_mono (ok' := fun k_ => True) (Kd.R_keptB ((Kd.R_apart' HO108.out (Kd.R_typed HO111.out) (by decide))) hkp (fun k_ hk_ hs_ => (hk_.2) hs_)) (fun k_ hk_ => trivial)); have HO114 := am (Kd.R_mono (ok' := fun k_ => True) ho0 (fun k_ hk_ => trivial)); replace HB := am (hb); clear HO111; (try clear hb); (try clear hkp); (try clear ho0)))
    go_ret2
    exact ⟨_, ER, by (with_reducible repeat (first | apply Kd.R_alloc | apply Kd.R_drewN | apply Kd.R_drew)); exact HO114.out, KL HB⟩
mutual
def impl_span_blocks.l0 : Nat → List (S40) → Int → Int → Int → Option ((List (S40)))
 | 0, _, _, _, _ => none
 | k + 1, x3, x4, x102000, x102001 => if x4 ≤ x102001 then (impl_span_blocks.l1 k x3 x4 32 x102000 x102001) else (some x3)
def impl_span_blocks.l1 : Nat → List (S40) → Int → Int → Int → Int → Option ((List (S40)))
 | 0, _, _, _, _, _ => none
 | k + 1, x3, x4, x5, x102000, x102001 => if x5 > 0 then ((impl_around.f x4 (wrap64 (x5 - 1))).bind fun bt102 => (if bt102.1 = x4 then ((impl_around.f x4 (wrap64 (x5 - 1))).bind fun bt104 => ((impl_Block_last.f bt104.1 bt104.2).bind fun t106 => (if t106 ≤ x102001 then (impl_span_blocks.l1 k x3 x4 (wrap64 (x5 - 1)) x102000 x102001) else ((impl_around.f x4 x5).bind fun bt107 => (if x3.length < 8796093022208 then ((some (x3 ++ [(⟨bt107.1, bt107.2⟩ : S40)] : List (S40))).bind fun y109 => (if 0 ≤ (wrap64 ((y109.length : Int) - 1)) then (if (wrap64 ((y109.length : Int) - 1)) < (y109.length : Int) then ((impl_Block_last.f ((rd_T40 y109 (wrap64 ((y109.length : Int) - 1))).f0) ((rd_T40 y109 (wrap64 ((y109.length : Int) - 1))).f1)).bind fun t113 => (impl_span_blocks.l0 k y109 (wrap64 (t113 + 1)) x102000 x102001)) else (none)) else (none))) else (none)))))) else ((impl_around.f x4 x5).bind fun bt114 => (if x3.length < 8796093022208 then ((some (x3 ++ [(⟨bt114.1, bt114.2⟩ : S40)] : List (S40))).bind fun y116 => (if 0 ≤ (wrap64 ((y116.length : Int) - 1)) then (if (wrap64 ((y116.length : Int) - 1)) < (y116.length : Int) then ((impl_Block_last.f ((rd_T40 y116 (wrap64 ((y116.length : Int) - 1))).f0) ((rd_T40 y116 (wrap64 ((y116.length : Int) - 1))).f1)).bind fun t120 => (impl_span_blocks.l0 k y116 (wrap64 (t120 + 1)) x102000 x102001)) else (none)) else (none))) else (none))))) else ((impl_around.f x4 x5).bind fun bt121 => (if x3.length < 8796093022208 then ((some (x3 ++ [(⟨bt121.1, bt121.2⟩ : S40)] : List (S40))).bind fun y123 => (if 0 ≤ (wrap64 ((y123.length : Int) - 1)) then (if (wrap64 ((y123.length : Int) - 1)) < (y123.length : Int) then ((impl_Block_last.f ((rd_T40 y123 (wrap64 ((y123.length : Int) - 1))).f0) ((rd_T40 y123 (wrap64 ((y123.length : Int) - 1))).f1)).bind fun t127 => (impl_span_blocks.l0 k y123 (wrap64 (t127 + 1)) x102000 x102001)) else (none)) else (none))) else (none)))
end
def impl_span_blocks.f (k : Nat) (a0_0 : Int) (a0_1 : Int) : Option ((List (S40))) := impl_span_blocks.l0 k ([] : List (S40)) a0_0 a0_0 a0_1
def impl_span_blocks.T5 : Bool × List (List Nat × List Nat) := (true, [([], []), ([0], [0]), ([1], [1]), ([2], [2]), ([2], [2]), ([4, 2], [2, 4]), ([3, 5, 2, 2], [2, 3, 5]), ([6, 2], [2, 6]), ([2], [2]), ([7, 8, 2], [2, 7, 8]), ([2, 9], [2, 9]), ([10, 6], [10]), ([11], [11]), ([11], [11]), ([13, 11], [11, 13]), ([12, 14, 11, 11], [11, 12, 14]), ([15, 15, 11], [11, 15]), ([11], [11]), ([17, 11], [11, 17]), ([16, 18, 11], [11, 16, 18]), ([11, 19], [11, 19])])
def impl_span_blocks.B5 : List Nat := [0, 1, 3, 7, 7, 23, 63, 127, 7, 511, 1023, 2047, 4095, 4095, 12287, 32767, 65535, 4095, 135167, 524287, 1048575]
theorem impl_span_blocks.tab5 : rtab .any (opsOf Try.f47 5) = impl_span_blocks.T5 := by kernel_rfl
theorem impl_span_blocks.bits5 : waitsOk impl_span_blocks.T5.2 impl_span_blocks.B5 = true := by kernel_rfl
theorem impl_span_blocks.fld0 (x y : Int) (W : World) : (Instr.field 40 (.agg #[.int .i64 x, .int .i64 y]) 0).run Try.prog W = .ok (.int .i64 x) W := by
 simp [Instr.field, run_underlying Try.underlying40, asAgg, part, Try.isAgg3, Try.sizeOf3, go_sem]
theorem impl_span_blocks.fld1 (x y : Int) (W : World) : (Instr.field 40 (.agg #[.int .i64 x, .int .i64 y]) 1).run Try.prog W = .ok (.int .i64 y) W := by
 simp [Instr.field, run_underlying Try.underlying40, asAgg, part, Try.isAgg3, Try.sizeOf3, go_sem]
attribute [local go_sem] impl_span_blocks.fld0 impl_span_blocks.fld1
set_option maxHeartbeats 8000000 in
set_option maxRecDepth 100000 in
theorem impl_span_blocks.calls (k : Nat) (a0_0 : Int) (a0_1 : Int) (r : List (S40)) (w : World) (h : impl_span_blocks.f k a0_0 a0_1 = some r) :
  Calls Try.prog 47 #[.agg #[.int .i64 a0_0, .int .i64 a0_1]] w fun e w' => ∃ v0_ : Value, e = .returned (v0_) ∧ Kd.R k40 40 w' w.heap.size (fun _ => True) v0_ r ∧ Below w.heap.size w w' := by
 have hu68 := Try.underlying68
 have hu40 := Try.underlying40
 have HB := am (Below.refl w.heap.size w)
 have H : (impl_span_blocks.l0 k ([] : List (S40)) a0_0 a0_0 a0_1) = some r := h
 clear h
 have H' := Aside0.mk H
 clear H
 go_enter Try.func47, Try.ntmps47
 go_wp2_with (first | ((with_reducible refine gate_dst (N := 1) rfl ?_); refine box_event rfl (N := 1) rfl (cs := #[.int .i64 a0_0, .int .i64 a0_1]) (t := 68) BX ?_; intro gb101 hg w2 hbox hb; have BK101 := am (hbox); have GW101 := am (GH HB hg); have GE101 := GW101; replace HB := am (below_step (KL HB) hb); clear hb hbox hg; obtain ⟨hcz3_0, hcz3_1, hfz3_0⟩ := y2 w2 BK101.out))
 go_loopg [3, 4] k (fun kq v3 v4 w' => ∃ (x3_1 : List (S40)) (x4_1 : Int), v4 = .int .i64 x4_1 ∧ Aside0 (impl_span_blocks.l0 kq x3_1 x4_1 a0_0 a0_1 = some r) ∧ Aside0 (kq ≤ k) ∧ Aside0 (Kd.R k40 40 w' w.heap.size (fun _ => True) v3 x3_1) ∧ Aside0 (w'.heap[gb101]? = some (.cells #[.int .i64 a0_0, .int .i64 a0_1] 68 (0, 0))) ∧ Aside0 (Below w.heap.size w w'))
 case atStart => exact ⟨(([] : List (S40))), (a0_0), (by first | rfl | (simp; done) | (simp [*]; done)), H', ⟨Nat.le_refl _⟩, ⟨by first | exact Kd.R_nil _ _ _ _ _ | exact Kd.N_nil _ _ _ _ _ | exact Kd.V_nil _ _ _ _ _ | exact Kd.Q_nil _ _ _ _ _ | exact Kd.S_nil _ _ _ _ _⟩, ⟨KB BK101⟩, ⟨K1 HB GE101.out⟩⟩
 case round =>
  clear H'
  try clear p2
  try clear hcz3_0 hcz3_1 hfz3_0
  obtain ⟨x3_1, x4_1, rfl, HA, HK1, HO_3, BK101, HB⟩ := hrel
  cases gk with
  | zero => exact absurd HA.out (by simp [impl_span_blocks.l0])
  | succ k1 =>
   have H := HA.out
   clear HA
   simp only [impl_span_blocks.l0] at H
   by_cases c4 : x4_1 ≤ a0_1
   ·rw [if_pos c4] at H
    have c4b0 : decide (x4_1 ≤ a0_1) = true := decide_eq_true c4
    clear c4
    have H' := Aside0.mk H
    clear H
    obtain ⟨hcz5_0, hcz5_1, hfz5_0⟩ := y2 wr BK101.out
    go_wp2
    go_loopg [5] k1 (fun kq v5 w' => ∃ (x5_2 : Int), v5 = .int .i64 x5_2 ∧ Aside0 (impl_span_blocks.l1 kq x3_1 x4_1 x5_2 a0_0 a0_1 = some r) ∧ Aside0 (kq ≤ k1) ∧ Aside0 (Kd.R k40 40 w' w.heap.size (fun _ => True) u3 x3_1) ∧ Aside0 (w'.heap[gb101]? = some (.cells #[.int .i64 a0_0, .int .i64 a0_1] 68 (0, 0))) ∧ Aside0 (Below w.heap.size w w'))
    case atStart => exact ⟨(32), (by first | rfl | (simp; done) | (simp [*]; done)), H', ⟨Nat.le_refl _⟩, ⟨KR HO_3⟩, ⟨KB BK101⟩, ⟨K1 HB GE101.out⟩⟩
    case round =>
     clear H'
     try clear p2
     try clear c4
     try clear c4b0
     try clear hcz3_0 hcz3_1 hfz3_0
     try clear hcz5_0 hcz5_1 hfz5_0
     try clear p2
     obtain ⟨x5_2, rfl, HA, HK2, HO_3, BK101, HB⟩ := hrel
     cases gk with
     | zero => exact absurd HA.out (by simp [impl_span_blocks.l1])
     | succ k2 =>
      have H := HA.out
      clear HA
      simp only [impl_span_blocks.l1] at H
      by_cases c6 : x5_2 > 0
      ·rw [if_pos c6] at H
       have c6b0 : decide (0 < x5_2) = true := decide_eq_true c6
       clear c6
       replace H := Option.bind_eq_some_iff.mp H
       obtain ⟨⟨t102, t103⟩, A70, H⟩ := H
       replace H : (if t102 = x4_1 then ((impl_around.f x4_1 (wrap64 (x5_2 - 1))).bind fun bt104 => ((impl_Block_last.f bt104.1 bt104.2).bind fun t106 => (if t106 ≤ a0_1 then (impl_span_blocks.l1 k2 x3_1 x4_1 (wrap64 (x5_2 - 1)) a0_0 a0_1) else ((impl_around.f x4_1 x5_2).bind fun bt107 => (if x3_1.length < 8796093022208 then ((some (x3_1 ++ [(⟨bt107.1, bt107.2⟩ : S40)] : List (S40))).bind fun y109 => (if 0 ≤ (wrap64 ((y109.length : Int) - 1)) then (if (wrap64 ((y109.length : Int) - 1)) < (y109.length : Int) then ((impl_Block_last.f ((rd_T40 y109 (wrap64 ((y109.length : Int) - 1))).f0) ((rd_T40 y109 (wrap64 ((y109.length : Int) - 1))).f1)).bind fun t113 => (impl_span_blocks.l0 k2 y109 (wrap64 (t113 + 1)) a0_0 a0_1)) else (none)) else (none))) else (none)))))) else ((impl_around.f x4_1 x5_2).bind fun bt114 => (if x3_1.length < 8796093022208 then ((some (x3_1 ++ [(⟨bt114.1, bt114.2⟩ : S40)] : List (S40))).bind fun y116 => (if 0 ≤ (wrap64 ((y116.length : Int) - 1)) then (if (wrap64 ((y116.length : Int) - 1)) < (y116.length : Int) then ((impl_Block_last.f ((rd_T40 y116 (wrap64 ((y116.length : Int) - 1))).f0) ((rd_T40 y116 (wrap64 ((y116.length : Int) - 1))).f1)).bind fun t120 => (impl_span_blocks.l0 k2 y116 (wrap64 (t120 + 1)) a0_0 a0_1)) else (none)) else (none))) else (none)))) = some r := H
       have A7 := Aside0.mk A70
       clear A70
       by_cases c8 : t102 = x4_1
       ·rw [if_pos c8] at H
        have c8b0 : (t102 == x4_1) = true := beq_iff_eq.mpr c8
        have c8b1 : (t102 != x4_1) = false := bne_eq_false_iff_eq.mpr c8
        clear c8
        replace H := Option.bind_eq_some_iff.mp H
        obtain ⟨⟨t104, t105⟩, A90, H⟩ := H
        replace H : ((impl_Block_last.f t104 t105).bind fun t106 => (if t106 ≤ a0_1 then (impl_span_blocks.l1 k2 x3_1 x4_1 (wrap64 (x5_2 - 1)) a0_0 a0_1) else ((impl_around.f x4_1 x5_2).bind fun bt107 => (if x3_1.length < 8796093022208 then ((some (x3_1 ++ [(⟨bt107.1, bt107.2⟩ : S40)] : List (S40))).bind fun y109 => (if 0 ≤ (wrap64 ((y109.length : Int) - 1)) then (if (wrap64 ((y109.length : Int) - 1)) < (y109.length : Int) then ((impl_Block_last.f ((rd_T40 y109 (wrap64 ((y109.length : Int) - 1))).f0) ((rd_T40 y109 (wrap64 ((y109.length : Int) - 1))).f1)).bind fun t113 => (impl_span_blocks.l0 k2 y109 (wrap64 (t113 + 1)) a0_0 a0_1)) else (none)) else (none))) else (none))))) = some r := H
        have A9 := Aside0.mk A90
        clear A90
        replace H := Option.bind_eq_some_iff.mp H
        obtain ⟨t106, A100, H⟩ := H
        replace H : (if t106 ≤ a0_1 then (impl_span_blocks.l1 k2 x3_1 x4_1 (wrap64 (x5_2 - 1)) a0_0 a0_1) else ((impl_around.f x4_1 x5_2).bind fun bt107 => (if x3_1.length < 8796093022208 then ((some (x3_1 ++ [(⟨bt107.1, bt107.2⟩ : S40)] : List (S40))).bind fun y109 => (if 0 ≤ (wrap64 ((y109.length : Int) - 1)) then (if (wrap64 ((y109.length : Int) - 1)) < (y109.length : Int) then ((impl_Block_last.f ((rd_T40 y109 (wrap64 ((y109.length : Int) - 1))).f0) ((rd_T40 y109 (wrap64 ((y109.length : Int) - 1))).f1)).bind fun t113 => (impl_span_blocks.l0 k2 y109 (wrap64 (t113 + 1)) a0_0 a0_1)) else (none)) else (none))) else (none)))) = some r := H
        have A10 := Aside0.mk A100
        clear A100
        by_cases c11 : t106 ≤ a0_1
        ·rw [if_pos c11] at H
         have c11b0 : decide (t106 ≤ a0_1) = true := decide_eq_true c11
         clear c11
         have H' := Aside0.mk H
         clear H
         try go_wp2
         replace HO_3 := am (Kd.R_drew HO_3.out)
         replace BK101 := am (blk_drew BK101.out)
         replace HB := am (below_drew1 HB.out)
         refine start_ (n := 21) (S := fun w' => de2 w' gb101 (.int .i64 a0_0) (.int .i64 a0_1)) (ds := []) (tf 0 21) (by kernel_rfl) rfl rfl ⟨z0 _ BK101.out, z1 _ BK101.out⟩ (fun hHeld => ?_); refine with_tabW impl_span_blocks.tab5 impl_span_blocks.bits5 (fun HT_ HW_ => ?_)
         generalize wr.drew = w12 at HO_3 BK101 HB hHeld ⊢
         refine pv HT_ 0 12 (tf 1 20) ?_
         refine pv HT_ 1 13 (tf 2 19) ?_
         refine pv HT_ 2 14 (tf 3 18) ?_
         refine pv HT_ 3 15 (tf 4 17) ?_
         refine pv HT_ 4 16 (tf 5 16) ?_
         refine pv HT_ 5 17 (tf 6 15) ?_
         refine pv HT_ 8 20 (tr [6, 2, 1, 12]) ?_
         refine one_ (i := 6) (N := some 18) (tr [7, 1, 1, 12]) rfl rfl (one_of HT_.out (by kernel_rfl)) (by decide) (fun K hK => ?_)
         refine goes_ Try.func70 (by kernel_rfl) rfl #[.int .i64 x4_1, .int .i64 (wrap64 (x5_2 - 1))] (by rfl) rfl rfl MT ?_
         with_reducible refine (impl_around.calls x4_1 (wrap64 (x5_2 - 1)) t102 t103 _ A7.out).mono ?_
         rintro e w13 ⟨rfl, hb⟩
         refine ⟨_, rfl, ?_⟩
         replace HO_3 := am (Kd.R_below (KR HO_3) hb)
         replace BK101 := am (BB BK101 hb)
         replace HB := am (below_step (K1 HB GE101.out) hb)
         (try clear hb)
         (try clear hb2)
         (try clear hk)
         (try clear hi)
         refine hK.out _ _ ⟨z0 _ BK101.out, z1 _ BK101.out⟩ (fun hHeld => ?_)
         clear hK K
         refine norm_ (a' := ?_) ?_ ?_
         rotate_left
         ·show Act.put _ (some 18) _ = _
          simp only [Act.put, List.setIfInBounds_toArray, List.set_cons_zero, List.set_cons_succ, i64_w, i32_w]
          rfl
         refine pv HT_ 7 19 (tf 9 12) ?_
         refine pv HT_ 9 21 (tf 10 11) ?_
         refine pv HT_ 10 22 (tf 11 10) ?_
         refine pv HT_ 11 23 (tf 12 9) ?_
         refine pv HT_ 12 24 (tf 13 8) ?_
         refine pv HT_ 13 25 (tf 14 7) ?_
         refine pv HT_ 14 26 (tf 15 6) ?_
         refine pv HT_ 17 29 (tr [15, 2, 1, 3]) ?_
         refine tk 18 (some 30) (tr [15, 2, 2, 2]) (take_ofW HT_.out HW_.out (by kernel_rfl)) hHeld ?_
         refine one_ (i := 15) (N := some 27) (tr [16, 1, 2, 2]) rfl rfl (one_of HT_.out (by kernel_rfl)) (by decide) (fun K hK => ?_)
         refine goes_ Try.func70 (by kernel_rfl) rfl #[.int .i64 x4_1, .int .i64 (wrap64 (x5_2 - 1))] (by rfl) rfl rfl MT ?_
         with_reducible refine (impl_around.calls x4_1 (wrap64 (x5_2 - 1)) t104 t105 _ A9.out).mono ?_
         rintro e w14 ⟨rfl, hb⟩
         refine ⟨_, rfl, ?_⟩
         replace HO_3 := am (Kd.R_below (KR HO_3) hb)
         replace BK101 := am (BB BK101 hb)
         replace HB := am (below_step (K1 HB GE101.out) hb)
         (try clear hb)
         (try clear hb2)
         (try clear hk)
         (try clear hi)
         refine hK.out _ _ ⟨z0 _ BK101.out, z1 _ BK101.out⟩ (fun hHeld => ?_)
         clear hK K
         refine norm_ (a' := ?_) ?_ ?_
         rotate_left
         ·show Act.put _ (some 27) _ = _
          simp only [Act.put, List.setIfInBounds_toArray, List.set_cons_zero, List.set_cons_succ, i64_w, i32_w]
          rfl
         refine one_ (i := 16) (N := some 28) (tf 19 2) rfl rfl (one_of HT_.out (by kernel_rfl)) (by decide) (fun K hK => ?_)
         refine goes_ Try.func89 (by kernel_rfl) rfl #[.agg #[.int .i64 t104, .int .i64 t105]] (by rfl) rfl rfl MT ?_
         with_reducible refine (impl_Block_last.calls t104 t105 t106 _ A10.out).mono ?_
         rintro e w15 ⟨rfl, hb⟩
         refine ⟨_, rfl, ?_⟩
         replace HO_3 := am (Kd.R_below (KR HO_3) hb)
         replace BK101 := am (BB BK101 hb)
         replace HB := am (below_step (K1 HB GE101.out) hb)
         (try clear hb)
         (try clear hb2)
         (try clear hk)
         (try clear hi)
         refine hK.out _ _ ⟨z0 _ BK101.out, z1 _ BK101.out⟩ (fun hHeld => ?_)
         clear hK K
         refine norm_ (a' := ?_) ?_ ?_
         rotate_left
         ·show Act.put _ (some 28) _ = _
          simp only [Act.put, List.setIfInBounds_toArray, List.set_cons_zero, List.set_cons_succ, i64_w, i32_w]
          rfl
         refine pv HT_ 19 31 (tf 20 1) ?_
         refine pv HT_ 20 32 (tf 21 0) ?_
         refine done_ (done_of HT_.out (by kernel_rfl)) ?_
         try go_wp2
         go_roundg k2
         case measure => have := HK1.out; have := HK2.out; omega
         case rel => exact ⟨(wrap64 (x5_2 - 1)), (by first | rfl | (simp; done) | (simp [*]; done)), H', ⟨by have := HK1.out; have := HK2.out; omega⟩, ⟨KR HO_3⟩, ⟨KB BK101⟩, ⟨K1 HB GE101.out⟩⟩
        ·rw [if_neg c11] at H
         have c11b0 : decide (t106 ≤ a0_1) = false := decide_eq_false c11
         clear c11
         replace H := Option.bind_eq_some_iff.mp H
         obtain ⟨⟨t107, t108⟩, A160, H⟩ := H
         replace H : (if x3_1.length < 8796093022208 then ((some (x3_1 ++ [(⟨t107, t108⟩ : S40)] : List (S40))).bind fun y109 => (if 0 ≤ (wrap64 ((y109.length : Int) - 1)) then (if (wrap64 ((y109.length : Int) - 1)) < (y109.length : Int) then ((impl_Block_last.f ((rd_T40 y109 (wrap64 ((y109.length : Int) - 1))).f0) ((rd_T40 y109 (wrap64 ((y109.length : Int) - 1))).f1)).bind fun t113 => (impl_span_blocks.l0 k2 y109 (wrap64 (t113 + 1)) a0_0 a0_1)) else (none)) else (none))) else (none)) = some r := H
         have A16 := Aside0.mk A160
         clear A160
         by_cases c17 : x3_1.length < 8796093022208
         ·rw [if_pos c17] at H
          have LMc17 := Aside0.mk c17
          clear c17
          obtain ⟨y109, hy109⟩ : ∃ y_ : List (S40), y_ = (x3_1 ++ [(⟨t107, t108⟩ : S40)]) := ⟨_, rfl⟩
          replace H : (if 0 ≤ (wrap64 ((y109.length : Int) - 1)) then (if (wrap64 ((y109.length : Int) - 1)) < (y109.length : Int) then ((impl_Block_last.f ((rd_T40 y109 (wrap64 ((y109.length : Int) - 1))).f0) ((rd_T40 y109 (wrap64 ((y109.length : Int) - 1))).f1)).bind fun t113 => (impl_span_blocks.l0 k2 y109 (wrap64 (t113 + 1)) a0_0 a0_1)) else (none)) else (none)) = some r := by first | (rw [hy109]; with_reducible exact H) | (have H2_ := (Option.bind_some _ _).symm.trans H; rw [hy109]; with_reducible exact H2_) | (have H2_ := (Option.bind_some _ _).symm.trans H; with_reducible exact H2_) | with_reducible exact H | (rw [hy109]; exact H) | exact H
          have Ny109 := Aside0.mk hy109
          clear hy109
          obtain ⟨ji18, hji18⟩ : ∃ j_ : Int, (wrap64 ((y109.length : Int) - 1)) = j_ := ⟨_, rfl⟩
          replace H : (if 0 ≤ (ji18) then (if (ji18) < (y109.length : Int) then ((impl_Block_last.f ((rd_T40 y109 (ji18)).f0) ((rd_T40 y109 (ji18)).f1)).bind fun t113 => (impl_span_blocks.l0 k2 y109 (wrap64 (t113 + 1)) a0_0 a0_1)) else (none)) else (none)) = some r := by first | (rw [hji18] at H; exact H) | (simp only [hji18] at H ⊢; exact H)
          (try rw [hji18] at A7)
          (try rw [hji18] at A9)
          (try rw [hji18] at A10)
          (try rw [hji18] at A16)
          have hji18w : (IntKind.i64.wrap ((y109.length : Int) - 1)) = ji18 := (i64_w _).trans hji18
          by_cases c19 : 0 ≤ (ji18)
          ·rw [if_pos c19] at H
           have c19b0 : decide (0 ≤ (ji18)) = true := decide_eq_true c19
           clear c19
           by_cases c20 : (ji18) < (y109.length : Int)
           ·rw [if_pos c20] at H
            have c20b0 : decide ((ji18) < (y109.length : Int)) = true := decide_eq_true c20
            clear c20
            replace H := Option.bind_eq_some_iff.mp H
            obtain ⟨t113, A210, H⟩ := H
            replace H : (impl_span_blocks.l0 k2 y109 (wrap64 (t113 + 1)) a0_0 a0_1) = some r := H
            have A21 := Aside0.mk A210
            clear A210
            have H' := Aside0.mk H
            clear H
            try go_wp2
            replace HO_3 := am (Kd.R_drew HO_3.out)
            replace BK101 := am (blk_drew BK101.out)
            replace HB := am (below_drew1 HB.out)
            refine start_ (n := 21) (S := fun w' => de2 w' gb101 (.int .i64 a0_0) (.int .i64 a0_1)) (ds := []) (tf 0 21) (by kernel_rfl) rfl rfl ⟨z0 _ BK101.out, z1 _ BK101.out⟩ (fun hHeld => ?_); refine with_tabW impl_span_blocks.tab5 impl_span_blocks.bits5 (fun HT_ HW_ => ?_)
            generalize wr.drew = w22 at HO_3 BK101 HB hHeld ⊢
            refine pv HT_ 0 12 (tf 1 20) ?_
            refine pv HT_ 1 13 (tf 2 19) ?_
            refine pv HT_ 2 14 (tf 3 18) ?_
            refine pv HT_ 3 15 (tf 4 17) ?_
            refine pv HT_ 4 16 (tf 5 16) ?_
            refine pv HT_ 5 17 (tf 6 15) ?_
            refine pv HT_ 8 20 (tr [6, 2, 1, 12]) ?_
            refine one_ (i := 6) (N := some 18) (tr [7, 1, 1, 12]) rfl rfl (one_of HT_.out (by kernel_rfl)) (by decide) (fun K hK => ?_)
            refine goes_ Try.func70 (by kernel_rfl) rfl #[.int .i64 x4_1, .int .i64 (wrap64 (x5_2 - 1))] (by rfl) rfl rfl MT ?_
            with_reducible refine (impl_around.calls x4_1 (wrap64 (x5_2 - 1)) t102 t103 _ A7.out).mono ?_
            rintro e w23 ⟨rfl, hb⟩
            refine ⟨_, rfl, ?_⟩
            replace HO_3 := am (Kd.R_below (KR HO_3) hb)
            replace BK101 := am (BB BK101 hb)
            replace HB := am (below_step (K1 HB GE101.out) hb)
            (try clear hb)
            (try clear hb2)
            (try clear hk)
            (try clear hi)
            refine hK.out _ _ ⟨z0 _ BK101.out, z1 _ BK101.out⟩ (fun hHeld => ?_)
            clear hK K
            refine norm_ (a' := ?_) ?_ ?_
            rotate_left
            ·show Act.put _ (some 18) _ = _
             simp only [Act.put, List.setIfInBounds_toArray, List.set_cons_zero, List.set_cons_succ, i64_w, i32_w]
             rfl
            refine pv HT_ 7 19 (tf 9 12) ?_
            refine pv HT_ 9 21 (tf 10 11) ?_
            refine pv HT_ 10 22 (tf 11 10) ?_
            refine pv HT_ 11 23 (tf 12 9) ?_
            refine pv HT_ 12 24 (tf 13 8) ?_
            refine pv HT_ 13 25 (tf 14 7) ?_
            refine pv HT_ 14 26 (tf 15 6) ?_
            refine pv HT_ 17 29 (tr [15, 2, 1, 3]) ?_
            refine tk 18 (some 30) (tr [15, 2, 2, 2]) (take_ofW HT_.out HW_.out (by kernel_rfl)) hHeld ?_
            refine one_ (i := 15) (N := some 27) (tr [16, 1, 2, 2]) rfl rfl (one_of HT_.out (by kernel_rfl)) (by decide) (fun K hK => ?_)
            refine goes_ Try.func70 (by kernel_rfl) rfl #[.int .i64 x4_1, .int .i64 (wrap64 (x5_2 - 1))] (by rfl) rfl rfl MT ?_
            with_reducible refine (impl_around.calls x4_1 (wrap64 (x5_2 - 1)) t104 t105 _ A9.out).mono ?_
            rintro e w24 ⟨rfl, hb⟩
            refine ⟨_, rfl, ?_⟩
            replace HO_3 := am (Kd.R_below (KR HO_3) hb)
            replace BK101 := am (BB BK101 hb)
            replace HB := am (below_step (K1 HB GE101.out) hb)
            (try clear hb)
            (try clear hb2)
            (try clear hk)
            (try clear hi)
            refine hK.out _ _ ⟨z0 _ BK101.out, z1 _ BK101.out⟩ (fun hHeld => ?_)
            clear hK K
            refine norm_ (a' := ?_) ?_ ?_
            rotate_left
            ·show Act.put _ (some 27) _ = _
             simp only [Act.put, List.setIfInBounds_toArray, List.set_cons_zero, List.set_cons_succ, i64_w, i32_w]
             rfl
            refine one_ (i := 16) (N := some 28) (tf 19 2) rfl rfl (one_of HT_.out (by kernel_rfl)) (by decide) (fun K hK => ?_)
            refine goes_ Try.func89 (by kernel_rfl) rfl #[.agg #[.int .i64 t104, .int .i64 t105]] (by rfl) rfl rfl MT ?_
            with_reducible refine (impl_Block_last.calls t104 t105 t106 _ A10.out).mono ?_
            rintro e w25 ⟨rfl, hb⟩
            refine ⟨_, rfl, ?_⟩
            replace HO_3 := am (Kd.R_below (KR HO_3) hb)
            replace BK101 := am (BB BK101 hb)
            replace HB := am (below_step (K1 HB GE101.out) hb)
            (try clear hb)
            (try clear hb2)
            (try clear hk)
            (try clear hi)
            refine hK.out _ _ ⟨z0 _ BK101.out, z1 _ BK101.out⟩ (fun hHeld => ?_)
            clear hK K
            refine norm_ (a' := ?_) ?_ ?_
            rotate_left
            ·show Act.put _ (some 28) _ = _
             simp only [Act.put, List.setIfInBounds_toArray, List.set_cons_zero, List.set_cons_succ, i64_w, i32_w]
             rfl
            refine pv HT_ 19 31 (tf 20 1) ?_
            refine pv HT_ 20 32 (tf 21 0) ?_
            refine done_ (done_of HT_.out (by kernel_rfl)) ?_
            try go_wp2_with (first | ((with_reducible refine gate_callee (f := 70) rfl ?_); refine goesL_ (some 38) rfl rfl Try.func70 (by kernel_rfl) rfl #[.int .i64 x4_1, .int .i64 x5_2] rfl MT ?_; (with_reducible refine (impl_around.calls x4_1 x5_2 t107 t108 _ A16.out).mono ?_); rintro e w26 ⟨rfl, hb⟩; refine ⟨_, rfl, ?_⟩; replace HO_3 := am (Kd.R_below (KR HO_3) hb); replace BK101 := am (BB BK101 hb); replace HB := am (below_step (K1 HB GE101.out) hb); (try clear hb)) | ((with_reducible refine gate_builtin (b := .append) (xs := #[.tmp 35, .tmp 39]) rfl ?_); at_builtin; refine Kd.R_append k40 (w0 := w) w.heap.size rfl (.tmp 35) (.tmp 39) 25 40 (.agg #[(.int .i64 0), (.int .i64 0)]) 16 rfl Try.underlying25 info40 rfl (by decide) (by omega) u3 x3_1 (⟨t107, t108⟩ : S40) [.int .i64 t107, .int .i64 t108] (fun _ => True) (fun _ => False) rfl rfl ?aP (fun _ hk => hk.elim) ?aF ?aO ?aB ?aS ?aL ?_; (case aP => exact k40_mkM _ _ _ (⟨t107, t108⟩ : S40)); (case aB => exact (K1 HB GE101.out)); (case aF => exact (fun _ _ => trivial)); (case aO => exact (KR HO_3)); (case aS => exact (below_size (K1 HB GE101.out))); (case aL => have := LMc17.out; omega); intro v110 w27 ho hb hg hat; rw [← Ny109.out] at ho; replace BK101 := am (blk_grown (g := gb101) (o := .cells #[.int .i64 a0_0, .int .i64 a0_1] 68 (0, 0)) (KB BK101) hg (Kd.R_ne HO_3.out BK101.out (by decide))); replace HB := am (hb); have HO111 := am (ho); clear HO_3; clear ho hb hg hat; obtain ⟨Ao28, co28, eo28⟩ := Kd.R_slice HO111.out; subst eo28; have p112 : 0 ≤ ((ji18) : Int) := OD; have q112 : (ji18) < (y109.length : Int) := OD; obtain ⟨ad112, e112, hx112_0, hx112_1⟩ := at_T40 (Kd.R_reads' HO111.out).2.2 (ji18) p112 q112; cases e112; replace p112 := eq_true p112; replace q112 := eq_true q112) | ((with_reducible refine gate_callee (f := 89) rfl ?_); refine goesL_ (some 47) rfl rfl Try.func89 (by kernel_rfl) rfl #[.agg #[.int .i64 ((rd_T40 y109 (ji18)).f0), .int .i64 ((rd_T40 y109 (ji18)).f1)]] rfl (by (try simp only [List.map_toArray, List.map_cons, List.map_nil]); first | done | (simp only [hji18]; rfl) | rfl | (simp only [List.length_drop, List.length_take]; rfl)) ?_; (with_reducible refine (impl_Block_last.calls ((rd_T40 y109 (ji18)).f0) ((rd_T40 y109 (ji18)).f1) t113 _ A21.out).mono ?_); rintro e w29 ⟨rfl, hb⟩; refine ⟨_, rfl, ?_⟩; replace HO111 := am (Kd.R_below (KR HO111) hb); replace BK101 := am (BB BK101 hb); replace HB := am (below_step (K1 HB GE101.out) hb); (try clear hb)))
            go_roundg k2
            case measure => have := HK1.out; have := HK2.out; omega
            case rel => exact ⟨(y109), (wrap64 (t113 + 1)), (by first | rfl | (simp; done) | (simp [*]; done)), H', ⟨by have := HK1.out; have := HK2.out; omega⟩, ⟨KR HO111⟩, ⟨KB BK101⟩, ⟨K1 HB GE101.out⟩⟩
           ·rw [if_neg c20] at H
            exact absurd H (by simp)
          ·rw [if_neg c19] at H
           exact absurd H (by simp)
         ·rw [if_neg c17] at H
          exact absurd H (by simp)
       ·rw [if_neg c8] at H
        have c8b0 : (t102 == x4_1) = false := beq_eq_false_iff_ne.mpr c8
        have c8b1 : (t102 != x4_1) = true := bne_iff_ne.mpr c8
        replace H := Option.bind_eq_some_iff.mp H
        obtain ⟨⟨t114, t115⟩, A300, H⟩ := H
        replace H : (if x3_1.length < 8796093022208 then ((some (x3_1 ++ [(⟨t114, t115⟩ : S40)] : List (S40))).bind fun y116 => (if 0 ≤ (wrap64 ((y116.length : Int) - 1)) then (if (wrap64 ((y116.length : Int) - 1)) < (y116.length : Int) then ((impl_Block_last.f ((rd_T40 y116 (wrap64 ((y116.length : Int) - 1))).f0) ((rd_T40 y116 (wrap64 ((y116.length : Int) - 1))).f1)).bind fun t120 => (impl_span_blocks.l0 k2 y116 (wrap64 (t120 + 1)) a0_0 a0_1)) else (none)) else (none))) else (none)) = some r := H
        have A30 := Aside0.mk A300
        clear A300
        by_cases c31 : x3_1.length < 8796093022208
        ·rw [if_pos c31] at H
         have LMc31 := Aside0.mk c31
         clear c31
         obtain ⟨y116, hy116⟩ : ∃ y_ : List (S40), y_ = (x3_1 ++ [(⟨t114, t115⟩ : S40)]) := ⟨_, rfl⟩
         replace H : (if 0 ≤ (wrap64 ((y116.length : Int) - 1)) then (if (wrap64 ((y116.length : Int) - 1)) < (y116.length : Int) then ((impl_Block_last.f ((rd_T40 y116 (wrap64 ((y116.length : Int) - 1))).f0) ((rd_T40 y116 (wrap64 ((y116.length : Int) - 1))).f1)).bind fun t120 => (impl_span_blocks.l0 k2 y116 (wrap64 (t120 + 1)) a0_0 a0_1)) else (none)) else (none)) = some r := by first | (rw [hy116]; with_reducible exact H) | (have H2_ := (Option.bind_some _ _).symm.trans H; rw [hy116]; with_reducible exact H2_) | (have H2_ := (Option.bind_some _ _).symm.trans H; with_reducible exact H2_) | with_reducible exact H | (rw [hy116]; exact H) | exact H
         have Ny116 := Aside0.mk hy116
         clear hy116
         obtain ⟨ji32, hji32⟩ : ∃ j_ : Int, (wrap64 ((y116.length : Int) - 1)) = j_ := ⟨_, rfl⟩
         replace H : (if 0 ≤ (ji32) then (if (ji32) < (y116.length : Int) then ((impl_Block_last.f ((rd_T40 y116 (ji32)).f0) ((rd_T40 y116 (ji32)).f1)).bind fun t120 => (impl_span_blocks.l0 k2 y116 (wrap64 (t120 + 1)) a0_0 a0_1)) else (none)) else (none)) = some r := by first | (rw [hji32] at H; exact H) | (simp only [hji32] at H ⊢; exact H)
         (try rw [hji32] at A7)
         (try rw [hji32] at A30)
         have hji32w : (IntKind.i64.wrap ((y116.length : Int) - 1)) = ji32 := (i64_w _).trans hji32
         by_cases c33 : 0 ≤ (ji32)
         ·rw [if_pos c33] at H
          have c33b0 : decide (0 ≤ (ji32)) = true := decide_eq_true c33
          clear c33
          by_cases c34 : (ji32) < (y116.length : Int)
          ·rw [if_pos c34] at H
           have c34b0 : decide ((ji32) < (y116.length : Int)) = true := decide_eq_true c34
           clear c34
           replace H := Option.bind_eq_some_iff.mp H
           obtain ⟨t120, A350, H⟩ := H
           replace H : (impl_span_blocks.l0 k2 y116 (wrap64 (t120 + 1)) a0_0 a0_1) = some r := H
           have A35 := Aside0.mk A350
           clear A350
           have H' := Aside0.mk H
           clear H
           try go_wp2
           replace HO_3 := am (Kd.R_drew HO_3.out)
           replace BK101 := am (blk_drew BK101.out)
           replace HB := am (below_drew1 HB.out)
           refine start_ (n := 21) (S := fun w' => True) (ds := []) (tf 0 21) (by kernel_rfl) rfl rfl trivial (fun hHeld => ?_); refine with_tabW impl_span_blocks.tab5 impl_span_blocks.bits5 (fun HT_ HW_ => ?_)
           generalize wr.drew = w36 at HO_3 BK101 HB hHeld ⊢
           refine pv HT_ 0 12 (tf 1 20) ?_
           refine pv HT_ 1 13 (tf 2 19) ?_
           refine pv HT_ 2 14 (tf 3 18) ?_
           refine pv HT_ 3 15 (tf 4 17) ?_
           refine pv HT_ 4 16 (tf 5 16) ?_
           refine pv HT_ 5 17 (tf 6 15) ?_
           refine pv HT_ 8 20 (tr [6, 2, 1, 12]) ?_
           refine one_ (i := 6) (N := some 18) (tr [7, 1, 1, 12]) rfl rfl (one_of HT_.out (by kernel_rfl)) (by decide) (fun K hK => ?_)
           refine goes_ Try.func70 (by kernel_rfl) rfl #[.int .i64 x4_1, .int .i64 (wrap64 (x5_2 - 1))] (by rfl) rfl rfl MT ?_
           with_reducible refine (impl_around.calls x4_1 (wrap64 (x5_2 - 1)) t102 t103 _ A7.out).mono ?_
           rintro e w37 ⟨rfl, hb⟩
           refine ⟨_, rfl, ?_⟩
           replace HO_3 := am (Kd.R_below (KR HO_3) hb)
           replace BK101 := am (BB BK101 hb)
           replace HB := am (below_step (K1 HB GE101.out) hb)
           (try clear hb)
           (try clear hb2)
           (try clear hk)
           (try clear hi)
           refine hK.out _ _ trivial (fun hHeld => ?_)
           clear hK K
           refine norm_ (a' := ?_) ?_ ?_
           rotate_left
           ·show Act.put _ (some 18) _ = _
            simp only [Act.put, List.setIfInBounds_toArray, List.set_cons_zero, List.set_cons_succ, i64_w, i32_w]
            rfl
           refine pv HT_ 7 19 (tf 9 12) ?_
           refine pv HT_ 9 21 (tf 10 11) ?_
           refine pv HT_ 10 22 (tf 11 10) ?_
           refine pv HT_ 11 23 (tf 12 9) ?_
           refine pw HT_ 12 24 (tf 13 8) ?_
           refine pw HT_ 13 25 (tf 14 7) ?_
           refine pw HT_ 14 26 (tf 15 6) ?_
           refine pw HT_ 15 27 (tf 16 5) ?_
           refine pw HT_ 16 28 (tf 17 4) ?_
           refine pw HT_ 17 29 (tf 18 3) ?_
           refine pw HT_ 18 30 (tf 19 2) ?_
           refine pw HT_ 19 31 (tf 20 1) ?_
           refine pv HT_ 20 32 (tf 21 0) ?_
           refine done_ (done_of HT_.out (by kernel_rfl)) ?_
           try go_wp2_with (first | ((with_reducible refine gate_callee (f := 70) rfl ?_); refine goesL_ (some 38) rfl rfl Try.func70 (by kernel_rfl) rfl #[.int .i64 x4_1, .int .i64 x5_2] rfl MT ?_; (with_reducible refine (impl_around.calls x4_1 x5_2 t114 t115 _ A30.out).mono ?_); rintro e w38 ⟨rfl, hb⟩; refine ⟨_, rfl, ?_⟩; replace HO_3 := am (Kd.R_below (KR HO_3) hb); replace BK101 := am (BB BK101 hb); replace HB := am (below_step (K1 HB GE101.out) hb); (try clear hb)) | ((with_reducible refine gate_builtin (b := .append) (xs := #[.tmp 35, .tmp 39]) rfl ?_); at_builtin; refine Kd.R_append k40 (w0 := w) w.heap.size rfl (.tmp 35) (.tmp 39) 25 40 (.agg #[(.int .i64 0), (.int .i64 0)]) 16 rfl Try.underlying25 info40 rfl (by decide) (by omega) u3 x3_1 (⟨t114, t115⟩ : S40) [.int .i64 t114, .int .i64 t115] (fun _ => True) (fun _ => False) rfl rfl ?aP (fun _ hk => hk.elim) ?aF ?aO ?aB ?aS ?aL ?_; (case aP => exact k40_mkM _ _ _ (⟨t114, t115⟩ : S40)); (case aB => exact (K1 HB GE101.out)); (case aF => exact (fun _ _ => trivial)); (case aO => exact (KR HO_3)); (case aS => exact (below_size (K1 HB GE101.out))); (case aL => have := LMc31.out; omega); intro v117 w39 ho hb hg hat; rw [← Ny116.out] at ho; replace BK101 := am (blk_grown (g := gb101) (o := .cells #[.int .i64 a0_0, .int .i64 a0_1] 68 (0, 0)) (KB BK101) hg (Kd.R_ne HO_3.out BK101.out (by decide))); replace HB := am (hb); have HO118 := am (ho); clear HO_3; clear ho hb hg hat; obtain ⟨Ao40, co40, eo40⟩ := Kd.R_slice HO118.out; subst eo40; have p119 : 0 ≤ ((ji32) : Int) := OD; have q119 : (ji32) < (y116.length : Int) := OD; obtain ⟨ad119, e119, hx119_0, hx119_1⟩ := at_T40 (Kd.R_reads' HO118.out).2.2 (ji32) p119 q119; cases e119; replace p119 := eq_true p119; replace q119 := eq_true q119) | ((with_reducible refine gate_callee (f := 89) rfl ?_); refine goesL_ (some 47) rfl rfl Try.func89 (by kernel_rfl) rfl #[.agg #[.int .i64 ((rd_T40 y116 (ji32)).f0), .int .i64 ((rd_T40 y116 (ji32)).f1)]] rfl (by (try simp only [List.map_toArray, List.map_cons, List.map_nil]); first | done | (simp only [hji32]; rfl) | rfl | (simp only [List.length_drop, List.length_take]; rfl)) ?_; (with_reducible refine (impl_Block_last.calls ((rd_T40 y116 (ji32)).f0) ((rd_T40 y116 (ji32)).f1) t120 _ A35.out).mono ?_); rintro e w41 ⟨rfl, hb⟩; refine ⟨_, rfl, ?_⟩; replace HO118 := am (Kd.R_below (KR HO118) hb); replace BK101 := am (BB BK101 hb); replace HB := am (below_step (K1 HB GE101.out) hb); (try clear hb)))
           go_roundg k2
           case measure => have := HK1.out; have := HK2.out; omega
           case rel => exact ⟨(y116), (wrap64 (t120 + 1)), (by first | rfl | (simp; done) | (simp [*]; done)), H', ⟨by have := HK1.out; have := HK2.out; omega⟩, ⟨KR HO118⟩, ⟨KB BK101⟩, ⟨K1 HB GE101.out⟩⟩
          ·rw [if_neg c34] at H
           exact absurd H (by simp)
         ·rw [if_neg c33] at H
          exact absurd H (by simp)
        ·rw [if_neg c31] at H
         exact absurd H (by simp)
      ·rw [if_neg c6] at H
       have c6b0 : decide (0 < x5_2) = false := decide_eq_false c6
       clear c6
       replace H := Option.bind_eq_some_iff.mp H
       obtain ⟨⟨t121, t122⟩, A420, H⟩ := H
       replace H : (if x3_1.length < 8796093022208 then ((some (x3_1 ++ [(⟨t121, t122⟩ : S40)] : List (S40))).bind fun y123 => (if 0 ≤ (wrap64 ((y123.length : Int) - 1)) then (if (wrap64 ((y123.length : Int) - 1)) < (y123.length : Int) then ((impl_Block_last.f ((rd_T40 y123 (wrap64 ((y123.length : Int) - 1))).f0) ((rd_T40 y123 (wrap64 ((y123.length : Int) - 1))).f1)).bind fun t127 => (impl_span_blocks.l0 k2 y123 (wrap64 (t127 + 1)) a0_0 a0_1)) else (none)) else (none))) else (none)) = some r := H
       have A42 := Aside0.mk A420
       clear A420
       by_cases c43 : x3_1.length < 8796093022208
       ·rw [if_pos c43] at H
        have LMc43 := Aside0.mk c43
        clear c43
        obtain ⟨y123, hy123⟩ : ∃ y_ : List (S40), y_ = (x3_1 ++ [(⟨t121, t122⟩ : S40)]) := ⟨_, rfl⟩
        replace H : (if 0 ≤ (wrap64 ((y123.length : Int) - 1)) then (if (wrap64 ((y123.length : Int) - 1)) < (y123.length : Int) then ((impl_Block_last.f ((rd_T40 y123 (wrap64 ((y123.length : Int) - 1))).f0) ((rd_T40 y123 (wrap64 ((y123.length : Int) - 1))).f1)).bind fun t127 => (impl_span_blocks.l0 k2 y123 (wrap64 (t127 + 1)) a0_0 a0_1)) else (none)) else (none)) = some r := by first | (rw [hy123]; with_reducible exact H) | (have H2_ := (Option.bind_some _ _).symm.trans H; rw [hy123]; with_reducible exact H2_) | (have H2_ := (Option.bind_some _ _).symm.trans H; with_reducible exact H2_) | with_reducible exact H | (rw [hy123]; exact H) | exact H
        have Ny123 := Aside0.mk hy123
        clear hy123
        obtain ⟨ji44, hji44⟩ : ∃ j_ : Int, (wrap64 ((y123.length : Int) - 1)) = j_ := ⟨_, rfl⟩
        replace H : (if 0 ≤ (ji44) then (if (ji44) < (y123.length : Int) then ((impl_Block_last.f ((rd_T40 y123 (ji44)).f0) ((rd_T40 y123 (ji44)).f1)).bind fun t127 => (impl_span_blocks.l0 k2 y123 (wrap64 (t127 + 1)) a0_0 a0_1)) else (none)) else (none)) = some r := by first | (rw [hji44] at H; exact H) | (simp only [hji44] at H ⊢; exact H)
        (try rw [hji44] at A42)
        have hji44w : (IntKind.i64.wrap ((y123.length : Int) - 1)) = ji44 := (i64_w _).trans hji44
        by_cases c45 : 0 ≤ (ji44)
        ·rw [if_pos c45] at H
         have c45b0 : decide (0 ≤ (ji44)) = true := decide_eq_true c45
         clear c45
         by_cases c46 : (ji44) < (y123.length : Int)
         ·rw [if_pos c46] at H
          have c46b0 : decide ((ji44) < (y123.length : Int)) = true := decide_eq_true c46
          clear c46
          replace H := Option.bind_eq_some_iff.mp H
          obtain ⟨t127, A470, H⟩ := H
          replace H : (impl_span_blocks.l0 k2 y123 (wrap64 (t127 + 1)) a0_0 a0_1) = some r := H
          have A47 := Aside0.mk A470
          clear A470
          have H' := Aside0.mk H
          clear H
          try go_wp2
          replace HO_3 := am (Kd.R_drew HO_3.out)
          replace BK101 := am (blk_drew BK101.out)
          replace HB := am (below_drew1 HB.out)
          refine start_ (n := 21) (S := fun w' => True) (ds := []) (tf 0 21) (by kernel_rfl) rfl rfl trivial (fun hHeld => ?_); refine with_tabW impl_span_blocks.tab5 impl_span_blocks.bits5 (fun HT_ HW_ => ?_)
          generalize wr.drew = w48 at HO_3 BK101 HB hHeld ⊢
          refine pv HT_ 0 12 (tf 1 20) ?_
          refine pv HT_ 1 13 (tf 2 19) ?_
          refine pv HT_ 2 14 (tf 3 18) ?_
          refine pw HT_ 3 15 (tf 4 17) ?_
          refine pw HT_ 4 16 (tf 5 16) ?_
          refine pw HT_ 5 17 (tf 6 15) ?_
          refine pw HT_ 6 18 (tf 7 14) ?_
          refine pw HT_ 7 19 (tf 8 13) ?_
          refine pw HT_ 8 20 (tf 9 12) ?_
          refine pw HT_ 9 21 (tf 10 11) ?_
          refine pv HT_ 10 22 (tf 11 10) ?_
          refine pv HT_ 11 23 (tf 12 9) ?_
          refine pw HT_ 12 24 (tf 13 8) ?_
          refine pw HT_ 13 25 (tf 14 7) ?_
          refine pw HT_ 14 26 (tf 15 6) ?_
          refine pw HT_ 15 27 (tf 16 5) ?_
          refine pw HT_ 16 28 (tf 17 4) ?_
          refine pw HT_ 17 29 (tf 18 3) ?_
          refine pw HT_ 18 30 (tf 19 2) ?_
          refine pw HT_ 19 31 (tf 20 1) ?_
          refine pv HT_ 20 32 (tf 21 0) ?_
          refine done_ (done_of HT_.out (by kernel_rfl)) ?_
          try go_wp2_with (first | ((with_reducible refine gate_callee (f := 70) rfl ?_); refine goesL_ (some 38) rfl rfl Try.func70 (by kernel_rfl) rfl #[.int .i64 x4_1, .int .i64 x5_2] rfl MT ?_; (with_reducible refine (impl_around.calls x4_1 x5_2 t121 t122 _ A42.out).mono ?_); rintro e w49 ⟨rfl, hb⟩; refine ⟨_, rfl, ?_⟩; replace HO_3 := am (Kd.R_below (KR HO_3) hb); replace BK101 := am (BB BK101 hb); replace HB := am (below_step (K1 HB GE101.out) hb); (try clear hb)) | ((with_reducible refine gate_builtin (b := .append) (xs := #[.tmp 35, .tmp 39]) rfl ?_); at_builtin; refine Kd.R_append k40 (w0 := w) w.heap.size rfl (.tmp 35) (.tmp 39) 25 40 (.agg #[(.int .i64 0), (.int .i64 0)]) 16 rfl Try.underlying25 info40 rfl (by decide) (by omega) u3 x3_1 (⟨t121, t122⟩ : S40) [.int .i64 t121, .int .i64 t122] (fun _ => True) (fun _ => False) rfl rfl ?aP (fun _ hk => hk.elim) ?aF ?aO ?aB ?aS ?aL ?_; (case aP => exact k40_mkM _ _ _ (⟨t121, t122⟩ : S40)); (case aB => exact (K1 HB GE101.out)); (case aF => exact (fun _ _ => trivial)); (case aO => exact (KR HO_3)); (case aS => exact (below_size (K1 HB GE101.out))); (case aL => have := LMc43.out; omega); intro v124 w50 ho hb hg hat; rw [← Ny123.out] at ho; replace BK101 := am (blk_grown (g := gb101) (o := .cells #[.int .i64 a0_0, .int .i64 a0_1] 68 (0, 0)) (KB BK101) hg (Kd.R_ne HO_3.out BK101.out (by decide))); replace HB := am (hb); have HO125 := am (ho); clear HO_3; clear ho hb hg hat; obtain ⟨Ao51, co51, eo51⟩ := Kd.R_slice HO125.out; subst eo51; have p126 : 0 ≤ ((ji44) : Int) := OD; have q126 : (ji44) < (y123.length : Int) := OD; obtain ⟨ad126, e126, hx126_0, hx126_1⟩ := at_T40 (Kd.R_reads' HO125.out).2.2 (ji44) p126 q126; cases e126; replace p126 := eq_true p126; replace q126 := eq_true q126) | ((with_reducible refine gate_callee (f := 89) rfl ?_); refine goesL_ (some 47) rfl rfl Try.func89 (by kernel_rfl) rfl #[.agg #[.int .i64 ((rd_T40 y123 (ji44)).f0), .int .i64 ((rd_T40 y123 (ji44)).f1)]] rfl (by (try simp only [List.map_toArray, List.map_cons, List.map_nil]); first | done | (simp only [hji44]; rfl) | rfl | (simp only [List.length_drop, List.length_take]; rfl)) ?_; (with_reducible refine (impl_Block_last.calls ((rd_T40 y123 (ji44)).f0) ((rd_T40 y123 (ji44)).f1) t127 _ A47.out).mono ?_); rintro e w52 ⟨rfl, hb⟩; refine ⟨_, rfl, ?_⟩; replace HO125 := am (Kd.R_below (KR HO125) hb); replace BK101 := am (BB BK101 hb); replace HB := am (below_step (K1 HB GE101.out) hb); (try clear hb)))
          go_roundg k2
          case measure => have := HK1.out; have := HK2.out; omega
          case rel => exact ⟨(y123), (wrap64 (t127 + 1)), (by first | rfl | (simp; done) | (simp [*]; done)), H', ⟨by have := HK1.out; have := HK2.out; omega⟩, ⟨KR HO125⟩, ⟨KB BK101⟩, ⟨K1 HB GE101.out⟩⟩
         ·rw [if_neg c46] at H
          exact absurd H (by simp)
        ·rw [if_neg c45] at H
         exact absurd H (by simp)
       ·rw [if_neg c43] at H
        exact absurd H (by simp)
   ·rw [if_neg c4] at H
    have c4b0 : decide (x4_1 ≤ a0_1) = false := decide_eq_false c4
    clear c4
    obtain rfl := Option.some.inj H
    obtain ⟨hcz53_0, hcz53_1, hfz53_0⟩ := y2 wr BK101.out
    go_wp2
    go_ret
    exact ⟨_, ER, by (with_reducible repeat (first | apply Kd.R_alloc | apply Kd.R_drewN | apply Kd.R_drew)); exact HO_3.out, K1 HB GE101.out⟩
def impl_byBlock.f (k : Nat) (a0_0 : Int) (a0_1 : Int) (a1_0 : Int) (a1_1 : Int) : Option (Int) := (cmp_Compare_int.f a0_0 a1_0).bind fun t103 => ((cmp_Compare_int.f a0_1 a1_1).bind fun t104 => ((cmp_Or_int.f k (([t103, t104] : List Int))).bind fun t108 => (some t108)))
def impl_byBlock.T1 : Bool × List (List Nat × List Nat) := (true, [([], []), ([0], [0]), ([], []), ([2], [2]), ([1, 3], [1, 3]), ([], []), ([5], [5]), ([], []), ([7], [7]), ([6, 8, 4], [6, 8]), ([4, 9], [4, 9]), ([10, 9], [10]), ([11, 11, 0, 1, 2, 3, 4, 5, 6, 7, 8, 9, 10, 11], [11])])
def impl_byBlock.B1 : List Nat := [0, 1, 0, 4, 15, 0, 32, 0, 128, 511, 1023, 2047, 4095]
theorem impl_byBlock.tab1 : rtab .any (opsOf Try.f105 1) = impl_byBlock.T1 := by kernel_rfl
theorem impl_byBlock.bits1 : waitsOk impl_byBlock.T1.2 impl_byBlock.B1 = true := by kernel_rfl
set_option maxHeartbeats 8000000 in
set_option maxRecDepth 100000 in
theorem impl_byBlock.calls (k : Nat) (a0_0 : Int) (a0_1 : Int) (a1_0 : Int) (a1_1 : Int) (r : Int) (w : World) (h : impl_byBlock.f k a0_0 a0_1 a1_0 a1_1 = some r) :
  Calls Try.prog 105 #[.agg #[.int .i64 a0_0, .int .i64 a0_1], .agg #[.int .i64 a1_0, .int .i64 a1_1]] w fun e w' => e = .returned (.int .i64 r) ∧ Below w.heap.size w w' := by
 have hu40 := Try.underlying40
 have HB := am (Below.refl w.heap.size w)
 have H : ((cmp_Compare_int.f a0_0 a1_0).bind fun t103 => ((cmp_Compare_int.f a0_1 a1_1).bind fun t104 => ((cmp_Or_int.f k (([t103, t104] : List Int))).bind fun t108 => (some t108)))) = some r := h
 clear h
 replace H := Option.bind_eq_some_iff.mp H
 obtain ⟨t103, A30, H⟩ := H
 replace H : ((cmp_Compare_int.f a0_1 a1_1).bind fun t104 => ((cmp_Or_int.f k (([t103, t104] : List Int))).bind fun t108 => (some t108))) = some r := H
 have A3 := Aside0.mk A30
 clear A30
 replace H := Option.bind_eq_some_iff.mp H
 obtain ⟨t104, A40, H⟩ := H
 replace H : ((cmp_Or_int.f k (([t103, t104] : List Int))).bind fun t108 => (some t108)) = some r := H
 have A4 := Aside0.mk A40
 clear A40
 obtain ⟨y105, hy105⟩ : ∃ y_ : List Int, y_ = (([t103, t104] : List Int)) := ⟨_, rfl⟩
 replace H : ((cmp_Or_int.f k y105).bind fun t108 => (some t108)) = some r := by first | (rw [hy105]; with_reducible exact H) | (have H2_ := (Option.bind_some _ _).symm.trans H; rw [hy105]; with_reducible exact H2_) | (have H2_ := (Option.bind_some _ _).symm.trans H; with_reducible exact H2_) | with_reducible exact H | (rw [hy105]; exact H) | exact H
 have Ny105 := Aside0.mk hy105
 clear hy105
 replace H := Option.bind_eq_some_iff.mp H
 obtain ⟨t108, A50, H⟩ := H
 replace H : (some t108) = some r := H
 have A5 := Aside0.mk A50
 clear A50
 obtain rfl := Option.some.inj H
 go_enter Try.func105, Try.ntmps105
 try go_wp2_with (first | ((with_reducible refine gate_dst (N := 2) rfl ?_); refine box_event rfl (N := 2) rfl (cs := #[.int .i64 a0_0, .int .i64 a0_1]) (t := 40) BX ?_; intro gb101 hg w6 hbox hb; have BK101 := am (hbox); have GW101 := am (GH HB hg); have GE101 := GW101; replace HB := am (below_step (KL HB) hb); clear hb hbox hg) | ((with_reducible refine gate_dst (N := 3) rfl ?_); refine box_event rfl (N := 3) rfl (cs := #[.int .i64 a1_0, .int .i64 a1_1]) (t := 40) BX ?_; intro gb102 hg w7 hbox hb; have BK102 := am (hbox); have GW102 := am (GH1 HB GE101.out hg); have GE102 := GW102; replace HB := am (below_step (K1 HB GE101.out) hb); have NB101_102 := am (NL BK101 hg); have NB102_101 := am (NG BK101 hg); replace BK101 := am (BB BK101 hb); clear hb hbox hg))
 replace BK101 := am (blk_drew BK101.out)
 replace BK102 := am (blk_drew BK102.out)
 replace HB := am (below_drew1 HB.out)
 refine start_ (n := 13) (S := fun w' => ce2 w' gb101 (.int .i64 a0_0) (.int .i64 a0_1) (de2 w' gb102 (.int .i64 a1_0) (.int .i64 a1_1))) (ds := []) (tf 0 13) (by kernel_rfl) rfl rfl ⟨z0 _ BK101.out, z1 _ BK101.out, z0 _ BK102.out, z1 _ BK102.out⟩ (fun hHeld => ?_); refine with_tabW impl_byBlock.tab1 impl_byBlock.bits1 (fun HT_ HW_ => ?_)
 generalize w7.drew = w8 at BK101 BK102 HB hHeld ⊢
 refine pv HT_ 0 5 (tf 1 12) ?_
 refine pv HT_ 2 7 (tr [1, 1, 1, 10]) ?_
 refine pv HT_ 5 10 (tr [1, 1, 1, 2, 1, 7]) ?_
 refine pv HT_ 7 12 (tr [1, 1, 1, 2, 1, 1, 1, 5]) ?_
 refine tk 1 (some 6) (tr [3, 2, 1, 1, 1, 5]) (take_ofW HT_.out HW_.out (by kernel_rfl)) hHeld ?_
 refine tk 3 (some 8) (tr [4, 1, 1, 1, 1, 5]) (take_ofW HT_.out HW_.out (by kernel_rfl)) hHeld ?_
 refine tk 6 (some 11) (tr [4, 1, 3, 5]) (take_ofW HT_.out HW_.out (by kernel_rfl)) hHeld ?_
 refine tk 8 (some 13) (tr [4, 1, 4, 4]) (take_ofW HT_.out HW_.out (by kernel_rfl)) hHeld ?_
 refine one_ (i := 4) (N := some 9) (tf 9 4) rfl rfl (one_of HT_.out (by kernel_rfl)) (by decide) (fun K hK => ?_)
 refine goes_ Try.func101 (by kernel_rfl) rfl #[.int .i64 a0_0, .int .i64 a1_0] (by rfl) rfl rfl MT ?_
 with_reducible refine (cmp_Compare_int.calls a0_0 a1_0 t103 _ A3.out).mono ?_
 rintro e w' ⟨rfl, ⟨nd, rfl⟩⟩
 refine ⟨_, rfl, ?_⟩
 refine hK.out _ _ ⟨z0 _ BK101.out, z1 _ BK101.out, z0 _ BK102.out, z1 _ BK102.out⟩ (fun hHeld => ?_)
 clear hK K
 refine norm_ (a' := ?_) ?_ ?_
 rotate_left
 ·show Act.put _ (some 9) _ = _
  simp only [Act.put, List.setIfInBounds_toArray, List.set_cons_zero, List.set_cons_succ, i64_w, i32_w]
  rfl
 refine one_ (i := 9) (N := some 14) (tf 10 3) rfl rfl (one_of HT_.out (by kernel_rfl)) (by decide) (fun K hK => ?_)
 refine goes_ Try.func101 (by kernel_rfl) rfl #[.int .i64 a0_1, .int .i64 a1_1] (by rfl) rfl rfl MT ?_
 with_reducible refine (cmp_Compare_int.calls a0_1 a1_1 t104 _ A4.out).mono ?_
 rintro e w' ⟨rfl, ⟨nd, rfl⟩⟩
 refine ⟨_, rfl, ?_⟩
 refine hK.out _ _ ⟨z0 _ BK101.out, z1 _ BK101.out, z0 _ BK102.out, z1 _ BK102.out⟩ (fun hHeld => ?_)
 clear hK K
 refine norm_ (a' := ?_) ?_ ?_
 rotate_left
 ·show Act.put _ (some 14) _ = _
  simp only [Act.put, List.setIfInBounds_toArray, List.set_cons_zero, List.set_cons_succ, i64_w, i32_w]
  rfl
 refine one_ (i := 10) (N := some 15) (tf 11 2) rfl rfl (one_of HT_.out (by kernel_rfl)) (by decide) (fun K hK => ?_)
 refine Kd.R_lit_step (Kd.int .i64) _ 3 ?hg (N := 15) ?hd (xs := ([t103, t104] : List Int)) (inner := [.int .i64 t103, .int .i64 t104]) (ok := fun _ => True) (okp := fun _ => True) ?hr ?hp (fun _ hk => hk) trivial (Below.refl _ _) (Nat.le_refl _) (by simp) ?_; (case hd => rfl); (case hg => rfl); (case hr => first | (go_simp; done) | (go_simp; rfl)); (case hp => exact (Reps.one (show Kd.M (Kd.int .i64) _ _ _ t103 [.int .i64 t103] from rfl) (Reps.one (show Kd.M (Kd.int .i64) _ _ _ t104 [.int .i64 t104] from rfl) (Reps.none _ _))))
 intro v106 w9 ho10 hb hg_ hnew_
 clear hg_ hnew_
 (first | rw [← Ny105.out] at ho10 | (simp only [Int.reduceToNat] at ho10; rw [← Ny105.out] at ho10))
 have HO107 := am (Kd.R_lower ho10 (below_size (K2 HB GE101.out GE102.out)))
 replace BK101 := am (BB BK101 hb)
 replace BK102 := am (BB BK102 hb)
 replace HB := am (below_step (K2 HB GE101.out GE102.out) hb)
 clear hb ho10
 obtain ⟨Ao11, co11, eo11⟩ := Kd.R_slice HO107.out
 (first | subst eo11 | (injection eo11 with f1_ f2_ f3_; have f4_ := f1_.symm; have f5_ := f3_.symm; clear f1_ f2_ f3_; subst f4_; subst f5_))
 refine hK.out _ _ ⟨z0 _ BK101.out, z1 _ BK101.out, z0 _ BK102.out, z1 _ BK102.out⟩ (fun hHeld => ?_)
 clear hK K
 refine norm_ (a' := ?_) ?_ ?_
 rotate_left
 ·show Act.put _ (some 15) _ = _
  simp only [Act.put, List.setIfInBounds_toArray, List.set_cons_zero, List.set_cons_succ, i64_w, i32_w]
  rfl
 refine one_ (i := 11) (N := some 16) (tf 12 1) rfl rfl (one_of HT_.out (by kernel_rfl)) (by decide) (fun K hK => ?_)
 refine goes_ Try.func114 (by kernel_rfl) rfl #[.slice Ao11 y105.length co11] (by rfl) rfl rfl MT ?_
 with_reducible refine (cmp_Or_int.calls k _ _ y105 t108 _ ?side1 ?side2 A5.out).mono ?_
 (case side1 => exact KC (Kd.R_reads' HO107.out).2.2)
 (case side2 => exact (Kd.R_reads' HO107.out).2.1)
 rintro e w' ⟨rfl, ⟨nd, rfl⟩⟩
 refine ⟨_, rfl, ?_⟩
 refine hK.out _ _ ⟨z0 _ BK101.out, z1 _ BK101.out, z0 _ BK102.out, z1 _ BK102.out⟩ (fun hHeld => ?_)
 clear hK K
 refine norm_ (a' := ?_) ?_ ?_
 rotate_left
 ·show Act.put _ (some 16) _ = _
  simp only [Act.put, List.setIfInBounds_toArray, List.set_cons_zero, List.set_cons_succ, i64_w, i32_w]
  rfl
 refine pv HT_ 12 4 (tf 13 0) ?_
 refine done_ (done_of HT_.out (by kernel_rfl)) ?_
 try go_wp2
 go_ret
 exact ⟨ER, K2 HB GE101.out GE102.out⟩
def impl_BlockOk.f (a0_0 : Int) (a0_1 : Int) : Option (Bool) := (impl_isAddr.f a0_0).bind fun t102 => (if t102 = true then ((impl_in.f a0_1 0 32).bind fun t103 => (if t103 = true then ((impl_Block_size.f a0_0 a0_1).bind fun t104 => (if t104 = 0 then (none) else (some ((Int.tmod a0_0 t104) == 0)))) else (some false))) else (some false))
def impl_BlockOk.T1 : Bool × List (List Nat × List Nat) := (true, [([], []), ([0], [0]), ([1], [1]), ([2, 2], [2]), ([3], [3]), ([4, 3], [3, 4]), ([5, 3, 3], [3, 5]), ([3, 6], [3, 6]), ([7, 6], [7]), ([8], [8]), ([9, 8], [8, 9]), ([8], [8]), ([11, 8, 8], [8, 11]), ([10, 12, 8], [8, 10, 12]), ([13, 8], [8, 13]), ([8, 14], [8, 14]), ([15, 12, 0, 1, 2, 3, 4, 5, 6, 7, 8, 9, 10, 11, 12, 13, 14, 15], [15])])
def impl_BlockOk.B1 : List Nat := [0, 1, 3, 7, 15, 31, 63, 127, 255, 511, 1023, 511, 2559, 8191, 16383, 32767, 65535]
theorem impl_BlockOk.tab1 : rtab .any (opsOf Try.f68 1) = impl_BlockOk.T1 := by kernel_rfl
theorem impl_BlockOk.bits1 : waitsOk impl_BlockOk.T1.2 impl_BlockOk.B1 = true := by kernel_rfl
set_option maxHeartbeats 8000000 in
set_option maxRecDepth 100000 in
theorem impl_BlockOk.calls (a0_0 : Int) (a0_1 : Int) (r : Bool) (w : World) (h : impl_BlockOk.f a0_0 a0_1 = some r) :
  Calls Try.prog 68 #[.agg #[.int .i64 a0_0, .int .i64 a0_1]] w fun e w' => e = .returned (.bool r) ∧ Below w.heap.size w w' := by
 have hu40 := Try.underlying40
 have HB := am (Below.refl w.heap.size w)
 have H : ((impl_isAddr.f a0_0).bind fun t102 => (if t102 = true then ((impl_in.f a0_1 0 32).bind fun t103 => (if t103 = true then ((impl_Block_size.f a0_0 a0_1).bind fun t104 => (if t104 = 0 then (none) else (some ((Int.tmod a0_0 t104) == 0)))) else (some false))) else (some false))) = some r := h
 clear h
 replace H := Option.bind_eq_some_iff.mp H
 obtain ⟨t102, A20, H⟩ := H
 replace H : (if t102 = true then ((impl_in.f a0_1 0 32).bind fun t103 => (if t103 = true then ((impl_Block_size.f a0_0 a0_1).bind fun t104 => (if t104 = 0 then (none) else (some ((Int.tmod a0_0 t104) == 0)))) else (some false))) else (some false)) = some r := H
 have A2 := Aside0.mk A20
 clear A20
 by_cases c3 : t102 = true
 ·subst c3
  have H1 : ((impl_in.f a0_1 0 32).bind fun t103 => (if t103 = true then ((impl_Block_size.f a0_0 a0_1).bind fun t104 => (if t104 = 0 then (none) else (some ((Int.tmod a0_0 t104) == 0)))) else (some false))) = some r := by rw [if_pos rfl] at H; exact H
  clear H
  have H := H1
  clear H1
  replace H := Option.bind_eq_some_iff.mp H
  obtain ⟨t103, A40, H⟩ := H
  replace H : (if t103 = true then ((impl_Block_size.f a0_0 a0_1).bind fun t104 => (if t104 = 0 then (none) else (some ((Int.tmod a0_0 t104) == 0)))) else (some false)) = some r := H
  have A4 := Aside0.mk A40
  clear A40
  by_cases c5 : t103 = true
  ·subst c5
   have H1 : ((impl_Block_size.f a0_0 a0_1).bind fun t104 => (if t104 = 0 then (none) else (some ((Int.tmod a0_0 t104) == 0)))) = some r := by rw [if_pos rfl] at H; exact H
   clear H
   have H := H1
   clear H1
   replace H := Option.bind_eq_some_iff.mp H
   obtain ⟨t104, A60, H⟩ := H
   replace H : (if t104 = 0 then (none) else (some ((Int.tmod a0_0 t104) == 0))) = some r := H
   have A6 := Aside0.mk A60
   clear A60
   by_cases c7 : t104 = 0
   ·rw [if_pos c7] at H
    exact absurd H (by simp)
   ·rw [if_neg c7] at H
    have c7b0 : (t104 == 0) = false := beq_eq_false_iff_ne.mpr c7
    have c7b1 : (t104 != 0) = true := bne_iff_ne.mpr c7
    obtain rfl := Option.some.inj H
    go_enter Try.func68, Try.ntmps68
    try go_wp2_with (first | ((with_reducible refine gate_dst (N := 1) rfl ?_); refine box_event rfl (N := 1) rfl (cs := #[.int .i64 a0_0, .int .i64 a0_1]) (t := 40) BX ?_; intro gb101 hg w8 hbox hb; have BK101 := am (hbox); have GW101 := am (GH HB hg); have GE101 := GW101; replace HB := am (below_step (KL HB) hb); clear hb hbox hg))
    replace BK101 := am (blk_drew BK101.out)
    replace HB := am (below_drew1 HB.out)
    refine start_ (n := 17) (S := fun w' => de2 w' gb101 (.int .i64 a0_0) (.int .i64 a0_1)) (ds := []) (tf 0 17) (by kernel_rfl) rfl rfl ⟨z0 _ BK101.out, z1 _ BK101.out⟩ (fun hHeld => ?_); refine with_tabW impl_BlockOk.tab1 impl_BlockOk.bits1 (fun HT_ HW_ => ?_)
    generalize w8.drew = w9 at BK101 HB hHeld ⊢
    refine pv HT_ 0 3 (tf 1 16) ?_
    refine tk 1 (some 4) (tf 2 15) (take_ofW HT_.out HW_.out (by kernel_rfl)) hHeld ?_
    refine one_ (i := 2) (N := some 5) (tf 3 14) rfl rfl (one_of HT_.out (by kernel_rfl)) (by decide) (fun K hK => ?_)
    refine goes_ Try.func46 (by kernel_rfl) rfl #[.int .i64 a0_0] (by rfl) rfl rfl MT ?_
    with_reducible refine (impl_isAddr.calls a0_0 true _ A2.out).mono ?_
    rintro e w' ⟨rfl, ⟨nd, rfl⟩⟩
    refine ⟨_, rfl, ?_⟩
    refine hK.out _ _ ⟨z0 _ BK101.out, z1 _ BK101.out⟩ (fun hHeld => ?_)
    clear hK K
    refine norm_ (a' := ?_) ?_ ?_
    rotate_left
    ·show Act.put _ (some 5) _ = _
     simp only [Act.put, List.setIfInBounds_toArray, List.set_cons_zero, List.set_cons_succ, i64_w, i32_w]
     rfl
    refine pv HT_ 3 6 (tf 4 13) ?_
    refine pv HT_ 4 7 (tf 5 12) ?_
    refine tk 5 (some 8) (tf 6 11) (take_ofW HT_.out HW_.out (by kernel_rfl)) hHeld ?_
    refine one_ (i := 6) (N := some 9) (tf 7 10) rfl rfl (one_of HT_.out (by kernel_rfl)) (by decide) (fun K hK => ?_)
    refine goes_ Try.func83 (by kernel_rfl) rfl #[.int .i64 a0_1, .int .i64 0, .int .i64 32] (by rfl) rfl rfl MT ?_
    with_reducible refine (impl_in.calls a0_1 0 32 true _ A4.out).mono ?_
    rintro e w' ⟨rfl, ⟨nd, rfl⟩⟩
    refine ⟨_, rfl, ?_⟩
    refine hK.out _ _ ⟨z0 _ BK101.out, z1 _ BK101.out⟩ (fun hHeld => ?_)
    clear hK K
    refine norm_ (a' := ?_) ?_ ?_
    rotate_left
    ·show Act.put _ (some 9) _ = _
     simp only [Act.put, List.setIfInBounds_toArray, List.set_cons_zero, List.set_cons_succ, i64_w, i32_w]
     rfl
    refine pv HT_ 7 10 (tf 8 9) ?_
    refine pv HT_ 8 11 (tf 9 8) ?_
    refine pv HT_ 9 12 (tf 10 7) ?_
    refine tk 10 (some 13) (tf 11 6) (take_ofW HT_.out HW_.out (by kernel_rfl)) hHeld ?_
    refine tk 11 (some 14) (tf 12 5) (take_ofW HT_.out HW_.out (by kernel_rfl)) hHeld ?_
    refine one_ (i := 12) (N := some 15) (tf 13 4) rfl rfl (one_of HT_.out (by kernel_rfl)) (by decide) (fun K hK => ?_)
    refine goes_ Try.func54 (by kernel_rfl) rfl #[.agg #[.int .i64 a0_0, .int .i64 a0_1]] (by rfl) rfl rfl MT ?_
    with_reducible refine (impl_Block_size.calls a0_0 a0_1 t104 _ A6.out).mono ?_
    rintro e w10 ⟨rfl, hb⟩
    refine ⟨_, rfl, ?_⟩
    replace BK101 := am (BB BK101 hb)
    replace HB := am (below_step (K1 HB GE101.out) hb)
    (try clear hb)
    (try clear hb2)
    (try clear hk)
    (try clear hi)
    refine hK.out _ _ ⟨z0 _ BK101.out, z1 _ BK101.out⟩ (fun hHeld => ?_)
    clear hK K
    refine norm_ (a' := ?_) ?_ ?_
    rotate_left
    ·show Act.put _ (some 15) _ = _
     simp only [Act.put, List.setIfInBounds_toArray, List.set_cons_zero, List.set_cons_succ, i64_w, i32_w]
     rfl
    refine pv HT_ 13 16 (tf 14 3) ?_
    refine pv HT_ 14 17 (tf 15 2) ?_
    refine pv HT_ 15 18 (tf 16 1) ?_
    refine pv HT_ 16 2 (tf 17 0) ?_
    refine done_ (done_of HT_.out (by kernel_rfl)) ?_
    try go_wp2
    go_ret
    exact ⟨ER, K1 HB GE101.out⟩
  ·replace c5 := Bool.eq_false_iff.mpr c5
   subst c5
   have H1 : (some false) = some r := by rw [if_neg (show ¬ (false = true) by decide)] at H; exact H
   clear H
   have H := H1
   clear H1
   obtain rfl := Option.some.inj H
   go_enter Try.func68, Try.ntmps68
   try go_wp2_with (first | ((with_reducible refine gate_dst (N := 1) rfl ?_); refine box_event rfl (N := 1) rfl (cs := #[.int .i64 a0_0, .int .i64 a0_1]) (t := 40) BX ?_; intro gb101 hg w11 hbox hb; have BK101 := am (hbox); have GW101 := am (GH HB hg); have GE101 := GW101; replace HB := am (below_step (KL HB) hb); clear hb hbox hg))
   replace BK101 := am (blk_drew BK101.out)
   replace HB := am (below_drew1 HB.out)
   refine start_ (n := 17) (S := fun w' => de2 w' gb101 (.int .i64 a0_0) (.int .i64 a0_1)) (ds := []) (tf 0 17) (by kernel_rfl) rfl rfl ⟨z0 _ BK101.out, z1 _ BK101.out⟩ (fun hHeld => ?_); refine with_tabW impl_BlockOk.tab1 impl_BlockOk.bits1 (fun HT_ HW_ => ?_)
   generalize w11.drew = w12 at BK101 HB hHeld ⊢
   refine pv HT_ 0 3 (tf 1 16) ?_
   refine tk 1 (some 4) (tf 2 15) (take_ofW HT_.out HW_.out (by kernel_rfl)) hHeld ?_
   refine one_ (i := 2) (N := some 5) (tf 3 14) rfl rfl (one_of HT_.out (by kernel_rfl)) (by decide) (fun K hK => ?_)
   refine goes_ Try.func46 (by kernel_rfl) rfl #[.int .i64 a0_0] (by rfl) rfl rfl MT ?_
   with_reducible refine (impl_isAddr.calls a0_0 true _ A2.out).mono ?_
   rintro e w' ⟨rfl, ⟨nd, rfl⟩⟩
   refine ⟨_, rfl, ?_⟩
   refine hK.out _ _ ⟨z0 _ BK101.out, z1 _ BK101.out⟩ (fun hHeld => ?_)
   clear hK K
   refine norm_ (a' := ?_) ?_ ?_
   rotate_left
   ·show Act.put _ (some 5) _ = _
    simp only [Act.put, List.setIfInBounds_toArray, List.set_cons_zero, List.set_cons_succ, i64_w, i32_w]
    rfl
   refine pv HT_ 3 6 (tf 4 13) ?_
   refine pv HT_ 4 7 (tf 5 12) ?_
   refine tk 5 (some 8) (tf 6 11) (take_ofW HT_.out HW_.out (by kernel_rfl)) hHeld ?_
   refine one_ (i := 6) (N := some 9) (tf 7 10) rfl rfl (one_of HT_.out (by kernel_rfl)) (by decide) (fun K hK => ?_)
   refine goes_ Try.func83 (by kernel_rfl) rfl #[.int .i64 a0_1, .int .i64 0, .int .i64 32] (by rfl) rfl rfl MT ?_
   with_reducible refine (impl_in.calls a0_1 0 32 false _ A4.out).mono ?_
   rintro e w' ⟨rfl, ⟨nd, rfl⟩⟩
   refine ⟨_, rfl, ?_⟩
   refine hK.out _ _ ⟨z0 _ BK101.out, z1 _ BK101.out⟩ (fun hHeld => ?_)
   clear hK K
   refine norm_ (a' := ?_) ?_ ?_
   rotate_left
   ·show Act.put _ (some 9) _ = _
    simp only [Act.put, List.setIfInBounds_toArray, List.set_cons_zero, List.set_cons_succ, i64_w, i32_w]
    rfl
   refine pv HT_ 7 10 (tf 8 9) ?_
   refine pv HT_ 8 11 (tf 9 8) ?_
   refine pw HT_ 9 12 (tf 10 7) ?_
   refine pw HT_ 10 13 (tf 11 6) ?_
   refine pw HT_ 11 14 (tf 12 5) ?_
   refine pw HT_ 12 15 (tf 13 4) ?_
   refine pw HT_ 13 16 (tf 14 3) ?_
   refine pw HT_ 14 17 (tf 15 2) ?_
   refine pv HT_ 15 18 (tf 16 1) ?_
   refine pv HT_ 16 2 (tf 17 0) ?_
   refine done_ (done_of HT_.out (by kernel_rfl)) ?_
   try go_wp2
   go_ret
   exact ⟨ER, K1 HB GE101.out⟩
 ·replace c3 := Bool.eq_false_iff.mpr c3
  subst c3
  have H1 : (some false) = some r := by rw [if_neg (show ¬ (false = true) by decide)] at H; exact H
  clear H
  have H := H1
  clear H1
  obtain rfl := Option.some.inj H
  go_enter Try.func68, Try.ntmps68
  try go_wp2_with (first | ((with_reducible refine gate_dst (N := 1) rfl ?_); refine box_event rfl (N := 1) rfl (cs := #[.int .i64 a0_0, .int .i64 a0_1]) (t := 40) BX ?_; intro gb101 hg w13 hbox hb; have BK101 := am (hbox); have GW101 := am (GH HB hg); have GE101 := GW101; replace HB := am (below_step (KL HB) hb); clear hb hbox hg))
  replace BK101 := am (blk_drew BK101.out)
  replace HB := am (below_drew1 HB.out)
  refine start_ (n := 17) (S := fun w' => de2 w' gb101 (.int .i64 a0_0) (.int .i64 a0_1)) (ds := []) (tf 0 17) (by kernel_rfl) rfl rfl ⟨z0 _ BK101.out, z1 _ BK101.out⟩ (fun hHeld => ?_); refine with_tabW impl_BlockOk.tab1 impl_BlockOk.bits1 (fun HT_ HW_ => ?_)
  generalize w13.drew = w14 at BK101 HB hHeld ⊢
  refine pv HT_ 0 3 (tf 1 16) ?_
  refine tk 1 (some 4) (tf 2 15) (take_ofW HT_.out HW_.out (by kernel_rfl)) hHeld ?_
  refine one_ (i := 2) (N := some 5) (tf 3 14) rfl rfl (one_of HT_.out (by kernel_rfl)) (by decide) (fun K hK => ?_)
  refine goes_ Try.func46 (by kernel_rfl) rfl #[.int .i64 a0_0] (by rfl) rfl rfl MT ?_
  with_reducible refine (impl_isAddr.calls a0_0 false _ A2.out).mono ?_
  rintro e w' ⟨rfl, ⟨nd, rfl⟩⟩
  refine ⟨_, rfl, ?_⟩
  refine hK.out _ _ ⟨z0 _ BK101.out, z1 _ BK101.out⟩ (fun hHeld => ?_)
  clear hK K
  refine norm_ (a' := ?_) ?_ ?_
  rotate_left
  ·show Act.put _ (some 5) _ = _
   simp only [Act.put, List.setIfInBounds_toArray, List.set_cons_zero, List.set_cons_succ, i64_w, i32_w]
   rfl
  refine pv HT_ 3 6 (tf 4 13) ?_
  refine pw HT_ 4 7 (tf 5 12) ?_
  refine pw HT_ 5 8 (tf 6 11) ?_
  refine pw HT_ 6 9 (tf 7 10) ?_
  refine pv HT_ 7 10 (tf 8 9) ?_
  refine pv HT_ 8 11 (tf 9 8) ?_
  refine pw HT_ 9 12 (tf 10 7) ?_
  refine pw HT_ 10 13 (tf 11 6) ?_
  refine pw HT_ 11 14 (tf 12 5) ?_
  refine pw HT_ 12 15 (tf 13 4) ?_
  refine pw HT_ 13 16 (tf 14 3) ?_
  refine pw HT_ 14 17 (tf 15 2) ?_
  refine pv HT_ 15 18 (tf 16 1) ?_
  refine pv HT_ 16 2 (tf 17 0) ?_
  refine done_ (done_of HT_.out (by kernel_rfl)) ?_
  try go_wp2
  go_ret
  exact ⟨ER, K1 HB GE101.out⟩
def impl_WaysOk.l0 : Nat → List (S95) → List (S95) → Int → Int → Option (Bool)
 | 0, _, _, _, _ => none
 | k + 1, x0, x5, x6, x7 => if x7 < x6 then (if 0 ≤ x7 then (if x7 < (x5.length : Int) then ((impl_BlockOk.f ((rd_T95 x5 x7).f0.f0) ((rd_T95 x5 x7).f0.f1)).bind fun t103 => (if t103 = true then ((impl_in.f ((rd_T95 x5 x7).f1) 0 99).bind fun t104 => (if t104 = true then (if x7 > 0 then (if 0 ≤ (wrap64 (x7 - 1)) then (if (wrap64 (x7 - 1)) < (x0.length : Int) then ((impl_byBlock.f k ((rd_T95 x0 (wrap64 (x7 - 1))).f0.f0) ((rd_T95 x0 (wrap64 (x7 - 1))).f0.f1) ((rd_T95 x5 x7).f0.f0) ((rd_T95 x5 x7).f0.f1)).bind fun t106 => (if t106 ≥ 0 then (some false) else (impl_WaysOk.l0 k x0 x5 x6 (wrap64 (x7 + 1))))) else (none)) else (none)) else (impl_WaysOk.l0 k x0 x5 x6 (wrap64 (x7 + 1)))) else (some false))) else (some false))) else (none)) else (none)) else (some (decide ((x0.length : Int) ≤ 40)))
def impl_WaysOk.f (k : Nat) (l0 : List (S95)) : Option (Bool) := impl_WaysOk.l0 k l0 l0 (l0.length : Int) 0
def impl_WaysOk.T4 : Bool × List (List Nat × List Nat) := (true, [([], []), ([0], [0]), ([1], [1]), ([2], [2]), ([3, 2], [3]), ([4], [4]), ([5, 4], [4, 5]), ([6, 4, 4], [4, 6]), ([7, 4], [4, 7]), ([4, 8], [4, 8]), ([9, 7], [9]), ([10], [10]), ([11, 10], [10, 11]), ([12, 10, 10], [10, 12]), ([13], [13]), ([13], [13]), ([15, 13], [13, 15]), ([14, 16, 13], [13, 14, 16]), ([17, 13], [13, 17]), ([18, 13], [13, 18]), ([13], [13]), ([20, 13], [13, 20]), ([19, 21, 13, 13], [13, 19, 21]), ([22, 13], [13, 22]), ([13, 23, 10], [10, 13, 23]), ([10, 24], [10, 24])])
def impl_WaysOk.B4 : List Nat := [0, 1, 3, 7, 15, 31, 63, 127, 255, 511, 1023, 2047, 4095, 8191, 16383, 16383, 49151, 131071, 262143, 524287, 16383, 1064959, 4194303, 8388607, 16777215, 33554431]
theorem impl_WaysOk.tab4 : rtab .any (opsOf Try.f82 4) = impl_WaysOk.T4 := by kernel_rfl
theorem impl_WaysOk.bits4 : waitsOk impl_WaysOk.T4.2 impl_WaysOk.B4 = true := by kernel_rfl
set_option maxHeartbeats 8000000 in
set_option maxRecDepth 100000 in
theorem impl_WaysOk.calls (k : Nat) (A0 : Option Addr) (c0 : Nat) (l0 : List (S95)) (r : Bool) (w : World) (hr0 : Kd.C k95 w A0 l0.length l0) (hc0 : l0.length ≤ c0) (h : impl_WaysOk.f k l0 = some r) :
  Calls Try.prog 82 #[.slice A0 l0.length c0] w fun e w' => e = .returned (.bool r) ∧ Below w.heap.size w w' := by
 have hu95 := Try.underlying95
 have hu40 := Try.underlying40
 have HR0 := Aside0.mk hr0
 have HC0 := Aside0.mk hc0
 clear hr0 hc0
 have HB := am (Below.refl w.heap.size w)
 have H : (impl_WaysOk.l0 k l0 l0 (l0.length : Int) 0) = some r := h
 clear h
 have H' := Aside0.mk H
 clear H
 go_enter Try.func82, Try.ntmps82
 go_wp2
 go_loopg [7] k (fun kq v7 w' => ∃ (x7_1 : Int), v7 = .int .i64 x7_1 ∧ Aside0 (impl_WaysOk.l0 kq l0 l0 (l0.length : Int) x7_1 = some r) ∧ Aside0 (kq ≤ k) ∧ Aside0 (Below w.heap.size w w'))
 case atStart => exact ⟨(0), (by first | rfl | (simp; done) | (simp [*]; done)), H', ⟨Nat.le_refl _⟩, ⟨KL HB⟩⟩
 case round =>
  clear H'
  obtain ⟨x7_1, rfl, HA, HK1, HB⟩ := hrel
  cases gk with
  | zero => exact absurd HA.out (by simp [impl_WaysOk.l0])
  | succ k1 =>
   have H := HA.out
   clear HA
   simp only [impl_WaysOk.l0] at H
   by_cases c2 : x7_1 < (l0.length : Int)
   ·rw [if_pos c2] at H
    have c2b0 : decide (x7_1 < (l0.length : Int)) = true := decide_eq_true c2
    clear c2
    by_cases c3 : 0 ≤ x7_1
    ·rw [if_pos c3] at H
     have c3b0 : decide (0 ≤ x7_1) = true := decide_eq_true c3
     clear c3
     by_cases c4 : x7_1 < (l0.length : Int)
     ·rw [if_pos c4] at H
      have c4b0 : decide (x7_1 < (l0.length : Int)) = true := decide_eq_true c4
      clear c4
      replace H := Option.bind_eq_some_iff.mp H
      obtain ⟨t103, A50, H⟩ := H
      replace H : (if t103 = true then ((impl_in.f ((rd_T95 l0 x7_1).f1) 0 99).bind fun t104 => (if t104 = true then (if x7_1 > 0 then (if 0 ≤ (wrap64 (x7_1 - 1)) then (if (wrap64 (x7_1 - 1)) < (l0.length : Int) then ((impl_byBlock.f k1 ((rd_T95 l0 (wrap64 (x7_1 - 1))).f0.f0) ((rd_T95 l0 (wrap64 (x7_1 - 1))).f0.f1) ((rd_T95 l0 x7_1).f0.f0) ((rd_T95 l0 x7_1).f0.f1)).bind fun t106 => (if t106 ≥ 0 then (some false) else (impl_WaysOk.l0 k1 l0 l0 (l0.length : Int) (wrap64 (x7_1 + 1))))) else (none)) else (none)) else (impl_WaysOk.l0 k1 l0 l0 (l0.length : Int) (wrap64 (x7_1 + 1)))) else (some false))) else (some false)) = some r := H
      have A5 := Aside0.mk A50
      clear A50
      by_cases c6 : t103 = true
      ·subst c6
       have H1 : ((impl_in.f ((rd_T95 l0 x7_1).f1) 0 99).bind fun t104 => (if t104 = true then (if x7_1 > 0 then (if 0 ≤ (wrap64 (x7_1 - 1)) then (if (wrap64 (x7_1 - 1)) < (l0.length : Int) then ((impl_byBlock.f k1 ((rd_T95 l0 (wrap64 (x7_1 - 1))).f0.f0) ((rd_T95 l0 (wrap64 (x7_1 - 1))).f0.f1) ((rd_T95 l0 x7_1).f0.f0) ((rd_T95 l0 x7_1).f0.f1)).bind fun t106 => (if t106 ≥ 0 then (some false) else (impl_WaysOk.l0 k1 l0 l0 (l0.length : Int) (wrap64 (x7_1 + 1))))) else (none)) else (none)) else (impl_WaysOk.l0 k1 l0 l0 (l0.length : Int) (wrap64 (x7_1 + 1)))) else (some false))) = some r := by rw [if_pos rfl] at H; exact H
       clear H
       have H := H1
       clear H1
       replace H := Option.bind_eq_some_iff.mp H
       obtain ⟨t104, A70, H⟩ := H
       replace H : (if t104 = true then (if x7_1 > 0 then (if 0 ≤ (wrap64 (x7_1 - 1)) then (if (wrap64 (x7_1 - 1)) < (l0.length : Int) then ((impl_byBlock.f k1 ((rd_T95 l0 (wrap64 (x7_1 - 1))).f0.f0) ((rd_T95 l0 (wrap64 (x7_1 - 1))).f0.f1) ((rd_T95 l0 x7_1).f0.f0) ((rd_T95 l0 x7_1).f0.f1)).bind fun t106 => (if t106 ≥ 0 then (some false) else (impl_WaysOk.l0 k1 l0 l0 (l0.length : Int) (wrap64 (x7_1 + 1))))) else (none)) else (none)) else (impl_WaysOk.l0 k1 l0 l0 (l0.length : Int) (wrap64 (x7_1 + 1)))) else (some false)) = some r := H
       have A7 := Aside0.mk A70
       clear A70
       by_cases c8 : t104 = true
       ·subst c8
        have H1 : (if x7_1 > 0 then (if 0 ≤ (wrap64 (x7_1 - 1)) then (if (wrap64 (x7_1 - 1)) < (l0.length : Int) then ((impl_byBlock.f k1 ((rd_T95 l0 (wrap64 (x7_1 - 1))).f0.f0) ((rd_T95 l0 (wrap64 (x7_1 - 1))).f0.f1) ((rd_T95 l0 x7_1).f0.f0) ((rd_T95 l0 x7_1).f0.f1)).bind fun t106 => (if t106 ≥ 0 then (some false) else (impl_WaysOk.l0 k1 l0 l0 (l0.length : Int) (wrap64 (x7_1 + 1))))) else (none)) else (none)) else (impl_WaysOk.l0 k1 l0 l0 (l0.length : Int) (wrap64 (x7_1 + 1)))) = some r := by rw [if_pos rfl] at H; exact H
        clear H
        have H := H1
        clear H1
        by_cases c9 : x7_1 > 0
        ·rw [if_pos c9] at H
         have c9b0 : decide (0 < x7_1) = true := decide_eq_true c9
         clear c9
         obtain ⟨ji10, hji10⟩ : ∃ j_ : Int, (wrap64 (x7_1 - 1)) = j_ := ⟨_, rfl⟩
         replace H : (if 0 ≤ (ji10) then (if (ji10) < (l0.length : Int) then ((impl_byBlock.f k1 ((rd_T95 l0 (ji10)).f0.f0) ((rd_T95 l0 (ji10)).f0.f1) ((rd_T95 l0 x7_1).f0.f0) ((rd_T95 l0 x7_1).f0.f1)).bind fun t106 => (if t106 ≥ 0 then (some false) else (impl_WaysOk.l0 k1 l0 l0 (l0.length : Int) (wrap64 (x7_1 + 1))))) else (none)) else (none)) = some r := by first | (rw [hji10] at H; exact H) | (simp only [hji10] at H ⊢; exact H)
         (try rw [hji10] at A5)
         (try rw [hji10] at A7)
         have hji10w : (IntKind.i64.wrap (x7_1 - 1)) = ji10 := (i64_w _).trans hji10
         by_cases c11 : 0 ≤ (ji10)
         ·rw [if_pos c11] at H
          have c11b0 : decide (0 ≤ (ji10)) = true := decide_eq_true c11
          clear c11
          by_cases c12 : (ji10) < (l0.length : Int)
          ·rw [if_pos c12] at H
           have c12b0 : decide ((ji10) < (l0.length : Int)) = true := decide_eq_true c12
           clear c12
           replace H := Option.bind_eq_some_iff.mp H
           obtain ⟨t106, A130, H⟩ := H
           replace H : (if t106 ≥ 0 then (some false) else (impl_WaysOk.l0 k1 l0 l0 (l0.length : Int) (wrap64 (x7_1 + 1)))) = some r := H
           have A13 := Aside0.mk A130
           clear A130
           by_cases c14 : t106 ≥ 0
           ·rw [if_pos c14] at H
            have c14b0 : decide (0 ≤ t106) = true := decide_eq_true c14
            clear c14
            obtain rfl := Option.some.inj H
            have p101 : 0 ≤ (x7_1 : Int) := OD
            have q101 : x7_1 < (l0.length : Int) := OD
            obtain ⟨ad101, e101, hx101_0, hx101_1, hx101_2⟩ := at_T95 HR0.out x7_1 p101 q101
            cases e101
            replace hx101_0 := CX HB.out hx101_0
            replace hx101_1 := CX HB.out hx101_1
            replace hx101_2 := CX HB.out hx101_2
            replace p101 := eq_true p101
            replace q101 := eq_true q101
            try go_wp2_with (first | ((with_reducible refine gate_dst (N := 4) rfl ?_); refine box_event rfl (N := 4) rfl (cs := #[.int .i64 0, .int .i64 0, .int .i64 0]) (t := 95) BX ?_; intro gb102 hg w15 hbox hb; have BK102 := am (hbox); have GW102 := am (GH HB hg); have GE102 := GW102; replace HB := am (below_step (KL HB) hb); clear hb hbox hg; obtain ⟨hcz16_0, hcz16_1, hcz16_2, hfz16_0⟩ := y3 w15 BK102.out))
            generalize hq_ : (((w15.setCell ⟨gb102, 0, none⟩ (.int .i64 ((rd_T95 l0 x7_1).f0.f0))).setCell ⟨gb102, 1, none⟩ (.int .i64 ((rd_T95 l0 x7_1).f0.f1))).setCell ⟨gb102, 2, none⟩ (.int .i64 ((rd_T95 l0 x7_1).f1))) = w17
            have n0_ : Aside0 (w17.heap[gb102]? = some (.cells #[.int .i64 ((rd_T95 l0 x7_1).f0.f0), .int .i64 ((rd_T95 l0 x7_1).f0.f1), .int .i64 ((rd_T95 l0 x7_1).f1)] 95 (0, 0))) := ⟨by rw [← hq_]; exact P3 BK102⟩
            have n1_ : Aside0 (Below w.heap.size w w17) := ⟨by rw [← hq_]; exact K1 HB GE102.out⟩
            clear hq_
            (try clear BK102)
            (try clear HB)
            have BK102 := n0_
            have HB := n1_
            clear n0_ n1_
            replace BK102 := am (blk_drew BK102.out)
            replace HB := am (below_drew1 HB.out)
            have p105 : 0 ≤ ((ji10) : Int) := OD
            have q105 : (ji10) < (l0.length : Int) := OD
            obtain ⟨ad105, e105, hx105_0, hx105_1, hx105_2⟩ := at_T95 HR0.out (ji10) p105 q105
            have hw105_2 := hx105_2
            have hw105_1 := hx105_1
            have hw105_0 := hx105_0
            obtain rfl : ad101 = ad105 := (by injection e105)
            replace hx105_0 := CX HB.out hx105_0
            replace hx105_1 := CX HB.out hx105_1
            replace hx105_2 := CX HB.out hx105_2
            replace p105 := eq_true p105
            replace q105 := eq_true q105
            refine start_ (n := 26) (S := fun w' => ce3 w' gb102 (.int .i64 ((rd_T95 l0 x7_1).f0.f0)) (.int .i64 ((rd_T95 l0 x7_1).f0.f1)) (.int .i64 ((rd_T95 l0 x7_1).f1)) (w'.cell? (ad101.add (((ji10)).toNat * 3)) = some (.int .i64 ((rd_T95 l0 (ji10)).f0.f0)) ∧ w'.cell? ⟨(ad101.add (((ji10)).toNat * 3)).block, (ad101.add (((ji10)).toNat * 3)).off + 1, none⟩ = some (.int .i64 ((rd_T95 l0 (ji10)).f0.f1)) ∧ w'.cell? ⟨(ad101.add (((ji10)).toNat * 3)).block, (ad101.add (((ji10)).toNat * 3)).off + 2, none⟩ = some (.int .i64 ((rd_T95 l0 (ji10)).f1)))) (ds := []) (tf 0 26) (by kernel_rfl) rfl rfl ⟨z0 _ BK102.out, z1 _ BK102.out, z2 _ BK102.out, (CY HB.out hw105_0), (CY HB.out hw105_1), (CY HB.out hw105_2)⟩ (fun hHeld => ?_); refine with_tabW impl_WaysOk.tab4 impl_WaysOk.bits4 (fun HT_ HW_ => ?_)
            generalize w17.drew = w18 at BK102 HB hx105_0 hx105_1 hx105_2 hHeld ⊢
            refine pv HT_ 0 12 (tf 1 25) ?_
            refine tk 1 (some 13) (tf 2 24) (take_ofW HT_.out HW_.out (by kernel_rfl)) hHeld ?_
            refine one_ (i := 2) (N := some 14) (tf 3 23) rfl rfl (one_of HT_.out (by kernel_rfl)) (by decide) (fun K hK => ?_)
            refine goes_ Try.func68 (by kernel_rfl) rfl #[.agg #[.int .i64 ((rd_T95 l0 x7_1).f0.f0), .int .i64 ((rd_T95 l0 x7_1).f0.f1)]] (by rfl) rfl rfl MT ?_
            with_reducible refine (impl_BlockOk.calls ((rd_T95 l0 x7_1).f0.f0) ((rd_T95 l0 x7_1).f0.f1) true _ A5.out).mono ?_
            rintro e w19 ⟨rfl, hb⟩
            refine ⟨_, rfl, ?_⟩
            replace BK102 := am (BB BK102 hb)
            replace HB := am (below_step (K1 HB GE102.out) hb)
            (try clear hb)
            (try clear hb2)
            (try clear hk)
            (try clear hi)
            refine hK.out _ _ ⟨z0 _ BK102.out, z1 _ BK102.out, z2 _ BK102.out, (CY HB.out hw105_0), (CY HB.out hw105_1), (CY HB.out hw105_2)⟩ (fun hHeld => ?_)
            clear hK K
            refine norm_ (a' := ?_) ?_ ?_
            rotate_left
            ·show Act.put _ (some 14) _ = _
             simp only [Act.put, List.setIfInBounds_toArray, List.set_cons_zero, List.set_cons_succ, i64_w, i32_w]
             rfl
            refine pv HT_ 3 15 (tf 4 22) ?_
            refine pv HT_ 4 16 (tf 5 21) ?_
            refine pv HT_ 5 17 (tf 6 20) ?_
            refine tk 6 (some 18) (tf 7 19) (take_ofW HT_.out HW_.out (by kernel_rfl)) hHeld ?_
            refine one_ (i := 7) (N := some 19) (tf 8 18) rfl rfl (one_of HT_.out (by kernel_rfl)) (by decide) (fun K hK => ?_)
            refine goes_ Try.func83 (by kernel_rfl) rfl #[.int .i64 ((rd_T95 l0 x7_1).f1), .int .i64 0, .int .i64 99] (by rfl) rfl rfl MT ?_
            with_reducible refine (impl_in.calls ((rd_T95 l0 x7_1).f1) 0 99 true _ A7.out).mono ?_
            rintro e w' ⟨rfl, ⟨nd, rfl⟩⟩
            refine ⟨_, rfl, ?_⟩
            refine hK.out _ _ ⟨z0 _ BK102.out, z1 _ BK102.out, z2 _ BK102.out, (CY HB.out hw105_0), (CY HB.out hw105_1), (CY HB.out hw105_2)⟩ (fun hHeld => ?_)
            clear hK K
            refine norm_ (a' := ?_) ?_ ?_
            rotate_left
            ·show Act.put _ (some 19) _ = _
             simp only [Act.put, List.setIfInBounds_toArray, List.set_cons_zero, List.set_cons_succ, i64_w, i32_w]
             rfl
            refine pv HT_ 8 20 (tf 9 17) ?_
            refine pv HT_ 9 21 (tf 10 16) ?_
            refine pv HT_ 10 22 (tf 11 15) ?_
            refine pv HT_ 11 23 (tf 12 14) ?_
            refine pv HT_ 12 24 (tf 13 13) ?_
            refine pv HT_ 13 25 (tf 14 12) ?_
            refine pv HT_ 14 26 (tf 15 11) ?_
            refine pv HT_ 15 27 (tf 16 10) ?_
            refine pv HT_ 16 28 (tf 17 9) ?_
            refine pv HT_ 17 29 (tf 18 8) ?_
            refine pv HT_ 18 30 (tf 19 7) ?_
            refine pv HT_ 20 32 (tr [19, 1, 1, 5]) ?_
            refine tk 19 (some 31) (tf 21 5) (take_ofW HT_.out HW_.out (by kernel_rfl)) hHeld ?_
            refine tk 21 (some 33) (tf 22 4) (take_ofW HT_.out HW_.out (by kernel_rfl)) hHeld ?_
            refine one_ (i := 22) (N := some 34) (tf 23 3) rfl rfl (one_of HT_.out (by kernel_rfl)) (by decide) (fun K hK => ?_)
            refine goes_ Try.func105 (by kernel_rfl) rfl #[.agg #[.int .i64 ((rd_T95 l0 (ji10)).f0.f0), .int .i64 ((rd_T95 l0 (ji10)).f0.f1)], .agg #[.int .i64 ((rd_T95 l0 x7_1).f0.f0), .int .i64 ((rd_T95 l0 x7_1).f0.f1)]] (by rfl) rfl rfl (by (try simp only [List.map_toArray, List.map_cons, List.map_nil]); first | done | (simp only [hji10]; rfl) | rfl | (simp only [List.length_drop, List.length_take]; rfl)) ?_
            with_reducible refine (impl_byBlock.calls k1 ((rd_T95 l0 (ji10)).f0.f0) ((rd_T95 l0 (ji10)).f0.f1) ((rd_T95 l0 x7_1).f0.f0) ((rd_T95 l0 x7_1).f0.f1) t106 _ A13.out).mono ?_
            rintro e w20 ⟨rfl, hb⟩
            refine ⟨_, rfl, ?_⟩
            replace BK102 := am (BB BK102 hb)
            replace HB := am (below_step (K1 HB GE102.out) hb)
            (try clear hb)
            (try clear hb2)
            (try clear hk)
            (try clear hi)
            refine hK.out _ _ ⟨z0 _ BK102.out, z1 _ BK102.out, z2 _ BK102.out, (CY HB.out hw105_0), (CY HB.out hw105_1), (CY HB.out hw105_2)⟩ (fun hHeld => ?_)
            clear hK K
            refine norm_ (a' := ?_) ?_ ?_
            rotate_left
            ·show Act.put _ (some 34) _ = _
             simp only [Act.put, List.setIfInBounds_toArray, List.set_cons_zero, List.set_cons_succ, i64_w, i32_w]
             rfl
            refine pv HT_ 23 35 (tf 24 2) ?_
            refine pv HT_ 24 36 (tf 25 1) ?_
            refine pv HT_ 25 37 (tf 26 0) ?_
            refine done_ (done_of HT_.out (by kernel_rfl)) ?_
            try go_wp2
            go_ret
            exact ⟨by first | rfl | (simp [errW_none, errW_some] <;> rfl) | (simp only [← hji10]; first | rfl | (simp [errW_none, errW_some] <;> rfl)) | (simp [*, errW_none, errW_some] <;> rfl), K1 HB GE102.out⟩
           ·rw [if_neg c14] at H
            have c14b0 : decide (0 ≤ t106) = false := decide_eq_false c14
            clear c14
            have H' := Aside0.mk H
            clear H
            have p101 : 0 ≤ (x7_1 : Int) := OD
            have q101 : x7_1 < (l0.length : Int) := OD
            obtain ⟨ad101, e101, hx101_0, hx101_1, hx101_2⟩ := at_T95 HR0.out x7_1 p101 q101
            cases e101
            replace hx101_0 := CX HB.out hx101_0
            replace hx101_1 := CX HB.out hx101_1
            replace hx101_2 := CX HB.out hx101_2
            replace p101 := eq_true p101
            replace q101 := eq_true q101
            try go_wp2_with (first | ((with_reducible refine gate_dst (N := 4) rfl ?_); refine box_event rfl (N := 4) rfl (cs := #[.int .i64 0, .int .i64 0, .int .i64 0]) (t := 95) BX ?_; intro gb102 hg w21 hbox hb; have BK102 := am (hbox); have GW102 := am (GH HB hg); have GE102 := GW102; replace HB := am (below_step (KL HB) hb); clear hb hbox hg; obtain ⟨hcz22_0, hcz22_1, hcz22_2, hfz22_0⟩ := y3 w21 BK102.out))
            generalize hq_ : (((w21.setCell ⟨gb102, 0, none⟩ (.int .i64 ((rd_T95 l0 x7_1).f0.f0))).setCell ⟨gb102, 1, none⟩ (.int .i64 ((rd_T95 l0 x7_1).f0.f1))).setCell ⟨gb102, 2, none⟩ (.int .i64 ((rd_T95 l0 x7_1).f1))) = w23
            have n0_ : Aside0 (w23.heap[gb102]? = some (.cells #[.int .i64 ((rd_T95 l0 x7_1).f0.f0), .int .i64 ((rd_T95 l0 x7_1).f0.f1), .int .i64 ((rd_T95 l0 x7_1).f1)] 95 (0, 0))) := ⟨by rw [← hq_]; exact P3 BK102⟩
            have n1_ : Aside0 (Below w.heap.size w w23) := ⟨by rw [← hq_]; exact K1 HB GE102.out⟩
            clear hq_
            (try clear BK102)
            (try clear HB)
            have BK102 := n0_
            have HB := n1_
            clear n0_ n1_
            replace BK102 := am (blk_drew BK102.out)
            replace HB := am (below_drew1 HB.out)
            have p105 : 0 ≤ ((ji10) : Int) := OD
            have q105 : (ji10) < (l0.length : Int) := OD
            obtain ⟨ad105, e105, hx105_0, hx105_1, hx105_2⟩ := at_T95 HR0.out (ji10) p105 q105
            have hw105_2 := hx105_2
            have hw105_1 := hx105_1
            have hw105_0 := hx105_0
            obtain rfl : ad101 = ad105 := (by injection e105)
            replace hx105_0 := CX HB.out hx105_0
            replace hx105_1 := CX HB.out hx105_1
            replace hx105_2 := CX HB.out hx105_2
            replace p105 := eq_true p105
            replace q105 := eq_true q105
            refine start_ (n := 26) (S := fun w' => ce3 w' gb102 (.int .i64 ((rd_T95 l0 x7_1).f0.f0)) (.int .i64 ((rd_T95 l0 x7_1).f0.f1)) (.int .i64 ((rd_T95 l0 x7_1).f1)) (w'.cell? (ad101.add (((ji10)).toNat * 3)) = some (.int .i64 ((rd_T95 l0 (ji10)).f0.f0)) ∧ w'.cell? ⟨(ad101.add (((ji10)).toNat * 3)).block, (ad101.add (((ji10)).toNat * 3)).off + 1, none⟩ = some (.int .i64 ((rd_T95 l0 (ji10)).f0.f1)) ∧ w'.cell? ⟨(ad101.add (((ji10)).toNat * 3)).block, (ad101.add (((ji10)).toNat * 3)).off + 2, none⟩ = some (.int .i64 ((rd_T95 l0 (ji10)).f1)))) (ds := []) (tf 0 26) (by kernel_rfl) rfl rfl ⟨z0 _ BK102.out, z1 _ BK102.out, z2 _ BK102.out, (CY HB.out hw105_0), (CY HB.out hw105_1), (CY HB.out hw105_2)⟩ (fun hHeld => ?_); refine with_tabW impl_WaysOk.tab4 impl_WaysOk.bits4 (fun HT_ HW_ => ?_)
            generalize w23.drew = w24 at BK102 HB hx105_0 hx105_1 hx105_2 hHeld ⊢
            refine pv HT_ 0 12 (tf 1 25) ?_
            refine tk 1 (some 13) (tf 2 24) (take_ofW HT_.out HW_.out (by kernel_rfl)) hHeld ?_
            refine one_ (i := 2) (N := some 14) (tf 3 23) rfl rfl (one_of HT_.out (by kernel_rfl)) (by decide) (fun K hK => ?_)
            refine goes_ Try.func68 (by kernel_rfl) rfl #[.agg #[.int .i64 ((rd_T95 l0 x7_1).f0.f0), .int .i64 ((rd_T95 l0 x7_1).f0.f1)]] (by rfl) rfl rfl MT ?_
            with_reducible refine (impl_BlockOk.calls ((rd_T95 l0 x7_1).f0.f0) ((rd_T95 l0 x7_1).f0.f1) true _ A5.out).mono ?_
            rintro e w25 ⟨rfl, hb⟩
            refine ⟨_, rfl, ?_⟩
            replace BK102 := am (BB BK102 hb)
            replace HB := am (below_step (K1 HB GE102.out) hb)
            (try clear hb)
            (try clear hb2)
            (try clear hk)
            (try clear hi)
            refine hK.out _ _ ⟨z0 _ BK102.out, z1 _ BK102.out, z2 _ BK102.out, (CY HB.out hw105_0), (CY HB.out hw105_1), (CY HB.out hw105_2)⟩ (fun hHeld => ?_)
            clear hK K
            refine norm_ (a' := ?_) ?_ ?_
            rotate_left
            ·show Act.put _ (some 14) _ = _
             simp only [Act.put, List.setIfInBounds_toArray, List.set_cons_zero, List.set_cons_succ, i64_w, i32_w]
             rfl
            refine pv HT_ 3 15 (tf 4 22) ?_
            refine pv HT_ 4 16 (tf 5 21) ?_
            refine pv HT_ 5 17 (tf 6 20) ?_
            refine tk 6 (some 18) (tf 7 19) (take_ofW HT_.out HW_.out (by kernel_rfl)) hHeld ?_
            refine one_ (i := 7) (N := some 19) (tf 8 18) rfl rfl (one_of HT_.out (by kernel_rfl)) (by decide) (fun K hK => ?_)
            refine goes_ Try.func83 (by kernel_rfl) rfl #[.int .i64 ((rd_T95 l0 x7_1).f1), .int .i64 0, .int .i64 99] (by rfl) rfl rfl MT ?_
            with_reducible refine (impl_in.calls ((rd_T95 l0 x7_1).f1) 0 99 true _ A7.out).mono ?_
            rintro e w' ⟨rfl, ⟨nd, rfl⟩⟩
            refine ⟨_, rfl, ?_⟩
            refine hK.out _ _ ⟨z0 _ BK102.out, z1 _ BK102.out, z2 _ BK102.out, (CY HB.out hw105_0), (CY HB.out hw105_1), (CY HB.out hw105_2)⟩ (fun hHeld => ?_)
            clear hK K
            refine norm_ (a' := ?_) ?_ ?_
            rotate_left
            ·show Act.put _ (some 19) _ = _
             simp only [Act.put, List.setIfInBounds_toArray, List.set_cons_zero, List.set_cons_succ, i64_w, i32_w]
             rfl
            refine pv HT_ 8 20 (tf 9 17) ?_
            refine pv HT_ 9 21 (tf 10 16) ?_
            refine pv HT_ 10 22 (tf 11 15) ?_
            refine pv HT_ 11 23 (tf 12 14) ?_
            refine pv HT_ 12 24 (tf 13 13) ?_
            refine pv HT_ 13 25 (tf 14 12) ?_
            refine pv HT_ 14 26 (tf 15 11) ?_
            refine pv HT_ 15 27 (tf 16 10) ?_
            refine pv HT_ 16 28 (tf 17 9) ?_
            refine pv HT_ 17 29 (tf 18 8) ?_
            refine pv HT_ 18 30 (tf 19 7) ?_
            refine pv HT_ 20 32 (tr [19, 1, 1, 5]) ?_
            refine tk 19 (some 31) (tf 21 5) (take_ofW HT_.out HW_.out (by kernel_rfl)) hHeld ?_
            refine tk 21 (some 33) (tf 22 4) (take_ofW HT_.out HW_.out (by kernel_rfl)) hHeld ?_
            refine one_ (i := 22) (N := some 34) (tf 23 3) rfl rfl (one_of HT_.out (by kernel_rfl)) (by decide) (fun K hK => ?_)
            refine goes_ Try.func105 (by kernel_rfl) rfl #[.agg #[.int .i64 ((rd_T95 l0 (ji10)).f0.f0), .int .i64 ((rd_T95 l0 (ji10)).f0.f1)], .agg #[.int .i64 ((rd_T95 l0 x7_1).f0.f0), .int .i64 ((rd_T95 l0 x7_1).f0.f1)]] (by rfl) rfl rfl (by (try simp only [List.map_toArray, List.map_cons, List.map_nil]); first | done | (simp only [hji10]; rfl) | rfl | (simp only [List.length_drop, List.length_take]; rfl)) ?_
            with_reducible refine (impl_byBlock.calls k1 ((rd_T95 l0 (ji10)).f0.f0) ((rd_T95 l0 (ji10)).f0.f1) ((rd_T95 l0 x7_1).f0.f0) ((rd_T95 l0 x7_1).f0.f1) t106 _ A13.out).mono ?_
            rintro e w26 ⟨rfl, hb⟩
            refine ⟨_, rfl, ?_⟩
            replace BK102 := am (BB BK102 hb)
            replace HB := am (below_step (K1 HB GE102.out) hb)
            (try clear hb)
            (try clear hb2)
            (try clear hk)
            (try clear hi)
            refine hK.out _ _ ⟨z0 _ BK102.out, z1 _ BK102.out, z2 _ BK102.out, (CY HB.out hw105_0), (CY HB.out hw105_1), (CY HB.out hw105_2)⟩ (fun hHeld => ?_)
            clear hK K
            refine norm_ (a' := ?_) ?_ ?_
            rotate_left
            ·show Act.put _ (some 34) _ = _
             simp only [Act.put, List.setIfInBounds_toArray, List.set_cons_zero, List.set_cons_succ, i64_w, i32_w]
             rfl
            refine pv HT_ 23 35 (tf 24 2) ?_
            refine pv HT_ 24 36 (tf 25 1) ?_
            refine pv HT_ 25 37 (tf 26 0) ?_
            refine done_ (done_of HT_.out (by kernel_rfl)) ?_
            try go_wp2
            go_roundg k1
            case measure => have := HK1.out; omega
            case rel => exact ⟨(wrap64 (x7_1 + 1)), (by first | rfl | (simp; done) | (simp [*]; done)), H', ⟨by have := HK1.out; omega⟩, ⟨K1 HB GE102.out⟩⟩
          ·rw [if_neg c12] at H
           exact absurd H (by simp)
         ·rw [if_neg c11] at H
          exact absurd H (by simp)
        ·rw [if_neg c9] at H
         have c9b0 : decide (0 < x7_1) = false := decide_eq_false c9
         clear c9
         have H' := Aside0.mk H
         clear H
         have p101 : 0 ≤ (x7_1 : Int) := OD
         have q101 : x7_1 < (l0.length : Int) := OD
         obtain ⟨ad101, e101, hx101_0, hx101_1, hx101_2⟩ := at_T95 HR0.out x7_1 p101 q101
         cases e101
         replace hx101_0 := CX HB.out hx101_0
         replace hx101_1 := CX HB.out hx101_1
         replace hx101_2 := CX HB.out hx101_2
         replace p101 := eq_true p101
         replace q101 := eq_true q101
         try go_wp2_with (first | ((with_reducible refine gate_dst (N := 4) rfl ?_); refine box_event rfl (N := 4) rfl (cs := #[.int .i64 0, .int .i64 0, .int .i64 0]) (t := 95) BX ?_; intro gb102 hg w27 hbox hb; have BK102 := am (hbox); have GW102 := am (GH HB hg); have GE102 := GW102; replace HB := am (below_step (KL HB) hb); clear hb hbox hg; obtain ⟨hcz28_0, hcz28_1, hcz28_2, hfz28_0⟩ := y3 w27 BK102.out))
         generalize hq_ : (((w27.setCell ⟨gb102, 0, none⟩ (.int .i64 ((rd_T95 l0 x7_1).f0.f0))).setCell ⟨gb102, 1, none⟩ (.int .i64 ((rd_T95 l0 x7_1).f0.f1))).setCell ⟨gb102, 2, none⟩ (.int .i64 ((rd_T95 l0 x7_1).f1))) = w29
         have n0_ : Aside0 (w29.heap[gb102]? = some (.cells #[.int .i64 ((rd_T95 l0 x7_1).f0.f0), .int .i64 ((rd_T95 l0 x7_1).f0.f1), .int .i64 ((rd_T95 l0 x7_1).f1)] 95 (0, 0))) := ⟨by rw [← hq_]; exact P3 BK102⟩
         have n1_ : Aside0 (Below w.heap.size w w29) := ⟨by rw [← hq_]; exact K1 HB GE102.out⟩
         clear hq_
         (try clear BK102)
         (try clear HB)
         have BK102 := n0_
         have HB := n1_
         clear n0_ n1_
         replace BK102 := am (blk_drew BK102.out)
         replace HB := am (below_drew1 HB.out)
         refine start_ (n := 26) (S := fun w' => de3 w' gb102 (.int .i64 ((rd_T95 l0 x7_1).f0.f0)) (.int .i64 ((rd_T95 l0 x7_1).f0.f1)) (.int .i64 ((rd_T95 l0 x7_1).f1))) (ds := []) (tf 0 26) (by kernel_rfl) rfl rfl ⟨z0 _ BK102.out, z1 _ BK102.out, z2 _ BK102.out⟩ (fun hHeld => ?_); refine with_tabW impl_WaysOk.tab4 impl_WaysOk.bits4 (fun HT_ HW_ => ?_)
         generalize w29.drew = w30 at BK102 HB hHeld ⊢
         refine pv HT_ 0 12 (tf 1 25) ?_
         refine tk 1 (some 13) (tf 2 24) (take_ofW HT_.out HW_.out (by kernel_rfl)) hHeld ?_
         refine one_ (i := 2) (N := some 14) (tf 3 23) rfl rfl (one_of HT_.out (by kernel_rfl)) (by decide) (fun K hK => ?_)
         refine goes_ Try.func68 (by kernel_rfl) rfl #[.agg #[.int .i64 ((rd_T95 l0 x7_1).f0.f0), .int .i64 ((rd_T95 l0 x7_1).f0.f1)]] (by rfl) rfl rfl MT ?_
         with_reducible refine (impl_BlockOk.calls ((rd_T95 l0 x7_1).f0.f0) ((rd_T95 l0 x7_1).f0.f1) true _ A5.out).mono ?_
         rintro e w31 ⟨rfl, hb⟩
         refine ⟨_, rfl, ?_⟩
         replace BK102 := am (BB BK102 hb)
         replace HB := am (below_step (K1 HB GE102.out) hb)
         (try clear hb)
         (try clear hb2)
         (try clear hk)
         (try clear hi)
         refine hK.out _ _ ⟨z0 _ BK102.out, z1 _ BK102.out, z2 _ BK102.out⟩ (fun hHeld => ?_)
         clear hK K
         refine norm_ (a' := ?_) ?_ ?_
         rotate_left
         ·show Act.put _ (some 14) _ = _
          simp only [Act.put, List.setIfInBounds_toArray, List.set_cons_zero, List.set_cons_succ, i64_w, i32_w]
          rfl
         refine pv HT_ 3 15 (tf 4 22) ?_
         refine pv HT_ 4 16 (tf 5 21) ?_
         refine pv HT_ 5 17 (tf 6 20) ?_
         refine tk 6 (some 18) (tf 7 19) (take_ofW HT_.out HW_.out (by kernel_rfl)) hHeld ?_
         refine one_ (i := 7) (N := some 19) (tf 8 18) rfl rfl (one_of HT_.out (by kernel_rfl)) (by decide) (fun K hK => ?_)
         refine goes_ Try.func83 (by kernel_rfl) rfl #[.int .i64 ((rd_T95 l0 x7_1).f1), .int .i64 0, .int .i64 99] (by rfl) rfl rfl MT ?_
         with_reducible refine (impl_in.calls ((rd_T95 l0 x7_1).f1) 0 99 true _ A7.out).mono ?_
         rintro e w' ⟨rfl, ⟨nd, rfl⟩⟩
         refine ⟨_, rfl, ?_⟩
         refine hK.out _ _ ⟨z0 _ BK102.out, z1 _ BK102.out, z2 _ BK102.out⟩ (fun hHeld => ?_)
         clear hK K
         refine norm_ (a' := ?_) ?_ ?_
         rotate_left
         ·show Act.put _ (some 19) _ = _
          simp only [Act.put, List.setIfInBounds_toArray, List.set_cons_zero, List.set_cons_succ, i64_w, i32_w]
          rfl
         refine pv HT_ 8 20 (tf 9 17) ?_
         refine pv HT_ 9 21 (tf 10 16) ?_
         refine pv HT_ 10 22 (tf 11 15) ?_
         refine pv HT_ 11 23 (tf 12 14) ?_
         refine pv HT_ 12 24 (tf 13 13) ?_
         refine pv HT_ 13 25 (tf 14 12) ?_
         refine pw HT_ 14 26 (tf 15 11) ?_
         refine pw HT_ 15 27 (tf 16 10) ?_
         refine pw HT_ 16 28 (tf 17 9) ?_
         refine pw HT_ 17 29 (tf 18 8) ?_
         refine pw HT_ 18 30 (tf 19 7) ?_
         refine pw HT_ 19 31 (tf 20 6) ?_
         refine pw HT_ 20 32 (tf 21 5) ?_
         refine pw HT_ 21 33 (tf 22 4) ?_
         refine pw HT_ 22 34 (tf 23 3) ?_
         refine pw HT_ 23 35 (tf 24 2) ?_
         refine pv HT_ 24 36 (tf 25 1) ?_
         refine pv HT_ 25 37 (tf 26 0) ?_
         refine done_ (done_of HT_.out (by kernel_rfl)) ?_
         try go_wp2
         go_roundg k1
         case measure => have := HK1.out; omega
         case rel => exact ⟨(wrap64 (x7_1 + 1)), (by first | rfl | (simp; done) | (simp [*]; done)), H', ⟨by have := HK1.out; omega⟩, ⟨K1 HB GE102.out⟩⟩
       ·replace c8 := Bool.eq_false_iff.mpr c8
        subst c8
        have H1 : (some false) = some r := by rw [if_neg (show ¬ (false = true) by decide)] at H; exact H
        clear H
        have H := H1
        clear H1
        obtain rfl := Option.some.inj H
        have p101 : 0 ≤ (x7_1 : Int) := OD
        have q101 : x7_1 < (l0.length : Int) := OD
        obtain ⟨ad101, e101, hx101_0, hx101_1, hx101_2⟩ := at_T95 HR0.out x7_1 p101 q101
        cases e101
        replace hx101_0 := CX HB.out hx101_0
        replace hx101_1 := CX HB.out hx101_1
        replace hx101_2 := CX HB.out hx101_2
        replace p101 := eq_true p101
        replace q101 := eq_true q101
        try go_wp2_with (first | ((with_reducible refine gate_dst (N := 4) rfl ?_); refine box_event rfl (N := 4) rfl (cs := #[.int .i64 0, .int .i64 0, .int .i64 0]) (t := 95) BX ?_; intro gb102 hg w32 hbox hb; have BK102 := am (hbox); have GW102 := am (GH HB hg); have GE102 := GW102; replace HB := am (below_step (KL HB) hb); clear hb hbox hg; obtain ⟨hcz33_0, hcz33_1, hcz33_2, hfz33_0⟩ := y3 w32 BK102.out))
        generalize hq_ : (((w32.setCell ⟨gb102, 0, none⟩ (.int .i64 ((rd_T95 l0 x7_1).f0.f0))).setCell ⟨gb102, 1, none⟩ (.int .i64 ((rd_T95 l0 x7_1).f0.f1))).setCell ⟨gb102, 2, none⟩ (.int .i64 ((rd_T95 l0 x7_1).f1))) = w34
        have n0_ : Aside0 (w34.heap[gb102]? = some (.cells #[.int .i64 ((rd_T95 l0 x7_1).f0.f0), .int .i64 ((rd_T95 l0 x7_1).f0.f1), .int .i64 ((rd_T95 l0 x7_1).f1)] 95 (0, 0))) := ⟨by rw [← hq_]; exact P3 BK102⟩
        have n1_ : Aside0 (Below w.heap.size w w34) := ⟨by rw [← hq_]; exact K1 HB GE102.out⟩
        clear hq_
        (try clear BK102)
        (try clear HB)
        have BK102 := n0_
        have HB := n1_
        clear n0_ n1_
        replace BK102 := am (blk_drew BK102.out)
        replace HB := am (below_drew1 HB.out)
        refine start_ (n := 26) (S := fun w' => de3 w' gb102 (.int .i64 ((rd_T95 l0 x7_1).f0.f0)) (.int .i64 ((rd_T95 l0 x7_1).f0.f1)) (.int .i64 ((rd_T95 l0 x7_1).f1))) (ds := []) (tf 0 26) (by kernel_rfl) rfl rfl ⟨z0 _ BK102.out, z1 _ BK102.out, z2 _ BK102.out⟩ (fun hHeld => ?_); refine with_tabW impl_WaysOk.tab4 impl_WaysOk.bits4 (fun HT_ HW_ => ?_)
        generalize w34.drew = w35 at BK102 HB hHeld ⊢
        refine pv HT_ 0 12 (tf 1 25) ?_
        refine tk 1 (some 13) (tf 2 24) (take_ofW HT_.out HW_.out (by kernel_rfl)) hHeld ?_
        refine one_ (i := 2) (N := some 14) (tf 3 23) rfl rfl (one_of HT_.out (by kernel_rfl)) (by decide) (fun K hK => ?_)
        refine goes_ Try.func68 (by kernel_rfl) rfl #[.agg #[.int .i64 ((rd_T95 l0 x7_1).f0.f0), .int .i64 ((rd_T95 l0 x7_1).f0.f1)]] (by rfl) rfl rfl MT ?_
        with_reducible refine (impl_BlockOk.calls ((rd_T95 l0 x7_1).f0.f0) ((rd_T95 l0 x7_1).f0.f1) true _ A5.out).mono ?_
        rintro e w36 ⟨rfl, hb⟩
        refine ⟨_, rfl, ?_⟩
        replace BK102 := am (BB BK102 hb)
        replace HB := am (below_step (K1 HB GE102.out) hb)
        (try clear hb)
        (try clear hb2)
        (try clear hk)
        (try clear hi)
        refine hK.out _ _ ⟨z0 _ BK102.out, z1 _ BK102.out, z2 _ BK102.out⟩ (fun hHeld => ?_)
        clear hK K
        refine norm_ (a' := ?_) ?_ ?_
        rotate_left
        ·show Act.put _ (some 14) _ = _
         simp only [Act.put, List.setIfInBounds_toArray, List.set_cons_zero, List.set_cons_succ, i64_w, i32_w]
         rfl
        refine pv HT_ 3 15 (tf 4 22) ?_
        refine pv HT_ 4 16 (tf 5 21) ?_
        refine pv HT_ 5 17 (tf 6 20) ?_
        refine tk 6 (some 18) (tf 7 19) (take_ofW HT_.out HW_.out (by kernel_rfl)) hHeld ?_
        refine one_ (i := 7) (N := some 19) (tf 8 18) rfl rfl (one_of HT_.out (by kernel_rfl)) (by decide) (fun K hK => ?_)
        refine goes_ Try.func83 (by kernel_rfl) rfl #[.int .i64 ((rd_T95 l0 x7_1).f1), .int .i64 0, .int .i64 99] (by rfl) rfl rfl MT ?_
        with_reducible refine (impl_in.calls ((rd_T95 l0 x7_1).f1) 0 99 false _ A7.out).mono ?_
        rintro e w' ⟨rfl, ⟨nd, rfl⟩⟩
        refine ⟨_, rfl, ?_⟩
        refine hK.out _ _ ⟨z0 _ BK102.out, z1 _ BK102.out, z2 _ BK102.out⟩ (fun hHeld => ?_)
        clear hK K
        refine norm_ (a' := ?_) ?_ ?_
        rotate_left
        ·show Act.put _ (some 19) _ = _
         simp only [Act.put, List.setIfInBounds_toArray, List.set_cons_zero, List.set_cons_succ, i64_w, i32_w]
         rfl
        refine pv HT_ 8 20 (tf 9 17) ?_
        refine pv HT_ 9 21 (tf 10 16) ?_
        refine pv HT_ 10 22 (tf 11 15) ?_
        refine pw HT_ 11 23 (tf 12 14) ?_
        refine pw HT_ 12 24 (tf 13 13) ?_
        refine pw HT_ 13 25 (tf 14 12) ?_
        refine pw HT_ 14 26 (tf 15 11) ?_
        refine pw HT_ 15 27 (tf 16 10) ?_
        refine pw HT_ 16 28 (tf 17 9) ?_
        refine pw HT_ 17 29 (tf 18 8) ?_
        refine pw HT_ 18 30 (tf 19 7) ?_
        refine pw HT_ 19 31 (tf 20 6) ?_
        refine pw HT_ 20 32 (tf 21 5) ?_
        refine pw HT_ 21 33 (tf 22 4) ?_
        refine pw HT_ 22 34 (tf 23 3) ?_
        refine pw HT_ 23 35 (tf 24 2) ?_
        refine pw HT_ 24 36 (tf 25 1) ?_
        refine pv HT_ 25 37 (tf 26 0) ?_
        refine done_ (done_of HT_.out (by kernel_rfl)) ?_
        try go_wp2
        go_ret
        exact ⟨ER, K1 HB GE102.out⟩
      ·replace c6 := Bool.eq_false_iff.mpr c6
       subst c6
       have H1 : (some false) = some r := by rw [if_neg (show ¬ (false = true) by decide)] at H; exact H
       clear H
       have H := H1
       clear H1
       obtain rfl := Option.some.inj H
       have p101 : 0 ≤ (x7_1 : Int) := OD
       have q101 : x7_1 < (l0.length : Int) := OD
       obtain ⟨ad101, e101, hx101_0, hx101_1, hx101_2⟩ := at_T95 HR0.out x7_1 p101 q101
       cases e101
       replace hx101_0 := CX HB.out hx101_0
       replace hx101_1 := CX HB.out hx101_1
       replace hx101_2 := CX HB.out hx101_2
       replace p101 := eq_true p101
       replace q101 := eq_true q101
       try go_wp2_with (first | ((with_reducible refine gate_dst (N := 4) rfl ?_); refine box_event rfl (N := 4) rfl (cs := #[.int .i64 0, .int .i64 0, .int .i64 0]) (t := 95) BX ?_; intro gb102 hg w37 hbox hb; have BK102 := am (hbox); have GW102 := am (GH HB hg); have GE102 := GW102; replace HB := am (below_step (KL HB) hb); clear hb hbox hg; obtain ⟨hcz38_0, hcz38_1, hcz38_2, hfz38_0⟩ := y3 w37 BK102.out))
       generalize hq_ : (((w37.setCell ⟨gb102, 0, none⟩ (.int .i64 ((rd_T95 l0 x7_1).f0.f0))).setCell ⟨gb102, 1, none⟩ (.int .i64 ((rd_T95 l0 x7_1).f0.f1))).setCell ⟨gb102, 2, none⟩ (.int .i64 ((rd_T95 l0 x7_1).f1))) = w39
       have n0_ : Aside0 (w39.heap[gb102]? = some (.cells #[.int .i64 ((rd_T95 l0 x7_1).f0.f0), .int .i64 ((rd_T95 l0 x7_1).f0.f1), .int .i64 ((rd_T95 l0 x7_1).f1)] 95 (0, 0))) := ⟨by rw [← hq_]; exact P3 BK102⟩
       have n1_ : Aside0 (Below w.heap.size w w39) := ⟨by rw [← hq_]; exact K1 HB GE102.out⟩
       clear hq_
       (try clear BK102)
       (try clear HB)
       have BK102 := n0_
       have HB := n1_
       clear n0_ n1_
       replace BK102 := am (blk_drew BK102.out)
       replace HB := am (below_drew1 HB.out)
       refine start_ (n := 26) (S := fun w' => de3 w' gb102 (.int .i64 ((rd_T95 l0 x7_1).f0.f0)) (.int .i64 ((rd_T95 l0 x7_1).f0.f1)) (.int .i64 ((rd_T95 l0 x7_1).f1))) (ds := []) (tf 0 26) (by kernel_rfl) rfl rfl ⟨z0 _ BK102.out, z1 _ BK102.out, z2 _ BK102.out⟩ (fun hHeld => ?_); refine with_tabW impl_WaysOk.tab4 impl_WaysOk.bits4 (fun HT_ HW_ => ?_)
       generalize w39.drew = w40 at BK102 HB hHeld ⊢
       refine pv HT_ 0 12 (tf 1 25) ?_
       refine tk 1 (some 13) (tf 2 24) (take_ofW HT_.out HW_.out (by kernel_rfl)) hHeld ?_
       refine one_ (i := 2) (N := some 14) (tf 3 23) rfl rfl (one_of HT_.out (by kernel_rfl)) (by decide) (fun K hK => ?_)
       refine goes_ Try.func68 (by kernel_rfl) rfl #[.agg #[.int .i64 ((rd_T95 l0 x7_1).f0.f0), .int .i64 ((rd_T95 l0 x7_1).f0.f1)]] (by rfl) rfl rfl MT ?_
       with_reducible refine (impl_BlockOk.calls ((rd_T95 l0 x7_1).f0.f0) ((rd_T95 l0 x7_1).f0.f1) false _ A5.out).mono ?_
       rintro e w41 ⟨rfl, hb⟩
       refine ⟨_, rfl, ?_⟩
       replace BK102 := am (BB BK102 hb)
       replace HB := am (below_step (K1 HB GE102.out) hb)
       (try clear hb)
       (try clear hb2)
       (try clear hk)
       (try clear hi)
       refine hK.out _ _ ⟨z0 _ BK102.out, z1 _ BK102.out, z2 _ BK102.out⟩ (fun hHeld => ?_)
       clear hK K
       refine norm_ (a' := ?_) ?_ ?_
       rotate_left
       ·show Act.put _ (some 14) _ = _
        simp only [Act.put, List.setIfInBounds_toArray, List.set_cons_zero, List.set_cons_succ, i64_w, i32_w]
        rfl
       refine pv HT_ 3 15 (tf 4 22) ?_
       refine pv HT_ 4 16 (tf 5 21) ?_
       refine pw HT_ 5 17 (tf 6 20) ?_
       refine pw HT_ 6 18 (tf 7 19) ?_
       refine pw HT_ 7 19 (tf 8 18) ?_
       refine pw HT_ 8 20 (tf 9 17) ?_
       refine pv HT_ 9 21 (tf 10 16) ?_
       refine pv HT_ 10 22 (tf 11 15) ?_
       refine pw HT_ 11 23 (tf 12 14) ?_
       refine pw HT_ 12 24 (tf 13 13) ?_
       refine pw HT_ 13 25 (tf 14 12) ?_
       refine pw HT_ 14 26 (tf 15 11) ?_
       refine pw HT_ 15 27 (tf 16 10) ?_
       refine pw HT_ 16 28 (tf 17 9) ?_
       refine pw HT_ 17 29 (tf 18 8) ?_
       refine pw HT_ 18 30 (tf 19 7) ?_
       refine pw HT_ 19 31 (tf 20 6) ?_
       refine pw HT_ 20 32 (tf 21 5) ?_
       refine pw HT_ 21 33 (tf 22 4) ?_
       refine pw HT_ 22 34 (tf 23 3) ?_
       refine pw HT_ 23 35 (tf 24 2) ?_
       refine pw HT_ 24 36 (tf 25 1) ?_
       refine pv HT_ 25 37 (tf 26 0) ?_
       refine done_ (done_of HT_.out (by kernel_rfl)) ?_
       try go_wp2
       go_ret
       exact ⟨ER, K1 HB GE102.out⟩
     ·rw [if_neg c4] at H
      exact absurd H (by simp)
    ·rw [if_neg c3] at H
     exact absurd H (by simp)
   ·rw [if_neg c2] at H
    have c2b0 : decide (x7_1 < (l0.length : Int)) = false := decide_eq_false c2
    clear c2
    obtain rfl := Option.some.inj H
    go_wp2
    go_ret
    exact ⟨ER, KL HB⟩
mutual
def impl_blocksOf.l0 : Nat → List (S40) → List (List (S95)) → Int → Int → Option ((List (S40)))
 | 0, _, _, _, _ => none
 | k + 1, x3, x8, x9, x10 => if x10 < x9 then (if 0 ≤ x10 then (if x10 < (x8.length : Int) then (impl_blocksOf.l1 k x3 x8 x9 x10 (rd_L14 x8 x10) ((rd_L14 x8 x10).length : Int) 0) else (none)) else (none)) else (some x3)
def impl_blocksOf.l1 : Nat → List (S40) → List (List (S95)) → Int → Int → List (S95) → Int → Int → Option ((List (S40)))
 | 0, _, _, _, _, _, _, _ => none
 | k + 1, x3, x8, x9, x10, x14, x15, x16 => if x16 < x15 then (if 0 ≤ x16 then (if x16 < (x14.length : Int) then (if x3.length < 8796093022208 then (impl_blocksOf.l1 k (x3 ++ [(⟨(rd_T95 x14 x16).f0.f0, (rd_T95 x14 x16).f0.f1⟩ : S40)]) x8 x9 x10 x14 x15 (wrap64 (x16 + 1))) else (none)) else (none)) else (none)) else (impl_blocksOf.l0 k x3 x8 x9 (wrap64 (x10 + 1)))
end
def impl_blocksOf.f (k : Nat) (l0 : List (List (S95))) : Option ((List (S40))) := impl_blocksOf.l0 k ([] : List (S40)) l0 (l0.length : Int) 0
set_option maxHeartbeats 8000000 in
set_option maxRecDepth 100000 in
theorem impl_blocksOf.calls (k : Nat) (A0 : Option Addr) (c0 : Nat) (l0 : List (List (S95))) (r : List (S40)) (w : World) (hr0 : Kd.C (Kd.slice 95 k95) w A0 l0.length l0) (hc0 : l0.length ≤ c0) (h : impl_blocksOf.f k l0 = some r) :
  Calls Try.prog 85 #[.slice A0 l0.length c0] w fun e w' => ∃ v0_ : Value, e = .returned (v0_) ∧ Kd.R k40 40 w' w.heap.size (fun _ => True) v0_ r ∧ Below w.heap.size w w' := by
 have hu95 := Try.underlying95
 have hu40 := Try.underlying40
 have HR0 := Aside0.mk hr0
 have HC0 := Aside0.mk hc0
 clear hr0 hc0
 have HB := am (Below.refl w.heap.size w)
 have H : (impl_blocksOf.l0 k ([] : List (S40)) l0 (l0.length : Int) 0) = some r := h
 clear h
 have H' := Aside0.mk H
 clear H
 go_enter Try.func85, Try.ntmps85
 go_wp2
 go_loopg [3, 10] k (fun kq v3 v10 w' => ∃ (x3_1 : List (S40)) (x10_1 : Int), v10 = .int .i64 x10_1 ∧ Aside0 (impl_blocksOf.l0 kq x3_1 l0 (l0.length : Int) x10_1 = some r) ∧ Aside0 (kq ≤ k) ∧ Aside0 (Kd.R k40 40 w' w.heap.size (fun _ => True) v3 x3_1) ∧ Aside0 (Below w.heap.size w w'))
 case atStart => exact ⟨(([] : List (S40))), (0), (by first | rfl | (simp; done) | (simp [*]; done)), H', ⟨Nat.le_refl _⟩, ⟨by first | exact Kd.R_nil _ _ _ _ _ | exact Kd.N_nil _ _ _ _ _ | exact Kd.V_nil _ _ _ _ _ | exact Kd.Q_nil _ _ _ _ _ | exact Kd.S_nil _ _ _ _ _⟩, ⟨KL HB⟩⟩
 case round =>
  clear H'
  obtain ⟨x3_1, x10_1, rfl, HA, HK1, HO_3, HB⟩ := hrel
  cases gk with
  | zero => exact absurd HA.out (by simp [impl_blocksOf.l0])
  | succ k1 =>
   have H := HA.out
   clear HA
   simp only [impl_blocksOf.l0] at H
   by_cases c2 : x10_1 < (l0.length : Int)
   ·rw [if_pos c2] at H
    have c2b0 : decide (x10_1 < (l0.length : Int)) = true := decide_eq_true c2
    clear c2
    by_cases c3 : 0 ≤ x10_1
    ·rw [if_pos c3] at H
     have c3b0 : decide (0 ≤ x10_1) = true := decide_eq_true c3
     clear c3
     by_cases c4 : x10_1 < (l0.length : Int)
     ·rw [if_pos c4] at H
      have c4b0 : decide (x10_1 < (l0.length : Int)) = true := decide_eq_true c4
      clear c4
      have H' := Aside0.mk H
      clear H
      have p101 : 0 ≤ (x10_1 : Int) := OD
      have q101 : x10_1 < (l0.length : Int) := OD
      obtain ⟨ad101, A101_0, c101_0, e101, hx101_0, hl101_0, hi101_0⟩ := at_L14 HR0.out x10_1 p101 q101
      cases e101
      replace hx101_0 := CX HB.out hx101_0
      have HR101_0 := Aside0.mk hi101_0
      have HC101_0 := Aside0.mk hl101_0
      clear hi101_0 hl101_0
      replace p101 := eq_true p101
      replace q101 := eq_true q101
      go_wp2
      go_loopg [3, 16] k1 (fun kq v3 v16 w' => ∃ (x3_2 : List (S40)) (x16_2 : Int), v16 = .int .i64 x16_2 ∧ Aside0 (impl_blocksOf.l1 kq x3_2 l0 (l0.length : Int) x10_1 (rd_L14 l0 x10_1) ((rd_L14 l0 x10_1).length : Int) x16_2 = some r) ∧ Aside0 (kq ≤ k1) ∧ Aside0 (Kd.R k40 40 w' w.heap.size (fun _ => True) v3 x3_2) ∧ Aside0 (Below w.heap.size w w'))
      case atStart => exact ⟨(x3_1), (0), (by first | rfl | (simp; done) | (simp [*]; done)), H', ⟨Nat.le_refl _⟩, ⟨KR HO_3⟩, ⟨KL HB⟩⟩
      case round =>
       clear H'
       try clear c1
       try clear p1
       try clear q1
       try clear hx1
       try clear c2
       try clear c2b0
       try clear p2
       try clear c3
       try clear c3b0
       try clear c4
       try clear c4b0
       try clear hx101_0
       try clear p101
       try clear q101
       obtain ⟨x3_2, x16_2, rfl, HA, HK2, HO_3, HB⟩ := hrel
       cases gk with
       | zero => exact absurd HA.out (by simp [impl_blocksOf.l1])
       | succ k2 =>
        have H := HA.out
        clear HA
        simp only [impl_blocksOf.l1] at H
        by_cases c5 : x16_2 < ((rd_L14 l0 x10_1).length : Int)
        ·rw [if_pos c5] at H
         have c5b0 : decide (x16_2 < ((rd_L14 l0 x10_1).length : Int)) = true := decide_eq_true c5
         clear c5
         by_cases c6 : 0 ≤ x16_2
         ·rw [if_pos c6] at H
          have c6b0 : decide (0 ≤ x16_2) = true := decide_eq_true c6
          clear c6
          by_cases c7 : x16_2 < ((rd_L14 l0 x10_1).length : Int)
          ·rw [if_pos c7] at H
           have c7b0 : decide (x16_2 < ((rd_L14 l0 x10_1).length : Int)) = true := decide_eq_true c7
           clear c7
           by_cases c8 : x3_2.length < 8796093022208
           ·rw [if_pos c8] at H
            have LMc8 := Aside0.mk c8
            clear c8
            obtain ⟨y104, hy104⟩ : ∃ y_ : List (S40), y_ = (x3_2 ++ [(⟨(rd_T95 (rd_L14 l0 x10_1) x16_2).f0.f0, (rd_T95 (rd_L14 l0 x10_1) x16_2).f0.f1⟩ : S40)]) := ⟨_, rfl⟩
            replace H : (impl_blocksOf.l1 k2 y104 l0 (l0.length : Int) x10_1 (rd_L14 l0 x10_1) ((rd_L14 l0 x10_1).length : Int) (wrap64 (x16_2 + 1))) = some r := by first | (rw [hy104]; with_reducible exact H) | (have H2_ := (Option.bind_some _ _).symm.trans H; rw [hy104]; with_reducible exact H2_) | (have H2_ := (Option.bind_some _ _).symm.trans H; with_reducible exact H2_) | with_reducible exact H | (rw [hy104]; exact H) | exact H
            have Ny104 := Aside0.mk hy104
            clear hy104
            have H' := Aside0.mk H
            clear H
            have p102 : 0 ≤ (x16_2 : Int) := OD
            have q102 : x16_2 < ((rd_L14 l0 x10_1).length : Int) := OD
            obtain ⟨ad102, e102, hx102_0, hx102_1, hx102_2⟩ := at_T95 HR101_0.out x16_2 p102 q102
            cases e102
            replace hx102_0 := CX HB.out hx102_0
            replace hx102_1 := CX HB.out hx102_1
            replace hx102_2 := CX HB.out hx102_2
            replace p102 := eq_true p102
            replace q102 := eq_true q102
            go_wp2_with (first | ((with_reducible refine gate_dst (N := 7) rfl ?_); refine box_event rfl (N := 7) rfl (cs := #[.int .i64 0, .int .i64 0, .int .i64 0]) (t := 95) BX ?_; intro gb103 hg w9 hbox hb; replace HO_3 := am (Kd.R_below (KR HO_3) hb); have BK103 := am (hbox); have GW103 := am (GH HB hg); have GE103 := GW103; replace HB := am (below_step (KL HB) hb); clear hb hbox hg; obtain ⟨hcz10_0, hcz10_1, hcz10_2, hfz10_0⟩ := y3 w9 BK103.out) | ((with_reducible refine gate_builtin (b := .append) (xs := #[.tmp 20, .tmp 23]) rfl ?_); at_builtin; refine Kd.R_append k40 (w0 := w) w.heap.size rfl (.tmp 20) (.tmp 23) 25 40 (.agg #[(.int .i64 0), (.int .i64 0)]) 16 rfl Try.underlying25 info40 rfl (by decide) (by omega) u3 x3_2 (⟨(rd_T95 (rd_L14 l0 x10_1) x16_2).f0.f0, (rd_T95 (rd_L14 l0 x10_1) x16_2).f0.f1⟩ : S40) [.int .i64 ((rd_T95 (rd_L14 l0 x10_1) x16_2).f0.f0), .int .i64 ((rd_T95 (rd_L14 l0 x10_1) x16_2).f0.f1)] (fun _ => True) (fun _ => False) rfl (by first | (go_simp; done) | (go_simp; rfl)) ?aP (fun _ hk => hk.elim) ?aF ?aO ?aB ?aS ?aL ?_; (case aP => exact k40_mkM _ _ _ (⟨(rd_T95 (rd_L14 l0 x10_1) x16_2).f0.f0, (rd_T95 (rd_L14 l0 x10_1) x16_2).f0.f1⟩ : S40)); (case aB => exact (K1 HB GE103.out)); (case aF => exact (fun _ _ => trivial)); (case aO => exact (by (with_reducible repeat (first | apply Kd.R_alloc | apply Kd.R_drewN | apply Kd.R_drew)); exact Kd.R_mono (Kd.R_far (p := ⟨gb103, 2, none⟩) (Kd.R_far (p := ⟨gb103, 1, none⟩) (Kd.R_far (p := ⟨gb103, 0, none⟩) (Kd.R_types HO_3.out BK103.out (by decide)) (fun _ hk => hk.2) (.int .i64 ((rd_T95 (rd_L14 l0 x10_1) x16_2).f0.f0))) (fun _ hk => hk.2) (.int .i64 ((rd_T95 (rd_L14 l0 x10_1) x16_2).f0.f1))) (fun _ hk => hk.2) (.int .i64 ((rd_T95 (rd_L14 l0 x10_1) x16_2).f1))) (fun _ hk => trivial))); (case aS => exact (below_size (K1 HB GE103.out))); (case aL => have := LMc8.out; omega); intro v105 w11 ho hb hg hat; rw [← Ny104.out] at ho; replace BK103 := am (blk_grown (g := gb103) (o := .cells #[.int .i64 ((rd_T95 (rd_L14 l0 x10_1) x16_2).f0.f0), .int .i64 ((rd_T95 (rd_L14 l0 x10_1) x16_2).f0.f1), .int .i64 ((rd_T95 (rd_L14 l0 x10_1) x16_2).f1)] 95 (0, 0)) (by (with_reducible repeat (first | refine blk_drewN ?_ _ | refine blk_drew ?_ | refine blk_alloc ?_ _)); refine blk_put (cs := #[.int .i64 ((rd_T95 (rd_L14 l0 x10_1) x16_2).f0.f0), .int .i64 ((rd_T95 (rd_L14 l0 x10_1) x16_2).f0.f1), .int .i64 0]) ?_ 2 _ rfl; (with_reducible repeat (first | refine blk_drewN ?_ _ | refine blk_drew ?_ | refine blk_alloc ?_ _)); refine blk_put (cs := #[.int .i64 ((rd_T95 (rd_L14 l0 x10_1) x16_2).f0.f0), .int .i64 0, .int .i64 0]) ?_ 1 _ rfl; (with_reducible repeat (first | refine blk_drewN ?_ _ | refine blk_drew ?_ | refine blk_alloc ?_ _)); refine blk_put (cs := #[.int .i64 0, .int .i64 0, .int .i64 0]) ?_ 0 _ rfl; (with_reducible repeat (first | refine blk_drewN ?_ _ | refine blk_drew ?_ | refine blk_alloc ?_ _)); exact BK103.out) hg (Kd.R_ne HO_3.out BK103.out (by decide))); replace HB := am (hb); have HO106 := am (ho); clear HO_3; clear ho hb hg hat))
            go_roundg k2
            case measure => have := HK1.out; have := HK2.out; omega
            case rel => exact ⟨(y104), (wrap64 (x16_2 + 1)), (by first | rfl | (simp; done) | (simp [*]; done)), H', ⟨by have := HK1.out; have := HK2.out; omega⟩, ⟨KR HO106⟩, ⟨K1 HB GE103.out⟩⟩
           ·rw [if_neg c8] at H
            exact absurd H (by simp)
          ·rw [if_neg c7] at H
           exact absurd H (by simp)
         ·rw [if_neg c6] at H
          exact absurd H (by simp)
        ·rw [if_neg c5] at H
         have c5b0 : decide (x16_2 < ((rd_L14 l0 x10_1).length : Int)) = false := decide_eq_false c5
         clear c5
         have H' := Aside0.mk H
         clear H
         go_wp2
         go_roundg k2
         case measure => have := HK1.out; have := HK2.out; omega
         case rel => exact ⟨(x3_2), (wrap64 (x10_1 + 1)), (by first | rfl | (simp; done) | (simp [*]; done)), H', ⟨by have := HK1.out; have := HK2.out; omega⟩, ⟨KR HO_3⟩, ⟨KL HB⟩⟩
     ·rw [if_neg c4] at H
      exact absurd H (by simp)
    ·rw [if_neg c3] at H
     exact absurd H (by simp)
   ·rw [if_neg c2] at H
    have c2b0 : decide (x10_1 < (l0.length : Int)) = false := decide_eq_false c2
    clear c2
    obtain rfl := Option.some.inj H
    go_wp2
    go_ret
    exact ⟨_, ER, by (with_reducible repeat (first | apply Kd.R_alloc | apply Kd.R_drewN | apply Kd.R_drew)); exact HO_3.out, KL HB⟩
def impl_lead.l0 : Nat → Int → List (S95) → Int → Int → Int → Int → Int → Option (Int)
 | 0, _, _, _, _, _, _, _ => none
 | k + 1, x1, x10, x11, x12, x102000, x102001, x102002 => if x12 < x11 then (if 0 ≤ x12 then (if x12 < (x10.length : Int) then ((impl_Block_has.f ((rd_T95 x10 x12).f0.f0) ((rd_T95 x10 x12).f0.f1) x1).bind fun t104 => (if t104 = true then (if ((rd_T95 x10 x12).f0.f1) > x102001 then (impl_lead.l0 k x1 x10 x11 (wrap64 (x12 + 1)) ((rd_T95 x10 x12).f0.f0) ((rd_T95 x10 x12).f0.f1) ((rd_T95 x10 x12).f1)) else (impl_lead.l0 k x1 x10 x11 (wrap64 (x12 + 1)) x102000 x102001 x102002)) else (impl_lead.l0 k x1 x10 x11 (wrap64 (x12 + 1)) x102000 x102001 x102002))) else (none)) else (none)) else (some x102002)
def impl_lead.f (k : Nat) (l0 : List (S95)) (a1 : Int) : Option (Int) := impl_lead.l0 k a1 l0 (l0.length : Int) 0 0 (-1) (-1)
set_option maxHeartbeats 8000000 in
set_option maxRecDepth 100000 in
theorem impl_lead.calls (k : Nat) (A0 : Option Addr) (c0 : Nat) (l0 : List (S95)) (a1 : Int) (r : Int) (w : World) (hr0 : Kd.C k95 w A0 l0.length l0) (hc0 : l0.length ≤ c0) (h : impl_lead.f k l0 a1 = some r) :
  Calls Try.prog 86 #[.slice A0 l0.length c0, .int .i64 a1] w fun e w' => e = .returned (.int .i64 r) ∧ Below w.heap.size w w' := by
 have hu40 := Try.underlying40
 have hu95 := Try.underlying95
 have HR0 := Aside0.mk hr0
 have HC0 := Aside0.mk hc0
 clear hr0 hc0
 have HB := am (Below.refl w.heap.size w)
 have H : (impl_lead.l0 k a1 l0 (l0.length : Int) 0 0 (-1) (-1)) = some r := h
 clear h
 have H' := Aside0.mk H
 clear H
 go_enter Try.func86, Try.ntmps86
 go_wp2_with (first | ((with_reducible refine gate_dst (N := 5) rfl ?_); refine box_event rfl (N := 5) rfl (cs := #[.int .i64 0, .int .i64 0, .int .i64 0]) (t := 95) BX ?_; intro gb101 hg w3 hbox hb; have BK101 := am (hbox); have GW101 := am (GH HB hg); have GE101 := GW101; replace HB := am (below_step (KL HB) hb); clear hb hbox hg; obtain ⟨hcz4_0, hcz4_1, hcz4_2, hfz4_0⟩ := y3 w3 BK101.out))
 go_loopg [12] k (fun kq v12 w' => ∃ (x12_1 : Int) (x102000_1 : Int) (x102001_1 : Int) (x102002_1 : Int), v12 = .int .i64 x12_1 ∧ Aside0 (impl_lead.l0 kq a1 l0 (l0.length : Int) x12_1 x102000_1 x102001_1 x102002_1 = some r) ∧ Aside0 (kq ≤ k) ∧ Aside0 (w'.heap[gb101]? = some (.cells #[.int .i64 x102000_1, .int .i64 x102001_1, .int .i64 x102002_1] 95 (0, 0))) ∧ Aside0 (Below w.heap.size w w'))
 case atStart => exact ⟨(0), (0), ((-1)), ((-1)), (by first | rfl | (simp; done) | (simp [*]; done)), H', ⟨Nat.le_refl _⟩, ⟨by (with_reducible repeat (first | refine blk_drewN ?_ _ | refine blk_drew ?_ | refine blk_alloc ?_ _)); refine blk_put (cs := #[.int .i64 0, .int .i64 (-1), .int .i64 0]) ?_ 2 _ rfl; (with_reducible repeat (first | refine blk_drewN ?_ _ | refine blk_drew ?_ | refine blk_alloc ?_ _)); refine blk_put (cs := #[.int .i64 0, .int .i64 0, .int .i64 0]) ?_ 1 _ rfl; (with_reducible repeat (first | refine blk_drewN ?_ _ | refine blk_drew ?_ | refine blk_alloc ?_ _)); refine blk_put (cs := #[.int .i64 0, .int .i64 0, .int .i64 0]) ?_ 0 _ rfl; (with_reducible repeat (first | refine blk_drewN ?_ _ | refine blk_drew ?_ | refine blk_alloc ?_ _)); exact BK101.out⟩, ⟨K1 HB GE101.out⟩⟩
 case round =>
  clear H'
  try clear p2
  try clear hcz4_0 hcz4_1 hcz4_2 hfz4_0
  obtain ⟨x12_1, x102000_1, x102001_1, x102002_1, rfl, HA, HK1, BK101, HB⟩ := hrel
  cases gk with
  | zero => exact absurd HA.out (by simp [impl_lead.l0])
  | succ k1 =>
   have H := HA.out
   clear HA
   simp only [impl_lead.l0] at H
   by_cases c5 : x12_1 < (l0.length : Int)
   ·rw [if_pos c5] at H
    have c5b0 : decide (x12_1 < (l0.length : Int)) = true := decide_eq_true c5
    clear c5
    by_cases c6 : 0 ≤ x12_1
    ·rw [if_pos c6] at H
     have c6b0 : decide (0 ≤ x12_1) = true := decide_eq_true c6
     clear c6
     by_cases c7 : x12_1 < (l0.length : Int)
     ·rw [if_pos c7] at H
      have c7b0 : decide (x12_1 < (l0.length : Int)) = true := decide_eq_true c7
      clear c7
      replace H := Option.bind_eq_some_iff.mp H
      obtain ⟨t104, A80, H⟩ := H
      replace H : (if t104 = true then (if ((rd_T95 l0 x12_1).f0.f1) > x102001_1 then (impl_lead.l0 k1 a1 l0 (l0.length : Int) (wrap64 (x12_1 + 1)) ((rd_T95 l0 x12_1).f0.f0) ((rd_T95 l0 x12_1).f0.f1) ((rd_T95 l0 x12_1).f1)) else (impl_lead.l0 k1 a1 l0 (l0.length : Int) (wrap64 (x12_1 + 1)) x102000_1 x102001_1 x102002_1)) else (impl_lead.l0 k1 a1 l0 (l0.length : Int) (wrap64 (x12_1 + 1)) x102000_1 x102001_1 x102002_1)) = some r := H
      have A8 := Aside0.mk A80
      clear A80
      by_cases c9 : t104 = true
      ·subst c9
       have H1 : (if ((rd_T95 l0 x12_1).f0.f1) > x102001_1 then (impl_lead.l0 k1 a1 l0 (l0.length : Int) (wrap64 (x12_1 + 1)) ((rd_T95 l0 x12_1).f0.f0) ((rd_T95 l0 x12_1).f0.f1) ((rd_T95 l0 x12_1).f1)) else (impl_lead.l0 k1 a1 l0 (l0.length : Int) (wrap64 (x12_1 + 1)) x102000_1 x102001_1 x102002_1)) = some r := by rw [if_pos rfl] at H; exact H
       clear H
       have H := H1
       clear H1
       by_cases c10 : ((rd_T95 l0 x12_1).f0.f1) > x102001_1
       ·rw [if_pos c10] at H
        have c10b0 : decide (x102001_1 < ((rd_T95 l0 x12_1).f0.f1)) = true := decide_eq_true c10
        clear c10
        have H' := Aside0.mk H
        clear H
        have p102 : 0 ≤ (x12_1 : Int) := OD
        have q102 : x12_1 < (l0.length : Int) := OD
        obtain ⟨ad102, e102, hx102_0, hx102_1, hx102_2⟩ := at_T95 HR0.out x12_1 p102 q102
        cases e102
        replace hx102_0 := CX HB.out hx102_0
        replace hx102_1 := CX HB.out hx102_1
        replace hx102_2 := CX HB.out hx102_2
        replace p102 := eq_true p102
        replace q102 := eq_true q102
        go_wp2_with (first | ((with_reducible refine gate_dst (N := 7) rfl ?_); refine box_event rfl (N := 7) rfl (cs := #[.int .i64 0, .int .i64 0, .int .i64 0]) (t := 95) BX ?_; intro gb103 hg w11 hbox hb; have BK103 := am (hbox); have GW103 := am (GH1 HB GE101.out hg); have GE103 := GW103; replace HB := am (below_step (K1 HB GE101.out) hb); have NB101_103 := am (NL BK101 hg); have NB103_101 := am (NG BK101 hg); replace BK101 := am (BB BK101 hb); clear hb hbox hg; have hnb12 := NB103_101.out; have hnc12 := NB101_103.out; obtain ⟨hcz13_0, hcz13_1, hcz13_2, hfz13_0⟩ := y3 w11 BK103.out) | ((with_reducible refine gate_callee (f := 57) rfl ?_); refine goesL_ (some 19) rfl rfl Try.func57 (by kernel_rfl) rfl #[.agg #[.int .i64 ((rd_T95 l0 x12_1).f0.f0), .int .i64 ((rd_T95 l0 x12_1).f0.f1)], .int .i64 a1] rfl MT ?_; (with_reducible refine (impl_Block_has.calls ((rd_T95 l0 x12_1).f0.f0) ((rd_T95 l0 x12_1).f0.f1) a1 true _ A8.out).mono ?_); rintro e w14 ⟨rfl, hb⟩; refine ⟨_, rfl, ?_⟩; replace BK101 := am (blk_below (g := gb101) (o := .cells #[.int .i64 x102000_1, .int .i64 x102001_1, .int .i64 x102002_1] 95 (0, 0)) (by (with_reducible repeat (first | refine blk_drewN ?_ _ | refine blk_drew ?_ | refine blk_alloc ?_ _)); refine blk_far ?_ NB101_103.out _; (with_reducible repeat (first | refine blk_drewN ?_ _ | refine blk_drew ?_ | refine blk_alloc ?_ _)); refine blk_far ?_ NB101_103.out _; (with_reducible repeat (first | refine blk_drewN ?_ _ | refine blk_drew ?_ | refine blk_alloc ?_ _)); refine blk_far ?_ NB101_103.out _; (with_reducible repeat (first | refine blk_drewN ?_ _ | refine blk_drew ?_ | refine blk_alloc ?_ _)); exact BK101.out) hb); replace BK103 := am (blk_below (g := gb103) (o := .cells #[.int .i64 ((rd_T95 l0 x12_1).f0.f0), .int .i64 ((rd_T95 l0 x12_1).f0.f1), .int .i64 ((rd_T95 l0 x12_1).f1)] 95 (0, 0)) (by (with_reducible repeat (first | refine blk_drewN ?_ _ | refine blk_drew ?_ | refine blk_alloc ?_ _)); refine blk_put (cs := #[.int .i64 ((rd_T95 l0 x12_1).f0.f0), .int .i64 ((rd_T95 l0 x12_1).f0.f1), .int .i64 0]) ?_ 2 _ rfl; (with_reducible repeat (first | refine blk_drewN ?_ _ | refine blk_drew ?_ | refine blk_alloc ?_ _)); refine blk_put (cs := #[.int .i64 ((rd_T95 l0 x12_1).f0.f0), .int .i64 0, .int .i64 0]) ?_ 1 _ rfl; (with_reducible repeat (first | refine blk_drewN ?_ _ | refine blk_drew ?_ | refine blk_alloc ?_ _)); refine blk_put (cs := #[.int .i64 0, .int .i64 0, .int .i64 0]) ?_ 0 _ rfl; (with_reducible repeat (first | refine blk_drewN ?_ _ | refine blk_drew ?_ | refine blk_alloc ?_ _)); exact BK103.out) hb); replace HB := am (below_step (K2 HB GE101.out GE103.out) hb); (try clear hb); (try clear hb2); (try clear hk); (try clear hi); obtain ⟨hcz15_0, hcz15_1, hcz15_2, hfz15_0⟩ := y3 w14 BK103.out; obtain ⟨hcz16_0, hcz16_1, hcz16_2, hfz16_0⟩ := y3 w14 BK101.out))
        go_roundg k1
        case measure => have := HK1.out; omega
        case rel => exact ⟨(wrap64 (x12_1 + 1)), ((rd_T95 l0 x12_1).f0.f0), ((rd_T95 l0 x12_1).f0.f1), ((rd_T95 l0 x12_1).f1), (by first | rfl | (simp; done) | (simp [*]; done)), H', ⟨by have := HK1.out; omega⟩, ⟨by (with_reducible repeat (first | refine blk_drewN ?_ _ | refine blk_drew ?_ | refine blk_alloc ?_ _)); refine blk_put (cs := #[.int .i64 ((rd_T95 l0 x12_1).f0.f0), .int .i64 ((rd_T95 l0 x12_1).f0.f1), .int .i64 x102002_1]) ?_ 2 _ rfl; (with_reducible repeat (first | refine blk_drewN ?_ _ | refine blk_drew ?_ | refine blk_alloc ?_ _)); refine blk_put (cs := #[.int .i64 ((rd_T95 l0 x12_1).f0.f0), .int .i64 x102001_1, .int .i64 x102002_1]) ?_ 1 _ rfl; (with_reducible repeat (first | refine blk_drewN ?_ _ | refine blk_drew ?_ | refine blk_alloc ?_ _)); refine blk_put (cs := #[.int .i64 x102000_1, .int .i64 x102001_1, .int .i64 x102002_1]) ?_ 0 _ rfl; (with_reducible repeat (first | refine blk_drewN ?_ _ | refine blk_drew ?_ | refine blk_alloc ?_ _)); exact BK101.out⟩, ⟨K2 HB GE101.out GE103.out⟩⟩
       ·rw [if_neg c10] at H
        have c10b0 : decide (x102001_1 < ((rd_T95 l0 x12_1).f0.f1)) = false := decide_eq_false c10
        clear c10
        have H' := Aside0.mk H
        clear H
        have p102 : 0 ≤ (x12_1 : Int) := OD
        have q102 : x12_1 < (l0.length : Int) := OD
        obtain ⟨ad102, e102, hx102_0, hx102_1, hx102_2⟩ := at_T95 HR0.out x12_1 p102 q102
        cases e102
        replace hx102_0 := CX HB.out hx102_0
        replace hx102_1 := CX HB.out hx102_1
        replace hx102_2 := CX HB.out hx102_2
        replace p102 := eq_true p102
        replace q102 := eq_true q102
        go_wp2_with (first | ((with_reducible refine gate_dst (N := 7) rfl ?_); refine box_event rfl (N := 7) rfl (cs := #[.int .i64 0, .int .i64 0, .int .i64 0]) (t := 95) BX ?_; intro gb103 hg w17 hbox hb; have BK103 := am (hbox); have GW103 := am (GH1 HB GE101.out hg); have GE103 := GW103; replace HB := am (below_step (K1 HB GE101.out) hb); have NB101_103 := am (NL BK101 hg); have NB103_101 := am (NG BK101 hg); replace BK101 := am (BB BK101 hb); clear hb hbox hg; have hnb18 := NB103_101.out; have hnc18 := NB101_103.out; obtain ⟨hcz19_0, hcz19_1, hcz19_2, hfz19_0⟩ := y3 w17 BK103.out) | ((with_reducible refine gate_callee (f := 57) rfl ?_); refine goesL_ (some 19) rfl rfl Try.func57 (by kernel_rfl) rfl #[.agg #[.int .i64 ((rd_T95 l0 x12_1).f0.f0), .int .i64 ((rd_T95 l0 x12_1).f0.f1)], .int .i64 a1] rfl MT ?_; (with_reducible refine (impl_Block_has.calls ((rd_T95 l0 x12_1).f0.f0) ((rd_T95 l0 x12_1).f0.f1) a1 true _ A8.out).mono ?_); rintro e w20 ⟨rfl, hb⟩; refine ⟨_, rfl, ?_⟩; replace BK101 := am (blk_below (g := gb101) (o := .cells #[.int .i64 x102000_1, .int .i64 x102001_1, .int .i64 x102002_1] 95 (0, 0)) (by (with_reducible repeat (first | refine blk_drewN ?_ _ | refine blk_drew ?_ | refine blk_alloc ?_ _)); refine blk_far ?_ NB101_103.out _; (with_reducible repeat (first | refine blk_drewN ?_ _ | refine blk_drew ?_ | refine blk_alloc ?_ _)); refine blk_far ?_ NB101_103.out _; (with_reducible repeat (first | refine blk_drewN ?_ _ | refine blk_drew ?_ | refine blk_alloc ?_ _)); refine blk_far ?_ NB101_103.out _; (with_reducible repeat (first | refine blk_drewN ?_ _ | refine blk_drew ?_ | refine blk_alloc ?_ _)); exact BK101.out) hb); replace BK103 := am (blk_below (g := gb103) (o := .cells #[.int .i64 ((rd_T95 l0 x12_1).f0.f0), .int .i64 ((rd_T95 l0 x12_1).f0.f1), .int .i64 ((rd_T95 l0 x12_1).f1)] 95 (0, 0)) (by (with_reducible repeat (first | refine blk_drewN ?_ _ | refine blk_drew ?_ | refine blk_alloc ?_ _)); refine blk_put (cs := #[.int .i64 ((rd_T95 l0 x12_1).f0.f0), .int .i64 ((rd_T95 l0 x12_1).f0.f1), .int .i64 0]) ?_ 2 _ rfl; (with_reducible repeat (first | refine blk_drewN ?_ _ | refine blk_drew ?_ | refine blk_alloc ?_ _)); refine blk_put (cs := #[.int .i64 ((rd_T95 l0 x12_1).f0.f0), .int .i64 0, .int .i64 0]) ?_ 1 _ rfl; (with_reducible repeat (first | refine blk_drewN ?_ _ | refine blk_drew ?_ | refine blk_alloc ?_ _)); refine blk_put (cs := #[.int .i64 0, .int .i64 0, .int .i64 0]) ?_ 0 _ rfl; (with_reducible repeat (first | refine blk_drewN ?_ _ | refine blk_drew ?_ | refine blk_alloc ?_ _)); exact BK103.out) hb); replace HB := am (below_step (K2 HB GE101.out GE103.out) hb); (try clear hb); (try clear hb2); (try clear hk); (try clear hi); obtain ⟨hcz21_0, hcz21_1, hcz21_2, hfz21_0⟩ := y3 w20 BK103.out; obtain ⟨hcz22_0, hcz22_1, hcz22_2, hfz22_0⟩ := y3 w20 BK101.out))
        go_roundg k1
        case measure => have := HK1.out; omega
        case rel => exact ⟨(wrap64 (x12_1 + 1)), (x102000_1), (x102001_1), (x102002_1), (by first | rfl | (simp; done) | (simp [*]; done)), H', ⟨by have := HK1.out; omega⟩, ⟨KB BK101⟩, ⟨K2 HB GE101.out GE103.out⟩⟩
      ·replace c9 := Bool.eq_false_iff.mpr c9
       subst c9
       have H1 : (impl_lead.l0 k1 a1 l0 (l0.length : Int) (wrap64 (x12_1 + 1)) x102000_1 x102001_1 x102002_1) = some r := by rw [if_neg (show ¬ (false = true) by decide)] at H; exact H
       clear H
       have H := H1
       clear H1
       have H' := Aside0.mk H
       clear H
       have p102 : 0 ≤ (x12_1 : Int) := OD
       have q102 : x12_1 < (l0.length : Int) := OD
       obtain ⟨ad102, e102, hx102_0, hx102_1, hx102_2⟩ := at_T95 HR0.out x12_1 p102 q102
       cases e102
       replace hx102_0 := CX HB.out hx102_0
       replace hx102_1 := CX HB.out hx102_1
       replace hx102_2 := CX HB.out hx102_2
       replace p102 := eq_true p102
       replace q102 := eq_true q102
       go_wp2_with (first | ((with_reducible refine gate_dst (N := 7) rfl ?_); refine box_event rfl (N := 7) rfl (cs := #[.int .i64 0, .int .i64 0, .int .i64 0]) (t := 95) BX ?_; intro gb103 hg w23 hbox hb; have BK103 := am (hbox); have GW103 := am (GH1 HB GE101.out hg); have GE103 := GW103; replace HB := am (below_step (K1 HB GE101.out) hb); have NB101_103 := am (NL BK101 hg); have NB103_101 := am (NG BK101 hg); replace BK101 := am (BB BK101 hb); clear hb hbox hg; have hnb24 := NB103_101.out; have hnc24 := NB101_103.out; obtain ⟨hcz25_0, hcz25_1, hcz25_2, hfz25_0⟩ := y3 w23 BK103.out) | ((with_reducible refine gate_callee (f := 57) rfl ?_); refine goesL_ (some 19) rfl rfl Try.func57 (by kernel_rfl) rfl #[.agg #[.int .i64 ((rd_T95 l0 x12_1).f0.f0), .int .i64 ((rd_T95 l0 x12_1).f0.f1)], .int .i64 a1] rfl MT ?_; (with_reducible refine (impl_Block_has.calls ((rd_T95 l0 x12_1).f0.f0) ((rd_T95 l0 x12_1).f0.f1) a1 false _ A8.out).mono ?_); rintro e w26 ⟨rfl, hb⟩; refine ⟨_, rfl, ?_⟩; replace BK101 := am (blk_below (g := gb101) (o := .cells #[.int .i64 x102000_1, .int .i64 x102001_1, .int .i64 x102002_1] 95 (0, 0)) (by (with_reducible repeat (first | refine blk_drewN ?_ _ | refine blk_drew ?_ | refine blk_alloc ?_ _)); refine blk_far ?_ NB101_103.out _; (with_reducible repeat (first | refine blk_drewN ?_ _ | refine blk_drew ?_ | refine blk_alloc ?_ _)); refine blk_far ?_ NB101_103.out _; (with_reducible repeat (first | refine blk_drewN ?_ _ | refine blk_drew ?_ | refine blk_alloc ?_ _)); refine blk_far ?_ NB101_103.out _; (with_reducible repeat (first | refine blk_drewN ?_ _ | refine blk_drew ?_ | refine blk_alloc ?_ _)); exact BK101.out) hb); replace BK103 := am (blk_below (g := gb103) (o := .cells #[.int .i64 ((rd_T95 l0 x12_1).f0.f0), .int .i64 ((rd_T95 l0 x12_1).f0.f1), .int .i64 ((rd_T95 l0 x12_1).f1)] 95 (0, 0)) (by (with_reducible repeat (first | refine blk_drewN ?_ _ | refine blk_drew ?_ | refine blk_alloc ?_ _)); refine blk_put (cs := #[.int .i64 ((rd_T95 l0 x12_1).f0.f0), .int .i64 ((rd_T95 l0 x12_1).f0.f1), .int .i64 0]) ?_ 2 _ rfl; (with_reducible repeat (first | refine blk_drewN ?_ _ | refine blk_drew ?_ | refine blk_alloc ?_ _)); refine blk_put (cs := #[.int .i64 ((rd_T95 l0 x12_1).f0.f0), .int .i64 0, .int .i64 0]) ?_ 1 _ rfl; (with_reducible repeat (first | refine blk_drewN ?_ _ | refine blk_drew ?_ | refine blk_alloc ?_ _)); refine blk_put (cs := #[.int .i64 0, .int .i64 0, .int .i64 0]) ?_ 0 _ rfl; (with_reducible repeat (first | refine blk_drewN ?_ _ | refine blk_drew ?_ | refine blk_alloc ?_ _)); exact BK103.out) hb); replace HB := am (below_step (K2 HB GE101.out GE103.out) hb); (try clear hb); (try clear hb2); (try clear hk); (try clear hi)))
       go_roundg k1
       case measure => have := HK1.out; omega
       case rel => exact ⟨(wrap64 (x12_1 + 1)), (x102000_1), (x102001_1), (x102002_1), (by first | rfl | (simp; done) | (simp [*]; done)), H', ⟨by have := HK1.out; omega⟩, ⟨KB BK101⟩, ⟨K2 HB GE101.out GE103.out⟩⟩
     ·rw [if_neg c7] at H
      exact absurd H (by simp)
    ·rw [if_neg c6] at H
     exact absurd H (by simp)
   ·rw [if_neg c5] at H
    have c5b0 : decide (x12_1 < (l0.length : Int)) = false := decide_eq_false c5
    clear c5
    obtain rfl := Option.some.inj H
    obtain ⟨hcz27_0, hcz27_1, hcz27_2, hfz27_0⟩ := y3 wr BK101.out
    go_wp2
    go_ret
    exact ⟨ER, K1 HB GE101.out⟩
def laws_eqWay.f (a0_0 : Int) (a0_1 : Int) (a0_2 : Int) (a1_0 : Int) (a1_1 : Int) (a1_2 : Int) : Option (Bool) := (laws_eqBlock.f a0_0 a0_1 a1_0 a1_1).bind fun t103 => (if t103 = true then (if a0_2 = a1_2 then (some true) else (some false)) else (some false))
set_option maxHeartbeats 8000000 in
set_option maxRecDepth 100000 in
theorem laws_eqWay.calls (a0_0 : Int) (a0_1 : Int) (a0_2 : Int) (a1_0 : Int) (a1_1 : Int) (a1_2 : Int) (r : Bool) (w : World) (h : laws_eqWay.f a0_0 a0_1 a0_2 a1_0 a1_1 a1_2 = some r) :
  Calls Try.prog 87 #[.agg #[.int .i64 a0_0, .int .i64 a0_1, .int .i64 a0_2], .agg #[.int .i64 a1_0, .int .i64 a1_1, .int .i64 a1_2]] w fun e w' => e = .returned (.bool r) ∧ Below w.heap.size w w' := by
 have hu95 := Try.underlying95
 have hu40 := Try.underlying40
 have HB := am (Below.refl w.heap.size w)
 have H : ((laws_eqBlock.f a0_0 a0_1 a1_0 a1_1).bind fun t103 => (if t103 = true then (if a0_2 = a1_2 then (some true) else (some false)) else (some false))) = some r := h
 clear h
 replace H := Option.bind_eq_some_iff.mp H
 obtain ⟨t103, A30, H⟩ := H
 replace H : (if t103 = true then (if a0_2 = a1_2 then (some true) else (some false)) else (some false)) = some r := H
 have A3 := Aside0.mk A30
 clear A30
 by_cases c4 : t103 = true
 ·subst c4
  have H1 : (if a0_2 = a1_2 then (some true) else (some false)) = some r := by rw [if_pos rfl] at H; exact H
  clear H
  have H := H1
  clear H1
  by_cases c5 : a0_2 = a1_2
  ·rw [if_pos c5] at H
   have c5b0 : (a0_2 == a1_2) = true := beq_iff_eq.mpr c5
   have c5b1 : (a0_2 != a1_2) = false := bne_eq_false_iff_eq.mpr c5
   clear c5
   obtain rfl := Option.some.inj H
   go_enter Try.func87, Try.ntmps87
   go_wp2_with (first | ((with_reducible refine gate_dst (N := 2) rfl ?_); refine box_event rfl (N := 2) rfl (cs := #[.int .i64 a0_0, .int .i64 a0_1, .int .i64 a0_2]) (t := 95) BX ?_; intro gb101 hg w6 hbox hb; have BK101 := am (hbox); have GW101 := am (GH HB hg); have GE101 := GW101; replace HB := am (below_step (KL HB) hb); clear hb hbox hg) | ((with_reducible refine gate_dst (N := 3) rfl ?_); refine box_event rfl (N := 3) rfl (cs := #[.int .i64 a1_0, .int .i64 a1_1, .int .i64 a1_2]) (t := 95) BX ?_; intro gb102 hg w7 hbox hb; have BK102 := am (hbox); have GW102 := am (GH1 HB GE101.out hg); have GE102 := GW102; replace HB := am (below_step (K1 HB GE101.out) hb); have NB101_102 := am (NL BK101 hg); have NB102_101 := am (NG BK101 hg); replace BK101 := am (BB BK101 hb); clear hb hbox hg; have hnb8 := NB101_102.out; have hnc8 := NB102_101.out; obtain ⟨hcz9_0, hcz9_1, hcz9_2, hfz9_0⟩ := y3 w7 BK101.out; obtain ⟨hcz10_0, hcz10_1, hcz10_2, hfz10_0⟩ := y3 w7 BK102.out) | ((with_reducible refine gate_callee (f := 61) rfl ?_); refine goesL_ (some 9) rfl rfl Try.func61 (by kernel_rfl) rfl #[.agg #[.int .i64 a0_0, .int .i64 a0_1], .agg #[.int .i64 a1_0, .int .i64 a1_1]] rfl MT ?_; (with_reducible refine (laws_eqBlock.calls a0_0 a0_1 a1_0 a1_1 true _ A3.out).mono ?_); rintro e w11 ⟨rfl, hb⟩; refine ⟨_, rfl, ?_⟩; replace BK101 := am (BB BK101 hb); replace BK102 := am (BB BK102 hb); replace HB := am (below_step (K2 HB GE101.out GE102.out) hb); (try clear hb); obtain ⟨hcz12_0, hcz12_1, hcz12_2, hfz12_0⟩ := y3 w11 BK101.out; obtain ⟨hcz13_0, hcz13_1, hcz13_2, hfz13_0⟩ := y3 w11 BK102.out))
   go_ret
   exact ⟨ER, K2 HB GE101.out GE102.out⟩
  ·rw [if_neg c5] at H
   have c5b0 : (a0_2 == a1_2) = false := beq_eq_false_iff_ne.mpr c5
   have c5b1 : (a0_2 != a1_2) = true := bne_iff_ne.mpr c5
   obtain rfl := Option.some.inj H
   go_enter Try.func87, Try.ntmps87
   go_wp2_with (first | ((with_reducible refine gate_dst (N := 2) rfl ?_); refine box_event rfl (N := 2) rfl (cs := #[.int .i64 a0_0, .int .i64 a0_1, .int .i64 a0_2]) (t := 95) BX ?_; intro gb101 hg w14 hbox hb; have BK101 := am (hbox); have GW101 := am (GH HB hg); have GE101 := GW101; replace HB := am (below_step (KL HB) hb); clear hb hbox hg) | ((with_reducible refine gate_dst (N := 3) rfl ?_); refine box_event rfl (N := 3) rfl (cs := #[.int .i64 a1_0, .int .i64 a1_1, .int .i64 a1_2]) (t := 95) BX ?_; intro gb102 hg w15 hbox hb; have BK102 := am (hbox); have GW102 := am (GH1 HB GE101.out hg); have GE102 := GW102; replace HB := am (below_step (K1 HB GE101.out) hb); have NB101_102 := am (NL BK101 hg); have NB102_101 := am (NG BK101 hg); replace BK101 := am (BB BK101 hb); clear hb hbox hg; have hnb16 := NB101_102.out; have hnc16 := NB102_101.out; obtain ⟨hcz17_0, hcz17_1, hcz17_2, hfz17_0⟩ := y3 w15 BK101.out; obtain ⟨hcz18_0, hcz18_1, hcz18_2, hfz18_0⟩ := y3 w15 BK102.out) | ((with_reducible refine gate_callee (f := 61) rfl ?_); refine goesL_ (some 9) rfl rfl Try.func61 (by kernel_rfl) rfl #[.agg #[.int .i64 a0_0, .int .i64 a0_1], .agg #[.int .i64 a1_0, .int .i64 a1_1]] rfl MT ?_; (with_reducible refine (laws_eqBlock.calls a0_0 a0_1 a1_0 a1_1 true _ A3.out).mono ?_); rintro e w19 ⟨rfl, hb⟩; refine ⟨_, rfl, ?_⟩; replace BK101 := am (BB BK101 hb); replace BK102 := am (BB BK102 hb); replace HB := am (below_step (K2 HB GE101.out GE102.out) hb); (try clear hb); obtain ⟨hcz20_0, hcz20_1, hcz20_2, hfz20_0⟩ := y3 w19 BK101.out; obtain ⟨hcz21_0, hcz21_1, hcz21_2, hfz21_0⟩ := y3 w19 BK102.out))
   go_ret
   exact ⟨ER, K2 HB GE101.out GE102.out⟩
 ·replace c4 := Bool.eq_false_iff.mpr c4
  subst c4
  have H1 : (some false) = some r := by rw [if_neg (show ¬ (false = true) by decide)] at H; exact H
  clear H
  have H := H1
  clear H1
  obtain rfl := Option.some.inj H
  go_enter Try.func87, Try.ntmps87
  go_wp2_with (first | ((with_reducible refine gate_dst (N := 2) rfl ?_); refine box_event rfl (N := 2) rfl (cs := #[.int .i64 a0_0, .int .i64 a0_1, .int .i64 a0_2]) (t := 95) BX ?_; intro gb101 hg w22 hbox hb; have BK101 := am (hbox); have GW101 := am (GH HB hg); have GE101 := GW101; replace HB := am (below_step (KL HB) hb); clear hb hbox hg) | ((with_reducible refine gate_dst (N := 3) rfl ?_); refine box_event rfl (N := 3) rfl (cs := #[.int .i64 a1_0, .int .i64 a1_1, .int .i64 a1_2]) (t := 95) BX ?_; intro gb102 hg w23 hbox hb; have BK102 := am (hbox); have GW102 := am (GH1 HB GE101.out hg); have GE102 := GW102; replace HB := am (below_step (K1 HB GE101.out) hb); have NB101_102 := am (NL BK101 hg); have NB102_101 := am (NG BK101 hg); replace BK101 := am (BB BK101 hb); clear hb hbox hg; have hnb24 := NB101_102.out; have hnc24 := NB102_101.out; obtain ⟨hcz25_0, hcz25_1, hcz25_2, hfz25_0⟩ := y3 w23 BK101.out; obtain ⟨hcz26_0, hcz26_1, hcz26_2, hfz26_0⟩ := y3 w23 BK102.out) | ((with_reducible refine gate_callee (f := 61) rfl ?_); refine goesL_ (some 9) rfl rfl Try.func61 (by kernel_rfl) rfl #[.agg #[.int .i64 a0_0, .int .i64 a0_1], .agg #[.int .i64 a1_0, .int .i64 a1_1]] rfl MT ?_; (with_reducible refine (laws_eqBlock.calls a0_0 a0_1 a1_0 a1_1 false _ A3.out).mono ?_); rintro e w27 ⟨rfl, hb⟩; refine ⟨_, rfl, ?_⟩; replace BK101 := am (BB BK101 hb); replace BK102 := am (BB BK102 hb); replace HB := am (below_step (K2 HB GE101.out GE102.out) hb); (try clear hb)))
  go_ret
  exact ⟨ER, K2 HB GE101.out GE102.out⟩
def laws_eqWayS.l0 : Nat → List (S95) → List (S95) → Int → Option (Bool)
 | 0, _, _, _ => none
 | k + 1, x0, x1, x5 => if x5 < (x0.length : Int) then (if 0 ≤ x5 then (if x5 < (x1.length : Int) then ((laws_eqWay.f ((rd_T95 x0 x5).f0.f0) ((rd_T95 x0 x5).f0.f1) ((rd_T95 x0 x5).f1) ((rd_T95 x1 x5).f0.f0) ((rd_T95 x1 x5).f0.f1) ((rd_T95 x1 x5).f1)).bind fun t103 => (if t103 = true then (laws_eqWayS.l0 k x0 x1 (wrap64 (x5 + 1))) else (some false))) else (none)) else (none)) else (some true)
def laws_eqWayS.f (k : Nat) (l0 : List (S95)) (l1 : List (S95)) : Option (Bool) := if (l0.length : Int) = (l1.length : Int) then (laws_eqWayS.l0 k l0 l1 0) else (some false)
def laws_eqWayS.T6 : Bool × List (List Nat × List Nat) := (true, [([], []), ([], []), ([0, 1], [0, 1]), ([2], [2]), ([], []), ([], []), ([4, 5], [4, 5]), ([6], [6]), ([3, 7], [3, 7]), ([8], [8])])
def laws_eqWayS.B6 : List Nat := [0, 0, 3, 7, 0, 0, 48, 112, 255, 511]
theorem laws_eqWayS.tab6 : rtab .any (opsOf Try.f38 6) = laws_eqWayS.T6 := by kernel_rfl
theorem laws_eqWayS.bits6 : waitsOk laws_eqWayS.T6.2 laws_eqWayS.B6 = true := by kernel_rfl
set_option maxHeartbeats 8000000 in
set_option maxRecDepth 100000 in
theorem laws_eqWayS.calls (k : Nat) (A0 : Option Addr) (c0 : Nat) (l0 : List (S95)) (A1 : Option Addr) (c1 : Nat) (l1 : List (S95)) (r : Bool) (w : World) (hr0 : Kd.C k95 w A0 l0.length l0) (hc0 : l0.length ≤ c0) (hr1 : Kd.C k95 w A1 l1.length l1) (hc1 : l1.length ≤ c1) (h : laws_eqWayS.f k l0 l1 = some r) :
  Calls Try.prog 38 #[.slice A0 l0.length c0, .slice A1 l1.length c1] w fun e w' => e = .returned (.bool r) ∧ Below w.heap.size w w' := by
 have hu95 := Try.underlying95
 have HR0 := Aside0.mk hr0
 have HC0 := Aside0.mk hc0
 clear hr0 hc0
 have HR1 := Aside0.mk hr1
 have HC1 := Aside0.mk hc1
 clear hr1 hc1
 have HB := am (Below.refl w.heap.size w)
 have H : (if (l0.length : Int) = (l1.length : Int) then (laws_eqWayS.l0 k l0 l1 0) else (some false)) = some r := h
 clear h
 by_cases c3 : (l0.length : Int) = (l1.length : Int)
 ·rw [if_pos c3] at H
  have c3b0 : ((l0.length : Int) == (l1.length : Int)) = true := beq_iff_eq.mpr c3
  have c3b1 : ((l0.length : Int) != (l1.length : Int)) = false := bne_eq_false_iff_eq.mpr c3
  have c3b2 : (l0.length == l1.length) = true := by first | simpa using c3 | (simp at c3 ⊢; omega)
  clear c3
  have H' := Aside0.mk H
  clear H
  go_enter Try.func38, Try.ntmps38
  go_wp2
  go_loopg [5] k (fun kq v5 w' => ∃ (x5_1 : Int), v5 = .int .i64 x5_1 ∧ Aside0 (laws_eqWayS.l0 kq l0 l1 x5_1 = some r) ∧ Aside0 (kq ≤ k) ∧ Aside0 (Below w.heap.size w w'))
  case atStart => exact ⟨(0), (by first | rfl | (simp; done) | (simp [*]; done)), H', ⟨Nat.le_refl _⟩, ⟨KL HB⟩⟩
  case round =>
   clear H'
   try clear c1
   try clear p2
   try clear c3
   try clear c3b0
   try clear c3b1
   try clear c3b2
   obtain ⟨x5_1, rfl, HA, HK1, HB⟩ := hrel
   cases gk with
   | zero => exact absurd HA.out (by simp [laws_eqWayS.l0])
   | succ k1 =>
    have H := HA.out
    clear HA
    simp only [laws_eqWayS.l0] at H
    by_cases c4 : x5_1 < (l0.length : Int)
    ·rw [if_pos c4] at H
     have c4b0 : decide (x5_1 < (l0.length : Int)) = true := decide_eq_true c4
     clear c4
     by_cases c5 : 0 ≤ x5_1
     ·rw [if_pos c5] at H
      have c5b0 : decide (0 ≤ x5_1) = true := decide_eq_true c5
      clear c5
      by_cases c6 : x5_1 < (l1.length : Int)
      ·rw [if_pos c6] at H
       have c6b0 : decide (x5_1 < (l1.length : Int)) = true := decide_eq_true c6
       clear c6
       replace H := Option.bind_eq_some_iff.mp H
       obtain ⟨t103, A70, H⟩ := H
       replace H : (if t103 = true then (laws_eqWayS.l0 k1 l0 l1 (wrap64 (x5_1 + 1))) else (some false)) = some r := H
       have A7 := Aside0.mk A70
       clear A70
       by_cases c8 : t103 = true
       ·subst c8
        have H1 : (laws_eqWayS.l0 k1 l0 l1 (wrap64 (x5_1 + 1))) = some r := by rw [if_pos rfl] at H; exact H
        clear H
        have H := H1
        clear H1
        have H' := Aside0.mk H
        clear H
        try go_wp2
        replace HB := am (below_drew1 HB.out)
        have p101 : 0 ≤ (x5_1 : Int) := OD
        have q101 : x5_1 < (l0.length : Int) := OD
        obtain ⟨ad101, e101, hx101_0, hx101_1, hx101_2⟩ := at_T95 HR0.out x5_1 p101 q101
        have hw101_2 := hx101_2
        have hw101_1 := hx101_1
        have hw101_0 := hx101_0
        cases e101
        replace hx101_0 := CX HB.out hx101_0
        replace hx101_1 := CX HB.out hx101_1
        replace hx101_2 := CX HB.out hx101_2
        replace p101 := eq_true p101
        replace q101 := eq_true q101
        have p102 : 0 ≤ (x5_1 : Int) := OD
        have q102 : x5_1 < (l1.length : Int) := OD
        obtain ⟨ad102, e102, hx102_0, hx102_1, hx102_2⟩ := at_T95 HR1.out x5_1 p102 q102
        have hw102_2 := hx102_2
        have hw102_1 := hx102_1
        have hw102_0 := hx102_0
        cases e102
        replace hx102_0 := CX HB.out hx102_0
        replace hx102_1 := CX HB.out hx102_1
        replace hx102_2 := CX HB.out hx102_2
        replace p102 := eq_true p102
        replace q102 := eq_true q102
        refine start_ (n := 10) (S := fun w' => w'.cell? (ad101.add ((x5_1).toNat * 3)) = some (.int .i64 ((rd_T95 l0 x5_1).f0.f0)) ∧ w'.cell? ⟨(ad101.add ((x5_1).toNat * 3)).block, (ad101.add ((x5_1).toNat * 3)).off + 1, none⟩ = some (.int .i64 ((rd_T95 l0 x5_1).f0.f1)) ∧ w'.cell? ⟨(ad101.add ((x5_1).toNat * 3)).block, (ad101.add ((x5_1).toNat * 3)).off + 2, none⟩ = some (.int .i64 ((rd_T95 l0 x5_1).f1)) ∧ w'.cell? (ad102.add ((x5_1).toNat * 3)) = some (.int .i64 ((rd_T95 l1 x5_1).f0.f0)) ∧ w'.cell? ⟨(ad102.add ((x5_1).toNat * 3)).block, (ad102.add ((x5_1).toNat * 3)).off + 1, none⟩ = some (.int .i64 ((rd_T95 l1 x5_1).f0.f1)) ∧ w'.cell? ⟨(ad102.add ((x5_1).toNat * 3)).block, (ad102.add ((x5_1).toNat * 3)).off + 2, none⟩ = some (.int .i64 ((rd_T95 l1 x5_1).f1))) (ds := []) (tf 0 10) (by kernel_rfl) rfl rfl ⟨(CY HB.out hw101_0), (CY HB.out hw101_1), (CY HB.out hw101_2), (CY HB.out hw102_0), (CY HB.out hw102_1), (CY HB.out hw102_2)⟩ (fun hHeld => ?_); refine with_tabW laws_eqWayS.tab6 laws_eqWayS.bits6 (fun HT_ HW_ => ?_)
        generalize wr.drew = w9 at HB hx101_0 hx101_1 hx101_2 hx102_0 hx102_1 hx102_2 hHeld ⊢
        refine pv HT_ 0 17 (tf 1 9) ?_
        refine pv HT_ 1 18 (tf 2 8) ?_
        refine pv HT_ 2 19 (tf 3 7) ?_
        refine pv HT_ 4 21 (tr [3, 1, 1, 5]) ?_
        refine pv HT_ 5 22 (tr [3, 1, 2, 4]) ?_
        refine pv HT_ 6 23 (tr [3, 1, 3, 3]) ?_
        refine tk 3 (some 20) (tf 7 3) (take_ofW HT_.out HW_.out (by kernel_rfl)) hHeld ?_
        refine tk 7 (some 24) (tf 8 2) (take_ofW HT_.out HW_.out (by kernel_rfl)) hHeld ?_
        refine one_ (i := 8) (N := some 25) (tf 9 1) rfl rfl (one_of HT_.out (by kernel_rfl)) (by decide) (fun K hK => ?_)
        refine goes_ Try.func87 (by kernel_rfl) rfl #[.agg #[.int .i64 ((rd_T95 l0 x5_1).f0.f0), .int .i64 ((rd_T95 l0 x5_1).f0.f1), .int .i64 ((rd_T95 l0 x5_1).f1)], .agg #[.int .i64 ((rd_T95 l1 x5_1).f0.f0), .int .i64 ((rd_T95 l1 x5_1).f0.f1), .int .i64 ((rd_T95 l1 x5_1).f1)]] (by rfl) rfl rfl MT ?_
        with_reducible refine (laws_eqWay.calls ((rd_T95 l0 x5_1).f0.f0) ((rd_T95 l0 x5_1).f0.f1) ((rd_T95 l0 x5_1).f1) ((rd_T95 l1 x5_1).f0.f0) ((rd_T95 l1 x5_1).f0.f1) ((rd_T95 l1 x5_1).f1) true _ A7.out).mono ?_
        rintro e w10 ⟨rfl, hb⟩
        refine ⟨_, rfl, ?_⟩
        replace HB := am (below_step (KL HB) hb)
        (try clear hb)
        (try clear hb2)
        (try clear hk)
        (try clear hi)
        refine hK.out _ _ ⟨(CY HB.out hw101_0), (CY HB.out hw101_1), (CY HB.out hw101_2), (CY HB.out hw102_0), (CY HB.out hw102_1), (CY HB.out hw102_2)⟩ (fun hHeld => ?_)
        clear hK K
        refine norm_ (a' := ?_) ?_ ?_
        rotate_left
        ·show Act.put _ (some 25) _ = _
         simp only [Act.put, List.setIfInBounds_toArray, List.set_cons_zero, List.set_cons_succ, i64_w, i32_w]
         rfl
        refine pv HT_ 9 26 (tf 10 0) ?_
        refine done_ (done_of HT_.out (by kernel_rfl)) ?_
        try go_wp2
        go_roundg k1
        case measure => have := HK1.out; omega
        case rel => exact ⟨(wrap64 (x5_1 + 1)), (by first | rfl | (simp; done) | (simp [*]; done)), H', ⟨by have := HK1.out; omega⟩, ⟨KL HB⟩⟩
       ·replace c8 := Bool.eq_false_iff.mpr c8
        subst c8
        have H1 : (some false) = some r := by rw [if_neg (show ¬ (false = true) by decide)] at H; exact H
        clear H
        have H := H1
        clear H1
        obtain rfl := Option.some.inj H
        try go_wp2
        replace HB := am (below_drew1 HB.out)
        have p101 : 0 ≤ (x5_1 : Int) := OD
        have q101 : x5_1 < (l0.length : Int) := OD
        obtain ⟨ad101, e101, hx101_0, hx101_1, hx101_2⟩ := at_T95 HR0.out x5_1 p101 q101
        have hw101_2 := hx101_2
        have hw101_1 := hx101_1
        have hw101_0 := hx101_0
        cases e101
        replace hx101_0 := CX HB.out hx101_0
        replace hx101_1 := CX HB.out hx101_1
        replace hx101_2 := CX HB.out hx101_2
        replace p101 := eq_true p101
        replace q101 := eq_true q101
        have p102 : 0 ≤ (x5_1 : Int) := OD
        have q102 : x5_1 < (l1.length : Int) := OD
        obtain ⟨ad102, e102, hx102_0, hx102_1, hx102_2⟩ := at_T95 HR1.out x5_1 p102 q102
        have hw102_2 := hx102_2
        have hw102_1 := hx102_1
        have hw102_0 := hx102_0
        cases e102
        replace hx102_0 := CX HB.out hx102_0
        replace hx102_1 := CX HB.out hx102_1
        replace hx102_2 := CX HB.out hx102_2
        replace p102 := eq_true p102
        replace q102 := eq_true q102
        refine start_ (n := 10) (S := fun w' => w'.cell? (ad101.add ((x5_1).toNat * 3)) = some (.int .i64 ((rd_T95 l0 x5_1).f0.f0)) ∧ w'.cell? ⟨(ad101.add ((x5_1).toNat * 3)).block, (ad101.add ((x5_1).toNat * 3)).off + 1, none⟩ = some (.int .i64 ((rd_T95 l0 x5_1).f0.f1)) ∧ w'.cell? ⟨(ad101.add ((x5_1).toNat * 3)).block, (ad101.add ((x5_1).toNat * 3)).off + 2, none⟩ = some (.int .i64 ((rd_T95 l0 x5_1).f1)) ∧ w'.cell? (ad102.add ((x5_1).toNat * 3)) = some (.int .i64 ((rd_T95 l1 x5_1).f0.f0)) ∧ w'.cell? ⟨(ad102.add ((x5_1).toNat * 3)).block, (ad102.add ((x5_1).toNat * 3)).off + 1, none⟩ = some (.int .i64 ((rd_T95 l1 x5_1).f0.f1)) ∧ w'.cell? ⟨(ad102.add ((x5_1).toNat * 3)).block, (ad102.add ((x5_1).toNat * 3)).off + 2, none⟩ = some (.int .i64 ((rd_T95 l1 x5_1).f1))) (ds := []) (tf 0 10) (by kernel_rfl) rfl rfl ⟨(CY HB.out hw101_0), (CY HB.out hw101_1), (CY HB.out hw101_2), (CY HB.out hw102_0), (CY HB.out hw102_1), (CY HB.out hw102_2)⟩ (fun hHeld => ?_); refine with_tabW laws_eqWayS.tab6 laws_eqWayS.bits6 (fun HT_ HW_ => ?_)
        generalize wr.drew = w11 at HB hx101_0 hx101_1 hx101_2 hx102_0 hx102_1 hx102_2 hHeld ⊢
        refine pv HT_ 0 17 (tf 1 9) ?_
        refine pv HT_ 1 18 (tf 2 8) ?_
        refine pv HT_ 2 19 (tf 3 7) ?_
        refine pv HT_ 4 21 (tr [3, 1, 1, 5]) ?_
        refine pv HT_ 5 22 (tr [3, 1, 2, 4]) ?_
        refine pv HT_ 6 23 (tr [3, 1, 3, 3]) ?_
        refine tk 3 (some 20) (tf 7 3) (take_ofW HT_.out HW_.out (by kernel_rfl)) hHeld ?_
        refine tk 7 (some 24) (tf 8 2) (take_ofW HT_.out HW_.out (by kernel_rfl)) hHeld ?_
        refine one_ (i := 8) (N := some 25) (tf 9 1) rfl rfl (one_of HT_.out (by kernel_rfl)) (by decide) (fun K hK => ?_)
        refine goes_ Try.func87 (by kernel_rfl) rfl #[.agg #[.int .i64 ((rd_T95 l0 x5_1).f0.f0), .int .i64 ((rd_T95 l0 x5_1).f0.f1), .int .i64 ((rd_T95 l0 x5_1).f1)], .agg #[.int .i64 ((rd_T95 l1 x5_1).f0.f0), .int .i64 ((rd_T95 l1 x5_1).f0.f1), .int .i64 ((rd_T95 l1 x5_1).f1)]] (by rfl) rfl rfl MT ?_
        with_reducible refine (laws_eqWay.calls ((rd_T95 l0 x5_1).f0.f0) ((rd_T95 l0 x5_1).f0.f1) ((rd_T95 l0 x5_1).f1) ((rd_T95 l1 x5_1).f0.f0) ((rd_T95 l1 x5_1).f0.f1) ((rd_T95 l1 x5_1).f1) false _ A7.out).mono ?_
        rintro e w12 ⟨rfl, hb⟩
        refine ⟨_, rfl, ?_⟩
        replace HB := am (below_step (KL HB) hb)
        (try clear hb)
        (try clear hb2)
        (try clear hk)
        (try clear hi)
        refine hK.out _ _ ⟨(CY HB.out hw101_0), (CY HB.out hw101_1), (CY HB.out hw101_2), (CY HB.out hw102_0), (CY HB.out hw102_1), (CY HB.out hw102_2)⟩ (fun hHeld => ?_)
        clear hK K
        refine norm_ (a' := ?_) ?_ ?_
        rotate_left
        ·show Act.put _ (some 25) _ = _
         simp only [Act.put, List.setIfInBounds_toArray, List.set_cons_zero, List.set_cons_succ, i64_w, i32_w]
         rfl
        refine pv HT_ 9 26 (tf 10 0) ?_
        refine done_ (done_of HT_.out (by kernel_rfl)) ?_
        try go_wp2
        go_ret
        exact ⟨ER, KL HB⟩
      ·rw [if_neg c6] at H
       exact absurd H (by simp)
     ·rw [if_neg c5] at H
      exact absurd H (by simp)
    ·rw [if_neg c4] at H
     have c4b0 : decide (x5_1 < (l0.length : Int)) = false := decide_eq_false c4
     clear c4
     obtain rfl := Option.some.inj H
     go_wp2
     go_ret
     exact ⟨ER, KL HB⟩
 ·rw [if_neg c3] at H
  have c3b0 : ((l0.length : Int) == (l1.length : Int)) = false := beq_eq_false_iff_ne.mpr c3
  have c3b1 : ((l0.length : Int) != (l1.length : Int)) = true := bne_iff_ne.mpr c3
  have c3b2 : (l0.length == l1.length) = false := by first | simpa using c3 | (simp at c3 ⊢; omega)
  obtain rfl := Option.some.inj H
  go_enter Try.func38, Try.ntmps38
  go_wp2
  go_ret
  exact ⟨ER, KL HB⟩
def laws_markWayS.l0 : Nat → List (S95) → Int → Int → Option (Int × (List (S95)))
 | 0, _, _, _ => none
 | k + 1, x0, x1, x5 => if x5 < (x0.length : Int) then (if 0 ≤ x5 then ((some (x0.set (x5 : Int).toNat (⟨(⟨x1, (rd_T95 x0 x5).f0.f1⟩ : S40), (rd_T95 x0 x5).f1⟩ : S95) : List (S95))).bind fun y101 => ((some (y101.set (x5 : Int).toNat (⟨(⟨(rd_T95 y101 x5).f0.f0, wrap64 (x1 + 1)⟩ : S40), (rd_T95 y101 x5).f1⟩ : S95) : List (S95))).bind fun y102 => (laws_markWayS.l0 k (y102.set (x5 : Int).toNat (⟨(⟨(rd_T95 y102 x5).f0.f0, (rd_T95 y102 x5).f0.f1⟩ : S40), wrap64 ((wrap64 (x1 + 1)) + 1)⟩ : S95)) (wrap64 ((wrap64 ((wrap64 (x1 + 1)) + 1)) + 1)) (wrap64 (x5 + 1))))) else (none)) else (some (x1, x0))
def laws_markWayS.f (k : Nat) (l0 : List (S95)) (a1 : Int) : Option (Int × (List (S95))) := laws_markWayS.l0 k l0 a1 0
set_option maxHeartbeats 8000000 in
set_option maxRecDepth 100000 in
theorem laws_markWayS.calls (k : Nat) (P0_ : Nat → Prop) (u9000_ : Value) (l0 : List (S95)) (a1 : Int) (r1 : Int) (r2 : List (S95)) (w0 w : World) (hB : Below w0.heap.size w0 w) (ho0 : Kd.R k95 95 w w0.heap.size P0_ u9000_ l0) (h : laws_markWayS.f k l0 a1 = some (r1, r2)) :
  Calls Try.prog 39 #[u9000_, .int .i64 a1] w fun e w' => e = .returned (.int .i64 r1) ∧ Kd.R k95 95 w' w0.heap.size (fun k_ => (P0_ k_ ∨ w.heap.size ≤ k_)) u9000_ r2 ∧ Below w0.heap.size w0 w' ∧ Kept w w' (fun k_ => P0_ k_) := by
 have HO0 := am (show Kd.R k95 95 w w0.heap.size (fun k_ => (P0_ k_ ∨ w.heap.size ≤ k_)) u9000_ l0 from Kd.R_mono ho0 (fun k_ hk => (.inl hk)))
 have HK := am (Kept.refl w (fun k_ => P0_ k_))
 have HW0 := Aside0.mk hB.size
 have HB := Aside0.mk hB
 clear hB
 have H : (laws_markWayS.l0 k l0 a1 0) = some (r1, r2) := h
 clear h
 have H' := Aside0.mk H
 clear H
 go_enter Try.func39, Try.ntmps39
 go_wp2
 go_loopg [1, 5] k (fun kq v1 v5 w' => ∃ (x0_1 : List (S95)) (x1_1 : Int) (x5_1 : Int), v1 = .int .i64 x1_1 ∧ v5 = .int .i64 x5_1 ∧ Aside0 (laws_markWayS.l0 kq x0_1 x1_1 x5_1 = some (r1, r2)) ∧ Aside0 (kq ≤ k) ∧ Aside0 (Kd.R k95 95 w' w0.heap.size (fun k_ => (P0_ k_ ∨ w.heap.size ≤ k_)) u9000_ x0_1) ∧ Aside0 (Kept w w' (fun k_ => P0_ k_)) ∧ Aside0 (Below w0.heap.size w0 w'))
 case atStart => exact ⟨(l0), (a1), (0), (by first | rfl | (simp; done) | (simp [*]; done)), (by first | rfl | (simp; done) | (simp [*]; done)), H', ⟨Nat.le_refl _⟩, ⟨KR HO0⟩, ⟨by repeat (first | (with_reducible first | exact HK.out | apply Kept.alloc | apply Kept.drewN | apply Kept.drew) | exact HK.out)⟩, ⟨KL HB⟩⟩
 case round =>
  clear H'
  try clear p2
  obtain ⟨x0_1, x1_1, x5_1, rfl, rfl, HA, HK1, HO_0, HK, HB⟩ := hrel
  cases gk with
  | zero => exact absurd HA.out (by simp [laws_markWayS.l0])
  | succ k1 =>
   have H := HA.out
   clear HA
   simp only [laws_markWayS.l0] at H
   by_cases c3 : x5_1 < (x0_1.length : Int)
   ·rw [if_pos c3] at H
    have c3b0 : decide (x5_1 < (x0_1.length : Int)) = true := decide_eq_true c3
    clear c3
    by_cases c4 : 0 ≤ x5_1
    ·rw [if_pos c4] at H
     have c4b0 : decide (0 ≤ x5_1) = true := decide_eq_true c4
     clear c4
     obtain ⟨y101, hy101⟩ : ∃ y_ : List (S95), y_ = (x0_1.set (x5_1 : Int).toNat (⟨(⟨x1_1, (rd_T95 x0_1 x5_1).f0.f1⟩ : S40), (rd_T95 x0_1 x5_1).f1⟩ : S95)) := ⟨_, rfl⟩
     replace H : ((some (y101.set (x5_1 : Int).toNat (⟨(⟨(rd_T95 y101 x5_1).f0.f0, wrap64 (x1_1 + 1)⟩ : S40), (rd_T95 y101 x5_1).f1⟩ : S95) : List (S95))).bind fun y102 => (laws_markWayS.l0 k1 (y102.set (x5_1 : Int).toNat (⟨(⟨(rd_T95 y102 x5_1).f0.f0, (rd_T95 y102 x5_1).f0.f1⟩ : S40), wrap64 ((wrap64 (x1_1 + 1)) + 1)⟩ : S95)) (wrap64 ((wrap64 ((wrap64 (x1_1 + 1)) + 1)) + 1)) (wrap64 (x5_1 + 1)))) = some (r1, r2) := by first | (rw [hy101]; with_reducible exact H) | (have H2_ := (Option.bind_some _ _).symm.trans H; rw [hy101]; with_reducible exact H2_) | (have H2_ := (Option.bind_some _ _).symm.trans H; with_reducible exact H2_) | with_reducible exact H | (rw [hy101]; exact H) | exact H
     have Ny101 := Aside0.mk hy101
     clear hy101
     obtain ⟨y102, hy102⟩ : ∃ y_ : List (S95), y_ = (y101.set (x5_1 : Int).toNat (⟨(⟨(rd_T95 y101 x5_1).f0.f0, wrap64 (x1_1 + 1)⟩ : S40), (rd_T95 y101 x5_1).f1⟩ : S95)) := ⟨_, rfl⟩
     replace H : (laws_markWayS.l0 k1 (y102.set (x5_1 : Int).toNat (⟨(⟨(rd_T95 y102 x5_1).f0.f0, (rd_T95 y102 x5_1).f0.f1⟩ : S40), wrap64 ((wrap64 (x1_1 + 1)) + 1)⟩ : S95)) (wrap64 ((wrap64 ((wrap64 (x1_1 + 1)) + 1)) + 1)) (wrap64 (x5_1 + 1))) = some (r1, r2) := by first | (rw [hy102]; with_reducible exact H) | (have H2_ := (Option.bind_some _ _).symm.trans H; rw [hy102]; with_reducible exact H2_) | (have H2_ := (Option.bind_some _ _).symm.trans H; with_reducible exact H2_) | with_reducible exact H | (rw [hy102]; exact H) | exact H
     have Ny102 := Aside0.mk hy102
     clear hy102
     obtain ⟨y103, hy103⟩ : ∃ y_ : List (S95), y_ = (y102.set (x5_1 : Int).toNat (⟨(⟨(rd_T95 y102 x5_1).f0.f0, (rd_T95 y102 x5_1).f0.f1⟩ : S40), wrap64 ((wrap64 (x1_1 + 1)) + 1)⟩ : S95)) := ⟨_, rfl⟩
     replace H : (laws_markWayS.l0 k1 y103 (wrap64 ((wrap64 ((wrap64 (x1_1 + 1)) + 1)) + 1)) (wrap64 (x5_1 + 1))) = some (r1, r2) := by first | (rw [hy103]; with_reducible exact H) | (have H2_ := (Option.bind_some _ _).symm.trans H; rw [hy103]; with_reducible exact H2_) | (have H2_ := (Option.bind_some _ _).symm.trans H; with_reducible exact H2_) | with_reducible exact H | (rw [hy103]; exact H) | exact H
     have Ny103 := Aside0.mk hy103
     clear hy103
     have H' := Aside0.mk H
     clear H
     obtain ⟨Ao8, co8, eo8⟩ := Kd.R_slice HO_0.out
     subst eo8
     have p5 : 0 ≤ (x5_1 : Int) := OD
     have q5 : (x5_1 : Int) < ((x0_1.length : Int) : Int) := OD
     obtain ⟨go5, co5, eo5, gb5, gl5, cl5, HG5⟩ := Kd.R_form HO_0.out (by omega)
     (first | cases eo5 | (injection eo5 with ea_ en_ ec_; (first | subst ea_ | (injection ea_ with ea_; subst ea_)); subst ec_; clear en_))
     have GB5 := Aside0.mk gb5
     have GG5 := Aside0.mk HG5
     clear gb5 gl5 HG5
     have HMgo5 := am (show (P0_ go5 ∨ w.heap.size ≤ go5) from (HO_0.out.1 _ rfl))
     obtain ⟨ce5, hcl5, hM5, hcc5, hfr5⟩ := Kd.R_elem HO_0.out z95 (x5_1 : Int) p5 q5
     obtain rfl := k95_openM hM5
     have hx5_0 : wr.cell? ⟨go5, (x5_1 : Int).toNat * 3, none⟩ = some (.int .i64 ((rd_T95 x0_1 x5_1).f0.f0)) := hcc5 0 _ rfl
     have hx5_1 : wr.cell? ⟨go5, (x5_1 : Int).toNat * 3 + 1, none⟩ = some (.int .i64 ((rd_T95 x0_1 x5_1).f0.f1)) := hcc5 1 _ rfl
     have hx5_2 : wr.cell? ⟨go5, (x5_1 : Int).toNat * 3 + 2, none⟩ = some (.int .i64 ((rd_T95 x0_1 x5_1).f1)) := hcc5 2 _ rfl
     have hf5_0 : wr.frozen? ⟨go5, (x5_1 : Int).toNat * 3, none⟩ = false := hfr5 0
     have hf5_1 : wr.frozen? ⟨go5, (x5_1 : Int).toNat * 3 + 1, none⟩ = false := hfr5 1
     have hf5_2 : wr.frozen? ⟨go5, (x5_1 : Int).toNat * 3 + 2, none⟩ = false := hfr5 2
     clear hcl5 hcc5 hfr5 hM5
     replace p5 := eq_true p5
     replace q5 := eq_true q5
     have HX9 := am (show Kd.R k95 95 wr w0.heap.size (fun k_ => (P0_ k_ ∨ w.heap.size ≤ k_)) (.slice (some ⟨go5, 0, none⟩) x0_1.length co8) x0_1 from (KR HO_0))
     obtain ⟨ce9, hcl9, hM9, hcc9, hfr9⟩ := Kd.R_elem HX9.out z95 (x5_1 : Int) (OD) (by have h_ : (x5_1 : Int) < ((x0_1.length : Int) : Int) := OD; first | exact h_ | (have e_ := (Kd.R_reads' HO_0.out).1; omega) | simpa using h_)
     obtain rfl := k95_openM hM9
     have HP9 := Kd.R_seg HX9.out (x5_1 : Int) (OD) (by have h_ : (x5_1 : Int) < ((x0_1.length : Int) : Int) := OD; first | exact h_ | (have e_ := (Kd.R_reads' HO_0.out).1; omega) | simpa using h_) (seg := [.int .i64 x1_1]) (j := 0) hcl9 hcc9 (show 1 ≤ 3 from by decide) (x' := (⟨(⟨x1_1, (rd_T95 x0_1 x5_1).f0.f1⟩ : S40), (rd_T95 x0_1 x5_1).f1⟩ : S95)) (k95_mkM _ _ _ (⟨(⟨x1_1, (rd_T95 x0_1 x5_1).f0.f1⟩ : S40), (rd_T95 x0_1 x5_1).f1⟩ : S95) ) (fun _ hk => hk)
     have hx9_0 := hcc9 0 _ rfl
     (try simp only [show (k95).sz = 3 from rfl, Nat.mul_one, Nat.add_zero] at hx9_0)
     have hf9_0 := hfr9 0
     (try simp only [show (k95).sz = 3 from rfl, Nat.mul_one, Nat.add_zero] at hf9_0)
     clear hcl9 hcc9 hfr9 hM9
     go_wp2_with (first | ((with_reducible refine gate_store (t := 3) (p := 17) rfl ?_); refine store_event (t := 3) (p := 17) (v := ?vo_w10) (w1 := (wr.setCell ⟨go5, (x5_1 : Int).toNat * 3, none⟩ (.int .i64 x1_1))) ?hg ?ho ?hn ?hr ?_; (case ho => rfl); (case hg => rfl); (case hn => rfl); (case hr => first | (go_simp; done) | (go_simp; rfl)); intro w10 hw; have hg : wr.grownBy w10 (some go5) := (by rw [hw]; exact HP9.2); have hp_ : Kd.R k95 95 w10 w0.heap.size (fun k_ => (P0_ k_ ∨ w.heap.size ≤ k_)) (.slice (some ⟨go5, 0, none⟩) x0_1.length co8) y101 := (by rw [hw, Ny101.out]; exact HP9.1); clear HP9; replace HB := am ((by rw [hw]; exact below_set (HB.out) GB5.out : Below w0.heap.size w0 w10)); replace HK := am (Kept.of_grown (S := (fun k_ => P0_ k_)) hg (by repeat (first | (with_reducible first | exact HK.out | apply Kept.alloc | apply Kept.drewN | apply Kept.drew) | exact HK.out)) (fun k_ e_ => (HO_0.out.1 k_ e_))); replace HO_0 := am (hp_); clear hg hw hp_; have p6 : 0 ≤ (x5_1 : Int) := OD; have q6 : (x5_1 : Int) < ((x0_1.length : Int) : Int) := OD; obtain ⟨ce6, hcl6, hM6, hcc6, hfr6⟩ := Kd.R_elem HO_0.out z95 (x5_1 : Int) p6 q6; obtain rfl := k95_openM hM6; have hx6_0 : w10.cell? ⟨go5, (x5_1 : Int).toNat * 3, none⟩ = some (.int .i64 ((rd_T95 y101 x5_1).f0.f0)) := hcc6 0 _ rfl; have hx6_1 : w10.cell? ⟨go5, (x5_1 : Int).toNat * 3 + 1, none⟩ = some (.int .i64 ((rd_T95 y101 x5_1).f0.f1)) := hcc6 1 _ rfl; have hx6_2 : w10.cell? ⟨go5, (x5_1 : Int).toNat * 3 + 2, none⟩ = some (.int .i64 ((rd_T95 y101 x5_1).f1)) := hcc6 2 _ rfl; have hf6_0 : w10.frozen? ⟨go5, (x5_1 : Int).toNat * 3, none⟩ = false := hfr6 0; have hf6_1 : w10.frozen? ⟨go5, (x5_1 : Int).toNat * 3 + 1, none⟩ = false := hfr6 1; have hf6_2 : w10.frozen? ⟨go5, (x5_1 : Int).toNat * 3 + 2, none⟩ = false := hfr6 2; clear hcl6 hcc6 hfr6 hM6; replace p6 := eq_true p6; replace q6 := eq_true q6; have HX11 := am (show Kd.R k95 95 w10 w0.heap.size (fun k_ => (P0_ k_ ∨ w.heap.size ≤ k_)) (.slice (some ⟨go5, 0, none⟩) x0_1.length co8) y101 from (KR HO_0)); obtain ⟨ce11, hcl11, hM11, hcc11, hfr11⟩ := Kd.R_elem HX11.out z95 (x5_1 : Int) (OD) (by have h_ : (x5_1 : Int) < ((x0_1.length : Int) : Int) := OD; first | exact h_ | (have e_ := (Kd.R_reads' HO_0.out).1; omega) | simpa using h_); obtain rfl := k95_openM hM11; have HP11 := Kd.R_seg HX11.out (x5_1 : Int) (OD) (by have h_ : (x5_1 : Int) < ((x0_1.length : Int) : Int) := OD; first | exact h_ | (have e_ := (Kd.R_reads' HO_0.out).1; omega) | simpa using h_) (seg := [.int .i64 (wrap64 (x1_1 + 1))]) (j := 1) hcl11 hcc11 (show 2 ≤ 3 from by decide) (x' := (⟨(⟨(rd_T95 y101 x5_1).f0.f0, wrap64 (x1_1 + 1)⟩ : S40), (rd_T95 y101 x5_1).f1⟩ : S95)) (k95_mkM _ _ _ (⟨(⟨(rd_T95 y101 x5_1).f0.f0, wrap64 (x1_1 + 1)⟩ : S40), (rd_T95 y101 x5_1).f1⟩ : S95) ) (fun _ hk => hk); have hx11_1 := hcc11 1 _ rfl; (try simp only [show (k95).sz = 3 from rfl, Nat.mul_one, Nat.add_zero] at hx11_1); have hf11_1 := hfr11 1; (try simp only [show (k95).sz = 3 from rfl, Nat.mul_one, Nat.add_zero] at hf11_1); clear hcl11 hcc11 hfr11 hM11) | ((with_reducible refine gate_store (t := 3) (p := 25) rfl ?_); refine store_event (t := 3) (p := 25) (v := ?vo_w12) (w1 := (w10.setCell ⟨go5, (x5_1 : Int).toNat * 3 + 1, none⟩ (.int .i64 (wrap64 (x1_1 + 1))))) ?hg ?ho ?hn ?hr ?_; (case ho => rfl); (case hg => rfl); (case hn => rfl); (case hr => first | (go_simp; done) | (go_simp; rfl)); intro w12 hw; have hg : w10.grownBy w12 (some go5) := (by rw [hw]; exact HP11.2); have hp_ : Kd.R k95 95 w12 w0.heap.size (fun k_ => (P0_ k_ ∨ w.heap.size ≤ k_)) (.slice (some ⟨go5, 0, none⟩) x0_1.length co8) y102 := (by rw [hw, Ny102.out]; exact HP11.1); clear HP11; replace HB := am ((by rw [hw]; exact below_set (HB.out) GB5.out : Below w0.heap.size w0 w12)); replace HK := am (Kept.of_grown (S := (fun k_ => P0_ k_)) hg (by repeat (first | (with_reducible first | exact HK.out | apply Kept.alloc | apply Kept.drewN | apply Kept.drew) | exact HK.out)) (fun k_ e_ => (HO_0.out.1 k_ e_))); replace HO_0 := am (hp_); clear hg hw hp_; have p7 : 0 ≤ (x5_1 : Int) := OD; have q7 : (x5_1 : Int) < ((x0_1.length : Int) : Int) := OD; obtain ⟨ce7, hcl7, hM7, hcc7, hfr7⟩ := Kd.R_elem HO_0.out z95 (x5_1 : Int) p7 q7; obtain rfl := k95_openM hM7; have hx7_0 : w12.cell? ⟨go5, (x5_1 : Int).toNat * 3, none⟩ = some (.int .i64 ((rd_T95 y102 x5_1).f0.f0)) := hcc7 0 _ rfl; have hx7_1 : w12.cell? ⟨go5, (x5_1 : Int).toNat * 3 + 1, none⟩ = some (.int .i64 ((rd_T95 y102 x5_1).f0.f1)) := hcc7 1 _ rfl; have hx7_2 : w12.cell? ⟨go5, (x5_1 : Int).toNat * 3 + 2, none⟩ = some (.int .i64 ((rd_T95 y102 x5_1).f1)) := hcc7 2 _ rfl; have hf7_0 : w12.frozen? ⟨go5, (x5_1 : Int).toNat * 3, none⟩ = false := hfr7 0; have hf7_1 : w12.frozen? ⟨go5, (x5_1 : Int).toNat * 3 + 1, none⟩ = false := hfr7 1; have hf7_2 : w12.frozen? ⟨go5, (x5_1 : Int).toNat * 3 + 2, none⟩ = false := hfr7 2; clear hcl7 hcc7 hfr7 hM7; replace p7 := eq_true p7; replace q7 := eq_true q7; have HX13 := am (show Kd.R k95 95 w12 w0.heap.size (fun k_ => (P0_ k_ ∨ w.heap.size ≤ k_)) (.slice (some ⟨go5, 0, none⟩) x0_1.length co8) y102 from (KR HO_0)); obtain ⟨ce13, hcl13, hM13, hcc13, hfr13⟩ := Kd.R_elem HX13.out z95 (x5_1 : Int) (OD) (by have h_ : (x5_1 : Int) < ((x0_1.length : Int) : Int) := OD; first | exact h_ | (have e_ := (Kd.R_reads' HO_0.out).1; omega) | simpa using h_); obtain rfl := k95_openM hM13; have HP13 := Kd.R_seg HX13.out (x5_1 : Int) (OD) (by have h_ : (x5_1 : Int) < ((x0_1.length : Int) : Int) := OD; first | exact h_ | (have e_ := (Kd.R_reads' HO_0.out).1; omega) | simpa using h_) (seg := [.int .i64 (wrap64 ((wrap64 (x1_1 + 1)) + 1))]) (j := 2) hcl13 hcc13 (show 3 ≤ 3 from by decide) (x' := (⟨(⟨(rd_T95 y102 x5_1).f0.f0, (rd_T95 y102 x5_1).f0.f1⟩ : S40), wrap64 ((wrap64 (x1_1 + 1)) + 1)⟩ : S95)) (k95_mkM _ _ _ (⟨(⟨(rd_T95 y102 x5_1).f0.f0, (rd_T95 y102 x5_1).f0.f1⟩ : S40), wrap64 ((wrap64 (x1_1 + 1)) + 1)⟩ : S95) ) (fun _ hk => hk); have hx13_2 := hcc13 2 _ rfl; (try simp only [show (k95).sz = 3 from rfl, Nat.mul_one, Nat.add_zero] at hx13_2); have hf13_2 := hfr13 2; (try simp only [show (k95).sz = 3 from rfl, Nat.mul_one, Nat.add_zero] at hf13_2); clear hcl13 hcc13 hfr13 hM13) | ((with_reducible refine gate_store (t := 3) (p := 32) rfl ?_); refine store_event (t := 3) (p := 32) (v := ?vo_w14) (w1 := (w12.setCell ⟨go5, (x5_1 : Int).toNat * 3 + 2, none⟩ (.int .i64 (wrap64 ((wrap64 (x1_1 + 1)) + 1))))) ?hg ?ho ?hn ?hr ?_; (case ho => rfl); (case hg => rfl); (case hn => rfl); (case hr => first | (go_simp; done) | (go_simp; rfl)); intro w14 hw; have hg : w12.grownBy w14 (some go5) := (by rw [hw]; exact HP13.2); have hp_ : Kd.R k95 95 w14 w0.heap.size (fun k_ => (P0_ k_ ∨ w.heap.size ≤ k_)) (.slice (some ⟨go5, 0, none⟩) x0_1.length co8) y103 := (by rw [hw, Ny103.out]; exact HP13.1); clear HP13; replace HB := am ((by rw [hw]; exact below_set (HB.out) GB5.out : Below w0.heap.size w0 w14)); replace HK := am (Kept.of_grown (S := (fun k_ => P0_ k_)) hg (by repeat (first | (with_reducible first | exact HK.out | apply Kept.alloc | apply Kept.drewN | apply Kept.drew) | exact HK.out)) (fun k_ e_ => (HO_0.out.1 k_ e_))); replace HO_0 := am (hp_); clear hg hw hp_))
     go_roundg k1
     case measure => have := HK1.out; omega
     case rel => exact ⟨(y103), (wrap64 ((wrap64 ((wrap64 (x1_1 + 1)) + 1)) + 1)), (wrap64 (x5_1 + 1)), (by first | rfl | (simp; done) | (simp [*]; done)), (by first | rfl | (simp; done) | (simp [*]; done)), H', ⟨by have := HK1.out; omega⟩, ⟨KR HO_0⟩, ⟨by repeat (first | (with_reducible first | exact HK.out | apply Kept.alloc | apply Kept.drewN | apply Kept.drew) | exact HK.out)⟩, ⟨KL HB⟩⟩
    ·rw [if_neg c4] at H
     exact absurd H (by simp)
   ·rw [if_neg c3] at H
    have c3b0 : decide (x5_1 < (x0_1.length : Int)) = false := decide_eq_false c3
    clear c3
    simp only [Option.some.injEq, Prod.mk.injEq] at H
    obtain ⟨rfl, rfl⟩ := H
    obtain ⟨Ao15, co15, eo15⟩ := Kd.R_slice HO_0.out
    subst eo15
    go_wp2
    go_ret
    exact ⟨ER, by (with_reducible repeat (first | apply Kd.R_alloc | apply Kd.R_drewN | apply Kd.R_drew)); exact HO_0.out, KL HB, by repeat (first | (with_reducible first | exact HK.out | apply Kept.alloc | apply Kept.drewN | apply Kept.drew) | exact HK.out)⟩
theorem eqA40 (d : Nat) (w : World) (x0 y0 : Int) (x1 y1 : Int) :
  (Op.equalIn (d + 2) 40 (.agg #[.int .i64 x0, .int .i64 x1]) (.agg #[.int .i64 y0, .int .i64 y1])).run Try.prog w = .ok (x0 == y0 && (x1 == y1)) w := by
 refine eqA_of Try.underlying40 (by kernel_rfl) ?_
 refine eqf_cons (by rfl) (by go_simp; rfl) (by go_simp; rfl) (by go_simp) ?_
 exact eqf_last (by rfl) (by go_simp; rfl) (by go_simp; rfl) (by go_simp)
end Go.Proofs.Ytmanlcakdcoekaa.PAll
end
