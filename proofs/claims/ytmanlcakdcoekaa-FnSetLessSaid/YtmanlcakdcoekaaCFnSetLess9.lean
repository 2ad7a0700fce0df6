/- Contracts of the functions that the statement reaches, printed by a program out of the translation and joined with the plain laws. -/
import Derived.Test.YtmanlcakdcoekaaCFnSetLess3
import Derived.Test.YtmanlcakdcoekaaCFnSetLess4
import Derived.Test.YtmanlcakdcoekaaCFnSetLess5
section
namespace Go.Proofs.Ytmanlcakdcoekaa.PAll
open Go.RowKit Go.Proofs.YtmanlcakdcoekaaW.PrintWords Go.Proofs.YtmanlcakdcoekaaW.PrintLast Go.Proofs.YtmanlcakdcoekaaW.PrintMore
attribute [local go_sem] max2_int min2_int max_two min_two max_three min_three max_four min_four   -- for this text's walks alone
set_option linter.unusedVariables false
set_option linter.unusedSimpArgs false
mutual
def spec_l2Spans.l0 : Nat → List (S40) → List (S72) → Int → Option ((List (S72)))
 | 0, _, _, _ => none
 | k + 1, x0, x3, x4 => if x4 < (x0.length : Int) then (if 0 ≤ x4 then ((spec_l1Last.f k ((rd_T40 x0 x4).f0) ((rd_T40 x0 x4).f1)).bind fun t106 => (spec_l2Spans.l1 k x0 x3 x4 0 ((rd_T40 x0 x4).f0) t106)) else (none)) else (spec_l2Spans.l2 k x3 (([] : List (S72))) 0)
def spec_l2Spans.l1 : Nat → List (S40) → List (S72) → Int → Int → Int → Int → Option ((List (S72)))
 | 0, _, _, _, _, _, _ => none
 | k + 1, x0, x3, x4, x6, x108000, x108001 => if x6 < (x3.length : Int) then (if 0 ≤ x6 then (if ((rd_T72 x3 x6).f0) < x108000 then (spec_l2Spans.l1 k x0 x3 x4 (wrap64 (x6 + 1)) x108000 x108001) else ((some (([] : List (S72)) : List (S72))).bind fun y109 => (if x6 ≤ (x3.length : Int) then ((some (x3.take (x6 : Int).toNat : List (S72))).bind fun y112 => (if y109.length + y112.length < 8796093022208 then ((some (y109 ++ y112 : List (S72))).bind fun y116 => ((some (([(⟨x108000, x108001⟩ : S72)] : List (S72)) : List (S72))).bind fun y119 => (if y116.length + y119.length < 8796093022208 then ((some (y116 ++ y119 : List (S72))).bind fun y122 => ((some (x3.drop (x6 : Int).toNat : List (S72))).bind fun y125 => (if y122.length + y125.length < 8796093022208 then (spec_l2Spans.l0 k x0 (y122 ++ y125) (wrap64 (x4 + 1))) else (none)))) else (none)))) else (none))) else (none)))) else (none)) else ((some (([] : List (S72)) : List (S72))).bind fun y132 => (if 0 ≤ x6 then (if x6 ≤ (x3.length : Int) then ((some (x3.take (x6 : Int).toNat : List (S72))).bind fun y135 => (if y132.length + y135.length < 8796093022208 then ((some (y132 ++ y135 : List (S72))).bind fun y139 => ((some (([(⟨x108000, x108001⟩ : S72)] : List (S72)) : List (S72))).bind fun y142 => (if y139.length + y142.length < 8796093022208 then ((some (y139 ++ y142 : List (S72))).bind fun y145 => ((some (x3.drop (x6 : Int).toNat : List (S72))).bind fun y148 => (if y145.length + y148.length < 8796093022208 then (spec_l2Spans.l0 k x0 (y145 ++ y148) (wrap64 (x4 + 1))) else (none)))) else (none)))) else (none))) else (none)) else (none)))
def spec_l2Spans.l2 : Nat → List (S72) → List (S72) → Int → Option ((List (S72)))
 | 0, _, _, _ => none
 | k + 1, x3, x7, x8 => if x8 < (x3.length : Int) then (if (wrap64 ((x7.length : Int) - 1)) ≥ 0 then (if 0 ≤ x8 then (if 0 ≤ (wrap64 ((x7.length : Int) - 1)) then (if (wrap64 ((x7.length : Int) - 1)) < (x7.length : Int) then (spec_l2Spans.j3 k x3 x7 x8 (wrap64 ((x7.length : Int) - 1)) (decide (((rd_T72 x3 x8).f0) ≤ (wrap64 (((rd_T72 x7 (wrap64 ((x7.length : Int) - 1))).f1) + 1))))) else (none)) else (none)) else (none)) else (spec_l2Spans.j3 k x3 x7 x8 (wrap64 ((x7.length : Int) - 1)) false)) else (some x7)
def spec_l2Spans.j3 : Nat → List (S72) → List (S72) → Int → Int → Bool → Option ((List (S72)))
 | 0, _, _, _, _, _ => none
 | k + 1, x3, x7, x8, x9, x81 => if x81 = true then (if 0 ≤ x8 then (if x8 < (x3.length : Int) then (if 0 ≤ x9 then (if x9 < (x7.length : Int) then (if ((rd_T72 x3 x8).f1) > ((rd_T72 x7 x9).f1) then (spec_l2Spans.l2 k x3 (x7.set (x9 : Int).toNat (⟨(rd_T72 x7 x9).f0, (rd_T72 x3 x8).f1⟩ : S72)) (wrap64 (x8 + 1))) else (spec_l2Spans.l2 k x3 x7 (wrap64 (x8 + 1)))) else (none)) else (none)) else (none)) else (none)) else (if 0 ≤ x8 then (if x8 < (x3.length : Int) then ((some (([(⟨(rd_T72 x3 x8).f0, (rd_T72 x3 x8).f1⟩ : S72)] : List (S72)) : List (S72))).bind fun y165 => (if x7.length + y165.length < 8796093022208 then (spec_l2Spans.l2 k x3 (x7 ++ y165) (wrap64 (x8 + 1))) else (none))) else (none)) else (none))
end
def spec_l2Spans.f (k : Nat) (l0 : List (S40)) : Option ((List (S72))) := spec_l2Spans.l0 k l0 (([] : List (S72))) 0
def spec_l2Spans.T5 : Bool × List (List Nat × List Nat) := (true, [([], []), ([], []), ([0, 1], [0, 1]), ([2], [2]), ([3], [3]), ([], []), ([], []), ([5, 6], [5, 6]), ([7], [7]), ([8], [8]), ([4, 9], [4, 9]), ([], []), ([11, 10, 9, 0, 1, 2, 3, 4, 5, 6, 7, 8, 9, 10, 11], [10, 11])])
def spec_l2Spans.B5 : List Nat := [0, 0, 3, 7, 15, 0, 0, 96, 224, 480, 1023, 0, 4095]
theorem spec_l2Spans.tab5 : rtab .any (opsOf Try.f67 5) = spec_l2Spans.T5 := by kernel_rfl
theorem spec_l2Spans.bits5 : waitsOk spec_l2Spans.T5.2 spec_l2Spans.B5 = true := by kernel_rfl
def spec_l2Spans.T7 : Bool × List (List Nat × List Nat) := (true, [([], []), ([], []), ([1], [1]), ([0, 2], [0, 2]), ([3], [3]), ([4], [4]), ([4], [4]), ([5, 6, 4], [4, 5, 6]), ([7, 4], [4, 7]), ([8, 4], [4, 8]), ([4], [4]), ([10, 4], [4, 10]), ([9, 11, 4], [4, 9, 11]), ([4, 12], [4, 12])])
def spec_l2Spans.B7 : List Nat := [0, 0, 2, 7, 15, 31, 31, 127, 255, 511, 31, 1055, 4095, 8191]
theorem spec_l2Spans.tab7 : rtab .any (opsOf Try.f67 7) = spec_l2Spans.T7 := by kernel_rfl
theorem spec_l2Spans.bits7 : waitsOk spec_l2Spans.T7.2 spec_l2Spans.B7 = true := by kernel_rfl
def spec_l2Spans.T9 : Bool × List (List Nat × List Nat) := (true, [([], []), ([], []), ([], []), ([1, 2], [1, 2]), ([0, 3], [0, 3]), ([], []), ([5], [5]), ([4, 6, 4], [4, 6]), ([], []), ([], []), ([8, 9], [8, 9]), ([7, 10, 7], [7, 10]), ([11, 11, 0, 1, 2, 3, 4, 5, 6, 7, 8, 9, 10, 11], [1, 8, 11])])
def spec_l2Spans.B9 : List Nat := [0, 0, 0, 6, 15, 0, 32, 127, 0, 0, 768, 2047, 4095]
theorem spec_l2Spans.tab9 : rtab .any (opsOf Try.f67 9) = spec_l2Spans.T9 := by kernel_rfl
theorem spec_l2Spans.bits9 : waitsOk spec_l2Spans.T9.2 spec_l2Spans.B9 = true := by kernel_rfl
def spec_l2Spans.T15 : Bool × List (List Nat × List Nat) := (true, [([], []), ([0], [0]), ([1], [1]), ([2], [2]), ([2], [2]), ([3, 4, 2], [2, 3, 4]), ([5, 2], [2, 5]), ([6, 2], [2, 6]), ([2], [2]), ([2], [2]), ([8, 9, 2], [2, 8, 9]), ([10, 2], [2, 10]), ([11, 2], [2, 11]), ([12, 2], [2, 12]), ([7, 13, 2], [2, 7, 13]), ([2, 14], [2, 14])])
def spec_l2Spans.B15 : List Nat := [0, 1, 3, 7, 7, 31, 63, 127, 7, 7, 775, 1799, 3847, 7943, 16383, 32767]
theorem spec_l2Spans.tab15 : rtab .any (opsOf Try.f67 15) = spec_l2Spans.T15 := by kernel_rfl
theorem spec_l2Spans.bits15 : waitsOk spec_l2Spans.T15.2 spec_l2Spans.B15 = true := by kernel_rfl
def spec_l2Spans.T16 : Bool × List (List Nat × List Nat) := (true, [([], []), ([], []), ([0, 1], [0, 1]), ([2], [2]), ([3], [3]), ([], []), ([], []), ([5, 6], [5, 6]), ([7], [7]), ([8], [8]), ([4, 9], [4, 9])])
def spec_l2Spans.B16 : List Nat := [0, 0, 3, 7, 15, 0, 0, 96, 224, 480, 1023]
theorem spec_l2Spans.tab16 : rtab .any (opsOf Try.f67 16) = spec_l2Spans.T16 := by kernel_rfl
theorem spec_l2Spans.bits16 : waitsOk spec_l2Spans.T16.2 spec_l2Spans.B16 = true := by kernel_rfl
set_option maxHeartbeats 8000000 in
set_option maxRecDepth 100000 in
theorem spec_l2Spans.calls (k : Nat) (A0 : Option Addr) (c0 : Nat) (l0 : List (S40)) (r : List (S72)) (w : World) (hr0 : Kd.C k40 w A0 l0.length l0) (hc0 : l0.length ≤ c0) (h : spec_l2Spans.f k l0 = some r) :
  Calls Try.prog 67 #[.slice A0 l0.length c0] w fun e w' => ∃ v0_ : Value, e = .returned (v0_) ∧ Kd.R k72 72 w' w.heap.size (fun _ => True) v0_ r ∧ Below w.heap.size w w' := by
 have hu40 := Try.underlying40
 have hu72 := Try.underlying72
 have HR0 := Aside0.mk hr0
 have HC0 := Aside0.mk hc0
 clear hr0 hc0
 have HB := am (Below.refl w.heap.size w)
 have H : (spec_l2Spans.l0 k l0 (([] : List (S72))) 0) = some r := h
 clear h
 obtain ⟨y101, hy101⟩ : ∃ y_ : List (S72), y_ = (([] : List (S72))) := ⟨_, rfl⟩
 replace H : (spec_l2Spans.l0 k l0 y101 0) = some r := by first | (rw [hy101]; with_reducible exact H) | (have H2_ := (Option.bind_some _ _).symm.trans H; rw [hy101]; with_reducible exact H2_) | (have H2_ := (Option.bind_some _ _).symm.trans H; with_reducible exact H2_) | with_reducible exact H | (rw [hy101]; exact H) | exact H
 have Ny101 := Aside0.mk hy101
 clear hy101
 have H' := Aside0.mk H
 clear H
 go_enter Try.func67, Try.ntmps67
 go_wp2_with (first | ((with_reducible refine gate_dst (N := 10) rfl ?_); refine Kd.R_lit k72 _ 72 ?hg (N := 10) ?hd (xs := ([] : List (S72))) (inner := []) (ok := fun _ => True) (okp := fun _ => True) ?hr ?hp (fun _ hk => hk) trivial (Below.refl _ _) (Nat.le_refl _) (by simp) ?_; (case hd => rfl); (case hg => rfl); (case hr => first | (go_simp; done) | (go_simp; rfl)); (case hp => exact (Reps.none _ _)); intro v102 w2 ho3 hb hg_ hnew_; clear hg_ hnew_; (first | rw [← Ny101.out] at ho3 | (simp only [Int.reduceToNat] at ho3; rw [← Ny101.out] at ho3)); have HO103 := am (Kd.R_lower ho3 (below_size (KL HB))); replace HB := am (below_step (KL HB) hb); clear hb ho3))
 go_loopg [3, 4] k (fun kq v3 v4 w' => ∃ (x3_1 : List (S72)) (x4_1 : Int), v4 = .int .i64 x4_1 ∧ Aside0 (spec_l2Spans.l0 kq l0 x3_1 x4_1 = some r) ∧ Aside0 (kq ≤ k) ∧ Aside0 (Kd.R k72 72 w' w.heap.size (fun _ => True) v3 x3_1) ∧ Aside0 (Below w.heap.size w w'))
 case atStart => exact ⟨(y101), (0), (by first | rfl | (simp; done) | (simp [*]; done)), H', ⟨Nat.le_refl _⟩, ⟨KR HO103⟩, ⟨KL HB⟩⟩
 case round =>
  clear H'
  try clear p2
  obtain ⟨x3_1, x4_1, rfl, HA, HK1, HO_3, HB⟩ := hrel
  cases gk with
  | zero => exact absurd HA.out (by simp [spec_l2Spans.l0])
  | succ k1 =>
   have H := HA.out
   clear HA
   simp only [spec_l2Spans.l0] at H
   by_cases c4 : x4_1 < (l0.length : Int)
   ·rw [if_pos c4] at H
    have c4b0 : decide (x4_1 < (l0.length : Int)) = true := decide_eq_true c4
    clear c4
    by_cases c5 : 0 ≤ x4_1
    ·rw [if_pos c5] at H
     have c5b0 : decide (0 ≤ x4_1) = true := decide_eq_true c5
     clear c5
     replace H := Option.bind_eq_some_iff.mp H
     obtain ⟨t106, A60, H⟩ := H
     replace H : (spec_l2Spans.l1 k1 l0 x3_1 x4_1 0 ((rd_T40 l0 x4_1).f0) t106) = some r := H
     have A6 := Aside0.mk A60
     clear A60
     have H' := Aside0.mk H
     clear H
     try go_wp2
     replace HO_3 := am (Kd.R_drew HO_3.out)
     replace HB := am (below_drew1 HB.out)
     have p104 : 0 ≤ (x4_1 : Int) := OD
     have q104 : x4_1 < (l0.length : Int) := OD
     obtain ⟨ad104, e104, hx104_0, hx104_1⟩ := at_T40 HR0.out x4_1 p104 q104
     have hw104_1 := hx104_1
     have hw104_0 := hx104_0
     cases e104
     replace hx104_0 := CX HB.out hx104_0
     replace hx104_1 := CX HB.out hx104_1
     replace p104 := eq_true p104
     replace q104 := eq_true q104
     have p105 : 0 ≤ (x4_1 : Int) := OD
     have q105 : x4_1 < (l0.length : Int) := OD
     obtain ⟨ad105, e105, hx105_0, hx105_1⟩ := at_T40 HR0.out x4_1 p105 q105
     have hw105_1 := hx105_1
     have hw105_0 := hx105_0
     obtain rfl : ad104 = ad105 := (by injection e105)
     replace hx105_0 := CX HB.out hx105_0
     replace hx105_1 := CX HB.out hx105_1
     replace p105 := eq_true p105
     replace q105 := eq_true q105
     refine start_ (n := 13) (S := fun w' => w'.cell? (ad104.add ((x4_1).toNat * 2)) = some (.int .i64 ((rd_T40 l0 x4_1).f0)) ∧ w'.cell? ⟨(ad104.add ((x4_1).toNat * 2)).block, (ad104.add ((x4_1).toNat * 2)).off + 1, none⟩ = some (.int .i64 ((rd_T40 l0 x4_1).f1)) ∧ w'.cell? (ad104.add ((x4_1).toNat * 2)) = some (.int .i64 ((rd_T40 l0 x4_1).f0)) ∧ w'.cell? ⟨(ad104.add ((x4_1).toNat * 2)).block, (ad104.add ((x4_1).toNat * 2)).off + 1, none⟩ = some (.int .i64 ((rd_T40 l0 x4_1).f1))) (ds := []) (tf 0 13) (by kernel_rfl) rfl rfl ⟨(CY HB.out hw104_0), (CY HB.out hw104_1), (CY HB.out hw105_0), (CY HB.out hw105_1)⟩ (fun hHeld => ?_); refine with_tabW spec_l2Spans.tab5 spec_l2Spans.bits5 (fun HT_ HW_ => ?_)
     generalize wr.drew = w7 at HO_3 HB hx104_0 hx104_1 hx105_0 hx105_1 hHeld ⊢
     refine pv HT_ 0 17 (tf 1 12) ?_
     refine pv HT_ 1 18 (tf 2 11) ?_
     refine pv HT_ 2 19 (tf 3 10) ?_
     refine pv HT_ 3 20 (tf 4 9) ?_
     refine pv HT_ 5 22 (tr [4, 1, 1, 7]) ?_
     refine pv HT_ 6 23 (tr [4, 1, 2, 6]) ?_
     refine pv HT_ 7 24 (tr [4, 1, 3, 5]) ?_
     refine tk 4 (some 21) (tf 8 5) (take_ofW HT_.out HW_.out (by kernel_rfl)) hHeld ?_
     refine tk 8 (some 25) (tf 9 4) (take_ofW HT_.out HW_.out (by kernel_rfl)) hHeld ?_
     refine join_ (σ := Nat) 1 (tf 12 1) (fun s_ => [(26, .int .i64 t106), (5, .pointer (some ⟨s_, 0, none⟩)), (27, .agg #[.int .i64 ((rd_T40 l0 x4_1).f0), .int .i64 t106])]) (fun s_ w' => (w'.cell? (ad104.add ((x4_1).toNat * 2)) = some (.int .i64 ((rd_T40 l0 x4_1).f0)) ∧ w'.cell? ⟨(ad104.add ((x4_1).toNat * 2)).block, (ad104.add ((x4_1).toNat * 2)).off + 1, none⟩ = some (.int .i64 ((rd_T40 l0 x4_1).f1)) ∧ w'.cell? (ad104.add ((x4_1).toNat * 2)) = some (.int .i64 ((rd_T40 l0 x4_1).f0)) ∧ w'.cell? ⟨(ad104.add ((x4_1).toNat * 2)).block, (ad104.add ((x4_1).toNat * 2)).off + 1, none⟩ = some (.int .i64 ((rd_T40 l0 x4_1).f1))) ∧ (Kd.R k72 72 w' w.heap.size (fun k_ => k_ ≠ s_) u3 x3_1) ∧ (w'.heap[s_]? = some (.cells #[.int .i64 0, .int .i64 0] 72 (0, 0))) ∧ (w.heap.size ≤ s_) ∧ (w.heap.size ≤ s_) ∧ (Below w.heap.size w w')) ?_ ?_
     rotate_left
     ·intro hCont
      refine two_ (i := 9) (j := 11) (Ni := some 26) (Nj := some 5) (tf 10 3) (tr [9, 2, 1, 1]) rfl rfl rfl rfl (two_of HT_.out (by kernel_rfl)) (by decide) (by decide) (fun K hK => ?_) (fun K hK => ?_)
      ·skip
       refine goes_ Try.func59 (by kernel_rfl) rfl #[.agg #[.int .i64 ((rd_T40 l0 x4_1).f0), .int .i64 ((rd_T40 l0 x4_1).f1)]] (by rfl) rfl rfl MT ?_
       with_reducible refine (spec_l1Last.calls k1 ((rd_T40 l0 x4_1).f0) ((rd_T40 l0 x4_1).f1) t106 _ A6.out).mono ?_
       rintro e w8 ⟨rfl, hb⟩
       refine ⟨_, rfl, ?_⟩
       replace HO_3 := am (Kd.R_below (KR HO_3) hb)
       replace HB := am (below_step (KL HB) hb)
       (try clear hb)
       (try clear hb2)
       (try clear hk)
       (try clear hi)
       refine hK.out _ _ ⟨(CY HB.out hw104_0), (CY HB.out hw104_1), (CY HB.out hw105_0), (CY HB.out hw105_1)⟩ (fun hHeld => ?_)
       clear hK K
       refine norm_ (a' := ?_) ?_ ?_
       rotate_left
       ·show Act.put _ (some 26) _ = _
        simp only [Act.put, List.setIfInBounds_toArray, List.set_cons_zero, List.set_cons_succ, i64_w, i32_w]
        rfl
       refine pv HT_ 10 27 (tf 11 2) ?_
       refine one_ (i := 11) (N := some 5) (tf 12 1) rfl rfl (one_of HT_.out (by kernel_rfl)) (by decide) (fun K hK => ?_)
       refine box_step rfl (N := 5) rfl (cs := #[.int .i64 0, .int .i64 0]) (t := 72) BX ?_
       intro gb107 hg w9 hbox hb
       replace HO_3 := am (Kd.R_below (Kd.R_elderB (KR HO_3) gb107 (Nat.le_of_eq hg.symm)) hb)
       have BK107 := am (hbox)
       have GW107 := am (GH HB hg)
       have GE107 := GW107
       replace HB := am (below_step (KL HB) hb)
       clear hb hbox hg
       refine hK.out _ _ ⟨(CY HB.out hw104_0), (CY HB.out hw104_1), (CY HB.out hw105_0), (CY HB.out hw105_1)⟩ (fun hHeld => ?_)
       clear hK K
       refine norm_ (a' := ?_) ?_ ?_
       rotate_left
       ·show Act.put _ (some 5) _ = _
        simp only [Act.put, List.setIfInBounds_toArray, List.set_cons_zero, List.set_cons_succ, i64_w, i32_w]
        rfl
       exact norm_ (by simp only [putAll, Act.put, List.setIfInBounds_toArray, List.set_cons_zero, List.set_cons_succ]) (hCont (gb107) _ ⟨hHeld, (by (with_reducible repeat (first | apply Kd.R_alloc | apply Kd.R_drewN | apply Kd.R_drew)); exact Kd.R_mono HO_3.out (fun _ hk => hk.2)), (KB BK107), GW107.out, GE107.out, (K1 HB GE107.out)⟩)
      ·skip
       refine box_step rfl (N := 5) rfl (cs := #[.int .i64 0, .int .i64 0]) (t := 72) BX ?_
       intro gb107 hg w8 hbox hb
       replace HO_3 := am (Kd.R_below (Kd.R_elderB (KR HO_3) gb107 (Nat.le_of_eq hg.symm)) hb)
       have BK107 := am (hbox)
       have GW107 := am (GH HB hg)
       have GE107 := GW107
       replace HB := am (below_step (KL HB) hb)
       clear hb hbox hg
       refine hK.out _ _ ⟨(CY HB.out hw104_0), (CY HB.out hw104_1), (CY HB.out hw105_0), (CY HB.out hw105_1)⟩ (fun hHeld => ?_)
       clear hK K
       refine norm_ (a' := ?_) ?_ ?_
       rotate_left
       ·show Act.put _ (some 5) _ = _
        simp only [Act.put, List.setIfInBounds_toArray, List.set_cons_zero, List.set_cons_succ, i64_w, i32_w]
        rfl
       refine one_ (i := 9) (N := some 26) (tr [10, 1, 1, 1]) rfl rfl (one_of HT_.out (by kernel_rfl)) (by decide) (fun K hK => ?_)
       refine goes_ Try.func59 (by kernel_rfl) rfl #[.agg #[.int .i64 ((rd_T40 l0 x4_1).f0), .int .i64 ((rd_T40 l0 x4_1).f1)]] (by rfl) rfl rfl MT ?_
       with_reducible refine (spec_l1Last.calls k1 ((rd_T40 l0 x4_1).f0) ((rd_T40 l0 x4_1).f1) t106 _ A6.out).mono ?_
       rintro e w9 ⟨rfl, hb⟩
       refine ⟨_, rfl, ?_⟩
       replace HO_3 := am (Kd.R_below (KR HO_3) hb)
       replace BK107 := am (BB BK107 hb)
       replace HB := am (below_step (K1 HB GE107.out) hb)
       (try clear hb)
       (try clear hb2)
       (try clear hk)
       (try clear hi)
       refine hK.out _ _ ⟨(CY HB.out hw104_0), (CY HB.out hw104_1), (CY HB.out hw105_0), (CY HB.out hw105_1)⟩ (fun hHeld => ?_)
       clear hK K
       refine norm_ (a' := ?_) ?_ ?_
       rotate_left
       ·show Act.put _ (some 26) _ = _
        simp only [Act.put, List.setIfInBounds_toArray, List.set_cons_zero, List.set_cons_succ, i64_w, i32_w]
        rfl
       refine pv HT_ 10 27 (tf 12 1) ?_
       exact norm_ (by simp only [putAll, Act.put, List.setIfInBounds_toArray, List.set_cons_zero, List.set_cons_succ]) (hCont (gb107) _ ⟨hHeld, (by (with_reducible repeat (first | apply Kd.R_alloc | apply Kd.R_drewN | apply Kd.R_drew)); exact Kd.R_mono HO_3.out (fun _ hk => hk.2)), (KB BK107), GW107.out, GE107.out, (K1 HB GE107.out)⟩)
     rintro gb107 w10 ⟨hS_, h0_, h1_, h2_, h3_, h4_⟩
     replace HO_3 : Aside0 (Kd.R k72 72 w10 w.heap.size (fun k_ => k_ ≠ gb107) u3 x3_1) := ⟨h0_⟩
     have BK107 : Aside0 (bk w10 gb107 #[.int .i64 0, .int .i64 0] 72) := ⟨h1_⟩
     have GW107 : Aside0 (w.heap.size ≤ gb107) := ⟨h2_⟩
     have GE107 : Aside0 (w.heap.size ≤ gb107) := ⟨h3_⟩
     replace HB : Aside0 (Below w.heap.size w w10) := ⟨h4_⟩
     clear h0_ h1_ h2_ h3_ h4_
     have hHeld : w10.cell? (ad104.add ((x4_1).toNat * 2)) = some (.int .i64 ((rd_T40 l0 x4_1).f0)) ∧ w10.cell? ⟨(ad104.add ((x4_1).toNat * 2)).block, (ad104.add ((x4_1).toNat * 2)).off + 1, none⟩ = some (.int .i64 ((rd_T40 l0 x4_1).f1)) ∧ w10.cell? (ad104.add ((x4_1).toNat * 2)) = some (.int .i64 ((rd_T40 l0 x4_1).f0)) ∧ w10.cell? ⟨(ad104.add ((x4_1).toNat * 2)).block, (ad104.add ((x4_1).toNat * 2)).off + 1, none⟩ = some (.int .i64 ((rd_T40 l0 x4_1).f1)) := hS_
     refine norm_ (a' := ?_) ?_ ?_
     rotate_left
     ·simp only [putAll, Act.put, List.setIfInBounds_toArray, List.set_cons_zero, List.set_cons_succ]
      rfl
     refine one_ (i := 12) (N := none) (tf 13 0) rfl rfl (one_of HT_.out (by kernel_rfl)) (by decide) (fun K hK => ?_)
     have hs11 : w10.cell? ⟨gb107, 0, none⟩ = some (.int .i64 0) := z0 _ BK107.out
     have hfs11 := blk_frozen BK107.out 0
     have hs12 : w10.cell? ⟨gb107, 1, none⟩ = some (.int .i64 0) := z1 _ BK107.out
     have hfs12 := blk_frozen BK107.out 1
     refine skip_ (w1 := ?_) (by rfl) rfl ?_ ?_
     rotate_left
     ·go_simp
      rfl
     refine hK.out _ _ ⟨((cell_far (p := ⟨gb107, _, none⟩) (by first | exact Nat.ne_of_lt (Nat.lt_of_lt_of_le (by have := World.block_lt_of_cell? _ _ hw104_0; first | rwa [add_block] at this | exact this) GW107.out) | (rw [add_block]; exact Nat.ne_of_lt (Nat.lt_of_lt_of_le (by have := World.block_lt_of_cell? _ _ hw104_0; first | rwa [add_block] at this | exact this) GW107.out)) | (show (Addr.add _ _).block ≠ _; rw [add_block]; exact Nat.ne_of_lt (Nat.lt_of_lt_of_le (by have := World.block_lt_of_cell? _ _ hw104_0; first | rwa [add_block] at this | exact this) GW107.out)) | (dsimp only; exact Nat.ne_of_lt (Nat.lt_of_lt_of_le (by have := World.block_lt_of_cell? _ _ hw104_0; first | rwa [add_block] at this | exact this) GW107.out))) _).trans (((cell_far (p := ⟨gb107, _, none⟩) (by first | exact Nat.ne_of_lt (Nat.lt_of_lt_of_le (by have := World.block_lt_of_cell? _ _ hw104_0; first | rwa [add_block] at this | exact this) GW107.out) | (rw [add_block]; exact Nat.ne_of_lt (Nat.lt_of_lt_of_le (by have := World.block_lt_of_cell? _ _ hw104_0; first | rwa [add_block] at this | exact this) GW107.out)) | (show (Addr.add _ _).block ≠ _; rw [add_block]; exact Nat.ne_of_lt (Nat.lt_of_lt_of_le (by have := World.block_lt_of_cell? _ _ hw104_0; first | rwa [add_block] at this | exact this) GW107.out)) | (dsimp only; exact Nat.ne_of_lt (Nat.lt_of_lt_of_le (by have := World.block_lt_of_cell? _ _ hw104_0; first | rwa [add_block] at this | exact this) GW107.out))) _).trans (hHeld.1)))), ((cell_far (p := ⟨gb107, _, none⟩) (by first | exact Nat.ne_of_lt (Nat.lt_of_lt_of_le (by have := World.block_lt_of_cell? _ _ hw104_1; first | rwa [add_block] at this | exact this) GW107.out) | (rw [add_block]; exact Nat.ne_of_lt (Nat.lt_of_lt_of_le (by have := World.block_lt_of_cell? _ _ hw104_1; first | rwa [add_block] at this | exact this) GW107.out)) | (show (Addr.add _ _).block ≠ _; rw [add_block]; exact Nat.ne_of_lt (Nat.lt_of_lt_of_le (by have := World.block_lt_of_cell? _ _ hw104_1; first | rwa [add_block] at this | exact this) GW107.out)) | (dsimp only; exact Nat.ne_of_lt (Nat.lt_of_lt_of_le (by have := World.block_lt_of_cell? _ _ hw104_1; first | rwa [add_block] at this | exact this) GW107.out))) _).trans (((cell_far (p := ⟨gb107, _, none⟩) (by first | exact Nat.ne_of_lt (Nat.lt_of_lt_of_le (by have := World.block_lt_of_cell? _ _ hw104_1; first | rwa [add_block] at this | exact this) GW107.out) | (rw [add_block]; exact Nat.ne_of_lt (Nat.lt_of_lt_of_le (by have := World.block_lt_of_cell? _ _ hw104_1; first | rwa [add_block] at this | exact this) GW107.out)) | (show (Addr.add _ _).block ≠ _; rw [add_block]; exact Nat.ne_of_lt (Nat.lt_of_lt_of_le (by have := World.block_lt_of_cell? _ _ hw104_1; first | rwa [add_block] at this | exact this) GW107.out)) | (dsimp only; exact Nat.ne_of_lt (Nat.lt_of_lt_of_le (by have := World.block_lt_of_cell? _ _ hw104_1; first | rwa [add_block] at this | exact this) GW107.out))) _).trans (hHeld.2.1)))), ((cell_far (p := ⟨gb107, _, none⟩) (by first | exact Nat.ne_of_lt (Nat.lt_of_lt_of_le (by have := World.block_lt_of_cell? _ _ hw105_0; first | rwa [add_block] at this | exact this) GW107.out) | (rw [add_block]; exact Nat.ne_of_lt (Nat.lt_of_lt_of_le (by have := World.block_lt_of_cell? _ _ hw105_0; first | rwa [add_block] at this | exact this) GW107.out)) | (show (Addr.add _ _).block ≠ _; rw [add_block]; exact Nat.ne_of_lt (Nat.lt_of_lt_of_le (by have := World.block_lt_of_cell? _ _ hw105_0; first | rwa [add_block] at this | exact this) GW107.out)) | (dsimp only; exact Nat.ne_of_lt (Nat.lt_of_lt_of_le (by have := World.block_lt_of_cell? _ _ hw105_0; first | rwa [add_block] at this | exact this) GW107.out))) _).trans (((cell_far (p := ⟨gb107, _, none⟩) (by first | exact Nat.ne_of_lt (Nat.lt_of_lt_of_le (by have := World.block_lt_of_cell? _ _ hw105_0; first | rwa [add_block] at this | exact this) GW107.out) | (rw [add_block]; exact Nat.ne_of_lt (Nat.lt_of_lt_of_le (by have := World.block_lt_of_cell? _ _ hw105_0; first | rwa [add_block] at this | exact this) GW107.out)) | (show (Addr.add _ _).block ≠ _; rw [add_block]; exact Nat.ne_of_lt (Nat.lt_of_lt_of_le (by have := World.block_lt_of_cell? _ _ hw105_0; first | rwa [add_block] at this | exact this) GW107.out)) | (dsimp only; exact Nat.ne_of_lt (Nat.lt_of_lt_of_le (by have := World.block_lt_of_cell? _ _ hw105_0; first | rwa [add_block] at this | exact this) GW107.out))) _).trans (hHeld.2.2.1)))), ((cell_far (p := ⟨gb107, _, none⟩) (by first | exact Nat.ne_of_lt (Nat.lt_of_lt_of_le (by have := World.block_lt_of_cell? _ _ hw105_1; first | rwa [add_block] at this | exact this) GW107.out) | (rw [add_block]; exact Nat.ne_of_lt (Nat.lt_of_lt_of_le (by have := World.block_lt_of_cell? _ _ hw105_1; first | rwa [add_block] at this | exact this) GW107.out)) | (show (Addr.add _ _).block ≠ _; rw [add_block]; exact Nat.ne_of_lt (Nat.lt_of_lt_of_le (by have := World.block_lt_of_cell? _ _ hw105_1; first | rwa [add_block] at this | exact this) GW107.out)) | (dsimp only; exact Nat.ne_of_lt (Nat.lt_of_lt_of_le (by have := World.block_lt_of_cell? _ _ hw105_1; first | rwa [add_block] at this | exact this) GW107.out))) _).trans (((cell_far (p := ⟨gb107, _, none⟩) (by first | exact Nat.ne_of_lt (Nat.lt_of_lt_of_le (by have := World.block_lt_of_cell? _ _ hw105_1; first | rwa [add_block] at this | exact this) GW107.out) | (rw [add_block]; exact Nat.ne_of_lt (Nat.lt_of_lt_of_le (by have := World.block_lt_of_cell? _ _ hw105_1; first | rwa [add_block] at this | exact this) GW107.out)) | (show (Addr.add _ _).block ≠ _; rw [add_block]; exact Nat.ne_of_lt (Nat.lt_of_lt_of_le (by have := World.block_lt_of_cell? _ _ hw105_1; first | rwa [add_block] at this | exact this) GW107.out)) | (dsimp only; exact Nat.ne_of_lt (Nat.lt_of_lt_of_le (by have := World.block_lt_of_cell? _ _ hw105_1; first | rwa [add_block] at this | exact this) GW107.out))) _).trans (hHeld.2.2.2))))⟩ (fun hHeld => ?_)
     clear hK K
     refine done_ (done_of HT_.out (by kernel_rfl)) ?_
     try go_wp2
     go_loopg [6] k1 (fun kq v6 w' => ∃ (x6_2 : Int), v6 = .int .i64 x6_2 ∧ Aside0 (spec_l2Spans.l1 kq l0 x3_1 x4_1 x6_2 ((rd_T40 l0 x4_1).f0) t106 = some r) ∧ Aside0 (kq ≤ k1) ∧ Aside0 (Kd.R k72 72 w' w.heap.size (fun k_ => k_ ≠ gb107) u3 x3_1) ∧ Aside0 (w'.heap[gb107]? = some (.cells #[.int .i64 ((rd_T40 l0 x4_1).f0), .int .i64 t106] 72 (0, 0))) ∧ Aside0 (Below w.heap.size w w'))
     case atStart => exact ⟨(0), (by first | rfl | (simp; done) | (simp [*]; done)), H', ⟨Nat.le_refl _⟩, ⟨by (with_reducible repeat (first | apply Kd.R_alloc | apply Kd.R_drewN | apply Kd.R_drew)); exact Kd.R_mono (Kd.R_far (p := ⟨gb107, 1, none⟩) (Kd.R_far (p := ⟨gb107, 0, none⟩) (Kd.R_mono HO_3.out (fun k_ hk => (⟨hk, hk⟩ : _ ∧ k_ ≠ gb107))) (fun _ hk => hk.2) (.int .i64 ((rd_T40 l0 x4_1).f0))) (fun _ hk => hk.2) (.int .i64 t106)) (fun _ hk => hk.1)⟩, ⟨by (with_reducible repeat (first | refine blk_drewN ?_ _ | refine blk_drew ?_ | refine blk_alloc ?_ _)); refine blk_put (cs := #[.int .i64 ((rd_T40 l0 x4_1).f0), .int .i64 0]) ?_ 1 _ rfl; (with_reducible repeat (first | refine blk_drewN ?_ _ | refine blk_drew ?_ | refine blk_alloc ?_ _)); refine blk_put (cs := #[.int .i64 0, .int .i64 0]) ?_ 0 _ rfl; (with_reducible repeat (first | refine blk_drewN ?_ _ | refine blk_drew ?_ | refine blk_alloc ?_ _)); exact BK107.out⟩, ⟨K1 HB GE107.out⟩⟩
     case round =>
      clear H'
      try clear p1
      try clear q1
      try clear hx1
      try clear p2
      try clear c4
      try clear c4b0
      try clear c5
      try clear c5b0
      try clear c6
      try clear p10
      try clear q10
      try clear hx10
      try clear hx104_0
      try clear hx104_1
      try clear hx105_0
      try clear hx105_1
      try clear p104
      try clear p105
      try clear p2
      try clear q104
      try clear q105
      obtain ⟨x6_2, rfl, HA, HK2, HO_3, BK107, HB⟩ := hrel
      cases gk with
      | zero => exact absurd HA.out (by simp [spec_l2Spans.l1])
      | succ k2 =>
       have H := HA.out
       clear HA
       simp only [spec_l2Spans.l1] at H
       by_cases c13 : x6_2 < (x3_1.length : Int)
       ·rw [if_pos c13] at H
        have c13b0 : decide (x6_2 < (x3_1.length : Int)) = true := decide_eq_true c13
        clear c13
        by_cases c14 : 0 ≤ x6_2
        ·rw [if_pos c14] at H
         have c14b0 : decide (0 ≤ x6_2) = true := decide_eq_true c14
         clear c14
         by_cases c15 : ((rd_T72 x3_1 x6_2).f0) < ((rd_T40 l0 x4_1).f0)
         ·rw [if_pos c15] at H
          have c15b0 : decide (((rd_T72 x3_1 x6_2).f0) < ((rd_T40 l0 x4_1).f0)) = true := decide_eq_true c15
          clear c15
          have H' := Aside0.mk H
          clear H
          try go_wp2
          replace HO_3 := am (Kd.R_drew HO_3.out)
          replace BK107 := am (blk_drew BK107.out)
          replace HB := am (below_drew1 HB.out)
          obtain ⟨Ao17, co17, eo17⟩ := Kd.R_slice HO_3.out
          (first | subst eo17 | (injection eo17 with f1_ f2_ f3_; have f4_ := f1_.symm; have f5_ := f3_.symm; clear f1_ f2_ f3_; subst f4_; subst f5_))
          have p108 : 0 ≤ (x6_2 : Int) := OD
          have q108 : x6_2 < (x3_1.length : Int) := OD
          obtain ⟨ad108, e108, hx108_0, hx108_1⟩ := at_T72 (Kd.R_reads' HO_3.out).2.2 x6_2 p108 q108
          cases e108
          replace p108 := eq_true p108
          replace q108 := eq_true q108
          refine start_ (n := 14) (S := fun w' => ce2 w' gb107 (.int .i64 ((rd_T40 l0 x4_1).f0)) (.int .i64 t106) (w'.cell? (ad108.add ((x6_2).toNat * 2)) = some (.int .i64 ((rd_T72 x3_1 x6_2).f0)) ∧ w'.cell? ⟨(ad108.add ((x6_2).toNat * 2)).block, (ad108.add ((x6_2).toNat * 2)).off + 1, none⟩ = some (.int .i64 ((rd_T72 x3_1 x6_2).f1)))) (ds := []) (tf 0 14) (by kernel_rfl) rfl rfl ⟨z0 _ BK107.out, z1 _ BK107.out, hx108_0, hx108_1⟩ (fun hHeld => ?_); refine with_tabW spec_l2Spans.tab7 spec_l2Spans.bits7 (fun HT_ HW_ => ?_)
          generalize wr.drew = w16 at HO_3 BK107 HB hx108_0 hx108_1 hHeld ⊢
          refine pv HT_ 0 28 (tf 1 13) ?_
          refine pv HT_ 1 29 (tf 2 12) ?_
          refine pv HT_ 2 30 (tf 3 11) ?_
          refine pv HT_ 3 31 (tf 4 10) ?_
          refine pv HT_ 4 32 (tf 5 9) ?_
          refine pv HT_ 5 33 (tf 6 8) ?_
          refine pv HT_ 6 34 (tf 7 7) ?_
          refine pv HT_ 7 35 (tf 8 6) ?_
          refine pv HT_ 8 36 (tf 9 5) ?_
          refine pv HT_ 10 38 (tr [9, 1, 1, 3]) ?_
          refine tk 9 (some 37) (tf 11 3) (take_ofW HT_.out HW_.out (by kernel_rfl)) hHeld ?_
          refine tk 11 (some 39) (tf 12 2) (take_ofW HT_.out HW_.out (by kernel_rfl)) hHeld ?_
          refine pv HT_ 12 40 (tf 13 1) ?_
          refine pv HT_ 13 41 (tf 14 0) ?_
          refine done_ (done_of HT_.out (by kernel_rfl)) ?_
          try go_wp2
          go_roundg k2
          case measure => have := HK1.out; have := HK2.out; omega
          case rel => exact ⟨(wrap64 (x6_2 + 1)), (by first | rfl | (simp; done) | (simp [*]; done)), H', ⟨by have := HK1.out; have := HK2.out; omega⟩, ⟨KR HO_3⟩, ⟨KB BK107⟩, ⟨K1 HB GE107.out⟩⟩
         ·rw [if_neg c15] at H
          have c15b0 : decide (((rd_T72 x3_1 x6_2).f0) < ((rd_T40 l0 x4_1).f0)) = false := decide_eq_false c15
          clear c15
          obtain ⟨y109, hy109⟩ : ∃ y_ : List (S72), y_ = (([] : List (S72))) := ⟨_, rfl⟩
          replace H : (if x6_2 ≤ (x3_1.length : Int) then ((some (x3_1.take (x6_2 : Int).toNat : List (S72))).bind fun y112 => (if y109.length + y112.length < 8796093022208 then ((some (y109 ++ y112 : List (S72))).bind fun y116 => ((some (([(⟨((rd_T40 l0 x4_1).f0), t106⟩ : S72)] : List (S72)) : List (S72))).bind fun y119 => (if y116.length + y119.length < 8796093022208 then ((some (y116 ++ y119 : List (S72))).bind fun y122 => ((some (x3_1.drop (x6_2 : Int).toNat : List (S72))).bind fun y125 => (if y122.length + y125.length < 8796093022208 then (spec_l2Spans.l0 k2 l0 (y122 ++ y125) (wrap64 (x4_1 + 1))) else (none)))) else (none)))) else (none))) else (none)) = some r := by first | (rw [hy109]; with_reducible exact H) | (have H2_ := (Option.bind_some _ _).symm.trans H; rw [hy109]; with_reducible exact H2_) | (have H2_ := (Option.bind_some _ _).symm.trans H; with_reducible exact H2_) | with_reducible exact H | (rw [hy109]; exact H) | exact H
          have Ny109 := Aside0.mk hy109
          clear hy109
          have c18b0 := eq_true (OD : 0 ≤ x6_2)
          by_cases c19 : x6_2 ≤ (x3_1.length : Int)
          ·rw [if_pos c19] at H
           have c19b0 := eq_true c19
           have c19b1 : decide (x6_2 ≤ (x3_1.length : Int)) = true := decide_eq_true c19
           clear c19
           obtain ⟨y112, hy112⟩ : ∃ y_ : List (S72), y_ = (x3_1.take (x6_2 : Int).toNat) := ⟨_, rfl⟩
           replace H : (if y109.length + y112.length < 8796093022208 then ((some (y109 ++ y112 : List (S72))).bind fun y116 => ((some (([(⟨((rd_T40 l0 x4_1).f0), t106⟩ : S72)] : List (S72)) : List (S72))).bind fun y119 => (if y116.length + y119.length < 8796093022208 then ((some (y116 ++ y119 : List (S72))).bind fun y122 => ((some (x3_1.drop (x6_2 : Int).toNat : List (S72))).bind fun y125 => (if y122.length + y125.length < 8796093022208 then (spec_l2Spans.l0 k2 l0 (y122 ++ y125) (wrap64 (x4_1 + 1))) else (none)))) else (none)))) else (none)) = some r := by first | (rw [hy112]; with_reducible exact H) | (have H2_ := (Option.bind_some _ _).symm.trans H; rw [hy112]; with_reducible exact H2_) | (have H2_ := (Option.bind_some _ _).symm.trans H; with_reducible exact H2_) | with_reducible exact H | (rw [hy112]; exact H) | exact H
           have Ny112 := Aside0.mk hy112
           clear hy112
           by_cases c20 : y109.length + y112.length < 8796093022208
           ·rw [if_pos c20] at H
            have LMc20 := Aside0.mk c20
            clear c20
            obtain ⟨y116, hy116⟩ : ∃ y_ : List (S72), y_ = (y109 ++ y112) := ⟨_, rfl⟩
            replace H : ((some (([(⟨((rd_T40 l0 x4_1).f0), t106⟩ : S72)] : List (S72)) : List (S72))).bind fun y119 => (if y116.length + y119.length < 8796093022208 then ((some (y116 ++ y119 : List (S72))).bind fun y122 => ((some (x3_1.drop (x6_2 : Int).toNat : List (S72))).bind fun y125 => (if y122.length + y125.length < 8796093022208 then (spec_l2Spans.l0 k2 l0 (y122 ++ y125) (wrap64 (x4_1 + 1))) else (none)))) else (none))) = some r := by first | (rw [hy116]; with_reducible exact H) | (have H2_ := (Option.bind_some _ _).symm.trans H; rw [hy116]; with_reducible exact H2_) | (have H2_ := (Option.bind_some _ _).symm.trans H; with_reducible exact H2_) | with_reducible exact H | (rw [hy116]; exact H) | exact H
            have Ny116 := Aside0.mk hy116
            clear hy116
            obtain ⟨y119, hy119⟩ : ∃ y_ : List (S72), y_ = (([(⟨((rd_T40 l0 x4_1).f0), t106⟩ : S72)] : List (S72))) := ⟨_, rfl⟩
            replace H : (if y116.length + y119.length < 8796093022208 then ((some (y116 ++ y119 : List (S72))).bind fun y122 => ((some (x3_1.drop (x6_2 : Int).toNat : List (S72))).bind fun y125 => (if y122.length + y125.length < 8796093022208 then (spec_l2Spans.l0 k2 l0 (y122 ++ y125) (wrap64 (x4_1 + 1))) else (none)))) else (none)) = some r := by first | (rw [hy119]; with_reducible exact H) | (have H2_ := (Option.bind_some _ _).symm.trans H; rw [hy119]; with_reducible exact H2_) | (have H2_ := (Option.bind_some _ _).symm.trans H; with_reducible exact H2_) | with_reducible exact H | (rw [hy119]; exact H) | exact H
            have Ny119 := Aside0.mk hy119
            clear hy119
            by_cases c21 : y116.length + y119.length < 8796093022208
            ·rw [if_pos c21] at H
             have LMc21 := Aside0.mk c21
             clear c21
             obtain ⟨y122, hy122⟩ : ∃ y_ : List (S72), y_ = (y116 ++ y119) := ⟨_, rfl⟩
             replace H : ((some (x3_1.drop (x6_2 : Int).toNat : List (S72))).bind fun y125 => (if y122.length + y125.length < 8796093022208 then (spec_l2Spans.l0 k2 l0 (y122 ++ y125) (wrap64 (x4_1 + 1))) else (none))) = some r := by first | (rw [hy122]; with_reducible exact H) | (have H2_ := (Option.bind_some _ _).symm.trans H; rw [hy122]; with_reducible exact H2_) | (have H2_ := (Option.bind_some _ _).symm.trans H; with_reducible exact H2_) | with_reducible exact H | (rw [hy122]; exact H) | exact H
             have Ny122 := Aside0.mk hy122
             clear hy122
             have c22b0 := eq_true (OD : 0 ≤ x6_2)
             have c23b0 := eq_true (OD : x6_2 ≤ (x3_1.length : Int))
             obtain ⟨y125, hy125⟩ : ∃ y_ : List (S72), y_ = (x3_1.drop (x6_2 : Int).toNat) := ⟨_, rfl⟩
             replace H : (if y122.length + y125.length < 8796093022208 then (spec_l2Spans.l0 k2 l0 (y122 ++ y125) (wrap64 (x4_1 + 1))) else (none)) = some r := by first | (rw [hy125]; with_reducible exact H) | (have H2_ := (Option.bind_some _ _).symm.trans H; rw [hy125]; with_reducible exact H2_) | (have H2_ := (Option.bind_some _ _).symm.trans H; with_reducible exact H2_) | with_reducible exact H | (rw [hy125]; exact H) | exact H
             have Ny125 := Aside0.mk hy125
             clear hy125
             by_cases c24 : y122.length + y125.length < 8796093022208
             ·rw [if_pos c24] at H
              have LMc24 := Aside0.mk c24
              clear c24
              obtain ⟨y129, hy129⟩ : ∃ y_ : List (S72), y_ = (y122 ++ y125) := ⟨_, rfl⟩
              replace H : (spec_l2Spans.l0 k2 l0 y129 (wrap64 (x4_1 + 1))) = some r := by first | (rw [hy129]; with_reducible exact H) | (have H2_ := (Option.bind_some _ _).symm.trans H; rw [hy129]; with_reducible exact H2_) | (have H2_ := (Option.bind_some _ _).symm.trans H; with_reducible exact H2_) | with_reducible exact H | (rw [hy129]; exact H) | exact H
              have Ny129 := Aside0.mk hy129
              clear hy129
              have H' := Aside0.mk H
              clear H
              try go_wp2
              replace HO_3 := am (Kd.R_drew HO_3.out)
              replace BK107 := am (blk_drew BK107.out)
              replace HB := am (below_drew1 HB.out)
              obtain ⟨Ao26, co26, eo26⟩ := Kd.R_slice HO_3.out
              (first | subst eo26 | (injection eo26 with f1_ f2_ f3_; have f4_ := f1_.symm; have f5_ := f3_.symm; clear f1_ f2_ f3_; subst f4_; subst f5_))
              have p108 : 0 ≤ (x6_2 : Int) := OD
              have q108 : x6_2 < (x3_1.length : Int) := OD
              obtain ⟨ad108, e108, hx108_0, hx108_1⟩ := at_T72 (Kd.R_reads' HO_3.out).2.2 x6_2 p108 q108
              cases e108
              replace p108 := eq_true p108
              replace q108 := eq_true q108
              refine start_ (n := 14) (S := fun w' => ce2 w' gb107 (.int .i64 ((rd_T40 l0 x4_1).f0)) (.int .i64 t106) (w'.cell? (ad108.add ((x6_2).toNat * 2)) = some (.int .i64 ((rd_T72 x3_1 x6_2).f0)) ∧ w'.cell? ⟨(ad108.add ((x6_2).toNat * 2)).block, (ad108.add ((x6_2).toNat * 2)).off + 1, none⟩ = some (.int .i64 ((rd_T72 x3_1 x6_2).f1)))) (ds := []) (tf 0 14) (by kernel_rfl) rfl rfl ⟨z0 _ BK107.out, z1 _ BK107.out, hx108_0, hx108_1⟩ (fun hHeld => ?_); refine with_tabW spec_l2Spans.tab7 spec_l2Spans.bits7 (fun HT_ HW_ => ?_)
              generalize wr.drew = w25 at HO_3 BK107 HB hx108_0 hx108_1 hHeld ⊢
              refine pv HT_ 0 28 (tf 1 13) ?_
              refine pv HT_ 1 29 (tf 2 12) ?_
              refine pv HT_ 2 30 (tf 3 11) ?_
              refine pv HT_ 3 31 (tf 4 10) ?_
              refine pv HT_ 4 32 (tf 5 9) ?_
              refine pv HT_ 5 33 (tf 6 8) ?_
              refine pv HT_ 6 34 (tf 7 7) ?_
              refine pv HT_ 7 35 (tf 8 6) ?_
              refine pv HT_ 8 36 (tf 9 5) ?_
              refine pv HT_ 10 38 (tr [9, 1, 1, 3]) ?_
              refine tk 9 (some 37) (tf 11 3) (take_ofW HT_.out HW_.out (by kernel_rfl)) hHeld ?_
              refine tk 11 (some 39) (tf 12 2) (take_ofW HT_.out HW_.out (by kernel_rfl)) hHeld ?_
              refine pv HT_ 12 40 (tf 13 1) ?_
              refine pv HT_ 13 41 (tf 14 0) ?_
              refine done_ (done_of HT_.out (by kernel_rfl)) ?_
              try go_wp2
              replace HO_3 := am (Kd.R_drew HO_3.out)
              replace BK107 := am (blk_drew BK107.out)
              replace HB := am (below_drew1 HB.out)
              have q28 : (x6_2 : Int) ≤ ((x3_1.length : Int) : Int) := OD
              obtain ⟨i028, hi028, _, hsz28, _⟩ := info_parts info72
              have hroom28 : x3_1.length ≤ co26 := (Kd.R_reads' HO_3.out).2.1
              have hC28 : Kd.C k72 _ (some ad108) x3_1.length x3_1 := (Kd.R_reads' HO_3.out).2.2
              have hcut28 := cut_to (P := Try.prog) 73 72 .i64 Try.underlying73 hi028 (some ad108) x3_1.length co26 x6_2 (OD) q28 hroom28
              have hr28 := Kd.C_take (m := (x6_2 : Int).toNat) hC28 (by omega)
              have hy28 : y112.length = (x6_2 : Int).toNat := (by rw [Ny112.out, List.length_take]; omega)
              rw [← Ny112.out] at hr28
              rw [← hy28] at hcut28
              have HR115 := Aside0.mk hr28
              have HC115 := am (show y112.length ≤ co26 from by omega)
              clear hr28 hC28 hroom28 hi028 hsz28
              have KY28 := Aside0.mk hy28
              clear hy28
              have KL28 := am (show (x6_2 : Int).toNat ≤ x3_1.length from by omega)
              replace q28 := eq_true q28
              have q29 : (x6_2 : Int) ≤ ((x3_1.length : Int) : Int) := OD
              obtain ⟨i029, hi029, _, hsz29, _⟩ := info_parts info72
              have hroom29 : x3_1.length ≤ co26 := (Kd.R_reads' HO_3.out).2.1
              have hC29 : Kd.C k72 _ (some ad108) x3_1.length x3_1 := (Kd.R_reads' HO_3.out).2.2
              have q029 : (0 : Int) ≤ (x6_2 : Int) := OD
              have hcut29 := cut_from (P := Try.prog) 73 72 .i64 Try.underlying73 hi029 2 hsz29 (some ad108) x3_1.length co26 x6_2 q029 q29
              have hr29 := Kd.C_drop (m := (x6_2 : Int).toNat) (c := co26) hC29 (by omega) hroom29
              obtain ⟨A29, hA29⟩ : ∃ A1, A1 = (if co26 = (x6_2 : Int).toNat then (some ad108) else ((some ad108) : Option Addr).map (·.add ((x6_2 : Int).toNat * 2))) := ⟨_, rfl⟩
              obtain ⟨c29, hc29⟩ : ∃ c1, c1 = co26 - (x6_2 : Int).toNat := ⟨_, rfl⟩
              have hy29 : y125.length = x3_1.length - (x6_2 : Int).toNat := (by rw [Ny125.out, List.length_drop] <;> omega)
              rw [show (x3_1).drop (x6_2 : Int).toNat = y125 from Ny125.out.symm] at hr29
              replace hr29 : Kd.C k72 _ A29 y125.length y125 := (by rw [hA29]; exact hr29)
              rw [← hy29, ← hA29, ← hc29] at hcut29
              have HR128 := Aside0.mk hr29
              have HC128 := am (show y125.length ≤ c29 from by rw [hy29, hc29]; exact Nat.sub_le_sub_right hroom29 _)
              clear hr29 hC29 hroom29 hi029 hsz29 hc29
              have KY29 := Aside0.mk hy29
              have KA29 := Aside0.mk hA29
              clear hy29 hA29
              have KL29 := am (show (x6_2 : Int).toNat ≤ x3_1.length from by omega)
              replace q29 := eq_true q29
              refine start_ (n := 13) (S := fun w' => de2 w' gb107 (.int .i64 ((rd_T40 l0 x4_1).f0)) (.int .i64 t106)) (ds := []) (tf 0 13) (by kernel_rfl) rfl rfl ⟨z0 _ BK107.out, z1 _ BK107.out⟩ (fun hHeld => ?_); refine with_tabW spec_l2Spans.tab9 spec_l2Spans.bits9 (fun HT_ HW_ => ?_)
              generalize w25.drew = w27 at HO_3 BK107 HB HR115 HR128 hHeld ⊢
              refine pv HT_ 1 45 (tr [0, 1, 1, 11]) ?_
              refine pv HT_ 2 46 (tr [0, 1, 2, 10]) ?_
              refine pv HT_ 3 47 (tr [0, 1, 3, 9]) ?_
              refine pv HT_ 8 52 (tr [0, 1, 3, 4, 1, 4]) ?_
              refine pv HT_ 9 53 (tr [0, 1, 3, 4, 2, 3]) ?_
              refine pv HT_ 10 54 (tr [0, 1, 3, 4, 3, 2]) ?_
              refine tk 5 (some 49) (tr [0, 1, 3, 1, 1, 2, 3, 2]) (take_ofW HT_.out HW_.out (by kernel_rfl)) hHeld ?_
              refine join_ (σ := Value × Value × Value) 3 (tr [7, 1, 3, 2]) (fun s_ => [(44, s_.1), (48, s_.2.1), (50, s_.2.2)]) (fun s_ w' => (w'.cell? ⟨gb107, 0, none⟩ = some (.int .i64 ((rd_T40 l0 x4_1).f0)) ∧ w'.cell? ⟨gb107, 1, none⟩ = some (.int .i64 t106)) ∧ (Kd.R k72 72 w' w.heap.size (fun k_ => some k_ ≠ (s_.2.2 : Value).ownBlock ∧ some k_ ≠ (.slice (some ad108) x3_1.length co26 : Value).ownBlock ∧ k_ ≠ gb107) s_.2.1 y116) ∧ (Kd.R k72 72 w' w.heap.size (fun k_ => some k_ ≠ (s_.2.1 : Value).ownBlock ∧ some k_ ≠ (.slice (some ad108) x3_1.length co26 : Value).ownBlock ∧ k_ ≠ gb107) s_.2.2 y119) ∧ (Kd.R k72 72 w' w.heap.size (fun k_ => some k_ ≠ (s_.2.1 : Value).ownBlock ∧ some k_ ≠ (s_.2.2 : Value).ownBlock ∧ k_ ≠ gb107) (.slice (some ad108) x3_1.length co26) x3_1) ∧ (w'.heap[gb107]? = some (.cells #[.int .i64 ((rd_T40 l0 x4_1).f0), .int .i64 t106] 72 (0, 0))) ∧ (Below w.heap.size w w')) ?_ ?_
              rotate_left
              ·intro hCont
               refine two_ (i := 0) (j := 6) (Ni := some 44) (Nj := some 50) (tr [4, 1, 1, 2, 3, 2]) (tr [0, 1, 3, 1, 2, 1, 3, 2]) rfl rfl rfl rfl (two_of HT_.out (by kernel_rfl)) (by decide) (by decide) (fun K hK => ?_) (fun K hK => ?_)
               ·skip
                refine Kd.R_lit_step k72 _ 72 ?hg (N := 44) ?hd (xs := ([] : List (S72))) (inner := []) (ok := fun _ => True) (okp := fun _ => True) ?hr ?hp (fun _ hk => hk) trivial (Below.refl _ _) (Nat.le_refl _) (by simp) ?_; (case hd => rfl); (case hg => rfl); (case hr => first | (go_simp; done) | (go_simp; rfl)); (case hp => exact (Reps.none _ _))
                intro v110 w30 ho31 hb hg_ hnew_
                clear hg_ hnew_
                (first | rw [← Ny109.out] at ho31 | (simp only [Int.reduceToNat] at ho31; rw [← Ny109.out] at ho31))
                have HO111 := am (Kd.R_lower (Kd.R_newB (Kd.R_new' ho31 (Kd.R_lt (KR HO_3))) (g := gb107) (o := .cells #[.int .i64 ((rd_T40 l0 x4_1).f0), .int .i64 t106] 72 (0, 0)) (KB BK107)) (below_size (K1 HB GE107.out)))
                replace HO_3 := am (Kd.R_elder' (KR HO_3) (Kd.R_base ho31) hb)
                replace BK107 := am (BB BK107 hb)
                replace HR115 := am (Kd.C_below (by repeat (first | (with_reducible exact HR115.out) | (with_reducible refine Kd.C_alloc ?_ _) | (with_reducible refine Kd.C_drewN ?_ _) | (with_reducible refine Kd.C_drew ?_) | exact HR115.out)) hb)
                replace HR128 := am (Kd.C_below (by repeat (first | (with_reducible exact HR128.out) | (with_reducible refine Kd.C_alloc ?_ _) | (with_reducible refine Kd.C_drewN ?_ _) | (with_reducible refine Kd.C_drew ?_) | exact HR128.out)) hb)
                replace HB := am (below_step (K1 HB GE107.out) hb)
                clear hb ho31
                refine hK.out _ _ ⟨z0 _ BK107.out, z1 _ BK107.out⟩ (fun hHeld => ?_)
                clear hK K
                refine norm_ (a' := ?_) ?_ ?_
                rotate_left
                ·show Act.put _ (some 44) _ = _
                 simp only [Act.put, List.setIfInBounds_toArray, List.set_cons_zero, List.set_cons_succ, i64_w, i32_w]
                 rfl
                refine two_ (i := 4) (j := 6) (Ni := some 48) (Nj := some 50) (tr [6, 2, 3, 2]) (tr [4, 1, 2, 1, 3, 2]) rfl rfl rfl rfl (two_of HT_.out (by kernel_rfl)) (by decide) (by decide) (fun K hK => ?_) (fun K hK => ?_)
                ·skip
                 refine Kd.R_append_rows_step k72 (w0 := w) w.heap.size (by rfl) (.tmp 44) (.tmp 47) 73 72 (.agg #[(.int .i64 0), (.int .i64 0)]) 16 rfl Try.underlying73 info72 rfl (by decide) (by omega) v110 y109 y112 _ _ _ (fun k_ => some k_ ≠ (.slice (some ad108) x3_1.length co26 : Value).ownBlock ∧ k_ ≠ gb107) (fun _ => False) rfl rfl ?aO ?aR (fun _ _ h => h) (fun _ h => h.elim) ?aF ?aB ?aS ?aL ?_
                 (case aR => repeat (first | exact (by repeat (first | (with_reducible exact HR115.out) | (with_reducible refine Kd.C_alloc ?_ _) | (with_reducible refine Kd.C_drewN ?_ _) | (with_reducible refine Kd.C_drew ?_) | exact HR115.out)) | (with_reducible refine Kd.C_alloc ?_ _) | (with_reducible refine Kd.C_drewN ?_ _) | (with_reducible refine Kd.C_drew ?_)))
                 (case aB => exact (K1 HB GE107.out))
                 (case aF => exact (fun k_ hk => ⟨Kd.fresh' (Kd.R_lt (KR HO_3)) k_ hk, Kd.freshB (g := gb107) (o := .cells #[.int .i64 ((rd_T40 l0 x4_1).f0), .int .i64 t106] 72 (0, 0)) (KB BK107) k_ hk⟩))
                 (case aO => exact (by (with_reducible repeat (first | apply Kd.R_alloc | apply Kd.R_drewN | apply Kd.R_drew)); exact Kd.R_mono HO111.out (fun _ hk => ⟨hk.1.2, hk.2⟩)))
                 (case aS => exact (below_size (K1 HB GE107.out)))
                 (case aL => have := LMc20.out; omega)
                 intro v117 w32 ho hb hg hat
                 rw [← Ny116.out] at ho
                 replace BK107 := am (blk_grown (g := gb107) (o := .cells #[.int .i64 ((rd_T40 l0 x4_1).f0), .int .i64 t106] 72 (0, 0)) (KB BK107) hg (Kd.R_away HO111.out (fun _ hk => hk.2)))
                 replace HB := am (hb)
                 replace HR115 := am ((show Kd.C k72 w32 (some ad108) y112.length y112 from by rw [Ny112.out]; exact Kd.C_take (m := (x6_2 : Int).toNat) ((Kd.R_reads' (Kd.R_after (ok := (fun k_ => k_ ≠ gb107)) (KR HO_3) hg hat)).2.2) KL28.out))
                 replace HR128 := am ((show Kd.C k72 w32 A29 y125.length y125 from by rw [Ny125.out, KA29.out]; exact Kd.C_drop (m := (x6_2 : Int).toNat) (c := co26) ((Kd.R_reads' (Kd.R_after (ok := (fun k_ => k_ ≠ gb107)) (KR HO_3) hg hat)).2.2) KL29.out ((Kd.R_reads' (Kd.R_after (ok := (fun k_ => k_ ≠ gb107)) (KR HO_3) hg hat)).2.1)))
                 replace HO_3 := am (Kd.R_after (ok := (fun k_ => k_ ≠ gb107)) (KR HO_3) hg hat)
                 have HO118 := am (ho)
                 clear HO111
                 clear ho hb hg hat
                 refine hK.out _ _ ⟨z0 _ BK107.out, z1 _ BK107.out⟩ (fun hHeld => ?_)
                 clear hK K
                 refine norm_ (a' := ?_) ?_ ?_
                 rotate_left
                 ·show Act.put _ (some 48) _ = _
                  simp only [Act.put, List.setIfInBounds_toArray, List.set_cons_zero, List.set_cons_succ, i64_w, i32_w]
                  rfl
                 refine one_ (i := 6) (N := some 50) (tr [7, 1, 3, 2]) rfl rfl (one_of HT_.out (by kernel_rfl)) (by decide) (fun K hK => ?_)
                 refine Kd.R_lit_step k72 _ 72 ?hg (N := 50) ?hd (xs := ([(⟨((rd_T40 l0 x4_1).f0), t106⟩ : S72)] : List (S72))) (inner := [.int .i64 ((rd_T40 l0 x4_1).f0), .int .i64 t106]) (ok := fun _ => True) (okp := fun _ => True) ?hr ?hp (fun _ hk => hk) trivial (Below.refl _ _) (Nat.le_refl _) (by simp) ?_; (case hd => rfl); (case hg => rfl); (case hr => first | (go_simp; done) | (go_simp; rfl)); (case hp => exact (Reps.c2 (show Kd.M k72 _ _ _ (⟨((rd_T40 l0 x4_1).f0), t106⟩ : S72) [.int .i64 ((rd_T40 l0 x4_1).f0), .int .i64 t106] from (k72_mkM _ _ _ (⟨((rd_T40 l0 x4_1).f0), t106⟩ : S72) )) (Reps.none _ _)))
                 intro v120 w33 ho34 hb hg_ hnew_
                 clear hg_ hnew_
                 (first | rw [← Ny119.out] at ho34 | (simp only [Int.reduceToNat] at ho34; rw [← Ny119.out] at ho34))
                 have HO121 := am (Kd.R_lower (Kd.R_newB (Kd.R_new' (Kd.R_new' ho34 (Kd.R_lt (KR HO_3))) (Kd.R_lt (KR HO118))) (g := gb107) (o := .cells #[.int .i64 ((rd_T40 l0 x4_1).f0), .int .i64 t106] 72 (0, 0)) (KB BK107)) (below_size (K1 HB GE107.out)))
                 replace HO_3 := am (Kd.R_elder' (KR HO_3) (Kd.R_base ho34) hb)
                 replace HO118 := am (Kd.R_elder' (KR HO118) (Kd.R_base ho34) hb)
                 replace BK107 := am (BB BK107 hb)
                 replace HR115 := am (Kd.C_below (by repeat (first | (with_reducible exact HR115.out) | (with_reducible refine Kd.C_alloc ?_ _) | (with_reducible refine Kd.C_drewN ?_ _) | (with_reducible refine Kd.C_drew ?_) | exact HR115.out)) hb)
                 replace HR128 := am (Kd.C_below (by repeat (first | (with_reducible exact HR128.out) | (with_reducible refine Kd.C_alloc ?_ _) | (with_reducible refine Kd.C_drewN ?_ _) | (with_reducible refine Kd.C_drew ?_) | exact HR128.out)) hb)
                 replace HB := am (below_step (K1 HB GE107.out) hb)
                 clear hb ho34
                 refine hK.out _ _ ⟨z0 _ BK107.out, z1 _ BK107.out⟩ (fun hHeld => ?_)
                 clear hK K
                 refine norm_ (a' := ?_) ?_ ?_
                 rotate_left
                 ·show Act.put _ (some 50) _ = _
                  simp only [Act.put, List.setIfInBounds_toArray, List.set_cons_zero, List.set_cons_succ, i64_w, i32_w]
                  rfl
                 exact norm_ (by simp only [putAll, Act.put, List.setIfInBounds_toArray, List.set_cons_zero, List.set_cons_succ]) (hCont (v110, v117, v120) _ ⟨hHeld, (by (with_reducible repeat (first | apply Kd.R_alloc | apply Kd.R_drewN | apply Kd.R_drew)); exact Kd.R_mono HO118.out (fun _ hk => ⟨hk.2, ⟨hk.1.1, hk.1.2⟩⟩)), (by (with_reducible repeat (first | apply Kd.R_alloc | apply Kd.R_drewN | apply Kd.R_drew)); exact Kd.R_mono HO121.out (fun _ hk => ⟨hk.1.2, ⟨hk.1.1.2, hk.2⟩⟩)), (by (with_reducible repeat (first | apply Kd.R_alloc | apply Kd.R_drewN | apply Kd.R_drew)); exact Kd.R_mono HO_3.out (fun _ hk => ⟨hk.1.2, ⟨hk.2, hk.1.1⟩⟩)), (KB BK107), (K1 HB GE107.out)⟩)
                ·skip
                 refine Kd.R_lit_step k72 _ 72 ?hg (N := 50) ?hd (xs := ([(⟨((rd_T40 l0 x4_1).f0), t106⟩ : S72)] : List (S72))) (inner := [.int .i64 ((rd_T40 l0 x4_1).f0), .int .i64 t106]) (ok := fun _ => True) (okp := fun _ => True) ?hr ?hp (fun _ hk => hk) trivial (Below.refl _ _) (Nat.le_refl _) (by simp) ?_; (case hd => rfl); (case hg => rfl); (case hr => first | (go_simp; done) | (go_simp; rfl)); (case hp => exact (Reps.c2 (show Kd.M k72 _ _ _ (⟨((rd_T40 l0 x4_1).f0), t106⟩ : S72) [.int .i64 ((rd_T40 l0 x4_1).f0), .int .i64 t106] from (k72_mkM _ _ _ (⟨((rd_T40 l0 x4_1).f0), t106⟩ : S72) )) (Reps.none _ _)))
                 intro v120 w32 ho33 hb hg_ hnew_
                 clear hg_ hnew_
                 (first | rw [← Ny119.out] at ho33 | (simp only [Int.reduceToNat] at ho33; rw [← Ny119.out] at ho33))
                 have HO121 := am (Kd.R_lower (Kd.R_newB (Kd.R_new' (Kd.R_new' ho33 (Kd.R_lt (KR HO_3))) (Kd.R_lt (KR HO111))) (g := gb107) (o := .cells #[.int .i64 ((rd_T40 l0 x4_1).f0), .int .i64 t106] 72 (0, 0)) (KB BK107)) (below_size (K1 HB GE107.out)))
                 replace HO_3 := am (Kd.R_elder' (KR HO_3) (Kd.R_base ho33) hb)
                 replace HO111 := am (Kd.R_elder' (KR HO111) (Kd.R_base ho33) hb)
                 replace BK107 := am (BB BK107 hb)
                 replace HR115 := am (Kd.C_below (by repeat (first | (with_reducible exact HR115.out) | (with_reducible refine Kd.C_alloc ?_ _) | (with_reducible refine Kd.C_drewN ?_ _) | (with_reducible refine Kd.C_drew ?_) | exact HR115.out)) hb)
                 replace HR128 := am (Kd.C_below (by repeat (first | (with_reducible exact HR128.out) | (with_reducible refine Kd.C_alloc ?_ _) | (with_reducible refine Kd.C_drewN ?_ _) | (with_reducible refine Kd.C_drew ?_) | exact HR128.out)) hb)
                 replace HB := am (below_step (K1 HB GE107.out) hb)
                 clear hb ho33
                 refine hK.out _ _ ⟨z0 _ BK107.out, z1 _ BK107.out⟩ (fun hHeld => ?_)
                 clear hK K
                 refine norm_ (a' := ?_) ?_ ?_
                 rotate_left
                 ·show Act.put _ (some 50) _ = _
                  simp only [Act.put, List.setIfInBounds_toArray, List.set_cons_zero, List.set_cons_succ, i64_w, i32_w]
                  rfl
                 refine one_ (i := 4) (N := some 48) (tr [7, 1, 3, 2]) rfl rfl (one_of HT_.out (by kernel_rfl)) (by decide) (fun K hK => ?_)
                 refine Kd.R_append_rows_step k72 (w0 := w) w.heap.size (by rfl) (.tmp 44) (.tmp 47) 73 72 (.agg #[(.int .i64 0), (.int .i64 0)]) 16 rfl Try.underlying73 info72 rfl (by decide) (by omega) v110 y109 y112 _ _ _ (fun k_ => some k_ ≠ (.slice (some ad108) x3_1.length co26 : Value).ownBlock ∧ some k_ ≠ (v120 : Value).ownBlock ∧ k_ ≠ gb107) (fun _ => False) rfl rfl ?aO ?aR (fun _ _ h => h) (fun _ h => h.elim) ?aF ?aB ?aS ?aL ?_
                 (case aR => repeat (first | exact (by repeat (first | (with_reducible exact HR115.out) | (with_reducible refine Kd.C_alloc ?_ _) | (with_reducible refine Kd.C_drewN ?_ _) | (with_reducible refine Kd.C_drew ?_) | exact HR115.out)) | (with_reducible refine Kd.C_alloc ?_ _) | (with_reducible refine Kd.C_drewN ?_ _) | (with_reducible refine Kd.C_drew ?_)))
                 (case aB => exact (K1 HB GE107.out))
                 (case aF => exact (fun k_ hk => ⟨Kd.fresh' (Kd.R_lt (KR HO_3)) k_ hk, Kd.fresh' (Kd.R_lt (KR HO121)) k_ hk, Kd.freshB (g := gb107) (o := .cells #[.int .i64 ((rd_T40 l0 x4_1).f0), .int .i64 t106] 72 (0, 0)) (KB BK107) k_ hk⟩))
                 (case aO => exact (by (with_reducible repeat (first | apply Kd.R_alloc | apply Kd.R_drewN | apply Kd.R_drew)); exact Kd.R_mono HO111.out (fun _ hk => ⟨hk.1.1.2, ⟨hk.2, hk.1.2⟩⟩)))
                 (case aS => exact (below_size (K1 HB GE107.out)))
                 (case aL => have := LMc20.out; omega)
                 intro v117 w34 ho hb hg hat
                 rw [← Ny116.out] at ho
                 replace BK107 := am (blk_grown (g := gb107) (o := .cells #[.int .i64 ((rd_T40 l0 x4_1).f0), .int .i64 t106] 72 (0, 0)) (KB BK107) hg (Kd.R_away HO111.out (fun _ hk => hk.1.2)))
                 replace HO121 := am (Kd.R_after (ok := (fun k_ => some k_ ≠ (.slice (some ad108) x3_1.length co26 : Value).ownBlock ∧ k_ ≠ gb107)) (by (with_reducible repeat (first | apply Kd.R_alloc | apply Kd.R_drewN | apply Kd.R_drew)); exact Kd.R_mono HO121.out (fun _ hk => ⟨⟨hk.1.1.2, hk.2⟩, hk.1.2⟩)) hg hat)
                 replace HB := am (hb)
                 replace HR115 := am ((show Kd.C k72 w34 (some ad108) y112.length y112 from by rw [Ny112.out]; exact Kd.C_take (m := (x6_2 : Int).toNat) ((Kd.R_reads' (Kd.R_after (ok := (fun k_ => some k_ ≠ (v120 : Value).ownBlock ∧ k_ ≠ gb107)) (by (with_reducible repeat (first | apply Kd.R_alloc | apply Kd.R_drewN | apply Kd.R_drew)); exact Kd.R_mono HO_3.out (fun _ hk => ⟨⟨hk.2, hk.1.1⟩, hk.1.2⟩)) hg hat)).2.2) KL28.out))
                 replace HR128 := am ((show Kd.C k72 w34 A29 y125.length y125 from by rw [Ny125.out, KA29.out]; exact Kd.C_drop (m := (x6_2 : Int).toNat) (c := co26) ((Kd.R_reads' (Kd.R_after (ok := (fun k_ => some k_ ≠ (v120 : Value).ownBlock ∧ k_ ≠ gb107)) (by (with_reducible repeat (first | apply Kd.R_alloc | apply Kd.R_drewN | apply Kd.R_drew)); exact Kd.R_mono HO_3.out (fun _ hk => ⟨⟨hk.2, hk.1.1⟩, hk.1.2⟩)) hg hat)).2.2) KL29.out ((Kd.R_reads' (Kd.R_after (ok := (fun k_ => some k_ ≠ (v120 : Value).ownBlock ∧ k_ ≠ gb107)) (by (with_reducible repeat (first | apply Kd.R_alloc | apply Kd.R_drewN | apply Kd.R_drew)); exact Kd.R_mono HO_3.out (fun _ hk => ⟨⟨hk.2, hk.1.1⟩, hk.1.2⟩)) hg hat)).2.1)))
                 replace HO_3 := am (Kd.R_after (ok := (fun k_ => some k_ ≠ (v120 : Value).ownBlock ∧ k_ ≠ gb107)) (by (with_reducible repeat (first | apply Kd.R_alloc | apply Kd.R_drewN | apply Kd.R_drew)); exact Kd.R_mono HO_3.out (fun _ hk => ⟨⟨hk.2, hk.1.1⟩, hk.1.2⟩)) hg hat)
                 have HO118 := am (ho)
                 clear HO111
                 clear ho hb hg hat
                 refine hK.out _ _ ⟨z0 _ BK107.out, z1 _ BK107.out⟩ (fun hHeld => ?_)
                 clear hK K
                 refine norm_ (a' := ?_) ?_ ?_
                 rotate_left
                 ·show Act.put _ (some 48) _ = _
                  simp only [Act.put, List.setIfInBounds_toArray, List.set_cons_zero, List.set_cons_succ, i64_w, i32_w]
                  rfl
                 exact norm_ (by simp only [putAll, Act.put, List.setIfInBounds_toArray, List.set_cons_zero, List.set_cons_succ]) (hCont (v110, v117, v120) _ ⟨hHeld, (by (with_reducible repeat (first | apply Kd.R_alloc | apply Kd.R_drewN | apply Kd.R_drew)); exact Kd.R_mono HO118.out (fun _ hk => ⟨hk.2.1, ⟨hk.1, hk.2.2⟩⟩)), (by (with_reducible repeat (first | apply Kd.R_alloc | apply Kd.R_drewN | apply Kd.R_drew)); exact Kd.R_mono HO121.out (fun _ hk => ⟨hk.2, ⟨hk.1.1, hk.1.2⟩⟩)), (by (with_reducible repeat (first | apply Kd.R_alloc | apply Kd.R_drewN | apply Kd.R_drew)); exact Kd.R_mono HO_3.out (fun _ hk => ⟨hk.2, ⟨hk.1.1, hk.1.2⟩⟩)), (KB BK107), (K1 HB GE107.out)⟩)
               ·skip
                refine Kd.R_lit_step k72 _ 72 ?hg (N := 50) ?hd (xs := ([(⟨((rd_T40 l0 x4_1).f0), t106⟩ : S72)] : List (S72))) (inner := [.int .i64 ((rd_T40 l0 x4_1).f0), .int .i64 t106]) (ok := fun _ => True) (okp := fun _ => True) ?hr ?hp (fun _ hk => hk) trivial (Below.refl _ _) (Nat.le_refl _) (by simp) ?_; (case hd => rfl); (case hg => rfl); (case hr => first | (go_simp; done) | (go_simp; rfl)); (case hp => exact (Reps.c2 (show Kd.M k72 _ _ _ (⟨((rd_T40 l0 x4_1).f0), t106⟩ : S72) [.int .i64 ((rd_T40 l0 x4_1).f0), .int .i64 t106] from (k72_mkM _ _ _ (⟨((rd_T40 l0 x4_1).f0), t106⟩ : S72) )) (Reps.none _ _)))
                intro v120 w30 ho31 hb hg_ hnew_
                clear hg_ hnew_
                (first | rw [← Ny119.out] at ho31 | (simp only [Int.reduceToNat] at ho31; rw [← Ny119.out] at ho31))
                have HO121 := am (Kd.R_lower (Kd.R_newB (Kd.R_new' ho31 (Kd.R_lt (KR HO_3))) (g := gb107) (o := .cells #[.int .i64 ((rd_T40 l0 x4_1).f0), .int .i64 t106] 72 (0, 0)) (KB BK107)) (below_size (K1 HB GE107.out)))
                replace HO_3 := am (Kd.R_elder' (KR HO_3) (Kd.R_base ho31) hb)
                replace BK107 := am (BB BK107 hb)
                replace HR115 := am (Kd.C_below (by repeat (first | (with_reducible exact HR115.out) | (with_reducible refine Kd.C_alloc ?_ _) | (with_reducible refine Kd.C_drewN ?_ _) | (with_reducible refine Kd.C_drew ?_) | exact HR115.out)) hb)
                replace HR128 := am (Kd.C_below (by repeat (first | (with_reducible exact HR128.out) | (with_reducible refine Kd.C_alloc ?_ _) | (with_reducible refine Kd.C_drewN ?_ _) | (with_reducible refine Kd.C_drew ?_) | exact HR128.out)) hb)
                replace HB := am (below_step (K1 HB GE107.out) hb)
                clear hb ho31
                refine hK.out _ _ ⟨z0 _ BK107.out, z1 _ BK107.out⟩ (fun hHeld => ?_)
                clear hK K
                refine norm_ (a' := ?_) ?_ ?_
                rotate_left
                ·show Act.put _ (some 50) _ = _
                 simp only [Act.put, List.setIfInBounds_toArray, List.set_cons_zero, List.set_cons_succ, i64_w, i32_w]
                 rfl
                refine one_ (i := 0) (N := some 44) (tr [4, 1, 2, 1, 3, 2]) rfl rfl (one_of HT_.out (by kernel_rfl)) (by decide) (fun K hK => ?_)
                refine Kd.R_lit_step k72 _ 72 ?hg (N := 44) ?hd (xs := ([] : List (S72))) (inner := []) (ok := fun _ => True) (okp := fun _ => True) ?hr ?hp (fun _ hk => hk) trivial (Below.refl _ _) (Nat.le_refl _) (by simp) ?_; (case hd => rfl); (case hg => rfl); (case hr => first | (go_simp; done) | (go_simp; rfl)); (case hp => exact (Reps.none _ _))
                intro v110 w32 ho33 hb hg_ hnew_
                clear hg_ hnew_
                (first | rw [← Ny109.out] at ho33 | (simp only [Int.reduceToNat] at ho33; rw [← Ny109.out] at ho33))
                have HO111 := am (Kd.R_lower (Kd.R_newB (Kd.R_new' (Kd.R_new' ho33 (Kd.R_lt (KR HO_3))) (Kd.R_lt (KR HO121))) (g := gb107) (o := .cells #[.int .i64 ((rd_T40 l0 x4_1).f0), .int .i64 t106] 72 (0, 0)) (KB BK107)) (below_size (K1 HB GE107.out)))
                replace HO_3 := am (Kd.R_elder' (KR HO_3) (Kd.R_base ho33) hb)
                replace HO121 := am (Kd.R_elder' (KR HO121) (Kd.R_base ho33) hb)
                replace BK107 := am (BB BK107 hb)
                replace HR115 := am (Kd.C_below (by repeat (first | (with_reducible exact HR115.out) | (with_reducible refine Kd.C_alloc ?_ _) | (with_reducible refine Kd.C_drewN ?_ _) | (with_reducible refine Kd.C_drew ?_) | exact HR115.out)) hb)
                replace HR128 := am (Kd.C_below (by repeat (first | (with_reducible exact HR128.out) | (with_reducible refine Kd.C_alloc ?_ _) | (with_reducible refine Kd.C_drewN ?_ _) | (with_reducible refine Kd.C_drew ?_) | exact HR128.out)) hb)
                replace HB := am (below_step (K1 HB GE107.out) hb)
                clear hb ho33
                refine hK.out _ _ ⟨z0 _ BK107.out, z1 _ BK107.out⟩ (fun hHeld => ?_)
                clear hK K
                refine norm_ (a' := ?_) ?_ ?_
                rotate_left
                ·show Act.put _ (some 44) _ = _
                 simp only [Act.put, List.setIfInBounds_toArray, List.set_cons_zero, List.set_cons_succ, i64_w, i32_w]
                 rfl
                refine one_ (i := 4) (N := some 48) (tr [7, 1, 3, 2]) rfl rfl (one_of HT_.out (by kernel_rfl)) (by decide) (fun K hK => ?_)
                refine Kd.R_append_rows_step k72 (w0 := w) w.heap.size (by rfl) (.tmp 44) (.tmp 47) 73 72 (.agg #[(.int .i64 0), (.int .i64 0)]) 16 rfl Try.underlying73 info72 rfl (by decide) (by omega) v110 y109 y112 _ _ _ (fun k_ => some k_ ≠ (.slice (some ad108) x3_1.length co26 : Value).ownBlock ∧ some k_ ≠ (v120 : Value).ownBlock ∧ k_ ≠ gb107) (fun _ => False) rfl rfl ?aO ?aR (fun _ _ h => h) (fun _ h => h.elim) ?aF ?aB ?aS ?aL ?_
                (case aR => repeat (first | exact (by repeat (first | (with_reducible exact HR115.out) | (with_reducible refine Kd.C_alloc ?_ _) | (with_reducible refine Kd.C_drewN ?_ _) | (with_reducible refine Kd.C_drew ?_) | exact HR115.out)) | (with_reducible refine Kd.C_alloc ?_ _) | (with_reducible refine Kd.C_drewN ?_ _) | (with_reducible refine Kd.C_drew ?_)))
                (case aB => exact (K1 HB GE107.out))
                (case aF => exact (fun k_ hk => ⟨Kd.fresh' (Kd.R_lt (KR HO_3)) k_ hk, Kd.fresh' (Kd.R_lt (KR HO121)) k_ hk, Kd.freshB (g := gb107) (o := .cells #[.int .i64 ((rd_T40 l0 x4_1).f0), .int .i64 t106] 72 (0, 0)) (KB BK107) k_ hk⟩))
                (case aO => exact (by (with_reducible repeat (first | apply Kd.R_alloc | apply Kd.R_drewN | apply Kd.R_drew)); exact Kd.R_mono HO111.out (fun _ hk => ⟨hk.1.1.2, ⟨hk.1.2, hk.2⟩⟩)))
                (case aS => exact (below_size (K1 HB GE107.out)))
                (case aL => have := LMc20.out; omega)
                intro v117 w34 ho hb hg hat
                rw [← Ny116.out] at ho
                replace BK107 := am (blk_grown (g := gb107) (o := .cells #[.int .i64 ((rd_T40 l0 x4_1).f0), .int .i64 t106] 72 (0, 0)) (KB BK107) hg (Kd.R_away HO111.out (fun _ hk => hk.2)))
                replace HO121 := am (Kd.R_after (ok := (fun k_ => some k_ ≠ (.slice (some ad108) x3_1.length co26 : Value).ownBlock ∧ k_ ≠ gb107)) (by (with_reducible repeat (first | apply Kd.R_alloc | apply Kd.R_drewN | apply Kd.R_drew)); exact Kd.R_mono HO121.out (fun _ hk => ⟨⟨hk.1.1.2, hk.1.2⟩, hk.2⟩)) hg hat)
                replace HB := am (hb)
                replace HR115 := am ((show Kd.C k72 w34 (some ad108) y112.length y112 from by rw [Ny112.out]; exact Kd.C_take (m := (x6_2 : Int).toNat) ((Kd.R_reads' (Kd.R_after (ok := (fun k_ => some k_ ≠ (v120 : Value).ownBlock ∧ k_ ≠ gb107)) (by (with_reducible repeat (first | apply Kd.R_alloc | apply Kd.R_drewN | apply Kd.R_drew)); exact Kd.R_mono HO_3.out (fun _ hk => ⟨⟨hk.1.2, hk.1.1⟩, hk.2⟩)) hg hat)).2.2) KL28.out))
                replace HR128 := am ((show Kd.C k72 w34 A29 y125.length y125 from by rw [Ny125.out, KA29.out]; exact Kd.C_drop (m := (x6_2 : Int).toNat) (c := co26) ((Kd.R_reads' (Kd.R_after (ok := (fun k_ => some k_ ≠ (v120 : Value).ownBlock ∧ k_ ≠ gb107)) (by (with_reducible repeat (first | apply Kd.R_alloc | apply Kd.R_drewN | apply Kd.R_drew)); exact Kd.R_mono HO_3.out (fun _ hk => ⟨⟨hk.1.2, hk.1.1⟩, hk.2⟩)) hg hat)).2.2) KL29.out ((Kd.R_reads' (Kd.R_after (ok := (fun k_ => some k_ ≠ (v120 : Value).ownBlock ∧ k_ ≠ gb107)) (by (with_reducible repeat (first | apply Kd.R_alloc | apply Kd.R_drewN | apply Kd.R_drew)); exact Kd.R_mono HO_3.out (fun _ hk => ⟨⟨hk.1.2, hk.1.1⟩, hk.2⟩)) hg hat)).2.1)))
                replace HO_3 := am (Kd.R_after (ok := (fun k_ => some k_ ≠ (v120 : Value).ownBlock ∧ k_ ≠ gb107)) (by (with_reducible repeat (first | apply Kd.R_alloc | apply Kd.R_drewN | apply Kd.R_drew)); exact Kd.R_mono HO_3.out (fun _ hk => ⟨⟨hk.1.2, hk.1.1⟩, hk.2⟩)) hg hat)
                have HO118 := am (ho)
                clear HO111
                clear ho hb hg hat
                refine hK.out _ _ ⟨z0 _ BK107.out, z1 _ BK107.out⟩ (fun hHeld => ?_)
                clear hK K
                refine norm_ (a' := ?_) ?_ ?_
                rotate_left
                ·show Act.put _ (some 48) _ = _
                 simp only [Act.put, List.setIfInBounds_toArray, List.set_cons_zero, List.set_cons_succ, i64_w, i32_w]
                 rfl
                exact norm_ (by simp only [putAll, Act.put, List.setIfInBounds_toArray, List.set_cons_zero, List.set_cons_succ]) (hCont (v110, v117, v120) _ ⟨hHeld, (by (with_reducible repeat (first | apply Kd.R_alloc | apply Kd.R_drewN | apply Kd.R_drew)); exact Kd.R_mono HO118.out (fun _ hk => ⟨hk.2.1, ⟨hk.1, hk.2.2⟩⟩)), (by (with_reducible repeat (first | apply Kd.R_alloc | apply Kd.R_drewN | apply Kd.R_drew)); exact Kd.R_mono HO121.out (fun _ hk => ⟨hk.2, ⟨hk.1.1, hk.1.2⟩⟩)), (by (with_reducible repeat (first | apply Kd.R_alloc | apply Kd.R_drewN | apply Kd.R_drew)); exact Kd.R_mono HO_3.out (fun _ hk => ⟨hk.2, ⟨hk.1.1, hk.1.2⟩⟩)), (KB BK107), (K1 HB GE107.out)⟩)
              rintro ⟨v110, v117, v120⟩ w35 ⟨hS_, h0_, h1_, h2_, h3_, h4_⟩
              have HO118 : Aside0 (Kd.R k72 72 w35 w.heap.size (fun k_ => some k_ ≠ (v120 : Value).ownBlock ∧ some k_ ≠ (.slice (some ad108) x3_1.length co26 : Value).ownBlock ∧ k_ ≠ gb107) v117 y116) := ⟨h0_⟩
              have HO121 : Aside0 (Kd.R k72 72 w35 w.heap.size (fun k_ => some k_ ≠ (v117 : Value).ownBlock ∧ some k_ ≠ (.slice (some ad108) x3_1.length co26 : Value).ownBlock ∧ k_ ≠ gb107) v120 y119) := ⟨h1_⟩
              replace HO_3 : Aside0 (Kd.R k72 72 w35 w.heap.size (fun k_ => some k_ ≠ (v117 : Value).ownBlock ∧ some k_ ≠ (v120 : Value).ownBlock ∧ k_ ≠ gb107) (.slice (some ad108) x3_1.length co26) x3_1) := ⟨h2_⟩
              replace BK107 : Aside0 (bk w35 gb107 #[.int .i64 ((rd_T40 l0 x4_1).f0), .int .i64 t106] 72) := ⟨h3_⟩
              replace HB : Aside0 (Below w.heap.size w w35) := ⟨h4_⟩
              clear h0_ h1_ h2_ h3_ h4_
              have hHeld : de2 w35 gb107 (.int .i64 ((rd_T40 l0 x4_1).f0)) (.int .i64 t106) := hS_
              have HR128 := am (show Kd.C k72 w35 A29 y125.length y125 from by rw [Ny125.out, KA29.out]; exact Kd.C_drop (m := (x6_2 : Int).toNat) (c := co26) ((Kd.R_reads' HO_3.out).2.2) KL29.out ((Kd.R_reads' HO_3.out).2.1))
              obtain ⟨Ao37, co37, eo37⟩ := Kd.R_slice HO121.out
              (first | subst eo37 | (injection eo37 with f1_ f2_ f3_; have f4_ := f1_.symm; have f5_ := f3_.symm; clear f1_ f2_ f3_; subst f4_; subst f5_))
              refine norm_ (a' := ?_) ?_ ?_
              rotate_left
              ·simp only [putAll, Act.put, List.setIfInBounds_toArray, List.set_cons_zero, List.set_cons_succ]
               rfl
              refine one_ (i := 7) (N := some 51) (tf 11 2) rfl rfl (one_of HT_.out (by kernel_rfl)) (by decide) (fun K hK => ?_)
              refine Kd.R_append_rows_step k72 (w0 := w) w.heap.size (by rfl) (.tmp 48) (.tmp 50) 73 72 (.agg #[(.int .i64 0), (.int .i64 0)]) 16 rfl Try.underlying73 info72 rfl (by decide) (by omega) v117 y116 y119 _ _ _ (fun k_ => some k_ ≠ (.slice (some ad108) x3_1.length co26 : Value).ownBlock ∧ some k_ ≠ (.slice Ao37 y119.length co37 : Value).ownBlock ∧ k_ ≠ gb107) (fun _ => False) rfl rfl ?aO ?aR (fun _ _ h => h) (fun _ h => h.elim) ?aF ?aB ?aS ?aL ?_
              (case aR => exact KC (Kd.R_reads' HO121.out).2.2)
              (case aB => exact (K1 HB GE107.out))
              (case aF => exact (fun k_ hk => ⟨Kd.fresh' (Kd.R_lt (KR HO_3)) k_ hk, Kd.fresh' (Kd.R_lt (KR HO121)) k_ hk, Kd.freshB (g := gb107) (o := .cells #[.int .i64 ((rd_T40 l0 x4_1).f0), .int .i64 t106] 72 (0, 0)) (KB BK107) k_ hk⟩))
              (case aO => exact (by (with_reducible repeat (first | apply Kd.R_alloc | apply Kd.R_drewN | apply Kd.R_drew)); exact Kd.R_mono HO118.out (fun _ hk => ⟨hk.2.1, ⟨hk.1, hk.2.2⟩⟩)))
              (case aS => exact (below_size (K1 HB GE107.out)))
              (case aL => have := LMc21.out; omega)
              intro v123 w36 ho hb hg hat
              rw [← Ny122.out] at ho
              replace BK107 := am (blk_grown (g := gb107) (o := .cells #[.int .i64 ((rd_T40 l0 x4_1).f0), .int .i64 t106] 72 (0, 0)) (KB BK107) hg (Kd.R_away HO118.out (fun _ hk => hk.2.2)))
              replace HO121 := am (Kd.R_after (ok := (fun k_ => some k_ ≠ (.slice (some ad108) x3_1.length co26 : Value).ownBlock ∧ k_ ≠ gb107)) (by (with_reducible repeat (first | apply Kd.R_alloc | apply Kd.R_drewN | apply Kd.R_drew)); exact Kd.R_mono HO121.out (fun _ hk => ⟨⟨hk.2.1, hk.2.2⟩, hk.1⟩)) hg hat)
              replace HB := am (hb)
              replace HR128 := am ((show Kd.C k72 w36 A29 y125.length y125 from by rw [Ny125.out, KA29.out]; exact Kd.C_drop (m := (x6_2 : Int).toNat) (c := co26) ((Kd.R_reads' (Kd.R_after (ok := (fun k_ => some k_ ≠ (.slice Ao37 y119.length co37 : Value).ownBlock ∧ k_ ≠ gb107)) (by (with_reducible repeat (first | apply Kd.R_alloc | apply Kd.R_drewN | apply Kd.R_drew)); exact Kd.R_mono HO_3.out (fun _ hk => ⟨⟨hk.2.1, hk.2.2⟩, hk.1⟩)) hg hat)).2.2) KL29.out ((Kd.R_reads' (Kd.R_after (ok := (fun k_ => some k_ ≠ (.slice Ao37 y119.length co37 : Value).ownBlock ∧ k_ ≠ gb107)) (by (with_reducible repeat (first | apply Kd.R_alloc | apply Kd.R_drewN | apply Kd.R_drew)); exact Kd.R_mono HO_3.out (fun _ hk => ⟨⟨hk.2.1, hk.2.2⟩, hk.1⟩)) hg hat)).2.1)))
              replace HO_3 := am (Kd.R_after (ok := (fun k_ => some k_ ≠ (.slice Ao37 y119.length co37 : Value).ownBlock ∧ k_ ≠ gb107)) (by (with_reducible repeat (first | apply Kd.R_alloc | apply Kd.R_drewN | apply Kd.R_drew)); exact Kd.R_mono HO_3.out (fun _ hk => ⟨⟨hk.2.1, hk.2.2⟩, hk.1⟩)) hg hat)
              have HO124 := am (ho)
              clear HO118
              clear ho hb hg hat
              refine hK.out _ _ ⟨z0 _ BK107.out, z1 _ BK107.out⟩ (fun hHeld => ?_)
              clear hK K
              refine norm_ (a' := ?_) ?_ ?_
              rotate_left
              ·show Act.put _ (some 51) _ = _
               simp only [Act.put, List.setIfInBounds_toArray, List.set_cons_zero, List.set_cons_succ, i64_w, i32_w]
               rfl
              refine one_ (i := 11) (N := some 55) (tf 12 1) rfl rfl (one_of HT_.out (by kernel_rfl)) (by decide) (fun K hK => ?_)
              refine Kd.R_append_rows_step k72 (w0 := w) w.heap.size (by rfl) (.tmp 51) (.tmp 54) 73 72 (.agg #[(.int .i64 0), (.int .i64 0)]) 16 rfl Try.underlying73 info72 rfl (by decide) (by omega) v123 y122 y125 _ _ _ (fun k_ => some k_ ≠ (.slice (some ad108) x3_1.length co26 : Value).ownBlock ∧ some k_ ≠ (.slice Ao37 y119.length co37 : Value).ownBlock ∧ k_ ≠ gb107) (fun _ => False) rfl rfl ?aO ?aR (fun _ _ h => h) (fun _ h => h.elim) ?aF ?aB ?aS ?aL ?_
              (case aR => repeat (first | exact (by repeat (first | (with_reducible exact HR128.out) | (with_reducible refine Kd.C_alloc ?_ _) | (with_reducible refine Kd.C_drewN ?_ _) | (with_reducible refine Kd.C_drew ?_) | exact HR128.out)) | (with_reducible refine Kd.C_alloc ?_ _) | (with_reducible refine Kd.C_drewN ?_ _) | (with_reducible refine Kd.C_drew ?_)))
              (case aB => exact (K1 HB GE107.out))
              (case aF => exact (fun k_ hk => ⟨Kd.fresh' (Kd.R_lt (KR HO_3)) k_ hk, Kd.fresh' (Kd.R_lt (KR HO121)) k_ hk, Kd.freshB (g := gb107) (o := .cells #[.int .i64 ((rd_T40 l0 x4_1).f0), .int .i64 t106] 72 (0, 0)) (KB BK107) k_ hk⟩))
              (case aO => exact (KR HO124))
              (case aS => exact (below_size (K1 HB GE107.out)))
              (case aL => have := LMc24.out; omega)
              intro v130 w38 ho hb hg hat
              rw [← Ny129.out] at ho
              replace BK107 := am (blk_grown (g := gb107) (o := .cells #[.int .i64 ((rd_T40 l0 x4_1).f0), .int .i64 t106] 72 (0, 0)) (KB BK107) hg (Kd.R_away HO124.out (fun _ hk => hk.2.2)))
              replace HO121 := am (Kd.R_after (ok := (fun k_ => some k_ ≠ (.slice (some ad108) x3_1.length co26 : Value).ownBlock ∧ k_ ≠ gb107)) (KR HO121) hg hat)
              replace HB := am (hb)
              replace HR128 := am ((show Kd.C k72 w38 A29 y125.length y125 from by rw [Ny125.out, KA29.out]; exact Kd.C_drop (m := (x6_2 : Int).toNat) (c := co26) ((Kd.R_reads' (Kd.R_after (ok := (fun k_ => some k_ ≠ (.slice Ao37 y119.length co37 : Value).ownBlock ∧ k_ ≠ gb107)) (KR HO_3) hg hat)).2.2) KL29.out ((Kd.R_reads' (Kd.R_after (ok := (fun k_ => some k_ ≠ (.slice Ao37 y119.length co37 : Value).ownBlock ∧ k_ ≠ gb107)) (KR HO_3) hg hat)).2.1)))
              replace HO_3 := am (Kd.R_after (ok := (fun k_ => some k_ ≠ (.slice Ao37 y119.length co37 : Value).ownBlock ∧ k_ ≠ gb107)) (KR HO_3) hg hat)
              have HO131 := am (ho)
              clear HO124
              clear ho hb hg hat
              refine hK.out _ _ ⟨z0 _ BK107.out, z1 _ BK107.out⟩ (fun hHeld => ?_)
              clear hK K
              refine norm_ (a' := ?_) ?_ ?_
              rotate_left
              ·show Act.put _ (some 55) _ = _
               simp only [Act.put, List.setIfInBounds_toArray, List.set_cons_zero, List.set_cons_succ, i64_w, i32_w]
               rfl
              refine pv HT_ 12 3 (tf 13 0) ?_
              refine done_ (done_of HT_.out (by kernel_rfl)) ?_
              try go_wp2
              go_roundg k2
              case measure => have := HK1.out; have := HK2.out; omega
              case rel => exact ⟨(y129), (wrap64 (x4_1 + 1)), (by first | rfl | (simp; done) | (simp [*]; done)), H', ⟨by have := HK1.out; have := HK2.out; omega⟩, ⟨by (with_reducible repeat (first | apply Kd.R_alloc | apply Kd.R_drewN | apply Kd.R_drew)); exact Kd.R_mono HO131.out (fun _ hk => trivial)⟩, ⟨K1 HB GE107.out⟩⟩
             ·rw [if_neg c24] at H
              exact absurd H (by simp)
            ·rw [if_neg c21] at H
             exact absurd H (by simp)
           ·rw [if_neg c20] at H
            exact absurd H (by simp)
          ·rw [if_neg c19] at H
           exact absurd H (by simp)
        ·rw [if_neg c14] at H
         exact absurd H (by simp)
       ·rw [if_neg c13] at H
        have c13b0 : decide (x6_2 < (x3_1.length : Int)) = false := decide_eq_false c13
        clear c13
        obtain ⟨y132, hy132⟩ : ∃ y_ : List (S72), y_ = (([] : List (S72))) := ⟨_, rfl⟩
        replace H : (if 0 ≤ x6_2 then (if x6_2 ≤ (x3_1.length : Int) then ((some (x3_1.take (x6_2 : Int).toNat : List (S72))).bind fun y135 => (if y132.length + y135.length < 8796093022208 then ((some (y132 ++ y135 : List (S72))).bind fun y139 => ((some (([(⟨((rd_T40 l0 x4_1).f0), t106⟩ : S72)] : List (S72)) : List (S72))).bind fun y142 => (if y139.length + y142.length < 8796093022208 then ((some (y139 ++ y142 : List (S72))).bind fun y145 => ((some (x3_1.drop (x6_2 : Int).toNat : List (S72))).bind fun y148 => (if y145.length + y148.length < 8796093022208 then (spec_l2Spans.l0 k2 l0 (y145 ++ y148) (wrap64 (x4_1 + 1))) else (none)))) else (none)))) else (none))) else (none)) else (none)) = some r := by first | (rw [hy132]; with_reducible exact H) | (have H2_ := (Option.bind_some _ _).symm.trans H; rw [hy132]; with_reducible exact H2_) | (have H2_ := (Option.bind_some _ _).symm.trans H; with_reducible exact H2_) | with_reducible exact H | (rw [hy132]; exact H) | exact H
        have Ny132 := Aside0.mk hy132
        clear hy132
        by_cases c39 : 0 ≤ x6_2
        ·rw [if_pos c39] at H
         have c39b0 := eq_true c39
         have c39b1 : decide (0 ≤ x6_2) = true := decide_eq_true c39
         clear c39
         by_cases c40 : x6_2 ≤ (x3_1.length : Int)
         ·rw [if_pos c40] at H
          have c40b0 := eq_true c40
          have c40b1 : decide (x6_2 ≤ (x3_1.length : Int)) = true := decide_eq_true c40
          clear c40
          obtain ⟨y135, hy135⟩ : ∃ y_ : List (S72), y_ = (x3_1.take (x6_2 : Int).toNat) := ⟨_, rfl⟩
          replace H : (if y132.length + y135.length < 8796093022208 then ((some (y132 ++ y135 : List (S72))).bind fun y139 => ((some (([(⟨((rd_T40 l0 x4_1).f0), t106⟩ : S72)] : List (S72)) : List (S72))).bind fun y142 => (if y139.length + y142.length < 8796093022208 then ((some (y139 ++ y142 : List (S72))).bind fun y145 => ((some (x3_1.drop (x6_2 : Int).toNat : List (S72))).bind fun y148 => (if y145.length + y148.length < 8796093022208 then (spec_l2Spans.l0 k2 l0 (y145 ++ y148) (wrap64 (x4_1 + 1))) else (none)))) else (none)))) else (none)) = some r := by first | (rw [hy135]; with_reducible exact H) | (have H2_ := (Option.bind_some _ _).symm.trans H; rw [hy135]; with_reducible exact H2_) | (have H2_ := (Option.bind_some _ _).symm.trans H; with_reducible exact H2_) | with_reducible exact H | (rw [hy135]; exact H) | exact H
          have Ny135 := Aside0.mk hy135
          clear hy135
          by_cases c41 : y132.length + y135.length < 8796093022208
          ·rw [if_pos c41] at H
           have LMc41 := Aside0.mk c41
           clear c41
           obtain ⟨y139, hy139⟩ : ∃ y_ : List (S72), y_ = (y132 ++ y135) := ⟨_, rfl⟩
           replace H : ((some (([(⟨((rd_T40 l0 x4_1).f0), t106⟩ : S72)] : List (S72)) : List (S72))).bind fun y142 => (if y139.length + y142.length < 8796093022208 then ((some (y139 ++ y142 : List (S72))).bind fun y145 => ((some (x3_1.drop (x6_2 : Int).toNat : List (S72))).bind fun y148 => (if y145.length + y148.length < 8796093022208 then (spec_l2Spans.l0 k2 l0 (y145 ++ y148) (wrap64 (x4_1 + 1))) else (none)))) else (none))) = some r := by first | (rw [hy139]; with_reducible exact H) | (have H2_ := (Option.bind_some _ _).symm.trans H; rw [hy139]; with_reducible exact H2_) | (have H2_ := (Option.bind_some _ _).symm.trans H; with_reducible exact H2_) | with_reducible exact H | (rw [hy139]; exact H) | exact H
           have Ny139 := Aside0.mk hy139
           clear hy139
           obtain ⟨y142, hy142⟩ : ∃ y_ : List (S72), y_ = (([(⟨((rd_T40 l0 x4_1).f0), t106⟩ : S72)] : List (S72))) := ⟨_, rfl⟩
           replace H : (if y139.length + y142.length < 8796093022208 then ((some (y139 ++ y142 : List (S72))).bind fun y145 => ((some (x3_1.drop (x6_2 : Int).toNat : List (S72))).bind fun y148 => (if y145.length + y148.length < 8796093022208 then (spec_l2Spans.l0 k2 l0 (y145 ++ y148) (wrap64 (x4_1 + 1))) else (none)))) else (none)) = some r := by first | (rw [hy142]; with_reducible exact H) | (have H2_ := (Option.bind_some _ _).symm.trans H; rw [hy142]; with_reducible exact H2_) | (have H2_ := (Option.bind_some _ _).symm.trans H; with_reducible exact H2_) | with_reducible exact H | (rw [hy142]; exact H) | exact H
           have Ny142 := Aside0.mk hy142
           clear hy142
           by_cases c42 : y139.length + y142.length < 8796093022208
           ·rw [if_pos c42] at H
            have LMc42 := Aside0.mk c42
            clear c42
            obtain ⟨y145, hy145⟩ : ∃ y_ : List (S72), y_ = (y139 ++ y142) := ⟨_, rfl⟩
            replace H : ((some (x3_1.drop (x6_2 : Int).toNat : List (S72))).bind fun y148 => (if y145.length + y148.length < 8796093022208 then (spec_l2Spans.l0 k2 l0 (y145 ++ y148) (wrap64 (x4_1 + 1))) else (none))) = some r := by first | (rw [hy145]; with_reducible exact H) | (have H2_ := (Option.bind_some _ _).symm.trans H; rw [hy145]; with_reducible exact H2_) | (have H2_ := (Option.bind_some _ _).symm.trans H; with_reducible exact H2_) | with_reducible exact H | (rw [hy145]; exact H) | exact H
            have Ny145 := Aside0.mk hy145
            clear hy145
            have c43b0 := eq_true (OD : 0 ≤ x6_2)
            have c44b0 := eq_true (OD : x6_2 ≤ (x3_1.length : Int))
            obtain ⟨y148, hy148⟩ : ∃ y_ : List (S72), y_ = (x3_1.drop (x6_2 : Int).toNat) := ⟨_, rfl⟩
            replace H : (if y145.length + y148.length < 8796093022208 then (spec_l2Spans.l0 k2 l0 (y145 ++ y148) (wrap64 (x4_1 + 1))) else (none)) = some r := by first | (rw [hy148]; with_reducible exact H) | (have H2_ := (Option.bind_some _ _).symm.trans H; rw [hy148]; with_reducible exact H2_) | (have H2_ := (Option.bind_some _ _).symm.trans H; with_reducible exact H2_) | with_reducible exact H | (rw [hy148]; exact H) | exact H
            have Ny148 := Aside0.mk hy148
            clear hy148
            by_cases c45 : y145.length + y148.length < 8796093022208
            ·rw [if_pos c45] at H
             have LMc45 := Aside0.mk c45
             clear c45
             obtain ⟨y152, hy152⟩ : ∃ y_ : List (S72), y_ = (y145 ++ y148) := ⟨_, rfl⟩
             replace H : (spec_l2Spans.l0 k2 l0 y152 (wrap64 (x4_1 + 1))) = some r := by first | (rw [hy152]; with_reducible exact H) | (have H2_ := (Option.bind_some _ _).symm.trans H; rw [hy152]; with_reducible exact H2_) | (have H2_ := (Option.bind_some _ _).symm.trans H; with_reducible exact H2_) | with_reducible exact H | (rw [hy152]; exact H) | exact H
             have Ny152 := Aside0.mk hy152
             clear hy152
             have H' := Aside0.mk H
             clear H
             try go_wp2
             replace HO_3 := am (Kd.R_drew HO_3.out)
             replace BK107 := am (blk_drew BK107.out)
             replace HB := am (below_drew1 HB.out)
             obtain ⟨Ao47, co47, eo47⟩ := Kd.R_slice HO_3.out
             (first | subst eo47 | (injection eo47 with f1_ f2_ f3_; have f4_ := f1_.symm; have f5_ := f3_.symm; clear f1_ f2_ f3_; subst f4_; subst f5_))
             refine start_ (n := 14) (S := fun w' => True) (ds := []) (tf 0 14) (by kernel_rfl) rfl rfl trivial (fun hHeld => ?_); refine with_tabW spec_l2Spans.tab7 spec_l2Spans.bits7 (fun HT_ HW_ => ?_)
             generalize wr.drew = w46 at HO_3 BK107 HB hHeld ⊢
             refine pv HT_ 0 28 (tf 1 13) ?_
             refine pv HT_ 1 29 (tf 2 12) ?_
             refine pv HT_ 2 30 (tf 3 11) ?_
             refine pv HT_ 3 31 (tf 4 10) ?_
             refine pv HT_ 4 32 (tf 5 9) ?_
             refine pw HT_ 5 33 (tf 6 8) ?_
             refine pw HT_ 6 34 (tf 7 7) ?_
             refine pw HT_ 7 35 (tf 8 6) ?_
             refine pw HT_ 8 36 (tf 9 5) ?_
             refine pw HT_ 9 37 (tf 10 4) ?_
             refine pw HT_ 10 38 (tf 11 3) ?_
             refine pw HT_ 11 39 (tf 12 2) ?_
             refine pw HT_ 12 40 (tf 13 1) ?_
             refine pv HT_ 13 41 (tf 14 0) ?_
             refine done_ (done_of HT_.out (by kernel_rfl)) ?_
             try go_wp2
             replace HO_3 := am (Kd.R_drew HO_3.out)
             replace BK107 := am (blk_drew BK107.out)
             replace HB := am (below_drew1 HB.out)
             have q49 : (x6_2 : Int) ≤ ((x3_1.length : Int) : Int) := OD
             obtain ⟨i049, hi049, _, hsz49, _⟩ := info_parts info72
             have hroom49 : x3_1.length ≤ co47 := (Kd.R_reads' HO_3.out).2.1
             have hC49 : Kd.C k72 _ Ao47 x3_1.length x3_1 := (Kd.R_reads' HO_3.out).2.2
             have hcut49 := cut_to (P := Try.prog) 73 72 .i64 Try.underlying73 hi049 Ao47 x3_1.length co47 x6_2 (OD) q49 hroom49
             have hr49 := Kd.C_take (m := (x6_2 : Int).toNat) hC49 (by omega)
             have hy49 : y135.length = (x6_2 : Int).toNat := (by rw [Ny135.out, List.length_take]; omega)
             rw [← Ny135.out] at hr49
             rw [← hy49] at hcut49
             have HR138 := Aside0.mk hr49
             have HC138 := am (show y135.length ≤ co47 from by omega)
             clear hr49 hC49 hroom49 hi049 hsz49
             have KY49 := Aside0.mk hy49
             clear hy49
             have KL49 := am (show (x6_2 : Int).toNat ≤ x3_1.length from by omega)
             replace q49 := eq_true q49
             have q50 : (x6_2 : Int) ≤ ((x3_1.length : Int) : Int) := OD
             obtain ⟨i050, hi050, _, hsz50, _⟩ := info_parts info72
             have hroom50 : x3_1.length ≤ co47 := (Kd.R_reads' HO_3.out).2.1
             have hC50 : Kd.C k72 _ Ao47 x3_1.length x3_1 := (Kd.R_reads' HO_3.out).2.2
             have q050 : (0 : Int) ≤ (x6_2 : Int) := OD
             have hcut50 := cut_from (P := Try.prog) 73 72 .i64 Try.underlying73 hi050 2 hsz50 Ao47 x3_1.length co47 x6_2 q050 q50
             have hr50 := Kd.C_drop (m := (x6_2 : Int).toNat) (c := co47) hC50 (by omega) hroom50
             obtain ⟨A50, hA50⟩ : ∃ A1, A1 = (if co47 = (x6_2 : Int).toNat then Ao47 else (Ao47 : Option Addr).map (·.add ((x6_2 : Int).toNat * 2))) := ⟨_, rfl⟩
             obtain ⟨c50, hc50⟩ : ∃ c1, c1 = co47 - (x6_2 : Int).toNat := ⟨_, rfl⟩
             have hy50 : y148.length = x3_1.length - (x6_2 : Int).toNat := (by rw [Ny148.out, List.length_drop] <;> omega)
             rw [show (x3_1).drop (x6_2 : Int).toNat = y148 from Ny148.out.symm] at hr50
             replace hr50 : Kd.C k72 _ A50 y148.length y148 := (by rw [hA50]; exact hr50)
             rw [← hy50, ← hA50, ← hc50] at hcut50
             have HR151 := Aside0.mk hr50
             have HC151 := am (show y148.length ≤ c50 from by rw [hy50, hc50]; exact Nat.sub_le_sub_right hroom50 _)
             clear hr50 hC50 hroom50 hi050 hsz50 hc50
             have KY50 := Aside0.mk hy50
             have KA50 := Aside0.mk hA50
             clear hy50 hA50
             have KL50 := am (show (x6_2 : Int).toNat ≤ x3_1.length from by omega)
             replace q50 := eq_true q50
             refine start_ (n := 13) (S := fun w' => de2 w' gb107 (.int .i64 ((rd_T40 l0 x4_1).f0)) (.int .i64 t106)) (ds := []) (tf 0 13) (by kernel_rfl) rfl rfl ⟨z0 _ BK107.out, z1 _ BK107.out⟩ (fun hHeld => ?_); refine with_tabW spec_l2Spans.tab9 spec_l2Spans.bits9 (fun HT_ HW_ => ?_)
             generalize w46.drew = w48 at HO_3 BK107 HB HR138 HR151 hHeld ⊢
             refine pv HT_ 1 45 (tr [0, 1, 1, 11]) ?_
             refine pv HT_ 2 46 (tr [0, 1, 2, 10]) ?_
             refine pv HT_ 3 47 (tr [0, 1, 3, 9]) ?_
             refine pv HT_ 8 52 (tr [0, 1, 3, 4, 1, 4]) ?_
             refine pv HT_ 9 53 (tr [0, 1, 3, 4, 2, 3]) ?_
             refine pv HT_ 10 54 (tr [0, 1, 3, 4, 3, 2]) ?_
             refine tk 5 (some 49) (tr [0, 1, 3, 1, 1, 2, 3, 2]) (take_ofW HT_.out HW_.out (by kernel_rfl)) hHeld ?_
             refine join_ (σ := Value × Value × Value) 3 (tr [7, 1, 3, 2]) (fun s_ => [(44, s_.1), (48, s_.2.1), (50, s_.2.2)]) (fun s_ w' => (w'.cell? ⟨gb107, 0, none⟩ = some (.int .i64 ((rd_T40 l0 x4_1).f0)) ∧ w'.cell? ⟨gb107, 1, none⟩ = some (.int .i64 t106)) ∧ (Kd.R k72 72 w' w.heap.size (fun k_ => some k_ ≠ (s_.2.2 : Value).ownBlock ∧ some k_ ≠ (.slice Ao47 x3_1.length co47 : Value).ownBlock ∧ k_ ≠ gb107) s_.2.1 y139) ∧ (Kd.R k72 72 w' w.heap.size (fun k_ => some k_ ≠ (s_.2.1 : Value).ownBlock ∧ some k_ ≠ (.slice Ao47 x3_1.length co47 : Value).ownBlock ∧ k_ ≠ gb107) s_.2.2 y142) ∧ (Kd.R k72 72 w' w.heap.size (fun k_ => some k_ ≠ (s_.2.1 : Value).ownBlock ∧ some k_ ≠ (s_.2.2 : Value).ownBlock ∧ k_ ≠ gb107) (.slice Ao47 x3_1.length co47) x3_1) ∧ (w'.heap[gb107]? = some (.cells #[.int .i64 ((rd_T40 l0 x4_1).f0), .int .i64 t106] 72 (0, 0))) ∧ (Below w.heap.size w w')) ?_ ?_
             rotate_left
             ·intro hCont
              refine two_ (i := 0) (j := 6) (Ni := some 44) (Nj := some 50) (tr [4, 1, 1, 2, 3, 2]) (tr [0, 1, 3, 1, 2, 1, 3, 2]) rfl rfl rfl rfl (two_of HT_.out (by kernel_rfl)) (by decide) (by decide) (fun K hK => ?_) (fun K hK => ?_)
              ·skip
               refine Kd.R_lit_step k72 _ 72 ?hg (N := 44) ?hd (xs := ([] : List (S72))) (inner := []) (ok := fun _ => True) (okp := fun _ => True) ?hr ?hp (fun _ hk => hk) trivial (Below.refl _ _) (Nat.le_refl _) (by simp) ?_; (case hd => rfl); (case hg => rfl); (case hr => first | (go_simp; done) | (go_simp; rfl)); (case hp => exact (Reps.none _ _))
               intro v133 w51 ho52 hb hg_ hnew_
               clear hg_ hnew_
               (first | rw [← Ny132.out] at ho52 | (simp only [Int.reduceToNat] at ho52; rw [← Ny132.out] at ho52))
               have HO134 := am (Kd.R_lower (Kd.R_newB (Kd.R_new' ho52 (Kd.R_lt (KR HO_3))) (g := gb107) (o := .cells #[.int .i64 ((rd_T40 l0 x4_1).f0), .int .i64 t106] 72 (0, 0)) (KB BK107)) (below_size (K1 HB GE107.out)))
               replace HO_3 := am (Kd.R_elder' (KR HO_3) (Kd.R_base ho52) hb)
               replace BK107 := am (BB BK107 hb)
               replace HR138 := am (Kd.C_below (by repeat (first | (with_reducible exact HR138.out) | (with_reducible refine Kd.C_alloc ?_ _) | (with_reducible refine Kd.C_drewN ?_ _) | (with_reducible refine Kd.C_drew ?_) | exact HR138.out)) hb)
               replace HR151 := am (Kd.C_below (by repeat (first | (with_reducible exact HR151.out) | (with_reducible refine Kd.C_alloc ?_ _) | (with_reducible refine Kd.C_drewN ?_ _) | (with_reducible refine Kd.C_drew ?_) | exact HR151.out)) hb)
               replace HB := am (below_step (K1 HB GE107.out) hb)
               clear hb ho52
               refine hK.out _ _ ⟨z0 _ BK107.out, z1 _ BK107.out⟩ (fun hHeld => ?_)
               clear hK K
               refine norm_ (a' := ?_) ?_ ?_
               rotate_left
               ·show Act.put _ (some 44) _ = _
                simp only [Act.put, List.setIfInBounds_toArray, List.set_cons_zero, List.set_cons_succ, i64_w, i32_w]
                rfl
               refine two_ (i := 4) (j := 6) (Ni := some 48) (Nj := some 50) (tr [6, 2, 3, 2]) (tr [4, 1, 2, 1, 3, 2]) rfl rfl rfl rfl (two_of HT_.out (by kernel_rfl)) (by decide) (by decide) (fun K hK => ?_) (fun K hK => ?_)
               ·skip
                refine Kd.R_append_rows_step k72 (w0 := w) w.heap.size (by rfl) (.tmp 44) (.tmp 47) 73 72 (.agg #[(.int .i64 0), (.int .i64 0)]) 16 rfl Try.underlying73 info72 rfl (by decide) (by omega) v133 y132 y135 _ _ _ (fun k_ => some k_ ≠ (.slice Ao47 x3_1.length co47 : Value).ownBlock ∧ k_ ≠ gb107) (fun _ => False) rfl rfl ?aO ?aR (fun _ _ h => h) (fun _ h => h.elim) ?aF ?aB ?aS ?aL ?_
                (case aR => repeat (first | exact (by repeat (first | (with_reducible exact HR138.out) | (with_reducible refine Kd.C_alloc ?_ _) | (with_reducible refine Kd.C_drewN ?_ _) | (with_reducible refine Kd.C_drew ?_) | exact HR138.out)) | (with_reducible refine Kd.C_alloc ?_ _) | (with_reducible refine Kd.C_drewN ?_ _) | (with_reducible refine Kd.C_drew ?_)))
                (case aB => exact (K1 HB GE107.out))
                (case aF => exact (fun k_ hk => ⟨Kd.fresh' (Kd.R_lt (KR HO_3)) k_ hk, Kd.freshB (g := gb107) (o := .cells #[.int .i64 ((rd_T40 l0 x4_1).f0), .int .i64 t106] 72 (0, 0)) (KB BK107) k_ hk⟩))
                (case aO => exact (by (with_reducible repeat (first | apply Kd.R_alloc | apply Kd.R_drewN | apply Kd.R_drew)); exact Kd.R_mono HO134.out (fun _ hk => ⟨hk.1.2, hk.2⟩)))
                (case aS => exact (below_size (K1 HB GE107.out)))
                (case aL => have := LMc41.out; omega)
                intro v140 w53 ho hb hg hat
                rw [← Ny139.out] at ho
                replace BK107 := am (blk_grown (g := gb107) (o := .cells #[.int .i64 ((rd_T40 l0 x4_1).f0), .int .i64 t106] 72 (0, 0)) (KB BK107) hg (Kd.R_away HO134.out (fun _ hk => hk.2)))
                replace HB := am (hb)
                replace HR138 := am ((show Kd.C k72 w53 Ao47 y135.length y135 from by rw [Ny135.out]; exact Kd.C_take (m := (x6_2 : Int).toNat) ((Kd.R_reads' (Kd.R_after (ok := (fun k_ => k_ ≠ gb107)) (KR HO_3) hg hat)).2.2) KL49.out))
                replace HR151 := am ((show Kd.C k72 w53 A50 y148.length y148 from by rw [Ny148.out, KA50.out]; exact Kd.C_drop (m := (x6_2 : Int).toNat) (c := co47) ((Kd.R_reads' (Kd.R_after (ok := (fun k_ => k_ ≠ gb107)) (KR HO_3) hg hat)).2.2) KL50.out ((Kd.R_reads' (Kd.R_after (ok := (fun k_ => k_ ≠ gb107)) (KR HO_3) hg hat)).2.1)))
                replace HO_3 := am (Kd.R_after (ok := (fun k_ => k_ ≠ gb107)) (KR HO_3) hg hat)
                have HO141 := am (ho)
                clear HO134
                clear ho hb hg hat
                refine hK.out _ _ ⟨z0 _ BK107.out, z1 _ BK107.out⟩ (fun hHeld => ?_)
                clear hK K
                refine norm_ (a' := ?_) ?_ ?_
                rotate_left
                ·show Act.put _ (some 48) _ = _
                 simp only [Act.put, List.setIfInBounds_toArray, List.set_cons_zero, List.set_cons_succ, i64_w, i32_w]
                 rfl
                refine one_ (i := 6) (N := some 50) (tr [7, 1, 3, 2]) rfl rfl (one_of HT_.out (by kernel_rfl)) (by decide) (fun K hK => ?_)
                refine Kd.R_lit_step k72 _ 72 ?hg (N := 50) ?hd (xs := ([(⟨((rd_T40 l0 x4_1).f0), t106⟩ : S72)] : List (S72))) (inner := [.int .i64 ((rd_T40 l0 x4_1).f0), .int .i64 t106]) (ok := fun _ => True) (okp := fun _ => True) ?hr ?hp (fun _ hk => hk) trivial (Below.refl _ _) (Nat.le_refl _) (by simp) ?_; (case hd => rfl); (case hg => rfl); (case hr => first | (go_simp; done) | (go_simp; rfl)); (case hp => exact (Reps.c2 (show Kd.M k72 _ _ _ (⟨((rd_T40 l0 x4_1).f0), t106⟩ : S72) [.int .i64 ((rd_T40 l0 x4_1).f0), .int .i64 t106] from (k72_mkM _ _ _ (⟨((rd_T40 l0 x4_1).f0), t106⟩ : S72) )) (Reps.none _ _)))
                intro v143 w54 ho55 hb hg_ hnew_
                clear hg_ hnew_
                (first | rw [← Ny142.out] at ho55 | (simp only [Int.reduceToNat] at ho55; rw [← Ny142.out] at ho55))
                have HO144 := am (Kd.R_lower (Kd.R_newB (Kd.R_new' (Kd.R_new' ho55 (Kd.R_lt (KR HO_3))) (Kd.R_lt (KR HO141))) (g := gb107) (o := .cells #[.int .i64 ((rd_T40 l0 x4_1).f0), .int .i64 t106] 72 (0, 0)) (KB BK107)) (below_size (K1 HB GE107.out)))
                replace HO_3 := am (Kd.R_elder' (KR HO_3) (Kd.R_base ho55) hb)
                replace HO141 := am (Kd.R_elder' (KR HO141) (Kd.R_base ho55) hb)
                replace BK107 := am (BB BK107 hb)
                replace HR138 := am (Kd.C_below (by repeat (first | (with_reducible exact HR138.out) | (with_reducible refine Kd.C_alloc ?_ _) | (with_reducible refine Kd.C_drewN ?_ _) | (with_reducible refine Kd.C_drew ?_) | exact HR138.out)) hb)
                replace HR151 := am (Kd.C_below (by repeat (first | (with_reducible exact HR151.out) | (with_reducible refine Kd.C_alloc ?_ _) | (with_reducible refine Kd.C_drewN ?_ _) | (with_reducible refine Kd.C_drew ?_) | exact HR151.out)) hb)
                replace HB := am (below_step (K1 HB GE107.out) hb)
                clear hb ho55
                refine hK.out _ _ ⟨z0 _ BK107.out, z1 _ BK107.out⟩ (fun hHeld => ?_)
                clear hK K
                refine norm_ (a' := ?_) ?_ ?_
                rotate_left
                ·show Act.put _ (some 50) _ = _
                 simp only [Act.put, List.setIfInBounds_toArray, List.set_cons_zero, List.set_cons_succ, i64_w, i32_w]
                 rfl
                exact norm_ (by simp only [putAll, Act.put, List.setIfInBounds_toArray, List.set_cons_zero, List.set_cons_succ]) (hCont (v133, v140, v143) _ ⟨hHeld, (by (with_reducible repeat (first | apply Kd.R_alloc | apply Kd.R_drewN | apply Kd.R_drew)); exact Kd.R_mono HO141.out (fun _ hk => ⟨hk.2, ⟨hk.1.1, hk.1.2⟩⟩)), (by (with_reducible repeat (first | apply Kd.R_alloc | apply Kd.R_drewN | apply Kd.R_drew)); exact Kd.R_mono HO144.out (fun _ hk => ⟨hk.1.2, ⟨hk.1.1.2, hk.2⟩⟩)), (by (with_reducible repeat (first | apply Kd.R_alloc | apply Kd.R_drewN | apply Kd.R_drew)); exact Kd.R_mono HO_3.out (fun _ hk => ⟨hk.1.2, ⟨hk.2, hk.1.1⟩⟩)), (KB BK107), (K1 HB GE107.out)⟩)
               ·skip
                refine Kd.R_lit_step k72 _ 72 ?hg (N := 50) ?hd (xs := ([(⟨((rd_T40 l0 x4_1).f0), t106⟩ : S72)] : List (S72))) (inner := [.int .i64 ((rd_T40 l0 x4_1).f0), .int .i64 t106]) (ok := fun _ => True) (okp := fun _ => True) ?hr ?hp (fun _ hk => hk) trivial (Below.refl _ _) (Nat.le_refl _) (by simp) ?_; (case hd => rfl); (case hg => rfl); (case hr => first | (go_simp; done) | (go_simp; rfl)); (case hp => exact (Reps.c2 (show Kd.M k72 _ _ _ (⟨((rd_T40 l0 x4_1).f0), t106⟩ : S72) [.int .i64 ((rd_T40 l0 x4_1).f0), .int .i64 t106] from (k72_mkM _ _ _ (⟨((rd_T40 l0 x4_1).f0), t106⟩ : S72) )) (Reps.none _ _)))
                intro v143 w53 ho54 hb hg_ hnew_
                clear hg_ hnew_
                (first | rw [← Ny142.out] at ho54 | (simp only [Int.reduceToNat] at ho54; rw [← Ny142.out] at ho54))
                have HO144 := am (Kd.R_lower (Kd.R_newB (Kd.R_new' (Kd.R_new' ho54 (Kd.R_lt (KR HO_3))) (Kd.R_lt (KR HO134))) (g := gb107) (o := .cells #[.int .i64 ((rd_T40 l0 x4_1).f0), .int .i64 t106] 72 (0, 0)) (KB BK107)) (below_size (K1 HB GE107.out)))
                replace HO_3 := am (Kd.R_elder' (KR HO_3) (Kd.R_base ho54) hb)
                replace HO134 := am (Kd.R_elder' (KR HO134) (Kd.R_base ho54) hb)
                replace BK107 := am (BB BK107 hb)
                replace HR138 := am (Kd.C_below (by repeat (first | (with_reducible exact HR138.out) | (with_reducible refine Kd.C_alloc ?_ _) | (with_reducible refine Kd.C_drewN ?_ _) | (with_reducible refine Kd.C_drew ?_) | exact HR138.out)) hb)
                replace HR151 := am (Kd.C_below (by repeat (first | (with_reducible exact HR151.out) | (with_reducible refine Kd.C_alloc ?_ _) | (with_reducible refine Kd.C_drewN ?_ _) | (with_reducible refine Kd.C_drew ?_) | exact HR151.out)) hb)
                replace HB := am (below_step (K1 HB GE107.out) hb)
                clear hb ho54
                refine hK.out _ _ ⟨z0 _ BK107.out, z1 _ BK107.out⟩ (fun hHeld => ?_)
                clear hK K
                refine norm_ (a' := ?_) ?_ ?_
                rotate_left
                ·show Act.put _ (some 50) _ = _
                 simp only [Act.put, List.setIfInBounds_toArray, List.set_cons_zero, List.set_cons_succ, i64_w, i32_w]
                 rfl
                refine one_ (i := 4) (N := some 48) (tr [7, 1, 3, 2]) rfl rfl (one_of HT_.out (by kernel_rfl)) (by decide) (fun K hK => ?_)
                refine Kd.R_append_rows_step k72 (w0 := w) w.heap.size (by rfl) (.tmp 44) (.tmp 47) 73 72 (.agg #[(.int .i64 0), (.int .i64 0)]) 16 rfl Try.underlying73 info72 rfl (by decide) (by omega) v133 y132 y135 _ _ _ (fun k_ => some k_ ≠ (.slice Ao47 x3_1.length co47 : Value).ownBlock ∧ some k_ ≠ (v143 : Value).ownBlock ∧ k_ ≠ gb107) (fun _ => False) rfl rfl ?aO ?aR (fun _ _ h => h) (fun _ h => h.elim) ?aF ?aB ?aS ?aL ?_
                (case aR => repeat (first | exact (by repeat (first | (with_reducible exact HR138.out) | (with_reducible refine Kd.C_alloc ?_ _) | (with_reducible refine Kd.C_drewN ?_ _) | (with_reducible refine Kd.C_drew ?_) | exact HR138.out)) | (with_reducible refine Kd.C_alloc ?_ _) | (with_reducible refine Kd.C_drewN ?_ _) | (with_reducible refine Kd.C_drew ?_)))
                (case aB => exact (K1 HB GE107.out))
                (case aF => exact (fun k_ hk => ⟨Kd.fresh' (Kd.R_lt (KR HO_3)) k_ hk, Kd.fresh' (Kd.R_lt (KR HO144)) k_ hk, Kd.freshB (g := gb107) (o := .cells #[.int .i64 ((rd_T40 l0 x4_1).f0), .int .i64 t106] 72 (0, 0)) (KB BK107) k_ hk⟩))
                (case aO => exact (by (with_reducible repeat (first | apply Kd.R_alloc | apply Kd.R_drewN | apply Kd.R_drew)); exact Kd.R_mono HO134.out (fun _ hk => ⟨hk.1.1.2, ⟨hk.2, hk.1.2⟩⟩)))
                (case aS => exact (below_size (K1 HB GE107.out)))
                (case aL => have := LMc41.out; omega)
                intro v140 w55 ho hb hg hat
                rw [← Ny139.out] at ho
                replace BK107 := am (blk_grown (g := gb107) (o := .cells #[.int .i64 ((rd_T40 l0 x4_1).f0), .int .i64 t106] 72 (0, 0)) (KB BK107) hg (Kd.R_away HO134.out (fun _ hk => hk.1.2)))
                replace HO144 := am (Kd.R_after (ok := (fun k_ => some k_ ≠ (.slice Ao47 x3_1.length co47 : Value).ownBlock ∧ k_ ≠ gb107)) (by (with_reducible repeat (first | apply Kd.R_alloc | apply Kd.R_drewN | apply Kd.R_drew)); exact Kd.R_mono HO144.out (fun _ hk => ⟨⟨hk.1.1.2, hk.2⟩, hk.1.2⟩)) hg hat)
                replace HB := am (hb)
                replace HR138 := am ((show Kd.C k72 w55 Ao47 y135.length y135 from by rw [Ny135.out]; exact Kd.C_take (m := (x6_2 : Int).toNat) ((Kd.R_reads' (Kd.R_after (ok := (fun k_ => some k_ ≠ (v143 : Value).ownBlock ∧ k_ ≠ gb107)) (by (with_reducible repeat (first | apply Kd.R_alloc | apply Kd.R_drewN | apply Kd.R_drew)); exact Kd.R_mono HO_3.out (fun _ hk => ⟨⟨hk.2, hk.1.1⟩, hk.1.2⟩)) hg hat)).2.2) KL49.out))
                replace HR151 := am ((show Kd.C k72 w55 A50 y148.length y148 from by rw [Ny148.out, KA50.out]; exact Kd.C_drop (m := (x6_2 : Int).toNat) (c := co47) ((Kd.R_reads' (Kd.R_after (ok := (fun k_ => some k_ ≠ (v143 : Value).ownBlock ∧ k_ ≠ gb107)) (by (with_reducible repeat (first | apply Kd.R_alloc | apply Kd.R_drewN | apply Kd.R_drew)); exact Kd.R_mono HO_3.out (fun _ hk => ⟨⟨hk.2, hk.1.1⟩, hk.1.2⟩)) hg hat)).2.2) KL50.out ((Kd.R_reads' (Kd.R_after (ok := (fun k_ => some k_ ≠ (v143 : Value).ownBlock ∧ k_ ≠ gb107)) (by (with_reducible repeat (first | apply Kd.R_alloc | apply Kd.R_drewN | apply Kd.R_drew)); exact Kd.R_mono HO_3.out (fun _ hk => ⟨⟨hk.2, hk.1.1⟩, hk.1.2⟩)) hg hat)).2.1)))
                replace HO_3 := am (Kd.R_after (ok := (fun k_ => some k_ ≠ (v143 : Value).ownBlock ∧ k_ ≠ gb107)) (by (with_reducible repeat (first | apply Kd.R_alloc | apply Kd.R_drewN | apply Kd.R_drew)); exact Kd.R_mono HO_3.out (fun _ hk => ⟨⟨hk.2, hk.1.1⟩, hk.1.2⟩)) hg hat)
                have HO141 := am (ho)
                clear HO134
                clear ho hb hg hat
                refine hK.out _ _ ⟨z0 _ BK107.out, z1 _ BK107.out⟩ (fun hHeld => ?_)
                clear hK K
                refine norm_ (a' := ?_) ?_ ?_
                rotate_left
                ·show Act.put _ (some 48) _ = _
                 simp only [Act.put, List.setIfInBounds_toArray, List.set_cons_zero, List.set_cons_succ, i64_w, i32_w]
                 rfl
                exact norm_ (by simp only [putAll, Act.put, List.setIfInBounds_toArray, List.set_cons_zero, List.set_cons_succ]) (hCont (v133, v140, v143) _ ⟨hHeld, (by (with_reducible repeat (first | apply Kd.R_alloc | apply Kd.R_drewN | apply Kd.R_drew)); exact Kd.R_mono HO141.out (fun _ hk => ⟨hk.2.1, ⟨hk.1, hk.2.2⟩⟩)), (by (with_reducible repeat (first | apply Kd.R_alloc | apply Kd.R_drewN | apply Kd.R_drew)); exact Kd.R_mono HO144.out (fun _ hk => ⟨hk.2, ⟨hk.1.1, hk.1.2⟩⟩)), (by (with_reducible repeat (first | apply Kd.R_alloc | apply Kd.R_drewN | apply Kd.R_drew)); exact Kd.R_mono HO_3.out (fun _ hk => ⟨hk.2, ⟨hk.1.1, hk.1.2⟩⟩)), (KB BK107), (K1 HB GE107.out)⟩)
              ·skip
               refine Kd.R_lit_step k72 _ 72 ?hg (N := 50) ?hd (xs := ([(⟨((rd_T40 l0 x4_1).f0), t106⟩ : S72)] : List (S72))) (inner := [.int .i64 ((rd_T40 l0 x4_1).f0), .int .i64 t106]) (ok := fun _ => True) (okp := fun _ => True) ?hr ?hp (fun _ hk => hk) trivial (Below.refl _ _) (Nat.le_refl _) (by simp) ?_; (case hd => rfl); (case hg => rfl); (case hr => first | (go_simp; done) | (go_simp; rfl)); (case hp => exact (Reps.c2 (show Kd.M k72 _ _ _ (⟨((rd_T40 l0 x4_1).f0), t106⟩ : S72) [.int .i64 ((rd_T40 l0 x4_1).f0), .int .i64 t106] from (k72_mkM _ _ _ (⟨((rd_T40 l0 x4_1).f0), t106⟩ : S72) )) (Reps.none _ _)))
               intro v143 w51 ho52 hb hg_ hnew_
               clear hg_ hnew_
               (first | rw [← Ny142.out] at ho52 | (simp only [Int.reduceToNat] at ho52; rw [← Ny142.out] at ho52))
               have HO144 := am (Kd.R_lower (Kd.R_newB (Kd.R_new' ho52 (Kd.R_lt (KR HO_3))) (g := gb107) (o := .cells #[.int .i64 ((rd_T40 l0 x4_1).f0), .int .i64 t106] 72 (0, 0)) (KB BK107)) (below_size (K1 HB GE107.out)))
               replace HO_3 := am (Kd.R_elder' (KR HO_3) (Kd.R_base ho52) hb)
               replace BK107 := am (BB BK107 hb)
               replace HR138 := am (Kd.C_below (by repeat (first | (with_reducible exact HR138.out) | (with_reducible refine Kd.C_alloc ?_ _) | (with_reducible refine Kd.C_drewN ?_ _) | (with_reducible refine Kd.C_drew ?_) | exact HR138.out)) hb)
               replace HR151 := am (Kd.C_below (by repeat (first | (with_reducible exact HR151.out) | (with_reducible refine Kd.C_alloc ?_ _) | (with_reducible refine Kd.C_drewN ?_ _) | (with_reducible refine Kd.C_drew ?_) | exact HR151.out)) hb)
               replace HB := am (below_step (K1 HB GE107.out) hb)
               clear hb ho52
               refine hK.out _ _ ⟨z0 _ BK107.out, z1 _ BK107.out⟩ (fun hHeld => ?_)
               clear hK K
               refine norm_ (a' := ?_) ?_ ?_
               rotate_left
               ·show Act.put _ (some 50) _ = _
                simp only [Act.put, List.setIfInBounds_toArray, List.set_cons_zero, List.set_cons_succ, i64_w, i32_w]
                rfl
               refine one_ (i := 0) (N := some 44) (tr [4, 1, 2, 1, 3, 2]) rfl rfl (one_of HT_.out (by kernel_rfl)) (by decide) (fun K hK => ?_)
               refine Kd.R_lit_step k72 _ 72 ?hg (N := 44) ?hd (xs := ([] : List (S72))) (inner := []) (ok := fun _ => True) (okp := fun _ => True) ?hr ?hp (fun _ hk => hk) trivial (Below.refl _ _) (Nat.le_refl _) (by simp) ?_; (case hd => rfl); (case hg => rfl); (case hr => first | (go_simp; done) | (go_simp; rfl)); (case hp => exact (Reps.none _ _))
               intro v133 w53 ho54 hb hg_ hnew_
               clear hg_ hnew_
               (first | rw [← Ny132.out] at ho54 | (simp only [Int.reduceToNat] at ho54; rw [← Ny132.out] at ho54))
               have HO134 := am (Kd.R_lower (Kd.R_newB (Kd.R_new' (Kd.R_new' ho54 (Kd.R_lt (KR HO_3))) (Kd.R_lt (KR HO144))) (g := gb107) (o := .cells #[.int .i64 ((rd_T40 l0 x4_1).f0), .int .i64 t106] 72 (0, 0)) (KB BK107)) (below_size (K1 HB GE107.out)))
               replace HO_3 := am (Kd.R_elder' (KR HO_3) (Kd.R_base ho54) hb)
               replace HO144 := am (Kd.R_elder' (KR HO144) (Kd.R_base ho54) hb)
               replace BK107 := am (BB BK107 hb)
               replace HR138 := am (Kd.C_below (by repeat (first | (with_reducible exact HR138.out) | (with_reducible refine Kd.C_alloc ?_ _) | (with_reducible refine Kd.C_drewN ?_ _) | (with_reducible refine Kd.C_drew ?_) | exact HR138.out)) hb)
               replace HR151 := am (Kd.C_below (by repeat (first | (with_reducible exact HR151.out) | (with_reducible refine Kd.C_alloc ?_ _) | (with_reducible refine Kd.C_drewN ?_ _) | (with_reducible refine Kd.C_drew ?_) | exact HR151.out)) hb)
               replace HB := am (below_step (K1 HB GE107.out) hb)
               clear hb ho54
               refine hK.out _ _ ⟨z0 _ BK107.out, z1 _ BK107.out⟩ (fun hHeld => ?_)
               clear hK K
               refine norm_ (a' := ?_) ?_ ?_
               rotate_left
               ·show Act.put _ (some 44) _ = _
                simp only [Act.put, List.setIfInBounds_toArray, List.set_cons_zero, List.set_cons_succ, i64_w, i32_w]
                rfl
               refine one_ (i := 4) (N := some 48) (tr [7, 1, 3, 2]) rfl rfl (one_of HT_.out (by kernel_rfl)) (by decide) (fun K hK => ?_)
               refine Kd.R_append_rows_step k72 (w0 := w) w.heap.size (by rfl) (.tmp 44) (.tmp 47) 73 72 (.agg #[(.int .i64 0), (.int .i64 0)]) 16 rfl Try.underlying73 info72 rfl (by decide) (by omega) v133 y132 y135 _ _ _ (fun k_ => some k_ ≠ (.slice Ao47 x3_1.length co47 : Value).ownBlock ∧ some k_ ≠ (v143 : Value).ownBlock ∧ k_ ≠ gb107) (fun _ => False) rfl rfl ?aO ?aR (fun _ _ h => h) (fun _ h => h.elim) ?aF ?aB ?aS ?aL ?_
               (case aR => repeat (first | exact (by repeat (first | (with_reducible exact HR138.out) | (with_reducible refine Kd.C_alloc ?_ _) | (with_reducible refine Kd.C_drewN ?_ _) | (with_reducible refine Kd.C_drew ?_) | exact HR138.out)) | (with_reducible refine Kd.C_alloc ?_ _) | (with_reducible refine Kd.C_drewN ?_ _) | (with_reducible refine Kd.C_drew ?_)))
               (case aB => exact (K1 HB GE107.out))
               (case aF => exact (fun k_ hk => ⟨Kd.fresh' (Kd.R_lt (KR HO_3)) k_ hk, Kd.fresh' (Kd.R_lt (KR HO144)) k_ hk, Kd.freshB (g := gb107) (o := .cells #[.int .i64 ((rd_T40 l0 x4_1).f0), .int .i64 t106] 72 (0, 0)) (KB BK107) k_ hk⟩))
               (case aO => exact (by (with_reducible repeat (first | apply Kd.R_alloc | apply Kd.R_drewN | apply Kd.R_drew)); exact Kd.R_mono HO134.out (fun _ hk => ⟨hk.1.1.2, ⟨hk.1.2, hk.2⟩⟩)))
               (case aS => exact (below_size (K1 HB GE107.out)))
               (case aL => have := LMc41.out; omega)
               intro v140 w55 ho hb hg hat
               rw [← Ny139.out] at ho
               replace BK107 := am (blk_grown (g := gb107) (o := .cells #[.int .i64 ((rd_T40 l0 x4_1).f0), .int .i64 t106] 72 (0, 0)) (KB BK107) hg (Kd.R_away HO134.out (fun _ hk => hk.2)))
               replace HO144 := am (Kd.R_after (ok := (fun k_ => some k_ ≠ (.slice Ao47 x3_1.length co47 : Value).ownBlock ∧ k_ ≠ gb107)) (by (with_reducible repeat (first | apply Kd.R_alloc | apply Kd.R_drewN | apply Kd.R_drew)); exact Kd.R_mono HO144.out (fun _ hk => ⟨⟨hk.1.1.2, hk.1.2⟩, hk.2⟩)) hg hat)
               replace HB := am (hb)
               replace HR138 := am ((show Kd.C k72 w55 Ao47 y135.length y135 from by rw [Ny135.out]; exact Kd.C_take (m := (x6_2 : Int).toNat) ((Kd.R_reads' (Kd.R_after (ok := (fun k_ => some k_ ≠ (v143 : Value).ownBlock ∧ k_ ≠ gb107)) (by (with_reducible repeat (first | apply Kd.R_alloc | apply Kd.R_drewN | apply Kd.R_drew)); exact Kd.R_mono HO_3.out (fun _ hk => ⟨⟨hk.1.2, hk.1.1⟩, hk.2⟩)) hg hat)).2.2) KL49.out))
               replace HR151 := am ((show Kd.C k72 w55 A50 y148.length y148 from by rw [Ny148.out, KA50.out]; exact Kd.C_drop (m := (x6_2 : Int).toNat) (c := co47) ((Kd.R_reads' (Kd.R_after (ok := (fun k_ => some k_ ≠ (v143 : Value).ownBlock ∧ k_ ≠ gb107)) (by (with_reducible repeat (first | apply Kd.R_alloc | apply Kd.R_drewN | apply Kd.R_drew)); exact Kd.R_mono HO_3.out (fun _ hk => ⟨⟨hk.1.2, hk.1.1⟩, hk.2⟩)) hg hat)).2.2) KL50.out ((Kd.R_reads' (Kd.R_after (ok := (fun k_ => some k_ ≠ (v143 : Value).ownBlock ∧ k_ ≠ gb107)) (by (with_reducible repeat (first | apply Kd.R_alloc | apply Kd.R_drewN | apply Kd.R_drew)); exact Kd.R_mono HO_3.out (fun _ hk => ⟨⟨hk.1.2, hk.1.1⟩, hk.2⟩)) hg hat)).2.1)))
               replace HO_3 := am (Kd.R_after (ok := (fun k_ => some k_ ≠ (v143 : Value).ownBlock ∧ k_ ≠ gb107)) (by (with_reducible repeat (first | apply Kd.R_alloc | apply Kd.R_drewN | apply Kd.R_drew)); exact Kd.R_mono HO_3.out (fun _ hk => ⟨⟨hk.1.2, hk.1.1⟩, hk.2⟩)) hg hat)
               have HO141 := am (ho)
               clear HO134
               clear ho hb hg hat
               refine hK.out _ _ ⟨z0 _ BK107.out, z1 _ BK107.out⟩ (fun hHeld => ?_)
               clear hK K
               refine norm_ (a' := ?_) ?_ ?_
               rotate_left
               ·show Act.put _ (some 48) _ = _
                simp only [Act.put, List.setIfInBounds_toArray, List.set_cons_zero, List.set_cons_succ, i64_w, i32_w]
                rfl
               exact norm_ (by simp only [putAll, Act.put, List.setIfInBounds_toArray, List.set_cons_zero, List.set_cons_succ]) (hCont (v133, v140, v143) _ ⟨hHeld, (by (with_reducible repeat (first | apply Kd.R_alloc | apply Kd.R_drewN | apply Kd.R_drew)); exact Kd.R_mono HO141.out (fun _ hk => ⟨hk.2.1, ⟨hk.1, hk.2.2⟩⟩)), (by (with_reducible repeat (first | apply Kd.R_alloc | apply Kd.R_drewN | apply Kd.R_drew)); exact Kd.R_mono HO144.out (fun _ hk => ⟨hk.2, ⟨hk.1.1, hk.1.2⟩⟩)), (by (with_reducible repeat (first | apply Kd.R_alloc | apply Kd.R_drewN | apply Kd.R_drew)); exact Kd.R_mono HO_3.out (fun _ hk => ⟨hk.2, ⟨hk.1.1, hk.1.2⟩⟩)), (KB BK107), (K1 HB GE107.out)⟩)
             rintro ⟨v133, v140, v143⟩ w56 ⟨hS_, h0_, h1_, h2_, h3_, h4_⟩
             have HO141 : Aside0 (Kd.R k72 72 w56 w.heap.size (fun k_ => some k_ ≠ (v143 : Value).ownBlock ∧ some k_ ≠ (.slice Ao47 x3_1.length co47 : Value).ownBlock ∧ k_ ≠ gb107) v140 y139) := ⟨h0_⟩
             have HO144 : Aside0 (Kd.R k72 72 w56 w.heap.size (fun k_ => some k_ ≠ (v140 : Value).ownBlock ∧ some k_ ≠ (.slice Ao47 x3_1.length co47 : Value).ownBlock ∧ k_ ≠ gb107) v143 y142) := ⟨h1_⟩
             replace HO_3 : Aside0 (Kd.R k72 72 w56 w.heap.size (fun k_ => some k_ ≠ (v140 : Value).ownBlock ∧ some k_ ≠ (v143 : Value).ownBlock ∧ k_ ≠ gb107) (.slice Ao47 x3_1.length co47) x3_1) := ⟨h2_⟩
             replace BK107 : Aside0 (bk w56 gb107 #[.int .i64 ((rd_T40 l0 x4_1).f0), .int .i64 t106] 72) := ⟨h3_⟩
             replace HB : Aside0 (Below w.heap.size w w56) := ⟨h4_⟩
             clear h0_ h1_ h2_ h3_ h4_
             have hHeld : de2 w56 gb107 (.int .i64 ((rd_T40 l0 x4_1).f0)) (.int .i64 t106) := hS_
             have HR151 := am (show Kd.C k72 w56 A50 y148.length y148 from by rw [Ny148.out, KA50.out]; exact Kd.C_drop (m := (x6_2 : Int).toNat) (c := co47) ((Kd.R_reads' HO_3.out).2.2) KL50.out ((Kd.R_reads' HO_3.out).2.1))
             obtain ⟨Ao58, co58, eo58⟩ := Kd.R_slice HO144.out
             (first | subst eo58 | (injection eo58 with f1_ f2_ f3_; have f4_ := f1_.symm; have f5_ := f3_.symm; clear f1_ f2_ f3_; subst f4_; subst f5_))
             refine norm_ (a' := ?_) ?_ ?_
             rotate_left
             ·simp only [putAll, Act.put, List.setIfInBounds_toArray, List.set_cons_zero, List.set_cons_succ]
              rfl
             refine one_ (i := 7) (N := some 51) (tf 11 2) rfl rfl (one_of HT_.out (by kernel_rfl)) (by decide) (fun K hK => ?_)
             refine Kd.R_append_rows_step k72 (w0 := w) w.heap.size (by rfl) (.tmp 48) (.tmp 50) 73 72 (.agg #[(.int .i64 0), (.int .i64 0)]) 16 rfl Try.underlying73 info72 rfl (by decide) (by omega) v140 y139 y142 _ _ _ (fun k_ => some k_ ≠ (.slice Ao47 x3_1.length co47 : Value).ownBlock ∧ some k_ ≠ (.slice Ao58 y142.length co58 : Value).ownBlock ∧ k_ ≠ gb107) (fun _ => False) rfl rfl ?aO ?aR (fun _ _ h => h) (fun _ h => h.elim) ?aF ?aB ?aS ?aL ?_
             (case aR => exact KC (Kd.R_reads' HO144.out).2.2)
             (case aB => exact (K1 HB GE107.out))
             (case aF => exact (fun k_ hk => ⟨Kd.fresh' (Kd.R_lt (KR HO_3)) k_ hk, Kd.fresh' (Kd.R_lt (KR HO144)) k_ hk, Kd.freshB (g := gb107) (o := .cells #[.int .i64 ((rd_T40 l0 x4_1).f0), .int .i64 t106] 72 (0, 0)) (KB BK107) k_ hk⟩))
             (case aO => exact (by (with_reducible repeat (first | apply Kd.R_alloc | apply Kd.R_drewN | apply Kd.R_drew)); exact Kd.R_mono HO141.out (fun _ hk => ⟨hk.2.1, ⟨hk.1, hk.2.2⟩⟩)))
             (case aS => exact (below_size (K1 HB GE107.out)))
             (case aL => have := LMc42.out; omega)
             intro v146 w57 ho hb hg hat
             rw [← Ny145.out] at ho
             replace BK107 := am (blk_grown (g := gb107) (o := .cells #[.int .i64 ((rd_T40 l0 x4_1).f0), .int .i64 t106] 72 (0, 0)) (KB BK107) hg (Kd.R_away HO141.out (fun _ hk => hk.2.2)))
             replace HO144 := am (Kd.R_after (ok := (fun k_ => some k_ ≠ (.slice Ao47 x3_1.length co47 : Value).ownBlock ∧ k_ ≠ gb107)) (by (with_reducible repeat (first | apply Kd.R_alloc | apply Kd.R_drewN | apply Kd.R_drew)); exact Kd.R_mono HO144.out (fun _ hk => ⟨⟨hk.2.1, hk.2.2⟩, hk.1⟩)) hg hat)
             replace HB := am (hb)
             replace HR151 := am ((show Kd.C k72 w57 A50 y148.length y148 from by rw [Ny148.out, KA50.out]; exact Kd.C_drop (m := (x6_2 : Int).toNat) (c := co47) ((Kd.R_reads' (Kd.R_after (ok := (fun k_ => some k_ ≠ (.slice Ao58 y142.length co58 : Value).ownBlock ∧ k_ ≠ gb107)) (by (with_reducible repeat (first | apply Kd.R_alloc | apply Kd.R_drewN | apply Kd.R_drew)); exact Kd.R_mono HO_3.out (fun _ hk => ⟨⟨hk.2.1, hk.2.2⟩, hk.1⟩)) hg hat)).2.2) KL50.out ((Kd.R_reads' (Kd.R_after (ok := (fun k_ => some k_ ≠ (.slice Ao58 y142.length co58 : Value).ownBlock ∧ k_ ≠ gb107)) (by (with_reducible repeat (first | apply Kd.R_alloc | apply Kd.R_drewN | apply Kd.R_drew)); exact Kd.R_mono HO_3.out (fun _ hk => ⟨⟨hk.2.1, hk.2.2⟩, hk.1⟩)) hg hat)).2.1)))
             replace HO_3 := am (Kd.R_after (ok := (fun k_ => some k_ ≠ (.slice Ao58 y142.length co58 : Value).ownBlock ∧ k_ ≠ gb107)) (by (with_reducible repeat (first | apply Kd.R_alloc | apply Kd.R_drewN | apply Kd.R_drew)); exact Kd.R_mono HO_3.out (fun _ hk => ⟨⟨hk.2.1, hk.2.2⟩, hk.1⟩)) hg hat)
             have HO147 := am (ho)
             clear HO141
             clear ho hb hg hat
             refine hK.out _ _ ⟨z0 _ BK107.out, z1 _ BK107.out⟩ (fun hHeld => ?_)
             clear hK K
             refine norm_ (a' := ?_) ?_ ?_
             rotate_left
             ·show Act.put _ (some 51) _ = _
              simp only [Act.put, List.setIfInBounds_toArray, List.set_cons_zero, List.set_cons_succ, i64_w, i32_w]
              rfl
             refine one_ (i := 11) (N := some 55) (tf 12 1) rfl rfl (one_of HT_.out (by kernel_rfl)) (by decide) (fun K hK => ?_)
             refine Kd.R_append_rows_step k72 (w0 := w) w.heap.size (by rfl) (.tmp 51) (.tmp 54) 73 72 (.agg #[(.int .i64 0), (.int .i64 0)]) 16 rfl Try.underlying73 info72 rfl (by decide) (by omega) v146 y145 y148 _ _ _ (fun k_ => some k_ ≠ (.slice Ao47 x3_1.length co47 : Value).ownBlock ∧ some k_ ≠ (.slice Ao58 y142.length co58 : Value).ownBlock ∧ k_ ≠ gb107) (fun _ => False) rfl rfl ?aO ?aR (fun _ _ h => h) (fun _ h => h.elim) ?aF ?aB ?aS ?aL ?_
             (case aR => repeat (first | exact (by repeat (first | (with_reducible exact HR151.out) | (with_reducible refine Kd.C_alloc ?_ _) | (with_reducible refine Kd.C_drewN ?_ _) | (with_reducible refine Kd.C_drew ?_) | exact HR151.out)) | (with_reducible refine Kd.C_alloc ?_ _) | (with_reducible refine Kd.C_drewN ?_ _) | (with_reducible refine Kd.C_drew ?_)))
             (case aB => exact (K1 HB GE107.out))
             (case aF => exact (fun k_ hk => ⟨Kd.fresh' (Kd.R_lt (KR HO_3)) k_ hk, Kd.fresh' (Kd.R_lt (KR HO144)) k_ hk, Kd.freshB (g := gb107) (o := .cells #[.int .i64 ((rd_T40 l0 x4_1).f0), .int .i64 t106] 72 (0, 0)) (KB BK107) k_ hk⟩))
             (case aO => exact (KR HO147))
             (case aS => exact (below_size (K1 HB GE107.out)))
             (case aL => have := LMc45.out; omega)
             intro v153 w59 ho hb hg hat
             rw [← Ny152.out] at ho
             replace BK107 := am (blk_grown (g := gb107) (o := .cells #[.int .i64 ((rd_T40 l0 x4_1).f0), .int .i64 t106] 72 (0, 0)) (KB BK107) hg (Kd.R_away HO147.out (fun _ hk => hk.2.2)))
             replace HO144 := am (Kd.R_after (ok := (fun k_ => some k_ ≠ (.slice Ao47 x3_1.length co47 : Value).ownBlock ∧ k_ ≠ gb107)) (KR HO144) hg hat)
             replace HB := am (hb)
             replace HR151 := am ((show Kd.C k72 w59 A50 y148.length y148 from by rw [Ny148.out, KA50.out]; exact Kd.C_drop (m := (x6_2 : Int).toNat) (c := co47) ((Kd.R_reads' (Kd.R_after (ok := (fun k_ => some k_ ≠ (.slice Ao58 y142.length co58 : Value).ownBlock ∧ k_ ≠ gb107)) (KR HO_3) hg hat)).2.2) KL50.out ((Kd.R_reads' (Kd.R_after (ok := (fun k_ => some k_ ≠ (.slice Ao58 y142.length co58 : Value).ownBlock ∧ k_ ≠ gb107)) (KR HO_3) hg hat)).2.1)))
             replace HO_3 := am (Kd.R_after (ok := (fun k_ => some k_ ≠ (.slice Ao58 y142.length co58 : Value).ownBlock ∧ k_ ≠ gb107)) (KR HO_3) hg hat)
             have HO154 := am (ho)
             clear HO147
             clear ho hb hg hat
             refine hK.out _ _ ⟨z0 _ BK107.out, z1 _ BK107.out⟩ (fun hHeld => ?_)
             clear hK K
             refine norm_ (a' := ?_) ?_ ?_
             rotate_left
             ·show Act.put _ (some 55) _ = _
              simp only [Act.put, List.setIfInBounds_toArray, List.set_cons_zero, List.set_cons_succ, i64_w, i32_w]
              rfl
             refine pv HT_ 12 3 (tf 13 0) ?_
             refine done_ (done_of HT_.out (by kernel_rfl)) ?_
             try go_wp2
             go_roundg k2
             case measure => have := HK1.out; have := HK2.out; omega
             case rel => exact ⟨(y152), (wrap64 (x4_1 + 1)), (by first | rfl | (simp; done) | (simp [*]; done)), H', ⟨by have := HK1.out; have := HK2.out; omega⟩, ⟨by (with_reducible repeat (first | apply Kd.R_alloc | apply Kd.R_drewN | apply Kd.R_drew)); exact Kd.R_mono HO154.out (fun _ hk => trivial)⟩, ⟨K1 HB GE107.out⟩⟩
            ·rw [if_neg c45] at H
             exact absurd H (by simp)
           ·rw [if_neg c42] at H
            exact absurd H (by simp)
          ·rw [if_neg c41] at H
           exact absurd H (by simp)
         ·rw [if_neg c40] at H
          exact absurd H (by simp)
        ·rw [if_neg c39] at H
         exact absurd H (by simp)
    ·rw [if_neg c5] at H
     exact absurd H (by simp)
   ·rw [if_neg c4] at H
    have c4b0 : decide (x4_1 < (l0.length : Int)) = false := decide_eq_false c4
    clear c4
    obtain ⟨y155, hy155⟩ : ∃ y_ : List (S72), y_ = (([] : List (S72))) := ⟨_, rfl⟩
    replace H : (spec_l2Spans.l2 k1 x3_1 y155 0) = some r := by first | (rw [hy155]; with_reducible exact H) | (have H2_ := (Option.bind_some _ _).symm.trans H; rw [hy155]; with_reducible exact H2_) | (have H2_ := (Option.bind_some _ _).symm.trans H; with_reducible exact H2_) | with_reducible exact H | (rw [hy155]; exact H) | exact H
    have Ny155 := Aside0.mk hy155
    clear hy155
    have H' := Aside0.mk H
    clear H
    go_wp2_with (first | ((with_reducible refine gate_dst (N := 56) rfl ?_); refine Kd.R_lit k72 _ 72 ?hg (N := 56) ?hd (xs := ([] : List (S72))) (inner := []) (ok := fun _ => True) (okp := fun _ => True) ?hr ?hp (fun _ hk => hk) trivial (Below.refl _ _) (Nat.le_refl _) (by simp) ?_; (case hd => rfl); (case hg => rfl); (case hr => first | (go_simp; done) | (go_simp; rfl)); (case hp => exact (Reps.none _ _)); intro v156 w60 ho61 hb hg_ hnew_; clear hg_ hnew_; (first | rw [← Ny155.out] at ho61 | (simp only [Int.reduceToNat] at ho61; rw [← Ny155.out] at ho61)); have HO157 := am (Kd.R_lower (Kd.R_new' ho61 (Kd.R_lt (KR HO_3))) (below_size (KL HB))); replace HO_3 := am (Kd.R_elder' (KR HO_3) (Kd.R_base ho61) hb); replace HB := am (below_step (KL HB) hb); clear hb ho61))
    go_loopg [7, 8] k1 (fun kq v7 v8 w' => ∃ (x3_2 : List (S72)) (x7_2 : List (S72)) (x8_2 : Int), v8 = .int .i64 x8_2 ∧ Aside0 (spec_l2Spans.l2 kq x3_2 x7_2 x8_2 = some r) ∧ Aside0 (kq ≤ k1) ∧ Aside0 (Kd.R k72 72 w' w.heap.size (fun k_ => some k_ ≠ (v7 : Value).ownBlock) u3 x3_2) ∧ Aside0 (Kd.R k72 72 w' w.heap.size (fun k_ => some k_ ≠ (u3 : Value).ownBlock) v7 x7_2) ∧ Aside0 (Below w.heap.size w w'))
    case atStart => exact ⟨(x3_1), (y155), (0), (by first | rfl | (simp; done) | (simp [*]; done)), H', ⟨Nat.le_refl _⟩, ⟨by (with_reducible repeat (first | apply Kd.R_alloc | apply Kd.R_drewN | apply Kd.R_drew)); exact Kd.R_mono HO_3.out (fun _ hk => hk.2)⟩, ⟨by (with_reducible repeat (first | apply Kd.R_alloc | apply Kd.R_drewN | apply Kd.R_drew)); exact Kd.R_mono HO157.out (fun _ hk => hk.2)⟩, ⟨KL HB⟩⟩
    case round =>
     clear H'
     try clear c1
     try clear c2
     try clear p2
     try clear c3
     try clear c4
     try clear c4b0
     try clear q4
     try clear c5
     try clear q5
     try clear p6
     try clear c39
     try clear c40
     try clear c41
     try clear c42
     try clear c45
     try clear q49
     try clear c50
     try clear q50
     try clear q050
     try clear q49
     try clear q50
     obtain ⟨x3_2, x7_2, x8_2, rfl, HA, HK2, HO_3, HO_7, HB⟩ := hrel
     cases gk with
     | zero => exact absurd HA.out (by simp [spec_l2Spans.l2])
     | succ k2 =>
      have H := HA.out
      clear HA
      simp only [spec_l2Spans.l2] at H
      by_cases c62 : x8_2 < (x3_2.length : Int)
      ·rw [if_pos c62] at H
       have c62b0 : decide (x8_2 < (x3_2.length : Int)) = true := decide_eq_true c62
       clear c62
       have HC63 := Aside0.mk H
       clear H
       obtain ⟨Ao64, co64, eo64⟩ := Kd.R_slice HO_3.out
       subst eo64
       obtain ⟨Ao65, co65, eo65⟩ := Kd.R_slice HO_7.out
       subst eo65
       go_upto_region 15 with (fail)
       go_cut [81] (fun v81 wc => ∃ (kq : Nat) (x81_62 : Bool), v81 = .bool x81_62 ∧ Aside0 (spec_l2Spans.j3 kq x3_2 x7_2 x8_2 (wrap64 ((x7_2.length : Int) - 1)) x81_62 = some r) ∧ Aside0 (kq ≤ k2) ∧ Aside0 (Kd.R k72 72 wc w.heap.size (fun k_ => some k_ ≠ ((.slice Ao65 x7_2.length co65) : Value).ownBlock) (.slice Ao64 x3_2.length co64) x3_2) ∧ Aside0 (Kd.R k72 72 wc w.heap.size (fun k_ => some k_ ≠ ((.slice Ao64 x3_2.length co64) : Value).ownBlock) (.slice Ao65 x7_2.length co65) x7_2) ∧ Aside0 (Below w.heap.size w wc))
       case first =>
        have H := HC63.out
        clear HC63
        by_cases c66 : (wrap64 ((x7_2.length : Int) - 1)) ≥ 0
        ·rw [if_pos c66] at H
         have c66b0 : decide (0 ≤ (wrap64 ((x7_2.length : Int) - 1))) = true := decide_eq_true c66
         clear c66
         (first | rw [c66b0] | (simp only [i64_w, i32_w]; rw [c66b0]) | skip)
         by_cases c67 : 0 ≤ x8_2
         ·rw [if_pos c67] at H
          have c67b0 : decide (0 ≤ x8_2) = true := decide_eq_true c67
          clear c67
          obtain ⟨ji68, hji68⟩ : ∃ j_ : Int, (wrap64 ((x7_2.length : Int) - 1)) = j_ := ⟨_, rfl⟩
          replace H : (if 0 ≤ (ji68) then (if (ji68) < (x7_2.length : Int) then (spec_l2Spans.j3 k2 x3_2 x7_2 x8_2 ji68 (decide (((rd_T72 x3_2 x8_2).f0) ≤ (wrap64 (((rd_T72 x7_2 (ji68)).f1) + 1))))) else (none)) else (none)) = some r := by first | (rw [hji68] at H; exact H) | (simp only [hji68] at H ⊢; exact H)
          (try rw [hji68] at c66b0)
          have hji68w : (IntKind.i64.wrap ((x7_2.length : Int) - 1)) = ji68 := (i64_w _).trans hji68
          by_cases c69 : 0 ≤ (ji68)
          ·rw [if_pos c69] at H
           have c69b0 : decide (0 ≤ (ji68)) = true := decide_eq_true c69
           clear c69
           by_cases c70 : (ji68) < (x7_2.length : Int)
           ·rw [if_pos c70] at H
            have c70b0 : decide ((ji68) < (x7_2.length : Int)) = true := decide_eq_true c70
            clear c70
            have H' := Aside0.mk H
            clear H
            try go_wp2
            replace HO_3 := am (Kd.R_drew HO_3.out)
            replace HO_7 := am (Kd.R_drew HO_7.out)
            replace HB := am (below_drew1 HB.out)
            have p158 : 0 ≤ (x8_2 : Int) := OD
            have q158 : x8_2 < (x3_2.length : Int) := OD
            obtain ⟨ad158, e158, hx158_0, hx158_1⟩ := at_T72 (Kd.R_reads' HO_3.out).2.2 x8_2 p158 q158
            cases e158
            replace p158 := eq_true p158
            replace q158 := eq_true q158
            have p159 : 0 ≤ ((ji68) : Int) := OD
            have q159 : (ji68) < (x7_2.length : Int) := OD
            obtain ⟨ad159, e159, hx159_0, hx159_1⟩ := at_T72 (Kd.R_reads' HO_7.out).2.2 (ji68) p159 q159
            cases e159
            replace p159 := eq_true p159
            replace q159 := eq_true q159
            refine start_ (n := 16) (S := fun w' => w'.cell? (ad158.add ((x8_2).toNat * 2)) = some (.int .i64 ((rd_T72 x3_2 x8_2).f0)) ∧ w'.cell? ⟨(ad158.add ((x8_2).toNat * 2)).block, (ad158.add ((x8_2).toNat * 2)).off + 1, none⟩ = some (.int .i64 ((rd_T72 x3_2 x8_2).f1)) ∧ w'.cell? (ad159.add (((ji68)).toNat * 2)) = some (.int .i64 ((rd_T72 x7_2 (ji68)).f0)) ∧ w'.cell? ⟨(ad159.add (((ji68)).toNat * 2)).block, (ad159.add (((ji68)).toNat * 2)).off + 1, none⟩ = some (.int .i64 ((rd_T72 x7_2 (ji68)).f1))) (ds := []) (tf 0 16) (by kernel_rfl) rfl rfl ⟨hx158_0, hx158_1, hx159_0, hx159_1⟩ (fun hHeld => ?_); refine with_tabW spec_l2Spans.tab15 spec_l2Spans.bits15 (fun HT_ HW_ => ?_)
            generalize wr.drew = w71 at HO_3 HO_7 HB hx158_0 hx158_1 hx159_0 hx159_1 hHeld ⊢
            refine pv HT_ 0 66 (tf 1 15) ?_
            refine pv HT_ 1 67 (tf 2 14) ?_
            refine pv HT_ 2 68 (tf 3 13) ?_
            refine pv HT_ 3 69 (tf 4 12) ?_
            refine pv HT_ 4 70 (tf 5 11) ?_
            refine pv HT_ 5 71 (tf 6 10) ?_
            refine pv HT_ 6 72 (tf 7 9) ?_
            refine pv HT_ 8 74 (tr [7, 1, 1, 7]) ?_
            refine pv HT_ 9 75 (tr [7, 1, 2, 6]) ?_
            refine pv HT_ 10 76 (tr [7, 1, 3, 5]) ?_
            refine pv HT_ 11 77 (tr [7, 1, 4, 4]) ?_
            refine tk 7 (some 73) (tf 12 4) (take_ofW HT_.out HW_.out (by kernel_rfl)) hHeld ?_
            refine tk 12 (some 78) (tf 13 3) (take_ofW HT_.out HW_.out (by kernel_rfl)) hHeld ?_
            refine pv HT_ 13 79 (tf 14 2) ?_
            refine pv HT_ 14 80 (tf 15 1) ?_
            refine pv HT_ 15 81 (tf 16 0) ?_
            refine done_ (done_of HT_.out (by kernel_rfl)) ?_
            try go_wp2
            go_meet
            case rel => exact ⟨_, (decide (((rd_T72 x3_2 x8_2).f0) ≤ (wrap64 (((rd_T72 x7_2 (ji68)).f1) + 1)))), (by first | rfl | (simp; done) | (simp only [← hji68] <;> (first | rfl | simp)) | (simp [*]; done)), (by first | exact H' | (rw [hji68]; exact H')), ⟨by have := HK1.out; have := HK2.out; first | omega | exact Nat.le_refl _⟩, ⟨KR HO_3⟩, ⟨KR HO_7⟩, ⟨KL HB⟩⟩
           ·rw [if_neg c70] at H
            exact absurd H (by simp)
          ·rw [if_neg c69] at H
           exact absurd H (by simp)
         ·rw [if_neg c67] at H
          exact absurd H (by simp)
        ·rw [if_neg c66] at H
         have c66b0 : decide (0 ≤ (wrap64 ((x7_2.length : Int) - 1))) = false := decide_eq_false c66
         clear c66
         (first | rw [c66b0] | (simp only [i64_w, i32_w]; rw [c66b0]) | skip)
         have H' := Aside0.mk H
         clear H
         try go_wp2
         replace HO_3 := am (Kd.R_drew HO_3.out)
         replace HO_7 := am (Kd.R_drew HO_7.out)
         replace HB := am (below_drew1 HB.out)
         refine start_ (n := 16) (S := fun w' => True) (ds := []) (tf 0 16) (by kernel_rfl) rfl rfl trivial (fun hHeld => ?_); refine with_tabW spec_l2Spans.tab15 spec_l2Spans.bits15 (fun HT_ HW_ => ?_)
         generalize wr.drew = w72 at HO_3 HO_7 HB hHeld ⊢
         refine pv HT_ 0 66 (tf 1 15) ?_
         refine pv HT_ 1 67 (tf 2 14) ?_
         refine pv HT_ 2 68 (tf 3 13) ?_
         refine pw HT_ 3 69 (tf 4 12) ?_
         refine pw HT_ 4 70 (tf 5 11) ?_
         refine pw HT_ 5 71 (tf 6 10) ?_
         refine pw HT_ 6 72 (tf 7 9) ?_
         refine pw HT_ 7 73 (tf 8 8) ?_
         refine pw HT_ 8 74 (tf 9 7) ?_
         refine pw HT_ 9 75 (tf 10 6) ?_
         refine pw HT_ 10 76 (tf 11 5) ?_
         refine pw HT_ 11 77 (tf 12 4) ?_
         refine pw HT_ 12 78 (tf 13 3) ?_
         refine pw HT_ 13 79 (tf 14 2) ?_
         refine pw HT_ 14 80 (tf 15 1) ?_
         refine pv HT_ 15 81 (tf 16 0) ?_
         refine done_ (done_of HT_.out (by kernel_rfl)) ?_
         try go_wp2
         go_meet
         case rel => exact ⟨_, (false), (by first | rfl | (simp; done) | (simp [*]; done)), H', ⟨by have := HK1.out; have := HK2.out; first | omega | exact Nat.le_refl _⟩, ⟨KR HO_3⟩, ⟨KR HO_7⟩, ⟨KL HB⟩⟩
       case rest =>
        clear HC63
        try clear c1
        try clear p1
        try clear q1
        try clear hx1
        try clear c2
        try clear p2
        try clear c3
        try clear c4
        try clear c4b0
        try clear q4
        try clear c5
        try clear q5
        try clear c6
        try clear p6
        try clear c7
        try clear p15
        try clear q15
        try clear hx15
        try clear c39
        try clear c40
        try clear c41
        try clear c42
        try clear c45
        try clear q49
        try clear c50
        try clear q50
        try clear c62
        try clear c62b0
        try clear p64
        try clear c66
        try clear c66b0
        try clear c67
        try clear c67b0
        try clear c69
        try clear c69b0
        try clear c70
        try clear c70b0
        try clear hx158_0
        try clear hx158_1
        try clear hx159_0
        try clear hx159_1
        try clear p158
        try clear p159
        try clear p2
        try clear p6
        try clear q050
        try clear q158
        try clear q159
        try clear q4
        try clear q49
        try clear q5
        try clear q50
        obtain ⟨kq, x81_62, rfl, HA, HJ62, HO_3, HO_7, HB⟩ := hcut
        cases kq with
        | zero => exact absurd HA.out (by simp [spec_l2Spans.j3])
        | succ kj62 =>
         have H := HA.out
         clear HA
         simp only [spec_l2Spans.j3] at H
         by_cases c73 : x81_62 = true
         ·subst c73
          have H1 : (if 0 ≤ x8_2 then (if x8_2 < (x3_2.length : Int) then (if 0 ≤ (wrap64 ((x7_2.length : Int) - 1)) then (if (wrap64 ((x7_2.length : Int) - 1)) < (x7_2.length : Int) then (if ((rd_T72 x3_2 x8_2).f1) > ((rd_T72 x7_2 (wrap64 ((x7_2.length : Int) - 1))).f1) then (spec_l2Spans.l2 kj62 x3_2 (x7_2.set ((wrap64 ((x7_2.length : Int) - 1)) : Int).toNat (⟨(rd_T72 x7_2 (wrap64 ((x7_2.length : Int) - 1))).f0, (rd_T72 x3_2 x8_2).f1⟩ : S72)) (wrap64 (x8_2 + 1))) else (spec_l2Spans.l2 kj62 x3_2 x7_2 (wrap64 (x8_2 + 1)))) else (none)) else (none)) else (none)) else (none)) = some r := by rw [if_pos rfl] at H; exact H
          clear H
          have H := H1
          clear H1
          by_cases c74 : 0 ≤ x8_2
          ·rw [if_pos c74] at H
           have c74b0 : decide (0 ≤ x8_2) = true := decide_eq_true c74
           clear c74
           by_cases c75 : x8_2 < (x3_2.length : Int)
           ·rw [if_pos c75] at H
            have c75b0 : decide (x8_2 < (x3_2.length : Int)) = true := decide_eq_true c75
            clear c75
            obtain ⟨ji76, hji76⟩ : ∃ j_ : Int, (wrap64 ((x7_2.length : Int) - 1)) = j_ := ⟨_, rfl⟩
            replace H : (if 0 ≤ (ji76) then (if (ji76) < (x7_2.length : Int) then (if ((rd_T72 x3_2 x8_2).f1) > ((rd_T72 x7_2 (ji76)).f1) then (spec_l2Spans.l2 kj62 x3_2 (x7_2.set ((ji76) : Int).toNat (⟨(rd_T72 x7_2 (ji76)).f0, (rd_T72 x3_2 x8_2).f1⟩ : S72)) (wrap64 (x8_2 + 1))) else (spec_l2Spans.l2 kj62 x3_2 x7_2 (wrap64 (x8_2 + 1)))) else (none)) else (none)) = some r := by first | (rw [hji76] at H; exact H) | (simp only [hji76] at H ⊢; exact H)
            have hji76w : (IntKind.i64.wrap ((x7_2.length : Int) - 1)) = ji76 := (i64_w _).trans hji76
            by_cases c77 : 0 ≤ (ji76)
            ·rw [if_pos c77] at H
             have c77b0 : decide (0 ≤ (ji76)) = true := decide_eq_true c77
             clear c77
             by_cases c78 : (ji76) < (x7_2.length : Int)
             ·rw [if_pos c78] at H
              have c78b0 : decide ((ji76) < (x7_2.length : Int)) = true := decide_eq_true c78
              clear c78
              by_cases c79 : ((rd_T72 x3_2 x8_2).f1) > ((rd_T72 x7_2 (ji76)).f1)
              ·rw [if_pos c79] at H
               have c79b0 : decide (((rd_T72 x7_2 (ji76)).f1) < ((rd_T72 x3_2 x8_2).f1)) = true := decide_eq_true c79
               clear c79
               obtain ⟨y163, hy163⟩ : ∃ y_ : List (S72), y_ = (x7_2.set ((ji76) : Int).toNat (⟨(rd_T72 x7_2 (ji76)).f0, (rd_T72 x3_2 x8_2).f1⟩ : S72)) := ⟨_, rfl⟩
               replace H : (spec_l2Spans.l2 kj62 x3_2 y163 (wrap64 (x8_2 + 1))) = some r := by first | (rw [hy163]; with_reducible exact H) | (have H2_ := (Option.bind_some _ _).symm.trans H; rw [hy163]; with_reducible exact H2_) | (have H2_ := (Option.bind_some _ _).symm.trans H; with_reducible exact H2_) | with_reducible exact H | (rw [hy163]; exact H) | exact H
               have Ny163 := Aside0.mk hy163
               clear hy163
               have H' := Aside0.mk H
               clear H
               try go_wp2
               replace HO_3 := am (Kd.R_drew HO_3.out)
               replace HO_7 := am (Kd.R_drew HO_7.out)
               replace HB := am (below_drew1 HB.out)
               have p160 : 0 ≤ (x8_2 : Int) := OD
               have q160 : x8_2 < (x3_2.length : Int) := OD
               obtain ⟨ad160, e160, hx160_0, hx160_1⟩ := at_T72 (Kd.R_reads' HO_3.out).2.2 x8_2 p160 q160
               cases e160
               replace p160 := eq_true p160
               replace q160 := eq_true q160
               have p161 : 0 ≤ ((ji76) : Int) := OD
               have q161 : (ji76) < (x7_2.length : Int) := OD
               obtain ⟨ad161, e161, hx161_0, hx161_1⟩ := at_T72 (Kd.R_reads' HO_7.out).2.2 (ji76) p161 q161
               cases e161
               replace p161 := eq_true p161
               replace q161 := eq_true q161
               refine start_ (n := 11) (S := fun w' => w'.cell? (ad160.add ((x8_2).toNat * 2)) = some (.int .i64 ((rd_T72 x3_2 x8_2).f0)) ∧ w'.cell? ⟨(ad160.add ((x8_2).toNat * 2)).block, (ad160.add ((x8_2).toNat * 2)).off + 1, none⟩ = some (.int .i64 ((rd_T72 x3_2 x8_2).f1)) ∧ w'.cell? (ad161.add (((ji76)).toNat * 2)) = some (.int .i64 ((rd_T72 x7_2 (ji76)).f0)) ∧ w'.cell? ⟨(ad161.add (((ji76)).toNat * 2)).block, (ad161.add (((ji76)).toNat * 2)).off + 1, none⟩ = some (.int .i64 ((rd_T72 x7_2 (ji76)).f1))) (ds := []) (tf 0 11) (by kernel_rfl) rfl rfl ⟨hx160_0, hx160_1, hx161_0, hx161_1⟩ (fun hHeld => ?_); refine with_tabW spec_l2Spans.tab16 spec_l2Spans.bits16 (fun HT_ HW_ => ?_)
               generalize wc.drew = w81 at HO_3 HO_7 HB hx160_0 hx160_1 hx161_0 hx161_1 hHeld ⊢
               refine pv HT_ 0 82 (tf 1 10) ?_
               refine pv HT_ 1 83 (tf 2 9) ?_
               refine pv HT_ 2 84 (tf 3 8) ?_
               refine pv HT_ 3 85 (tf 4 7) ?_
               refine pv HT_ 5 87 (tr [4, 1, 1, 5]) ?_
               refine pv HT_ 6 88 (tr [4, 1, 2, 4]) ?_
               refine pv HT_ 7 89 (tr [4, 1, 3, 3]) ?_
               refine pv HT_ 8 90 (tr [4, 1, 4, 2]) ?_
               refine tk 4 (some 86) (tf 9 2) (take_ofW HT_.out HW_.out (by kernel_rfl)) hHeld ?_
               refine tk 9 (some 91) (tf 10 1) (take_ofW HT_.out HW_.out (by kernel_rfl)) hHeld ?_
               refine pv HT_ 10 92 (tf 11 0) ?_
               refine done_ (done_of HT_.out (by kernel_rfl)) ?_
               have p162 : 0 ≤ (x8_2 : Int) := OD
               have q162 : x8_2 < (x3_2.length : Int) := OD
               obtain ⟨ad162, e162, hx162_0, hx162_1⟩ := at_T72 (Kd.R_reads' HO_3.out).2.2 x8_2 p162 q162
               obtain rfl : ad160 = ad162 := (by injection e162)
               replace p162 := eq_true p162
               replace q162 := eq_true q162
               have p80 : 0 ≤ ((ji76) : Int) := OD
               have q80 : ((ji76) : Int) < ((x7_2.length : Int) : Int) := OD
               obtain ⟨go80, co80, eo80, gb80, gl80, cl80, HG80⟩ := Kd.R_form HO_7.out (by omega)
               (first | cases eo80 | (injection eo80 with ea_ en_ ec_; (first | subst ea_ | (injection ea_ with ea_; subst ea_)); subst ec_; clear en_))
               have GB80 := Aside0.mk gb80
               have GG80 := Aside0.mk HG80
               clear gb80 gl80 HG80
               (first | simp only [add_plain] at hx161_0 | skip)
               (first | simp only [add_plain] at hx161_1 | skip)
               obtain ⟨ce80, hcl80, hM80, hcc80, hfr80⟩ := Kd.R_elem HO_7.out z72 ((ji76) : Int) p80 q80
               obtain rfl := k72_openM hM80
               have hx80_0 : w81.cell? ⟨go80, ((ji76) : Int).toNat * 2, none⟩ = some (.int .i64 ((rd_T72 x7_2 (ji76)).f0)) := hcc80 0 _ rfl
               have hx80_1 : w81.cell? ⟨go80, ((ji76) : Int).toNat * 2 + 1, none⟩ = some (.int .i64 ((rd_T72 x7_2 (ji76)).f1)) := hcc80 1 _ rfl
               have hf80_0 : w81.frozen? ⟨go80, ((ji76) : Int).toNat * 2, none⟩ = false := hfr80 0
               have hf80_1 : w81.frozen? ⟨go80, ((ji76) : Int).toNat * 2 + 1, none⟩ = false := hfr80 1
               clear hcl80 hcc80 hfr80 hM80
               replace p80 := eq_true p80
               replace q80 := eq_true q80
               have HX82 := am (show Kd.R k72 72 w81 w.heap.size (fun k_ => some k_ ≠ (.slice (some ad160) x3_2.length co64 : Value).ownBlock) (.slice (some ⟨go80, 0, none⟩) x7_2.length co65) x7_2 from (KR HO_7))
               obtain ⟨ce82, hcl82, hM82, hcc82, hfr82⟩ := Kd.R_elem HX82.out z72 ((ji76) : Int) (OD) (by have h_ : ((ji76) : Int) < ((x7_2.length : Int) : Int) := OD; first | exact h_ | (have e_ := (Kd.R_reads' HO_7.out).1; omega) | simpa using h_)
               obtain rfl := k72_openM hM82
               have HP82 := Kd.R_seg HX82.out ((ji76) : Int) (OD) (by have h_ : ((ji76) : Int) < ((x7_2.length : Int) : Int) := OD; first | exact h_ | (have e_ := (Kd.R_reads' HO_7.out).1; omega) | simpa using h_) (seg := [.int .i64 ((rd_T72 x3_2 x8_2).f1)]) (j := 1) hcl82 hcc82 (show 2 ≤ 2 from by decide) (x' := (⟨(rd_T72 x7_2 (ji76)).f0, (rd_T72 x3_2 x8_2).f1⟩ : S72)) (k72_mkM _ _ _ (⟨(rd_T72 x7_2 (ji76)).f0, (rd_T72 x3_2 x8_2).f1⟩ : S72) ) (fun _ hk => hk)
               have hx82_1 := hcc82 1 _ rfl
               (try simp only [show (k72).sz = 2 from rfl, Nat.mul_one, Nat.add_zero] at hx82_1)
               have hf82_1 := hfr82 1
               (try simp only [show (k72).sz = 2 from rfl, Nat.mul_one, Nat.add_zero] at hf82_1)
               clear hcl82 hcc82 hfr82 hM82
               try go_wp2_with (first | ((with_reducible refine gate_store (t := 3) (p := 101) rfl ?_); refine store_event (t := 3) (p := 101) (v := ?vo_w83) (w1 := (w81.setCell ⟨go80, ((ji76) : Int).toNat * 2 + 1, none⟩ (.int .i64 ((rd_T72 x3_2 x8_2).f1)))) ?hg ?ho ?hn ?hr ?_; (case ho => rfl); (case hg => rfl); (case hn => rfl); (case hr => first | (go_simp; done) | (go_simp; rfl)); intro w83 hw; have hg : w81.grownBy w83 (some go80) := (by rw [hw]; exact HP82.2); have hp_ : Kd.R k72 72 w83 w.heap.size (fun k_ => some k_ ≠ (.slice (some ad160) x3_2.length co64 : Value).ownBlock) (.slice (some ⟨go80, 0, none⟩) x7_2.length co65) y163 := (by rw [hw, Ny163.out]; exact HP82.1); clear HP82; replace HO_3 := am (Kd.R_after (v := (.slice (some ⟨go80, 0, none⟩) x7_2.length co65)) (v1 := (.slice (some ⟨go80, 0, none⟩) x7_2.length co65)) (ok := (fun _ => True)) (by (with_reducible repeat (first | apply Kd.R_alloc | apply Kd.R_drewN | apply Kd.R_drew)); exact Kd.R_mono HO_3.out (fun _ hk => ⟨trivial, hk⟩)) hg (.inl rfl)); replace HO_7 := am (hp_); replace HB := am ((by rw [hw]; exact below_set (HB.out) GB80.out : Below w.heap.size w w83)); clear hg hw hp_))
               go_roundg kj62
               case measure => have := HK1.out; have := HK2.out; have := HJ62.out; omega
               case rel => exact ⟨(x3_2), (y163), (wrap64 (x8_2 + 1)), (by first | rfl | (simp; done) | (simp [*]; done)), H', ⟨by have := HK1.out; have := HK2.out; have := HJ62.out; omega⟩, ⟨by (with_reducible repeat (first | apply Kd.R_alloc | apply Kd.R_drewN | apply Kd.R_drew)); exact Kd.R_mono HO_3.out (fun _ hk => hk.2)⟩, ⟨KR HO_7⟩, ⟨KL HB⟩⟩
              ·rw [if_neg c79] at H
               have c79b0 : decide (((rd_T72 x7_2 (ji76)).f1) < ((rd_T72 x3_2 x8_2).f1)) = false := decide_eq_false c79
               clear c79
               have H' := Aside0.mk H
               clear H
               try go_wp2
               replace HO_3 := am (Kd.R_drew HO_3.out)
               replace HO_7 := am (Kd.R_drew HO_7.out)
               replace HB := am (below_drew1 HB.out)
               have p160 : 0 ≤ (x8_2 : Int) := OD
               have q160 : x8_2 < (x3_2.length : Int) := OD
               obtain ⟨ad160, e160, hx160_0, hx160_1⟩ := at_T72 (Kd.R_reads' HO_3.out).2.2 x8_2 p160 q160
               cases e160
               replace p160 := eq_true p160
               replace q160 := eq_true q160
               have p161 : 0 ≤ ((ji76) : Int) := OD
               have q161 : (ji76) < (x7_2.length : Int) := OD
               obtain ⟨ad161, e161, hx161_0, hx161_1⟩ := at_T72 (Kd.R_reads' HO_7.out).2.2 (ji76) p161 q161
               cases e161
               replace p161 := eq_true p161
               replace q161 := eq_true q161
               refine start_ (n := 11) (S := fun w' => w'.cell? (ad160.add ((x8_2).toNat * 2)) = some (.int .i64 ((rd_T72 x3_2 x8_2).f0)) ∧ w'.cell? ⟨(ad160.add ((x8_2).toNat * 2)).block, (ad160.add ((x8_2).toNat * 2)).off + 1, none⟩ = some (.int .i64 ((rd_T72 x3_2 x8_2).f1)) ∧ w'.cell? (ad161.add (((ji76)).toNat * 2)) = some (.int .i64 ((rd_T72 x7_2 (ji76)).f0)) ∧ w'.cell? ⟨(ad161.add (((ji76)).toNat * 2)).block, (ad161.add (((ji76)).toNat * 2)).off + 1, none⟩ = some (.int .i64 ((rd_T72 x7_2 (ji76)).f1))) (ds := []) (tf 0 11) (by kernel_rfl) rfl rfl ⟨hx160_0, hx160_1, hx161_0, hx161_1⟩ (fun hHeld => ?_); refine with_tabW spec_l2Spans.tab16 spec_l2Spans.bits16 (fun HT_ HW_ => ?_)
               generalize wc.drew = w84 at HO_3 HO_7 HB hx160_0 hx160_1 hx161_0 hx161_1 hHeld ⊢
               refine pv HT_ 0 82 (tf 1 10) ?_
               refine pv HT_ 1 83 (tf 2 9) ?_
               refine pv HT_ 2 84 (tf 3 8) ?_
               refine pv HT_ 3 85 (tf 4 7) ?_
               refine pv HT_ 5 87 (tr [4, 1, 1, 5]) ?_
               refine pv HT_ 6 88 (tr [4, 1, 2, 4]) ?_
               refine pv HT_ 7 89 (tr [4, 1, 3, 3]) ?_
               refine pv HT_ 8 90 (tr [4, 1, 4, 2]) ?_
               refine tk 4 (some 86) (tf 9 2) (take_ofW HT_.out HW_.out (by kernel_rfl)) hHeld ?_
               refine tk 9 (some 91) (tf 10 1) (take_ofW HT_.out HW_.out (by kernel_rfl)) hHeld ?_
               refine pv HT_ 10 92 (tf 11 0) ?_
               refine done_ (done_of HT_.out (by kernel_rfl)) ?_
               try go_wp2
               go_roundg kj62
               case measure => have := HK1.out; have := HK2.out; have := HJ62.out; omega
               case rel => exact ⟨(x3_2), (x7_2), (wrap64 (x8_2 + 1)), (by first | rfl | (simp; done) | (simp [*]; done)), H', ⟨by have := HK1.out; have := HK2.out; have := HJ62.out; omega⟩, ⟨KR HO_3⟩, ⟨KR HO_7⟩, ⟨KL HB⟩⟩
             ·rw [if_neg c78] at H
              exact absurd H (by simp)
            ·rw [if_neg c77] at H
             exact absurd H (by simp)
           ·rw [if_neg c75] at H
            exact absurd H (by simp)
          ·rw [if_neg c74] at H
           exact absurd H (by simp)
         ·replace c73 := Bool.eq_false_iff.mpr c73
          subst c73
          have H1 : (if 0 ≤ x8_2 then (if x8_2 < (x3_2.length : Int) then ((some (([(⟨(rd_T72 x3_2 x8_2).f0, (rd_T72 x3_2 x8_2).f1⟩ : S72)] : List (S72)) : List (S72))).bind fun y165 => (if x7_2.length + y165.length < 8796093022208 then (spec_l2Spans.l2 kj62 x3_2 (x7_2 ++ y165) (wrap64 (x8_2 + 1))) else (none))) else (none)) else (none)) = some r := by rw [if_neg (show ¬ (false = true) by decide)] at H; exact H
          clear H
          have H := H1
          clear H1
          by_cases c85 : 0 ≤ x8_2
          ·rw [if_pos c85] at H
           have c85b0 : decide (0 ≤ x8_2) = true := decide_eq_true c85
           clear c85
           by_cases c86 : x8_2 < (x3_2.length : Int)
           ·rw [if_pos c86] at H
            have c86b0 : decide (x8_2 < (x3_2.length : Int)) = true := decide_eq_true c86
            clear c86
            obtain ⟨y165, hy165⟩ : ∃ y_ : List (S72), y_ = (([(⟨(rd_T72 x3_2 x8_2).f0, (rd_T72 x3_2 x8_2).f1⟩ : S72)] : List (S72))) := ⟨_, rfl⟩
            replace H : (if x7_2.length + y165.length < 8796093022208 then (spec_l2Spans.l2 kj62 x3_2 (x7_2 ++ y165) (wrap64 (x8_2 + 1))) else (none)) = some r := by first | (rw [hy165]; with_reducible exact H) | (have H2_ := (Option.bind_some _ _).symm.trans H; rw [hy165]; with_reducible exact H2_) | (have H2_ := (Option.bind_some _ _).symm.trans H; with_reducible exact H2_) | with_reducible exact H | (rw [hy165]; exact H) | exact H
            have Ny165 := Aside0.mk hy165
            clear hy165
            by_cases c87 : x7_2.length + y165.length < 8796093022208
            ·rw [if_pos c87] at H
             have LMc87 := Aside0.mk c87
             clear c87
             obtain ⟨y168, hy168⟩ : ∃ y_ : List (S72), y_ = (x7_2 ++ y165) := ⟨_, rfl⟩
             replace H : (spec_l2Spans.l2 kj62 x3_2 y168 (wrap64 (x8_2 + 1))) = some r := by first | (rw [hy168]; with_reducible exact H) | (have H2_ := (Option.bind_some _ _).symm.trans H; rw [hy168]; with_reducible exact H2_) | (have H2_ := (Option.bind_some _ _).symm.trans H; with_reducible exact H2_) | with_reducible exact H | (rw [hy168]; exact H) | exact H
             have Ny168 := Aside0.mk hy168
             clear hy168
             have H' := Aside0.mk H
             clear H
             have p164 : 0 ≤ (x8_2 : Int) := OD
             have q164 : x8_2 < (x3_2.length : Int) := OD
             obtain ⟨ad164, e164, hx164_0, hx164_1⟩ := at_T72 (Kd.R_reads' HO_3.out).2.2 x8_2 p164 q164
             cases e164
             replace p164 := eq_true p164
             replace q164 := eq_true q164
             go_wp2_with (first | ((with_reducible refine gate_dst (N := 107) rfl ?_); refine Kd.R_lit k72 _ 72 ?hg (N := 107) ?hd (xs := ([(⟨(rd_T72 x3_2 x8_2).f0, (rd_T72 x3_2 x8_2).f1⟩ : S72)] : List (S72))) (inner := [.int .i64 ((rd_T72 x3_2 x8_2).f0), .int .i64 ((rd_T72 x3_2 x8_2).f1)]) (ok := fun _ => True) (okp := fun _ => True) ?hr ?hp (fun _ hk => hk) trivial (Below.refl _ _) (Nat.le_refl _) (by simp) ?_; (case hd => rfl); (case hg => rfl); (case hr => first | (go_simp; done) | (go_simp; rfl)); (case hp => exact (Reps.c2 (show Kd.M k72 _ _ _ (⟨(rd_T72 x3_2 x8_2).f0, (rd_T72 x3_2 x8_2).f1⟩ : S72) [.int .i64 ((rd_T72 x3_2 x8_2).f0), .int .i64 ((rd_T72 x3_2 x8_2).f1)] from (k72_mkM _ _ _ (⟨(rd_T72 x3_2 x8_2).f0, (rd_T72 x3_2 x8_2).f1⟩ : S72) )) (Reps.none _ _))); intro v166 w88 ho89 hb hg_ hnew_; clear hg_ hnew_; (first | rw [← Ny165.out] at ho89 | (simp only [Int.reduceToNat] at ho89; rw [← Ny165.out] at ho89)); have HO167 := am (Kd.R_lower (Kd.R_new' (Kd.R_new' ho89 (Kd.R_lt (KR HO_3))) (Kd.R_lt (KR HO_7))) (below_size (KL HB))); replace HO_3 := am (Kd.R_elder' (KR HO_3) (Kd.R_base ho89) hb); replace HO_7 := am (Kd.R_elder' (KR HO_7) (Kd.R_base ho89) hb); replace HB := am (below_step (KL HB) hb); clear hb ho89; obtain ⟨Ao91, co91, eo91⟩ := Kd.R_slice HO167.out; subst eo91) | ((with_reducible refine gate_builtin (b := .append) (xs := #[.tmp 102, .tmp 107]) rfl ?_); at_builtin; refine Kd.R_append_rows k72 (w0 := w) w.heap.size rfl (.tmp 102) (.tmp 107) 73 72 (.agg #[(.int .i64 0), (.int .i64 0)]) 16 rfl Try.underlying73 info72 rfl (by decide) (by omega) (.slice Ao65 x7_2.length co65) x7_2 y165 _ _ _ (fun k_ => some k_ ≠ (.slice (some ad164) x3_2.length co64 : Value).ownBlock ∧ some k_ ≠ (.slice Ao91 y165.length co91 : Value).ownBlock) (fun _ => False) rfl rfl ?aO ?aR (fun _ _ h => h) (fun _ h => h.elim) ?aF ?aB ?aS ?aL ?_; (case aR => exact KC (Kd.R_reads' HO167.out).2.2); (case aB => exact (KL HB)); (case aF => exact (fun k_ hk => ⟨Kd.fresh' (Kd.R_lt (KR HO_3)) k_ hk, Kd.fresh' (Kd.R_lt (KR HO167)) k_ hk⟩)); (case aO => exact (KR HO_7)); (case aS => exact (below_size (KL HB))); (case aL => have := LMc87.out; omega); intro v169 w90 ho hb hg hat; rw [← Ny168.out] at ho; replace HO_3 := am (Kd.R_after (ok := (fun k_ => some k_ ≠ (.slice Ao91 y165.length co91 : Value).ownBlock)) (by (with_reducible repeat (first | apply Kd.R_alloc | apply Kd.R_drewN | apply Kd.R_drew)); exact Kd.R_mono HO_3.out (fun _ hk => ⟨hk.2, hk.1⟩)) hg hat); replace HO167 := am (Kd.R_after (ok := (fun k_ => some k_ ≠ (.slice (some ad164) x3_2.length co64 : Value).ownBlock)) (by (with_reducible repeat (first | apply Kd.R_alloc | apply Kd.R_drewN | apply Kd.R_drew)); exact Kd.R_mono HO167.out (fun _ hk => ⟨hk.1.2, hk.2⟩)) hg hat); replace HB := am (hb); have HO170 := am (ho); clear HO_7; clear ho hb hg hat))
             go_roundg kj62
             case measure => have := HK1.out; have := HK2.out; have := HJ62.out; omega
             case rel => exact ⟨(x3_2), (y168), (wrap64 (x8_2 + 1)), (by first | rfl | (simp; done) | (simp [*]; done)), H', ⟨by have := HK1.out; have := HK2.out; have := HJ62.out; omega⟩, ⟨by (with_reducible repeat (first | apply Kd.R_alloc | apply Kd.R_drewN | apply Kd.R_drew)); exact Kd.R_mono HO_3.out (fun _ hk => hk.2)⟩, ⟨by (with_reducible repeat (first | apply Kd.R_alloc | apply Kd.R_drewN | apply Kd.R_drew)); exact Kd.R_mono HO170.out (fun _ hk => hk.1)⟩, ⟨KL HB⟩⟩
            ·rw [if_neg c87] at H
             exact absurd H (by simp)
           ·rw [if_neg c86] at H
            exact absurd H (by simp)
          ·rw [if_neg c85] at H
           exact absurd H (by simp)
      ·rw [if_neg c62] at H
       have c62b0 : decide (x8_2 < (x3_2.length : Int)) = false := decide_eq_false c62
       clear c62
       obtain rfl := Option.some.inj H
       obtain ⟨Ao92, co92, eo92⟩ := Kd.R_slice HO_3.out
       subst eo92
       go_wp2
       go_ret
       exact ⟨_, ER, by (with_reducible repeat (first | apply Kd.R_alloc | apply Kd.R_drewN | apply Kd.R_drew)); exact Kd.R_mono HO_7.out (fun _ hk => trivial), KL HB⟩
def spec_SetOf.f (k : Nat) (l0 : List (S40)) : Option ((List (S40)) × Bool) := (spec_l2Blocks.f k l0).bind fun t101 => (if t101 = true then ((spec_l2Spans.f k l0).bind fun t102 => ((spec_l2Cover.f k t102).bind fun t105 => ((spec_l2Room.f t105).bind fun bt108 => (some (bt108.1, bt108.2))))) else (some ((([] : List (S40))), false)))
set_option maxHeartbeats 8000000 in
set_option maxRecDepth 100000 in
theorem spec_SetOf.calls (k : Nat) (A0 : Option Addr) (c0 : Nat) (l0 : List (S40)) (r1 : List (S40)) (r2 : Bool) (w : World) (hr0 : Kd.C k40 w A0 l0.length l0) (hc0 : l0.length ≤ c0) (h : spec_SetOf.f k l0 = some (r1, r2)) :
  Calls Try.prog 22 #[.slice A0 l0.length c0] w fun e w' => ∃ v0_ : Value, e = .returned (.tuple #[v0_, .bool r2]) ∧ Kd.R k40 40 w' w.heap.size (fun _ => True) v0_ r1 ∧ Below w.heap.size w w' := by
 have HR0 := Aside0.mk hr0
 have HC0 := Aside0.mk hc0
 clear hr0 hc0
 have HB := am (Below.refl w.heap.size w)
 have H : ((spec_l2Blocks.f k l0).bind fun t101 => (if t101 = true then ((spec_l2Spans.f k l0).bind fun t102 => ((spec_l2Cover.f k t102).bind fun t105 => ((spec_l2Room.f t105).bind fun bt108 => (some (bt108.1, bt108.2))))) else (some ((([] : List (S40))), false)))) = some (r1, r2) := h
 clear h
 replace H := Option.bind_eq_some_iff.mp H
 obtain ⟨t101, A20, H⟩ := H
 replace H : (if t101 = true then ((spec_l2Spans.f k l0).bind fun t102 => ((spec_l2Cover.f k t102).bind fun t105 => ((spec_l2Room.f t105).bind fun bt108 => (some (bt108.1, bt108.2))))) else (some ((([] : List (S40))), false))) = some (r1, r2) := H
 have A2 := Aside0.mk A20
 clear A20
 by_cases c3 : t101 = true
 ·subst c3
  have H1 : ((spec_l2Spans.f k l0).bind fun t102 => ((spec_l2Cover.f k t102).bind fun t105 => ((spec_l2Room.f t105).bind fun bt108 => (some (bt108.1, bt108.2))))) = some (r1, r2) := by rw [if_pos rfl] at H; exact H
  clear H
  have H := H1
  clear H1
  replace H := Option.bind_eq_some_iff.mp H
  obtain ⟨t102, A40, H⟩ := H
  replace H : ((spec_l2Cover.f k t102).bind fun t105 => ((spec_l2Room.f t105).bind fun bt108 => (some (bt108.1, bt108.2)))) = some (r1, r2) := H
  have A4 := Aside0.mk A40
  clear A40
  replace H := Option.bind_eq_some_iff.mp H
  obtain ⟨t105, A50, H⟩ := H
  replace H : ((spec_l2Room.f t105).bind fun bt108 => (some (bt108.1, bt108.2))) = some (r1, r2) := H
  have A5 := Aside0.mk A50
  clear A50
  replace H := Option.bind_eq_some_iff.mp H
  obtain ⟨⟨t108, t111⟩, A60, H⟩ := H
  replace H : (some (t108, t111)) = some (r1, r2) := H
  have A6 := Aside0.mk A60
  clear A60
  simp only [Option.some.injEq, Prod.mk.injEq] at H
  obtain ⟨rfl, rfl⟩ := H
  go_enter Try.func22, Try.ntmps22
  go_wp2_with (first | ((with_reducible refine gate_callee (f := 65) rfl ?_); refine goesL_ (some 5) rfl rfl Try.func65 (by kernel_rfl) rfl #[.slice A0 l0.length c0] rfl MT ?_; (with_reducible refine (spec_l2Blocks.calls k _ _ l0 true _ ?side1 ?side2 A2.out).mono ?_); (case side1 => exact KC HR0.out); (case side2 => exact HC0.out); rintro e w7 ⟨rfl, hb⟩; refine ⟨_, rfl, ?_⟩; replace HB := am (below_step (KL HB) hb); (try clear hb)) | ((with_reducible refine gate_callee (f := 67) rfl ?_); refine goesL_ (some 9) rfl rfl Try.func67 (by kernel_rfl) rfl #[.slice A0 l0.length c0] rfl MT ?_; (with_reducible refine (spec_l2Spans.calls k _ _ l0 t102 _ ?side1 ?side2 A4.out).mono ?_); (case side1 => exact KD HR0 HB); (case side2 => exact HC0.out); rintro e w8 ⟨v103, rfl, ho0, hb⟩; refine ⟨_, rfl, ?_⟩; have HO104 := am (Kd.R_lower ho0 (below_size (KL HB))); replace HB := am (below_step (KL HB) hb); (try clear hb); (try clear ho0); obtain ⟨Ao9, co9, eo9⟩ := Kd.R_slice HO104.out; subst eo9) | ((with_reducible refine gate_callee (f := 49) rfl ?_); refine goesL_ (some 10) rfl rfl Try.func49 (by kernel_rfl) rfl #[.slice Ao9 t102.length co9] rfl MT ?_; (with_reducible refine (spec_l2Cover.calls k _ _ t102 t105 _ ?side1 ?side2 A5.out).mono ?_); (case side1 => exact KC (Kd.R_reads' HO104.out).2.2); (case side2 => exact (Kd.R_reads' HO104.out).2.1); rintro e w10 ⟨v106, rfl, ho0, hb⟩; refine ⟨_, rfl, ?_⟩; replace HO104 := am (Kd.R_below (KR HO104) hb); have HO107 := am (Kd.R_lower ho0 (below_size (KL HB))); replace HB := am (below_step (KL HB) hb); (try clear hb); (try clear ho0); obtain ⟨Ao11, co11, eo11⟩ := Kd.R_slice HO107.out; subst eo11) | ((with_reducible refine gate_callee (f := 66) rfl ?_); refine goesL_ (some 11) rfl rfl Try.func66 (by kernel_rfl) rfl #[.slice Ao11 t105.length co11] rfl MT ?_; (with_reducible refine (spec_l2Room.calls (fun k_ => some k_ = (.slice Ao11 t105.length co11 : Value).ownBlock) (.slice Ao11 t105.length co11) t105 t108 t111 w _ ?side1 ?side2 A6.out).mono ?_); (case side1 => exact KL HB); (case side2 => exact Kd.R_tight rfl HO107.out); rintro e w12 ⟨v109, rfl, ho0, hb, hkp⟩; refine ⟨_, rfl, ?_⟩; replace HO104 := am (Kd.R_mono (ok' := fun k_ => True) (Kd.R_keptB ((Kd.R_apart' HO104.out (Kd.R_typed HO107.out) (by decide))) hkp (fun k_ hk_ hs_ => (hk_.2) hs_)) (fun k_ hk_ => trivial)); have HO110 := am (Kd.R_mono (ok' := fun k_ => True) ho0 (fun k_ hk_ => trivial)); replace HB := am (hb); clear HO107; (try clear hb); (try clear hkp); (try clear ho0)))
  go_ret2
  exact ⟨_, ER, by (with_reducible repeat (first | apply Kd.R_alloc | apply Kd.R_drewN | apply Kd.R_drew)); exact HO110.out, KL HB⟩
 ·replace c3 := Bool.eq_false_iff.mpr c3
  subst c3
  have H1 : (some ((([] : List (S40))), false)) = some (r1, r2) := by rw [if_neg (show ¬ (false = true) by decide)] at H; exact H
  clear H
  have H := H1
  clear H1
  obtain ⟨y112, hy112⟩ : ∃ y_ : List (S40), y_ = (([] : List (S40))) := ⟨_, rfl⟩
  replace H : (some (y112, false)) = some (r1, r2) := by first | (rw [hy112]; with_reducible exact H) | (have H2_ := (Option.bind_some _ _).symm.trans H; rw [hy112]; with_reducible exact H2_) | (have H2_ := (Option.bind_some _ _).symm.trans H; with_reducible exact H2_) | with_reducible exact H | (rw [hy112]; exact H) | exact H
  have Ny112 := Aside0.mk hy112
  clear hy112
  simp only [Option.some.injEq, Prod.mk.injEq] at H
  obtain ⟨rfl, rfl⟩ := H
  go_enter Try.func22, Try.ntmps22
  go_wp2_with (first | ((with_reducible refine gate_callee (f := 65) rfl ?_); refine goesL_ (some 5) rfl rfl Try.func65 (by kernel_rfl) rfl #[.slice A0 l0.length c0] rfl MT ?_; (with_reducible refine (spec_l2Blocks.calls k _ _ l0 false _ ?side1 ?side2 A2.out).mono ?_); (case side1 => exact KC HR0.out); (case side2 => exact HC0.out); rintro e w13 ⟨rfl, hb⟩; refine ⟨_, rfl, ?_⟩; replace HB := am (below_step (KL HB) hb); (try clear hb)) | ((with_reducible refine gate_dst (N := 7) rfl ?_); refine Kd.R_lit k40 _ 40 ?hg (N := 7) ?hd (xs := ([] : List (S40))) (inner := []) (ok := fun _ => True) (okp := fun _ => True) ?hr ?hp (fun _ hk => hk) trivial (Below.refl _ _) (Nat.le_refl _) (by simp) ?_; (case hd => rfl); (case hg => rfl); (case hr => first | (go_simp; done) | (go_simp; rfl)); (case hp => exact (Reps.none _ _)); intro v113 w14 ho15 hb hg_ hnew_; clear hg_ hnew_; (first | rw [← Ny112.out] at ho15 | (simp only [Int.reduceToNat] at ho15; rw [← Ny112.out] at ho15)); have HO114 := am (Kd.R_lower ho15 (below_size (KL HB))); replace HB := am (below_step (KL HB) hb); clear hb ho15))
  go_ret2
  exact ⟨_, ER, by (with_reducible repeat (first | apply Kd.R_alloc | apply Kd.R_drewN | apply Kd.R_drew)); exact HO114.out, KL HB⟩
def spec_l12Set.f (k : Nat) (s0_0 : List Int) (s0_1 : Int) : Option ((List (S40)) × Int) := (spec_l12Blocks.f k s0_0 s0_1).bind fun bt101 => ((spec_SetOf.f k bt101.1).bind fun bt105 => (if bt105.2 = true then (some (bt105.1, bt101.2)) else (some ((([] : List (S40))), bt101.2))))
set_option maxHeartbeats 8000000 in
set_option maxRecDepth 100000 in
theorem spec_l12Set.calls (k : Nat) (g : Nat) (s0_0 : List Int) (s0_1 : Int) (r1 : List (S40)) (r2 : Int) (w0 w : World) (hI : IsS103 w0 w g s0_0 s0_1) (hB : Below w0.heap.size w0 w) (h : spec_l12Set.f k s0_0 s0_1 = some (r1, r2)) :
  Calls Try.prog 96 #[.pointer (some ⟨g, 0, none⟩)] w fun e w' => ∃ v0_ : Value, e = .returned (v0_) ∧ Kd.R k40 40 w' w.heap.size (fun _ => True) v0_ r1 ∧ IsS103 w0 w' g s0_0 r2 ∧ Below w0.heap.size w0 w' ∧ KeepBut w w' g none := by
 have HI0 := Aside0.mk hI
 have HK := am (KeepBut.refl w g none)
 have HL := Aside0.mk hB.size
 clear hI
 have HW0 := Aside0.mk hB.size
 have HB := Aside0.mk hB
 clear hB
 have H : ((spec_l12Blocks.f k s0_0 s0_1).bind fun bt101 => ((spec_SetOf.f k bt101.1).bind fun bt105 => (if bt105.2 = true then (some (bt105.1, bt101.2)) else (some ((([] : List (S40))), bt101.2))))) = some (r1, r2) := h
 clear h
 replace H := Option.bind_eq_some_iff.mp H
 obtain ⟨⟨t101, t104⟩, A20, H⟩ := H
 replace H : ((spec_SetOf.f k t101).bind fun bt105 => (if bt105.2 = true then (some (bt105.1, t104)) else (some ((([] : List (S40))), t104)))) = some (r1, r2) := H
 have A2 := Aside0.mk A20
 clear A20
 replace H := Option.bind_eq_some_iff.mp H
 obtain ⟨⟨t105, t106⟩, A30, H⟩ := H
 replace H : (if t106 = true then (some (t105, t104)) else (some ((([] : List (S40))), t104))) = some (r1, r2) := H
 have A3 := Aside0.mk A30
 clear A30
 by_cases c4 : t106 = true
 ·subst c4
  have H1 : (some (t105, t104)) = some (r1, r2) := by rw [if_pos rfl] at H; exact H
  clear H
  have H := H1
  clear H1
  simp only [Option.some.injEq, Prod.mk.injEq] at H
  obtain ⟨rfl, rfl⟩ := H
  go_enter Try.func96, Try.ntmps96
  go_wp2_with (first | ((with_reducible refine gate_callee (f := 62) rfl ?_); refine goesL_ (some 7) rfl rfl Try.func62 (by kernel_rfl) rfl #[.pointer (some ⟨g, 0, none⟩)] rfl MT ?_; (with_reducible refine (spec_l12Blocks.calls k g s0_0 s0_1 t101 t104 w0 _ ?side1 ?side2 A2.out).mono ?_); (case side1 => exact I103_0 HI0); (case side2 => exact K1 HB (IsS103.ge HI0.out)); rintro e w5 ⟨v102, rfl, ho0, hi, hb, hk⟩; refine ⟨_, rfl, ?_⟩; have HO103 := am (Kd.R_lower ho0 (keep_size (w := w) (g := g) (row := none) (J0 HK))); replace HK := am (KeepBut.trans (J0 HK) hk (.inl rfl)); replace HB := am (hb); replace HI0 := am (hi); (try clear hb); (try clear hk); (try clear hi); (try clear ho0); obtain ⟨Ao6, co6, eo6⟩ := Kd.R_slice HO103.out; subst eo6) | ((with_reducible refine gate_callee (f := 22) rfl ?_); refine goesL_ (some 8) rfl rfl Try.func22 (by kernel_rfl) rfl #[.slice Ao6 t101.length co6] rfl MT ?_; (with_reducible refine (spec_SetOf.calls k _ _ t101 t105 true _ ?side1 ?side2 A3.out).mono ?_); (case side1 => exact KC (Kd.R_reads' HO103.out).2.2); (case side2 => exact (Kd.R_reads' HO103.out).2.1); rintro e w7 ⟨v107, rfl, ho0, hb⟩; refine ⟨_, rfl, ?_⟩; have HO108 := am (Kd.R_lower (Kd.R_new' ho0 (Kd.R_lt (KR HO103))) (keep_size (w := w) (g := g) (row := none) (J0 HK))); replace HO103 := am (Kd.R_elder' (KR HO103) (Kd.R_base ho0) hb); replace HK := am (KeepBut.trans (J0 HK) (KeepBut.of_below hb g none) (.inl rfl)); replace HB := am (below_step (K1 HB (IsS103.ge HI0.out)) hb); replace HI0 := am (IsS103.below (I103_0 HI0) hb); (try clear hb); (try clear ho0)))
  go_ret
  exact ⟨_, ER, by (with_reducible repeat (first | apply Kd.R_alloc | apply Kd.R_drewN | apply Kd.R_drew)); exact Kd.R_mono HO108.out (fun _ hk => trivial), I103_0 HI0, K1 HB (IsS103.ge HI0.out), J0 HK⟩
 ·replace c4 := Bool.eq_false_iff.mpr c4
  subst c4
  have H1 : (some ((([] : List (S40))), t104)) = some (r1, r2) := by rw [if_neg (show ¬ (false = true) by decide)] at H; exact H
  clear H
  have H := H1
  clear H1
  obtain ⟨y109, hy109⟩ : ∃ y_ : List (S40), y_ = (([] : List (S40))) := ⟨_, rfl⟩
  replace H : (some (y109, t104)) = some (r1, r2) := by first | (rw [hy109]; with_reducible exact H) | (have H2_ := (Option.bind_some _ _).symm.trans H; rw [hy109]; with_reducible exact H2_) | (have H2_ := (Option.bind_some _ _).symm.trans H; with_reducible exact H2_) | with_reducible exact H | (rw [hy109]; exact H) | exact H
  have Ny109 := Aside0.mk hy109
  clear hy109
  simp only [Option.some.injEq, Prod.mk.injEq] at H
  obtain ⟨rfl, rfl⟩ := H
  go_enter Try.func96, Try.ntmps96
  go_wp2_with (first | ((with_reducible refine gate_callee (f := 62) rfl ?_); refine goesL_ (some 7) rfl rfl Try.func62 (by kernel_rfl) rfl #[.pointer (some ⟨g, 0, none⟩)] rfl MT ?_; (with_reducible refine (spec_l12Blocks.calls k g s0_0 s0_1 t101 t104 w0 _ ?side1 ?side2 A2.out).mono ?_); (case side1 => exact I103_0 HI0); (case side2 => exact K1 HB (IsS103.ge HI0.out)); rintro e w8 ⟨v102, rfl, ho0, hi, hb, hk⟩; refine ⟨_, rfl, ?_⟩; have HO103 := am (Kd.R_lower ho0 (keep_size (w := w) (g := g) (row := none) (J0 HK))); replace HK := am (KeepBut.trans (J0 HK) hk (.inl rfl)); replace HB := am (hb); replace HI0 := am (hi); (try clear hb); (try clear hk); (try clear hi); (try clear ho0); obtain ⟨Ao9, co9, eo9⟩ := Kd.R_slice HO103.out; subst eo9) | ((with_reducible refine gate_callee (f := 22) rfl ?_); refine goesL_ (some 8) rfl rfl Try.func22 (by kernel_rfl) rfl #[.slice Ao9 t101.length co9] rfl MT ?_; (with_reducible refine (spec_SetOf.calls k _ _ t101 t105 false _ ?side1 ?side2 A3.out).mono ?_); (case side1 => exact KC (Kd.R_reads' HO103.out).2.2); (case side2 => exact (Kd.R_reads' HO103.out).2.1); rintro e w10 ⟨v107, rfl, ho0, hb⟩; refine ⟨_, rfl, ?_⟩; have HO108 := am (Kd.R_lower (Kd.R_new' ho0 (Kd.R_lt (KR HO103))) (keep_size (w := w) (g := g) (row := none) (J0 HK))); replace HO103 := am (Kd.R_elder' (KR HO103) (Kd.R_base ho0) hb); replace HK := am (KeepBut.trans (J0 HK) (KeepBut.of_below hb g none) (.inl rfl)); replace HB := am (below_step (K1 HB (IsS103.ge HI0.out)) hb); replace HI0 := am (IsS103.below (I103_0 HI0) hb); (try clear hb); (try clear ho0)) | ((with_reducible refine gate_dst (N := 13) rfl ?_); refine Kd.R_lit k40 _ 40 ?hg (N := 13) ?hd (xs := ([] : List (S40))) (inner := []) (ok := fun _ => True) (okp := fun _ => True) ?hr ?hp (fun _ hk => hk) trivial (Below.refl _ _) (Nat.le_refl _) (by simp) ?_; (case hd => rfl); (case hg => rfl); (case hr => first | (go_simp; done) | (go_simp; rfl)); (case hp => exact (Reps.none _ _)); intro v110 w11 ho12 hb hg_ hnew_; clear hg_ hnew_; (first | rw [← Ny109.out] at ho12 | (simp only [Int.reduceToNat] at ho12; rw [← Ny109.out] at ho12)); have HO111 := am (Kd.R_lower (Kd.R_new' (Kd.R_new' ho12 (Kd.R_lt (KR HO103))) (Kd.R_lt (KR HO108))) (keep_size (w := w) (g := g) (row := none) (J0 HK))); replace HO103 := am (Kd.R_elder' (KR HO103) (Kd.R_base ho12) hb); replace HO108 := am (Kd.R_elder' (KR HO108) (Kd.R_base ho12) hb); replace HK := am (KeepBut.trans (J0 HK) (KeepBut.of_below hb g none) (.inl rfl)); replace HB := am (below_step (K1 HB (IsS103.ge HI0.out)) hb); replace HI0 := am (IsS103.below (I103_0 HI0) hb); clear hb ho12))
  go_ret
  exact ⟨_, ER, by (with_reducible repeat (first | apply Kd.R_alloc | apply Kd.R_drewN | apply Kd.R_drew)); exact Kd.R_mono HO111.out (fun _ hk => trivial), I103_0 HI0, K1 HB (IsS103.ge HI0.out), J0 HK⟩
def spec_l12AnySet.f (k : Nat) (s0_0 : List Int) (s0_1 : Int) : Option ((List (S40)) × Int) := (spec_l1Rd_pick.f k s0_0 s0_1 8).bind fun bt101 => (if bt101.1 = 0 then ((spec_l12Blocks.f k s0_0 bt101.2).bind fun bt103 => (some (bt103.1, bt103.2))) else (if bt101.1 = 1 then ((spec_l12Set.f k s0_0 bt101.2).bind fun bt107 => ((spec_l12AnyBlock.f k s0_0 bt107.2).bind fun bt111 => (if bt107.1.length < 8796093022208 then (some ((bt107.1 ++ [(⟨bt111.1, bt111.2.1⟩ : S40)]), bt111.2.2)) else (none)))) else ((spec_l12Set.f k s0_0 bt101.2).bind fun bt117 => (some (bt117.1, bt117.2)))))
set_option maxHeartbeats 8000000 in
set_option maxRecDepth 100000 in
theorem spec_l12AnySet.calls (k : Nat) (g : Nat) (s0_0 : List Int) (s0_1 : Int) (r1 : List (S40)) (r2 : Int) (w0 w : World) (hI : IsS103 w0 w g s0_0 s0_1) (hB : Below w0.heap.size w0 w) (h : spec_l12AnySet.f k s0_0 s0_1 = some (r1, r2)) :
  Calls Try.prog 72 #[.pointer (some ⟨g, 0, none⟩)] w fun e w' => ∃ v0_ : Value, e = .returned (v0_) ∧ Kd.R k40 40 w' w.heap.size (fun _ => True) v0_ r1 ∧ IsS103 w0 w' g s0_0 r2 ∧ Below w0.heap.size w0 w' ∧ KeepBut w w' g none := by
 have HI0 := Aside0.mk hI
 have HK := am (KeepBut.refl w g none)
 have HL := Aside0.mk hB.size
 clear hI
 have HW0 := Aside0.mk hB.size
 have HB := Aside0.mk hB
 clear hB
 have H : ((spec_l1Rd_pick.f k s0_0 s0_1 8).bind fun bt101 => (if bt101.1 = 0 then ((spec_l12Blocks.f k s0_0 bt101.2).bind fun bt103 => (some (bt103.1, bt103.2))) else (if bt101.1 = 1 then ((spec_l12Set.f k s0_0 bt101.2).bind fun bt107 => ((spec_l12AnyBlock.f k s0_0 bt107.2).bind fun bt111 => (if bt107.1.length < 8796093022208 then (some ((bt107.1 ++ [(⟨bt111.1, bt111.2.1⟩ : S40)]), bt111.2.2)) else (none)))) else ((spec_l12Set.f k s0_0 bt101.2).bind fun bt117 => (some (bt117.1, bt117.2)))))) = some (r1, r2) := h
 clear h
 replace H := Option.bind_eq_some_iff.mp H
 obtain ⟨⟨t101, t102⟩, A20, H⟩ := H
 replace H : (if t101 = 0 then ((spec_l12Blocks.f k s0_0 t102).bind fun bt103 => (some (bt103.1, bt103.2))) else (if t101 = 1 then ((spec_l12Set.f k s0_0 t102).bind fun bt107 => ((spec_l12AnyBlock.f k s0_0 bt107.2).bind fun bt111 => (if bt107.1.length < 8796093022208 then (some ((bt107.1 ++ [(⟨bt111.1, bt111.2.1⟩ : S40)]), bt111.2.2)) else (none)))) else ((spec_l12Set.f k s0_0 t102).bind fun bt117 => (some (bt117.1, bt117.2))))) = some (r1, r2) := H
 have A2 := Aside0.mk A20
 clear A20
 by_cases c3 : t101 = 0
 ·rw [if_pos c3] at H
  have c3b0 : (t101 == 0) = true := beq_iff_eq.mpr c3
  have c3b1 : (t101 != 0) = false := bne_eq_false_iff_eq.mpr c3
  clear c3
  replace H := Option.bind_eq_some_iff.mp H
  obtain ⟨⟨t103, t106⟩, A40, H⟩ := H
  replace H : (some (t103, t106)) = some (r1, r2) := H
  have A4 := Aside0.mk A40
  clear A40
  simp only [Option.some.injEq, Prod.mk.injEq] at H
  obtain ⟨rfl, rfl⟩ := H
  go_enter Try.func72, Try.ntmps72
  go_wp2_with (first | ((with_reducible refine gate_callee (f := 44) rfl ?_); refine goesL_ (some 4) rfl rfl Try.func44 (by kernel_rfl) rfl #[.pointer (some ⟨g, 0, none⟩), .int .i64 8] rfl MT ?_; (with_reducible refine (spec_l1Rd_pick.calls k g s0_0 s0_1 8 t101 t102 w0 _ ?side1 ?side2 A2.out).mono ?_); (case side1 => exact I103_0 HI0); (case side2 => exact K1 HB (IsS103.ge HI0.out)); rintro e w5 ⟨rfl, hi, hb, hk⟩; refine ⟨_, rfl, ?_⟩; replace HK := am (KeepBut.trans (J0 HK) hk (.inl rfl)); replace HB := am (hb); replace HI0 := am (hi); (try clear hb); (try clear hk); (try clear hi)) | ((with_reducible refine gate_callee (f := 62) rfl ?_); refine goesL_ (some 8) rfl rfl Try.func62 (by kernel_rfl) rfl #[.pointer (some ⟨g, 0, none⟩)] rfl MT ?_; (with_reducible refine (spec_l12Blocks.calls k g s0_0 t102 t103 t106 w0 _ ?side1 ?side2 A4.out).mono ?_); (case side1 => exact I103_0 HI0); (case side2 => exact K1 HB (IsS103.ge HI0.out)); rintro e w6 ⟨v104, rfl, ho0, hi, hb, hk⟩; refine ⟨_, rfl, ?_⟩; have HO105 := am (Kd.R_lower ho0 (keep_size (w := w) (g := g) (row := none) (J0 HK))); replace HK := am (KeepBut.trans (J0 HK) hk (.inl rfl)); replace HB := am (hb); replace HI0 := am (hi); (try clear hb); (try clear hk); (try clear hi); (try clear ho0)))
  go_ret
  exact ⟨_, ER, by (with_reducible repeat (first | apply Kd.R_alloc | apply Kd.R_drewN | apply Kd.R_drew)); exact HO105.out, I103_0 HI0, K1 HB (IsS103.ge HI0.out), J0 HK⟩
 ·rw [if_neg c3] at H
  have c3b0 : (t101 == 0) = false := beq_eq_false_iff_ne.mpr c3
  have c3b1 : (t101 != 0) = true := bne_iff_ne.mpr c3
  by_cases c7 : t101 = 1
  ·rw [if_pos c7] at H
   have c7b0 : (t101 == 1) = true := beq_iff_eq.mpr c7
   have c7b1 : (t101 != 1) = false := bne_eq_false_iff_eq.mpr c7
   clear c7
   replace H := Option.bind_eq_some_iff.mp H
   obtain ⟨⟨t107, t110⟩, A80, H⟩ := H
   replace H : ((spec_l12AnyBlock.f k s0_0 t110).bind fun bt111 => (if t107.length < 8796093022208 then (some ((t107 ++ [(⟨bt111.1, bt111.2.1⟩ : S40)]), bt111.2.2)) else (none))) = some (r1, r2) := H
   have A8 := Aside0.mk A80
   clear A80
   replace H := Option.bind_eq_some_iff.mp H
   obtain ⟨⟨t111, t112, t113⟩, A90, H⟩ := H
   replace H : (if t107.length < 8796093022208 then (some ((t107 ++ [(⟨t111, t112⟩ : S40)]), t113)) else (none)) = some (r1, r2) := H
   have A9 := Aside0.mk A90
   clear A90
   by_cases c10 : t107.length < 8796093022208
   ·rw [if_pos c10] at H
    have LMc10 := Aside0.mk c10
    clear c10
    obtain ⟨y114, hy114⟩ : ∃ y_ : List (S40), y_ = (t107 ++ [(⟨t111, t112⟩ : S40)]) := ⟨_, rfl⟩
    replace H : (some (y114, t113)) = some (r1, r2) := by first | (rw [hy114]; with_reducible exact H) | (have H2_ := (Option.bind_some _ _).symm.trans H; rw [hy114]; with_reducible exact H2_) | (have H2_ := (Option.bind_some _ _).symm.trans H; with_reducible exact H2_) | with_reducible exact H | (rw [hy114]; exact H) | exact H
    have Ny114 := Aside0.mk hy114
    clear hy114
    simp only [Option.some.injEq, Prod.mk.injEq] at H
    obtain ⟨rfl, rfl⟩ := H
    go_enter Try.func72, Try.ntmps72
    go_wp2_with (first | ((with_reducible refine gate_callee (f := 44) rfl ?_); refine goesL_ (some 4) rfl rfl Try.func44 (by kernel_rfl) rfl #[.pointer (some ⟨g, 0, none⟩), .int .i64 8] rfl MT ?_; (with_reducible refine (spec_l1Rd_pick.calls k g s0_0 s0_1 8 t101 t102 w0 _ ?side1 ?side2 A2.out).mono ?_); (case side1 => exact I103_0 HI0); (case side2 => exact K1 HB (IsS103.ge HI0.out)); rintro e w11 ⟨rfl, hi, hb, hk⟩; refine ⟨_, rfl, ?_⟩; replace HK := am (KeepBut.trans (J0 HK) hk (.inl rfl)); replace HB := am (hb); replace HI0 := am (hi); (try clear hb); (try clear hk); (try clear hi)) | ((with_reducible refine gate_callee (f := 96) rfl ?_); refine goesL_ (some 12) rfl rfl Try.func96 (by kernel_rfl) rfl #[.pointer (some ⟨g, 0, none⟩)] rfl MT ?_; (with_reducible refine (spec_l12Set.calls k g s0_0 t102 t107 t110 w0 _ ?side1 ?side2 A8.out).mono ?_); (case side1 => exact I103_0 HI0); (case side2 => exact K1 HB (IsS103.ge HI0.out)); rintro e w12 ⟨v108, rfl, ho0, hi, hb, hk⟩; refine ⟨_, rfl, ?_⟩; have HO109 := am (Kd.R_lower ho0 (keep_size (w := w) (g := g) (row := none) (J0 HK))); replace HK := am (KeepBut.trans (J0 HK) hk (.inl rfl)); replace HB := am (hb); replace HI0 := am (hi); (try clear hb); (try clear hk); (try clear hi); (try clear ho0)) | ((with_reducible refine gate_callee (f := 63) rfl ?_); refine goesL_ (some 14) rfl rfl Try.func63 (by kernel_rfl) rfl #[.pointer (some ⟨g, 0, none⟩)] rfl MT ?_; (with_reducible refine (spec_l12AnyBlock.calls k g s0_0 t110 t111 t112 t113 w0 _ ?side1 ?side2 A9.out).mono ?_); (case side1 => exact I103_0 HI0); (case side2 => exact K1 HB (IsS103.ge HI0.out)); rintro e w13 ⟨rfl, hi, hb, hk⟩; refine ⟨_, rfl, ?_⟩; replace HO109 := am (Kd.R_mono (Kd.R_keep (IsS103.apart (show IsS103 w0 _ g s0_0 t110 from I103_0 HI0) (KR HO109) (by decide)) hk (fun _ h => h.2)) (fun _ h => h.1)); replace HK := am (KeepBut.trans (J0 HK) hk (.inl rfl)); replace HB := am (hb); replace HI0 := am (hi); (try clear hb); (try clear hk); (try clear hi)) | ((with_reducible refine gate_builtin (b := .append) (xs := #[.tmp 12, .tmp 15]) rfl ?_); at_builtin; refine Kd.R_append k40 w.heap.size rfl (.tmp 12) (.tmp 15) 25 40 (.agg #[(.int .i64 0), (.int .i64 0)]) 16 rfl Try.underlying25 info40 rfl (by decide) (by omega) v108 t107 (⟨t111, t112⟩ : S40) [.int .i64 t111, .int .i64 t112] (fun _ => True) (fun _ => False) rfl rfl ?aP (fun _ hk => hk.elim) ?aF ?aO (Below.refl _ _) ?aS ?aL ?_; (case aP => exact k40_mkM _ _ _ (⟨t111, t112⟩ : S40)); (case aF => exact (fun _ _ => trivial)); (case aO => exact (KR HO109)); (case aS => exact (keep_size (w := w) (g := g) (row := none) (J0 HK))); (case aL => have := LMc10.out; omega); intro v115 w14 ho hb hg hat; rw [← Ny114.out] at ho; replace HB := am (below_weaken (K1 HB (IsS103.ge HI0.out)) HL.out hb); replace HI0 := am (IsS103.grown (I103_0 HI0) hg (IsS103.own_ne HI0.out HO109.out (by decide))); replace HK := am (KeepBut.trans (J0 HK) (KeepBut.of_grown hg g) (Kd.R_base2 HO109.out)); have HO116 := am (ho); clear HO109; clear ho hb hg hat))
    go_ret
    exact ⟨_, ER, by (with_reducible repeat (first | apply Kd.R_alloc | apply Kd.R_drewN | apply Kd.R_drew)); exact HO116.out, I103_0 HI0, K1 HB (IsS103.ge HI0.out), J0 HK⟩
   ·rw [if_neg c10] at H
    exact absurd H (by simp)
  ·rw [if_neg c7] at H
   have c7b0 : (t101 == 1) = false := beq_eq_false_iff_ne.mpr c7
   have c7b1 : (t101 != 1) = true := bne_iff_ne.mpr c7
   replace H := Option.bind_eq_some_iff.mp H
   obtain ⟨⟨t117, t120⟩, A150, H⟩ := H
   replace H : (some (t117, t120)) = some (r1, r2) := H
   have A15 := Aside0.mk A150
   clear A150
   simp only [Option.some.injEq, Prod.mk.injEq] at H
   obtain ⟨rfl, rfl⟩ := H
   go_enter Try.func72, Try.ntmps72
   go_wp2_with (first | ((with_reducible refine gate_callee (f := 44) rfl ?_); refine goesL_ (some 4) rfl rfl Try.func44 (by kernel_rfl) rfl #[.pointer (some ⟨g, 0, none⟩), .int .i64 8] rfl MT ?_; (with_reducible refine (spec_l1Rd_pick.calls k g s0_0 s0_1 8 t101 t102 w0 _ ?side1 ?side2 A2.out).mono ?_); (case side1 => exact I103_0 HI0); (case side2 => exact K1 HB (IsS103.ge HI0.out)); rintro e w16 ⟨rfl, hi, hb, hk⟩; refine ⟨_, rfl, ?_⟩; replace HK := am (KeepBut.trans (J0 HK) hk (.inl rfl)); replace HB := am (hb); replace HI0 := am (hi); (try clear hb); (try clear hk); (try clear hi)) | ((with_reducible refine gate_callee (f := 96) rfl ?_); refine goesL_ (some 18) rfl rfl Try.func96 (by kernel_rfl) rfl #[.pointer (some ⟨g, 0, none⟩)] rfl MT ?_; (with_reducible refine (spec_l12Set.calls k g s0_0 t102 t117 t120 w0 _ ?side1 ?side2 A15.out).mono ?_); (case side1 => exact I103_0 HI0); (case side2 => exact K1 HB (IsS103.ge HI0.out)); rintro e w17 ⟨v118, rfl, ho0, hi, hb, hk⟩; refine ⟨_, rfl, ?_⟩; have HO119 := am (Kd.R_lower ho0 (keep_size (w := w) (g := g) (row := none) (J0 HK))); replace HK := am (KeepBut.trans (J0 HK) hk (.inl rfl)); replace HB := am (hb); replace HI0 := am (hi); (try clear hb); (try clear hk); (try clear hi); (try clear ho0)))
   go_ret
   exact ⟨_, ER, by (with_reducible repeat (first | apply Kd.R_alloc | apply Kd.R_drewN | apply Kd.R_drew)); exact HO119.out, I103_0 HI0, K1 HB (IsS103.ge HI0.out), J0 HK⟩
def spec_DrawSetHas.j0 : Nat → List (S40) → Bool → List Int → Int → Option ((List (S40)) × Int)
 | 0, _, _, _, _ => none
 | k + 1, x5, x17, x104000, x104001 => if x17 = true then ((spec_l1Rd_pick.f k x104000 x104001 (x5.length : Int)).bind fun bt110 => (if 0 ≤ bt110.1 then (if bt110.1 < (x5.length : Int) then ((spec_l1Rd_pick.f k x104000 bt110.2 3).bind fun bt113 => (some (x5, wrap64 ((wrap64 (((rd_T40 x5 bt110.1).f0) + bt113.1)) - 1)))) else (none)) else (none))) else ((spec_l12AnyAddr.f k x104000 x104001).bind fun bt115 => (some (x5, bt115.1)))
def spec_DrawSetHas.f (k : Nat) (l0 : List Int) : Option ((List (S40)) × Int) := (spec_l1Open.f l0).bind fun bt101 => ((spec_l12AnySet.f k bt101.1 bt101.2).bind fun bt104 => (if (bt104.1.length : Int) > 0 then ((spec_l1Rd_pick.f k bt101.1 bt104.2 2).bind fun bt108 => (spec_DrawSetHas.j0 k bt104.1 (bt108.1 == 0) bt101.1 bt108.2)) else (spec_DrawSetHas.j0 k bt104.1 false bt101.1 bt104.2)))
def spec_DrawSetHas.T4 : Bool × List (List Nat × List Nat) := (true, [([], []), ([], []), ([], []), ([], []), ([3], [3]), ([2, 4], [2, 4]), ([1, 5], [1, 5]), ([6], [6]), ([7], [7]), ([], []), ([9, 5], [9]), ([8, 10], [8, 10]), ([11], [11]), ([0, 10, 0], [0]), ([12, 13, 0, 1, 2, 3, 4, 5, 6, 7, 8, 9, 10, 11, 12, 13], [12])])
def spec_DrawSetHas.B4 : List Nat := [0, 0, 0, 0, 8, 28, 62, 126, 254, 0, 572, 2046, 4094, 1597, 16383]
theorem spec_DrawSetHas.tab4 : rtab .any (opsOf Try.f26 4) = spec_DrawSetHas.T4 := by kernel_rfl
theorem spec_DrawSetHas.bits4 : waitsOk spec_DrawSetHas.T4.2 spec_DrawSetHas.B4 = true := by kernel_rfl
set_option maxHeartbeats 8000000 in
set_option maxRecDepth 100000 in
theorem spec_DrawSetHas.calls (k : Nat) (A0 : Option Addr) (c0 : Nat) (l0 : List Int) (r1 : List (S40)) (r2 : Int) (w : World) (hr0 : Kd.C (Kd.int .u8) w A0 l0.length l0) (hc0 : l0.length ≤ c0) (h : spec_DrawSetHas.f k l0 = some (r1, r2)) :
  Calls Try.prog 26 #[.slice A0 l0.length c0] w fun e w' => ∃ v0_ : Value, e = .returned (.tuple #[v0_, .int .i64 r2]) ∧ Kd.R k40 40 w' w.heap.size (fun _ => True) v0_ r1 ∧ Below w.heap.size w w' := by
 have HR0 := Aside0.mk hr0
 have HC0 := Aside0.mk hc0
 clear hr0 hc0
 have HB := am (Below.refl w.heap.size w)
 have H : ((spec_l1Open.f l0).bind fun bt101 => ((spec_l12AnySet.f k bt101.1 bt101.2).bind fun bt104 => (if (bt104.1.length : Int) > 0 then ((spec_l1Rd_pick.f k bt101.1 bt104.2 2).bind fun bt108 => (spec_DrawSetHas.j0 k bt104.1 (bt108.1 == 0) bt101.1 bt108.2)) else (spec_DrawSetHas.j0 k bt104.1 false bt101.1 bt104.2)))) = some (r1, r2) := h
 clear h
 replace H := Option.bind_eq_some_iff.mp H
 obtain ⟨⟨t101, t102⟩, A20, H⟩ := H
 replace H : ((spec_l12AnySet.f k t101 t102).bind fun bt104 => (if (bt104.1.length : Int) > 0 then ((spec_l1Rd_pick.f k t101 bt104.2 2).bind fun bt108 => (spec_DrawSetHas.j0 k bt104.1 (bt108.1 == 0) t101 bt108.2)) else (spec_DrawSetHas.j0 k bt104.1 false t101 bt104.2))) = some (r1, r2) := H
 have A2 := Aside0.mk A20
 clear A20
 replace H := Option.bind_eq_some_iff.mp H
 obtain ⟨⟨t104, t107⟩, A30, H⟩ := H
 replace H : (if (t104.length : Int) > 0 then ((spec_l1Rd_pick.f k t101 t107 2).bind fun bt108 => (spec_DrawSetHas.j0 k t104 (bt108.1 == 0) t101 bt108.2)) else (spec_DrawSetHas.j0 k t104 false t101 t107)) = some (r1, r2) := H
 have A3 := Aside0.mk A30
 clear A30
 have HC4 := Aside0.mk H
 clear H
 go_enter Try.func26, Try.ntmps26
 go_upto_region 3 with (first | ((with_reducible refine gate_callee (f := 42) rfl ?_); refine goesL_ (some 7) rfl rfl Try.func42 (by kernel_rfl) rfl #[.slice A0 l0.length c0] rfl MT ?_; (with_reducible refine (spec_l1Open.calls _ _ l0 t101 t102 w _ ?side1 ?side2 ?side3 A2.out).mono ?_); (case side1 => exact KL HB); (case side2 => exact HR0.out); (case side3 => exact HC0.out); rintro e w5 ⟨g103, rfl, hi, hb, hb2⟩; refine ⟨_, rfl, ?_⟩; replace HB := am (hb); have HI103 := am (hi); (try clear hb); (try clear hb2); (try clear hi)) | ((with_reducible refine gate_callee (f := 72) rfl ?_); refine goesL_ (some 9) rfl rfl Try.func72 (by kernel_rfl) rfl #[.pointer (some ⟨g103, 0, none⟩)] rfl MT ?_; (with_reducible refine (spec_l12AnySet.calls k g103 t101 t102 t104 t107 w _ ?side1 ?side2 A3.out).mono ?_); (case side1 => exact I103_0 HI103); (case side2 => exact K1 HB (IsS103.ge HI103.out)); rintro e w6 ⟨v105, rfl, ho0, hi, hb, hk⟩; refine ⟨_, rfl, ?_⟩; have HO106 := am (Kd.R_lower ho0 (below_size (K1 HB (IsS103.ge HI103.out)))); replace HB := am (hb); replace HI103 := am (hi); (try clear hb); (try clear hk); (try clear hi); (try clear ho0)))
 (try simp only [Act.put, List.setIfInBounds_toArray, List.set_cons_zero, List.set_cons_succ])
 go_cut [17] (fun v17 wc => ∃ (kq : Nat) (x17_3 : Bool) (x104001_3 : Int), v17 = .bool x17_3 ∧ Aside0 (spec_DrawSetHas.j0 kq t104 x17_3 t101 x104001_3 = some (r1, r2)) ∧ Aside0 (kq ≤ k) ∧ Aside0 (Kd.R k40 40 wc w.heap.size (fun _ => True) v105 t104) ∧ Aside0 (IsS103 w wc g103 t101 x104001_3) ∧ Aside0 (Below w.heap.size w wc))
 case first =>
  have H := HC4.out
  clear HC4
  by_cases c7 : (t104.length : Int) > 0
  ·rw [if_pos c7] at H
   have c7b0 : decide (0 < (t104.length : Int)) = true := decide_eq_true c7
   have c7b1 : decide (0 < t104.length) = true := decide_eq_true (by omega)
   clear c7
   (first | rw [c7b0] | (simp only [i64_w, i32_w]; rw [c7b0]) | skip)
   replace H := Option.bind_eq_some_iff.mp H
   obtain ⟨⟨t108, t109⟩, A80, H⟩ := H
   replace H : (spec_DrawSetHas.j0 k t104 (t108 == 0) t101 t109) = some (r1, r2) := H
   have A8 := Aside0.mk A80
   clear A80
   have H' := Aside0.mk H
   clear H
   obtain ⟨Ao9, co9, eo9⟩ := Kd.R_slice HO106.out
   subst eo9
   go_wp2_with (first | (go_at_call 44; (with_reducible refine (spec_l1Rd_pick.calls k g103 t101 t107 2 t108 t109 w _ ?side1 ?side2 A8.out).mono ?_); (case side1 => exact I103_0 HI103); (case side2 => exact K1 HB (IsS103.ge HI103.out)); rintro e w10 ⟨rfl, hi, hb, hk⟩; replace HO106 := am (Kd.R_mono (Kd.R_keep (IsS103.apart (show IsS103 w _ g103 t101 t107 from I103_0 HI103) (KR HO106) (by decide)) hk (fun _ h => h.2)) (fun _ h => h.1)); replace HB := am (hb); replace HI103 := am (hi); (try clear hb); (try clear hk); (try clear hi)))
   go_meet
   case rel => exact ⟨_, ((t108 == 0)), (t109), (by first | rfl | (simp; done) | (simp [*]; done)), H', ⟨by first | omega | exact Nat.le_refl _⟩, ⟨KR HO106⟩, ⟨I103_0 HI103⟩, ⟨K1 HB (IsS103.ge HI103.out)⟩⟩
  ·rw [if_neg c7] at H
   have c7b0 : decide (0 < (t104.length : Int)) = false := decide_eq_false c7
   have c7b1 : decide (0 < t104.length) = false := decide_eq_false (by omega)
   clear c7
   (first | rw [c7b0] | (simp only [i64_w, i32_w]; rw [c7b0]) | skip)
   have H' := Aside0.mk H
   clear H
   obtain ⟨Ao11, co11, eo11⟩ := Kd.R_slice HO106.out
   subst eo11
   go_wp2
   go_meet
   case rel => exact ⟨_, (false), (t107), (by first | rfl | (simp; done) | (simp [*]; done)), H', ⟨by first | omega | exact Nat.le_refl _⟩, ⟨KR HO106⟩, ⟨I103_0 HI103⟩, ⟨K1 HB (IsS103.ge HI103.out)⟩⟩
 case rest =>
  clear HC4
  try clear c2
  try clear p2
  try clear c4
  try clear c7
  try clear c7b0
  try clear c7b1
  obtain ⟨kq, x17_3, x104001_3, rfl, HA, HJ3, HO_5, HI103, HB⟩ := hcut
  cases kq with
  | zero => exact absurd HA.out (by simp [spec_DrawSetHas.j0])
  | succ kj3 =>
   have H := HA.out
   clear HA
   simp only [spec_DrawSetHas.j0] at H
   by_cases c12 : x17_3 = true
   ·subst c12
    have H1 : ((spec_l1Rd_pick.f kj3 t101 x104001_3 (t104.length : Int)).bind fun bt110 => (if 0 ≤ bt110.1 then (if bt110.1 < (t104.length : Int) then ((spec_l1Rd_pick.f kj3 t101 bt110.2 3).bind fun bt113 => (some (t104, wrap64 ((wrap64 (((rd_T40 t104 bt110.1).f0) + bt113.1)) - 1)))) else (none)) else (none))) = some (r1, r2) := by rw [if_pos rfl] at H; exact H
    clear H
    have H := H1
    clear H1
    replace H := Option.bind_eq_some_iff.mp H
    obtain ⟨⟨t110, t111⟩, A130, H⟩ := H
    replace H : (if 0 ≤ t110 then (if t110 < (t104.length : Int) then ((spec_l1Rd_pick.f kj3 t101 t111 3).bind fun bt113 => (some (t104, wrap64 ((wrap64 (((rd_T40 t104 t110).f0) + bt113.1)) - 1)))) else (none)) else (none)) = some (r1, r2) := H
    have A13 := Aside0.mk A130
    clear A130
    by_cases c14 : 0 ≤ t110
    ·rw [if_pos c14] at H
     have c14b0 : decide (0 ≤ t110) = true := decide_eq_true c14
     clear c14
     by_cases c15 : t110 < (t104.length : Int)
     ·rw [if_pos c15] at H
      have c15b0 : decide (t110 < (t104.length : Int)) = true := decide_eq_true c15
      clear c15
      replace H := Option.bind_eq_some_iff.mp H
      obtain ⟨⟨t113, t114⟩, A160, H⟩ := H
      replace H : (some (t104, wrap64 ((wrap64 (((rd_T40 t104 t110).f0) + t113)) - 1))) = some (r1, r2) := H
      have A16 := Aside0.mk A160
      clear A160
      simp only [Option.some.injEq, Prod.mk.injEq] at H
      obtain ⟨rfl, rfl⟩ := H
      try go_wp2
      replace HO_5 := am (Kd.R_drew HO_5.out)
      replace HI103 := am (IsS103.drew HI103.out)
      replace HB := am (below_drew1 HB.out)
      obtain ⟨Ao18, co18, eo18⟩ := Kd.R_slice HO_5.out
      (first | subst eo18 | (injection eo18 with f1_ f2_ f3_; have f4_ := f1_.symm; have f5_ := f3_.symm; clear f1_ f2_ f3_; subst f4_; subst f5_))
      have p112 : 0 ≤ (t110 : Int) := OD
      have q112 : t110 < (t104.length : Int) := OD
      obtain ⟨ad112, e112, hx112_0, hx112_1⟩ := at_T40 (Kd.R_reads' HO_5.out).2.2 t110 p112 q112
      cases e112
      replace p112 := eq_true p112
      replace q112 := eq_true q112
      refine start_ (n := 15) (S := fun w' => w'.cell? (ad112.add ((t110).toNat * 2)) = some (.int .i64 ((rd_T40 t104 t110).f0)) ∧ w'.cell? ⟨(ad112.add ((t110).toNat * 2)).block, (ad112.add ((t110).toNat * 2)).off + 1, none⟩ = some (.int .i64 ((rd_T40 t104 t110).f1))) (ds := []) (tf 0 15) (by kernel_rfl) rfl rfl ⟨hx112_0, hx112_1⟩ (fun hHeld => ?_); refine with_tabW spec_DrawSetHas.tab4 spec_DrawSetHas.bits4 (fun HT_ HW_ => ?_)
      generalize wc.drew = w17 at HO_5 HI103 HB hx112_0 hx112_1 hHeld ⊢
      refine pv HT_ 0 18 (tf 1 14) ?_
      refine pv HT_ 1 19 (tf 2 13) ?_
      refine pv HT_ 2 20 (tf 3 12) ?_
      refine pv HT_ 3 21 (tf 4 11) ?_
      refine pv HT_ 4 22 (tf 5 10) ?_
      refine pv HT_ 9 27 (tr [5, 4, 1, 5]) ?_
      refine one_ (i := 5) (N := some 23) (tr [6, 3, 1, 5]) rfl rfl (one_of HT_.out (by kernel_rfl)) (by decide) (fun K hK => ?_)
      refine goes_ Try.func44 (by kernel_rfl) rfl #[.pointer (some ⟨g103, 0, none⟩), .int .i64 (t104.length : Int)] (by rfl) rfl rfl MT ?_
      with_reducible refine (spec_l1Rd_pick.calls kj3 g103 t101 x104001_3 (t104.length : Int) t110 t111 w _ ?side1 ?side2 A13.out).mono ?_
      (case side1 => exact I103_0 HI103)
      (case side2 => exact K1 HB (IsS103.ge HI103.out))
      rintro e w19 ⟨rfl, hi, hb, hk⟩
      have HS0_ := keep_cell hk (hHeld.1) (by first | (rw [add_block]; exact Kd.own_blk (IsS103.own_ne HI103.out HO_5.out (by decide))) | (show (Addr.add _ _).block ≠ _; rw [add_block]; exact Kd.own_blk (IsS103.own_ne HI103.out HO_5.out (by decide))) | exact Kd.own_blk (IsS103.own_ne HI103.out HO_5.out (by decide)))
      have HS1_ := keep_cell hk (hHeld.2) (by first | (rw [add_block]; exact Kd.own_blk (IsS103.own_ne HI103.out HO_5.out (by decide))) | (show (Addr.add _ _).block ≠ _; rw [add_block]; exact Kd.own_blk (IsS103.own_ne HI103.out HO_5.out (by decide))) | exact Kd.own_blk (IsS103.own_ne HI103.out HO_5.out (by decide)))
      refine ⟨_, rfl, ?_⟩
      replace HO_5 := am (Kd.R_mono (Kd.R_keep (IsS103.apart (show IsS103 w _ g103 t101 x104001_3 from I103_0 HI103) (KR HO_5) (by decide)) hk (fun _ h => h.2)) (fun _ h => h.1))
      replace HB := am (hb)
      replace HI103 := am (hi)
      (try clear hb)
      (try clear hb2)
      (try clear hk)
      (try clear hi)
      refine hK.out _ _ ⟨HS0_, HS1_⟩ (fun hHeld => ?_)
      clear hK K
      refine norm_ (a' := ?_) ?_ ?_
      rotate_left
      ·show Act.put _ (some 23) _ = _
       simp only [Act.put, List.setIfInBounds_toArray, List.set_cons_zero, List.set_cons_succ, i64_w, i32_w]
       rfl
      refine pv HT_ 6 24 (tr [7, 2, 1, 5]) ?_
      refine pv HT_ 7 25 (tr [8, 1, 1, 5]) ?_
      refine tk 8 (some 26) (tf 10 5) (take_ofW HT_.out HW_.out (by kernel_rfl)) hHeld ?_
      refine one_ (i := 10) (N := some 28) (tf 11 4) rfl rfl (one_of HT_.out (by kernel_rfl)) (by decide) (fun K hK => ?_)
      refine goes_ Try.func44 (by kernel_rfl) rfl #[.pointer (some ⟨g103, 0, none⟩), .int .i64 3] (by rfl) rfl rfl MT ?_
      with_reducible refine (spec_l1Rd_pick.calls kj3 g103 t101 t111 3 t113 t114 w _ ?side1 ?side2 A16.out).mono ?_
      (case side1 => exact I103_0 HI103)
      (case side2 => exact K1 HB (IsS103.ge HI103.out))
      rintro e w20 ⟨rfl, hi, hb, hk⟩
      have HS0_ := keep_cell hk (hHeld.1) (by first | (rw [add_block]; exact Kd.own_blk (IsS103.own_ne HI103.out HO_5.out (by decide))) | (show (Addr.add _ _).block ≠ _; rw [add_block]; exact Kd.own_blk (IsS103.own_ne HI103.out HO_5.out (by decide))) | exact Kd.own_blk (IsS103.own_ne HI103.out HO_5.out (by decide)))
      have HS1_ := keep_cell hk (hHeld.2) (by first | (rw [add_block]; exact Kd.own_blk (IsS103.own_ne HI103.out HO_5.out (by decide))) | (show (Addr.add _ _).block ≠ _; rw [add_block]; exact Kd.own_blk (IsS103.own_ne HI103.out HO_5.out (by decide))) | exact Kd.own_blk (IsS103.own_ne HI103.out HO_5.out (by decide)))
      refine ⟨_, rfl, ?_⟩
      replace HO_5 := am (Kd.R_mono (Kd.R_keep (IsS103.apart (show IsS103 w _ g103 t101 t111 from I103_0 HI103) (KR HO_5) (by decide)) hk (fun _ h => h.2)) (fun _ h => h.1))
      replace HB := am (hb)
      replace HI103 := am (hi)
      (try clear hb)
      (try clear hb2)
      (try clear hk)
      (try clear hi)
      refine hK.out _ _ ⟨HS0_, HS1_⟩ (fun hHeld => ?_)
      clear hK K
      refine norm_ (a' := ?_) ?_ ?_
      rotate_left
      ·show Act.put _ (some 28) _ = _
       simp only [Act.put, List.setIfInBounds_toArray, List.set_cons_zero, List.set_cons_succ, i64_w, i32_w]
       rfl
      refine pv HT_ 11 29 (tf 12 3) ?_
      refine pv HT_ 12 30 (tf 13 2) ?_
      refine pv HT_ 13 2 (tf 14 1) ?_
      refine pv HT_ 14 3 (tf 15 0) ?_
      refine done_ (done_of HT_.out (by kernel_rfl)) ?_
      try go_wp2
      go_ret2
      exact ⟨_, ER, by (with_reducible repeat (first | apply Kd.R_alloc | apply Kd.R_drewN | apply Kd.R_drew)); exact HO_5.out, K1 HB (IsS103.ge HI103.out)⟩
     ·rw [if_neg c15] at H
      exact absurd H (by simp)
    ·rw [if_neg c14] at H
     exact absurd H (by simp)
   ·replace c12 := Bool.eq_false_iff.mpr c12
    subst c12
    have H1 : ((spec_l12AnyAddr.f kj3 t101 x104001_3).bind fun bt115 => (some (t104, bt115.1))) = some (r1, r2) := by rw [if_neg (show ¬ (false = true) by decide)] at H; exact H
    clear H
    have H := H1
    clear H1
    replace H := Option.bind_eq_some_iff.mp H
    obtain ⟨⟨t115, t116⟩, A210, H⟩ := H
    replace H : (some (t104, t115)) = some (r1, r2) := H
    have A21 := Aside0.mk A210
    clear A210
    simp only [Option.some.injEq, Prod.mk.injEq] at H
    obtain ⟨rfl, rfl⟩ := H
    go_wp2_with (first | ((with_reducible refine gate_callee (f := 43) rfl ?_); refine goesL_ (some 33) rfl rfl Try.func43 (by kernel_rfl) rfl #[.pointer (some ⟨g103, 0, none⟩)] rfl MT ?_; (with_reducible refine (spec_l12AnyAddr.calls kj3 g103 t101 x104001_3 t115 t116 w _ ?side1 ?side2 A21.out).mono ?_); (case side1 => exact I103_0 HI103); (case side2 => exact K1 HB (IsS103.ge HI103.out)); rintro e w22 ⟨rfl, hi, hb, hk⟩; refine ⟨_, rfl, ?_⟩; replace HO_5 := am (Kd.R_mono (Kd.R_keep (IsS103.apart (show IsS103 w _ g103 t101 x104001_3 from I103_0 HI103) (KR HO_5) (by decide)) hk (fun _ h => h.2)) (fun _ h => h.1)); replace HB := am (hb); replace HI103 := am (hi); (try clear hb); (try clear hk); (try clear hi)))
    go_ret2
    exact ⟨_, ER, by (with_reducible repeat (first | apply Kd.R_alloc | apply Kd.R_drewN | apply Kd.R_drew)); exact HO_5.out, K1 HB (IsS103.ge HI103.out)⟩
def spec_DrawSetBoth.f (k : Nat) (l0 : List Int) : Option ((List (S40)) × (List (S40))) := (spec_l1Open.f l0).bind fun bt101 => ((spec_l12AnySet.f k bt101.1 bt101.2).bind fun bt104 => ((spec_l12AnySet.f k bt101.1 bt104.2).bind fun bt108 => (some (bt104.1, bt108.1))))
set_option maxHeartbeats 8000000 in
set_option maxRecDepth 100000 in
theorem spec_DrawSetBoth.calls (k : Nat) (A0 : Option Addr) (c0 : Nat) (l0 : List Int) (r1 : List (S40)) (r2 : List (S40)) (w : World) (hr0 : Kd.C (Kd.int .u8) w A0 l0.length l0) (hc0 : l0.length ≤ c0) (h : spec_DrawSetBoth.f k l0 = some (r1, r2)) :
  Calls Try.prog 75 #[.slice A0 l0.length c0] w fun e w' => ∃ v0_ v1_ : Value, e = .returned (.tuple #[v0_, v1_]) ∧ Kd.R k40 40 w' w.heap.size (fun k_ => some k_ ≠ (v1_ : Value).ownBlock) v0_ r1 ∧ Kd.R k40 40 w' w.heap.size (fun k_ => some k_ ≠ (v0_ : Value).ownBlock) v1_ r2 ∧ Below w.heap.size w w' := by
 have HR0 := Aside0.mk hr0
 have HC0 := Aside0.mk hc0
 clear hr0 hc0
 have HB := am (Below.refl w.heap.size w)
 have H : ((spec_l1Open.f l0).bind fun bt101 => ((spec_l12AnySet.f k bt101.1 bt101.2).bind fun bt104 => ((spec_l12AnySet.f k bt101.1 bt104.2).bind fun bt108 => (some (bt104.1, bt108.1))))) = some (r1, r2) := h
 clear h
 replace H := Option.bind_eq_some_iff.mp H
 obtain ⟨⟨t101, t102⟩, A20, H⟩ := H
 replace H : ((spec_l12AnySet.f k t101 t102).bind fun bt104 => ((spec_l12AnySet.f k t101 bt104.2).bind fun bt108 => (some (bt104.1, bt108.1)))) = some (r1, r2) := H
 have A2 := Aside0.mk A20
 clear A20
 replace H := Option.bind_eq_some_iff.mp H
 obtain ⟨⟨t104, t107⟩, A30, H⟩ := H
 replace H : ((spec_l12AnySet.f k t101 t107).bind fun bt108 => (some (t104, bt108.1))) = some (r1, r2) := H
 have A3 := Aside0.mk A30
 clear A30
 replace H := Option.bind_eq_some_iff.mp H
 obtain ⟨⟨t108, t111⟩, A40, H⟩ := H
 replace H : (some (t104, t108)) = some (r1, r2) := H
 have A4 := Aside0.mk A40
 clear A40
 simp only [Option.some.injEq, Prod.mk.injEq] at H
 obtain ⟨rfl, rfl⟩ := H
 go_enter Try.func75, Try.ntmps75
 go_wp2_with (first | ((with_reducible refine gate_callee (f := 42) rfl ?_); refine goesL_ (some 6) rfl rfl Try.func42 (by kernel_rfl) rfl #[.slice A0 l0.length c0] rfl MT ?_; (with_reducible refine (spec_l1Open.calls _ _ l0 t101 t102 w _ ?side1 ?side2 ?side3 A2.out).mono ?_); (case side1 => exact KL HB); (case side2 => exact HR0.out); (case side3 => exact HC0.out); rintro e w5 ⟨g103, rfl, hi, hb, hb2⟩; refine ⟨_, rfl, ?_⟩; replace HB := am (hb); have HI103 := am (hi); (try clear hb); (try clear hb2); (try clear hi)) | ((with_reducible refine gate_callee (f := 72) rfl ?_); refine goesL_ (some 8) rfl rfl Try.func72 (by kernel_rfl) rfl #[.pointer (some ⟨g103, 0, none⟩)] rfl MT ?_; (with_reducible refine (spec_l12AnySet.calls k g103 t101 t102 t104 t107 w _ ?side1 ?side2 A3.out).mono ?_); (case side1 => exact I103_0 HI103); (case side2 => exact K1 HB (IsS103.ge HI103.out)); rintro e w6 ⟨v105, rfl, ho0, hi, hb, hk⟩; refine ⟨_, rfl, ?_⟩; have HO106 := am (Kd.R_lower ho0 (below_size (K1 HB (IsS103.ge HI103.out)))); replace HB := am (hb); replace HI103 := am (hi); (try clear hb); (try clear hk); (try clear hi); (try clear ho0)) | ((with_reducible refine gate_callee (f := 72) rfl ?_); refine goesL_ (some 10) rfl rfl Try.func72 (by kernel_rfl) rfl #[.pointer (some ⟨g103, 0, none⟩)] rfl MT ?_; (with_reducible refine (spec_l12AnySet.calls k g103 t101 t107 t108 t111 w _ ?side1 ?side2 A4.out).mono ?_); (case side1 => exact I103_0 HI103); (case side2 => exact K1 HB (IsS103.ge HI103.out)); rintro e w7 ⟨v109, rfl, ho0, hi, hb, hk⟩; refine ⟨_, rfl, ?_⟩; have HO110 := am (Kd.R_lower (Kd.R_new' ho0 (Kd.R_lt (KR HO106))) (below_size (K1 HB (IsS103.ge HI103.out)))); replace HO106 := am (Kd.R_mono (Kd.R_told (Kd.R_oldK (IsS103.apart (show IsS103 w _ g103 t101 t107 from I103_0 HI103) (KR HO106) (by decide)) hk) (Kd.R_base ho0)) (fun _ h_ => h_.1)); replace HB := am (hb); replace HI103 := am (hi); (try clear hb); (try clear hk); (try clear hi); (try clear ho0)))
 go_ret2
 exact ⟨_, _, ER, by (with_reducible repeat (first | apply Kd.R_alloc | apply Kd.R_drewN | apply Kd.R_drew)); exact Kd.R_mono HO106.out (fun _ hk => hk.2), by (with_reducible repeat (first | apply Kd.R_alloc | apply Kd.R_drewN | apply Kd.R_drew)); exact Kd.R_mono HO110.out (fun _ hk => hk.2), K1 HB (IsS103.ge HI103.out)⟩
def spec_DrawSetLess.f (k : Nat) (l0 : List Int) : Option ((List (S40)) × (List (S40))) := (spec_DrawSetBoth.f k l0).bind fun bt101 => (some (bt101.1, bt101.2))
set_option maxHeartbeats 8000000 in
set_option maxRecDepth 100000 in
theorem spec_DrawSetLess.calls (k : Nat) (A0 : Option Addr) (c0 : Nat) (l0 : List Int) (r1 : List (S40)) (r2 : List (S40)) (w : World) (hr0 : Kd.C (Kd.int .u8) w A0 l0.length l0) (hc0 : l0.length ≤ c0) (h : spec_DrawSetLess.f k l0 = some (r1, r2)) :
  Calls Try.prog 30 #[.slice A0 l0.length c0] w fun e w' => ∃ v0_ v1_ : Value, e = .returned (.tuple #[v0_, v1_]) ∧ Kd.R k40 40 w' w.heap.size (fun k_ => some k_ ≠ (v1_ : Value).ownBlock) v0_ r1 ∧ Kd.R k40 40 w' w.heap.size (fun k_ => some k_ ≠ (v0_ : Value).ownBlock) v1_ r2 ∧ Below w.heap.size w w' := by
 have HR0 := Aside0.mk hr0
 have HC0 := Aside0.mk hc0
 clear hr0 hc0
 have HB := am (Below.refl w.heap.size w)
 have H : ((spec_DrawSetBoth.f k l0).bind fun bt101 => (some (bt101.1, bt101.2))) = some (r1, r2) := h
 clear h
 replace H := Option.bind_eq_some_iff.mp H
 obtain ⟨⟨t101, t102⟩, A20, H⟩ := H
 replace H : (some (t101, t102)) = some (r1, r2) := H
 have A2 := Aside0.mk A20
 clear A20
 simp only [Option.some.injEq, Prod.mk.injEq] at H
 obtain ⟨rfl, rfl⟩ := H
 go_enter Try.func30, Try.ntmps30
 go_wp2_with (first | ((with_reducible refine gate_callee (f := 75) rfl ?_); refine goesL_ (some 5) rfl rfl Try.func75 (by kernel_rfl) rfl #[.slice A0 l0.length c0] rfl MT ?_; (with_reducible refine (spec_DrawSetBoth.calls k _ _ l0 t101 t102 _ ?side1 ?side2 A2.out).mono ?_); (case side1 => exact KC HR0.out); (case side2 => exact HC0.out); rintro e w3 ⟨v103, v105, rfl, ho0, ho1, hb⟩; refine ⟨_, rfl, ?_⟩; have HO104 := am (Kd.R_lower ho0 (below_size (KL HB))); have HO106 := am (Kd.R_lower ho1 (below_size (KL HB))); replace HB := am (below_step (KL HB) hb); (try clear hb); (try clear ho0); (try clear ho1)))
 go_ret2
 exact ⟨_, _, ER, by (with_reducible repeat (first | apply Kd.R_alloc | apply Kd.R_drewN | apply Kd.R_drew)); exact HO104.out, by (with_reducible repeat (first | apply Kd.R_alloc | apply Kd.R_drewN | apply Kd.R_drew)); exact HO106.out, KL HB⟩
def spec_SetOk.f (k : Nat) (l0 : List (S40)) : Option (Bool) := (spec_l2Blocks.f k l0).bind fun t101 => (if t101 = true then ((spec_l2Spans.f k l0).bind fun t102 => ((spec_l2Cover.f k t102).bind fun t105 => ((spec_l2Same.f k l0 t105).bind fun t108 => (some t108)))) else (some false))
set_option maxHeartbeats 8000000 in
set_option maxRecDepth 100000 in
theorem spec_SetOk.calls (k : Nat) (A0 : Option Addr) (c0 : Nat) (l0 : List (S40)) (r : Bool) (w : World) (hr0 : Kd.C k40 w A0 l0.length l0) (hc0 : l0.length ≤ c0) (h : spec_SetOk.f k l0 = some r) :
  Calls Try.prog 28 #[.slice A0 l0.length c0] w fun e w' => e = .returned (.bool r) ∧ Below w.heap.size w w' := by
 have HR0 := Aside0.mk hr0
 have HC0 := Aside0.mk hc0
 clear hr0 hc0
 have HB := am (Below.refl w.heap.size w)
 have H : ((spec_l2Blocks.f k l0).bind fun t101 => (if t101 = true then ((spec_l2Spans.f k l0).bind fun t102 => ((spec_l2Cover.f k t102).bind fun t105 => ((spec_l2Same.f k l0 t105).bind fun t108 => (some t108)))) else (some false))) = some r := h
 clear h
 replace H := Option.bind_eq_some_iff.mp H
 obtain ⟨t101, A20, H⟩ := H
 replace H : (if t101 = true then ((spec_l2Spans.f k l0).bind fun t102 => ((spec_l2Cover.f k t102).bind fun t105 => ((spec_l2Same.f k l0 t105).bind fun t108 => (some t108)))) else (some false)) = some r := H
 have A2 := Aside0.mk A20
 clear A20
 by_cases c3 : t101 = true
 ·subst c3
  have H1 : ((spec_l2Spans.f k l0).bind fun t102 => ((spec_l2Cover.f k t102).bind fun t105 => ((spec_l2Same.f k l0 t105).bind fun t108 => (some t108)))) = some r := by rw [if_pos rfl] at H; exact H
  clear H
  have H := H1
  clear H1
  replace H := Option.bind_eq_some_iff.mp H
  obtain ⟨t102, A40, H⟩ := H
  replace H : ((spec_l2Cover.f k t102).bind fun t105 => ((spec_l2Same.f k l0 t105).bind fun t108 => (some t108))) = some r := H
  have A4 := Aside0.mk A40
  clear A40
  replace H := Option.bind_eq_some_iff.mp H
  obtain ⟨t105, A50, H⟩ := H
  replace H : ((spec_l2Same.f k l0 t105).bind fun t108 => (some t108)) = some r := H
  have A5 := Aside0.mk A50
  clear A50
  replace H := Option.bind_eq_some_iff.mp H
  obtain ⟨t108, A60, H⟩ := H
  replace H : (some t108) = some r := H
  have A6 := Aside0.mk A60
  clear A60
  obtain rfl := Option.some.inj H
  go_enter Try.func28, Try.ntmps28
  go_wp2_with (first | ((with_reducible refine gate_callee (f := 65) rfl ?_); refine goesL_ (some 4) rfl rfl Try.func65 (by kernel_rfl) rfl #[.slice A0 l0.length c0] rfl MT ?_; (with_reducible refine (spec_l2Blocks.calls k _ _ l0 true _ ?side1 ?side2 A2.out).mono ?_); (case side1 => exact KC HR0.out); (case side2 => exact HC0.out); rintro e w7 ⟨rfl, hb⟩; refine ⟨_, rfl, ?_⟩; replace HB := am (below_step (KL HB) hb); (try clear hb)) | (go_at_call 67; (with_reducible refine (spec_l2Spans.calls k _ _ l0 t102 _ ?side1 ?side2 A4.out).mono ?_); (case side1 => exact KD HR0 HB); (case side2 => exact HC0.out); rintro e w8 ⟨v103, rfl, ho0, hb⟩; have HO104 := am (Kd.R_lower ho0 (below_size (KL HB))); replace HB := am (below_step (KL HB) hb); (try clear hb); (try clear ho0); obtain ⟨Ao9, co9, eo9⟩ := Kd.R_slice HO104.out; subst eo9) | (go_at_call 49; (with_reducible refine (spec_l2Cover.calls k _ _ t102 t105 _ ?side1 ?side2 A5.out).mono ?_); (case side1 => exact KC (Kd.R_reads' HO104.out).2.2); (case side2 => exact (Kd.R_reads' HO104.out).2.1); rintro e w10 ⟨v106, rfl, ho0, hb⟩; replace HO104 := am (Kd.R_below (KR HO104) hb); have HO107 := am (Kd.R_lower ho0 (below_size (KL HB))); replace HB := am (below_step (KL HB) hb); (try clear hb); (try clear ho0); obtain ⟨Ao11, co11, eo11⟩ := Kd.R_slice HO107.out; subst eo11) | (go_at_call 74; (with_reducible refine (spec_l2Same.calls k _ _ l0 _ _ t105 t108 _ ?side1 ?side2 ?side3 ?side4 A6.out).mono ?_); (case side1 => exact KD HR0 HB); (case side2 => exact HC0.out); (case side3 => exact KC (Kd.R_reads' HO107.out).2.2); (case side4 => exact (Kd.R_reads' HO107.out).2.1); rintro e w' ⟨rfl, ⟨nd, rfl⟩⟩))
  go_ret
  exact ⟨ER, KL HB⟩
 ·replace c3 := Bool.eq_false_iff.mpr c3
  subst c3
  have H1 : (some false) = some r := by rw [if_neg (show ¬ (false = true) by decide)] at H; exact H
  clear H
  have H := H1
  clear H1
  obtain rfl := Option.some.inj H
  go_enter Try.func28, Try.ntmps28
  go_wp2_with (first | ((with_reducible refine gate_callee (f := 65) rfl ?_); refine goesL_ (some 4) rfl rfl Try.func65 (by kernel_rfl) rfl #[.slice A0 l0.length c0] rfl MT ?_; (with_reducible refine (spec_l2Blocks.calls k _ _ l0 false _ ?side1 ?side2 A2.out).mono ?_); (case side1 => exact KC HR0.out); (case side2 => exact HC0.out); rintro e w12 ⟨rfl, hb⟩; refine ⟨_, rfl, ?_⟩; replace HB := am (below_step (KL HB) hb); (try clear hb)))
  go_ret
  exact ⟨ER, KL HB⟩
mutual
def spec_l2Both.l0 : Nat → List (S72) → List (S72) → List (S72) → Int → Option ((List (S72)))
 | 0, _, _, _, _ => none
 | k + 1, x0, x1, x5, x6 => if x6 < (x0.length : Int) then (spec_l2Both.l1 k x0 x1 x5 x6 0) else (some x5)
def spec_l2Both.l1 : Nat → List (S72) → List (S72) → List (S72) → Int → Int → Option ((List (S72)))
 | 0, _, _, _, _, _ => none
 | k + 1, x0, x1, x5, x6, x7 => if x7 < (x1.length : Int) then (if 0 ≤ x6 then (if x6 < (x0.length : Int) then (if 0 ≤ x7 then (if ((rd_T72 x1 x7).f0) > ((rd_T72 x0 x6).f0) then (spec_l2Both.j2 k x0 x1 x5 x6 x7 ((rd_T72 x1 x7).f0) ((rd_T72 x0 x6).f1)) else (spec_l2Both.j2 k x0 x1 x5 x6 x7 ((rd_T72 x0 x6).f0) ((rd_T72 x0 x6).f1))) else (none)) else (none)) else (none)) else (spec_l2Both.l0 k x0 x1 x5 (wrap64 (x6 + 1)))
def spec_l2Both.j2 : Nat → List (S72) → List (S72) → List (S72) → Int → Int → Int → Int → Option ((List (S72)))
 | 0, _, _, _, _, _, _, _ => none
 | k + 1, x0, x1, x5, x6, x7, x106000, x106001 => if 0 ≤ x7 then (if x7 < (x1.length : Int) then (if ((rd_T72 x1 x7).f1) < x106001 then (if x106000 ≤ ((rd_T72 x1 x7).f1) then (if x5.length < 8796093022208 then (spec_l2Both.l1 k x0 x1 (x5 ++ [(⟨x106000, (rd_T72 x1 x7).f1⟩ : S72)]) x6 (wrap64 (x7 + 1))) else (none)) else (spec_l2Both.l1 k x0 x1 x5 x6 (wrap64 (x7 + 1)))) else (if x106000 ≤ x106001 then (if x5.length < 8796093022208 then (spec_l2Both.l1 k x0 x1 (x5 ++ [(⟨x106000, x106001⟩ : S72)]) x6 (wrap64 (x7 + 1))) else (none)) else (spec_l2Both.l1 k x0 x1 x5 x6 (wrap64 (x7 + 1))))) else (none)) else (none)
end
def spec_l2Both.f (k : Nat) (l0 : List (S72)) (l1 : List (S72)) : Option ((List (S72))) := spec_l2Both.l0 k l0 l1 (([] : List (S72))) 0
set_option maxHeartbeats 8000000 in
set_option maxRecDepth 100000 in
theorem spec_l2Both.calls (k : Nat) (A0 : Option Addr) (c0 : Nat) (l0 : List (S72)) (A1 : Option Addr) (c1 : Nat) (l1 : List (S72)) (r : List (S72)) (w : World) (hr0 : Kd.C k72 w A0 l0.length l0) (hc0 : l0.length ≤ c0) (hr1 : Kd.C k72 w A1 l1.length l1) (hc1 : l1.length ≤ c1) (h : spec_l2Both.f k l0 l1 = some r) :
  Calls Try.prog 77 #[.slice A0 l0.length c0, .slice A1 l1.length c1] w fun e w' => ∃ v0_ : Value, e = .returned (v0_) ∧ Kd.R k72 72 w' w.heap.size (fun _ => True) v0_ r ∧ Below w.heap.size w w' := by
 have hu72 := Try.underlying72
 have HR0 := Aside0.mk hr0
 have HC0 := Aside0.mk hc0
 clear hr0 hc0
 have HR1 := Aside0.mk hr1
 have HC1 := Aside0.mk hc1
 clear hr1 hc1
 have HB := am (Below.refl w.heap.size w)
 have H : (spec_l2Both.l0 k l0 l1 (([] : List (S72))) 0) = some r := h
 clear h
 obtain ⟨y101, hy101⟩ : ∃ y_ : List (S72), y_ = (([] : List (S72))) := ⟨_, rfl⟩
 replace H : (spec_l2Both.l0 k l0 l1 y101 0) = some r := by first | (rw [hy101]; with_reducible exact H) | (have H2_ := (Option.bind_some _ _).symm.trans H; rw [hy101]; with_reducible exact H2_) | (have H2_ := (Option.bind_some _ _).symm.trans H; with_reducible exact H2_) | with_reducible exact H | (rw [hy101]; exact H) | exact H
 have Ny101 := Aside0.mk hy101
 clear hy101
 have H' := Aside0.mk H
 clear H
 go_enter Try.func77, Try.ntmps77
 go_wp2_with (first | ((with_reducible refine gate_dst (N := 9) rfl ?_); refine Kd.R_lit k72 _ 72 ?hg (N := 9) ?hd (xs := ([] : List (S72))) (inner := []) (ok := fun _ => True) (okp := fun _ => True) ?hr ?hp (fun _ hk => hk) trivial (Below.refl _ _) (Nat.le_refl _) (by simp) ?_; (case hd => rfl); (case hg => rfl); (case hr => first | (go_simp; done) | (go_simp; rfl)); (case hp => exact (Reps.none _ _)); intro v102 w3 ho4 hb hg_ hnew_; clear hg_ hnew_; (first | rw [← Ny101.out] at ho4 | (simp only [Int.reduceToNat] at ho4; rw [← Ny101.out] at ho4)); have HO103 := am (Kd.R_lower ho4 (below_size (KL HB))); replace HB := am (below_step (KL HB) hb); clear hb ho4))
 repeat (go_quiet (first | ((with_reducible refine gate_dst (N := 9) rfl ?_); refine Kd.R_lit k72 _ 72 ?hg (N := 9) ?hd (xs := ([] : List (S72))) (inner := []) (ok := fun _ => True) (okp := fun _ => True) ?hr ?hp (fun _ hk => hk) trivial (Below.refl _ _) (Nat.le_refl _) (by simp) ?_; (case hd => rfl); (case hg => rfl); (case hr => first | (go_simp; done) | (go_simp; rfl)); (case hp => exact (Reps.none _ _)); intro v102 w3 ho4 hb hg_ hnew_; clear hg_ hnew_; (first | rw [← Ny101.out] at ho4 | (simp only [Int.reduceToNat] at ho4; rw [← Ny101.out] at ho4)); have HO103 := am (Kd.R_lower ho4 (below_size (KL HB))); replace HB := am (below_step (KL HB) hb); clear hb ho4)); try go_wp2_with (first | ((with_reducible refine gate_dst (N := 9) rfl ?_); refine Kd.R_lit k72 _ 72 ?hg (N := 9) ?hd (xs := ([] : List (S72))) (inner := []) (ok := fun _ => True) (okp := fun _ => True) ?hr ?hp (fun _ hk => hk) trivial (Below.refl _ _) (Nat.le_refl _) (by simp) ?_; (case hd => rfl); (case hg => rfl); (case hr => first | (go_simp; done) | (go_simp; rfl)); (case hp => exact (Reps.none _ _)); intro v102 w3 ho4 hb hg_ hnew_; clear hg_ hnew_; (first | rw [← Ny101.out] at ho4 | (simp only [Int.reduceToNat] at ho4; rw [← Ny101.out] at ho4)); have HO103 := am (Kd.R_lower ho4 (below_size (KL HB))); replace HB := am (below_step (KL HB) hb); clear hb ho4)))
 go_loopg [5, 6] k (fun kq v5 v6 w' => ∃ (x5_1 : List (S72)) (x6_1 : Int), v6 = .int .i64 x6_1 ∧ Aside0 (spec_l2Both.l0 kq l0 l1 x5_1 x6_1 = some r) ∧ Aside0 (kq ≤ k) ∧ Aside0 (Kd.R k72 72 w' w.heap.size (fun _ => True) v5 x5_1) ∧ Aside0 (Below w.heap.size w w'))
 case atStart => exact ⟨(y101), (0), (by first | rfl | (simp; done) | (simp [*]; done)), H', ⟨Nat.le_refl _⟩, ⟨KR HO103⟩, ⟨KL HB⟩⟩
 case round =>
  clear H'
  try clear c1
  try clear p2
  obtain ⟨x5_1, x6_1, rfl, HA, HK1, HO_5, HB⟩ := hrel
  cases gk with
  | zero => exact absurd HA.out (by simp [spec_l2Both.l0])
  | succ k1 =>
   have H := HA.out
   clear HA
   simp only [spec_l2Both.l0] at H
   by_cases c5 : x6_1 < (l0.length : Int)
   ·rw [if_pos c5] at H
    have c5b0 : decide (x6_1 < (l0.length : Int)) = true := decide_eq_true c5
    clear c5
    have H' := Aside0.mk H
    clear H
    go_wp2
    repeat (go_quiet (fail); try go_wp2)
    go_loopg [5, 7] k1 (fun kq v5 v7 w' => ∃ (x5_2 : List (S72)) (x7_2 : Int), v7 = .int .i64 x7_2 ∧ Aside0 (spec_l2Both.l1 kq l0 l1 x5_2 x6_1 x7_2 = some r) ∧ Aside0 (kq ≤ k1) ∧ Aside0 (Kd.R k72 72 w' w.heap.size (fun _ => True) v5 x5_2) ∧ Aside0 (Below w.heap.size w w'))
    case atStart => exact ⟨(x5_1), (0), (by first | rfl | (simp; done) | (simp [*]; done)), H', ⟨Nat.le_refl _⟩, ⟨KR HO_5⟩, ⟨KL HB⟩⟩
    case round =>
     clear H'
     try clear c1
     try clear p2
     try clear c5
     try clear c5b0
     try clear p2
     obtain ⟨x5_2, x7_2, rfl, HA, HK2, HO_5, HB⟩ := hrel
     cases gk with
     | zero => exact absurd HA.out (by simp [spec_l2Both.l1])
     | succ k2 =>
      have H := HA.out
      clear HA
      simp only [spec_l2Both.l1] at H
      by_cases c6 : x7_2 < (l1.length : Int)
      ·rw [if_pos c6] at H
       have c6b0 : decide (x7_2 < (l1.length : Int)) = true := decide_eq_true c6
       clear c6
       by_cases c7 : 0 ≤ x6_1
       ·rw [if_pos c7] at H
        have c7b0 : decide (0 ≤ x6_1) = true := decide_eq_true c7
        clear c7
        by_cases c8 : x6_1 < (l0.length : Int)
        ·rw [if_pos c8] at H
         have c8b0 : decide (x6_1 < (l0.length : Int)) = true := decide_eq_true c8
         clear c8
         by_cases c9 : 0 ≤ x7_2
         ·rw [if_pos c9] at H
          have c9b0 : decide (0 ≤ x7_2) = true := decide_eq_true c9
          clear c9
          have HC10 := Aside0.mk H
          clear H
          have p104 : 0 ≤ (x6_1 : Int) := OD
          have q104 : x6_1 < (l0.length : Int) := OD
          obtain ⟨ad104, e104, hx104_0, hx104_1⟩ := at_T72 HR0.out x6_1 p104 q104
          cases e104
          replace hx104_0 := CX HB.out hx104_0
          replace hx104_1 := CX HB.out hx104_1
          replace p104 := eq_true p104
          replace q104 := eq_true q104
          go_upto_if 33 with (first | ((with_reducible refine gate_dst (N := 8) rfl ?_); refine box_event rfl (N := 8) rfl (cs := #[.int .i64 0, .int .i64 0]) (t := 72) BX ?_; intro gb105 hg w11 hbox hb; replace HO_5 := am (Kd.R_below (Kd.R_elderB (KR HO_5) gb105 (Nat.le_of_eq hg.symm)) hb); have BK105 := am (hbox); have GW105 := am (GH HB hg); have GE105 := GW105; replace HB := am (below_step (KL HB) hb); clear hb hbox hg; obtain ⟨hcz12_0, hcz12_1, hfz12_0⟩ := y2 w11 BK105.out; have p106 : 0 ≤ (x7_2 : Int) := OD; have q106 : x7_2 < (l1.length : Int) := OD; obtain ⟨ad106, e106, hx106_0, hx106_1⟩ := at_T72 HR1.out x7_2 p106 q106; cases e106; have hn106_0 : ad106.block ≠ gb105 := Nat.ne_of_lt (Nat.lt_of_lt_of_le (by have := World.block_lt_of_cell? _ _ hx106_0; first | rwa [add_block] at this | exact this) GW105.out); have hn106_1 : ad106.block ≠ gb105 := Nat.ne_of_lt (Nat.lt_of_lt_of_le (by have := World.block_lt_of_cell? _ _ hx106_0; first | rwa [add_block] at this | exact this) GW105.out); replace hx106_0 := CX HB.out hx106_0; replace hx106_1 := CX HB.out hx106_1; replace hx106_0 := (cell_far (p := ⟨gb105, 0, none⟩) (by first | (rw [add_block]; exact hn106_0) | (show (Addr.add _ _).block ≠ _; rw [add_block]; exact hn106_0) | exact hn106_0) (.int .i64 ((rd_T72 l0 x6_1).f0))).trans hx106_0; replace hx106_1 := (cell_far (p := ⟨gb105, 0, none⟩) (by first | (rw [add_block]; exact hn106_0) | (show (Addr.add _ _).block ≠ _; rw [add_block]; exact hn106_0) | exact hn106_0) (.int .i64 ((rd_T72 l0 x6_1).f0))).trans hx106_1; replace hx106_0 := (cell_far (p := ⟨gb105, 1, none⟩) (by first | (rw [add_block]; exact hn106_1) | (show (Addr.add _ _).block ≠ _; rw [add_block]; exact hn106_1) | exact hn106_1) (.int .i64 ((rd_T72 l0 x6_1).f1))).trans hx106_0; replace hx106_1 := (cell_far (p := ⟨gb105, 1, none⟩) (by first | (rw [add_block]; exact hn106_1) | (show (Addr.add _ _).block ≠ _; rw [add_block]; exact hn106_1) | exact hn106_1) (.int .i64 ((rd_T72 l0 x6_1).f1))).trans hx106_1; (try have hy106_0 := fun (n_ : Nat) => (show ((((w11.drewN n_).setCell ⟨gb105, 0, none⟩ (.int .i64 ((rd_T72 l0 x6_1).f0))).setCell ⟨gb105, 1, none⟩ (.int .i64 ((rd_T72 l0 x6_1).f1)))).cell? _ = some _ from hx106_0)); (try have hy106_1 := fun (n_ : Nat) => (show ((((w11.drewN n_).setCell ⟨gb105, 0, none⟩ (.int .i64 ((rd_T72 l0 x6_1).f0))).setCell ⟨gb105, 1, none⟩ (.int .i64 ((rd_T72 l0 x6_1).f1)))).cell? _ = some _ from hx106_1)); clear hn106_0; clear hn106_1; replace p106 := eq_true p106; replace q106 := eq_true q106))
          repeat (go_quiet (first | ((with_reducible refine gate_dst (N := 8) rfl ?_); refine box_event rfl (N := 8) rfl (cs := #[.int .i64 0, .int .i64 0]) (t := 72) BX ?_; intro gb105 hg w11 hbox hb; replace HO_5 := am (Kd.R_below (Kd.R_elderB (KR HO_5) gb105 (Nat.le_of_eq hg.symm)) hb); have BK105 := am (hbox); have GW105 := am (GH HB hg); have GE105 := GW105; replace HB := am (below_step (KL HB) hb); clear hb hbox hg; obtain ⟨hcz12_0, hcz12_1, hfz12_0⟩ := y2 w11 BK105.out; have p106 : 0 ≤ (x7_2 : Int) := OD; have q106 : x7_2 < (l1.length : Int) := OD; obtain ⟨ad106, e106, hx106_0, hx106_1⟩ := at_T72 HR1.out x7_2 p106 q106; cases e106; have hn106_0 : ad106.block ≠ gb105 := Nat.ne_of_lt (Nat.lt_of_lt_of_le (by have := World.block_lt_of_cell? _ _ hx106_0; first | rwa [add_block] at this | exact this) GW105.out); have hn106_1 : ad106.block ≠ gb105 := Nat.ne_of_lt (Nat.lt_of_lt_of_le (by have := World.block_lt_of_cell? _ _ hx106_0; first | rwa [add_block] at this | exact this) GW105.out); replace hx106_0 := CX HB.out hx106_0; replace hx106_1 := CX HB.out hx106_1; replace hx106_0 := (cell_far (p := ⟨gb105, 0, none⟩) (by first | (rw [add_block]; exact hn106_0) | (show (Addr.add _ _).block ≠ _; rw [add_block]; exact hn106_0) | exact hn106_0) (.int .i64 ((rd_T72 l0 x6_1).f0))).trans hx106_0; replace hx106_1 := (cell_far (p := ⟨gb105, 0, none⟩) (by first | (rw [add_block]; exact hn106_0) | (show (Addr.add _ _).block ≠ _; rw [add_block]; exact hn106_0) | exact hn106_0) (.int .i64 ((rd_T72 l0 x6_1).f0))).trans hx106_1; replace hx106_0 := (cell_far (p := ⟨gb105, 1, none⟩) (by first | (rw [add_block]; exact hn106_1) | (show (Addr.add _ _).block ≠ _; rw [add_block]; exact hn106_1) | exact hn106_1) (.int .i64 ((rd_T72 l0 x6_1).f1))).trans hx106_0; replace hx106_1 := (cell_far (p := ⟨gb105, 1, none⟩) (by first | (rw [add_block]; exact hn106_1) | (show (Addr.add _ _).block ≠ _; rw [add_block]; exact hn106_1) | exact hn106_1) (.int .i64 ((rd_T72 l0 x6_1).f1))).trans hx106_1; (try have hy106_0 := fun (n_ : Nat) => (show ((((w11.drewN n_).setCell ⟨gb105, 0, none⟩ (.int .i64 ((rd_T72 l0 x6_1).f0))).setCell ⟨gb105, 1, none⟩ (.int .i64 ((rd_T72 l0 x6_1).f1)))).cell? _ = some _ from hx106_0)); (try have hy106_1 := fun (n_ : Nat) => (show ((((w11.drewN n_).setCell ⟨gb105, 0, none⟩ (.int .i64 ((rd_T72 l0 x6_1).f0))).setCell ⟨gb105, 1, none⟩ (.int .i64 ((rd_T72 l0 x6_1).f1)))).cell? _ = some _ from hx106_1)); clear hn106_0; clear hn106_1; replace p106 := eq_true p106; replace q106 := eq_true q106)); go_upto_if 33 with (first | ((with_reducible refine gate_dst (N := 8) rfl ?_); refine box_event rfl (N := 8) rfl (cs := #[.int .i64 0, .int .i64 0]) (t := 72) BX ?_; intro gb105 hg w11 hbox hb; replace HO_5 := am (Kd.R_below (Kd.R_elderB (KR HO_5) gb105 (Nat.le_of_eq hg.symm)) hb); have BK105 := am (hbox); have GW105 := am (GH HB hg); have GE105 := GW105; replace HB := am (below_step (KL HB) hb); clear hb hbox hg; obtain ⟨hcz12_0, hcz12_1, hfz12_0⟩ := y2 w11 BK105.out; have p106 : 0 ≤ (x7_2 : Int) := OD; have q106 : x7_2 < (l1.length : Int) := OD; obtain ⟨ad106, e106, hx106_0, hx106_1⟩ := at_T72 HR1.out x7_2 p106 q106; cases e106; have hn106_0 : ad106.block ≠ gb105 := Nat.ne_of_lt (Nat.lt_of_lt_of_le (by have := World.block_lt_of_cell? _ _ hx106_0; first | rwa [add_block] at this | exact this) GW105.out); have hn106_1 : ad106.block ≠ gb105 := Nat.ne_of_lt (Nat.lt_of_lt_of_le (by have := World.block_lt_of_cell? _ _ hx106_0; first | rwa [add_block] at this | exact this) GW105.out); replace hx106_0 := CX HB.out hx106_0; replace hx106_1 := CX HB.out hx106_1; replace hx106_0 := (cell_far (p := ⟨gb105, 0, none⟩) (by first | (rw [add_block]; exact hn106_0) | (show (Addr.add _ _).block ≠ _; rw [add_block]; exact hn106_0) | exact hn106_0) (.int .i64 ((rd_T72 l0 x6_1).f0))).trans hx106_0; replace hx106_1 := (cell_far (p := ⟨gb105, 0, none⟩) (by first | (rw [add_block]; exact hn106_0) | (show (Addr.add _ _).block ≠ _; rw [add_block]; exact hn106_0) | exact hn106_0) (.int .i64 ((rd_T72 l0 x6_1).f0))).trans hx106_1; replace hx106_0 := (cell_far (p := ⟨gb105, 1, none⟩) (by first | (rw [add_block]; exact hn106_1) | (show (Addr.add _ _).block ≠ _; rw [add_block]; exact hn106_1) | exact hn106_1) (.int .i64 ((rd_T72 l0 x6_1).f1))).trans hx106_0; replace hx106_1 := (cell_far (p := ⟨gb105, 1, none⟩) (by first | (rw [add_block]; exact hn106_1) | (show (Addr.add _ _).block ≠ _; rw [add_block]; exact hn106_1) | exact hn106_1) (.int .i64 ((rd_T72 l0 x6_1).f1))).trans hx106_1; (try have hy106_0 := fun (n_ : Nat) => (show ((((w11.drewN n_).setCell ⟨gb105, 0, none⟩ (.int .i64 ((rd_T72 l0 x6_1).f0))).setCell ⟨gb105, 1, none⟩ (.int .i64 ((rd_T72 l0 x6_1).f1)))).cell? _ = some _ from hx106_0)); (try have hy106_1 := fun (n_ : Nat) => (show ((((w11.drewN n_).setCell ⟨gb105, 0, none⟩ (.int .i64 ((rd_T72 l0 x6_1).f0))).setCell ⟨gb105, 1, none⟩ (.int .i64 ((rd_T72 l0 x6_1).f1)))).cell? _ = some _ from hx106_1)); clear hn106_0; clear hn106_1; replace p106 := eq_true p106; replace q106 := eq_true q106)))
          (try simp only [Act.put, List.setIfInBounds_toArray, List.set_cons_zero, List.set_cons_succ])
          go_cut [] (fun wc => ∃ (kq : Nat) (x106000_9 : Int), Aside0 (spec_l2Both.j2 kq l0 l1 x5_2 x6_1 x7_2 x106000_9 ((rd_T72 l0 x6_1).f1) = some r) ∧ Aside0 (kq ≤ k2) ∧ Aside0 (Kd.R k72 72 wc w.heap.size (fun k_ => k_ ≠ gb105) u5 x5_2) ∧ Aside0 (wc.heap[gb105]? = some (.cells #[.int .i64 x106000_9, .int .i64 ((rd_T72 l0 x6_1).f1)] 72 (0, 0))) ∧ Aside0 (Below w.heap.size w wc))
          case first =>
           have H := HC10.out
           clear HC10
           by_cases c13 : ((rd_T72 l1 x7_2).f0) > ((rd_T72 l0 x6_1).f0)
           ·rw [if_pos c13] at H
            have c13b0 : decide (((rd_T72 l0 x6_1).f0) < ((rd_T72 l1 x7_2).f0)) = true := decide_eq_true c13
            clear c13
            (first | rw [c13b0] | (simp only [i64_w, i32_w]; rw [c13b0]) | skip)
            have H' := Aside0.mk H
            clear H
            have p107 : 0 ≤ (x7_2 : Int) := OD
            have q107 : x7_2 < (l1.length : Int) := OD
            obtain ⟨ad107, e107, hx107_0, hx107_1⟩ := at_T72 HR1.out x7_2 p107 q107
            obtain rfl : ad106 = ad107 := (by injection e107)
            have hn107_0 : ad106.block ≠ gb105 := Nat.ne_of_lt (Nat.lt_of_lt_of_le (by have := World.block_lt_of_cell? _ _ hx107_0; first | rwa [add_block] at this | exact this) GW105.out)
            have hn107_1 : ad106.block ≠ gb105 := Nat.ne_of_lt (Nat.lt_of_lt_of_le (by have := World.block_lt_of_cell? _ _ hx107_0; first | rwa [add_block] at this | exact this) GW105.out)
            replace hx107_0 := CX HB.out hx107_0
            replace hx107_1 := CX HB.out hx107_1
            replace hx107_0 := (cell_far (p := ⟨gb105, 0, none⟩) (by first | (rw [add_block]; exact hn107_0) | (show (Addr.add _ _).block ≠ _; rw [add_block]; exact hn107_0) | exact hn107_0) (.int .i64 ((rd_T72 l0 x6_1).f0))).trans hx107_0
            replace hx107_1 := (cell_far (p := ⟨gb105, 0, none⟩) (by first | (rw [add_block]; exact hn107_0) | (show (Addr.add _ _).block ≠ _; rw [add_block]; exact hn107_0) | exact hn107_0) (.int .i64 ((rd_T72 l0 x6_1).f0))).trans hx107_1
            replace hx107_0 := (cell_far (p := ⟨gb105, 1, none⟩) (by first | (rw [add_block]; exact hn107_1) | (show (Addr.add _ _).block ≠ _; rw [add_block]; exact hn107_1) | exact hn107_1) (.int .i64 ((rd_T72 l0 x6_1).f1))).trans hx107_0
            replace hx107_1 := (cell_far (p := ⟨gb105, 1, none⟩) (by first | (rw [add_block]; exact hn107_1) | (show (Addr.add _ _).block ≠ _; rw [add_block]; exact hn107_1) | exact hn107_1) (.int .i64 ((rd_T72 l0 x6_1).f1))).trans hx107_1
            (try have hy107_0 := fun (n_ : Nat) => (show ((((w11.drewN n_).setCell ⟨gb105, 0, none⟩ (.int .i64 ((rd_T72 l0 x6_1).f0))).setCell ⟨gb105, 1, none⟩ (.int .i64 ((rd_T72 l0 x6_1).f1)))).cell? _ = some _ from hx107_0))
            (try have hy107_1 := fun (n_ : Nat) => (show ((((w11.drewN n_).setCell ⟨gb105, 0, none⟩ (.int .i64 ((rd_T72 l0 x6_1).f0))).setCell ⟨gb105, 1, none⟩ (.int .i64 ((rd_T72 l0 x6_1).f1)))).cell? _ = some _ from hx107_1))
            clear hn107_0
            clear hn107_1
            replace p107 := eq_true p107
            replace q107 := eq_true q107
            obtain ⟨hcz14_0, hcz14_1, hfz14_0⟩ := y2 w11 BK105.out
            go_wp2
            repeat (go_quiet (fail); try go_wp2)
            go_meet
            case rel => exact ⟨_, ((rd_T72 l1 x7_2).f0), H', ⟨by have := HK1.out; have := HK2.out; first | omega | exact Nat.le_refl _⟩, ⟨by (with_reducible repeat (first | apply Kd.R_alloc | apply Kd.R_drewN | apply Kd.R_drew)); exact Kd.R_mono (Kd.R_far (p := ⟨gb105, 0, none⟩) (Kd.R_far (p := ⟨gb105, 1, none⟩) (Kd.R_far (p := ⟨gb105, 0, none⟩) (Kd.R_mono HO_5.out (fun k_ hk => (⟨hk, hk.2⟩ : _ ∧ k_ ≠ gb105))) (fun _ hk => hk.2) (.int .i64 ((rd_T72 l0 x6_1).f0))) (fun _ hk => hk.2) (.int .i64 ((rd_T72 l0 x6_1).f1))) (fun _ hk => hk.2) (.int .i64 ((rd_T72 l1 x7_2).f0))) (fun _ hk => hk.1.2)⟩, ⟨by (with_reducible repeat (first | refine blk_drewN ?_ _ | refine blk_drew ?_ | refine blk_alloc ?_ _)); refine blk_put (cs := #[.int .i64 ((rd_T72 l0 x6_1).f0), .int .i64 ((rd_T72 l0 x6_1).f1)]) ?_ 0 _ rfl; (with_reducible repeat (first | refine blk_drewN ?_ _ | refine blk_drew ?_ | refine blk_alloc ?_ _)); refine blk_put (cs := #[.int .i64 ((rd_T72 l0 x6_1).f0), .int .i64 0]) ?_ 1 _ rfl; (with_reducible repeat (first | refine blk_drewN ?_ _ | refine blk_drew ?_ | refine blk_alloc ?_ _)); refine blk_put (cs := #[.int .i64 0, .int .i64 0]) ?_ 0 _ rfl; (with_reducible repeat (first | refine blk_drewN ?_ _ | refine blk_drew ?_ | refine blk_alloc ?_ _)); exact BK105.out⟩, ⟨K1 HB GE105.out⟩⟩
           ·rw [if_neg c13] at H
            have c13b0 : decide (((rd_T72 l0 x6_1).f0) < ((rd_T72 l1 x7_2).f0)) = false := decide_eq_false c13
            clear c13
            (first | rw [c13b0] | (simp only [i64_w, i32_w]; rw [c13b0]) | skip)
            have H' := Aside0.mk H
            clear H
            go_wp2
            repeat (go_quiet (fail); try go_wp2)
            go_meet
            case rel => exact ⟨_, ((rd_T72 l0 x6_1).f0), H', ⟨by have := HK1.out; have := HK2.out; first | omega | exact Nat.le_refl _⟩, ⟨by (with_reducible repeat (first | apply Kd.R_alloc | apply Kd.R_drewN | apply Kd.R_drew)); exact Kd.R_mono (Kd.R_far (p := ⟨gb105, 1, none⟩) (Kd.R_far (p := ⟨gb105, 0, none⟩) (Kd.R_mono HO_5.out (fun k_ hk => (⟨hk, hk.2⟩ : _ ∧ k_ ≠ gb105))) (fun _ hk => hk.2) (.int .i64 ((rd_T72 l0 x6_1).f0))) (fun _ hk => hk.2) (.int .i64 ((rd_T72 l0 x6_1).f1))) (fun _ hk => hk.1.2)⟩, ⟨by (with_reducible repeat (first | refine blk_drewN ?_ _ | refine blk_drew ?_ | refine blk_alloc ?_ _)); refine blk_put (cs := #[.int .i64 ((rd_T72 l0 x6_1).f0), .int .i64 0]) ?_ 1 _ rfl; (with_reducible repeat (first | refine blk_drewN ?_ _ | refine blk_drew ?_ | refine blk_alloc ?_ _)); refine blk_put (cs := #[.int .i64 0, .int .i64 0]) ?_ 0 _ rfl; (with_reducible repeat (first | refine blk_drewN ?_ _ | refine blk_drew ?_ | refine blk_alloc ?_ _)); exact BK105.out⟩, ⟨K1 HB GE105.out⟩⟩
          case rest =>
           clear HC10
           try clear c1
           try clear p1
           try clear q1
           try clear hx1
           try clear p2
           try clear c5
           try clear c5b0
           try clear c6
           try clear c6b0
           try clear c7
           try clear c7b0
           try clear c8
           try clear c8b0
           try clear c9
           try clear c9b0
           try clear p10
           try clear q10
           try clear hx10
           try clear c13
           try clear c13b0
           try clear hcz12_0 hcz12_1 hfz12_0
           try clear hcz14_0 hcz14_1 hfz14_0
           try clear hx104_0
           try clear hx104_1
           try clear hx106_0
           try clear hx106_1
           try clear hx107_0
           try clear hx107_1
           try clear p104
           try clear p106
           try clear p107
           try clear p2
           try clear q104
           try clear q106
           try clear q107
           obtain ⟨kq, x106000_9, HA, HJ9, HO_5, BK105, HB⟩ := hcut
           cases kq with
           | zero => exact absurd HA.out (by simp [spec_l2Both.j2])
           | succ kj9 =>
            have H := HA.out
            clear HA
            simp only [spec_l2Both.j2] at H
            by_cases c15 : 0 ≤ x7_2
            ·rw [if_pos c15] at H
             have c15b0 : decide (0 ≤ x7_2) = true := decide_eq_true c15
             clear c15
             by_cases c16 : x7_2 < (l1.length : Int)
             ·rw [if_pos c16] at H
              have c16b0 : decide (x7_2 < (l1.length : Int)) = true := decide_eq_true c16
              clear c16
              by_cases c17 : ((rd_T72 l1 x7_2).f1) < ((rd_T72 l0 x6_1).f1)
              ·rw [if_pos c17] at H
               have c17b0 : decide (((rd_T72 l1 x7_2).f1) < ((rd_T72 l0 x6_1).f1)) = true := decide_eq_true c17
               clear c17
               by_cases c18 : x106000_9 ≤ ((rd_T72 l1 x7_2).f1)
               ·rw [if_pos c18] at H
                have c18b0 : decide (x106000_9 ≤ ((rd_T72 l1 x7_2).f1)) = true := decide_eq_true c18
                clear c18
                by_cases c19 : x5_2.length < 8796093022208
                ·rw [if_pos c19] at H
                 have LMc19 := Aside0.mk c19
                 clear c19
                 obtain ⟨y110, hy110⟩ : ∃ y_ : List (S72), y_ = (x5_2 ++ [(⟨x106000_9, (rd_T72 l1 x7_2).f1⟩ : S72)]) := ⟨_, rfl⟩
                 replace H : (spec_l2Both.l1 kj9 l0 l1 y110 x6_1 (wrap64 (x7_2 + 1))) = some r := by first | (rw [hy110]; with_reducible exact H) | (have H2_ := (Option.bind_some _ _).symm.trans H; rw [hy110]; with_reducible exact H2_) | (have H2_ := (Option.bind_some _ _).symm.trans H; with_reducible exact H2_) | with_reducible exact H | (rw [hy110]; exact H) | exact H
                 have Ny110 := Aside0.mk hy110
                 clear hy110
                 have H' := Aside0.mk H
                 clear H
                 have p108 : 0 ≤ (x7_2 : Int) := OD
                 have q108 : x7_2 < (l1.length : Int) := OD
                 obtain ⟨ad108, e108, hx108_0, hx108_1⟩ := at_T72 HR1.out x7_2 p108 q108
                 obtain rfl : ad106 = ad108 := (by injection e108)
                 replace hx108_0 := CX HB.out hx108_0
                 replace hx108_1 := CX HB.out hx108_1
                 replace p108 := eq_true p108
                 replace q108 := eq_true q108
                 obtain ⟨hcz20_0, hcz20_1, hfz20_0⟩ := y2 wc BK105.out
                 have p109 : 0 ≤ (x7_2 : Int) := OD
                 have q109 : x7_2 < (l1.length : Int) := OD
                 obtain ⟨ad109, e109, hx109_0, hx109_1⟩ := at_T72 HR1.out x7_2 p109 q109
                 obtain rfl : ad106 = ad109 := (by injection e109)
                 replace hx109_0 := CX HB.out hx109_0
                 replace hx109_1 := CX HB.out hx109_1
                 replace p109 := eq_true p109
                 replace q109 := eq_true q109
                 go_wp2_with (first | ((with_reducible refine gate_builtin (b := .append) (xs := #[.tmp 59, .tmp 61]) rfl ?_); at_builtin; refine Kd.R_append k72 (w0 := w) w.heap.size rfl (.tmp 59) (.tmp 61) 73 72 (.agg #[(.int .i64 0), (.int .i64 0)]) 16 rfl Try.underlying73 info72 rfl (by decide) (by omega) u5 x5_2 (⟨x106000_9, (rd_T72 l1 x7_2).f1⟩ : S72) [.int .i64 x106000_9, .int .i64 ((rd_T72 l1 x7_2).f1)] (fun k_ => k_ ≠ gb105) (fun _ => False) rfl (by first | (go_simp; done) | (go_simp; rfl)) ?aP (fun _ hk => hk.elim) ?aF ?aO ?aB ?aS ?aL ?_; (case aP => exact k72_mkM _ _ _ (⟨x106000_9, (rd_T72 l1 x7_2).f1⟩ : S72)); (case aB => exact (K1 HB GE105.out)); (case aF => exact (fun k_ hk => Kd.freshB (g := gb105) (o := .cells #[.int .i64 x106000_9, .int .i64 ((rd_T72 l1 x7_2).f1)] 72 (0, 0)) (by (with_reducible repeat (first | refine blk_drewN ?_ _ | refine blk_drew ?_ | refine blk_alloc ?_ _)); refine blk_put (cs := #[.int .i64 x106000_9, .int .i64 ((rd_T72 l0 x6_1).f1)]) ?_ 1 _ rfl; (with_reducible repeat (first | refine blk_drewN ?_ _ | refine blk_drew ?_ | refine blk_alloc ?_ _)); exact BK105.out) k_ hk)); (case aO => exact (by (with_reducible repeat (first | apply Kd.R_alloc | apply Kd.R_drewN | apply Kd.R_drew)); exact Kd.R_mono (Kd.R_far (p := ⟨gb105, 1, none⟩) (Kd.R_mono HO_5.out (fun k_ hk => (⟨hk, hk⟩ : _ ∧ k_ ≠ gb105))) (fun _ hk => hk.2) (.int .i64 ((rd_T72 l1 x7_2).f1))) (fun _ hk => hk.1))); (case aS => exact (below_size (K1 HB GE105.out))); (case aL => have := LMc19.out; omega); intro v111 w21 ho hb hg hat; rw [← Ny110.out] at ho; replace BK105 := am (blk_grown (g := gb105) (o := .cells #[.int .i64 x106000_9, .int .i64 ((rd_T72 l1 x7_2).f1)] 72 (0, 0)) (by (with_reducible repeat (first | refine blk_drewN ?_ _ | refine blk_drew ?_ | refine blk_alloc ?_ _)); refine blk_put (cs := #[.int .i64 x106000_9, .int .i64 ((rd_T72 l0 x6_1).f1)]) ?_ 1 _ rfl; (with_reducible repeat (first | refine blk_drewN ?_ _ | refine blk_drew ?_ | refine blk_alloc ?_ _)); exact BK105.out) hg (Kd.R_away HO_5.out (fun _ hk => hk))); replace HB := am (hb); have HO112 := am (ho); clear HO_5; clear ho hb hg hat))
                 repeat (go_quiet (first | ((with_reducible refine gate_builtin (b := .append) (xs := #[.tmp 59, .tmp 61]) rfl ?_); at_builtin; refine Kd.R_append k72 (w0 := w) w.heap.size rfl (.tmp 59) (.tmp 61) 73 72 (.agg #[(.int .i64 0), (.int .i64 0)]) 16 rfl Try.underlying73 info72 rfl (by decide) (by omega) u5 x5_2 (⟨x106000_9, (rd_T72 l1 x7_2).f1⟩ : S72) [.int .i64 x106000_9, .int .i64 ((rd_T72 l1 x7_2).f1)] (fun k_ => k_ ≠ gb105) (fun _ => False) rfl (by first | (go_simp; done) | (go_simp; rfl)) ?aP (fun _ hk => hk.elim) ?aF ?aO ?aB ?aS ?aL ?_; (case aP => exact k72_mkM _ _ _ (⟨x106000_9, (rd_T72 l1 x7_2).f1⟩ : S72)); (case aB => exact (K1 HB GE105.out)); (case aF => exact (fun k_ hk => Kd.freshB (g := gb105) (o := .cells #[.int .i64 x106000_9, .int .i64 ((rd_T72 l1 x7_2).f1)] 72 (0, 0)) (by (with_reducible repeat (first | refine blk_drewN ?_ _ | refine blk_drew ?_ | refine blk_alloc ?_ _)); refine blk_put (cs := #[.int .i64 x106000_9, .int .i64 ((rd_T72 l0 x6_1).f1)]) ?_ 1 _ rfl; (with_reducible repeat (first | refine blk_drewN ?_ _ | refine blk_drew ?_ | refine blk_alloc ?_ _)); exact BK105.out) k_ hk)); (case aO => exact (by (with_reducible repeat (first | apply Kd.R_alloc | apply Kd.R_drewN | apply Kd.R_drew)); exact Kd.R_mono (Kd.R_far (p := ⟨gb105, 1, none⟩) (Kd.R_mono HO_5.out (fun k_ hk => (⟨hk, hk⟩ : _ ∧ k_ ≠ gb105))) (fun _ hk => hk.2) (.int .i64 ((rd_T72 l1 x7_2).f1))) (fun _ hk => hk.1))); (case aS => exact (below_size (K1 HB GE105.out))); (case aL => have := LMc19.out; omega); intro v111 w21 ho hb hg hat; rw [← Ny110.out] at ho; replace BK105 := am (blk_grown (g := gb105) (o := .cells #[.int .i64 x106000_9, .int .i64 ((rd_T72 l1 x7_2).f1)] 72 (0, 0)) (by (with_reducible repeat (first | refine blk_drewN ?_ _ | refine blk_drew ?_ | refine blk_alloc ?_ _)); refine blk_put (cs := #[.int .i64 x106000_9, .int .i64 ((rd_T72 l0 x6_1).f1)]) ?_ 1 _ rfl; (with_reducible repeat (first | refine blk_drewN ?_ _ | refine blk_drew ?_ | refine blk_alloc ?_ _)); exact BK105.out) hg (Kd.R_away HO_5.out (fun _ hk => hk))); replace HB := am (hb); have HO112 := am (ho); clear HO_5; clear ho hb hg hat)); try go_wp2_with (first | ((with_reducible refine gate_builtin (b := .append) (xs := #[.tmp 59, .tmp 61]) rfl ?_); at_builtin; refine Kd.R_append k72 (w0 := w) w.heap.size rfl (.tmp 59) (.tmp 61) 73 72 (.agg #[(.int .i64 0), (.int .i64 0)]) 16 rfl Try.underlying73 info72 rfl (by decide) (by omega) u5 x5_2 (⟨x106000_9, (rd_T72 l1 x7_2).f1⟩ : S72) [.int .i64 x106000_9, .int .i64 ((rd_T72 l1 x7_2).f1)] (fun k_ => k_ ≠ gb105) (fun _ => False) rfl (by first | (go_simp; done) | (go_simp; rfl)) ?aP (fun _ hk => hk.elim) ?aF ?aO ?aB ?aS ?aL ?_; (case aP => exact k72_mkM _ _ _ (⟨x106000_9, (rd_T72 l1 x7_2).f1⟩ : S72)); (case aB => exact (K1 HB GE105.out)); (case aF => exact (fun k_ hk => Kd.freshB (g := gb105) (o := .cells #[.int .i64 x106000_9, .int .i64 ((rd_T72 l1 x7_2).f1)] 72 (0, 0)) (by (with_reducible repeat (first | refine blk_drewN ?_ _ | refine blk_drew ?_ | refine blk_alloc ?_ _)); refine blk_put (cs := #[.int .i64 x106000_9, .int .i64 ((rd_T72 l0 x6_1).f1)]) ?_ 1 _ rfl; (with_reducible repeat (first | refine blk_drewN ?_ _ | refine blk_drew ?_ | refine blk_alloc ?_ _)); exact BK105.out) k_ hk)); (case aO => exact (by (with_reducible repeat (first | apply Kd.R_alloc | apply Kd.R_drewN | apply Kd.R_drew)); exact Kd.R_mono (Kd.R_far (p := ⟨gb105, 1, none⟩) (Kd.R_mono HO_5.out (fun k_ hk => (⟨hk, hk⟩ : _ ∧ k_ ≠ gb105))) (fun _ hk => hk.2) (.int .i64 ((rd_T72 l1 x7_2).f1))) (fun _ hk => hk.1))); (case aS => exact (below_size (K1 HB GE105.out))); (case aL => have := LMc19.out; omega); intro v111 w21 ho hb hg hat; rw [← Ny110.out] at ho; replace BK105 := am (blk_grown (g := gb105) (o := .cells #[.int .i64 x106000_9, .int .i64 ((rd_T72 l1 x7_2).f1)] 72 (0, 0)) (by (with_reducible repeat (first | refine blk_drewN ?_ _ | refine blk_drew ?_ | refine blk_alloc ?_ _)); refine blk_put (cs := #[.int .i64 x106000_9, .int .i64 ((rd_T72 l0 x6_1).f1)]) ?_ 1 _ rfl; (with_reducible repeat (first | refine blk_drewN ?_ _ | refine blk_drew ?_ | refine blk_alloc ?_ _)); exact BK105.out) hg (Kd.R_away HO_5.out (fun _ hk => hk))); replace HB := am (hb); have HO112 := am (ho); clear HO_5; clear ho hb hg hat)))
                 go_roundg kj9
                 case measure => have := HK1.out; have := HK2.out; have := HJ9.out; omega
                 case rel => exact ⟨(y110), (wrap64 (x7_2 + 1)), (by first | rfl | (simp; done) | (simp [*]; done)), H', ⟨by have := HK1.out; have := HK2.out; have := HJ9.out; omega⟩, ⟨by (with_reducible repeat (first | apply Kd.R_alloc | apply Kd.R_drewN | apply Kd.R_drew)); exact Kd.R_mono HO112.out (fun _ hk => trivial)⟩, ⟨K1 HB GE105.out⟩⟩
                ·rw [if_neg c19] at H
                 exact absurd H (by simp)
               ·rw [if_neg c18] at H
                have c18b0 : decide (x106000_9 ≤ ((rd_T72 l1 x7_2).f1)) = false := decide_eq_false c18
                clear c18
                have H' := Aside0.mk H
                clear H
                have p108 : 0 ≤ (x7_2 : Int) := OD
                have q108 : x7_2 < (l1.length : Int) := OD
                obtain ⟨ad108, e108, hx108_0, hx108_1⟩ := at_T72 HR1.out x7_2 p108 q108
                obtain rfl : ad106 = ad108 := (by injection e108)
                replace hx108_0 := CX HB.out hx108_0
                replace hx108_1 := CX HB.out hx108_1
                replace p108 := eq_true p108
                replace q108 := eq_true q108
                obtain ⟨hcz22_0, hcz22_1, hfz22_0⟩ := y2 wc BK105.out
                have p109 : 0 ≤ (x7_2 : Int) := OD
                have q109 : x7_2 < (l1.length : Int) := OD
                obtain ⟨ad109, e109, hx109_0, hx109_1⟩ := at_T72 HR1.out x7_2 p109 q109
                obtain rfl : ad106 = ad109 := (by injection e109)
                replace hx109_0 := CX HB.out hx109_0
                replace hx109_1 := CX HB.out hx109_1
                replace p109 := eq_true p109
                replace q109 := eq_true q109
                go_wp2
                repeat (go_quiet (fail); try go_wp2)
                go_roundg kj9
                case measure => have := HK1.out; have := HK2.out; have := HJ9.out; omega
                case rel => exact ⟨(x5_2), (wrap64 (x7_2 + 1)), (by first | rfl | (simp; done) | (simp [*]; done)), H', ⟨by have := HK1.out; have := HK2.out; have := HJ9.out; omega⟩, ⟨by (with_reducible repeat (first | apply Kd.R_alloc | apply Kd.R_drewN | apply Kd.R_drew)); exact Kd.R_mono (Kd.R_far (p := ⟨gb105, 1, none⟩) (Kd.R_mono HO_5.out (fun k_ hk => (⟨hk, hk⟩ : _ ∧ k_ ≠ gb105))) (fun _ hk => hk.2) (.int .i64 ((rd_T72 l1 x7_2).f1))) (fun _ hk => trivial)⟩, ⟨K1 HB GE105.out⟩⟩
              ·rw [if_neg c17] at H
               have c17b0 : decide (((rd_T72 l1 x7_2).f1) < ((rd_T72 l0 x6_1).f1)) = false := decide_eq_false c17
               clear c17
               by_cases c23 : x106000_9 ≤ ((rd_T72 l0 x6_1).f1)
               ·rw [if_pos c23] at H
                have c23b0 : decide (x106000_9 ≤ ((rd_T72 l0 x6_1).f1)) = true := decide_eq_true c23
                clear c23
                by_cases c24 : x5_2.length < 8796093022208
                ·rw [if_pos c24] at H
                 have LMc24 := Aside0.mk c24
                 clear c24
                 obtain ⟨y113, hy113⟩ : ∃ y_ : List (S72), y_ = (x5_2 ++ [(⟨x106000_9, ((rd_T72 l0 x6_1).f1)⟩ : S72)]) := ⟨_, rfl⟩
                 replace H : (spec_l2Both.l1 kj9 l0 l1 y113 x6_1 (wrap64 (x7_2 + 1))) = some r := by first | (rw [hy113]; with_reducible exact H) | (have H2_ := (Option.bind_some _ _).symm.trans H; rw [hy113]; with_reducible exact H2_) | (have H2_ := (Option.bind_some _ _).symm.trans H; with_reducible exact H2_) | with_reducible exact H | (rw [hy113]; exact H) | exact H
                 have Ny113 := Aside0.mk hy113
                 clear hy113
                 have H' := Aside0.mk H
                 clear H
                 have p108 : 0 ≤ (x7_2 : Int) := OD
                 have q108 : x7_2 < (l1.length : Int) := OD
                 obtain ⟨ad108, e108, hx108_0, hx108_1⟩ := at_T72 HR1.out x7_2 p108 q108
                 obtain rfl : ad106 = ad108 := (by injection e108)
                 replace hx108_0 := CX HB.out hx108_0
                 replace hx108_1 := CX HB.out hx108_1
                 replace p108 := eq_true p108
                 replace q108 := eq_true q108
                 obtain ⟨hcz25_0, hcz25_1, hfz25_0⟩ := y2 wc BK105.out
                 go_wp2_with (first | ((with_reducible refine gate_builtin (b := .append) (xs := #[.tmp 59, .tmp 61]) rfl ?_); at_builtin; refine Kd.R_append k72 (w0 := w) w.heap.size rfl (.tmp 59) (.tmp 61) 73 72 (.agg #[(.int .i64 0), (.int .i64 0)]) 16 rfl Try.underlying73 info72 rfl (by decide) (by omega) u5 x5_2 (⟨x106000_9, ((rd_T72 l0 x6_1).f1)⟩ : S72) [.int .i64 x106000_9, .int .i64 ((rd_T72 l0 x6_1).f1)] (fun k_ => k_ ≠ gb105) (fun _ => False) rfl rfl ?aP (fun _ hk => hk.elim) ?aF ?aO ?aB ?aS ?aL ?_; (case aP => exact k72_mkM _ _ _ (⟨x106000_9, ((rd_T72 l0 x6_1).f1)⟩ : S72)); (case aB => exact (K1 HB GE105.out)); (case aF => exact (fun k_ hk => Kd.freshB (g := gb105) (o := .cells #[.int .i64 x106000_9, .int .i64 ((rd_T72 l0 x6_1).f1)] 72 (0, 0)) (KB BK105) k_ hk)); (case aO => exact (KR HO_5)); (case aS => exact (below_size (K1 HB GE105.out))); (case aL => have := LMc24.out; omega); intro v114 w26 ho hb hg hat; rw [← Ny113.out] at ho; replace BK105 := am (blk_grown (g := gb105) (o := .cells #[.int .i64 x106000_9, .int .i64 ((rd_T72 l0 x6_1).f1)] 72 (0, 0)) (KB BK105) hg (Kd.R_away HO_5.out (fun _ hk => hk))); replace HB := am (hb); have HO115 := am (ho); clear HO_5; clear ho hb hg hat))
                 repeat (go_quiet (first | ((with_reducible refine gate_builtin (b := .append) (xs := #[.tmp 59, .tmp 61]) rfl ?_); at_builtin; refine Kd.R_append k72 (w0 := w) w.heap.size rfl (.tmp 59) (.tmp 61) 73 72 (.agg #[(.int .i64 0), (.int .i64 0)]) 16 rfl Try.underlying73 info72 rfl (by decide) (by omega) u5 x5_2 (⟨x106000_9, ((rd_T72 l0 x6_1).f1)⟩ : S72) [.int .i64 x106000_9, .int .i64 ((rd_T72 l0 x6_1).f1)] (fun k_ => k_ ≠ gb105) (fun _ => False) rfl rfl ?aP (fun _ hk => hk.elim) ?aF ?aO ?aB ?aS ?aL ?_; (case aP => exact k72_mkM _ _ _ (⟨x106000_9, ((rd_T72 l0 x6_1).f1)⟩ : S72)); (case aB => exact (K1 HB GE105.out)); (case aF => exact (fun k_ hk => Kd.freshB (g := gb105) (o := .cells #[.int .i64 x106000_9, .int .i64 ((rd_T72 l0 x6_1).f1)] 72 (0, 0)) (KB BK105) k_ hk)); (case aO => exact (KR HO_5)); (case aS => exact (below_size (K1 HB GE105.out))); (case aL => have := LMc24.out; omega); intro v114 w26 ho hb hg hat; rw [← Ny113.out] at ho; replace BK105 := am (blk_grown (g := gb105) (o := .cells #[.int .i64 x106000_9, .int .i64 ((rd_T72 l0 x6_1).f1)] 72 (0, 0)) (KB BK105) hg (Kd.R_away HO_5.out (fun _ hk => hk))); replace HB := am (hb); have HO115 := am (ho); clear HO_5; clear ho hb hg hat)); try go_wp2_with (first | ((with_reducible refine gate_builtin (b := .append) (xs := #[.tmp 59, .tmp 61]) rfl ?_); at_builtin; refine Kd.R_append k72 (w0 := w) w.heap.size rfl (.tmp 59) (.tmp 61) 73 72 (.agg #[(.int .i64 0), (.int .i64 0)]) 16 rfl Try.underlying73 info72 rfl (by decide) (by omega) u5 x5_2 (⟨x106000_9, ((rd_T72 l0 x6_1).f1)⟩ : S72) [.int .i64 x106000_9, .int .i64 ((rd_T72 l0 x6_1).f1)] (fun k_ => k_ ≠ gb105) (fun _ => False) rfl rfl ?aP (fun _ hk => hk.elim) ?aF ?aO ?aB ?aS ?aL ?_; (case aP => exact k72_mkM _ _ _ (⟨x106000_9, ((rd_T72 l0 x6_1).f1)⟩ : S72)); (case aB => exact (K1 HB GE105.out)); (case aF => exact (fun k_ hk => Kd.freshB (g := gb105) (o := .cells #[.int .i64 x106000_9, .int .i64 ((rd_T72 l0 x6_1).f1)] 72 (0, 0)) (KB BK105) k_ hk)); (case aO => exact (KR HO_5)); (case aS => exact (below_size (K1 HB GE105.out))); (case aL => have := LMc24.out; omega); intro v114 w26 ho hb hg hat; rw [← Ny113.out] at ho; replace BK105 := am (blk_grown (g := gb105) (o := .cells #[.int .i64 x106000_9, .int .i64 ((rd_T72 l0 x6_1).f1)] 72 (0, 0)) (KB BK105) hg (Kd.R_away HO_5.out (fun _ hk => hk))); replace HB := am (hb); have HO115 := am (ho); clear HO_5; clear ho hb hg hat)))
                 go_roundg kj9
                 case measure => have := HK1.out; have := HK2.out; have := HJ9.out; omega
                 case rel => exact ⟨(y113), (wrap64 (x7_2 + 1)), (by first | rfl | (simp; done) | (simp [*]; done)), H', ⟨by have := HK1.out; have := HK2.out; have := HJ9.out; omega⟩, ⟨by (with_reducible repeat (first | apply Kd.R_alloc | apply Kd.R_drewN | apply Kd.R_drew)); exact Kd.R_mono HO115.out (fun _ hk => trivial)⟩, ⟨K1 HB GE105.out⟩⟩
                ·rw [if_neg c24] at H
                 exact absurd H (by simp)
               ·rw [if_neg c23] at H
                have c23b0 : decide (x106000_9 ≤ ((rd_T72 l0 x6_1).f1)) = false := decide_eq_false c23
                clear c23
                have H' := Aside0.mk H
                clear H
                have p108 : 0 ≤ (x7_2 : Int) := OD
                have q108 : x7_2 < (l1.length : Int) := OD
                obtain ⟨ad108, e108, hx108_0, hx108_1⟩ := at_T72 HR1.out x7_2 p108 q108
                obtain rfl : ad106 = ad108 := (by injection e108)
                replace hx108_0 := CX HB.out hx108_0
                replace hx108_1 := CX HB.out hx108_1
                replace p108 := eq_true p108
                replace q108 := eq_true q108
                obtain ⟨hcz27_0, hcz27_1, hfz27_0⟩ := y2 wc BK105.out
                go_wp2
                repeat (go_quiet (fail); try go_wp2)
                go_roundg kj9
                case measure => have := HK1.out; have := HK2.out; have := HJ9.out; omega
                case rel => exact ⟨(x5_2), (wrap64 (x7_2 + 1)), (by first | rfl | (simp; done) | (simp [*]; done)), H', ⟨by have := HK1.out; have := HK2.out; have := HJ9.out; omega⟩, ⟨by (with_reducible repeat (first | apply Kd.R_alloc | apply Kd.R_drewN | apply Kd.R_drew)); exact Kd.R_mono HO_5.out (fun _ hk => trivial)⟩, ⟨K1 HB GE105.out⟩⟩
             ·rw [if_neg c16] at H
              exact absurd H (by simp)
            ·rw [if_neg c15] at H
             exact absurd H (by simp)
         ·rw [if_neg c9] at H
          exact absurd H (by simp)
        ·rw [if_neg c8] at H
         exact absurd H (by simp)
       ·rw [if_neg c7] at H
        exact absurd H (by simp)
      ·rw [if_neg c6] at H
       have c6b0 : decide (x7_2 < (l1.length : Int)) = false := decide_eq_false c6
       clear c6
       have H' := Aside0.mk H
       clear H
       go_wp2
       repeat (go_quiet (fail); try go_wp2)
       go_roundg k2
       case measure => have := HK1.out; have := HK2.out; omega
       case rel => exact ⟨(x5_2), (wrap64 (x6_1 + 1)), (by first | rfl | (simp; done) | (simp [*]; done)), H', ⟨by have := HK1.out; have := HK2.out; omega⟩, ⟨KR HO_5⟩, ⟨KL HB⟩⟩
   ·rw [if_neg c5] at H
    have c5b0 : decide (x6_1 < (l0.length : Int)) = false := decide_eq_false c5
    clear c5
    obtain rfl := Option.some.inj H
    go_wp2
    repeat (go_quiet (fail); try go_wp2)
    go_ret
    exact ⟨_, ER, by (with_reducible repeat (first | apply Kd.R_alloc | apply Kd.R_drewN | apply Kd.R_drew)); exact HO_5.out, KL HB⟩
def spec_l2Not.l0 : Nat → List (S72) → List (S72) → Int → Int → Option ((List (S72)))
 | 0, _, _, _, _ => none
 | k + 1, x0, x3, x4, x5 => if x5 < (x0.length : Int) then (if 0 ≤ x5 then (if ((rd_T72 x0 x5).f0) > x4 then (if x3.length < 8796093022208 then (spec_l2Not.l0 k x0 (x3 ++ [(⟨x4, wrap64 (((rd_T72 x0 x5).f0) - 1)⟩ : S72)]) (wrap64 (((rd_T72 x0 x5).f1) + 1)) (wrap64 (x5 + 1))) else (none)) else (spec_l2Not.l0 k x0 x3 (wrap64 (((rd_T72 x0 x5).f1) + 1)) (wrap64 (x5 + 1)))) else (none)) else (if x4 ≤ 4294967295 then (if x3.length < 8796093022208 then (some (x3 ++ [(⟨x4, 4294967295⟩ : S72)])) else (none)) else (some x3))
def spec_l2Not.f (k : Nat) (l0 : List (S72)) : Option ((List (S72))) := spec_l2Not.l0 k l0 (([] : List (S72))) 0 0
set_option maxHeartbeats 8000000 in
set_option maxRecDepth 100000 in
theorem spec_l2Not.calls (k : Nat) (A0 : Option Addr) (c0 : Nat) (l0 : List (S72)) (r : List (S72)) (w : World) (hr0 : Kd.C k72 w A0 l0.length l0) (hc0 : l0.length ≤ c0) (h : spec_l2Not.f k l0 = some r) :
  Calls Try.prog 78 #[.slice A0 l0.length c0] w fun e w' => ∃ v0_ : Value, e = .returned (v0_) ∧ Kd.R k72 72 w' w.heap.size (fun _ => True) v0_ r ∧ Below w.heap.size w w' := by
 have hu72 := Try.underlying72
 have HR0 := Aside0.mk hr0
 have HC0 := Aside0.mk hc0
 clear hr0 hc0
 have HB := am (Below.refl w.heap.size w)
 have H : (spec_l2Not.l0 k l0 (([] : List (S72))) 0 0) = some r := h
 clear h
 obtain ⟨y101, hy101⟩ : ∃ y_ : List (S72), y_ = (([] : List (S72))) := ⟨_, rfl⟩
 replace H : (spec_l2Not.l0 k l0 y101 0 0) = some r := by first | (rw [hy101]; with_reducible exact H) | (have H2_ := (Option.bind_some _ _).symm.trans H; rw [hy101]; with_reducible exact H2_) | (have H2_ := (Option.bind_some _ _).symm.trans H; with_reducible exact H2_) | with_reducible exact H | (rw [hy101]; exact H) | exact H
 have Ny101 := Aside0.mk hy101
 clear hy101
 have H' := Aside0.mk H
 clear H
 go_enter Try.func78, Try.ntmps78
 go_wp2_with (first | ((with_reducible refine gate_dst (N := 6) rfl ?_); refine Kd.R_lit k72 _ 72 ?hg (N := 6) ?hd (xs := ([] : List (S72))) (inner := []) (ok := fun _ => True) (okp := fun _ => True) ?hr ?hp (fun _ hk => hk) trivial (Below.refl _ _) (Nat.le_refl _) (by simp) ?_; (case hd => rfl); (case hg => rfl); (case hr => first | (go_simp; done) | (go_simp; rfl)); (case hp => exact (Reps.none _ _)); intro v102 w2 ho3 hb hg_ hnew_; clear hg_ hnew_; (first | rw [← Ny101.out] at ho3 | (simp only [Int.reduceToNat] at ho3; rw [← Ny101.out] at ho3)); have HO103 := am (Kd.R_lower ho3 (below_size (KL HB))); replace HB := am (below_step (KL HB) hb); clear hb ho3))
 go_loopg [3, 4, 5] k (fun kq v3 v4 v5 w' => ∃ (x3_1 : List (S72)) (x4_1 : Int) (x5_1 : Int), v4 = .int .i64 x4_1 ∧ v5 = .int .i64 x5_1 ∧ Aside0 (spec_l2Not.l0 kq l0 x3_1 x4_1 x5_1 = some r) ∧ Aside0 (kq ≤ k) ∧ Aside0 (Kd.R k72 72 w' w.heap.size (fun _ => True) v3 x3_1) ∧ Aside0 (Below w.heap.size w w'))
 case atStart => exact ⟨(y101), (0), (0), (by first | rfl | (simp; done) | (simp [*]; done)), (by first | rfl | (simp; done) | (simp [*]; done)), H', ⟨Nat.le_refl _⟩, ⟨KR HO103⟩, ⟨KL HB⟩⟩
 case round =>
  clear H'
  try clear p2
  obtain ⟨x3_1, x4_1, x5_1, rfl, rfl, HA, HK1, HO_3, HB⟩ := hrel
  cases gk with
  | zero => exact absurd HA.out (by simp [spec_l2Not.l0])
  | succ k1 =>
   have H := HA.out
   clear HA
   simp only [spec_l2Not.l0] at H
   by_cases c4 : x5_1 < (l0.length : Int)
   ·rw [if_pos c4] at H
    have c4b0 : decide (x5_1 < (l0.length : Int)) = true := decide_eq_true c4
    clear c4
    by_cases c5 : 0 ≤ x5_1
    ·rw [if_pos c5] at H
     have c5b0 : decide (0 ≤ x5_1) = true := decide_eq_true c5
     clear c5
     by_cases c6 : ((rd_T72 l0 x5_1).f0) > x4_1
     ·rw [if_pos c6] at H
      have c6b0 : decide (x4_1 < ((rd_T72 l0 x5_1).f0)) = true := decide_eq_true c6
      clear c6
      by_cases c7 : x3_1.length < 8796093022208
      ·rw [if_pos c7] at H
       have LMc7 := Aside0.mk c7
       clear c7
       obtain ⟨y106, hy106⟩ : ∃ y_ : List (S72), y_ = (x3_1 ++ [(⟨x4_1, wrap64 (((rd_T72 l0 x5_1).f0) - 1)⟩ : S72)]) := ⟨_, rfl⟩
       replace H : (spec_l2Not.l0 k1 l0 y106 (wrap64 (((rd_T72 l0 x5_1).f1) + 1)) (wrap64 (x5_1 + 1))) = some r := by first | (rw [hy106]; with_reducible exact H) | (have H2_ := (Option.bind_some _ _).symm.trans H; rw [hy106]; with_reducible exact H2_) | (have H2_ := (Option.bind_some _ _).symm.trans H; with_reducible exact H2_) | with_reducible exact H | (rw [hy106]; exact H) | exact H
       have Ny106 := Aside0.mk hy106
       clear hy106
       have H' := Aside0.mk H
       clear H
       have p104 : 0 ≤ (x5_1 : Int) := OD
       have q104 : x5_1 < (l0.length : Int) := OD
       obtain ⟨ad104, e104, hx104_0, hx104_1⟩ := at_T72 HR0.out x5_1 p104 q104
       cases e104
       replace hx104_0 := CX HB.out hx104_0
       replace hx104_1 := CX HB.out hx104_1
       replace p104 := eq_true p104
       replace q104 := eq_true q104
       have p105 : 0 ≤ (x5_1 : Int) := OD
       have q105 : x5_1 < (l0.length : Int) := OD
       obtain ⟨ad105, e105, hx105_0, hx105_1⟩ := at_T72 HR0.out x5_1 p105 q105
       obtain rfl : ad104 = ad105 := (by injection e105)
       replace hx105_0 := CX HB.out hx105_0
       replace hx105_1 := CX HB.out hx105_1
       replace p105 := eq_true p105
       replace q105 := eq_true q105
       go_wp2_with (first | ((with_reducible refine gate_builtin (b := .append) (xs := #[.tmp 20, .tmp 29]) rfl ?_); at_builtin; refine Kd.R_append k72 (w0 := w) w.heap.size rfl (.tmp 20) (.tmp 29) 73 72 (.agg #[(.int .i64 0), (.int .i64 0)]) 16 rfl Try.underlying73 info72 rfl (by decide) (by omega) u3 x3_1 (⟨x4_1, wrap64 (((rd_T72 l0 x5_1).f0) - 1)⟩ : S72) [.int .i64 x4_1, .int .i64 (wrap64 (((rd_T72 l0 x5_1).f0) - 1))] (fun _ => True) (fun _ => False) rfl rfl ?aP (fun _ hk => hk.elim) ?aF ?aO ?aB ?aS ?aL ?_; (case aP => exact k72_mkM _ _ _ (⟨x4_1, wrap64 (((rd_T72 l0 x5_1).f0) - 1)⟩ : S72)); (case aB => exact (KL HB)); (case aF => exact (fun _ _ => trivial)); (case aO => exact (KR HO_3)); (case aS => exact (below_size (KL HB))); (case aL => have := LMc7.out; omega); intro v107 w8 ho hb hg hat; rw [← Ny106.out] at ho; replace HB := am (hb); have HO108 := am (ho); clear HO_3; clear ho hb hg hat; have p109 : 0 ≤ (x5_1 : Int) := OD; have q109 : x5_1 < (l0.length : Int) := OD; obtain ⟨ad109, e109, hx109_0, hx109_1⟩ := at_T72 HR0.out x5_1 p109 q109; obtain rfl : ad104 = ad109 := (by injection e109); replace hx109_0 := CX HB.out hx109_0; replace hx109_1 := CX HB.out hx109_1; replace p109 := eq_true p109; replace q109 := eq_true q109))
       go_roundg k1
       case measure => have := HK1.out; omega
       case rel => exact ⟨(y106), (wrap64 (((rd_T72 l0 x5_1).f1) + 1)), (wrap64 (x5_1 + 1)), (by first | rfl | (simp; done) | (simp [*]; done)), (by first | rfl | (simp; done) | (simp [*]; done)), H', ⟨by have := HK1.out; omega⟩, ⟨KR HO108⟩, ⟨KL HB⟩⟩
      ·rw [if_neg c7] at H
       exact absurd H (by simp)
     ·rw [if_neg c6] at H
      have c6b0 : decide (x4_1 < ((rd_T72 l0 x5_1).f0)) = false := decide_eq_false c6
      clear c6
      have H' := Aside0.mk H
      clear H
      have p104 : 0 ≤ (x5_1 : Int) := OD
      have q104 : x5_1 < (l0.length : Int) := OD
      obtain ⟨ad104, e104, hx104_0, hx104_1⟩ := at_T72 HR0.out x5_1 p104 q104
      cases e104
      replace hx104_0 := CX HB.out hx104_0
      replace hx104_1 := CX HB.out hx104_1
      replace p104 := eq_true p104
      replace q104 := eq_true q104
      have p110 : 0 ≤ (x5_1 : Int) := OD
      have q110 : x5_1 < (l0.length : Int) := OD
      obtain ⟨ad110, e110, hx110_0, hx110_1⟩ := at_T72 HR0.out x5_1 p110 q110
      obtain rfl : ad104 = ad110 := (by injection e110)
      replace hx110_0 := CX HB.out hx110_0
      replace hx110_1 := CX HB.out hx110_1
      replace p110 := eq_true p110
      replace q110 := eq_true q110
      go_wp2
      go_roundg k1
      case measure => have := HK1.out; omega
      case rel => exact ⟨(x3_1), (wrap64 (((rd_T72 l0 x5_1).f1) + 1)), (wrap64 (x5_1 + 1)), (by first | rfl | (simp; done) | (simp [*]; done)), (by first | rfl | (simp; done) | (simp [*]; done)), H', ⟨by have := HK1.out; omega⟩, ⟨KR HO_3⟩, ⟨KL HB⟩⟩
    ·rw [if_neg c5] at H
     exact absurd H (by simp)
   ·rw [if_neg c4] at H
    have c4b0 : decide (x5_1 < (l0.length : Int)) = false := decide_eq_false c4
    clear c4
    by_cases c9 : x4_1 ≤ 4294967295
    ·rw [if_pos c9] at H
     have c9b0 : decide (x4_1 ≤ 4294967295) = true := decide_eq_true c9
     clear c9
     by_cases c10 : x3_1.length < 8796093022208
     ·rw [if_pos c10] at H
      have LMc10 := Aside0.mk c10
      clear c10
      obtain ⟨y111, hy111⟩ : ∃ y_ : List (S72), y_ = (x3_1 ++ [(⟨x4_1, 4294967295⟩ : S72)]) := ⟨_, rfl⟩
      replace H : (some y111) = some r := by first | (rw [hy111]; with_reducible exact H) | (have H2_ := (Option.bind_some _ _).symm.trans H; rw [hy111]; with_reducible exact H2_) | (have H2_ := (Option.bind_some _ _).symm.trans H; with_reducible exact H2_) | with_reducible exact H | (rw [hy111]; exact H) | exact H
      have Ny111 := Aside0.mk hy111
      clear hy111
      obtain rfl := Option.some.inj H
      go_wp2_with (first | ((with_reducible refine gate_builtin (b := .append) (xs := #[.tmp 39, .tmp 42]) rfl ?_); at_builtin; refine Kd.R_append k72 (w0 := w) w.heap.size rfl (.tmp 39) (.tmp 42) 73 72 (.agg #[(.int .i64 0), (.int .i64 0)]) 16 rfl Try.underlying73 info72 rfl (by decide) (by omega) u3 x3_1 (⟨x4_1, 4294967295⟩ : S72) [.int .i64 x4_1, .int .i64 4294967295] (fun _ => True) (fun _ => False) rfl rfl ?aP (fun _ hk => hk.elim) ?aF ?aO ?aB ?aS ?aL ?_; (case aP => exact k72_mkM _ _ _ (⟨x4_1, 4294967295⟩ : S72)); (case aB => exact (KL HB)); (case aF => exact (fun _ _ => trivial)); (case aO => exact (KR HO_3)); (case aS => exact (below_size (KL HB))); (case aL => have := LMc10.out; omega); intro v112 w11 ho hb hg hat; rw [← Ny111.out] at ho; replace HB := am (hb); have HO113 := am (ho); clear HO_3; clear ho hb hg hat))
      go_ret
      exact ⟨_, ER, by (with_reducible repeat (first | apply Kd.R_alloc | apply Kd.R_drewN | apply Kd.R_drew)); exact HO113.out, KL HB⟩
     ·rw [if_neg c10] at H
      exact absurd H (by simp)
    ·rw [if_neg c9] at H
     have c9b0 : decide (x4_1 ≤ 4294967295) = false := decide_eq_false c9
     clear c9
     obtain rfl := Option.some.inj H
     go_wp2
     go_ret
     exact ⟨_, ER, by (with_reducible repeat (first | apply Kd.R_alloc | apply Kd.R_drewN | apply Kd.R_drew)); exact HO_3.out, KL HB⟩
def spec_SetLess.j0 : Nat → List (S40) → List (S40) → Bool → Option ((List (S40)) × Bool)
 | 0, _, _, _ => none
 | k + 1, x0, x1, x13 => if x13 = true then (some ((([] : List (S40))), false)) else ((spec_l2Spans.f k x0).bind fun t106 => ((spec_l2Spans.f k x1).bind fun t109 => ((spec_l2Not.f k t109).bind fun t112 => ((spec_l2Both.f k t106 t112).bind fun t115 => ((spec_l2Cover.f k t115).bind fun t118 => ((spec_l2Room.f t118).bind fun bt121 => (some (bt121.1, bt121.2))))))))
def spec_SetLess.f (k : Nat) (l0 : List (S40)) (l1 : List (S40)) : Option ((List (S40)) × Bool) := (spec_SetOk.f k l0).bind fun t101 => (if t101 = true then ((spec_SetOk.f k l1).bind fun t102 => (spec_SetLess.j0 k l0 l1 (!t102))) else (spec_SetLess.j0 k l0 l1 true))
set_option maxHeartbeats 8000000 in
set_option maxRecDepth 100000 in
theorem spec_SetLess.calls (k : Nat) (A0 : Option Addr) (c0 : Nat) (l0 : List (S40)) (A1 : Option Addr) (c1 : Nat) (l1 : List (S40)) (r1 : List (S40)) (r2 : Bool) (w : World) (hr0 : Kd.C k40 w A0 l0.length l0) (hc0 : l0.length ≤ c0) (hr1 : Kd.C k40 w A1 l1.length l1) (hc1 : l1.length ≤ c1) (h : spec_SetLess.f k l0 l1 = some (r1, r2)) :
  Calls Try.prog 32 #[.slice A0 l0.length c0, .slice A1 l1.length c1] w fun e w' => ∃ v0_ : Value, e = .returned (.tuple #[v0_, .bool r2]) ∧ Kd.R k40 40 w' w.heap.size (fun _ => True) v0_ r1 ∧ Below w.heap.size w w' := by
 have HR0 := Aside0.mk hr0
 have HC0 := Aside0.mk hc0
 clear hr0 hc0
 have HR1 := Aside0.mk hr1
 have HC1 := Aside0.mk hc1
 clear hr1 hc1
 have HB := am (Below.refl w.heap.size w)
 have H : ((spec_SetOk.f k l0).bind fun t101 => (if t101 = true then ((spec_SetOk.f k l1).bind fun t102 => (spec_SetLess.j0 k l0 l1 (!t102))) else (spec_SetLess.j0 k l0 l1 true))) = some (r1, r2) := h
 clear h
 have HC3 := Aside0.mk H
 clear H
 go_enter Try.func32, Try.ntmps32
 go_upto_region 1 with (fail)
 go_cut [13] (fun v13 wc => ∃ (kq : Nat) (x13_2 : Bool), v13 = .bool x13_2 ∧ Aside0 (spec_SetLess.j0 kq l0 l1 x13_2 = some (r1, r2)) ∧ Aside0 (kq ≤ k) ∧ Aside0 (Below w.heap.size w wc))
 case first =>
  have H := HC3.out
  clear HC3
  replace H := Option.bind_eq_some_iff.mp H
  obtain ⟨t101, A40, H⟩ := H
  replace H : (if t101 = true then ((spec_SetOk.f k l1).bind fun t102 => (spec_SetLess.j0 k l0 l1 (!t102))) else (spec_SetLess.j0 k l0 l1 true)) = some (r1, r2) := H
  have A4 := Aside0.mk A40
  clear A40
  by_cases c5 : t101 = true
  ·subst c5
   have H1 : ((spec_SetOk.f k l1).bind fun t102 => (spec_SetLess.j0 k l0 l1 (!t102))) = some (r1, r2) := by rw [if_pos rfl] at H; exact H
   clear H
   have H := H1
   clear H1
   replace H := Option.bind_eq_some_iff.mp H
   obtain ⟨t102, A60, H⟩ := H
   replace H : (spec_SetLess.j0 k l0 l1 (!t102)) = some (r1, r2) := H
   have A6 := Aside0.mk A60
   clear A60
   have H' := Aside0.mk H
   clear H
   go_wp2_with (first | ((with_reducible refine gate_callee (f := 28) rfl ?_); refine goesL_ (some 7) rfl rfl Try.func28 (by kernel_rfl) rfl #[.slice A0 l0.length c0] rfl MT ?_; (with_reducible refine (spec_SetOk.calls k _ _ l0 true _ ?side1 ?side2 A4.out).mono ?_); (case side1 => exact KD HR0 HB); (case side2 => exact HC0.out); rintro e w7 ⟨rfl, hb⟩; refine ⟨_, rfl, ?_⟩; replace HB := am (below_step (KL HB) hb); (try clear hb)) | (go_at_call 28; (with_reducible refine (spec_SetOk.calls k _ _ l1 t102 _ ?side1 ?side2 A6.out).mono ?_); (case side1 => exact KD HR1 HB); (case side2 => exact HC1.out); rintro e w8 ⟨rfl, hb⟩; replace HB := am (below_step (KL HB) hb); (try clear hb)))
   go_meet
   case rel => exact ⟨_, (!t102), (by first | rfl | (simp; done) | (simp [*]; done)), H', ⟨by first | omega | exact Nat.le_refl _⟩, ⟨KL HB⟩⟩
  ·replace c5 := Bool.eq_false_iff.mpr c5
   subst c5
   have H1 : (spec_SetLess.j0 k l0 l1 true) = some (r1, r2) := by rw [if_neg (show ¬ (false = true) by decide)] at H; exact H
   clear H
   have H := H1
   clear H1
   have H' := Aside0.mk H
   clear H
   go_wp2_with (first | ((with_reducible refine gate_callee (f := 28) rfl ?_); refine goesL_ (some 7) rfl rfl Try.func28 (by kernel_rfl) rfl #[.slice A0 l0.length c0] rfl MT ?_; (with_reducible refine (spec_SetOk.calls k _ _ l0 false _ ?side1 ?side2 A4.out).mono ?_); (case side1 => exact KD HR0 HB); (case side2 => exact HC0.out); rintro e w9 ⟨rfl, hb⟩; refine ⟨_, rfl, ?_⟩; replace HB := am (below_step (KL HB) hb); (try clear hb)))
   go_meet
   case rel => exact ⟨_, (true), (by first | rfl | (simp; done) | (simp [*]; done)), H', ⟨by first | omega | exact Nat.le_refl _⟩, ⟨KL HB⟩⟩
 case rest =>
  clear HC3
  try clear c1
  try clear c2
  try clear p2
  try clear c3
  try clear c5
  obtain ⟨kq, x13_2, rfl, HA, HJ2, HB⟩ := hcut
  cases kq with
  | zero => exact absurd HA.out (by simp [spec_SetLess.j0])
  | succ kj2 =>
   have H := HA.out
   clear HA
   simp only [spec_SetLess.j0] at H
   by_cases c10 : x13_2 = true
   ·subst c10
    have H1 : (some ((([] : List (S40))), false)) = some (r1, r2) := by rw [if_pos rfl] at H; exact H
    clear H
    have H := H1
    clear H1
    obtain ⟨y103, hy103⟩ : ∃ y_ : List (S40), y_ = (([] : List (S40))) := ⟨_, rfl⟩
    replace H : (some (y103, false)) = some (r1, r2) := by first | (rw [hy103]; with_reducible exact H) | (have H2_ := (Option.bind_some _ _).symm.trans H; rw [hy103]; with_reducible exact H2_) | (have H2_ := (Option.bind_some _ _).symm.trans H; with_reducible exact H2_) | with_reducible exact H | (rw [hy103]; exact H) | exact H
    have Ny103 := Aside0.mk hy103
    clear hy103
    simp only [Option.some.injEq, Prod.mk.injEq] at H
    obtain ⟨rfl, rfl⟩ := H
    go_wp2_with (first | ((with_reducible refine gate_dst (N := 14) rfl ?_); refine Kd.R_lit k40 _ 40 ?hg (N := 14) ?hd (xs := ([] : List (S40))) (inner := []) (ok := fun _ => True) (okp := fun _ => True) ?hr ?hp (fun _ hk => hk) trivial (Below.refl _ _) (Nat.le_refl _) (by simp) ?_; (case hd => rfl); (case hg => rfl); (case hr => first | (go_simp; done) | (go_simp; rfl)); (case hp => exact (Reps.none _ _)); intro v104 w11 ho12 hb hg_ hnew_; clear hg_ hnew_; (first | rw [← Ny103.out] at ho12 | (simp only [Int.reduceToNat] at ho12; rw [← Ny103.out] at ho12)); have HO105 := am (Kd.R_lower ho12 (below_size (KL HB))); replace HB := am (below_step (KL HB) hb); clear hb ho12))
    go_ret2
    exact ⟨_, ER, by (with_reducible repeat (first | apply Kd.R_alloc | apply Kd.R_drewN | apply Kd.R_drew)); exact HO105.out, KL HB⟩
   ·replace c10 := Bool.eq_false_iff.mpr c10
    subst c10
    have H1 : ((spec_l2Spans.f kj2 l0).bind fun t106 => ((spec_l2Spans.f kj2 l1).bind fun t109 => ((spec_l2Not.f kj2 t109).bind fun t112 => ((spec_l2Both.f kj2 t106 t112).bind fun t115 => ((spec_l2Cover.f kj2 t115).bind fun t118 => ((spec_l2Room.f t118).bind fun bt121 => (some (bt121.1, bt121.2)))))))) = some (r1, r2) := by rw [if_neg (show ¬ (false = true) by decide)] at H; exact H
    clear H
    have H := H1
    clear H1
    replace H := Option.bind_eq_some_iff.mp H
    obtain ⟨t106, A130, H⟩ := H
    replace H : ((spec_l2Spans.f kj2 l1).bind fun t109 => ((spec_l2Not.f kj2 t109).bind fun t112 => ((spec_l2Both.f kj2 t106 t112).bind fun t115 => ((spec_l2Cover.f kj2 t115).bind fun t118 => ((spec_l2Room.f t118).bind fun bt121 => (some (bt121.1, bt121.2))))))) = some (r1, r2) := H
    have A13 := Aside0.mk A130
    clear A130
    replace H := Option.bind_eq_some_iff.mp H
    obtain ⟨t109, A140, H⟩ := H
    replace H : ((spec_l2Not.f kj2 t109).bind fun t112 => ((spec_l2Both.f kj2 t106 t112).bind fun t115 => ((spec_l2Cover.f kj2 t115).bind fun t118 => ((spec_l2Room.f t118).bind fun bt121 => (some (bt121.1, bt121.2)))))) = some (r1, r2) := H
    have A14 := Aside0.mk A140
    clear A140
    replace H := Option.bind_eq_some_iff.mp H
    obtain ⟨t112, A150, H⟩ := H
    replace H : ((spec_l2Both.f kj2 t106 t112).bind fun t115 => ((spec_l2Cover.f kj2 t115).bind fun t118 => ((spec_l2Room.f t118).bind fun bt121 => (some (bt121.1, bt121.2))))) = some (r1, r2) := H
    have A15 := Aside0.mk A150
    clear A150
    replace H := Option.bind_eq_some_iff.mp H
    obtain ⟨t115, A160, H⟩ := H
    replace H : ((spec_l2Cover.f kj2 t115).bind fun t118 => ((spec_l2Room.f t118).bind fun bt121 => (some (bt121.1, bt121.2)))) = some (r1, r2) := H
    have A16 := Aside0.mk A160
    clear A160
    replace H := Option.bind_eq_some_iff.mp H
    obtain ⟨t118, A170, H⟩ := H
    replace H : ((spec_l2Room.f t118).bind fun bt121 => (some (bt121.1, bt121.2))) = some (r1, r2) := H
    have A17 := Aside0.mk A170
    clear A170
    replace H := Option.bind_eq_some_iff.mp H
    obtain ⟨⟨t121, t124⟩, A180, H⟩ := H
    replace H : (some (t121, t124)) = some (r1, r2) := H
    have A18 := Aside0.mk A180
    clear A180
    simp only [Option.some.injEq, Prod.mk.injEq] at H
    obtain ⟨rfl, rfl⟩ := H
    go_wp2_with (first | ((with_reducible refine gate_callee (f := 67) rfl ?_); refine goesL_ (some 16) rfl rfl Try.func67 (by kernel_rfl) rfl #[.slice A0 l0.length c0] rfl MT ?_; (with_reducible refine (spec_l2Spans.calls kj2 _ _ l0 t106 _ ?side1 ?side2 A13.out).mono ?_); (case side1 => exact KD HR0 HB); (case side2 => exact HC0.out); rintro e w19 ⟨v107, rfl, ho0, hb⟩; refine ⟨_, rfl, ?_⟩; have HO108 := am (Kd.R_lower ho0 (below_size (KL HB))); replace HB := am (below_step (KL HB) hb); (try clear hb); (try clear ho0)) | ((with_reducible refine gate_callee (f := 67) rfl ?_); refine goesL_ (some 18) rfl rfl Try.func67 (by kernel_rfl) rfl #[.slice A1 l1.length c1] rfl MT ?_; (with_reducible refine (spec_l2Spans.calls kj2 _ _ l1 t109 _ ?side1 ?side2 A14.out).mono ?_); (case side1 => exact KD HR1 HB); (case side2 => exact HC1.out); rintro e w20 ⟨v110, rfl, ho0, hb⟩; refine ⟨_, rfl, ?_⟩; have HO111 := am (Kd.R_lower (Kd.R_new' ho0 (Kd.R_lt (KR HO108))) (below_size (KL HB))); replace HO108 := am (Kd.R_elder' (KR HO108) (Kd.R_base ho0) hb); replace HB := am (below_step (KL HB) hb); (try clear hb); (try clear ho0); obtain ⟨Ao21, co21, eo21⟩ := Kd.R_slice HO111.out; subst eo21) | ((with_reducible refine gate_callee (f := 78) rfl ?_); refine goesL_ (some 19) rfl rfl Try.func78 (by kernel_rfl) rfl #[.slice Ao21 t109.length co21] rfl MT ?_; (with_reducible refine (spec_l2Not.calls kj2 _ _ t109 t112 _ ?side1 ?side2 A15.out).mono ?_); (case side1 => exact KC (Kd.R_reads' HO111.out).2.2); (case side2 => exact (Kd.R_reads' HO111.out).2.1); rintro e w22 ⟨v113, rfl, ho0, hb⟩; refine ⟨_, rfl, ?_⟩; have HO114 := am (Kd.R_lower (Kd.R_new' (Kd.R_new' ho0 (Kd.R_lt (KR HO108))) (Kd.R_lt (KR HO111))) (below_size (KL HB))); replace HO108 := am (Kd.R_elder' (KR HO108) (Kd.R_base ho0) hb); replace HO111 := am (Kd.R_elder' (KR HO111) (Kd.R_base ho0) hb); replace HB := am (below_step (KL HB) hb); (try clear hb); (try clear ho0); obtain ⟨Ao23, co23, eo23⟩ := Kd.R_slice HO108.out; subst eo23; obtain ⟨Ao24, co24, eo24⟩ := Kd.R_slice HO114.out; subst eo24) | ((with_reducible refine gate_callee (f := 77) rfl ?_); refine goesL_ (some 20) rfl rfl Try.func77 (by kernel_rfl) rfl #[.slice Ao23 t106.length co23, .slice Ao24 t112.length co24] rfl MT ?_; (with_reducible refine (spec_l2Both.calls kj2 _ _ t106 _ _ t112 t115 _ ?side1 ?side2 ?side3 ?side4 A16.out).mono ?_); (case side1 => exact KC (Kd.R_reads' HO108.out).2.2); (case side2 => exact (Kd.R_reads' HO108.out).2.1); (case side3 => exact KC (Kd.R_reads' HO114.out).2.2); (case side4 => exact (Kd.R_reads' HO114.out).2.1); rintro e w25 ⟨v116, rfl, ho0, hb⟩; refine ⟨_, rfl, ?_⟩; have HO117 := am (Kd.R_lower (Kd.R_new' (Kd.R_new' (Kd.R_new' ho0 (Kd.R_lt (KR HO108))) (Kd.R_lt (KR HO111))) (Kd.R_lt (KR HO114))) (below_size (KL HB))); replace HO108 := am (Kd.R_elder' (KR HO108) (Kd.R_base ho0) hb); replace HO111 := am (Kd.R_elder' (KR HO111) (Kd.R_base ho0) hb); replace HO114 := am (Kd.R_elder' (KR HO114) (Kd.R_base ho0) hb); replace HB := am (below_step (KL HB) hb); (try clear hb); (try clear ho0); obtain ⟨Ao26, co26, eo26⟩ := Kd.R_slice HO117.out; subst eo26) | ((with_reducible refine gate_callee (f := 49) rfl ?_); refine goesL_ (some 21) rfl rfl Try.func49 (by kernel_rfl) rfl #[.slice Ao26 t115.length co26] rfl MT ?_; (with_reducible refine (spec_l2Cover.calls kj2 _ _ t115 t118 _ ?side1 ?side2 A17.out).mono ?_); (case side1 => exact KC (Kd.R_reads' HO117.out).2.2); (case side2 => exact (Kd.R_reads' HO117.out).2.1); rintro e w27 ⟨v119, rfl, ho0, hb⟩; refine ⟨_, rfl, ?_⟩; replace HO108 := am (Kd.R_below (KR HO108) hb); replace HO111 := am (Kd.R_below (KR HO111) hb); replace HO114 := am (Kd.R_below (KR HO114) hb); replace HO117 := am (Kd.R_below (KR HO117) hb); have HO120 := am (Kd.R_lower ho0 (below_size (KL HB))); replace HB := am (below_step (KL HB) hb); (try clear hb); (try clear ho0); obtain ⟨Ao28, co28, eo28⟩ := Kd.R_slice HO120.out; subst eo28) | ((with_reducible refine gate_callee (f := 66) rfl ?_); refine goesL_ (some 22) rfl rfl Try.func66 (by kernel_rfl) rfl #[.slice Ao28 t118.length co28] rfl MT ?_; (with_reducible refine (spec_l2Room.calls (fun k_ => some k_ = (.slice Ao28 t118.length co28 : Value).ownBlock) (.slice Ao28 t118.length co28) t118 t121 t124 w _ ?side1 ?side2 A18.out).mono ?_); (case side1 => exact KL HB); (case side2 => exact Kd.R_tight rfl HO120.out); rintro e w29 ⟨v122, rfl, ho0, hb, hkp⟩; refine ⟨_, rfl, ?_⟩; replace HO108 := am (Kd.R_mono (ok' := fun k_ => some k_ ≠ (.slice Ao21 t109.length co21 : Value).ownBlock ∧ some k_ ≠ (.slice Ao24 t112.length co24 : Value).ownBlock ∧ some k_ ≠ (.slice Ao26 t115.length co26 : Value).ownBlock) (Kd.R_keptB ((Kd.R_apart' HO108.out (Kd.R_typed HO120.out) (by decide))) hkp (fun k_ hk_ hs_ => (hk_.2) hs_)) (fun k_ hk_ => ⟨hk_.1.1.1.1.2, hk_.1.1.1.2, hk_.1.1.2⟩)); replace HO111 := am (Kd.R_mono (ok' := fun k_ => some k_ ≠ (.slice Ao23 t106.length co23 : Value).ownBlock ∧ some k_ ≠ (.slice Ao24 t112.length co24 : Value).ownBlock ∧ some k_ ≠ (.slice Ao26 t115.length co26 : Value).ownBlock) (Kd.R_keptB ((Kd.R_apart' HO111.out (Kd.R_typed HO120.out) (by decide))) hkp (fun k_ hk_ hs_ => (hk_.2) hs_)) (fun k_ hk_ => ⟨hk_.1.1.1.1.2, hk_.1.1.1.2, hk_.1.1.2⟩)); replace HO114 := am (Kd.R_mono (ok' := fun k_ => some k_ ≠ (.slice Ao23 t106.length co23 : Value).ownBlock ∧ some k_ ≠ (.slice Ao21 t109.length co21 : Value).ownBlock ∧ some k_ ≠ (.slice Ao26 t115.length co26 : Value).ownBlock) (Kd.R_keptB ((Kd.R_apart' HO114.out (Kd.R_typed HO120.out) (by decide))) hkp (fun k_ hk_ hs_ => (hk_.2) hs_)) (fun k_ hk_ => ⟨hk_.1.1.1.1.2, hk_.1.1.1.2, hk_.1.1.2⟩)); replace HO117 := am (Kd.R_mono (ok' := fun k_ => some k_ ≠ (.slice Ao23 t106.length co23 : Value).ownBlock ∧ some k_ ≠ (.slice Ao21 t109.length co21 : Value).ownBlock ∧ some k_ ≠ (.slice Ao24 t112.length co24 : Value).ownBlock) (Kd.R_keptB ((Kd.R_apart' HO117.out (Kd.R_typed HO120.out) (by decide))) hkp (fun k_ hk_ hs_ => (hk_.2) hs_)) (fun k_ hk_ => ⟨hk_.1.1.1.1.2, hk_.1.1.1.2, hk_.1.1.2⟩)); have HO123 := am (Kd.R_mono (ok' := fun k_ => True) ho0 (fun k_ hk_ => trivial)); replace HB := am (hb); clear HO120; (try clear hb); (try clear hkp); (try clear ho0)))
    go_ret2
    exact ⟨_, ER, by (with_reducible repeat (first | apply Kd.R_alloc | apply Kd.R_drewN | apply Kd.R_drew)); exact HO123.out, KL HB⟩
end Go.Proofs.Ytmanlcakdcoekaa.PAll
end
