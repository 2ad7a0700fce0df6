/- Contracts of the functions that the statement reaches, printed by a program out of the translation and joined with the plain laws. -/
import Derived.Test.YtioghacieopbdaaCFnWaysGone3
import Derived.Test.YtioghacieopbdaaCFnWaysGone4
import Derived.Test.YtioghacieopbdaaCFnWaysGone5
import Derived.Test.YtioghacieopbdaaCFnWaysGone6
section
namespace Go.Proofs.Ytioghacieopbdaa.PAll
open Go.RowKit Go.Proofs.YtioghacieopbdaaW.PrintWords Go.Proofs.YtioghacieopbdaaW.PrintLast Go.Proofs.YtioghacieopbdaaW.PrintMore
attribute [local go_sem] max2_int min2_int max_two min_two max_three min_three max_four min_four   -- for this text's walks alone
set_option linter.unusedVariables false
set_option linter.unusedSimpArgs false
def impl_Block_find_cl1.l0 : Nat → List (S86) → Int → Int → Int → Int → Int → Option (Int × Bool)
 | 0, _, _, _, _, _, _ => none
 | k + 1, x0, x8, x9, x10, x102000, x102001 => if x9 < x10 then (if 0 ≤ (wrap64 ((IntKind.u64.wrap (wrap64 (x9 + x10))) / 2)) then (if (wrap64 ((IntKind.u64.wrap (wrap64 (x9 + x10))) / 2)) < (x0.length : Int) then ((impl_find_cl1.f k ((rd_T86 x0 (wrap64 ((IntKind.u64.wrap (wrap64 (x9 + x10))) / 2))).f0.f0) ((rd_T86 x0 (wrap64 ((IntKind.u64.wrap (wrap64 (x9 + x10))) / 2))).f0.f1) ((rd_T86 x0 (wrap64 ((IntKind.u64.wrap (wrap64 (x9 + x10))) / 2))).f1) x102000 x102001).bind fun t103 => (if t103 < 0 then (impl_Block_find_cl1.l0 k x0 x8 (wrap64 ((wrap64 ((IntKind.u64.wrap (wrap64 (x9 + x10))) / 2)) + 1)) x10 x102000 x102001) else (impl_Block_find_cl1.l0 k x0 x8 x9 (wrap64 ((IntKind.u64.wrap (wrap64 (x9 + x10))) / 2)) x102000 x102001))) else (none)) else (none)) else (if x9 < x8 then (if 0 ≤ x9 then (if x9 < (x0.length : Int) then ((impl_find_cl1.f k ((rd_T86 x0 x9).f0.f0) ((rd_T86 x0 x9).f0.f1) ((rd_T86 x0 x9).f1) x102000 x102001).bind fun t105 => (some (x9, (t105 == 0)))) else (none)) else (none)) else (some (x9, false)))
def impl_Block_find_cl1.f (k : Nat) (l0 : List (S86)) (a1_0 : Int) (a1_1 : Int)  : Option (Int × Bool) := impl_Block_find_cl1.l0 k l0 (l0.length : Int) 0 (l0.length : Int) a1_0 a1_1
def impl_Block_find_cl1.T5 : Bool × List (List Nat × List Nat) := (true, [([], []), ([], []), ([], []), ([1, 2], [1, 2]), ([3], [3]), ([], []), ([0, 4, 5], [0, 4, 5]), ([6], [6])])
def impl_Block_find_cl1.B5 : List Nat := [0, 0, 0, 6, 14, 0, 63, 127]
theorem impl_Block_find_cl1.tab5 : rtab .any (opsOf Try.f142 5) = impl_Block_find_cl1.T5 := by kernel_rfl
theorem impl_Block_find_cl1.bits5 : waitsOk impl_Block_find_cl1.T5.2 impl_Block_find_cl1.B5 = true := by kernel_rfl
def impl_Block_find_cl1.T8 : Bool × List (List Nat × List Nat) := (true, [([], []), ([], []), ([], []), ([1, 2], [1, 2]), ([3], [3]), ([4], [4]), ([4], [4]), ([4], [4]), ([6, 7, 4], [4, 6, 7]), ([8, 4], [4, 8]), ([4], [4]), ([5, 9, 10, 4, 4], [4, 5, 9, 10]), ([11, 4], [4, 11]), ([4, 12], [4, 12]), ([0, 11, 0], [0]), ([13, 14, 0, 1, 2, 3, 4, 5, 6, 7, 8, 9, 10, 11, 12, 13, 14], [13])])
def impl_Block_find_cl1.B8 : List Nat := [0, 0, 0, 6, 14, 30, 30, 30, 222, 478, 30, 2046, 4094, 8190, 4095, 32767]
theorem impl_Block_find_cl1.tab8 : rtab .any (opsOf Try.f142 8) = impl_Block_find_cl1.T8 := by kernel_rfl
theorem impl_Block_find_cl1.bits8 : waitsOk impl_Block_find_cl1.T8.2 impl_Block_find_cl1.B8 = true := by kernel_rfl
set_option maxHeartbeats 8000000 in
set_option maxRecDepth 100000 in
theorem impl_Block_find_cl1.calls (k : Nat) (A0 : Option Addr) (c0 : Nat) (l0 : List (S86)) (a1_0 : Int) (a1_1 : Int)  (r1 : Int) (r2 : Bool) (w : World) (hr0 : Kd.C k86 w A0 l0.length l0) (hc0 : l0.length ≤ c0) (h : impl_Block_find_cl1.f k l0 a1_0 a1_1 = some (r1, r2)) :
  Calls Try.prog 142 #[.slice A0 l0.length c0, .agg #[.int .i64 a1_0, .int .i64 a1_1], .func (.func 143) #[] #[]] w fun e w' => e = .returned (.tuple #[.int .i64 r1, .bool r2]) ∧ Below w.heap.size w w' := by
 have hu32 := Try.underlying32
 have hu86 := Try.underlying86
 have HR0 := Aside0.mk hr0
 have HC0 := Aside0.mk hc0
 clear hr0 hc0
 have HB := am (Below.refl w.heap.size w)
 have H : (impl_Block_find_cl1.l0 k l0 (l0.length : Int) 0 (l0.length : Int) a1_0 a1_1) = some (r1, r2) := h
 clear h
 have H' := Aside0.mk H
 clear H
 go_enter Try.func142, Try.ntmps142
 go_wp2_with (first | ((with_reducible refine gate_dst (N := 4) rfl ?_); refine box_event rfl (N := 4) rfl (cs := #[.int .i64 a1_0, .int .i64 a1_1]) (t := 32) BX ?_; intro gb101 hg w4 hbox hb; have BK101 := am (hbox); have GW101 := am ((GL hg (below_size (KL HB)) : w.heap.size ≤ gb101)); have GE101 := GW101; replace HB := am (below_step (KL HB) hb); clear hb hbox hg))
 go_loopg [9, 10] k (fun kq v9 v10 w' => ∃ (x9_1 : Int) (x10_1 : Int), v9 = .int .i64 x9_1 ∧ v10 = .int .i64 x10_1 ∧ Aside0 (impl_Block_find_cl1.l0 kq l0 (l0.length : Int) x9_1 x10_1 a1_0 a1_1 = some (r1, r2)) ∧ Aside0 (kq ≤ k) ∧ Aside0 (w'.heap[gb101]? = some (.cells #[.int .i64 a1_0, .int .i64 a1_1] 32 (0, 0))) ∧ Aside0 (Below w.heap.size w w'))
 case atStart => exact ⟨(0), ((l0.length : Int)), (by first | rfl | (simp; done) | (simp [*]; done)), (by first | rfl | (simp; done) | (simp [*]; done)), H', ⟨Nat.le_refl _⟩, ⟨KB BK101⟩, ⟨K1 HB GE101.out⟩⟩
 case round =>
  clear H'
  try clear p2
  obtain ⟨x9_1, x10_1, rfl, rfl, HA, HK1, BK101, HB⟩ := hrel
  cases gk with
  | zero => exact absurd HA.out (by simp [impl_Block_find_cl1.l0])
  | succ k1 =>
   have H := HA.out
   clear HA
   simp only [impl_Block_find_cl1.l0] at H
   by_cases c5 : x9_1 < x10_1
   ·rw [if_pos c5] at H
    have c5b0 : decide (x9_1 < x10_1) = true := decide_eq_true c5
    clear c5
    obtain ⟨ji6, hji6⟩ : ∃ j_ : Int, (wrap64 ((IntKind.u64.wrap (wrap64 (x9_1 + x10_1))) / 2)) = j_ := ⟨_, rfl⟩
    replace H : (if 0 ≤ (ji6) then (if (ji6) < (l0.length : Int) then ((impl_find_cl1.f k1 ((rd_T86 l0 (ji6)).f0.f0) ((rd_T86 l0 (ji6)).f0.f1) ((rd_T86 l0 (ji6)).f1) a1_0 a1_1).bind fun t103 => (if t103 < 0 then (impl_Block_find_cl1.l0 k1 l0 (l0.length : Int) (wrap64 ((ji6) + 1)) x10_1 a1_0 a1_1) else (impl_Block_find_cl1.l0 k1 l0 (l0.length : Int) x9_1 ji6 a1_0 a1_1))) else (none)) else (none)) = some (r1, r2) := by first | (rw [hji6] at H; exact H) | (simp only [hji6] at H ⊢; exact H)
    have hji6w : (IntKind.i64.wrap ((IntKind.u64.wrap (wrap64 (x9_1 + x10_1))) / 2)) = ji6 := (i64_w _).trans hji6
    by_cases c7 : 0 ≤ (ji6)
    ·rw [if_pos c7] at H
     have c7b0 : decide (0 ≤ (ji6)) = true := decide_eq_true c7
     clear c7
     by_cases c8 : (ji6) < (l0.length : Int)
     ·rw [if_pos c8] at H
      have c8b0 : decide ((ji6) < (l0.length : Int)) = true := decide_eq_true c8
      clear c8
      replace H := Option.bind_eq_some_iff.mp H
      obtain ⟨t103, A90, H⟩ := H
      replace H : (if t103 < 0 then (impl_Block_find_cl1.l0 k1 l0 (l0.length : Int) (wrap64 ((ji6) + 1)) x10_1 a1_0 a1_1) else (impl_Block_find_cl1.l0 k1 l0 (l0.length : Int) x9_1 ji6 a1_0 a1_1)) = some (r1, r2) := H
      have A9 := Aside0.mk A90
      clear A90
      by_cases c10 : t103 < 0
      ·rw [if_pos c10] at H
       have c10b0 : decide (t103 < 0) = true := decide_eq_true c10
       clear c10
       have H' := Aside0.mk H
       clear H
       try go_wp2
       replace BK101 := am (blk_drew BK101.out)
       replace HB := am (below_drew1 HB.out)
       have p102 : 0 ≤ ((ji6) : Int) := of_decide_eq_true (by first | (with_reducible assumption) | assumption)
       have q102 : (ji6) < (l0.length : Int) := of_decide_eq_true (by first | (with_reducible assumption) | assumption)
       obtain ⟨ad102, e102, hx102_0, hx102_1, hx102_2⟩ := at_T86 HR0.out (ji6) p102 q102
       have hw102_2 := hx102_2
       have hw102_1 := hx102_1
       have hw102_0 := hx102_0
       cases e102
       replace hx102_0 := (HB.out.cell (World.block_lt_of_cell? w _ hx102_0)).trans hx102_0
       replace hx102_1 := (HB.out.cell (World.block_lt_of_cell? w _ hx102_1)).trans hx102_1
       replace hx102_2 := (HB.out.cell (World.block_lt_of_cell? w _ hx102_2)).trans hx102_2
       replace p102 := eq_true p102
       replace q102 := eq_true q102
       refine start_ (n := 8) (S := fun w' => w'.cell? ⟨gb101, 0, none⟩ = some (.int .i64 a1_0) ∧ w'.cell? ⟨gb101, 1, none⟩ = some (.int .i64 a1_1) ∧ w'.cell? (ad102.add (((ji6)).toNat * 3)) = some (.int .i64 ((rd_T86 l0 (ji6)).f0.f0)) ∧ w'.cell? ⟨(ad102.add (((ji6)).toNat * 3)).block, (ad102.add (((ji6)).toNat * 3)).off + 1, none⟩ = some (.int .i64 ((rd_T86 l0 (ji6)).f0.f1)) ∧ w'.cell? ⟨(ad102.add (((ji6)).toNat * 3)).block, (ad102.add (((ji6)).toNat * 3)).off + 2, none⟩ = some (.int .i64 ((rd_T86 l0 (ji6)).f1))) (ds := []) (tf 0 8) (by kernel_rfl) rfl rfl ⟨z0 _ BK101.out, z1 _ BK101.out, ((HB.out.cell (World.block_lt_of_cell? w _ hw102_0)).trans hw102_0), ((HB.out.cell (World.block_lt_of_cell? w _ hw102_1)).trans hw102_1), ((HB.out.cell (World.block_lt_of_cell? w _ hw102_2)).trans hw102_2)⟩ (fun hHeld => ?_); refine with_tabW impl_Block_find_cl1.tab5 impl_Block_find_cl1.bits5 (fun HT_ HW_ => ?_)
       generalize wr.drew = w11 at BK101 HB hx102_0 hx102_1 hx102_2 hHeld ⊢
       refine pu 0 (some 24) (tf 1 7) (any_of HT_.out (by kernel_rfl)) ?_
       refine pu 1 (some 25) (tf 2 6) (any_of HT_.out (by kernel_rfl)) ?_
       refine pu 2 (some 26) (tf 3 5) (any_of HT_.out (by kernel_rfl)) ?_
       refine pu 3 (some 27) (tf 4 4) (any_of HT_.out (by kernel_rfl)) ?_
       refine tk 4 (some 28) (tf 5 3) (take_ofW HT_.out HW_.out (by kernel_rfl)) hHeld ?_
       refine tk 5 (some 29) (tf 6 2) (take_ofW HT_.out HW_.out (by kernel_rfl)) hHeld ?_
       refine one_ (i := 6) (N := some 30) (tf 7 1) rfl rfl (one_of HT_.out (by kernel_rfl)) (by decide) (fun K hK => ?_)
       refine goesW_ Try.func143 (by kernel_rfl) rfl #[.agg #[.int .i64 ((rd_T86 l0 (ji6)).f0.f0), .int .i64 ((rd_T86 l0 (ji6)).f0.f1), .int .i64 ((rd_T86 l0 (ji6)).f1)], .agg #[.int .i64 a1_0, .int .i64 a1_1]] (by rfl) rfl rfl (by first | rfl | (simp [Act.eval, Act.put]; done)) (by (try simp only [List.map_toArray, List.map_cons, List.map_nil]); first | done | (simp only [hji6]; rfl) | rfl | (simp only [List.length_drop, List.length_take]; rfl)) ?_
       with_reducible refine (impl_find_cl1.calls k1 ((rd_T86 l0 (ji6)).f0.f0) ((rd_T86 l0 (ji6)).f0.f1) ((rd_T86 l0 (ji6)).f1) a1_0 a1_1 t103 _ A9.out).mono ?_
       rintro e w12 ⟨rfl, hb⟩
       refine ⟨_, rfl, ?_⟩
       replace BK101 := am (BB BK101 hb)
       replace HB := am (below_step (K1 HB GE101.out) hb)
       (try clear hb)
       (try clear hb2)
       (try clear hk)
       (try clear hi)
       refine hK.out _ _ ⟨z0 _ BK101.out, z1 _ BK101.out, ((HB.out.cell (World.block_lt_of_cell? w _ hw102_0)).trans hw102_0), ((HB.out.cell (World.block_lt_of_cell? w _ hw102_1)).trans hw102_1), ((HB.out.cell (World.block_lt_of_cell? w _ hw102_2)).trans hw102_2)⟩ (fun hHeld => ?_)
       clear hK K
       refine norm_ (a' := ?_) ?_ ?_
       rotate_left
       ·show Act.put _ (some 30) _ = _
        simp only [Act.put, List.setIfInBounds_toArray, List.set_cons_zero, List.set_cons_succ, i64_w, i32_w]
        rfl
       refine pu 7 (some 31) (tf 8 0) (any_of HT_.out (by kernel_rfl)) ?_
       refine done_ (done_of HT_.out (by kernel_rfl)) ?_
       try go_wp2
       go_roundg k1
       case measure => have := HK1.out; omega
       case rel => exact ⟨(wrap64 ((ji6) + 1)), (x10_1), (by first | rfl | (simp; done) | (simp only [← hji6] <;> (first | rfl | simp)) | (simp [*]; done)), (by first | rfl | (simp; done) | (simp [*]; done)), H', ⟨by have := HK1.out; omega⟩, ⟨KB BK101⟩, ⟨K1 HB GE101.out⟩⟩
      ·rw [if_neg c10] at H
       have c10b0 : decide (t103 < 0) = false := decide_eq_false c10
       clear c10
       have H' := Aside0.mk H
       clear H
       try go_wp2
       replace BK101 := am (blk_drew BK101.out)
       replace HB := am (below_drew1 HB.out)
       have p102 : 0 ≤ ((ji6) : Int) := of_decide_eq_true (by first | (with_reducible assumption) | assumption)
       have q102 : (ji6) < (l0.length : Int) := of_decide_eq_true (by first | (with_reducible assumption) | assumption)
       obtain ⟨ad102, e102, hx102_0, hx102_1, hx102_2⟩ := at_T86 HR0.out (ji6) p102 q102
       have hw102_2 := hx102_2
       have hw102_1 := hx102_1
       have hw102_0 := hx102_0
       cases e102
       replace hx102_0 := (HB.out.cell (World.block_lt_of_cell? w _ hx102_0)).trans hx102_0
       replace hx102_1 := (HB.out.cell (World.block_lt_of_cell? w _ hx102_1)).trans hx102_1
       replace hx102_2 := (HB.out.cell (World.block_lt_of_cell? w _ hx102_2)).trans hx102_2
       replace p102 := eq_true p102
       replace q102 := eq_true q102
       refine start_ (n := 8) (S := fun w' => w'.cell? ⟨gb101, 0, none⟩ = some (.int .i64 a1_0) ∧ w'.cell? ⟨gb101, 1, none⟩ = some (.int .i64 a1_1) ∧ w'.cell? (ad102.add (((ji6)).toNat * 3)) = some (.int .i64 ((rd_T86 l0 (ji6)).f0.f0)) ∧ w'.cell? ⟨(ad102.add (((ji6)).toNat * 3)).block, (ad102.add (((ji6)).toNat * 3)).off + 1, none⟩ = some (.int .i64 ((rd_T86 l0 (ji6)).f0.f1)) ∧ w'.cell? ⟨(ad102.add (((ji6)).toNat * 3)).block, (ad102.add (((ji6)).toNat * 3)).off + 2, none⟩ = some (.int .i64 ((rd_T86 l0 (ji6)).f1))) (ds := []) (tf 0 8) (by kernel_rfl) rfl rfl ⟨z0 _ BK101.out, z1 _ BK101.out, ((HB.out.cell (World.block_lt_of_cell? w _ hw102_0)).trans hw102_0), ((HB.out.cell (World.block_lt_of_cell? w _ hw102_1)).trans hw102_1), ((HB.out.cell (World.block_lt_of_cell? w _ hw102_2)).trans hw102_2)⟩ (fun hHeld => ?_); refine with_tabW impl_Block_find_cl1.tab5 impl_Block_find_cl1.bits5 (fun HT_ HW_ => ?_)
       generalize wr.drew = w13 at BK101 HB hx102_0 hx102_1 hx102_2 hHeld ⊢
       refine pu 0 (some 24) (tf 1 7) (any_of HT_.out (by kernel_rfl)) ?_
       refine pu 1 (some 25) (tf 2 6) (any_of HT_.out (by kernel_rfl)) ?_
       refine pu 2 (some 26) (tf 3 5) (any_of HT_.out (by kernel_rfl)) ?_
       refine pu 3 (some 27) (tf 4 4) (any_of HT_.out (by kernel_rfl)) ?_
       refine tk 4 (some 28) (tf 5 3) (take_ofW HT_.out HW_.out (by kernel_rfl)) hHeld ?_
       refine tk 5 (some 29) (tf 6 2) (take_ofW HT_.out HW_.out (by kernel_rfl)) hHeld ?_
       refine one_ (i := 6) (N := some 30) (tf 7 1) rfl rfl (one_of HT_.out (by kernel_rfl)) (by decide) (fun K hK => ?_)
       refine goesW_ Try.func143 (by kernel_rfl) rfl #[.agg #[.int .i64 ((rd_T86 l0 (ji6)).f0.f0), .int .i64 ((rd_T86 l0 (ji6)).f0.f1), .int .i64 ((rd_T86 l0 (ji6)).f1)], .agg #[.int .i64 a1_0, .int .i64 a1_1]] (by rfl) rfl rfl (by first | rfl | (simp [Act.eval, Act.put]; done)) (by (try simp only [List.map_toArray, List.map_cons, List.map_nil]); first | done | (simp only [hji6]; rfl) | rfl | (simp only [List.length_drop, List.length_take]; rfl)) ?_
       with_reducible refine (impl_find_cl1.calls k1 ((rd_T86 l0 (ji6)).f0.f0) ((rd_T86 l0 (ji6)).f0.f1) ((rd_T86 l0 (ji6)).f1) a1_0 a1_1 t103 _ A9.out).mono ?_
       rintro e w14 ⟨rfl, hb⟩
       refine ⟨_, rfl, ?_⟩
       replace BK101 := am (BB BK101 hb)
       replace HB := am (below_step (K1 HB GE101.out) hb)
       (try clear hb)
       (try clear hb2)
       (try clear hk)
       (try clear hi)
       refine hK.out _ _ ⟨z0 _ BK101.out, z1 _ BK101.out, ((HB.out.cell (World.block_lt_of_cell? w _ hw102_0)).trans hw102_0), ((HB.out.cell (World.block_lt_of_cell? w _ hw102_1)).trans hw102_1), ((HB.out.cell (World.block_lt_of_cell? w _ hw102_2)).trans hw102_2)⟩ (fun hHeld => ?_)
       clear hK K
       refine norm_ (a' := ?_) ?_ ?_
       rotate_left
       ·show Act.put _ (some 30) _ = _
        simp only [Act.put, List.setIfInBounds_toArray, List.set_cons_zero, List.set_cons_succ, i64_w, i32_w]
        rfl
       refine pu 7 (some 31) (tf 8 0) (any_of HT_.out (by kernel_rfl)) ?_
       refine done_ (done_of HT_.out (by kernel_rfl)) ?_
       try go_wp2
       go_roundg k1
       case measure => have := HK1.out; omega
       case rel => exact ⟨(x9_1), (ji6), (by first | rfl | (simp; done) | (simp [*]; done)), (by first | rfl | (simp; done) | (simp only [← hji6] <;> (first | rfl | simp)) | (simp [*]; done)), H', ⟨by have := HK1.out; omega⟩, ⟨KB BK101⟩, ⟨K1 HB GE101.out⟩⟩
     ·rw [if_neg c8] at H
      exact absurd H (by simp)
    ·rw [if_neg c7] at H
     exact absurd H (by simp)
   ·rw [if_neg c5] at H
    have c5b0 : decide (x9_1 < x10_1) = false := decide_eq_false c5
    clear c5
    by_cases c15 : x9_1 < (l0.length : Int)
    ·rw [if_pos c15] at H
     have c15b0 : decide (x9_1 < (l0.length : Int)) = true := decide_eq_true c15
     clear c15
     by_cases c16 : 0 ≤ x9_1
     ·rw [if_pos c16] at H
      have c16b0 : decide (0 ≤ x9_1) = true := decide_eq_true c16
      clear c16
      by_cases c17 : x9_1 < (l0.length : Int)
      ·rw [if_pos c17] at H
       have c17b0 : decide (x9_1 < (l0.length : Int)) = true := decide_eq_true c17
       clear c17
       replace H := Option.bind_eq_some_iff.mp H
       obtain ⟨t105, A180, H⟩ := H
       replace H : (some (x9_1, (t105 == 0))) = some (r1, r2) := H
       have A18 := Aside0.mk A180
       clear A180
       simp only [Option.some.injEq, Prod.mk.injEq] at H
       obtain ⟨rfl, rfl⟩ := H
       try go_wp2
       replace BK101 := am (blk_drew BK101.out)
       replace HB := am (below_drew1 HB.out)
       have p104 : 0 ≤ (x9_1 : Int) := of_decide_eq_true (by first | (with_reducible assumption) | assumption)
       have q104 : x9_1 < (l0.length : Int) := of_decide_eq_true (by first | (with_reducible assumption) | assumption)
       obtain ⟨ad104, e104, hx104_0, hx104_1, hx104_2⟩ := at_T86 HR0.out x9_1 p104 q104
       have hw104_2 := hx104_2
       have hw104_1 := hx104_1
       have hw104_0 := hx104_0
       cases e104
       replace hx104_0 := (HB.out.cell (World.block_lt_of_cell? w _ hx104_0)).trans hx104_0
       replace hx104_1 := (HB.out.cell (World.block_lt_of_cell? w _ hx104_1)).trans hx104_1
       replace hx104_2 := (HB.out.cell (World.block_lt_of_cell? w _ hx104_2)).trans hx104_2
       replace p104 := eq_true p104
       replace q104 := eq_true q104
       refine start_ (n := 16) (S := fun w' => w'.cell? ⟨gb101, 0, none⟩ = some (.int .i64 a1_0) ∧ w'.cell? ⟨gb101, 1, none⟩ = some (.int .i64 a1_1) ∧ w'.cell? (ad104.add ((x9_1).toNat * 3)) = some (.int .i64 ((rd_T86 l0 x9_1).f0.f0)) ∧ w'.cell? ⟨(ad104.add ((x9_1).toNat * 3)).block, (ad104.add ((x9_1).toNat * 3)).off + 1, none⟩ = some (.int .i64 ((rd_T86 l0 x9_1).f0.f1)) ∧ w'.cell? ⟨(ad104.add ((x9_1).toNat * 3)).block, (ad104.add ((x9_1).toNat * 3)).off + 2, none⟩ = some (.int .i64 ((rd_T86 l0 x9_1).f1))) (ds := []) (tf 0 16) (by kernel_rfl) rfl rfl ⟨z0 _ BK101.out, z1 _ BK101.out, ((HB.out.cell (World.block_lt_of_cell? w _ hw104_0)).trans hw104_0), ((HB.out.cell (World.block_lt_of_cell? w _ hw104_1)).trans hw104_1), ((HB.out.cell (World.block_lt_of_cell? w _ hw104_2)).trans hw104_2)⟩ (fun hHeld => ?_); refine with_tabW impl_Block_find_cl1.tab8 impl_Block_find_cl1.bits8 (fun HT_ HW_ => ?_)
       generalize wr.drew = w19 at BK101 HB hx104_0 hx104_1 hx104_2 hHeld ⊢
       refine pu 0 (some 35) (tf 1 15) (any_of HT_.out (by kernel_rfl)) ?_
       refine pu 1 (some 36) (tf 2 14) (any_of HT_.out (by kernel_rfl)) ?_
       refine pu 2 (some 37) (tf 3 13) (any_of HT_.out (by kernel_rfl)) ?_
       refine pu 3 (some 38) (tf 4 12) (any_of HT_.out (by kernel_rfl)) ?_
       refine pu 4 (some 39) (tf 5 11) (any_of HT_.out (by kernel_rfl)) ?_
       refine pu 5 (some 40) (tf 6 10) (any_of HT_.out (by kernel_rfl)) ?_
       refine pu 6 (some 41) (tf 7 9) (any_of HT_.out (by kernel_rfl)) ?_
       refine pu 7 (some 42) (tf 8 8) (any_of HT_.out (by kernel_rfl)) ?_
       refine pu 8 (some 43) (tf 9 7) (any_of HT_.out (by kernel_rfl)) ?_
       refine tk 9 (some 44) (tf 10 6) (take_ofW HT_.out HW_.out (by kernel_rfl)) hHeld ?_
       refine tk 10 (some 45) (tf 11 5) (take_ofW HT_.out HW_.out (by kernel_rfl)) hHeld ?_
       refine one_ (i := 11) (N := some 46) (tf 12 4) rfl rfl (one_of HT_.out (by kernel_rfl)) (by decide) (fun K hK => ?_)
       refine goesW_ Try.func143 (by kernel_rfl) rfl #[.agg #[.int .i64 ((rd_T86 l0 x9_1).f0.f0), .int .i64 ((rd_T86 l0 x9_1).f0.f1), .int .i64 ((rd_T86 l0 x9_1).f1)], .agg #[.int .i64 a1_0, .int .i64 a1_1]] (by rfl) rfl rfl (by first | rfl | (simp [Act.eval, Act.put]; done)) MT ?_
       with_reducible refine (impl_find_cl1.calls k1 ((rd_T86 l0 x9_1).f0.f0) ((rd_T86 l0 x9_1).f0.f1) ((rd_T86 l0 x9_1).f1) a1_0 a1_1 t105 _ A18.out).mono ?_
       rintro e w20 ⟨rfl, hb⟩
       refine ⟨_, rfl, ?_⟩
       replace BK101 := am (BB BK101 hb)
       replace HB := am (below_step (K1 HB GE101.out) hb)
       (try clear hb)
       (try clear hb2)
       (try clear hk)
       (try clear hi)
       refine hK.out _ _ ⟨z0 _ BK101.out, z1 _ BK101.out, ((HB.out.cell (World.block_lt_of_cell? w _ hw104_0)).trans hw104_0), ((HB.out.cell (World.block_lt_of_cell? w _ hw104_1)).trans hw104_1), ((HB.out.cell (World.block_lt_of_cell? w _ hw104_2)).trans hw104_2)⟩ (fun hHeld => ?_)
       clear hK K
       refine norm_ (a' := ?_) ?_ ?_
       rotate_left
       ·show Act.put _ (some 46) _ = _
        simp only [Act.put, List.setIfInBounds_toArray, List.set_cons_zero, List.set_cons_succ, i64_w, i32_w]
        rfl
       refine pu 12 (some 47) (tf 13 3) (any_of HT_.out (by kernel_rfl)) ?_
       refine pu 13 (some 48) (tf 14 2) (any_of HT_.out (by kernel_rfl)) ?_
       refine pu 14 (some 6) (tf 15 1) (any_of HT_.out (by kernel_rfl)) ?_
       refine pu 15 (some 7) (tf 16 0) (any_of HT_.out (by kernel_rfl)) ?_
       refine done_ (done_of HT_.out (by kernel_rfl)) ?_
       try go_wp2
       go_ret2
       exact ⟨by first | rfl | (simp [errW_none, errW_some] <;> rfl) | (simp [*, errW_none, errW_some] <;> rfl), K1 HB GE101.out⟩
      ·rw [if_neg c17] at H
       exact absurd H (by simp)
     ·rw [if_neg c16] at H
      exact absurd H (by simp)
    ·rw [if_neg c15] at H
     have c15b0 : decide (x9_1 < (l0.length : Int)) = false := decide_eq_false c15
     clear c15
     simp only [Option.some.injEq, Prod.mk.injEq] at H
     obtain ⟨rfl, rfl⟩ := H
     try go_wp2
     replace BK101 := am (blk_drew BK101.out)
     replace HB := am (below_drew1 HB.out)
     refine start_ (n := 16) (S := fun w' => True) (ds := []) (tf 0 16) (by kernel_rfl) rfl rfl trivial (fun hHeld => ?_); refine with_tabW impl_Block_find_cl1.tab8 impl_Block_find_cl1.bits8 (fun HT_ HW_ => ?_)
     generalize wr.drew = w21 at BK101 HB hHeld ⊢
     refine pu 0 (some 35) (tf 1 15) (any_of HT_.out (by kernel_rfl)) ?_
     refine pu 1 (some 36) (tf 2 14) (any_of HT_.out (by kernel_rfl)) ?_
     refine pu 2 (some 37) (tf 3 13) (any_of HT_.out (by kernel_rfl)) ?_
     refine pu 3 (some 38) (tf 4 12) (any_of HT_.out (by kernel_rfl)) ?_
     refine pu 4 (some 39) (tf 5 11) (any_of HT_.out (by kernel_rfl)) ?_
     refine pn 5 (some 40) (tf 6 10) (any_of HT_.out (by kernel_rfl)) ?_
     refine pn 6 (some 41) (tf 7 9) (any_of HT_.out (by kernel_rfl)) ?_
     refine pn 7 (some 42) (tf 8 8) (any_of HT_.out (by kernel_rfl)) ?_
     refine pn 8 (some 43) (tf 9 7) (any_of HT_.out (by kernel_rfl)) ?_
     refine pn 9 (some 44) (tf 10 6) (any_of HT_.out (by kernel_rfl)) ?_
     refine pn 10 (some 45) (tf 11 5) (any_of HT_.out (by kernel_rfl)) ?_
     refine pn 11 (some 46) (tf 12 4) (any_of HT_.out (by kernel_rfl)) ?_
     refine pn 12 (some 47) (tf 13 3) (any_of HT_.out (by kernel_rfl)) ?_
     refine pu 13 (some 48) (tf 14 2) (any_of HT_.out (by kernel_rfl)) ?_
     refine pu 14 (some 6) (tf 15 1) (any_of HT_.out (by kernel_rfl)) ?_
     refine pu 15 (some 7) (tf 16 0) (any_of HT_.out (by kernel_rfl)) ?_
     refine done_ (done_of HT_.out (by kernel_rfl)) ?_
     try go_wp2
     go_ret2
     exact ⟨by first | rfl | (simp [errW_none, errW_some] <;> rfl) | (simp [*, errW_none, errW_some] <;> rfl), K1 HB GE101.out⟩
def impl_find.f (k : Nat) (l0 : List (S86)) (a1_0 : Int) (a1_1 : Int) : Option (Int × Bool) := (impl_Block_find_cl1.f k l0 a1_0 a1_1).bind fun bt102 => (some (bt102.1, bt102.2))
set_option maxHeartbeats 8000000 in
set_option maxRecDepth 100000 in
theorem impl_find.calls (k : Nat) (A0 : Option Addr) (c0 : Nat) (l0 : List (S86)) (a1_0 : Int) (a1_1 : Int) (r1 : Int) (r2 : Bool) (w : World) (hr0 : Kd.C k86 w A0 l0.length l0) (hc0 : l0.length ≤ c0) (h : impl_find.f k l0 a1_0 a1_1 = some (r1, r2)) :
  Calls Try.prog 116 #[.slice A0 l0.length c0, .agg #[.int .i64 a1_0, .int .i64 a1_1]] w fun e w' => e = .returned (.tuple #[.int .i64 r1, .bool r2]) ∧ Below w.heap.size w w' := by
 have hu32 := Try.underlying32
 have HR0 := Aside0.mk hr0
 have HC0 := Aside0.mk hc0
 clear hr0 hc0
 have HB := am (Below.refl w.heap.size w)
 have H : ((impl_Block_find_cl1.f k l0 a1_0 a1_1).bind fun bt102 => (some (bt102.1, bt102.2))) = some (r1, r2) := h
 clear h
 replace H := Option.bind_eq_some_iff.mp H
 obtain ⟨⟨t102, t103⟩, A30, H⟩ := H
 replace H : (some (t102, t103)) = some (r1, r2) := H
 have A3 := Aside0.mk A30
 clear A30
 simp only [Option.some.injEq, Prod.mk.injEq] at H
 obtain ⟨rfl, rfl⟩ := H
 go_enter Try.func116, Try.ntmps116
 go_wp2_with (first | ((with_reducible refine gate_dst (N := 3) rfl ?_); refine box_event rfl (N := 3) rfl (cs := #[.int .i64 a1_0, .int .i64 a1_1]) (t := 32) BX ?_; intro gb101 hg w4 hbox hb; have BK101 := am (hbox); have GW101 := am ((GL hg (below_size (KL HB)) : w.heap.size ≤ gb101)); have GE101 := GW101; replace HB := am (below_step (KL HB) hb); clear hb hbox hg; have hcz5_0 := z0 w4 BK101.out; have hcz5_1 := z1 w4 BK101.out; have hfz5_0 := blk_frozen BK101.out 0; have hfz5_1 := blk_frozen BK101.out 1) | ((with_reducible refine gate_callee (f := 142) rfl ?_); refine goesL_ (some 8) rfl rfl Try.func142 (by kernel_rfl) rfl #[.slice A0 l0.length c0, .agg #[.int .i64 a1_0, .int .i64 a1_1], .func (.func 143) #[] #[]] rfl MT ?_; (with_reducible refine (impl_Block_find_cl1.calls k _ _ l0 a1_0 a1_1  t102 t103 _ ?side1 ?side2 A3.out).mono ?_); (case side1 => exact KC (Kd.C_below HR0.out HB.out)); (case side2 => exact HC0.out); rintro e w6 ⟨rfl, hb⟩; refine ⟨_, rfl, ?_⟩; replace BK101 := am (BB BK101 hb); replace HB := am (below_step (K1 HB GE101.out) hb); (try clear hb); (try clear hb2); (try clear hk); (try clear hi)))
 go_ret2
 exact ⟨by first | rfl | (simp [errW_none, errW_some] <;> rfl) | (simp [*, errW_none, errW_some] <;> rfl), K1 HB GE101.out⟩
def spec_WaysGone.f (k : Nat) (l0 : List (S86)) (a1_0 : Int) (a1_1 : Int) : Option ((List (S86)) × Bool) := (spec_WaysOk.f k l0).bind fun t102 => (if t102 = true then ((spec_l3At.f k l0 a1_0 a1_1).bind fun bt106 => (if bt106.2 = true then ((some (([] : List (S86)) : List (S86))).bind fun y108 => (if 0 ≤ bt106.1 then (if bt106.1 ≤ (l0.length : Int) then ((some (l0.take (bt106.1 : Int).toNat : List (S86))).bind fun y111 => (if y108.length + y111.length < 5864062014805 then ((some (y108 ++ y111 : List (S86))).bind fun y115 => (if 0 ≤ (wrap64 (bt106.1 + 1)) then (if (wrap64 (bt106.1 + 1)) ≤ (l0.length : Int) then ((some (l0.drop ((wrap64 (bt106.1 + 1)) : Int).toNat : List (S86))).bind fun y118 => (if y115.length + y118.length < 5864062014805 then (some ((y115 ++ y118), true)) else (none))) else (none)) else (none))) else (none))) else (none)) else (none))) else ((spec_l3Copy.f l0).bind fun t125 => (some (t125, false))))) else (some ((([] : List (S86))), false)))
def spec_WaysGone.T6 : Bool × List (List Nat × List Nat) := (true, [([], []), ([], []), ([], []), ([1, 2], [1, 2]), ([0, 3], [0, 3]), ([], []), ([], []), ([6], [6]), ([5, 7], [5, 7]), ([4, 8, 4], [4, 8]), ([9, 9, 0, 1, 2, 3, 4, 5, 6, 7, 8, 9], [9]), ([10, 0, 1, 2, 3, 4, 5, 6, 7, 8, 9, 10], [])])
def spec_WaysGone.B6 : List Nat := [0, 0, 0, 6, 15, 0, 0, 64, 224, 511, 1023, 2047]
theorem spec_WaysGone.tab6 : rtab .any (opsOf Try.f66 6) = spec_WaysGone.T6 := by kernel_rfl
theorem spec_WaysGone.bits6 : waitsOk spec_WaysGone.T6.2 spec_WaysGone.B6 = true := by kernel_rfl
set_option maxHeartbeats 8000000 in
set_option maxRecDepth 100000 in
theorem spec_WaysGone.calls (k : Nat) (A0 : Option Addr) (c0 : Nat) (l0 : List (S86)) (a1_0 : Int) (a1_1 : Int) (r1 : List (S86)) (r2 : Bool) (w : World) (hr0 : Kd.C k86 w A0 l0.length l0) (hc0 : l0.length ≤ c0) (h : spec_WaysGone.f k l0 a1_0 a1_1 = some (r1, r2)) :
  Calls Try.prog 66 #[.slice A0 l0.length c0, .agg #[.int .i64 a1_0, .int .i64 a1_1]] w fun e w' => ∃ v0_ : Value, e = .returned (.tuple #[v0_, .bool r2]) ∧ Kd.R k86 86 w' w.heap.size (fun _ => True) v0_ r1 ∧ Below w.heap.size w w' := by
 have hu32 := Try.underlying32
 have HR0 := Aside0.mk hr0
 have HC0 := Aside0.mk hc0
 clear hr0 hc0
 have HB := am (Below.refl w.heap.size w)
 have H : ((spec_WaysOk.f k l0).bind fun t102 => (if t102 = true then ((spec_l3At.f k l0 a1_0 a1_1).bind fun bt106 => (if bt106.2 = true then ((some (([] : List (S86)) : List (S86))).bind fun y108 => (if 0 ≤ bt106.1 then (if bt106.1 ≤ (l0.length : Int) then ((some (l0.take (bt106.1 : Int).toNat : List (S86))).bind fun y111 => (if y108.length + y111.length < 5864062014805 then ((some (y108 ++ y111 : List (S86))).bind fun y115 => (if 0 ≤ (wrap64 (bt106.1 + 1)) then (if (wrap64 (bt106.1 + 1)) ≤ (l0.length : Int) then ((some (l0.drop ((wrap64 (bt106.1 + 1)) : Int).toNat : List (S86))).bind fun y118 => (if y115.length + y118.length < 5864062014805 then (some ((y115 ++ y118), true)) else (none))) else (none)) else (none))) else (none))) else (none)) else (none))) else ((spec_l3Copy.f l0).bind fun t125 => (some (t125, false))))) else (some ((([] : List (S86))), false)))) = some (r1, r2) := h
 clear h
 replace H := Option.bind_eq_some_iff.mp H
 obtain ⟨t102, A30, H⟩ := H
 replace H : (if t102 = true then ((spec_l3At.f k l0 a1_0 a1_1).bind fun bt106 => (if bt106.2 = true then ((some (([] : List (S86)) : List (S86))).bind fun y108 => (if 0 ≤ bt106.1 then (if bt106.1 ≤ (l0.length : Int) then ((some (l0.take (bt106.1 : Int).toNat : List (S86))).bind fun y111 => (if y108.length + y111.length < 5864062014805 then ((some (y108 ++ y111 : List (S86))).bind fun y115 => (if 0 ≤ (wrap64 (bt106.1 + 1)) then (if (wrap64 (bt106.1 + 1)) ≤ (l0.length : Int) then ((some (l0.drop ((wrap64 (bt106.1 + 1)) : Int).toNat : List (S86))).bind fun y118 => (if y115.length + y118.length < 5864062014805 then (some ((y115 ++ y118), true)) else (none))) else (none)) else (none))) else (none))) else (none)) else (none))) else ((spec_l3Copy.f l0).bind fun t125 => (some (t125, false))))) else (some ((([] : List (S86))), false))) = some (r1, r2) := H
 have A3 := Aside0.mk A30
 clear A30
 by_cases c4 : t102 = true
 ·subst c4
  have H1 : ((spec_l3At.f k l0 a1_0 a1_1).bind fun bt106 => (if bt106.2 = true then ((some (([] : List (S86)) : List (S86))).bind fun y108 => (if 0 ≤ bt106.1 then (if bt106.1 ≤ (l0.length : Int) then ((some (l0.take (bt106.1 : Int).toNat : List (S86))).bind fun y111 => (if y108.length + y111.length < 5864062014805 then ((some (y108 ++ y111 : List (S86))).bind fun y115 => (if 0 ≤ (wrap64 (bt106.1 + 1)) then (if (wrap64 (bt106.1 + 1)) ≤ (l0.length : Int) then ((some (l0.drop ((wrap64 (bt106.1 + 1)) : Int).toNat : List (S86))).bind fun y118 => (if y115.length + y118.length < 5864062014805 then (some ((y115 ++ y118), true)) else (none))) else (none)) else (none))) else (none))) else (none)) else (none))) else ((spec_l3Copy.f l0).bind fun t125 => (some (t125, false))))) = some (r1, r2) := by rw [if_pos rfl] at H; exact H
  clear H
  have H := H1
  clear H1
  replace H := Option.bind_eq_some_iff.mp H
  obtain ⟨⟨t106, t107⟩, A50, H⟩ := H
  replace H : (if t107 = true then ((some (([] : List (S86)) : List (S86))).bind fun y108 => (if 0 ≤ t106 then (if t106 ≤ (l0.length : Int) then ((some (l0.take (t106 : Int).toNat : List (S86))).bind fun y111 => (if y108.length + y111.length < 5864062014805 then ((some (y108 ++ y111 : List (S86))).bind fun y115 => (if 0 ≤ (wrap64 (t106 + 1)) then (if (wrap64 (t106 + 1)) ≤ (l0.length : Int) then ((some (l0.drop ((wrap64 (t106 + 1)) : Int).toNat : List (S86))).bind fun y118 => (if y115.length + y118.length < 5864062014805 then (some ((y115 ++ y118), true)) else (none))) else (none)) else (none))) else (none))) else (none)) else (none))) else ((spec_l3Copy.f l0).bind fun t125 => (some (t125, false)))) = some (r1, r2) := H
  have A5 := Aside0.mk A50
  clear A50
  by_cases c6 : t107 = true
  ·subst c6
   have H1 : ((some (([] : List (S86)) : List (S86))).bind fun y108 => (if 0 ≤ t106 then (if t106 ≤ (l0.length : Int) then ((some (l0.take (t106 : Int).toNat : List (S86))).bind fun y111 => (if y108.length + y111.length < 5864062014805 then ((some (y108 ++ y111 : List (S86))).bind fun y115 => (if 0 ≤ (wrap64 (t106 + 1)) then (if (wrap64 (t106 + 1)) ≤ (l0.length : Int) then ((some (l0.drop ((wrap64 (t106 + 1)) : Int).toNat : List (S86))).bind fun y118 => (if y115.length + y118.length < 5864062014805 then (some ((y115 ++ y118), true)) else (none))) else (none)) else (none))) else (none))) else (none)) else (none))) = some (r1, r2) := by rw [if_pos rfl] at H; exact H
   clear H
   have H := H1
   clear H1
   obtain ⟨y108, hy108⟩ : ∃ y_ : List (S86), y_ = (([] : List (S86))) := ⟨_, rfl⟩
   replace H : (if 0 ≤ t106 then (if t106 ≤ (l0.length : Int) then ((some (l0.take (t106 : Int).toNat : List (S86))).bind fun y111 => (if y108.length + y111.length < 5864062014805 then ((some (y108 ++ y111 : List (S86))).bind fun y115 => (if 0 ≤ (wrap64 (t106 + 1)) then (if (wrap64 (t106 + 1)) ≤ (l0.length : Int) then ((some (l0.drop ((wrap64 (t106 + 1)) : Int).toNat : List (S86))).bind fun y118 => (if y115.length + y118.length < 5864062014805 then (some ((y115 ++ y118), true)) else (none))) else (none)) else (none))) else (none))) else (none)) else (none)) = some (r1, r2) := by first | (rw [hy108]; with_reducible exact H) | (have H2_ := (Option.bind_some _ _).symm.trans H; rw [hy108]; with_reducible exact H2_) | (have H2_ := (Option.bind_some _ _).symm.trans H; with_reducible exact H2_) | with_reducible exact H | (rw [hy108]; exact H) | exact H
   have Ny108 := Aside0.mk hy108
   clear hy108
   by_cases c7 : 0 ≤ t106
   ·rw [if_pos c7] at H
    have c7b0 := eq_true c7
    have c7b1 : decide (0 ≤ t106) = true := decide_eq_true c7
    clear c7
    by_cases c8 : t106 ≤ (l0.length : Int)
    ·rw [if_pos c8] at H
     have c8b0 := eq_true c8
     have c8b1 : decide (t106 ≤ (l0.length : Int)) = true := decide_eq_true c8
     clear c8
     obtain ⟨y111, hy111⟩ : ∃ y_ : List (S86), y_ = (l0.take (t106 : Int).toNat) := ⟨_, rfl⟩
     replace H : (if y108.length + y111.length < 5864062014805 then ((some (y108 ++ y111 : List (S86))).bind fun y115 => (if 0 ≤ (wrap64 (t106 + 1)) then (if (wrap64 (t106 + 1)) ≤ (l0.length : Int) then ((some (l0.drop ((wrap64 (t106 + 1)) : Int).toNat : List (S86))).bind fun y118 => (if y115.length + y118.length < 5864062014805 then (some ((y115 ++ y118), true)) else (none))) else (none)) else (none))) else (none)) = some (r1, r2) := by first | (rw [hy111]; with_reducible exact H) | (have H2_ := (Option.bind_some _ _).symm.trans H; rw [hy111]; with_reducible exact H2_) | (have H2_ := (Option.bind_some _ _).symm.trans H; with_reducible exact H2_) | with_reducible exact H | (rw [hy111]; exact H) | exact H
     have Ny111 := Aside0.mk hy111
     clear hy111
     by_cases c9 : y108.length + y111.length < 5864062014805
     ·rw [if_pos c9] at H
      have LMc9 := Aside0.mk c9
      clear c9
      obtain ⟨y115, hy115⟩ : ∃ y_ : List (S86), y_ = (y108 ++ y111) := ⟨_, rfl⟩
      replace H : (if 0 ≤ (wrap64 (t106 + 1)) then (if (wrap64 (t106 + 1)) ≤ (l0.length : Int) then ((some (l0.drop ((wrap64 (t106 + 1)) : Int).toNat : List (S86))).bind fun y118 => (if y115.length + y118.length < 5864062014805 then (some ((y115 ++ y118), true)) else (none))) else (none)) else (none)) = some (r1, r2) := by first | (rw [hy115]; with_reducible exact H) | (have H2_ := (Option.bind_some _ _).symm.trans H; rw [hy115]; with_reducible exact H2_) | (have H2_ := (Option.bind_some _ _).symm.trans H; with_reducible exact H2_) | with_reducible exact H | (rw [hy115]; exact H) | exact H
      have Ny115 := Aside0.mk hy115
      clear hy115
      obtain ⟨ji10, hji10⟩ : ∃ j_ : Int, (wrap64 (t106 + 1)) = j_ := ⟨_, rfl⟩
      replace H : (if 0 ≤ (ji10) then (if (ji10) ≤ (l0.length : Int) then ((some (l0.drop ((ji10) : Int).toNat : List (S86))).bind fun y118 => (if y115.length + y118.length < 5864062014805 then (some ((y115 ++ y118), true)) else (none))) else (none)) else (none)) = some (r1, r2) := by first | (rw [hji10] at H; exact H) | (simp only [hji10] at H ⊢; exact H)
      (try rw [hji10] at A3)
      (try rw [hji10] at A5)
      have hji10w : (IntKind.i64.wrap (t106 + 1)) = ji10 := (i64_w _).trans hji10
      by_cases c11 : 0 ≤ (ji10)
      ·rw [if_pos c11] at H
       have c11b0 := eq_true c11
       have c11b1 : decide (0 ≤ (ji10)) = true := decide_eq_true c11
       clear c11
       by_cases c12 : (ji10) ≤ (l0.length : Int)
       ·rw [if_pos c12] at H
        have c12b0 := eq_true c12
        have c12b1 : decide ((ji10) ≤ (l0.length : Int)) = true := decide_eq_true c12
        clear c12
        obtain ⟨y118, hy118⟩ : ∃ y_ : List (S86), y_ = (l0.drop ((ji10) : Int).toNat) := ⟨_, rfl⟩
        replace H : (if y115.length + y118.length < 5864062014805 then (some ((y115 ++ y118), true)) else (none)) = some (r1, r2) := by first | (rw [hy118]; with_reducible exact H) | (have H2_ := (Option.bind_some _ _).symm.trans H; rw [hy118]; with_reducible exact H2_) | (have H2_ := (Option.bind_some _ _).symm.trans H; with_reducible exact H2_) | with_reducible exact H | (rw [hy118]; exact H) | exact H
        have Ny118 := Aside0.mk hy118
        clear hy118
        by_cases c13 : y115.length + y118.length < 5864062014805
        ·rw [if_pos c13] at H
         have LMc13 := Aside0.mk c13
         clear c13
         obtain ⟨y122, hy122⟩ : ∃ y_ : List (S86), y_ = (y115 ++ y118) := ⟨_, rfl⟩
         replace H : (some (y122, true)) = some (r1, r2) := by first | (rw [hy122]; with_reducible exact H) | (have H2_ := (Option.bind_some _ _).symm.trans H; rw [hy122]; with_reducible exact H2_) | (have H2_ := (Option.bind_some _ _).symm.trans H; with_reducible exact H2_) | with_reducible exact H | (rw [hy122]; exact H) | exact H
         have Ny122 := Aside0.mk hy122
         clear hy122
         simp only [Option.some.injEq, Prod.mk.injEq] at H
         obtain ⟨rfl, rfl⟩ := H
         go_enter Try.func66, Try.ntmps66
         try go_wp2_with (first | ((with_reducible refine gate_dst (N := 3) rfl ?_); refine box_event rfl (N := 3) rfl (cs := #[.int .i64 a1_0, .int .i64 a1_1]) (t := 32) BX ?_; intro gb101 hg w14 hbox hb; have BK101 := am (hbox); have GW101 := am ((GL hg (below_size (KL HB)) : w.heap.size ≤ gb101)); have GE101 := GW101; replace HB := am (below_step (KL HB) hb); clear hb hbox hg) | ((with_reducible refine gate_callee (f := 58) rfl ?_); refine goesL_ (some 9) rfl rfl Try.func58 (by kernel_rfl) rfl #[.slice A0 l0.length c0] rfl MT ?_; (with_reducible refine (spec_WaysOk.calls k _ _ l0 true _ ?side1 ?side2 A3.out).mono ?_); (case side1 => exact KC (Kd.C_below HR0.out HB.out)); (case side2 => exact HC0.out); rintro e w15 ⟨rfl, hb⟩; refine ⟨_, rfl, ?_⟩; replace BK101 := am (BB BK101 hb); replace HB := am (below_step (K1 HB GE101.out) hb); (try clear hb); (try clear hb2); (try clear hk); (try clear hi); have hcz16_0 := z0 w15 BK101.out; have hcz16_1 := z1 w15 BK101.out; have hfz16_0 := blk_frozen BK101.out 0; have hfz16_1 := blk_frozen BK101.out 1) | ((with_reducible refine gate_callee (f := 118) rfl ?_); refine goesL_ (some 15) rfl rfl Try.func118 (by kernel_rfl) rfl #[.slice A0 l0.length c0, .agg #[.int .i64 a1_0, .int .i64 a1_1]] rfl MT ?_; (with_reducible refine (spec_l3At.calls k _ _ l0 a1_0 a1_1 t106 true _ ?side1 ?side2 A5.out).mono ?_); (case side1 => exact KC (Kd.C_below HR0.out HB.out)); (case side2 => exact HC0.out); rintro e w17 ⟨rfl, hb⟩; refine ⟨_, rfl, ?_⟩; replace BK101 := am (BB BK101 hb); replace HB := am (below_step (K1 HB GE101.out) hb); (try clear hb); (try clear hb2); (try clear hk); (try clear hi)))
         replace BK101 := am (blk_drew BK101.out)
         replace HB := am (below_drew1 HB.out)
         have q19 : (t106 : Int) ≤ ((l0.length : Int) : Int) := of_decide_eq_true (by first | (with_reducible assumption) | assumption)
         obtain ⟨i019, hi019, _, hsz19, _⟩ := info_parts info86
         have hroom19 : l0.length ≤ c0 := HC0.out
         have hC19 : Kd.C k86 _ A0 l0.length l0 := HR0.out
         have hcut19 := cut_to (P := Try.prog) 75 86 .i64 Try.underlying75 hi019 A0 l0.length c0 t106 (of_decide_eq_true (by first | (with_reducible assumption) | assumption)) q19 hroom19
         have hr19 := Kd.C_take (m := (t106 : Int).toNat) hC19 (by omega)
         have hy19 : y111.length = (t106 : Int).toNat := (by rw [Ny111.out, List.length_take]; omega)
         rw [← Ny111.out] at hr19
         rw [← hy19] at hcut19
         have HR114 := Aside0.mk hr19
         have HC114 := am (show y111.length ≤ c0 from by omega)
         clear hr19 hC19 hroom19 hi019 hsz19
         have KY19 := Aside0.mk hy19
         clear hy19
         replace q19 := eq_true q19
         have q20 : ((ji10) : Int) ≤ ((l0.length : Int) : Int) := of_decide_eq_true (by first | (with_reducible assumption) | assumption)
         obtain ⟨i020, hi020, _, hsz20, _⟩ := info_parts info86
         have hroom20 : l0.length ≤ c0 := HC0.out
         have hC20 : Kd.C k86 _ A0 l0.length l0 := HR0.out
         have q020 : (0 : Int) ≤ ((ji10) : Int) := of_decide_eq_true (by first | (with_reducible assumption) | assumption)
         have hcut20 := cut_from (P := Try.prog) 75 86 .i64 Try.underlying75 hi020 3 hsz20 A0 l0.length c0 (ji10) q020 q20
         have hr20 := Kd.C_drop (m := ((ji10) : Int).toNat) (c := c0) hC20 (by omega) hroom20
         obtain ⟨A20, hA20⟩ : ∃ A1, A1 = (if c0 = ((ji10) : Int).toNat then A0 else (A0 : Option Addr).map (·.add (((ji10) : Int).toNat * 3))) := ⟨_, rfl⟩
         obtain ⟨c20, hc20⟩ : ∃ c1, c1 = c0 - ((ji10) : Int).toNat := ⟨_, rfl⟩
         have hy20 : y118.length = l0.length - ((ji10) : Int).toNat := (by rw [Ny118.out, List.length_drop] <;> omega)
         rw [show (l0).drop ((ji10) : Int).toNat = y118 from Ny118.out.symm] at hr20
         replace hr20 : Kd.C k86 _ A20 y118.length y118 := (by rw [hA20]; exact hr20)
         rw [← hy20, ← hA20, ← hc20] at hcut20
         have HR121 := Aside0.mk hr20
         have HC121 := am (show y118.length ≤ c20 from by rw [hy20, hc20]; exact Nat.sub_le_sub_right hroom20 _)
         clear hr20 hC20 hroom20 hi020 hsz20 hc20
         have KY20 := Aside0.mk hy20
         have KA20 := Aside0.mk hA20
         clear hy20 hA20
         replace q20 := eq_true q20
         refine start_ (n := 12) (S := fun w' => True) (ds := []) (tf 0 12) (by kernel_rfl) rfl rfl trivial (fun hHeld => ?_); refine with_tabW spec_WaysGone.tab6 spec_WaysGone.bits6 (fun HT_ HW_ => ?_)
         generalize w17.drew = w18 at BK101 HB HR114 HR121 hHeld ⊢
         refine pu 1 (some 23) #[false, true, false, false, false, false, false, false, false, false, false, false] (any_of HT_.out (by kernel_rfl)) ?_
         refine pu 2 (some 24) #[false, true, true, false, false, false, false, false, false, false, false, false] (any_of HT_.out (by kernel_rfl)) ?_
         refine pu 3 (some 25) #[false, true, true, true, false, false, false, false, false, false, false, false] (any_of HT_.out (by kernel_rfl)) ?_
         refine pu 5 (some 27) #[false, true, true, true, false, true, false, false, false, false, false, false] (any_of HT_.out (by kernel_rfl)) ?_
         refine pu 6 (some 28) #[false, true, true, true, false, true, true, false, false, false, false, false] (any_of HT_.out (by kernel_rfl)) ?_
         refine pu 7 (some 29) #[false, true, true, true, false, true, true, true, false, false, false, false] (any_of HT_.out (by kernel_rfl)) ?_
         refine pu 8 (some 30) #[false, true, true, true, false, true, true, true, true, false, false, false] (any_of HT_.out (by kernel_rfl)) ?_
         refine one_ (i := 0) (N := some 22) #[true, true, true, true, false, true, true, true, true, false, false, false] rfl rfl (one_of HT_.out (by kernel_rfl)) (by decide) (fun K hK => ?_)
         refine Kd.R_lit_step k86 _ 86 ?hg (N := 22) ?hd (xs := ([] : List (S86))) (inner := []) (ok := fun _ => True) (okp := fun _ => True) ?hr ?hp (fun _ hk => hk) trivial (Below.refl _ _) (Nat.le_refl _) (by simp) ?_; (case hd => rfl); (case hg => rfl); (case hr => first | (go_simp; done) | (go_simp; rfl)); (case hp => exact (Reps.none _ _))
         intro v109 w21 ho22 hb hg_ hnew_
         clear hg_ hnew_
         (first | rw [← Ny108.out] at ho22 | (simp only [Int.reduceToNat] at ho22; rw [← Ny108.out] at ho22))
         have HO110 := am (Kd.R_lower ho22 (below_size (K1 HB GE101.out)))
         replace BK101 := am (BB BK101 hb)
         replace HB := am (below_step (K1 HB GE101.out) hb)
         clear hb ho22
         refine hK.out _ _ trivial (fun hHeld => ?_)
         clear hK K
         refine norm_ (a' := ?_) ?_ ?_
         rotate_left
         ·show Act.put _ (some 22) _ = _
          simp only [Act.put, List.setIfInBounds_toArray, List.set_cons_zero, List.set_cons_succ, i64_w, i32_w]
          rfl
         refine one_ (i := 4) (N := some 26) (tf 9 3) rfl rfl (one_of HT_.out (by kernel_rfl)) (by decide) (fun K hK => ?_)
         refine Kd.R_append_rows_step k86 (w0 := w) w.heap.size (by rfl) (.tmp 22) (.tmp 25) 75 86 (.agg #[(.int .i64 0), (.int .i64 0), (.int .i64 0)]) 24 rfl Try.underlying75 info86 rfl (by decide) (by omega) v109 y108 y111 _ _ _ (fun _ => True) (fun _ => False) rfl rfl ?aO ?aR (fun _ _ h => h) (fun _ h => h.elim) ?aF ?aB ?aS ?aL ?_
         (case aR => exact KC (Kd.C_below HR114.out HB.out))
         (case aB => exact (K1 HB GE101.out))
         (case aF => exact (fun _ _ => trivial))
         (case aO => exact (KR HO110))
         (case aS => exact (below_size (K1 HB GE101.out)))
         (case aL => have := LMc9.out; omega)
         intro v116 w23 ho hb hg hat
         rw [← Ny115.out] at ho
         replace BK101 := am (blk_grown (g := gb101) (o := .cells #[.int .i64 a1_0, .int .i64 a1_1] 32 (0, 0)) (KB BK101) hg (Kd.R_ne HO110.out BK101.out (by decide)))
         replace HB := am (hb)
         have HO117 := am (ho)
         clear HO110
         clear ho hb hg hat
         refine hK.out _ _ trivial (fun hHeld => ?_)
         clear hK K
         refine norm_ (a' := ?_) ?_ ?_
         rotate_left
         ·show Act.put _ (some 26) _ = _
          simp only [Act.put, List.setIfInBounds_toArray, List.set_cons_zero, List.set_cons_succ, i64_w, i32_w]
          rfl
         refine one_ (i := 9) (N := some 31) (tf 10 2) rfl rfl (one_of HT_.out (by kernel_rfl)) (by decide) (fun K hK => ?_)
         refine Kd.R_append_rows_step k86 (w0 := w) w.heap.size (by rfl) (.tmp 26) (.tmp 30) 75 86 (.agg #[(.int .i64 0), (.int .i64 0), (.int .i64 0)]) 24 rfl Try.underlying75 info86 rfl (by decide) (by omega) v116 y115 y118 _ _ _ (fun _ => True) (fun _ => False) rfl rfl ?aO ?aR (fun _ _ h => h) (fun _ h => h.elim) ?aF ?aB ?aS ?aL ?_
         (case aR => exact KC (Kd.C_below HR121.out HB.out))
         (case aB => exact (K1 HB GE101.out))
         (case aF => exact (fun _ _ => trivial))
         (case aO => exact (KR HO117))
         (case aS => exact (below_size (K1 HB GE101.out)))
         (case aL => have := LMc13.out; omega)
         intro v123 w24 ho hb hg hat
         rw [← Ny122.out] at ho
         replace BK101 := am (blk_grown (g := gb101) (o := .cells #[.int .i64 a1_0, .int .i64 a1_1] 32 (0, 0)) (KB BK101) hg (Kd.R_ne HO117.out BK101.out (by decide)))
         replace HB := am (hb)
         have HO124 := am (ho)
         clear HO117
         clear ho hb hg hat
         refine hK.out _ _ trivial (fun hHeld => ?_)
         clear hK K
         refine norm_ (a' := ?_) ?_ ?_
         rotate_left
         ·show Act.put _ (some 31) _ = _
          simp only [Act.put, List.setIfInBounds_toArray, List.set_cons_zero, List.set_cons_succ, i64_w, i32_w]
          rfl
         refine pu 10 (some 4) (tf 11 1) (any_of HT_.out (by kernel_rfl)) ?_
         refine pu 11 (some 5) (tf 12 0) (any_of HT_.out (by kernel_rfl)) ?_
         refine done_ (done_of HT_.out (by kernel_rfl)) ?_
         try go_wp2
         go_ret2
         exact ⟨_, by first | rfl | (simp [errW_none, errW_some] <;> rfl) | (simp only [← hji10]; first | rfl | (simp [errW_none, errW_some] <;> rfl)) | (simp [*, errW_none, errW_some] <;> rfl), by (with_reducible repeat (first | apply Kd.R_alloc | apply Kd.R_drewN | apply Kd.R_drew)); exact HO124.out, K1 HB GE101.out⟩
        ·rw [if_neg c13] at H
         exact absurd H (by simp)
       ·rw [if_neg c12] at H
        exact absurd H (by simp)
      ·rw [if_neg c11] at H
       exact absurd H (by simp)
     ·rw [if_neg c9] at H
      exact absurd H (by simp)
    ·rw [if_neg c8] at H
     exact absurd H (by simp)
   ·rw [if_neg c7] at H
    exact absurd H (by simp)
  ·replace c6 := Bool.eq_false_iff.mpr c6
   subst c6
   have H1 : ((spec_l3Copy.f l0).bind fun t125 => (some (t125, false))) = some (r1, r2) := by rw [if_neg (show ¬ (false = true) by decide)] at H; exact H
   clear H
   have H := H1
   clear H1
   replace H := Option.bind_eq_some_iff.mp H
   obtain ⟨t125, A250, H⟩ := H
   replace H : (some (t125, false)) = some (r1, r2) := H
   have A25 := Aside0.mk A250
   clear A250
   simp only [Option.some.injEq, Prod.mk.injEq] at H
   obtain ⟨rfl, rfl⟩ := H
   go_enter Try.func66, Try.ntmps66
   go_wp2_with (first | ((with_reducible refine gate_dst (N := 3) rfl ?_); refine box_event rfl (N := 3) rfl (cs := #[.int .i64 a1_0, .int .i64 a1_1]) (t := 32) BX ?_; intro gb101 hg w26 hbox hb; have BK101 := am (hbox); have GW101 := am ((GL hg (below_size (KL HB)) : w.heap.size ≤ gb101)); have GE101 := GW101; replace HB := am (below_step (KL HB) hb); clear hb hbox hg) | ((with_reducible refine gate_callee (f := 58) rfl ?_); refine goesL_ (some 9) rfl rfl Try.func58 (by kernel_rfl) rfl #[.slice A0 l0.length c0] rfl MT ?_; (with_reducible refine (spec_WaysOk.calls k _ _ l0 true _ ?side1 ?side2 A3.out).mono ?_); (case side1 => exact KC (Kd.C_below HR0.out HB.out)); (case side2 => exact HC0.out); rintro e w27 ⟨rfl, hb⟩; refine ⟨_, rfl, ?_⟩; replace BK101 := am (BB BK101 hb); replace HB := am (below_step (K1 HB GE101.out) hb); (try clear hb); (try clear hb2); (try clear hk); (try clear hi); have hcz28_0 := z0 w27 BK101.out; have hcz28_1 := z1 w27 BK101.out; have hfz28_0 := blk_frozen BK101.out 0; have hfz28_1 := blk_frozen BK101.out 1) | ((with_reducible refine gate_callee (f := 118) rfl ?_); refine goesL_ (some 15) rfl rfl Try.func118 (by kernel_rfl) rfl #[.slice A0 l0.length c0, .agg #[.int .i64 a1_0, .int .i64 a1_1]] rfl MT ?_; (with_reducible refine (spec_l3At.calls k _ _ l0 a1_0 a1_1 t106 false _ ?side1 ?side2 A5.out).mono ?_); (case side1 => exact KC (Kd.C_below HR0.out HB.out)); (case side2 => exact HC0.out); rintro e w29 ⟨rfl, hb⟩; refine ⟨_, rfl, ?_⟩; replace BK101 := am (BB BK101 hb); replace HB := am (below_step (K1 HB GE101.out) hb); (try clear hb); (try clear hb2); (try clear hk); (try clear hi)) | ((with_reducible refine gate_callee (f := 119) rfl ?_); refine goesL_ (some 21) rfl rfl Try.func119 (by kernel_rfl) rfl #[.slice A0 l0.length c0] rfl MT ?_; (with_reducible refine (spec_l3Copy.calls _ _ l0 t125 _ ?side1 ?side2 A25.out).mono ?_); (case side1 => exact KC (Kd.C_below HR0.out HB.out)); (case side2 => exact HC0.out); rintro e w30 ⟨v126, rfl, ho0, hb⟩; refine ⟨_, rfl, ?_⟩; have HO127 := am (Kd.R_lower ho0 (below_size (K1 HB GE101.out))); replace BK101 := am (BB BK101 hb); replace HB := am (below_step (K1 HB GE101.out) hb); (try clear hb); (try clear hb2); (try clear hk); (try clear hi); (try clear ho0)))
   go_ret2
   exact ⟨_, by first | rfl | (simp [errW_none, errW_some] <;> rfl) | (simp [*, errW_none, errW_some] <;> rfl), by (with_reducible repeat (first | apply Kd.R_alloc | apply Kd.R_drewN | apply Kd.R_drew)); exact HO127.out, K1 HB GE101.out⟩
 ·replace c4 := Bool.eq_false_iff.mpr c4
  subst c4
  have H1 : (some ((([] : List (S86))), false)) = some (r1, r2) := by rw [if_neg (show ¬ (false = true) by decide)] at H; exact H
  clear H
  have H := H1
  clear H1
  obtain ⟨y103, hy103⟩ : ∃ y_ : List (S86), y_ = (([] : List (S86))) := ⟨_, rfl⟩
  replace H : (some (y103, false)) = some (r1, r2) := by first | (rw [hy103]; with_reducible exact H) | (have H2_ := (Option.bind_some _ _).symm.trans H; rw [hy103]; with_reducible exact H2_) | (have H2_ := (Option.bind_some _ _).symm.trans H; with_reducible exact H2_) | with_reducible exact H | (rw [hy103]; exact H) | exact H
  have Ny103 := Aside0.mk hy103
  clear hy103
  simp only [Option.some.injEq, Prod.mk.injEq] at H
  obtain ⟨rfl, rfl⟩ := H
  go_enter Try.func66, Try.ntmps66
  go_wp2_with (first | ((with_reducible refine gate_dst (N := 3) rfl ?_); refine box_event rfl (N := 3) rfl (cs := #[.int .i64 a1_0, .int .i64 a1_1]) (t := 32) BX ?_; intro gb101 hg w31 hbox hb; have BK101 := am (hbox); have GW101 := am ((GL hg (below_size (KL HB)) : w.heap.size ≤ gb101)); have GE101 := GW101; replace HB := am (below_step (KL HB) hb); clear hb hbox hg) | ((with_reducible refine gate_callee (f := 58) rfl ?_); refine goesL_ (some 9) rfl rfl Try.func58 (by kernel_rfl) rfl #[.slice A0 l0.length c0] rfl MT ?_; (with_reducible refine (spec_WaysOk.calls k _ _ l0 false _ ?side1 ?side2 A3.out).mono ?_); (case side1 => exact KC (Kd.C_below HR0.out HB.out)); (case side2 => exact HC0.out); rintro e w32 ⟨rfl, hb⟩; refine ⟨_, rfl, ?_⟩; replace BK101 := am (BB BK101 hb); replace HB := am (below_step (K1 HB GE101.out) hb); (try clear hb); (try clear hb2); (try clear hk); (try clear hi)) | ((with_reducible refine gate_dst (N := 11) rfl ?_); refine Kd.R_lit k86 _ 86 ?hg (N := 11) ?hd (xs := ([] : List (S86))) (inner := []) (ok := fun _ => True) (okp := fun _ => True) ?hr ?hp (fun _ hk => hk) trivial (Below.refl _ _) (Nat.le_refl _) (by simp) ?_; (case hd => rfl); (case hg => rfl); (case hr => first | (go_simp; done) | (go_simp; rfl)); (case hp => exact (Reps.none _ _)); intro v104 w33 ho34 hb hg_ hnew_; clear hg_ hnew_; (first | rw [← Ny103.out] at ho34 | (simp only [Int.reduceToNat] at ho34; rw [← Ny103.out] at ho34)); have HO105 := am (Kd.R_lower ho34 (below_size (K1 HB GE101.out))); replace BK101 := am (BB BK101 hb); replace HB := am (below_step (K1 HB GE101.out) hb); clear hb ho34))
  go_ret2
  exact ⟨_, by first | rfl | (simp [errW_none, errW_some] <;> rfl) | (simp [*, errW_none, errW_some] <;> rfl), by (with_reducible repeat (first | apply Kd.R_alloc | apply Kd.R_drewN | apply Kd.R_drew)); exact HO105.out, K1 HB GE101.out⟩
end Go.Proofs.Ytioghacieopbdaa.PAll
end
