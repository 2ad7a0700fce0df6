/- Contracts of the functions that the statement reaches, printed by a program out of the translation and joined with the plain laws. -/
import Derived.Test.YtioghacieopbdaaCFnCacheFind3
import Derived.Test.YtioghacieopbdaaCFnCacheFind4
import Derived.Test.YtioghacieopbdaaCFnCacheFind6
import Derived.Test.YtioghacieopbdaaCFnCacheFind8
section
namespace Go.Proofs.Ytioghacieopbdaa.PAll
open Go.RowKit Go.Proofs.YtioghacieopbdaaW.PrintWords Go.Proofs.YtioghacieopbdaaW.PrintLast Go.Proofs.YtioghacieopbdaaW.PrintMore
attribute [local go_sem] max2_int min2_int max_two min_two max_three min_three max_four min_four   -- for this text's walks alone
set_option linter.unusedVariables false
set_option linter.unusedSimpArgs false
attribute [local go_sem high] eqA25
def spec_l5Find.l0 : Nat → Int → Int → Int → List (S108) → Int → Int → Int → Int → List (S108) → Option (Int × (List (S108)) × Int)
 | 0, _, _, _, _, _, _, _, _, _ => none
 | k + 1, x8, x10, x102000, x102001, x103000, x103001, x103002, x109000, x109001 => if x10 < (x102001.length : Int) then (if 0 ≤ x10 then (if (!(((rd_T108 x102001 x10).f0.f0) == x103000) || (!(((rd_T108 x102001 x10).f0.f1) == x103001) || (!(((rd_T108 x102001 x10).f0.f2) == x103002)))) = true then (if x109001.length < 4398046511104 then (spec_l5Find.l0 k x8 (wrap64 (x10 + 1)) x102000 x102001 x103000 x103001 x103002 x109000 (x109001 ++ [(⟨(⟨(rd_T108 x102001 x10).f0.f0, (rd_T108 x102001 x10).f0.f1, (rd_T108 x102001 x10).f0.f2⟩ : S25), (rd_T108 x102001 x10).f1⟩ : S108)])) else (none)) else (spec_l5Find.l0 k x8 (wrap64 (x10 + 1)) x102000 x102001 x103000 x103001 x103002 x109000 x109001)) else (none)) else (if (x109001.length : Int) > x102000 then (if 0 ≤ x102000 then (if x102000 ≤ (x109001.length : Int) then (some (x109000, (x109001.take (x102000 : Int).toNat), x8)) else (none)) else (none)) else (some (x109000, x109001, x8)))
def spec_l5Find.f (k : Nat) (l0 : List (S34)) (a1_0 : Int) (l1_1 : List (S108)) (a2_0 : Int) (a2_1 : Int) (a2_2 : Int) : Option (Int × (List (S108)) × Int) := (spec_l4First.f k l0 a2_0 a2_1 a2_2).bind fun t104 => (spec_l5Find.l0 k t104 0 a1_0 l1_1 a2_0 a2_1 a2_2 a1_0 (([(⟨(⟨a2_0, a2_1, a2_2⟩ : S25), t104⟩ : S108)] : List (S108))))
def spec_l5Find.T6 : Bool × List (List Nat × List Nat) := (true, [([], []), ([0], [0]), ([], []), ([1, 2], [1, 2]), ([3], [3]), ([4], [4]), ([], []), ([5, 6], [5, 6])])
def spec_l5Find.B6 : List Nat := [0, 1, 0, 7, 15, 31, 0, 127]
theorem spec_l5Find.tab6 : rtab .any (opsOf Try.f94 6) = spec_l5Find.T6 := by kernel_rfl
theorem spec_l5Find.bits6 : waitsOk spec_l5Find.T6.2 spec_l5Find.B6 = true := by kernel_rfl
def spec_l5Find.T7 : Bool × List (List Nat × List Nat) := (true, [([], []), ([0], [0]), ([], []), ([2], [2]), ([], []), ([3, 4], [3, 4]), ([5], [5]), ([6], [6]), ([1, 7], [1, 7]), ([0, 1, 2, 3, 4, 5, 6, 7, 8], []), ([9, 8, 8, 0, 1, 2, 3, 4, 5, 6, 7, 8], [8, 9])])
def spec_l5Find.B7 : List Nat := [0, 1, 0, 4, 0, 28, 60, 124, 255, 511, 1023]
theorem spec_l5Find.tab7 : rtab .any (opsOf Try.f94 7) = spec_l5Find.T7 := by kernel_rfl
theorem spec_l5Find.bits7 : waitsOk spec_l5Find.T7.2 spec_l5Find.B7 = true := by kernel_rfl
set_option maxHeartbeats 8000000 in
set_option maxRecDepth 100000 in
theorem spec_l5Find.calls (k : Nat) (A0 : Option Addr) (c0 : Nat) (l0 : List (S34)) (a1_0 : Int) (A1_1 : Option Addr) (c1_1 : Nat) (l1_1 : List (S108)) (a2_0 : Int) (a2_1 : Int) (a2_2 : Int) (r1 : Int) (r2 : List (S108)) (r3 : Int) (w : World) (hr0 : Kd.C k34 w A0 l0.length l0) (hc0 : l0.length ≤ c0) (hr1_1 : Kd.C k108 w A1_1 l1_1.length l1_1) (hc1_1 : l1_1.length ≤ c1_1) (h : spec_l5Find.f k l0 a1_0 l1_1 a2_0 a2_1 a2_2 = some (r1, r2, r3)) :
  Calls Try.prog 94 #[.slice A0 l0.length c0, .agg #[.int .i64 a1_0, .slice A1_1 l1_1.length c1_1], .agg #[.int .i64 a2_0, .int .i64 a2_1, .int .i64 a2_2]] w fun e w' => ∃ v1_ : Value, e = .returned (.tuple #[.agg #[.int .i64 r1, v1_], .int .i64 r3]) ∧ Kd.R k108 108 w' w.heap.size (fun _ => True) v1_ r2 ∧ Below w.heap.size w w' := by
 have hu46 := Try.underlying46
 have hu25 := Try.underlying25
 have hu108 := Try.underlying108
 have HR0 := Aside0.mk hr0
 have HC0 := Aside0.mk hc0
 clear hr0 hc0
 have HR1_1 := Aside0.mk hr1_1
 have HC1_1 := Aside0.mk hc1_1
 clear hr1_1 hc1_1
 have HB := am (Below.refl w.heap.size w)
 have H : ((spec_l4First.f k l0 a2_0 a2_1 a2_2).bind fun t104 => (spec_l5Find.l0 k t104 0 a1_0 l1_1 a2_0 a2_1 a2_2 a1_0 (([(⟨(⟨a2_0, a2_1, a2_2⟩ : S25), t104⟩ : S108)] : List (S108))))) = some (r1, r2, r3) := h
 clear h
 replace H := Option.bind_eq_some_iff.mp H
 obtain ⟨t104, A40, H⟩ := H
 replace H : (spec_l5Find.l0 k t104 0 a1_0 l1_1 a2_0 a2_1 a2_2 a1_0 (([(⟨(⟨a2_0, a2_1, a2_2⟩ : S25), t104⟩ : S108)] : List (S108)))) = some (r1, r2, r3) := H
 have A4 := Aside0.mk A40
 clear A40
 obtain ⟨y105, hy105⟩ : ∃ y_ : List (S108), y_ = (([(⟨(⟨a2_0, a2_1, a2_2⟩ : S25), t104⟩ : S108)] : List (S108))) := ⟨_, rfl⟩
 replace H : (spec_l5Find.l0 k t104 0 a1_0 l1_1 a2_0 a2_1 a2_2 a1_0 y105) = some (r1, r2, r3) := by first | (rw [hy105]; with_reducible exact H) | (have H2_ := (Option.bind_some _ _).symm.trans H; rw [hy105]; with_reducible exact H2_) | (have H2_ := (Option.bind_some _ _).symm.trans H; with_reducible exact H2_) | with_reducible exact H | (rw [hy105]; exact H) | exact H
 have Ny105 := Aside0.mk hy105
 clear hy105
 have H' := Aside0.mk H
 clear H
 go_enter Try.func94, Try.ntmps94
 go_wp2_with (first | ((with_reducible refine gate_dst (N := 4) rfl ?_); refine box_event rfl (N := 4) rfl (cs := #[.int .i64 a1_0, .slice A1_1 l1_1.length c1_1]) (t := 46) BX ?_; intro gb101 hg w5 hbox hb; have BK101 := am (hbox); have GW101 := am ((GL hg (below_size (KL HB)) : w.heap.size ≤ gb101)); have GE101 := GW101; replace HB := am (below_step (KL HB) hb); clear hb hbox hg) | ((with_reducible refine gate_dst (N := 5) rfl ?_); refine box_event rfl (N := 5) rfl (cs := #[.int .i64 a2_0, .int .i64 a2_1, .int .i64 a2_2]) (t := 25) BX ?_; intro gb102 hg w6 hbox hb; have BK102 := am (hbox); have GW102 := am ((GL hg (below_size (K1 HB GE101.out)) : w.heap.size ≤ gb102)); have GE102 := GW102; replace HB := am (below_step (K1 HB GE101.out) hb); have NB101_102 := am (NL BK101 hg); have NB102_101 := am (NG BK101 hg); replace BK101 := am (BB BK101 hb); clear hb hbox hg) | ((with_reducible refine gate_dst (N := 6) rfl ?_); refine box_event rfl (N := 6) rfl (cs := #[.int .i64 0, .slice none 0 0]) (t := 46) BX ?_; intro gb103 hg w7 hbox hb; have BK103 := am (hbox); have GW103 := am ((GL hg (below_size (K2 HB GE101.out GE102.out)) : w.heap.size ≤ gb103)); have GE103 := GW103; replace HB := am (below_step (K2 HB GE101.out GE102.out) hb); have NB101_103 := am (NL BK101 hg); have NB103_101 := am (NG BK101 hg); replace BK101 := am (BB BK101 hb); have NB102_103 := am (NL BK102 hg); have NB103_102 := am (NG BK102 hg); replace BK102 := am (BB BK102 hb); clear hb hbox hg; have hnb8 := NB102_101.out; have hnc8 := NB101_102.out; have hnb9 := NB102_103.out; have hnc9 := NB103_102.out; have hcz10_0 := z0 w7 BK102.out; have hcz10_1 := z1 w7 BK102.out; have hcz10_2 := z2 w7 BK102.out; have hfz10_0 := blk_frozen BK102.out 0; have hfz10_1 := blk_frozen BK102.out 1; have hfz10_2 := blk_frozen BK102.out 2) | ((with_reducible refine gate_callee (f := 76) rfl ?_); refine goesL_ (some 13) rfl rfl Try.func76 (by kernel_rfl) rfl #[.slice A0 l0.length c0, .agg #[.int .i64 a2_0, .int .i64 a2_1, .int .i64 a2_2]] rfl MT ?_; (with_reducible refine (spec_l4First.calls k _ _ l0 a2_0 a2_1 a2_2 t104 _ ?side1 ?side2 A4.out).mono ?_); (case side1 => exact KC (Kd.C_below HR0.out HB.out)); (case side2 => exact HC0.out); rintro e w11 ⟨rfl, hb⟩; refine ⟨_, rfl, ?_⟩; replace BK101 := am (BB BK101 hb); replace BK102 := am (BB BK102 hb); replace BK103 := am (BB BK103 hb); replace HB := am (below_step (K3 HB GE101.out GE102.out GE103.out) hb); (try clear hb); (try clear hb2); (try clear hk); (try clear hi); have hnb12 := NB101_103.out; have hnc12 := NB103_101.out; have hcz13_0 := z0 w11 BK101.out; have hcz13_1 := z1 w11 BK101.out; have hfz13_0 := blk_frozen BK101.out 0; have hfz13_1 := blk_frozen BK101.out 1; have hcz14_0 := z0 w11 BK102.out; have hcz14_1 := z1 w11 BK102.out; have hcz14_2 := z2 w11 BK102.out; have hfz14_0 := blk_frozen BK102.out 0; have hfz14_1 := blk_frozen BK102.out 1; have hfz14_2 := blk_frozen BK102.out 2) | ((with_reducible refine gate_dst (N := 19) rfl ?_); refine Kd.R_lit k108 _ 108 ?hg (N := 19) ?hd (xs := ([(⟨(⟨a2_0, a2_1, a2_2⟩ : S25), t104⟩ : S108)] : List (S108))) (inner := [.int .i64 a2_0, .int .i64 a2_1, .int .i64 a2_2, .int .i64 t104]) (ok := fun _ => True) (okp := fun _ => True) ?hr ?hp (fun _ hk => hk) trivial (Below.refl _ _) (Nat.le_refl _) (by simp) ?_; (case hd => rfl); (case hg => rfl); (case hr => first | (go_simp; done) | (go_simp; rfl)); (case hp => exact (Reps.c4 (show Kd.M k108 _ _ _ (⟨(⟨a2_0, a2_1, a2_2⟩ : S25), t104⟩ : S108) [.int .i64 a2_0, .int .i64 a2_1, .int .i64 a2_2, .int .i64 t104] from (k108_mkM _ _ _ (⟨(⟨a2_0, a2_1, a2_2⟩ : S25), t104⟩ : S108) )) (Reps.none _ _))); intro v106 w15 ho16 hb hg_ hnew_; clear hg_ hnew_; (first | rw [← Ny105.out] at ho16 | (simp only [Int.reduceToNat] at ho16; rw [← Ny105.out] at ho16)); have HO107 := am (Kd.R_lower ho16 (below_size (K3 HB GE101.out GE102.out GE103.out))); replace BK101 := am (BB BK101 hb); replace BK102 := am (BB BK102 hb); replace BK103 := am (BB BK103 hb); replace HB := am (below_step (K3 HB GE101.out GE102.out GE103.out) hb); clear hb ho16; obtain ⟨Ao17, co17, eo17⟩ := Kd.R_slice HO107.out; subst eo17) | ((with_reducible refine gate_dst (N := 9) rfl ?_); refine box_event rfl (N := 9) rfl (cs := #[.int .i64 0, .slice none 0 0]) (t := 46) BX ?_; intro gb108 hg w18 hbox hb; replace HO107 := am (Kd.R_below (KR HO107) hb); have BK108 := am (hbox); have GW108 := am ((GL hg (below_size (K3 HB GE101.out GE102.out GE103.out)) : w.heap.size ≤ gb108)); have GE108 := GW108; replace HB := am (below_step (K3 HB GE101.out GE102.out GE103.out) hb); have NB101_108 := am (NL BK101 hg); have NB108_101 := am (NG BK101 hg); replace BK101 := am (BB BK101 hb); have NB102_108 := am (NL BK102 hg); have NB108_102 := am (NG BK102 hg); replace BK102 := am (BB BK102 hb); have NB103_108 := am (NL BK103 hg); have NB108_103 := am (NG BK103 hg); replace BK103 := am (BB BK103 hb); clear hb hbox hg; have hnb19 := NB108_101.out; have hnc19 := NB101_108.out; have hnb20 := NB108_102.out; have hnc20 := NB102_108.out; have hnb21 := NB108_103.out; have hnc21 := NB103_108.out; have hcz22_0 := z0 w18 BK108.out; have hcz22_1 := z1 w18 BK108.out; have hfz22_0 := blk_frozen BK108.out 0; have hfz22_1 := blk_frozen BK108.out 1))
 go_loopg [10] k (fun kq v10 w' => ∃ (x10_1 : Int) (x109001_1 : List (S108)) (u109001 : Value), v10 = .int .i64 x10_1 ∧ Aside0 (spec_l5Find.l0 kq t104 x10_1 a1_0 l1_1 a2_0 a2_1 a2_2 a1_0 x109001_1 = some (r1, r2, r3)) ∧ Aside0 (kq ≤ k) ∧ Aside0 (Kd.R k108 108 w' w.heap.size (fun _ => True) u109001 x109001_1) ∧ Aside0 (w'.heap[gb101]? = some (.cells #[.int .i64 a1_0, (.slice A1_1 l1_1.length c1_1)] 46 (0, 0))) ∧ Aside0 (w'.heap[gb102]? = some (.cells #[.int .i64 a2_0, .int .i64 a2_1, .int .i64 a2_2] 25 (0, 0))) ∧ Aside0 (w'.heap[gb103]? = some (.cells #[.int .i64 0, (.slice none 0 0)] 46 (0, 0))) ∧ Aside0 (w'.heap[gb108]? = some (.cells #[.int .i64 a1_0, u109001] 46 (0, 0))) ∧ Aside0 (Below w.heap.size w w'))
 case atStart => exact ⟨(0), (y105), (.slice Ao17 y105.length co17), (by first | rfl | (simp; done) | (simp [*]; done)), H', ⟨Nat.le_refl _⟩, ⟨by (with_reducible repeat (first | apply Kd.R_alloc | apply Kd.R_drewN | apply Kd.R_drew)); exact Kd.R_mono (Kd.R_far (p := ⟨gb108, 1, none⟩) (Kd.R_far (p := ⟨gb108, 0, none⟩) (Kd.R_types HO107.out BK108.out (by decide)) (fun _ hk => hk.2) (.int .i64 a1_0)) (fun _ hk => hk.2) (.slice Ao17 y105.length co17)) (fun _ hk => trivial)⟩, ⟨by (with_reducible repeat (first | refine blk_drewN ?_ _ | refine blk_drew ?_ | refine blk_alloc ?_ _)); refine blk_far ?_ NB101_108.out _; (with_reducible repeat (first | refine blk_drewN ?_ _ | refine blk_drew ?_ | refine blk_alloc ?_ _)); refine blk_far ?_ NB101_108.out _; (with_reducible repeat (first | refine blk_drewN ?_ _ | refine blk_drew ?_ | refine blk_alloc ?_ _)); exact BK101.out⟩, ⟨by (with_reducible repeat (first | refine blk_drewN ?_ _ | refine blk_drew ?_ | refine blk_alloc ?_ _)); refine blk_far ?_ NB102_108.out _; (with_reducible repeat (first | refine blk_drewN ?_ _ | refine blk_drew ?_ | refine blk_alloc ?_ _)); refine blk_far ?_ NB102_108.out _; (with_reducible repeat (first | refine blk_drewN ?_ _ | refine blk_drew ?_ | refine blk_alloc ?_ _)); exact BK102.out⟩, ⟨by (with_reducible repeat (first | refine blk_drewN ?_ _ | refine blk_drew ?_ | refine blk_alloc ?_ _)); refine blk_far ?_ NB103_108.out _; (with_reducible repeat (first | refine blk_drewN ?_ _ | refine blk_drew ?_ | refine blk_alloc ?_ _)); refine blk_far ?_ NB103_108.out _; (with_reducible repeat (first | refine blk_drewN ?_ _ | refine blk_drew ?_ | refine blk_alloc ?_ _)); exact BK103.out⟩, ⟨by (with_reducible repeat (first | refine blk_drewN ?_ _ | refine blk_drew ?_ | refine blk_alloc ?_ _)); refine blk_put (cs := #[.int .i64 a1_0, .slice none 0 0]) ?_ 1 _ rfl; (with_reducible repeat (first | refine blk_drewN ?_ _ | refine blk_drew ?_ | refine blk_alloc ?_ _)); refine blk_put (cs := #[.int .i64 0, .slice none 0 0]) ?_ 0 _ rfl; (with_reducible repeat (first | refine blk_drewN ?_ _ | refine blk_drew ?_ | refine blk_alloc ?_ _)); exact BK108.out⟩, ⟨K4 HB GE101.out GE102.out GE103.out GE108.out⟩⟩
 case round =>
  clear H'
  try clear c1
  try clear c2
  try clear p2
  try clear c4
  try clear c7
  try clear c8
  try clear c9
  try clear c12
  try clear c19
  try clear c20
  try clear c21
  try clear hcz10_0
  try clear hcz10_1
  try clear hcz10_2
  try clear hcz13_0
  try clear hcz13_1
  try clear hcz14_0
  try clear hcz14_1
  try clear hcz14_2
  try clear hcz22_0
  try clear hcz22_1
  try clear hfz10_0
  try clear hfz10_1
  try clear hfz10_2
  try clear hfz13_0
  try clear hfz13_1
  try clear hfz14_0
  try clear hfz14_1
  try clear hfz14_2
  try clear hfz22_0
  try clear hfz22_1
  obtain ⟨x10_1, x109001_1, u109001, rfl, HA, HK1, HO_109001, BK101, BK102, BK103, BK108, HB⟩ := hrel
  cases gk with
  | zero => exact absurd HA.out (by simp [spec_l5Find.l0])
  | succ k1 =>
   have H := HA.out
   clear HA
   simp only [spec_l5Find.l0] at H
   by_cases c23 : x10_1 < (l1_1.length : Int)
   ·rw [if_pos c23] at H
    have c23b0 : decide (x10_1 < (l1_1.length : Int)) = true := decide_eq_true c23
    clear c23
    by_cases c24 : 0 ≤ x10_1
    ·rw [if_pos c24] at H
     have c24b0 : decide (0 ≤ x10_1) = true := decide_eq_true c24
     clear c24
     by_cases c25 : (!(((rd_T108 l1_1 x10_1).f0.f0) == a2_0) || (!(((rd_T108 l1_1 x10_1).f0.f1) == a2_1) || (!(((rd_T108 l1_1 x10_1).f0.f2) == a2_2)))) = true
     ·rw [if_pos c25] at H
      have c25b0 : (!(((rd_T108 l1_1 x10_1).f0.f0) == a2_0) || (!(((rd_T108 l1_1 x10_1).f0.f1) == a2_1) || (!(((rd_T108 l1_1 x10_1).f0.f2) == a2_2)))) = true := c25
      clear c25
      by_cases c26 : x109001_1.length < 4398046511104
      ·rw [if_pos c26] at H
       have LMc26 := Aside0.mk c26
       clear c26
       obtain ⟨y111, hy111⟩ : ∃ y_ : List (S108), y_ = (x109001_1 ++ [(⟨(⟨(rd_T108 l1_1 x10_1).f0.f0, (rd_T108 l1_1 x10_1).f0.f1, (rd_T108 l1_1 x10_1).f0.f2⟩ : S25), (rd_T108 l1_1 x10_1).f1⟩ : S108)]) := ⟨_, rfl⟩
       replace H : (spec_l5Find.l0 k1 t104 (wrap64 (x10_1 + 1)) a1_0 l1_1 a2_0 a2_1 a2_2 a1_0 y111) = some (r1, r2, r3) := by first | (rw [hy111]; with_reducible exact H) | (have H2_ := (Option.bind_some _ _).symm.trans H; rw [hy111]; with_reducible exact H2_) | (have H2_ := (Option.bind_some _ _).symm.trans H; with_reducible exact H2_) | with_reducible exact H | (rw [hy111]; exact H) | exact H
       have Ny111 := Aside0.mk hy111
       clear hy111
       have H' := Aside0.mk H
       clear H
       have hnb27 := NB101_102.out
       have hnc27 := NB102_101.out
       have hnb28 := NB101_103.out
       have hnc28 := NB103_101.out
       have hnb29 := NB101_108.out
       have hnc29 := NB108_101.out
       have hcz30_0 := z0 wr BK101.out
       have hcz30_1 := z1 wr BK101.out
       have hfz30_0 := blk_frozen BK101.out 0
       have hfz30_1 := blk_frozen BK101.out 1
       try go_wp2
       replace HO_109001 := am (Kd.R_drew HO_109001.out)
       replace BK101 := am (blk_drew BK101.out)
       replace BK102 := am (blk_drew BK102.out)
       replace BK103 := am (blk_drew BK103.out)
       replace BK108 := am (blk_drew BK108.out)
       replace HB := am (below_drew1 HB.out)
       have p109 : 0 ≤ (x10_1 : Int) := of_decide_eq_true (by first | (with_reducible assumption) | assumption)
       have q109 : x10_1 < (l1_1.length : Int) := of_decide_eq_true (by first | (with_reducible assumption) | assumption)
       obtain ⟨ad109, e109, hx109_0, hx109_1, hx109_2, hx109_3⟩ := at_T108 HR1_1.out x10_1 p109 q109
       have hw109_3 := hx109_3
       have hw109_2 := hx109_2
       have hw109_1 := hx109_1
       have hw109_0 := hx109_0
       cases e109
       replace hx109_0 := (HB.out.cell (World.block_lt_of_cell? w _ hx109_0)).trans hx109_0
       replace hx109_1 := (HB.out.cell (World.block_lt_of_cell? w _ hx109_1)).trans hx109_1
       replace hx109_2 := (HB.out.cell (World.block_lt_of_cell? w _ hx109_2)).trans hx109_2
       replace hx109_3 := (HB.out.cell (World.block_lt_of_cell? w _ hx109_3)).trans hx109_3
       replace p109 := eq_true p109
       replace q109 := eq_true q109
       refine start_ (n := 8) (S := fun w' => w'.cell? ⟨gb101, 0, none⟩ = some (.int .i64 a1_0) ∧ w'.cell? ⟨gb101, 1, none⟩ = some (.slice (some ad109) l1_1.length c1_1) ∧ w'.cell? ⟨gb102, 0, none⟩ = some (.int .i64 a2_0) ∧ w'.cell? ⟨gb102, 1, none⟩ = some (.int .i64 a2_1) ∧ w'.cell? ⟨gb102, 2, none⟩ = some (.int .i64 a2_2) ∧ w'.cell? (ad109.add ((x10_1).toNat * 4)) = some (.int .i64 ((rd_T108 l1_1 x10_1).f0.f0)) ∧ w'.cell? ⟨(ad109.add ((x10_1).toNat * 4)).block, (ad109.add ((x10_1).toNat * 4)).off + 1, none⟩ = some (.int .i64 ((rd_T108 l1_1 x10_1).f0.f1)) ∧ w'.cell? ⟨(ad109.add ((x10_1).toNat * 4)).block, (ad109.add ((x10_1).toNat * 4)).off + 2, none⟩ = some (.int .i64 ((rd_T108 l1_1 x10_1).f0.f2)) ∧ w'.cell? ⟨(ad109.add ((x10_1).toNat * 4)).block, (ad109.add ((x10_1).toNat * 4)).off + 3, none⟩ = some (.int .i64 ((rd_T108 l1_1 x10_1).f1))) (ds := []) (tf 0 8) (by kernel_rfl) rfl rfl ⟨z0 _ BK101.out, z1 _ BK101.out, z0 _ BK102.out, z1 _ BK102.out, z2 _ BK102.out, ((HB.out.cell (World.block_lt_of_cell? w _ hw109_0)).trans hw109_0), ((HB.out.cell (World.block_lt_of_cell? w _ hw109_1)).trans hw109_1), ((HB.out.cell (World.block_lt_of_cell? w _ hw109_2)).trans hw109_2), ((HB.out.cell (World.block_lt_of_cell? w _ hw109_3)).trans hw109_3)⟩ (fun hHeld => ?_); refine with_tabW spec_l5Find.tab6 spec_l5Find.bits6 (fun HT_ HW_ => ?_)
       generalize wr.drew = w31 at HO_109001 BK101 BK102 BK103 BK108 HB hx109_0 hx109_1 hx109_2 hx109_3 hHeld ⊢
       refine pu 0 (some 28) (tf 1 7) (any_of HT_.out (by kernel_rfl)) ?_
       refine pu 2 (some 30) #[true, false, true, false, false, false, false, false] (any_of HT_.out (by kernel_rfl)) ?_
       refine tk 1 (some 29) (tf 3 5) (take_ofW HT_.out HW_.out (by kernel_rfl)) hHeld ?_
       refine pu 3 (some 31) (tf 4 4) (any_of HT_.out (by kernel_rfl)) ?_
       refine pu 4 (some 32) (tf 5 3) (any_of HT_.out (by kernel_rfl)) ?_
       refine tk 5 (some 33) (tf 6 2) (take_ofW HT_.out HW_.out (by kernel_rfl)) hHeld ?_
       refine tk 6 (some 34) (tf 7 1) (take_ofW HT_.out HW_.out (by kernel_rfl)) hHeld ?_
       refine pu 7 (some 35) (tf 8 0) (any_of HT_.out (by kernel_rfl)) ?_
       refine done_ (done_of HT_.out (by kernel_rfl)) ?_
       try go_wp2
       replace HO_109001 := am (Kd.R_drew HO_109001.out)
       replace BK101 := am (blk_drew BK101.out)
       replace BK102 := am (blk_drew BK102.out)
       replace BK103 := am (blk_drew BK103.out)
       replace BK108 := am (blk_drew BK108.out)
       replace HB := am (below_drew1 HB.out)
       have p110 : 0 ≤ (x10_1 : Int) := of_decide_eq_true (by first | (with_reducible assumption) | assumption)
       have q110 : x10_1 < (l1_1.length : Int) := of_decide_eq_true (by first | (with_reducible assumption) | assumption)
       obtain ⟨ad110, e110, hx110_0, hx110_1, hx110_2, hx110_3⟩ := at_T108 HR1_1.out x10_1 p110 q110
       have hw110_3 := hx110_3
       have hw110_2 := hx110_2
       have hw110_1 := hx110_1
       have hw110_0 := hx110_0
       obtain rfl : ad109 = ad110 := (by injection e110)
       replace hx110_0 := (HB.out.cell (World.block_lt_of_cell? w _ hx110_0)).trans hx110_0
       replace hx110_1 := (HB.out.cell (World.block_lt_of_cell? w _ hx110_1)).trans hx110_1
       replace hx110_2 := (HB.out.cell (World.block_lt_of_cell? w _ hx110_2)).trans hx110_2
       replace hx110_3 := (HB.out.cell (World.block_lt_of_cell? w _ hx110_3)).trans hx110_3
       replace p110 := eq_true p110
       replace q110 := eq_true q110
       refine start_ (n := 11) (S := fun w' => w'.cell? ⟨gb108, 0, none⟩ = some (.int .i64 a1_0) ∧ w'.cell? ⟨gb108, 1, none⟩ = some (u109001) ∧ w'.cell? ⟨gb101, 0, none⟩ = some (.int .i64 a1_0) ∧ w'.cell? ⟨gb101, 1, none⟩ = some (.slice (some ad109) l1_1.length c1_1) ∧ w'.cell? (ad109.add ((x10_1).toNat * 4)) = some (.int .i64 ((rd_T108 l1_1 x10_1).f0.f0)) ∧ w'.cell? ⟨(ad109.add ((x10_1).toNat * 4)).block, (ad109.add ((x10_1).toNat * 4)).off + 1, none⟩ = some (.int .i64 ((rd_T108 l1_1 x10_1).f0.f1)) ∧ w'.cell? ⟨(ad109.add ((x10_1).toNat * 4)).block, (ad109.add ((x10_1).toNat * 4)).off + 2, none⟩ = some (.int .i64 ((rd_T108 l1_1 x10_1).f0.f2)) ∧ w'.cell? ⟨(ad109.add ((x10_1).toNat * 4)).block, (ad109.add ((x10_1).toNat * 4)).off + 3, none⟩ = some (.int .i64 ((rd_T108 l1_1 x10_1).f1))) (ds := [10]) (tf 0 11) (by kernel_rfl) rfl rfl ⟨z0 _ BK108.out, z1 _ BK108.out, z0 _ BK101.out, z1 _ BK101.out, ((HB.out.cell (World.block_lt_of_cell? w _ hw110_0)).trans hw110_0), ((HB.out.cell (World.block_lt_of_cell? w _ hw110_1)).trans hw110_1), ((HB.out.cell (World.block_lt_of_cell? w _ hw110_2)).trans hw110_2), ((HB.out.cell (World.block_lt_of_cell? w _ hw110_3)).trans hw110_3)⟩ (fun hHeld => ?_); refine with_tabW spec_l5Find.tab7 spec_l5Find.bits7 (fun HT_ HW_ => ?_)
       generalize w31.drew = w32 at HO_109001 BK101 BK102 BK103 BK108 HB hx110_0 hx110_1 hx110_2 hx110_3 hHeld ⊢
       refine pu 0 (some 36) (tf 1 10) (any_of HT_.out (by kernel_rfl)) ?_
       refine pu 2 (some 38) #[true, false, true, false, false, false, false, false, false, false, false] (any_of HT_.out (by kernel_rfl)) ?_
       refine pu 4 (some 40) #[true, false, true, false, true, false, false, false, false, false, false] (any_of HT_.out (by kernel_rfl)) ?_
       refine tk 1 (some 37) #[true, true, true, false, true, false, false, false, false, false, false] (take_ofW HT_.out HW_.out (by kernel_rfl)) hHeld ?_
       refine tk 3 (some 39) (tf 5 6) (take_ofW HT_.out HW_.out (by kernel_rfl)) hHeld ?_
       refine pu 5 (some 41) (tf 6 5) (any_of HT_.out (by kernel_rfl)) ?_
       refine tk 6 (some 42) (tf 7 4) (take_ofW HT_.out HW_.out (by kernel_rfl)) hHeld ?_
       refine one_ (i := 7) (N := some 43) (tf 8 3) rfl rfl (one_of HT_.out (by kernel_rfl)) (by decide) (fun K hK => ?_)
       refine value_ (w1 := ?_) (v := ?_) (by rfl) rfl ?_ ?_
       rotate_left 2
       ·go_simp
        constructor
        ·rfl
        ·rfl
       refine hK.out _ _ ⟨(blk_cell (blk_alloc BK108.out _) 0).trans rfl, (blk_cell (blk_alloc BK108.out _) 1).trans rfl, (blk_cell (blk_alloc BK101.out _) 0).trans rfl, (blk_cell (blk_alloc BK101.out _) 1).trans rfl, (World.cell?_alloc_lt _ _ _ (World.block_lt_of_cell? _ _ (((HB.out.cell (World.block_lt_of_cell? w _ hw110_0)).trans hw110_0)))).trans (((HB.out.cell (World.block_lt_of_cell? w _ hw110_0)).trans hw110_0)), (World.cell?_alloc_lt _ _ _ (World.block_lt_of_cell? _ _ (((HB.out.cell (World.block_lt_of_cell? w _ hw110_1)).trans hw110_1)))).trans (((HB.out.cell (World.block_lt_of_cell? w _ hw110_1)).trans hw110_1)), (World.cell?_alloc_lt _ _ _ (World.block_lt_of_cell? _ _ (((HB.out.cell (World.block_lt_of_cell? w _ hw110_2)).trans hw110_2)))).trans (((HB.out.cell (World.block_lt_of_cell? w _ hw110_2)).trans hw110_2)), (World.cell?_alloc_lt _ _ _ (World.block_lt_of_cell? _ _ (((HB.out.cell (World.block_lt_of_cell? w _ hw110_3)).trans hw110_3)))).trans (((HB.out.cell (World.block_lt_of_cell? w _ hw110_3)).trans hw110_3))⟩ (fun hHeld => ?_)
       clear hK K
       refine norm_ (a' := ?_) ?_ ?_
       rotate_left
       ·show Act.put _ (some 43) _ = _
        simp only [Act.put, List.setIfInBounds_toArray, List.set_cons_zero, List.set_cons_succ, i64_w, i32_w]
        rfl
       refine one_ (i := 8) (N := some 44) (tf 9 2) rfl rfl (one_of HT_.out (by kernel_rfl)) (by decide) (fun K hK => ?_)
       refine Kd.R_append_step k108 (w0 := w) w.heap.size (by rfl) (.tmp 37) (.tmp 43) 44 108 (.agg #[(.int .i64 0), (.int .i64 0), (.int .i64 0), (.int .i64 0)]) 32 rfl Try.underlying44 info108 rfl (by decide) (by omega) u109001 x109001_1 (⟨(⟨(rd_T108 l1_1 x10_1).f0.f0, (rd_T108 l1_1 x10_1).f0.f1, (rd_T108 l1_1 x10_1).f0.f2⟩ : S25), (rd_T108 l1_1 x10_1).f1⟩ : S108) [.int .i64 ((rd_T108 l1_1 x10_1).f0.f0), .int .i64 ((rd_T108 l1_1 x10_1).f0.f1), .int .i64 ((rd_T108 l1_1 x10_1).f0.f2), .int .i64 ((rd_T108 l1_1 x10_1).f1)] (fun _ => True) (fun _ => False) rfl rfl ?aP (fun _ hk => hk.elim) ?aF ?aO ?aB ?aS ?aL ?_
       (case aP => exact k108_mkM _ _ _ (⟨(⟨(rd_T108 l1_1 x10_1).f0.f0, (rd_T108 l1_1 x10_1).f0.f1, (rd_T108 l1_1 x10_1).f0.f2⟩ : S25), (rd_T108 l1_1 x10_1).f1⟩ : S108))
       (case aB => exact (K4 HB GE101.out GE102.out GE103.out GE108.out))
       (case aF => exact (fun _ _ => trivial))
       (case aO => exact (KR HO_109001))
       (case aS => exact (below_size (K4 HB GE101.out GE102.out GE103.out GE108.out)))
       (case aL => have := LMc26.out; omega)
       intro v112 w33 ho hb hg hat
       rw [← Ny111.out] at ho
       replace BK101 := am (blk_grown (g := gb101) (o := .cells #[.int .i64 a1_0, .slice (some ad109) l1_1.length c1_1] 46 (0, 0)) (KB BK101) hg (Kd.R_ne HO_109001.out BK101.out (by decide)))
       replace BK102 := am (blk_grown (g := gb102) (o := .cells #[.int .i64 a2_0, .int .i64 a2_1, .int .i64 a2_2] 25 (0, 0)) (KB BK102) hg (Kd.R_ne HO_109001.out BK102.out (by decide)))
       replace BK103 := am (blk_grown (g := gb103) (o := .cells #[.int .i64 0, .slice none 0 0] 46 (0, 0)) (KB BK103) hg (Kd.R_ne HO_109001.out BK103.out (by decide)))
       replace BK108 := am (blk_grown (g := gb108) (o := .cells #[.int .i64 a1_0, u109001] 46 (0, 0)) (KB BK108) hg (Kd.R_ne HO_109001.out BK108.out (by decide)))
       replace HB := am (hb)
       have HO113 := am (ho)
       clear HO_109001
       clear ho hb hg hat
       obtain ⟨Ao34, co34, eo34⟩ := Kd.R_slice HO113.out
       (first | subst eo34 | (injection eo34 with f1_ f2_ f3_; have f4_ := f1_.symm; have f5_ := f3_.symm; clear f1_ f2_ f3_; subst f4_; subst f5_))
       refine hK.out _ _ ⟨z0 _ BK108.out, z1 _ BK108.out, z0 _ BK101.out, z1 _ BK101.out, ((HB.out.cell (World.block_lt_of_cell? w _ hw110_0)).trans hw110_0), ((HB.out.cell (World.block_lt_of_cell? w _ hw110_1)).trans hw110_1), ((HB.out.cell (World.block_lt_of_cell? w _ hw110_2)).trans hw110_2), ((HB.out.cell (World.block_lt_of_cell? w _ hw110_3)).trans hw110_3)⟩ (fun hHeld => ?_)
       clear hK K
       refine norm_ (a' := ?_) ?_ ?_
       rotate_left
       ·show Act.put _ (some 44) _ = _
        simp only [Act.put, List.setIfInBounds_toArray, List.set_cons_zero, List.set_cons_succ, i64_w, i32_w]
        rfl
       refine pu 9 (some 45) (tf 10 1) (any_of HT_.out (by kernel_rfl)) ?_
       refine last_ (i := 10) (N := none) (tf 11 0) rfl rfl (one_of HT_.out (by kernel_rfl)) (by decide) (fun K hK => ?_)
       have hs35 : w33.cell? ⟨gb108, 1, none⟩ = some (u109001) := z1 _ BK108.out
       have hfs35 := blk_frozen BK108.out 1
       have hns35_0 := NB101_108.out
       have hns35_1 := NB102_108.out
       have hns35_2 := NB103_108.out
       have hms35_0 := NB108_101.out
       have hms35_1 := NB108_102.out
       have hms35_2 := NB108_103.out
       refine skip_ (w1 := ?_) (by rfl) rfl ?_ ?_
       rotate_left
       ·go_simp
        rfl
       refine hK.out _ _ ?_
       clear hK K
       refine done_ (done_of HT_.out (by kernel_rfl)) ?_
       try go_wp2
       go_roundg k1
       case measure => have := HK1.out; omega
       case rel => exact ⟨(wrap64 (x10_1 + 1)), (y111), (.slice Ao34 y111.length co34), (by first | rfl | (simp; done) | (simp [*]; done)), H', ⟨by have := HK1.out; omega⟩, ⟨by (with_reducible repeat (first | apply Kd.R_alloc | apply Kd.R_drewN | apply Kd.R_drew)); exact Kd.R_mono (Kd.R_far (p := ⟨gb108, 1, none⟩) (Kd.R_types HO113.out BK108.out (by decide)) (fun _ hk => hk.2) (.slice Ao34 y111.length co34)) (fun _ hk => trivial)⟩, ⟨by (with_reducible repeat (first | refine blk_drewN ?_ _ | refine blk_drew ?_ | refine blk_alloc ?_ _)); refine blk_far ?_ NB101_108.out _; (with_reducible repeat (first | refine blk_drewN ?_ _ | refine blk_drew ?_ | refine blk_alloc ?_ _)); exact BK101.out⟩, ⟨by (with_reducible repeat (first | refine blk_drewN ?_ _ | refine blk_drew ?_ | refine blk_alloc ?_ _)); refine blk_far ?_ NB102_108.out _; (with_reducible repeat (first | refine blk_drewN ?_ _ | refine blk_drew ?_ | refine blk_alloc ?_ _)); exact BK102.out⟩, ⟨by (with_reducible repeat (first | refine blk_drewN ?_ _ | refine blk_drew ?_ | refine blk_alloc ?_ _)); refine blk_far ?_ NB103_108.out _; (with_reducible repeat (first | refine blk_drewN ?_ _ | refine blk_drew ?_ | refine blk_alloc ?_ _)); exact BK103.out⟩, ⟨by (with_reducible repeat (first | refine blk_drewN ?_ _ | refine blk_drew ?_ | refine blk_alloc ?_ _)); refine blk_put (cs := #[.int .i64 a1_0, u109001]) ?_ 1 _ rfl; (with_reducible repeat (first | refine blk_drewN ?_ _ | refine blk_drew ?_ | refine blk_alloc ?_ _)); exact BK108.out⟩, ⟨K4 HB GE101.out GE102.out GE103.out GE108.out⟩⟩
      ·rw [if_neg c26] at H
       exact absurd H (by simp)
     ·rw [if_neg c25] at H
      have c25b0 : (!(((rd_T108 l1_1 x10_1).f0.f0) == a2_0) || (!(((rd_T108 l1_1 x10_1).f0.f1) == a2_1) || (!(((rd_T108 l1_1 x10_1).f0.f2) == a2_2)))) = false := by simpa using c25
      clear c25
      have H' := Aside0.mk H
      clear H
      have hnb36 := NB101_102.out
      have hnc36 := NB102_101.out
      have hnb37 := NB101_103.out
      have hnc37 := NB103_101.out
      have hnb38 := NB101_108.out
      have hnc38 := NB108_101.out
      have hcz39_0 := z0 wr BK101.out
      have hcz39_1 := z1 wr BK101.out
      have hfz39_0 := blk_frozen BK101.out 0
      have hfz39_1 := blk_frozen BK101.out 1
      try go_wp2
      replace HO_109001 := am (Kd.R_drew HO_109001.out)
      replace BK101 := am (blk_drew BK101.out)
      replace BK102 := am (blk_drew BK102.out)
      replace BK103 := am (blk_drew BK103.out)
      replace BK108 := am (blk_drew BK108.out)
      replace HB := am (below_drew1 HB.out)
      have p109 : 0 ≤ (x10_1 : Int) := of_decide_eq_true (by first | (with_reducible assumption) | assumption)
      have q109 : x10_1 < (l1_1.length : Int) := of_decide_eq_true (by first | (with_reducible assumption) | assumption)
      obtain ⟨ad109, e109, hx109_0, hx109_1, hx109_2, hx109_3⟩ := at_T108 HR1_1.out x10_1 p109 q109
      have hw109_3 := hx109_3
      have hw109_2 := hx109_2
      have hw109_1 := hx109_1
      have hw109_0 := hx109_0
      cases e109
      replace hx109_0 := (HB.out.cell (World.block_lt_of_cell? w _ hx109_0)).trans hx109_0
      replace hx109_1 := (HB.out.cell (World.block_lt_of_cell? w _ hx109_1)).trans hx109_1
      replace hx109_2 := (HB.out.cell (World.block_lt_of_cell? w _ hx109_2)).trans hx109_2
      replace hx109_3 := (HB.out.cell (World.block_lt_of_cell? w _ hx109_3)).trans hx109_3
      replace p109 := eq_true p109
      replace q109 := eq_true q109
      refine start_ (n := 8) (S := fun w' => w'.cell? ⟨gb101, 0, none⟩ = some (.int .i64 a1_0) ∧ w'.cell? ⟨gb101, 1, none⟩ = some (.slice (some ad109) l1_1.length c1_1) ∧ w'.cell? ⟨gb102, 0, none⟩ = some (.int .i64 a2_0) ∧ w'.cell? ⟨gb102, 1, none⟩ = some (.int .i64 a2_1) ∧ w'.cell? ⟨gb102, 2, none⟩ = some (.int .i64 a2_2) ∧ w'.cell? (ad109.add ((x10_1).toNat * 4)) = some (.int .i64 ((rd_T108 l1_1 x10_1).f0.f0)) ∧ w'.cell? ⟨(ad109.add ((x10_1).toNat * 4)).block, (ad109.add ((x10_1).toNat * 4)).off + 1, none⟩ = some (.int .i64 ((rd_T108 l1_1 x10_1).f0.f1)) ∧ w'.cell? ⟨(ad109.add ((x10_1).toNat * 4)).block, (ad109.add ((x10_1).toNat * 4)).off + 2, none⟩ = some (.int .i64 ((rd_T108 l1_1 x10_1).f0.f2)) ∧ w'.cell? ⟨(ad109.add ((x10_1).toNat * 4)).block, (ad109.add ((x10_1).toNat * 4)).off + 3, none⟩ = some (.int .i64 ((rd_T108 l1_1 x10_1).f1))) (ds := []) (tf 0 8) (by kernel_rfl) rfl rfl ⟨z0 _ BK101.out, z1 _ BK101.out, z0 _ BK102.out, z1 _ BK102.out, z2 _ BK102.out, ((HB.out.cell (World.block_lt_of_cell? w _ hw109_0)).trans hw109_0), ((HB.out.cell (World.block_lt_of_cell? w _ hw109_1)).trans hw109_1), ((HB.out.cell (World.block_lt_of_cell? w _ hw109_2)).trans hw109_2), ((HB.out.cell (World.block_lt_of_cell? w _ hw109_3)).trans hw109_3)⟩ (fun hHeld => ?_); refine with_tabW spec_l5Find.tab6 spec_l5Find.bits6 (fun HT_ HW_ => ?_)
      generalize wr.drew = w40 at HO_109001 BK101 BK102 BK103 BK108 HB hx109_0 hx109_1 hx109_2 hx109_3 hHeld ⊢
      refine pu 0 (some 28) (tf 1 7) (any_of HT_.out (by kernel_rfl)) ?_
      refine pu 2 (some 30) #[true, false, true, false, false, false, false, false] (any_of HT_.out (by kernel_rfl)) ?_
      refine tk 1 (some 29) (tf 3 5) (take_ofW HT_.out HW_.out (by kernel_rfl)) hHeld ?_
      refine pu 3 (some 31) (tf 4 4) (any_of HT_.out (by kernel_rfl)) ?_
      refine pu 4 (some 32) (tf 5 3) (any_of HT_.out (by kernel_rfl)) ?_
      refine tk 5 (some 33) (tf 6 2) (take_ofW HT_.out HW_.out (by kernel_rfl)) hHeld ?_
      refine tk 6 (some 34) (tf 7 1) (take_ofW HT_.out HW_.out (by kernel_rfl)) hHeld ?_
      refine pu 7 (some 35) (tf 8 0) (any_of HT_.out (by kernel_rfl)) ?_
      refine done_ (done_of HT_.out (by kernel_rfl)) ?_
      try go_wp2
      go_roundg k1
      case measure => have := HK1.out; omega
      case rel => exact ⟨(wrap64 (x10_1 + 1)), (x109001_1), (u109001), (by first | rfl | (simp; done) | (simp [*]; done)), H', ⟨by have := HK1.out; omega⟩, ⟨KR HO_109001⟩, ⟨KB BK101⟩, ⟨KB BK102⟩, ⟨KB BK103⟩, ⟨KB BK108⟩, ⟨K4 HB GE101.out GE102.out GE103.out GE108.out⟩⟩
    ·rw [if_neg c24] at H
     exact absurd H (by simp)
   ·rw [if_neg c23] at H
    have c23b0 : decide (x10_1 < (l1_1.length : Int)) = false := decide_eq_false c23
    clear c23
    by_cases c41 : (x109001_1.length : Int) > a1_0
    ·rw [if_pos c41] at H
     have c41b0 : decide (a1_0 < (x109001_1.length : Int)) = true := decide_eq_true c41
     clear c41
     by_cases c42 : 0 ≤ a1_0
     ·rw [if_pos c42] at H
      have c42b0 := eq_true c42
      have c42b1 : decide (0 ≤ a1_0) = true := decide_eq_true c42
      clear c42
      by_cases c43 : a1_0 ≤ (x109001_1.length : Int)
      ·rw [if_pos c43] at H
       have c43b0 := eq_true c43
       have c43b1 : decide (a1_0 ≤ (x109001_1.length : Int)) = true := decide_eq_true c43
       clear c43
       obtain ⟨y114, hy114⟩ : ∃ y_ : List (S108), y_ = (x109001_1.take (a1_0 : Int).toNat) := ⟨_, rfl⟩
       replace H : (some (a1_0, y114, t104)) = some (r1, r2, r3) := by first | (rw [hy114]; with_reducible exact H) | (have H2_ := (Option.bind_some _ _).symm.trans H; rw [hy114]; with_reducible exact H2_) | (have H2_ := (Option.bind_some _ _).symm.trans H; with_reducible exact H2_) | with_reducible exact H | (rw [hy114]; exact H) | exact H
       have Ny114 := Aside0.mk hy114
       clear hy114
       simp only [Option.some.injEq, Prod.mk.injEq] at H
       obtain ⟨rfl, rfl, rfl⟩ := H
       have hnb44 := NB101_102.out
       have hnc44 := NB102_101.out
       have hnb45 := NB101_103.out
       have hnc45 := NB103_101.out
       have hnb46 := NB101_108.out
       have hnc46 := NB108_101.out
       have hcz47_0 := z0 wr BK101.out
       have hcz47_1 := z1 wr BK101.out
       have hfz47_0 := blk_frozen BK101.out 0
       have hfz47_1 := blk_frozen BK101.out 1
       have hnb48 := NB108_102.out
       have hnc48 := NB102_108.out
       have hnb49 := NB108_103.out
       have hnc49 := NB103_108.out
       have hcz50_0 := z0 wr BK108.out
       have hcz50_1 := z1 wr BK108.out
       have hfz50_0 := blk_frozen BK108.out 0
       have hfz50_1 := blk_frozen BK108.out 1
       obtain ⟨Ao51, co51, eo51⟩ := Kd.R_slice HO_109001.out
       subst eo51
       have q52 : (a1_0 : Int) ≤ ((x109001_1.length : Int) : Int) := of_decide_eq_true (by first | (with_reducible assumption) | assumption)
       obtain ⟨i052, hi052, _, hsz52, _⟩ := info_parts info108
       have hcut52 := cut_to (P := Try.prog) 44 108 .i64 Try.underlying44 hi052 Ao51 x109001_1.length co51 a1_0 (of_decide_eq_true (by first | (with_reducible assumption) | assumption)) q52 (Kd.R_reads' HO_109001.out).2.1
       have hr52 := Kd.R_take (m := (a1_0 : Int).toNat) HO_109001.out (by omega)
       have hy52 : y114.length = (a1_0 : Int).toNat := (by rw [Ny114.out, List.length_take]; omega)
       rw [← Ny114.out] at hr52
       rw [← hy52] at hr52 hcut52
       clear hy52 hi052 hsz52 HO_109001
       have HO116 := Aside0.mk hr52
       clear hr52
       replace q52 := eq_true q52
       have hnb53 := NB103_102.out
       have hnc53 := NB102_103.out
       have hcz54_0 := z0 wr BK103.out
       have hcz54_1 := z1 wr BK103.out
       have hfz54_0 := blk_frozen BK103.out 0
       have hfz54_1 := blk_frozen BK103.out 1
       go_wp2
       refine bodyPost_ret (results_ct rfl _ _ gb103 46 #[.int .i64 a1_0, .slice Ao51 y114.length co51] (0, 0) _ rfl (by (with_reducible repeat (first | refine blk_drewN ?_ _ | refine blk_drew ?_ | refine blk_alloc ?_ _)); refine blk_put (cs := #[.int .i64 a1_0, .slice none 0 0]) ?_ 1 _ rfl; (with_reducible repeat (first | refine blk_drewN ?_ _ | refine blk_drew ?_ | refine blk_alloc ?_ _)); refine blk_put (cs := #[.int .i64 0, .slice none 0 0]) ?_ 0 _ rfl; (with_reducible repeat (first | refine blk_drewN ?_ _ | refine blk_drew ?_ | refine blk_alloc ?_ _)); refine blk_far ?_ NB103_108.out _; (with_reducible repeat (first | refine blk_drewN ?_ _ | refine blk_drew ?_ | refine blk_alloc ?_ _)); exact BK103.out) Try.underlying46 rfl (by kernel_rfl)) rfl ?_
       exact ⟨_, by first | rfl | (simp [errW_none, errW_some] <;> rfl) | (simp [*, errW_none, errW_some] <;> rfl), by (with_reducible repeat (first | apply Kd.R_alloc | apply Kd.R_drewN | apply Kd.R_drew)); exact Kd.R_mono (Kd.R_far (p := ⟨gb103, 1, none⟩) (Kd.R_far (p := ⟨gb103, 0, none⟩) (Kd.R_far (p := ⟨gb108, 1, none⟩) (Kd.R_types (Kd.R_types HO116.out BK108.out (by decide)) BK103.out (by decide)) (fun _ hk => hk.1.2) (.slice Ao51 y114.length co51)) (fun _ hk => hk.2) (.int .i64 a1_0)) (fun _ hk => hk.2) (.slice Ao51 y114.length co51)) (fun _ hk => trivial), K4 HB GE101.out GE102.out GE103.out GE108.out⟩
      ·rw [if_neg c43] at H
       exact absurd H (by simp)
     ·rw [if_neg c42] at H
      exact absurd H (by simp)
    ·rw [if_neg c41] at H
     have c41b0 : decide (a1_0 < (x109001_1.length : Int)) = false := decide_eq_false c41
     clear c41
     simp only [Option.some.injEq, Prod.mk.injEq] at H
     obtain ⟨rfl, rfl, rfl⟩ := H
     have hnb55 := NB101_102.out
     have hnc55 := NB102_101.out
     have hnb56 := NB101_103.out
     have hnc56 := NB103_101.out
     have hnb57 := NB101_108.out
     have hnc57 := NB108_101.out
     have hcz58_0 := z0 wr BK101.out
     have hcz58_1 := z1 wr BK101.out
     have hfz58_0 := blk_frozen BK101.out 0
     have hfz58_1 := blk_frozen BK101.out 1
     have hnb59 := NB108_102.out
     have hnc59 := NB102_108.out
     have hnb60 := NB108_103.out
     have hnc60 := NB103_108.out
     have hcz61_0 := z0 wr BK108.out
     have hcz61_1 := z1 wr BK108.out
     have hfz61_0 := blk_frozen BK108.out 0
     have hfz61_1 := blk_frozen BK108.out 1
     obtain ⟨Ao62, co62, eo62⟩ := Kd.R_slice HO_109001.out
     subst eo62
     have hnb63 := NB103_102.out
     have hnc63 := NB102_103.out
     have hcz64_0 := z0 wr BK103.out
     have hcz64_1 := z1 wr BK103.out
     have hfz64_0 := blk_frozen BK103.out 0
     have hfz64_1 := blk_frozen BK103.out 1
     go_wp2
     refine bodyPost_ret (results_ct rfl _ _ gb103 46 #[.int .i64 a1_0, .slice Ao62 x109001_1.length co62] (0, 0) _ rfl (by (with_reducible repeat (first | refine blk_drewN ?_ _ | refine blk_drew ?_ | refine blk_alloc ?_ _)); refine blk_put (cs := #[.int .i64 a1_0, .slice none 0 0]) ?_ 1 _ rfl; (with_reducible repeat (first | refine blk_drewN ?_ _ | refine blk_drew ?_ | refine blk_alloc ?_ _)); refine blk_put (cs := #[.int .i64 0, .slice none 0 0]) ?_ 0 _ rfl; (with_reducible repeat (first | refine blk_drewN ?_ _ | refine blk_drew ?_ | refine blk_alloc ?_ _)); exact BK103.out) Try.underlying46 rfl (by kernel_rfl)) rfl ?_
     exact ⟨_, by first | rfl | (simp [errW_none, errW_some] <;> rfl) | (simp [*, errW_none, errW_some] <;> rfl), by (with_reducible repeat (first | apply Kd.R_alloc | apply Kd.R_drewN | apply Kd.R_drew)); exact Kd.R_mono (Kd.R_far (p := ⟨gb103, 1, none⟩) (Kd.R_far (p := ⟨gb103, 0, none⟩) (Kd.R_types HO_109001.out BK103.out (by decide)) (fun _ hk => hk.2) (.int .i64 a1_0)) (fun _ hk => hk.2) (.slice Ao62 x109001_1.length co62)) (fun _ hk => trivial), K4 HB GE101.out GE102.out GE103.out GE108.out⟩
end Go.Proofs.Ytioghacieopbdaa.PAll
end
section
namespace Go.Proofs.Ytioghacieopbdaa.PAll
open Go.RowKit Go.Proofs.YtioghacieopbdaaW.PrintWords Go.Proofs.YtioghacieopbdaaW.PrintLast Go.Proofs.YtioghacieopbdaaW.PrintMore
attribute [local go_sem] max2_int min2_int max_two min_two max_three min_three max_four min_four   -- for this text's walks alone
set_option linter.unusedVariables false
set_option linter.unusedSimpArgs false
mutual
def spec_l12Cache.l0 : Nat → List (S34) → Int → List Int → Int → Int → List (S108) → Option (Int × (List (S108)) × Int)
 | 0, _, _, _, _, _, _ => none
 | k + 1, x1, x6, x1000, x1001, x105000, x105001 => if x6 > 0 then ((spec_RulesOk.f k x1).bind fun t107 => (spec_l12Cache.j1 k x1 x6 t107 x1000 x1001 x105000 x105001)) else (spec_l12Cache.j1 k x1 x6 false x1000 x1001 x105000 x105001)
def spec_l12Cache.j1 : Nat → List (S34) → Int → Bool → List Int → Int → Int → List (S108) → Option (Int × (List (S108)) × Int)
 | 0, _, _, _, _, _, _, _ => none
 | k + 1, x1, x6, x17, x1000, x1001, x105000, x105001 => if x17 = true then ((spec_l12Call.f k x1000 x1001).bind fun bt108 => ((spec_l5Find.f k x1 x105000 x105001 bt108.1 bt108.2.1 bt108.2.2.1).bind fun bt112 => (spec_l12Cache.l0 k x1 (wrap64 (x6 - 1)) x1000 bt108.2.2.2 bt112.1 bt112.2.1))) else (some (x105000, x105001, x1001))
end
def spec_l12Cache.f (k : Nat) (s0_0 : List Int) (s0_1 : Int) (l1 : List (S34)) : Option (Int × (List (S108)) × Int) := (spec_l1Rd_pick.f k s0_0 s0_1 5).bind fun bt102 => ((spec_l1Rd_pick.f k s0_0 bt102.2 6).bind fun bt105 => (spec_l12Cache.l0 k l1 bt105.1 s0_0 bt105.2 bt102.1 ([] : List (S108))))
def spec_l12Cache.T5 : Bool × List (List Nat × List Nat) := (true, [([], []), ([], []), ([], []), ([2], [2]), ([0, 1, 3, 3], [0, 1, 3]), ([4], [4]), ([5], [5]), ([5], [5]), ([6, 4, 0, 1, 2, 3, 4, 5, 6], [6])])
def spec_l12Cache.B5 : List Nat := [0, 0, 0, 4, 15, 31, 63, 63, 127]
theorem spec_l12Cache.tab5 : rtab .any (opsOf Try.f90 5) = spec_l12Cache.T5 := by kernel_rfl
theorem spec_l12Cache.bits5 : waitsOk spec_l12Cache.T5.2 spec_l12Cache.B5 = true := by kernel_rfl
set_option maxHeartbeats 8000000 in
set_option maxRecDepth 100000 in
theorem spec_l12Cache.calls (k : Nat) (g : Nat) (s0_0 : List Int) (s0_1 : Int) (A1 : Option Addr) (c1 : Nat) (l1 : List (S34)) (r1 : Int) (r2 : List (S108)) (r3 : Int) (w0 w : World) (hI : IsS143 w0 w g s0_0 s0_1) (hB : Below w0.heap.size w0 w) (hr1 : ∀ W_, KeepBut w W_ g none → Kd.C k34 W_ A1 l1.length l1) (hc1 : l1.length ≤ c1) (h : spec_l12Cache.f k s0_0 s0_1 l1 = some (r1, r2, r3)) :
  Calls Try.prog 90 #[.pointer (some ⟨g, 0, none⟩), .slice A1 l1.length c1] w fun e w' => ∃ v1_ : Value, e = .returned (.agg #[.int .i64 r1, v1_]) ∧ Kd.R k108 108 w' w.heap.size (fun _ => True) v1_ r2 ∧ IsS143 w0 w' g s0_0 r3 ∧ Below w0.heap.size w0 w' ∧ KeepBut w w' g none := by
 have hu46 := Try.underlying46
 have HR1 := Aside0.mk hr1
 have HC1 := Aside0.mk hc1
 clear hr1 hc1
 have HI0 := Aside0.mk hI
 have HK := am (KeepBut.refl w g none)
 have HL := Aside0.mk hB.size
 clear hI
 have HW0 := Aside0.mk hB.size
 have HB := Aside0.mk hB
 clear hB
 have H : ((spec_l1Rd_pick.f k s0_0 s0_1 5).bind fun bt102 => ((spec_l1Rd_pick.f k s0_0 bt102.2 6).bind fun bt105 => (spec_l12Cache.l0 k l1 bt105.1 s0_0 bt105.2 bt102.1 ([] : List (S108))))) = some (r1, r2, r3) := h
 clear h
 replace H := Option.bind_eq_some_iff.mp H
 obtain ⟨⟨t102, t103⟩, A30, H⟩ := H
 replace H : ((spec_l1Rd_pick.f k s0_0 t103 6).bind fun bt105 => (spec_l12Cache.l0 k l1 bt105.1 s0_0 bt105.2 t102 ([] : List (S108)))) = some (r1, r2, r3) := H
 have A3 := Aside0.mk A30
 clear A30
 replace H := Option.bind_eq_some_iff.mp H
 obtain ⟨⟨t105, t106⟩, A40, H⟩ := H
 replace H : (spec_l12Cache.l0 k l1 t105 s0_0 t106 t102 ([] : List (S108))) = some (r1, r2, r3) := H
 have A4 := Aside0.mk A40
 clear A40
 have H' := Aside0.mk H
 clear H
 go_enter Try.func90, Try.ntmps90
 go_wp2_with (first | ((with_reducible refine gate_dst (N := 4) rfl ?_); refine box_event rfl (N := 4) rfl (cs := #[.int .i64 0, .slice none 0 0]) (t := 46) BX ?_; intro gb101 hg w5 hbox hb; replace HB := am (below_step (K1 HB (IsS143.ge HI0.out)) hb); have BK101 := am (hbox); have GW101 := am ((by rw [hg]; exact (keep_size (w := w) (g := g) (row := none) (J0 HK)) : w.heap.size ≤ gb101)); have GE101 := am ((Nat.le_trans HW0.out (by rw [hg]; exact (keep_size (w := w) (g := g) (row := none) (J0 HK)) : w.heap.size ≤ gb101) : w0.heap.size ≤ gb101)); replace HK := am (KeepBut.trans (J0 HK) (KeepBut.of_below hb g none) (.inl rfl)); have NB0_101 := am ((by rw [hg]; exact Nat.ne_of_lt (IsS143.lt (show IsS143 w0 _ g s0_0 s0_1 from I143_0 HI0)) : g ≠ gb101)); have NB101_0 := am ((by rw [hg]; exact Nat.ne_of_gt (IsS143.lt (show IsS143 w0 _ g s0_0 s0_1 from I143_0 HI0)) : gb101 ≠ g)); replace HI0 := am (IsS143.below (I143_0 HI0) hb); clear hb hbox hg) | ((with_reducible refine gate_callee (f := 91) rfl ?_); refine goesL_ (some 8) rfl rfl Try.func91 (by kernel_rfl) rfl #[.pointer (some ⟨g, 0, none⟩), .int .i64 5] rfl MT ?_; (with_reducible refine (spec_l1Rd_pick.calls k g s0_0 s0_1 5 t102 t103 w0 _ ?side1 ?side2 A3.out).mono ?_); (case side1 => exact I143_1 HI0 NB0_101.out); (case side2 => exact K2 HB (IsS143.ge HI0.out) GE101.out); rintro e w6 ⟨rfl, hi, hb, hk⟩; refine ⟨_, rfl, ?_⟩; replace BK101 := am (KeepBut.blk hk (g' := gb101) (o := .cells #[.int .i64 0, .slice none 0 0] 46 (0, 0)) (KB BK101) NB101_0.out (by simp)); replace HK := am (KeepBut.trans (J1 HK GW101.out) hk (.inl rfl)); replace HB := am (hb); replace HI0 := am (hi); (try clear hb); (try clear hb2); (try clear hk); (try clear hi)) | ((with_reducible refine gate_dst (N := 5) rfl ?_); refine box_event rfl (N := 5) rfl (cs := #[.int .i64 0, .slice none 0 0]) (t := 46) BX ?_; intro gb104 hg w7 hbox hb; replace HB := am (below_step (K2 HB (IsS143.ge HI0.out) GE101.out) hb); have BK104 := am (hbox); have GW104 := am ((by rw [hg]; exact (keep_size (w := w) (g := g) (row := none) (J1 HK GW101.out)) : w.heap.size ≤ gb104)); have GE104 := am ((Nat.le_trans HW0.out (by rw [hg]; exact (keep_size (w := w) (g := g) (row := none) (J1 HK GW101.out)) : w.heap.size ≤ gb104) : w0.heap.size ≤ gb104)); replace HK := am (KeepBut.trans (J1 HK GW101.out) (KeepBut.of_below hb g none) (.inl rfl)); have NB101_104 := am (NL BK101 hg); have NB104_101 := am (NG BK101 hg); replace BK101 := am (BB BK101 hb); have NB0_104 := am ((by rw [hg]; exact Nat.ne_of_lt (IsS143.lt (show IsS143 w0 _ g s0_0 t103 from I143_1 HI0 NB0_101.out)) : g ≠ gb104)); have NB104_0 := am ((by rw [hg]; exact Nat.ne_of_gt (IsS143.lt (show IsS143 w0 _ g s0_0 t103 from I143_1 HI0 NB0_101.out)) : gb104 ≠ g)); replace HI0 := am (IsS143.below (I143_1 HI0 NB0_101.out) hb); clear hb hbox hg; have hnb8 := NB104_101.out; have hnc8 := NB101_104.out; have hnb9 := NB104_0.out; have hnc9 := NB0_104.out; have hcz10_0 := z0 w7 BK104.out; have hcz10_1 := z1 w7 BK104.out; have hfz10_0 := blk_frozen BK104.out 0; have hfz10_1 := blk_frozen BK104.out 1) | ((with_reducible refine gate_callee (f := 91) rfl ?_); refine goesL_ (some 11) rfl rfl Try.func91 (by kernel_rfl) rfl #[.pointer (some ⟨g, 0, none⟩), .int .i64 6] rfl MT ?_; (with_reducible refine (spec_l1Rd_pick.calls k g s0_0 t103 6 t105 t106 w0 _ ?side1 ?side2 A4.out).mono ?_); (case side1 => exact I143_2 HI0 NB0_101.out NB0_104.out); (case side2 => exact K3 HB (IsS143.ge HI0.out) GE101.out GE104.out); rintro e w11 ⟨rfl, hi, hb, hk⟩; refine ⟨_, rfl, ?_⟩; replace BK101 := am (KeepBut.blk hk (g' := gb101) (o := .cells #[.int .i64 0, .slice none 0 0] 46 (0, 0)) (by (with_reducible repeat (first | refine blk_drewN ?_ _ | refine blk_drew ?_ | refine blk_alloc ?_ _)); refine blk_far ?_ NB101_104.out _; (with_reducible repeat (first | refine blk_drewN ?_ _ | refine blk_drew ?_ | refine blk_alloc ?_ _)); refine blk_far ?_ NB101_104.out _; (with_reducible repeat (first | refine blk_drewN ?_ _ | refine blk_drew ?_ | refine blk_alloc ?_ _)); exact BK101.out) NB101_0.out (by simp)); replace BK104 := am (KeepBut.blk hk (g' := gb104) (o := .cells #[.int .i64 t102, .slice none 0 0] 46 (0, 0)) (by (with_reducible repeat (first | refine blk_drewN ?_ _ | refine blk_drew ?_ | refine blk_alloc ?_ _)); refine blk_put (cs := #[.int .i64 t102, .slice none 0 0]) ?_ 1 _ rfl; (with_reducible repeat (first | refine blk_drewN ?_ _ | refine blk_drew ?_ | refine blk_alloc ?_ _)); refine blk_put (cs := #[.int .i64 0, .slice none 0 0]) ?_ 0 _ rfl; (with_reducible repeat (first | refine blk_drewN ?_ _ | refine blk_drew ?_ | refine blk_alloc ?_ _)); exact BK104.out) NB104_0.out (by simp)); replace HK := am (KeepBut.trans (J2 HK GW101.out GW104.out) hk (.inl rfl)); replace HB := am (hb); replace HI0 := am (hi); (try clear hb); (try clear hb2); (try clear hk); (try clear hi)))
 go_loopg [6] k (fun kq v6 w' => ∃ (x6_1 : Int) (x1001_1 : Int) (x105000_1 : Int) (x105001_1 : List (S108)) (u105001 : Value), v6 = .int .i64 x6_1 ∧ Aside0 (spec_l12Cache.l0 kq l1 x6_1 s0_0 x1001_1 x105000_1 x105001_1 = some (r1, r2, r3)) ∧ Aside0 (kq ≤ k) ∧ Aside0 (Kd.R k108 108 w' w.heap.size (fun _ => True) u105001 x105001_1) ∧ Aside0 (w'.heap[gb101]? = some (.cells #[.int .i64 0, (.slice none 0 0)] 46 (0, 0))) ∧ Aside0 (w'.heap[gb104]? = some (.cells #[.int .i64 x105000_1, u105001] 46 (0, 0))) ∧ Aside0 (IsS143 w0 w' g s0_0 x1001_1) ∧ Aside0 (KeepBut w w' g none) ∧ Aside0 (Below w0.heap.size w0 w'))
 case atStart => exact ⟨(t105), (t106), (t102), (([] : List (S108))), (.slice none 0 0), (by first | rfl | (simp; done) | (simp [*]; done)), H', ⟨Nat.le_refl _⟩, ⟨by first | exact Kd.R_nil _ _ _ _ _ | exact Kd.N_nil _ _ _ _ _ | exact Kd.V_nil _ _ _ _ _ | exact Kd.Q_nil _ _ _ _ _ | exact Kd.S_nil _ _ _ _ _⟩, ⟨KB BK101⟩, ⟨KB BK104⟩, ⟨I143_2 HI0 NB0_101.out NB0_104.out⟩, ⟨J2 HK GW101.out GW104.out⟩, ⟨K3 HB (IsS143.ge HI0.out) GE101.out GE104.out⟩⟩
 case round =>
  clear H'
  try clear c1
  try clear p2
  try clear c8
  try clear c9
  try clear hcz10_0
  try clear hcz10_1
  try clear hfz10_0
  try clear hfz10_1
  obtain ⟨x6_1, x1001_1, x105000_1, x105001_1, u105001, rfl, HA, HK1, HO_105001, BK101, BK104, HI0, HK, HB⟩ := hrel
  cases gk with
  | zero => exact absurd HA.out (by simp [spec_l12Cache.l0])
  | succ k1 =>
   have H := HA.out
   clear HA
   simp only [spec_l12Cache.l0] at H
   have HC12 := Aside0.mk H
   clear H
   go_upto_region 3 with (fail)
   go_cut [17] (fun v17 wc => ∃ (kq : Nat) (x17_11 : Bool), v17 = .bool x17_11 ∧ Aside0 (spec_l12Cache.j1 kq l1 x6_1 x17_11 s0_0 x1001_1 x105000_1 x105001_1 = some (r1, r2, r3)) ∧ Aside0 (kq ≤ k1) ∧ Aside0 (Kd.R k108 108 wc w.heap.size (fun _ => True) u105001 x105001_1) ∧ Aside0 (wc.heap[gb101]? = some (.cells #[.int .i64 0, (.slice none 0 0)] 46 (0, 0))) ∧ Aside0 (wc.heap[gb104]? = some (.cells #[.int .i64 x105000_1, u105001] 46 (0, 0))) ∧ Aside0 (IsS143 w0 wc g s0_0 x1001_1) ∧ Aside0 (KeepBut w wc g none) ∧ Aside0 (Below w0.heap.size w0 wc))
   case first =>
    have H := HC12.out
    clear HC12
    by_cases c13 : x6_1 > 0
    ·rw [if_pos c13] at H
     have c13b0 : decide (0 < x6_1) = true := decide_eq_true c13
     clear c13
     (first | rw [c13b0] | (simp only [i64_w, i32_w]; rw [c13b0]) | skip)
     replace H := Option.bind_eq_some_iff.mp H
     obtain ⟨t107, A140, H⟩ := H
     replace H : (spec_l12Cache.j1 k1 l1 x6_1 t107 s0_0 x1001_1 x105000_1 x105001_1) = some (r1, r2, r3) := H
     have A14 := Aside0.mk A140
     clear A140
     have H' := Aside0.mk H
     clear H
     go_wp2_with (first | (go_at_call 19; (with_reducible refine (spec_RulesOk.calls k1 _ _ l1 t107 _ ?side1 ?side2 A14.out).mono ?_); (case side1 => exact Kd.C_foot_now HR1.out (J2 HK GW101.out GW104.out)); (case side2 => exact HC1.out); rintro e w15 ⟨rfl, hb⟩; replace HO_105001 := am (Kd.R_below (KR HO_105001) hb); replace BK101 := am (BB BK101 hb); replace BK104 := am (BB BK104 hb); replace HK := am (KeepBut.trans (J2 HK GW101.out GW104.out) (KeepBut.of_below hb g none) (.inl rfl)); replace HB := am (below_step (K3 HB (IsS143.ge HI0.out) GE101.out GE104.out) hb); replace HI0 := am (IsS143.below (I143_2 HI0 NB0_101.out NB0_104.out) hb); (try clear hb); (try clear hb2); (try clear hk); (try clear hi)))
     go_meet
     case rel => exact ⟨_, (t107), (by first | rfl | (simp; done) | (simp [*]; done)), H', ⟨by have := HK1.out; first | omega | exact Nat.le_refl _⟩, ⟨KR HO_105001⟩, ⟨KB BK101⟩, ⟨KB BK104⟩, ⟨I143_2 HI0 NB0_101.out NB0_104.out⟩, ⟨J2 HK GW101.out GW104.out⟩, ⟨K3 HB (IsS143.ge HI0.out) GE101.out GE104.out⟩⟩
    ·rw [if_neg c13] at H
     have c13b0 : decide (0 < x6_1) = false := decide_eq_false c13
     clear c13
     (first | rw [c13b0] | (simp only [i64_w, i32_w]; rw [c13b0]) | skip)
     have H' := Aside0.mk H
     clear H
     go_wp2
     go_meet
     case rel => exact ⟨_, (false), (by first | rfl | (simp; done) | (simp [*]; done)), H', ⟨by have := HK1.out; first | omega | exact Nat.le_refl _⟩, ⟨KR HO_105001⟩, ⟨KB BK101⟩, ⟨KB BK104⟩, ⟨I143_2 HI0 NB0_101.out NB0_104.out⟩, ⟨J2 HK GW101.out GW104.out⟩, ⟨K3 HB (IsS143.ge HI0.out) GE101.out GE104.out⟩⟩
   case rest =>
    clear HC12
    try clear c1
    try clear p2
    try clear c8
    try clear c9
    try clear c13
    try clear c13b0
    try clear hcz10_0
    try clear hcz10_1
    try clear hfz10_0
    try clear hfz10_1
    try clear p2
    obtain ⟨kq, x17_11, rfl, HA, HJ11, HO_105001, BK101, BK104, HI0, HK, HB⟩ := hcut
    cases kq with
    | zero => exact absurd HA.out (by simp [spec_l12Cache.j1])
    | succ kj11 =>
     have H := HA.out
     clear HA
     simp only [spec_l12Cache.j1] at H
     by_cases c16 : x17_11 = true
     ·subst c16
      have H1 : ((spec_l12Call.f kj11 s0_0 x1001_1).bind fun bt108 => ((spec_l5Find.f kj11 l1 x105000_1 x105001_1 bt108.1 bt108.2.1 bt108.2.2.1).bind fun bt112 => (spec_l12Cache.l0 kj11 l1 (wrap64 (x6_1 - 1)) s0_0 bt108.2.2.2 bt112.1 bt112.2.1))) = some (r1, r2, r3) := by rw [if_pos rfl] at H; exact H
      clear H
      have H := H1
      clear H1
      replace H := Option.bind_eq_some_iff.mp H
      obtain ⟨⟨t108, t109, t110, t111⟩, A170, H⟩ := H
      replace H : ((spec_l5Find.f kj11 l1 x105000_1 x105001_1 t108 t109 t110).bind fun bt112 => (spec_l12Cache.l0 kj11 l1 (wrap64 (x6_1 - 1)) s0_0 t111 bt112.1 bt112.2.1)) = some (r1, r2, r3) := H
      have A17 := Aside0.mk A170
      clear A170
      replace H := Option.bind_eq_some_iff.mp H
      obtain ⟨⟨t112, t113, t116⟩, A180, H⟩ := H
      replace H : (spec_l12Cache.l0 kj11 l1 (wrap64 (x6_1 - 1)) s0_0 t111 t112 t113) = some (r1, r2, r3) := H
      have A18 := Aside0.mk A180
      clear A180
      have H' := Aside0.mk H
      clear H
      try go_wp2
      replace HO_105001 := am (Kd.R_drew HO_105001.out)
      replace BK101 := am (blk_drew BK101.out)
      replace BK104 := am (blk_drew BK104.out)
      replace HI0 := am (IsS143.drew HI0.out)
      replace HK := am (keep_drew HK.out)
      replace HB := am (below_drew1 HB.out)
      refine start_ (n := 9) (S := fun w' => w'.cell? ⟨gb104, 0, none⟩ = some (.int .i64 x105000_1) ∧ w'.cell? ⟨gb104, 1, none⟩ = some (u105001)) (ds := [8]) (tf 0 9) (by kernel_rfl) rfl rfl ⟨z0 _ BK104.out, z1 _ BK104.out⟩ (fun hHeld => ?_); refine with_tabW spec_l12Cache.tab5 spec_l12Cache.bits5 (fun HT_ HW_ => ?_)
      generalize wc.drew = w19 at HO_105001 BK101 BK104 HI0 HK HB hHeld ⊢
      refine pu 0 (some 21) (tf 1 8) (any_of HT_.out (by kernel_rfl)) ?_
      refine pu 2 (some 23) #[true, false, true, false, false, false, false, false, false] (any_of HT_.out (by kernel_rfl)) ?_
      refine tk 1 (some 22) (tf 3 6) (take_ofW HT_.out HW_.out (by kernel_rfl)) hHeld ?_
      refine one_ (i := 3) (N := some 24) (tf 4 5) rfl rfl (one_of HT_.out (by kernel_rfl)) (by decide) (fun K hK => ?_)
      refine goes_ Try.func124 (by kernel_rfl) rfl #[.pointer (some ⟨g, 0, none⟩)] (by rfl) rfl rfl MT ?_
      with_reducible refine (spec_l12Call.calls kj11 g s0_0 x1001_1 t108 t109 t110 t111 w0 _ ?side1 ?side2 A17.out).mono ?_
      (case side1 => exact I143_2 HI0 NB0_101.out NB0_104.out)
      (case side2 => exact K3 HB (IsS143.ge HI0.out) GE101.out GE104.out)
      rintro e w20 ⟨rfl, hi, hb, hk⟩
      refine ⟨_, rfl, ?_⟩
      replace HO_105001 := am (Kd.R_mono (Kd.R_keep (IsS143.apart (show IsS143 w0 _ g s0_0 x1001_1 from I143_2 HI0 NB0_101.out NB0_104.out) (KR HO_105001) (by decide)) hk (fun _ h => h.2)) (fun _ h => h.1))
      replace BK101 := am (KeepBut.blk hk (g' := gb101) (o := .cells #[.int .i64 0, .slice none 0 0] 46 (0, 0)) (KB BK101) NB101_0.out (by simp))
      replace BK104 := am (KeepBut.blk hk (g' := gb104) (o := .cells #[.int .i64 x105000_1, u105001] 46 (0, 0)) (KB BK104) NB104_0.out (by simp))
      replace HK := am (KeepBut.trans (J2 HK GW101.out GW104.out) hk (.inl rfl))
      replace HB := am (hb)
      replace HI0 := am (hi)
      (try clear hb)
      (try clear hb2)
      (try clear hk)
      (try clear hi)
      obtain ⟨Ao21, co21, eo21⟩ := Kd.R_slice HO_105001.out
      (first | subst eo21 | (injection eo21 with f1_ f2_ f3_; have f4_ := f1_.symm; have f5_ := f3_.symm; clear f1_ f2_ f3_; subst f4_; subst f5_))
      refine hK.out _ _ ⟨z0 _ BK104.out, z1 _ BK104.out⟩ (fun hHeld => ?_)
      clear hK K
      refine norm_ (a' := ?_) ?_ ?_
      rotate_left
      ·show Act.put _ (some 24) _ = _
       simp only [Act.put, List.setIfInBounds_toArray, List.set_cons_zero, List.set_cons_succ, i64_w, i32_w]
       rfl
      refine one_ (i := 4) (N := some 25) (tf 5 4) rfl rfl (one_of HT_.out (by kernel_rfl)) (by decide) (fun K hK => ?_)
      refine goes_ Try.func94 (by kernel_rfl) rfl #[.slice A1 l1.length c1, .agg #[.int .i64 x105000_1, .slice Ao21 x105001_1.length co21], .agg #[.int .i64 t108, .int .i64 t109, .int .i64 t110]] (by rfl) rfl rfl MT ?_
      with_reducible refine (spec_l5Find.calls kj11 _ _ l1 x105000_1 _ _ x105001_1 t108 t109 t110 t112 t113 t116 _ ?side1 ?side2 ?side3 ?side4 A18.out).mono ?_
      (case side1 => exact Kd.C_foot_now HR1.out (J2 HK GW101.out GW104.out))
      (case side2 => exact HC1.out)
      (case side3 => exact KC (Kd.R_reads' HO_105001.out).2.2)
      (case side4 => exact (Kd.R_reads' HO_105001.out).2.1)
      rintro e w22 ⟨v114, rfl, ho0, hb⟩
      refine ⟨_, rfl, ?_⟩
      have HO115 := am (Kd.R_lower (Kd.R_new' ho0 (Kd.R_lt (KR HO_105001))) (keep_size (w := w) (g := g) (row := none) (J2 HK GW101.out GW104.out)))
      replace HO_105001 := am (Kd.R_elder' (KR HO_105001) (Kd.R_base ho0) hb)
      replace BK101 := am (BB BK101 hb)
      replace BK104 := am (BB BK104 hb)
      replace HK := am (KeepBut.trans (J2 HK GW101.out GW104.out) (KeepBut.of_below hb g none) (.inl rfl))
      replace HB := am (below_step (K3 HB (IsS143.ge HI0.out) GE101.out GE104.out) hb)
      replace HI0 := am (IsS143.below (I143_2 HI0 NB0_101.out NB0_104.out) hb)
      (try clear hb)
      (try clear hb2)
      (try clear hk)
      (try clear hi)
      (try clear ho0)
      obtain ⟨Ao24, co24, eo24⟩ := Kd.R_slice HO115.out
      (first | subst eo24 | (injection eo24 with f1_ f2_ f3_; have f4_ := f1_.symm; have f5_ := f3_.symm; clear f1_ f2_ f3_; subst f4_; subst f5_))
      refine hK.out _ _ ⟨z0 _ BK104.out, z1 _ BK104.out⟩ (fun hHeld => ?_)
      clear hK K
      refine norm_ (a' := ?_) ?_ ?_
      rotate_left
      ·show Act.put _ (some 25) _ = _
       simp only [Act.put, List.setIfInBounds_toArray, List.set_cons_zero, List.set_cons_succ, i64_w, i32_w]
       rfl
      refine pu 5 (some 20) (tf 6 3) (any_of HT_.out (by kernel_rfl)) ?_
      refine pu 6 (some 26) (tf 7 2) (any_of HT_.out (by kernel_rfl)) ?_
      refine pu 7 (some 27) (tf 8 1) (any_of HT_.out (by kernel_rfl)) ?_
      refine last_ (i := 8) (N := none) (tf 9 0) rfl rfl (one_of HT_.out (by kernel_rfl)) (by decide) (fun K hK => ?_)
      have hs23 : w22.cell? ⟨gb104, 0, none⟩ = some (.int .i64 x105000_1) := z0 _ BK104.out
      have hfs23 := blk_frozen BK104.out 0
      have hns23_0 := NB101_104.out
      have hms23_0 := NB104_101.out
      have hs25 : w22.cell? ⟨gb104, 1, none⟩ = some (.slice Ao21 x105001_1.length co21) := z1 _ BK104.out
      have hfs25 := blk_frozen BK104.out 1
      have hns25_0 := NB101_104.out
      have hms25_0 := NB104_101.out
      refine skip_ (w1 := ?_) (by rfl) rfl ?_ ?_
      rotate_left
      ·go_simp
       rfl
      refine hK.out _ _ ?_
      clear hK K
      refine done_ (done_of HT_.out (by kernel_rfl)) ?_
      try go_wp2
      go_roundg kj11
      case measure => have := HK1.out; have := HJ11.out; omega
      case rel => exact ⟨(wrap64 (x6_1 - 1)), (t111), (t112), (t113), (.slice Ao24 t113.length co24), (by first | rfl | (simp; done) | (simp [*]; done)), H', ⟨by have := HK1.out; have := HJ11.out; omega⟩, ⟨by (with_reducible repeat (first | apply Kd.R_alloc | apply Kd.R_drewN | apply Kd.R_drew)); exact Kd.R_mono (Kd.R_far (p := ⟨gb104, 1, none⟩) (Kd.R_far (p := ⟨gb104, 0, none⟩) (Kd.R_types HO115.out BK104.out (by decide)) (fun _ hk => hk.2) (.int .i64 t112)) (fun _ hk => hk.2) (.slice Ao24 t113.length co24)) (fun _ hk => trivial)⟩, ⟨by (with_reducible repeat (first | refine blk_drewN ?_ _ | refine blk_drew ?_ | refine blk_alloc ?_ _)); refine blk_far ?_ NB101_104.out _; (with_reducible repeat (first | refine blk_drewN ?_ _ | refine blk_drew ?_ | refine blk_alloc ?_ _)); refine blk_far ?_ NB101_104.out _; (with_reducible repeat (first | refine blk_drewN ?_ _ | refine blk_drew ?_ | refine blk_alloc ?_ _)); exact BK101.out⟩, ⟨by (with_reducible repeat (first | refine blk_drewN ?_ _ | refine blk_drew ?_ | refine blk_alloc ?_ _)); refine blk_put (cs := #[.int .i64 t112, .slice Ao21 x105001_1.length co21]) ?_ 1 _ rfl; (with_reducible repeat (first | refine blk_drewN ?_ _ | refine blk_drew ?_ | refine blk_alloc ?_ _)); refine blk_put (cs := #[.int .i64 x105000_1, .slice Ao21 x105001_1.length co21]) ?_ 0 _ rfl; (with_reducible repeat (first | refine blk_drewN ?_ _ | refine blk_drew ?_ | refine blk_alloc ?_ _)); exact BK104.out⟩, ⟨I143_2 HI0 NB0_101.out NB0_104.out⟩, ⟨J2 HK GW101.out GW104.out⟩, ⟨K3 HB (IsS143.ge HI0.out) GE101.out GE104.out⟩⟩
     ·replace c16 := Bool.eq_false_iff.mpr c16
      subst c16
      have H1 : (some (x105000_1, x105001_1, x1001_1)) = some (r1, r2, r3) := by rw [if_neg (show ¬ (false = true) by decide)] at H; exact H
      clear H
      have H := H1
      clear H1
      simp only [Option.some.injEq, Prod.mk.injEq] at H
      obtain ⟨rfl, rfl, rfl⟩ := H
      have hnb26 := NB104_101.out
      have hnc26 := NB101_104.out
      have hnb27 := NB104_0.out
      have hnc27 := NB0_104.out
      have hcz28_0 := z0 wc BK104.out
      have hcz28_1 := z1 wc BK104.out
      have hfz28_0 := blk_frozen BK104.out 0
      have hfz28_1 := blk_frozen BK104.out 1
      have hnb29 := NB101_0.out
      have hnc29 := NB0_101.out
      have hcz30_0 := z0 wc BK101.out
      have hcz30_1 := z1 wc BK101.out
      have hfz30_0 := blk_frozen BK101.out 0
      have hfz30_1 := blk_frozen BK101.out 1
      obtain ⟨Ao31, co31, eo31⟩ := Kd.R_slice HO_105001.out
      subst eo31
      go_wp2
      refine bodyPost_ret (results_cell_row rfl _ _ gb101 46 #[.int .i64 x105000_1, .slice Ao31 x105001_1.length co31] (0, 0) _ rfl (by (with_reducible repeat (first | refine blk_drewN ?_ _ | refine blk_drew ?_ | refine blk_alloc ?_ _)); refine blk_put (cs := #[.int .i64 x105000_1, .slice none 0 0]) ?_ 1 _ rfl; (with_reducible repeat (first | refine blk_drewN ?_ _ | refine blk_drew ?_ | refine blk_alloc ?_ _)); refine blk_put (cs := #[.int .i64 0, .slice none 0 0]) ?_ 0 _ rfl; (with_reducible repeat (first | refine blk_drewN ?_ _ | refine blk_drew ?_ | refine blk_alloc ?_ _)); exact BK101.out) Try.underlying46 rfl (by kernel_rfl)) rfl ?_
      exact ⟨_, by first | rfl | (simp [errW_none, errW_some] <;> rfl) | (simp [*, errW_none, errW_some] <;> rfl), by (with_reducible repeat (first | apply Kd.R_alloc | apply Kd.R_drewN | apply Kd.R_drew)); exact Kd.R_mono (Kd.R_far (p := ⟨gb101, 1, none⟩) (Kd.R_far (p := ⟨gb101, 0, none⟩) (Kd.R_types HO_105001.out BK101.out (by decide)) (fun _ hk => hk.2) (.int .i64 x105000_1)) (fun _ hk => hk.2) (.slice Ao31 x105001_1.length co31)) (fun _ hk => trivial), I143_2 HI0 NB0_101.out NB0_104.out, K3 HB (IsS143.ge HI0.out) GE101.out GE104.out, J2 HK GW101.out GW104.out⟩
end Go.Proofs.Ytioghacieopbdaa.PAll
end
section
namespace Go.Proofs.Ytioghacieopbdaa.PAll
open Go.RowKit Go.Proofs.YtioghacieopbdaaW.PrintWords Go.Proofs.YtioghacieopbdaaW.PrintLast Go.Proofs.YtioghacieopbdaaW.PrintMore
attribute [local go_sem] max2_int min2_int max_two min_two max_three min_three max_four min_four   -- for this text's walks alone
set_option linter.unusedVariables false
set_option linter.unusedSimpArgs false
def spec_DrawCacheFind.f (k : Nat) (l0 : List Int) : Option ((List (S34)) × Int × (List (S108)) × Int × Int × Int) := (spec_l1Open.f l0).bind fun bt103 => ((spec_l12AnyRules.f k bt103.1 bt103.2).bind fun bt106 => ((spec_l12Cache.f k bt103.1 bt106.2 bt106.1).bind fun bt110 => ((spec_l12AnyCall.f k bt103.1 bt110.2.2).bind fun bt116 => (if (bt110.2.1.length : Int) > 0 then ((spec_l1Rd_pick.f k bt103.1 bt116.2.2.2 2).bind fun bt121 => (if bt121.1 = 0 then ((spec_l1Rd_pick.f k bt103.1 bt121.2 (bt110.2.1.length : Int)).bind fun bt123 => (if 0 ≤ bt123.1 then (if bt123.1 < (bt110.2.1.length : Int) then (some (bt106.1, bt110.1, bt110.2.1, (rd_T108 bt110.2.1 bt123.1).f0.f0, (rd_T108 bt110.2.1 bt123.1).f0.f1, (rd_T108 bt110.2.1 bt123.1).f0.f2)) else (none)) else (none))) else (some (bt106.1, bt110.1, bt110.2.1, bt116.1, bt116.2.1, bt116.2.2.1)))) else (some (bt106.1, bt110.1, bt110.2.1, bt116.1, bt116.2.1, bt116.2.2.1))))))
def spec_DrawCacheFind.T6 : Bool × List (List Nat × List Nat) := (true, [([], []), ([0], [0]), ([], []), ([], []), ([3], [3]), ([4], [4]), ([2, 5], [2, 5]), ([1, 6], [1, 6]), ([7], [7]), ([8], [8]), ([9, 6, 0, 1, 2, 3, 4, 5, 6, 7, 8, 9], [9])])
def spec_DrawCacheFind.B6 : List Nat := [0, 1, 0, 0, 8, 24, 60, 127, 255, 511, 1023]
theorem spec_DrawCacheFind.tab6 : rtab .any (opsOf Try.f29 6) = spec_DrawCacheFind.T6 := by kernel_rfl
theorem spec_DrawCacheFind.bits6 : waitsOk spec_DrawCacheFind.T6.2 spec_DrawCacheFind.B6 = true := by kernel_rfl
set_option maxHeartbeats 8000000 in
set_option maxRecDepth 100000 in
theorem spec_DrawCacheFind.calls (k : Nat) (A0 : Option Addr) (c0 : Nat) (l0 : List Int) (r1 : List (S34)) (r2 : Int) (r3 : List (S108)) (r4 : Int) (r5 : Int) (r6 : Int) (w : World) (hr0 : Kd.C (Kd.int .u8) w A0 l0.length l0) (hc0 : l0.length ≤ c0) (h : spec_DrawCacheFind.f k l0 = some (r1, r2, r3, r4, r5, r6)) :
  Calls Try.prog 29 #[.slice A0 l0.length c0] w fun e w' => ∃ v0_ v2_ : Value, e = .returned (.tuple #[v0_, .agg #[.int .i64 r2, v2_], .agg #[.int .i64 r4, .int .i64 r5, .int .i64 r6]]) ∧ Kd.R k34 34 w' w.heap.size (fun _ => True) v0_ r1 ∧ Kd.R k108 108 w' w.heap.size (fun _ => True) v2_ r3 ∧ Below w.heap.size w w' := by
 have hu46 := Try.underlying46
 have hu25 := Try.underlying25
 have HR0 := Aside0.mk hr0
 have HC0 := Aside0.mk hc0
 clear hr0 hc0
 have HB := am (Below.refl w.heap.size w)
 have H : ((spec_l1Open.f l0).bind fun bt103 => ((spec_l12AnyRules.f k bt103.1 bt103.2).bind fun bt106 => ((spec_l12Cache.f k bt103.1 bt106.2 bt106.1).bind fun bt110 => ((spec_l12AnyCall.f k bt103.1 bt110.2.2).bind fun bt116 => (if (bt110.2.1.length : Int) > 0 then ((spec_l1Rd_pick.f k bt103.1 bt116.2.2.2 2).bind fun bt121 => (if bt121.1 = 0 then ((spec_l1Rd_pick.f k bt103.1 bt121.2 (bt110.2.1.length : Int)).bind fun bt123 => (if 0 ≤ bt123.1 then (if bt123.1 < (bt110.2.1.length : Int) then (some (bt106.1, bt110.1, bt110.2.1, (rd_T108 bt110.2.1 bt123.1).f0.f0, (rd_T108 bt110.2.1 bt123.1).f0.f1, (rd_T108 bt110.2.1 bt123.1).f0.f2)) else (none)) else (none))) else (some (bt106.1, bt110.1, bt110.2.1, bt116.1, bt116.2.1, bt116.2.2.1)))) else (some (bt106.1, bt110.1, bt110.2.1, bt116.1, bt116.2.1, bt116.2.2.1))))))) = some (r1, r2, r3, r4, r5, r6) := h
 clear h
 replace H := Option.bind_eq_some_iff.mp H
 obtain ⟨⟨t103, t104⟩, A20, H⟩ := H
 replace H : ((spec_l12AnyRules.f k t103 t104).bind fun bt106 => ((spec_l12Cache.f k t103 bt106.2 bt106.1).bind fun bt110 => ((spec_l12AnyCall.f k t103 bt110.2.2).bind fun bt116 => (if (bt110.2.1.length : Int) > 0 then ((spec_l1Rd_pick.f k t103 bt116.2.2.2 2).bind fun bt121 => (if bt121.1 = 0 then ((spec_l1Rd_pick.f k t103 bt121.2 (bt110.2.1.length : Int)).bind fun bt123 => (if 0 ≤ bt123.1 then (if bt123.1 < (bt110.2.1.length : Int) then (some (bt106.1, bt110.1, bt110.2.1, (rd_T108 bt110.2.1 bt123.1).f0.f0, (rd_T108 bt110.2.1 bt123.1).f0.f1, (rd_T108 bt110.2.1 bt123.1).f0.f2)) else (none)) else (none))) else (some (bt106.1, bt110.1, bt110.2.1, bt116.1, bt116.2.1, bt116.2.2.1)))) else (some (bt106.1, bt110.1, bt110.2.1, bt116.1, bt116.2.1, bt116.2.2.1)))))) = some (r1, r2, r3, r4, r5, r6) := H
 have A2 := Aside0.mk A20
 clear A20
 replace H := Option.bind_eq_some_iff.mp H
 obtain ⟨⟨t106, t109⟩, A30, H⟩ := H
 replace H : ((spec_l12Cache.f k t103 t109 t106).bind fun bt110 => ((spec_l12AnyCall.f k t103 bt110.2.2).bind fun bt116 => (if (bt110.2.1.length : Int) > 0 then ((spec_l1Rd_pick.f k t103 bt116.2.2.2 2).bind fun bt121 => (if bt121.1 = 0 then ((spec_l1Rd_pick.f k t103 bt121.2 (bt110.2.1.length : Int)).bind fun bt123 => (if 0 ≤ bt123.1 then (if bt123.1 < (bt110.2.1.length : Int) then (some (t106, bt110.1, bt110.2.1, (rd_T108 bt110.2.1 bt123.1).f0.f0, (rd_T108 bt110.2.1 bt123.1).f0.f1, (rd_T108 bt110.2.1 bt123.1).f0.f2)) else (none)) else (none))) else (some (t106, bt110.1, bt110.2.1, bt116.1, bt116.2.1, bt116.2.2.1)))) else (some (t106, bt110.1, bt110.2.1, bt116.1, bt116.2.1, bt116.2.2.1))))) = some (r1, r2, r3, r4, r5, r6) := H
 have A3 := Aside0.mk A30
 clear A30
 replace H := Option.bind_eq_some_iff.mp H
 obtain ⟨⟨t110, t111, t114⟩, A40, H⟩ := H
 replace H : ((spec_l12AnyCall.f k t103 t114).bind fun bt116 => (if (t111.length : Int) > 0 then ((spec_l1Rd_pick.f k t103 bt116.2.2.2 2).bind fun bt121 => (if bt121.1 = 0 then ((spec_l1Rd_pick.f k t103 bt121.2 (t111.length : Int)).bind fun bt123 => (if 0 ≤ bt123.1 then (if bt123.1 < (t111.length : Int) then (some (t106, t110, t111, (rd_T108 t111 bt123.1).f0.f0, (rd_T108 t111 bt123.1).f0.f1, (rd_T108 t111 bt123.1).f0.f2)) else (none)) else (none))) else (some (t106, t110, t111, bt116.1, bt116.2.1, bt116.2.2.1)))) else (some (t106, t110, t111, bt116.1, bt116.2.1, bt116.2.2.1)))) = some (r1, r2, r3, r4, r5, r6) := H
 have A4 := Aside0.mk A40
 clear A40
 replace H := Option.bind_eq_some_iff.mp H
 obtain ⟨⟨t116, t117, t118, t119⟩, A50, H⟩ := H
 replace H : (if (t111.length : Int) > 0 then ((spec_l1Rd_pick.f k t103 t119 2).bind fun bt121 => (if bt121.1 = 0 then ((spec_l1Rd_pick.f k t103 bt121.2 (t111.length : Int)).bind fun bt123 => (if 0 ≤ bt123.1 then (if bt123.1 < (t111.length : Int) then (some (t106, t110, t111, (rd_T108 t111 bt123.1).f0.f0, (rd_T108 t111 bt123.1).f0.f1, (rd_T108 t111 bt123.1).f0.f2)) else (none)) else (none))) else (some (t106, t110, t111, t116, t117, t118)))) else (some (t106, t110, t111, t116, t117, t118))) = some (r1, r2, r3, r4, r5, r6) := H
 have A5 := Aside0.mk A50
 clear A50
 by_cases c6 : (t111.length : Int) > 0
 ·rw [if_pos c6] at H
  have c6b0 : decide (0 < (t111.length : Int)) = true := decide_eq_true c6
  have c6b1 : decide (0 < t111.length) = true := decide_eq_true (by omega)
  clear c6
  replace H := Option.bind_eq_some_iff.mp H
  obtain ⟨⟨t121, t122⟩, A70, H⟩ := H
  replace H : (if t121 = 0 then ((spec_l1Rd_pick.f k t103 t122 (t111.length : Int)).bind fun bt123 => (if 0 ≤ bt123.1 then (if bt123.1 < (t111.length : Int) then (some (t106, t110, t111, (rd_T108 t111 bt123.1).f0.f0, (rd_T108 t111 bt123.1).f0.f1, (rd_T108 t111 bt123.1).f0.f2)) else (none)) else (none))) else (some (t106, t110, t111, t116, t117, t118))) = some (r1, r2, r3, r4, r5, r6) := H
  have A7 := Aside0.mk A70
  clear A70
  by_cases c8 : t121 = 0
  ·rw [if_pos c8] at H
   have c8b0 : (t121 == 0) = true := beq_iff_eq.mpr c8
   have c8b1 : (t121 != 0) = false := bne_eq_false_iff_eq.mpr c8
   clear c8
   replace H := Option.bind_eq_some_iff.mp H
   obtain ⟨⟨t123, t124⟩, A90, H⟩ := H
   replace H : (if 0 ≤ t123 then (if t123 < (t111.length : Int) then (some (t106, t110, t111, (rd_T108 t111 t123).f0.f0, (rd_T108 t111 t123).f0.f1, (rd_T108 t111 t123).f0.f2)) else (none)) else (none)) = some (r1, r2, r3, r4, r5, r6) := H
   have A9 := Aside0.mk A90
   clear A90
   by_cases c10 : 0 ≤ t123
   ·rw [if_pos c10] at H
    have c10b0 : decide (0 ≤ t123) = true := decide_eq_true c10
    clear c10
    by_cases c11 : t123 < (t111.length : Int)
    ·rw [if_pos c11] at H
     have c11b0 : decide (t123 < (t111.length : Int)) = true := decide_eq_true c11
     clear c11
     simp only [Option.some.injEq, Prod.mk.injEq] at H
     obtain ⟨rfl, rfl, rfl, rfl, rfl, rfl⟩ := H
     go_enter Try.func29, Try.ntmps29
     try go_wp2_with (first | ((with_reducible refine gate_dst (N := 3) rfl ?_); refine box_event rfl (N := 3) rfl (cs := #[.int .i64 0, .slice none 0 0]) (t := 46) BX ?_; intro gb101 hg w12 hbox hb; have BK101 := am (hbox); have GW101 := am ((GL hg (below_size (KL HB)) : w.heap.size ≤ gb101)); have GE101 := GW101; replace HB := am (below_step (KL HB) hb); clear hb hbox hg) | ((with_reducible refine gate_dst (N := 4) rfl ?_); refine box_event rfl (N := 4) rfl (cs := #[.int .i64 0, .int .i64 0, .int .i64 0]) (t := 25) BX ?_; intro gb102 hg w13 hbox hb; have BK102 := am (hbox); have GW102 := am ((GL hg (below_size (K1 HB GE101.out)) : w.heap.size ≤ gb102)); have GE102 := GW102; replace HB := am (below_step (K1 HB GE101.out) hb); have NB101_102 := am (NL BK101 hg); have NB102_101 := am (NG BK101 hg); replace BK101 := am (BB BK101 hb); clear hb hbox hg) | ((with_reducible refine gate_callee (f := 70) rfl ?_); refine goesL_ (some 10) rfl rfl Try.func70 (by kernel_rfl) rfl #[.slice A0 l0.length c0] rfl MT ?_; (with_reducible refine (spec_l1Open.calls _ _ l0 t103 t104 w _ ?side1 ?side2 ?side3 A2.out).mono ?_); (case side1 => exact K2 HB GE101.out GE102.out); (case side2 => exact HR0.out); (case side3 => exact HC0.out); rintro e w14 ⟨g105, rfl, hi, hb, hb2⟩; refine ⟨_, rfl, ?_⟩; replace HB := am (hb); have HI105 := am (hi); have NB105_101 := am (IsS143.ne_blk hi (blk_below (g := gb101) (o := .cells #[.int .i64 0, .slice none 0 0] 46 (0, 0)) (KB BK101) hb2) (by decide)); have NB101_105 := am (Ne.symm (IsS143.ne_blk hi (blk_below (g := gb101) (o := .cells #[.int .i64 0, .slice none 0 0] 46 (0, 0)) (KB BK101) hb2) (by decide))); replace BK101 := am (blk_below (g := gb101) (o := .cells #[.int .i64 0, .slice none 0 0] 46 (0, 0)) (KB BK101) hb2); have NB105_102 := am (IsS143.ne_blk hi (blk_below (g := gb102) (o := .cells #[.int .i64 0, .int .i64 0, .int .i64 0] 25 (0, 0)) (KB BK102) hb2) (by decide)); have NB102_105 := am (Ne.symm (IsS143.ne_blk hi (blk_below (g := gb102) (o := .cells #[.int .i64 0, .int .i64 0, .int .i64 0] 25 (0, 0)) (KB BK102) hb2) (by decide))); replace BK102 := am (blk_below (g := gb102) (o := .cells #[.int .i64 0, .int .i64 0, .int .i64 0] 25 (0, 0)) (KB BK102) hb2); (try clear hb); (try clear hb2); (try clear hk); (try clear hi)) | ((with_reducible refine gate_callee (f := 71) rfl ?_); refine goesL_ (some 12) rfl rfl Try.func71 (by kernel_rfl) rfl #[.pointer (some ⟨g105, 0, none⟩)] rfl MT ?_; (with_reducible refine (spec_l12AnyRules.calls k g105 t103 t104 t106 t109 w _ ?side1 ?side2 A3.out).mono ?_); (case side1 => exact I143_2 HI105 NB105_101.out NB105_102.out); (case side2 => exact K3 HB (IsS143.ge HI105.out) GE101.out GE102.out); rintro e w15 ⟨v107, rfl, ho0, hi, hb, hk⟩; refine ⟨_, rfl, ?_⟩; replace BK101 := am (KeepBut.blk hk (g' := gb101) (o := .cells #[.int .i64 0, .slice none 0 0] 46 (0, 0)) (KB BK101) NB101_105.out (by simp)); replace BK102 := am (KeepBut.blk hk (g' := gb102) (o := .cells #[.int .i64 0, .int .i64 0, .int .i64 0] 25 (0, 0)) (KB BK102) NB102_105.out (by simp)); have HO108 := am (Kd.R_lower ho0 (below_size (K3 HB (IsS143.ge HI105.out) GE101.out GE102.out))); replace HB := am (hb); replace HI105 := am (hi); (try clear hb); (try clear hb2); (try clear hk); (try clear hi); (try clear ho0); obtain ⟨Ao16, co16, eo16⟩ := Kd.R_slice HO108.out; subst eo16) | ((with_reducible refine gate_callee (f := 90) rfl ?_); refine goesL_ (some 15) rfl rfl Try.func90 (by kernel_rfl) rfl #[.pointer (some ⟨g105, 0, none⟩), .slice Ao16 t106.length co16] rfl MT ?_; (with_reducible refine (spec_l12Cache.calls k g105 t103 t109 _ _ t106 t110 t111 t114 w _ ?side1 ?side2 ?side3 ?side4 A4.out).mono ?_); (case side1 => exact I143_2 HI105 NB105_101.out NB105_102.out); (case side2 => exact K3 HB (IsS143.ge HI105.out) GE101.out GE102.out); (case side3 => exact Kd.C_foot_own (IsS143.apart (show IsS143 w _ g105 t103 t109 from I143_2 HI105 NB105_101.out NB105_102.out) (KR HO108) (by decide)) (fun _ h_ => h_.2)); (case side4 => exact (Kd.R_reads' HO108.out).2.1); rintro e w17 ⟨v112, rfl, ho0, hi, hb, hk⟩; refine ⟨_, rfl, ?_⟩; replace BK101 := am (KeepBut.blk hk (g' := gb101) (o := .cells #[.int .i64 0, .slice none 0 0] 46 (0, 0)) (KB BK101) NB101_105.out (by simp)); replace BK102 := am (KeepBut.blk hk (g' := gb102) (o := .cells #[.int .i64 0, .int .i64 0, .int .i64 0] 25 (0, 0)) (KB BK102) NB102_105.out (by simp)); replace HO108 := am (Kd.R_mono (Kd.R_keep (IsS143.apart (show IsS143 w _ g105 t103 t109 from I143_2 HI105 NB105_101.out NB105_102.out) (KR HO108) (by decide)) hk (fun _ h => h.2)) (fun _ h => h.1)); have HO113 := am (Kd.R_lower ho0 (below_size (K3 HB (IsS143.ge HI105.out) GE101.out GE102.out))); replace HB := am (hb); replace HI105 := am (hi); (try clear hb); (try clear hb2); (try clear hk); (try clear hi); (try clear ho0)) | ((with_reducible refine gate_dst (N := 7) rfl ?_); refine box_event rfl (N := 7) rfl (cs := #[.int .i64 0, .slice none 0 0]) (t := 46) BX ?_; intro gb115 hg w18 hbox hb; replace HO108 := am (Kd.R_below (KR HO108) hb); replace HO113 := am (Kd.R_below (KR HO113) hb); have BK115 := am (hbox); have GW115 := am ((GL hg (below_size (K3 HB (IsS143.ge HI105.out) GE101.out GE102.out)) : w.heap.size ≤ gb115)); have GE115 := GW115; replace HB := am (below_step (K3 HB (IsS143.ge HI105.out) GE101.out GE102.out) hb); have NB101_115 := am (NL BK101 hg); have NB115_101 := am (NG BK101 hg); replace BK101 := am (BB BK101 hb); have NB102_115 := am (NL BK102 hg); have NB115_102 := am (NG BK102 hg); replace BK102 := am (BB BK102 hb); have NB105_115 := am ((by rw [hg]; exact Nat.ne_of_lt (IsS143.lt (show IsS143 w _ g105 t103 t114 from I143_2 HI105 NB105_101.out NB105_102.out)) : g105 ≠ gb115)); have NB115_105 := am ((by rw [hg]; exact Nat.ne_of_gt (IsS143.lt (show IsS143 w _ g105 t103 t114 from I143_2 HI105 NB105_101.out NB105_102.out)) : gb115 ≠ g105)); replace HI105 := am (IsS143.below (I143_2 HI105 NB105_101.out NB105_102.out) hb); clear hb hbox hg; have hnb19 := NB115_101.out; have hnc19 := NB101_115.out; have hnb20 := NB115_102.out; have hnc20 := NB102_115.out; have hnb21 := NB115_105.out; have hnc21 := NB105_115.out; have hcz22_0 := z0 w18 BK115.out; have hcz22_1 := z1 w18 BK115.out; have hfz22_0 := blk_frozen BK115.out 0; have hfz22_1 := blk_frozen BK115.out 1; obtain ⟨Ao23, co23, eo23⟩ := Kd.R_slice HO113.out; subst eo23) | ((with_reducible refine gate_callee (f := 72) rfl ?_); refine goesL_ (some 17) rfl rfl Try.func72 (by kernel_rfl) rfl #[.pointer (some ⟨g105, 0, none⟩)] rfl MT ?_; (with_reducible refine (spec_l12AnyCall.calls k g105 t103 t114 t116 t117 t118 t119 w _ ?side1 ?side2 A5.out).mono ?_); (case side1 => exact I143_3 HI105 NB105_101.out NB105_102.out NB105_115.out); (case side2 => exact K4 HB (IsS143.ge HI105.out) GE101.out GE102.out GE115.out); rintro e w24 ⟨rfl, hi, hb, hk⟩; refine ⟨_, rfl, ?_⟩; replace BK101 := am (KeepBut.blk hk (g' := gb101) (o := .cells #[.int .i64 0, .slice none 0 0] 46 (0, 0)) (by (with_reducible repeat (first | refine blk_drewN ?_ _ | refine blk_drew ?_ | refine blk_alloc ?_ _)); refine blk_far ?_ NB101_115.out _; (with_reducible repeat (first | refine blk_drewN ?_ _ | refine blk_drew ?_ | refine blk_alloc ?_ _)); refine blk_far ?_ NB101_115.out _; (with_reducible repeat (first | refine blk_drewN ?_ _ | refine blk_drew ?_ | refine blk_alloc ?_ _)); exact BK101.out) NB101_105.out (by simp)); replace BK102 := am (KeepBut.blk hk (g' := gb102) (o := .cells #[.int .i64 0, .int .i64 0, .int .i64 0] 25 (0, 0)) (by (with_reducible repeat (first | refine blk_drewN ?_ _ | refine blk_drew ?_ | refine blk_alloc ?_ _)); refine blk_far ?_ NB102_115.out _; (with_reducible repeat (first | refine blk_drewN ?_ _ | refine blk_drew ?_ | refine blk_alloc ?_ _)); refine blk_far ?_ NB102_115.out _; (with_reducible repeat (first | refine blk_drewN ?_ _ | refine blk_drew ?_ | refine blk_alloc ?_ _)); exact BK102.out) NB102_105.out (by simp)); replace HO108 := am (Kd.R_mono (Kd.R_keep (IsS143.apart (show IsS143 w _ g105 t103 t114 from I143_3 HI105 NB105_101.out NB105_102.out NB105_115.out) (by (with_reducible repeat (first | apply Kd.R_alloc | apply Kd.R_drewN | apply Kd.R_drew)); exact (Kd.R_mono (Kd.R_far (p := ⟨gb115, 1, none⟩) (Kd.R_far (p := ⟨gb115, 0, none⟩) (Kd.R_types HO108.out BK115.out (by decide)) (fun _ hk => hk.2) (.int .i64 t110)) (fun _ hk => hk.2) (.slice Ao23 t111.length co23)) (fun _ h_ => h_.1))) (by decide)) hk (fun _ h => h.2)) (fun _ h => h.1)); replace HO113 := am (Kd.R_mono (Kd.R_keep (IsS143.apart (show IsS143 w _ g105 t103 t114 from I143_3 HI105 NB105_101.out NB105_102.out NB105_115.out) (by (with_reducible repeat (first | apply Kd.R_alloc | apply Kd.R_drewN | apply Kd.R_drew)); exact (Kd.R_mono (Kd.R_far (p := ⟨gb115, 1, none⟩) (Kd.R_far (p := ⟨gb115, 0, none⟩) (Kd.R_types HO113.out BK115.out (by decide)) (fun _ hk => hk.2) (.int .i64 t110)) (fun _ hk => hk.2) (.slice Ao23 t111.length co23)) (fun _ h_ => h_.1))) (by decide)) hk (fun _ h => h.2)) (fun _ h => h.1)); replace BK115 := am (KeepBut.blk hk (g' := gb115) (o := .cells #[.int .i64 t110, .slice Ao23 t111.length co23] 46 (0, 0)) (by (with_reducible repeat (first | refine blk_drewN ?_ _ | refine blk_drew ?_ | refine blk_alloc ?_ _)); refine blk_put (cs := #[.int .i64 t110, .slice none 0 0]) ?_ 1 _ rfl; (with_reducible repeat (first | refine blk_drewN ?_ _ | refine blk_drew ?_ | refine blk_alloc ?_ _)); refine blk_put (cs := #[.int .i64 0, .slice none 0 0]) ?_ 0 _ rfl; (with_reducible repeat (first | refine blk_drewN ?_ _ | refine blk_drew ?_ | refine blk_alloc ?_ _)); exact BK115.out) NB115_105.out (by simp)); replace HB := am (hb); replace HI105 := am (hi); (try clear hb); (try clear hb2); (try clear hk); (try clear hi)) | ((with_reducible refine gate_dst (N := 8) rfl ?_); refine box_event rfl (N := 8) rfl (cs := #[.int .i64 0, .int .i64 0, .int .i64 0]) (t := 25) BX ?_; intro gb120 hg w25 hbox hb; replace HO108 := am (Kd.R_below (KR HO108) hb); replace HO113 := am (Kd.R_below (KR HO113) hb); have BK120 := am (hbox); have GW120 := am ((GL hg (below_size (K4 HB (IsS143.ge HI105.out) GE101.out GE102.out GE115.out)) : w.heap.size ≤ gb120)); have GE120 := GW120; replace HB := am (below_step (K4 HB (IsS143.ge HI105.out) GE101.out GE102.out GE115.out) hb); have NB101_120 := am (NL BK101 hg); have NB120_101 := am (NG BK101 hg); replace BK101 := am (BB BK101 hb); have NB102_120 := am (NL BK102 hg); have NB120_102 := am (NG BK102 hg); replace BK102 := am (BB BK102 hb); have NB115_120 := am (NL BK115 hg); have NB120_115 := am (NG BK115 hg); replace BK115 := am (BB BK115 hb); have NB105_120 := am ((by rw [hg]; exact Nat.ne_of_lt (IsS143.lt (show IsS143 w _ g105 t103 t119 from I143_3 HI105 NB105_101.out NB105_102.out NB105_115.out)) : g105 ≠ gb120)); have NB120_105 := am ((by rw [hg]; exact Nat.ne_of_gt (IsS143.lt (show IsS143 w _ g105 t103 t119 from I143_3 HI105 NB105_101.out NB105_102.out NB105_115.out)) : gb120 ≠ g105)); replace HI105 := am (IsS143.below (I143_3 HI105 NB105_101.out NB105_102.out NB105_115.out) hb); clear hb hbox hg; have hnb26 := NB120_101.out; have hnc26 := NB101_120.out; have hnb27 := NB120_102.out; have hnc27 := NB102_120.out; have hnb28 := NB120_115.out; have hnc28 := NB115_120.out; have hnb29 := NB120_105.out; have hnc29 := NB105_120.out; have hcz30_0 := z0 w25 BK120.out; have hcz30_1 := z1 w25 BK120.out; have hcz30_2 := z2 w25 BK120.out; have hfz30_0 := blk_frozen BK120.out 0; have hfz30_1 := blk_frozen BK120.out 1; have hfz30_2 := blk_frozen BK120.out 2; have hcz31_0 := z0 w25 BK115.out; have hcz31_1 := z1 w25 BK115.out; have hfz31_0 := blk_frozen BK115.out 0; have hfz31_1 := blk_frozen BK115.out 1) | (go_at_call 91; (with_reducible refine (spec_l1Rd_pick.calls k g105 t103 t119 2 t121 t122 w _ ?side1 ?side2 A7.out).mono ?_); (case side1 => exact I143_4 HI105 NB105_101.out NB105_102.out NB105_115.out NB105_120.out); (case side2 => exact K5 HB (IsS143.ge HI105.out) GE101.out GE102.out GE115.out GE120.out); rintro e w32 ⟨rfl, hi, hb, hk⟩; replace BK101 := am (KeepBut.blk hk (g' := gb101) (o := .cells #[.int .i64 0, .slice none 0 0] 46 (0, 0)) (by (with_reducible repeat (first | refine blk_drewN ?_ _ | refine blk_drew ?_ | refine blk_alloc ?_ _)); refine blk_far ?_ NB101_120.out _; (with_reducible repeat (first | refine blk_drewN ?_ _ | refine blk_drew ?_ | refine blk_alloc ?_ _)); refine blk_far ?_ NB101_120.out _; (with_reducible repeat (first | refine blk_drewN ?_ _ | refine blk_drew ?_ | refine blk_alloc ?_ _)); refine blk_far ?_ NB101_120.out _; (with_reducible repeat (first | refine blk_drewN ?_ _ | refine blk_drew ?_ | refine blk_alloc ?_ _)); exact BK101.out) NB101_105.out (by simp)); replace BK102 := am (KeepBut.blk hk (g' := gb102) (o := .cells #[.int .i64 0, .int .i64 0, .int .i64 0] 25 (0, 0)) (by (with_reducible repeat (first | refine blk_drewN ?_ _ | refine blk_drew ?_ | refine blk_alloc ?_ _)); refine blk_far ?_ NB102_120.out _; (with_reducible repeat (first | refine blk_drewN ?_ _ | refine blk_drew ?_ | refine blk_alloc ?_ _)); refine blk_far ?_ NB102_120.out _; (with_reducible repeat (first | refine blk_drewN ?_ _ | refine blk_drew ?_ | refine blk_alloc ?_ _)); refine blk_far ?_ NB102_120.out _; (with_reducible repeat (first | refine blk_drewN ?_ _ | refine blk_drew ?_ | refine blk_alloc ?_ _)); exact BK102.out) NB102_105.out (by simp)); replace HO108 := am (Kd.R_mono (Kd.R_keep (IsS143.apart (show IsS143 w _ g105 t103 t119 from I143_4 HI105 NB105_101.out NB105_102.out NB105_115.out NB105_120.out) (by (with_reducible repeat (first | apply Kd.R_alloc | apply Kd.R_drewN | apply Kd.R_drew)); exact (Kd.R_mono (Kd.R_far (p := ⟨gb120, 2, none⟩) (Kd.R_far (p := ⟨gb120, 1, none⟩) (Kd.R_far (p := ⟨gb120, 0, none⟩) (Kd.R_types HO108.out BK120.out (by decide)) (fun _ hk => hk.2) (.int .i64 t116)) (fun _ hk => hk.2) (.int .i64 t117)) (fun _ hk => hk.2) (.int .i64 t118)) (fun _ h_ => h_.1))) (by decide)) hk (fun _ h => h.2)) (fun _ h => h.1)); replace HO113 := am (Kd.R_mono (Kd.R_keep (IsS143.apart (show IsS143 w _ g105 t103 t119 from I143_4 HI105 NB105_101.out NB105_102.out NB105_115.out NB105_120.out) (by (with_reducible repeat (first | apply Kd.R_alloc | apply Kd.R_drewN | apply Kd.R_drew)); exact (Kd.R_mono (Kd.R_far (p := ⟨gb120, 2, none⟩) (Kd.R_far (p := ⟨gb120, 1, none⟩) (Kd.R_far (p := ⟨gb120, 0, none⟩) (Kd.R_types HO113.out BK120.out (by decide)) (fun _ hk => hk.2) (.int .i64 t116)) (fun _ hk => hk.2) (.int .i64 t117)) (fun _ hk => hk.2) (.int .i64 t118)) (fun _ h_ => h_.1))) (by decide)) hk (fun _ h => h.2)) (fun _ h => h.1)); replace BK115 := am (KeepBut.blk hk (g' := gb115) (o := .cells #[.int .i64 t110, .slice Ao23 t111.length co23] 46 (0, 0)) (by (with_reducible repeat (first | refine blk_drewN ?_ _ | refine blk_drew ?_ | refine blk_alloc ?_ _)); refine blk_far ?_ NB115_120.out _; (with_reducible repeat (first | refine blk_drewN ?_ _ | refine blk_drew ?_ | refine blk_alloc ?_ _)); refine blk_far ?_ NB115_120.out _; (with_reducible repeat (first | refine blk_drewN ?_ _ | refine blk_drew ?_ | refine blk_alloc ?_ _)); refine blk_far ?_ NB115_120.out _; (with_reducible repeat (first | refine blk_drewN ?_ _ | refine blk_drew ?_ | refine blk_alloc ?_ _)); exact BK115.out) NB115_105.out (by simp)); replace BK120 := am (KeepBut.blk hk (g' := gb120) (o := .cells #[.int .i64 t116, .int .i64 t117, .int .i64 t118] 25 (0, 0)) (by (with_reducible repeat (first | refine blk_drewN ?_ _ | refine blk_drew ?_ | refine blk_alloc ?_ _)); refine blk_put (cs := #[.int .i64 t116, .int .i64 t117, .int .i64 0]) ?_ 2 _ rfl; (with_reducible repeat (first | refine blk_drewN ?_ _ | refine blk_drew ?_ | refine blk_alloc ?_ _)); refine blk_put (cs := #[.int .i64 t116, .int .i64 0, .int .i64 0]) ?_ 1 _ rfl; (with_reducible repeat (first | refine blk_drewN ?_ _ | refine blk_drew ?_ | refine blk_alloc ?_ _)); refine blk_put (cs := #[.int .i64 0, .int .i64 0, .int .i64 0]) ?_ 0 _ rfl; (with_reducible repeat (first | refine blk_drewN ?_ _ | refine blk_drew ?_ | refine blk_alloc ?_ _)); exact BK120.out) NB120_105.out (by simp)); replace HB := am (hb); replace HI105 := am (hi); (try clear hb); (try clear hb2); (try clear hk); (try clear hi)))
     replace HO108 := am (Kd.R_drew HO108.out)
     replace HO113 := am (Kd.R_drew HO113.out)
     replace BK101 := am (blk_drew BK101.out)
     replace BK102 := am (blk_drew BK102.out)
     replace BK115 := am (blk_drew BK115.out)
     replace BK120 := am (blk_drew BK120.out)
     replace HI105 := am (IsS143.drew HI105.out)
     replace HB := am (below_drew1 HB.out)
     have p125 : 0 ≤ (t123 : Int) := of_decide_eq_true (by first | (with_reducible assumption) | assumption)
     have q125 : t123 < (t111.length : Int) := of_decide_eq_true (by first | (with_reducible assumption) | assumption)
     obtain ⟨ad125, e125, hx125_0, hx125_1, hx125_2, hx125_3⟩ := at_T108 (Kd.R_reads' HO113.out).2.2 t123 p125 q125
     cases e125
     replace p125 := eq_true p125
     replace q125 := eq_true q125
     refine start_ (n := 11) (S := fun w' => w'.cell? ⟨gb115, 0, none⟩ = some (.int .i64 t110) ∧ w'.cell? ⟨gb115, 1, none⟩ = some (.slice (some ad125) t111.length co23) ∧ w'.cell? (ad125.add ((t123).toNat * 4)) = some (.int .i64 ((rd_T108 t111 t123).f0.f0)) ∧ w'.cell? ⟨(ad125.add ((t123).toNat * 4)).block, (ad125.add ((t123).toNat * 4)).off + 1, none⟩ = some (.int .i64 ((rd_T108 t111 t123).f0.f1)) ∧ w'.cell? ⟨(ad125.add ((t123).toNat * 4)).block, (ad125.add ((t123).toNat * 4)).off + 2, none⟩ = some (.int .i64 ((rd_T108 t111 t123).f0.f2)) ∧ w'.cell? ⟨(ad125.add ((t123).toNat * 4)).block, (ad125.add ((t123).toNat * 4)).off + 3, none⟩ = some (.int .i64 ((rd_T108 t111 t123).f1))) (ds := []) (tf 0 11) (by kernel_rfl) rfl rfl ⟨z0 _ BK115.out, z1 _ BK115.out, hx125_0, hx125_1, hx125_2, hx125_3⟩ (fun hHeld => ?_); refine with_tabW spec_DrawCacheFind.tab6 spec_DrawCacheFind.bits6 (fun HT_ HW_ => ?_)
     generalize w32.drew = w33 at HO108 HO113 BK101 BK102 BK115 BK120 HI105 HB hx125_0 hx125_1 hx125_2 hx125_3 hHeld ⊢
     refine pu 0 (some 27) (tf 1 10) (any_of HT_.out (by kernel_rfl)) ?_
     refine pu 2 (some 29) #[true, false, true, false, false, false, false, false, false, false, false] (any_of HT_.out (by kernel_rfl)) ?_
     refine pu 3 (some 30) #[true, false, true, true, false, false, false, false, false, false, false] (any_of HT_.out (by kernel_rfl)) ?_
     refine tk 1 (some 28) (tf 4 7) (take_ofW HT_.out HW_.out (by kernel_rfl)) hHeld ?_
     refine tk 4 (some 31) (tf 5 6) (take_ofW HT_.out HW_.out (by kernel_rfl)) hHeld ?_
     refine pu 5 (some 32) (tf 6 5) (any_of HT_.out (by kernel_rfl)) ?_
     refine one_ (i := 6) (N := some 33) (tf 7 4) rfl rfl (one_of HT_.out (by kernel_rfl)) (by decide) (fun K hK => ?_)
     refine goes_ Try.func91 (by kernel_rfl) rfl #[.pointer (some ⟨g105, 0, none⟩), .int .i64 (t111.length : Int)] (by rfl) rfl rfl MT ?_
     with_reducible refine (spec_l1Rd_pick.calls k g105 t103 t122 (t111.length : Int) t123 t124 w _ ?side1 ?side2 A9.out).mono ?_
     (case side1 => exact I143_4 HI105 NB105_101.out NB105_102.out NB105_115.out NB105_120.out)
     (case side2 => exact K5 HB (IsS143.ge HI105.out) GE101.out GE102.out GE115.out GE120.out)
     rintro e w34 ⟨rfl, hi, hb, hk⟩
     have HS2_ := keep_cell hk (hHeld.2.2.1) (by first | (rw [add_block]; exact Kd.own_blk (IsS143.own_ne HI105.out HO113.out (by decide))) | (show (Addr.add _ _).block ≠ _; rw [add_block]; exact Kd.own_blk (IsS143.own_ne HI105.out HO113.out (by decide))) | exact Kd.own_blk (IsS143.own_ne HI105.out HO113.out (by decide)))
     have HS3_ := keep_cell hk (hHeld.2.2.2.1) (by first | (rw [add_block]; exact Kd.own_blk (IsS143.own_ne HI105.out HO113.out (by decide))) | (show (Addr.add _ _).block ≠ _; rw [add_block]; exact Kd.own_blk (IsS143.own_ne HI105.out HO113.out (by decide))) | exact Kd.own_blk (IsS143.own_ne HI105.out HO113.out (by decide)))
     have HS4_ := keep_cell hk (hHeld.2.2.2.2.1) (by first | (rw [add_block]; exact Kd.own_blk (IsS143.own_ne HI105.out HO113.out (by decide))) | (show (Addr.add _ _).block ≠ _; rw [add_block]; exact Kd.own_blk (IsS143.own_ne HI105.out HO113.out (by decide))) | exact Kd.own_blk (IsS143.own_ne HI105.out HO113.out (by decide)))
     have HS5_ := keep_cell hk (hHeld.2.2.2.2.2) (by first | (rw [add_block]; exact Kd.own_blk (IsS143.own_ne HI105.out HO113.out (by decide))) | (show (Addr.add _ _).block ≠ _; rw [add_block]; exact Kd.own_blk (IsS143.own_ne HI105.out HO113.out (by decide))) | exact Kd.own_blk (IsS143.own_ne HI105.out HO113.out (by decide)))
     refine ⟨_, rfl, ?_⟩
     replace BK101 := am (KeepBut.blk hk (g' := gb101) (o := .cells #[.int .i64 0, .slice none 0 0] 46 (0, 0)) (KB BK101) NB101_105.out (by simp))
     replace BK102 := am (KeepBut.blk hk (g' := gb102) (o := .cells #[.int .i64 0, .int .i64 0, .int .i64 0] 25 (0, 0)) (KB BK102) NB102_105.out (by simp))
     replace HO108 := am (Kd.R_mono (Kd.R_keep (IsS143.apart (show IsS143 w _ g105 t103 t122 from I143_4 HI105 NB105_101.out NB105_102.out NB105_115.out NB105_120.out) (KR HO108) (by decide)) hk (fun _ h => h.2)) (fun _ h => h.1))
     replace HO113 := am (Kd.R_mono (Kd.R_keep (IsS143.apart (show IsS143 w _ g105 t103 t122 from I143_4 HI105 NB105_101.out NB105_102.out NB105_115.out NB105_120.out) (KR HO113) (by decide)) hk (fun _ h => h.2)) (fun _ h => h.1))
     replace BK115 := am (KeepBut.blk hk (g' := gb115) (o := .cells #[.int .i64 t110, .slice (some ad125) t111.length co23] 46 (0, 0)) (KB BK115) NB115_105.out (by simp))
     replace BK120 := am (KeepBut.blk hk (g' := gb120) (o := .cells #[.int .i64 t116, .int .i64 t117, .int .i64 t118] 25 (0, 0)) (KB BK120) NB120_105.out (by simp))
     replace HB := am (hb)
     replace HI105 := am (hi)
     (try clear hb)
     (try clear hb2)
     (try clear hk)
     (try clear hi)
     refine hK.out _ _ ⟨z0 _ BK115.out, z1 _ BK115.out, HS2_, HS3_, HS4_, HS5_⟩ (fun hHeld => ?_)
     clear hK K
     refine norm_ (a' := ?_) ?_ ?_
     rotate_left
     ·show Act.put _ (some 33) _ = _
      simp only [Act.put, List.setIfInBounds_toArray, List.set_cons_zero, List.set_cons_succ, i64_w, i32_w]
      rfl
     refine pu 7 (some 34) (tf 8 3) (any_of HT_.out (by kernel_rfl)) ?_
     refine pu 8 (some 35) (tf 9 2) (any_of HT_.out (by kernel_rfl)) ?_
     refine tk 9 (some 36) (tf 10 1) (take_ofW HT_.out HW_.out (by kernel_rfl)) hHeld ?_
     refine one_ (i := 10) (N := none) (tf 11 0) rfl rfl (one_of HT_.out (by kernel_rfl)) (by decide) (fun K hK => ?_)
     have hs35 : w34.cell? ⟨gb120, 0, none⟩ = some (.int .i64 t116) := z0 _ BK120.out
     have hfs35 := blk_frozen BK120.out 0
     have hns35_0 := NB101_120.out
     have hns35_1 := NB102_120.out
     have hns35_2 := NB115_120.out
     have hms35_0 := NB120_101.out
     have hms35_1 := NB120_102.out
     have hms35_2 := NB120_115.out
     have hs36 : w34.cell? ⟨gb120, 1, none⟩ = some (.int .i64 t117) := z1 _ BK120.out
     have hfs36 := blk_frozen BK120.out 1
     have hns36_0 := NB101_120.out
     have hns36_1 := NB102_120.out
     have hns36_2 := NB115_120.out
     have hms36_0 := NB120_101.out
     have hms36_1 := NB120_102.out
     have hms36_2 := NB120_115.out
     have hs37 : w34.cell? ⟨gb120, 2, none⟩ = some (.int .i64 t118) := z2 _ BK120.out
     have hfs37 := blk_frozen BK120.out 2
     have hns37_0 := NB101_120.out
     have hns37_1 := NB102_120.out
     have hns37_2 := NB115_120.out
     have hms37_0 := NB120_101.out
     have hms37_1 := NB120_102.out
     have hms37_2 := NB120_115.out
     refine skip_ (w1 := ?_) (by rfl) rfl ?_ ?_
     rotate_left
     ·go_simp
      rfl
     refine hK.out _ _ ⟨((cell_far (p := ⟨gb120, _, none⟩) NB115_120.out _).trans (((cell_far (p := ⟨gb120, _, none⟩) NB115_120.out _).trans (((cell_far (p := ⟨gb120, _, none⟩) NB115_120.out _).trans (hHeld.1)))))), ((cell_far (p := ⟨gb120, _, none⟩) NB115_120.out _).trans (((cell_far (p := ⟨gb120, _, none⟩) NB115_120.out _).trans (((cell_far (p := ⟨gb120, _, none⟩) NB115_120.out _).trans (hHeld.2.1)))))), ((cell_far (p := ⟨gb120, _, none⟩) (by first | exact Kd.own_blk (Kd.R_ne HO113.out BK120.out (by decide)) | (rw [add_block]; exact Kd.own_blk (Kd.R_ne HO113.out BK120.out (by decide))) | (show (Addr.add _ _).block ≠ _; rw [add_block]; exact Kd.own_blk (Kd.R_ne HO113.out BK120.out (by decide))) | (dsimp only; exact Kd.own_blk (Kd.R_ne HO113.out BK120.out (by decide)))) _).trans (((cell_far (p := ⟨gb120, _, none⟩) (by first | exact Kd.own_blk (Kd.R_ne HO113.out BK120.out (by decide)) | (rw [add_block]; exact Kd.own_blk (Kd.R_ne HO113.out BK120.out (by decide))) | (show (Addr.add _ _).block ≠ _; rw [add_block]; exact Kd.own_blk (Kd.R_ne HO113.out BK120.out (by decide))) | (dsimp only; exact Kd.own_blk (Kd.R_ne HO113.out BK120.out (by decide)))) _).trans (((cell_far (p := ⟨gb120, _, none⟩) (by first | exact Kd.own_blk (Kd.R_ne HO113.out BK120.out (by decide)) | (rw [add_block]; exact Kd.own_blk (Kd.R_ne HO113.out BK120.out (by decide))) | (show (Addr.add _ _).block ≠ _; rw [add_block]; exact Kd.own_blk (Kd.R_ne HO113.out BK120.out (by decide))) | (dsimp only; exact Kd.own_blk (Kd.R_ne HO113.out BK120.out (by decide)))) _).trans (hHeld.2.2.1)))))), ((cell_far (p := ⟨gb120, _, none⟩) (by first | exact Kd.own_blk (Kd.R_ne HO113.out BK120.out (by decide)) | (rw [add_block]; exact Kd.own_blk (Kd.R_ne HO113.out BK120.out (by decide))) | (show (Addr.add _ _).block ≠ _; rw [add_block]; exact Kd.own_blk (Kd.R_ne HO113.out BK120.out (by decide))) | (dsimp only; exact Kd.own_blk (Kd.R_ne HO113.out BK120.out (by decide)))) _).trans (((cell_far (p := ⟨gb120, _, none⟩) (by first | exact Kd.own_blk (Kd.R_ne HO113.out BK120.out (by decide)) | (rw [add_block]; exact Kd.own_blk (Kd.R_ne HO113.out BK120.out (by decide))) | (show (Addr.add _ _).block ≠ _; rw [add_block]; exact Kd.own_blk (Kd.R_ne HO113.out BK120.out (by decide))) | (dsimp only; exact Kd.own_blk (Kd.R_ne HO113.out BK120.out (by decide)))) _).trans (((cell_far (p := ⟨gb120, _, none⟩) (by first | exact Kd.own_blk (Kd.R_ne HO113.out BK120.out (by decide)) | (rw [add_block]; exact Kd.own_blk (Kd.R_ne HO113.out BK120.out (by decide))) | (show (Addr.add _ _).block ≠ _; rw [add_block]; exact Kd.own_blk (Kd.R_ne HO113.out BK120.out (by decide))) | (dsimp only; exact Kd.own_blk (Kd.R_ne HO113.out BK120.out (by decide)))) _).trans (hHeld.2.2.2.1)))))), ((cell_far (p := ⟨gb120, _, none⟩) (by first | exact Kd.own_blk (Kd.R_ne HO113.out BK120.out (by decide)) | (rw [add_block]; exact Kd.own_blk (Kd.R_ne HO113.out BK120.out (by decide))) | (show (Addr.add _ _).block ≠ _; rw [add_block]; exact Kd.own_blk (Kd.R_ne HO113.out BK120.out (by decide))) | (dsimp only; exact Kd.own_blk (Kd.R_ne HO113.out BK120.out (by decide)))) _).trans (((cell_far (p := ⟨gb120, _, none⟩) (by first | exact Kd.own_blk (Kd.R_ne HO113.out BK120.out (by decide)) | (rw [add_block]; exact Kd.own_blk (Kd.R_ne HO113.out BK120.out (by decide))) | (show (Addr.add _ _).block ≠ _; rw [add_block]; exact Kd.own_blk (Kd.R_ne HO113.out BK120.out (by decide))) | (dsimp only; exact Kd.own_blk (Kd.R_ne HO113.out BK120.out (by decide)))) _).trans (((cell_far (p := ⟨gb120, _, none⟩) (by first | exact Kd.own_blk (Kd.R_ne HO113.out BK120.out (by decide)) | (rw [add_block]; exact Kd.own_blk (Kd.R_ne HO113.out BK120.out (by decide))) | (show (Addr.add _ _).block ≠ _; rw [add_block]; exact Kd.own_blk (Kd.R_ne HO113.out BK120.out (by decide))) | (dsimp only; exact Kd.own_blk (Kd.R_ne HO113.out BK120.out (by decide)))) _).trans (hHeld.2.2.2.2.1)))))), ((cell_far (p := ⟨gb120, _, none⟩) (by first | exact Kd.own_blk (Kd.R_ne HO113.out BK120.out (by decide)) | (rw [add_block]; exact Kd.own_blk (Kd.R_ne HO113.out BK120.out (by decide))) | (show (Addr.add _ _).block ≠ _; rw [add_block]; exact Kd.own_blk (Kd.R_ne HO113.out BK120.out (by decide))) | (dsimp only; exact Kd.own_blk (Kd.R_ne HO113.out BK120.out (by decide)))) _).trans (((cell_far (p := ⟨gb120, _, none⟩) (by first | exact Kd.own_blk (Kd.R_ne HO113.out BK120.out (by decide)) | (rw [add_block]; exact Kd.own_blk (Kd.R_ne HO113.out BK120.out (by decide))) | (show (Addr.add _ _).block ≠ _; rw [add_block]; exact Kd.own_blk (Kd.R_ne HO113.out BK120.out (by decide))) | (dsimp only; exact Kd.own_blk (Kd.R_ne HO113.out BK120.out (by decide)))) _).trans (((cell_far (p := ⟨gb120, _, none⟩) (by first | exact Kd.own_blk (Kd.R_ne HO113.out BK120.out (by decide)) | (rw [add_block]; exact Kd.own_blk (Kd.R_ne HO113.out BK120.out (by decide))) | (show (Addr.add _ _).block ≠ _; rw [add_block]; exact Kd.own_blk (Kd.R_ne HO113.out BK120.out (by decide))) | (dsimp only; exact Kd.own_blk (Kd.R_ne HO113.out BK120.out (by decide)))) _).trans (hHeld.2.2.2.2.2))))))⟩ (fun hHeld => ?_)
     clear hK K
     refine done_ (done_of HT_.out (by kernel_rfl)) ?_
     try go_wp2
     have n0_ : Aside0 (Kd.R k34 34 (((w34.setCell ⟨gb120, 0, none⟩ (.int .i64 ((rd_T108 t111 t123).f0.f0))).setCell ⟨gb120, 1, none⟩ (.int .i64 ((rd_T108 t111 t123).f0.f1))).setCell ⟨gb120, 2, none⟩ (.int .i64 ((rd_T108 t111 t123).f0.f2))) w.heap.size (fun _ => True) (.slice Ao16 t106.length co16) t106) := ⟨by (with_reducible repeat (first | apply Kd.R_alloc | apply Kd.R_drewN | apply Kd.R_drew)); exact Kd.R_mono (Kd.R_far (p := ⟨gb120, 2, none⟩) (Kd.R_far (p := ⟨gb120, 1, none⟩) (Kd.R_far (p := ⟨gb120, 0, none⟩) (Kd.R_types HO108.out BK120.out (by decide)) (fun _ hk => hk.2) (.int .i64 ((rd_T108 t111 t123).f0.f0))) (fun _ hk => hk.2) (.int .i64 ((rd_T108 t111 t123).f0.f1))) (fun _ hk => hk.2) (.int .i64 ((rd_T108 t111 t123).f0.f2))) (fun _ hk => trivial)⟩
     have n1_ : Aside0 (Kd.R k108 108 (((w34.setCell ⟨gb120, 0, none⟩ (.int .i64 ((rd_T108 t111 t123).f0.f0))).setCell ⟨gb120, 1, none⟩ (.int .i64 ((rd_T108 t111 t123).f0.f1))).setCell ⟨gb120, 2, none⟩ (.int .i64 ((rd_T108 t111 t123).f0.f2))) w.heap.size (fun _ => True) (.slice (some ad125) t111.length co23) t111) := ⟨by (with_reducible repeat (first | apply Kd.R_alloc | apply Kd.R_drewN | apply Kd.R_drew)); exact Kd.R_mono (Kd.R_far (p := ⟨gb120, 2, none⟩) (Kd.R_far (p := ⟨gb120, 1, none⟩) (Kd.R_far (p := ⟨gb120, 0, none⟩) (Kd.R_types HO113.out BK120.out (by decide)) (fun _ hk => hk.2) (.int .i64 ((rd_T108 t111 t123).f0.f0))) (fun _ hk => hk.2) (.int .i64 ((rd_T108 t111 t123).f0.f1))) (fun _ hk => hk.2) (.int .i64 ((rd_T108 t111 t123).f0.f2))) (fun _ hk => trivial)⟩
     have n2_ : Aside0 ((((w34.setCell ⟨gb120, 0, none⟩ (.int .i64 ((rd_T108 t111 t123).f0.f0))).setCell ⟨gb120, 1, none⟩ (.int .i64 ((rd_T108 t111 t123).f0.f1))).setCell ⟨gb120, 2, none⟩ (.int .i64 ((rd_T108 t111 t123).f0.f2))).heap[gb101]? = some (.cells #[.int .i64 0, .slice none 0 0] 46 (0, 0))) := ⟨by (with_reducible repeat (first | refine blk_drewN ?_ _ | refine blk_drew ?_ | refine blk_alloc ?_ _)); refine blk_far ?_ NB101_120.out _; (with_reducible repeat (first | refine blk_drewN ?_ _ | refine blk_drew ?_ | refine blk_alloc ?_ _)); refine blk_far ?_ NB101_120.out _; (with_reducible repeat (first | refine blk_drewN ?_ _ | refine blk_drew ?_ | refine blk_alloc ?_ _)); refine blk_far ?_ NB101_120.out _; (with_reducible repeat (first | refine blk_drewN ?_ _ | refine blk_drew ?_ | refine blk_alloc ?_ _)); exact BK101.out⟩
     have n3_ : Aside0 ((((w34.setCell ⟨gb120, 0, none⟩ (.int .i64 ((rd_T108 t111 t123).f0.f0))).setCell ⟨gb120, 1, none⟩ (.int .i64 ((rd_T108 t111 t123).f0.f1))).setCell ⟨gb120, 2, none⟩ (.int .i64 ((rd_T108 t111 t123).f0.f2))).heap[gb102]? = some (.cells #[.int .i64 0, .int .i64 0, .int .i64 0] 25 (0, 0))) := ⟨by (with_reducible repeat (first | refine blk_drewN ?_ _ | refine blk_drew ?_ | refine blk_alloc ?_ _)); refine blk_far ?_ NB102_120.out _; (with_reducible repeat (first | refine blk_drewN ?_ _ | refine blk_drew ?_ | refine blk_alloc ?_ _)); refine blk_far ?_ NB102_120.out _; (with_reducible repeat (first | refine blk_drewN ?_ _ | refine blk_drew ?_ | refine blk_alloc ?_ _)); refine blk_far ?_ NB102_120.out _; (with_reducible repeat (first | refine blk_drewN ?_ _ | refine blk_drew ?_ | refine blk_alloc ?_ _)); exact BK102.out⟩
     have n4_ : Aside0 ((((w34.setCell ⟨gb120, 0, none⟩ (.int .i64 ((rd_T108 t111 t123).f0.f0))).setCell ⟨gb120, 1, none⟩ (.int .i64 ((rd_T108 t111 t123).f0.f1))).setCell ⟨gb120, 2, none⟩ (.int .i64 ((rd_T108 t111 t123).f0.f2))).heap[gb115]? = some (.cells #[.int .i64 t110, .slice (some ad125) t111.length co23] 46 (0, 0))) := ⟨by (with_reducible repeat (first | refine blk_drewN ?_ _ | refine blk_drew ?_ | refine blk_alloc ?_ _)); refine blk_far ?_ NB115_120.out _; (with_reducible repeat (first | refine blk_drewN ?_ _ | refine blk_drew ?_ | refine blk_alloc ?_ _)); refine blk_far ?_ NB115_120.out _; (with_reducible repeat (first | refine blk_drewN ?_ _ | refine blk_drew ?_ | refine blk_alloc ?_ _)); refine blk_far ?_ NB115_120.out _; (with_reducible repeat (first | refine blk_drewN ?_ _ | refine blk_drew ?_ | refine blk_alloc ?_ _)); exact BK115.out⟩
     have n5_ : Aside0 ((((w34.setCell ⟨gb120, 0, none⟩ (.int .i64 ((rd_T108 t111 t123).f0.f0))).setCell ⟨gb120, 1, none⟩ (.int .i64 ((rd_T108 t111 t123).f0.f1))).setCell ⟨gb120, 2, none⟩ (.int .i64 ((rd_T108 t111 t123).f0.f2))).heap[gb120]? = some (.cells #[.int .i64 ((rd_T108 t111 t123).f0.f0), .int .i64 ((rd_T108 t111 t123).f0.f1), .int .i64 ((rd_T108 t111 t123).f0.f2)] 25 (0, 0))) := ⟨by (with_reducible repeat (first | refine blk_drewN ?_ _ | refine blk_drew ?_ | refine blk_alloc ?_ _)); refine blk_put (cs := #[.int .i64 ((rd_T108 t111 t123).f0.f0), .int .i64 ((rd_T108 t111 t123).f0.f1), .int .i64 t118]) ?_ 2 _ rfl; (with_reducible repeat (first | refine blk_drewN ?_ _ | refine blk_drew ?_ | refine blk_alloc ?_ _)); refine blk_put (cs := #[.int .i64 ((rd_T108 t111 t123).f0.f0), .int .i64 t117, .int .i64 t118]) ?_ 1 _ rfl; (with_reducible repeat (first | refine blk_drewN ?_ _ | refine blk_drew ?_ | refine blk_alloc ?_ _)); refine blk_put (cs := #[.int .i64 t116, .int .i64 t117, .int .i64 t118]) ?_ 0 _ rfl; (with_reducible repeat (first | refine blk_drewN ?_ _ | refine blk_drew ?_ | refine blk_alloc ?_ _)); exact BK120.out⟩
     have n6_ : Aside0 (IsS143 w (((w34.setCell ⟨gb120, 0, none⟩ (.int .i64 ((rd_T108 t111 t123).f0.f0))).setCell ⟨gb120, 1, none⟩ (.int .i64 ((rd_T108 t111 t123).f0.f1))).setCell ⟨gb120, 2, none⟩ (.int .i64 ((rd_T108 t111 t123).f0.f2))) g105 t103 t124) := ⟨I143_4 HI105 NB105_101.out NB105_102.out NB105_115.out NB105_120.out⟩
     have n7_ : Aside0 (Below w.heap.size w (((w34.setCell ⟨gb120, 0, none⟩ (.int .i64 ((rd_T108 t111 t123).f0.f0))).setCell ⟨gb120, 1, none⟩ (.int .i64 ((rd_T108 t111 t123).f0.f1))).setCell ⟨gb120, 2, none⟩ (.int .i64 ((rd_T108 t111 t123).f0.f2)))) := ⟨K5 HB (IsS143.ge HI105.out) GE101.out GE102.out GE115.out GE120.out⟩
     (try clear HO108)
     (try clear HO113)
     (try clear BK101)
     (try clear BK102)
     (try clear BK115)
     (try clear BK120)
     (try clear HI105)
     (try clear HB)
     generalize (((w34.setCell ⟨gb120, 0, none⟩ (.int .i64 ((rd_T108 t111 t123).f0.f0))).setCell ⟨gb120, 1, none⟩ (.int .i64 ((rd_T108 t111 t123).f0.f1))).setCell ⟨gb120, 2, none⟩ (.int .i64 ((rd_T108 t111 t123).f0.f2))) = w38 at n0_ n1_ n2_ n3_ n4_ n5_ n6_ n7_ ⊢
     have HO108 := n0_
     have HO113 := n1_
     have BK101 := n2_
     have BK102 := n3_
     have BK115 := n4_
     have BK120 := n5_
     have HI105 := n6_
     have HB := n7_
     clear n0_ n1_ n2_ n3_ n4_ n5_ n6_ n7_
     replace HO108 := am (Kd.R_drew HO108.out)
     replace HO113 := am (Kd.R_drew HO113.out)
     replace BK101 := am (blk_drew BK101.out)
     replace BK102 := am (blk_drew BK102.out)
     replace BK115 := am (blk_drew BK115.out)
     replace BK120 := am (blk_drew BK120.out)
     replace HI105 := am (IsS143.drew HI105.out)
     replace HB := am (below_drew1 HB.out)
     refine start_ (n := 6) (S := fun w' => w'.cell? ⟨gb115, 0, none⟩ = some (.int .i64 t110) ∧ w'.cell? ⟨gb115, 1, none⟩ = some (.slice (some ad125) t111.length co23) ∧ w'.cell? ⟨gb120, 0, none⟩ = some (.int .i64 ((rd_T108 t111 t123).f0.f0)) ∧ w'.cell? ⟨gb120, 1, none⟩ = some (.int .i64 ((rd_T108 t111 t123).f0.f1)) ∧ w'.cell? ⟨gb120, 2, none⟩ = some (.int .i64 ((rd_T108 t111 t123).f0.f2))) (ds := []) (tf 0 6) (by kernel_rfl) rfl rfl ⟨z0 _ BK115.out, z1 _ BK115.out, z0 _ BK120.out, z1 _ BK120.out, z2 _ BK120.out⟩ (fun hHeld => ?_)
     generalize w38.drew = w39 at HO108 HO113 BK101 BK102 BK115 BK120 HI105 HB hHeld ⊢
     refine pure_ (i := 0) (N := some 37) (v := ?_) (a' := ?_) (tf 1 5) rfl rfl (by kernel_rfl) (fun _ _ _ h => h) (Or.inl ⟨by rfl, ?_⟩) ?_ ?_; rotate_left; (· intro w'; go_simp; with_reducible rfl); rotate_left; (· simp only [Act.put, List.setIfInBounds_toArray, List.set_cons_zero, List.set_cons_succ, i64_w, i32_w]; rfl)
     refine pure_ (i := 3) (N := some 2) (v := ?_) (a' := ?_) #[true, false, false, true, false, false] rfl rfl (by kernel_rfl) (fun _ _ _ h => h) (Or.inl ⟨by rfl, ?_⟩) ?_ ?_; rotate_left; (· intro w'; go_simp; with_reducible rfl); rotate_left; (· simp only [Act.put, List.setIfInBounds_toArray, List.set_cons_zero, List.set_cons_succ, i64_w, i32_w]; rfl)
     refine take_ (i := 1) (N := some 38) (v := ?_) (a' := ?_) #[true, true, false, true, false, false] rfl rfl (by kernel_rfl) (fun _ _ _ h => h) (Or.inl ⟨by rfl, ?_⟩) hHeld ?_ ?_
     rotate_left
     ·rintro w' ⟨s0, s1, s2, s3, s4⟩
      go_simp
      with_reducible rfl
     rotate_left
     ·simp only [Act.put, List.setIfInBounds_toArray, List.set_cons_zero, List.set_cons_succ, i64_w, i32_w]
      rfl
     refine take_ (i := 2) (N := some 39) (v := ?_) (a' := ?_) (tf 4 2) rfl rfl (by kernel_rfl) (fun _ _ _ h => h) (Or.inl ⟨by rfl, ?_⟩) hHeld ?_ ?_
     rotate_left
     ·rintro w' ⟨s0, s1, s2, s3, s4⟩
      go_simp
      with_reducible rfl
     rotate_left
     ·simp only [Act.put, List.setIfInBounds_toArray, List.set_cons_zero, List.set_cons_succ, i64_w, i32_w]
      rfl
     refine one_ (i := 4) (N := none) (tf 5 1) rfl rfl (by kernel_rfl) (by decide) (fun K hK => ?_)
     have hs40 : w39.cell? ⟨gb101, 0, none⟩ = some (.int .i64 0) := z0 _ BK101.out
     have hfs40 := blk_frozen BK101.out 0
     have hns40_1 := NB102_101.out
     have hns40_2 := NB115_101.out
     have hns40_3 := NB120_101.out
     have hms40_1 := NB101_102.out
     have hms40_2 := NB101_115.out
     have hms40_3 := NB101_120.out
     have hs41 : w39.cell? ⟨gb101, 1, none⟩ = some (.slice none 0 0) := z1 _ BK101.out
     have hfs41 := blk_frozen BK101.out 1
     have hns41_1 := NB102_101.out
     have hns41_2 := NB115_101.out
     have hns41_3 := NB120_101.out
     have hms41_1 := NB101_102.out
     have hms41_2 := NB101_115.out
     have hms41_3 := NB101_120.out
     refine skip_ (w1 := ?_) (by rfl) rfl ?_ ?_
     rotate_left
     ·go_simp
      rfl
     refine hK.out _ _ ⟨((cell_far (p := ⟨gb101, _, none⟩) NB115_101.out _).trans (((cell_far (p := ⟨gb101, _, none⟩) NB115_101.out _).trans (hHeld.1)))), ((cell_far (p := ⟨gb101, _, none⟩) NB115_101.out _).trans (((cell_far (p := ⟨gb101, _, none⟩) NB115_101.out _).trans (hHeld.2.1)))), ((cell_far (p := ⟨gb101, _, none⟩) NB120_101.out _).trans (((cell_far (p := ⟨gb101, _, none⟩) NB120_101.out _).trans (hHeld.2.2.1)))), ((cell_far (p := ⟨gb101, _, none⟩) NB120_101.out _).trans (((cell_far (p := ⟨gb101, _, none⟩) NB120_101.out _).trans (hHeld.2.2.2.1)))), ((cell_far (p := ⟨gb101, _, none⟩) NB120_101.out _).trans (((cell_far (p := ⟨gb101, _, none⟩) NB120_101.out _).trans (hHeld.2.2.2.2))))⟩ (fun hHeld => ?_)
     clear hK K
     refine one_ (i := 5) (N := none) (tf 6 0) rfl rfl (by kernel_rfl) (by decide) (fun K hK => ?_)
     have hs42 : w39.cell? ⟨gb102, 0, none⟩ = some (.int .i64 0) := z0 _ BK102.out
     have hfs42 := blk_frozen BK102.out 0
     have hns42_0 := NB101_102.out
     have hns42_2 := NB115_102.out
     have hns42_3 := NB120_102.out
     have hms42_0 := NB102_101.out
     have hms42_2 := NB102_115.out
     have hms42_3 := NB102_120.out
     have hs43 : w39.cell? ⟨gb102, 1, none⟩ = some (.int .i64 0) := z1 _ BK102.out
     have hfs43 := blk_frozen BK102.out 1
     have hns43_0 := NB101_102.out
     have hns43_2 := NB115_102.out
     have hns43_3 := NB120_102.out
     have hms43_0 := NB102_101.out
     have hms43_2 := NB102_115.out
     have hms43_3 := NB102_120.out
     have hs44 : w39.cell? ⟨gb102, 2, none⟩ = some (.int .i64 0) := z2 _ BK102.out
     have hfs44 := blk_frozen BK102.out 2
     have hns44_0 := NB101_102.out
     have hns44_2 := NB115_102.out
     have hns44_3 := NB120_102.out
     have hms44_0 := NB102_101.out
     have hms44_2 := NB102_115.out
     have hms44_3 := NB102_120.out
     refine skip_ (w1 := ?_) (by rfl) rfl ?_ ?_
     rotate_left
     ·go_simp
      rfl
     refine hK.out _ _ ⟨((cell_far (p := ⟨gb102, _, none⟩) NB115_102.out _).trans (((cell_far (p := ⟨gb102, _, none⟩) NB115_102.out _).trans (((cell_far (p := ⟨gb102, _, none⟩) NB115_102.out _).trans (hHeld.1)))))), ((cell_far (p := ⟨gb102, _, none⟩) NB115_102.out _).trans (((cell_far (p := ⟨gb102, _, none⟩) NB115_102.out _).trans (((cell_far (p := ⟨gb102, _, none⟩) NB115_102.out _).trans (hHeld.2.1)))))), ((cell_far (p := ⟨gb102, _, none⟩) NB120_102.out _).trans (((cell_far (p := ⟨gb102, _, none⟩) NB120_102.out _).trans (((cell_far (p := ⟨gb102, _, none⟩) NB120_102.out _).trans (hHeld.2.2.1)))))), ((cell_far (p := ⟨gb102, _, none⟩) NB120_102.out _).trans (((cell_far (p := ⟨gb102, _, none⟩) NB120_102.out _).trans (((cell_far (p := ⟨gb102, _, none⟩) NB120_102.out _).trans (hHeld.2.2.2.1)))))), ((cell_far (p := ⟨gb102, _, none⟩) NB120_102.out _).trans (((cell_far (p := ⟨gb102, _, none⟩) NB120_102.out _).trans (((cell_far (p := ⟨gb102, _, none⟩) NB120_102.out _).trans (hHeld.2.2.2.2))))))⟩ (fun hHeld => ?_)
     clear hK K
     refine done_ (by kernel_rfl) ?_
     try go_wp2
     refine bodyPost_ret (results_list (rs := [.tmp 2, .cell 3 46, .cell 4 25]) rfl (by simp) (.tmp (.cell gb101 46 #[.int .i64 t110, .slice (some ad125) t111.length co23] (0, 0) _ rfl (by (with_reducible repeat (first | refine blk_drewN ?_ _ | refine blk_drew ?_ | refine blk_alloc ?_ _)); refine blk_far ?_ NB101_102.out _; (with_reducible repeat (first | refine blk_drewN ?_ _ | refine blk_drew ?_ | refine blk_alloc ?_ _)); refine blk_far ?_ NB101_102.out _; (with_reducible repeat (first | refine blk_drewN ?_ _ | refine blk_drew ?_ | refine blk_alloc ?_ _)); refine blk_far ?_ NB101_102.out _; (with_reducible repeat (first | refine blk_drewN ?_ _ | refine blk_drew ?_ | refine blk_alloc ?_ _)); refine blk_put (cs := #[.int .i64 t110, .slice none 0 0]) ?_ 1 _ rfl; (with_reducible repeat (first | refine blk_drewN ?_ _ | refine blk_drew ?_ | refine blk_alloc ?_ _)); refine blk_put (cs := #[.int .i64 0, .slice none 0 0]) ?_ 0 _ rfl; (with_reducible repeat (first | refine blk_drewN ?_ _ | refine blk_drew ?_ | refine blk_alloc ?_ _)); exact BK101.out) Try.underlying46 rfl (by kernel_rfl) (.cell gb102 25 #[.int .i64 ((rd_T108 t111 t123).f0.f0), .int .i64 ((rd_T108 t111 t123).f0.f1), .int .i64 ((rd_T108 t111 t123).f0.f2)] (0, 0) _ rfl (by (with_reducible repeat (first | refine blk_drewN ?_ _ | refine blk_drew ?_ | refine blk_alloc ?_ _)); refine blk_put (cs := #[.int .i64 ((rd_T108 t111 t123).f0.f0), .int .i64 ((rd_T108 t111 t123).f0.f1), .int .i64 0]) ?_ 2 _ rfl; (with_reducible repeat (first | refine blk_drewN ?_ _ | refine blk_drew ?_ | refine blk_alloc ?_ _)); refine blk_put (cs := #[.int .i64 ((rd_T108 t111 t123).f0.f0), .int .i64 0, .int .i64 0]) ?_ 1 _ rfl; (with_reducible repeat (first | refine blk_drewN ?_ _ | refine blk_drew ?_ | refine blk_alloc ?_ _)); refine blk_put (cs := #[.int .i64 0, .int .i64 0, .int .i64 0]) ?_ 0 _ rfl; (with_reducible repeat (first | refine blk_drewN ?_ _ | refine blk_drew ?_ | refine blk_alloc ?_ _)); refine blk_far ?_ NB102_101.out _; (with_reducible repeat (first | refine blk_drewN ?_ _ | refine blk_drew ?_ | refine blk_alloc ?_ _)); refine blk_far ?_ NB102_101.out _; (with_reducible repeat (first | refine blk_drewN ?_ _ | refine blk_drew ?_ | refine blk_alloc ?_ _)); exact BK102.out) Try.underlying25 rfl (by kernel_rfl) .nil)))) rfl ?_
     exact ⟨_, _, by first | rfl | (simp [errW_none, errW_some] <;> rfl) | (simp [*, errW_none, errW_some] <;> rfl), by (with_reducible repeat (first | apply Kd.R_alloc | apply Kd.R_drewN | apply Kd.R_drew)); exact Kd.R_mono (Kd.R_far (p := ⟨gb102, 2, none⟩) (Kd.R_far (p := ⟨gb102, 1, none⟩) (Kd.R_far (p := ⟨gb102, 0, none⟩) (Kd.R_far (p := ⟨gb101, 1, none⟩) (Kd.R_far (p := ⟨gb101, 0, none⟩) (Kd.R_types (Kd.R_types HO108.out BK101.out (by decide)) BK102.out (by decide)) (fun _ hk => hk.1.2) (.int .i64 t110)) (fun _ hk => hk.1.2) (.slice (some ad125) t111.length co23)) (fun _ hk => hk.2) (.int .i64 ((rd_T108 t111 t123).f0.f0))) (fun _ hk => hk.2) (.int .i64 ((rd_T108 t111 t123).f0.f1))) (fun _ hk => hk.2) (.int .i64 ((rd_T108 t111 t123).f0.f2))) (fun _ hk => trivial), by (with_reducible repeat (first | apply Kd.R_alloc | apply Kd.R_drewN | apply Kd.R_drew)); exact Kd.R_mono (Kd.R_far (p := ⟨gb102, 2, none⟩) (Kd.R_far (p := ⟨gb102, 1, none⟩) (Kd.R_far (p := ⟨gb102, 0, none⟩) (Kd.R_far (p := ⟨gb101, 1, none⟩) (Kd.R_far (p := ⟨gb101, 0, none⟩) (Kd.R_types (Kd.R_types HO113.out BK101.out (by decide)) BK102.out (by decide)) (fun _ hk => hk.1.2) (.int .i64 t110)) (fun _ hk => hk.1.2) (.slice (some ad125) t111.length co23)) (fun _ hk => hk.2) (.int .i64 ((rd_T108 t111 t123).f0.f0))) (fun _ hk => hk.2) (.int .i64 ((rd_T108 t111 t123).f0.f1))) (fun _ hk => hk.2) (.int .i64 ((rd_T108 t111 t123).f0.f2))) (fun _ hk => trivial), K5 HB (IsS143.ge HI105.out) GE101.out GE102.out GE115.out GE120.out⟩
    ·rw [if_neg c11] at H
     exact absurd H (by simp)
   ·rw [if_neg c10] at H
    exact absurd H (by simp)
  ·rw [if_neg c8] at H
   have c8b0 : (t121 == 0) = false := beq_eq_false_iff_ne.mpr c8
   have c8b1 : (t121 != 0) = true := bne_iff_ne.mpr c8
   simp only [Option.some.injEq, Prod.mk.injEq] at H
   obtain ⟨rfl, rfl, rfl, rfl, rfl, rfl⟩ := H
   go_enter Try.func29, Try.ntmps29
   try go_wp2_with (first | ((with_reducible refine gate_dst (N := 3) rfl ?_); refine box_event rfl (N := 3) rfl (cs := #[.int .i64 0, .slice none 0 0]) (t := 46) BX ?_; intro gb101 hg w45 hbox hb; have BK101 := am (hbox); have GW101 := am ((GL hg (below_size (KL HB)) : w.heap.size ≤ gb101)); have GE101 := GW101; replace HB := am (below_step (KL HB) hb); clear hb hbox hg) | ((with_reducible refine gate_dst (N := 4) rfl ?_); refine box_event rfl (N := 4) rfl (cs := #[.int .i64 0, .int .i64 0, .int .i64 0]) (t := 25) BX ?_; intro gb102 hg w46 hbox hb; have BK102 := am (hbox); have GW102 := am ((GL hg (below_size (K1 HB GE101.out)) : w.heap.size ≤ gb102)); have GE102 := GW102; replace HB := am (below_step (K1 HB GE101.out) hb); have NB101_102 := am (NL BK101 hg); have NB102_101 := am (NG BK101 hg); replace BK101 := am (BB BK101 hb); clear hb hbox hg) | ((with_reducible refine gate_callee (f := 70) rfl ?_); refine goesL_ (some 10) rfl rfl Try.func70 (by kernel_rfl) rfl #[.slice A0 l0.length c0] rfl MT ?_; (with_reducible refine (spec_l1Open.calls _ _ l0 t103 t104 w _ ?side1 ?side2 ?side3 A2.out).mono ?_); (case side1 => exact K2 HB GE101.out GE102.out); (case side2 => exact HR0.out); (case side3 => exact HC0.out); rintro e w47 ⟨g105, rfl, hi, hb, hb2⟩; refine ⟨_, rfl, ?_⟩; replace HB := am (hb); have HI105 := am (hi); have NB105_101 := am (IsS143.ne_blk hi (blk_below (g := gb101) (o := .cells #[.int .i64 0, .slice none 0 0] 46 (0, 0)) (KB BK101) hb2) (by decide)); have NB101_105 := am (Ne.symm (IsS143.ne_blk hi (blk_below (g := gb101) (o := .cells #[.int .i64 0, .slice none 0 0] 46 (0, 0)) (KB BK101) hb2) (by decide))); replace BK101 := am (blk_below (g := gb101) (o := .cells #[.int .i64 0, .slice none 0 0] 46 (0, 0)) (KB BK101) hb2); have NB105_102 := am (IsS143.ne_blk hi (blk_below (g := gb102) (o := .cells #[.int .i64 0, .int .i64 0, .int .i64 0] 25 (0, 0)) (KB BK102) hb2) (by decide)); have NB102_105 := am (Ne.symm (IsS143.ne_blk hi (blk_below (g := gb102) (o := .cells #[.int .i64 0, .int .i64 0, .int .i64 0] 25 (0, 0)) (KB BK102) hb2) (by decide))); replace BK102 := am (blk_below (g := gb102) (o := .cells #[.int .i64 0, .int .i64 0, .int .i64 0] 25 (0, 0)) (KB BK102) hb2); (try clear hb); (try clear hb2); (try clear hk); (try clear hi)) | ((with_reducible refine gate_callee (f := 71) rfl ?_); refine goesL_ (some 12) rfl rfl Try.func71 (by kernel_rfl) rfl #[.pointer (some ⟨g105, 0, none⟩)] rfl MT ?_; (with_reducible refine (spec_l12AnyRules.calls k g105 t103 t104 t106 t109 w _ ?side1 ?side2 A3.out).mono ?_); (case side1 => exact I143_2 HI105 NB105_101.out NB105_102.out); (case side2 => exact K3 HB (IsS143.ge HI105.out) GE101.out GE102.out); rintro e w48 ⟨v107, rfl, ho0, hi, hb, hk⟩; refine ⟨_, rfl, ?_⟩; replace BK101 := am (KeepBut.blk hk (g' := gb101) (o := .cells #[.int .i64 0, .slice none 0 0] 46 (0, 0)) (KB BK101) NB101_105.out (by simp)); replace BK102 := am (KeepBut.blk hk (g' := gb102) (o := .cells #[.int .i64 0, .int .i64 0, .int .i64 0] 25 (0, 0)) (KB BK102) NB102_105.out (by simp)); have HO108 := am (Kd.R_lower ho0 (below_size (K3 HB (IsS143.ge HI105.out) GE101.out GE102.out))); replace HB := am (hb); replace HI105 := am (hi); (try clear hb); (try clear hb2); (try clear hk); (try clear hi); (try clear ho0); obtain ⟨Ao49, co49, eo49⟩ := Kd.R_slice HO108.out; subst eo49) | ((with_reducible refine gate_callee (f := 90) rfl ?_); refine goesL_ (some 15) rfl rfl Try.func90 (by kernel_rfl) rfl #[.pointer (some ⟨g105, 0, none⟩), .slice Ao49 t106.length co49] rfl MT ?_; (with_reducible refine (spec_l12Cache.calls k g105 t103 t109 _ _ t106 t110 t111 t114 w _ ?side1 ?side2 ?side3 ?side4 A4.out).mono ?_); (case side1 => exact I143_2 HI105 NB105_101.out NB105_102.out); (case side2 => exact K3 HB (IsS143.ge HI105.out) GE101.out GE102.out); (case side3 => exact Kd.C_foot_own (IsS143.apart (show IsS143 w _ g105 t103 t109 from I143_2 HI105 NB105_101.out NB105_102.out) (KR HO108) (by decide)) (fun _ h_ => h_.2)); (case side4 => exact (Kd.R_reads' HO108.out).2.1); rintro e w50 ⟨v112, rfl, ho0, hi, hb, hk⟩; refine ⟨_, rfl, ?_⟩; replace BK101 := am (KeepBut.blk hk (g' := gb101) (o := .cells #[.int .i64 0, .slice none 0 0] 46 (0, 0)) (KB BK101) NB101_105.out (by simp)); replace BK102 := am (KeepBut.blk hk (g' := gb102) (o := .cells #[.int .i64 0, .int .i64 0, .int .i64 0] 25 (0, 0)) (KB BK102) NB102_105.out (by simp)); replace HO108 := am (Kd.R_mono (Kd.R_keep (IsS143.apart (show IsS143 w _ g105 t103 t109 from I143_2 HI105 NB105_101.out NB105_102.out) (KR HO108) (by decide)) hk (fun _ h => h.2)) (fun _ h => h.1)); have HO113 := am (Kd.R_lower ho0 (below_size (K3 HB (IsS143.ge HI105.out) GE101.out GE102.out))); replace HB := am (hb); replace HI105 := am (hi); (try clear hb); (try clear hb2); (try clear hk); (try clear hi); (try clear ho0)) | ((with_reducible refine gate_dst (N := 7) rfl ?_); refine box_event rfl (N := 7) rfl (cs := #[.int .i64 0, .slice none 0 0]) (t := 46) BX ?_; intro gb115 hg w51 hbox hb; replace HO108 := am (Kd.R_below (KR HO108) hb); replace HO113 := am (Kd.R_below (KR HO113) hb); have BK115 := am (hbox); have GW115 := am ((GL hg (below_size (K3 HB (IsS143.ge HI105.out) GE101.out GE102.out)) : w.heap.size ≤ gb115)); have GE115 := GW115; replace HB := am (below_step (K3 HB (IsS143.ge HI105.out) GE101.out GE102.out) hb); have NB101_115 := am (NL BK101 hg); have NB115_101 := am (NG BK101 hg); replace BK101 := am (BB BK101 hb); have NB102_115 := am (NL BK102 hg); have NB115_102 := am (NG BK102 hg); replace BK102 := am (BB BK102 hb); have NB105_115 := am ((by rw [hg]; exact Nat.ne_of_lt (IsS143.lt (show IsS143 w _ g105 t103 t114 from I143_2 HI105 NB105_101.out NB105_102.out)) : g105 ≠ gb115)); have NB115_105 := am ((by rw [hg]; exact Nat.ne_of_gt (IsS143.lt (show IsS143 w _ g105 t103 t114 from I143_2 HI105 NB105_101.out NB105_102.out)) : gb115 ≠ g105)); replace HI105 := am (IsS143.below (I143_2 HI105 NB105_101.out NB105_102.out) hb); clear hb hbox hg; have hnb52 := NB115_101.out; have hnc52 := NB101_115.out; have hnb53 := NB115_102.out; have hnc53 := NB102_115.out; have hnb54 := NB115_105.out; have hnc54 := NB105_115.out; have hcz55_0 := z0 w51 BK115.out; have hcz55_1 := z1 w51 BK115.out; have hfz55_0 := blk_frozen BK115.out 0; have hfz55_1 := blk_frozen BK115.out 1; obtain ⟨Ao56, co56, eo56⟩ := Kd.R_slice HO113.out; subst eo56) | ((with_reducible refine gate_callee (f := 72) rfl ?_); refine goesL_ (some 17) rfl rfl Try.func72 (by kernel_rfl) rfl #[.pointer (some ⟨g105, 0, none⟩)] rfl MT ?_; (with_reducible refine (spec_l12AnyCall.calls k g105 t103 t114 t116 t117 t118 t119 w _ ?side1 ?side2 A5.out).mono ?_); (case side1 => exact I143_3 HI105 NB105_101.out NB105_102.out NB105_115.out); (case side2 => exact K4 HB (IsS143.ge HI105.out) GE101.out GE102.out GE115.out); rintro e w57 ⟨rfl, hi, hb, hk⟩; refine ⟨_, rfl, ?_⟩; replace BK101 := am (KeepBut.blk hk (g' := gb101) (o := .cells #[.int .i64 0, .slice none 0 0] 46 (0, 0)) (by (with_reducible repeat (first | refine blk_drewN ?_ _ | refine blk_drew ?_ | refine blk_alloc ?_ _)); refine blk_far ?_ NB101_115.out _; (with_reducible repeat (first | refine blk_drewN ?_ _ | refine blk_drew ?_ | refine blk_alloc ?_ _)); refine blk_far ?_ NB101_115.out _; (with_reducible repeat (first | refine blk_drewN ?_ _ | refine blk_drew ?_ | refine blk_alloc ?_ _)); exact BK101.out) NB101_105.out (by simp)); replace BK102 := am (KeepBut.blk hk (g' := gb102) (o := .cells #[.int .i64 0, .int .i64 0, .int .i64 0] 25 (0, 0)) (by (with_reducible repeat (first | refine blk_drewN ?_ _ | refine blk_drew ?_ | refine blk_alloc ?_ _)); refine blk_far ?_ NB102_115.out _; (with_reducible repeat (first | refine blk_drewN ?_ _ | refine blk_drew ?_ | refine blk_alloc ?_ _)); refine blk_far ?_ NB102_115.out _; (with_reducible repeat (first | refine blk_drewN ?_ _ | refine blk_drew ?_ | refine blk_alloc ?_ _)); exact BK102.out) NB102_105.out (by simp)); replace HO108 := am (Kd.R_mono (Kd.R_keep (IsS143.apart (show IsS143 w _ g105 t103 t114 from I143_3 HI105 NB105_101.out NB105_102.out NB105_115.out) (by (with_reducible repeat (first | apply Kd.R_alloc | apply Kd.R_drewN | apply Kd.R_drew)); exact (Kd.R_mono (Kd.R_far (p := ⟨gb115, 1, none⟩) (Kd.R_far (p := ⟨gb115, 0, none⟩) (Kd.R_types HO108.out BK115.out (by decide)) (fun _ hk => hk.2) (.int .i64 t110)) (fun _ hk => hk.2) (.slice Ao56 t111.length co56)) (fun _ h_ => h_.1))) (by decide)) hk (fun _ h => h.2)) (fun _ h => h.1)); replace HO113 := am (Kd.R_mono (Kd.R_keep (IsS143.apart (show IsS143 w _ g105 t103 t114 from I143_3 HI105 NB105_101.out NB105_102.out NB105_115.out) (by (with_reducible repeat (first | apply Kd.R_alloc | apply Kd.R_drewN | apply Kd.R_drew)); exact (Kd.R_mono (Kd.R_far (p := ⟨gb115, 1, none⟩) (Kd.R_far (p := ⟨gb115, 0, none⟩) (Kd.R_types HO113.out BK115.out (by decide)) (fun _ hk => hk.2) (.int .i64 t110)) (fun _ hk => hk.2) (.slice Ao56 t111.length co56)) (fun _ h_ => h_.1))) (by decide)) hk (fun _ h => h.2)) (fun _ h => h.1)); replace BK115 := am (KeepBut.blk hk (g' := gb115) (o := .cells #[.int .i64 t110, .slice Ao56 t111.length co56] 46 (0, 0)) (by (with_reducible repeat (first | refine blk_drewN ?_ _ | refine blk_drew ?_ | refine blk_alloc ?_ _)); refine blk_put (cs := #[.int .i64 t110, .slice none 0 0]) ?_ 1 _ rfl; (with_reducible repeat (first | refine blk_drewN ?_ _ | refine blk_drew ?_ | refine blk_alloc ?_ _)); refine blk_put (cs := #[.int .i64 0, .slice none 0 0]) ?_ 0 _ rfl; (with_reducible repeat (first | refine blk_drewN ?_ _ | refine blk_drew ?_ | refine blk_alloc ?_ _)); exact BK115.out) NB115_105.out (by simp)); replace HB := am (hb); replace HI105 := am (hi); (try clear hb); (try clear hb2); (try clear hk); (try clear hi)) | ((with_reducible refine gate_dst (N := 8) rfl ?_); refine box_event rfl (N := 8) rfl (cs := #[.int .i64 0, .int .i64 0, .int .i64 0]) (t := 25) BX ?_; intro gb120 hg w58 hbox hb; replace HO108 := am (Kd.R_below (KR HO108) hb); replace HO113 := am (Kd.R_below (KR HO113) hb); have BK120 := am (hbox); have GW120 := am ((GL hg (below_size (K4 HB (IsS143.ge HI105.out) GE101.out GE102.out GE115.out)) : w.heap.size ≤ gb120)); have GE120 := GW120; replace HB := am (below_step (K4 HB (IsS143.ge HI105.out) GE101.out GE102.out GE115.out) hb); have NB101_120 := am (NL BK101 hg); have NB120_101 := am (NG BK101 hg); replace BK101 := am (BB BK101 hb); have NB102_120 := am (NL BK102 hg); have NB120_102 := am (NG BK102 hg); replace BK102 := am (BB BK102 hb); have NB115_120 := am (NL BK115 hg); have NB120_115 := am (NG BK115 hg); replace BK115 := am (BB BK115 hb); have NB105_120 := am ((by rw [hg]; exact Nat.ne_of_lt (IsS143.lt (show IsS143 w _ g105 t103 t119 from I143_3 HI105 NB105_101.out NB105_102.out NB105_115.out)) : g105 ≠ gb120)); have NB120_105 := am ((by rw [hg]; exact Nat.ne_of_gt (IsS143.lt (show IsS143 w _ g105 t103 t119 from I143_3 HI105 NB105_101.out NB105_102.out NB105_115.out)) : gb120 ≠ g105)); replace HI105 := am (IsS143.below (I143_3 HI105 NB105_101.out NB105_102.out NB105_115.out) hb); clear hb hbox hg; have hnb59 := NB120_101.out; have hnc59 := NB101_120.out; have hnb60 := NB120_102.out; have hnc60 := NB102_120.out; have hnb61 := NB120_115.out; have hnc61 := NB115_120.out; have hnb62 := NB120_105.out; have hnc62 := NB105_120.out; have hcz63_0 := z0 w58 BK120.out; have hcz63_1 := z1 w58 BK120.out; have hcz63_2 := z2 w58 BK120.out; have hfz63_0 := blk_frozen BK120.out 0; have hfz63_1 := blk_frozen BK120.out 1; have hfz63_2 := blk_frozen BK120.out 2; have hcz64_0 := z0 w58 BK115.out; have hcz64_1 := z1 w58 BK115.out; have hfz64_0 := blk_frozen BK115.out 0; have hfz64_1 := blk_frozen BK115.out 1) | (go_at_call 91; (with_reducible refine (spec_l1Rd_pick.calls k g105 t103 t119 2 t121 t122 w _ ?side1 ?side2 A7.out).mono ?_); (case side1 => exact I143_4 HI105 NB105_101.out NB105_102.out NB105_115.out NB105_120.out); (case side2 => exact K5 HB (IsS143.ge HI105.out) GE101.out GE102.out GE115.out GE120.out); rintro e w65 ⟨rfl, hi, hb, hk⟩; replace BK101 := am (KeepBut.blk hk (g' := gb101) (o := .cells #[.int .i64 0, .slice none 0 0] 46 (0, 0)) (by (with_reducible repeat (first | refine blk_drewN ?_ _ | refine blk_drew ?_ | refine blk_alloc ?_ _)); refine blk_far ?_ NB101_120.out _; (with_reducible repeat (first | refine blk_drewN ?_ _ | refine blk_drew ?_ | refine blk_alloc ?_ _)); refine blk_far ?_ NB101_120.out _; (with_reducible repeat (first | refine blk_drewN ?_ _ | refine blk_drew ?_ | refine blk_alloc ?_ _)); refine blk_far ?_ NB101_120.out _; (with_reducible repeat (first | refine blk_drewN ?_ _ | refine blk_drew ?_ | refine blk_alloc ?_ _)); exact BK101.out) NB101_105.out (by simp)); replace BK102 := am (KeepBut.blk hk (g' := gb102) (o := .cells #[.int .i64 0, .int .i64 0, .int .i64 0] 25 (0, 0)) (by (with_reducible repeat (first | refine blk_drewN ?_ _ | refine blk_drew ?_ | refine blk_alloc ?_ _)); refine blk_far ?_ NB102_120.out _; (with_reducible repeat (first | refine blk_drewN ?_ _ | refine blk_drew ?_ | refine blk_alloc ?_ _)); refine blk_far ?_ NB102_120.out _; (with_reducible repeat (first | refine blk_drewN ?_ _ | refine blk_drew ?_ | refine blk_alloc ?_ _)); refine blk_far ?_ NB102_120.out _; (with_reducible repeat (first | refine blk_drewN ?_ _ | refine blk_drew ?_ | refine blk_alloc ?_ _)); exact BK102.out) NB102_105.out (by simp)); replace HO108 := am (Kd.R_mono (Kd.R_keep (IsS143.apart (show IsS143 w _ g105 t103 t119 from I143_4 HI105 NB105_101.out NB105_102.out NB105_115.out NB105_120.out) (by (with_reducible repeat (first | apply Kd.R_alloc | apply Kd.R_drewN | apply Kd.R_drew)); exact (Kd.R_mono (Kd.R_far (p := ⟨gb120, 2, none⟩) (Kd.R_far (p := ⟨gb120, 1, none⟩) (Kd.R_far (p := ⟨gb120, 0, none⟩) (Kd.R_types HO108.out BK120.out (by decide)) (fun _ hk => hk.2) (.int .i64 t116)) (fun _ hk => hk.2) (.int .i64 t117)) (fun _ hk => hk.2) (.int .i64 t118)) (fun _ h_ => h_.1))) (by decide)) hk (fun _ h => h.2)) (fun _ h => h.1)); replace HO113 := am (Kd.R_mono (Kd.R_keep (IsS143.apart (show IsS143 w _ g105 t103 t119 from I143_4 HI105 NB105_101.out NB105_102.out NB105_115.out NB105_120.out) (by (with_reducible repeat (first | apply Kd.R_alloc | apply Kd.R_drewN | apply Kd.R_drew)); exact (Kd.R_mono (Kd.R_far (p := ⟨gb120, 2, none⟩) (Kd.R_far (p := ⟨gb120, 1, none⟩) (Kd.R_far (p := ⟨gb120, 0, none⟩) (Kd.R_types HO113.out BK120.out (by decide)) (fun _ hk => hk.2) (.int .i64 t116)) (fun _ hk => hk.2) (.int .i64 t117)) (fun _ hk => hk.2) (.int .i64 t118)) (fun _ h_ => h_.1))) (by decide)) hk (fun _ h => h.2)) (fun _ h => h.1)); replace BK115 := am (KeepBut.blk hk (g' := gb115) (o := .cells #[.int .i64 t110, .slice Ao56 t111.length co56] 46 (0, 0)) (by (with_reducible repeat (first | refine blk_drewN ?_ _ | refine blk_drew ?_ | refine blk_alloc ?_ _)); refine blk_far ?_ NB115_120.out _; (with_reducible repeat (first | refine blk_drewN ?_ _ | refine blk_drew ?_ | refine blk_alloc ?_ _)); refine blk_far ?_ NB115_120.out _; (with_reducible repeat (first | refine blk_drewN ?_ _ | refine blk_drew ?_ | refine blk_alloc ?_ _)); refine blk_far ?_ NB115_120.out _; (with_reducible repeat (first | refine blk_drewN ?_ _ | refine blk_drew ?_ | refine blk_alloc ?_ _)); exact BK115.out) NB115_105.out (by simp)); replace BK120 := am (KeepBut.blk hk (g' := gb120) (o := .cells #[.int .i64 t116, .int .i64 t117, .int .i64 t118] 25 (0, 0)) (by (with_reducible repeat (first | refine blk_drewN ?_ _ | refine blk_drew ?_ | refine blk_alloc ?_ _)); refine blk_put (cs := #[.int .i64 t116, .int .i64 t117, .int .i64 0]) ?_ 2 _ rfl; (with_reducible repeat (first | refine blk_drewN ?_ _ | refine blk_drew ?_ | refine blk_alloc ?_ _)); refine blk_put (cs := #[.int .i64 t116, .int .i64 0, .int .i64 0]) ?_ 1 _ rfl; (with_reducible repeat (first | refine blk_drewN ?_ _ | refine blk_drew ?_ | refine blk_alloc ?_ _)); refine blk_put (cs := #[.int .i64 0, .int .i64 0, .int .i64 0]) ?_ 0 _ rfl; (with_reducible repeat (first | refine blk_drewN ?_ _ | refine blk_drew ?_ | refine blk_alloc ?_ _)); exact BK120.out) NB120_105.out (by simp)); replace HB := am (hb); replace HI105 := am (hi); (try clear hb); (try clear hb2); (try clear hk); (try clear hi)))
   replace HO108 := am (Kd.R_drew HO108.out)
   replace HO113 := am (Kd.R_drew HO113.out)
   replace BK101 := am (blk_drew BK101.out)
   replace BK102 := am (blk_drew BK102.out)
   replace BK115 := am (blk_drew BK115.out)
   replace BK120 := am (blk_drew BK120.out)
   replace HI105 := am (IsS143.drew HI105.out)
   replace HB := am (below_drew1 HB.out)
   refine start_ (n := 6) (S := fun w' => w'.cell? ⟨gb115, 0, none⟩ = some (.int .i64 t110) ∧ w'.cell? ⟨gb115, 1, none⟩ = some (.slice Ao56 t111.length co56) ∧ w'.cell? ⟨gb120, 0, none⟩ = some (.int .i64 t116) ∧ w'.cell? ⟨gb120, 1, none⟩ = some (.int .i64 t117) ∧ w'.cell? ⟨gb120, 2, none⟩ = some (.int .i64 t118)) (ds := []) (tf 0 6) (by kernel_rfl) rfl rfl ⟨z0 _ BK115.out, z1 _ BK115.out, z0 _ BK120.out, z1 _ BK120.out, z2 _ BK120.out⟩ (fun hHeld => ?_)
   generalize w65.drew = w66 at HO108 HO113 BK101 BK102 BK115 BK120 HI105 HB hHeld ⊢
   refine pure_ (i := 0) (N := some 37) (v := ?_) (a' := ?_) (tf 1 5) rfl rfl (by kernel_rfl) (fun _ _ _ h => h) (Or.inl ⟨by rfl, ?_⟩) ?_ ?_; rotate_left; (· intro w'; go_simp; with_reducible rfl); rotate_left; (· simp only [Act.put, List.setIfInBounds_toArray, List.set_cons_zero, List.set_cons_succ, i64_w, i32_w]; rfl)
   refine pure_ (i := 3) (N := some 2) (v := ?_) (a' := ?_) #[true, false, false, true, false, false] rfl rfl (by kernel_rfl) (fun _ _ _ h => h) (Or.inl ⟨by rfl, ?_⟩) ?_ ?_; rotate_left; (· intro w'; go_simp; with_reducible rfl); rotate_left; (· simp only [Act.put, List.setIfInBounds_toArray, List.set_cons_zero, List.set_cons_succ, i64_w, i32_w]; rfl)
   refine take_ (i := 1) (N := some 38) (v := ?_) (a' := ?_) #[true, true, false, true, false, false] rfl rfl (by kernel_rfl) (fun _ _ _ h => h) (Or.inl ⟨by rfl, ?_⟩) hHeld ?_ ?_
   rotate_left
   ·rintro w' ⟨s0, s1, s2, s3, s4⟩
    go_simp
    with_reducible rfl
   rotate_left
   ·simp only [Act.put, List.setIfInBounds_toArray, List.set_cons_zero, List.set_cons_succ, i64_w, i32_w]
    rfl
   refine take_ (i := 2) (N := some 39) (v := ?_) (a' := ?_) (tf 4 2) rfl rfl (by kernel_rfl) (fun _ _ _ h => h) (Or.inl ⟨by rfl, ?_⟩) hHeld ?_ ?_
   rotate_left
   ·rintro w' ⟨s0, s1, s2, s3, s4⟩
    go_simp
    with_reducible rfl
   rotate_left
   ·simp only [Act.put, List.setIfInBounds_toArray, List.set_cons_zero, List.set_cons_succ, i64_w, i32_w]
    rfl
   refine one_ (i := 4) (N := none) (tf 5 1) rfl rfl (by kernel_rfl) (by decide) (fun K hK => ?_)
   have hs67 : w66.cell? ⟨gb101, 0, none⟩ = some (.int .i64 0) := z0 _ BK101.out
   have hfs67 := blk_frozen BK101.out 0
   have hns67_1 := NB102_101.out
   have hns67_2 := NB115_101.out
   have hns67_3 := NB120_101.out
   have hms67_1 := NB101_102.out
   have hms67_2 := NB101_115.out
   have hms67_3 := NB101_120.out
   have hs68 : w66.cell? ⟨gb101, 1, none⟩ = some (.slice none 0 0) := z1 _ BK101.out
   have hfs68 := blk_frozen BK101.out 1
   have hns68_1 := NB102_101.out
   have hns68_2 := NB115_101.out
   have hns68_3 := NB120_101.out
   have hms68_1 := NB101_102.out
   have hms68_2 := NB101_115.out
   have hms68_3 := NB101_120.out
   refine skip_ (w1 := ?_) (by rfl) rfl ?_ ?_
   rotate_left
   ·go_simp
    rfl
   refine hK.out _ _ ⟨((cell_far (p := ⟨gb101, _, none⟩) NB115_101.out _).trans (((cell_far (p := ⟨gb101, _, none⟩) NB115_101.out _).trans (hHeld.1)))), ((cell_far (p := ⟨gb101, _, none⟩) NB115_101.out _).trans (((cell_far (p := ⟨gb101, _, none⟩) NB115_101.out _).trans (hHeld.2.1)))), ((cell_far (p := ⟨gb101, _, none⟩) NB120_101.out _).trans (((cell_far (p := ⟨gb101, _, none⟩) NB120_101.out _).trans (hHeld.2.2.1)))), ((cell_far (p := ⟨gb101, _, none⟩) NB120_101.out _).trans (((cell_far (p := ⟨gb101, _, none⟩) NB120_101.out _).trans (hHeld.2.2.2.1)))), ((cell_far (p := ⟨gb101, _, none⟩) NB120_101.out _).trans (((cell_far (p := ⟨gb101, _, none⟩) NB120_101.out _).trans (hHeld.2.2.2.2))))⟩ (fun hHeld => ?_)
   clear hK K
   refine one_ (i := 5) (N := none) (tf 6 0) rfl rfl (by kernel_rfl) (by decide) (fun K hK => ?_)
   have hs69 : w66.cell? ⟨gb102, 0, none⟩ = some (.int .i64 0) := z0 _ BK102.out
   have hfs69 := blk_frozen BK102.out 0
   have hns69_0 := NB101_102.out
   have hns69_2 := NB115_102.out
   have hns69_3 := NB120_102.out
   have hms69_0 := NB102_101.out
   have hms69_2 := NB102_115.out
   have hms69_3 := NB102_120.out
   have hs70 : w66.cell? ⟨gb102, 1, none⟩ = some (.int .i64 0) := z1 _ BK102.out
   have hfs70 := blk_frozen BK102.out 1
   have hns70_0 := NB101_102.out
   have hns70_2 := NB115_102.out
   have hns70_3 := NB120_102.out
   have hms70_0 := NB102_101.out
   have hms70_2 := NB102_115.out
   have hms70_3 := NB102_120.out
   have hs71 : w66.cell? ⟨gb102, 2, none⟩ = some (.int .i64 0) := z2 _ BK102.out
   have hfs71 := blk_frozen BK102.out 2
   have hns71_0 := NB101_102.out
   have hns71_2 := NB115_102.out
   have hns71_3 := NB120_102.out
   have hms71_0 := NB102_101.out
   have hms71_2 := NB102_115.out
   have hms71_3 := NB102_120.out
   refine skip_ (w1 := ?_) (by rfl) rfl ?_ ?_
   rotate_left
   ·go_simp
    rfl
   refine hK.out _ _ ⟨((cell_far (p := ⟨gb102, _, none⟩) NB115_102.out _).trans (((cell_far (p := ⟨gb102, _, none⟩) NB115_102.out _).trans (((cell_far (p := ⟨gb102, _, none⟩) NB115_102.out _).trans (hHeld.1)))))), ((cell_far (p := ⟨gb102, _, none⟩) NB115_102.out _).trans (((cell_far (p := ⟨gb102, _, none⟩) NB115_102.out _).trans (((cell_far (p := ⟨gb102, _, none⟩) NB115_102.out _).trans (hHeld.2.1)))))), ((cell_far (p := ⟨gb102, _, none⟩) NB120_102.out _).trans (((cell_far (p := ⟨gb102, _, none⟩) NB120_102.out _).trans (((cell_far (p := ⟨gb102, _, none⟩) NB120_102.out _).trans (hHeld.2.2.1)))))), ((cell_far (p := ⟨gb102, _, none⟩) NB120_102.out _).trans (((cell_far (p := ⟨gb102, _, none⟩) NB120_102.out _).trans (((cell_far (p := ⟨gb102, _, none⟩) NB120_102.out _).trans (hHeld.2.2.2.1)))))), ((cell_far (p := ⟨gb102, _, none⟩) NB120_102.out _).trans (((cell_far (p := ⟨gb102, _, none⟩) NB120_102.out _).trans (((cell_far (p := ⟨gb102, _, none⟩) NB120_102.out _).trans (hHeld.2.2.2.2))))))⟩ (fun hHeld => ?_)
   clear hK K
   refine done_ (by kernel_rfl) ?_
   try go_wp2
   refine bodyPost_ret (results_list (rs := [.tmp 2, .cell 3 46, .cell 4 25]) rfl (by simp) (.tmp (.cell gb101 46 #[.int .i64 t110, .slice Ao56 t111.length co56] (0, 0) _ rfl (by (with_reducible repeat (first | refine blk_drewN ?_ _ | refine blk_drew ?_ | refine blk_alloc ?_ _)); refine blk_far ?_ NB101_102.out _; (with_reducible repeat (first | refine blk_drewN ?_ _ | refine blk_drew ?_ | refine blk_alloc ?_ _)); refine blk_far ?_ NB101_102.out _; (with_reducible repeat (first | refine blk_drewN ?_ _ | refine blk_drew ?_ | refine blk_alloc ?_ _)); refine blk_far ?_ NB101_102.out _; (with_reducible repeat (first | refine blk_drewN ?_ _ | refine blk_drew ?_ | refine blk_alloc ?_ _)); refine blk_put (cs := #[.int .i64 t110, .slice none 0 0]) ?_ 1 _ rfl; (with_reducible repeat (first | refine blk_drewN ?_ _ | refine blk_drew ?_ | refine blk_alloc ?_ _)); refine blk_put (cs := #[.int .i64 0, .slice none 0 0]) ?_ 0 _ rfl; (with_reducible repeat (first | refine blk_drewN ?_ _ | refine blk_drew ?_ | refine blk_alloc ?_ _)); exact BK101.out) Try.underlying46 rfl (by kernel_rfl) (.cell gb102 25 #[.int .i64 t116, .int .i64 t117, .int .i64 t118] (0, 0) _ rfl (by (with_reducible repeat (first | refine blk_drewN ?_ _ | refine blk_drew ?_ | refine blk_alloc ?_ _)); refine blk_put (cs := #[.int .i64 t116, .int .i64 t117, .int .i64 0]) ?_ 2 _ rfl; (with_reducible repeat (first | refine blk_drewN ?_ _ | refine blk_drew ?_ | refine blk_alloc ?_ _)); refine blk_put (cs := #[.int .i64 t116, .int .i64 0, .int .i64 0]) ?_ 1 _ rfl; (with_reducible repeat (first | refine blk_drewN ?_ _ | refine blk_drew ?_ | refine blk_alloc ?_ _)); refine blk_put (cs := #[.int .i64 0, .int .i64 0, .int .i64 0]) ?_ 0 _ rfl; (with_reducible repeat (first | refine blk_drewN ?_ _ | refine blk_drew ?_ | refine blk_alloc ?_ _)); refine blk_far ?_ NB102_101.out _; (with_reducible repeat (first | refine blk_drewN ?_ _ | refine blk_drew ?_ | refine blk_alloc ?_ _)); refine blk_far ?_ NB102_101.out _; (with_reducible repeat (first | refine blk_drewN ?_ _ | refine blk_drew ?_ | refine blk_alloc ?_ _)); exact BK102.out) Try.underlying25 rfl (by kernel_rfl) .nil)))) rfl ?_
   exact ⟨_, _, by first | rfl | (simp [errW_none, errW_some] <;> rfl) | (simp [*, errW_none, errW_some] <;> rfl), by (with_reducible repeat (first | apply Kd.R_alloc | apply Kd.R_drewN | apply Kd.R_drew)); exact Kd.R_mono (Kd.R_far (p := ⟨gb102, 2, none⟩) (Kd.R_far (p := ⟨gb102, 1, none⟩) (Kd.R_far (p := ⟨gb102, 0, none⟩) (Kd.R_far (p := ⟨gb101, 1, none⟩) (Kd.R_far (p := ⟨gb101, 0, none⟩) (Kd.R_types (Kd.R_types HO108.out BK101.out (by decide)) BK102.out (by decide)) (fun _ hk => hk.1.2) (.int .i64 t110)) (fun _ hk => hk.1.2) (.slice Ao56 t111.length co56)) (fun _ hk => hk.2) (.int .i64 t116)) (fun _ hk => hk.2) (.int .i64 t117)) (fun _ hk => hk.2) (.int .i64 t118)) (fun _ hk => trivial), by (with_reducible repeat (first | apply Kd.R_alloc | apply Kd.R_drewN | apply Kd.R_drew)); exact Kd.R_mono (Kd.R_far (p := ⟨gb102, 2, none⟩) (Kd.R_far (p := ⟨gb102, 1, none⟩) (Kd.R_far (p := ⟨gb102, 0, none⟩) (Kd.R_far (p := ⟨gb101, 1, none⟩) (Kd.R_far (p := ⟨gb101, 0, none⟩) (Kd.R_types (Kd.R_types HO113.out BK101.out (by decide)) BK102.out (by decide)) (fun _ hk => hk.1.2) (.int .i64 t110)) (fun _ hk => hk.1.2) (.slice Ao56 t111.length co56)) (fun _ hk => hk.2) (.int .i64 t116)) (fun _ hk => hk.2) (.int .i64 t117)) (fun _ hk => hk.2) (.int .i64 t118)) (fun _ hk => trivial), K5 HB (IsS143.ge HI105.out) GE101.out GE102.out GE115.out GE120.out⟩
 ·rw [if_neg c6] at H
  have c6b0 : decide (0 < (t111.length : Int)) = false := decide_eq_false c6
  have c6b1 : decide (0 < t111.length) = false := decide_eq_false (by omega)
  clear c6
  simp only [Option.some.injEq, Prod.mk.injEq] at H
  obtain ⟨rfl, rfl, rfl, rfl, rfl, rfl⟩ := H
  go_enter Try.func29, Try.ntmps29
  try go_wp2_with (first | ((with_reducible refine gate_dst (N := 3) rfl ?_); refine box_event rfl (N := 3) rfl (cs := #[.int .i64 0, .slice none 0 0]) (t := 46) BX ?_; intro gb101 hg w72 hbox hb; have BK101 := am (hbox); have GW101 := am ((GL hg (below_size (KL HB)) : w.heap.size ≤ gb101)); have GE101 := GW101; replace HB := am (below_step (KL HB) hb); clear hb hbox hg) | ((with_reducible refine gate_dst (N := 4) rfl ?_); refine box_event rfl (N := 4) rfl (cs := #[.int .i64 0, .int .i64 0, .int .i64 0]) (t := 25) BX ?_; intro gb102 hg w73 hbox hb; have BK102 := am (hbox); have GW102 := am ((GL hg (below_size (K1 HB GE101.out)) : w.heap.size ≤ gb102)); have GE102 := GW102; replace HB := am (below_step (K1 HB GE101.out) hb); have NB101_102 := am (NL BK101 hg); have NB102_101 := am (NG BK101 hg); replace BK101 := am (BB BK101 hb); clear hb hbox hg) | ((with_reducible refine gate_callee (f := 70) rfl ?_); refine goesL_ (some 10) rfl rfl Try.func70 (by kernel_rfl) rfl #[.slice A0 l0.length c0] rfl MT ?_; (with_reducible refine (spec_l1Open.calls _ _ l0 t103 t104 w _ ?side1 ?side2 ?side3 A2.out).mono ?_); (case side1 => exact K2 HB GE101.out GE102.out); (case side2 => exact HR0.out); (case side3 => exact HC0.out); rintro e w74 ⟨g105, rfl, hi, hb, hb2⟩; refine ⟨_, rfl, ?_⟩; replace HB := am (hb); have HI105 := am (hi); have NB105_101 := am (IsS143.ne_blk hi (blk_below (g := gb101) (o := .cells #[.int .i64 0, .slice none 0 0] 46 (0, 0)) (KB BK101) hb2) (by decide)); have NB101_105 := am (Ne.symm (IsS143.ne_blk hi (blk_below (g := gb101) (o := .cells #[.int .i64 0, .slice none 0 0] 46 (0, 0)) (KB BK101) hb2) (by decide))); replace BK101 := am (blk_below (g := gb101) (o := .cells #[.int .i64 0, .slice none 0 0] 46 (0, 0)) (KB BK101) hb2); have NB105_102 := am (IsS143.ne_blk hi (blk_below (g := gb102) (o := .cells #[.int .i64 0, .int .i64 0, .int .i64 0] 25 (0, 0)) (KB BK102) hb2) (by decide)); have NB102_105 := am (Ne.symm (IsS143.ne_blk hi (blk_below (g := gb102) (o := .cells #[.int .i64 0, .int .i64 0, .int .i64 0] 25 (0, 0)) (KB BK102) hb2) (by decide))); replace BK102 := am (blk_below (g := gb102) (o := .cells #[.int .i64 0, .int .i64 0, .int .i64 0] 25 (0, 0)) (KB BK102) hb2); (try clear hb); (try clear hb2); (try clear hk); (try clear hi)) | ((with_reducible refine gate_callee (f := 71) rfl ?_); refine goesL_ (some 12) rfl rfl Try.func71 (by kernel_rfl) rfl #[.pointer (some ⟨g105, 0, none⟩)] rfl MT ?_; (with_reducible refine (spec_l12AnyRules.calls k g105 t103 t104 t106 t109 w _ ?side1 ?side2 A3.out).mono ?_); (case side1 => exact I143_2 HI105 NB105_101.out NB105_102.out); (case side2 => exact K3 HB (IsS143.ge HI105.out) GE101.out GE102.out); rintro e w75 ⟨v107, rfl, ho0, hi, hb, hk⟩; refine ⟨_, rfl, ?_⟩; replace BK101 := am (KeepBut.blk hk (g' := gb101) (o := .cells #[.int .i64 0, .slice none 0 0] 46 (0, 0)) (KB BK101) NB101_105.out (by simp)); replace BK102 := am (KeepBut.blk hk (g' := gb102) (o := .cells #[.int .i64 0, .int .i64 0, .int .i64 0] 25 (0, 0)) (KB BK102) NB102_105.out (by simp)); have HO108 := am (Kd.R_lower ho0 (below_size (K3 HB (IsS143.ge HI105.out) GE101.out GE102.out))); replace HB := am (hb); replace HI105 := am (hi); (try clear hb); (try clear hb2); (try clear hk); (try clear hi); (try clear ho0); obtain ⟨Ao76, co76, eo76⟩ := Kd.R_slice HO108.out; subst eo76) | ((with_reducible refine gate_callee (f := 90) rfl ?_); refine goesL_ (some 15) rfl rfl Try.func90 (by kernel_rfl) rfl #[.pointer (some ⟨g105, 0, none⟩), .slice Ao76 t106.length co76] rfl MT ?_; (with_reducible refine (spec_l12Cache.calls k g105 t103 t109 _ _ t106 t110 t111 t114 w _ ?side1 ?side2 ?side3 ?side4 A4.out).mono ?_); (case side1 => exact I143_2 HI105 NB105_101.out NB105_102.out); (case side2 => exact K3 HB (IsS143.ge HI105.out) GE101.out GE102.out); (case side3 => exact Kd.C_foot_own (IsS143.apart (show IsS143 w _ g105 t103 t109 from I143_2 HI105 NB105_101.out NB105_102.out) (KR HO108) (by decide)) (fun _ h_ => h_.2)); (case side4 => exact (Kd.R_reads' HO108.out).2.1); rintro e w77 ⟨v112, rfl, ho0, hi, hb, hk⟩; refine ⟨_, rfl, ?_⟩; replace BK101 := am (KeepBut.blk hk (g' := gb101) (o := .cells #[.int .i64 0, .slice none 0 0] 46 (0, 0)) (KB BK101) NB101_105.out (by simp)); replace BK102 := am (KeepBut.blk hk (g' := gb102) (o := .cells #[.int .i64 0, .int .i64 0, .int .i64 0] 25 (0, 0)) (KB BK102) NB102_105.out (by simp)); replace HO108 := am (Kd.R_mono (Kd.R_keep (IsS143.apart (show IsS143 w _ g105 t103 t109 from I143_2 HI105 NB105_101.out NB105_102.out) (KR HO108) (by decide)) hk (fun _ h => h.2)) (fun _ h => h.1)); have HO113 := am (Kd.R_lower ho0 (below_size (K3 HB (IsS143.ge HI105.out) GE101.out GE102.out))); replace HB := am (hb); replace HI105 := am (hi); (try clear hb); (try clear hb2); (try clear hk); (try clear hi); (try clear ho0)) | ((with_reducible refine gate_dst (N := 7) rfl ?_); refine box_event rfl (N := 7) rfl (cs := #[.int .i64 0, .slice none 0 0]) (t := 46) BX ?_; intro gb115 hg w78 hbox hb; replace HO108 := am (Kd.R_below (KR HO108) hb); replace HO113 := am (Kd.R_below (KR HO113) hb); have BK115 := am (hbox); have GW115 := am ((GL hg (below_size (K3 HB (IsS143.ge HI105.out) GE101.out GE102.out)) : w.heap.size ≤ gb115)); have GE115 := GW115; replace HB := am (below_step (K3 HB (IsS143.ge HI105.out) GE101.out GE102.out) hb); have NB101_115 := am (NL BK101 hg); have NB115_101 := am (NG BK101 hg); replace BK101 := am (BB BK101 hb); have NB102_115 := am (NL BK102 hg); have NB115_102 := am (NG BK102 hg); replace BK102 := am (BB BK102 hb); have NB105_115 := am ((by rw [hg]; exact Nat.ne_of_lt (IsS143.lt (show IsS143 w _ g105 t103 t114 from I143_2 HI105 NB105_101.out NB105_102.out)) : g105 ≠ gb115)); have NB115_105 := am ((by rw [hg]; exact Nat.ne_of_gt (IsS143.lt (show IsS143 w _ g105 t103 t114 from I143_2 HI105 NB105_101.out NB105_102.out)) : gb115 ≠ g105)); replace HI105 := am (IsS143.below (I143_2 HI105 NB105_101.out NB105_102.out) hb); clear hb hbox hg; have hnb79 := NB115_101.out; have hnc79 := NB101_115.out; have hnb80 := NB115_102.out; have hnc80 := NB102_115.out; have hnb81 := NB115_105.out; have hnc81 := NB105_115.out; have hcz82_0 := z0 w78 BK115.out; have hcz82_1 := z1 w78 BK115.out; have hfz82_0 := blk_frozen BK115.out 0; have hfz82_1 := blk_frozen BK115.out 1; obtain ⟨Ao83, co83, eo83⟩ := Kd.R_slice HO113.out; subst eo83) | ((with_reducible refine gate_callee (f := 72) rfl ?_); refine goesL_ (some 17) rfl rfl Try.func72 (by kernel_rfl) rfl #[.pointer (some ⟨g105, 0, none⟩)] rfl MT ?_; (with_reducible refine (spec_l12AnyCall.calls k g105 t103 t114 t116 t117 t118 t119 w _ ?side1 ?side2 A5.out).mono ?_); (case side1 => exact I143_3 HI105 NB105_101.out NB105_102.out NB105_115.out); (case side2 => exact K4 HB (IsS143.ge HI105.out) GE101.out GE102.out GE115.out); rintro e w84 ⟨rfl, hi, hb, hk⟩; refine ⟨_, rfl, ?_⟩; replace BK101 := am (KeepBut.blk hk (g' := gb101) (o := .cells #[.int .i64 0, .slice none 0 0] 46 (0, 0)) (by (with_reducible repeat (first | refine blk_drewN ?_ _ | refine blk_drew ?_ | refine blk_alloc ?_ _)); refine blk_far ?_ NB101_115.out _; (with_reducible repeat (first | refine blk_drewN ?_ _ | refine blk_drew ?_ | refine blk_alloc ?_ _)); refine blk_far ?_ NB101_115.out _; (with_reducible repeat (first | refine blk_drewN ?_ _ | refine blk_drew ?_ | refine blk_alloc ?_ _)); exact BK101.out) NB101_105.out (by simp)); replace BK102 := am (KeepBut.blk hk (g' := gb102) (o := .cells #[.int .i64 0, .int .i64 0, .int .i64 0] 25 (0, 0)) (by (with_reducible repeat (first | refine blk_drewN ?_ _ | refine blk_drew ?_ | refine blk_alloc ?_ _)); refine blk_far ?_ NB102_115.out _; (with_reducible repeat (first | refine blk_drewN ?_ _ | refine blk_drew ?_ | refine blk_alloc ?_ _)); refine blk_far ?_ NB102_115.out _; (with_reducible repeat (first | refine blk_drewN ?_ _ | refine blk_drew ?_ | refine blk_alloc ?_ _)); exact BK102.out) NB102_105.out (by simp)); replace HO108 := am (Kd.R_mono (Kd.R_keep (IsS143.apart (show IsS143 w _ g105 t103 t114 from I143_3 HI105 NB105_101.out NB105_102.out NB105_115.out) (by (with_reducible repeat (first | apply Kd.R_alloc | apply Kd.R_drewN | apply Kd.R_drew)); exact (Kd.R_mono (Kd.R_far (p := ⟨gb115, 1, none⟩) (Kd.R_far (p := ⟨gb115, 0, none⟩) (Kd.R_types HO108.out BK115.out (by decide)) (fun _ hk => hk.2) (.int .i64 t110)) (fun _ hk => hk.2) (.slice Ao83 t111.length co83)) (fun _ h_ => h_.1))) (by decide)) hk (fun _ h => h.2)) (fun _ h => h.1)); replace HO113 := am (Kd.R_mono (Kd.R_keep (IsS143.apart (show IsS143 w _ g105 t103 t114 from I143_3 HI105 NB105_101.out NB105_102.out NB105_115.out) (by (with_reducible repeat (first | apply Kd.R_alloc | apply Kd.R_drewN | apply Kd.R_drew)); exact (Kd.R_mono (Kd.R_far (p := ⟨gb115, 1, none⟩) (Kd.R_far (p := ⟨gb115, 0, none⟩) (Kd.R_types HO113.out BK115.out (by decide)) (fun _ hk => hk.2) (.int .i64 t110)) (fun _ hk => hk.2) (.slice Ao83 t111.length co83)) (fun _ h_ => h_.1))) (by decide)) hk (fun _ h => h.2)) (fun _ h => h.1)); replace BK115 := am (KeepBut.blk hk (g' := gb115) (o := .cells #[.int .i64 t110, .slice Ao83 t111.length co83] 46 (0, 0)) (by (with_reducible repeat (first | refine blk_drewN ?_ _ | refine blk_drew ?_ | refine blk_alloc ?_ _)); refine blk_put (cs := #[.int .i64 t110, .slice none 0 0]) ?_ 1 _ rfl; (with_reducible repeat (first | refine blk_drewN ?_ _ | refine blk_drew ?_ | refine blk_alloc ?_ _)); refine blk_put (cs := #[.int .i64 0, .slice none 0 0]) ?_ 0 _ rfl; (with_reducible repeat (first | refine blk_drewN ?_ _ | refine blk_drew ?_ | refine blk_alloc ?_ _)); exact BK115.out) NB115_105.out (by simp)); replace HB := am (hb); replace HI105 := am (hi); (try clear hb); (try clear hb2); (try clear hk); (try clear hi)) | ((with_reducible refine gate_dst (N := 8) rfl ?_); refine box_event rfl (N := 8) rfl (cs := #[.int .i64 0, .int .i64 0, .int .i64 0]) (t := 25) BX ?_; intro gb120 hg w85 hbox hb; replace HO108 := am (Kd.R_below (KR HO108) hb); replace HO113 := am (Kd.R_below (KR HO113) hb); have BK120 := am (hbox); have GW120 := am ((GL hg (below_size (K4 HB (IsS143.ge HI105.out) GE101.out GE102.out GE115.out)) : w.heap.size ≤ gb120)); have GE120 := GW120; replace HB := am (below_step (K4 HB (IsS143.ge HI105.out) GE101.out GE102.out GE115.out) hb); have NB101_120 := am (NL BK101 hg); have NB120_101 := am (NG BK101 hg); replace BK101 := am (BB BK101 hb); have NB102_120 := am (NL BK102 hg); have NB120_102 := am (NG BK102 hg); replace BK102 := am (BB BK102 hb); have NB115_120 := am (NL BK115 hg); have NB120_115 := am (NG BK115 hg); replace BK115 := am (BB BK115 hb); have NB105_120 := am ((by rw [hg]; exact Nat.ne_of_lt (IsS143.lt (show IsS143 w _ g105 t103 t119 from I143_3 HI105 NB105_101.out NB105_102.out NB105_115.out)) : g105 ≠ gb120)); have NB120_105 := am ((by rw [hg]; exact Nat.ne_of_gt (IsS143.lt (show IsS143 w _ g105 t103 t119 from I143_3 HI105 NB105_101.out NB105_102.out NB105_115.out)) : gb120 ≠ g105)); replace HI105 := am (IsS143.below (I143_3 HI105 NB105_101.out NB105_102.out NB105_115.out) hb); clear hb hbox hg; have hnb86 := NB120_101.out; have hnc86 := NB101_120.out; have hnb87 := NB120_102.out; have hnc87 := NB102_120.out; have hnb88 := NB120_115.out; have hnc88 := NB115_120.out; have hnb89 := NB120_105.out; have hnc89 := NB105_120.out; have hcz90_0 := z0 w85 BK120.out; have hcz90_1 := z1 w85 BK120.out; have hcz90_2 := z2 w85 BK120.out; have hfz90_0 := blk_frozen BK120.out 0; have hfz90_1 := blk_frozen BK120.out 1; have hfz90_2 := blk_frozen BK120.out 2; have hcz91_0 := z0 w85 BK115.out; have hcz91_1 := z1 w85 BK115.out; have hfz91_0 := blk_frozen BK115.out 0; have hfz91_1 := blk_frozen BK115.out 1))
  have n0_ : Aside0 (Kd.R k34 34 (((w85.setCell ⟨gb120, 0, none⟩ (.int .i64 t116)).setCell ⟨gb120, 1, none⟩ (.int .i64 t117)).setCell ⟨gb120, 2, none⟩ (.int .i64 t118)) w.heap.size (fun _ => True) (.slice Ao76 t106.length co76) t106) := ⟨by (with_reducible repeat (first | apply Kd.R_alloc | apply Kd.R_drewN | apply Kd.R_drew)); exact Kd.R_mono (Kd.R_far (p := ⟨gb120, 2, none⟩) (Kd.R_far (p := ⟨gb120, 1, none⟩) (Kd.R_far (p := ⟨gb120, 0, none⟩) (Kd.R_types HO108.out BK120.out (by decide)) (fun _ hk => hk.2) (.int .i64 t116)) (fun _ hk => hk.2) (.int .i64 t117)) (fun _ hk => hk.2) (.int .i64 t118)) (fun _ hk => trivial)⟩
  have n1_ : Aside0 (Kd.R k108 108 (((w85.setCell ⟨gb120, 0, none⟩ (.int .i64 t116)).setCell ⟨gb120, 1, none⟩ (.int .i64 t117)).setCell ⟨gb120, 2, none⟩ (.int .i64 t118)) w.heap.size (fun _ => True) (.slice Ao83 t111.length co83) t111) := ⟨by (with_reducible repeat (first | apply Kd.R_alloc | apply Kd.R_drewN | apply Kd.R_drew)); exact Kd.R_mono (Kd.R_far (p := ⟨gb120, 2, none⟩) (Kd.R_far (p := ⟨gb120, 1, none⟩) (Kd.R_far (p := ⟨gb120, 0, none⟩) (Kd.R_types HO113.out BK120.out (by decide)) (fun _ hk => hk.2) (.int .i64 t116)) (fun _ hk => hk.2) (.int .i64 t117)) (fun _ hk => hk.2) (.int .i64 t118)) (fun _ hk => trivial)⟩
  have n2_ : Aside0 ((((w85.setCell ⟨gb120, 0, none⟩ (.int .i64 t116)).setCell ⟨gb120, 1, none⟩ (.int .i64 t117)).setCell ⟨gb120, 2, none⟩ (.int .i64 t118)).heap[gb101]? = some (.cells #[.int .i64 0, .slice none 0 0] 46 (0, 0))) := ⟨by (with_reducible repeat (first | refine blk_drewN ?_ _ | refine blk_drew ?_ | refine blk_alloc ?_ _)); refine blk_far ?_ NB101_120.out _; (with_reducible repeat (first | refine blk_drewN ?_ _ | refine blk_drew ?_ | refine blk_alloc ?_ _)); refine blk_far ?_ NB101_120.out _; (with_reducible repeat (first | refine blk_drewN ?_ _ | refine blk_drew ?_ | refine blk_alloc ?_ _)); refine blk_far ?_ NB101_120.out _; (with_reducible repeat (first | refine blk_drewN ?_ _ | refine blk_drew ?_ | refine blk_alloc ?_ _)); exact BK101.out⟩
  have n3_ : Aside0 ((((w85.setCell ⟨gb120, 0, none⟩ (.int .i64 t116)).setCell ⟨gb120, 1, none⟩ (.int .i64 t117)).setCell ⟨gb120, 2, none⟩ (.int .i64 t118)).heap[gb102]? = some (.cells #[.int .i64 0, .int .i64 0, .int .i64 0] 25 (0, 0))) := ⟨by (with_reducible repeat (first | refine blk_drewN ?_ _ | refine blk_drew ?_ | refine blk_alloc ?_ _)); refine blk_far ?_ NB102_120.out _; (with_reducible repeat (first | refine blk_drewN ?_ _ | refine blk_drew ?_ | refine blk_alloc ?_ _)); refine blk_far ?_ NB102_120.out _; (with_reducible repeat (first | refine blk_drewN ?_ _ | refine blk_drew ?_ | refine blk_alloc ?_ _)); refine blk_far ?_ NB102_120.out _; (with_reducible repeat (first | refine blk_drewN ?_ _ | refine blk_drew ?_ | refine blk_alloc ?_ _)); exact BK102.out⟩
  have n4_ : Aside0 ((((w85.setCell ⟨gb120, 0, none⟩ (.int .i64 t116)).setCell ⟨gb120, 1, none⟩ (.int .i64 t117)).setCell ⟨gb120, 2, none⟩ (.int .i64 t118)).heap[gb115]? = some (.cells #[.int .i64 t110, .slice Ao83 t111.length co83] 46 (0, 0))) := ⟨by (with_reducible repeat (first | refine blk_drewN ?_ _ | refine blk_drew ?_ | refine blk_alloc ?_ _)); refine blk_far ?_ NB115_120.out _; (with_reducible repeat (first | refine blk_drewN ?_ _ | refine blk_drew ?_ | refine blk_alloc ?_ _)); refine blk_far ?_ NB115_120.out _; (with_reducible repeat (first | refine blk_drewN ?_ _ | refine blk_drew ?_ | refine blk_alloc ?_ _)); refine blk_far ?_ NB115_120.out _; (with_reducible repeat (first | refine blk_drewN ?_ _ | refine blk_drew ?_ | refine blk_alloc ?_ _)); exact BK115.out⟩
  have n5_ : Aside0 ((((w85.setCell ⟨gb120, 0, none⟩ (.int .i64 t116)).setCell ⟨gb120, 1, none⟩ (.int .i64 t117)).setCell ⟨gb120, 2, none⟩ (.int .i64 t118)).heap[gb120]? = some (.cells #[.int .i64 t116, .int .i64 t117, .int .i64 t118] 25 (0, 0))) := ⟨by (with_reducible repeat (first | refine blk_drewN ?_ _ | refine blk_drew ?_ | refine blk_alloc ?_ _)); refine blk_put (cs := #[.int .i64 t116, .int .i64 t117, .int .i64 0]) ?_ 2 _ rfl; (with_reducible repeat (first | refine blk_drewN ?_ _ | refine blk_drew ?_ | refine blk_alloc ?_ _)); refine blk_put (cs := #[.int .i64 t116, .int .i64 0, .int .i64 0]) ?_ 1 _ rfl; (with_reducible repeat (first | refine blk_drewN ?_ _ | refine blk_drew ?_ | refine blk_alloc ?_ _)); refine blk_put (cs := #[.int .i64 0, .int .i64 0, .int .i64 0]) ?_ 0 _ rfl; (with_reducible repeat (first | refine blk_drewN ?_ _ | refine blk_drew ?_ | refine blk_alloc ?_ _)); exact BK120.out⟩
  have n6_ : Aside0 (IsS143 w (((w85.setCell ⟨gb120, 0, none⟩ (.int .i64 t116)).setCell ⟨gb120, 1, none⟩ (.int .i64 t117)).setCell ⟨gb120, 2, none⟩ (.int .i64 t118)) g105 t103 t119) := ⟨I143_4 HI105 NB105_101.out NB105_102.out NB105_115.out NB105_120.out⟩
  have n7_ : Aside0 (Below w.heap.size w (((w85.setCell ⟨gb120, 0, none⟩ (.int .i64 t116)).setCell ⟨gb120, 1, none⟩ (.int .i64 t117)).setCell ⟨gb120, 2, none⟩ (.int .i64 t118))) := ⟨K5 HB (IsS143.ge HI105.out) GE101.out GE102.out GE115.out GE120.out⟩
  (try clear HO108)
  (try clear HO113)
  (try clear BK101)
  (try clear BK102)
  (try clear BK115)
  (try clear BK120)
  (try clear HI105)
  (try clear HB)
  generalize (((w85.setCell ⟨gb120, 0, none⟩ (.int .i64 t116)).setCell ⟨gb120, 1, none⟩ (.int .i64 t117)).setCell ⟨gb120, 2, none⟩ (.int .i64 t118)) = w92 at n0_ n1_ n2_ n3_ n4_ n5_ n6_ n7_ ⊢
  have HO108 := n0_
  have HO113 := n1_
  have BK101 := n2_
  have BK102 := n3_
  have BK115 := n4_
  have BK120 := n5_
  have HI105 := n6_
  have HB := n7_
  clear n0_ n1_ n2_ n3_ n4_ n5_ n6_ n7_
  replace HO108 := am (Kd.R_drew HO108.out)
  replace HO113 := am (Kd.R_drew HO113.out)
  replace BK101 := am (blk_drew BK101.out)
  replace BK102 := am (blk_drew BK102.out)
  replace BK115 := am (blk_drew BK115.out)
  replace BK120 := am (blk_drew BK120.out)
  replace HI105 := am (IsS143.drew HI105.out)
  replace HB := am (below_drew1 HB.out)
  refine start_ (n := 6) (S := fun w' => w'.cell? ⟨gb115, 0, none⟩ = some (.int .i64 t110) ∧ w'.cell? ⟨gb115, 1, none⟩ = some (.slice Ao83 t111.length co83) ∧ w'.cell? ⟨gb120, 0, none⟩ = some (.int .i64 t116) ∧ w'.cell? ⟨gb120, 1, none⟩ = some (.int .i64 t117) ∧ w'.cell? ⟨gb120, 2, none⟩ = some (.int .i64 t118)) (ds := []) (tf 0 6) (by kernel_rfl) rfl rfl ⟨z0 _ BK115.out, z1 _ BK115.out, z0 _ BK120.out, z1 _ BK120.out, z2 _ BK120.out⟩ (fun hHeld => ?_)
  generalize w92.drew = w93 at HO108 HO113 BK101 BK102 BK115 BK120 HI105 HB hHeld ⊢
  refine pure_ (i := 0) (N := some 37) (v := ?_) (a' := ?_) (tf 1 5) rfl rfl (by kernel_rfl) (fun _ _ _ h => h) (Or.inl ⟨by rfl, ?_⟩) ?_ ?_; rotate_left; (· intro w'; go_simp; with_reducible rfl); rotate_left; (· simp only [Act.put, List.setIfInBounds_toArray, List.set_cons_zero, List.set_cons_succ, i64_w, i32_w]; rfl)
  refine pure_ (i := 3) (N := some 2) (v := ?_) (a' := ?_) #[true, false, false, true, false, false] rfl rfl (by kernel_rfl) (fun _ _ _ h => h) (Or.inl ⟨by rfl, ?_⟩) ?_ ?_; rotate_left; (· intro w'; go_simp; with_reducible rfl); rotate_left; (· simp only [Act.put, List.setIfInBounds_toArray, List.set_cons_zero, List.set_cons_succ, i64_w, i32_w]; rfl)
  refine take_ (i := 1) (N := some 38) (v := ?_) (a' := ?_) #[true, true, false, true, false, false] rfl rfl (by kernel_rfl) (fun _ _ _ h => h) (Or.inl ⟨by rfl, ?_⟩) hHeld ?_ ?_
  rotate_left
  ·rintro w' ⟨s0, s1, s2, s3, s4⟩
   go_simp
   with_reducible rfl
  rotate_left
  ·simp only [Act.put, List.setIfInBounds_toArray, List.set_cons_zero, List.set_cons_succ, i64_w, i32_w]
   rfl
  refine take_ (i := 2) (N := some 39) (v := ?_) (a' := ?_) (tf 4 2) rfl rfl (by kernel_rfl) (fun _ _ _ h => h) (Or.inl ⟨by rfl, ?_⟩) hHeld ?_ ?_
  rotate_left
  ·rintro w' ⟨s0, s1, s2, s3, s4⟩
   go_simp
   with_reducible rfl
  rotate_left
  ·simp only [Act.put, List.setIfInBounds_toArray, List.set_cons_zero, List.set_cons_succ, i64_w, i32_w]
   rfl
  refine one_ (i := 4) (N := none) (tf 5 1) rfl rfl (by kernel_rfl) (by decide) (fun K hK => ?_)
  have hs94 : w93.cell? ⟨gb101, 0, none⟩ = some (.int .i64 0) := z0 _ BK101.out
  have hfs94 := blk_frozen BK101.out 0
  have hns94_1 := NB102_101.out
  have hns94_2 := NB115_101.out
  have hns94_3 := NB120_101.out
  have hms94_1 := NB101_102.out
  have hms94_2 := NB101_115.out
  have hms94_3 := NB101_120.out
  have hs95 : w93.cell? ⟨gb101, 1, none⟩ = some (.slice none 0 0) := z1 _ BK101.out
  have hfs95 := blk_frozen BK101.out 1
  have hns95_1 := NB102_101.out
  have hns95_2 := NB115_101.out
  have hns95_3 := NB120_101.out
  have hms95_1 := NB101_102.out
  have hms95_2 := NB101_115.out
  have hms95_3 := NB101_120.out
  refine skip_ (w1 := ?_) (by rfl) rfl ?_ ?_
  rotate_left
  ·go_simp
   rfl
  refine hK.out _ _ ⟨((cell_far (p := ⟨gb101, _, none⟩) NB115_101.out _).trans (((cell_far (p := ⟨gb101, _, none⟩) NB115_101.out _).trans (hHeld.1)))), ((cell_far (p := ⟨gb101, _, none⟩) NB115_101.out _).trans (((cell_far (p := ⟨gb101, _, none⟩) NB115_101.out _).trans (hHeld.2.1)))), ((cell_far (p := ⟨gb101, _, none⟩) NB120_101.out _).trans (((cell_far (p := ⟨gb101, _, none⟩) NB120_101.out _).trans (hHeld.2.2.1)))), ((cell_far (p := ⟨gb101, _, none⟩) NB120_101.out _).trans (((cell_far (p := ⟨gb101, _, none⟩) NB120_101.out _).trans (hHeld.2.2.2.1)))), ((cell_far (p := ⟨gb101, _, none⟩) NB120_101.out _).trans (((cell_far (p := ⟨gb101, _, none⟩) NB120_101.out _).trans (hHeld.2.2.2.2))))⟩ (fun hHeld => ?_)
  clear hK K
  refine one_ (i := 5) (N := none) (tf 6 0) rfl rfl (by kernel_rfl) (by decide) (fun K hK => ?_)
  have hs96 : w93.cell? ⟨gb102, 0, none⟩ = some (.int .i64 0) := z0 _ BK102.out
  have hfs96 := blk_frozen BK102.out 0
  have hns96_0 := NB101_102.out
  have hns96_2 := NB115_102.out
  have hns96_3 := NB120_102.out
  have hms96_0 := NB102_101.out
  have hms96_2 := NB102_115.out
  have hms96_3 := NB102_120.out
  have hs97 : w93.cell? ⟨gb102, 1, none⟩ = some (.int .i64 0) := z1 _ BK102.out
  have hfs97 := blk_frozen BK102.out 1
  have hns97_0 := NB101_102.out
  have hns97_2 := NB115_102.out
  have hns97_3 := NB120_102.out
  have hms97_0 := NB102_101.out
  have hms97_2 := NB102_115.out
  have hms97_3 := NB102_120.out
  have hs98 : w93.cell? ⟨gb102, 2, none⟩ = some (.int .i64 0) := z2 _ BK102.out
  have hfs98 := blk_frozen BK102.out 2
  have hns98_0 := NB101_102.out
  have hns98_2 := NB115_102.out
  have hns98_3 := NB120_102.out
  have hms98_0 := NB102_101.out
  have hms98_2 := NB102_115.out
  have hms98_3 := NB102_120.out
  refine skip_ (w1 := ?_) (by rfl) rfl ?_ ?_
  rotate_left
  ·go_simp
   rfl
  refine hK.out _ _ ⟨((cell_far (p := ⟨gb102, _, none⟩) NB115_102.out _).trans (((cell_far (p := ⟨gb102, _, none⟩) NB115_102.out _).trans (((cell_far (p := ⟨gb102, _, none⟩) NB115_102.out _).trans (hHeld.1)))))), ((cell_far (p := ⟨gb102, _, none⟩) NB115_102.out _).trans (((cell_far (p := ⟨gb102, _, none⟩) NB115_102.out _).trans (((cell_far (p := ⟨gb102, _, none⟩) NB115_102.out _).trans (hHeld.2.1)))))), ((cell_far (p := ⟨gb102, _, none⟩) NB120_102.out _).trans (((cell_far (p := ⟨gb102, _, none⟩) NB120_102.out _).trans (((cell_far (p := ⟨gb102, _, none⟩) NB120_102.out _).trans (hHeld.2.2.1)))))), ((cell_far (p := ⟨gb102, _, none⟩) NB120_102.out _).trans (((cell_far (p := ⟨gb102, _, none⟩) NB120_102.out _).trans (((cell_far (p := ⟨gb102, _, none⟩) NB120_102.out _).trans (hHeld.2.2.2.1)))))), ((cell_far (p := ⟨gb102, _, none⟩) NB120_102.out _).trans (((cell_far (p := ⟨gb102, _, none⟩) NB120_102.out _).trans (((cell_far (p := ⟨gb102, _, none⟩) NB120_102.out _).trans (hHeld.2.2.2.2))))))⟩ (fun hHeld => ?_)
  clear hK K
  refine done_ (by kernel_rfl) ?_
  try go_wp2
  refine bodyPost_ret (results_list (rs := [.tmp 2, .cell 3 46, .cell 4 25]) rfl (by simp) (.tmp (.cell gb101 46 #[.int .i64 t110, .slice Ao83 t111.length co83] (0, 0) _ rfl (by (with_reducible repeat (first | refine blk_drewN ?_ _ | refine blk_drew ?_ | refine blk_alloc ?_ _)); refine blk_far ?_ NB101_102.out _; (with_reducible repeat (first | refine blk_drewN ?_ _ | refine blk_drew ?_ | refine blk_alloc ?_ _)); refine blk_far ?_ NB101_102.out _; (with_reducible repeat (first | refine blk_drewN ?_ _ | refine blk_drew ?_ | refine blk_alloc ?_ _)); refine blk_far ?_ NB101_102.out _; (with_reducible repeat (first | refine blk_drewN ?_ _ | refine blk_drew ?_ | refine blk_alloc ?_ _)); refine blk_put (cs := #[.int .i64 t110, .slice none 0 0]) ?_ 1 _ rfl; (with_reducible repeat (first | refine blk_drewN ?_ _ | refine blk_drew ?_ | refine blk_alloc ?_ _)); refine blk_put (cs := #[.int .i64 0, .slice none 0 0]) ?_ 0 _ rfl; (with_reducible repeat (first | refine blk_drewN ?_ _ | refine blk_drew ?_ | refine blk_alloc ?_ _)); exact BK101.out) Try.underlying46 rfl (by kernel_rfl) (.cell gb102 25 #[.int .i64 t116, .int .i64 t117, .int .i64 t118] (0, 0) _ rfl (by (with_reducible repeat (first | refine blk_drewN ?_ _ | refine blk_drew ?_ | refine blk_alloc ?_ _)); refine blk_put (cs := #[.int .i64 t116, .int .i64 t117, .int .i64 0]) ?_ 2 _ rfl; (with_reducible repeat (first | refine blk_drewN ?_ _ | refine blk_drew ?_ | refine blk_alloc ?_ _)); refine blk_put (cs := #[.int .i64 t116, .int .i64 0, .int .i64 0]) ?_ 1 _ rfl; (with_reducible repeat (first | refine blk_drewN ?_ _ | refine blk_drew ?_ | refine blk_alloc ?_ _)); refine blk_put (cs := #[.int .i64 0, .int .i64 0, .int .i64 0]) ?_ 0 _ rfl; (with_reducible repeat (first | refine blk_drewN ?_ _ | refine blk_drew ?_ | refine blk_alloc ?_ _)); refine blk_far ?_ NB102_101.out _; (with_reducible repeat (first | refine blk_drewN ?_ _ | refine blk_drew ?_ | refine blk_alloc ?_ _)); refine blk_far ?_ NB102_101.out _; (with_reducible repeat (first | refine blk_drewN ?_ _ | refine blk_drew ?_ | refine blk_alloc ?_ _)); exact BK102.out) Try.underlying25 rfl (by kernel_rfl) .nil)))) rfl ?_
  exact ⟨_, _, by first | rfl | (simp [errW_none, errW_some] <;> rfl) | (simp [*, errW_none, errW_some] <;> rfl), by (with_reducible repeat (first | apply Kd.R_alloc | apply Kd.R_drewN | apply Kd.R_drew)); exact Kd.R_mono (Kd.R_far (p := ⟨gb102, 2, none⟩) (Kd.R_far (p := ⟨gb102, 1, none⟩) (Kd.R_far (p := ⟨gb102, 0, none⟩) (Kd.R_far (p := ⟨gb101, 1, none⟩) (Kd.R_far (p := ⟨gb101, 0, none⟩) (Kd.R_types (Kd.R_types HO108.out BK101.out (by decide)) BK102.out (by decide)) (fun _ hk => hk.1.2) (.int .i64 t110)) (fun _ hk => hk.1.2) (.slice Ao83 t111.length co83)) (fun _ hk => hk.2) (.int .i64 t116)) (fun _ hk => hk.2) (.int .i64 t117)) (fun _ hk => hk.2) (.int .i64 t118)) (fun _ hk => trivial), by (with_reducible repeat (first | apply Kd.R_alloc | apply Kd.R_drewN | apply Kd.R_drew)); exact Kd.R_mono (Kd.R_far (p := ⟨gb102, 2, none⟩) (Kd.R_far (p := ⟨gb102, 1, none⟩) (Kd.R_far (p := ⟨gb102, 0, none⟩) (Kd.R_far (p := ⟨gb101, 1, none⟩) (Kd.R_far (p := ⟨gb101, 0, none⟩) (Kd.R_types (Kd.R_types HO113.out BK101.out (by decide)) BK102.out (by decide)) (fun _ hk => hk.1.2) (.int .i64 t110)) (fun _ hk => hk.1.2) (.slice Ao83 t111.length co83)) (fun _ hk => hk.2) (.int .i64 t116)) (fun _ hk => hk.2) (.int .i64 t117)) (fun _ hk => hk.2) (.int .i64 t118)) (fun _ hk => trivial), K5 HB (IsS143.ge HI105.out) GE101.out GE102.out GE115.out GE120.out⟩
end Go.Proofs.Ytioghacieopbdaa.PAll
end
section
namespace Go.Proofs.Ytioghacieopbdaa.PAll
open Go.RowKit Go.Proofs.YtioghacieopbdaaW.PrintWords Go.Proofs.YtioghacieopbdaaW.PrintLast Go.Proofs.YtioghacieopbdaaW.PrintMore
attribute [local go_sem] max2_int min2_int max_two min_two max_three min_three max_four min_four   -- for this text's walks alone
set_option linter.unusedVariables false
set_option linter.unusedSimpArgs false
def spec_CacheFind.f (k : Nat) (l0 : List (S34)) (a1_0 : Int) (l1_1 : List (S108)) (a2_0 : Int) (a2_1 : Int) (a2_2 : Int) : Option (Int × (List (S108)) × Int) := (spec_CacheOk.f k l0 a1_0 l1_1).bind fun t104 => (if t104 = true then ((spec_l4Call.f a2_0 a2_1 a2_2).bind fun t105 => (if t105 = true then ((spec_l5Find.f k l0 a1_0 l1_1 a2_0 a2_1 a2_2).bind fun bt106 => (some (bt106.1, bt106.2.1, bt106.2.2))) else ((some (([] : List (S108)) : List (S108))).bind fun y111 => (if y111.length + l1_1.length < 4398046511104 then (some (a1_0, (y111 ++ l1_1), (-1))) else (none))))) else (some (0, ([] : List (S108)), (-1))))
def spec_CacheFind.T4 : Bool × List (List Nat × List Nat) := (true, [([], []), ([0], [0]), ([], []), ([], []), ([3], [3]), ([2, 4], [2, 4]), ([1, 5], [1, 5]), ([6, 5, 0, 1, 2, 3, 4, 5, 6], [6]), ([7, 0, 1, 2, 3, 4, 5, 6, 7], [])])
def spec_CacheFind.B4 : List Nat := [0, 1, 0, 0, 8, 28, 63, 127, 255]
theorem spec_CacheFind.tab4 : rtab .any (opsOf Try.f31 4) = spec_CacheFind.T4 := by kernel_rfl
theorem spec_CacheFind.bits4 : waitsOk spec_CacheFind.T4.2 spec_CacheFind.B4 = true := by kernel_rfl
set_option maxHeartbeats 8000000 in
set_option maxRecDepth 100000 in
theorem spec_CacheFind.calls (k : Nat) (A0 : Option Addr) (c0 : Nat) (l0 : List (S34)) (a1_0 : Int) (A1_1 : Option Addr) (c1_1 : Nat) (l1_1 : List (S108)) (a2_0 : Int) (a2_1 : Int) (a2_2 : Int) (r1 : Int) (r2 : List (S108)) (r3 : Int) (w : World) (hr0 : Kd.C k34 w A0 l0.length l0) (hc0 : l0.length ≤ c0) (hr1_1 : Kd.C k108 w A1_1 l1_1.length l1_1) (hc1_1 : l1_1.length ≤ c1_1) (h : spec_CacheFind.f k l0 a1_0 l1_1 a2_0 a2_1 a2_2 = some (r1, r2, r3)) :
  Calls Try.prog 31 #[.slice A0 l0.length c0, .agg #[.int .i64 a1_0, .slice A1_1 l1_1.length c1_1], .agg #[.int .i64 a2_0, .int .i64 a2_1, .int .i64 a2_2]] w fun e w' => ∃ v1_ : Value, e = .returned (.tuple #[.agg #[.int .i64 r1, v1_], .int .i64 r3]) ∧ Kd.R k108 108 w' w.heap.size (fun _ => True) v1_ r2 ∧ Below w.heap.size w w' := by
 have hu46 := Try.underlying46
 have hu25 := Try.underlying25
 have HR0 := Aside0.mk hr0
 have HC0 := Aside0.mk hc0
 clear hr0 hc0
 have HR1_1 := Aside0.mk hr1_1
 have HC1_1 := Aside0.mk hc1_1
 clear hr1_1 hc1_1
 have HB := am (Below.refl w.heap.size w)
 have H : ((spec_CacheOk.f k l0 a1_0 l1_1).bind fun t104 => (if t104 = true then ((spec_l4Call.f a2_0 a2_1 a2_2).bind fun t105 => (if t105 = true then ((spec_l5Find.f k l0 a1_0 l1_1 a2_0 a2_1 a2_2).bind fun bt106 => (some (bt106.1, bt106.2.1, bt106.2.2))) else ((some (([] : List (S108)) : List (S108))).bind fun y111 => (if y111.length + l1_1.length < 4398046511104 then (some (a1_0, (y111 ++ l1_1), (-1))) else (none))))) else (some (0, ([] : List (S108)), (-1))))) = some (r1, r2, r3) := h
 clear h
 replace H := Option.bind_eq_some_iff.mp H
 obtain ⟨t104, A40, H⟩ := H
 replace H : (if t104 = true then ((spec_l4Call.f a2_0 a2_1 a2_2).bind fun t105 => (if t105 = true then ((spec_l5Find.f k l0 a1_0 l1_1 a2_0 a2_1 a2_2).bind fun bt106 => (some (bt106.1, bt106.2.1, bt106.2.2))) else ((some (([] : List (S108)) : List (S108))).bind fun y111 => (if y111.length + l1_1.length < 4398046511104 then (some (a1_0, (y111 ++ l1_1), (-1))) else (none))))) else (some (0, ([] : List (S108)), (-1)))) = some (r1, r2, r3) := H
 have A4 := Aside0.mk A40
 clear A40
 by_cases c5 : t104 = true
 ·subst c5
  have H1 : ((spec_l4Call.f a2_0 a2_1 a2_2).bind fun t105 => (if t105 = true then ((spec_l5Find.f k l0 a1_0 l1_1 a2_0 a2_1 a2_2).bind fun bt106 => (some (bt106.1, bt106.2.1, bt106.2.2))) else ((some (([] : List (S108)) : List (S108))).bind fun y111 => (if y111.length + l1_1.length < 4398046511104 then (some (a1_0, (y111 ++ l1_1), (-1))) else (none))))) = some (r1, r2, r3) := by rw [if_pos rfl] at H; exact H
  clear H
  have H := H1
  clear H1
  replace H := Option.bind_eq_some_iff.mp H
  obtain ⟨t105, A60, H⟩ := H
  replace H : (if t105 = true then ((spec_l5Find.f k l0 a1_0 l1_1 a2_0 a2_1 a2_2).bind fun bt106 => (some (bt106.1, bt106.2.1, bt106.2.2))) else ((some (([] : List (S108)) : List (S108))).bind fun y111 => (if y111.length + l1_1.length < 4398046511104 then (some (a1_0, (y111 ++ l1_1), (-1))) else (none)))) = some (r1, r2, r3) := H
  have A6 := Aside0.mk A60
  clear A60
  by_cases c7 : t105 = true
  ·subst c7
   have H1 : ((spec_l5Find.f k l0 a1_0 l1_1 a2_0 a2_1 a2_2).bind fun bt106 => (some (bt106.1, bt106.2.1, bt106.2.2))) = some (r1, r2, r3) := by rw [if_pos rfl] at H; exact H
   clear H
   have H := H1
   clear H1
   replace H := Option.bind_eq_some_iff.mp H
   obtain ⟨⟨t106, t107, t110⟩, A80, H⟩ := H
   replace H : (some (t106, t107, t110)) = some (r1, r2, r3) := H
   have A8 := Aside0.mk A80
   clear A80
   simp only [Option.some.injEq, Prod.mk.injEq] at H
   obtain ⟨rfl, rfl, rfl⟩ := H
   go_enter Try.func31, Try.ntmps31
   go_wp2_with (first | ((with_reducible refine gate_dst (N := 4) rfl ?_); refine box_event rfl (N := 4) rfl (cs := #[.int .i64 a1_0, .slice A1_1 l1_1.length c1_1]) (t := 46) BX ?_; intro gb101 hg w9 hbox hb; have BK101 := am (hbox); have GW101 := am ((GL hg (below_size (KL HB)) : w.heap.size ≤ gb101)); have GE101 := GW101; replace HB := am (below_step (KL HB) hb); clear hb hbox hg) | ((with_reducible refine gate_dst (N := 5) rfl ?_); refine box_event rfl (N := 5) rfl (cs := #[.int .i64 a2_0, .int .i64 a2_1, .int .i64 a2_2]) (t := 25) BX ?_; intro gb102 hg w10 hbox hb; have BK102 := am (hbox); have GW102 := am ((GL hg (below_size (K1 HB GE101.out)) : w.heap.size ≤ gb102)); have GE102 := GW102; replace HB := am (below_step (K1 HB GE101.out) hb); have NB101_102 := am (NL BK101 hg); have NB102_101 := am (NG BK101 hg); replace BK101 := am (BB BK101 hb); clear hb hbox hg) | ((with_reducible refine gate_dst (N := 6) rfl ?_); refine box_event rfl (N := 6) rfl (cs := #[.int .i64 0, .slice none 0 0]) (t := 46) BX ?_; intro gb103 hg w11 hbox hb; have BK103 := am (hbox); have GW103 := am ((GL hg (below_size (K2 HB GE101.out GE102.out)) : w.heap.size ≤ gb103)); have GE103 := GW103; replace HB := am (below_step (K2 HB GE101.out GE102.out) hb); have NB101_103 := am (NL BK101 hg); have NB103_101 := am (NG BK101 hg); replace BK101 := am (BB BK101 hb); have NB102_103 := am (NL BK102 hg); have NB103_102 := am (NG BK102 hg); replace BK102 := am (BB BK102 hb); clear hb hbox hg; have hnb12 := NB101_102.out; have hnc12 := NB102_101.out; have hnb13 := NB101_103.out; have hnc13 := NB103_101.out; have hcz14_0 := z0 w11 BK101.out; have hcz14_1 := z1 w11 BK101.out; have hfz14_0 := blk_frozen BK101.out 0; have hfz14_1 := blk_frozen BK101.out 1) | ((with_reducible refine gate_callee (f := 23) rfl ?_); refine goesL_ (some 10) rfl rfl Try.func23 (by kernel_rfl) rfl #[.slice A0 l0.length c0, .agg #[.int .i64 a1_0, .slice A1_1 l1_1.length c1_1]] rfl MT ?_; (with_reducible refine (spec_CacheOk.calls k _ _ l0 a1_0 _ _ l1_1 true _ ?side1 ?side2 ?side3 ?side4 A4.out).mono ?_); (case side1 => exact KC (Kd.C_below HR0.out HB.out)); (case side2 => exact HC0.out); (case side3 => exact KC (Kd.C_below HR1_1.out HB.out)); (case side4 => exact HC1_1.out); rintro e w15 ⟨rfl, hb⟩; refine ⟨_, rfl, ?_⟩; replace BK101 := am (BB BK101 hb); replace BK102 := am (BB BK102 hb); replace BK103 := am (BB BK103 hb); replace HB := am (below_step (K3 HB GE101.out GE102.out GE103.out) hb); (try clear hb); (try clear hb2); (try clear hk); (try clear hi); have hnb16 := NB102_103.out; have hnc16 := NB103_102.out; have hcz17_0 := z0 w15 BK102.out; have hcz17_1 := z1 w15 BK102.out; have hcz17_2 := z2 w15 BK102.out; have hfz17_0 := blk_frozen BK102.out 0; have hfz17_1 := blk_frozen BK102.out 1; have hfz17_2 := blk_frozen BK102.out 2) | ((with_reducible refine gate_callee (f := 75) rfl ?_); refine goesL_ (some 14) rfl rfl Try.func75 (by kernel_rfl) rfl #[.agg #[.int .i64 a2_0, .int .i64 a2_1, .int .i64 a2_2]] rfl MT ?_; (with_reducible refine (spec_l4Call.calls a2_0 a2_1 a2_2 true _ A6.out).mono ?_); rintro e w18 ⟨rfl, hb⟩; refine ⟨_, rfl, ?_⟩; replace BK101 := am (BB BK101 hb); replace BK102 := am (BB BK102 hb); replace BK103 := am (BB BK103 hb); replace HB := am (below_step (K3 HB GE101.out GE102.out GE103.out) hb); (try clear hb); (try clear hb2); (try clear hk); (try clear hi); have hcz19_0 := z0 w18 BK101.out; have hcz19_1 := z1 w18 BK101.out; have hfz19_0 := blk_frozen BK101.out 0; have hfz19_1 := blk_frozen BK101.out 1; have hcz20_0 := z0 w18 BK102.out; have hcz20_1 := z1 w18 BK102.out; have hcz20_2 := z2 w18 BK102.out; have hfz20_0 := blk_frozen BK102.out 0; have hfz20_1 := blk_frozen BK102.out 1; have hfz20_2 := blk_frozen BK102.out 2) | ((with_reducible refine gate_callee (f := 94) rfl ?_); refine goesL_ (some 26) rfl rfl Try.func94 (by kernel_rfl) rfl #[.slice A0 l0.length c0, .agg #[.int .i64 a1_0, .slice A1_1 l1_1.length c1_1], .agg #[.int .i64 a2_0, .int .i64 a2_1, .int .i64 a2_2]] rfl MT ?_; (with_reducible refine (spec_l5Find.calls k _ _ l0 a1_0 _ _ l1_1 a2_0 a2_1 a2_2 t106 t107 t110 _ ?side1 ?side2 ?side3 ?side4 A8.out).mono ?_); (case side1 => exact KC (Kd.C_below HR0.out HB.out)); (case side2 => exact HC0.out); (case side3 => exact KC (Kd.C_below HR1_1.out HB.out)); (case side4 => exact HC1_1.out); rintro e w21 ⟨v108, rfl, ho0, hb⟩; refine ⟨_, rfl, ?_⟩; have HO109 := am (Kd.R_lower ho0 (below_size (K3 HB GE101.out GE102.out GE103.out))); replace BK101 := am (BB BK101 hb); replace BK102 := am (BB BK102 hb); replace BK103 := am (BB BK103 hb); replace HB := am (below_step (K3 HB GE101.out GE102.out GE103.out) hb); (try clear hb); (try clear hb2); (try clear hk); (try clear hi); (try clear ho0); have hcz22_0 := z0 w21 BK103.out; have hcz22_1 := z1 w21 BK103.out; have hfz22_0 := blk_frozen BK103.out 0; have hfz22_1 := blk_frozen BK103.out 1; obtain ⟨Ao23, co23, eo23⟩ := Kd.R_slice HO109.out; subst eo23))
   refine bodyPost_ret (results_ct rfl _ _ gb103 46 #[.int .i64 t106, .slice Ao23 t107.length co23] (0, 0) _ rfl (by (with_reducible repeat (first | refine blk_drewN ?_ _ | refine blk_drew ?_ | refine blk_alloc ?_ _)); refine blk_put (cs := #[.int .i64 t106, .slice none 0 0]) ?_ 1 _ rfl; (with_reducible repeat (first | refine blk_drewN ?_ _ | refine blk_drew ?_ | refine blk_alloc ?_ _)); refine blk_put (cs := #[.int .i64 0, .slice none 0 0]) ?_ 0 _ rfl; (with_reducible repeat (first | refine blk_drewN ?_ _ | refine blk_drew ?_ | refine blk_alloc ?_ _)); exact BK103.out) Try.underlying46 rfl (by kernel_rfl)) rfl ?_
   exact ⟨_, by first | rfl | (simp [errW_none, errW_some] <;> rfl) | (simp [*, errW_none, errW_some] <;> rfl), by (with_reducible repeat (first | apply Kd.R_alloc | apply Kd.R_drewN | apply Kd.R_drew)); exact Kd.R_mono (Kd.R_far (p := ⟨gb103, 1, none⟩) (Kd.R_far (p := ⟨gb103, 0, none⟩) (Kd.R_types HO109.out BK103.out (by decide)) (fun _ hk => hk.2) (.int .i64 t106)) (fun _ hk => hk.2) (.slice Ao23 t107.length co23)) (fun _ hk => trivial), K3 HB GE101.out GE102.out GE103.out⟩
  ·replace c7 := Bool.eq_false_iff.mpr c7
   subst c7
   have H1 : ((some (([] : List (S108)) : List (S108))).bind fun y111 => (if y111.length + l1_1.length < 4398046511104 then (some (a1_0, (y111 ++ l1_1), (-1))) else (none))) = some (r1, r2, r3) := by rw [if_neg (show ¬ (false = true) by decide)] at H; exact H
   clear H
   have H := H1
   clear H1
   obtain ⟨y111, hy111⟩ : ∃ y_ : List (S108), y_ = (([] : List (S108))) := ⟨_, rfl⟩
   replace H : (if y111.length + l1_1.length < 4398046511104 then (some (a1_0, (y111 ++ l1_1), (-1))) else (none)) = some (r1, r2, r3) := by first | (rw [hy111]; with_reducible exact H) | (have H2_ := (Option.bind_some _ _).symm.trans H; rw [hy111]; with_reducible exact H2_) | (have H2_ := (Option.bind_some _ _).symm.trans H; with_reducible exact H2_) | with_reducible exact H | (rw [hy111]; exact H) | exact H
   have Ny111 := Aside0.mk hy111
   clear hy111
   by_cases c24 : y111.length + l1_1.length < 4398046511104
   ·rw [if_pos c24] at H
    have LMc24 := Aside0.mk c24
    clear c24
    obtain ⟨y114, hy114⟩ : ∃ y_ : List (S108), y_ = (y111 ++ l1_1) := ⟨_, rfl⟩
    replace H : (some (a1_0, y114, (-1))) = some (r1, r2, r3) := by first | (rw [hy114]; with_reducible exact H) | (have H2_ := (Option.bind_some _ _).symm.trans H; rw [hy114]; with_reducible exact H2_) | (have H2_ := (Option.bind_some _ _).symm.trans H; with_reducible exact H2_) | with_reducible exact H | (rw [hy114]; exact H) | exact H
    have Ny114 := Aside0.mk hy114
    clear hy114
    simp only [Option.some.injEq, Prod.mk.injEq] at H
    obtain ⟨rfl, rfl, rfl⟩ := H
    go_enter Try.func31, Try.ntmps31
    try go_wp2_with (first | ((with_reducible refine gate_dst (N := 4) rfl ?_); refine box_event rfl (N := 4) rfl (cs := #[.int .i64 a1_0, .slice A1_1 l1_1.length c1_1]) (t := 46) BX ?_; intro gb101 hg w25 hbox hb; have BK101 := am (hbox); have GW101 := am ((GL hg (below_size (KL HB)) : w.heap.size ≤ gb101)); have GE101 := GW101; replace HB := am (below_step (KL HB) hb); clear hb hbox hg) | ((with_reducible refine gate_dst (N := 5) rfl ?_); refine box_event rfl (N := 5) rfl (cs := #[.int .i64 a2_0, .int .i64 a2_1, .int .i64 a2_2]) (t := 25) BX ?_; intro gb102 hg w26 hbox hb; have BK102 := am (hbox); have GW102 := am ((GL hg (below_size (K1 HB GE101.out)) : w.heap.size ≤ gb102)); have GE102 := GW102; replace HB := am (below_step (K1 HB GE101.out) hb); have NB101_102 := am (NL BK101 hg); have NB102_101 := am (NG BK101 hg); replace BK101 := am (BB BK101 hb); clear hb hbox hg) | ((with_reducible refine gate_dst (N := 6) rfl ?_); refine box_event rfl (N := 6) rfl (cs := #[.int .i64 0, .slice none 0 0]) (t := 46) BX ?_; intro gb103 hg w27 hbox hb; have BK103 := am (hbox); have GW103 := am ((GL hg (below_size (K2 HB GE101.out GE102.out)) : w.heap.size ≤ gb103)); have GE103 := GW103; replace HB := am (below_step (K2 HB GE101.out GE102.out) hb); have NB101_103 := am (NL BK101 hg); have NB103_101 := am (NG BK101 hg); replace BK101 := am (BB BK101 hb); have NB102_103 := am (NL BK102 hg); have NB103_102 := am (NG BK102 hg); replace BK102 := am (BB BK102 hb); clear hb hbox hg; have hnb28 := NB101_102.out; have hnc28 := NB102_101.out; have hnb29 := NB101_103.out; have hnc29 := NB103_101.out; have hcz30_0 := z0 w27 BK101.out; have hcz30_1 := z1 w27 BK101.out; have hfz30_0 := blk_frozen BK101.out 0; have hfz30_1 := blk_frozen BK101.out 1) | ((with_reducible refine gate_callee (f := 23) rfl ?_); refine goesL_ (some 10) rfl rfl Try.func23 (by kernel_rfl) rfl #[.slice A0 l0.length c0, .agg #[.int .i64 a1_0, .slice A1_1 l1_1.length c1_1]] rfl MT ?_; (with_reducible refine (spec_CacheOk.calls k _ _ l0 a1_0 _ _ l1_1 true _ ?side1 ?side2 ?side3 ?side4 A4.out).mono ?_); (case side1 => exact KC (Kd.C_below HR0.out HB.out)); (case side2 => exact HC0.out); (case side3 => exact KC (Kd.C_below HR1_1.out HB.out)); (case side4 => exact HC1_1.out); rintro e w31 ⟨rfl, hb⟩; refine ⟨_, rfl, ?_⟩; replace BK101 := am (BB BK101 hb); replace BK102 := am (BB BK102 hb); replace BK103 := am (BB BK103 hb); replace HB := am (below_step (K3 HB GE101.out GE102.out GE103.out) hb); (try clear hb); (try clear hb2); (try clear hk); (try clear hi); have hnb32 := NB102_103.out; have hnc32 := NB103_102.out; have hcz33_0 := z0 w31 BK102.out; have hcz33_1 := z1 w31 BK102.out; have hcz33_2 := z2 w31 BK102.out; have hfz33_0 := blk_frozen BK102.out 0; have hfz33_1 := blk_frozen BK102.out 1; have hfz33_2 := blk_frozen BK102.out 2) | ((with_reducible refine gate_callee (f := 75) rfl ?_); refine goesL_ (some 14) rfl rfl Try.func75 (by kernel_rfl) rfl #[.agg #[.int .i64 a2_0, .int .i64 a2_1, .int .i64 a2_2]] rfl MT ?_; (with_reducible refine (spec_l4Call.calls a2_0 a2_1 a2_2 false _ A6.out).mono ?_); rintro e w34 ⟨rfl, hb⟩; refine ⟨_, rfl, ?_⟩; replace BK101 := am (BB BK101 hb); replace BK102 := am (BB BK102 hb); replace BK103 := am (BB BK103 hb); replace HB := am (below_step (K3 HB GE101.out GE102.out GE103.out) hb); (try clear hb); (try clear hb2); (try clear hk); (try clear hi)))
    replace BK101 := am (blk_drew BK101.out)
    replace BK102 := am (blk_drew BK102.out)
    replace BK103 := am (blk_drew BK103.out)
    replace HB := am (below_drew1 HB.out)
    refine start_ (n := 9) (S := fun w' => w'.cell? ⟨gb101, 0, none⟩ = some (.int .i64 a1_0) ∧ w'.cell? ⟨gb101, 1, none⟩ = some (.slice A1_1 l1_1.length c1_1)) (ds := []) (tf 0 9) (by kernel_rfl) rfl rfl ⟨z0 _ BK101.out, z1 _ BK101.out⟩ (fun hHeld => ?_); refine with_tabW spec_CacheFind.tab4 spec_CacheFind.bits4 (fun HT_ HW_ => ?_)
    generalize w34.drew = w35 at BK101 BK102 BK103 HB hHeld ⊢
    refine pu 0 (some 16) (tf 1 8) (any_of HT_.out (by kernel_rfl)) ?_
    refine pu 3 (some 19) #[true, false, false, true, false, false, false, false, false] (any_of HT_.out (by kernel_rfl)) ?_
    refine tk 1 (some 17) #[true, true, false, true, false, false, false, false, false] (take_ofW HT_.out HW_.out (by kernel_rfl)) hHeld ?_
    refine tk 4 (some 20) #[true, true, false, true, true, false, false, false, false] (take_ofW HT_.out HW_.out (by kernel_rfl)) hHeld ?_
    refine one_ (i := 2) (N := some 18) (tf 5 4) rfl rfl (one_of HT_.out (by kernel_rfl)) (by decide) (fun K hK => ?_)
    refine Kd.R_lit_step k108 _ 108 ?hg (N := 18) ?hd (xs := ([] : List (S108))) (inner := []) (ok := fun _ => True) (okp := fun _ => True) ?hr ?hp (fun _ hk => hk) trivial (Below.refl _ _) (Nat.le_refl _) (by simp) ?_; (case hd => rfl); (case hg => rfl); (case hr => first | (go_simp; done) | (go_simp; rfl)); (case hp => exact (Reps.none _ _))
    intro v112 w36 ho37 hb hg_ hnew_
    clear hg_ hnew_
    (first | rw [← Ny111.out] at ho37 | (simp only [Int.reduceToNat] at ho37; rw [← Ny111.out] at ho37))
    have HO113 := am (Kd.R_lower ho37 (below_size (K3 HB GE101.out GE102.out GE103.out)))
    replace BK101 := am (BB BK101 hb)
    replace BK102 := am (BB BK102 hb)
    replace BK103 := am (BB BK103 hb)
    replace HB := am (below_step (K3 HB GE101.out GE102.out GE103.out) hb)
    clear hb ho37
    refine hK.out _ _ ⟨z0 _ BK101.out, z1 _ BK101.out⟩ (fun hHeld => ?_)
    clear hK K
    refine norm_ (a' := ?_) ?_ ?_
    rotate_left
    ·show Act.put _ (some 18) _ = _
     simp only [Act.put, List.setIfInBounds_toArray, List.set_cons_zero, List.set_cons_succ, i64_w, i32_w]
     rfl
    refine one_ (i := 5) (N := some 21) (tf 6 3) rfl rfl (one_of HT_.out (by kernel_rfl)) (by decide) (fun K hK => ?_)
    refine Kd.R_append_rows_step k108 (w0 := w) w.heap.size (by rfl) (.tmp 18) (.tmp 20) 44 108 (.agg #[(.int .i64 0), (.int .i64 0), (.int .i64 0), (.int .i64 0)]) 32 rfl Try.underlying44 info108 rfl (by decide) (by omega) v112 y111 l1_1 _ _ _ (fun _ => True) (fun _ => False) rfl rfl ?aO ?aR (fun _ _ h => h) (fun _ h => h.elim) ?aF ?aB ?aS ?aL ?_
    (case aR => exact KC (Kd.C_below HR1_1.out HB.out))
    (case aB => exact (K3 HB GE101.out GE102.out GE103.out))
    (case aF => exact (fun _ _ => trivial))
    (case aO => exact (KR HO113))
    (case aS => exact (below_size (K3 HB GE101.out GE102.out GE103.out)))
    (case aL => have := LMc24.out; omega)
    intro v115 w38 ho hb hg hat
    rw [← Ny114.out] at ho
    replace BK101 := am (blk_grown (g := gb101) (o := .cells #[.int .i64 a1_0, .slice A1_1 l1_1.length c1_1] 46 (0, 0)) (KB BK101) hg (Kd.R_ne HO113.out BK101.out (by decide)))
    replace BK102 := am (blk_grown (g := gb102) (o := .cells #[.int .i64 a2_0, .int .i64 a2_1, .int .i64 a2_2] 25 (0, 0)) (KB BK102) hg (Kd.R_ne HO113.out BK102.out (by decide)))
    replace BK103 := am (blk_grown (g := gb103) (o := .cells #[.int .i64 0, .slice none 0 0] 46 (0, 0)) (KB BK103) hg (Kd.R_ne HO113.out BK103.out (by decide)))
    replace HB := am (hb)
    have HO116 := am (ho)
    clear HO113
    clear ho hb hg hat
    obtain ⟨Ao39, co39, eo39⟩ := Kd.R_slice HO116.out
    (first | subst eo39 | (injection eo39 with f1_ f2_ f3_; have f4_ := f1_.symm; have f5_ := f3_.symm; clear f1_ f2_ f3_; subst f4_; subst f5_))
    refine hK.out _ _ ⟨z0 _ BK101.out, z1 _ BK101.out⟩ (fun hHeld => ?_)
    clear hK K
    refine norm_ (a' := ?_) ?_ ?_
    rotate_left
    ·show Act.put _ (some 21) _ = _
     simp only [Act.put, List.setIfInBounds_toArray, List.set_cons_zero, List.set_cons_succ, i64_w, i32_w]
     rfl
    refine pu 6 (some 22) (tf 7 2) (any_of HT_.out (by kernel_rfl)) ?_
    refine one_ (i := 7) (N := none) (tf 8 1) rfl rfl (one_of HT_.out (by kernel_rfl)) (by decide) (fun K hK => ?_)
    have hs40 : w38.cell? ⟨gb103, 0, none⟩ = some (.int .i64 0) := z0 _ BK103.out
    have hfs40 := blk_frozen BK103.out 0
    have hns40_0 := NB101_103.out
    have hns40_1 := NB102_103.out
    have hms40_0 := NB103_101.out
    have hms40_1 := NB103_102.out
    have hs41 : w38.cell? ⟨gb103, 1, none⟩ = some (.slice none 0 0) := z1 _ BK103.out
    have hfs41 := blk_frozen BK103.out 1
    have hns41_0 := NB101_103.out
    have hns41_1 := NB102_103.out
    have hms41_0 := NB103_101.out
    have hms41_1 := NB103_102.out
    refine skip_ (w1 := ?_) (by rfl) rfl ?_ ?_
    rotate_left
    ·go_simp
     rfl
    refine hK.out _ _ ⟨((cell_far (p := ⟨gb103, _, none⟩) NB101_103.out _).trans (((cell_far (p := ⟨gb103, _, none⟩) NB101_103.out _).trans (hHeld.1)))), ((cell_far (p := ⟨gb103, _, none⟩) NB101_103.out _).trans (((cell_far (p := ⟨gb103, _, none⟩) NB101_103.out _).trans (hHeld.2))))⟩ (fun hHeld => ?_)
    clear hK K
    refine pu 8 (some 7) (tf 9 0) (any_of HT_.out (by kernel_rfl)) ?_
    refine done_ (done_of HT_.out (by kernel_rfl)) ?_
    try go_wp2
    refine bodyPost_ret (results_ct rfl _ _ gb103 46 #[.int .i64 a1_0, .slice Ao39 y114.length co39] (0, 0) _ rfl (by (with_reducible repeat (first | refine blk_drewN ?_ _ | refine blk_drew ?_ | refine blk_alloc ?_ _)); refine blk_put (cs := #[.int .i64 a1_0, .slice none 0 0]) ?_ 1 _ rfl; (with_reducible repeat (first | refine blk_drewN ?_ _ | refine blk_drew ?_ | refine blk_alloc ?_ _)); refine blk_put (cs := #[.int .i64 0, .slice none 0 0]) ?_ 0 _ rfl; (with_reducible repeat (first | refine blk_drewN ?_ _ | refine blk_drew ?_ | refine blk_alloc ?_ _)); exact BK103.out) Try.underlying46 rfl (by kernel_rfl)) rfl ?_
    exact ⟨_, by first | rfl | (simp [errW_none, errW_some] <;> rfl) | (simp [*, errW_none, errW_some] <;> rfl), by (with_reducible repeat (first | apply Kd.R_alloc | apply Kd.R_drewN | apply Kd.R_drew)); exact Kd.R_mono (Kd.R_far (p := ⟨gb103, 1, none⟩) (Kd.R_far (p := ⟨gb103, 0, none⟩) (Kd.R_types HO116.out BK103.out (by decide)) (fun _ hk => hk.2) (.int .i64 a1_0)) (fun _ hk => hk.2) (.slice Ao39 y114.length co39)) (fun _ hk => trivial), K3 HB GE101.out GE102.out GE103.out⟩
   ·rw [if_neg c24] at H
    exact absurd H (by simp)
 ·replace c5 := Bool.eq_false_iff.mpr c5
  subst c5
  have H1 : (some (0, ([] : List (S108)), (-1))) = some (r1, r2, r3) := by rw [if_neg (show ¬ (false = true) by decide)] at H; exact H
  clear H
  have H := H1
  clear H1
  simp only [Option.some.injEq, Prod.mk.injEq] at H
  obtain ⟨rfl, rfl, rfl⟩ := H
  go_enter Try.func31, Try.ntmps31
  go_wp2_with (first | ((with_reducible refine gate_dst (N := 4) rfl ?_); refine box_event rfl (N := 4) rfl (cs := #[.int .i64 a1_0, .slice A1_1 l1_1.length c1_1]) (t := 46) BX ?_; intro gb101 hg w42 hbox hb; have BK101 := am (hbox); have GW101 := am ((GL hg (below_size (KL HB)) : w.heap.size ≤ gb101)); have GE101 := GW101; replace HB := am (below_step (KL HB) hb); clear hb hbox hg) | ((with_reducible refine gate_dst (N := 5) rfl ?_); refine box_event rfl (N := 5) rfl (cs := #[.int .i64 a2_0, .int .i64 a2_1, .int .i64 a2_2]) (t := 25) BX ?_; intro gb102 hg w43 hbox hb; have BK102 := am (hbox); have GW102 := am ((GL hg (below_size (K1 HB GE101.out)) : w.heap.size ≤ gb102)); have GE102 := GW102; replace HB := am (below_step (K1 HB GE101.out) hb); have NB101_102 := am (NL BK101 hg); have NB102_101 := am (NG BK101 hg); replace BK101 := am (BB BK101 hb); clear hb hbox hg) | ((with_reducible refine gate_dst (N := 6) rfl ?_); refine box_event rfl (N := 6) rfl (cs := #[.int .i64 0, .slice none 0 0]) (t := 46) BX ?_; intro gb103 hg w44 hbox hb; have BK103 := am (hbox); have GW103 := am ((GL hg (below_size (K2 HB GE101.out GE102.out)) : w.heap.size ≤ gb103)); have GE103 := GW103; replace HB := am (below_step (K2 HB GE101.out GE102.out) hb); have NB101_103 := am (NL BK101 hg); have NB103_101 := am (NG BK101 hg); replace BK101 := am (BB BK101 hb); have NB102_103 := am (NL BK102 hg); have NB103_102 := am (NG BK102 hg); replace BK102 := am (BB BK102 hb); clear hb hbox hg; have hnb45 := NB101_102.out; have hnc45 := NB102_101.out; have hnb46 := NB101_103.out; have hnc46 := NB103_101.out; have hcz47_0 := z0 w44 BK101.out; have hcz47_1 := z1 w44 BK101.out; have hfz47_0 := blk_frozen BK101.out 0; have hfz47_1 := blk_frozen BK101.out 1) | ((with_reducible refine gate_callee (f := 23) rfl ?_); refine goesL_ (some 10) rfl rfl Try.func23 (by kernel_rfl) rfl #[.slice A0 l0.length c0, .agg #[.int .i64 a1_0, .slice A1_1 l1_1.length c1_1]] rfl MT ?_; (with_reducible refine (spec_CacheOk.calls k _ _ l0 a1_0 _ _ l1_1 false _ ?side1 ?side2 ?side3 ?side4 A4.out).mono ?_); (case side1 => exact KC (Kd.C_below HR0.out HB.out)); (case side2 => exact HC0.out); (case side3 => exact KC (Kd.C_below HR1_1.out HB.out)); (case side4 => exact HC1_1.out); rintro e w48 ⟨rfl, hb⟩; refine ⟨_, rfl, ?_⟩; replace BK101 := am (BB BK101 hb); replace BK102 := am (BB BK102 hb); replace BK103 := am (BB BK103 hb); replace HB := am (below_step (K3 HB GE101.out GE102.out GE103.out) hb); (try clear hb); (try clear hb2); (try clear hk); (try clear hi); have hnb49 := NB103_102.out; have hnc49 := NB102_103.out; have hcz50_0 := z0 w48 BK103.out; have hcz50_1 := z1 w48 BK103.out; have hfz50_0 := blk_frozen BK103.out 0; have hfz50_1 := blk_frozen BK103.out 1))
  refine bodyPost_ret (results_ct rfl _ _ gb103 46 #[.int .i64 0, .slice none 0 0] (0, 0) _ rfl (by (with_reducible repeat (first | refine blk_drewN ?_ _ | refine blk_drew ?_ | refine blk_alloc ?_ _)); refine blk_put (cs := #[.int .i64 0, .slice none 0 0]) ?_ 1 _ rfl; (with_reducible repeat (first | refine blk_drewN ?_ _ | refine blk_drew ?_ | refine blk_alloc ?_ _)); refine blk_put (cs := #[.int .i64 0, .slice none 0 0]) ?_ 0 _ rfl; (with_reducible repeat (first | refine blk_drewN ?_ _ | refine blk_drew ?_ | refine blk_alloc ?_ _)); exact BK103.out) Try.underlying46 rfl (by kernel_rfl)) rfl ?_
  exact ⟨_, by first | rfl | (simp [errW_none, errW_some] <;> rfl) | (simp [*, errW_none, errW_some] <;> rfl), by first | exact Kd.R_nil _ _ _ _ _ | exact Kd.N_nil _ _ _ _ _ | exact Kd.V_nil _ _ _ _ _ | exact Kd.Q_nil _ _ _ _ _ | exact Kd.S_nil _ _ _ _ _, K3 HB GE101.out GE102.out GE103.out⟩
end Go.Proofs.Ytioghacieopbdaa.PAll
end
