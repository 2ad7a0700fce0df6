/- Contracts of the functions that the statement reaches, printed by a program out of the translation and joined with the plain laws. -/
import Derived.Test.YtioghacieopbdaaCFnCacheFind3
import Derived.Test.YtioghacieopbdaaCFnCacheFind4
import Derived.Test.YtioghacieopbdaaCFnCacheFind6
import Derived.Test.YtioghacieopbdaaCFnCacheFind7
import Derived.Test.YtioghacieopbdaaCFnCacheFind8
import Derived.Test.YtioghacieopbdaaCFnCacheFind9
section
namespace Go.Proofs.Ytioghacieopbdaa.PAll
open Go.RowKit Go.Proofs.YtioghacieopbdaaW.PrintWords Go.Proofs.YtioghacieopbdaaW.PrintLast Go.Proofs.YtioghacieopbdaaW.PrintMore
attribute [local go_sem] max2_int min2_int max_two min_two max_three min_three max_four min_four   -- for this text's walks alone
set_option linter.unusedVariables false
set_option linter.unusedSimpArgs false
attribute [local go_sem high] eqA25
def impl_Cache_look.l0 : Nat → Int → List (S108) → List (S108) → Int → Int → Int → List (S108) → Int → Int → Int → Option (Int × (List (S108)) × Int)
 | 0, _, _, _, _, _, _, _, _, _, _ => none
 | k + 1, x8, x9, x20, x21, x22, x102000, x102001, x103000, x103001, x103002 => if x22 < x21 then (if 0 ≤ x22 then (if x22 < (x20.length : Int) then (if (!(((rd_T108 x20 x22).f0.f0) == x103000) || (!(((rd_T108 x20 x22).f0.f1) == x103001) || (!(((rd_T108 x20 x22).f0.f2) == x103002)))) = true then (if x9.length < 4398046511104 then (impl_Cache_look.l0 k x8 (x9 ++ [(⟨(⟨(rd_T108 x20 x22).f0.f0, (rd_T108 x20 x22).f0.f1, (rd_T108 x20 x22).f0.f2⟩ : S25), (rd_T108 x20 x22).f1⟩ : S108)]) x20 x21 (wrap64 (x22 + 1)) x102000 x102001 x103000 x103001 x103002) else (none)) else (impl_Cache_look.l0 k x8 x9 x20 x21 (wrap64 (x22 + 1)) x102000 x102001 x103000 x103001 x103002)) else (none)) else (none)) else (if 0 ≤ (mn (x9.length : Int) x102000) then (if (mn (x9.length : Int) x102000) ≤ (x9.length : Int) then ((slices_Clone_Seen.f (x9.take ((mn (x9.length : Int) x102000) : Int).toNat)).bind fun t117 => (some (x102000, t117, x8))) else (none)) else (none))
def impl_Cache_look.f (k : Nat) (a0_0 : Int) (l0_1 : List (S108)) (l1 : List (S34)) (a2_0 : Int) (a2_1 : Int) (a2_2 : Int) : Option (Int × (List (S108)) × Int) := (impl_first.f l1 a2_0 a2_1 a2_2).bind fun t104 => (impl_Cache_look.l0 k t104 (([(⟨(⟨a2_0, a2_1, a2_2⟩ : S25), t104⟩ : S108)] : List (S108))) l0_1 (l0_1.length : Int) 0 a0_0 l0_1 a2_0 a2_1 a2_2)
def impl_Cache_look.T9 : Bool × List (List Nat × List Nat) := (true, [([], []), ([0], [0]), ([], []), ([], []), ([3], [3]), ([], []), ([5], [5]), ([4, 6], [4, 6]), ([2, 7], [2, 7]), ([8], [8]), ([1, 9], [1, 9]), ([], []), ([10, 9, 0, 1, 2, 3, 4, 5, 6, 7, 8, 9, 10], [10]), ([11, 12, 0, 1, 2, 3, 4, 5, 6, 7, 8, 9, 10, 11, 12], [11])])
def impl_Cache_look.B9 : List Nat := [0, 1, 0, 0, 8, 0, 32, 120, 252, 508, 1023, 0, 2047, 8191]
theorem impl_Cache_look.tab9 : rtab .any (opsOf Try.f93 9) = impl_Cache_look.T9 := by kernel_rfl
theorem impl_Cache_look.bits9 : waitsOk impl_Cache_look.T9.2 impl_Cache_look.B9 = true := by kernel_rfl
set_option maxHeartbeats 8000000 in
set_option maxRecDepth 100000 in
theorem impl_Cache_look.calls (k : Nat) (a0_0 : Int) (A0_1 : Option Addr) (c0_1 : Nat) (l0_1 : List (S108)) (A1 : Option Addr) (c1 : Nat) (l1 : List (S34)) (a2_0 : Int) (a2_1 : Int) (a2_2 : Int) (r1 : Int) (r2 : List (S108)) (r3 : Int) (w : World) (hr0_1 : Kd.C k108 w A0_1 l0_1.length l0_1) (hc0_1 : l0_1.length ≤ c0_1) (hr1 : Kd.C k34 w A1 l1.length l1) (hc1 : l1.length ≤ c1) (h : impl_Cache_look.f k a0_0 l0_1 l1 a2_0 a2_1 a2_2 = some (r1, r2, r3)) :
  Calls Try.prog 93 #[.agg #[.int .i64 a0_0, .slice A0_1 l0_1.length c0_1], .slice A1 l1.length c1, .agg #[.int .i64 a2_0, .int .i64 a2_1, .int .i64 a2_2]] w fun e w' => ∃ v1_ : Value, e = .returned (.tuple #[.agg #[.int .i64 r1, v1_], .int .i64 r3]) ∧ Kd.R k108 108 w' w.heap.size (fun _ => True) v1_ r2 ∧ Below w.heap.size w w' := by
 have hu46 := Try.underlying46
 have hu25 := Try.underlying25
 have hu108 := Try.underlying108
 have HR0_1 := Aside0.mk hr0_1
 have HC0_1 := Aside0.mk hc0_1
 clear hr0_1 hc0_1
 have HR1 := Aside0.mk hr1
 have HC1 := Aside0.mk hc1
 clear hr1 hc1
 have HB := am (Below.refl w.heap.size w)
 have H : ((impl_first.f l1 a2_0 a2_1 a2_2).bind fun t104 => (impl_Cache_look.l0 k t104 (([(⟨(⟨a2_0, a2_1, a2_2⟩ : S25), t104⟩ : S108)] : List (S108))) l0_1 (l0_1.length : Int) 0 a0_0 l0_1 a2_0 a2_1 a2_2)) = some (r1, r2, r3) := h
 clear h
 replace H := Option.bind_eq_some_iff.mp H
 obtain ⟨t104, A40, H⟩ := H
 replace H : (impl_Cache_look.l0 k t104 (([(⟨(⟨a2_0, a2_1, a2_2⟩ : S25), t104⟩ : S108)] : List (S108))) l0_1 (l0_1.length : Int) 0 a0_0 l0_1 a2_0 a2_1 a2_2) = some (r1, r2, r3) := H
 have A4 := Aside0.mk A40
 clear A40
 obtain ⟨y105, hy105⟩ : ∃ y_ : List (S108), y_ = (([(⟨(⟨a2_0, a2_1, a2_2⟩ : S25), t104⟩ : S108)] : List (S108))) := ⟨_, rfl⟩
 replace H : (impl_Cache_look.l0 k t104 y105 l0_1 (l0_1.length : Int) 0 a0_0 l0_1 a2_0 a2_1 a2_2) = some (r1, r2, r3) := by first | (rw [hy105]; with_reducible exact H) | (have H2_ := (Option.bind_some _ _).symm.trans H; rw [hy105]; with_reducible exact H2_) | (have H2_ := (Option.bind_some _ _).symm.trans H; with_reducible exact H2_) | with_reducible exact H | (rw [hy105]; exact H) | exact H
 have Ny105 := Aside0.mk hy105
 clear hy105
 have H' := Aside0.mk H
 clear H
 go_enter Try.func93, Try.ntmps93
 go_wp2_with (first | ((with_reducible refine gate_dst (N := 3) rfl ?_); refine box_event rfl (N := 3) rfl (cs := #[.int .i64 a0_0, .slice A0_1 l0_1.length c0_1]) (t := 46) BX ?_; intro gb101 hg w5 hbox hb; have BK101 := am (hbox); have GW101 := am ((GL hg (below_size (KL HB)) : w.heap.size ≤ gb101)); have GE101 := GW101; replace HB := am (below_step (KL HB) hb); clear hb hbox hg) | ((with_reducible refine gate_dst (N := 5) rfl ?_); refine box_event rfl (N := 5) rfl (cs := #[.int .i64 a2_0, .int .i64 a2_1, .int .i64 a2_2]) (t := 25) BX ?_; intro gb102 hg w6 hbox hb; have BK102 := am (hbox); have GW102 := am ((GL hg (below_size (K1 HB GE101.out)) : w.heap.size ≤ gb102)); have GE102 := GW102; replace HB := am (below_step (K1 HB GE101.out) hb); have NB101_102 := am (NL BK101 hg); have NB102_101 := am (NG BK101 hg); replace BK101 := am (BB BK101 hb); clear hb hbox hg) | ((with_reducible refine gate_dst (N := 6) rfl ?_); refine box_event rfl (N := 6) rfl (cs := #[.int .i64 0, .slice none 0 0]) (t := 46) BX ?_; intro gb103 hg w7 hbox hb; have BK103 := am (hbox); have GW103 := am ((GL hg (below_size (K2 HB GE101.out GE102.out)) : w.heap.size ≤ gb103)); have GE103 := GW103; replace HB := am (below_step (K2 HB GE101.out GE102.out) hb); have NB101_103 := am (NL BK101 hg); have NB103_101 := am (NG BK101 hg); replace BK101 := am (BB BK101 hb); have NB102_103 := am (NL BK102 hg); have NB103_102 := am (NG BK102 hg); replace BK102 := am (BB BK102 hb); clear hb hbox hg; have hnb8 := NB102_101.out; have hnc8 := NB101_102.out; have hnb9 := NB102_103.out; have hnc9 := NB103_102.out; have hcz10_0 := z0 w7 BK102.out; have hcz10_1 := z1 w7 BK102.out; have hcz10_2 := z2 w7 BK102.out; have hfz10_0 := blk_frozen BK102.out 0; have hfz10_1 := blk_frozen BK102.out 1; have hfz10_2 := blk_frozen BK102.out 2) | ((with_reducible refine gate_callee (f := 74) rfl ?_); refine goesL_ (some 14) rfl rfl Try.func74 (by kernel_rfl) rfl #[.slice A1 l1.length c1, .agg #[.int .i64 a2_0, .int .i64 a2_1, .int .i64 a2_2]] rfl MT ?_; (with_reducible refine (impl_first.calls _ _ l1 a2_0 a2_1 a2_2 t104 _ ?side1 ?side2 A4.out).mono ?_); (case side1 => exact KC (Kd.C_below HR1.out HB.out)); (case side2 => exact HC1.out); rintro e w11 ⟨rfl, hb⟩; refine ⟨_, rfl, ?_⟩; replace BK101 := am (BB BK101 hb); replace BK102 := am (BB BK102 hb); replace BK103 := am (BB BK103 hb); replace HB := am (below_step (K3 HB GE101.out GE102.out GE103.out) hb); (try clear hb); (try clear hb2); (try clear hk); (try clear hi); have hcz12_0 := z0 w11 BK102.out; have hcz12_1 := z1 w11 BK102.out; have hcz12_2 := z2 w11 BK102.out; have hfz12_0 := blk_frozen BK102.out 0; have hfz12_1 := blk_frozen BK102.out 1; have hfz12_2 := blk_frozen BK102.out 2) | ((with_reducible refine gate_dst (N := 18) rfl ?_); refine Kd.R_lit k108 _ 108 ?hg (N := 18) ?hd (xs := ([(⟨(⟨a2_0, a2_1, a2_2⟩ : S25), t104⟩ : S108)] : List (S108))) (inner := [.int .i64 a2_0, .int .i64 a2_1, .int .i64 a2_2, .int .i64 t104]) (ok := fun _ => True) (okp := fun _ => True) ?hr ?hp (fun _ hk => hk) trivial (Below.refl _ _) (Nat.le_refl _) (by simp) ?_; (case hd => rfl); (case hg => rfl); (case hr => first | (go_simp; done) | (go_simp; rfl)); (case hp => exact (Reps.c4 (show Kd.M k108 _ _ _ (⟨(⟨a2_0, a2_1, a2_2⟩ : S25), t104⟩ : S108) [.int .i64 a2_0, .int .i64 a2_1, .int .i64 a2_2, .int .i64 t104] from (k108_mkM _ _ _ (⟨(⟨a2_0, a2_1, a2_2⟩ : S25), t104⟩ : S108) )) (Reps.none _ _))); intro v106 w13 ho14 hb hg_ hnew_; clear hg_ hnew_; (first | rw [← Ny105.out] at ho14 | (simp only [Int.reduceToNat] at ho14; rw [← Ny105.out] at ho14)); have HO107 := am (Kd.R_lower ho14 (below_size (K3 HB GE101.out GE102.out GE103.out))); replace BK101 := am (BB BK101 hb); replace BK102 := am (BB BK102 hb); replace BK103 := am (BB BK103 hb); replace HB := am (below_step (K3 HB GE101.out GE102.out GE103.out) hb); clear hb ho14; have hnb15 := NB101_103.out; have hnc15 := NB103_101.out; have hcz16_0 := z0 w13 BK101.out; have hcz16_1 := z1 w13 BK101.out; have hfz16_0 := blk_frozen BK101.out 0; have hfz16_1 := blk_frozen BK101.out 1))
 go_loopg [9, 22] k (fun kq v9 v22 w' => ∃ (x9_1 : List (S108)) (x22_1 : Int), v22 = .int .i64 x22_1 ∧ Aside0 (impl_Cache_look.l0 kq t104 x9_1 l0_1 (l0_1.length : Int) x22_1 a0_0 l0_1 a2_0 a2_1 a2_2 = some (r1, r2, r3)) ∧ Aside0 (kq ≤ k) ∧ Aside0 (Kd.R k108 108 w' w.heap.size (fun _ => True) v9 x9_1) ∧ Aside0 (w'.heap[gb101]? = some (.cells #[.int .i64 a0_0, (.slice A0_1 l0_1.length c0_1)] 46 (0, 0))) ∧ Aside0 (w'.heap[gb102]? = some (.cells #[.int .i64 a2_0, .int .i64 a2_1, .int .i64 a2_2] 25 (0, 0))) ∧ Aside0 (w'.heap[gb103]? = some (.cells #[.int .i64 0, (.slice none 0 0)] 46 (0, 0))) ∧ Aside0 (Below w.heap.size w w'))
 case atStart => exact ⟨(y105), (0), (by first | rfl | (simp; done) | (simp [*]; done)), H', ⟨Nat.le_refl _⟩, ⟨KR HO107⟩, ⟨KB BK101⟩, ⟨KB BK102⟩, ⟨KB BK103⟩, ⟨K3 HB GE101.out GE102.out GE103.out⟩⟩
 case round =>
  clear H'
  try clear c1
  try clear p2
  try clear c4
  try clear c7
  try clear c8
  try clear c9
  try clear c15
  try clear hcz10_0
  try clear hcz10_1
  try clear hcz10_2
  try clear hcz12_0
  try clear hcz12_1
  try clear hcz12_2
  try clear hcz16_0
  try clear hcz16_1
  try clear hfz10_0
  try clear hfz10_1
  try clear hfz10_2
  try clear hfz12_0
  try clear hfz12_1
  try clear hfz12_2
  try clear hfz16_0
  try clear hfz16_1
  obtain ⟨x9_1, x22_1, rfl, HA, HK1, HO_9, BK101, BK102, BK103, HB⟩ := hrel
  cases gk with
  | zero => exact absurd HA.out (by simp [impl_Cache_look.l0])
  | succ k1 =>
   have H := HA.out
   clear HA
   simp only [impl_Cache_look.l0] at H
   by_cases c17 : x22_1 < (l0_1.length : Int)
   ·rw [if_pos c17] at H
    have c17b0 : decide (x22_1 < (l0_1.length : Int)) = true := decide_eq_true c17
    clear c17
    by_cases c18 : 0 ≤ x22_1
    ·rw [if_pos c18] at H
     have c18b0 : decide (0 ≤ x22_1) = true := decide_eq_true c18
     clear c18
     by_cases c19 : x22_1 < (l0_1.length : Int)
     ·rw [if_pos c19] at H
      have c19b0 : decide (x22_1 < (l0_1.length : Int)) = true := decide_eq_true c19
      clear c19
      by_cases c20 : (!(((rd_T108 l0_1 x22_1).f0.f0) == a2_0) || (!(((rd_T108 l0_1 x22_1).f0.f1) == a2_1) || (!(((rd_T108 l0_1 x22_1).f0.f2) == a2_2)))) = true
      ·rw [if_pos c20] at H
       have c20b0 : (!(((rd_T108 l0_1 x22_1).f0.f0) == a2_0) || (!(((rd_T108 l0_1 x22_1).f0.f1) == a2_1) || (!(((rd_T108 l0_1 x22_1).f0.f2) == a2_2)))) = true := c20
       clear c20
       by_cases c21 : x9_1.length < 4398046511104
       ·rw [if_pos c21] at H
        have LMc21 := Aside0.mk c21
        clear c21
        obtain ⟨y110, hy110⟩ : ∃ y_ : List (S108), y_ = (x9_1 ++ [(⟨(⟨(rd_T108 l0_1 x22_1).f0.f0, (rd_T108 l0_1 x22_1).f0.f1, (rd_T108 l0_1 x22_1).f0.f2⟩ : S25), (rd_T108 l0_1 x22_1).f1⟩ : S108)]) := ⟨_, rfl⟩
        replace H : (impl_Cache_look.l0 k1 t104 y110 l0_1 (l0_1.length : Int) (wrap64 (x22_1 + 1)) a0_0 l0_1 a2_0 a2_1 a2_2) = some (r1, r2, r3) := by first | (rw [hy110]; with_reducible exact H) | (have H2_ := (Option.bind_some _ _).symm.trans H; rw [hy110]; with_reducible exact H2_) | (have H2_ := (Option.bind_some _ _).symm.trans H; with_reducible exact H2_) | with_reducible exact H | (rw [hy110]; exact H) | exact H
        have Ny110 := Aside0.mk hy110
        clear hy110
        have H' := Aside0.mk H
        clear H
        have p108 : 0 ≤ (x22_1 : Int) := of_decide_eq_true (by first | (with_reducible assumption) | assumption)
        have q108 : x22_1 < (l0_1.length : Int) := of_decide_eq_true (by first | (with_reducible assumption) | assumption)
        obtain ⟨ad108, e108, hx108_0, hx108_1, hx108_2, hx108_3⟩ := at_T108 HR0_1.out x22_1 p108 q108
        cases e108
        replace hx108_0 := (HB.out.cell (World.block_lt_of_cell? w _ hx108_0)).trans hx108_0
        replace hx108_1 := (HB.out.cell (World.block_lt_of_cell? w _ hx108_1)).trans hx108_1
        replace hx108_2 := (HB.out.cell (World.block_lt_of_cell? w _ hx108_2)).trans hx108_2
        replace hx108_3 := (HB.out.cell (World.block_lt_of_cell? w _ hx108_3)).trans hx108_3
        replace p108 := eq_true p108
        replace q108 := eq_true q108
        go_wp2_with (first | ((with_reducible refine gate_dst (N := 11) rfl ?_); refine box_event rfl (N := 11) rfl (cs := #[.int .i64 0, .int .i64 0, .int .i64 0, .int .i64 0]) (t := 108) BX ?_; intro gb109 hg w22 hbox hb; replace HO_9 := am (Kd.R_below (Kd.R_elderB (KR HO_9) gb109 (Nat.le_of_eq hg.symm)) hb); have BK109 := am (hbox); have GW109 := am ((GL hg (below_size (K3 HB GE101.out GE102.out GE103.out)) : w.heap.size ≤ gb109)); have GE109 := GW109; replace HB := am (below_step (K3 HB GE101.out GE102.out GE103.out) hb); have NB101_109 := am (NL BK101 hg); have NB109_101 := am (NG BK101 hg); replace BK101 := am (BB BK101 hb); have NB102_109 := am (NL BK102 hg); have NB109_102 := am (NG BK102 hg); replace BK102 := am (BB BK102 hb); have NB103_109 := am (NL BK103 hg); have NB109_103 := am (NG BK103 hg); replace BK103 := am (BB BK103 hb); clear hb hbox hg; have hnb23 := NB109_101.out; have hnc23 := NB101_109.out; have hnb24 := NB109_102.out; have hnc24 := NB102_109.out; have hnb25 := NB109_103.out; have hnc25 := NB103_109.out; have hcz26_0 := z0 w22 BK109.out; have hcz26_1 := z1 w22 BK109.out; have hcz26_2 := z2 w22 BK109.out; have hcz26_3 := z3 w22 BK109.out; have hfz26_0 := blk_frozen BK109.out 0; have hfz26_1 := blk_frozen BK109.out 1; have hfz26_2 := blk_frozen BK109.out 2; have hfz26_3 := blk_frozen BK109.out 3; have hnb27 := NB102_101.out; have hnc27 := NB101_102.out; have hnb28 := NB102_103.out; have hnc28 := NB103_102.out; have hcz29_0 := z0 w22 BK102.out; have hcz29_1 := z1 w22 BK102.out; have hcz29_2 := z2 w22 BK102.out; have hfz29_0 := blk_frozen BK102.out 0; have hfz29_1 := blk_frozen BK102.out 1; have hfz29_2 := blk_frozen BK102.out 2) | ((with_reducible refine gate_builtin (b := .append) (xs := #[.tmp 30, .tmp 32]) rfl ?_); at_builtin; refine Kd.R_append k108 (w0 := w) w.heap.size rfl (.tmp 30) (.tmp 32) 44 108 (.agg #[(.int .i64 0), (.int .i64 0), (.int .i64 0), (.int .i64 0)]) 32 rfl Try.underlying44 info108 rfl (by decide) (by omega) u9 x9_1 (⟨(⟨(rd_T108 l0_1 x22_1).f0.f0, (rd_T108 l0_1 x22_1).f0.f1, (rd_T108 l0_1 x22_1).f0.f2⟩ : S25), (rd_T108 l0_1 x22_1).f1⟩ : S108) [.int .i64 ((rd_T108 l0_1 x22_1).f0.f0), .int .i64 ((rd_T108 l0_1 x22_1).f0.f1), .int .i64 ((rd_T108 l0_1 x22_1).f0.f2), .int .i64 ((rd_T108 l0_1 x22_1).f1)] (fun k_ => k_ ≠ gb109) (fun _ => False) rfl (by first | (go_simp; done) | (go_simp; rfl)) ?aP (fun _ hk => hk.elim) ?aF ?aO ?aB ?aS ?aL ?_; (case aP => exact k108_mkM _ _ _ (⟨(⟨(rd_T108 l0_1 x22_1).f0.f0, (rd_T108 l0_1 x22_1).f0.f1, (rd_T108 l0_1 x22_1).f0.f2⟩ : S25), (rd_T108 l0_1 x22_1).f1⟩ : S108)); (case aB => exact (K4 HB GE101.out GE102.out GE103.out GE109.out)); (case aF => exact (fun k_ hk => Kd.freshB (g := gb109) (o := .cells #[.int .i64 ((rd_T108 l0_1 x22_1).f0.f0), .int .i64 ((rd_T108 l0_1 x22_1).f0.f1), .int .i64 ((rd_T108 l0_1 x22_1).f0.f2), .int .i64 ((rd_T108 l0_1 x22_1).f1)] 108 (0, 0)) (by (with_reducible repeat (first | refine blk_drewN ?_ _ | refine blk_drew ?_ | refine blk_alloc ?_ _)); refine blk_put (cs := #[.int .i64 ((rd_T108 l0_1 x22_1).f0.f0), .int .i64 ((rd_T108 l0_1 x22_1).f0.f1), .int .i64 ((rd_T108 l0_1 x22_1).f0.f2), .int .i64 0]) ?_ 3 _ rfl; (with_reducible repeat (first | refine blk_drewN ?_ _ | refine blk_drew ?_ | refine blk_alloc ?_ _)); refine blk_put (cs := #[.int .i64 ((rd_T108 l0_1 x22_1).f0.f0), .int .i64 ((rd_T108 l0_1 x22_1).f0.f1), .int .i64 0, .int .i64 0]) ?_ 2 _ rfl; (with_reducible repeat (first | refine blk_drewN ?_ _ | refine blk_drew ?_ | refine blk_alloc ?_ _)); refine blk_put (cs := #[.int .i64 ((rd_T108 l0_1 x22_1).f0.f0), .int .i64 0, .int .i64 0, .int .i64 0]) ?_ 1 _ rfl; (with_reducible repeat (first | refine blk_drewN ?_ _ | refine blk_drew ?_ | refine blk_alloc ?_ _)); refine blk_put (cs := #[.int .i64 0, .int .i64 0, .int .i64 0, .int .i64 0]) ?_ 0 _ rfl; (with_reducible repeat (first | refine blk_drewN ?_ _ | refine blk_drew ?_ | refine blk_alloc ?_ _)); exact BK109.out) k_ hk)); (case aO => exact (by (with_reducible repeat (first | apply Kd.R_alloc | apply Kd.R_drewN | apply Kd.R_drew)); exact Kd.R_mono (Kd.R_far (p := ⟨gb109, 3, none⟩) (Kd.R_far (p := ⟨gb109, 2, none⟩) (Kd.R_far (p := ⟨gb109, 1, none⟩) (Kd.R_far (p := ⟨gb109, 0, none⟩) (Kd.R_mono HO_9.out (fun k_ hk => (⟨hk, hk.2⟩ : _ ∧ k_ ≠ gb109))) (fun _ hk => hk.2) (.int .i64 ((rd_T108 l0_1 x22_1).f0.f0))) (fun _ hk => hk.2) (.int .i64 ((rd_T108 l0_1 x22_1).f0.f1))) (fun _ hk => hk.2) (.int .i64 ((rd_T108 l0_1 x22_1).f0.f2))) (fun _ hk => hk.2) (.int .i64 ((rd_T108 l0_1 x22_1).f1))) (fun _ hk => hk.1.2))); (case aS => exact (below_size (K4 HB GE101.out GE102.out GE103.out GE109.out))); (case aL => have := LMc21.out; omega); intro v111 w30 ho hb hg hat; rw [← Ny110.out] at ho; replace BK101 := am (blk_grown (g := gb101) (o := .cells #[.int .i64 a0_0, .slice (some ad108) l0_1.length c0_1] 46 (0, 0)) (by (with_reducible repeat (first | refine blk_drewN ?_ _ | refine blk_drew ?_ | refine blk_alloc ?_ _)); refine blk_far ?_ NB101_109.out _; (with_reducible repeat (first | refine blk_drewN ?_ _ | refine blk_drew ?_ | refine blk_alloc ?_ _)); refine blk_far ?_ NB101_109.out _; (with_reducible repeat (first | refine blk_drewN ?_ _ | refine blk_drew ?_ | refine blk_alloc ?_ _)); refine blk_far ?_ NB101_109.out _; (with_reducible repeat (first | refine blk_drewN ?_ _ | refine blk_drew ?_ | refine blk_alloc ?_ _)); refine blk_far ?_ NB101_109.out _; (with_reducible repeat (first | refine blk_drewN ?_ _ | refine blk_drew ?_ | refine blk_alloc ?_ _)); exact BK101.out) hg (Kd.R_ne HO_9.out BK101.out (by decide))); replace BK102 := am (blk_grown (g := gb102) (o := .cells #[.int .i64 a2_0, .int .i64 a2_1, .int .i64 a2_2] 25 (0, 0)) (by (with_reducible repeat (first | refine blk_drewN ?_ _ | refine blk_drew ?_ | refine blk_alloc ?_ _)); refine blk_far ?_ NB102_109.out _; (with_reducible repeat (first | refine blk_drewN ?_ _ | refine blk_drew ?_ | refine blk_alloc ?_ _)); refine blk_far ?_ NB102_109.out _; (with_reducible repeat (first | refine blk_drewN ?_ _ | refine blk_drew ?_ | refine blk_alloc ?_ _)); refine blk_far ?_ NB102_109.out _; (with_reducible repeat (first | refine blk_drewN ?_ _ | refine blk_drew ?_ | refine blk_alloc ?_ _)); refine blk_far ?_ NB102_109.out _; (with_reducible repeat (first | refine blk_drewN ?_ _ | refine blk_drew ?_ | refine blk_alloc ?_ _)); exact BK102.out) hg (Kd.R_ne HO_9.out BK102.out (by decide))); replace BK103 := am (blk_grown (g := gb103) (o := .cells #[.int .i64 0, .slice none 0 0] 46 (0, 0)) (by (with_reducible repeat (first | refine blk_drewN ?_ _ | refine blk_drew ?_ | refine blk_alloc ?_ _)); refine blk_far ?_ NB103_109.out _; (with_reducible repeat (first | refine blk_drewN ?_ _ | refine blk_drew ?_ | refine blk_alloc ?_ _)); refine blk_far ?_ NB103_109.out _; (with_reducible repeat (first | refine blk_drewN ?_ _ | refine blk_drew ?_ | refine blk_alloc ?_ _)); refine blk_far ?_ NB103_109.out _; (with_reducible repeat (first | refine blk_drewN ?_ _ | refine blk_drew ?_ | refine blk_alloc ?_ _)); refine blk_far ?_ NB103_109.out _; (with_reducible repeat (first | refine blk_drewN ?_ _ | refine blk_drew ?_ | refine blk_alloc ?_ _)); exact BK103.out) hg (Kd.R_ne HO_9.out BK103.out (by decide))); replace BK109 := am (blk_grown (g := gb109) (o := .cells #[.int .i64 ((rd_T108 l0_1 x22_1).f0.f0), .int .i64 ((rd_T108 l0_1 x22_1).f0.f1), .int .i64 ((rd_T108 l0_1 x22_1).f0.f2), .int .i64 ((rd_T108 l0_1 x22_1).f1)] 108 (0, 0)) (by (with_reducible repeat (first | refine blk_drewN ?_ _ | refine blk_drew ?_ | refine blk_alloc ?_ _)); refine blk_put (cs := #[.int .i64 ((rd_T108 l0_1 x22_1).f0.f0), .int .i64 ((rd_T108 l0_1 x22_1).f0.f1), .int .i64 ((rd_T108 l0_1 x22_1).f0.f2), .int .i64 0]) ?_ 3 _ rfl; (with_reducible repeat (first | refine blk_drewN ?_ _ | refine blk_drew ?_ | refine blk_alloc ?_ _)); refine blk_put (cs := #[.int .i64 ((rd_T108 l0_1 x22_1).f0.f0), .int .i64 ((rd_T108 l0_1 x22_1).f0.f1), .int .i64 0, .int .i64 0]) ?_ 2 _ rfl; (with_reducible repeat (first | refine blk_drewN ?_ _ | refine blk_drew ?_ | refine blk_alloc ?_ _)); refine blk_put (cs := #[.int .i64 ((rd_T108 l0_1 x22_1).f0.f0), .int .i64 0, .int .i64 0, .int .i64 0]) ?_ 1 _ rfl; (with_reducible repeat (first | refine blk_drewN ?_ _ | refine blk_drew ?_ | refine blk_alloc ?_ _)); refine blk_put (cs := #[.int .i64 0, .int .i64 0, .int .i64 0, .int .i64 0]) ?_ 0 _ rfl; (with_reducible repeat (first | refine blk_drewN ?_ _ | refine blk_drew ?_ | refine blk_alloc ?_ _)); exact BK109.out) hg (Kd.R_away HO_9.out (fun _ hk => hk.2))); replace HB := am (hb); have HO112 := am (ho); clear HO_9; clear ho hb hg hat))
        go_roundg k1
        case measure => have := HK1.out; omega
        case rel => exact ⟨(y110), (wrap64 (x22_1 + 1)), (by first | rfl | (simp; done) | (simp [*]; done)), H', ⟨by have := HK1.out; omega⟩, ⟨by (with_reducible repeat (first | apply Kd.R_alloc | apply Kd.R_drewN | apply Kd.R_drew)); exact Kd.R_mono HO112.out (fun _ hk => trivial)⟩, ⟨KB BK101⟩, ⟨KB BK102⟩, ⟨KB BK103⟩, ⟨K4 HB GE101.out GE102.out GE103.out GE109.out⟩⟩
       ·rw [if_neg c21] at H
        exact absurd H (by simp)
      ·rw [if_neg c20] at H
       have c20b0 : (!(((rd_T108 l0_1 x22_1).f0.f0) == a2_0) || (!(((rd_T108 l0_1 x22_1).f0.f1) == a2_1) || (!(((rd_T108 l0_1 x22_1).f0.f2) == a2_2)))) = false := by simpa using c20
       clear c20
       have H' := Aside0.mk H
       clear H
       have p108 : 0 ≤ (x22_1 : Int) := of_decide_eq_true (by first | (with_reducible assumption) | assumption)
       have q108 : x22_1 < (l0_1.length : Int) := of_decide_eq_true (by first | (with_reducible assumption) | assumption)
       obtain ⟨ad108, e108, hx108_0, hx108_1, hx108_2, hx108_3⟩ := at_T108 HR0_1.out x22_1 p108 q108
       cases e108
       replace hx108_0 := (HB.out.cell (World.block_lt_of_cell? w _ hx108_0)).trans hx108_0
       replace hx108_1 := (HB.out.cell (World.block_lt_of_cell? w _ hx108_1)).trans hx108_1
       replace hx108_2 := (HB.out.cell (World.block_lt_of_cell? w _ hx108_2)).trans hx108_2
       replace hx108_3 := (HB.out.cell (World.block_lt_of_cell? w _ hx108_3)).trans hx108_3
       replace p108 := eq_true p108
       replace q108 := eq_true q108
       go_wp2_with (first | ((with_reducible refine gate_dst (N := 11) rfl ?_); refine box_event rfl (N := 11) rfl (cs := #[.int .i64 0, .int .i64 0, .int .i64 0, .int .i64 0]) (t := 108) BX ?_; intro gb109 hg w31 hbox hb; replace HO_9 := am (Kd.R_below (Kd.R_elderB (KR HO_9) gb109 (Nat.le_of_eq hg.symm)) hb); have BK109 := am (hbox); have GW109 := am ((GL hg (below_size (K3 HB GE101.out GE102.out GE103.out)) : w.heap.size ≤ gb109)); have GE109 := GW109; replace HB := am (below_step (K3 HB GE101.out GE102.out GE103.out) hb); have NB101_109 := am (NL BK101 hg); have NB109_101 := am (NG BK101 hg); replace BK101 := am (BB BK101 hb); have NB102_109 := am (NL BK102 hg); have NB109_102 := am (NG BK102 hg); replace BK102 := am (BB BK102 hb); have NB103_109 := am (NL BK103 hg); have NB109_103 := am (NG BK103 hg); replace BK103 := am (BB BK103 hb); clear hb hbox hg; have hnb32 := NB109_101.out; have hnc32 := NB101_109.out; have hnb33 := NB109_102.out; have hnc33 := NB102_109.out; have hnb34 := NB109_103.out; have hnc34 := NB103_109.out; have hcz35_0 := z0 w31 BK109.out; have hcz35_1 := z1 w31 BK109.out; have hcz35_2 := z2 w31 BK109.out; have hcz35_3 := z3 w31 BK109.out; have hfz35_0 := blk_frozen BK109.out 0; have hfz35_1 := blk_frozen BK109.out 1; have hfz35_2 := blk_frozen BK109.out 2; have hfz35_3 := blk_frozen BK109.out 3; have hnb36 := NB102_101.out; have hnc36 := NB101_102.out; have hnb37 := NB102_103.out; have hnc37 := NB103_102.out; have hcz38_0 := z0 w31 BK102.out; have hcz38_1 := z1 w31 BK102.out; have hcz38_2 := z2 w31 BK102.out; have hfz38_0 := blk_frozen BK102.out 0; have hfz38_1 := blk_frozen BK102.out 1; have hfz38_2 := blk_frozen BK102.out 2))
       go_roundg k1
       case measure => have := HK1.out; omega
       case rel => exact ⟨(x9_1), (wrap64 (x22_1 + 1)), (by first | rfl | (simp; done) | (simp [*]; done)), H', ⟨by have := HK1.out; omega⟩, ⟨by (with_reducible repeat (first | apply Kd.R_alloc | apply Kd.R_drewN | apply Kd.R_drew)); exact Kd.R_mono (Kd.R_far (p := ⟨gb109, 3, none⟩) (Kd.R_far (p := ⟨gb109, 2, none⟩) (Kd.R_far (p := ⟨gb109, 1, none⟩) (Kd.R_far (p := ⟨gb109, 0, none⟩) (Kd.R_mono HO_9.out (fun k_ hk => (⟨hk, hk.2⟩ : _ ∧ k_ ≠ gb109))) (fun _ hk => hk.2) (.int .i64 ((rd_T108 l0_1 x22_1).f0.f0))) (fun _ hk => hk.2) (.int .i64 ((rd_T108 l0_1 x22_1).f0.f1))) (fun _ hk => hk.2) (.int .i64 ((rd_T108 l0_1 x22_1).f0.f2))) (fun _ hk => hk.2) (.int .i64 ((rd_T108 l0_1 x22_1).f1))) (fun _ hk => trivial)⟩, ⟨by (with_reducible repeat (first | refine blk_drewN ?_ _ | refine blk_drew ?_ | refine blk_alloc ?_ _)); refine blk_far ?_ NB101_109.out _; (with_reducible repeat (first | refine blk_drewN ?_ _ | refine blk_drew ?_ | refine blk_alloc ?_ _)); refine blk_far ?_ NB101_109.out _; (with_reducible repeat (first | refine blk_drewN ?_ _ | refine blk_drew ?_ | refine blk_alloc ?_ _)); refine blk_far ?_ NB101_109.out _; (with_reducible repeat (first | refine blk_drewN ?_ _ | refine blk_drew ?_ | refine blk_alloc ?_ _)); refine blk_far ?_ NB101_109.out _; (with_reducible repeat (first | refine blk_drewN ?_ _ | refine blk_drew ?_ | refine blk_alloc ?_ _)); exact BK101.out⟩, ⟨by (with_reducible repeat (first | refine blk_drewN ?_ _ | refine blk_drew ?_ | refine blk_alloc ?_ _)); refine blk_far ?_ NB102_109.out _; (with_reducible repeat (first | refine blk_drewN ?_ _ | refine blk_drew ?_ | refine blk_alloc ?_ _)); refine blk_far ?_ NB102_109.out _; (with_reducible repeat (first | refine blk_drewN ?_ _ | refine blk_drew ?_ | refine blk_alloc ?_ _)); refine blk_far ?_ NB102_109.out _; (with_reducible repeat (first | refine blk_drewN ?_ _ | refine blk_drew ?_ | refine blk_alloc ?_ _)); refine blk_far ?_ NB102_109.out _; (with_reducible repeat (first | refine blk_drewN ?_ _ | refine blk_drew ?_ | refine blk_alloc ?_ _)); exact BK102.out⟩, ⟨by (with_reducible repeat (first | refine blk_drewN ?_ _ | refine blk_drew ?_ | refine blk_alloc ?_ _)); refine blk_far ?_ NB103_109.out _; (with_reducible repeat (first | refine blk_drewN ?_ _ | refine blk_drew ?_ | refine blk_alloc ?_ _)); refine blk_far ?_ NB103_109.out _; (with_reducible repeat (first | refine blk_drewN ?_ _ | refine blk_drew ?_ | refine blk_alloc ?_ _)); refine blk_far ?_ NB103_109.out _; (with_reducible repeat (first | refine blk_drewN ?_ _ | refine blk_drew ?_ | refine blk_alloc ?_ _)); refine blk_far ?_ NB103_109.out _; (with_reducible repeat (first | refine blk_drewN ?_ _ | refine blk_drew ?_ | refine blk_alloc ?_ _)); exact BK103.out⟩, ⟨K4 HB GE101.out GE102.out GE103.out GE109.out⟩⟩
     ·rw [if_neg c19] at H
      exact absurd H (by simp)
    ·rw [if_neg c18] at H
     exact absurd H (by simp)
   ·rw [if_neg c17] at H
    have c17b0 : decide (x22_1 < (l0_1.length : Int)) = false := decide_eq_false c17
    clear c17
    obtain ⟨ji39, hji39⟩ : ∃ j_ : Int, (mn (x9_1.length : Int) a0_0) = j_ := ⟨_, rfl⟩
    replace H : (if 0 ≤ (ji39) then (if (ji39) ≤ (x9_1.length : Int) then ((slices_Clone_Seen.f (x9_1.take ((ji39) : Int).toNat)).bind fun t117 => (some (a0_0, t117, t104))) else (none)) else (none)) = some (r1, r2, r3) := by first | (rw [hji39] at H; exact H) | (simp only [hji39] at H ⊢; exact H)
    have hji39_ : (if a0_0 < (x9_1.length : Int) then a0_0 else (x9_1.length : Int)) = ji39 := hji39
    by_cases c40 : 0 ≤ (ji39)
    ·rw [if_pos c40] at H
     have c40b0 := eq_true c40
     have c40b1 : decide (0 ≤ (ji39)) = true := decide_eq_true c40
     clear c40
     by_cases c41 : (ji39) ≤ (x9_1.length : Int)
     ·rw [if_pos c41] at H
      have c41b0 := eq_true c41
      have c41b1 : decide ((ji39) ≤ (x9_1.length : Int)) = true := decide_eq_true c41
      clear c41
      obtain ⟨y113, hy113⟩ : ∃ y_ : List (S108), y_ = (x9_1.take ((ji39) : Int).toNat) := ⟨_, rfl⟩
      replace H : ((slices_Clone_Seen.f y113).bind fun t117 => (some (a0_0, t117, t104))) = some (r1, r2, r3) := by first | (rw [hy113]; with_reducible exact H) | (have H2_ := (Option.bind_some _ _).symm.trans H; rw [hy113]; with_reducible exact H2_) | (have H2_ := (Option.bind_some _ _).symm.trans H; with_reducible exact H2_) | with_reducible exact H | (rw [hy113]; exact H) | exact H
      have Ny113 := Aside0.mk hy113
      clear hy113
      replace H := Option.bind_eq_some_iff.mp H
      obtain ⟨t117, A420, H⟩ := H
      replace H : (some (a0_0, t117, t104)) = some (r1, r2, r3) := H
      have A42 := Aside0.mk A420
      clear A420
      simp only [Option.some.injEq, Prod.mk.injEq] at H
      obtain ⟨rfl, rfl, rfl⟩ := H
      try go_wp2
      replace HO_9 := am (Kd.R_drew HO_9.out)
      replace BK101 := am (blk_drew BK101.out)
      replace BK102 := am (blk_drew BK102.out)
      replace BK103 := am (blk_drew BK103.out)
      replace HB := am (below_drew1 HB.out)
      obtain ⟨Ao44, co44, eo44⟩ := Kd.R_slice HO_9.out
      (first | subst eo44 | (injection eo44 with f1_ f2_ f3_; have f4_ := f1_.symm; have f5_ := f3_.symm; clear f1_ f2_ f3_; subst f4_; subst f5_))
      have q45 : ((ji39) : Int) ≤ ((x9_1.length : Int) : Int) := of_decide_eq_true (by first | (with_reducible assumption) | assumption)
      obtain ⟨i045, hi045, _, hsz45, _⟩ := info_parts info108
      have hroom45 : x9_1.length ≤ co44 := (Kd.R_reads' HO_9.out).2.1
      have hC45 : Kd.C k108 _ Ao44 x9_1.length x9_1 := (Kd.R_reads' HO_9.out).2.2
      have hcut45 := cut_to (P := Try.prog) 44 108 .i64 Try.underlying44 hi045 Ao44 x9_1.length co44 (ji39) (of_decide_eq_true (by first | (with_reducible assumption) | assumption)) q45 hroom45
      have hr45 := Kd.C_take (m := ((ji39) : Int).toNat) hC45 (by omega)
      have hy45 : y113.length = ((ji39) : Int).toNat := (by rw [Ny113.out, List.length_take]; omega)
      rw [← Ny113.out] at hr45
      rw [← hy45] at hcut45
      have HR116 := Aside0.mk hr45
      have HC116 := am (show y113.length ≤ co44 from by omega)
      clear hr45 hC45 hroom45 hi045 hsz45
      have KY45 := Aside0.mk hy45
      clear hy45
      have KL45 := am (show ((ji39) : Int).toNat ≤ x9_1.length from by omega)
      replace q45 := eq_true q45
      refine start_ (n := 14) (S := fun w' => w'.cell? ⟨gb101, 0, none⟩ = some (.int .i64 a0_0) ∧ w'.cell? ⟨gb101, 1, none⟩ = some (.slice A0_1 l0_1.length c0_1)) (ds := []) (tf 0 14) (by kernel_rfl) rfl rfl ⟨z0 _ BK101.out, z1 _ BK101.out⟩ (fun hHeld => ?_); refine with_tabW impl_Cache_look.tab9 impl_Cache_look.bits9 (fun HT_ HW_ => ?_)
      generalize wr.drew = w43 at HO_9 BK101 BK102 BK103 HB HR116 hHeld ⊢
      refine pu 0 (some 35) (tf 1 13) (any_of HT_.out (by kernel_rfl)) ?_
      refine pu 2 (some 37) #[true, false, true, false, false, false, false, false, false, false, false, false, false, false] (any_of HT_.out (by kernel_rfl)) ?_
      refine pu 3 (some 38) #[true, false, true, true, false, false, false, false, false, false, false, false, false, false] (any_of HT_.out (by kernel_rfl)) ?_
      refine pu 4 (some 39) #[true, false, true, true, true, false, false, false, false, false, false, false, false, false] (any_of HT_.out (by kernel_rfl)) ?_
      refine pu 5 (some 40) #[true, false, true, true, true, true, false, false, false, false, false, false, false, false] (any_of HT_.out (by kernel_rfl)) ?_
      refine pu 11 (some 46) #[true, false, true, true, true, true, false, false, false, false, false, true, false, false] (any_of HT_.out (by kernel_rfl)) ?_
      refine tk 1 (some 36) #[true, true, true, true, true, true, false, false, false, false, false, true, false, false] (take_ofW HT_.out HW_.out (by kernel_rfl)) hHeld ?_
      refine tk 6 (some 41) #[true, true, true, true, true, true, true, false, false, false, false, true, false, false] (take_ofW HT_.out HW_.out (by kernel_rfl)) hHeld ?_
      refine pu 7 (some 42) #[true, true, true, true, true, true, true, true, false, false, false, true, false, false] (any_of HT_.out (by kernel_rfl)) ?_
      refine pu 8 (some 43) #[true, true, true, true, true, true, true, true, true, false, false, true, false, false] (any_of HT_.out (by kernel_rfl)) ?_
      refine one_ (i := 9) (N := some 44) #[true, true, true, true, true, true, true, true, true, true, false, true, false, false] rfl rfl (one_of HT_.out (by kernel_rfl)) (by decide) (fun K hK => ?_)
      refine goes_ Try.func92 (by kernel_rfl) rfl #[.slice Ao44 y113.length co44] (by rfl) rfl rfl MT ?_
      with_reducible refine (slices_Clone_Seen.calls _ _ y113 t117 _ ?side1 ?side2 A42.out).mono ?_
      (case side1 => repeat (first | exact (by repeat (first | (with_reducible exact HR116.out) | (with_reducible refine Kd.C_alloc ?_ _) | (with_reducible refine Kd.C_drewN ?_ _) | (with_reducible refine Kd.C_drew ?_) | exact HR116.out)) | (with_reducible refine Kd.C_alloc ?_ _) | (with_reducible refine Kd.C_drewN ?_ _) | (with_reducible refine Kd.C_drew ?_)))
      (case side2 => exact HC116.out)
      rintro e w46 ⟨v118, rfl, ho0, hb⟩
      refine ⟨_, rfl, ?_⟩
      have HO119 := am (Kd.R_lower (Kd.R_new' ho0 (Kd.R_lt (KR HO_9))) (below_size (K3 HB GE101.out GE102.out GE103.out)))
      replace HO_9 := am (Kd.R_elder' (KR HO_9) (Kd.R_base ho0) hb)
      replace BK101 := am (BB BK101 hb)
      replace BK102 := am (BB BK102 hb)
      replace BK103 := am (BB BK103 hb)
      replace HR116 := am (Kd.C_below (by repeat (first | (with_reducible exact HR116.out) | (with_reducible refine Kd.C_alloc ?_ _) | (with_reducible refine Kd.C_drewN ?_ _) | (with_reducible refine Kd.C_drew ?_) | exact HR116.out)) hb)
      replace HB := am (below_step (K3 HB GE101.out GE102.out GE103.out) hb)
      (try clear hb)
      (try clear hb2)
      (try clear hk)
      (try clear hi)
      (try clear ho0)
      obtain ⟨Ao47, co47, eo47⟩ := Kd.R_slice HO119.out
      (first | subst eo47 | (injection eo47 with f1_ f2_ f3_; have f4_ := f1_.symm; have f5_ := f3_.symm; clear f1_ f2_ f3_; subst f4_; subst f5_))
      refine hK.out _ _ ⟨z0 _ BK101.out, z1 _ BK101.out⟩ (fun hHeld => ?_)
      clear hK K
      refine norm_ (a' := ?_) ?_ ?_
      rotate_left
      ·show Act.put _ (some 44) _ = _
       simp only [Act.put, List.setIfInBounds_toArray, List.set_cons_zero, List.set_cons_succ, i64_w, i32_w]
       rfl
      refine pu 10 (some 45) (tf 12 2) (any_of HT_.out (by kernel_rfl)) ?_
      refine one_ (i := 12) (N := none) (tf 13 1) rfl rfl (one_of HT_.out (by kernel_rfl)) (by decide) (fun K hK => ?_)
      have hs48 : w46.cell? ⟨gb103, 0, none⟩ = some (.int .i64 0) := z0 _ BK103.out
      have hfs48 := blk_frozen BK103.out 0
      have hns48_0 := NB101_103.out
      have hns48_1 := NB102_103.out
      have hms48_0 := NB103_101.out
      have hms48_1 := NB103_102.out
      have hs49 : w46.cell? ⟨gb103, 1, none⟩ = some (.slice none 0 0) := z1 _ BK103.out
      have hfs49 := blk_frozen BK103.out 1
      have hns49_0 := NB101_103.out
      have hns49_1 := NB102_103.out
      have hms49_0 := NB103_101.out
      have hms49_1 := NB103_102.out
      refine skip_ (w1 := ?_) (by rfl) rfl ?_ ?_
      rotate_left
      ·go_simp
       rfl
      refine hK.out _ _ ⟨((cell_far (p := ⟨gb103, _, none⟩) NB101_103.out _).trans (((cell_far (p := ⟨gb103, _, none⟩) NB101_103.out _).trans (hHeld.1)))), ((cell_far (p := ⟨gb103, _, none⟩) NB101_103.out _).trans (((cell_far (p := ⟨gb103, _, none⟩) NB101_103.out _).trans (hHeld.2))))⟩ (fun hHeld => ?_)
      clear hK K
      refine pu 13 (some 7) (tf 14 0) (any_of HT_.out (by kernel_rfl)) ?_
      refine done_ (done_of HT_.out (by kernel_rfl)) ?_
      try go_wp2
      refine bodyPost_ret (results_ct rfl _ _ gb103 46 #[.int .i64 a0_0, .slice Ao47 t117.length co47] (0, 0) _ rfl (by (with_reducible repeat (first | refine blk_drewN ?_ _ | refine blk_drew ?_ | refine blk_alloc ?_ _)); refine blk_put (cs := #[.int .i64 a0_0, .slice none 0 0]) ?_ 1 _ rfl; (with_reducible repeat (first | refine blk_drewN ?_ _ | refine blk_drew ?_ | refine blk_alloc ?_ _)); refine blk_put (cs := #[.int .i64 0, .slice none 0 0]) ?_ 0 _ rfl; (with_reducible repeat (first | refine blk_drewN ?_ _ | refine blk_drew ?_ | refine blk_alloc ?_ _)); exact BK103.out) Try.underlying46 rfl (by kernel_rfl)) rfl ?_
      exact ⟨_, by first | rfl | (simp [errW_none, errW_some] <;> rfl) | (simp only [← hji39]; first | rfl | (simp [errW_none, errW_some] <;> rfl)) | (simp [*, errW_none, errW_some] <;> rfl), by (with_reducible repeat (first | apply Kd.R_alloc | apply Kd.R_drewN | apply Kd.R_drew)); exact Kd.R_mono (Kd.R_far (p := ⟨gb103, 1, none⟩) (Kd.R_far (p := ⟨gb103, 0, none⟩) (Kd.R_types HO119.out BK103.out (by decide)) (fun _ hk => hk.2) (.int .i64 a0_0)) (fun _ hk => hk.2) (.slice Ao47 t117.length co47)) (fun _ hk => trivial), K3 HB GE101.out GE102.out GE103.out⟩
     ·rw [if_neg c41] at H
      exact absurd H (by simp)
    ·rw [if_neg c40] at H
     exact absurd H (by simp)
end Go.Proofs.Ytioghacieopbdaa.PAll
end
section
namespace Go.Proofs.Ytioghacieopbdaa.PAll
open Go.RowKit Go.Proofs.YtioghacieopbdaaW.PrintWords Go.Proofs.YtioghacieopbdaaW.PrintLast Go.Proofs.YtioghacieopbdaaW.PrintMore
attribute [local go_sem] max2_int min2_int max_two min_two max_three min_three max_four min_four   -- for this text's walks alone
set_option linter.unusedVariables false
set_option linter.unusedSimpArgs false
def impl_CacheFind.f (k : Nat) (l0 : List (S34)) (a1_0 : Int) (l1_1 : List (S108)) (a2_0 : Int) (a2_1 : Int) (a2_2 : Int) : Option (Int × (List (S108)) × Int) := (impl_CacheOk.f k l0 a1_0 l1_1).bind fun t104 => (if t104 = true then ((impl_isCall.f a2_0 a2_1 a2_2).bind fun t105 => (if t105 = true then ((impl_Cache_look.f k a1_0 l1_1 l0 a2_0 a2_1 a2_2).bind fun bt106 => (some (bt106.1, bt106.2.1, bt106.2.2))) else ((slices_Clone_Seen.f l1_1).bind fun t111 => (some (a1_0, t111, (-1)))))) else (some (0, ([] : List (S108)), (-1))))
def impl_CacheFind.T4 : Bool × List (List Nat × List Nat) := (true, [([], []), ([0], [0]), ([], []), ([2], [2]), ([3], [3]), ([1, 4], [1, 4]), ([5, 4, 0, 1, 2, 3, 4, 5], [5]), ([6, 0, 1, 2, 3, 4, 5, 6], [])])
def impl_CacheFind.B4 : List Nat := [0, 1, 0, 4, 12, 31, 63, 127]
theorem impl_CacheFind.tab4 : rtab .any (opsOf Try.f30 4) = impl_CacheFind.T4 := by kernel_rfl
theorem impl_CacheFind.bits4 : waitsOk impl_CacheFind.T4.2 impl_CacheFind.B4 = true := by kernel_rfl
set_option maxHeartbeats 8000000 in
set_option maxRecDepth 100000 in
theorem impl_CacheFind.calls (k : Nat) (A0 : Option Addr) (c0 : Nat) (l0 : List (S34)) (a1_0 : Int) (A1_1 : Option Addr) (c1_1 : Nat) (l1_1 : List (S108)) (a2_0 : Int) (a2_1 : Int) (a2_2 : Int) (r1 : Int) (r2 : List (S108)) (r3 : Int) (w : World) (hr0 : Kd.C k34 w A0 l0.length l0) (hc0 : l0.length ≤ c0) (hr1_1 : Kd.C k108 w A1_1 l1_1.length l1_1) (hc1_1 : l1_1.length ≤ c1_1) (h : impl_CacheFind.f k l0 a1_0 l1_1 a2_0 a2_1 a2_2 = some (r1, r2, r3)) :
  Calls Try.prog 30 #[.slice A0 l0.length c0, .agg #[.int .i64 a1_0, .slice A1_1 l1_1.length c1_1], .agg #[.int .i64 a2_0, .int .i64 a2_1, .int .i64 a2_2]] w fun e w' => ∃ v1_ : Value, e = .returned (.tuple #[.agg #[.int .i64 r1, v1_], .int .i64 r3]) ∧ Kd.R k108 108 w' w.heap.size (fun _ => True) v1_ r2 ∧ Below w.heap.size w w' := by
 have hu46 := Try.underlying46
 have hu25 := Try.underlying25
 have HR0 := Aside0.mk hr0
 have HC0 := Aside0.mk hc0
 clear hr0 hc0
 have HR1_1 := Aside0.mk hr1_1
 have HC1_1 := Aside0.mk hc1_1
 clear hr1_1 hc1_1
 have HB := am (Below.refl w.heap.size w)
 have H : ((impl_CacheOk.f k l0 a1_0 l1_1).bind fun t104 => (if t104 = true then ((impl_isCall.f a2_0 a2_1 a2_2).bind fun t105 => (if t105 = true then ((impl_Cache_look.f k a1_0 l1_1 l0 a2_0 a2_1 a2_2).bind fun bt106 => (some (bt106.1, bt106.2.1, bt106.2.2))) else ((slices_Clone_Seen.f l1_1).bind fun t111 => (some (a1_0, t111, (-1)))))) else (some (0, ([] : List (S108)), (-1))))) = some (r1, r2, r3) := h
 clear h
 replace H := Option.bind_eq_some_iff.mp H
 obtain ⟨t104, A40, H⟩ := H
 replace H : (if t104 = true then ((impl_isCall.f a2_0 a2_1 a2_2).bind fun t105 => (if t105 = true then ((impl_Cache_look.f k a1_0 l1_1 l0 a2_0 a2_1 a2_2).bind fun bt106 => (some (bt106.1, bt106.2.1, bt106.2.2))) else ((slices_Clone_Seen.f l1_1).bind fun t111 => (some (a1_0, t111, (-1)))))) else (some (0, ([] : List (S108)), (-1)))) = some (r1, r2, r3) := H
 have A4 := Aside0.mk A40
 clear A40
 by_cases c5 : t104 = true
 ·subst c5
  have H1 : ((impl_isCall.f a2_0 a2_1 a2_2).bind fun t105 => (if t105 = true then ((impl_Cache_look.f k a1_0 l1_1 l0 a2_0 a2_1 a2_2).bind fun bt106 => (some (bt106.1, bt106.2.1, bt106.2.2))) else ((slices_Clone_Seen.f l1_1).bind fun t111 => (some (a1_0, t111, (-1)))))) = some (r1, r2, r3) := by rw [if_pos rfl] at H; exact H
  clear H
  have H := H1
  clear H1
  replace H := Option.bind_eq_some_iff.mp H
  obtain ⟨t105, A60, H⟩ := H
  replace H : (if t105 = true then ((impl_Cache_look.f k a1_0 l1_1 l0 a2_0 a2_1 a2_2).bind fun bt106 => (some (bt106.1, bt106.2.1, bt106.2.2))) else ((slices_Clone_Seen.f l1_1).bind fun t111 => (some (a1_0, t111, (-1))))) = some (r1, r2, r3) := H
  have A6 := Aside0.mk A60
  clear A60
  by_cases c7 : t105 = true
  ·subst c7
   have H1 : ((impl_Cache_look.f k a1_0 l1_1 l0 a2_0 a2_1 a2_2).bind fun bt106 => (some (bt106.1, bt106.2.1, bt106.2.2))) = some (r1, r2, r3) := by rw [if_pos rfl] at H; exact H
   clear H
   have H := H1
   clear H1
   replace H := Option.bind_eq_some_iff.mp H
   obtain ⟨⟨t106, t107, t110⟩, A80, H⟩ := H
   replace H : (some (t106, t107, t110)) = some (r1, r2, r3) := H
   have A8 := Aside0.mk A80
   clear A80
   simp only [Option.some.injEq, Prod.mk.injEq] at H
   obtain ⟨rfl, rfl, rfl⟩ := H
   go_enter Try.func30, Try.ntmps30
   go_wp2_with (first | ((with_reducible refine gate_dst (N := 4) rfl ?_); refine box_event rfl (N := 4) rfl (cs := #[.int .i64 a1_0, .slice A1_1 l1_1.length c1_1]) (t := 46) BX ?_; intro gb101 hg w9 hbox hb; have BK101 := am (hbox); have GW101 := am ((GL hg (below_size (KL HB)) : w.heap.size ≤ gb101)); have GE101 := GW101; replace HB := am (below_step (KL HB) hb); clear hb hbox hg) | ((with_reducible refine gate_dst (N := 5) rfl ?_); refine box_event rfl (N := 5) rfl (cs := #[.int .i64 a2_0, .int .i64 a2_1, .int .i64 a2_2]) (t := 25) BX ?_; intro gb102 hg w10 hbox hb; have BK102 := am (hbox); have GW102 := am ((GL hg (below_size (K1 HB GE101.out)) : w.heap.size ≤ gb102)); have GE102 := GW102; replace HB := am (below_step (K1 HB GE101.out) hb); have NB101_102 := am (NL BK101 hg); have NB102_101 := am (NG BK101 hg); replace BK101 := am (BB BK101 hb); clear hb hbox hg) | ((with_reducible refine gate_dst (N := 6) rfl ?_); refine box_event rfl (N := 6) rfl (cs := #[.int .i64 0, .slice none 0 0]) (t := 46) BX ?_; intro gb103 hg w11 hbox hb; have BK103 := am (hbox); have GW103 := am ((GL hg (below_size (K2 HB GE101.out GE102.out)) : w.heap.size ≤ gb103)); have GE103 := GW103; replace HB := am (below_step (K2 HB GE101.out GE102.out) hb); have NB101_103 := am (NL BK101 hg); have NB103_101 := am (NG BK101 hg); replace BK101 := am (BB BK101 hb); have NB102_103 := am (NL BK102 hg); have NB103_102 := am (NG BK102 hg); replace BK102 := am (BB BK102 hb); clear hb hbox hg; have hnb12 := NB101_102.out; have hnc12 := NB102_101.out; have hnb13 := NB101_103.out; have hnc13 := NB103_101.out; have hcz14_0 := z0 w11 BK101.out; have hcz14_1 := z1 w11 BK101.out; have hfz14_0 := blk_frozen BK101.out 0; have hfz14_1 := blk_frozen BK101.out 1) | ((with_reducible refine gate_callee (f := 26) rfl ?_); refine goesL_ (some 10) rfl rfl Try.func26 (by kernel_rfl) rfl #[.slice A0 l0.length c0, .agg #[.int .i64 a1_0, .slice A1_1 l1_1.length c1_1]] rfl MT ?_; (with_reducible refine (impl_CacheOk.calls k _ _ l0 a1_0 _ _ l1_1 true _ ?side1 ?side2 ?side3 ?side4 A4.out).mono ?_); (case side1 => exact KC (Kd.C_below HR0.out HB.out)); (case side2 => exact HC0.out); (case side3 => exact KC (Kd.C_below HR1_1.out HB.out)); (case side4 => exact HC1_1.out); rintro e w15 ⟨rfl, hb⟩; refine ⟨_, rfl, ?_⟩; replace BK101 := am (BB BK101 hb); replace BK102 := am (BB BK102 hb); replace BK103 := am (BB BK103 hb); replace HB := am (below_step (K3 HB GE101.out GE102.out GE103.out) hb); (try clear hb); (try clear hb2); (try clear hk); (try clear hi); have hnb16 := NB102_103.out; have hnc16 := NB103_102.out; have hcz17_0 := z0 w15 BK102.out; have hcz17_1 := z1 w15 BK102.out; have hcz17_2 := z2 w15 BK102.out; have hfz17_0 := blk_frozen BK102.out 0; have hfz17_1 := blk_frozen BK102.out 1; have hfz17_2 := blk_frozen BK102.out 2) | ((with_reducible refine gate_callee (f := 73) rfl ?_); refine goesL_ (some 14) rfl rfl Try.func73 (by kernel_rfl) rfl #[.agg #[.int .i64 a2_0, .int .i64 a2_1, .int .i64 a2_2]] rfl MT ?_; (with_reducible refine (impl_isCall.calls a2_0 a2_1 a2_2 true _ A6.out).mono ?_); rintro e w18 ⟨rfl, hb⟩; refine ⟨_, rfl, ?_⟩; replace BK101 := am (BB BK101 hb); replace BK102 := am (BB BK102 hb); replace BK103 := am (BB BK103 hb); replace HB := am (below_step (K3 HB GE101.out GE102.out GE103.out) hb); (try clear hb); (try clear hb2); (try clear hk); (try clear hi); have hcz19_0 := z0 w18 BK101.out; have hcz19_1 := z1 w18 BK101.out; have hfz19_0 := blk_frozen BK101.out 0; have hfz19_1 := blk_frozen BK101.out 1; have hcz20_0 := z0 w18 BK102.out; have hcz20_1 := z1 w18 BK102.out; have hcz20_2 := z2 w18 BK102.out; have hfz20_0 := blk_frozen BK102.out 0; have hfz20_1 := blk_frozen BK102.out 1; have hfz20_2 := blk_frozen BK102.out 2) | ((with_reducible refine gate_callee (f := 93) rfl ?_); refine goesL_ (some 25) rfl rfl Try.func93 (by kernel_rfl) rfl #[.agg #[.int .i64 a1_0, .slice A1_1 l1_1.length c1_1], .slice A0 l0.length c0, .agg #[.int .i64 a2_0, .int .i64 a2_1, .int .i64 a2_2]] rfl MT ?_; (with_reducible refine (impl_Cache_look.calls k a1_0 _ _ l1_1 _ _ l0 a2_0 a2_1 a2_2 t106 t107 t110 _ ?side1 ?side2 ?side3 ?side4 A8.out).mono ?_); (case side1 => exact KC (Kd.C_below HR1_1.out HB.out)); (case side2 => exact HC1_1.out); (case side3 => exact KC (Kd.C_below HR0.out HB.out)); (case side4 => exact HC0.out); rintro e w21 ⟨v108, rfl, ho0, hb⟩; refine ⟨_, rfl, ?_⟩; have HO109 := am (Kd.R_lower ho0 (below_size (K3 HB GE101.out GE102.out GE103.out))); replace BK101 := am (BB BK101 hb); replace BK102 := am (BB BK102 hb); replace BK103 := am (BB BK103 hb); replace HB := am (below_step (K3 HB GE101.out GE102.out GE103.out) hb); (try clear hb); (try clear hb2); (try clear hk); (try clear hi); (try clear ho0); have hcz22_0 := z0 w21 BK103.out; have hcz22_1 := z1 w21 BK103.out; have hfz22_0 := blk_frozen BK103.out 0; have hfz22_1 := blk_frozen BK103.out 1; obtain ⟨Ao23, co23, eo23⟩ := Kd.R_slice HO109.out; subst eo23))
   refine bodyPost_ret (results_ct rfl _ _ gb103 46 #[.int .i64 t106, .slice Ao23 t107.length co23] (0, 0) _ rfl (by (with_reducible repeat (first | refine blk_drewN ?_ _ | refine blk_drew ?_ | refine blk_alloc ?_ _)); refine blk_put (cs := #[.int .i64 t106, .slice none 0 0]) ?_ 1 _ rfl; (with_reducible repeat (first | refine blk_drewN ?_ _ | refine blk_drew ?_ | refine blk_alloc ?_ _)); refine blk_put (cs := #[.int .i64 0, .slice none 0 0]) ?_ 0 _ rfl; (with_reducible repeat (first | refine blk_drewN ?_ _ | refine blk_drew ?_ | refine blk_alloc ?_ _)); exact BK103.out) Try.underlying46 rfl (by kernel_rfl)) rfl ?_
   exact ⟨_, by first | rfl | (simp [errW_none, errW_some] <;> rfl) | (simp [*, errW_none, errW_some] <;> rfl), by (with_reducible repeat (first | apply Kd.R_alloc | apply Kd.R_drewN | apply Kd.R_drew)); exact Kd.R_mono (Kd.R_far (p := ⟨gb103, 1, none⟩) (Kd.R_far (p := ⟨gb103, 0, none⟩) (Kd.R_types HO109.out BK103.out (by decide)) (fun _ hk => hk.2) (.int .i64 t106)) (fun _ hk => hk.2) (.slice Ao23 t107.length co23)) (fun _ hk => trivial), K3 HB GE101.out GE102.out GE103.out⟩
  ·replace c7 := Bool.eq_false_iff.mpr c7
   subst c7
   have H1 : ((slices_Clone_Seen.f l1_1).bind fun t111 => (some (a1_0, t111, (-1)))) = some (r1, r2, r3) := by rw [if_neg (show ¬ (false = true) by decide)] at H; exact H
   clear H
   have H := H1
   clear H1
   replace H := Option.bind_eq_some_iff.mp H
   obtain ⟨t111, A240, H⟩ := H
   replace H : (some (a1_0, t111, (-1))) = some (r1, r2, r3) := H
   have A24 := Aside0.mk A240
   clear A240
   simp only [Option.some.injEq, Prod.mk.injEq] at H
   obtain ⟨rfl, rfl, rfl⟩ := H
   go_enter Try.func30, Try.ntmps30
   try go_wp2_with (first | ((with_reducible refine gate_dst (N := 4) rfl ?_); refine box_event rfl (N := 4) rfl (cs := #[.int .i64 a1_0, .slice A1_1 l1_1.length c1_1]) (t := 46) BX ?_; intro gb101 hg w25 hbox hb; have BK101 := am (hbox); have GW101 := am ((GL hg (below_size (KL HB)) : w.heap.size ≤ gb101)); have GE101 := GW101; replace HB := am (below_step (KL HB) hb); clear hb hbox hg) | ((with_reducible refine gate_dst (N := 5) rfl ?_); refine box_event rfl (N := 5) rfl (cs := #[.int .i64 a2_0, .int .i64 a2_1, .int .i64 a2_2]) (t := 25) BX ?_; intro gb102 hg w26 hbox hb; have BK102 := am (hbox); have GW102 := am ((GL hg (below_size (K1 HB GE101.out)) : w.heap.size ≤ gb102)); have GE102 := GW102; replace HB := am (below_step (K1 HB GE101.out) hb); have NB101_102 := am (NL BK101 hg); have NB102_101 := am (NG BK101 hg); replace BK101 := am (BB BK101 hb); clear hb hbox hg) | ((with_reducible refine gate_dst (N := 6) rfl ?_); refine box_event rfl (N := 6) rfl (cs := #[.int .i64 0, .slice none 0 0]) (t := 46) BX ?_; intro gb103 hg w27 hbox hb; have BK103 := am (hbox); have GW103 := am ((GL hg (below_size (K2 HB GE101.out GE102.out)) : w.heap.size ≤ gb103)); have GE103 := GW103; replace HB := am (below_step (K2 HB GE101.out GE102.out) hb); have NB101_103 := am (NL BK101 hg); have NB103_101 := am (NG BK101 hg); replace BK101 := am (BB BK101 hb); have NB102_103 := am (NL BK102 hg); have NB103_102 := am (NG BK102 hg); replace BK102 := am (BB BK102 hb); clear hb hbox hg; have hnb28 := NB101_102.out; have hnc28 := NB102_101.out; have hnb29 := NB101_103.out; have hnc29 := NB103_101.out; have hcz30_0 := z0 w27 BK101.out; have hcz30_1 := z1 w27 BK101.out; have hfz30_0 := blk_frozen BK101.out 0; have hfz30_1 := blk_frozen BK101.out 1) | ((with_reducible refine gate_callee (f := 26) rfl ?_); refine goesL_ (some 10) rfl rfl Try.func26 (by kernel_rfl) rfl #[.slice A0 l0.length c0, .agg #[.int .i64 a1_0, .slice A1_1 l1_1.length c1_1]] rfl MT ?_; (with_reducible refine (impl_CacheOk.calls k _ _ l0 a1_0 _ _ l1_1 true _ ?side1 ?side2 ?side3 ?side4 A4.out).mono ?_); (case side1 => exact KC (Kd.C_below HR0.out HB.out)); (case side2 => exact HC0.out); (case side3 => exact KC (Kd.C_below HR1_1.out HB.out)); (case side4 => exact HC1_1.out); rintro e w31 ⟨rfl, hb⟩; refine ⟨_, rfl, ?_⟩; replace BK101 := am (BB BK101 hb); replace BK102 := am (BB BK102 hb); replace BK103 := am (BB BK103 hb); replace HB := am (below_step (K3 HB GE101.out GE102.out GE103.out) hb); (try clear hb); (try clear hb2); (try clear hk); (try clear hi); have hnb32 := NB102_103.out; have hnc32 := NB103_102.out; have hcz33_0 := z0 w31 BK102.out; have hcz33_1 := z1 w31 BK102.out; have hcz33_2 := z2 w31 BK102.out; have hfz33_0 := blk_frozen BK102.out 0; have hfz33_1 := blk_frozen BK102.out 1; have hfz33_2 := blk_frozen BK102.out 2) | ((with_reducible refine gate_callee (f := 73) rfl ?_); refine goesL_ (some 14) rfl rfl Try.func73 (by kernel_rfl) rfl #[.agg #[.int .i64 a2_0, .int .i64 a2_1, .int .i64 a2_2]] rfl MT ?_; (with_reducible refine (impl_isCall.calls a2_0 a2_1 a2_2 false _ A6.out).mono ?_); rintro e w34 ⟨rfl, hb⟩; refine ⟨_, rfl, ?_⟩; replace BK101 := am (BB BK101 hb); replace BK102 := am (BB BK102 hb); replace BK103 := am (BB BK103 hb); replace HB := am (below_step (K3 HB GE101.out GE102.out GE103.out) hb); (try clear hb); (try clear hb2); (try clear hk); (try clear hi)))
   replace BK101 := am (blk_drew BK101.out)
   replace BK102 := am (blk_drew BK102.out)
   replace BK103 := am (blk_drew BK103.out)
   replace HB := am (below_drew1 HB.out)
   refine start_ (n := 8) (S := fun w' => w'.cell? ⟨gb101, 0, none⟩ = some (.int .i64 a1_0) ∧ w'.cell? ⟨gb101, 1, none⟩ = some (.slice A1_1 l1_1.length c1_1)) (ds := []) (tf 0 8) (by kernel_rfl) rfl rfl ⟨z0 _ BK101.out, z1 _ BK101.out⟩ (fun hHeld => ?_); refine with_tabW impl_CacheFind.tab4 impl_CacheFind.bits4 (fun HT_ HW_ => ?_)
   generalize w34.drew = w35 at BK101 BK102 BK103 HB hHeld ⊢
   refine pu 0 (some 16) (tf 1 7) (any_of HT_.out (by kernel_rfl)) ?_
   refine pu 2 (some 18) #[true, false, true, false, false, false, false, false] (any_of HT_.out (by kernel_rfl)) ?_
   refine tk 1 (some 17) (tf 3 5) (take_ofW HT_.out HW_.out (by kernel_rfl)) hHeld ?_
   refine tk 3 (some 19) (tf 4 4) (take_ofW HT_.out HW_.out (by kernel_rfl)) hHeld ?_
   refine one_ (i := 4) (N := some 20) (tf 5 3) rfl rfl (one_of HT_.out (by kernel_rfl)) (by decide) (fun K hK => ?_)
   refine goes_ Try.func92 (by kernel_rfl) rfl #[.slice A1_1 l1_1.length c1_1] (by rfl) rfl rfl MT ?_
   with_reducible refine (slices_Clone_Seen.calls _ _ l1_1 t111 _ ?side1 ?side2 A24.out).mono ?_
   (case side1 => exact KC (Kd.C_below HR1_1.out HB.out))
   (case side2 => exact HC1_1.out)
   rintro e w36 ⟨v112, rfl, ho0, hb⟩
   refine ⟨_, rfl, ?_⟩
   have HO113 := am (Kd.R_lower ho0 (below_size (K3 HB GE101.out GE102.out GE103.out)))
   replace BK101 := am (BB BK101 hb)
   replace BK102 := am (BB BK102 hb)
   replace BK103 := am (BB BK103 hb)
   replace HB := am (below_step (K3 HB GE101.out GE102.out GE103.out) hb)
   (try clear hb)
   (try clear hb2)
   (try clear hk)
   (try clear hi)
   (try clear ho0)
   obtain ⟨Ao37, co37, eo37⟩ := Kd.R_slice HO113.out
   (first | subst eo37 | (injection eo37 with f1_ f2_ f3_; have f4_ := f1_.symm; have f5_ := f3_.symm; clear f1_ f2_ f3_; subst f4_; subst f5_))
   refine hK.out _ _ ⟨z0 _ BK101.out, z1 _ BK101.out⟩ (fun hHeld => ?_)
   clear hK K
   refine norm_ (a' := ?_) ?_ ?_
   rotate_left
   ·show Act.put _ (some 20) _ = _
    simp only [Act.put, List.setIfInBounds_toArray, List.set_cons_zero, List.set_cons_succ, i64_w, i32_w]
    rfl
   refine pu 5 (some 21) (tf 6 2) (any_of HT_.out (by kernel_rfl)) ?_
   refine one_ (i := 6) (N := none) (tf 7 1) rfl rfl (one_of HT_.out (by kernel_rfl)) (by decide) (fun K hK => ?_)
   have hs38 : w36.cell? ⟨gb103, 0, none⟩ = some (.int .i64 0) := z0 _ BK103.out
   have hfs38 := blk_frozen BK103.out 0
   have hns38_0 := NB101_103.out
   have hns38_1 := NB102_103.out
   have hms38_0 := NB103_101.out
   have hms38_1 := NB103_102.out
   have hs39 : w36.cell? ⟨gb103, 1, none⟩ = some (.slice none 0 0) := z1 _ BK103.out
   have hfs39 := blk_frozen BK103.out 1
   have hns39_0 := NB101_103.out
   have hns39_1 := NB102_103.out
   have hms39_0 := NB103_101.out
   have hms39_1 := NB103_102.out
   refine skip_ (w1 := ?_) (by rfl) rfl ?_ ?_
   rotate_left
   ·go_simp
    rfl
   refine hK.out _ _ ⟨((cell_far (p := ⟨gb103, _, none⟩) NB101_103.out _).trans (((cell_far (p := ⟨gb103, _, none⟩) NB101_103.out _).trans (hHeld.1)))), ((cell_far (p := ⟨gb103, _, none⟩) NB101_103.out _).trans (((cell_far (p := ⟨gb103, _, none⟩) NB101_103.out _).trans (hHeld.2))))⟩ (fun hHeld => ?_)
   clear hK K
   refine pu 7 (some 7) (tf 8 0) (any_of HT_.out (by kernel_rfl)) ?_
   refine done_ (done_of HT_.out (by kernel_rfl)) ?_
   try go_wp2
   refine bodyPost_ret (results_ct rfl _ _ gb103 46 #[.int .i64 a1_0, .slice Ao37 t111.length co37] (0, 0) _ rfl (by (with_reducible repeat (first | refine blk_drewN ?_ _ | refine blk_drew ?_ | refine blk_alloc ?_ _)); refine blk_put (cs := #[.int .i64 a1_0, .slice none 0 0]) ?_ 1 _ rfl; (with_reducible repeat (first | refine blk_drewN ?_ _ | refine blk_drew ?_ | refine blk_alloc ?_ _)); refine blk_put (cs := #[.int .i64 0, .slice none 0 0]) ?_ 0 _ rfl; (with_reducible repeat (first | refine blk_drewN ?_ _ | refine blk_drew ?_ | refine blk_alloc ?_ _)); exact BK103.out) Try.underlying46 rfl (by kernel_rfl)) rfl ?_
   exact ⟨_, by first | rfl | (simp [errW_none, errW_some] <;> rfl) | (simp [*, errW_none, errW_some] <;> rfl), by (with_reducible repeat (first | apply Kd.R_alloc | apply Kd.R_drewN | apply Kd.R_drew)); exact Kd.R_mono (Kd.R_far (p := ⟨gb103, 1, none⟩) (Kd.R_far (p := ⟨gb103, 0, none⟩) (Kd.R_types HO113.out BK103.out (by decide)) (fun _ hk => hk.2) (.int .i64 a1_0)) (fun _ hk => hk.2) (.slice Ao37 t111.length co37)) (fun _ hk => trivial), K3 HB GE101.out GE102.out GE103.out⟩
 ·replace c5 := Bool.eq_false_iff.mpr c5
  subst c5
  have H1 : (some (0, ([] : List (S108)), (-1))) = some (r1, r2, r3) := by rw [if_neg (show ¬ (false = true) by decide)] at H; exact H
  clear H
  have H := H1
  clear H1
  simp only [Option.some.injEq, Prod.mk.injEq] at H
  obtain ⟨rfl, rfl, rfl⟩ := H
  go_enter Try.func30, Try.ntmps30
  go_wp2_with (first | ((with_reducible refine gate_dst (N := 4) rfl ?_); refine box_event rfl (N := 4) rfl (cs := #[.int .i64 a1_0, .slice A1_1 l1_1.length c1_1]) (t := 46) BX ?_; intro gb101 hg w40 hbox hb; have BK101 := am (hbox); have GW101 := am ((GL hg (below_size (KL HB)) : w.heap.size ≤ gb101)); have GE101 := GW101; replace HB := am (below_step (KL HB) hb); clear hb hbox hg) | ((with_reducible refine gate_dst (N := 5) rfl ?_); refine box_event rfl (N := 5) rfl (cs := #[.int .i64 a2_0, .int .i64 a2_1, .int .i64 a2_2]) (t := 25) BX ?_; intro gb102 hg w41 hbox hb; have BK102 := am (hbox); have GW102 := am ((GL hg (below_size (K1 HB GE101.out)) : w.heap.size ≤ gb102)); have GE102 := GW102; replace HB := am (below_step (K1 HB GE101.out) hb); have NB101_102 := am (NL BK101 hg); have NB102_101 := am (NG BK101 hg); replace BK101 := am (BB BK101 hb); clear hb hbox hg) | ((with_reducible refine gate_dst (N := 6) rfl ?_); refine box_event rfl (N := 6) rfl (cs := #[.int .i64 0, .slice none 0 0]) (t := 46) BX ?_; intro gb103 hg w42 hbox hb; have BK103 := am (hbox); have GW103 := am ((GL hg (below_size (K2 HB GE101.out GE102.out)) : w.heap.size ≤ gb103)); have GE103 := GW103; replace HB := am (below_step (K2 HB GE101.out GE102.out) hb); have NB101_103 := am (NL BK101 hg); have NB103_101 := am (NG BK101 hg); replace BK101 := am (BB BK101 hb); have NB102_103 := am (NL BK102 hg); have NB103_102 := am (NG BK102 hg); replace BK102 := am (BB BK102 hb); clear hb hbox hg; have hnb43 := NB101_102.out; have hnc43 := NB102_101.out; have hnb44 := NB101_103.out; have hnc44 := NB103_101.out; have hcz45_0 := z0 w42 BK101.out; have hcz45_1 := z1 w42 BK101.out; have hfz45_0 := blk_frozen BK101.out 0; have hfz45_1 := blk_frozen BK101.out 1) | ((with_reducible refine gate_callee (f := 26) rfl ?_); refine goesL_ (some 10) rfl rfl Try.func26 (by kernel_rfl) rfl #[.slice A0 l0.length c0, .agg #[.int .i64 a1_0, .slice A1_1 l1_1.length c1_1]] rfl MT ?_; (with_reducible refine (impl_CacheOk.calls k _ _ l0 a1_0 _ _ l1_1 false _ ?side1 ?side2 ?side3 ?side4 A4.out).mono ?_); (case side1 => exact KC (Kd.C_below HR0.out HB.out)); (case side2 => exact HC0.out); (case side3 => exact KC (Kd.C_below HR1_1.out HB.out)); (case side4 => exact HC1_1.out); rintro e w46 ⟨rfl, hb⟩; refine ⟨_, rfl, ?_⟩; replace BK101 := am (BB BK101 hb); replace BK102 := am (BB BK102 hb); replace BK103 := am (BB BK103 hb); replace HB := am (below_step (K3 HB GE101.out GE102.out GE103.out) hb); (try clear hb); (try clear hb2); (try clear hk); (try clear hi); have hnb47 := NB103_102.out; have hnc47 := NB102_103.out; have hcz48_0 := z0 w46 BK103.out; have hcz48_1 := z1 w46 BK103.out; have hfz48_0 := blk_frozen BK103.out 0; have hfz48_1 := blk_frozen BK103.out 1))
  refine bodyPost_ret (results_ct rfl _ _ gb103 46 #[.int .i64 0, .slice none 0 0] (0, 0) _ rfl (by (with_reducible repeat (first | refine blk_drewN ?_ _ | refine blk_drew ?_ | refine blk_alloc ?_ _)); refine blk_put (cs := #[.int .i64 0, .slice none 0 0]) ?_ 1 _ rfl; (with_reducible repeat (first | refine blk_drewN ?_ _ | refine blk_drew ?_ | refine blk_alloc ?_ _)); refine blk_put (cs := #[.int .i64 0, .slice none 0 0]) ?_ 0 _ rfl; (with_reducible repeat (first | refine blk_drewN ?_ _ | refine blk_drew ?_ | refine blk_alloc ?_ _)); exact BK103.out) Try.underlying46 rfl (by kernel_rfl)) rfl ?_
  exact ⟨_, by first | rfl | (simp [errW_none, errW_some] <;> rfl) | (simp [*, errW_none, errW_some] <;> rfl), by first | exact Kd.R_nil _ _ _ _ _ | exact Kd.N_nil _ _ _ _ _ | exact Kd.V_nil _ _ _ _ _ | exact Kd.Q_nil _ _ _ _ _ | exact Kd.S_nil _ _ _ _ _, K3 HB GE101.out GE102.out GE103.out⟩
end Go.Proofs.Ytioghacieopbdaa.PAll
end
section
namespace Go.Proofs.Ytioghacieopbdaa.PAll
open Go.RowKit Go.Proofs.YtioghacieopbdaaW.PrintWords Go.Proofs.YtioghacieopbdaaW.PrintLast Go.Proofs.YtioghacieopbdaaW.PrintMore
attribute [local go_sem] max2_int min2_int max_two min_two max_three min_three max_four min_four   -- for this text's walks alone
set_option linter.unusedVariables false
set_option linter.unusedSimpArgs false
def laws_FnCacheFind.j0 : Nat → List (S34) → Int → Int → Bool → Int → List (S108) → Int → Int → Int → Int → List (S108) → Int → List (S108) → Option (Bool)
 | 0, _, _, _, _, _, _, _, _, _, _, _, _, _ => none
 | k + 1, x3, x7, x9, x58, x112000, x112001, x113000, x113001, x113002, x119000, x119001, x125000, x125001 => if x58 = true then (if x7 = x9 then ((laws_ovCache.f k x119000 x119001 x125000 x125001).bind fun t129 => (if t129 = true then ((impl_CacheOk.f k x3 x112000 x112001).bind fun t130 => ((spec_CacheOk.f k x3 x112000 x112001).bind fun t131 => (some (t130 == t131)))) else (some false))) else (some false)) else ((impl_CacheFind.f k x3 x119000 x119001 x113000 x113001 x113002).bind fun bt132 => ((impl_RulesFirst.f k x3 x113000 x113001 x113002).bind fun t138 => (if x7 = t138 then ((impl_CacheOk.f k x3 x119000 x119001).bind fun t139 => (if t139 = true then (if bt132.2.2 = x7 then ((laws_ovCache.f k bt132.1 bt132.2.1 x119000 x119001).bind fun t140 => (if t140 = true then (some (decide ((x119001.length : Int) ≤ x112000))) else (some false))) else (some false)) else (some false))) else (some false))))
def laws_FnCacheFind.f (k : Nat) (l0 : List Int) : Option (Bool) := if (l0.length : Int) > 1048576 then (some true) else ((spec_DrawCacheFind.f k l0).bind fun bt101 => ((impl_CacheFind.f k bt101.1 bt101.2.1 bt101.2.2.1 bt101.2.2.2.1 bt101.2.2.2.2.1 bt101.2.2.2.2.2).bind fun bt113 => ((spec_CacheFind.f k bt101.1 bt101.2.1 bt101.2.2.1 bt101.2.2.2.1 bt101.2.2.2.2.1 bt101.2.2.2.2.2).bind fun bt119 => (if bt113.2.2 = bt119.2.2 then ((laws_ovCache.f k bt113.1 bt113.2.1 bt119.1 bt119.2.1).bind fun t125 => (if t125 = true then ((impl_CacheOk.f k bt101.1 bt101.2.1 bt101.2.2.1).bind fun t126 => ((spec_CacheOk.f k bt101.1 bt101.2.1 bt101.2.2.1).bind fun t127 => (if (t126 != t127) = true then (laws_FnCacheFind.j0 k bt101.1 bt113.2.2 bt119.2.2 true bt101.2.1 bt101.2.2.1 bt101.2.2.2.1 bt101.2.2.2.2.1 bt101.2.2.2.2.2 bt113.1 bt113.2.1 bt119.1 bt119.2.1) else ((spec_CacheOk.f k bt101.1 bt101.2.1 bt101.2.2.1).bind fun t128 => (laws_FnCacheFind.j0 k bt101.1 bt113.2.2 bt119.2.2 (!t128) bt101.2.1 bt101.2.2.1 bt101.2.2.2.1 bt101.2.2.2.2.1 bt101.2.2.2.2.2 bt113.1 bt113.2.1 bt119.1 bt119.2.1))))) else (laws_FnCacheFind.j0 k bt101.1 bt113.2.2 bt119.2.2 true bt101.2.1 bt101.2.2.1 bt101.2.2.2.1 bt101.2.2.2.2.1 bt101.2.2.2.2.2 bt113.1 bt113.2.1 bt119.1 bt119.2.1))) else (laws_FnCacheFind.j0 k bt101.1 bt113.2.2 bt119.2.2 true bt101.2.1 bt101.2.2.1 bt101.2.2.2.1 bt101.2.2.2.2.1 bt101.2.2.2.2.2 bt113.1 bt113.2.1 bt119.1 bt119.2.1)))))
def laws_FnCacheFind.T6 : Bool × List (List Nat × List Nat) := (true, [([], []), ([], []), ([0, 1], [0, 1]), ([2], [2]), ([3], [3]), ([3], [3]), ([4, 5, 3, 3], [3, 4, 5]), ([6, 3], [3, 6]), ([3, 7], [3, 7]), ([8, 6], [8]), ([9], [9]), ([9], [9]), ([10, 11, 9, 9], [9, 10, 11]), ([9], [9]), ([9], [9]), ([13, 14, 12, 9], [9, 13, 14]), ([12, 15, 9], [9, 12, 15]), ([9, 16], [9, 16]), ([17, 15], [17]), ([18], [18]), ([18], [18]), ([19, 20, 18, 18], [18, 19, 20]), ([21, 18], [18, 21]), ([18, 22], [18, 22])])
def laws_FnCacheFind.B6 : List Nat := [0, 0, 3, 7, 15, 15, 63, 127, 255, 511, 1023, 1023, 4095, 1023, 1023, 32767, 65535, 131071, 262143, 524287, 524287, 2097151, 4194303, 8388607]
theorem laws_FnCacheFind.tab6 : rtab .any (opsOf Try.f6 6) = laws_FnCacheFind.T6 := by kernel_rfl
theorem laws_FnCacheFind.bits6 : waitsOk laws_FnCacheFind.T6.2 laws_FnCacheFind.B6 = true := by kernel_rfl
def laws_FnCacheFind.T7 : Bool × List (List Nat × List Nat) := (true, [([], []), ([], []), ([0, 1], [0, 1]), ([2], [2]), ([3], [3]), ([3], [3]), ([4, 5, 3, 3], [3, 4, 5]), ([3, 6], [3, 6]), ([7, 6], [7]), ([8], [8]), ([8], [8]), ([9, 10, 8, 8], [8, 9, 10]), ([8], [8]), ([8], [8]), ([12, 13, 11, 8], [8, 12, 13]), ([11, 14, 8], [8, 11, 14]), ([8, 15], [8, 15]), ([16, 14, 0, 1, 2, 3, 4, 5, 6, 7, 8, 9, 10, 11, 12, 13, 14, 15, 16], [16])])
def laws_FnCacheFind.B7 : List Nat := [0, 0, 3, 7, 15, 15, 63, 127, 255, 511, 511, 2047, 511, 511, 16383, 32767, 65535, 131071]
theorem laws_FnCacheFind.tab7 : rtab .any (opsOf Try.f6 7) = laws_FnCacheFind.T7 := by kernel_rfl
theorem laws_FnCacheFind.bits7 : waitsOk laws_FnCacheFind.T7.2 laws_FnCacheFind.B7 = true := by kernel_rfl
set_option maxHeartbeats 8000000 in
set_option maxRecDepth 100000 in
theorem laws_FnCacheFind.calls (k : Nat) (A0 : Option Addr) (c0 : Nat) (l0 : List Int) (r : Bool) (w : World) (hr0 : Kd.C (Kd.int .u8) w A0 l0.length l0) (hc0 : l0.length ≤ c0) (hr0_ : r = true) (h : laws_FnCacheFind.f k l0 = some r) :
  Calls Try.prog 6 #[.slice A0 l0.length c0] w fun e w' => e = .returned (.bool r) ∧ Below w.heap.size w w' := by
 have hu46 := Try.underlying46
 have hu25 := Try.underlying25
 have HR0 := Aside0.mk hr0
 have HC0 := Aside0.mk hc0
 clear hr0 hc0
 have HB := am (Below.refl w.heap.size w)
 have H : (if (l0.length : Int) > 1048576 then (some true) else ((spec_DrawCacheFind.f k l0).bind fun bt101 => ((impl_CacheFind.f k bt101.1 bt101.2.1 bt101.2.2.1 bt101.2.2.2.1 bt101.2.2.2.2.1 bt101.2.2.2.2.2).bind fun bt113 => ((spec_CacheFind.f k bt101.1 bt101.2.1 bt101.2.2.1 bt101.2.2.2.1 bt101.2.2.2.2.1 bt101.2.2.2.2.2).bind fun bt119 => (if bt113.2.2 = bt119.2.2 then ((laws_ovCache.f k bt113.1 bt113.2.1 bt119.1 bt119.2.1).bind fun t125 => (if t125 = true then ((impl_CacheOk.f k bt101.1 bt101.2.1 bt101.2.2.1).bind fun t126 => ((spec_CacheOk.f k bt101.1 bt101.2.1 bt101.2.2.1).bind fun t127 => (if (t126 != t127) = true then (laws_FnCacheFind.j0 k bt101.1 bt113.2.2 bt119.2.2 true bt101.2.1 bt101.2.2.1 bt101.2.2.2.1 bt101.2.2.2.2.1 bt101.2.2.2.2.2 bt113.1 bt113.2.1 bt119.1 bt119.2.1) else ((spec_CacheOk.f k bt101.1 bt101.2.1 bt101.2.2.1).bind fun t128 => (laws_FnCacheFind.j0 k bt101.1 bt113.2.2 bt119.2.2 (!t128) bt101.2.1 bt101.2.2.1 bt101.2.2.2.1 bt101.2.2.2.2.1 bt101.2.2.2.2.2 bt113.1 bt113.2.1 bt119.1 bt119.2.1))))) else (laws_FnCacheFind.j0 k bt101.1 bt113.2.2 bt119.2.2 true bt101.2.1 bt101.2.2.1 bt101.2.2.2.1 bt101.2.2.2.2.1 bt101.2.2.2.2.2 bt113.1 bt113.2.1 bt119.1 bt119.2.1))) else (laws_FnCacheFind.j0 k bt101.1 bt113.2.2 bt119.2.2 true bt101.2.1 bt101.2.2.1 bt101.2.2.2.1 bt101.2.2.2.2.1 bt101.2.2.2.2.2 bt113.1 bt113.2.1 bt119.1 bt119.2.1)))))) = some r := h
 clear h
 have HR_ := Aside0.mk hr0_
 clear hr0_
 by_cases c2 : (l0.length : Int) > 1048576
 ·rw [if_pos c2] at H
  have c2b0 : decide (1048576 < (l0.length : Int)) = true := decide_eq_true c2
  have c2b1 : decide (1048576 < l0.length) = true := decide_eq_true (by omega)
  clear c2
  obtain rfl := Option.some.inj H
  go_enter Try.func6, Try.ntmps6
  go_wp2
  go_ret
  exact ⟨by first | rfl | (simp [errW_none, errW_some] <;> rfl) | (simp [*, errW_none, errW_some] <;> rfl), KL HB⟩
 ·rw [if_neg c2] at H
  have c2b0 : decide (1048576 < (l0.length : Int)) = false := decide_eq_false c2
  have c2b1 : decide (1048576 < l0.length) = false := decide_eq_false (by omega)
  clear c2
  replace H := Option.bind_eq_some_iff.mp H
  obtain ⟨⟨t101, t104, t105, t108, t109, t110⟩, A30, H⟩ := H
  replace H : ((impl_CacheFind.f k t101 t104 t105 t108 t109 t110).bind fun bt113 => ((spec_CacheFind.f k t101 t104 t105 t108 t109 t110).bind fun bt119 => (if bt113.2.2 = bt119.2.2 then ((laws_ovCache.f k bt113.1 bt113.2.1 bt119.1 bt119.2.1).bind fun t125 => (if t125 = true then ((impl_CacheOk.f k t101 t104 t105).bind fun t126 => ((spec_CacheOk.f k t101 t104 t105).bind fun t127 => (if (t126 != t127) = true then (laws_FnCacheFind.j0 k t101 bt113.2.2 bt119.2.2 true t104 t105 t108 t109 t110 bt113.1 bt113.2.1 bt119.1 bt119.2.1) else ((spec_CacheOk.f k t101 t104 t105).bind fun t128 => (laws_FnCacheFind.j0 k t101 bt113.2.2 bt119.2.2 (!t128) t104 t105 t108 t109 t110 bt113.1 bt113.2.1 bt119.1 bt119.2.1))))) else (laws_FnCacheFind.j0 k t101 bt113.2.2 bt119.2.2 true t104 t105 t108 t109 t110 bt113.1 bt113.2.1 bt119.1 bt119.2.1))) else (laws_FnCacheFind.j0 k t101 bt113.2.2 bt119.2.2 true t104 t105 t108 t109 t110 bt113.1 bt113.2.1 bt119.1 bt119.2.1)))) = some r := H
  have A3 := Aside0.mk A30
  clear A30
  replace H := Option.bind_eq_some_iff.mp H
  obtain ⟨⟨t113, t114, t117⟩, A40, H⟩ := H
  replace H : ((spec_CacheFind.f k t101 t104 t105 t108 t109 t110).bind fun bt119 => (if t117 = bt119.2.2 then ((laws_ovCache.f k t113 t114 bt119.1 bt119.2.1).bind fun t125 => (if t125 = true then ((impl_CacheOk.f k t101 t104 t105).bind fun t126 => ((spec_CacheOk.f k t101 t104 t105).bind fun t127 => (if (t126 != t127) = true then (laws_FnCacheFind.j0 k t101 t117 bt119.2.2 true t104 t105 t108 t109 t110 t113 t114 bt119.1 bt119.2.1) else ((spec_CacheOk.f k t101 t104 t105).bind fun t128 => (laws_FnCacheFind.j0 k t101 t117 bt119.2.2 (!t128) t104 t105 t108 t109 t110 t113 t114 bt119.1 bt119.2.1))))) else (laws_FnCacheFind.j0 k t101 t117 bt119.2.2 true t104 t105 t108 t109 t110 t113 t114 bt119.1 bt119.2.1))) else (laws_FnCacheFind.j0 k t101 t117 bt119.2.2 true t104 t105 t108 t109 t110 t113 t114 bt119.1 bt119.2.1))) = some r := H
  have A4 := Aside0.mk A40
  clear A40
  replace H := Option.bind_eq_some_iff.mp H
  obtain ⟨⟨t119, t120, t123⟩, A50, H⟩ := H
  replace H : (if t117 = t123 then ((laws_ovCache.f k t113 t114 t119 t120).bind fun t125 => (if t125 = true then ((impl_CacheOk.f k t101 t104 t105).bind fun t126 => ((spec_CacheOk.f k t101 t104 t105).bind fun t127 => (if (t126 != t127) = true then (laws_FnCacheFind.j0 k t101 t117 t123 true t104 t105 t108 t109 t110 t113 t114 t119 t120) else ((spec_CacheOk.f k t101 t104 t105).bind fun t128 => (laws_FnCacheFind.j0 k t101 t117 t123 (!t128) t104 t105 t108 t109 t110 t113 t114 t119 t120))))) else (laws_FnCacheFind.j0 k t101 t117 t123 true t104 t105 t108 t109 t110 t113 t114 t119 t120))) else (laws_FnCacheFind.j0 k t101 t117 t123 true t104 t105 t108 t109 t110 t113 t114 t119 t120)) = some r := H
  have A5 := Aside0.mk A50
  clear A50
  have HC6 := Aside0.mk H
  clear H
  go_enter Try.func6, Try.ntmps6
  go_upto_region 6 with (first | ((with_reducible refine gate_callee (f := 29) rfl ?_); refine goesL_ (some 17) rfl rfl Try.func29 (by kernel_rfl) rfl #[.slice A0 l0.length c0] rfl MT ?_; (with_reducible refine (spec_DrawCacheFind.calls k _ _ l0 t101 t104 t105 t108 t109 t110 _ ?side1 ?side2 A3.out).mono ?_); (case side1 => exact KC HR0.out); (case side2 => exact HC0.out); rintro e w7 ⟨v102, v106, rfl, ho0, ho1, hb⟩; refine ⟨_, rfl, ?_⟩; have HO103 := am (Kd.R_lower ho0 (below_size (KL HB))); have HO107 := am (Kd.R_lower ho1 (below_size (KL HB))); replace HB := am (below_step (KL HB) hb); (try clear hb); (try clear hb2); (try clear hk); (try clear hi); (try clear ho0); (try clear ho1)) | ((with_reducible refine gate_dst (N := 4) rfl ?_); (try (refine gate_guard (by rfl) ?_; dsimp only)); refine box_event rfl (N := 4) rfl (cs := #[.int .i64 0, .slice none 0 0]) (t := 46) BX ?_; intro gb111 hg w8 hbox hb; replace HO103 := am (Kd.R_below (KR HO103) hb); replace HO107 := am (Kd.R_below (KR HO107) hb); have BK111 := am (hbox); have GW111 := am ((GL hg (below_size (KL HB)) : w.heap.size ≤ gb111)); have GE111 := GW111; replace HB := am (below_step (KL HB) hb); clear hb hbox hg) | ((with_reducible refine gate_dst (N := 5) rfl ?_); (try (refine gate_guard (by rfl) ?_; dsimp only)); refine box_event rfl (N := 5) rfl (cs := #[.int .i64 0, .int .i64 0, .int .i64 0]) (t := 25) BX ?_; intro gb112 hg w9 hbox hb; replace HO103 := am (Kd.R_below (KR HO103) hb); replace HO107 := am (Kd.R_below (KR HO107) hb); have BK112 := am (hbox); have GW112 := am ((GL hg (below_size (K1 HB GE111.out)) : w.heap.size ≤ gb112)); have GE112 := GW112; replace HB := am (below_step (K1 HB GE111.out) hb); have NB111_112 := am (NL BK111 hg); have NB112_111 := am (NG BK111 hg); replace BK111 := am (BB BK111 hb); clear hb hbox hg; have hnb10 := NB111_112.out; have hnc10 := NB112_111.out; have hcz11_0 := z0 w9 BK111.out; have hcz11_1 := z1 w9 BK111.out; have hfz11_0 := blk_frozen BK111.out 0; have hfz11_1 := blk_frozen BK111.out 1; obtain ⟨Ao12, co12, eo12⟩ := Kd.R_slice HO107.out; subst eo12; have hcz13_0 := z0 w9 BK112.out; have hcz13_1 := z1 w9 BK112.out; have hcz13_2 := z2 w9 BK112.out; have hfz13_0 := blk_frozen BK112.out 0; have hfz13_1 := blk_frozen BK112.out 1; have hfz13_2 := blk_frozen BK112.out 2; obtain ⟨Ao14, co14, eo14⟩ := Kd.R_slice HO103.out; subst eo14) | ((with_reducible refine gate_callee (f := 30) rfl ?_); refine goesL_ (some 25) rfl rfl Try.func30 (by kernel_rfl) rfl #[.slice Ao14 t101.length co14, .agg #[.int .i64 t104, .slice Ao12 t105.length co12], .agg #[.int .i64 t108, .int .i64 t109, .int .i64 t110]] rfl MT ?_; (with_reducible refine (impl_CacheFind.calls k _ _ t101 t104 _ _ t105 t108 t109 t110 t113 t114 t117 _ ?side1 ?side2 ?side3 ?side4 A4.out).mono ?_); (case side1 => refine (Kd.R_reads' (e := 34) (base := w.heap.size) (ok := fun k_ => True) (n := t101.length) (c := co14) ?_).2.2; exact (by (with_reducible repeat (first | apply Kd.R_alloc | apply Kd.R_drewN | apply Kd.R_drew)); exact (Kd.R_mono (Kd.R_mono (Kd.R_far (p := ⟨gb112, 2, none⟩) (Kd.R_far (p := ⟨gb112, 1, none⟩) (Kd.R_far (p := ⟨gb112, 0, none⟩) (Kd.R_far (p := ⟨gb111, 1, none⟩) (Kd.R_far (p := ⟨gb111, 0, none⟩) (Kd.R_types (Kd.R_types HO103.out BK111.out (by decide)) BK112.out (by decide)) (fun _ hk => hk.1.2) (.int .i64 t104)) (fun _ hk => hk.1.2) (.slice Ao12 t105.length co12)) (fun _ hk => hk.2) (.int .i64 t108)) (fun _ hk => hk.2) (.int .i64 t109)) (fun _ hk => hk.2) (.int .i64 t110)) (fun _ h_ => h_.1)) (fun _ h_ => h_.1)))); (case side2 => exact (Kd.R_reads' HO103.out).2.1); (case side3 => refine (Kd.R_reads' (e := 108) (base := w.heap.size) (ok := fun k_ => True) (n := t105.length) (c := co12) ?_).2.2; exact (by (with_reducible repeat (first | apply Kd.R_alloc | apply Kd.R_drewN | apply Kd.R_drew)); exact (Kd.R_mono (Kd.R_mono (Kd.R_far (p := ⟨gb112, 2, none⟩) (Kd.R_far (p := ⟨gb112, 1, none⟩) (Kd.R_far (p := ⟨gb112, 0, none⟩) (Kd.R_far (p := ⟨gb111, 1, none⟩) (Kd.R_far (p := ⟨gb111, 0, none⟩) (Kd.R_types (Kd.R_types HO107.out BK111.out (by decide)) BK112.out (by decide)) (fun _ hk => hk.1.2) (.int .i64 t104)) (fun _ hk => hk.1.2) (.slice Ao12 t105.length co12)) (fun _ hk => hk.2) (.int .i64 t108)) (fun _ hk => hk.2) (.int .i64 t109)) (fun _ hk => hk.2) (.int .i64 t110)) (fun _ h_ => h_.1)) (fun _ h_ => h_.1)))); (case side4 => exact (Kd.R_reads' HO107.out).2.1); rintro e w15 ⟨v115, rfl, ho0, hb⟩; refine ⟨_, rfl, ?_⟩; replace HO103 := am (Kd.R_below (by (with_reducible repeat (first | apply Kd.R_alloc | apply Kd.R_drewN | apply Kd.R_drew)); exact (Kd.R_mono (Kd.R_mono (Kd.R_far (p := ⟨gb112, 2, none⟩) (Kd.R_far (p := ⟨gb112, 1, none⟩) (Kd.R_far (p := ⟨gb112, 0, none⟩) (Kd.R_far (p := ⟨gb111, 1, none⟩) (Kd.R_far (p := ⟨gb111, 0, none⟩) (Kd.R_types (Kd.R_types HO103.out BK111.out (by decide)) BK112.out (by decide)) (fun _ hk => hk.1.2) (.int .i64 t104)) (fun _ hk => hk.1.2) (.slice Ao12 t105.length co12)) (fun _ hk => hk.2) (.int .i64 t108)) (fun _ hk => hk.2) (.int .i64 t109)) (fun _ hk => hk.2) (.int .i64 t110)) (fun _ h_ => h_.1)) (fun _ h_ => h_.1))) hb); have HO116 := am (Kd.R_lower (Kd.R_new' ho0 (Kd.R_lt (by (with_reducible repeat (first | apply Kd.R_alloc | apply Kd.R_drewN | apply Kd.R_drew)); exact (Kd.R_mono (Kd.R_mono (Kd.R_far (p := ⟨gb112, 2, none⟩) (Kd.R_far (p := ⟨gb112, 1, none⟩) (Kd.R_far (p := ⟨gb112, 0, none⟩) (Kd.R_far (p := ⟨gb111, 1, none⟩) (Kd.R_far (p := ⟨gb111, 0, none⟩) (Kd.R_types (Kd.R_types HO107.out BK111.out (by decide)) BK112.out (by decide)) (fun _ hk => hk.1.2) (.int .i64 t104)) (fun _ hk => hk.1.2) (.slice Ao12 t105.length co12)) (fun _ hk => hk.2) (.int .i64 t108)) (fun _ hk => hk.2) (.int .i64 t109)) (fun _ hk => hk.2) (.int .i64 t110)) (fun _ h_ => h_.1)) (fun _ h_ => h_.1))))) (below_size (K2 HB GE111.out GE112.out))); replace HO107 := am (Kd.R_elder' (by (with_reducible repeat (first | apply Kd.R_alloc | apply Kd.R_drewN | apply Kd.R_drew)); exact (Kd.R_mono (Kd.R_mono (Kd.R_far (p := ⟨gb112, 2, none⟩) (Kd.R_far (p := ⟨gb112, 1, none⟩) (Kd.R_far (p := ⟨gb112, 0, none⟩) (Kd.R_far (p := ⟨gb111, 1, none⟩) (Kd.R_far (p := ⟨gb111, 0, none⟩) (Kd.R_types (Kd.R_types HO107.out BK111.out (by decide)) BK112.out (by decide)) (fun _ hk => hk.1.2) (.int .i64 t104)) (fun _ hk => hk.1.2) (.slice Ao12 t105.length co12)) (fun _ hk => hk.2) (.int .i64 t108)) (fun _ hk => hk.2) (.int .i64 t109)) (fun _ hk => hk.2) (.int .i64 t110)) (fun _ h_ => h_.1)) (fun _ h_ => h_.1))) (Kd.R_base ho0) hb); replace BK111 := am (blk_below (g := gb111) (o := .cells #[.int .i64 t104, .slice Ao12 t105.length co12] 46 (0, 0)) (by (with_reducible repeat (first | refine blk_drewN ?_ _ | refine blk_drew ?_ | refine blk_alloc ?_ _)); refine blk_far ?_ NB111_112.out _; (with_reducible repeat (first | refine blk_drewN ?_ _ | refine blk_drew ?_ | refine blk_alloc ?_ _)); refine blk_far ?_ NB111_112.out _; (with_reducible repeat (first | refine blk_drewN ?_ _ | refine blk_drew ?_ | refine blk_alloc ?_ _)); refine blk_far ?_ NB111_112.out _; (with_reducible repeat (first | refine blk_drewN ?_ _ | refine blk_drew ?_ | refine blk_alloc ?_ _)); refine blk_put (cs := #[.int .i64 t104, .slice none 0 0]) ?_ 1 _ rfl; (with_reducible repeat (first | refine blk_drewN ?_ _ | refine blk_drew ?_ | refine blk_alloc ?_ _)); refine blk_put (cs := #[.int .i64 0, .slice none 0 0]) ?_ 0 _ rfl; (with_reducible repeat (first | refine blk_drewN ?_ _ | refine blk_drew ?_ | refine blk_alloc ?_ _)); exact BK111.out) hb); replace BK112 := am (blk_below (g := gb112) (o := .cells #[.int .i64 t108, .int .i64 t109, .int .i64 t110] 25 (0, 0)) (by (with_reducible repeat (first | refine blk_drewN ?_ _ | refine blk_drew ?_ | refine blk_alloc ?_ _)); refine blk_put (cs := #[.int .i64 t108, .int .i64 t109, .int .i64 0]) ?_ 2 _ rfl; (with_reducible repeat (first | refine blk_drewN ?_ _ | refine blk_drew ?_ | refine blk_alloc ?_ _)); refine blk_put (cs := #[.int .i64 t108, .int .i64 0, .int .i64 0]) ?_ 1 _ rfl; (with_reducible repeat (first | refine blk_drewN ?_ _ | refine blk_drew ?_ | refine blk_alloc ?_ _)); refine blk_put (cs := #[.int .i64 0, .int .i64 0, .int .i64 0]) ?_ 0 _ rfl; (with_reducible repeat (first | refine blk_drewN ?_ _ | refine blk_drew ?_ | refine blk_alloc ?_ _)); refine blk_far ?_ NB112_111.out _; (with_reducible repeat (first | refine blk_drewN ?_ _ | refine blk_drew ?_ | refine blk_alloc ?_ _)); refine blk_far ?_ NB112_111.out _; (with_reducible repeat (first | refine blk_drewN ?_ _ | refine blk_drew ?_ | refine blk_alloc ?_ _)); exact BK112.out) hb); replace HB := am (below_step (K2 HB GE111.out GE112.out) hb); (try clear hb); (try clear hb2); (try clear hk); (try clear hi); (try clear ho0)) | ((with_reducible refine gate_dst (N := 6) rfl ?_); (try (refine gate_guard (by rfl) ?_; dsimp only)); refine box_event rfl (N := 6) rfl (cs := #[.int .i64 0, .slice none 0 0]) (t := 46) BX ?_; intro gb118 hg w16 hbox hb; replace HO103 := am (Kd.R_below (KR HO103) hb); replace HO107 := am (Kd.R_below (KR HO107) hb); replace HO116 := am (Kd.R_below (KR HO116) hb); have BK118 := am (hbox); have GW118 := am ((GL hg (below_size (K2 HB GE111.out GE112.out)) : w.heap.size ≤ gb118)); have GE118 := GW118; replace HB := am (below_step (K2 HB GE111.out GE112.out) hb); have NB111_118 := am (NL BK111 hg); have NB118_111 := am (NG BK111 hg); replace BK111 := am (BB BK111 hb); have NB112_118 := am (NL BK112 hg); have NB118_112 := am (NG BK112 hg); replace BK112 := am (BB BK112 hb); clear hb hbox hg; have hnb17 := NB118_111.out; have hnc17 := NB111_118.out; have hnb18 := NB118_112.out; have hnc18 := NB112_118.out; have hcz19_0 := z0 w16 BK118.out; have hcz19_1 := z1 w16 BK118.out; have hfz19_0 := blk_frozen BK118.out 0; have hfz19_1 := blk_frozen BK118.out 1; obtain ⟨Ao20, co20, eo20⟩ := Kd.R_slice HO116.out; subst eo20; have hcz21_0 := z0 w16 BK111.out; have hcz21_1 := z1 w16 BK111.out; have hfz21_0 := blk_frozen BK111.out 0; have hfz21_1 := blk_frozen BK111.out 1; have hcz22_0 := z0 w16 BK112.out; have hcz22_1 := z1 w16 BK112.out; have hcz22_2 := z2 w16 BK112.out; have hfz22_0 := blk_frozen BK112.out 0; have hfz22_1 := blk_frozen BK112.out 1; have hfz22_2 := blk_frozen BK112.out 2) | ((with_reducible refine gate_callee (f := 31) rfl ?_); refine goesL_ (some 32) rfl rfl Try.func31 (by kernel_rfl) rfl #[.slice Ao14 t101.length co14, .agg #[.int .i64 t104, .slice Ao12 t105.length co12], .agg #[.int .i64 t108, .int .i64 t109, .int .i64 t110]] rfl MT ?_; (with_reducible refine (spec_CacheFind.calls k _ _ t101 t104 _ _ t105 t108 t109 t110 t119 t120 t123 _ ?side1 ?side2 ?side3 ?side4 A5.out).mono ?_); (case side1 => refine (Kd.R_reads' (e := 34) (base := w.heap.size) (ok := fun k_ => True) (n := t101.length) (c := co14) ?_).2.2; exact (by (with_reducible repeat (first | apply Kd.R_alloc | apply Kd.R_drewN | apply Kd.R_drew)); exact (Kd.R_mono (Kd.R_far (p := ⟨gb118, 1, none⟩) (Kd.R_far (p := ⟨gb118, 0, none⟩) (Kd.R_types HO103.out BK118.out (by decide)) (fun _ hk => hk.2) (.int .i64 t113)) (fun _ hk => hk.2) (.slice Ao20 t114.length co20)) (fun _ h_ => h_.1)))); (case side2 => exact (Kd.R_reads' HO103.out).2.1); (case side3 => refine (Kd.R_reads' (e := 108) (base := w.heap.size) (ok := fun k_ => (True ∧ some k_ ≠ (.slice Ao20 t114.length co20 : Value).ownBlock)) (n := t105.length) (c := co12) ?_).2.2; exact (by (with_reducible repeat (first | apply Kd.R_alloc | apply Kd.R_drewN | apply Kd.R_drew)); exact (Kd.R_mono (Kd.R_far (p := ⟨gb118, 1, none⟩) (Kd.R_far (p := ⟨gb118, 0, none⟩) (Kd.R_types HO107.out BK118.out (by decide)) (fun _ hk => hk.2) (.int .i64 t113)) (fun _ hk => hk.2) (.slice Ao20 t114.length co20)) (fun _ h_ => h_.1)))); (case side4 => exact (Kd.R_reads' HO107.out).2.1); rintro e w23 ⟨v121, rfl, ho0, hb⟩; refine ⟨_, rfl, ?_⟩; replace HO103 := am (Kd.R_below (by (with_reducible repeat (first | apply Kd.R_alloc | apply Kd.R_drewN | apply Kd.R_drew)); exact (Kd.R_mono (Kd.R_far (p := ⟨gb118, 1, none⟩) (Kd.R_far (p := ⟨gb118, 0, none⟩) (Kd.R_types HO103.out BK118.out (by decide)) (fun _ hk => hk.2) (.int .i64 t113)) (fun _ hk => hk.2) (.slice Ao20 t114.length co20)) (fun _ h_ => h_.1))) hb); have HO122 := am (Kd.R_lower (Kd.R_new' (Kd.R_new' ho0 (Kd.R_lt (by (with_reducible repeat (first | apply Kd.R_alloc | apply Kd.R_drewN | apply Kd.R_drew)); exact (Kd.R_mono (Kd.R_far (p := ⟨gb118, 1, none⟩) (Kd.R_far (p := ⟨gb118, 0, none⟩) (Kd.R_types HO107.out BK118.out (by decide)) (fun _ hk => hk.2) (.int .i64 t113)) (fun _ hk => hk.2) (.slice Ao20 t114.length co20)) (fun _ h_ => h_.1))))) (Kd.R_lt (by (with_reducible repeat (first | apply Kd.R_alloc | apply Kd.R_drewN | apply Kd.R_drew)); exact (Kd.R_mono (Kd.R_far (p := ⟨gb118, 1, none⟩) (Kd.R_far (p := ⟨gb118, 0, none⟩) (Kd.R_types HO116.out BK118.out (by decide)) (fun _ hk => hk.2) (.int .i64 t113)) (fun _ hk => hk.2) (.slice Ao20 t114.length co20)) (fun _ h_ => h_.1))))) (below_size (K3 HB GE111.out GE112.out GE118.out))); replace HO107 := am (Kd.R_elder' (by (with_reducible repeat (first | apply Kd.R_alloc | apply Kd.R_drewN | apply Kd.R_drew)); exact (Kd.R_mono (Kd.R_far (p := ⟨gb118, 1, none⟩) (Kd.R_far (p := ⟨gb118, 0, none⟩) (Kd.R_types HO107.out BK118.out (by decide)) (fun _ hk => hk.2) (.int .i64 t113)) (fun _ hk => hk.2) (.slice Ao20 t114.length co20)) (fun _ h_ => h_.1))) (Kd.R_base ho0) hb); replace HO116 := am (Kd.R_elder' (by (with_reducible repeat (first | apply Kd.R_alloc | apply Kd.R_drewN | apply Kd.R_drew)); exact (Kd.R_mono (Kd.R_far (p := ⟨gb118, 1, none⟩) (Kd.R_far (p := ⟨gb118, 0, none⟩) (Kd.R_types HO116.out BK118.out (by decide)) (fun _ hk => hk.2) (.int .i64 t113)) (fun _ hk => hk.2) (.slice Ao20 t114.length co20)) (fun _ h_ => h_.1))) (Kd.R_base ho0) hb); replace BK111 := am (blk_below (g := gb111) (o := .cells #[.int .i64 t104, .slice Ao12 t105.length co12] 46 (0, 0)) (by (with_reducible repeat (first | refine blk_drewN ?_ _ | refine blk_drew ?_ | refine blk_alloc ?_ _)); refine blk_far ?_ NB111_118.out _; (with_reducible repeat (first | refine blk_drewN ?_ _ | refine blk_drew ?_ | refine blk_alloc ?_ _)); refine blk_far ?_ NB111_118.out _; (with_reducible repeat (first | refine blk_drewN ?_ _ | refine blk_drew ?_ | refine blk_alloc ?_ _)); exact BK111.out) hb); replace BK112 := am (blk_below (g := gb112) (o := .cells #[.int .i64 t108, .int .i64 t109, .int .i64 t110] 25 (0, 0)) (by (with_reducible repeat (first | refine blk_drewN ?_ _ | refine blk_drew ?_ | refine blk_alloc ?_ _)); refine blk_far ?_ NB112_118.out _; (with_reducible repeat (first | refine blk_drewN ?_ _ | refine blk_drew ?_ | refine blk_alloc ?_ _)); refine blk_far ?_ NB112_118.out _; (with_reducible repeat (first | refine blk_drewN ?_ _ | refine blk_drew ?_ | refine blk_alloc ?_ _)); exact BK112.out) hb); replace BK118 := am (blk_below (g := gb118) (o := .cells #[.int .i64 t113, .slice Ao20 t114.length co20] 46 (0, 0)) (by (with_reducible repeat (first | refine blk_drewN ?_ _ | refine blk_drew ?_ | refine blk_alloc ?_ _)); refine blk_put (cs := #[.int .i64 t113, .slice none 0 0]) ?_ 1 _ rfl; (with_reducible repeat (first | refine blk_drewN ?_ _ | refine blk_drew ?_ | refine blk_alloc ?_ _)); refine blk_put (cs := #[.int .i64 0, .slice none 0 0]) ?_ 0 _ rfl; (with_reducible repeat (first | refine blk_drewN ?_ _ | refine blk_drew ?_ | refine blk_alloc ?_ _)); exact BK118.out) hb); replace HB := am (below_step (K3 HB GE111.out GE112.out GE118.out) hb); (try clear hb); (try clear hb2); (try clear hk); (try clear hi); (try clear ho0)) | ((with_reducible refine gate_dst (N := 8) rfl ?_); (try (refine gate_guard (by rfl) ?_; dsimp only)); refine box_event rfl (N := 8) rfl (cs := #[.int .i64 0, .slice none 0 0]) (t := 46) BX ?_; intro gb124 hg w24 hbox hb; replace HO103 := am (Kd.R_below (KR HO103) hb); replace HO107 := am (Kd.R_below (KR HO107) hb); replace HO116 := am (Kd.R_below (KR HO116) hb); replace HO122 := am (Kd.R_below (KR HO122) hb); have BK124 := am (hbox); have GW124 := am ((GL hg (below_size (K3 HB GE111.out GE112.out GE118.out)) : w.heap.size ≤ gb124)); have GE124 := GW124; replace HB := am (below_step (K3 HB GE111.out GE112.out GE118.out) hb); have NB111_124 := am (NL BK111 hg); have NB124_111 := am (NG BK111 hg); replace BK111 := am (BB BK111 hb); have NB112_124 := am (NL BK112 hg); have NB124_112 := am (NG BK112 hg); replace BK112 := am (BB BK112 hb); have NB118_124 := am (NL BK118 hg); have NB124_118 := am (NG BK118 hg); replace BK118 := am (BB BK118 hb); clear hb hbox hg; have hnb25 := NB124_111.out; have hnc25 := NB111_124.out; have hnb26 := NB124_112.out; have hnc26 := NB112_124.out; have hnb27 := NB124_118.out; have hnc27 := NB118_124.out; have hcz28_0 := z0 w24 BK124.out; have hcz28_1 := z1 w24 BK124.out; have hfz28_0 := blk_frozen BK124.out 0; have hfz28_1 := blk_frozen BK124.out 1; obtain ⟨Ao29, co29, eo29⟩ := Kd.R_slice HO122.out; subst eo29))
  (try simp only [Act.put, List.setIfInBounds_toArray, List.set_cons_zero, List.set_cons_succ])
  go_cut [58] (fun v58 wc => ∃ (kq : Nat) (x58_5 : Bool), v58 = .bool x58_5 ∧ Aside0 (laws_FnCacheFind.j0 kq t101 t117 t123 x58_5 t104 t105 t108 t109 t110 t113 t114 t119 t120 = some r) ∧ Aside0 (kq ≤ k) ∧ Aside0 (Kd.R k34 34 wc w.heap.size (fun _ => True) (.slice Ao14 t101.length co14) t101) ∧ Aside0 (Kd.R k108 108 wc w.heap.size (fun k_ => some k_ ≠ ((.slice Ao20 t114.length co20) : Value).ownBlock ∧ some k_ ≠ ((.slice Ao29 t120.length co29) : Value).ownBlock) (.slice Ao12 t105.length co12) t105) ∧ Aside0 (Kd.R k108 108 wc w.heap.size (fun k_ => some k_ ≠ ((.slice Ao12 t105.length co12) : Value).ownBlock ∧ some k_ ≠ ((.slice Ao29 t120.length co29) : Value).ownBlock) (.slice Ao20 t114.length co20) t114) ∧ Aside0 (Kd.R k108 108 wc w.heap.size (fun k_ => some k_ ≠ ((.slice Ao12 t105.length co12) : Value).ownBlock ∧ some k_ ≠ ((.slice Ao20 t114.length co20) : Value).ownBlock) (.slice Ao29 t120.length co29) t120) ∧ Aside0 (wc.heap[gb111]? = some (.cells #[.int .i64 t104, (.slice Ao12 t105.length co12)] 46 (0, 0))) ∧ Aside0 (wc.heap[gb112]? = some (.cells #[.int .i64 t108, .int .i64 t109, .int .i64 t110] 25 (0, 0))) ∧ Aside0 (wc.heap[gb118]? = some (.cells #[.int .i64 t113, (.slice Ao20 t114.length co20)] 46 (0, 0))) ∧ Aside0 (wc.heap[gb124]? = some (.cells #[.int .i64 t119, (.slice Ao29 t120.length co29)] 46 (0, 0))) ∧ Aside0 (Below w.heap.size w wc))
  case first =>
   have H := HC6.out
   clear HC6
   by_cases c30 : t117 = t123
   ·rw [if_pos c30] at H
    have c30b0 : (t117 == t123) = true := beq_iff_eq.mpr c30
    have c30b1 : (t117 != t123) = false := bne_eq_false_iff_eq.mpr c30
    clear c30
    (first | rw [c30b0] | (simp only [i64_w, i32_w]; rw [c30b0]) | skip)
    replace H := Option.bind_eq_some_iff.mp H
    obtain ⟨t125, A310, H⟩ := H
    replace H : (if t125 = true then ((impl_CacheOk.f k t101 t104 t105).bind fun t126 => ((spec_CacheOk.f k t101 t104 t105).bind fun t127 => (if (t126 != t127) = true then (laws_FnCacheFind.j0 k t101 t117 t123 true t104 t105 t108 t109 t110 t113 t114 t119 t120) else ((spec_CacheOk.f k t101 t104 t105).bind fun t128 => (laws_FnCacheFind.j0 k t101 t117 t123 (!t128) t104 t105 t108 t109 t110 t113 t114 t119 t120))))) else (laws_FnCacheFind.j0 k t101 t117 t123 true t104 t105 t108 t109 t110 t113 t114 t119 t120)) = some r := H
    have A31 := Aside0.mk A310
    clear A310
    by_cases c32 : t125 = true
    ·subst c32
     have H1 : ((impl_CacheOk.f k t101 t104 t105).bind fun t126 => ((spec_CacheOk.f k t101 t104 t105).bind fun t127 => (if (t126 != t127) = true then (laws_FnCacheFind.j0 k t101 t117 t123 true t104 t105 t108 t109 t110 t113 t114 t119 t120) else ((spec_CacheOk.f k t101 t104 t105).bind fun t128 => (laws_FnCacheFind.j0 k t101 t117 t123 (!t128) t104 t105 t108 t109 t110 t113 t114 t119 t120))))) = some r := by rw [if_pos rfl] at H; exact H
     clear H
     have H := H1
     clear H1
     replace H := Option.bind_eq_some_iff.mp H
     obtain ⟨t126, A330, H⟩ := H
     replace H : ((spec_CacheOk.f k t101 t104 t105).bind fun t127 => (if (t126 != t127) = true then (laws_FnCacheFind.j0 k t101 t117 t123 true t104 t105 t108 t109 t110 t113 t114 t119 t120) else ((spec_CacheOk.f k t101 t104 t105).bind fun t128 => (laws_FnCacheFind.j0 k t101 t117 t123 (!t128) t104 t105 t108 t109 t110 t113 t114 t119 t120)))) = some r := H
     have A33 := Aside0.mk A330
     clear A330
     replace H := Option.bind_eq_some_iff.mp H
     obtain ⟨t127, A340, H⟩ := H
     replace H : (if (t126 != t127) = true then (laws_FnCacheFind.j0 k t101 t117 t123 true t104 t105 t108 t109 t110 t113 t114 t119 t120) else ((spec_CacheOk.f k t101 t104 t105).bind fun t128 => (laws_FnCacheFind.j0 k t101 t117 t123 (!t128) t104 t105 t108 t109 t110 t113 t114 t119 t120))) = some r := H
     have A34 := Aside0.mk A340
     clear A340
     by_cases c35 : (t126 != t127) = true
     ·rw [if_pos c35] at H
      have c35b0 : (t126 != t127) = true := c35
      (try (have c35b1 : decide (t126 = t127) = false := by simpa using c35))
      (try (have c35b2 : (t126 == t127) = false := by simpa using c35))
      (try (have c35b3 : ¬ (t126 = t127) := by simpa using c35))
      clear c35
      have H' := Aside0.mk H
      clear H
      try go_wp2
      have n0_ : Aside0 (Kd.R k34 34 ((w24.setCell ⟨gb124, 0, none⟩ (.int .i64 t119)).setCell ⟨gb124, 1, none⟩ (.slice Ao29 t120.length co29)) w.heap.size (fun _ => True) (.slice Ao14 t101.length co14) t101) := ⟨by (with_reducible repeat (first | apply Kd.R_alloc | apply Kd.R_drewN | apply Kd.R_drew)); exact Kd.R_mono (Kd.R_far (p := ⟨gb124, 1, none⟩) (Kd.R_far (p := ⟨gb124, 0, none⟩) (Kd.R_types HO103.out BK124.out (by decide)) (fun _ hk => hk.2) (.int .i64 t119)) (fun _ hk => hk.2) (.slice Ao29 t120.length co29)) (fun _ hk => trivial)⟩
      have n1_ : Aside0 (Kd.R k108 108 ((w24.setCell ⟨gb124, 0, none⟩ (.int .i64 t119)).setCell ⟨gb124, 1, none⟩ (.slice Ao29 t120.length co29)) w.heap.size (fun k_ => some k_ ≠ (.slice Ao20 t114.length co20 : Value).ownBlock ∧ some k_ ≠ (.slice Ao29 t120.length co29 : Value).ownBlock) (.slice Ao12 t105.length co12) t105) := ⟨by (with_reducible repeat (first | apply Kd.R_alloc | apply Kd.R_drewN | apply Kd.R_drew)); exact Kd.R_mono (Kd.R_far (p := ⟨gb124, 1, none⟩) (Kd.R_far (p := ⟨gb124, 0, none⟩) (Kd.R_types HO107.out BK124.out (by decide)) (fun _ hk => hk.2) (.int .i64 t119)) (fun _ hk => hk.2) (.slice Ao29 t120.length co29)) (fun _ hk => ⟨hk.1.1.2, hk.1.2⟩)⟩
      have n2_ : Aside0 (Kd.R k108 108 ((w24.setCell ⟨gb124, 0, none⟩ (.int .i64 t119)).setCell ⟨gb124, 1, none⟩ (.slice Ao29 t120.length co29)) w.heap.size (fun k_ => some k_ ≠ (.slice Ao12 t105.length co12 : Value).ownBlock ∧ some k_ ≠ (.slice Ao29 t120.length co29 : Value).ownBlock) (.slice Ao20 t114.length co20) t114) := ⟨by (with_reducible repeat (first | apply Kd.R_alloc | apply Kd.R_drewN | apply Kd.R_drew)); exact Kd.R_mono (Kd.R_far (p := ⟨gb124, 1, none⟩) (Kd.R_far (p := ⟨gb124, 0, none⟩) (Kd.R_types HO116.out BK124.out (by decide)) (fun _ hk => hk.2) (.int .i64 t119)) (fun _ hk => hk.2) (.slice Ao29 t120.length co29)) (fun _ hk => ⟨hk.1.1.2, hk.1.2⟩)⟩
      have n3_ : Aside0 (Kd.R k108 108 ((w24.setCell ⟨gb124, 0, none⟩ (.int .i64 t119)).setCell ⟨gb124, 1, none⟩ (.slice Ao29 t120.length co29)) w.heap.size (fun k_ => some k_ ≠ (.slice Ao12 t105.length co12 : Value).ownBlock ∧ some k_ ≠ (.slice Ao20 t114.length co20 : Value).ownBlock) (.slice Ao29 t120.length co29) t120) := ⟨by (with_reducible repeat (first | apply Kd.R_alloc | apply Kd.R_drewN | apply Kd.R_drew)); exact Kd.R_mono (Kd.R_far (p := ⟨gb124, 1, none⟩) (Kd.R_far (p := ⟨gb124, 0, none⟩) (Kd.R_types HO122.out BK124.out (by decide)) (fun _ hk => hk.2) (.int .i64 t119)) (fun _ hk => hk.2) (.slice Ao29 t120.length co29)) (fun _ hk => ⟨hk.1.1.2, hk.1.2⟩)⟩
      have n4_ : Aside0 (((w24.setCell ⟨gb124, 0, none⟩ (.int .i64 t119)).setCell ⟨gb124, 1, none⟩ (.slice Ao29 t120.length co29)).heap[gb111]? = some (.cells #[.int .i64 t104, .slice Ao12 t105.length co12] 46 (0, 0))) := ⟨by (with_reducible repeat (first | refine blk_drewN ?_ _ | refine blk_drew ?_ | refine blk_alloc ?_ _)); refine blk_far ?_ NB111_124.out _; (with_reducible repeat (first | refine blk_drewN ?_ _ | refine blk_drew ?_ | refine blk_alloc ?_ _)); refine blk_far ?_ NB111_124.out _; (with_reducible repeat (first | refine blk_drewN ?_ _ | refine blk_drew ?_ | refine blk_alloc ?_ _)); exact BK111.out⟩
      have n5_ : Aside0 (((w24.setCell ⟨gb124, 0, none⟩ (.int .i64 t119)).setCell ⟨gb124, 1, none⟩ (.slice Ao29 t120.length co29)).heap[gb112]? = some (.cells #[.int .i64 t108, .int .i64 t109, .int .i64 t110] 25 (0, 0))) := ⟨by (with_reducible repeat (first | refine blk_drewN ?_ _ | refine blk_drew ?_ | refine blk_alloc ?_ _)); refine blk_far ?_ NB112_124.out _; (with_reducible repeat (first | refine blk_drewN ?_ _ | refine blk_drew ?_ | refine blk_alloc ?_ _)); refine blk_far ?_ NB112_124.out _; (with_reducible repeat (first | refine blk_drewN ?_ _ | refine blk_drew ?_ | refine blk_alloc ?_ _)); exact BK112.out⟩
      have n6_ : Aside0 (((w24.setCell ⟨gb124, 0, none⟩ (.int .i64 t119)).setCell ⟨gb124, 1, none⟩ (.slice Ao29 t120.length co29)).heap[gb118]? = some (.cells #[.int .i64 t113, .slice Ao20 t114.length co20] 46 (0, 0))) := ⟨by (with_reducible repeat (first | refine blk_drewN ?_ _ | refine blk_drew ?_ | refine blk_alloc ?_ _)); refine blk_far ?_ NB118_124.out _; (with_reducible repeat (first | refine blk_drewN ?_ _ | refine blk_drew ?_ | refine blk_alloc ?_ _)); refine blk_far ?_ NB118_124.out _; (with_reducible repeat (first | refine blk_drewN ?_ _ | refine blk_drew ?_ | refine blk_alloc ?_ _)); exact BK118.out⟩
      have n7_ : Aside0 (((w24.setCell ⟨gb124, 0, none⟩ (.int .i64 t119)).setCell ⟨gb124, 1, none⟩ (.slice Ao29 t120.length co29)).heap[gb124]? = some (.cells #[.int .i64 t119, .slice Ao29 t120.length co29] 46 (0, 0))) := ⟨by (with_reducible repeat (first | refine blk_drewN ?_ _ | refine blk_drew ?_ | refine blk_alloc ?_ _)); refine blk_put (cs := #[.int .i64 t119, .slice none 0 0]) ?_ 1 _ rfl; (with_reducible repeat (first | refine blk_drewN ?_ _ | refine blk_drew ?_ | refine blk_alloc ?_ _)); refine blk_put (cs := #[.int .i64 0, .slice none 0 0]) ?_ 0 _ rfl; (with_reducible repeat (first | refine blk_drewN ?_ _ | refine blk_drew ?_ | refine blk_alloc ?_ _)); exact BK124.out⟩
      have n8_ : Aside0 (Below w.heap.size w ((w24.setCell ⟨gb124, 0, none⟩ (.int .i64 t119)).setCell ⟨gb124, 1, none⟩ (.slice Ao29 t120.length co29))) := ⟨K4 HB GE111.out GE112.out GE118.out GE124.out⟩
      (try clear HO103)
      (try clear HO107)
      (try clear HO116)
      (try clear HO122)
      (try clear BK111)
      (try clear BK112)
      (try clear BK118)
      (try clear BK124)
      (try clear HB)
      generalize ((w24.setCell ⟨gb124, 0, none⟩ (.int .i64 t119)).setCell ⟨gb124, 1, none⟩ (.slice Ao29 t120.length co29)) = w36 at n0_ n1_ n2_ n3_ n4_ n5_ n6_ n7_ n8_ ⊢
      have HO103 := n0_
      have HO107 := n1_
      have HO116 := n2_
      have HO122 := n3_
      have BK111 := n4_
      have BK112 := n5_
      have BK118 := n6_
      have BK124 := n7_
      have HB := n8_
      clear n0_ n1_ n2_ n3_ n4_ n5_ n6_ n7_ n8_
      replace HO103 := am (Kd.R_drew HO103.out)
      replace HO107 := am (Kd.R_drew HO107.out)
      replace HO116 := am (Kd.R_drew HO116.out)
      replace HO122 := am (Kd.R_drew HO122.out)
      replace BK111 := am (blk_drew BK111.out)
      replace BK112 := am (blk_drew BK112.out)
      replace BK118 := am (blk_drew BK118.out)
      replace BK124 := am (blk_drew BK124.out)
      replace HB := am (below_drew1 HB.out)
      refine start_ (n := 24) (S := fun w' => w'.cell? ⟨gb118, 0, none⟩ = some (.int .i64 t113) ∧ w'.cell? ⟨gb118, 1, none⟩ = some (.slice Ao20 t114.length co20) ∧ w'.cell? ⟨gb124, 0, none⟩ = some (.int .i64 t119) ∧ w'.cell? ⟨gb124, 1, none⟩ = some (.slice Ao29 t120.length co29) ∧ w'.cell? ⟨gb111, 0, none⟩ = some (.int .i64 t104) ∧ w'.cell? ⟨gb111, 1, none⟩ = some (.slice Ao12 t105.length co12)) (ds := []) (tf 0 24) (by kernel_rfl) rfl rfl ⟨z0 _ BK118.out, z1 _ BK118.out, z0 _ BK124.out, z1 _ BK124.out, z0 _ BK111.out, z1 _ BK111.out⟩ (fun hHeld => ?_); refine with_tabW laws_FnCacheFind.tab6 laws_FnCacheFind.bits6 (fun HT_ HW_ => ?_)
      generalize w36.drew = w37 at HO103 HO107 HO116 HO122 BK111 BK112 BK118 BK124 HB hHeld ⊢
      refine pu 0 (some 35) (tf 1 23) (any_of HT_.out (by kernel_rfl)) ?_
      refine pu 1 (some 36) (tf 2 22) (any_of HT_.out (by kernel_rfl)) ?_
      refine pu 2 (some 37) (tf 3 21) (any_of HT_.out (by kernel_rfl)) ?_
      refine pu 3 (some 38) (tf 4 20) (any_of HT_.out (by kernel_rfl)) ?_
      refine tk 4 (some 39) (tf 5 19) (take_ofW HT_.out HW_.out (by kernel_rfl)) hHeld ?_
      refine tk 5 (some 40) (tf 6 18) (take_ofW HT_.out HW_.out (by kernel_rfl)) hHeld ?_
      refine one_ (i := 6) (N := some 41) (tf 7 17) rfl rfl (one_of HT_.out (by kernel_rfl)) (by decide) (fun K hK => ?_)
      refine goes_ Try.func32 (by kernel_rfl) rfl #[.agg #[.int .i64 t113, .slice Ao20 t114.length co20], .agg #[.int .i64 t119, .slice Ao29 t120.length co29]] (by rfl) rfl rfl MT ?_
      with_reducible refine (laws_ovCache.calls k t113 _ _ t114 t119 _ _ t120 true _ ?side1 ?side2 ?side3 ?side4 A31.out).mono ?_
      (case side1 => exact KC (Kd.R_reads' HO116.out).2.2)
      (case side2 => exact (Kd.R_reads' HO116.out).2.1)
      (case side3 => exact KC (Kd.R_reads' HO122.out).2.2)
      (case side4 => exact (Kd.R_reads' HO122.out).2.1)
      rintro e w38 ⟨rfl, hb⟩
      refine ⟨_, rfl, ?_⟩
      replace HO103 := am (Kd.R_below (KR HO103) hb)
      replace HO107 := am (Kd.R_below (KR HO107) hb)
      replace HO116 := am (Kd.R_below (KR HO116) hb)
      replace HO122 := am (Kd.R_below (KR HO122) hb)
      replace BK111 := am (BB BK111 hb)
      replace BK112 := am (BB BK112 hb)
      replace BK118 := am (BB BK118 hb)
      replace BK124 := am (BB BK124 hb)
      replace HB := am (below_step (K4 HB GE111.out GE112.out GE118.out GE124.out) hb)
      (try clear hb)
      (try clear hb2)
      (try clear hk)
      (try clear hi)
      refine hK.out _ _ ⟨z0 _ BK118.out, z1 _ BK118.out, z0 _ BK124.out, z1 _ BK124.out, z0 _ BK111.out, z1 _ BK111.out⟩ (fun hHeld => ?_)
      clear hK K
      refine norm_ (a' := ?_) ?_ ?_
      rotate_left
      ·show Act.put _ (some 41) _ = _
       simp only [Act.put, List.setIfInBounds_toArray, List.set_cons_zero, List.set_cons_succ, i64_w, i32_w]
       rfl
      refine pu 7 (some 42) (tf 8 16) (any_of HT_.out (by kernel_rfl)) ?_
      refine pu 8 (some 43) (tf 9 15) (any_of HT_.out (by kernel_rfl)) ?_
      refine pu 9 (some 44) (tf 10 14) (any_of HT_.out (by kernel_rfl)) ?_
      refine pu 10 (some 45) (tf 11 13) (any_of HT_.out (by kernel_rfl)) ?_
      refine pu 13 (some 48) #[true, true, true, true, true, true, true, true, true, true, true, false, false, true, false, false, false, false, false, false, false, false, false, false] (any_of HT_.out (by kernel_rfl)) ?_
      refine tk 11 (some 46) #[true, true, true, true, true, true, true, true, true, true, true, true, false, true, false, false, false, false, false, false, false, false, false, false] (take_ofW HT_.out HW_.out (by kernel_rfl)) hHeld ?_
      refine tk 14 (some 49) #[true, true, true, true, true, true, true, true, true, true, true, true, false, true, true, false, false, false, false, false, false, false, false, false] (take_ofW HT_.out HW_.out (by kernel_rfl)) hHeld ?_
      refine one_ (i := 12) (N := some 47) (tf 15 9) rfl rfl (one_of HT_.out (by kernel_rfl)) (by decide) (fun K hK => ?_)
      refine goes_ Try.func26 (by kernel_rfl) rfl #[.slice Ao14 t101.length co14, .agg #[.int .i64 t104, .slice Ao12 t105.length co12]] (by rfl) rfl rfl MT ?_
      with_reducible refine (impl_CacheOk.calls k _ _ t101 t104 _ _ t105 t126 _ ?side1 ?side2 ?side3 ?side4 A33.out).mono ?_
      (case side1 => exact KC (Kd.R_reads' HO103.out).2.2)
      (case side2 => exact (Kd.R_reads' HO103.out).2.1)
      (case side3 => exact KC (Kd.R_reads' HO107.out).2.2)
      (case side4 => exact (Kd.R_reads' HO107.out).2.1)
      rintro e w39 ⟨rfl, hb⟩
      refine ⟨_, rfl, ?_⟩
      replace HO103 := am (Kd.R_below (KR HO103) hb)
      replace HO107 := am (Kd.R_below (KR HO107) hb)
      replace HO116 := am (Kd.R_below (KR HO116) hb)
      replace HO122 := am (Kd.R_below (KR HO122) hb)
      replace BK111 := am (BB BK111 hb)
      replace BK112 := am (BB BK112 hb)
      replace BK118 := am (BB BK118 hb)
      replace BK124 := am (BB BK124 hb)
      replace HB := am (below_step (K4 HB GE111.out GE112.out GE118.out GE124.out) hb)
      (try clear hb)
      (try clear hb2)
      (try clear hk)
      (try clear hi)
      refine hK.out _ _ ⟨z0 _ BK118.out, z1 _ BK118.out, z0 _ BK124.out, z1 _ BK124.out, z0 _ BK111.out, z1 _ BK111.out⟩ (fun hHeld => ?_)
      clear hK K
      refine norm_ (a' := ?_) ?_ ?_
      rotate_left
      ·show Act.put _ (some 47) _ = _
       simp only [Act.put, List.setIfInBounds_toArray, List.set_cons_zero, List.set_cons_succ, i64_w, i32_w]
       rfl
      refine one_ (i := 15) (N := some 50) (tf 16 8) rfl rfl (one_of HT_.out (by kernel_rfl)) (by decide) (fun K hK => ?_)
      refine goes_ Try.func23 (by kernel_rfl) rfl #[.slice Ao14 t101.length co14, .agg #[.int .i64 t104, .slice Ao12 t105.length co12]] (by rfl) rfl rfl MT ?_
      with_reducible refine (spec_CacheOk.calls k _ _ t101 t104 _ _ t105 t127 _ ?side1 ?side2 ?side3 ?side4 A34.out).mono ?_
      (case side1 => exact KC (Kd.R_reads' HO103.out).2.2)
      (case side2 => exact (Kd.R_reads' HO103.out).2.1)
      (case side3 => exact KC (Kd.R_reads' HO107.out).2.2)
      (case side4 => exact (Kd.R_reads' HO107.out).2.1)
      rintro e w40 ⟨rfl, hb⟩
      refine ⟨_, rfl, ?_⟩
      replace HO103 := am (Kd.R_below (KR HO103) hb)
      replace HO107 := am (Kd.R_below (KR HO107) hb)
      replace HO116 := am (Kd.R_below (KR HO116) hb)
      replace HO122 := am (Kd.R_below (KR HO122) hb)
      replace BK111 := am (BB BK111 hb)
      replace BK112 := am (BB BK112 hb)
      replace BK118 := am (BB BK118 hb)
      replace BK124 := am (BB BK124 hb)
      replace HB := am (below_step (K4 HB GE111.out GE112.out GE118.out GE124.out) hb)
      (try clear hb)
      (try clear hb2)
      (try clear hk)
      (try clear hi)
      refine hK.out _ _ ⟨z0 _ BK118.out, z1 _ BK118.out, z0 _ BK124.out, z1 _ BK124.out, z0 _ BK111.out, z1 _ BK111.out⟩ (fun hHeld => ?_)
      clear hK K
      refine norm_ (a' := ?_) ?_ ?_
      rotate_left
      ·show Act.put _ (some 50) _ = _
       simp only [Act.put, List.setIfInBounds_toArray, List.set_cons_zero, List.set_cons_succ, i64_w, i32_w]
       rfl
      refine pu 16 (some 51) (tf 17 7) (any_of HT_.out (by kernel_rfl)) ?_
      refine pu 17 (some 52) (tf 18 6) (any_of HT_.out (by kernel_rfl)) ?_
      refine pu 18 (some 53) (tf 19 5) (any_of HT_.out (by kernel_rfl)) ?_
      refine pn 19 (some 54) (tf 20 4) (any_of HT_.out (by kernel_rfl)) ?_
      refine pn 20 (some 55) (tf 21 3) (any_of HT_.out (by kernel_rfl)) ?_
      refine pn 21 (some 56) (tf 22 2) (any_of HT_.out (by kernel_rfl)) ?_
      refine pn 22 (some 57) (tf 23 1) (any_of HT_.out (by kernel_rfl)) ?_
      refine pu 23 (some 58) (tf 24 0) (any_of HT_.out (by kernel_rfl)) ?_
      refine done_ (done_of HT_.out (by kernel_rfl)) ?_
      try go_wp2
      go_meet
      case rel => exact ⟨_, (true), (by first | rfl | (simp; done) | (simp [*]; done)), H', ⟨by first | omega | exact Nat.le_refl _⟩, ⟨KR HO103⟩, ⟨KR HO107⟩, ⟨KR HO116⟩, ⟨KR HO122⟩, ⟨KB BK111⟩, ⟨KB BK112⟩, ⟨KB BK118⟩, ⟨KB BK124⟩, ⟨K4 HB GE111.out GE112.out GE118.out GE124.out⟩⟩
     ·rw [if_neg c35] at H
      have c35b0 : (t126 != t127) = false := by simpa using c35
      (try (have c35b1 : decide (t126 = t127) = true := by simpa using c35))
      (try (have c35b2 : (t126 == t127) = true := by simpa using c35))
      clear c35
      replace H := Option.bind_eq_some_iff.mp H
      obtain ⟨t128, A410, H⟩ := H
      replace H : (laws_FnCacheFind.j0 k t101 t117 t123 (!t128) t104 t105 t108 t109 t110 t113 t114 t119 t120) = some r := H
      have A41 := Aside0.mk A410
      clear A410
      have H' := Aside0.mk H
      clear H
      try go_wp2
      have n0_ : Aside0 (Kd.R k34 34 ((w24.setCell ⟨gb124, 0, none⟩ (.int .i64 t119)).setCell ⟨gb124, 1, none⟩ (.slice Ao29 t120.length co29)) w.heap.size (fun _ => True) (.slice Ao14 t101.length co14) t101) := ⟨by (with_reducible repeat (first | apply Kd.R_alloc | apply Kd.R_drewN | apply Kd.R_drew)); exact Kd.R_mono (Kd.R_far (p := ⟨gb124, 1, none⟩) (Kd.R_far (p := ⟨gb124, 0, none⟩) (Kd.R_types HO103.out BK124.out (by decide)) (fun _ hk => hk.2) (.int .i64 t119)) (fun _ hk => hk.2) (.slice Ao29 t120.length co29)) (fun _ hk => trivial)⟩
      have n1_ : Aside0 (Kd.R k108 108 ((w24.setCell ⟨gb124, 0, none⟩ (.int .i64 t119)).setCell ⟨gb124, 1, none⟩ (.slice Ao29 t120.length co29)) w.heap.size (fun k_ => some k_ ≠ (.slice Ao20 t114.length co20 : Value).ownBlock ∧ some k_ ≠ (.slice Ao29 t120.length co29 : Value).ownBlock) (.slice Ao12 t105.length co12) t105) := ⟨by (with_reducible repeat (first | apply Kd.R_alloc | apply Kd.R_drewN | apply Kd.R_drew)); exact Kd.R_mono (Kd.R_far (p := ⟨gb124, 1, none⟩) (Kd.R_far (p := ⟨gb124, 0, none⟩) (Kd.R_types HO107.out BK124.out (by decide)) (fun _ hk => hk.2) (.int .i64 t119)) (fun _ hk => hk.2) (.slice Ao29 t120.length co29)) (fun _ hk => ⟨hk.1.1.2, hk.1.2⟩)⟩
      have n2_ : Aside0 (Kd.R k108 108 ((w24.setCell ⟨gb124, 0, none⟩ (.int .i64 t119)).setCell ⟨gb124, 1, none⟩ (.slice Ao29 t120.length co29)) w.heap.size (fun k_ => some k_ ≠ (.slice Ao12 t105.length co12 : Value).ownBlock ∧ some k_ ≠ (.slice Ao29 t120.length co29 : Value).ownBlock) (.slice Ao20 t114.length co20) t114) := ⟨by (with_reducible repeat (first | apply Kd.R_alloc | apply Kd.R_drewN | apply Kd.R_drew)); exact Kd.R_mono (Kd.R_far (p := ⟨gb124, 1, none⟩) (Kd.R_far (p := ⟨gb124, 0, none⟩) (Kd.R_types HO116.out BK124.out (by decide)) (fun _ hk => hk.2) (.int .i64 t119)) (fun _ hk => hk.2) (.slice Ao29 t120.length co29)) (fun _ hk => ⟨hk.1.1.2, hk.1.2⟩)⟩
      have n3_ : Aside0 (Kd.R k108 108 ((w24.setCell ⟨gb124, 0, none⟩ (.int .i64 t119)).setCell ⟨gb124, 1, none⟩ (.slice Ao29 t120.length co29)) w.heap.size (fun k_ => some k_ ≠ (.slice Ao12 t105.length co12 : Value).ownBlock ∧ some k_ ≠ (.slice Ao20 t114.length co20 : Value).ownBlock) (.slice Ao29 t120.length co29) t120) := ⟨by (with_reducible repeat (first | apply Kd.R_alloc | apply Kd.R_drewN | apply Kd.R_drew)); exact Kd.R_mono (Kd.R_far (p := ⟨gb124, 1, none⟩) (Kd.R_far (p := ⟨gb124, 0, none⟩) (Kd.R_types HO122.out BK124.out (by decide)) (fun _ hk => hk.2) (.int .i64 t119)) (fun _ hk => hk.2) (.slice Ao29 t120.length co29)) (fun _ hk => ⟨hk.1.1.2, hk.1.2⟩)⟩
      have n4_ : Aside0 (((w24.setCell ⟨gb124, 0, none⟩ (.int .i64 t119)).setCell ⟨gb124, 1, none⟩ (.slice Ao29 t120.length co29)).heap[gb111]? = some (.cells #[.int .i64 t104, .slice Ao12 t105.length co12] 46 (0, 0))) := ⟨by (with_reducible repeat (first | refine blk_drewN ?_ _ | refine blk_drew ?_ | refine blk_alloc ?_ _)); refine blk_far ?_ NB111_124.out _; (with_reducible repeat (first | refine blk_drewN ?_ _ | refine blk_drew ?_ | refine blk_alloc ?_ _)); refine blk_far ?_ NB111_124.out _; (with_reducible repeat (first | refine blk_drewN ?_ _ | refine blk_drew ?_ | refine blk_alloc ?_ _)); exact BK111.out⟩
      have n5_ : Aside0 (((w24.setCell ⟨gb124, 0, none⟩ (.int .i64 t119)).setCell ⟨gb124, 1, none⟩ (.slice Ao29 t120.length co29)).heap[gb112]? = some (.cells #[.int .i64 t108, .int .i64 t109, .int .i64 t110] 25 (0, 0))) := ⟨by (with_reducible repeat (first | refine blk_drewN ?_ _ | refine blk_drew ?_ | refine blk_alloc ?_ _)); refine blk_far ?_ NB112_124.out _; (with_reducible repeat (first | refine blk_drewN ?_ _ | refine blk_drew ?_ | refine blk_alloc ?_ _)); refine blk_far ?_ NB112_124.out _; (with_reducible repeat (first | refine blk_drewN ?_ _ | refine blk_drew ?_ | refine blk_alloc ?_ _)); exact BK112.out⟩
      have n6_ : Aside0 (((w24.setCell ⟨gb124, 0, none⟩ (.int .i64 t119)).setCell ⟨gb124, 1, none⟩ (.slice Ao29 t120.length co29)).heap[gb118]? = some (.cells #[.int .i64 t113, .slice Ao20 t114.length co20] 46 (0, 0))) := ⟨by (with_reducible repeat (first | refine blk_drewN ?_ _ | refine blk_drew ?_ | refine blk_alloc ?_ _)); refine blk_far ?_ NB118_124.out _; (with_reducible repeat (first | refine blk_drewN ?_ _ | refine blk_drew ?_ | refine blk_alloc ?_ _)); refine blk_far ?_ NB118_124.out _; (with_reducible repeat (first | refine blk_drewN ?_ _ | refine blk_drew ?_ | refine blk_alloc ?_ _)); exact BK118.out⟩
      have n7_ : Aside0 (((w24.setCell ⟨gb124, 0, none⟩ (.int .i64 t119)).setCell ⟨gb124, 1, none⟩ (.slice Ao29 t120.length co29)).heap[gb124]? = some (.cells #[.int .i64 t119, .slice Ao29 t120.length co29] 46 (0, 0))) := ⟨by (with_reducible repeat (first | refine blk_drewN ?_ _ | refine blk_drew ?_ | refine blk_alloc ?_ _)); refine blk_put (cs := #[.int .i64 t119, .slice none 0 0]) ?_ 1 _ rfl; (with_reducible repeat (first | refine blk_drewN ?_ _ | refine blk_drew ?_ | refine blk_alloc ?_ _)); refine blk_put (cs := #[.int .i64 0, .slice none 0 0]) ?_ 0 _ rfl; (with_reducible repeat (first | refine blk_drewN ?_ _ | refine blk_drew ?_ | refine blk_alloc ?_ _)); exact BK124.out⟩
      have n8_ : Aside0 (Below w.heap.size w ((w24.setCell ⟨gb124, 0, none⟩ (.int .i64 t119)).setCell ⟨gb124, 1, none⟩ (.slice Ao29 t120.length co29))) := ⟨K4 HB GE111.out GE112.out GE118.out GE124.out⟩
      (try clear HO103)
      (try clear HO107)
      (try clear HO116)
      (try clear HO122)
      (try clear BK111)
      (try clear BK112)
      (try clear BK118)
      (try clear BK124)
      (try clear HB)
      generalize ((w24.setCell ⟨gb124, 0, none⟩ (.int .i64 t119)).setCell ⟨gb124, 1, none⟩ (.slice Ao29 t120.length co29)) = w42 at n0_ n1_ n2_ n3_ n4_ n5_ n6_ n7_ n8_ ⊢
      have HO103 := n0_
      have HO107 := n1_
      have HO116 := n2_
      have HO122 := n3_
      have BK111 := n4_
      have BK112 := n5_
      have BK118 := n6_
      have BK124 := n7_
      have HB := n8_
      clear n0_ n1_ n2_ n3_ n4_ n5_ n6_ n7_ n8_
      replace HO103 := am (Kd.R_drew HO103.out)
      replace HO107 := am (Kd.R_drew HO107.out)
      replace HO116 := am (Kd.R_drew HO116.out)
      replace HO122 := am (Kd.R_drew HO122.out)
      replace BK111 := am (blk_drew BK111.out)
      replace BK112 := am (blk_drew BK112.out)
      replace BK118 := am (blk_drew BK118.out)
      replace BK124 := am (blk_drew BK124.out)
      replace HB := am (below_drew1 HB.out)
      refine start_ (n := 24) (S := fun w' => w'.cell? ⟨gb118, 0, none⟩ = some (.int .i64 t113) ∧ w'.cell? ⟨gb118, 1, none⟩ = some (.slice Ao20 t114.length co20) ∧ w'.cell? ⟨gb124, 0, none⟩ = some (.int .i64 t119) ∧ w'.cell? ⟨gb124, 1, none⟩ = some (.slice Ao29 t120.length co29) ∧ w'.cell? ⟨gb111, 0, none⟩ = some (.int .i64 t104) ∧ w'.cell? ⟨gb111, 1, none⟩ = some (.slice Ao12 t105.length co12)) (ds := []) (tf 0 24) (by kernel_rfl) rfl rfl ⟨z0 _ BK118.out, z1 _ BK118.out, z0 _ BK124.out, z1 _ BK124.out, z0 _ BK111.out, z1 _ BK111.out⟩ (fun hHeld => ?_); refine with_tabW laws_FnCacheFind.tab6 laws_FnCacheFind.bits6 (fun HT_ HW_ => ?_)
      generalize w42.drew = w43 at HO103 HO107 HO116 HO122 BK111 BK112 BK118 BK124 HB hHeld ⊢
      refine pu 0 (some 35) (tf 1 23) (any_of HT_.out (by kernel_rfl)) ?_
      refine pu 1 (some 36) (tf 2 22) (any_of HT_.out (by kernel_rfl)) ?_
      refine pu 2 (some 37) (tf 3 21) (any_of HT_.out (by kernel_rfl)) ?_
      refine pu 3 (some 38) (tf 4 20) (any_of HT_.out (by kernel_rfl)) ?_
      refine tk 4 (some 39) (tf 5 19) (take_ofW HT_.out HW_.out (by kernel_rfl)) hHeld ?_
      refine tk 5 (some 40) (tf 6 18) (take_ofW HT_.out HW_.out (by kernel_rfl)) hHeld ?_
      refine one_ (i := 6) (N := some 41) (tf 7 17) rfl rfl (one_of HT_.out (by kernel_rfl)) (by decide) (fun K hK => ?_)
      refine goes_ Try.func32 (by kernel_rfl) rfl #[.agg #[.int .i64 t113, .slice Ao20 t114.length co20], .agg #[.int .i64 t119, .slice Ao29 t120.length co29]] (by rfl) rfl rfl MT ?_
      with_reducible refine (laws_ovCache.calls k t113 _ _ t114 t119 _ _ t120 true _ ?side1 ?side2 ?side3 ?side4 A31.out).mono ?_
      (case side1 => exact KC (Kd.R_reads' HO116.out).2.2)
      (case side2 => exact (Kd.R_reads' HO116.out).2.1)
      (case side3 => exact KC (Kd.R_reads' HO122.out).2.2)
      (case side4 => exact (Kd.R_reads' HO122.out).2.1)
      rintro e w44 ⟨rfl, hb⟩
      refine ⟨_, rfl, ?_⟩
      replace HO103 := am (Kd.R_below (KR HO103) hb)
      replace HO107 := am (Kd.R_below (KR HO107) hb)
      replace HO116 := am (Kd.R_below (KR HO116) hb)
      replace HO122 := am (Kd.R_below (KR HO122) hb)
      replace BK111 := am (BB BK111 hb)
      replace BK112 := am (BB BK112 hb)
      replace BK118 := am (BB BK118 hb)
      replace BK124 := am (BB BK124 hb)
      replace HB := am (below_step (K4 HB GE111.out GE112.out GE118.out GE124.out) hb)
      (try clear hb)
      (try clear hb2)
      (try clear hk)
      (try clear hi)
      refine hK.out _ _ ⟨z0 _ BK118.out, z1 _ BK118.out, z0 _ BK124.out, z1 _ BK124.out, z0 _ BK111.out, z1 _ BK111.out⟩ (fun hHeld => ?_)
      clear hK K
      refine norm_ (a' := ?_) ?_ ?_
      rotate_left
      ·show Act.put _ (some 41) _ = _
       simp only [Act.put, List.setIfInBounds_toArray, List.set_cons_zero, List.set_cons_succ, i64_w, i32_w]
       rfl
      refine pu 7 (some 42) (tf 8 16) (any_of HT_.out (by kernel_rfl)) ?_
      refine pu 8 (some 43) (tf 9 15) (any_of HT_.out (by kernel_rfl)) ?_
      refine pu 9 (some 44) (tf 10 14) (any_of HT_.out (by kernel_rfl)) ?_
      refine pu 10 (some 45) (tf 11 13) (any_of HT_.out (by kernel_rfl)) ?_
      refine pu 13 (some 48) #[true, true, true, true, true, true, true, true, true, true, true, false, false, true, false, false, false, false, false, false, false, false, false, false] (any_of HT_.out (by kernel_rfl)) ?_
      refine tk 11 (some 46) #[true, true, true, true, true, true, true, true, true, true, true, true, false, true, false, false, false, false, false, false, false, false, false, false] (take_ofW HT_.out HW_.out (by kernel_rfl)) hHeld ?_
      refine tk 14 (some 49) #[true, true, true, true, true, true, true, true, true, true, true, true, false, true, true, false, false, false, false, false, false, false, false, false] (take_ofW HT_.out HW_.out (by kernel_rfl)) hHeld ?_
      refine one_ (i := 12) (N := some 47) (tf 15 9) rfl rfl (one_of HT_.out (by kernel_rfl)) (by decide) (fun K hK => ?_)
      refine goes_ Try.func26 (by kernel_rfl) rfl #[.slice Ao14 t101.length co14, .agg #[.int .i64 t104, .slice Ao12 t105.length co12]] (by rfl) rfl rfl MT ?_
      with_reducible refine (impl_CacheOk.calls k _ _ t101 t104 _ _ t105 t126 _ ?side1 ?side2 ?side3 ?side4 A33.out).mono ?_
      (case side1 => exact KC (Kd.R_reads' HO103.out).2.2)
      (case side2 => exact (Kd.R_reads' HO103.out).2.1)
      (case side3 => exact KC (Kd.R_reads' HO107.out).2.2)
      (case side4 => exact (Kd.R_reads' HO107.out).2.1)
      rintro e w45 ⟨rfl, hb⟩
      refine ⟨_, rfl, ?_⟩
      replace HO103 := am (Kd.R_below (KR HO103) hb)
      replace HO107 := am (Kd.R_below (KR HO107) hb)
      replace HO116 := am (Kd.R_below (KR HO116) hb)
      replace HO122 := am (Kd.R_below (KR HO122) hb)
      replace BK111 := am (BB BK111 hb)
      replace BK112 := am (BB BK112 hb)
      replace BK118 := am (BB BK118 hb)
      replace BK124 := am (BB BK124 hb)
      replace HB := am (below_step (K4 HB GE111.out GE112.out GE118.out GE124.out) hb)
      (try clear hb)
      (try clear hb2)
      (try clear hk)
      (try clear hi)
      refine hK.out _ _ ⟨z0 _ BK118.out, z1 _ BK118.out, z0 _ BK124.out, z1 _ BK124.out, z0 _ BK111.out, z1 _ BK111.out⟩ (fun hHeld => ?_)
      clear hK K
      refine norm_ (a' := ?_) ?_ ?_
      rotate_left
      ·show Act.put _ (some 47) _ = _
       simp only [Act.put, List.setIfInBounds_toArray, List.set_cons_zero, List.set_cons_succ, i64_w, i32_w]
       rfl
      refine one_ (i := 15) (N := some 50) (tf 16 8) rfl rfl (one_of HT_.out (by kernel_rfl)) (by decide) (fun K hK => ?_)
      refine goes_ Try.func23 (by kernel_rfl) rfl #[.slice Ao14 t101.length co14, .agg #[.int .i64 t104, .slice Ao12 t105.length co12]] (by rfl) rfl rfl MT ?_
      with_reducible refine (spec_CacheOk.calls k _ _ t101 t104 _ _ t105 t127 _ ?side1 ?side2 ?side3 ?side4 A34.out).mono ?_
      (case side1 => exact KC (Kd.R_reads' HO103.out).2.2)
      (case side2 => exact (Kd.R_reads' HO103.out).2.1)
      (case side3 => exact KC (Kd.R_reads' HO107.out).2.2)
      (case side4 => exact (Kd.R_reads' HO107.out).2.1)
      rintro e w46 ⟨rfl, hb⟩
      refine ⟨_, rfl, ?_⟩
      replace HO103 := am (Kd.R_below (KR HO103) hb)
      replace HO107 := am (Kd.R_below (KR HO107) hb)
      replace HO116 := am (Kd.R_below (KR HO116) hb)
      replace HO122 := am (Kd.R_below (KR HO122) hb)
      replace BK111 := am (BB BK111 hb)
      replace BK112 := am (BB BK112 hb)
      replace BK118 := am (BB BK118 hb)
      replace BK124 := am (BB BK124 hb)
      replace HB := am (below_step (K4 HB GE111.out GE112.out GE118.out GE124.out) hb)
      (try clear hb)
      (try clear hb2)
      (try clear hk)
      (try clear hi)
      refine hK.out _ _ ⟨z0 _ BK118.out, z1 _ BK118.out, z0 _ BK124.out, z1 _ BK124.out, z0 _ BK111.out, z1 _ BK111.out⟩ (fun hHeld => ?_)
      clear hK K
      refine norm_ (a' := ?_) ?_ ?_
      rotate_left
      ·show Act.put _ (some 50) _ = _
       simp only [Act.put, List.setIfInBounds_toArray, List.set_cons_zero, List.set_cons_succ, i64_w, i32_w]
       rfl
      refine pu 16 (some 51) (tf 17 7) (any_of HT_.out (by kernel_rfl)) ?_
      refine pu 17 (some 52) (tf 18 6) (any_of HT_.out (by kernel_rfl)) ?_
      refine pu 18 (some 53) (tf 19 5) (any_of HT_.out (by kernel_rfl)) ?_
      refine pu 19 (some 54) (tf 20 4) (any_of HT_.out (by kernel_rfl)) ?_
      refine tk 20 (some 55) (tf 21 3) (take_ofW HT_.out HW_.out (by kernel_rfl)) hHeld ?_
      refine one_ (i := 21) (N := some 56) (tf 22 2) rfl rfl (one_of HT_.out (by kernel_rfl)) (by decide) (fun K hK => ?_)
      refine goes_ Try.func23 (by kernel_rfl) rfl #[.slice Ao14 t101.length co14, .agg #[.int .i64 t104, .slice Ao12 t105.length co12]] (by rfl) rfl rfl MT ?_
      with_reducible refine (spec_CacheOk.calls k _ _ t101 t104 _ _ t105 t128 _ ?side1 ?side2 ?side3 ?side4 A41.out).mono ?_
      (case side1 => exact KC (Kd.R_reads' HO103.out).2.2)
      (case side2 => exact (Kd.R_reads' HO103.out).2.1)
      (case side3 => exact KC (Kd.R_reads' HO107.out).2.2)
      (case side4 => exact (Kd.R_reads' HO107.out).2.1)
      rintro e w47 ⟨rfl, hb⟩
      refine ⟨_, rfl, ?_⟩
      replace HO103 := am (Kd.R_below (KR HO103) hb)
      replace HO107 := am (Kd.R_below (KR HO107) hb)
      replace HO116 := am (Kd.R_below (KR HO116) hb)
      replace HO122 := am (Kd.R_below (KR HO122) hb)
      replace BK111 := am (BB BK111 hb)
      replace BK112 := am (BB BK112 hb)
      replace BK118 := am (BB BK118 hb)
      replace BK124 := am (BB BK124 hb)
      replace HB := am (below_step (K4 HB GE111.out GE112.out GE118.out GE124.out) hb)
      (try clear hb)
      (try clear hb2)
      (try clear hk)
      (try clear hi)
      refine hK.out _ _ ⟨z0 _ BK118.out, z1 _ BK118.out, z0 _ BK124.out, z1 _ BK124.out, z0 _ BK111.out, z1 _ BK111.out⟩ (fun hHeld => ?_)
      clear hK K
      refine norm_ (a' := ?_) ?_ ?_
      rotate_left
      ·show Act.put _ (some 56) _ = _
       simp only [Act.put, List.setIfInBounds_toArray, List.set_cons_zero, List.set_cons_succ, i64_w, i32_w]
       rfl
      refine pu 22 (some 57) (tf 23 1) (any_of HT_.out (by kernel_rfl)) ?_
      refine pu 23 (some 58) (tf 24 0) (any_of HT_.out (by kernel_rfl)) ?_
      refine done_ (done_of HT_.out (by kernel_rfl)) ?_
      try go_wp2
      go_meet
      case rel => exact ⟨_, (!t128), (by first | rfl | (simp; done) | (simp [*]; done)), H', ⟨by first | omega | exact Nat.le_refl _⟩, ⟨KR HO103⟩, ⟨KR HO107⟩, ⟨KR HO116⟩, ⟨KR HO122⟩, ⟨KB BK111⟩, ⟨KB BK112⟩, ⟨KB BK118⟩, ⟨KB BK124⟩, ⟨K4 HB GE111.out GE112.out GE118.out GE124.out⟩⟩
    ·replace c32 := Bool.eq_false_iff.mpr c32
     subst c32
     have H1 : (laws_FnCacheFind.j0 k t101 t117 t123 true t104 t105 t108 t109 t110 t113 t114 t119 t120) = some r := by rw [if_neg (show ¬ (false = true) by decide)] at H; exact H
     clear H
     have H := H1
     clear H1
     have H' := Aside0.mk H
     clear H
     try go_wp2
     have n0_ : Aside0 (Kd.R k34 34 ((w24.setCell ⟨gb124, 0, none⟩ (.int .i64 t119)).setCell ⟨gb124, 1, none⟩ (.slice Ao29 t120.length co29)) w.heap.size (fun _ => True) (.slice Ao14 t101.length co14) t101) := ⟨by (with_reducible repeat (first | apply Kd.R_alloc | apply Kd.R_drewN | apply Kd.R_drew)); exact Kd.R_mono (Kd.R_far (p := ⟨gb124, 1, none⟩) (Kd.R_far (p := ⟨gb124, 0, none⟩) (Kd.R_types HO103.out BK124.out (by decide)) (fun _ hk => hk.2) (.int .i64 t119)) (fun _ hk => hk.2) (.slice Ao29 t120.length co29)) (fun _ hk => trivial)⟩
     have n1_ : Aside0 (Kd.R k108 108 ((w24.setCell ⟨gb124, 0, none⟩ (.int .i64 t119)).setCell ⟨gb124, 1, none⟩ (.slice Ao29 t120.length co29)) w.heap.size (fun k_ => some k_ ≠ (.slice Ao20 t114.length co20 : Value).ownBlock ∧ some k_ ≠ (.slice Ao29 t120.length co29 : Value).ownBlock) (.slice Ao12 t105.length co12) t105) := ⟨by (with_reducible repeat (first | apply Kd.R_alloc | apply Kd.R_drewN | apply Kd.R_drew)); exact Kd.R_mono (Kd.R_far (p := ⟨gb124, 1, none⟩) (Kd.R_far (p := ⟨gb124, 0, none⟩) (Kd.R_types HO107.out BK124.out (by decide)) (fun _ hk => hk.2) (.int .i64 t119)) (fun _ hk => hk.2) (.slice Ao29 t120.length co29)) (fun _ hk => ⟨hk.1.1.2, hk.1.2⟩)⟩
     have n2_ : Aside0 (Kd.R k108 108 ((w24.setCell ⟨gb124, 0, none⟩ (.int .i64 t119)).setCell ⟨gb124, 1, none⟩ (.slice Ao29 t120.length co29)) w.heap.size (fun k_ => some k_ ≠ (.slice Ao12 t105.length co12 : Value).ownBlock ∧ some k_ ≠ (.slice Ao29 t120.length co29 : Value).ownBlock) (.slice Ao20 t114.length co20) t114) := ⟨by (with_reducible repeat (first | apply Kd.R_alloc | apply Kd.R_drewN | apply Kd.R_drew)); exact Kd.R_mono (Kd.R_far (p := ⟨gb124, 1, none⟩) (Kd.R_far (p := ⟨gb124, 0, none⟩) (Kd.R_types HO116.out BK124.out (by decide)) (fun _ hk => hk.2) (.int .i64 t119)) (fun _ hk => hk.2) (.slice Ao29 t120.length co29)) (fun _ hk => ⟨hk.1.1.2, hk.1.2⟩)⟩
     have n3_ : Aside0 (Kd.R k108 108 ((w24.setCell ⟨gb124, 0, none⟩ (.int .i64 t119)).setCell ⟨gb124, 1, none⟩ (.slice Ao29 t120.length co29)) w.heap.size (fun k_ => some k_ ≠ (.slice Ao12 t105.length co12 : Value).ownBlock ∧ some k_ ≠ (.slice Ao20 t114.length co20 : Value).ownBlock) (.slice Ao29 t120.length co29) t120) := ⟨by (with_reducible repeat (first | apply Kd.R_alloc | apply Kd.R_drewN | apply Kd.R_drew)); exact Kd.R_mono (Kd.R_far (p := ⟨gb124, 1, none⟩) (Kd.R_far (p := ⟨gb124, 0, none⟩) (Kd.R_types HO122.out BK124.out (by decide)) (fun _ hk => hk.2) (.int .i64 t119)) (fun _ hk => hk.2) (.slice Ao29 t120.length co29)) (fun _ hk => ⟨hk.1.1.2, hk.1.2⟩)⟩
     have n4_ : Aside0 (((w24.setCell ⟨gb124, 0, none⟩ (.int .i64 t119)).setCell ⟨gb124, 1, none⟩ (.slice Ao29 t120.length co29)).heap[gb111]? = some (.cells #[.int .i64 t104, .slice Ao12 t105.length co12] 46 (0, 0))) := ⟨by (with_reducible repeat (first | refine blk_drewN ?_ _ | refine blk_drew ?_ | refine blk_alloc ?_ _)); refine blk_far ?_ NB111_124.out _; (with_reducible repeat (first | refine blk_drewN ?_ _ | refine blk_drew ?_ | refine blk_alloc ?_ _)); refine blk_far ?_ NB111_124.out _; (with_reducible repeat (first | refine blk_drewN ?_ _ | refine blk_drew ?_ | refine blk_alloc ?_ _)); exact BK111.out⟩
     have n5_ : Aside0 (((w24.setCell ⟨gb124, 0, none⟩ (.int .i64 t119)).setCell ⟨gb124, 1, none⟩ (.slice Ao29 t120.length co29)).heap[gb112]? = some (.cells #[.int .i64 t108, .int .i64 t109, .int .i64 t110] 25 (0, 0))) := ⟨by (with_reducible repeat (first | refine blk_drewN ?_ _ | refine blk_drew ?_ | refine blk_alloc ?_ _)); refine blk_far ?_ NB112_124.out _; (with_reducible repeat (first | refine blk_drewN ?_ _ | refine blk_drew ?_ | refine blk_alloc ?_ _)); refine blk_far ?_ NB112_124.out _; (with_reducible repeat (first | refine blk_drewN ?_ _ | refine blk_drew ?_ | refine blk_alloc ?_ _)); exact BK112.out⟩
     have n6_ : Aside0 (((w24.setCell ⟨gb124, 0, none⟩ (.int .i64 t119)).setCell ⟨gb124, 1, none⟩ (.slice Ao29 t120.length co29)).heap[gb118]? = some (.cells #[.int .i64 t113, .slice Ao20 t114.length co20] 46 (0, 0))) := ⟨by (with_reducible repeat (first | refine blk_drewN ?_ _ | refine blk_drew ?_ | refine blk_alloc ?_ _)); refine blk_far ?_ NB118_124.out _; (with_reducible repeat (first | refine blk_drewN ?_ _ | refine blk_drew ?_ | refine blk_alloc ?_ _)); refine blk_far ?_ NB118_124.out _; (with_reducible repeat (first | refine blk_drewN ?_ _ | refine blk_drew ?_ | refine blk_alloc ?_ _)); exact BK118.out⟩
     have n7_ : Aside0 (((w24.setCell ⟨gb124, 0, none⟩ (.int .i64 t119)).setCell ⟨gb124, 1, none⟩ (.slice Ao29 t120.length co29)).heap[gb124]? = some (.cells #[.int .i64 t119, .slice Ao29 t120.length co29] 46 (0, 0))) := ⟨by (with_reducible repeat (first | refine blk_drewN ?_ _ | refine blk_drew ?_ | refine blk_alloc ?_ _)); refine blk_put (cs := #[.int .i64 t119, .slice none 0 0]) ?_ 1 _ rfl; (with_reducible repeat (first | refine blk_drewN ?_ _ | refine blk_drew ?_ | refine blk_alloc ?_ _)); refine blk_put (cs := #[.int .i64 0, .slice none 0 0]) ?_ 0 _ rfl; (with_reducible repeat (first | refine blk_drewN ?_ _ | refine blk_drew ?_ | refine blk_alloc ?_ _)); exact BK124.out⟩
     have n8_ : Aside0 (Below w.heap.size w ((w24.setCell ⟨gb124, 0, none⟩ (.int .i64 t119)).setCell ⟨gb124, 1, none⟩ (.slice Ao29 t120.length co29))) := ⟨K4 HB GE111.out GE112.out GE118.out GE124.out⟩
     (try clear HO103)
     (try clear HO107)
     (try clear HO116)
     (try clear HO122)
     (try clear BK111)
     (try clear BK112)
     (try clear BK118)
     (try clear BK124)
     (try clear HB)
     generalize ((w24.setCell ⟨gb124, 0, none⟩ (.int .i64 t119)).setCell ⟨gb124, 1, none⟩ (.slice Ao29 t120.length co29)) = w48 at n0_ n1_ n2_ n3_ n4_ n5_ n6_ n7_ n8_ ⊢
     have HO103 := n0_
     have HO107 := n1_
     have HO116 := n2_
     have HO122 := n3_
     have BK111 := n4_
     have BK112 := n5_
     have BK118 := n6_
     have BK124 := n7_
     have HB := n8_
     clear n0_ n1_ n2_ n3_ n4_ n5_ n6_ n7_ n8_
     replace HO103 := am (Kd.R_drew HO103.out)
     replace HO107 := am (Kd.R_drew HO107.out)
     replace HO116 := am (Kd.R_drew HO116.out)
     replace HO122 := am (Kd.R_drew HO122.out)
     replace BK111 := am (blk_drew BK111.out)
     replace BK112 := am (blk_drew BK112.out)
     replace BK118 := am (blk_drew BK118.out)
     replace BK124 := am (blk_drew BK124.out)
     replace HB := am (below_drew1 HB.out)
     refine start_ (n := 24) (S := fun w' => w'.cell? ⟨gb118, 0, none⟩ = some (.int .i64 t113) ∧ w'.cell? ⟨gb118, 1, none⟩ = some (.slice Ao20 t114.length co20) ∧ w'.cell? ⟨gb124, 0, none⟩ = some (.int .i64 t119) ∧ w'.cell? ⟨gb124, 1, none⟩ = some (.slice Ao29 t120.length co29)) (ds := []) (tf 0 24) (by kernel_rfl) rfl rfl ⟨z0 _ BK118.out, z1 _ BK118.out, z0 _ BK124.out, z1 _ BK124.out⟩ (fun hHeld => ?_); refine with_tabW laws_FnCacheFind.tab6 laws_FnCacheFind.bits6 (fun HT_ HW_ => ?_)
     generalize w48.drew = w49 at HO103 HO107 HO116 HO122 BK111 BK112 BK118 BK124 HB hHeld ⊢
     refine pu 0 (some 35) (tf 1 23) (any_of HT_.out (by kernel_rfl)) ?_
     refine pu 1 (some 36) (tf 2 22) (any_of HT_.out (by kernel_rfl)) ?_
     refine pu 2 (some 37) (tf 3 21) (any_of HT_.out (by kernel_rfl)) ?_
     refine pu 3 (some 38) (tf 4 20) (any_of HT_.out (by kernel_rfl)) ?_
     refine tk 4 (some 39) (tf 5 19) (take_ofW HT_.out HW_.out (by kernel_rfl)) hHeld ?_
     refine tk 5 (some 40) (tf 6 18) (take_ofW HT_.out HW_.out (by kernel_rfl)) hHeld ?_
     refine one_ (i := 6) (N := some 41) (tf 7 17) rfl rfl (one_of HT_.out (by kernel_rfl)) (by decide) (fun K hK => ?_)
     refine goes_ Try.func32 (by kernel_rfl) rfl #[.agg #[.int .i64 t113, .slice Ao20 t114.length co20], .agg #[.int .i64 t119, .slice Ao29 t120.length co29]] (by rfl) rfl rfl MT ?_
     with_reducible refine (laws_ovCache.calls k t113 _ _ t114 t119 _ _ t120 false _ ?side1 ?side2 ?side3 ?side4 A31.out).mono ?_
     (case side1 => exact KC (Kd.R_reads' HO116.out).2.2)
     (case side2 => exact (Kd.R_reads' HO116.out).2.1)
     (case side3 => exact KC (Kd.R_reads' HO122.out).2.2)
     (case side4 => exact (Kd.R_reads' HO122.out).2.1)
     rintro e w50 ⟨rfl, hb⟩
     refine ⟨_, rfl, ?_⟩
     replace HO103 := am (Kd.R_below (KR HO103) hb)
     replace HO107 := am (Kd.R_below (KR HO107) hb)
     replace HO116 := am (Kd.R_below (KR HO116) hb)
     replace HO122 := am (Kd.R_below (KR HO122) hb)
     replace BK111 := am (BB BK111 hb)
     replace BK112 := am (BB BK112 hb)
     replace BK118 := am (BB BK118 hb)
     replace BK124 := am (BB BK124 hb)
     replace HB := am (below_step (K4 HB GE111.out GE112.out GE118.out GE124.out) hb)
     (try clear hb)
     (try clear hb2)
     (try clear hk)
     (try clear hi)
     refine hK.out _ _ ⟨z0 _ BK118.out, z1 _ BK118.out, z0 _ BK124.out, z1 _ BK124.out⟩ (fun hHeld => ?_)
     clear hK K
     refine norm_ (a' := ?_) ?_ ?_
     rotate_left
     ·show Act.put _ (some 41) _ = _
      simp only [Act.put, List.setIfInBounds_toArray, List.set_cons_zero, List.set_cons_succ, i64_w, i32_w]
      rfl
     refine pu 7 (some 42) (tf 8 16) (any_of HT_.out (by kernel_rfl)) ?_
     refine pu 8 (some 43) (tf 9 15) (any_of HT_.out (by kernel_rfl)) ?_
     refine pu 9 (some 44) (tf 10 14) (any_of HT_.out (by kernel_rfl)) ?_
     refine pn 10 (some 45) (tf 11 13) (any_of HT_.out (by kernel_rfl)) ?_
     refine pn 11 (some 46) (tf 12 12) (any_of HT_.out (by kernel_rfl)) ?_
     refine pn 12 (some 47) (tf 13 11) (any_of HT_.out (by kernel_rfl)) ?_
     refine pn 13 (some 48) (tf 14 10) (any_of HT_.out (by kernel_rfl)) ?_
     refine pn 14 (some 49) (tf 15 9) (any_of HT_.out (by kernel_rfl)) ?_
     refine pn 15 (some 50) (tf 16 8) (any_of HT_.out (by kernel_rfl)) ?_
     refine pn 16 (some 51) (tf 17 7) (any_of HT_.out (by kernel_rfl)) ?_
     refine pu 17 (some 52) (tf 18 6) (any_of HT_.out (by kernel_rfl)) ?_
     refine pu 18 (some 53) (tf 19 5) (any_of HT_.out (by kernel_rfl)) ?_
     refine pn 19 (some 54) (tf 20 4) (any_of HT_.out (by kernel_rfl)) ?_
     refine pn 20 (some 55) (tf 21 3) (any_of HT_.out (by kernel_rfl)) ?_
     refine pn 21 (some 56) (tf 22 2) (any_of HT_.out (by kernel_rfl)) ?_
     refine pn 22 (some 57) (tf 23 1) (any_of HT_.out (by kernel_rfl)) ?_
     refine pu 23 (some 58) (tf 24 0) (any_of HT_.out (by kernel_rfl)) ?_
     refine done_ (done_of HT_.out (by kernel_rfl)) ?_
     try go_wp2
     go_meet
     case rel => exact ⟨_, (true), (by first | rfl | (simp; done) | (simp [*]; done)), H', ⟨by first | omega | exact Nat.le_refl _⟩, ⟨KR HO103⟩, ⟨KR HO107⟩, ⟨KR HO116⟩, ⟨KR HO122⟩, ⟨KB BK111⟩, ⟨KB BK112⟩, ⟨KB BK118⟩, ⟨KB BK124⟩, ⟨K4 HB GE111.out GE112.out GE118.out GE124.out⟩⟩
   ·rw [if_neg c30] at H
    have c30b0 : (t117 == t123) = false := beq_eq_false_iff_ne.mpr c30
    have c30b1 : (t117 != t123) = true := bne_iff_ne.mpr c30
    (first | rw [c30b0] | (simp only [i64_w, i32_w]; rw [c30b0]) | skip)
    have H' := Aside0.mk H
    clear H
    try go_wp2
    have n0_ : Aside0 (Kd.R k34 34 ((w24.setCell ⟨gb124, 0, none⟩ (.int .i64 t119)).setCell ⟨gb124, 1, none⟩ (.slice Ao29 t120.length co29)) w.heap.size (fun _ => True) (.slice Ao14 t101.length co14) t101) := ⟨by (with_reducible repeat (first | apply Kd.R_alloc | apply Kd.R_drewN | apply Kd.R_drew)); exact Kd.R_mono (Kd.R_far (p := ⟨gb124, 1, none⟩) (Kd.R_far (p := ⟨gb124, 0, none⟩) (Kd.R_types HO103.out BK124.out (by decide)) (fun _ hk => hk.2) (.int .i64 t119)) (fun _ hk => hk.2) (.slice Ao29 t120.length co29)) (fun _ hk => trivial)⟩
    have n1_ : Aside0 (Kd.R k108 108 ((w24.setCell ⟨gb124, 0, none⟩ (.int .i64 t119)).setCell ⟨gb124, 1, none⟩ (.slice Ao29 t120.length co29)) w.heap.size (fun k_ => some k_ ≠ (.slice Ao20 t114.length co20 : Value).ownBlock ∧ some k_ ≠ (.slice Ao29 t120.length co29 : Value).ownBlock) (.slice Ao12 t105.length co12) t105) := ⟨by (with_reducible repeat (first | apply Kd.R_alloc | apply Kd.R_drewN | apply Kd.R_drew)); exact Kd.R_mono (Kd.R_far (p := ⟨gb124, 1, none⟩) (Kd.R_far (p := ⟨gb124, 0, none⟩) (Kd.R_types HO107.out BK124.out (by decide)) (fun _ hk => hk.2) (.int .i64 t119)) (fun _ hk => hk.2) (.slice Ao29 t120.length co29)) (fun _ hk => ⟨hk.1.1.2, hk.1.2⟩)⟩
    have n2_ : Aside0 (Kd.R k108 108 ((w24.setCell ⟨gb124, 0, none⟩ (.int .i64 t119)).setCell ⟨gb124, 1, none⟩ (.slice Ao29 t120.length co29)) w.heap.size (fun k_ => some k_ ≠ (.slice Ao12 t105.length co12 : Value).ownBlock ∧ some k_ ≠ (.slice Ao29 t120.length co29 : Value).ownBlock) (.slice Ao20 t114.length co20) t114) := ⟨by (with_reducible repeat (first | apply Kd.R_alloc | apply Kd.R_drewN | apply Kd.R_drew)); exact Kd.R_mono (Kd.R_far (p := ⟨gb124, 1, none⟩) (Kd.R_far (p := ⟨gb124, 0, none⟩) (Kd.R_types HO116.out BK124.out (by decide)) (fun _ hk => hk.2) (.int .i64 t119)) (fun _ hk => hk.2) (.slice Ao29 t120.length co29)) (fun _ hk => ⟨hk.1.1.2, hk.1.2⟩)⟩
    have n3_ : Aside0 (Kd.R k108 108 ((w24.setCell ⟨gb124, 0, none⟩ (.int .i64 t119)).setCell ⟨gb124, 1, none⟩ (.slice Ao29 t120.length co29)) w.heap.size (fun k_ => some k_ ≠ (.slice Ao12 t105.length co12 : Value).ownBlock ∧ some k_ ≠ (.slice Ao20 t114.length co20 : Value).ownBlock) (.slice Ao29 t120.length co29) t120) := ⟨by (with_reducible repeat (first | apply Kd.R_alloc | apply Kd.R_drewN | apply Kd.R_drew)); exact Kd.R_mono (Kd.R_far (p := ⟨gb124, 1, none⟩) (Kd.R_far (p := ⟨gb124, 0, none⟩) (Kd.R_types HO122.out BK124.out (by decide)) (fun _ hk => hk.2) (.int .i64 t119)) (fun _ hk => hk.2) (.slice Ao29 t120.length co29)) (fun _ hk => ⟨hk.1.1.2, hk.1.2⟩)⟩
    have n4_ : Aside0 (((w24.setCell ⟨gb124, 0, none⟩ (.int .i64 t119)).setCell ⟨gb124, 1, none⟩ (.slice Ao29 t120.length co29)).heap[gb111]? = some (.cells #[.int .i64 t104, .slice Ao12 t105.length co12] 46 (0, 0))) := ⟨by (with_reducible repeat (first | refine blk_drewN ?_ _ | refine blk_drew ?_ | refine blk_alloc ?_ _)); refine blk_far ?_ NB111_124.out _; (with_reducible repeat (first | refine blk_drewN ?_ _ | refine blk_drew ?_ | refine blk_alloc ?_ _)); refine blk_far ?_ NB111_124.out _; (with_reducible repeat (first | refine blk_drewN ?_ _ | refine blk_drew ?_ | refine blk_alloc ?_ _)); exact BK111.out⟩
    have n5_ : Aside0 (((w24.setCell ⟨gb124, 0, none⟩ (.int .i64 t119)).setCell ⟨gb124, 1, none⟩ (.slice Ao29 t120.length co29)).heap[gb112]? = some (.cells #[.int .i64 t108, .int .i64 t109, .int .i64 t110] 25 (0, 0))) := ⟨by (with_reducible repeat (first | refine blk_drewN ?_ _ | refine blk_drew ?_ | refine blk_alloc ?_ _)); refine blk_far ?_ NB112_124.out _; (with_reducible repeat (first | refine blk_drewN ?_ _ | refine blk_drew ?_ | refine blk_alloc ?_ _)); refine blk_far ?_ NB112_124.out _; (with_reducible repeat (first | refine blk_drewN ?_ _ | refine blk_drew ?_ | refine blk_alloc ?_ _)); exact BK112.out⟩
    have n6_ : Aside0 (((w24.setCell ⟨gb124, 0, none⟩ (.int .i64 t119)).setCell ⟨gb124, 1, none⟩ (.slice Ao29 t120.length co29)).heap[gb118]? = some (.cells #[.int .i64 t113, .slice Ao20 t114.length co20] 46 (0, 0))) := ⟨by (with_reducible repeat (first | refine blk_drewN ?_ _ | refine blk_drew ?_ | refine blk_alloc ?_ _)); refine blk_far ?_ NB118_124.out _; (with_reducible repeat (first | refine blk_drewN ?_ _ | refine blk_drew ?_ | refine blk_alloc ?_ _)); refine blk_far ?_ NB118_124.out _; (with_reducible repeat (first | refine blk_drewN ?_ _ | refine blk_drew ?_ | refine blk_alloc ?_ _)); exact BK118.out⟩
    have n7_ : Aside0 (((w24.setCell ⟨gb124, 0, none⟩ (.int .i64 t119)).setCell ⟨gb124, 1, none⟩ (.slice Ao29 t120.length co29)).heap[gb124]? = some (.cells #[.int .i64 t119, .slice Ao29 t120.length co29] 46 (0, 0))) := ⟨by (with_reducible repeat (first | refine blk_drewN ?_ _ | refine blk_drew ?_ | refine blk_alloc ?_ _)); refine blk_put (cs := #[.int .i64 t119, .slice none 0 0]) ?_ 1 _ rfl; (with_reducible repeat (first | refine blk_drewN ?_ _ | refine blk_drew ?_ | refine blk_alloc ?_ _)); refine blk_put (cs := #[.int .i64 0, .slice none 0 0]) ?_ 0 _ rfl; (with_reducible repeat (first | refine blk_drewN ?_ _ | refine blk_drew ?_ | refine blk_alloc ?_ _)); exact BK124.out⟩
    have n8_ : Aside0 (Below w.heap.size w ((w24.setCell ⟨gb124, 0, none⟩ (.int .i64 t119)).setCell ⟨gb124, 1, none⟩ (.slice Ao29 t120.length co29))) := ⟨K4 HB GE111.out GE112.out GE118.out GE124.out⟩
    (try clear HO103)
    (try clear HO107)
    (try clear HO116)
    (try clear HO122)
    (try clear BK111)
    (try clear BK112)
    (try clear BK118)
    (try clear BK124)
    (try clear HB)
    generalize ((w24.setCell ⟨gb124, 0, none⟩ (.int .i64 t119)).setCell ⟨gb124, 1, none⟩ (.slice Ao29 t120.length co29)) = w51 at n0_ n1_ n2_ n3_ n4_ n5_ n6_ n7_ n8_ ⊢
    have HO103 := n0_
    have HO107 := n1_
    have HO116 := n2_
    have HO122 := n3_
    have BK111 := n4_
    have BK112 := n5_
    have BK118 := n6_
    have BK124 := n7_
    have HB := n8_
    clear n0_ n1_ n2_ n3_ n4_ n5_ n6_ n7_ n8_
    replace HO103 := am (Kd.R_drew HO103.out)
    replace HO107 := am (Kd.R_drew HO107.out)
    replace HO116 := am (Kd.R_drew HO116.out)
    replace HO122 := am (Kd.R_drew HO122.out)
    replace BK111 := am (blk_drew BK111.out)
    replace BK112 := am (blk_drew BK112.out)
    replace BK118 := am (blk_drew BK118.out)
    replace BK124 := am (blk_drew BK124.out)
    replace HB := am (below_drew1 HB.out)
    refine start_ (n := 24) (S := fun w' => True) (ds := []) (tf 0 24) (by kernel_rfl) rfl rfl trivial (fun hHeld => ?_); refine with_tabW laws_FnCacheFind.tab6 laws_FnCacheFind.bits6 (fun HT_ HW_ => ?_)
    generalize w51.drew = w52 at HO103 HO107 HO116 HO122 BK111 BK112 BK118 BK124 HB hHeld ⊢
    refine pu 0 (some 35) (tf 1 23) (any_of HT_.out (by kernel_rfl)) ?_
    refine pu 1 (some 36) (tf 2 22) (any_of HT_.out (by kernel_rfl)) ?_
    refine pu 2 (some 37) (tf 3 21) (any_of HT_.out (by kernel_rfl)) ?_
    refine pu 3 (some 38) (tf 4 20) (any_of HT_.out (by kernel_rfl)) ?_
    refine pn 4 (some 39) (tf 5 19) (any_of HT_.out (by kernel_rfl)) ?_
    refine pn 5 (some 40) (tf 6 18) (any_of HT_.out (by kernel_rfl)) ?_
    refine pn 6 (some 41) (tf 7 17) (any_of HT_.out (by kernel_rfl)) ?_
    refine pn 7 (some 42) (tf 8 16) (any_of HT_.out (by kernel_rfl)) ?_
    refine pu 8 (some 43) (tf 9 15) (any_of HT_.out (by kernel_rfl)) ?_
    refine pu 9 (some 44) (tf 10 14) (any_of HT_.out (by kernel_rfl)) ?_
    refine pn 10 (some 45) (tf 11 13) (any_of HT_.out (by kernel_rfl)) ?_
    refine pn 11 (some 46) (tf 12 12) (any_of HT_.out (by kernel_rfl)) ?_
    refine pn 12 (some 47) (tf 13 11) (any_of HT_.out (by kernel_rfl)) ?_
    refine pn 13 (some 48) (tf 14 10) (any_of HT_.out (by kernel_rfl)) ?_
    refine pn 14 (some 49) (tf 15 9) (any_of HT_.out (by kernel_rfl)) ?_
    refine pn 15 (some 50) (tf 16 8) (any_of HT_.out (by kernel_rfl)) ?_
    refine pn 16 (some 51) (tf 17 7) (any_of HT_.out (by kernel_rfl)) ?_
    refine pu 17 (some 52) (tf 18 6) (any_of HT_.out (by kernel_rfl)) ?_
    refine pu 18 (some 53) (tf 19 5) (any_of HT_.out (by kernel_rfl)) ?_
    refine pn 19 (some 54) (tf 20 4) (any_of HT_.out (by kernel_rfl)) ?_
    refine pn 20 (some 55) (tf 21 3) (any_of HT_.out (by kernel_rfl)) ?_
    refine pn 21 (some 56) (tf 22 2) (any_of HT_.out (by kernel_rfl)) ?_
    refine pn 22 (some 57) (tf 23 1) (any_of HT_.out (by kernel_rfl)) ?_
    refine pu 23 (some 58) (tf 24 0) (any_of HT_.out (by kernel_rfl)) ?_
    refine done_ (done_of HT_.out (by kernel_rfl)) ?_
    try go_wp2
    go_meet
    case rel => exact ⟨_, (true), (by first | rfl | (simp; done) | (simp [*]; done)), H', ⟨by first | omega | exact Nat.le_refl _⟩, ⟨KR HO103⟩, ⟨KR HO107⟩, ⟨KR HO116⟩, ⟨KR HO122⟩, ⟨KB BK111⟩, ⟨KB BK112⟩, ⟨KB BK118⟩, ⟨KB BK124⟩, ⟨K4 HB GE111.out GE112.out GE118.out GE124.out⟩⟩
  case rest =>
   clear HC6
   try clear c2
   try clear p2
   try clear c3
   try clear c23
   try clear c30
   try clear c30b0
   try clear c30b1
   try clear c32
   obtain ⟨kq, x58_5, rfl, HA, HJ5, HO_3, HO_112001, HO_119001, HO_125001, BK111, BK112, BK118, BK124, HB⟩ := hcut
   cases kq with
   | zero => exact absurd HA.out (by simp [laws_FnCacheFind.j0])
   | succ kj5 =>
    have H := HA.out
    clear HA
    simp only [laws_FnCacheFind.j0] at H
    by_cases c53 : x58_5 = true
    ·subst c53
     have H1 : (if t117 = t123 then ((laws_ovCache.f kj5 t113 t114 t119 t120).bind fun t129 => (if t129 = true then ((impl_CacheOk.f kj5 t101 t104 t105).bind fun t130 => ((spec_CacheOk.f kj5 t101 t104 t105).bind fun t131 => (some (t130 == t131)))) else (some false))) else (some false)) = some r := by rw [if_pos rfl] at H; exact H
     clear H
     have H := H1
     clear H1
     by_cases c54 : t117 = t123
     ·rw [if_pos c54] at H
      have c54b0 : (t117 == t123) = true := beq_iff_eq.mpr c54
      have c54b1 : (t117 != t123) = false := bne_eq_false_iff_eq.mpr c54
      clear c54
      replace H := Option.bind_eq_some_iff.mp H
      obtain ⟨t129, A550, H⟩ := H
      replace H : (if t129 = true then ((impl_CacheOk.f kj5 t101 t104 t105).bind fun t130 => ((spec_CacheOk.f kj5 t101 t104 t105).bind fun t131 => (some (t130 == t131)))) else (some false)) = some r := H
      have A55 := Aside0.mk A550
      clear A550
      by_cases c56 : t129 = true
      ·subst c56
       have H1 : ((impl_CacheOk.f kj5 t101 t104 t105).bind fun t130 => ((spec_CacheOk.f kj5 t101 t104 t105).bind fun t131 => (some (t130 == t131)))) = some r := by rw [if_pos rfl] at H; exact H
       clear H
       have H := H1
       clear H1
       replace H := Option.bind_eq_some_iff.mp H
       obtain ⟨t130, A570, H⟩ := H
       replace H : ((spec_CacheOk.f kj5 t101 t104 t105).bind fun t131 => (some (t130 == t131))) = some r := H
       have A57 := Aside0.mk A570
       clear A570
       replace H := Option.bind_eq_some_iff.mp H
       obtain ⟨t131, A580, H⟩ := H
       replace H : (some (t130 == t131)) = some r := H
       have A58 := Aside0.mk A580
       clear A580
       obtain rfl := Option.some.inj H
       try go_wp2
       replace HO_3 := am (Kd.R_drew HO_3.out)
       replace HO_112001 := am (Kd.R_drew HO_112001.out)
       replace HO_119001 := am (Kd.R_drew HO_119001.out)
       replace HO_125001 := am (Kd.R_drew HO_125001.out)
       replace BK111 := am (blk_drew BK111.out)
       replace BK112 := am (blk_drew BK112.out)
       replace BK118 := am (blk_drew BK118.out)
       replace BK124 := am (blk_drew BK124.out)
       replace HB := am (below_drew1 HB.out)
       refine start_ (n := 18) (S := fun w' => w'.cell? ⟨gb118, 0, none⟩ = some (.int .i64 t113) ∧ w'.cell? ⟨gb118, 1, none⟩ = some (.slice Ao20 t114.length co20) ∧ w'.cell? ⟨gb124, 0, none⟩ = some (.int .i64 t119) ∧ w'.cell? ⟨gb124, 1, none⟩ = some (.slice Ao29 t120.length co29) ∧ w'.cell? ⟨gb111, 0, none⟩ = some (.int .i64 t104) ∧ w'.cell? ⟨gb111, 1, none⟩ = some (.slice Ao12 t105.length co12)) (ds := []) (tf 0 18) (by kernel_rfl) rfl rfl ⟨z0 _ BK118.out, z1 _ BK118.out, z0 _ BK124.out, z1 _ BK124.out, z0 _ BK111.out, z1 _ BK111.out⟩ (fun hHeld => ?_); refine with_tabW laws_FnCacheFind.tab7 laws_FnCacheFind.bits7 (fun HT_ HW_ => ?_)
       generalize wc.drew = w59 at HO_3 HO_112001 HO_119001 HO_125001 BK111 BK112 BK118 BK124 HB hHeld ⊢
       refine pu 0 (some 59) (tf 1 17) (any_of HT_.out (by kernel_rfl)) ?_
       refine pu 1 (some 60) (tf 2 16) (any_of HT_.out (by kernel_rfl)) ?_
       refine pu 2 (some 61) (tf 3 15) (any_of HT_.out (by kernel_rfl)) ?_
       refine pu 3 (some 62) (tf 4 14) (any_of HT_.out (by kernel_rfl)) ?_
       refine tk 4 (some 63) (tf 5 13) (take_ofW HT_.out HW_.out (by kernel_rfl)) hHeld ?_
       refine tk 5 (some 64) (tf 6 12) (take_ofW HT_.out HW_.out (by kernel_rfl)) hHeld ?_
       refine one_ (i := 6) (N := some 65) (tf 7 11) rfl rfl (one_of HT_.out (by kernel_rfl)) (by decide) (fun K hK => ?_)
       refine goes_ Try.func32 (by kernel_rfl) rfl #[.agg #[.int .i64 t113, .slice Ao20 t114.length co20], .agg #[.int .i64 t119, .slice Ao29 t120.length co29]] (by rfl) rfl rfl MT ?_
       with_reducible refine (laws_ovCache.calls kj5 t113 _ _ t114 t119 _ _ t120 true _ ?side1 ?side2 ?side3 ?side4 A55.out).mono ?_
       (case side1 => exact KC (Kd.R_reads' HO_119001.out).2.2)
       (case side2 => exact (Kd.R_reads' HO_119001.out).2.1)
       (case side3 => exact KC (Kd.R_reads' HO_125001.out).2.2)
       (case side4 => exact (Kd.R_reads' HO_125001.out).2.1)
       rintro e w60 ⟨rfl, hb⟩
       refine ⟨_, rfl, ?_⟩
       replace HO_3 := am (Kd.R_below (KR HO_3) hb)
       replace HO_112001 := am (Kd.R_below (KR HO_112001) hb)
       replace HO_119001 := am (Kd.R_below (KR HO_119001) hb)
       replace HO_125001 := am (Kd.R_below (KR HO_125001) hb)
       replace BK111 := am (BB BK111 hb)
       replace BK112 := am (BB BK112 hb)
       replace BK118 := am (BB BK118 hb)
       replace BK124 := am (BB BK124 hb)
       replace HB := am (below_step (K4 HB GE111.out GE112.out GE118.out GE124.out) hb)
       (try clear hb)
       (try clear hb2)
       (try clear hk)
       (try clear hi)
       refine hK.out _ _ ⟨z0 _ BK118.out, z1 _ BK118.out, z0 _ BK124.out, z1 _ BK124.out, z0 _ BK111.out, z1 _ BK111.out⟩ (fun hHeld => ?_)
       clear hK K
       refine norm_ (a' := ?_) ?_ ?_
       rotate_left
       ·show Act.put _ (some 65) _ = _
        simp only [Act.put, List.setIfInBounds_toArray, List.set_cons_zero, List.set_cons_succ, i64_w, i32_w]
        rfl
       refine pu 7 (some 66) (tf 8 10) (any_of HT_.out (by kernel_rfl)) ?_
       refine pu 8 (some 67) (tf 9 9) (any_of HT_.out (by kernel_rfl)) ?_
       refine pu 9 (some 68) (tf 10 8) (any_of HT_.out (by kernel_rfl)) ?_
       refine pu 12 (some 71) #[true, true, true, true, true, true, true, true, true, true, false, false, true, false, false, false, false, false] (any_of HT_.out (by kernel_rfl)) ?_
       refine tk 10 (some 69) #[true, true, true, true, true, true, true, true, true, true, true, false, true, false, false, false, false, false] (take_ofW HT_.out HW_.out (by kernel_rfl)) hHeld ?_
       refine tk 13 (some 72) #[true, true, true, true, true, true, true, true, true, true, true, false, true, true, false, false, false, false] (take_ofW HT_.out HW_.out (by kernel_rfl)) hHeld ?_
       refine one_ (i := 11) (N := some 70) (tf 14 4) rfl rfl (one_of HT_.out (by kernel_rfl)) (by decide) (fun K hK => ?_)
       refine goes_ Try.func26 (by kernel_rfl) rfl #[.slice Ao14 t101.length co14, .agg #[.int .i64 t104, .slice Ao12 t105.length co12]] (by rfl) rfl rfl MT ?_
       with_reducible refine (impl_CacheOk.calls kj5 _ _ t101 t104 _ _ t105 t130 _ ?side1 ?side2 ?side3 ?side4 A57.out).mono ?_
       (case side1 => exact KC (Kd.R_reads' HO_3.out).2.2)
       (case side2 => exact (Kd.R_reads' HO_3.out).2.1)
       (case side3 => exact KC (Kd.R_reads' HO_112001.out).2.2)
       (case side4 => exact (Kd.R_reads' HO_112001.out).2.1)
       rintro e w61 ⟨rfl, hb⟩
       refine ⟨_, rfl, ?_⟩
       replace HO_3 := am (Kd.R_below (KR HO_3) hb)
       replace HO_112001 := am (Kd.R_below (KR HO_112001) hb)
       replace HO_119001 := am (Kd.R_below (KR HO_119001) hb)
       replace HO_125001 := am (Kd.R_below (KR HO_125001) hb)
       replace BK111 := am (BB BK111 hb)
       replace BK112 := am (BB BK112 hb)
       replace BK118 := am (BB BK118 hb)
       replace BK124 := am (BB BK124 hb)
       replace HB := am (below_step (K4 HB GE111.out GE112.out GE118.out GE124.out) hb)
       (try clear hb)
       (try clear hb2)
       (try clear hk)
       (try clear hi)
       refine hK.out _ _ ⟨z0 _ BK118.out, z1 _ BK118.out, z0 _ BK124.out, z1 _ BK124.out, z0 _ BK111.out, z1 _ BK111.out⟩ (fun hHeld => ?_)
       clear hK K
       refine norm_ (a' := ?_) ?_ ?_
       rotate_left
       ·show Act.put _ (some 70) _ = _
        simp only [Act.put, List.setIfInBounds_toArray, List.set_cons_zero, List.set_cons_succ, i64_w, i32_w]
        rfl
       refine one_ (i := 14) (N := some 73) (tf 15 3) rfl rfl (one_of HT_.out (by kernel_rfl)) (by decide) (fun K hK => ?_)
       refine goes_ Try.func23 (by kernel_rfl) rfl #[.slice Ao14 t101.length co14, .agg #[.int .i64 t104, .slice Ao12 t105.length co12]] (by rfl) rfl rfl MT ?_
       with_reducible refine (spec_CacheOk.calls kj5 _ _ t101 t104 _ _ t105 t131 _ ?side1 ?side2 ?side3 ?side4 A58.out).mono ?_
       (case side1 => exact KC (Kd.R_reads' HO_3.out).2.2)
       (case side2 => exact (Kd.R_reads' HO_3.out).2.1)
       (case side3 => exact KC (Kd.R_reads' HO_112001.out).2.2)
       (case side4 => exact (Kd.R_reads' HO_112001.out).2.1)
       rintro e w62 ⟨rfl, hb⟩
       refine ⟨_, rfl, ?_⟩
       replace HO_3 := am (Kd.R_below (KR HO_3) hb)
       replace HO_112001 := am (Kd.R_below (KR HO_112001) hb)
       replace HO_119001 := am (Kd.R_below (KR HO_119001) hb)
       replace HO_125001 := am (Kd.R_below (KR HO_125001) hb)
       replace BK111 := am (BB BK111 hb)
       replace BK112 := am (BB BK112 hb)
       replace BK118 := am (BB BK118 hb)
       replace BK124 := am (BB BK124 hb)
       replace HB := am (below_step (K4 HB GE111.out GE112.out GE118.out GE124.out) hb)
       (try clear hb)
       (try clear hb2)
       (try clear hk)
       (try clear hi)
       refine hK.out _ _ ⟨z0 _ BK118.out, z1 _ BK118.out, z0 _ BK124.out, z1 _ BK124.out, z0 _ BK111.out, z1 _ BK111.out⟩ (fun hHeld => ?_)
       clear hK K
       refine norm_ (a' := ?_) ?_ ?_
       rotate_left
       ·show Act.put _ (some 73) _ = _
        simp only [Act.put, List.setIfInBounds_toArray, List.set_cons_zero, List.set_cons_succ, i64_w, i32_w]
        rfl
       refine pu 15 (some 74) (tf 16 2) (any_of HT_.out (by kernel_rfl)) ?_
       refine pu 16 (some 75) (tf 17 1) (any_of HT_.out (by kernel_rfl)) ?_
       refine pu 17 (some 2) (tf 18 0) (any_of HT_.out (by kernel_rfl)) ?_
       refine done_ (done_of HT_.out (by kernel_rfl)) ?_
       try go_wp2
       go_ret
       exact ⟨by first | rfl | (simp [errW_none, errW_some] <;> rfl) | (simp [*, errW_none, errW_some] <;> rfl), K4 HB GE111.out GE112.out GE118.out GE124.out⟩
      ·replace c56 := Bool.eq_false_iff.mpr c56
       subst c56
       have H1 : (some false) = some r := by rw [if_neg (show ¬ (false = true) by decide)] at H; exact H
       clear H
       have H := H1
       clear H1
       exact absurd ((Option.some.inj H).trans HR_.out) (by decide)
     ·rw [if_neg c54] at H
      have c54b0 : (t117 == t123) = false := beq_eq_false_iff_ne.mpr c54
      have c54b1 : (t117 != t123) = true := bne_iff_ne.mpr c54
      exact absurd ((Option.some.inj H).trans HR_.out) (by decide)
    ·replace c53 := Bool.eq_false_iff.mpr c53
     subst c53
     have H1 : ((impl_CacheFind.f kj5 t101 t113 t114 t108 t109 t110).bind fun bt132 => ((impl_RulesFirst.f kj5 t101 t108 t109 t110).bind fun t138 => (if t117 = t138 then ((impl_CacheOk.f kj5 t101 t113 t114).bind fun t139 => (if t139 = true then (if bt132.2.2 = t117 then ((laws_ovCache.f kj5 bt132.1 bt132.2.1 t113 t114).bind fun t140 => (if t140 = true then (some (decide ((t114.length : Int) ≤ t104))) else (some false))) else (some false)) else (some false))) else (some false)))) = some r := by rw [if_neg (show ¬ (false = true) by decide)] at H; exact H
     clear H
     have H := H1
     clear H1
     replace H := Option.bind_eq_some_iff.mp H
     obtain ⟨⟨t132, t133, t136⟩, A630, H⟩ := H
     replace H : ((impl_RulesFirst.f kj5 t101 t108 t109 t110).bind fun t138 => (if t117 = t138 then ((impl_CacheOk.f kj5 t101 t113 t114).bind fun t139 => (if t139 = true then (if t136 = t117 then ((laws_ovCache.f kj5 t132 t133 t113 t114).bind fun t140 => (if t140 = true then (some (decide ((t114.length : Int) ≤ t104))) else (some false))) else (some false)) else (some false))) else (some false))) = some r := H
     have A63 := Aside0.mk A630
     clear A630
     replace H := Option.bind_eq_some_iff.mp H
     obtain ⟨t138, A640, H⟩ := H
     replace H : (if t117 = t138 then ((impl_CacheOk.f kj5 t101 t113 t114).bind fun t139 => (if t139 = true then (if t136 = t117 then ((laws_ovCache.f kj5 t132 t133 t113 t114).bind fun t140 => (if t140 = true then (some (decide ((t114.length : Int) ≤ t104))) else (some false))) else (some false)) else (some false))) else (some false)) = some r := H
     have A64 := Aside0.mk A640
     clear A640
     by_cases c65 : t117 = t138
     ·rw [if_pos c65] at H
      have c65b0 : (t117 == t138) = true := beq_iff_eq.mpr c65
      have c65b1 : (t117 != t138) = false := bne_eq_false_iff_eq.mpr c65
      clear c65
      replace H := Option.bind_eq_some_iff.mp H
      obtain ⟨t139, A660, H⟩ := H
      replace H : (if t139 = true then (if t136 = t117 then ((laws_ovCache.f kj5 t132 t133 t113 t114).bind fun t140 => (if t140 = true then (some (decide ((t114.length : Int) ≤ t104))) else (some false))) else (some false)) else (some false)) = some r := H
      have A66 := Aside0.mk A660
      clear A660
      by_cases c67 : t139 = true
      ·subst c67
       have H1 : (if t136 = t117 then ((laws_ovCache.f kj5 t132 t133 t113 t114).bind fun t140 => (if t140 = true then (some (decide ((t114.length : Int) ≤ t104))) else (some false))) else (some false)) = some r := by rw [if_pos rfl] at H; exact H
       clear H
       have H := H1
       clear H1
       by_cases c68 : t136 = t117
       ·rw [if_pos c68] at H
        have c68b0 : (t136 == t117) = true := beq_iff_eq.mpr c68
        have c68b1 : (t136 != t117) = false := bne_eq_false_iff_eq.mpr c68
        clear c68
        replace H := Option.bind_eq_some_iff.mp H
        obtain ⟨t140, A690, H⟩ := H
        replace H : (if t140 = true then (some (decide ((t114.length : Int) ≤ t104))) else (some false)) = some r := H
        have A69 := Aside0.mk A690
        clear A690
        by_cases c70 : t140 = true
        ·subst c70
         have H1 : (some (decide ((t114.length : Int) ≤ t104))) = some r := by rw [if_pos rfl] at H; exact H
         clear H
         have H := H1
         clear H1
         obtain rfl := Option.some.inj H
         have hnb71 := NB118_111.out
         have hnc71 := NB111_118.out
         have hnb72 := NB118_112.out
         have hnc72 := NB112_118.out
         have hnb73 := NB118_124.out
         have hnc73 := NB124_118.out
         have hcz74_0 := z0 wc BK118.out
         have hcz74_1 := z1 wc BK118.out
         have hfz74_0 := blk_frozen BK118.out 0
         have hfz74_1 := blk_frozen BK118.out 1
         have hnb75 := NB112_111.out
         have hnc75 := NB111_112.out
         have hnb76 := NB112_124.out
         have hnc76 := NB124_112.out
         have hcz77_0 := z0 wc BK112.out
         have hcz77_1 := z1 wc BK112.out
         have hcz77_2 := z2 wc BK112.out
         have hfz77_0 := blk_frozen BK112.out 0
         have hfz77_1 := blk_frozen BK112.out 1
         have hfz77_2 := blk_frozen BK112.out 2
         go_wp2_with (first | ((with_reducible refine gate_callee (f := 30) rfl ?_); refine goesL_ (some 80) rfl rfl Try.func30 (by kernel_rfl) rfl #[.slice Ao14 t101.length co14, .agg #[.int .i64 t113, .slice Ao20 t114.length co20], .agg #[.int .i64 t108, .int .i64 t109, .int .i64 t110]] rfl MT ?_; (with_reducible refine (impl_CacheFind.calls kj5 _ _ t101 t113 _ _ t114 t108 t109 t110 t132 t133 t136 _ ?side1 ?side2 ?side3 ?side4 A63.out).mono ?_); (case side1 => exact KC (Kd.R_reads' HO_3.out).2.2); (case side2 => exact (Kd.R_reads' HO_3.out).2.1); (case side3 => exact KC (Kd.R_reads' HO_119001.out).2.2); (case side4 => exact (Kd.R_reads' HO_119001.out).2.1); rintro e w78 ⟨v134, rfl, ho0, hb⟩; refine ⟨_, rfl, ?_⟩; replace HO_3 := am (Kd.R_below (KR HO_3) hb); have HO135 := am (Kd.R_lower (Kd.R_new' (Kd.R_new' (Kd.R_new' ho0 (Kd.R_lt (KR HO_112001))) (Kd.R_lt (KR HO_119001))) (Kd.R_lt (KR HO_125001))) (below_size (K4 HB GE111.out GE112.out GE118.out GE124.out))); replace HO_112001 := am (Kd.R_elder' (KR HO_112001) (Kd.R_base ho0) hb); replace HO_119001 := am (Kd.R_elder' (KR HO_119001) (Kd.R_base ho0) hb); replace HO_125001 := am (Kd.R_elder' (KR HO_125001) (Kd.R_base ho0) hb); replace BK111 := am (BB BK111 hb); replace BK112 := am (BB BK112 hb); replace BK118 := am (BB BK118 hb); replace BK124 := am (BB BK124 hb); replace HB := am (below_step (K4 HB GE111.out GE112.out GE118.out GE124.out) hb); (try clear hb); (try clear hb2); (try clear hk); (try clear hi); (try clear ho0)) | ((with_reducible refine gate_dst (N := 10) rfl ?_); (try (refine gate_guard (by rfl) ?_; dsimp only)); refine box_event rfl (N := 10) rfl (cs := #[.int .i64 0, .slice none 0 0]) (t := 46) BX ?_; intro gb137 hg w79 hbox hb; replace HO_3 := am (Kd.R_below (KR HO_3) hb); replace HO_112001 := am (Kd.R_below (KR HO_112001) hb); replace HO_119001 := am (Kd.R_below (KR HO_119001) hb); replace HO_125001 := am (Kd.R_below (KR HO_125001) hb); replace HO135 := am (Kd.R_below (KR HO135) hb); have BK137 := am (hbox); have GW137 := am ((GL hg (below_size (K4 HB GE111.out GE112.out GE118.out GE124.out)) : w.heap.size ≤ gb137)); have GE137 := GW137; replace HB := am (below_step (K4 HB GE111.out GE112.out GE118.out GE124.out) hb); have NB111_137 := am (NL BK111 hg); have NB137_111 := am (NG BK111 hg); replace BK111 := am (BB BK111 hb); have NB112_137 := am (NL BK112 hg); have NB137_112 := am (NG BK112 hg); replace BK112 := am (BB BK112 hb); have NB118_137 := am (NL BK118 hg); have NB137_118 := am (NG BK118 hg); replace BK118 := am (BB BK118 hb); have NB124_137 := am (NL BK124 hg); have NB137_124 := am (NG BK124 hg); replace BK124 := am (BB BK124 hb); clear hb hbox hg; have hnb80 := NB137_111.out; have hnc80 := NB111_137.out; have hnb81 := NB137_112.out; have hnc81 := NB112_137.out; have hnb82 := NB137_118.out; have hnc82 := NB118_137.out; have hnb83 := NB137_124.out; have hnc83 := NB124_137.out; have hcz84_0 := z0 w79 BK137.out; have hcz84_1 := z1 w79 BK137.out; have hfz84_0 := blk_frozen BK137.out 0; have hfz84_1 := blk_frozen BK137.out 1; obtain ⟨Ao85, co85, eo85⟩ := Kd.R_slice HO135.out; subst eo85; have hcz86_0 := z0 w79 BK112.out; have hcz86_1 := z1 w79 BK112.out; have hcz86_2 := z2 w79 BK112.out; have hfz86_0 := blk_frozen BK112.out 0; have hfz86_1 := blk_frozen BK112.out 1; have hfz86_2 := blk_frozen BK112.out 2) | ((with_reducible refine gate_callee (f := 16) rfl ?_); refine goesL_ (some 86) rfl rfl Try.func16 (by kernel_rfl) rfl #[.slice Ao14 t101.length co14, .agg #[.int .i64 t108, .int .i64 t109, .int .i64 t110]] rfl MT ?_; (with_reducible refine (impl_RulesFirst.calls kj5 _ _ t101 t108 t109 t110 t138 _ ?side1 ?side2 A64.out).mono ?_); (case side1 => refine (Kd.R_reads' (e := 34) (base := w.heap.size) (ok := fun k_ => True) (n := t101.length) (c := co14) ?_).2.2; exact (by (with_reducible repeat (first | apply Kd.R_alloc | apply Kd.R_drewN | apply Kd.R_drew)); exact (Kd.R_mono (Kd.R_far (p := ⟨gb137, 1, none⟩) (Kd.R_far (p := ⟨gb137, 0, none⟩) (Kd.R_types HO_3.out BK137.out (by decide)) (fun _ hk => hk.2) (.int .i64 t132)) (fun _ hk => hk.2) (.slice Ao85 t133.length co85)) (fun _ h_ => h_.1)))); (case side2 => exact (Kd.R_reads' HO_3.out).2.1); rintro e w87 ⟨rfl, hb⟩; refine ⟨_, rfl, ?_⟩; replace HO_3 := am (Kd.R_below (by (with_reducible repeat (first | apply Kd.R_alloc | apply Kd.R_drewN | apply Kd.R_drew)); exact (Kd.R_mono (Kd.R_far (p := ⟨gb137, 1, none⟩) (Kd.R_far (p := ⟨gb137, 0, none⟩) (Kd.R_types HO_3.out BK137.out (by decide)) (fun _ hk => hk.2) (.int .i64 t132)) (fun _ hk => hk.2) (.slice Ao85 t133.length co85)) (fun _ h_ => h_.1))) hb); replace HO_112001 := am (Kd.R_below (by (with_reducible repeat (first | apply Kd.R_alloc | apply Kd.R_drewN | apply Kd.R_drew)); exact (Kd.R_mono (Kd.R_far (p := ⟨gb137, 1, none⟩) (Kd.R_far (p := ⟨gb137, 0, none⟩) (Kd.R_types HO_112001.out BK137.out (by decide)) (fun _ hk => hk.2) (.int .i64 t132)) (fun _ hk => hk.2) (.slice Ao85 t133.length co85)) (fun _ h_ => h_.1))) hb); replace HO_119001 := am (Kd.R_below (by (with_reducible repeat (first | apply Kd.R_alloc | apply Kd.R_drewN | apply Kd.R_drew)); exact (Kd.R_mono (Kd.R_far (p := ⟨gb137, 1, none⟩) (Kd.R_far (p := ⟨gb137, 0, none⟩) (Kd.R_types HO_119001.out BK137.out (by decide)) (fun _ hk => hk.2) (.int .i64 t132)) (fun _ hk => hk.2) (.slice Ao85 t133.length co85)) (fun _ h_ => h_.1))) hb); replace HO_125001 := am (Kd.R_below (by (with_reducible repeat (first | apply Kd.R_alloc | apply Kd.R_drewN | apply Kd.R_drew)); exact (Kd.R_mono (Kd.R_far (p := ⟨gb137, 1, none⟩) (Kd.R_far (p := ⟨gb137, 0, none⟩) (Kd.R_types HO_125001.out BK137.out (by decide)) (fun _ hk => hk.2) (.int .i64 t132)) (fun _ hk => hk.2) (.slice Ao85 t133.length co85)) (fun _ h_ => h_.1))) hb); replace HO135 := am (Kd.R_below (by (with_reducible repeat (first | apply Kd.R_alloc | apply Kd.R_drewN | apply Kd.R_drew)); exact (Kd.R_mono (Kd.R_far (p := ⟨gb137, 1, none⟩) (Kd.R_far (p := ⟨gb137, 0, none⟩) (Kd.R_types HO135.out BK137.out (by decide)) (fun _ hk => hk.2) (.int .i64 t132)) (fun _ hk => hk.2) (.slice Ao85 t133.length co85)) (fun _ h_ => h_.1))) hb); replace BK111 := am (blk_below (g := gb111) (o := .cells #[.int .i64 t104, .slice Ao12 t105.length co12] 46 (0, 0)) (by (with_reducible repeat (first | refine blk_drewN ?_ _ | refine blk_drew ?_ | refine blk_alloc ?_ _)); refine blk_far ?_ NB111_137.out _; (with_reducible repeat (first | refine blk_drewN ?_ _ | refine blk_drew ?_ | refine blk_alloc ?_ _)); refine blk_far ?_ NB111_137.out _; (with_reducible repeat (first | refine blk_drewN ?_ _ | refine blk_drew ?_ | refine blk_alloc ?_ _)); exact BK111.out) hb); replace BK112 := am (blk_below (g := gb112) (o := .cells #[.int .i64 t108, .int .i64 t109, .int .i64 t110] 25 (0, 0)) (by (with_reducible repeat (first | refine blk_drewN ?_ _ | refine blk_drew ?_ | refine blk_alloc ?_ _)); refine blk_far ?_ NB112_137.out _; (with_reducible repeat (first | refine blk_drewN ?_ _ | refine blk_drew ?_ | refine blk_alloc ?_ _)); refine blk_far ?_ NB112_137.out _; (with_reducible repeat (first | refine blk_drewN ?_ _ | refine blk_drew ?_ | refine blk_alloc ?_ _)); exact BK112.out) hb); replace BK118 := am (blk_below (g := gb118) (o := .cells #[.int .i64 t113, .slice Ao20 t114.length co20] 46 (0, 0)) (by (with_reducible repeat (first | refine blk_drewN ?_ _ | refine blk_drew ?_ | refine blk_alloc ?_ _)); refine blk_far ?_ NB118_137.out _; (with_reducible repeat (first | refine blk_drewN ?_ _ | refine blk_drew ?_ | refine blk_alloc ?_ _)); refine blk_far ?_ NB118_137.out _; (with_reducible repeat (first | refine blk_drewN ?_ _ | refine blk_drew ?_ | refine blk_alloc ?_ _)); exact BK118.out) hb); replace BK124 := am (blk_below (g := gb124) (o := .cells #[.int .i64 t119, .slice Ao29 t120.length co29] 46 (0, 0)) (by (with_reducible repeat (first | refine blk_drewN ?_ _ | refine blk_drew ?_ | refine blk_alloc ?_ _)); refine blk_far ?_ NB124_137.out _; (with_reducible repeat (first | refine blk_drewN ?_ _ | refine blk_drew ?_ | refine blk_alloc ?_ _)); refine blk_far ?_ NB124_137.out _; (with_reducible repeat (first | refine blk_drewN ?_ _ | refine blk_drew ?_ | refine blk_alloc ?_ _)); exact BK124.out) hb); replace BK137 := am (blk_below (g := gb137) (o := .cells #[.int .i64 t132, .slice Ao85 t133.length co85] 46 (0, 0)) (by (with_reducible repeat (first | refine blk_drewN ?_ _ | refine blk_drew ?_ | refine blk_alloc ?_ _)); refine blk_put (cs := #[.int .i64 t132, .slice none 0 0]) ?_ 1 _ rfl; (with_reducible repeat (first | refine blk_drewN ?_ _ | refine blk_drew ?_ | refine blk_alloc ?_ _)); refine blk_put (cs := #[.int .i64 0, .slice none 0 0]) ?_ 0 _ rfl; (with_reducible repeat (first | refine blk_drewN ?_ _ | refine blk_drew ?_ | refine blk_alloc ?_ _)); exact BK137.out) hb); replace HB := am (below_step (K5 HB GE111.out GE112.out GE118.out GE124.out GE137.out) hb); (try clear hb); (try clear hb2); (try clear hk); (try clear hi); have hcz88_0 := z0 w87 BK118.out; have hcz88_1 := z1 w87 BK118.out; have hfz88_0 := blk_frozen BK118.out 0; have hfz88_1 := blk_frozen BK118.out 1) | (go_at_call 26; (with_reducible refine (impl_CacheOk.calls kj5 _ _ t101 t113 _ _ t114 true _ ?side1 ?side2 ?side3 ?side4 A66.out).mono ?_); (case side1 => exact KC (Kd.R_reads' HO_3.out).2.2); (case side2 => exact (Kd.R_reads' HO_3.out).2.1); (case side3 => exact KC (Kd.R_reads' HO_119001.out).2.2); (case side4 => exact (Kd.R_reads' HO_119001.out).2.1); rintro e w89 ⟨rfl, hb⟩; replace HO_3 := am (Kd.R_below (KR HO_3) hb); replace HO_112001 := am (Kd.R_below (KR HO_112001) hb); replace HO_119001 := am (Kd.R_below (KR HO_119001) hb); replace HO_125001 := am (Kd.R_below (KR HO_125001) hb); replace HO135 := am (Kd.R_below (KR HO135) hb); replace BK111 := am (BB BK111 hb); replace BK112 := am (BB BK112 hb); replace BK118 := am (BB BK118 hb); replace BK124 := am (BB BK124 hb); replace BK137 := am (BB BK137 hb); replace HB := am (below_step (K5 HB GE111.out GE112.out GE118.out GE124.out GE137.out) hb); (try clear hb); (try clear hb2); (try clear hk); (try clear hi); have hcz90_0 := z0 w89 BK137.out; have hcz90_1 := z1 w89 BK137.out; have hfz90_0 := blk_frozen BK137.out 0; have hfz90_1 := blk_frozen BK137.out 1; have hcz91_0 := z0 w89 BK118.out; have hcz91_1 := z1 w89 BK118.out; have hfz91_0 := blk_frozen BK118.out 0; have hfz91_1 := blk_frozen BK118.out 1) | (go_at_call 32; (with_reducible refine (laws_ovCache.calls kj5 t132 _ _ t133 t113 _ _ t114 true _ ?side1 ?side2 ?side3 ?side4 A69.out).mono ?_); (case side1 => exact KC (Kd.R_reads' HO135.out).2.2); (case side2 => exact (Kd.R_reads' HO135.out).2.1); (case side3 => exact KC (Kd.R_reads' HO_119001.out).2.2); (case side4 => exact (Kd.R_reads' HO_119001.out).2.1); rintro e w92 ⟨rfl, hb⟩; replace HO_3 := am (Kd.R_below (KR HO_3) hb); replace HO_112001 := am (Kd.R_below (KR HO_112001) hb); replace HO_119001 := am (Kd.R_below (KR HO_119001) hb); replace HO_125001 := am (Kd.R_below (KR HO_125001) hb); replace HO135 := am (Kd.R_below (KR HO135) hb); replace BK111 := am (BB BK111 hb); replace BK112 := am (BB BK112 hb); replace BK118 := am (BB BK118 hb); replace BK124 := am (BB BK124 hb); replace BK137 := am (BB BK137 hb); replace HB := am (below_step (K5 HB GE111.out GE112.out GE118.out GE124.out GE137.out) hb); (try clear hb); (try clear hb2); (try clear hk); (try clear hi); have hcz93_0 := z0 w92 BK118.out; have hcz93_1 := z1 w92 BK118.out; have hfz93_0 := blk_frozen BK118.out 0; have hfz93_1 := blk_frozen BK118.out 1; have hnb94 := NB111_124.out; have hnc94 := NB124_111.out; have hcz95_0 := z0 w92 BK111.out; have hcz95_1 := z1 w92 BK111.out; have hfz95_0 := blk_frozen BK111.out 0; have hfz95_1 := blk_frozen BK111.out 1))
         go_ret
         exact ⟨by first | rfl | (simp [errW_none, errW_some] <;> rfl) | (simp [*, errW_none, errW_some] <;> rfl), K5 HB GE111.out GE112.out GE118.out GE124.out GE137.out⟩
        ·replace c70 := Bool.eq_false_iff.mpr c70
         subst c70
         have H1 : (some false) = some r := by rw [if_neg (show ¬ (false = true) by decide)] at H; exact H
         clear H
         have H := H1
         clear H1
         exact absurd ((Option.some.inj H).trans HR_.out) (by decide)
       ·rw [if_neg c68] at H
        have c68b0 : (t136 == t117) = false := beq_eq_false_iff_ne.mpr c68
        have c68b1 : (t136 != t117) = true := bne_iff_ne.mpr c68
        exact absurd ((Option.some.inj H).trans HR_.out) (by decide)
      ·replace c67 := Bool.eq_false_iff.mpr c67
       subst c67
       have H1 : (some false) = some r := by rw [if_neg (show ¬ (false = true) by decide)] at H; exact H
       clear H
       have H := H1
       clear H1
       exact absurd ((Option.some.inj H).trans HR_.out) (by decide)
     ·rw [if_neg c65] at H
      have c65b0 : (t117 == t138) = false := beq_eq_false_iff_ne.mpr c65
      have c65b1 : (t117 != t138) = true := bne_iff_ne.mpr c65
      exact absurd ((Option.some.inj H).trans HR_.out) (by decide)
/-- THE ONE PURE STATEMENT of laws_FnCacheFind: yours. -/
def laws_FnCacheFind.Pure : Prop := ∀ (l0 : List Int), l0.length ≤ maxLen → l0.length * 1 ≤ 140737488351232 → (∀ x ∈ l0, (Lit.int .u8 x).wf = true) → ∃ k, laws_FnCacheFind.f k l0 = some true
theorem laws_FnCacheFind.walk (P : laws_FnCacheFind.Pure) (a0 : Option Addr) (len0 cap0 : Nat) (z0 : List Int) (w : World) (w0 : (a0 = none ∧ len0 = 0 ∧ cap0 = 0 ∧ z0 = []) ∨ ∃ x, a0 = some x ∧ len0 ≤ cap0 ∧ cap0 ≤ maxLen ∧ z0.length = cap0 ∧ (∀ i, i < z0.length → w.cell? (x.add i) = some (.int .u8 (z0.getD i 0))) ∧ ∀ n ∈ z0, (Lit.int .u8 n).wf = true) (y0 : len0 * 1 ≤ 140737488351232) :
  Calls Try.prog 6 #[.slice a0 len0 cap0] w fun e w' => e = .returned (.bool true) ∧ Below w.heap.size w w' := by
 obtain ⟨l0, rfl, hr0, hm0, hw0, hc0⟩ := ReadsInt.ofRowC w0
 obtain ⟨k, h⟩ := P l0 hm0 y0 hw0
 refine (laws_FnCacheFind.calls k _ _ l0 true w (Kd.C_of_reads (d := (0 : Int)) (h1 := fun _ => rfl) hr0) hc0 rfl h).mono ?_
 rintro e w' ⟨rfl, hd⟩
 exact ⟨rfl, hd⟩
end Go.Proofs.Ytioghacieopbdaa.PAll
end
