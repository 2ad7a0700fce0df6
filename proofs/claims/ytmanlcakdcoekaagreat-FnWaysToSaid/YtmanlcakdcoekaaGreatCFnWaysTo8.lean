/- Contracts of the functions that the statement reaches, printed by a program out of the translation and joined with the plain laws. -/
import Derived.Test.YtmanlcakdcoekaaGreatCFnWaysTo3
import Derived.Test.YtmanlcakdcoekaaGreatCFnWaysTo4
import Derived.Test.YtmanlcakdcoekaaGreatCFnWaysTo6
import Derived.Test.YtmanlcakdcoekaaGreatCFnWaysTo7
section
namespace Go.Proofs.YtmanlcakdcoekaaGreat.PAll
open Go.RowKit Go.Proofs.YtmanlcakdcoekaaGreatW.PrintWords Go.Proofs.YtmanlcakdcoekaaGreatW.PrintLast Go.Proofs.YtmanlcakdcoekaaGreatW.PrintMore
attribute [local go_sem] max2_int min2_int max_two min_two max_three min_three max_four min_four   -- for this text's walks alone
set_option linter.unusedVariables false
set_option linter.unusedSimpArgs false
def impl_set.l0 : Nat → List (S32) → List (S50) → Int → Int → Option ((List (S32)))
 | 0, _, _, _, _ => none
 | k + 1, x3, x7, x8, x9 => if x9 < x8 then (if 0 ≤ x9 then (if x9 < (x7.length : Int) then ((impl_span_blocks.f k ((rd_T50 x7 x9).f0) ((rd_T50 x7 x9).f1)).bind fun t106 => (if x3.length + t106.length < 8796093022208 then (impl_set.l0 k (x3 ++ t106) x7 x8 (wrap64 (x9 + 1))) else (none))) else (none)) else (none)) else (some x3)
def impl_set.f (k : Nat) (l0 : List (S50)) : Option ((List (S32))) := (impl_union.f k l0).bind fun t101 => (impl_set.l0 k ([] : List (S32)) t101 (t101.length : Int) 0)
set_option maxHeartbeats 8000000 in
set_option maxRecDepth 100000 in
theorem impl_set.calls (k : Nat) (A0 : Option Addr) (c0 : Nat) (l0 : List (S50)) (r : List (S32)) (w : World) (hr0 : Kd.C k50 w A0 l0.length l0) (hc0 : l0.length ≤ c0) (h : impl_set.f k l0 = some r) :
  Calls Tryz.prog 22 #[.slice A0 l0.length c0] w fun e w' => ∃ v0_ : Value, e = .returned (v0_) ∧ Kd.R k32 32 w' w.heap.size (fun _ => True) v0_ r ∧ Below w.heap.size w w' := by
 have hu50 := Tryz.underlying50
 have HR0 := Aside0.mk hr0
 have HC0 := Aside0.mk hc0
 clear hr0 hc0
 have HB := am (Below.refl w.heap.size w)
 have H : ((impl_union.f k l0).bind fun t101 => (impl_set.l0 k ([] : List (S32)) t101 (t101.length : Int) 0)) = some r := h
 clear h
 replace H := Option.bind_eq_some_iff.mp H
 obtain ⟨t101, A20, H⟩ := H
 replace H : (impl_set.l0 k ([] : List (S32)) t101 (t101.length : Int) 0) = some r := H
 have A2 := Aside0.mk A20
 clear A20
 have H' := Aside0.mk H
 clear H
 go_enter Tryz.func22, Tryz.ntmps22
 go_wp2_with (first | ((with_reducible refine gate_callee (f := 45) rfl ?_); refine goesL_ (some 7) rfl rfl Tryz.func45 (by kernel_rfl) rfl #[.slice A0 l0.length c0] rfl MT ?_; (with_reducible refine (impl_union.calls k _ _ l0 t101 _ ?side1 ?side2 A2.out).mono ?_); (case side1 => exact KC HR0.out); (case side2 => exact HC0.out); rintro e w3 ⟨v102, rfl, ho0, hb⟩; refine ⟨_, rfl, ?_⟩; have HO103 := am (Kd.R_lower ho0 (below_size (KL HB))); replace HB := am (below_step (KL HB) hb); (try clear hb); (try clear ho0); obtain ⟨Ao4, co4, eo4⟩ := Kd.R_slice HO103.out; subst eo4))
 go_loopg [3, 9] k (fun kq v3 v9 w' => ∃ (x3_1 : List (S32)) (x9_1 : Int), v9 = .int .i64 x9_1 ∧ Aside0 (impl_set.l0 kq x3_1 t101 (t101.length : Int) x9_1 = some r) ∧ Aside0 (kq ≤ k) ∧ Aside0 (Kd.R k32 32 w' w.heap.size (fun _ => True) v3 x3_1) ∧ Aside0 (Kd.R k50 50 w' w.heap.size (fun _ => True) (.slice Ao4 t101.length co4) t101) ∧ Aside0 (Below w.heap.size w w'))
 case atStart => exact ⟨(([] : List (S32))), (0), (by first | rfl | (simp; done) | (simp [*]; done)), H', ⟨Nat.le_refl _⟩, ⟨by first | exact Kd.R_nil _ _ _ _ _ | exact Kd.N_nil _ _ _ _ _ | exact Kd.V_nil _ _ _ _ _ | exact Kd.Q_nil _ _ _ _ _ | exact Kd.S_nil _ _ _ _ _⟩, ⟨KR HO103⟩, ⟨KL HB⟩⟩
 case round =>
  clear H'
  try clear c2
  try clear p2
  try clear c4
  obtain ⟨x3_1, x9_1, rfl, HA, HK1, HO_3, HO_7, HB⟩ := hrel
  cases gk with
  | zero => exact absurd HA.out (by simp [impl_set.l0])
  | succ k1 =>
   have H := HA.out
   clear HA
   simp only [impl_set.l0] at H
   by_cases c5 : x9_1 < (t101.length : Int)
   ·rw [if_pos c5] at H
    have c5b0 : decide (x9_1 < (t101.length : Int)) = true := decide_eq_true c5
    clear c5
    by_cases c6 : 0 ≤ x9_1
    ·rw [if_pos c6] at H
     have c6b0 : decide (0 ≤ x9_1) = true := decide_eq_true c6
     clear c6
     by_cases c7 : x9_1 < (t101.length : Int)
     ·rw [if_pos c7] at H
      have c7b0 : decide (x9_1 < (t101.length : Int)) = true := decide_eq_true c7
      clear c7
      replace H := Option.bind_eq_some_iff.mp H
      obtain ⟨t106, A80, H⟩ := H
      replace H : (if x3_1.length + t106.length < 8796093022208 then (impl_set.l0 k1 (x3_1 ++ t106) t101 (t101.length : Int) (wrap64 (x9_1 + 1))) else (none)) = some r := H
      have A8 := Aside0.mk A80
      clear A80
      by_cases c9 : x3_1.length + t106.length < 8796093022208
      ·rw [if_pos c9] at H
       have LMc9 := Aside0.mk c9
       clear c9
       obtain ⟨y109, hy109⟩ : ∃ y_ : List (S32), y_ = (x3_1 ++ t106) := ⟨_, rfl⟩
       replace H : (impl_set.l0 k1 y109 t101 (t101.length : Int) (wrap64 (x9_1 + 1))) = some r := by first | (rw [hy109]; with_reducible exact H) | (have H2_ := (Option.bind_some _ _).symm.trans H; rw [hy109]; with_reducible exact H2_) | (have H2_ := (Option.bind_some _ _).symm.trans H; with_reducible exact H2_) | with_reducible exact H | (rw [hy109]; exact H) | exact H
       have Ny109 := Aside0.mk hy109
       clear hy109
       have H' := Aside0.mk H
       clear H
       have p104 : 0 ≤ (x9_1 : Int) := OD
       have q104 : x9_1 < (t101.length : Int) := OD
       obtain ⟨ad104, e104, hx104_0, hx104_1⟩ := at_T50 (Kd.R_reads' HO_7.out).2.2 x9_1 p104 q104
       cases e104
       replace p104 := eq_true p104
       replace q104 := eq_true q104
       go_wp2_with (first | ((with_reducible refine gate_dst (N := 5) rfl ?_); refine box_event rfl (N := 5) rfl (cs := #[.int .i64 0, .int .i64 0]) (t := 50) BX ?_; intro gb105 hg w10 hbox hb; replace HO_3 := am (Kd.R_below (KR HO_3) hb); replace HO_7 := am (Kd.R_below (Kd.R_elderB (KR HO_7) gb105 (Nat.le_of_eq hg.symm)) hb); have BK105 := am (hbox); have GW105 := am (GH HB hg); have GE105 := GW105; replace HB := am (below_step (KL HB) hb); clear hb hbox hg; obtain ⟨hcz11_0, hcz11_1, hfz11_0⟩ := y2 w10 BK105.out) | ((with_reducible refine gate_callee (f := 46) rfl ?_); refine goesL_ (some 15) rfl rfl Tryz.func46 (by kernel_rfl) rfl #[.agg #[.int .i64 ((rd_T50 t101 x9_1).f0), .int .i64 ((rd_T50 t101 x9_1).f1)]] rfl MT ?_; (with_reducible refine (impl_span_blocks.calls k1 ((rd_T50 t101 x9_1).f0) ((rd_T50 t101 x9_1).f1) t106 _ A8.out).mono ?_); rintro e w12 ⟨v107, rfl, ho0, hb⟩; refine ⟨_, rfl, ?_⟩; replace HO_7 := am (Kd.R_below (by (with_reducible repeat (first | apply Kd.R_alloc | apply Kd.R_drewN | apply Kd.R_drew)); exact (Kd.R_mono (Kd.R_far (p := ⟨gb105, 1, none⟩) (Kd.R_far (p := ⟨gb105, 0, none⟩) (Kd.R_mono HO_7.out (fun k_ hk => (⟨hk, hk.2⟩ : _ ∧ k_ ≠ gb105))) (fun _ hk => hk.2) (.int .i64 ((rd_T50 t101 x9_1).f0))) (fun _ hk => hk.2) (.int .i64 ((rd_T50 t101 x9_1).f1))) (fun _ h_ => h_.1))) hb); have HO108 := am (Kd.R_lower (Kd.R_new' ho0 (Kd.R_lt (by (with_reducible repeat (first | apply Kd.R_alloc | apply Kd.R_drewN | apply Kd.R_drew)); exact (RF HO_3.out BK105.out)))) (below_size (K1 HB GE105.out))); replace HO_3 := am (Kd.R_elder' (by (with_reducible repeat (first | apply Kd.R_alloc | apply Kd.R_drewN | apply Kd.R_drew)); exact (RF HO_3.out BK105.out)) (Kd.R_base ho0) hb); replace BK105 := am (blk_below (g := gb105) (o := .cells #[.int .i64 ((rd_T50 t101 x9_1).f0), .int .i64 ((rd_T50 t101 x9_1).f1)] 50 (0, 0)) (by (with_reducible repeat (first | refine blk_drewN ?_ _ | refine blk_drew ?_ | refine blk_alloc ?_ _)); refine blk_put (cs := #[.int .i64 ((rd_T50 t101 x9_1).f0), .int .i64 0]) ?_ 1 _ rfl; (with_reducible repeat (first | refine blk_drewN ?_ _ | refine blk_drew ?_ | refine blk_alloc ?_ _)); refine blk_put (cs := #[.int .i64 0, .int .i64 0]) ?_ 0 _ rfl; (with_reducible repeat (first | refine blk_drewN ?_ _ | refine blk_drew ?_ | refine blk_alloc ?_ _)); exact BK105.out) hb); replace HB := am (below_step (K1 HB GE105.out) hb); (try clear hb); (try clear hb2); (try clear hk); (try clear hi); (try clear ho0); obtain ⟨Ao14, co14, eo14⟩ := Kd.R_slice HO108.out; subst eo14) | ((with_reducible refine gate_builtin (b := .append) (xs := #[.tmp 13, .tmp 15]) rfl ?_); at_builtin; refine Kd.R_append_rows k32 (w0 := w) w.heap.size rfl (.tmp 13) (.tmp 15) 26 32 (.agg #[(.int .i64 0), (.int .i64 0)]) 16 rfl Tryz.underlying26 info32 rfl (by decide) (by omega) u3 x3_1 t106 _ _ _ (fun k_ => some k_ ≠ (.slice Ao14 t106.length co14 : Value).ownBlock) (fun _ => False) rfl rfl ?aO ?aR (fun _ _ h => h) (fun _ h => h.elim) ?aF ?aB ?aS ?aL ?_; (case aR => exact KC (Kd.R_reads' HO108.out).2.2); (case aB => exact (K1 HB GE105.out)); (case aF => exact (fun k_ hk => Kd.fresh' (Kd.R_lt (KR HO108)) k_ hk)); (case aO => exact (by (with_reducible repeat (first | apply Kd.R_alloc | apply Kd.R_drewN | apply Kd.R_drew)); exact Kd.R_mono HO_3.out (fun _ hk => hk.2))); (case aS => exact (below_size (K1 HB GE105.out))); (case aL => have := LMc9.out; omega); intro v110 w13 ho hb hg hat; rw [← Ny109.out] at ho; replace HO_7 := am (Kd.R_over' (KR HO_7) (Kd.R_typed (KR HO_3)) (by decide) hg); replace BK105 := am (blk_grown (g := gb105) (o := .cells #[.int .i64 ((rd_T50 t101 x9_1).f0), .int .i64 ((rd_T50 t101 x9_1).f1)] 50 (0, 0)) (KB BK105) hg (Kd.R_ne HO_3.out BK105.out (by decide))); replace HO108 := am (Kd.R_after (ok := (fun _ => True)) (KR HO108) hg hat); replace HB := am (hb); have HO111 := am (ho); clear HO_3; clear ho hb hg hat))
       go_roundg k1
       case measure => have := HK1.out; omega
       case rel => exact ⟨(y109), (wrap64 (x9_1 + 1)), (by first | rfl | (simp; done) | (simp [*]; done)), H', ⟨by have := HK1.out; omega⟩, ⟨by (with_reducible repeat (first | apply Kd.R_alloc | apply Kd.R_drewN | apply Kd.R_drew)); exact Kd.R_mono HO111.out (fun _ hk => trivial)⟩, ⟨by (with_reducible repeat (first | apply Kd.R_alloc | apply Kd.R_drewN | apply Kd.R_drew)); exact Kd.R_mono HO_7.out (fun _ hk => trivial)⟩, ⟨K1 HB GE105.out⟩⟩
      ·rw [if_neg c9] at H
       exact absurd H (by simp)
     ·rw [if_neg c7] at H
      exact absurd H (by simp)
    ·rw [if_neg c6] at H
     exact absurd H (by simp)
   ·rw [if_neg c5] at H
    have c5b0 : decide (x9_1 < (t101.length : Int)) = false := decide_eq_false c5
    clear c5
    obtain rfl := Option.some.inj H
    go_wp2
    go_ret
    exact ⟨_, ER, by (with_reducible repeat (first | apply Kd.R_alloc | apply Kd.R_drewN | apply Kd.R_drew)); exact HO_3.out, KL HB⟩
end Go.Proofs.YtmanlcakdcoekaaGreat.PAll
end
