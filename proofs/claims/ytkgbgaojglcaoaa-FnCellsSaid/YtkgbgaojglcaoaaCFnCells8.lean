/- Contracts of the functions that the statement reaches, printed by a program out of the translation and joined with the plain laws. -/
import Derived.Test.YtkgbgaojglcaoaaCFnCells3
import Derived.Test.YtkgbgaojglcaoaaCFnCells4
import Derived.Test.YtkgbgaojglcaoaaCFnCells5
import Derived.Test.YtkgbgaojglcaoaaCFnCells6
section
namespace Go.Proofs.Ytkgbgaojglcaoaa.PAll
open Go.RowKit Go.Proofs.YtkgbgaojglcaoaaW.PrintWords Go.Proofs.YtkgbgaojglcaoaaW.PrintLast Go.Proofs.YtkgbgaojglcaoaaW.PrintMore
attribute [local go_sem] max2_int min2_int max_two min_two max_three min_three max_four min_four   -- for this text's walks alone
set_option linter.unusedVariables false
set_option linter.unusedSimpArgs false
def spec_l4Of.f (k : Nat) (l0 : List (S71)) (l1 : List (S71)) : Option (List Int × List Int × List Int) := (spec_l4Edges.f k l0 0 (([0] : List Int))).bind fun t105 => ((spec_l4Edges.f k l1 0 t105).bind fun t108 => ((spec_l4Edges.f k l0 1 (([0] : List Int))).bind fun t114 => ((spec_l4Edges.f k l1 1 t114).bind fun t117 => ((spec_l4Edges.f k l0 2 (([0] : List Int))).bind fun t123 => ((spec_l4Edges.f k l1 2 t123).bind fun t126 => (some (t108, t117, t126)))))))
set_option maxHeartbeats 8000000 in
set_option maxRecDepth 100000 in
theorem spec_l4Of.calls (k : Nat) (A0 : Option Addr) (c0 : Nat) (l0 : List (S71)) (A1 : Option Addr) (c1 : Nat) (l1 : List (S71)) (r1 : List Int) (r2 : List Int) (r3 : List Int) (w : World) (hr0 : Kd.C k71 w A0 l0.length l0) (hc0 : l0.length ≤ c0) (hr1 : Kd.C k71 w A1 l1.length l1) (hc1 : l1.length ≤ c1) (h : spec_l4Of.f k l0 l1 = some (r1, r2, r3)) :
  Calls Try.prog 83 #[.slice A0 l0.length c0, .slice A1 l1.length c1] w fun e w' => ∃ v0_ v1_ v2_ : Value, e = .returned (.agg #[v0_, v1_, v2_]) ∧ Kd.V (Kd.int .i64) 3 w' w.heap.size (fun k_ => (w.heap.size ≤ k_)) v0_ r1 ∧ Kd.V (Kd.int .i64) 3 w' w.heap.size (fun k_ => (w.heap.size ≤ k_)) v1_ r2 ∧ Kd.V (Kd.int .i64) 3 w' w.heap.size (fun k_ => (w.heap.size ≤ k_)) v2_ r3 ∧ Below w.heap.size w w' := by
 have hu106 := Try.underlying106
 have HR0 := Aside0.mk hr0
 have HC0 := Aside0.mk hc0
 clear hr0 hc0
 have HR1 := Aside0.mk hr1
 have HC1 := Aside0.mk hc1
 clear hr1 hc1
 have HB := am (Below.refl w.heap.size w)
 have H : ((spec_l4Edges.f k l0 0 (([0] : List Int))).bind fun t105 => ((spec_l4Edges.f k l1 0 t105).bind fun t108 => ((spec_l4Edges.f k l0 1 (([0] : List Int))).bind fun t114 => ((spec_l4Edges.f k l1 1 t114).bind fun t117 => ((spec_l4Edges.f k l0 2 (([0] : List Int))).bind fun t123 => ((spec_l4Edges.f k l1 2 t123).bind fun t126 => (some (t108, t117, t126)))))))) = some (r1, r2, r3) := h
 clear h
 obtain ⟨y102, hy102⟩ : ∃ y_ : List Int, y_ = (([0] : List Int)) := ⟨_, rfl⟩
 replace H : ((spec_l4Edges.f k l0 0 y102).bind fun t105 => ((spec_l4Edges.f k l1 0 t105).bind fun t108 => ((spec_l4Edges.f k l0 1 (([0] : List Int))).bind fun t114 => ((spec_l4Edges.f k l1 1 t114).bind fun t117 => ((spec_l4Edges.f k l0 2 (([0] : List Int))).bind fun t123 => ((spec_l4Edges.f k l1 2 t123).bind fun t126 => (some (t108, t117, t126)))))))) = some (r1, r2, r3) := by first | (rw [hy102]; with_reducible exact H) | (have H2_ := (Option.bind_some _ _).symm.trans H; rw [hy102]; with_reducible exact H2_) | (have H2_ := (Option.bind_some _ _).symm.trans H; with_reducible exact H2_) | with_reducible exact H | (rw [hy102]; exact H) | exact H
 have Ny102 := Aside0.mk hy102
 clear hy102
 replace H := Option.bind_eq_some_iff.mp H
 obtain ⟨t105, A30, H⟩ := H
 replace H : ((spec_l4Edges.f k l1 0 t105).bind fun t108 => ((spec_l4Edges.f k l0 1 (([0] : List Int))).bind fun t114 => ((spec_l4Edges.f k l1 1 t114).bind fun t117 => ((spec_l4Edges.f k l0 2 (([0] : List Int))).bind fun t123 => ((spec_l4Edges.f k l1 2 t123).bind fun t126 => (some (t108, t117, t126))))))) = some (r1, r2, r3) := H
 have A3 := Aside0.mk A30
 clear A30
 replace H := Option.bind_eq_some_iff.mp H
 obtain ⟨t108, A40, H⟩ := H
 replace H : ((spec_l4Edges.f k l0 1 (([0] : List Int))).bind fun t114 => ((spec_l4Edges.f k l1 1 t114).bind fun t117 => ((spec_l4Edges.f k l0 2 (([0] : List Int))).bind fun t123 => ((spec_l4Edges.f k l1 2 t123).bind fun t126 => (some (t108, t117, t126)))))) = some (r1, r2, r3) := H
 have A4 := Aside0.mk A40
 clear A40
 obtain ⟨y111, hy111⟩ : ∃ y_ : List Int, y_ = (([0] : List Int)) := ⟨_, rfl⟩
 replace H : ((spec_l4Edges.f k l0 1 y111).bind fun t114 => ((spec_l4Edges.f k l1 1 t114).bind fun t117 => ((spec_l4Edges.f k l0 2 (([0] : List Int))).bind fun t123 => ((spec_l4Edges.f k l1 2 t123).bind fun t126 => (some (t108, t117, t126)))))) = some (r1, r2, r3) := by first | (rw [hy111]; with_reducible exact H) | (have H2_ := (Option.bind_some _ _).symm.trans H; rw [hy111]; with_reducible exact H2_) | (have H2_ := (Option.bind_some _ _).symm.trans H; with_reducible exact H2_) | with_reducible exact H | (rw [hy111]; exact H) | exact H
 have Ny111 := Aside0.mk hy111
 clear hy111
 replace H := Option.bind_eq_some_iff.mp H
 obtain ⟨t114, A50, H⟩ := H
 replace H : ((spec_l4Edges.f k l1 1 t114).bind fun t117 => ((spec_l4Edges.f k l0 2 (([0] : List Int))).bind fun t123 => ((spec_l4Edges.f k l1 2 t123).bind fun t126 => (some (t108, t117, t126))))) = some (r1, r2, r3) := H
 have A5 := Aside0.mk A50
 clear A50
 replace H := Option.bind_eq_some_iff.mp H
 obtain ⟨t117, A60, H⟩ := H
 replace H : ((spec_l4Edges.f k l0 2 (([0] : List Int))).bind fun t123 => ((spec_l4Edges.f k l1 2 t123).bind fun t126 => (some (t108, t117, t126)))) = some (r1, r2, r3) := H
 have A6 := Aside0.mk A60
 clear A60
 obtain ⟨y120, hy120⟩ : ∃ y_ : List Int, y_ = (([0] : List Int)) := ⟨_, rfl⟩
 replace H : ((spec_l4Edges.f k l0 2 y120).bind fun t123 => ((spec_l4Edges.f k l1 2 t123).bind fun t126 => (some (t108, t117, t126)))) = some (r1, r2, r3) := by first | (rw [hy120]; with_reducible exact H) | (have H2_ := (Option.bind_some _ _).symm.trans H; rw [hy120]; with_reducible exact H2_) | (have H2_ := (Option.bind_some _ _).symm.trans H; with_reducible exact H2_) | with_reducible exact H | (rw [hy120]; exact H) | exact H
 have Ny120 := Aside0.mk hy120
 clear hy120
 replace H := Option.bind_eq_some_iff.mp H
 obtain ⟨t123, A70, H⟩ := H
 replace H : ((spec_l4Edges.f k l1 2 t123).bind fun t126 => (some (t108, t117, t126))) = some (r1, r2, r3) := H
 have A7 := Aside0.mk A70
 clear A70
 replace H := Option.bind_eq_some_iff.mp H
 obtain ⟨t126, A80, H⟩ := H
 replace H : (some (t108, t117, t126)) = some (r1, r2, r3) := H
 have A8 := Aside0.mk A80
 clear A80
 simp only [Option.some.injEq, Prod.mk.injEq] at H
 obtain ⟨rfl, rfl, rfl⟩ := H
 go_enter Try.func83, Try.ntmps83
 go_wp2_with (first | ((with_reducible refine gate_dst (N := 4) rfl ?_); refine box_event rfl (N := 4) rfl (cs := #[.slice none 0 0, .slice none 0 0, .slice none 0 0]) (t := 106) BX ?_; intro gb101 hg w9 hbox hb; have BK101 := am (hbox); have GW101 := am (GH HB hg); have GE101 := GW101; replace HB := am (below_step (KL HB) hb); clear hb hbox hg) | ((with_reducible refine gate_dst (N := 7) rfl ?_); refine Kd.R_lit (Kd.int .i64) _ 3 ?hg (N := 7) ?hd (xs := ([0] : List Int)) (inner := [.int .i64 0]) (ok := fun _ => True) (okp := fun _ => True) ?hr ?hp (fun _ hk => hk) trivial (Below.refl _ _) (Nat.le_refl _) (by simp) ?_; (case hd => rfl); (case hg => rfl); (case hr => first | (go_simp; done) | (go_simp; rfl)); (case hp => exact (Reps.one (show Kd.M (Kd.int .i64) _ _ _ 0 [.int .i64 0] from rfl) (Reps.none _ _))); intro v103 w10 ho11 hb hg_ hnew_; clear hg_ hnew_; (first | rw [← Ny102.out] at ho11 | (simp only [Int.reduceToNat] at ho11; rw [← Ny102.out] at ho11)); have HO104 := am (Kd.R_lower (Kd.R_newM (M := fun k_ => (w.heap.size ≤ k_)) ho11 (below_size (K1 HB GE101.out)) (fun k_ h_ => h_)) (below_size (K1 HB GE101.out))); replace BK101 := am (BB BK101 hb); replace HB := am (below_step (K1 HB GE101.out) hb); clear hb ho11; obtain ⟨Ao12, co12, eo12⟩ := Kd.R_slice HO104.out; subst eo12) | ((with_reducible refine gate_callee (f := 126) rfl ?_); refine goesL_ (some 8) rfl rfl Try.func126 (by kernel_rfl) rfl #[.slice A0 l0.length c0, .int .i64 0, .slice Ao12 y102.length co12] rfl MT ?_; (with_reducible refine (spec_l4Edges.calls k _ _ l0 0 (fun k_ => some k_ = (.slice Ao12 y102.length co12 : Value).ownBlock) _ _ y102 t105 _ ?side1 ?side2 ?side3 A3.out).mono ?_); (case side1 => exact KD HR0 HB); (case side2 => exact HC0.out); (case side3 => exact Kd.R_V (Kd.R_tight rfl (Kd.R_types (HO104.out) BK101.out (by decide)))); rintro e w13 ⟨v106, rfl, ho0, hb⟩; refine ⟨_, rfl, ?_⟩; have HO107 := am (Kd.V_lower (Kd.V_mono (ok' := fun k_ => (w.heap.size ≤ k_) ∧ k_ ≠ gb101) ho0 (fun k_ hk_ => ⟨Or.elim hk_ (fun hs_ => ((Kd.R_types (HO104.out) BK101.out (by decide)).1 k_ hs_.symm).1.1) (fun hn_ => (Nat.le_trans (below_size (K1 HB GE101.out)) hn_)), Or.elim hk_ (fun hs_ => ((Kd.R_types (HO104.out) BK101.out (by decide)).1 k_ hs_.symm).2) (fun hn_ => (Kd.freshB (g := gb101) (o := .cells #[.slice none 0 0, .slice none 0 0, .slice none 0 0] 106 (0, 0)) (KB BK101) k_ hn_))⟩)) (below_size (K1 HB GE101.out))); replace HO104 := am (Kd.R_below (KR HO104) hb); replace BK101 := am (BB BK101 hb); replace HB := am (below_step (K1 HB GE101.out) hb); (try clear hb); (try clear ho0); obtain ⟨Ao14, co14, eo14⟩ := Kd.V_slice HO107.out; subst eo14) | ((with_reducible refine gate_callee (f := 126) rfl ?_); refine goesL_ (some 9) rfl rfl Try.func126 (by kernel_rfl) rfl #[.slice A1 l1.length c1, .int .i64 0, .slice Ao14 t105.length co14] rfl MT ?_; (with_reducible refine (spec_l4Edges.calls k _ _ l1 0 (fun k_ => ((w.heap.size ≤ k_) ∧ k_ ≠ gb101)) _ _ t105 t108 _ ?side1 ?side2 ?side3 A4.out).mono ?_); (case side1 => exact KD HR1 HB); (case side2 => exact HC1.out); (case side3 => exact HO107.out); rintro e w15 ⟨v109, rfl, ho0, hb⟩; refine ⟨_, rfl, ?_⟩; replace HO104 := am (Kd.R_below (KR HO104) hb); replace HO107 := am (Kd.V_below (by (with_reducible repeat (first | apply Kd.V_alloc | apply Kd.V_drewN | apply Kd.V_drew)); exact HO107.out) hb); have HO110 := am (Kd.V_lower (Kd.V_mono (ok' := fun k_ => (w.heap.size ≤ k_) ∧ k_ ≠ gb101) ho0 (fun k_ hk_ => ⟨Or.elim hk_ (fun hs_ => hs_.1) (fun hn_ => (Nat.le_trans (below_size (K1 HB GE101.out)) hn_)), Or.elim hk_ (fun hs_ => hs_.2) (fun hn_ => (Kd.freshB (g := gb101) (o := .cells #[.slice none 0 0, .slice none 0 0, .slice none 0 0] 106 (0, 0)) (KB BK101) k_ hn_))⟩)) (below_size (K1 HB GE101.out))); replace BK101 := am (BB BK101 hb); replace HB := am (below_step (K1 HB GE101.out) hb); (try clear hb); (try clear hb2); (try clear hk); (try clear hi); (try clear ho0)) | ((with_reducible refine gate_dst (N := 12) rfl ?_); refine Kd.R_lit (Kd.int .i64) _ 3 ?hg (N := 12) ?hd (xs := ([0] : List Int)) (inner := [.int .i64 0]) (ok := fun _ => True) (okp := fun _ => True) ?hr ?hp (fun _ hk => hk) trivial (Below.refl _ _) (Nat.le_refl _) (by simp) ?_; (case hd => rfl); (case hg => rfl); (case hr => first | (go_simp; done) | (go_simp; rfl)); (case hp => exact (Reps.one (show Kd.M (Kd.int .i64) _ _ _ 0 [.int .i64 0] from rfl) (Reps.none _ _))); intro v112 w16 ho17 hb hg_ hnew_; clear hg_ hnew_; (first | rw [← Ny111.out] at ho17 | (simp only [Int.reduceToNat] at ho17; rw [← Ny111.out] at ho17)); replace HO107 := am (Kd.V_elder' (by (with_reducible repeat (first | apply Kd.V_alloc | apply Kd.V_drewN | apply Kd.V_drew)); exact HO107.out) (Kd.R_base ho17) hb); replace HO110 := am (Kd.V_elder' (by (with_reducible repeat (first | apply Kd.V_alloc | apply Kd.V_drewN | apply Kd.V_drew)); exact HO110.out) (Kd.R_base ho17) hb); have HO113 := am (Kd.R_lower (Kd.R_new' (Kd.R_newM (M := fun k_ => (w.heap.size ≤ k_)) ho17 (below_size (K1 HB GE101.out)) (fun k_ h_ => h_)) (Kd.R_lt (KR HO104))) (below_size (K1 HB GE101.out))); replace HO104 := am (Kd.R_elder' (KR HO104) (Kd.R_base ho17) hb); replace BK101 := am (BB BK101 hb); replace HB := am (below_step (K1 HB GE101.out) hb); clear hb ho17; obtain ⟨Ao18, co18, eo18⟩ := Kd.R_slice HO113.out; subst eo18) | ((with_reducible refine gate_callee (f := 126) rfl ?_); refine goesL_ (some 13) rfl rfl Try.func126 (by kernel_rfl) rfl #[.slice A0 l0.length c0, .int .i64 1, .slice Ao18 y111.length co18] rfl MT ?_; (with_reducible refine (spec_l4Edges.calls k _ _ l0 1 (fun k_ => some k_ = (.slice Ao18 y111.length co18 : Value).ownBlock) _ _ y111 t114 _ ?side1 ?side2 ?side3 A5.out).mono ?_); (case side1 => exact KD HR0 HB); (case side2 => exact HC0.out); (case side3 => exact Kd.R_V (Kd.R_tight rfl (Kd.R_types (HO113.out) BK101.out (by decide)))); rintro e w19 ⟨v115, rfl, ho0, hb⟩; refine ⟨_, rfl, ?_⟩; replace HO107 := am (Kd.V_below (by (with_reducible repeat (first | apply Kd.V_alloc | apply Kd.V_drewN | apply Kd.V_drew)); exact HO107.out) hb); replace HO110 := am (Kd.V_below (by (with_reducible repeat (first | apply Kd.V_alloc | apply Kd.V_drewN | apply Kd.V_drew)); exact HO110.out) hb); have HO116 := am (Kd.V_lower (Kd.V_mono (ok' := fun k_ => (w.heap.size ≤ k_) ∧ some k_ ≠ (.slice Ao12 y102.length co12 : Value).ownBlock ∧ k_ ≠ gb101) ho0 (fun k_ hk_ => ⟨Or.elim hk_ (fun hs_ => ((Kd.R_types (HO113.out) BK101.out (by decide)).1 k_ hs_.symm).1.1.1) (fun hn_ => (Nat.le_trans (below_size (K1 HB GE101.out)) hn_)), Or.elim hk_ (fun hs_ => ((Kd.R_types (HO113.out) BK101.out (by decide)).1 k_ hs_.symm).1.2) (fun hn_ => (Kd.fresh' (Kd.R_lt (KR HO104)) k_ hn_)), Or.elim hk_ (fun hs_ => ((Kd.R_types (HO113.out) BK101.out (by decide)).1 k_ hs_.symm).2) (fun hn_ => (Kd.freshB (g := gb101) (o := .cells #[.slice none 0 0, .slice none 0 0, .slice none 0 0] 106 (0, 0)) (KB BK101) k_ hn_))⟩)) (below_size (K1 HB GE101.out))); replace HO104 := am (Kd.R_below (KR HO104) hb); replace HO113 := am (Kd.R_below (KR HO113) hb); replace BK101 := am (BB BK101 hb); replace HB := am (below_step (K1 HB GE101.out) hb); (try clear hb); (try clear hb2); (try clear hk); (try clear hi); (try clear ho0); obtain ⟨Ao20, co20, eo20⟩ := Kd.V_slice HO116.out; subst eo20) | ((with_reducible refine gate_callee (f := 126) rfl ?_); refine goesL_ (some 14) rfl rfl Try.func126 (by kernel_rfl) rfl #[.slice A1 l1.length c1, .int .i64 1, .slice Ao20 t114.length co20] rfl MT ?_; (with_reducible refine (spec_l4Edges.calls k _ _ l1 1 (fun k_ => ((w.heap.size ≤ k_) ∧ (some k_ ≠ (.slice Ao12 y102.length co12 : Value).ownBlock ∧ k_ ≠ gb101))) _ _ t114 t117 _ ?side1 ?side2 ?side3 A6.out).mono ?_); (case side1 => exact KD HR1 HB); (case side2 => exact HC1.out); (case side3 => exact HO116.out); rintro e w21 ⟨v118, rfl, ho0, hb⟩; refine ⟨_, rfl, ?_⟩; replace HO107 := am (Kd.V_below (by (with_reducible repeat (first | apply Kd.V_alloc | apply Kd.V_drewN | apply Kd.V_drew)); exact HO107.out) hb); replace HO110 := am (Kd.V_below (by (with_reducible repeat (first | apply Kd.V_alloc | apply Kd.V_drewN | apply Kd.V_drew)); exact HO110.out) hb); replace HO113 := am (Kd.R_below (KR HO113) hb); replace HO116 := am (Kd.V_below (by (with_reducible repeat (first | apply Kd.V_alloc | apply Kd.V_drewN | apply Kd.V_drew)); exact HO116.out) hb); have HO119 := am (Kd.V_lower (Kd.V_mono (ok' := fun k_ => (w.heap.size ≤ k_) ∧ some k_ ≠ (.slice Ao12 y102.length co12 : Value).ownBlock ∧ k_ ≠ gb101) ho0 (fun k_ hk_ => ⟨Or.elim hk_ (fun hs_ => hs_.1) (fun hn_ => (Nat.le_trans (below_size (K1 HB GE101.out)) hn_)), Or.elim hk_ (fun hs_ => hs_.2.1) (fun hn_ => (Kd.fresh' (Kd.R_lt (KR HO104)) k_ hn_)), Or.elim hk_ (fun hs_ => hs_.2.2) (fun hn_ => (Kd.freshB (g := gb101) (o := .cells #[.slice none 0 0, .slice none 0 0, .slice none 0 0] 106 (0, 0)) (KB BK101) k_ hn_))⟩)) (below_size (K1 HB GE101.out))); replace HO104 := am (Kd.R_below (KR HO104) hb); replace BK101 := am (BB BK101 hb); replace HB := am (below_step (K1 HB GE101.out) hb); (try clear hb); (try clear hb2); (try clear hk); (try clear hi); (try clear ho0)) | ((with_reducible refine gate_dst (N := 17) rfl ?_); refine Kd.R_lit (Kd.int .i64) _ 3 ?hg (N := 17) ?hd (xs := ([0] : List Int)) (inner := [.int .i64 0]) (ok := fun _ => True) (okp := fun _ => True) ?hr ?hp (fun _ hk => hk) trivial (Below.refl _ _) (Nat.le_refl _) (by simp) ?_; (case hd => rfl); (case hg => rfl); (case hr => first | (go_simp; done) | (go_simp; rfl)); (case hp => exact (Reps.one (show Kd.M (Kd.int .i64) _ _ _ 0 [.int .i64 0] from rfl) (Reps.none _ _))); intro v121 w22 ho23 hb hg_ hnew_; clear hg_ hnew_; (first | rw [← Ny120.out] at ho23 | (simp only [Int.reduceToNat] at ho23; rw [← Ny120.out] at ho23)); replace HO107 := am (Kd.V_elder' (by (with_reducible repeat (first | apply Kd.V_alloc | apply Kd.V_drewN | apply Kd.V_drew)); exact HO107.out) (Kd.R_base ho23) hb); replace HO110 := am (Kd.V_elder' (by (with_reducible repeat (first | apply Kd.V_alloc | apply Kd.V_drewN | apply Kd.V_drew)); exact HO110.out) (Kd.R_base ho23) hb); replace HO116 := am (Kd.V_elder' (by (with_reducible repeat (first | apply Kd.V_alloc | apply Kd.V_drewN | apply Kd.V_drew)); exact HO116.out) (Kd.R_base ho23) hb); replace HO119 := am (Kd.V_elder' (by (with_reducible repeat (first | apply Kd.V_alloc | apply Kd.V_drewN | apply Kd.V_drew)); exact HO119.out) (Kd.R_base ho23) hb); have HO122 := am (Kd.R_lower (Kd.R_new' (Kd.R_new' (Kd.R_newM (M := fun k_ => (w.heap.size ≤ k_)) ho23 (below_size (K1 HB GE101.out)) (fun k_ h_ => h_)) (Kd.R_lt (KR HO104))) (Kd.R_lt (KR HO113))) (below_size (K1 HB GE101.out))); replace HO104 := am (Kd.R_elder' (KR HO104) (Kd.R_base ho23) hb); replace HO113 := am (Kd.R_elder' (KR HO113) (Kd.R_base ho23) hb); replace BK101 := am (BB BK101 hb); replace HB := am (below_step (K1 HB GE101.out) hb); clear hb ho23; obtain ⟨Ao24, co24, eo24⟩ := Kd.R_slice HO122.out; subst eo24) | ((with_reducible refine gate_callee (f := 126) rfl ?_); refine goesL_ (some 18) rfl rfl Try.func126 (by kernel_rfl) rfl #[.slice A0 l0.length c0, .int .i64 2, .slice Ao24 y120.length co24] rfl MT ?_; (with_reducible refine (spec_l4Edges.calls k _ _ l0 2 (fun k_ => some k_ = (.slice Ao24 y120.length co24 : Value).ownBlock) _ _ y120 t123 _ ?side1 ?side2 ?side3 A7.out).mono ?_); (case side1 => exact KD HR0 HB); (case side2 => exact HC0.out); (case side3 => exact Kd.R_V (Kd.R_tight rfl (Kd.R_types (HO122.out) BK101.out (by decide)))); rintro e w25 ⟨v124, rfl, ho0, hb⟩; refine ⟨_, rfl, ?_⟩; replace HO107 := am (Kd.V_below (by (with_reducible repeat (first | apply Kd.V_alloc | apply Kd.V_drewN | apply Kd.V_drew)); exact HO107.out) hb); replace HO110 := am (Kd.V_below (by (with_reducible repeat (first | apply Kd.V_alloc | apply Kd.V_drewN | apply Kd.V_drew)); exact HO110.out) hb); replace HO116 := am (Kd.V_below (by (with_reducible repeat (first | apply Kd.V_alloc | apply Kd.V_drewN | apply Kd.V_drew)); exact HO116.out) hb); replace HO119 := am (Kd.V_below (by (with_reducible repeat (first | apply Kd.V_alloc | apply Kd.V_drewN | apply Kd.V_drew)); exact HO119.out) hb); have HO125 := am (Kd.V_lower (Kd.V_mono (ok' := fun k_ => (w.heap.size ≤ k_) ∧ some k_ ≠ (.slice Ao12 y102.length co12 : Value).ownBlock ∧ some k_ ≠ (.slice Ao18 y111.length co18 : Value).ownBlock ∧ k_ ≠ gb101) ho0 (fun k_ hk_ => ⟨Or.elim hk_ (fun hs_ => ((Kd.R_types (HO122.out) BK101.out (by decide)).1 k_ hs_.symm).1.1.1.1) (fun hn_ => (Nat.le_trans (below_size (K1 HB GE101.out)) hn_)), Or.elim hk_ (fun hs_ => ((Kd.R_types (HO122.out) BK101.out (by decide)).1 k_ hs_.symm).1.1.2) (fun hn_ => (Kd.fresh' (Kd.R_lt (KR HO104)) k_ hn_)), Or.elim hk_ (fun hs_ => ((Kd.R_types (HO122.out) BK101.out (by decide)).1 k_ hs_.symm).1.2) (fun hn_ => (Kd.fresh' (Kd.R_lt (KR HO113)) k_ hn_)), Or.elim hk_ (fun hs_ => ((Kd.R_types (HO122.out) BK101.out (by decide)).1 k_ hs_.symm).2) (fun hn_ => (Kd.freshB (g := gb101) (o := .cells #[.slice none 0 0, .slice none 0 0, .slice none 0 0] 106 (0, 0)) (KB BK101) k_ hn_))⟩)) (below_size (K1 HB GE101.out))); replace HO104 := am (Kd.R_below (KR HO104) hb); replace HO113 := am (Kd.R_below (KR HO113) hb); replace HO122 := am (Kd.R_below (KR HO122) hb); replace BK101 := am (BB BK101 hb); replace HB := am (below_step (K1 HB GE101.out) hb); (try clear hb); (try clear hb2); (try clear hk); (try clear hi); (try clear ho0); obtain ⟨Ao26, co26, eo26⟩ := Kd.V_slice HO125.out; subst eo26) | ((with_reducible refine gate_callee (f := 126) rfl ?_); refine goesL_ (some 19) rfl rfl Try.func126 (by kernel_rfl) rfl #[.slice A1 l1.length c1, .int .i64 2, .slice Ao26 t123.length co26] rfl MT ?_; (with_reducible refine (spec_l4Edges.calls k _ _ l1 2 (fun k_ => ((w.heap.size ≤ k_) ∧ (some k_ ≠ (.slice Ao12 y102.length co12 : Value).ownBlock ∧ (some k_ ≠ (.slice Ao18 y111.length co18 : Value).ownBlock ∧ k_ ≠ gb101)))) _ _ t123 t126 _ ?side1 ?side2 ?side3 A8.out).mono ?_); (case side1 => exact KD HR1 HB); (case side2 => exact HC1.out); (case side3 => exact HO125.out); rintro e w27 ⟨v127, rfl, ho0, hb⟩; refine ⟨_, rfl, ?_⟩; replace HO107 := am (Kd.V_below (by (with_reducible repeat (first | apply Kd.V_alloc | apply Kd.V_drewN | apply Kd.V_drew)); exact HO107.out) hb); replace HO110 := am (Kd.V_below (by (with_reducible repeat (first | apply Kd.V_alloc | apply Kd.V_drewN | apply Kd.V_drew)); exact HO110.out) hb); replace HO116 := am (Kd.V_below (by (with_reducible repeat (first | apply Kd.V_alloc | apply Kd.V_drewN | apply Kd.V_drew)); exact HO116.out) hb); replace HO119 := am (Kd.V_below (by (with_reducible repeat (first | apply Kd.V_alloc | apply Kd.V_drewN | apply Kd.V_drew)); exact HO119.out) hb); replace HO122 := am (Kd.R_below (KR HO122) hb); replace HO125 := am (Kd.V_below (by (with_reducible repeat (first | apply Kd.V_alloc | apply Kd.V_drewN | apply Kd.V_drew)); exact HO125.out) hb); have HO128 := am (Kd.V_lower (Kd.V_mono (ok' := fun k_ => (w.heap.size ≤ k_) ∧ some k_ ≠ (.slice Ao12 y102.length co12 : Value).ownBlock ∧ some k_ ≠ (.slice Ao18 y111.length co18 : Value).ownBlock ∧ k_ ≠ gb101) ho0 (fun k_ hk_ => ⟨Or.elim hk_ (fun hs_ => hs_.1) (fun hn_ => (Nat.le_trans (below_size (K1 HB GE101.out)) hn_)), Or.elim hk_ (fun hs_ => hs_.2.1) (fun hn_ => (Kd.fresh' (Kd.R_lt (KR HO104)) k_ hn_)), Or.elim hk_ (fun hs_ => hs_.2.2.1) (fun hn_ => (Kd.fresh' (Kd.R_lt (KR HO113)) k_ hn_)), Or.elim hk_ (fun hs_ => hs_.2.2.2) (fun hn_ => (Kd.freshB (g := gb101) (o := .cells #[.slice none 0 0, .slice none 0 0, .slice none 0 0] 106 (0, 0)) (KB BK101) k_ hn_))⟩)) (below_size (K1 HB GE101.out))); replace HO104 := am (Kd.R_below (KR HO104) hb); replace HO113 := am (Kd.R_below (KR HO113) hb); replace BK101 := am (BB BK101 hb); replace HB := am (below_step (K1 HB GE101.out) hb); (try clear hb); (try clear hb2); (try clear hk); (try clear hi); (try clear ho0); obtain ⟨Ao28, co28, eo28⟩ := Kd.V_slice HO128.out; subst eo28; obtain ⟨Ao29, co29, eo29⟩ := Kd.V_slice HO119.out; subst eo29; obtain ⟨Ao30, co30, eo30⟩ := Kd.V_slice HO110.out; subst eo30; obtain ⟨hcz31_0, hcz31_1, hcz31_2, hfz31_0⟩ := y3 w27 BK101.out))
 refine bodyPost_ret (results_cell_row rfl _ _ gb101 106 #[.slice Ao30 t108.length co30, .slice Ao29 t117.length co29, .slice Ao28 t126.length co28] (0, 0) _ rfl (by (with_reducible repeat (first | refine blk_drewN ?_ _ | refine blk_drew ?_ | refine blk_alloc ?_ _)); refine blk_put (cs := #[.slice Ao30 t108.length co30, .slice Ao29 t117.length co29, .slice none 0 0]) ?_ 2 _ rfl; (with_reducible repeat (first | refine blk_drewN ?_ _ | refine blk_drew ?_ | refine blk_alloc ?_ _)); refine blk_put (cs := #[.slice Ao30 t108.length co30, .slice none 0 0, .slice none 0 0]) ?_ 1 _ rfl; (with_reducible repeat (first | refine blk_drewN ?_ _ | refine blk_drew ?_ | refine blk_alloc ?_ _)); refine blk_put (cs := #[.slice none 0 0, .slice none 0 0, .slice none 0 0]) ?_ 0 _ rfl; (with_reducible repeat (first | refine blk_drewN ?_ _ | refine blk_drew ?_ | refine blk_alloc ?_ _)); exact BK101.out) Try.underlying106 rfl (by kernel_rfl)) rfl ?_
 exact ⟨_, _, _, ER, by (with_reducible repeat (first | apply Kd.V_alloc | apply Kd.V_drewN | apply Kd.V_drew)); exact Kd.V_mono (Kd.V_far (p := ⟨gb101, 2, none⟩) (Kd.V_far (p := ⟨gb101, 1, none⟩) (Kd.V_far (p := ⟨gb101, 0, none⟩) (Kd.V_mono HO110.out (fun k_ hk => (⟨hk, hk.1.1.2⟩ : _ ∧ k_ ≠ gb101))) (fun _ hk => hk.2) (.slice Ao30 t108.length co30)) (fun _ hk => hk.2) (.slice Ao29 t117.length co29)) (fun _ hk => hk.2) (.slice Ao28 t126.length co28)) (fun _ hk => hk.1.1.1.1), by (with_reducible repeat (first | apply Kd.V_alloc | apply Kd.V_drewN | apply Kd.V_drew)); exact Kd.V_mono (Kd.V_far (p := ⟨gb101, 2, none⟩) (Kd.V_far (p := ⟨gb101, 1, none⟩) (Kd.V_far (p := ⟨gb101, 0, none⟩) (Kd.V_mono HO119.out (fun k_ hk => (⟨hk, hk.1.2.2⟩ : _ ∧ k_ ≠ gb101))) (fun _ hk => hk.2) (.slice Ao30 t108.length co30)) (fun _ hk => hk.2) (.slice Ao29 t117.length co29)) (fun _ hk => hk.2) (.slice Ao28 t126.length co28)) (fun _ hk => hk.1.1.1), by (with_reducible repeat (first | apply Kd.V_alloc | apply Kd.V_drewN | apply Kd.V_drew)); exact Kd.V_mono (Kd.V_far (p := ⟨gb101, 2, none⟩) (Kd.V_far (p := ⟨gb101, 1, none⟩) (Kd.V_far (p := ⟨gb101, 0, none⟩) (Kd.V_mono HO128.out (fun k_ hk => (⟨hk, hk.2.2.2⟩ : _ ∧ k_ ≠ gb101))) (fun _ hk => hk.2) (.slice Ao30 t108.length co30)) (fun _ hk => hk.2) (.slice Ao29 t117.length co29)) (fun _ hk => hk.2) (.slice Ao28 t126.length co28)) (fun _ hk => hk.1.1), K1 HB GE101.out⟩
def spec_l4About.f (k : Nat) (a0_0 : Int) (a0_1 : Int) (a0_2 : Int) (a0_3 : Int) (a0_4 : Int) (a0_5 : Int) (a0_6 : Int) (a0_7 : Int) (a1_0 : Int) (a1_1 : Int) (a1_2 : Int) : Option (Bool) := (spec_l1Last.f k a0_2 a0_3).bind fun t103 => ((spec_l1In.f a1_0 a0_2 t103).bind fun t104 => (if t104 = true then ((spec_l1Last.f k a0_4 a0_5).bind fun t105 => ((spec_l1In.f a1_1 a0_4 t105).bind fun t106 => (if t106 = true then ((spec_l1In.f a1_2 a0_6 a0_7).bind fun t107 => (some t107)) else (some false)))) else (some false)))
def spec_l4About.T1 : Bool × List (List Nat × List Nat) := (true, [([], []), ([0], [0]), ([], []), ([2], [2]), ([3], [3]), ([], []), ([5], [5]), ([6], [6]), ([1, 4, 7, 7], [1, 4, 7]), ([8, 8], [8]), ([9], [9]), ([10, 9], [9, 10]), ([9], [9]), ([12, 9], [9, 12]), ([13, 9], [9, 13]), ([9], [9]), ([15, 9], [9, 15]), ([16, 9, 9], [9, 16]), ([11, 14, 17, 17, 9], [9, 11, 14, 17]), ([9, 18], [9, 18]), ([19, 18], [19]), ([20], [20]), ([21, 20], [20, 21]), ([20], [20]), ([23, 20], [20, 23]), ([20], [20]), ([25, 20], [20, 25]), ([22, 24, 26, 20, 20], [20, 22, 24, 26]), ([20, 27], [20, 27]), ([28, 27, 0, 1, 2, 3, 4, 5, 6, 7, 8, 9, 10, 11, 12, 13, 14, 15, 16, 17, 18, 19, 20, 21, 22, 23, 24, 25, 26, 27, 28], [28])])
def spec_l4About.B1 : List Nat := [0, 1, 0, 4, 12, 0, 32, 96, 255, 511, 1023, 2047, 1023, 5119, 13311, 1023, 33791, 99327, 262143, 524287, 1048575, 2097151, 4194303, 2097151, 10485759, 2097151, 35651583, 134217727, 268435455, 536870911]
theorem spec_l4About.tab1 : rtab .any (opsOf Try.f127 1) = spec_l4About.T1 := by kernel_rfl
theorem spec_l4About.bits1 : waitsOk spec_l4About.T1.2 spec_l4About.B1 = true := by kernel_rfl
set_option maxHeartbeats 8000000 in
set_option maxRecDepth 100000 in
theorem spec_l4About.calls (k : Nat) (a0_0 : Int) (a0_1 : Int) (a0_2 : Int) (a0_3 : Int) (a0_4 : Int) (a0_5 : Int) (a0_6 : Int) (a0_7 : Int) (a1_0 : Int) (a1_1 : Int) (a1_2 : Int) (r : Bool) (w : World) (h : spec_l4About.f k a0_0 a0_1 a0_2 a0_3 a0_4 a0_5 a0_6 a0_7 a1_0 a1_1 a1_2 = some r) :
  Calls Try.prog 127 #[.agg #[.int .i64 a0_0, .int .i64 a0_1, .int .i64 a0_2, .int .i64 a0_3, .int .i64 a0_4, .int .i64 a0_5, .int .i64 a0_6, .int .i64 a0_7], .agg #[.int .i64 a1_0, .int .i64 a1_1, .int .i64 a1_2]] w fun e w' => e = .returned (.bool r) ∧ Below w.heap.size w w' := by
 have hu71 := Try.underlying71
 have hu60 := Try.underlying60
 have hu43 := Try.underlying43
 have HB := am (Below.refl w.heap.size w)
 have H : ((spec_l1Last.f k a0_2 a0_3).bind fun t103 => ((spec_l1In.f a1_0 a0_2 t103).bind fun t104 => (if t104 = true then ((spec_l1Last.f k a0_4 a0_5).bind fun t105 => ((spec_l1In.f a1_1 a0_4 t105).bind fun t106 => (if t106 = true then ((spec_l1In.f a1_2 a0_6 a0_7).bind fun t107 => (some t107)) else (some false)))) else (some false)))) = some r := h
 clear h
 replace H := Option.bind_eq_some_iff.mp H
 obtain ⟨t103, A30, H⟩ := H
 replace H : ((spec_l1In.f a1_0 a0_2 t103).bind fun t104 => (if t104 = true then ((spec_l1Last.f k a0_4 a0_5).bind fun t105 => ((spec_l1In.f a1_1 a0_4 t105).bind fun t106 => (if t106 = true then ((spec_l1In.f a1_2 a0_6 a0_7).bind fun t107 => (some t107)) else (some false)))) else (some false))) = some r := H
 have A3 := Aside0.mk A30
 clear A30
 replace H := Option.bind_eq_some_iff.mp H
 obtain ⟨t104, A40, H⟩ := H
 replace H : (if t104 = true then ((spec_l1Last.f k a0_4 a0_5).bind fun t105 => ((spec_l1In.f a1_1 a0_4 t105).bind fun t106 => (if t106 = true then ((spec_l1In.f a1_2 a0_6 a0_7).bind fun t107 => (some t107)) else (some false)))) else (some false)) = some r := H
 have A4 := Aside0.mk A40
 clear A40
 by_cases c5 : t104 = true
 ·subst c5
  have H1 : ((spec_l1Last.f k a0_4 a0_5).bind fun t105 => ((spec_l1In.f a1_1 a0_4 t105).bind fun t106 => (if t106 = true then ((spec_l1In.f a1_2 a0_6 a0_7).bind fun t107 => (some t107)) else (some false)))) = some r := by rw [if_pos rfl] at H; exact H
  clear H
  have H := H1
  clear H1
  replace H := Option.bind_eq_some_iff.mp H
  obtain ⟨t105, A60, H⟩ := H
  replace H : ((spec_l1In.f a1_1 a0_4 t105).bind fun t106 => (if t106 = true then ((spec_l1In.f a1_2 a0_6 a0_7).bind fun t107 => (some t107)) else (some false))) = some r := H
  have A6 := Aside0.mk A60
  clear A60
  replace H := Option.bind_eq_some_iff.mp H
  obtain ⟨t106, A70, H⟩ := H
  replace H : (if t106 = true then ((spec_l1In.f a1_2 a0_6 a0_7).bind fun t107 => (some t107)) else (some false)) = some r := H
  have A7 := Aside0.mk A70
  clear A70
  by_cases c8 : t106 = true
  ·subst c8
   have H1 : ((spec_l1In.f a1_2 a0_6 a0_7).bind fun t107 => (some t107)) = some r := by rw [if_pos rfl] at H; exact H
   clear H
   have H := H1
   clear H1
   replace H := Option.bind_eq_some_iff.mp H
   obtain ⟨t107, A90, H⟩ := H
   replace H : (some t107) = some r := H
   have A9 := Aside0.mk A90
   clear A90
   obtain rfl := Option.some.inj H
   go_enter Try.func127, Try.ntmps127
   try go_wp2_with (first | ((with_reducible refine gate_dst (N := 2) rfl ?_); refine box_event rfl (N := 2) rfl (cs := #[.int .i64 a0_0, .int .i64 a0_1, .int .i64 a0_2, .int .i64 a0_3, .int .i64 a0_4, .int .i64 a0_5, .int .i64 a0_6, .int .i64 a0_7]) (t := 71) BX ?_; intro gb101 hg w10 hbox hb; have BK101 := am (hbox); have GW101 := am (GH HB hg); have GE101 := GW101; replace HB := am (below_step (KL HB) hb); clear hb hbox hg) | ((with_reducible refine gate_dst (N := 3) rfl ?_); refine box_event rfl (N := 3) rfl (cs := #[.int .i64 a1_0, .int .i64 a1_1, .int .i64 a1_2]) (t := 60) BX ?_; intro gb102 hg w11 hbox hb; have BK102 := am (hbox); have GW102 := am (GH1 HB GE101.out hg); have GE102 := GW102; replace HB := am (below_step (K1 HB GE101.out) hb); have NB101_102 := am (NL BK101 hg); have NB102_101 := am (NG BK101 hg); replace BK101 := am (BB BK101 hb); clear hb hbox hg))
   replace BK101 := am (blk_drew BK101.out)
   replace BK102 := am (blk_drew BK102.out)
   replace HB := am (below_drew1 HB.out)
   refine start_ (n := 30) (S := fun w' => ce3 w' gb102 (.int .i64 a1_0) (.int .i64 a1_1) (.int .i64 a1_2) (de8 w' gb101 (.int .i64 a0_0) (.int .i64 a0_1) (.int .i64 a0_2) (.int .i64 a0_3) (.int .i64 a0_4) (.int .i64 a0_5) (.int .i64 a0_6) (.int .i64 a0_7))) (ds := []) (tf 0 30) (by kernel_rfl) rfl rfl ⟨z0 _ BK102.out, z1 _ BK102.out, z2 _ BK102.out, z0 _ BK101.out, z1 _ BK101.out, z2 _ BK101.out, z3 _ BK101.out, z4 _ BK101.out, z5 _ BK101.out, z6 _ BK101.out, z7 _ BK101.out⟩ (fun hHeld => ?_); refine with_tabW spec_l4About.tab1 spec_l4About.bits1 (fun HT_ HW_ => ?_)
   generalize w11.drew = w12 at BK101 BK102 HB hHeld ⊢
   refine pv HT_ 0 5 (tf 1 29) ?_
   refine pv HT_ 2 7 (tr [1, 1, 1, 27]) ?_
   refine pv HT_ 3 8 (tr [1, 1, 2, 26]) ?_
   refine pv HT_ 5 10 (tr [1, 1, 2, 1, 1, 24]) ?_
   refine tk 1 (some 6) (tr [4, 1, 1, 24]) (take_ofW HT_.out HW_.out (by kernel_rfl)) hHeld ?_
   refine tk 4 (some 9) (tf 6 24) (take_ofW HT_.out HW_.out (by kernel_rfl)) hHeld ?_
   refine tk 6 (some 11) (tf 7 23) (take_ofW HT_.out HW_.out (by kernel_rfl)) hHeld ?_
   refine one_ (i := 7) (N := some 12) (tf 8 22) rfl rfl (one_of HT_.out (by kernel_rfl)) (by decide) (fun K hK => ?_)
   refine goes_ Try.func108 (by kernel_rfl) rfl #[.agg #[.int .i64 a0_2, .int .i64 a0_3]] (by rfl) rfl rfl MT ?_
   with_reducible refine (spec_l1Last.calls k a0_2 a0_3 t103 _ A3.out).mono ?_
   rintro e w13 ⟨rfl, hb⟩
   refine ⟨_, rfl, ?_⟩
   replace BK101 := am (BB BK101 hb)
   replace BK102 := am (BB BK102 hb)
   replace HB := am (below_step (K2 HB GE101.out GE102.out) hb)
   (try clear hb)
   (try clear hb2)
   (try clear hk)
   (try clear hi)
   refine hK.out _ _ ⟨z0 _ BK102.out, z1 _ BK102.out, z2 _ BK102.out, z0 _ BK101.out, z1 _ BK101.out, z2 _ BK101.out, z3 _ BK101.out, z4 _ BK101.out, z5 _ BK101.out, z6 _ BK101.out, z7 _ BK101.out⟩ (fun hHeld => ?_)
   clear hK K
   refine norm_ (a' := ?_) ?_ ?_
   rotate_left
   ·show Act.put _ (some 12) _ = _
    simp only [Act.put, List.setIfInBounds_toArray, List.set_cons_zero, List.set_cons_succ, i64_w, i32_w]
    rfl
   refine one_ (i := 8) (N := some 13) (tf 9 21) rfl rfl (one_of HT_.out (by kernel_rfl)) (by decide) (fun K hK => ?_)
   refine goes_ Try.func71 (by kernel_rfl) rfl #[.int .i64 a1_0, .int .i64 a0_2, .int .i64 t103] (by rfl) rfl rfl MT ?_
   with_reducible refine (spec_l1In.calls a1_0 a0_2 t103 true _ A4.out).mono ?_
   rintro e w' ⟨rfl, ⟨nd, rfl⟩⟩
   refine ⟨_, rfl, ?_⟩
   refine hK.out _ _ ⟨z0 _ BK102.out, z1 _ BK102.out, z2 _ BK102.out, z0 _ BK101.out, z1 _ BK101.out, z2 _ BK101.out, z3 _ BK101.out, z4 _ BK101.out, z5 _ BK101.out, z6 _ BK101.out, z7 _ BK101.out⟩ (fun hHeld => ?_)
   clear hK K
   refine norm_ (a' := ?_) ?_ ?_
   rotate_left
   ·show Act.put _ (some 13) _ = _
    simp only [Act.put, List.setIfInBounds_toArray, List.set_cons_zero, List.set_cons_succ, i64_w, i32_w]
    rfl
   refine pv HT_ 9 14 (tf 10 20) ?_
   refine pv HT_ 10 15 (tf 11 19) ?_
   refine pv HT_ 12 17 (tr [11, 1, 1, 17]) ?_
   refine pv HT_ 13 18 (tr [11, 1, 2, 16]) ?_
   refine pv HT_ 15 20 (tr [11, 1, 2, 1, 1, 14]) ?_
   refine tk 11 (some 16) (tr [14, 1, 1, 14]) (take_ofW HT_.out HW_.out (by kernel_rfl)) hHeld ?_
   refine tk 14 (some 19) (tf 16 14) (take_ofW HT_.out HW_.out (by kernel_rfl)) hHeld ?_
   refine tk 16 (some 21) (tf 17 13) (take_ofW HT_.out HW_.out (by kernel_rfl)) hHeld ?_
   refine one_ (i := 17) (N := some 22) (tf 18 12) rfl rfl (one_of HT_.out (by kernel_rfl)) (by decide) (fun K hK => ?_)
   refine goes_ Try.func108 (by kernel_rfl) rfl #[.agg #[.int .i64 a0_4, .int .i64 a0_5]] (by rfl) rfl rfl MT ?_
   with_reducible refine (spec_l1Last.calls k a0_4 a0_5 t105 _ A6.out).mono ?_
   rintro e w14 ⟨rfl, hb⟩
   refine ⟨_, rfl, ?_⟩
   replace BK101 := am (BB BK101 hb)
   replace BK102 := am (BB BK102 hb)
   replace HB := am (below_step (K2 HB GE101.out GE102.out) hb)
   (try clear hb)
   (try clear hb2)
   (try clear hk)
   (try clear hi)
   refine hK.out _ _ ⟨z0 _ BK102.out, z1 _ BK102.out, z2 _ BK102.out, z0 _ BK101.out, z1 _ BK101.out, z2 _ BK101.out, z3 _ BK101.out, z4 _ BK101.out, z5 _ BK101.out, z6 _ BK101.out, z7 _ BK101.out⟩ (fun hHeld => ?_)
   clear hK K
   refine norm_ (a' := ?_) ?_ ?_
   rotate_left
   ·show Act.put _ (some 22) _ = _
    simp only [Act.put, List.setIfInBounds_toArray, List.set_cons_zero, List.set_cons_succ, i64_w, i32_w]
    rfl
   refine one_ (i := 18) (N := some 23) (tf 19 11) rfl rfl (one_of HT_.out (by kernel_rfl)) (by decide) (fun K hK => ?_)
   refine goes_ Try.func71 (by kernel_rfl) rfl #[.int .i64 a1_1, .int .i64 a0_4, .int .i64 t105] (by rfl) rfl rfl MT ?_
   with_reducible refine (spec_l1In.calls a1_1 a0_4 t105 true _ A7.out).mono ?_
   rintro e w' ⟨rfl, ⟨nd, rfl⟩⟩
   refine ⟨_, rfl, ?_⟩
   refine hK.out _ _ ⟨z0 _ BK102.out, z1 _ BK102.out, z2 _ BK102.out, z0 _ BK101.out, z1 _ BK101.out, z2 _ BK101.out, z3 _ BK101.out, z4 _ BK101.out, z5 _ BK101.out, z6 _ BK101.out, z7 _ BK101.out⟩ (fun hHeld => ?_)
   clear hK K
   refine norm_ (a' := ?_) ?_ ?_
   rotate_left
   ·show Act.put _ (some 23) _ = _
    simp only [Act.put, List.setIfInBounds_toArray, List.set_cons_zero, List.set_cons_succ, i64_w, i32_w]
    rfl
   refine pv HT_ 19 24 (tf 20 10) ?_
   refine pv HT_ 20 25 (tf 21 9) ?_
   refine pv HT_ 21 26 (tf 22 8) ?_
   refine pv HT_ 23 28 (tr [22, 1, 1, 6]) ?_
   refine pv HT_ 25 30 (tr [22, 1, 1, 1, 1, 4]) ?_
   refine tk 22 (some 27) (tr [24, 1, 1, 4]) (take_ofW HT_.out HW_.out (by kernel_rfl)) hHeld ?_
   refine tk 24 (some 29) (tf 26 4) (take_ofW HT_.out HW_.out (by kernel_rfl)) hHeld ?_
   refine tk 26 (some 31) (tf 27 3) (take_ofW HT_.out HW_.out (by kernel_rfl)) hHeld ?_
   refine one_ (i := 27) (N := some 32) (tf 28 2) rfl rfl (one_of HT_.out (by kernel_rfl)) (by decide) (fun K hK => ?_)
   refine goes_ Try.func71 (by kernel_rfl) rfl #[.int .i64 a1_2, .int .i64 a0_6, .int .i64 a0_7] (by rfl) rfl rfl MT ?_
   with_reducible refine (spec_l1In.calls a1_2 a0_6 a0_7 t107 _ A9.out).mono ?_
   rintro e w' ⟨rfl, ⟨nd, rfl⟩⟩
   refine ⟨_, rfl, ?_⟩
   refine hK.out _ _ ⟨z0 _ BK102.out, z1 _ BK102.out, z2 _ BK102.out, z0 _ BK101.out, z1 _ BK101.out, z2 _ BK101.out, z3 _ BK101.out, z4 _ BK101.out, z5 _ BK101.out, z6 _ BK101.out, z7 _ BK101.out⟩ (fun hHeld => ?_)
   clear hK K
   refine norm_ (a' := ?_) ?_ ?_
   rotate_left
   ·show Act.put _ (some 32) _ = _
    simp only [Act.put, List.setIfInBounds_toArray, List.set_cons_zero, List.set_cons_succ, i64_w, i32_w]
    rfl
   refine pv HT_ 28 33 (tf 29 1) ?_
   refine pv HT_ 29 4 (tf 30 0) ?_
   refine done_ (done_of HT_.out (by kernel_rfl)) ?_
   try go_wp2
   go_ret
   exact ⟨ER, K2 HB GE101.out GE102.out⟩
  ·replace c8 := Bool.eq_false_iff.mpr c8
   subst c8
   have H1 : (some false) = some r := by rw [if_neg (show ¬ (false = true) by decide)] at H; exact H
   clear H
   have H := H1
   clear H1
   obtain rfl := Option.some.inj H
   go_enter Try.func127, Try.ntmps127
   try go_wp2_with (first | ((with_reducible refine gate_dst (N := 2) rfl ?_); refine box_event rfl (N := 2) rfl (cs := #[.int .i64 a0_0, .int .i64 a0_1, .int .i64 a0_2, .int .i64 a0_3, .int .i64 a0_4, .int .i64 a0_5, .int .i64 a0_6, .int .i64 a0_7]) (t := 71) BX ?_; intro gb101 hg w15 hbox hb; have BK101 := am (hbox); have GW101 := am (GH HB hg); have GE101 := GW101; replace HB := am (below_step (KL HB) hb); clear hb hbox hg) | ((with_reducible refine gate_dst (N := 3) rfl ?_); refine box_event rfl (N := 3) rfl (cs := #[.int .i64 a1_0, .int .i64 a1_1, .int .i64 a1_2]) (t := 60) BX ?_; intro gb102 hg w16 hbox hb; have BK102 := am (hbox); have GW102 := am (GH1 HB GE101.out hg); have GE102 := GW102; replace HB := am (below_step (K1 HB GE101.out) hb); have NB101_102 := am (NL BK101 hg); have NB102_101 := am (NG BK101 hg); replace BK101 := am (BB BK101 hb); clear hb hbox hg))
   replace BK101 := am (blk_drew BK101.out)
   replace BK102 := am (blk_drew BK102.out)
   replace HB := am (below_drew1 HB.out)
   refine start_ (n := 30) (S := fun w' => ce3 w' gb102 (.int .i64 a1_0) (.int .i64 a1_1) (.int .i64 a1_2) (de8 w' gb101 (.int .i64 a0_0) (.int .i64 a0_1) (.int .i64 a0_2) (.int .i64 a0_3) (.int .i64 a0_4) (.int .i64 a0_5) (.int .i64 a0_6) (.int .i64 a0_7))) (ds := []) (tf 0 30) (by kernel_rfl) rfl rfl ⟨z0 _ BK102.out, z1 _ BK102.out, z2 _ BK102.out, z0 _ BK101.out, z1 _ BK101.out, z2 _ BK101.out, z3 _ BK101.out, z4 _ BK101.out, z5 _ BK101.out, z6 _ BK101.out, z7 _ BK101.out⟩ (fun hHeld => ?_); refine with_tabW spec_l4About.tab1 spec_l4About.bits1 (fun HT_ HW_ => ?_)
   generalize w16.drew = w17 at BK101 BK102 HB hHeld ⊢
   refine pv HT_ 0 5 (tf 1 29) ?_
   refine pv HT_ 2 7 (tr [1, 1, 1, 27]) ?_
   refine pv HT_ 3 8 (tr [1, 1, 2, 26]) ?_
   refine pv HT_ 5 10 (tr [1, 1, 2, 1, 1, 24]) ?_
   refine tk 1 (some 6) (tr [4, 1, 1, 24]) (take_ofW HT_.out HW_.out (by kernel_rfl)) hHeld ?_
   refine tk 4 (some 9) (tf 6 24) (take_ofW HT_.out HW_.out (by kernel_rfl)) hHeld ?_
   refine tk 6 (some 11) (tf 7 23) (take_ofW HT_.out HW_.out (by kernel_rfl)) hHeld ?_
   refine one_ (i := 7) (N := some 12) (tf 8 22) rfl rfl (one_of HT_.out (by kernel_rfl)) (by decide) (fun K hK => ?_)
   refine goes_ Try.func108 (by kernel_rfl) rfl #[.agg #[.int .i64 a0_2, .int .i64 a0_3]] (by rfl) rfl rfl MT ?_
   with_reducible refine (spec_l1Last.calls k a0_2 a0_3 t103 _ A3.out).mono ?_
   rintro e w18 ⟨rfl, hb⟩
   refine ⟨_, rfl, ?_⟩
   replace BK101 := am (BB BK101 hb)
   replace BK102 := am (BB BK102 hb)
   replace HB := am (below_step (K2 HB GE101.out GE102.out) hb)
   (try clear hb)
   (try clear hb2)
   (try clear hk)
   (try clear hi)
   refine hK.out _ _ ⟨z0 _ BK102.out, z1 _ BK102.out, z2 _ BK102.out, z0 _ BK101.out, z1 _ BK101.out, z2 _ BK101.out, z3 _ BK101.out, z4 _ BK101.out, z5 _ BK101.out, z6 _ BK101.out, z7 _ BK101.out⟩ (fun hHeld => ?_)
   clear hK K
   refine norm_ (a' := ?_) ?_ ?_
   rotate_left
   ·show Act.put _ (some 12) _ = _
    simp only [Act.put, List.setIfInBounds_toArray, List.set_cons_zero, List.set_cons_succ, i64_w, i32_w]
    rfl
   refine one_ (i := 8) (N := some 13) (tf 9 21) rfl rfl (one_of HT_.out (by kernel_rfl)) (by decide) (fun K hK => ?_)
   refine goes_ Try.func71 (by kernel_rfl) rfl #[.int .i64 a1_0, .int .i64 a0_2, .int .i64 t103] (by rfl) rfl rfl MT ?_
   with_reducible refine (spec_l1In.calls a1_0 a0_2 t103 true _ A4.out).mono ?_
   rintro e w' ⟨rfl, ⟨nd, rfl⟩⟩
   refine ⟨_, rfl, ?_⟩
   refine hK.out _ _ ⟨z0 _ BK102.out, z1 _ BK102.out, z2 _ BK102.out, z0 _ BK101.out, z1 _ BK101.out, z2 _ BK101.out, z3 _ BK101.out, z4 _ BK101.out, z5 _ BK101.out, z6 _ BK101.out, z7 _ BK101.out⟩ (fun hHeld => ?_)
   clear hK K
   refine norm_ (a' := ?_) ?_ ?_
   rotate_left
   ·show Act.put _ (some 13) _ = _
    simp only [Act.put, List.setIfInBounds_toArray, List.set_cons_zero, List.set_cons_succ, i64_w, i32_w]
    rfl
   refine pv HT_ 9 14 (tf 10 20) ?_
   refine pv HT_ 10 15 (tf 11 19) ?_
   refine pv HT_ 12 17 (tr [11, 1, 1, 17]) ?_
   refine pv HT_ 13 18 (tr [11, 1, 2, 16]) ?_
   refine pv HT_ 15 20 (tr [11, 1, 2, 1, 1, 14]) ?_
   refine tk 11 (some 16) (tr [14, 1, 1, 14]) (take_ofW HT_.out HW_.out (by kernel_rfl)) hHeld ?_
   refine tk 14 (some 19) (tf 16 14) (take_ofW HT_.out HW_.out (by kernel_rfl)) hHeld ?_
   refine tk 16 (some 21) (tf 17 13) (take_ofW HT_.out HW_.out (by kernel_rfl)) hHeld ?_
   refine one_ (i := 17) (N := some 22) (tf 18 12) rfl rfl (one_of HT_.out (by kernel_rfl)) (by decide) (fun K hK => ?_)
   refine goes_ Try.func108 (by kernel_rfl) rfl #[.agg #[.int .i64 a0_4, .int .i64 a0_5]] (by rfl) rfl rfl MT ?_
   with_reducible refine (spec_l1Last.calls k a0_4 a0_5 t105 _ A6.out).mono ?_
   rintro e w19 ⟨rfl, hb⟩
   refine ⟨_, rfl, ?_⟩
   replace BK101 := am (BB BK101 hb)
   replace BK102 := am (BB BK102 hb)
   replace HB := am (below_step (K2 HB GE101.out GE102.out) hb)
   (try clear hb)
   (try clear hb2)
   (try clear hk)
   (try clear hi)
   refine hK.out _ _ ⟨z0 _ BK102.out, z1 _ BK102.out, z2 _ BK102.out, z0 _ BK101.out, z1 _ BK101.out, z2 _ BK101.out, z3 _ BK101.out, z4 _ BK101.out, z5 _ BK101.out, z6 _ BK101.out, z7 _ BK101.out⟩ (fun hHeld => ?_)
   clear hK K
   refine norm_ (a' := ?_) ?_ ?_
   rotate_left
   ·show Act.put _ (some 22) _ = _
    simp only [Act.put, List.setIfInBounds_toArray, List.set_cons_zero, List.set_cons_succ, i64_w, i32_w]
    rfl
   refine one_ (i := 18) (N := some 23) (tf 19 11) rfl rfl (one_of HT_.out (by kernel_rfl)) (by decide) (fun K hK => ?_)
   refine goes_ Try.func71 (by kernel_rfl) rfl #[.int .i64 a1_1, .int .i64 a0_4, .int .i64 t105] (by rfl) rfl rfl MT ?_
   with_reducible refine (spec_l1In.calls a1_1 a0_4 t105 false _ A7.out).mono ?_
   rintro e w' ⟨rfl, ⟨nd, rfl⟩⟩
   refine ⟨_, rfl, ?_⟩
   refine hK.out _ _ ⟨z0 _ BK102.out, z1 _ BK102.out, z2 _ BK102.out, z0 _ BK101.out, z1 _ BK101.out, z2 _ BK101.out, z3 _ BK101.out, z4 _ BK101.out, z5 _ BK101.out, z6 _ BK101.out, z7 _ BK101.out⟩ (fun hHeld => ?_)
   clear hK K
   refine norm_ (a' := ?_) ?_ ?_
   rotate_left
   ·show Act.put _ (some 23) _ = _
    simp only [Act.put, List.setIfInBounds_toArray, List.set_cons_zero, List.set_cons_succ, i64_w, i32_w]
    rfl
   refine pv HT_ 19 24 (tf 20 10) ?_
   refine pv HT_ 20 25 (tf 21 9) ?_
   refine pw HT_ 21 26 (tf 22 8) ?_
   refine pw HT_ 22 27 (tf 23 7) ?_
   refine pw HT_ 23 28 (tf 24 6) ?_
   refine pw HT_ 24 29 (tf 25 5) ?_
   refine pw HT_ 25 30 (tf 26 4) ?_
   refine pw HT_ 26 31 (tf 27 3) ?_
   refine pw HT_ 27 32 (tf 28 2) ?_
   refine pv HT_ 28 33 (tf 29 1) ?_
   refine pv HT_ 29 4 (tf 30 0) ?_
   refine done_ (done_of HT_.out (by kernel_rfl)) ?_
   try go_wp2
   go_ret
   exact ⟨ER, K2 HB GE101.out GE102.out⟩
 ·replace c5 := Bool.eq_false_iff.mpr c5
  subst c5
  have H1 : (some false) = some r := by rw [if_neg (show ¬ (false = true) by decide)] at H; exact H
  clear H
  have H := H1
  clear H1
  obtain rfl := Option.some.inj H
  go_enter Try.func127, Try.ntmps127
  try go_wp2_with (first | ((with_reducible refine gate_dst (N := 2) rfl ?_); refine box_event rfl (N := 2) rfl (cs := #[.int .i64 a0_0, .int .i64 a0_1, .int .i64 a0_2, .int .i64 a0_3, .int .i64 a0_4, .int .i64 a0_5, .int .i64 a0_6, .int .i64 a0_7]) (t := 71) BX ?_; intro gb101 hg w20 hbox hb; have BK101 := am (hbox); have GW101 := am (GH HB hg); have GE101 := GW101; replace HB := am (below_step (KL HB) hb); clear hb hbox hg) | ((with_reducible refine gate_dst (N := 3) rfl ?_); refine box_event rfl (N := 3) rfl (cs := #[.int .i64 a1_0, .int .i64 a1_1, .int .i64 a1_2]) (t := 60) BX ?_; intro gb102 hg w21 hbox hb; have BK102 := am (hbox); have GW102 := am (GH1 HB GE101.out hg); have GE102 := GW102; replace HB := am (below_step (K1 HB GE101.out) hb); have NB101_102 := am (NL BK101 hg); have NB102_101 := am (NG BK101 hg); replace BK101 := am (BB BK101 hb); clear hb hbox hg))
  replace BK101 := am (blk_drew BK101.out)
  replace BK102 := am (blk_drew BK102.out)
  replace HB := am (below_drew1 HB.out)
  refine start_ (n := 30) (S := fun w' => ce3 w' gb102 (.int .i64 a1_0) (.int .i64 a1_1) (.int .i64 a1_2) (de8 w' gb101 (.int .i64 a0_0) (.int .i64 a0_1) (.int .i64 a0_2) (.int .i64 a0_3) (.int .i64 a0_4) (.int .i64 a0_5) (.int .i64 a0_6) (.int .i64 a0_7))) (ds := []) (tf 0 30) (by kernel_rfl) rfl rfl ⟨z0 _ BK102.out, z1 _ BK102.out, z2 _ BK102.out, z0 _ BK101.out, z1 _ BK101.out, z2 _ BK101.out, z3 _ BK101.out, z4 _ BK101.out, z5 _ BK101.out, z6 _ BK101.out, z7 _ BK101.out⟩ (fun hHeld => ?_); refine with_tabW spec_l4About.tab1 spec_l4About.bits1 (fun HT_ HW_ => ?_)
  generalize w21.drew = w22 at BK101 BK102 HB hHeld ⊢
  refine pv HT_ 0 5 (tf 1 29) ?_
  refine pv HT_ 2 7 (tr [1, 1, 1, 27]) ?_
  refine pv HT_ 3 8 (tr [1, 1, 2, 26]) ?_
  refine pv HT_ 5 10 (tr [1, 1, 2, 1, 1, 24]) ?_
  refine tk 1 (some 6) (tr [4, 1, 1, 24]) (take_ofW HT_.out HW_.out (by kernel_rfl)) hHeld ?_
  refine tk 4 (some 9) (tf 6 24) (take_ofW HT_.out HW_.out (by kernel_rfl)) hHeld ?_
  refine tk 6 (some 11) (tf 7 23) (take_ofW HT_.out HW_.out (by kernel_rfl)) hHeld ?_
  refine one_ (i := 7) (N := some 12) (tf 8 22) rfl rfl (one_of HT_.out (by kernel_rfl)) (by decide) (fun K hK => ?_)
  refine goes_ Try.func108 (by kernel_rfl) rfl #[.agg #[.int .i64 a0_2, .int .i64 a0_3]] (by rfl) rfl rfl MT ?_
  with_reducible refine (spec_l1Last.calls k a0_2 a0_3 t103 _ A3.out).mono ?_
  rintro e w23 ⟨rfl, hb⟩
  refine ⟨_, rfl, ?_⟩
  replace BK101 := am (BB BK101 hb)
  replace BK102 := am (BB BK102 hb)
  replace HB := am (below_step (K2 HB GE101.out GE102.out) hb)
  (try clear hb)
  (try clear hb2)
  (try clear hk)
  (try clear hi)
  refine hK.out _ _ ⟨z0 _ BK102.out, z1 _ BK102.out, z2 _ BK102.out, z0 _ BK101.out, z1 _ BK101.out, z2 _ BK101.out, z3 _ BK101.out, z4 _ BK101.out, z5 _ BK101.out, z6 _ BK101.out, z7 _ BK101.out⟩ (fun hHeld => ?_)
  clear hK K
  refine norm_ (a' := ?_) ?_ ?_
  rotate_left
  ·show Act.put _ (some 12) _ = _
   simp only [Act.put, List.setIfInBounds_toArray, List.set_cons_zero, List.set_cons_succ, i64_w, i32_w]
   rfl
  refine one_ (i := 8) (N := some 13) (tf 9 21) rfl rfl (one_of HT_.out (by kernel_rfl)) (by decide) (fun K hK => ?_)
  refine goes_ Try.func71 (by kernel_rfl) rfl #[.int .i64 a1_0, .int .i64 a0_2, .int .i64 t103] (by rfl) rfl rfl MT ?_
  with_reducible refine (spec_l1In.calls a1_0 a0_2 t103 false _ A4.out).mono ?_
  rintro e w' ⟨rfl, ⟨nd, rfl⟩⟩
  refine ⟨_, rfl, ?_⟩
  refine hK.out _ _ ⟨z0 _ BK102.out, z1 _ BK102.out, z2 _ BK102.out, z0 _ BK101.out, z1 _ BK101.out, z2 _ BK101.out, z3 _ BK101.out, z4 _ BK101.out, z5 _ BK101.out, z6 _ BK101.out, z7 _ BK101.out⟩ (fun hHeld => ?_)
  clear hK K
  refine norm_ (a' := ?_) ?_ ?_
  rotate_left
  ·show Act.put _ (some 13) _ = _
   simp only [Act.put, List.setIfInBounds_toArray, List.set_cons_zero, List.set_cons_succ, i64_w, i32_w]
   rfl
  refine pv HT_ 9 14 (tf 10 20) ?_
  refine pw HT_ 10 15 (tf 11 19) ?_
  refine pw HT_ 11 16 (tf 12 18) ?_
  refine pw HT_ 12 17 (tf 13 17) ?_
  refine pw HT_ 13 18 (tf 14 16) ?_
  refine pw HT_ 14 19 (tf 15 15) ?_
  refine pw HT_ 15 20 (tf 16 14) ?_
  refine pw HT_ 16 21 (tf 17 13) ?_
  refine pw HT_ 17 22 (tf 18 12) ?_
  refine pw HT_ 18 23 (tf 19 11) ?_
  refine pv HT_ 19 24 (tf 20 10) ?_
  refine pv HT_ 20 25 (tf 21 9) ?_
  refine pw HT_ 21 26 (tf 22 8) ?_
  refine pw HT_ 22 27 (tf 23 7) ?_
  refine pw HT_ 23 28 (tf 24 6) ?_
  refine pw HT_ 24 29 (tf 25 5) ?_
  refine pw HT_ 25 30 (tf 26 4) ?_
  refine pw HT_ 26 31 (tf 27 3) ?_
  refine pw HT_ 27 32 (tf 28 2) ?_
  refine pv HT_ 28 33 (tf 29 1) ?_
  refine pv HT_ 29 4 (tf 30 0) ?_
  refine done_ (done_of HT_.out (by kernel_rfl)) ?_
  try go_wp2
  go_ret
  exact ⟨ER, K2 HB GE101.out GE102.out⟩
def spec_l4First.l0 : Nat → List (S71) → Int → Int → Int → Int → Option (Int)
 | 0, _, _, _, _, _ => none
 | k + 1, x0, x5, x102000, x102001, x102002 => if x5 < (x0.length : Int) then (if 0 ≤ x5 then ((spec_l4About.f k ((rd_T71 x0 x5).f0) ((rd_T71 x0 x5).f1) ((rd_T71 x0 x5).f2.f0) ((rd_T71 x0 x5).f2.f1) ((rd_T71 x0 x5).f3.f0) ((rd_T71 x0 x5).f3.f1) ((rd_T71 x0 x5).f4) ((rd_T71 x0 x5).f5) x102000 x102001 x102002).bind fun t103 => (if t103 = true then (some x5) else (spec_l4First.l0 k x0 (wrap64 (x5 + 1)) x102000 x102001 x102002))) else (none)) else (some (-1))
def spec_l4First.f (k : Nat) (l0 : List (S71)) (a1_0 : Int) (a1_1 : Int) (a1_2 : Int) : Option (Int) := spec_l4First.l0 k l0 0 a1_0 a1_1 a1_2
set_option maxHeartbeats 8000000 in
set_option maxRecDepth 100000 in
theorem spec_l4First.calls (k : Nat) (A0 : Option Addr) (c0 : Nat) (l0 : List (S71)) (a1_0 : Int) (a1_1 : Int) (a1_2 : Int) (r : Int) (w : World) (hr0 : Kd.C k71 w A0 l0.length l0) (hc0 : l0.length ≤ c0) (h : spec_l4First.f k l0 a1_0 a1_1 a1_2 = some r) :
  Calls Try.prog 84 #[.slice A0 l0.length c0, .agg #[.int .i64 a1_0, .int .i64 a1_1, .int .i64 a1_2]] w fun e w' => e = .returned (.int .i64 r) ∧ Below w.heap.size w w' := by
 have hu60 := Try.underlying60
 have hu71 := Try.underlying71
 have HR0 := Aside0.mk hr0
 have HC0 := Aside0.mk hc0
 clear hr0 hc0
 have HB := am (Below.refl w.heap.size w)
 have H : (spec_l4First.l0 k l0 0 a1_0 a1_1 a1_2) = some r := h
 clear h
 have H' := Aside0.mk H
 clear H
 go_enter Try.func84, Try.ntmps84
 go_wp2_with (first | ((with_reducible refine gate_dst (N := 3) rfl ?_); refine box_event rfl (N := 3) rfl (cs := #[.int .i64 a1_0, .int .i64 a1_1, .int .i64 a1_2]) (t := 60) BX ?_; intro gb101 hg w3 hbox hb; have BK101 := am (hbox); have GW101 := am (GH HB hg); have GE101 := GW101; replace HB := am (below_step (KL HB) hb); clear hb hbox hg))
 go_loopg [5] k (fun kq v5 w' => ∃ (x5_1 : Int), v5 = .int .i64 x5_1 ∧ Aside0 (spec_l4First.l0 kq l0 x5_1 a1_0 a1_1 a1_2 = some r) ∧ Aside0 (kq ≤ k) ∧ Aside0 (w'.heap[gb101]? = some (.cells #[.int .i64 a1_0, .int .i64 a1_1, .int .i64 a1_2] 60 (0, 0))) ∧ Aside0 (Below w.heap.size w w'))
 case atStart => exact ⟨(0), (by first | rfl | (simp; done) | (simp [*]; done)), H', ⟨Nat.le_refl _⟩, ⟨KB BK101⟩, ⟨K1 HB GE101.out⟩⟩
 case round =>
  clear H'
  try clear p2
  obtain ⟨x5_1, rfl, HA, HK1, BK101, HB⟩ := hrel
  cases gk with
  | zero => exact absurd HA.out (by simp [spec_l4First.l0])
  | succ k1 =>
   have H := HA.out
   clear HA
   simp only [spec_l4First.l0] at H
   by_cases c4 : x5_1 < (l0.length : Int)
   ·rw [if_pos c4] at H
    have c4b0 : decide (x5_1 < (l0.length : Int)) = true := decide_eq_true c4
    clear c4
    by_cases c5 : 0 ≤ x5_1
    ·rw [if_pos c5] at H
     have c5b0 : decide (0 ≤ x5_1) = true := decide_eq_true c5
     clear c5
     replace H := Option.bind_eq_some_iff.mp H
     obtain ⟨t103, A60, H⟩ := H
     replace H : (if t103 = true then (some x5_1) else (spec_l4First.l0 k1 l0 (wrap64 (x5_1 + 1)) a1_0 a1_1 a1_2)) = some r := H
     have A6 := Aside0.mk A60
     clear A60
     by_cases c7 : t103 = true
     ·subst c7
      have H1 : (some x5_1) = some r := by rw [if_pos rfl] at H; exact H
      clear H
      have H := H1
      clear H1
      obtain rfl := Option.some.inj H
      try go_wp2
      replace BK101 := am (blk_drew BK101.out)
      replace HB := am (below_drew1 HB.out)
      have p102 : 0 ≤ (x5_1 : Int) := OD
      have q102 : x5_1 < (l0.length : Int) := OD
      obtain ⟨ad102, e102, hx102_0, hx102_1, hx102_2, hx102_3, hx102_4, hx102_5, hx102_6, hx102_7⟩ := at_T71 HR0.out x5_1 p102 q102
      have hw102_7 := hx102_7
      have hw102_6 := hx102_6
      have hw102_5 := hx102_5
      have hw102_4 := hx102_4
      have hw102_3 := hx102_3
      have hw102_2 := hx102_2
      have hw102_1 := hx102_1
      have hw102_0 := hx102_0
      cases e102
      replace hx102_0 := CX HB.out hx102_0
      replace hx102_1 := CX HB.out hx102_1
      replace hx102_2 := CX HB.out hx102_2
      replace hx102_3 := CX HB.out hx102_3
      replace hx102_4 := CX HB.out hx102_4
      replace hx102_5 := CX HB.out hx102_5
      replace hx102_6 := CX HB.out hx102_6
      replace hx102_7 := CX HB.out hx102_7
      replace p102 := eq_true p102
      replace q102 := eq_true q102
      refine start_ (n := 6) (S := fun w' => ce3 w' gb101 (.int .i64 a1_0) (.int .i64 a1_1) (.int .i64 a1_2) (w'.cell? (ad102.add ((x5_1).toNat * 8)) = some (.int .i64 ((rd_T71 l0 x5_1).f0)) ∧ w'.cell? ⟨(ad102.add ((x5_1).toNat * 8)).block, (ad102.add ((x5_1).toNat * 8)).off + 1, none⟩ = some (.int .i64 ((rd_T71 l0 x5_1).f1)) ∧ w'.cell? ⟨(ad102.add ((x5_1).toNat * 8)).block, (ad102.add ((x5_1).toNat * 8)).off + 2, none⟩ = some (.int .i64 ((rd_T71 l0 x5_1).f2.f0)) ∧ w'.cell? ⟨(ad102.add ((x5_1).toNat * 8)).block, (ad102.add ((x5_1).toNat * 8)).off + 3, none⟩ = some (.int .i64 ((rd_T71 l0 x5_1).f2.f1)) ∧ w'.cell? ⟨(ad102.add ((x5_1).toNat * 8)).block, (ad102.add ((x5_1).toNat * 8)).off + 4, none⟩ = some (.int .i64 ((rd_T71 l0 x5_1).f3.f0)) ∧ w'.cell? ⟨(ad102.add ((x5_1).toNat * 8)).block, (ad102.add ((x5_1).toNat * 8)).off + 5, none⟩ = some (.int .i64 ((rd_T71 l0 x5_1).f3.f1)) ∧ w'.cell? ⟨(ad102.add ((x5_1).toNat * 8)).block, (ad102.add ((x5_1).toNat * 8)).off + 6, none⟩ = some (.int .i64 ((rd_T71 l0 x5_1).f4)) ∧ w'.cell? ⟨(ad102.add ((x5_1).toNat * 8)).block, (ad102.add ((x5_1).toNat * 8)).off + 7, none⟩ = some (.int .i64 ((rd_T71 l0 x5_1).f5)))) (ds := []) (tf 0 6) (by kernel_rfl) rfl rfl ⟨z0 _ BK101.out, z1 _ BK101.out, z2 _ BK101.out, (CY HB.out hw102_0), (CY HB.out hw102_1), (CY HB.out hw102_2), (CY HB.out hw102_3), (CY HB.out hw102_4), (CY HB.out hw102_5), (CY HB.out hw102_6), (CY HB.out hw102_7)⟩ (fun hHeld => ?_)
      generalize wr.drew = w8 at BK101 HB hx102_0 hx102_1 hx102_2 hx102_3 hx102_4 hx102_5 hx102_6 hx102_7 hHeld ⊢
      refine pure_ (i := 0) (N := some 12) (v := ?_) (a' := ?_) (tf 1 5) rfl rfl (by kernel_rfl) (fun _ _ _ h => h) (Or.inl ⟨by rfl, ?_⟩) ?_ ?_; rotate_left; (· intro w'; go_simp; with_reducible rfl); rotate_left; (· simp only [Act.put, List.setIfInBounds_toArray, List.set_cons_zero, List.set_cons_succ, i64_w, i32_w]; rfl)
      refine pure_ (i := 1) (N := some 13) (v := ?_) (a' := ?_) (tf 2 4) rfl rfl (by kernel_rfl) (fun _ _ _ h => h) (Or.inl ⟨by rfl, ?_⟩) ?_ ?_; rotate_left; (· intro w'; go_simp; with_reducible rfl); rotate_left; (· simp only [Act.put, List.setIfInBounds_toArray, List.set_cons_zero, List.set_cons_succ, i64_w, i32_w]; rfl)
      refine pure_ (i := 2) (N := some 14) (v := ?_) (a' := ?_) (tf 3 3) rfl rfl (by kernel_rfl) (fun _ _ _ h => h) (Or.inl ⟨by rfl, ?_⟩) ?_ ?_; rotate_left; (· intro w'; go_simp; with_reducible rfl); rotate_left; (· simp only [Act.put, List.setIfInBounds_toArray, List.set_cons_zero, List.set_cons_succ, i64_w, i32_w]; rfl)
      refine take_ (i := 3) (N := some 15) (v := ?_) (a' := ?_) (tf 4 2) rfl rfl (by kernel_rfl) (fun _ _ _ h => h) (Or.inl ⟨by rfl, ?_⟩) hHeld ?_ ?_
      rotate_left
      ·rintro w' ⟨s0, s1, s2, s3, s4, s5, s6, s7, s8, s9, s10⟩
       go_simp
       with_reducible rfl
      rotate_left
      ·simp only [Act.put, List.setIfInBounds_toArray, List.set_cons_zero, List.set_cons_succ, i64_w, i32_w]
       rfl
      refine take_ (i := 4) (N := some 16) (v := ?_) (a' := ?_) (tf 5 1) rfl rfl (by kernel_rfl) (fun _ _ _ h => h) (Or.inl ⟨by rfl, ?_⟩) hHeld ?_ ?_
      rotate_left
      ·rintro w' ⟨s0, s1, s2, s3, s4, s5, s6, s7, s8, s9, s10⟩
       go_simp
       with_reducible rfl
      rotate_left
      ·simp only [Act.put, List.setIfInBounds_toArray, List.set_cons_zero, List.set_cons_succ, i64_w, i32_w]
       rfl
      refine one_ (i := 5) (N := some 17) (tf 6 0) rfl rfl (by kernel_rfl) (by decide) (fun K hK => ?_)
      refine goes_ Try.func127 (by kernel_rfl) rfl #[.agg #[.int .i64 ((rd_T71 l0 x5_1).f0), .int .i64 ((rd_T71 l0 x5_1).f1), .int .i64 ((rd_T71 l0 x5_1).f2.f0), .int .i64 ((rd_T71 l0 x5_1).f2.f1), .int .i64 ((rd_T71 l0 x5_1).f3.f0), .int .i64 ((rd_T71 l0 x5_1).f3.f1), .int .i64 ((rd_T71 l0 x5_1).f4), .int .i64 ((rd_T71 l0 x5_1).f5)], .agg #[.int .i64 a1_0, .int .i64 a1_1, .int .i64 a1_2]] (by rfl) rfl rfl MT ?_
      with_reducible refine (spec_l4About.calls k1 ((rd_T71 l0 x5_1).f0) ((rd_T71 l0 x5_1).f1) ((rd_T71 l0 x5_1).f2.f0) ((rd_T71 l0 x5_1).f2.f1) ((rd_T71 l0 x5_1).f3.f0) ((rd_T71 l0 x5_1).f3.f1) ((rd_T71 l0 x5_1).f4) ((rd_T71 l0 x5_1).f5) a1_0 a1_1 a1_2 true _ A6.out).mono ?_
      rintro e w9 ⟨rfl, hb⟩
      refine ⟨_, rfl, ?_⟩
      replace BK101 := am (BB BK101 hb)
      replace HB := am (below_step (K1 HB GE101.out) hb)
      (try clear hb)
      (try clear hb2)
      (try clear hk)
      (try clear hi)
      refine hK.out _ _ ⟨z0 _ BK101.out, z1 _ BK101.out, z2 _ BK101.out, (CY HB.out hw102_0), (CY HB.out hw102_1), (CY HB.out hw102_2), (CY HB.out hw102_3), (CY HB.out hw102_4), (CY HB.out hw102_5), (CY HB.out hw102_6), (CY HB.out hw102_7)⟩ (fun hHeld => ?_)
      clear hK K
      refine norm_ (a' := ?_) ?_ ?_
      rotate_left
      ·show Act.put _ (some 17) _ = _
       simp only [Act.put, List.setIfInBounds_toArray, List.set_cons_zero, List.set_cons_succ, i64_w, i32_w]
       rfl
      refine done_ (by kernel_rfl) ?_
      try go_wp2
      go_ret
      exact ⟨ER, K1 HB GE101.out⟩
     ·replace c7 := Bool.eq_false_iff.mpr c7
      subst c7
      have H1 : (spec_l4First.l0 k1 l0 (wrap64 (x5_1 + 1)) a1_0 a1_1 a1_2) = some r := by rw [if_neg (show ¬ (false = true) by decide)] at H; exact H
      clear H
      have H := H1
      clear H1
      have H' := Aside0.mk H
      clear H
      try go_wp2
      replace BK101 := am (blk_drew BK101.out)
      replace HB := am (below_drew1 HB.out)
      have p102 : 0 ≤ (x5_1 : Int) := OD
      have q102 : x5_1 < (l0.length : Int) := OD
      obtain ⟨ad102, e102, hx102_0, hx102_1, hx102_2, hx102_3, hx102_4, hx102_5, hx102_6, hx102_7⟩ := at_T71 HR0.out x5_1 p102 q102
      have hw102_7 := hx102_7
      have hw102_6 := hx102_6
      have hw102_5 := hx102_5
      have hw102_4 := hx102_4
      have hw102_3 := hx102_3
      have hw102_2 := hx102_2
      have hw102_1 := hx102_1
      have hw102_0 := hx102_0
      cases e102
      replace hx102_0 := CX HB.out hx102_0
      replace hx102_1 := CX HB.out hx102_1
      replace hx102_2 := CX HB.out hx102_2
      replace hx102_3 := CX HB.out hx102_3
      replace hx102_4 := CX HB.out hx102_4
      replace hx102_5 := CX HB.out hx102_5
      replace hx102_6 := CX HB.out hx102_6
      replace hx102_7 := CX HB.out hx102_7
      replace p102 := eq_true p102
      replace q102 := eq_true q102
      refine start_ (n := 6) (S := fun w' => ce3 w' gb101 (.int .i64 a1_0) (.int .i64 a1_1) (.int .i64 a1_2) (w'.cell? (ad102.add ((x5_1).toNat * 8)) = some (.int .i64 ((rd_T71 l0 x5_1).f0)) ∧ w'.cell? ⟨(ad102.add ((x5_1).toNat * 8)).block, (ad102.add ((x5_1).toNat * 8)).off + 1, none⟩ = some (.int .i64 ((rd_T71 l0 x5_1).f1)) ∧ w'.cell? ⟨(ad102.add ((x5_1).toNat * 8)).block, (ad102.add ((x5_1).toNat * 8)).off + 2, none⟩ = some (.int .i64 ((rd_T71 l0 x5_1).f2.f0)) ∧ w'.cell? ⟨(ad102.add ((x5_1).toNat * 8)).block, (ad102.add ((x5_1).toNat * 8)).off + 3, none⟩ = some (.int .i64 ((rd_T71 l0 x5_1).f2.f1)) ∧ w'.cell? ⟨(ad102.add ((x5_1).toNat * 8)).block, (ad102.add ((x5_1).toNat * 8)).off + 4, none⟩ = some (.int .i64 ((rd_T71 l0 x5_1).f3.f0)) ∧ w'.cell? ⟨(ad102.add ((x5_1).toNat * 8)).block, (ad102.add ((x5_1).toNat * 8)).off + 5, none⟩ = some (.int .i64 ((rd_T71 l0 x5_1).f3.f1)) ∧ w'.cell? ⟨(ad102.add ((x5_1).toNat * 8)).block, (ad102.add ((x5_1).toNat * 8)).off + 6, none⟩ = some (.int .i64 ((rd_T71 l0 x5_1).f4)) ∧ w'.cell? ⟨(ad102.add ((x5_1).toNat * 8)).block, (ad102.add ((x5_1).toNat * 8)).off + 7, none⟩ = some (.int .i64 ((rd_T71 l0 x5_1).f5)))) (ds := []) (tf 0 6) (by kernel_rfl) rfl rfl ⟨z0 _ BK101.out, z1 _ BK101.out, z2 _ BK101.out, (CY HB.out hw102_0), (CY HB.out hw102_1), (CY HB.out hw102_2), (CY HB.out hw102_3), (CY HB.out hw102_4), (CY HB.out hw102_5), (CY HB.out hw102_6), (CY HB.out hw102_7)⟩ (fun hHeld => ?_)
      generalize wr.drew = w10 at BK101 HB hx102_0 hx102_1 hx102_2 hx102_3 hx102_4 hx102_5 hx102_6 hx102_7 hHeld ⊢
      refine pure_ (i := 0) (N := some 12) (v := ?_) (a' := ?_) (tf 1 5) rfl rfl (by kernel_rfl) (fun _ _ _ h => h) (Or.inl ⟨by rfl, ?_⟩) ?_ ?_; rotate_left; (· intro w'; go_simp; with_reducible rfl); rotate_left; (· simp only [Act.put, List.setIfInBounds_toArray, List.set_cons_zero, List.set_cons_succ, i64_w, i32_w]; rfl)
      refine pure_ (i := 1) (N := some 13) (v := ?_) (a' := ?_) (tf 2 4) rfl rfl (by kernel_rfl) (fun _ _ _ h => h) (Or.inl ⟨by rfl, ?_⟩) ?_ ?_; rotate_left; (· intro w'; go_simp; with_reducible rfl); rotate_left; (· simp only [Act.put, List.setIfInBounds_toArray, List.set_cons_zero, List.set_cons_succ, i64_w, i32_w]; rfl)
      refine pure_ (i := 2) (N := some 14) (v := ?_) (a' := ?_) (tf 3 3) rfl rfl (by kernel_rfl) (fun _ _ _ h => h) (Or.inl ⟨by rfl, ?_⟩) ?_ ?_; rotate_left; (· intro w'; go_simp; with_reducible rfl); rotate_left; (· simp only [Act.put, List.setIfInBounds_toArray, List.set_cons_zero, List.set_cons_succ, i64_w, i32_w]; rfl)
      refine take_ (i := 3) (N := some 15) (v := ?_) (a' := ?_) (tf 4 2) rfl rfl (by kernel_rfl) (fun _ _ _ h => h) (Or.inl ⟨by rfl, ?_⟩) hHeld ?_ ?_
      rotate_left
      ·rintro w' ⟨s0, s1, s2, s3, s4, s5, s6, s7, s8, s9, s10⟩
       go_simp
       with_reducible rfl
      rotate_left
      ·simp only [Act.put, List.setIfInBounds_toArray, List.set_cons_zero, List.set_cons_succ, i64_w, i32_w]
       rfl
      refine take_ (i := 4) (N := some 16) (v := ?_) (a' := ?_) (tf 5 1) rfl rfl (by kernel_rfl) (fun _ _ _ h => h) (Or.inl ⟨by rfl, ?_⟩) hHeld ?_ ?_
      rotate_left
      ·rintro w' ⟨s0, s1, s2, s3, s4, s5, s6, s7, s8, s9, s10⟩
       go_simp
       with_reducible rfl
      rotate_left
      ·simp only [Act.put, List.setIfInBounds_toArray, List.set_cons_zero, List.set_cons_succ, i64_w, i32_w]
       rfl
      refine one_ (i := 5) (N := some 17) (tf 6 0) rfl rfl (by kernel_rfl) (by decide) (fun K hK => ?_)
      refine goes_ Try.func127 (by kernel_rfl) rfl #[.agg #[.int .i64 ((rd_T71 l0 x5_1).f0), .int .i64 ((rd_T71 l0 x5_1).f1), .int .i64 ((rd_T71 l0 x5_1).f2.f0), .int .i64 ((rd_T71 l0 x5_1).f2.f1), .int .i64 ((rd_T71 l0 x5_1).f3.f0), .int .i64 ((rd_T71 l0 x5_1).f3.f1), .int .i64 ((rd_T71 l0 x5_1).f4), .int .i64 ((rd_T71 l0 x5_1).f5)], .agg #[.int .i64 a1_0, .int .i64 a1_1, .int .i64 a1_2]] (by rfl) rfl rfl MT ?_
      with_reducible refine (spec_l4About.calls k1 ((rd_T71 l0 x5_1).f0) ((rd_T71 l0 x5_1).f1) ((rd_T71 l0 x5_1).f2.f0) ((rd_T71 l0 x5_1).f2.f1) ((rd_T71 l0 x5_1).f3.f0) ((rd_T71 l0 x5_1).f3.f1) ((rd_T71 l0 x5_1).f4) ((rd_T71 l0 x5_1).f5) a1_0 a1_1 a1_2 false _ A6.out).mono ?_
      rintro e w11 ⟨rfl, hb⟩
      refine ⟨_, rfl, ?_⟩
      replace BK101 := am (BB BK101 hb)
      replace HB := am (below_step (K1 HB GE101.out) hb)
      (try clear hb)
      (try clear hb2)
      (try clear hk)
      (try clear hi)
      refine hK.out _ _ ⟨z0 _ BK101.out, z1 _ BK101.out, z2 _ BK101.out, (CY HB.out hw102_0), (CY HB.out hw102_1), (CY HB.out hw102_2), (CY HB.out hw102_3), (CY HB.out hw102_4), (CY HB.out hw102_5), (CY HB.out hw102_6), (CY HB.out hw102_7)⟩ (fun hHeld => ?_)
      clear hK K
      refine norm_ (a' := ?_) ?_ ?_
      rotate_left
      ·show Act.put _ (some 17) _ = _
       simp only [Act.put, List.setIfInBounds_toArray, List.set_cons_zero, List.set_cons_succ, i64_w, i32_w]
       rfl
      refine done_ (by kernel_rfl) ?_
      try go_wp2
      go_roundg k1
      case measure => have := HK1.out; omega
      case rel => exact ⟨(wrap64 (x5_1 + 1)), (by first | rfl | (simp; done) | (simp [*]; done)), H', ⟨by have := HK1.out; omega⟩, ⟨KB BK101⟩, ⟨K1 HB GE101.out⟩⟩
    ·rw [if_neg c5] at H
     exact absurd H (by simp)
   ·rw [if_neg c4] at H
    have c4b0 : decide (x5_1 < (l0.length : Int)) = false := decide_eq_false c4
    clear c4
    obtain rfl := Option.some.inj H
    go_wp2
    go_ret
    exact ⟨ER, K1 HB GE101.out⟩
mutual
def spec_l5Cells.l0 : Nat → List (S71) → List (S80) → Int → List Int → List Int → List Int → Option ((List (S80)))
 | 0, _, _, _, _, _, _ => none
 | k + 1, x0, x3, x5, x117000, x117001, x117002 => if x5 < (x117000.length : Int) then (spec_l5Cells.l1 k x0 x3 x5 0 x117000 x117001 x117002) else (some x3)
def spec_l5Cells.l1 : Nat → List (S71) → List (S80) → Int → Int → List Int → List Int → List Int → Option ((List (S80)))
 | 0, _, _, _, _, _, _, _ => none
 | k + 1, x0, x3, x5, x6, x117000, x117001, x117002 => if x6 < (x117001.length : Int) then (spec_l5Cells.l2 k x0 x3 x5 x6 0 x117000 x117001 x117002) else (spec_l5Cells.l0 k x0 x3 (wrap64 (x5 + 1)) x117000 x117001 x117002)
def spec_l5Cells.l2 : Nat → List (S71) → List (S80) → Int → Int → Int → List Int → List Int → List Int → Option ((List (S80)))
 | 0, _, _, _, _, _, _, _, _ => none
 | k + 1, x0, x3, x5, x6, x7, x117000, x117001, x117002 => if x7 < (x117002.length : Int) then (if 0 ≤ x5 then (if x5 < (x117000.length : Int) then (if 0 ≤ x6 then (if x6 < (x117001.length : Int) then (if 0 ≤ x7 then ((spec_l4First.f k x0 (rd x117000 x5) (rd x117001 x6) (rd x117002 x7)).bind fun t120 => (if t120 ≥ 0 then ((spec_l5To.f x117000 x5 4294967295).bind fun t122 => ((spec_l5To.f x117001 x6 4294967295).bind fun t124 => ((spec_l5To.f x117002 x7 65535).bind fun t126 => ((spec_l5Join.f x3 (rd x117000 x5) t122 (rd x117001 x6) t124 (rd x117002 x7) t126 t120).bind fun t127 => (spec_l5Cells.l2 k x0 t127 x5 x6 (wrap64 (x7 + 1)) x117000 x117001 x117002))))) else (spec_l5Cells.l2 k x0 x3 x5 x6 (wrap64 (x7 + 1)) x117000 x117001 x117002))) else (none)) else (none)) else (none)) else (none)) else (none)) else (spec_l5Cells.l1 k x0 x3 x5 (wrap64 (x6 + 1)) x117000 x117001 x117002)
end
def spec_l5Cells.f (k : Nat) (l0 : List (S71)) : Option ((List (S80))) := (spec_l4Of.f k l0 (([] : List (S71)))).bind fun bt107 => (spec_l5Cells.l0 k l0 (([] : List (S80))) 0 bt107.1 bt107.2.1 bt107.2.2)
def spec_l5Cells.T12 : Bool × List (List Nat × List Nat) := (true, [([], []), ([], []), ([1], [1]), ([], []), ([2, 3], [2, 3]), ([4], [4]), ([], []), ([6], [6]), ([], []), ([7, 8], [7, 8]), ([9], [9]), ([], []), ([11], [11]), ([], []), ([12, 13], [12, 13]), ([14], [14]), ([5, 10, 15], [5, 10, 15]), ([0, 16], [0, 16]), ([17, 17, 0, 1, 2, 3, 4, 5, 6, 7, 8, 9, 10, 11, 12, 13, 14, 15, 16, 17], [17])])
def spec_l5Cells.B12 : List Nat := [0, 0, 2, 0, 14, 30, 0, 64, 0, 448, 960, 0, 2048, 0, 14336, 30720, 65534, 131071, 262143]
theorem spec_l5Cells.tab12 : rtab .any (opsOf Try.f103 12) = spec_l5Cells.T12 := by kernel_rfl
theorem spec_l5Cells.bits12 : waitsOk spec_l5Cells.T12.2 spec_l5Cells.B12 = true := by kernel_rfl
def spec_l5Cells.T14 : Bool × List (List Nat × List Nat) := (true, [([], []), ([], []), ([1], [1]), ([], []), ([2, 3], [2, 3]), ([4], [4]), ([], []), ([6], [6]), ([], []), ([7, 8], [7, 8]), ([], []), ([10], [10]), ([], []), ([11, 12], [11, 12]), ([13], [13]), ([], []), ([15], [15]), ([], []), ([16, 17, 9], [16, 17]), ([], []), ([19], [19]), ([], []), ([20, 21], [20, 21]), ([22], [22]), ([], []), ([24], [24]), ([], []), ([25, 26, 18], [25, 26]), ([], []), ([5, 9, 14, 18, 23, 27, 28], [5, 9, 14, 18, 23, 27, 28]), ([0, 29, 27], [0, 29]), ([30, 30, 0, 1, 2, 3, 4, 5, 6, 7, 8, 9, 10, 11, 12, 13, 14, 15, 16, 17, 18, 19, 20, 21, 22, 23, 24, 25, 26, 27, 28, 29, 30], [0, 30])])
def spec_l5Cells.B14 : List Nat := [0, 0, 2, 0, 14, 30, 0, 64, 0, 448, 0, 1024, 0, 7168, 15360, 0, 32768, 0, 230336, 0, 524288, 0, 3670016, 7864320, 0, 16777216, 0, 117932992, 0, 536870910, 1073741823, 2147483647]
theorem spec_l5Cells.tab14 : rtab .any (opsOf Try.f103 14) = spec_l5Cells.T14 := by kernel_rfl
theorem spec_l5Cells.bits14 : waitsOk spec_l5Cells.T14.2 spec_l5Cells.B14 = true := by kernel_rfl
set_option maxHeartbeats 8000000 in
set_option maxRecDepth 100000 in
theorem spec_l5Cells.calls (k : Nat) (A0 : Option Addr) (c0 : Nat) (l0 : List (S71)) (r : List (S80)) (w : World) (hr0 : Kd.C k71 w A0 l0.length l0) (hc0 : l0.length ≤ c0) (h : spec_l5Cells.f k l0 = some r) :
  Calls Try.prog 103 #[.slice A0 l0.length c0] w fun e w' => ∃ v0_ : Value, e = .returned (v0_) ∧ Kd.R k80 80 w' w.heap.size (fun _ => True) v0_ r ∧ Below w.heap.size w w' := by
 have hu106 := Try.underlying106
 have hu60 := Try.underlying60
 have hu80 := Try.underlying80
 have HR0 := Aside0.mk hr0
 have HC0 := Aside0.mk hc0
 clear hr0 hc0
 have HB := am (Below.refl w.heap.size w)
 have H : ((spec_l4Of.f k l0 (([] : List (S71)))).bind fun bt107 => (spec_l5Cells.l0 k l0 (([] : List (S80))) 0 bt107.1 bt107.2.1 bt107.2.2)) = some r := h
 clear h
 obtain ⟨y101, hy101⟩ : ∃ y_ : List (S80), y_ = (([] : List (S80))) := ⟨_, rfl⟩
 replace H : ((spec_l4Of.f k l0 (([] : List (S71)))).bind fun bt107 => (spec_l5Cells.l0 k l0 y101 0 bt107.1 bt107.2.1 bt107.2.2)) = some r := by first | (rw [hy101]; with_reducible exact H) | (have H2_ := (Option.bind_some _ _).symm.trans H; rw [hy101]; with_reducible exact H2_) | (have H2_ := (Option.bind_some _ _).symm.trans H; with_reducible exact H2_) | with_reducible exact H | (rw [hy101]; exact H) | exact H
 have Ny101 := Aside0.mk hy101
 clear hy101
 obtain ⟨y104, hy104⟩ : ∃ y_ : List (S71), y_ = (([] : List (S71))) := ⟨_, rfl⟩
 replace H : ((spec_l4Of.f k l0 y104).bind fun bt107 => (spec_l5Cells.l0 k l0 y101 0 bt107.1 bt107.2.1 bt107.2.2)) = some r := by first | (rw [hy104]; with_reducible exact H) | (have H2_ := (Option.bind_some _ _).symm.trans H; rw [hy104]; with_reducible exact H2_) | (have H2_ := (Option.bind_some _ _).symm.trans H; with_reducible exact H2_) | with_reducible exact H | (rw [hy104]; exact H) | exact H
 have Ny104 := Aside0.mk hy104
 clear hy104
 replace H := Option.bind_eq_some_iff.mp H
 obtain ⟨⟨t107, t110, t113⟩, A20, H⟩ := H
 replace H : (spec_l5Cells.l0 k l0 y101 0 t107 t110 t113) = some r := H
 have A2 := Aside0.mk A20
 clear A20
 have H' := Aside0.mk H
 clear H
 go_enter Try.func103, Try.ntmps103
 go_wp2_with (first | ((with_reducible refine gate_dst (N := 9) rfl ?_); refine Kd.R_lit k80 _ 80 ?hg (N := 9) ?hd (xs := ([] : List (S80))) (inner := []) (ok := fun _ => True) (okp := fun _ => True) ?hr ?hp (fun _ hk => hk) trivial (Below.refl _ _) (Nat.le_refl _) (by simp) ?_; (case hd => rfl); (case hg => rfl); (case hr => first | (go_simp; done) | (go_simp; rfl)); (case hp => exact (Reps.none _ _)); intro v102 w3 ho4 hb hg_ hnew_; clear hg_ hnew_; (first | rw [← Ny101.out] at ho4 | (simp only [Int.reduceToNat] at ho4; rw [← Ny101.out] at ho4)); have HO103 := am (Kd.R_lower ho4 (below_size (KL HB))); replace HB := am (below_step (KL HB) hb); clear hb ho4) | ((with_reducible refine gate_dst (N := 11) rfl ?_); refine Kd.R_lit k71 _ 71 ?hg (N := 11) ?hd (xs := ([] : List (S71))) (inner := []) (ok := fun _ => True) (okp := fun _ => True) ?hr ?hp (fun _ hk => hk) trivial (Below.refl _ _) (Nat.le_refl _) (by simp) ?_; (case hd => rfl); (case hg => rfl); (case hr => first | (go_simp; done) | (go_simp; rfl)); (case hp => exact (Reps.none _ _)); intro v105 w5 ho6 hb hg_ hnew_; clear hg_ hnew_; (first | rw [← Ny104.out] at ho6 | (simp only [Int.reduceToNat] at ho6; rw [← Ny104.out] at ho6)); replace HO103 := am (Kd.R_below (KR HO103) hb); have HO106 := am (Kd.R_lower ho6 (below_size (KL HB))); replace HB := am (below_step (KL HB) hb); clear hb ho6; obtain ⟨Ao7, co7, eo7⟩ := Kd.R_slice HO106.out; subst eo7) | ((with_reducible refine gate_callee (f := 83) rfl ?_); refine goesL_ (some 12) rfl rfl Try.func83 (by kernel_rfl) rfl #[.slice A0 l0.length c0, .slice Ao7 y104.length co7] rfl MT ?_; (with_reducible refine (spec_l4Of.calls k _ _ l0 _ _ y104 t107 t110 t113 _ ?side1 ?side2 ?side3 ?side4 A2.out).mono ?_); (case side1 => exact KD HR0 HB); (case side2 => exact HC0.out); (case side3 => exact KC (Kd.R_reads' HO106.out).2.2); (case side4 => exact (Kd.R_reads' HO106.out).2.1); rintro e w8 ⟨v108, v111, v114, rfl, ho0, ho1, ho2, hb⟩; refine ⟨_, rfl, ?_⟩; have HO109 := am (Kd.V_lower (Kd.V_mono (ok' := fun k_ => some k_ ≠ (v102 : Value).ownBlock ∧ some k_ ≠ (.slice Ao7 y104.length co7 : Value).ownBlock) ho0 (fun k_ hk_ => ⟨(Kd.fresh' (Kd.R_lt (KR HO103)) k_ hk_), (Kd.fresh' (Kd.R_lt (KR HO106)) k_ hk_)⟩)) (below_size (KL HB))); have HO112 := am (Kd.V_lower (Kd.V_mono (ok' := fun k_ => some k_ ≠ (v102 : Value).ownBlock ∧ some k_ ≠ (.slice Ao7 y104.length co7 : Value).ownBlock) ho1 (fun k_ hk_ => ⟨(Kd.fresh' (Kd.R_lt (KR HO103)) k_ hk_), (Kd.fresh' (Kd.R_lt (KR HO106)) k_ hk_)⟩)) (below_size (KL HB))); have HO115 := am (Kd.V_lower (Kd.V_mono (ok' := fun k_ => some k_ ≠ (v102 : Value).ownBlock ∧ some k_ ≠ (.slice Ao7 y104.length co7 : Value).ownBlock) ho2 (fun k_ hk_ => ⟨(Kd.fresh' (Kd.R_lt (KR HO103)) k_ hk_), (Kd.fresh' (Kd.R_lt (KR HO106)) k_ hk_)⟩)) (below_size (KL HB))); replace HO103 := am (Kd.R_below (KR HO103) hb); replace HO106 := am (Kd.R_below (KR HO106) hb); replace HB := am (below_step (KL HB) hb); (try clear hb); (try clear ho0); (try clear ho1); (try clear ho2)) | ((with_reducible refine gate_dst (N := 4) rfl ?_); refine box_event rfl (N := 4) rfl (cs := #[.slice none 0 0, .slice none 0 0, .slice none 0 0]) (t := 106) BX ?_; intro gb116 hg w9 hbox hb; replace HO103 := am (Kd.R_below (KR HO103) hb); replace HO106 := am (Kd.R_below (KR HO106) hb); replace HO109 := am (Kd.V_below (Kd.V_elderB (by (with_reducible repeat (first | apply Kd.V_alloc | apply Kd.V_drewN | apply Kd.V_drew)); exact HO109.out) gb116 (Nat.le_of_eq hg.symm)) hb); replace HO112 := am (Kd.V_below (Kd.V_elderB (by (with_reducible repeat (first | apply Kd.V_alloc | apply Kd.V_drewN | apply Kd.V_drew)); exact HO112.out) gb116 (Nat.le_of_eq hg.symm)) hb); replace HO115 := am (Kd.V_below (Kd.V_elderB (by (with_reducible repeat (first | apply Kd.V_alloc | apply Kd.V_drewN | apply Kd.V_drew)); exact HO115.out) gb116 (Nat.le_of_eq hg.symm)) hb); have BK116 := am (hbox); have GW116 := am (GH HB hg); have GE116 := GW116; replace HB := am (below_step (KL HB) hb); clear hb hbox hg; obtain ⟨Ao10, co10, eo10⟩ := Kd.V_slice HO109.out; subst eo10; obtain ⟨hcz11_0, hcz11_1, hcz11_2, hfz11_0⟩ := y3 w9 BK116.out; obtain ⟨Ao12, co12, eo12⟩ := Kd.V_slice HO112.out; subst eo12; obtain ⟨Ao13, co13, eo13⟩ := Kd.V_slice HO115.out; subst eo13))
 go_loopg [3, 5] k (fun kq v3 v5 w' => ∃ (x3_1 : List (S80)) (x5_1 : Int), v5 = .int .i64 x5_1 ∧ Aside0 (spec_l5Cells.l0 kq l0 x3_1 x5_1 t107 t110 t113 = some r) ∧ Aside0 (kq ≤ k) ∧ Aside0 (Kd.R k80 80 w' w.heap.size (fun _ => True) v3 x3_1) ∧ Aside0 (Kd.V (Kd.int .i64) 3 w' w.heap.size (fun k_ => some k_ ≠ (v3 : Value).ownBlock ∧ k_ ≠ gb116) (.slice Ao10 t107.length co10) t107) ∧ Aside0 (Kd.V (Kd.int .i64) 3 w' w.heap.size (fun k_ => some k_ ≠ (v3 : Value).ownBlock ∧ k_ ≠ gb116) (.slice Ao12 t110.length co12) t110) ∧ Aside0 (Kd.V (Kd.int .i64) 3 w' w.heap.size (fun k_ => some k_ ≠ (v3 : Value).ownBlock ∧ k_ ≠ gb116) (.slice Ao13 t113.length co13) t113) ∧ Aside0 (w'.heap[gb116]? = some (.cells #[(.slice Ao10 t107.length co10), (.slice Ao12 t110.length co12), (.slice Ao13 t113.length co13)] 106 (0, 0))) ∧ Aside0 (Below w.heap.size w w'))
 case atStart => exact ⟨(y101), (0), (by first | rfl | (simp; done) | (simp [*]; done)), H', ⟨Nat.le_refl _⟩, ⟨by (with_reducible repeat (first | apply Kd.R_alloc | apply Kd.R_drewN | apply Kd.R_drew)); exact Kd.R_mono (Kd.R_far (p := ⟨gb116, 2, none⟩) (Kd.R_far (p := ⟨gb116, 1, none⟩) (Kd.R_far (p := ⟨gb116, 0, none⟩) (Kd.R_types HO103.out BK116.out (by decide)) (fun _ hk => hk.2) (.slice Ao10 t107.length co10)) (fun _ hk => hk.2) (.slice Ao12 t110.length co12)) (fun _ hk => hk.2) (.slice Ao13 t113.length co13)) (fun _ hk => trivial)⟩, ⟨by (with_reducible repeat (first | apply Kd.V_alloc | apply Kd.V_drewN | apply Kd.V_drew)); exact Kd.V_mono (Kd.V_far (p := ⟨gb116, 2, none⟩) (Kd.V_far (p := ⟨gb116, 1, none⟩) (Kd.V_far (p := ⟨gb116, 0, none⟩) (Kd.V_mono HO109.out (fun k_ hk => (⟨hk, hk.2⟩ : _ ∧ k_ ≠ gb116))) (fun _ hk => hk.2) (.slice Ao10 t107.length co10)) (fun _ hk => hk.2) (.slice Ao12 t110.length co12)) (fun _ hk => hk.2) (.slice Ao13 t113.length co13)) (fun _ hk => ⟨hk.1.1.1, hk.1.2⟩)⟩, ⟨by (with_reducible repeat (first | apply Kd.V_alloc | apply Kd.V_drewN | apply Kd.V_drew)); exact Kd.V_mono (Kd.V_far (p := ⟨gb116, 2, none⟩) (Kd.V_far (p := ⟨gb116, 1, none⟩) (Kd.V_far (p := ⟨gb116, 0, none⟩) (Kd.V_mono HO112.out (fun k_ hk => (⟨hk, hk.2⟩ : _ ∧ k_ ≠ gb116))) (fun _ hk => hk.2) (.slice Ao10 t107.length co10)) (fun _ hk => hk.2) (.slice Ao12 t110.length co12)) (fun _ hk => hk.2) (.slice Ao13 t113.length co13)) (fun _ hk => ⟨hk.1.1.1, hk.1.2⟩)⟩, ⟨by (with_reducible repeat (first | apply Kd.V_alloc | apply Kd.V_drewN | apply Kd.V_drew)); exact Kd.V_mono (Kd.V_far (p := ⟨gb116, 2, none⟩) (Kd.V_far (p := ⟨gb116, 1, none⟩) (Kd.V_far (p := ⟨gb116, 0, none⟩) (Kd.V_mono HO115.out (fun k_ hk => (⟨hk, hk.2⟩ : _ ∧ k_ ≠ gb116))) (fun _ hk => hk.2) (.slice Ao10 t107.length co10)) (fun _ hk => hk.2) (.slice Ao12 t110.length co12)) (fun _ hk => hk.2) (.slice Ao13 t113.length co13)) (fun _ hk => ⟨hk.1.1.1, hk.1.2⟩)⟩, ⟨by (with_reducible repeat (first | refine blk_drewN ?_ _ | refine blk_drew ?_ | refine blk_alloc ?_ _)); refine blk_put (cs := #[.slice Ao10 t107.length co10, .slice Ao12 t110.length co12, .slice none 0 0]) ?_ 2 _ rfl; (with_reducible repeat (first | refine blk_drewN ?_ _ | refine blk_drew ?_ | refine blk_alloc ?_ _)); refine blk_put (cs := #[.slice Ao10 t107.length co10, .slice none 0 0, .slice none 0 0]) ?_ 1 _ rfl; (with_reducible repeat (first | refine blk_drewN ?_ _ | refine blk_drew ?_ | refine blk_alloc ?_ _)); refine blk_put (cs := #[.slice none 0 0, .slice none 0 0, .slice none 0 0]) ?_ 0 _ rfl; (with_reducible repeat (first | refine blk_drewN ?_ _ | refine blk_drew ?_ | refine blk_alloc ?_ _)); exact BK116.out⟩, ⟨K1 HB GE116.out⟩⟩
 case round =>
  clear H'
  try clear c1
  try clear p2
  try clear c8
  try clear c10
  try clear hcz11_0 hcz11_1 hcz11_2 hfz11_0
  obtain ⟨x3_1, x5_1, rfl, HA, HK1, HO_3, HO_117000, HO_117001, HO_117002, BK116, HB⟩ := hrel
  cases gk with
  | zero => exact absurd HA.out (by simp [spec_l5Cells.l0])
  | succ k1 =>
   have H := HA.out
   clear HA
   simp only [spec_l5Cells.l0] at H
   by_cases c14 : x5_1 < (t107.length : Int)
   ·rw [if_pos c14] at H
    have c14b0 : decide (x5_1 < (t107.length : Int)) = true := decide_eq_true c14
    clear c14
    have H' := Aside0.mk H
    clear H
    obtain ⟨hcz15_0, hcz15_1, hcz15_2, hfz15_0⟩ := y3 wr BK116.out
    go_wp2
    go_loopg [3, 6] k1 (fun kq v3 v6 w' => ∃ (x3_2 : List (S80)) (x6_2 : Int), v6 = .int .i64 x6_2 ∧ Aside0 (spec_l5Cells.l1 kq l0 x3_2 x5_1 x6_2 t107 t110 t113 = some r) ∧ Aside0 (kq ≤ k1) ∧ Aside0 (Kd.R k80 80 w' w.heap.size (fun _ => True) v3 x3_2) ∧ Aside0 (Kd.V (Kd.int .i64) 3 w' w.heap.size (fun k_ => some k_ ≠ (v3 : Value).ownBlock ∧ k_ ≠ gb116) (.slice Ao10 t107.length co10) t107) ∧ Aside0 (Kd.V (Kd.int .i64) 3 w' w.heap.size (fun k_ => some k_ ≠ (v3 : Value).ownBlock ∧ k_ ≠ gb116) (.slice Ao12 t110.length co12) t110) ∧ Aside0 (Kd.V (Kd.int .i64) 3 w' w.heap.size (fun k_ => some k_ ≠ (v3 : Value).ownBlock ∧ k_ ≠ gb116) (.slice Ao13 t113.length co13) t113) ∧ Aside0 (w'.heap[gb116]? = some (.cells #[(.slice Ao10 t107.length co10), (.slice Ao12 t110.length co12), (.slice Ao13 t113.length co13)] 106 (0, 0))) ∧ Aside0 (Below w.heap.size w w'))
    case atStart => exact ⟨(x3_1), (0), (by first | rfl | (simp; done) | (simp [*]; done)), H', ⟨Nat.le_refl _⟩, ⟨KR HO_3⟩, ⟨by (with_reducible repeat (first | apply Kd.V_alloc | apply Kd.V_drewN | apply Kd.V_drew)); exact HO_117000.out⟩, ⟨by (with_reducible repeat (first | apply Kd.V_alloc | apply Kd.V_drewN | apply Kd.V_drew)); exact HO_117001.out⟩, ⟨by (with_reducible repeat (first | apply Kd.V_alloc | apply Kd.V_drewN | apply Kd.V_drew)); exact HO_117002.out⟩, ⟨KB BK116⟩, ⟨K1 HB GE116.out⟩⟩
    case round =>
     clear H'
     try clear c1
     try clear p2
     try clear c8
     try clear c10
     try clear c14
     try clear c14b0
     try clear hcz11_0 hcz11_1 hcz11_2 hfz11_0
     try clear hcz15_0 hcz15_1 hcz15_2 hfz15_0
     try clear p2
     obtain ⟨x3_2, x6_2, rfl, HA, HK2, HO_3, HO_117000, HO_117001, HO_117002, BK116, HB⟩ := hrel
     cases gk with
     | zero => exact absurd HA.out (by simp [spec_l5Cells.l1])
     | succ k2 =>
      have H := HA.out
      clear HA
      simp only [spec_l5Cells.l1] at H
      by_cases c16 : x6_2 < (t110.length : Int)
      ·rw [if_pos c16] at H
       have c16b0 : decide (x6_2 < (t110.length : Int)) = true := decide_eq_true c16
       clear c16
       have H' := Aside0.mk H
       clear H
       obtain ⟨hcz17_0, hcz17_1, hcz17_2, hfz17_0⟩ := y3 wr BK116.out
       go_wp2
       go_loopg [3, 7] k2 (fun kq v3 v7 w' => ∃ (x3_3 : List (S80)) (x7_3 : Int), v7 = .int .i64 x7_3 ∧ Aside0 (spec_l5Cells.l2 kq l0 x3_3 x5_1 x6_2 x7_3 t107 t110 t113 = some r) ∧ Aside0 (kq ≤ k2) ∧ Aside0 (Kd.R k80 80 w' w.heap.size (fun _ => True) v3 x3_3) ∧ Aside0 (Kd.V (Kd.int .i64) 3 w' w.heap.size (fun k_ => some k_ ≠ (v3 : Value).ownBlock ∧ k_ ≠ gb116) (.slice Ao10 t107.length co10) t107) ∧ Aside0 (Kd.V (Kd.int .i64) 3 w' w.heap.size (fun k_ => some k_ ≠ (v3 : Value).ownBlock ∧ k_ ≠ gb116) (.slice Ao12 t110.length co12) t110) ∧ Aside0 (Kd.V (Kd.int .i64) 3 w' w.heap.size (fun k_ => some k_ ≠ (v3 : Value).ownBlock ∧ k_ ≠ gb116) (.slice Ao13 t113.length co13) t113) ∧ Aside0 (w'.heap[gb116]? = some (.cells #[(.slice Ao10 t107.length co10), (.slice Ao12 t110.length co12), (.slice Ao13 t113.length co13)] 106 (0, 0))) ∧ Aside0 (Below w.heap.size w w'))
       case atStart => exact ⟨(x3_2), (0), (by first | rfl | (simp; done) | (simp [*]; done)), H', ⟨Nat.le_refl _⟩, ⟨KR HO_3⟩, ⟨by (with_reducible repeat (first | apply Kd.V_alloc | apply Kd.V_drewN | apply Kd.V_drew)); exact HO_117000.out⟩, ⟨by (with_reducible repeat (first | apply Kd.V_alloc | apply Kd.V_drewN | apply Kd.V_drew)); exact HO_117001.out⟩, ⟨by (with_reducible repeat (first | apply Kd.V_alloc | apply Kd.V_drewN | apply Kd.V_drew)); exact HO_117002.out⟩, ⟨KB BK116⟩, ⟨K1 HB GE116.out⟩⟩
       case round =>
        clear H'
        try clear c1
        try clear p2
        try clear c8
        try clear c10
        try clear c14
        try clear c14b0
        try clear c16
        try clear c16b0
        try clear hcz11_0 hcz11_1 hcz11_2 hfz11_0
        try clear hcz15_0 hcz15_1 hcz15_2 hfz15_0
        try clear hcz17_0 hcz17_1 hcz17_2 hfz17_0
        try clear p2
        obtain ⟨x3_3, x7_3, rfl, HA, HK3, HO_3, HO_117000, HO_117001, HO_117002, BK116, HB⟩ := hrel
        cases gk with
        | zero => exact absurd HA.out (by simp [spec_l5Cells.l2])
        | succ k3 =>
         have H := HA.out
         clear HA
         simp only [spec_l5Cells.l2] at H
         by_cases c18 : x7_3 < (t113.length : Int)
         ·rw [if_pos c18] at H
          have c18b0 : decide (x7_3 < (t113.length : Int)) = true := decide_eq_true c18
          clear c18
          by_cases c19 : 0 ≤ x5_1
          ·rw [if_pos c19] at H
           have c19b0 : decide (0 ≤ x5_1) = true := decide_eq_true c19
           clear c19
           by_cases c20 : x5_1 < (t107.length : Int)
           ·rw [if_pos c20] at H
            have c20b0 : decide (x5_1 < (t107.length : Int)) = true := decide_eq_true c20
            clear c20
            by_cases c21 : 0 ≤ x6_2
            ·rw [if_pos c21] at H
             have c21b0 : decide (0 ≤ x6_2) = true := decide_eq_true c21
             clear c21
             by_cases c22 : x6_2 < (t110.length : Int)
             ·rw [if_pos c22] at H
              have c22b0 : decide (x6_2 < (t110.length : Int)) = true := decide_eq_true c22
              clear c22
              by_cases c23 : 0 ≤ x7_3
              ·rw [if_pos c23] at H
               have c23b0 : decide (0 ≤ x7_3) = true := decide_eq_true c23
               clear c23
               replace H := Option.bind_eq_some_iff.mp H
               obtain ⟨t120, A240, H⟩ := H
               replace H : (if t120 ≥ 0 then ((spec_l5To.f t107 x5_1 4294967295).bind fun t122 => ((spec_l5To.f t110 x6_2 4294967295).bind fun t124 => ((spec_l5To.f t113 x7_3 65535).bind fun t126 => ((spec_l5Join.f x3_3 (rd t107 x5_1) t122 (rd t110 x6_2) t124 (rd t113 x7_3) t126 t120).bind fun t127 => (spec_l5Cells.l2 k3 l0 t127 x5_1 x6_2 (wrap64 (x7_3 + 1)) t107 t110 t113))))) else (spec_l5Cells.l2 k3 l0 x3_3 x5_1 x6_2 (wrap64 (x7_3 + 1)) t107 t110 t113)) = some r := H
               have A24 := Aside0.mk A240
               clear A240
               by_cases c25 : t120 ≥ 0
               ·rw [if_pos c25] at H
                have c25b0 : decide (0 ≤ t120) = true := decide_eq_true c25
                clear c25
                replace H := Option.bind_eq_some_iff.mp H
                obtain ⟨t122, A260, H⟩ := H
                replace H : ((spec_l5To.f t110 x6_2 4294967295).bind fun t124 => ((spec_l5To.f t113 x7_3 65535).bind fun t126 => ((spec_l5Join.f x3_3 (rd t107 x5_1) t122 (rd t110 x6_2) t124 (rd t113 x7_3) t126 t120).bind fun t127 => (spec_l5Cells.l2 k3 l0 t127 x5_1 x6_2 (wrap64 (x7_3 + 1)) t107 t110 t113)))) = some r := H
                have A26 := Aside0.mk A260
                clear A260
                replace H := Option.bind_eq_some_iff.mp H
                obtain ⟨t124, A270, H⟩ := H
                replace H : ((spec_l5To.f t113 x7_3 65535).bind fun t126 => ((spec_l5Join.f x3_3 (rd t107 x5_1) t122 (rd t110 x6_2) t124 (rd t113 x7_3) t126 t120).bind fun t127 => (spec_l5Cells.l2 k3 l0 t127 x5_1 x6_2 (wrap64 (x7_3 + 1)) t107 t110 t113))) = some r := H
                have A27 := Aside0.mk A270
                clear A270
                replace H := Option.bind_eq_some_iff.mp H
                obtain ⟨t126, A280, H⟩ := H
                replace H : ((spec_l5Join.f x3_3 (rd t107 x5_1) t122 (rd t110 x6_2) t124 (rd t113 x7_3) t126 t120).bind fun t127 => (spec_l5Cells.l2 k3 l0 t127 x5_1 x6_2 (wrap64 (x7_3 + 1)) t107 t110 t113)) = some r := H
                have A28 := Aside0.mk A280
                clear A280
                replace H := Option.bind_eq_some_iff.mp H
                obtain ⟨t127, A290, H⟩ := H
                replace H : (spec_l5Cells.l2 k3 l0 t127 x5_1 x6_2 (wrap64 (x7_3 + 1)) t107 t110 t113) = some r := H
                have A29 := Aside0.mk A290
                clear A290
                have H' := Aside0.mk H
                clear H
                obtain ⟨hcz30_0, hcz30_1, hcz30_2, hfz30_0⟩ := y3 wr BK116.out
                try go_wp2
                replace HO_3 := am (Kd.R_drew HO_3.out)
                replace HO_117000 := am (Kd.V_drew HO_117000.out)
                replace HO_117001 := am (Kd.V_drew HO_117001.out)
                replace HO_117002 := am (Kd.V_drew HO_117002.out)
                replace BK116 := am (blk_drew BK116.out)
                replace HB := am (below_drew1 HB.out)
                have p117 : 0 ≤ (x5_1 : Int) := OD
                have q117 : x5_1 < (t107.length : Int) := OD
                obtain ⟨ad117, e117, hx117_0⟩ := Kd.at_int (Kd.V_reads' HO_117000.out).2.2 x5_1 p117 q117
                cases e117
                replace p117 := eq_true p117
                replace q117 := eq_true q117
                have p118 : 0 ≤ (x6_2 : Int) := OD
                have q118 : x6_2 < (t110.length : Int) := OD
                obtain ⟨ad118, e118, hx118_0⟩ := Kd.at_int (Kd.V_reads' HO_117001.out).2.2 x6_2 p118 q118
                cases e118
                replace p118 := eq_true p118
                replace q118 := eq_true q118
                have p119 : 0 ≤ (x7_3 : Int) := OD
                have q119 : x7_3 < (t113.length : Int) := OD
                obtain ⟨ad119, e119, hx119_0⟩ := Kd.at_int (Kd.V_reads' HO_117002.out).2.2 x7_3 p119 q119
                cases e119
                replace p119 := eq_true p119
                replace q119 := eq_true q119
                refine start_ (n := 19) (S := fun w' => ce3 w' gb116 (.slice (some ad117) t107.length co10) (.slice (some ad118) t110.length co12) (.slice (some ad119) t113.length co13) (w'.cell? (ad117.add (x5_1).toNat) = some (.int .i64 (rd t107 x5_1)) ∧ w'.cell? (ad118.add (x6_2).toNat) = some (.int .i64 (rd t110 x6_2)) ∧ w'.cell? (ad119.add (x7_3).toNat) = some (.int .i64 (rd t113 x7_3)))) (ds := []) (tf 0 19) (by kernel_rfl) rfl rfl ⟨z0 _ BK116.out, z1 _ BK116.out, z2 _ BK116.out, hx117_0, hx118_0, hx119_0⟩ (fun hHeld => ?_); refine with_tabW spec_l5Cells.tab12 spec_l5Cells.bits12 (fun HT_ HW_ => ?_)
                generalize wr.drew = w31 at HO_3 HO_117000 HO_117001 HO_117002 BK116 HB hx117_0 hx118_0 hx119_0 hHeld ⊢
                refine pv HT_ 0 34 (tf 1 18) ?_
                refine pv HT_ 1 35 (tf 2 17) ?_
                refine pv HT_ 3 37 (tr [2, 1, 1, 15]) ?_
                refine pv HT_ 6 40 (tr [2, 1, 1, 2, 1, 12]) ?_
                refine pv HT_ 8 42 (tr [2, 1, 1, 2, 1, 1, 1, 10]) ?_
                refine pv HT_ 11 45 (tr [2, 1, 1, 2, 1, 1, 1, 2, 1, 7]) ?_
                refine pv HT_ 13 47 (tr [2, 1, 1, 2, 1, 1, 1, 2, 1, 1, 1, 5]) ?_
                refine tk 2 (some 36) (tr [4, 2, 1, 1, 1, 2, 1, 1, 1, 5]) (take_ofW HT_.out HW_.out (by kernel_rfl)) hHeld ?_
                refine pv HT_ 4 38 (tr [5, 1, 1, 1, 1, 2, 1, 1, 1, 5]) ?_
                refine tk 5 (some 39) (tr [7, 1, 1, 2, 1, 1, 1, 5]) (take_ofW HT_.out HW_.out (by kernel_rfl)) hHeld ?_
                refine tk 7 (some 41) (tr [9, 2, 1, 1, 1, 5]) (take_ofW HT_.out HW_.out (by kernel_rfl)) hHeld ?_
                refine pv HT_ 9 43 (tr [10, 1, 1, 1, 1, 5]) ?_
                refine tk 10 (some 44) (tr [12, 1, 1, 5]) (take_ofW HT_.out HW_.out (by kernel_rfl)) hHeld ?_
                refine tk 12 (some 46) (tf 14 5) (take_ofW HT_.out HW_.out (by kernel_rfl)) hHeld ?_
                refine pv HT_ 14 48 (tf 15 4) ?_
                refine tk 15 (some 49) (tf 16 3) (take_ofW HT_.out HW_.out (by kernel_rfl)) hHeld ?_
                refine pv HT_ 16 50 (tf 17 2) ?_
                refine one_ (i := 17) (N := some 51) (tf 18 1) rfl rfl (one_of HT_.out (by kernel_rfl)) (by decide) (fun K hK => ?_)
                refine goes_ Try.func84 (by kernel_rfl) rfl #[.slice A0 l0.length c0, .agg #[.int .i64 (rd t107 x5_1), .int .i64 (rd t110 x6_2), .int .i64 (rd t113 x7_3)]] (by rfl) rfl rfl MT ?_
                with_reducible refine (spec_l4First.calls k3 _ _ l0 (rd t107 x5_1) (rd t110 x6_2) (rd t113 x7_3) t120 _ ?side1 ?side2 A24.out).mono ?_
                (case side1 => exact KD HR0 HB)
                (case side2 => exact HC0.out)
                rintro e w32 ⟨rfl, hb⟩
                have HS3_ := (hb.cell (World.block_lt_of_cell? _ _ (hHeld.2.2.2.1))).trans (hHeld.2.2.2.1)
                have HS4_ := (hb.cell (World.block_lt_of_cell? _ _ (hHeld.2.2.2.2.1))).trans (hHeld.2.2.2.2.1)
                have HS5_ := (hb.cell (World.block_lt_of_cell? _ _ (hHeld.2.2.2.2.2))).trans (hHeld.2.2.2.2.2)
                refine ⟨_, rfl, ?_⟩
                replace HO_3 := am (Kd.R_below (KR HO_3) hb)
                replace HO_117000 := am (Kd.V_below (by (with_reducible repeat (first | apply Kd.V_alloc | apply Kd.V_drewN | apply Kd.V_drew)); exact HO_117000.out) hb)
                replace HO_117001 := am (Kd.V_below (by (with_reducible repeat (first | apply Kd.V_alloc | apply Kd.V_drewN | apply Kd.V_drew)); exact HO_117001.out) hb)
                replace HO_117002 := am (Kd.V_below (by (with_reducible repeat (first | apply Kd.V_alloc | apply Kd.V_drewN | apply Kd.V_drew)); exact HO_117002.out) hb)
                replace BK116 := am (BB BK116 hb)
                replace HB := am (below_step (K1 HB GE116.out) hb)
                (try clear hb)
                (try clear hb2)
                (try clear hk)
                (try clear hi)
                refine hK.out _ _ ⟨z0 _ BK116.out, z1 _ BK116.out, z2 _ BK116.out, HS3_, HS4_, HS5_⟩ (fun hHeld => ?_)
                clear hK K
                refine norm_ (a' := ?_) ?_ ?_
                rotate_left
                ·show Act.put _ (some 51) _ = _
                 simp only [Act.put, List.setIfInBounds_toArray, List.set_cons_zero, List.set_cons_succ, i64_w, i32_w]
                 rfl
                refine pv HT_ 18 8 (tf 19 0) ?_
                refine done_ (done_of HT_.out (by kernel_rfl)) ?_
                try go_wp2
                replace HO_3 := am (Kd.R_drew HO_3.out)
                replace HO_117000 := am (Kd.V_drew HO_117000.out)
                replace HO_117001 := am (Kd.V_drew HO_117001.out)
                replace HO_117002 := am (Kd.V_drew HO_117002.out)
                replace BK116 := am (blk_drew BK116.out)
                replace HB := am (below_drew1 HB.out)
                have p121 : 0 ≤ (x5_1 : Int) := OD
                have q121 : x5_1 < (t107.length : Int) := OD
                obtain ⟨ad121, e121, hx121_0⟩ := Kd.at_int (Kd.V_reads' HO_117000.out).2.2 x5_1 p121 q121
                obtain rfl : ad117 = ad121 := (by injection e121)
                replace p121 := eq_true p121
                replace q121 := eq_true q121
                have p123 : 0 ≤ (x6_2 : Int) := OD
                have q123 : x6_2 < (t110.length : Int) := OD
                obtain ⟨ad123, e123, hx123_0⟩ := Kd.at_int (Kd.V_reads' HO_117001.out).2.2 x6_2 p123 q123
                obtain rfl : ad118 = ad123 := (by injection e123)
                replace p123 := eq_true p123
                replace q123 := eq_true q123
                have p125 : 0 ≤ (x7_3 : Int) := OD
                have q125 : x7_3 < (t113.length : Int) := OD
                obtain ⟨ad125, e125, hx125_0⟩ := Kd.at_int (Kd.V_reads' HO_117002.out).2.2 x7_3 p125 q125
                obtain rfl : ad119 = ad125 := (by injection e125)
                replace p125 := eq_true p125
                replace q125 := eq_true q125
                refine start_ (n := 32) (S := fun w' => ce3 w' gb116 (.slice (some ad117) t107.length co10) (.slice (some ad118) t110.length co12) (.slice (some ad119) t113.length co13) (w'.cell? (ad117.add (x5_1).toNat) = some (.int .i64 (rd t107 x5_1)) ∧ w'.cell? (ad118.add (x6_2).toNat) = some (.int .i64 (rd t110 x6_2)) ∧ w'.cell? (ad119.add (x7_3).toNat) = some (.int .i64 (rd t113 x7_3)))) (ds := []) (tf 0 32) (by kernel_rfl) rfl rfl ⟨z0 _ BK116.out, z1 _ BK116.out, z2 _ BK116.out, hx121_0, hx123_0, hx125_0⟩ (fun hHeld => ?_); refine with_tabW spec_l5Cells.tab14 spec_l5Cells.bits14 (fun HT_ HW_ => ?_)
                generalize w32.drew = w33 at HO_3 HO_117000 HO_117001 HO_117002 BK116 HB hx121_0 hx123_0 hx125_0 hHeld ⊢
                refine pv HT_ 0 54 (tf 1 31) ?_
                refine pv HT_ 1 55 (tf 2 30) ?_
                refine pv HT_ 3 57 (tr [2, 1, 1, 28]) ?_
                refine pv HT_ 6 60 (tr [2, 1, 1, 2, 1, 25]) ?_
                refine pv HT_ 8 62 (tr [2, 1, 1, 2, 1, 1, 1, 23]) ?_
                refine pv HT_ 10 64 (tr [2, 1, 1, 2, 1, 1, 1, 1, 1, 21]) ?_
                refine pv HT_ 12 66 (tr [2, 1, 1, 2, 1, 1, 1, 1, 1, 1, 1, 19]) ?_
                refine pv HT_ 15 69 (tr [2, 1, 1, 2, 1, 1, 1, 1, 1, 1, 1, 2, 1, 16]) ?_
                refine pv HT_ 17 71 (tr [2, 1, 1, 2, 1, 1, 1, 1, 1, 1, 1, 2, 1, 1, 1, 14]) ?_
                refine pv HT_ 19 73 (tr [2, 1, 1, 2, 1, 1, 1, 1, 1, 1, 1, 2, 1, 1, 1, 1, 1, 12]) ?_
                refine pv HT_ 21 75 (tr [2, 1, 1, 2, 1, 1, 1, 1, 1, 1, 1, 2, 1, 1, 1, 1, 1, 1, 1, 10]) ?_
                refine pv HT_ 24 78 (tr [2, 1, 1, 2, 1, 1, 1, 1, 1, 1, 1, 2, 1, 1, 1, 1, 1, 1, 1, 2, 1, 7]) ?_
                refine pv HT_ 26 80 (tr [2, 1, 1, 2, 1, 1, 1, 1, 1, 1, 1, 2, 1, 1, 1, 1, 1, 1, 1, 2, 1, 1, 1, 5]) ?_
                refine pv HT_ 28 82 (tr [2, 1, 1, 2, 1, 1, 1, 1, 1, 1, 1, 2, 1, 1, 1, 1, 1, 1, 1, 2, 1, 1, 1, 1, 1, 3]) ?_
                refine tk 2 (some 56) (tr [4, 2, 1, 1, 1, 1, 1, 1, 1, 2, 1, 1, 1, 1, 1, 1, 1, 2, 1, 1, 1, 1, 1, 3]) (take_ofW HT_.out HW_.out (by kernel_rfl)) hHeld ?_
                refine pv HT_ 4 58 (tr [5, 1, 1, 1, 1, 1, 1, 1, 1, 2, 1, 1, 1, 1, 1, 1, 1, 2, 1, 1, 1, 1, 1, 3]) ?_
                refine tk 5 (some 59) (tr [7, 1, 1, 1, 1, 1, 1, 2, 1, 1, 1, 1, 1, 1, 1, 2, 1, 1, 1, 1, 1, 3]) (take_ofW HT_.out HW_.out (by kernel_rfl)) hHeld ?_
                refine tk 7 (some 61) (tr [9, 1, 1, 1, 1, 2, 1, 1, 1, 1, 1, 1, 1, 2, 1, 1, 1, 1, 1, 3]) (take_ofW HT_.out HW_.out (by kernel_rfl)) hHeld ?_
                refine tk 11 (some 65) (tr [9, 1, 3, 2, 1, 1, 1, 1, 1, 1, 1, 2, 1, 1, 1, 1, 1, 3]) (take_ofW HT_.out HW_.out (by kernel_rfl)) hHeld ?_
                refine pv HT_ 13 67 (tr [9, 1, 4, 1, 1, 1, 1, 1, 1, 1, 1, 2, 1, 1, 1, 1, 1, 3]) ?_
                refine tk 14 (some 68) (tr [9, 1, 6, 1, 1, 1, 1, 1, 1, 2, 1, 1, 1, 1, 1, 3]) (take_ofW HT_.out HW_.out (by kernel_rfl)) hHeld ?_
                refine tk 16 (some 70) (tr [9, 1, 8, 1, 1, 1, 1, 2, 1, 1, 1, 1, 1, 3]) (take_ofW HT_.out HW_.out (by kernel_rfl)) hHeld ?_
                refine tk 20 (some 74) (tr [9, 1, 8, 1, 3, 2, 1, 1, 1, 1, 1, 3]) (take_ofW HT_.out HW_.out (by kernel_rfl)) hHeld ?_
                refine pv HT_ 22 76 (tr [9, 1, 8, 1, 4, 1, 1, 1, 1, 1, 1, 3]) ?_
                refine tk 23 (some 77) (tr [9, 1, 8, 1, 6, 1, 1, 1, 1, 3]) (take_ofW HT_.out HW_.out (by kernel_rfl)) hHeld ?_
                refine tk 25 (some 79) (tr [9, 1, 8, 1, 8, 1, 1, 3]) (take_ofW HT_.out HW_.out (by kernel_rfl)) hHeld ?_
                refine one_ (i := 9) (N := some 63) (tr [18, 1, 8, 1, 1, 3]) rfl rfl (one_of HT_.out (by kernel_rfl)) (by decide) (fun K hK => ?_)
                refine goes_ Try.func136 (by kernel_rfl) rfl #[.slice (some ad117) t107.length co10, .int .i64 x5_1, .int .i64 4294967295] (by rfl) rfl rfl MT ?_
                with_reducible refine (spec_l5To.calls _ _ t107 x5_1 4294967295 t122 _ ?side1 ?side2 A26.out).mono ?_
                (case side1 => exact KC (Kd.V_reads' HO_117000.out).2.2)
                (case side2 => exact (Kd.V_reads' HO_117000.out).2.1)
                rintro e w' ⟨rfl, ⟨nd, rfl⟩⟩
                refine ⟨_, rfl, ?_⟩
                refine hK.out _ _ ⟨z0 _ BK116.out, z1 _ BK116.out, z2 _ BK116.out, hHeld.2.2.2.1, hHeld.2.2.2.2.1, hHeld.2.2.2.2.2⟩ (fun hHeld => ?_)
                clear hK K
                refine norm_ (a' := ?_) ?_ ?_
                rotate_left
                ·show Act.put _ (some 63) _ = _
                 simp only [Act.put, List.setIfInBounds_toArray, List.set_cons_zero, List.set_cons_succ, i64_w, i32_w]
                 rfl
                refine one_ (i := 18) (N := some 72) (tr [27, 1, 1, 3]) rfl rfl (one_of HT_.out (by kernel_rfl)) (by decide) (fun K hK => ?_)
                refine goes_ Try.func136 (by kernel_rfl) rfl #[.slice (some ad118) t110.length co12, .int .i64 x6_2, .int .i64 4294967295] (by rfl) rfl rfl MT ?_
                with_reducible refine (spec_l5To.calls _ _ t110 x6_2 4294967295 t124 _ ?side1 ?side2 A27.out).mono ?_
                (case side1 => exact KC (Kd.V_reads' HO_117001.out).2.2)
                (case side2 => exact (Kd.V_reads' HO_117001.out).2.1)
                rintro e w' ⟨rfl, ⟨nd, rfl⟩⟩
                refine ⟨_, rfl, ?_⟩
                refine hK.out _ _ ⟨z0 _ BK116.out, z1 _ BK116.out, z2 _ BK116.out, hHeld.2.2.2.1, hHeld.2.2.2.2.1, hHeld.2.2.2.2.2⟩ (fun hHeld => ?_)
                clear hK K
                refine norm_ (a' := ?_) ?_ ?_
                rotate_left
                ·show Act.put _ (some 72) _ = _
                 simp only [Act.put, List.setIfInBounds_toArray, List.set_cons_zero, List.set_cons_succ, i64_w, i32_w]
                 rfl
                refine one_ (i := 27) (N := some 81) (tf 29 3) rfl rfl (one_of HT_.out (by kernel_rfl)) (by decide) (fun K hK => ?_)
                refine goes_ Try.func136 (by kernel_rfl) rfl #[.slice (some ad119) t113.length co13, .int .i64 x7_3, .int .i64 65535] (by rfl) rfl rfl MT ?_
                with_reducible refine (spec_l5To.calls _ _ t113 x7_3 65535 t126 _ ?side1 ?side2 A28.out).mono ?_
                (case side1 => exact KC (Kd.V_reads' HO_117002.out).2.2)
                (case side2 => exact (Kd.V_reads' HO_117002.out).2.1)
                rintro e w' ⟨rfl, ⟨nd, rfl⟩⟩
                refine ⟨_, rfl, ?_⟩
                obtain ⟨Ao34, co34, eo34⟩ := Kd.R_slice HO_3.out
                (first | subst eo34 | (injection eo34 with f1_ f2_ f3_; have f4_ := f1_.symm; have f5_ := f3_.symm; clear f1_ f2_ f3_; subst f4_; subst f5_))
                refine hK.out _ _ ⟨z0 _ BK116.out, z1 _ BK116.out, z2 _ BK116.out, hHeld.2.2.2.1, hHeld.2.2.2.2.1, hHeld.2.2.2.2.2⟩ (fun hHeld => ?_)
                clear hK K
                refine norm_ (a' := ?_) ?_ ?_
                rotate_left
                ·show Act.put _ (some 81) _ = _
                 simp only [Act.put, List.setIfInBounds_toArray, List.set_cons_zero, List.set_cons_succ, i64_w, i32_w]
                 rfl
                refine pv HT_ 29 83 (tf 30 2) ?_
                refine one_ (i := 30) (N := some 84) (tf 31 1) rfl rfl (one_of HT_.out (by kernel_rfl)) (by decide) (fun K hK => ?_)
                refine goes_ Try.func135 (by kernel_rfl) rfl #[.slice Ao34 x3_3.length co34, .agg #[.int .i64 (rd t107 x5_1), .int .i64 t122, .int .i64 (rd t110 x6_2), .int .i64 t124, .int .i64 (rd t113 x7_3), .int .i64 t126, .int .i64 t120]] (by rfl) rfl rfl MT ?_
                with_reducible refine (spec_l5Join.calls (fun k_ => some k_ = (.slice Ao34 x3_3.length co34 : Value).ownBlock) (.slice Ao34 x3_3.length co34) x3_3 (rd t107 x5_1) t122 (rd t110 x6_2) t124 (rd t113 x7_3) t126 t120 t127 w _ ?side1 ?side2 A29.out).mono ?_
                (case side1 => exact K1 HB GE116.out)
                (case side2 => exact Kd.R_tight rfl HO_3.out)
                rintro e w35 ⟨v128, rfl, ho0, hb, hkp⟩
                have HS3_ := cell_kept (hHeld.2.2.2.1) hkp (by first | (rw [add_block]; exact (fun hs_ => ((Kd.F_in (Kd.V_F (HO_117000.out)) rfl (by simp only [decide_eq_true_eq] at *; omega) (by decide)).1) hs_)) | (show ¬ _; simp only [add_block]; exact (fun hs_ => ((Kd.F_in (Kd.V_F (HO_117000.out)) rfl (by simp only [decide_eq_true_eq] at *; omega) (by decide)).1) hs_)) | exact (fun hs_ => ((Kd.F_in (Kd.V_F (HO_117000.out)) rfl (by simp only [decide_eq_true_eq] at *; omega) (by decide)).1) hs_))
                have HS4_ := cell_kept (hHeld.2.2.2.2.1) hkp (by first | (rw [add_block]; exact (fun hs_ => ((Kd.F_in (Kd.V_F (HO_117001.out)) rfl (by simp only [decide_eq_true_eq] at *; omega) (by decide)).1) hs_)) | (show ¬ _; simp only [add_block]; exact (fun hs_ => ((Kd.F_in (Kd.V_F (HO_117001.out)) rfl (by simp only [decide_eq_true_eq] at *; omega) (by decide)).1) hs_)) | exact (fun hs_ => ((Kd.F_in (Kd.V_F (HO_117001.out)) rfl (by simp only [decide_eq_true_eq] at *; omega) (by decide)).1) hs_))
                have HS5_ := cell_kept (hHeld.2.2.2.2.2) hkp (by first | (rw [add_block]; exact (fun hs_ => ((Kd.F_in (Kd.V_F (HO_117002.out)) rfl (by simp only [decide_eq_true_eq] at *; omega) (by decide)).1) hs_)) | (show ¬ _; simp only [add_block]; exact (fun hs_ => ((Kd.F_in (Kd.V_F (HO_117002.out)) rfl (by simp only [decide_eq_true_eq] at *; omega) (by decide)).1) hs_)) | exact (fun hs_ => ((Kd.F_in (Kd.V_F (HO_117002.out)) rfl (by simp only [decide_eq_true_eq] at *; omega) (by decide)).1) hs_))
                refine ⟨_, rfl, ?_⟩
                replace HO_117000 := am (Kd.V_mono (ok' := fun k_ => k_ ≠ gb116 ∧ some k_ ≠ (v128 : Value).ownBlock) (Kd.V_keptB (HO_117000.out) hkp (fun k_ hk_ hs_ => (hk_.1) hs_)) (fun k_ hk_ => ⟨hk_.1.2, fun e_ => Or.elim (ho0.1 k_ e_.symm) (fun hs_ => hk_.2.1 hs_) (fun hn_ => Nat.not_le.2 hk_.2.2 hn_)⟩))
                replace HO_117001 := am (Kd.V_mono (ok' := fun k_ => k_ ≠ gb116 ∧ some k_ ≠ (v128 : Value).ownBlock) (Kd.V_keptB (HO_117001.out) hkp (fun k_ hk_ hs_ => (hk_.1) hs_)) (fun k_ hk_ => ⟨hk_.1.2, fun e_ => Or.elim (ho0.1 k_ e_.symm) (fun hs_ => hk_.2.1 hs_) (fun hn_ => Nat.not_le.2 hk_.2.2 hn_)⟩))
                replace HO_117002 := am (Kd.V_mono (ok' := fun k_ => k_ ≠ gb116 ∧ some k_ ≠ (v128 : Value).ownBlock) (Kd.V_keptB (HO_117002.out) hkp (fun k_ hk_ hs_ => (hk_.1) hs_)) (fun k_ hk_ => ⟨hk_.1.2, fun e_ => Or.elim (ho0.1 k_ e_.symm) (fun hs_ => hk_.2.1 hs_) (fun hn_ => Nat.not_le.2 hk_.2.2 hn_)⟩))
                replace BK116 := am (blk_kept (KB BK116) hkp (fun hs_ => (fun e_ => (Kd.R_ne HO_3.out BK116.out (by decide)) e_) hs_))
                have HO129 := am (Kd.R_mono (ok' := fun k_ => True) ho0 (fun k_ hk_ => trivial))
                replace HB := am (hb)
                clear HO_3
                (try clear hb)
                (try clear hkp)
                (try clear ho0)
                refine hK.out _ _ ⟨z0 _ BK116.out, z1 _ BK116.out, z2 _ BK116.out, HS3_, HS4_, HS5_⟩ (fun hHeld => ?_)
                clear hK K
                refine norm_ (a' := ?_) ?_ ?_
                rotate_left
                ·show Act.put _ (some 84) _ = _
                 simp only [Act.put, List.setIfInBounds_toArray, List.set_cons_zero, List.set_cons_succ, i64_w, i32_w]
                 rfl
                refine pv HT_ 31 3 (tf 32 0) ?_
                refine done_ (done_of HT_.out (by kernel_rfl)) ?_
                try go_wp2
                go_roundg k3
                case measure => have := HK1.out; have := HK2.out; have := HK3.out; omega
                case rel => exact ⟨(t127), (wrap64 (x7_3 + 1)), (by first | rfl | (simp; done) | (simp [*]; done)), H', ⟨by have := HK1.out; have := HK2.out; have := HK3.out; omega⟩, ⟨KR HO129⟩, ⟨by (with_reducible repeat (first | apply Kd.V_alloc | apply Kd.V_drewN | apply Kd.V_drew)); exact Kd.V_mono HO_117000.out (fun _ hk => ⟨hk.2, hk.1⟩)⟩, ⟨by (with_reducible repeat (first | apply Kd.V_alloc | apply Kd.V_drewN | apply Kd.V_drew)); exact Kd.V_mono HO_117001.out (fun _ hk => ⟨hk.2, hk.1⟩)⟩, ⟨by (with_reducible repeat (first | apply Kd.V_alloc | apply Kd.V_drewN | apply Kd.V_drew)); exact Kd.V_mono HO_117002.out (fun _ hk => ⟨hk.2, hk.1⟩)⟩, ⟨KB BK116⟩, ⟨K1 HB GE116.out⟩⟩
               ·rw [if_neg c25] at H
                have c25b0 : decide (0 ≤ t120) = false := decide_eq_false c25
                clear c25
                have H' := Aside0.mk H
                clear H
                obtain ⟨hcz36_0, hcz36_1, hcz36_2, hfz36_0⟩ := y3 wr BK116.out
                try go_wp2
                replace HO_3 := am (Kd.R_drew HO_3.out)
                replace HO_117000 := am (Kd.V_drew HO_117000.out)
                replace HO_117001 := am (Kd.V_drew HO_117001.out)
                replace HO_117002 := am (Kd.V_drew HO_117002.out)
                replace BK116 := am (blk_drew BK116.out)
                replace HB := am (below_drew1 HB.out)
                have p117 : 0 ≤ (x5_1 : Int) := OD
                have q117 : x5_1 < (t107.length : Int) := OD
                obtain ⟨ad117, e117, hx117_0⟩ := Kd.at_int (Kd.V_reads' HO_117000.out).2.2 x5_1 p117 q117
                cases e117
                replace p117 := eq_true p117
                replace q117 := eq_true q117
                have p118 : 0 ≤ (x6_2 : Int) := OD
                have q118 : x6_2 < (t110.length : Int) := OD
                obtain ⟨ad118, e118, hx118_0⟩ := Kd.at_int (Kd.V_reads' HO_117001.out).2.2 x6_2 p118 q118
                cases e118
                replace p118 := eq_true p118
                replace q118 := eq_true q118
                have p119 : 0 ≤ (x7_3 : Int) := OD
                have q119 : x7_3 < (t113.length : Int) := OD
                obtain ⟨ad119, e119, hx119_0⟩ := Kd.at_int (Kd.V_reads' HO_117002.out).2.2 x7_3 p119 q119
                cases e119
                replace p119 := eq_true p119
                replace q119 := eq_true q119
                refine start_ (n := 19) (S := fun w' => ce3 w' gb116 (.slice (some ad117) t107.length co10) (.slice (some ad118) t110.length co12) (.slice (some ad119) t113.length co13) (w'.cell? (ad117.add (x5_1).toNat) = some (.int .i64 (rd t107 x5_1)) ∧ w'.cell? (ad118.add (x6_2).toNat) = some (.int .i64 (rd t110 x6_2)) ∧ w'.cell? (ad119.add (x7_3).toNat) = some (.int .i64 (rd t113 x7_3)))) (ds := []) (tf 0 19) (by kernel_rfl) rfl rfl ⟨z0 _ BK116.out, z1 _ BK116.out, z2 _ BK116.out, hx117_0, hx118_0, hx119_0⟩ (fun hHeld => ?_); refine with_tabW spec_l5Cells.tab12 spec_l5Cells.bits12 (fun HT_ HW_ => ?_)
                generalize wr.drew = w37 at HO_3 HO_117000 HO_117001 HO_117002 BK116 HB hx117_0 hx118_0 hx119_0 hHeld ⊢
                refine pv HT_ 0 34 (tf 1 18) ?_
                refine pv HT_ 1 35 (tf 2 17) ?_
                refine pv HT_ 3 37 (tr [2, 1, 1, 15]) ?_
                refine pv HT_ 6 40 (tr [2, 1, 1, 2, 1, 12]) ?_
                refine pv HT_ 8 42 (tr [2, 1, 1, 2, 1, 1, 1, 10]) ?_
                refine pv HT_ 11 45 (tr [2, 1, 1, 2, 1, 1, 1, 2, 1, 7]) ?_
                refine pv HT_ 13 47 (tr [2, 1, 1, 2, 1, 1, 1, 2, 1, 1, 1, 5]) ?_
                refine tk 2 (some 36) (tr [4, 2, 1, 1, 1, 2, 1, 1, 1, 5]) (take_ofW HT_.out HW_.out (by kernel_rfl)) hHeld ?_
                refine pv HT_ 4 38 (tr [5, 1, 1, 1, 1, 2, 1, 1, 1, 5]) ?_
                refine tk 5 (some 39) (tr [7, 1, 1, 2, 1, 1, 1, 5]) (take_ofW HT_.out HW_.out (by kernel_rfl)) hHeld ?_
                refine tk 7 (some 41) (tr [9, 2, 1, 1, 1, 5]) (take_ofW HT_.out HW_.out (by kernel_rfl)) hHeld ?_
                refine pv HT_ 9 43 (tr [10, 1, 1, 1, 1, 5]) ?_
                refine tk 10 (some 44) (tr [12, 1, 1, 5]) (take_ofW HT_.out HW_.out (by kernel_rfl)) hHeld ?_
                refine tk 12 (some 46) (tf 14 5) (take_ofW HT_.out HW_.out (by kernel_rfl)) hHeld ?_
                refine pv HT_ 14 48 (tf 15 4) ?_
                refine tk 15 (some 49) (tf 16 3) (take_ofW HT_.out HW_.out (by kernel_rfl)) hHeld ?_
                refine pv HT_ 16 50 (tf 17 2) ?_
                refine one_ (i := 17) (N := some 51) (tf 18 1) rfl rfl (one_of HT_.out (by kernel_rfl)) (by decide) (fun K hK => ?_)
                refine goes_ Try.func84 (by kernel_rfl) rfl #[.slice A0 l0.length c0, .agg #[.int .i64 (rd t107 x5_1), .int .i64 (rd t110 x6_2), .int .i64 (rd t113 x7_3)]] (by rfl) rfl rfl MT ?_
                with_reducible refine (spec_l4First.calls k3 _ _ l0 (rd t107 x5_1) (rd t110 x6_2) (rd t113 x7_3) t120 _ ?side1 ?side2 A24.out).mono ?_
                (case side1 => exact KD HR0 HB)
                (case side2 => exact HC0.out)
                rintro e w38 ⟨rfl, hb⟩
                have HS3_ := (hb.cell (World.block_lt_of_cell? _ _ (hHeld.2.2.2.1))).trans (hHeld.2.2.2.1)
                have HS4_ := (hb.cell (World.block_lt_of_cell? _ _ (hHeld.2.2.2.2.1))).trans (hHeld.2.2.2.2.1)
                have HS5_ := (hb.cell (World.block_lt_of_cell? _ _ (hHeld.2.2.2.2.2))).trans (hHeld.2.2.2.2.2)
                refine ⟨_, rfl, ?_⟩
                replace HO_3 := am (Kd.R_below (KR HO_3) hb)
                replace HO_117000 := am (Kd.V_below (by (with_reducible repeat (first | apply Kd.V_alloc | apply Kd.V_drewN | apply Kd.V_drew)); exact HO_117000.out) hb)
                replace HO_117001 := am (Kd.V_below (by (with_reducible repeat (first | apply Kd.V_alloc | apply Kd.V_drewN | apply Kd.V_drew)); exact HO_117001.out) hb)
                replace HO_117002 := am (Kd.V_below (by (with_reducible repeat (first | apply Kd.V_alloc | apply Kd.V_drewN | apply Kd.V_drew)); exact HO_117002.out) hb)
                replace BK116 := am (BB BK116 hb)
                replace HB := am (below_step (K1 HB GE116.out) hb)
                (try clear hb)
                (try clear hb2)
                (try clear hk)
                (try clear hi)
                refine hK.out _ _ ⟨z0 _ BK116.out, z1 _ BK116.out, z2 _ BK116.out, HS3_, HS4_, HS5_⟩ (fun hHeld => ?_)
                clear hK K
                refine norm_ (a' := ?_) ?_ ?_
                rotate_left
                ·show Act.put _ (some 51) _ = _
                 simp only [Act.put, List.setIfInBounds_toArray, List.set_cons_zero, List.set_cons_succ, i64_w, i32_w]
                 rfl
                refine pv HT_ 18 8 (tf 19 0) ?_
                refine done_ (done_of HT_.out (by kernel_rfl)) ?_
                try go_wp2
                go_roundg k3
                case measure => have := HK1.out; have := HK2.out; have := HK3.out; omega
                case rel => exact ⟨(x3_3), (wrap64 (x7_3 + 1)), (by first | rfl | (simp; done) | (simp [*]; done)), H', ⟨by have := HK1.out; have := HK2.out; have := HK3.out; omega⟩, ⟨KR HO_3⟩, ⟨by (with_reducible repeat (first | apply Kd.V_alloc | apply Kd.V_drewN | apply Kd.V_drew)); exact HO_117000.out⟩, ⟨by (with_reducible repeat (first | apply Kd.V_alloc | apply Kd.V_drewN | apply Kd.V_drew)); exact HO_117001.out⟩, ⟨by (with_reducible repeat (first | apply Kd.V_alloc | apply Kd.V_drewN | apply Kd.V_drew)); exact HO_117002.out⟩, ⟨KB BK116⟩, ⟨K1 HB GE116.out⟩⟩
              ·rw [if_neg c23] at H
               exact absurd H (by simp)
             ·rw [if_neg c22] at H
              exact absurd H (by simp)
            ·rw [if_neg c21] at H
             exact absurd H (by simp)
           ·rw [if_neg c20] at H
            exact absurd H (by simp)
          ·rw [if_neg c19] at H
           exact absurd H (by simp)
         ·rw [if_neg c18] at H
          have c18b0 : decide (x7_3 < (t113.length : Int)) = false := decide_eq_false c18
          clear c18
          have H' := Aside0.mk H
          clear H
          obtain ⟨hcz39_0, hcz39_1, hcz39_2, hfz39_0⟩ := y3 wr BK116.out
          go_wp2
          go_roundg k3
          case measure => have := HK1.out; have := HK2.out; have := HK3.out; omega
          case rel => exact ⟨(x3_3), (wrap64 (x6_2 + 1)), (by first | rfl | (simp; done) | (simp [*]; done)), H', ⟨by have := HK1.out; have := HK2.out; have := HK3.out; omega⟩, ⟨KR HO_3⟩, ⟨by (with_reducible repeat (first | apply Kd.V_alloc | apply Kd.V_drewN | apply Kd.V_drew)); exact HO_117000.out⟩, ⟨by (with_reducible repeat (first | apply Kd.V_alloc | apply Kd.V_drewN | apply Kd.V_drew)); exact HO_117001.out⟩, ⟨by (with_reducible repeat (first | apply Kd.V_alloc | apply Kd.V_drewN | apply Kd.V_drew)); exact HO_117002.out⟩, ⟨KB BK116⟩, ⟨K1 HB GE116.out⟩⟩
      ·rw [if_neg c16] at H
       have c16b0 : decide (x6_2 < (t110.length : Int)) = false := decide_eq_false c16
       clear c16
       have H' := Aside0.mk H
       clear H
       obtain ⟨hcz40_0, hcz40_1, hcz40_2, hfz40_0⟩ := y3 wr BK116.out
       go_wp2
       go_roundg k2
       case measure => have := HK1.out; have := HK2.out; omega
       case rel => exact ⟨(x3_2), (wrap64 (x5_1 + 1)), (by first | rfl | (simp; done) | (simp [*]; done)), H', ⟨by have := HK1.out; have := HK2.out; omega⟩, ⟨KR HO_3⟩, ⟨by (with_reducible repeat (first | apply Kd.V_alloc | apply Kd.V_drewN | apply Kd.V_drew)); exact HO_117000.out⟩, ⟨by (with_reducible repeat (first | apply Kd.V_alloc | apply Kd.V_drewN | apply Kd.V_drew)); exact HO_117001.out⟩, ⟨by (with_reducible repeat (first | apply Kd.V_alloc | apply Kd.V_drewN | apply Kd.V_drew)); exact HO_117002.out⟩, ⟨KB BK116⟩, ⟨K1 HB GE116.out⟩⟩
   ·rw [if_neg c14] at H
    have c14b0 : decide (x5_1 < (t107.length : Int)) = false := decide_eq_false c14
    clear c14
    obtain rfl := Option.some.inj H
    obtain ⟨hcz41_0, hcz41_1, hcz41_2, hfz41_0⟩ := y3 wr BK116.out
    go_wp2
    go_ret
    exact ⟨_, ER, by (with_reducible repeat (first | apply Kd.R_alloc | apply Kd.R_drewN | apply Kd.R_drew)); exact HO_3.out, K1 HB GE116.out⟩
def spec_BlockOk.f (k : Nat) (a0_0 : Int) (a0_1 : Int) : Option (Bool) := (spec_l1Addr.f a0_0).bind fun t102 => (if t102 = true then ((spec_l1In.f a0_1 0 32).bind fun t103 => (if t103 = true then ((spec_l1Size.f k a0_1).bind fun t104 => (if t104 = 0 then (none) else (some ((Int.tmod a0_0 t104) == 0)))) else (some false))) else (some false))
set_option maxHeartbeats 8000000 in
set_option maxRecDepth 100000 in
theorem spec_BlockOk.calls (k : Nat) (a0_0 : Int) (a0_1 : Int) (r : Bool) (w : World) (h : spec_BlockOk.f k a0_0 a0_1 = some r) :
  Calls Try.prog 70 #[.agg #[.int .i64 a0_0, .int .i64 a0_1]] w fun e w' => e = .returned (.bool r) ∧ Below w.heap.size w w' := by
 have hu43 := Try.underlying43
 have HB := am (Below.refl w.heap.size w)
 have H : ((spec_l1Addr.f a0_0).bind fun t102 => (if t102 = true then ((spec_l1In.f a0_1 0 32).bind fun t103 => (if t103 = true then ((spec_l1Size.f k a0_1).bind fun t104 => (if t104 = 0 then (none) else (some ((Int.tmod a0_0 t104) == 0)))) else (some false))) else (some false))) = some r := h
 clear h
 replace H := Option.bind_eq_some_iff.mp H
 obtain ⟨t102, A20, H⟩ := H
 replace H : (if t102 = true then ((spec_l1In.f a0_1 0 32).bind fun t103 => (if t103 = true then ((spec_l1Size.f k a0_1).bind fun t104 => (if t104 = 0 then (none) else (some ((Int.tmod a0_0 t104) == 0)))) else (some false))) else (some false)) = some r := H
 have A2 := Aside0.mk A20
 clear A20
 by_cases c3 : t102 = true
 ·subst c3
  have H1 : ((spec_l1In.f a0_1 0 32).bind fun t103 => (if t103 = true then ((spec_l1Size.f k a0_1).bind fun t104 => (if t104 = 0 then (none) else (some ((Int.tmod a0_0 t104) == 0)))) else (some false))) = some r := by rw [if_pos rfl] at H; exact H
  clear H
  have H := H1
  clear H1
  replace H := Option.bind_eq_some_iff.mp H
  obtain ⟨t103, A40, H⟩ := H
  replace H : (if t103 = true then ((spec_l1Size.f k a0_1).bind fun t104 => (if t104 = 0 then (none) else (some ((Int.tmod a0_0 t104) == 0)))) else (some false)) = some r := H
  have A4 := Aside0.mk A40
  clear A40
  by_cases c5 : t103 = true
  ·subst c5
   have H1 : ((spec_l1Size.f k a0_1).bind fun t104 => (if t104 = 0 then (none) else (some ((Int.tmod a0_0 t104) == 0)))) = some r := by rw [if_pos rfl] at H; exact H
   clear H
   have H := H1
   clear H1
   replace H := Option.bind_eq_some_iff.mp H
   obtain ⟨t104, A60, H⟩ := H
   replace H : (if t104 = 0 then (none) else (some ((Int.tmod a0_0 t104) == 0))) = some r := H
   have A6 := Aside0.mk A60
   clear A60
   by_cases c7 : t104 = 0
   ·rw [if_pos c7] at H
    exact absurd H (by simp)
   ·rw [if_neg c7] at H
    have c7b0 : (t104 == 0) = false := beq_eq_false_iff_ne.mpr c7
    have c7b1 : (t104 != 0) = true := bne_iff_ne.mpr c7
    obtain rfl := Option.some.inj H
    go_enter Try.func70, Try.ntmps70
    go_wp2_with (first | ((with_reducible refine gate_dst (N := 1) rfl ?_); refine box_event rfl (N := 1) rfl (cs := #[.int .i64 a0_0, .int .i64 a0_1]) (t := 43) BX ?_; intro gb101 hg w8 hbox hb; have BK101 := am (hbox); have GW101 := am (GH HB hg); have GE101 := GW101; replace HB := am (below_step (KL HB) hb); clear hb hbox hg; obtain ⟨hcz9_0, hcz9_1, hfz9_0⟩ := y2 w8 BK101.out) | (go_at_call 117; (with_reducible refine (spec_l1Addr.calls a0_0 true _ A2.out).mono ?_); rintro e w' ⟨rfl, ⟨nd, rfl⟩⟩; (try first | exact ⟨rfl, _, World.drewN_drewN _ _ _⟩ | exact ⟨rfl, _, Eq.trans (World.drewN_drewN _ _ _) (congrArg (World.drewN _) (Nat.add_assoc _ _ _))⟩)) | (go_at_call 71; (with_reducible refine (spec_l1In.calls a0_1 0 32 true _ A4.out).mono ?_); rintro e w' ⟨rfl, ⟨nd, rfl⟩⟩; (try first | exact ⟨rfl, _, World.drewN_drewN _ _ _⟩ | exact ⟨rfl, _, Eq.trans (World.drewN_drewN _ _ _) (congrArg (World.drewN _) (Nat.add_assoc _ _ _))⟩)) | (go_at_call 118; (with_reducible refine (spec_l1Size.calls k a0_1 t104 _ A6.out).mono ?_); rintro e w' ⟨rfl, ⟨nd, rfl⟩⟩; (try first | exact ⟨rfl, _, World.drewN_drewN _ _ _⟩ | exact ⟨rfl, _, Eq.trans (World.drewN_drewN _ _ _) (congrArg (World.drewN _) (Nat.add_assoc _ _ _))⟩)))
    repeat (go_quiet (first | ((with_reducible refine gate_dst (N := 1) rfl ?_); refine box_event rfl (N := 1) rfl (cs := #[.int .i64 a0_0, .int .i64 a0_1]) (t := 43) BX ?_; intro gb101 hg w8 hbox hb; have BK101 := am (hbox); have GW101 := am (GH HB hg); have GE101 := GW101; replace HB := am (below_step (KL HB) hb); clear hb hbox hg; obtain ⟨hcz9_0, hcz9_1, hfz9_0⟩ := y2 w8 BK101.out) | (go_at_call 117; (with_reducible refine (spec_l1Addr.calls a0_0 true _ A2.out).mono ?_); rintro e w' ⟨rfl, ⟨nd, rfl⟩⟩; (try first | exact ⟨rfl, _, World.drewN_drewN _ _ _⟩ | exact ⟨rfl, _, Eq.trans (World.drewN_drewN _ _ _) (congrArg (World.drewN _) (Nat.add_assoc _ _ _))⟩)) | (go_at_call 71; (with_reducible refine (spec_l1In.calls a0_1 0 32 true _ A4.out).mono ?_); rintro e w' ⟨rfl, ⟨nd, rfl⟩⟩; (try first | exact ⟨rfl, _, World.drewN_drewN _ _ _⟩ | exact ⟨rfl, _, Eq.trans (World.drewN_drewN _ _ _) (congrArg (World.drewN _) (Nat.add_assoc _ _ _))⟩)) | (go_at_call 118; (with_reducible refine (spec_l1Size.calls k a0_1 t104 _ A6.out).mono ?_); rintro e w' ⟨rfl, ⟨nd, rfl⟩⟩; (try first | exact ⟨rfl, _, World.drewN_drewN _ _ _⟩ | exact ⟨rfl, _, Eq.trans (World.drewN_drewN _ _ _) (congrArg (World.drewN _) (Nat.add_assoc _ _ _))⟩))); try go_wp2_with (first | ((with_reducible refine gate_dst (N := 1) rfl ?_); refine box_event rfl (N := 1) rfl (cs := #[.int .i64 a0_0, .int .i64 a0_1]) (t := 43) BX ?_; intro gb101 hg w8 hbox hb; have BK101 := am (hbox); have GW101 := am (GH HB hg); have GE101 := GW101; replace HB := am (below_step (KL HB) hb); clear hb hbox hg; obtain ⟨hcz9_0, hcz9_1, hfz9_0⟩ := y2 w8 BK101.out) | (go_at_call 117; (with_reducible refine (spec_l1Addr.calls a0_0 true _ A2.out).mono ?_); rintro e w' ⟨rfl, ⟨nd, rfl⟩⟩; (try first | exact ⟨rfl, _, World.drewN_drewN _ _ _⟩ | exact ⟨rfl, _, Eq.trans (World.drewN_drewN _ _ _) (congrArg (World.drewN _) (Nat.add_assoc _ _ _))⟩)) | (go_at_call 71; (with_reducible refine (spec_l1In.calls a0_1 0 32 true _ A4.out).mono ?_); rintro e w' ⟨rfl, ⟨nd, rfl⟩⟩; (try first | exact ⟨rfl, _, World.drewN_drewN _ _ _⟩ | exact ⟨rfl, _, Eq.trans (World.drewN_drewN _ _ _) (congrArg (World.drewN _) (Nat.add_assoc _ _ _))⟩)) | (go_at_call 118; (with_reducible refine (spec_l1Size.calls k a0_1 t104 _ A6.out).mono ?_); rintro e w' ⟨rfl, ⟨nd, rfl⟩⟩; (try first | exact ⟨rfl, _, World.drewN_drewN _ _ _⟩ | exact ⟨rfl, _, Eq.trans (World.drewN_drewN _ _ _) (congrArg (World.drewN _) (Nat.add_assoc _ _ _))⟩))))
    go_ret
    exact ⟨ER, K1 HB GE101.out⟩
  ·replace c5 := Bool.eq_false_iff.mpr c5
   subst c5
   have H1 : (some false) = some r := by rw [if_neg (show ¬ (false = true) by decide)] at H; exact H
   clear H
   have H := H1
   clear H1
   obtain rfl := Option.some.inj H
   go_enter Try.func70, Try.ntmps70
   go_wp2_with (first | ((with_reducible refine gate_dst (N := 1) rfl ?_); refine box_event rfl (N := 1) rfl (cs := #[.int .i64 a0_0, .int .i64 a0_1]) (t := 43) BX ?_; intro gb101 hg w10 hbox hb; have BK101 := am (hbox); have GW101 := am (GH HB hg); have GE101 := GW101; replace HB := am (below_step (KL HB) hb); clear hb hbox hg; obtain ⟨hcz11_0, hcz11_1, hfz11_0⟩ := y2 w10 BK101.out) | (go_at_call 117; (with_reducible refine (spec_l1Addr.calls a0_0 true _ A2.out).mono ?_); rintro e w' ⟨rfl, ⟨nd, rfl⟩⟩; (try first | exact ⟨rfl, _, World.drewN_drewN _ _ _⟩ | exact ⟨rfl, _, Eq.trans (World.drewN_drewN _ _ _) (congrArg (World.drewN _) (Nat.add_assoc _ _ _))⟩)) | (go_at_call 71; (with_reducible refine (spec_l1In.calls a0_1 0 32 false _ A4.out).mono ?_); rintro e w' ⟨rfl, ⟨nd, rfl⟩⟩; (try first | exact ⟨rfl, _, World.drewN_drewN _ _ _⟩ | exact ⟨rfl, _, Eq.trans (World.drewN_drewN _ _ _) (congrArg (World.drewN _) (Nat.add_assoc _ _ _))⟩)))
   repeat (go_quiet (first | ((with_reducible refine gate_dst (N := 1) rfl ?_); refine box_event rfl (N := 1) rfl (cs := #[.int .i64 a0_0, .int .i64 a0_1]) (t := 43) BX ?_; intro gb101 hg w10 hbox hb; have BK101 := am (hbox); have GW101 := am (GH HB hg); have GE101 := GW101; replace HB := am (below_step (KL HB) hb); clear hb hbox hg; obtain ⟨hcz11_0, hcz11_1, hfz11_0⟩ := y2 w10 BK101.out) | (go_at_call 117; (with_reducible refine (spec_l1Addr.calls a0_0 true _ A2.out).mono ?_); rintro e w' ⟨rfl, ⟨nd, rfl⟩⟩; (try first | exact ⟨rfl, _, World.drewN_drewN _ _ _⟩ | exact ⟨rfl, _, Eq.trans (World.drewN_drewN _ _ _) (congrArg (World.drewN _) (Nat.add_assoc _ _ _))⟩)) | (go_at_call 71; (with_reducible refine (spec_l1In.calls a0_1 0 32 false _ A4.out).mono ?_); rintro e w' ⟨rfl, ⟨nd, rfl⟩⟩; (try first | exact ⟨rfl, _, World.drewN_drewN _ _ _⟩ | exact ⟨rfl, _, Eq.trans (World.drewN_drewN _ _ _) (congrArg (World.drewN _) (Nat.add_assoc _ _ _))⟩))); try go_wp2_with (first | ((with_reducible refine gate_dst (N := 1) rfl ?_); refine box_event rfl (N := 1) rfl (cs := #[.int .i64 a0_0, .int .i64 a0_1]) (t := 43) BX ?_; intro gb101 hg w10 hbox hb; have BK101 := am (hbox); have GW101 := am (GH HB hg); have GE101 := GW101; replace HB := am (below_step (KL HB) hb); clear hb hbox hg; obtain ⟨hcz11_0, hcz11_1, hfz11_0⟩ := y2 w10 BK101.out) | (go_at_call 117; (with_reducible refine (spec_l1Addr.calls a0_0 true _ A2.out).mono ?_); rintro e w' ⟨rfl, ⟨nd, rfl⟩⟩; (try first | exact ⟨rfl, _, World.drewN_drewN _ _ _⟩ | exact ⟨rfl, _, Eq.trans (World.drewN_drewN _ _ _) (congrArg (World.drewN _) (Nat.add_assoc _ _ _))⟩)) | (go_at_call 71; (with_reducible refine (spec_l1In.calls a0_1 0 32 false _ A4.out).mono ?_); rintro e w' ⟨rfl, ⟨nd, rfl⟩⟩; (try first | exact ⟨rfl, _, World.drewN_drewN _ _ _⟩ | exact ⟨rfl, _, Eq.trans (World.drewN_drewN _ _ _) (congrArg (World.drewN _) (Nat.add_assoc _ _ _))⟩))))
   go_ret
   exact ⟨ER, K1 HB GE101.out⟩
 ·replace c3 := Bool.eq_false_iff.mpr c3
  subst c3
  have H1 : (some false) = some r := by rw [if_neg (show ¬ (false = true) by decide)] at H; exact H
  clear H
  have H := H1
  clear H1
  obtain rfl := Option.some.inj H
  go_enter Try.func70, Try.ntmps70
  go_wp2_with (first | ((with_reducible refine gate_dst (N := 1) rfl ?_); refine box_event rfl (N := 1) rfl (cs := #[.int .i64 a0_0, .int .i64 a0_1]) (t := 43) BX ?_; intro gb101 hg w12 hbox hb; have BK101 := am (hbox); have GW101 := am (GH HB hg); have GE101 := GW101; replace HB := am (below_step (KL HB) hb); clear hb hbox hg; obtain ⟨hcz13_0, hcz13_1, hfz13_0⟩ := y2 w12 BK101.out) | (go_at_call 117; (with_reducible refine (spec_l1Addr.calls a0_0 false _ A2.out).mono ?_); rintro e w' ⟨rfl, ⟨nd, rfl⟩⟩; (try first | exact ⟨rfl, _, World.drewN_drewN _ _ _⟩ | exact ⟨rfl, _, Eq.trans (World.drewN_drewN _ _ _) (congrArg (World.drewN _) (Nat.add_assoc _ _ _))⟩)))
  repeat (go_quiet (first | ((with_reducible refine gate_dst (N := 1) rfl ?_); refine box_event rfl (N := 1) rfl (cs := #[.int .i64 a0_0, .int .i64 a0_1]) (t := 43) BX ?_; intro gb101 hg w12 hbox hb; have BK101 := am (hbox); have GW101 := am (GH HB hg); have GE101 := GW101; replace HB := am (below_step (KL HB) hb); clear hb hbox hg; obtain ⟨hcz13_0, hcz13_1, hfz13_0⟩ := y2 w12 BK101.out) | (go_at_call 117; (with_reducible refine (spec_l1Addr.calls a0_0 false _ A2.out).mono ?_); rintro e w' ⟨rfl, ⟨nd, rfl⟩⟩; (try first | exact ⟨rfl, _, World.drewN_drewN _ _ _⟩ | exact ⟨rfl, _, Eq.trans (World.drewN_drewN _ _ _) (congrArg (World.drewN _) (Nat.add_assoc _ _ _))⟩))); try go_wp2_with (first | ((with_reducible refine gate_dst (N := 1) rfl ?_); refine box_event rfl (N := 1) rfl (cs := #[.int .i64 a0_0, .int .i64 a0_1]) (t := 43) BX ?_; intro gb101 hg w12 hbox hb; have BK101 := am (hbox); have GW101 := am (GH HB hg); have GE101 := GW101; replace HB := am (below_step (KL HB) hb); clear hb hbox hg; obtain ⟨hcz13_0, hcz13_1, hfz13_0⟩ := y2 w12 BK101.out) | (go_at_call 117; (with_reducible refine (spec_l1Addr.calls a0_0 false _ A2.out).mono ?_); rintro e w' ⟨rfl, ⟨nd, rfl⟩⟩; (try first | exact ⟨rfl, _, World.drewN_drewN _ _ _⟩ | exact ⟨rfl, _, Eq.trans (World.drewN_drewN _ _ _) (congrArg (World.drewN _) (Nat.add_assoc _ _ _))⟩))))
  go_ret
  exact ⟨ER, K1 HB GE101.out⟩
def spec_l4Ok.j0 : Nat → Bool → Int → Int → Int → Int → Int → Int → Int → Int → Option (Bool)
 | 0, _, _, _, _, _, _, _, _, _ => none
 | k + 1, x31, x102000, x102001, x102002, x102003, x102004, x102005, x102006, x102007 => if x31 = true then (some false) else (if x102000 = 2 then ((spec_l1In.f x102001 0 3).bind fun t106 => (some t106)) else (some (x102001 == 0)))
def spec_l4Ok.f (k : Nat) (a0_0 : Int) (a0_1 : Int) (a0_2 : Int) (a0_3 : Int) (a0_4 : Int) (a0_5 : Int) (a0_6 : Int) (a0_7 : Int) : Option (Bool) := (spec_BlockOk.f k a0_2 a0_3).bind fun t102 => (if t102 = true then ((spec_BlockOk.f k a0_4 a0_5).bind fun t103 => (if t103 = true then ((spec_l1In.f a0_6 0 a0_7).bind fun t104 => (if t104 = true then (if a0_7 > 65535 then (spec_l4Ok.j0 k true a0_0 a0_1 a0_2 a0_3 a0_4 a0_5 a0_6 a0_7) else ((spec_l1In.f a0_0 0 2).bind fun t105 => (spec_l4Ok.j0 k (!t105) a0_0 a0_1 a0_2 a0_3 a0_4 a0_5 a0_6 a0_7))) else (spec_l4Ok.j0 k true a0_0 a0_1 a0_2 a0_3 a0_4 a0_5 a0_6 a0_7))) else (spec_l4Ok.j0 k true a0_0 a0_1 a0_2 a0_3 a0_4 a0_5 a0_6 a0_7))) else (spec_l4Ok.j0 k true a0_0 a0_1 a0_2 a0_3 a0_4 a0_5 a0_6 a0_7))
set_option maxHeartbeats 8000000 in
set_option maxRecDepth 100000 in
theorem spec_l4Ok.calls (k : Nat) (a0_0 : Int) (a0_1 : Int) (a0_2 : Int) (a0_3 : Int) (a0_4 : Int) (a0_5 : Int) (a0_6 : Int) (a0_7 : Int) (r : Bool) (w : World) (h : spec_l4Ok.f k a0_0 a0_1 a0_2 a0_3 a0_4 a0_5 a0_6 a0_7 = some r) :
  Calls Try.prog 99 #[.agg #[.int .i64 a0_0, .int .i64 a0_1, .int .i64 a0_2, .int .i64 a0_3, .int .i64 a0_4, .int .i64 a0_5, .int .i64 a0_6, .int .i64 a0_7]] w fun e w' => e = .returned (.bool r) ∧ Below w.heap.size w w' := by
 have hu71 := Try.underlying71
 have hu43 := Try.underlying43
 have HB := am (Below.refl w.heap.size w)
 have H : ((spec_BlockOk.f k a0_2 a0_3).bind fun t102 => (if t102 = true then ((spec_BlockOk.f k a0_4 a0_5).bind fun t103 => (if t103 = true then ((spec_l1In.f a0_6 0 a0_7).bind fun t104 => (if t104 = true then (if a0_7 > 65535 then (spec_l4Ok.j0 k true a0_0 a0_1 a0_2 a0_3 a0_4 a0_5 a0_6 a0_7) else ((spec_l1In.f a0_0 0 2).bind fun t105 => (spec_l4Ok.j0 k (!t105) a0_0 a0_1 a0_2 a0_3 a0_4 a0_5 a0_6 a0_7))) else (spec_l4Ok.j0 k true a0_0 a0_1 a0_2 a0_3 a0_4 a0_5 a0_6 a0_7))) else (spec_l4Ok.j0 k true a0_0 a0_1 a0_2 a0_3 a0_4 a0_5 a0_6 a0_7))) else (spec_l4Ok.j0 k true a0_0 a0_1 a0_2 a0_3 a0_4 a0_5 a0_6 a0_7))) = some r := h
 clear h
 have HC2 := Aside0.mk H
 clear H
 go_enter Try.func99, Try.ntmps99
 go_upto_region 1 with (first | ((with_reducible refine gate_dst (N := 1) rfl ?_); refine box_event rfl (N := 1) rfl (cs := #[.int .i64 a0_0, .int .i64 a0_1, .int .i64 a0_2, .int .i64 a0_3, .int .i64 a0_4, .int .i64 a0_5, .int .i64 a0_6, .int .i64 a0_7]) (t := 71) BX ?_; intro gb101 hg w3 hbox hb; have BK101 := am (hbox); have GW101 := am (GH HB hg); have GE101 := GW101; replace HB := am (below_step (KL HB) hb); clear hb hbox hg))
 (try simp only [Act.put, List.setIfInBounds_toArray, List.set_cons_zero, List.set_cons_succ])
 go_cut [31] (fun v31 wc => ∃ (kq : Nat) (x31_1 : Bool), v31 = .bool x31_1 ∧ Aside0 (spec_l4Ok.j0 kq x31_1 a0_0 a0_1 a0_2 a0_3 a0_4 a0_5 a0_6 a0_7 = some r) ∧ Aside0 (kq ≤ k) ∧ Aside0 (wc.heap[gb101]? = some (.cells #[.int .i64 a0_0, .int .i64 a0_1, .int .i64 a0_2, .int .i64 a0_3, .int .i64 a0_4, .int .i64 a0_5, .int .i64 a0_6, .int .i64 a0_7] 71 (0, 0))) ∧ Aside0 (Below w.heap.size w wc))
 case first =>
  have H := HC2.out
  clear HC2
  replace H := Option.bind_eq_some_iff.mp H
  obtain ⟨t102, A40, H⟩ := H
  replace H : (if t102 = true then ((spec_BlockOk.f k a0_4 a0_5).bind fun t103 => (if t103 = true then ((spec_l1In.f a0_6 0 a0_7).bind fun t104 => (if t104 = true then (if a0_7 > 65535 then (spec_l4Ok.j0 k true a0_0 a0_1 a0_2 a0_3 a0_4 a0_5 a0_6 a0_7) else ((spec_l1In.f a0_0 0 2).bind fun t105 => (spec_l4Ok.j0 k (!t105) a0_0 a0_1 a0_2 a0_3 a0_4 a0_5 a0_6 a0_7))) else (spec_l4Ok.j0 k true a0_0 a0_1 a0_2 a0_3 a0_4 a0_5 a0_6 a0_7))) else (spec_l4Ok.j0 k true a0_0 a0_1 a0_2 a0_3 a0_4 a0_5 a0_6 a0_7))) else (spec_l4Ok.j0 k true a0_0 a0_1 a0_2 a0_3 a0_4 a0_5 a0_6 a0_7)) = some r := H
  have A4 := Aside0.mk A40
  clear A40
  by_cases c5 : t102 = true
  ·subst c5
   have H1 : ((spec_BlockOk.f k a0_4 a0_5).bind fun t103 => (if t103 = true then ((spec_l1In.f a0_6 0 a0_7).bind fun t104 => (if t104 = true then (if a0_7 > 65535 then (spec_l4Ok.j0 k true a0_0 a0_1 a0_2 a0_3 a0_4 a0_5 a0_6 a0_7) else ((spec_l1In.f a0_0 0 2).bind fun t105 => (spec_l4Ok.j0 k (!t105) a0_0 a0_1 a0_2 a0_3 a0_4 a0_5 a0_6 a0_7))) else (spec_l4Ok.j0 k true a0_0 a0_1 a0_2 a0_3 a0_4 a0_5 a0_6 a0_7))) else (spec_l4Ok.j0 k true a0_0 a0_1 a0_2 a0_3 a0_4 a0_5 a0_6 a0_7))) = some r := by rw [if_pos rfl] at H; exact H
   clear H
   have H := H1
   clear H1
   replace H := Option.bind_eq_some_iff.mp H
   obtain ⟨t103, A60, H⟩ := H
   replace H : (if t103 = true then ((spec_l1In.f a0_6 0 a0_7).bind fun t104 => (if t104 = true then (if a0_7 > 65535 then (spec_l4Ok.j0 k true a0_0 a0_1 a0_2 a0_3 a0_4 a0_5 a0_6 a0_7) else ((spec_l1In.f a0_0 0 2).bind fun t105 => (spec_l4Ok.j0 k (!t105) a0_0 a0_1 a0_2 a0_3 a0_4 a0_5 a0_6 a0_7))) else (spec_l4Ok.j0 k true a0_0 a0_1 a0_2 a0_3 a0_4 a0_5 a0_6 a0_7))) else (spec_l4Ok.j0 k true a0_0 a0_1 a0_2 a0_3 a0_4 a0_5 a0_6 a0_7)) = some r := H
   have A6 := Aside0.mk A60
   clear A60
   by_cases c7 : t103 = true
   ·subst c7
    have H1 : ((spec_l1In.f a0_6 0 a0_7).bind fun t104 => (if t104 = true then (if a0_7 > 65535 then (spec_l4Ok.j0 k true a0_0 a0_1 a0_2 a0_3 a0_4 a0_5 a0_6 a0_7) else ((spec_l1In.f a0_0 0 2).bind fun t105 => (spec_l4Ok.j0 k (!t105) a0_0 a0_1 a0_2 a0_3 a0_4 a0_5 a0_6 a0_7))) else (spec_l4Ok.j0 k true a0_0 a0_1 a0_2 a0_3 a0_4 a0_5 a0_6 a0_7))) = some r := by rw [if_pos rfl] at H; exact H
    clear H
    have H := H1
    clear H1
    replace H := Option.bind_eq_some_iff.mp H
    obtain ⟨t104, A80, H⟩ := H
    replace H : (if t104 = true then (if a0_7 > 65535 then (spec_l4Ok.j0 k true a0_0 a0_1 a0_2 a0_3 a0_4 a0_5 a0_6 a0_7) else ((spec_l1In.f a0_0 0 2).bind fun t105 => (spec_l4Ok.j0 k (!t105) a0_0 a0_1 a0_2 a0_3 a0_4 a0_5 a0_6 a0_7))) else (spec_l4Ok.j0 k true a0_0 a0_1 a0_2 a0_3 a0_4 a0_5 a0_6 a0_7)) = some r := H
    have A8 := Aside0.mk A80
    clear A80
    by_cases c9 : t104 = true
    ·subst c9
     have H1 : (if a0_7 > 65535 then (spec_l4Ok.j0 k true a0_0 a0_1 a0_2 a0_3 a0_4 a0_5 a0_6 a0_7) else ((spec_l1In.f a0_0 0 2).bind fun t105 => (spec_l4Ok.j0 k (!t105) a0_0 a0_1 a0_2 a0_3 a0_4 a0_5 a0_6 a0_7))) = some r := by rw [if_pos rfl] at H; exact H
     clear H
     have H := H1
     clear H1
     by_cases c10 : a0_7 > 65535
     ·rw [if_pos c10] at H
      have c10b0 : decide (65535 < a0_7) = true := decide_eq_true c10
      clear c10
      (first | rw [c10b0] | (simp only [i64_w, i32_w]; rw [c10b0]) | skip)
      have H' := Aside0.mk H
      clear H
      obtain ⟨hcz11_0, hcz11_1, hcz11_2, hcz11_3, hcz11_4, hcz11_5, hcz11_6, hcz11_7, hfz11_0⟩ := y8 w3 BK101.out
      go_wp2_with (first | ((with_reducible refine gate_callee (f := 70) rfl ?_); refine goesL_ (some 5) rfl rfl Try.func70 (by kernel_rfl) rfl #[.agg #[.int .i64 a0_2, .int .i64 a0_3]] rfl MT ?_; (with_reducible refine (spec_BlockOk.calls k a0_2 a0_3 true _ A4.out).mono ?_); rintro e w12 ⟨rfl, hb⟩; refine ⟨_, rfl, ?_⟩; replace BK101 := am (BB BK101 hb); replace HB := am (below_step (K1 HB GE101.out) hb); (try clear hb); obtain ⟨hcz13_0, hcz13_1, hcz13_2, hcz13_3, hcz13_4, hcz13_5, hcz13_6, hcz13_7, hfz13_0⟩ := y8 w12 BK101.out) | (go_at_call 70; (with_reducible refine (spec_BlockOk.calls k a0_4 a0_5 true _ A6.out).mono ?_); rintro e w14 ⟨rfl, hb⟩; replace BK101 := am (BB BK101 hb); replace HB := am (below_step (K1 HB GE101.out) hb); (try clear hb); obtain ⟨hcz15_0, hcz15_1, hcz15_2, hcz15_3, hcz15_4, hcz15_5, hcz15_6, hcz15_7, hfz15_0⟩ := y8 w14 BK101.out) | (go_at_call 71; (with_reducible refine (spec_l1In.calls a0_6 0 a0_7 true _ A8.out).mono ?_); rintro e w' ⟨rfl, ⟨nd, rfl⟩⟩))
      go_meet
      case rel => exact ⟨_, (true), (by first | rfl | (simp; done) | (simp [*]; done)), H', ⟨by first | omega | exact Nat.le_refl _⟩, ⟨KB BK101⟩, ⟨K1 HB GE101.out⟩⟩
     ·rw [if_neg c10] at H
      have c10b0 : decide (65535 < a0_7) = false := decide_eq_false c10
      clear c10
      (first | rw [c10b0] | (simp only [i64_w, i32_w]; rw [c10b0]) | skip)
      replace H := Option.bind_eq_some_iff.mp H
      obtain ⟨t105, A160, H⟩ := H
      replace H : (spec_l4Ok.j0 k (!t105) a0_0 a0_1 a0_2 a0_3 a0_4 a0_5 a0_6 a0_7) = some r := H
      have A16 := Aside0.mk A160
      clear A160
      have H' := Aside0.mk H
      clear H
      obtain ⟨hcz17_0, hcz17_1, hcz17_2, hcz17_3, hcz17_4, hcz17_5, hcz17_6, hcz17_7, hfz17_0⟩ := y8 w3 BK101.out
      go_wp2_with (first | ((with_reducible refine gate_callee (f := 70) rfl ?_); refine goesL_ (some 5) rfl rfl Try.func70 (by kernel_rfl) rfl #[.agg #[.int .i64 a0_2, .int .i64 a0_3]] rfl MT ?_; (with_reducible refine (spec_BlockOk.calls k a0_2 a0_3 true _ A4.out).mono ?_); rintro e w18 ⟨rfl, hb⟩; refine ⟨_, rfl, ?_⟩; replace BK101 := am (BB BK101 hb); replace HB := am (below_step (K1 HB GE101.out) hb); (try clear hb); obtain ⟨hcz19_0, hcz19_1, hcz19_2, hcz19_3, hcz19_4, hcz19_5, hcz19_6, hcz19_7, hfz19_0⟩ := y8 w18 BK101.out) | (go_at_call 70; (with_reducible refine (spec_BlockOk.calls k a0_4 a0_5 true _ A6.out).mono ?_); rintro e w20 ⟨rfl, hb⟩; replace BK101 := am (BB BK101 hb); replace HB := am (below_step (K1 HB GE101.out) hb); (try clear hb); obtain ⟨hcz21_0, hcz21_1, hcz21_2, hcz21_3, hcz21_4, hcz21_5, hcz21_6, hcz21_7, hfz21_0⟩ := y8 w20 BK101.out) | (go_at_call 71; (with_reducible refine (spec_l1In.calls a0_6 0 a0_7 true _ A8.out).mono ?_); rintro e w' ⟨rfl, ⟨nd, rfl⟩⟩) | (go_at_call 71; (with_reducible refine (spec_l1In.calls a0_0 0 2 t105 _ A16.out).mono ?_); rintro e w' ⟨rfl, ⟨nd, rfl⟩⟩))
      go_meet
      case rel => exact ⟨_, (!t105), (by first | rfl | (simp; done) | (simp [*]; done)), H', ⟨by first | omega | exact Nat.le_refl _⟩, ⟨KB BK101⟩, ⟨K1 HB GE101.out⟩⟩
    ·replace c9 := Bool.eq_false_iff.mpr c9
     subst c9
     have H1 : (spec_l4Ok.j0 k true a0_0 a0_1 a0_2 a0_3 a0_4 a0_5 a0_6 a0_7) = some r := by rw [if_neg (show ¬ (false = true) by decide)] at H; exact H
     clear H
     have H := H1
     clear H1
     have H' := Aside0.mk H
     clear H
     obtain ⟨hcz22_0, hcz22_1, hcz22_2, hcz22_3, hcz22_4, hcz22_5, hcz22_6, hcz22_7, hfz22_0⟩ := y8 w3 BK101.out
     go_wp2_with (first | ((with_reducible refine gate_callee (f := 70) rfl ?_); refine goesL_ (some 5) rfl rfl Try.func70 (by kernel_rfl) rfl #[.agg #[.int .i64 a0_2, .int .i64 a0_3]] rfl MT ?_; (with_reducible refine (spec_BlockOk.calls k a0_2 a0_3 true _ A4.out).mono ?_); rintro e w23 ⟨rfl, hb⟩; refine ⟨_, rfl, ?_⟩; replace BK101 := am (BB BK101 hb); replace HB := am (below_step (K1 HB GE101.out) hb); (try clear hb); obtain ⟨hcz24_0, hcz24_1, hcz24_2, hcz24_3, hcz24_4, hcz24_5, hcz24_6, hcz24_7, hfz24_0⟩ := y8 w23 BK101.out) | (go_at_call 70; (with_reducible refine (spec_BlockOk.calls k a0_4 a0_5 true _ A6.out).mono ?_); rintro e w25 ⟨rfl, hb⟩; replace BK101 := am (BB BK101 hb); replace HB := am (below_step (K1 HB GE101.out) hb); (try clear hb); obtain ⟨hcz26_0, hcz26_1, hcz26_2, hcz26_3, hcz26_4, hcz26_5, hcz26_6, hcz26_7, hfz26_0⟩ := y8 w25 BK101.out) | (go_at_call 71; (with_reducible refine (spec_l1In.calls a0_6 0 a0_7 false _ A8.out).mono ?_); rintro e w' ⟨rfl, ⟨nd, rfl⟩⟩))
     go_meet
     case rel => exact ⟨_, (true), (by first | rfl | (simp; done) | (simp [*]; done)), H', ⟨by first | omega | exact Nat.le_refl _⟩, ⟨KB BK101⟩, ⟨K1 HB GE101.out⟩⟩
   ·replace c7 := Bool.eq_false_iff.mpr c7
    subst c7
    have H1 : (spec_l4Ok.j0 k true a0_0 a0_1 a0_2 a0_3 a0_4 a0_5 a0_6 a0_7) = some r := by rw [if_neg (show ¬ (false = true) by decide)] at H; exact H
    clear H
    have H := H1
    clear H1
    have H' := Aside0.mk H
    clear H
    obtain ⟨hcz27_0, hcz27_1, hcz27_2, hcz27_3, hcz27_4, hcz27_5, hcz27_6, hcz27_7, hfz27_0⟩ := y8 w3 BK101.out
    go_wp2_with (first | ((with_reducible refine gate_callee (f := 70) rfl ?_); refine goesL_ (some 5) rfl rfl Try.func70 (by kernel_rfl) rfl #[.agg #[.int .i64 a0_2, .int .i64 a0_3]] rfl MT ?_; (with_reducible refine (spec_BlockOk.calls k a0_2 a0_3 true _ A4.out).mono ?_); rintro e w28 ⟨rfl, hb⟩; refine ⟨_, rfl, ?_⟩; replace BK101 := am (BB BK101 hb); replace HB := am (below_step (K1 HB GE101.out) hb); (try clear hb); obtain ⟨hcz29_0, hcz29_1, hcz29_2, hcz29_3, hcz29_4, hcz29_5, hcz29_6, hcz29_7, hfz29_0⟩ := y8 w28 BK101.out) | (go_at_call 70; (with_reducible refine (spec_BlockOk.calls k a0_4 a0_5 false _ A6.out).mono ?_); rintro e w30 ⟨rfl, hb⟩; replace BK101 := am (BB BK101 hb); replace HB := am (below_step (K1 HB GE101.out) hb); (try clear hb)))
    go_meet
    case rel => exact ⟨_, (true), (by first | rfl | (simp; done) | (simp [*]; done)), H', ⟨by first | omega | exact Nat.le_refl _⟩, ⟨KB BK101⟩, ⟨K1 HB GE101.out⟩⟩
  ·replace c5 := Bool.eq_false_iff.mpr c5
   subst c5
   have H1 : (spec_l4Ok.j0 k true a0_0 a0_1 a0_2 a0_3 a0_4 a0_5 a0_6 a0_7) = some r := by rw [if_neg (show ¬ (false = true) by decide)] at H; exact H
   clear H
   have H := H1
   clear H1
   have H' := Aside0.mk H
   clear H
   obtain ⟨hcz31_0, hcz31_1, hcz31_2, hcz31_3, hcz31_4, hcz31_5, hcz31_6, hcz31_7, hfz31_0⟩ := y8 w3 BK101.out
   go_wp2_with (first | ((with_reducible refine gate_callee (f := 70) rfl ?_); refine goesL_ (some 5) rfl rfl Try.func70 (by kernel_rfl) rfl #[.agg #[.int .i64 a0_2, .int .i64 a0_3]] rfl MT ?_; (with_reducible refine (spec_BlockOk.calls k a0_2 a0_3 false _ A4.out).mono ?_); rintro e w32 ⟨rfl, hb⟩; refine ⟨_, rfl, ?_⟩; replace BK101 := am (BB BK101 hb); replace HB := am (below_step (K1 HB GE101.out) hb); (try clear hb)))
   go_meet
   case rel => exact ⟨_, (true), (by first | rfl | (simp; done) | (simp [*]; done)), H', ⟨by first | omega | exact Nat.le_refl _⟩, ⟨KB BK101⟩, ⟨K1 HB GE101.out⟩⟩
 case rest =>
  clear HC2
  try clear c1
  try clear p2
  try clear c5
  try clear c7
  try clear c9
  try clear c10
  try clear c10b0
  try clear hcz11_0 hcz11_1 hcz11_2 hcz11_3 hcz11_4 hcz11_5 hcz11_6 hcz11_7 hfz11_0
  try clear hcz13_0 hcz13_1 hcz13_2 hcz13_3 hcz13_4 hcz13_5 hcz13_6 hcz13_7 hfz13_0
  try clear hcz15_0 hcz15_1 hcz15_2 hcz15_3 hcz15_4 hcz15_5 hcz15_6 hcz15_7 hfz15_0
  try clear hcz17_0 hcz17_1 hcz17_2 hcz17_3 hcz17_4 hcz17_5 hcz17_6 hcz17_7 hfz17_0
  try clear hcz19_0 hcz19_1 hcz19_2 hcz19_3 hcz19_4 hcz19_5 hcz19_6 hcz19_7 hfz19_0
  try clear hcz21_0 hcz21_1 hcz21_2 hcz21_3 hcz21_4 hcz21_5 hcz21_6 hcz21_7 hfz21_0
  try clear hcz22_0 hcz22_1 hcz22_2 hcz22_3 hcz22_4 hcz22_5 hcz22_6 hcz22_7 hfz22_0
  try clear hcz24_0 hcz24_1 hcz24_2 hcz24_3 hcz24_4 hcz24_5 hcz24_6 hcz24_7 hfz24_0
  try clear hcz26_0 hcz26_1 hcz26_2 hcz26_3 hcz26_4 hcz26_5 hcz26_6 hcz26_7 hfz26_0
  try clear hcz27_0 hcz27_1 hcz27_2 hcz27_3 hcz27_4 hcz27_5 hcz27_6 hcz27_7 hfz27_0
  try clear hcz29_0 hcz29_1 hcz29_2 hcz29_3 hcz29_4 hcz29_5 hcz29_6 hcz29_7 hfz29_0
  try clear hcz31_0 hcz31_1 hcz31_2 hcz31_3 hcz31_4 hcz31_5 hcz31_6 hcz31_7 hfz31_0
  obtain ⟨kq, x31_1, rfl, HA, HJ1, BK101, HB⟩ := hcut
  cases kq with
  | zero => exact absurd HA.out (by simp [spec_l4Ok.j0])
  | succ kj1 =>
   have H := HA.out
   clear HA
   simp only [spec_l4Ok.j0] at H
   by_cases c33 : x31_1 = true
   ·subst c33
    have H1 : (some false) = some r := by rw [if_pos rfl] at H; exact H
    clear H
    have H := H1
    clear H1
    obtain rfl := Option.some.inj H
    go_wp2
    go_ret
    exact ⟨ER, K1 HB GE101.out⟩
   ·replace c33 := Bool.eq_false_iff.mpr c33
    subst c33
    have H1 : (if a0_0 = 2 then ((spec_l1In.f a0_1 0 3).bind fun t106 => (some t106)) else (some (a0_1 == 0))) = some r := by rw [if_neg (show ¬ (false = true) by decide)] at H; exact H
    clear H
    have H := H1
    clear H1
    by_cases c34 : a0_0 = 2
    ·rw [if_pos c34] at H
     have c34b0 : (a0_0 == 2) = true := beq_iff_eq.mpr c34
     have c34b1 : (a0_0 != 2) = false := bne_eq_false_iff_eq.mpr c34
     clear c34
     replace H := Option.bind_eq_some_iff.mp H
     obtain ⟨t106, A350, H⟩ := H
     replace H : (some t106) = some r := H
     have A35 := Aside0.mk A350
     clear A350
     obtain rfl := Option.some.inj H
     obtain ⟨hcz36_0, hcz36_1, hcz36_2, hcz36_3, hcz36_4, hcz36_5, hcz36_6, hcz36_7, hfz36_0⟩ := y8 wc BK101.out
     go_wp2_with (first | ((with_reducible refine gate_callee (f := 71) rfl ?_); refine goesL_ (some 37) rfl rfl Try.func71 (by kernel_rfl) rfl #[.int .i64 a0_1, .int .i64 0, .int .i64 3] rfl MT ?_; (with_reducible refine (spec_l1In.calls a0_1 0 3 t106 _ A35.out).mono ?_); rintro e w' ⟨rfl, ⟨nd, rfl⟩⟩; refine ⟨_, rfl, ?_⟩))
     go_ret
     exact ⟨ER, K1 HB GE101.out⟩
    ·rw [if_neg c34] at H
     have c34b0 : (a0_0 == 2) = false := beq_eq_false_iff_ne.mpr c34
     have c34b1 : (a0_0 != 2) = true := bne_iff_ne.mpr c34
     obtain rfl := Option.some.inj H
     obtain ⟨hcz37_0, hcz37_1, hcz37_2, hcz37_3, hcz37_4, hcz37_5, hcz37_6, hcz37_7, hfz37_0⟩ := y8 wc BK101.out
     go_wp2
     go_ret
     exact ⟨ER, K1 HB GE101.out⟩
def spec_RulesOk.l0 : Nat → List (S71) → Int → Option (Bool)
 | 0, _, _ => none
 | k + 1, x0, x3 => if x3 < (x0.length : Int) then (if 0 ≤ x3 then ((spec_l4Ok.f k ((rd_T71 x0 x3).f0) ((rd_T71 x0 x3).f1) ((rd_T71 x0 x3).f2.f0) ((rd_T71 x0 x3).f2.f1) ((rd_T71 x0 x3).f3.f0) ((rd_T71 x0 x3).f3.f1) ((rd_T71 x0 x3).f4) ((rd_T71 x0 x3).f5)).bind fun t102 => (if t102 = true then (spec_RulesOk.l0 k x0 (wrap64 (x3 + 1))) else (some false))) else (none)) else (some (decide ((x0.length : Int) ≤ 8)))
def spec_RulesOk.f (k : Nat) (l0 : List (S71)) : Option (Bool) := spec_RulesOk.l0 k l0 0
set_option maxHeartbeats 8000000 in
set_option maxRecDepth 100000 in
theorem spec_RulesOk.calls (k : Nat) (A0 : Option Addr) (c0 : Nat) (l0 : List (S71)) (r : Bool) (w : World) (hr0 : Kd.C k71 w A0 l0.length l0) (hc0 : l0.length ≤ c0) (h : spec_RulesOk.f k l0 = some r) :
  Calls Try.prog 44 #[.slice A0 l0.length c0] w fun e w' => e = .returned (.bool r) ∧ Below w.heap.size w w' := by
 have hu71 := Try.underlying71
 have HR0 := Aside0.mk hr0
 have HC0 := Aside0.mk hc0
 clear hr0 hc0
 have HB := am (Below.refl w.heap.size w)
 have H : (spec_RulesOk.l0 k l0 0) = some r := h
 clear h
 have H' := Aside0.mk H
 clear H
 go_enter Try.func44, Try.ntmps44
 go_wp2
 go_loopg [3] k (fun kq v3 w' => ∃ (x3_1 : Int), v3 = .int .i64 x3_1 ∧ Aside0 (spec_RulesOk.l0 kq l0 x3_1 = some r) ∧ Aside0 (kq ≤ k) ∧ Aside0 (Below w.heap.size w w'))
 case atStart => exact ⟨(0), (by first | rfl | (simp; done) | (simp [*]; done)), H', ⟨Nat.le_refl _⟩, ⟨KL HB⟩⟩
 case round =>
  clear H'
  obtain ⟨x3_1, rfl, HA, HK1, HB⟩ := hrel
  cases gk with
  | zero => exact absurd HA.out (by simp [spec_RulesOk.l0])
  | succ k1 =>
   have H := HA.out
   clear HA
   simp only [spec_RulesOk.l0] at H
   by_cases c2 : x3_1 < (l0.length : Int)
   ·rw [if_pos c2] at H
    have c2b0 : decide (x3_1 < (l0.length : Int)) = true := decide_eq_true c2
    clear c2
    by_cases c3 : 0 ≤ x3_1
    ·rw [if_pos c3] at H
     have c3b0 : decide (0 ≤ x3_1) = true := decide_eq_true c3
     clear c3
     replace H := Option.bind_eq_some_iff.mp H
     obtain ⟨t102, A40, H⟩ := H
     replace H : (if t102 = true then (spec_RulesOk.l0 k1 l0 (wrap64 (x3_1 + 1))) else (some false)) = some r := H
     have A4 := Aside0.mk A40
     clear A40
     by_cases c5 : t102 = true
     ·subst c5
      have H1 : (spec_RulesOk.l0 k1 l0 (wrap64 (x3_1 + 1))) = some r := by rw [if_pos rfl] at H; exact H
      clear H
      have H := H1
      clear H1
      have H' := Aside0.mk H
      clear H
      have p101 : 0 ≤ (x3_1 : Int) := OD
      have q101 : x3_1 < (l0.length : Int) := OD
      obtain ⟨ad101, e101, hx101_0, hx101_1, hx101_2, hx101_3, hx101_4, hx101_5, hx101_6, hx101_7⟩ := at_T71 HR0.out x3_1 p101 q101
      cases e101
      replace hx101_0 := CX HB.out hx101_0
      replace hx101_1 := CX HB.out hx101_1
      replace hx101_2 := CX HB.out hx101_2
      replace hx101_3 := CX HB.out hx101_3
      replace hx101_4 := CX HB.out hx101_4
      replace hx101_5 := CX HB.out hx101_5
      replace hx101_6 := CX HB.out hx101_6
      replace hx101_7 := CX HB.out hx101_7
      replace p101 := eq_true p101
      replace q101 := eq_true q101
      go_wp2_with (first | ((with_reducible refine gate_callee (f := 99) rfl ?_); refine goesL_ (some 14) rfl rfl Try.func99 (by kernel_rfl) rfl #[.agg #[.int .i64 ((rd_T71 l0 x3_1).f0), .int .i64 ((rd_T71 l0 x3_1).f1), .int .i64 ((rd_T71 l0 x3_1).f2.f0), .int .i64 ((rd_T71 l0 x3_1).f2.f1), .int .i64 ((rd_T71 l0 x3_1).f3.f0), .int .i64 ((rd_T71 l0 x3_1).f3.f1), .int .i64 ((rd_T71 l0 x3_1).f4), .int .i64 ((rd_T71 l0 x3_1).f5)]] rfl MT ?_; (with_reducible refine (spec_l4Ok.calls k1 ((rd_T71 l0 x3_1).f0) ((rd_T71 l0 x3_1).f1) ((rd_T71 l0 x3_1).f2.f0) ((rd_T71 l0 x3_1).f2.f1) ((rd_T71 l0 x3_1).f3.f0) ((rd_T71 l0 x3_1).f3.f1) ((rd_T71 l0 x3_1).f4) ((rd_T71 l0 x3_1).f5) true _ A4.out).mono ?_); rintro e w6 ⟨rfl, hb⟩; refine ⟨_, rfl, ?_⟩; replace HB := am (below_step (KL HB) hb); (try clear hb)))
      go_roundg k1
      case measure => have := HK1.out; omega
      case rel => exact ⟨(wrap64 (x3_1 + 1)), (by first | rfl | (simp; done) | (simp [*]; done)), H', ⟨by have := HK1.out; omega⟩, ⟨KL HB⟩⟩
     ·replace c5 := Bool.eq_false_iff.mpr c5
      subst c5
      have H1 : (some false) = some r := by rw [if_neg (show ¬ (false = true) by decide)] at H; exact H
      clear H
      have H := H1
      clear H1
      obtain rfl := Option.some.inj H
      have p101 : 0 ≤ (x3_1 : Int) := OD
      have q101 : x3_1 < (l0.length : Int) := OD
      obtain ⟨ad101, e101, hx101_0, hx101_1, hx101_2, hx101_3, hx101_4, hx101_5, hx101_6, hx101_7⟩ := at_T71 HR0.out x3_1 p101 q101
      cases e101
      replace hx101_0 := CX HB.out hx101_0
      replace hx101_1 := CX HB.out hx101_1
      replace hx101_2 := CX HB.out hx101_2
      replace hx101_3 := CX HB.out hx101_3
      replace hx101_4 := CX HB.out hx101_4
      replace hx101_5 := CX HB.out hx101_5
      replace hx101_6 := CX HB.out hx101_6
      replace hx101_7 := CX HB.out hx101_7
      replace p101 := eq_true p101
      replace q101 := eq_true q101
      go_wp2_with (first | ((with_reducible refine gate_callee (f := 99) rfl ?_); refine goesL_ (some 14) rfl rfl Try.func99 (by kernel_rfl) rfl #[.agg #[.int .i64 ((rd_T71 l0 x3_1).f0), .int .i64 ((rd_T71 l0 x3_1).f1), .int .i64 ((rd_T71 l0 x3_1).f2.f0), .int .i64 ((rd_T71 l0 x3_1).f2.f1), .int .i64 ((rd_T71 l0 x3_1).f3.f0), .int .i64 ((rd_T71 l0 x3_1).f3.f1), .int .i64 ((rd_T71 l0 x3_1).f4), .int .i64 ((rd_T71 l0 x3_1).f5)]] rfl MT ?_; (with_reducible refine (spec_l4Ok.calls k1 ((rd_T71 l0 x3_1).f0) ((rd_T71 l0 x3_1).f1) ((rd_T71 l0 x3_1).f2.f0) ((rd_T71 l0 x3_1).f2.f1) ((rd_T71 l0 x3_1).f3.f0) ((rd_T71 l0 x3_1).f3.f1) ((rd_T71 l0 x3_1).f4) ((rd_T71 l0 x3_1).f5) false _ A4.out).mono ?_); rintro e w7 ⟨rfl, hb⟩; refine ⟨_, rfl, ?_⟩; replace HB := am (below_step (KL HB) hb); (try clear hb)))
      go_ret
      exact ⟨ER, KL HB⟩
    ·rw [if_neg c3] at H
     exact absurd H (by simp)
   ·rw [if_neg c2] at H
    have c2b0 : decide (x3_1 < (l0.length : Int)) = false := decide_eq_false c2
    clear c2
    obtain rfl := Option.some.inj H
    go_wp2
    go_ret
    exact ⟨ER, KL HB⟩
def spec_Cells.f (k : Nat) (l0 : List (S71)) : Option ((List (S80)) × Bool) := (spec_RulesOk.f k l0).bind fun t101 => (if t101 = true then ((spec_l5Cells.f k l0).bind fun t102 => (if (t102.length : Int) > 400 then (some ((([] : List (S80))), false)) else (some (t102, true)))) else (some ((([] : List (S80))), false)))
set_option maxHeartbeats 8000000 in
set_option maxRecDepth 100000 in
theorem spec_Cells.calls (k : Nat) (A0 : Option Addr) (c0 : Nat) (l0 : List (S71)) (r1 : List (S80)) (r2 : Bool) (w : World) (hr0 : Kd.C k71 w A0 l0.length l0) (hc0 : l0.length ≤ c0) (h : spec_Cells.f k l0 = some (r1, r2)) :
  Calls Try.prog 51 #[.slice A0 l0.length c0] w fun e w' => ∃ v0_ : Value, e = .returned (.tuple #[v0_, .bool r2]) ∧ Kd.R k80 80 w' w.heap.size (fun _ => True) v0_ r1 ∧ Below w.heap.size w w' := by
 have HR0 := Aside0.mk hr0
 have HC0 := Aside0.mk hc0
 clear hr0 hc0
 have HB := am (Below.refl w.heap.size w)
 have H : ((spec_RulesOk.f k l0).bind fun t101 => (if t101 = true then ((spec_l5Cells.f k l0).bind fun t102 => (if (t102.length : Int) > 400 then (some ((([] : List (S80))), false)) else (some (t102, true)))) else (some ((([] : List (S80))), false)))) = some (r1, r2) := h
 clear h
 replace H := Option.bind_eq_some_iff.mp H
 obtain ⟨t101, A20, H⟩ := H
 replace H : (if t101 = true then ((spec_l5Cells.f k l0).bind fun t102 => (if (t102.length : Int) > 400 then (some ((([] : List (S80))), false)) else (some (t102, true)))) else (some ((([] : List (S80))), false))) = some (r1, r2) := H
 have A2 := Aside0.mk A20
 clear A20
 by_cases c3 : t101 = true
 ·subst c3
  have H1 : ((spec_l5Cells.f k l0).bind fun t102 => (if (t102.length : Int) > 400 then (some ((([] : List (S80))), false)) else (some (t102, true)))) = some (r1, r2) := by rw [if_pos rfl] at H; exact H
  clear H
  have H := H1
  clear H1
  replace H := Option.bind_eq_some_iff.mp H
  obtain ⟨t102, A40, H⟩ := H
  replace H : (if (t102.length : Int) > 400 then (some ((([] : List (S80))), false)) else (some (t102, true))) = some (r1, r2) := H
  have A4 := Aside0.mk A40
  clear A40
  by_cases c5 : (t102.length : Int) > 400
  ·rw [if_pos c5] at H
   have c5b0 : decide (400 < (t102.length : Int)) = true := decide_eq_true c5
   have c5b1 : decide (400 < t102.length) = true := decide_eq_true (by omega)
   clear c5
   obtain ⟨y105, hy105⟩ : ∃ y_ : List (S80), y_ = (([] : List (S80))) := ⟨_, rfl⟩
   replace H : (some (y105, false)) = some (r1, r2) := by first | (rw [hy105]; with_reducible exact H) | (have H2_ := (Option.bind_some _ _).symm.trans H; rw [hy105]; with_reducible exact H2_) | (have H2_ := (Option.bind_some _ _).symm.trans H; with_reducible exact H2_) | with_reducible exact H | (rw [hy105]; exact H) | exact H
   have Ny105 := Aside0.mk hy105
   clear hy105
   simp only [Option.some.injEq, Prod.mk.injEq] at H
   obtain ⟨rfl, rfl⟩ := H
   go_enter Try.func51, Try.ntmps51
   go_wp2_with (first | ((with_reducible refine gate_callee (f := 44) rfl ?_); refine goesL_ (some 6) rfl rfl Try.func44 (by kernel_rfl) rfl #[.slice A0 l0.length c0] rfl MT ?_; (with_reducible refine (spec_RulesOk.calls k _ _ l0 true _ ?side1 ?side2 A2.out).mono ?_); (case side1 => exact KC HR0.out); (case side2 => exact HC0.out); rintro e w6 ⟨rfl, hb⟩; refine ⟨_, rfl, ?_⟩; replace HB := am (below_step (KL HB) hb); (try clear hb)) | ((with_reducible refine gate_callee (f := 103) rfl ?_); refine goesL_ (some 10) rfl rfl Try.func103 (by kernel_rfl) rfl #[.slice A0 l0.length c0] rfl MT ?_; (with_reducible refine (spec_l5Cells.calls k _ _ l0 t102 _ ?side1 ?side2 A4.out).mono ?_); (case side1 => exact KD HR0 HB); (case side2 => exact HC0.out); rintro e w7 ⟨v103, rfl, ho0, hb⟩; refine ⟨_, rfl, ?_⟩; have HO104 := am (Kd.R_lower ho0 (below_size (KL HB))); replace HB := am (below_step (KL HB) hb); (try clear hb); (try clear ho0); obtain ⟨Ao8, co8, eo8⟩ := Kd.R_slice HO104.out; subst eo8) | ((with_reducible refine gate_dst (N := 14) rfl ?_); refine Kd.R_lit k80 _ 80 ?hg (N := 14) ?hd (xs := ([] : List (S80))) (inner := []) (ok := fun _ => True) (okp := fun _ => True) ?hr ?hp (fun _ hk => hk) trivial (Below.refl _ _) (Nat.le_refl _) (by simp) ?_; (case hd => rfl); (case hg => rfl); (case hr => first | (go_simp; done) | (go_simp; rfl)); (case hp => exact (Reps.none _ _)); intro v106 w9 ho10 hb hg_ hnew_; clear hg_ hnew_; (first | rw [← Ny105.out] at ho10 | (simp only [Int.reduceToNat] at ho10; rw [← Ny105.out] at ho10)); have HO107 := am (Kd.R_lower (Kd.R_new' ho10 (Kd.R_lt (KR HO104))) (below_size (KL HB))); replace HO104 := am (Kd.R_elder' (KR HO104) (Kd.R_base ho10) hb); replace HB := am (below_step (KL HB) hb); clear hb ho10))
   go_ret2
   exact ⟨_, ER, by (with_reducible repeat (first | apply Kd.R_alloc | apply Kd.R_drewN | apply Kd.R_drew)); exact Kd.R_mono HO107.out (fun _ hk => trivial), KL HB⟩
  ·rw [if_neg c5] at H
   have c5b0 : decide (400 < (t102.length : Int)) = false := decide_eq_false c5
   have c5b1 : decide (400 < t102.length) = false := decide_eq_false (by omega)
   clear c5
   simp only [Option.some.injEq, Prod.mk.injEq] at H
   obtain ⟨rfl, rfl⟩ := H
   go_enter Try.func51, Try.ntmps51
   go_wp2_with (first | ((with_reducible refine gate_callee (f := 44) rfl ?_); refine goesL_ (some 6) rfl rfl Try.func44 (by kernel_rfl) rfl #[.slice A0 l0.length c0] rfl MT ?_; (with_reducible refine (spec_RulesOk.calls k _ _ l0 true _ ?side1 ?side2 A2.out).mono ?_); (case side1 => exact KC HR0.out); (case side2 => exact HC0.out); rintro e w11 ⟨rfl, hb⟩; refine ⟨_, rfl, ?_⟩; replace HB := am (below_step (KL HB) hb); (try clear hb)) | ((with_reducible refine gate_callee (f := 103) rfl ?_); refine goesL_ (some 10) rfl rfl Try.func103 (by kernel_rfl) rfl #[.slice A0 l0.length c0] rfl MT ?_; (with_reducible refine (spec_l5Cells.calls k _ _ l0 t102 _ ?side1 ?side2 A4.out).mono ?_); (case side1 => exact KD HR0 HB); (case side2 => exact HC0.out); rintro e w12 ⟨v103, rfl, ho0, hb⟩; refine ⟨_, rfl, ?_⟩; have HO104 := am (Kd.R_lower ho0 (below_size (KL HB))); replace HB := am (below_step (KL HB) hb); (try clear hb); (try clear ho0); obtain ⟨Ao13, co13, eo13⟩ := Kd.R_slice HO104.out; subst eo13))
   go_ret2
   exact ⟨_, ER, by (with_reducible repeat (first | apply Kd.R_alloc | apply Kd.R_drewN | apply Kd.R_drew)); exact HO104.out, KL HB⟩
 ·replace c3 := Bool.eq_false_iff.mpr c3
  subst c3
  have H1 : (some ((([] : List (S80))), false)) = some (r1, r2) := by rw [if_neg (show ¬ (false = true) by decide)] at H; exact H
  clear H
  have H := H1
  clear H1
  obtain ⟨y108, hy108⟩ : ∃ y_ : List (S80), y_ = (([] : List (S80))) := ⟨_, rfl⟩
  replace H : (some (y108, false)) = some (r1, r2) := by first | (rw [hy108]; with_reducible exact H) | (have H2_ := (Option.bind_some _ _).symm.trans H; rw [hy108]; with_reducible exact H2_) | (have H2_ := (Option.bind_some _ _).symm.trans H; with_reducible exact H2_) | with_reducible exact H | (rw [hy108]; exact H) | exact H
  have Ny108 := Aside0.mk hy108
  clear hy108
  simp only [Option.some.injEq, Prod.mk.injEq] at H
  obtain ⟨rfl, rfl⟩ := H
  go_enter Try.func51, Try.ntmps51
  go_wp2_with (first | ((with_reducible refine gate_callee (f := 44) rfl ?_); refine goesL_ (some 6) rfl rfl Try.func44 (by kernel_rfl) rfl #[.slice A0 l0.length c0] rfl MT ?_; (with_reducible refine (spec_RulesOk.calls k _ _ l0 false _ ?side1 ?side2 A2.out).mono ?_); (case side1 => exact KC HR0.out); (case side2 => exact HC0.out); rintro e w14 ⟨rfl, hb⟩; refine ⟨_, rfl, ?_⟩; replace HB := am (below_step (KL HB) hb); (try clear hb)) | ((with_reducible refine gate_dst (N := 8) rfl ?_); refine Kd.R_lit k80 _ 80 ?hg (N := 8) ?hd (xs := ([] : List (S80))) (inner := []) (ok := fun _ => True) (okp := fun _ => True) ?hr ?hp (fun _ hk => hk) trivial (Below.refl _ _) (Nat.le_refl _) (by simp) ?_; (case hd => rfl); (case hg => rfl); (case hr => first | (go_simp; done) | (go_simp; rfl)); (case hp => exact (Reps.none _ _)); intro v109 w15 ho16 hb hg_ hnew_; clear hg_ hnew_; (first | rw [← Ny108.out] at ho16 | (simp only [Int.reduceToNat] at ho16; rw [← Ny108.out] at ho16)); have HO110 := am (Kd.R_lower ho16 (below_size (KL HB))); replace HB := am (below_step (KL HB) hb); clear hb ho16))
  go_ret2
  exact ⟨_, ER, by (with_reducible repeat (first | apply Kd.R_alloc | apply Kd.R_drewN | apply Kd.R_drew)); exact HO110.out, KL HB⟩
def impl_end.f (l0 : List Int) (a1 : Int) (a2 : Int) : Option (Int) := if (wrap64 (a1 + 1)) < (l0.length : Int) then (if 0 ≤ (wrap64 (a1 + 1)) then (some (wrap64 ((rd l0 (wrap64 (a1 + 1))) - 1))) else (none)) else (some a2)
set_option maxHeartbeats 8000000 in
set_option maxRecDepth 100000 in
theorem impl_end.calls (A0 : Option Addr) (c0 : Nat) (l0 : List Int) (a1 : Int) (a2 : Int) (r : Int) (w : World) (hr0 : Kd.C (Kd.int .i64) w A0 l0.length l0) (hc0 : l0.length ≤ c0) (h : impl_end.f l0 a1 a2 = some r) :
  Calls Try.prog 105 #[.slice A0 l0.length c0, .int .i64 a1, .int .i64 a2] w fun e w' => e = .returned (.int .i64 r) ∧ Drawn0 w w' := by
 have HR0 := Aside0.mk hr0
 have HC0 := Aside0.mk hc0
 clear hr0 hc0
 have H : (if (wrap64 (a1 + 1)) < (l0.length : Int) then (if 0 ≤ (wrap64 (a1 + 1)) then (some (wrap64 ((rd l0 (wrap64 (a1 + 1))) - 1))) else (none)) else (some a2)) = some r := h
 clear h
 by_cases c4 : (wrap64 (a1 + 1)) < (l0.length : Int)
 ·rw [if_pos c4] at H
  have c4b0 : decide ((wrap64 (a1 + 1)) < (l0.length : Int)) = true := decide_eq_true c4
  clear c4
  obtain ⟨ji5, hji5⟩ : ∃ j_ : Int, (wrap64 (a1 + 1)) = j_ := ⟨_, rfl⟩
  replace H : (if 0 ≤ (ji5) then (some (wrap64 ((rd l0 (ji5)) - 1))) else (none)) = some r := by first | (rw [hji5] at H; exact H) | (simp only [hji5] at H ⊢; exact H)
  (try rw [hji5] at c4b0)
  have hji5w : (IntKind.i64.wrap (a1 + 1)) = ji5 := (i64_w _).trans hji5
  by_cases c6 : 0 ≤ (ji5)
  ·rw [if_pos c6] at H
   have c6b0 : decide (0 ≤ (ji5)) = true := decide_eq_true c6
   clear c6
   obtain rfl := Option.some.inj H
   have p101 : 0 ≤ ((ji5) : Int) := OD
   have q101 : (ji5) < (l0.length : Int) := OD
   obtain ⟨ad101, e101, hx101_0⟩ := Kd.at_int HR0.out (ji5) p101 q101
   cases e101
   replace p101 := eq_true p101
   replace q101 := eq_true q101
   go_enter Try.func105, Try.ntmps105
   go_wp2
   go_ret
   exact ⟨by first | rfl | (simp; done) | (simp only [← hji5] <;> (first | rfl | simp)) | (simp [*]; done), by repeat (first | exact Drawn0.refl _ | apply Drawn0.step)⟩
  ·rw [if_neg c6] at H
   exact absurd H (by simp)
 ·rw [if_neg c4] at H
  have c4b0 : decide ((wrap64 (a1 + 1)) < (l0.length : Int)) = false := decide_eq_false c4
  clear c4
  obtain rfl := Option.some.inj H
  go_enter Try.func105, Try.ntmps105
  go_wp2
  go_ret
  exact ⟨by first | rfl | (simp; done) | (simp [*]; done), by repeat (first | exact Drawn0.refl _ | apply Drawn0.step)⟩
def spec_DrawCells.f (k : Nat) (l0 : List Int) : Option ((List (S71))) := (spec_l1Open.f l0).bind fun bt101 => ((spec_l12AnyRules.f k bt101.1 bt101.2).bind fun bt104 => (some bt104.1))
set_option maxHeartbeats 8000000 in
set_option maxRecDepth 100000 in
theorem spec_DrawCells.calls (k : Nat) (A0 : Option Addr) (c0 : Nat) (l0 : List Int) (r : List (S71)) (w : World) (hr0 : Kd.C (Kd.int .u8) w A0 l0.length l0) (hc0 : l0.length ≤ c0) (h : spec_DrawCells.f k l0 = some r) :
  Calls Try.prog 56 #[.slice A0 l0.length c0] w fun e w' => ∃ v0_ : Value, e = .returned (v0_) ∧ Kd.R k71 71 w' w.heap.size (fun _ => True) v0_ r ∧ Below w.heap.size w w' := by
 have HR0 := Aside0.mk hr0
 have HC0 := Aside0.mk hc0
 clear hr0 hc0
 have HB := am (Below.refl w.heap.size w)
 have H : ((spec_l1Open.f l0).bind fun bt101 => ((spec_l12AnyRules.f k bt101.1 bt101.2).bind fun bt104 => (some bt104.1))) = some r := h
 clear h
 replace H := Option.bind_eq_some_iff.mp H
 obtain ⟨⟨t101, t102⟩, A20, H⟩ := H
 replace H : ((spec_l12AnyRules.f k t101 t102).bind fun bt104 => (some bt104.1)) = some r := H
 have A2 := Aside0.mk A20
 clear A20
 replace H := Option.bind_eq_some_iff.mp H
 obtain ⟨⟨t104, t107⟩, A30, H⟩ := H
 replace H : (some t104) = some r := H
 have A3 := Aside0.mk A30
 clear A30
 obtain rfl := Option.some.inj H
 go_enter Try.func56, Try.ntmps56
 go_wp2_with (first | ((with_reducible refine gate_callee (f := 67) rfl ?_); refine goesL_ (some 4) rfl rfl Try.func67 (by kernel_rfl) rfl #[.slice A0 l0.length c0] rfl MT ?_; (with_reducible refine (spec_l1Open.calls _ _ l0 t101 t102 w _ ?side1 ?side2 ?side3 A2.out).mono ?_); (case side1 => exact KL HB); (case side2 => exact HR0.out); (case side3 => exact HC0.out); rintro e w4 ⟨g103, rfl, hi, hb, hb2⟩; refine ⟨_, rfl, ?_⟩; replace HB := am (hb); have HI103 := am (hi); (try clear hb); (try clear hb2); (try clear hi)) | ((with_reducible refine gate_callee (f := 95) rfl ?_); refine goesL_ (some 5) rfl rfl Try.func95 (by kernel_rfl) rfl #[.pointer (some ⟨g103, 0, none⟩)] rfl MT ?_; (with_reducible refine (spec_l12AnyRules.calls k g103 t101 t102 t104 t107 w _ ?side1 ?side2 A3.out).mono ?_); (case side1 => exact I140_0 HI103); (case side2 => exact K1 HB (IsS140.ge HI103.out)); rintro e w5 ⟨v105, rfl, ho0, hi, hb, hk⟩; refine ⟨_, rfl, ?_⟩; have HO106 := am (Kd.R_lower ho0 (below_size (K1 HB (IsS140.ge HI103.out)))); replace HB := am (hb); replace HI103 := am (hi); (try clear hb); (try clear hk); (try clear hi); (try clear ho0)))
 go_ret
 exact ⟨_, ER, by (with_reducible repeat (first | apply Kd.R_alloc | apply Kd.R_drewN | apply Kd.R_drew)); exact HO106.out, K1 HB (IsS140.ge HI103.out)⟩
end Go.Proofs.Ytkgbgaojglcaoaa.PAll
end
section
namespace Go.Proofs.Ytkgbgaojglcaoaa.PAll
open Go.RowKit Go.Proofs.YtkgbgaojglcaoaaW.PrintWords Go.Proofs.YtkgbgaojglcaoaaW.PrintLast Go.Proofs.YtkgbgaojglcaoaaW.PrintMore
attribute [local go_sem] max2_int min2_int max_two min_two max_three min_three max_four min_four   -- for this text's walks alone
set_option linter.unusedVariables false
set_option linter.unusedSimpArgs false
attribute [local go_sem high] eqA80
def laws_ovCells.l0 : Nat → List (S80) → List (S80) → Int → Option (Bool)
 | 0, _, _, _ => none
 | k + 1, x0, x1, x5 => if x5 < (x0.length : Int) then (if 0 ≤ x5 then (if x5 < (x1.length : Int) then (if (!(((rd_T80 x0 x5).f0) == ((rd_T80 x1 x5).f0)) || (!(((rd_T80 x0 x5).f1) == ((rd_T80 x1 x5).f1)) || (!(((rd_T80 x0 x5).f2) == ((rd_T80 x1 x5).f2)) || (!(((rd_T80 x0 x5).f3) == ((rd_T80 x1 x5).f3)) || (!(((rd_T80 x0 x5).f4) == ((rd_T80 x1 x5).f4)) || (!(((rd_T80 x0 x5).f5) == ((rd_T80 x1 x5).f5)) || (!(((rd_T80 x0 x5).f6) == ((rd_T80 x1 x5).f6))))))))) = true then (some false) else (laws_ovCells.l0 k x0 x1 (wrap64 (x5 + 1)))) else (none)) else (none)) else (some true)
def laws_ovCells.f (k : Nat) (l0 : List (S80)) (l1 : List (S80)) : Option (Bool) := if (l0.length : Int) = (l1.length : Int) then (laws_ovCells.l0 k l0 l1 0) else (some false)
set_option maxHeartbeats 8000000 in
set_option maxRecDepth 100000 in
theorem laws_ovCells.calls (k : Nat) (A0 : Option Addr) (c0 : Nat) (l0 : List (S80)) (A1 : Option Addr) (c1 : Nat) (l1 : List (S80)) (r : Bool) (w : World) (hr0 : Kd.C k80 w A0 l0.length l0) (hc0 : l0.length ≤ c0) (hr1 : Kd.C k80 w A1 l1.length l1) (hc1 : l1.length ≤ c1) (h : laws_ovCells.f k l0 l1 = some r) :
  Calls Try.prog 57 #[.slice A0 l0.length c0, .slice A1 l1.length c1] w fun e w' => e = .returned (.bool r) ∧ Drawn0 w w' := by
 have hu80 := Try.underlying80
 have HR0 := Aside0.mk hr0
 have HC0 := Aside0.mk hc0
 clear hr0 hc0
 have HR1 := Aside0.mk hr1
 have HC1 := Aside0.mk hc1
 clear hr1 hc1
 have H : (if (l0.length : Int) = (l1.length : Int) then (laws_ovCells.l0 k l0 l1 0) else (some false)) = some r := h
 clear h
 by_cases c3 : (l0.length : Int) = (l1.length : Int)
 ·rw [if_pos c3] at H
  have c3b0 : ((l0.length : Int) == (l1.length : Int)) = true := beq_iff_eq.mpr c3
  have c3b1 : ((l0.length : Int) != (l1.length : Int)) = false := bne_eq_false_iff_eq.mpr c3
  have c3b2 : (l0.length == l1.length) = true := by first | simpa using c3 | (simp at c3 ⊢; omega)
  clear c3
  have H' := Aside0.mk H
  clear H
  go_enter Try.func57, Try.ntmps57
  go_wp2
  repeat (go_quiet (fail); try go_wp2)
  go_loopg [5] k (fun kq v5 w' => ∃ (x5_1 : Int), v5 = .int .i64 x5_1 ∧ Aside0 (laws_ovCells.l0 kq l0 l1 x5_1 = some r) ∧ Aside0 (kq ≤ k) ∧ Drawn0 w w')
  case atStart => exact ⟨(0), (by first | rfl | (simp; done) | (simp [*]; done)), H', ⟨Nat.le_refl _⟩, by repeat (first | exact Drawn0.refl _ | apply Drawn0.step)⟩
  case round =>
   clear H'
   try clear c1
   try clear p2
   try clear c3
   try clear c3b0
   try clear c3b1
   try clear c3b2
   obtain ⟨x5_1, rfl, HA, HK1, ⟨m1, rfl⟩⟩ := hrel
   cases gk with
   | zero => exact absurd HA.out (by simp [laws_ovCells.l0])
   | succ k1 =>
    have H := HA.out
    clear HA
    simp only [laws_ovCells.l0] at H
    by_cases c4 : x5_1 < (l0.length : Int)
    ·rw [if_pos c4] at H
     have c4b0 : decide (x5_1 < (l0.length : Int)) = true := decide_eq_true c4
     clear c4
     by_cases c5 : 0 ≤ x5_1
     ·rw [if_pos c5] at H
      have c5b0 : decide (0 ≤ x5_1) = true := decide_eq_true c5
      clear c5
      by_cases c6 : x5_1 < (l1.length : Int)
      ·rw [if_pos c6] at H
       have c6b0 : decide (x5_1 < (l1.length : Int)) = true := decide_eq_true c6
       clear c6
       by_cases c7 : (!(((rd_T80 l0 x5_1).f0) == ((rd_T80 l1 x5_1).f0)) || (!(((rd_T80 l0 x5_1).f1) == ((rd_T80 l1 x5_1).f1)) || (!(((rd_T80 l0 x5_1).f2) == ((rd_T80 l1 x5_1).f2)) || (!(((rd_T80 l0 x5_1).f3) == ((rd_T80 l1 x5_1).f3)) || (!(((rd_T80 l0 x5_1).f4) == ((rd_T80 l1 x5_1).f4)) || (!(((rd_T80 l0 x5_1).f5) == ((rd_T80 l1 x5_1).f5)) || (!(((rd_T80 l0 x5_1).f6) == ((rd_T80 l1 x5_1).f6))))))))) = true
       ·rw [if_pos c7] at H
        have c7b0 : (!(((rd_T80 l0 x5_1).f0) == ((rd_T80 l1 x5_1).f0)) || (!(((rd_T80 l0 x5_1).f1) == ((rd_T80 l1 x5_1).f1)) || (!(((rd_T80 l0 x5_1).f2) == ((rd_T80 l1 x5_1).f2)) || (!(((rd_T80 l0 x5_1).f3) == ((rd_T80 l1 x5_1).f3)) || (!(((rd_T80 l0 x5_1).f4) == ((rd_T80 l1 x5_1).f4)) || (!(((rd_T80 l0 x5_1).f5) == ((rd_T80 l1 x5_1).f5)) || (!(((rd_T80 l0 x5_1).f6) == ((rd_T80 l1 x5_1).f6))))))))) = true := c7
        clear c7
        obtain rfl := Option.some.inj H
        have p101 : 0 ≤ (x5_1 : Int) := OD
        have q101 : x5_1 < (l0.length : Int) := OD
        obtain ⟨ad101, e101, hx101_0, hx101_1, hx101_2, hx101_3, hx101_4, hx101_5, hx101_6⟩ := at_T80 HR0.out x5_1 p101 q101
        cases e101
        replace p101 := eq_true p101
        replace q101 := eq_true q101
        have p102 : 0 ≤ (x5_1 : Int) := OD
        have q102 : x5_1 < (l1.length : Int) := OD
        obtain ⟨ad102, e102, hx102_0, hx102_1, hx102_2, hx102_3, hx102_4, hx102_5, hx102_6⟩ := at_T80 HR1.out x5_1 p102 q102
        cases e102
        replace p102 := eq_true p102
        replace q102 := eq_true q102
        go_wp2
        repeat (go_quiet (fail); try go_wp2)
        go_ret
        exact ⟨by first | rfl | (simp; done) | (simp [*]; done), by repeat (first | exact Drawn0.refl _ | apply Drawn0.step)⟩
       ·rw [if_neg c7] at H
        have c7b0 : (!(((rd_T80 l0 x5_1).f0) == ((rd_T80 l1 x5_1).f0)) || (!(((rd_T80 l0 x5_1).f1) == ((rd_T80 l1 x5_1).f1)) || (!(((rd_T80 l0 x5_1).f2) == ((rd_T80 l1 x5_1).f2)) || (!(((rd_T80 l0 x5_1).f3) == ((rd_T80 l1 x5_1).f3)) || (!(((rd_T80 l0 x5_1).f4) == ((rd_T80 l1 x5_1).f4)) || (!(((rd_T80 l0 x5_1).f5) == ((rd_T80 l1 x5_1).f5)) || (!(((rd_T80 l0 x5_1).f6) == ((rd_T80 l1 x5_1).f6))))))))) = false := by simpa using c7
        clear c7
        have H' := Aside0.mk H
        clear H
        have p101 : 0 ≤ (x5_1 : Int) := OD
        have q101 : x5_1 < (l0.length : Int) := OD
        obtain ⟨ad101, e101, hx101_0, hx101_1, hx101_2, hx101_3, hx101_4, hx101_5, hx101_6⟩ := at_T80 HR0.out x5_1 p101 q101
        cases e101
        replace p101 := eq_true p101
        replace q101 := eq_true q101
        have p102 : 0 ≤ (x5_1 : Int) := OD
        have q102 : x5_1 < (l1.length : Int) := OD
        obtain ⟨ad102, e102, hx102_0, hx102_1, hx102_2, hx102_3, hx102_4, hx102_5, hx102_6⟩ := at_T80 HR1.out x5_1 p102 q102
        cases e102
        replace p102 := eq_true p102
        replace q102 := eq_true q102
        go_wp2
        repeat (go_quiet (fail); try go_wp2)
        go_roundg k1
        case measure => have := HK1.out; omega
        case rel => exact ⟨(wrap64 (x5_1 + 1)), (by first | rfl | (simp; done) | (simp [*]; done)), H', ⟨by have := HK1.out; omega⟩, by repeat (first | exact Drawn0.refl _ | apply Drawn0.step)⟩
      ·rw [if_neg c6] at H
       exact absurd H (by simp)
     ·rw [if_neg c5] at H
      exact absurd H (by simp)
    ·rw [if_neg c4] at H
     have c4b0 : decide (x5_1 < (l0.length : Int)) = false := decide_eq_false c4
     clear c4
     obtain rfl := Option.some.inj H
     go_wp2
     repeat (go_quiet (fail); try go_wp2)
     go_ret
     exact ⟨by first | rfl | (simp; done) | (simp [*]; done), by repeat (first | exact Drawn0.refl _ | apply Drawn0.step)⟩
 ·rw [if_neg c3] at H
  have c3b0 : ((l0.length : Int) == (l1.length : Int)) = false := beq_eq_false_iff_ne.mpr c3
  have c3b1 : ((l0.length : Int) != (l1.length : Int)) = true := bne_iff_ne.mpr c3
  have c3b2 : (l0.length == l1.length) = false := by first | simpa using c3 | (simp at c3 ⊢; omega)
  obtain rfl := Option.some.inj H
  go_enter Try.func57, Try.ntmps57
  go_wp2
  repeat (go_quiet (fail); try go_wp2)
  go_ret
  exact ⟨by first | rfl | (simp; done) | (simp [*]; done), by repeat (first | exact Drawn0.refl _ | apply Drawn0.step)⟩
end Go.Proofs.Ytkgbgaojglcaoaa.PAll
end
section
namespace Go.Proofs.Ytkgbgaojglcaoaa.PAll
open Go.RowKit Go.Proofs.YtkgbgaojglcaoaaW.PrintWords Go.Proofs.YtkgbgaojglcaoaaW.PrintLast Go.Proofs.YtkgbgaojglcaoaaW.PrintMore
attribute [local go_sem] max2_int min2_int max_two min_two max_three min_three max_four min_four   -- for this text's walks alone
set_option linter.unusedVariables false
set_option linter.unusedSimpArgs false
def impl_CellsMeet.f (a0_0 : Int) (a0_1 : Int) (a0_2 : Int) (a0_3 : Int) (a0_4 : Int) (a0_5 : Int) (a0_6 : Int) (a1_0 : Int) (a1_1 : Int) (a1_2 : Int) (a1_3 : Int) (a1_4 : Int) (a1_5 : Int) (a1_6 : Int) : Option (Bool) := if (mx a0_0 a1_0) ≤ (mn a0_1 a1_1) then (if (mx a0_2 a1_2) ≤ (mn a0_3 a1_3) then (some (decide ((mx a0_4 a1_4) ≤ (mn a0_5 a1_5)))) else (some false)) else (some false)
set_option maxHeartbeats 8000000 in
set_option maxRecDepth 100000 in
theorem impl_CellsMeet.calls (a0_0 : Int) (a0_1 : Int) (a0_2 : Int) (a0_3 : Int) (a0_4 : Int) (a0_5 : Int) (a0_6 : Int) (a1_0 : Int) (a1_1 : Int) (a1_2 : Int) (a1_3 : Int) (a1_4 : Int) (a1_5 : Int) (a1_6 : Int) (r : Bool) (w : World) (h : impl_CellsMeet.f a0_0 a0_1 a0_2 a0_3 a0_4 a0_5 a0_6 a1_0 a1_1 a1_2 a1_3 a1_4 a1_5 a1_6 = some r) :
  Calls Try.prog 58 #[.agg #[.int .i64 a0_0, .int .i64 a0_1, .int .i64 a0_2, .int .i64 a0_3, .int .i64 a0_4, .int .i64 a0_5, .int .i64 a0_6], .agg #[.int .i64 a1_0, .int .i64 a1_1, .int .i64 a1_2, .int .i64 a1_3, .int .i64 a1_4, .int .i64 a1_5, .int .i64 a1_6]] w fun e w' => e = .returned (.bool r) ∧ Below w.heap.size w w' := by
 have hu80 := Try.underlying80
 have HB := am (Below.refl w.heap.size w)
 have H : (if (mx a0_0 a1_0) ≤ (mn a0_1 a1_1) then (if (mx a0_2 a1_2) ≤ (mn a0_3 a1_3) then (some (decide ((mx a0_4 a1_4) ≤ (mn a0_5 a1_5)))) else (some false)) else (some false)) = some r := h
 clear h
 obtain ⟨ji3, hji3⟩ : ∃ j_ : Int, (mx a0_0 a1_0) = j_ := ⟨_, rfl⟩
 replace H : (if (ji3) ≤ (mn a0_1 a1_1) then (if (mx a0_2 a1_2) ≤ (mn a0_3 a1_3) then (some (decide ((mx a0_4 a1_4) ≤ (mn a0_5 a1_5)))) else (some false)) else (some false)) = some r := by first | (rw [hji3] at H; exact H) | (simp only [hji3] at H ⊢; exact H)
 have hji3_ : (if a0_0 < a1_0 then a1_0 else a0_0) = ji3 := hji3
 obtain ⟨ji4, hji4⟩ : ∃ j_ : Int, (mn a0_1 a1_1) = j_ := ⟨_, rfl⟩
 replace H : (if (ji3) ≤ (ji4) then (if (mx a0_2 a1_2) ≤ (mn a0_3 a1_3) then (some (decide ((mx a0_4 a1_4) ≤ (mn a0_5 a1_5)))) else (some false)) else (some false)) = some r := by first | (rw [hji4] at H; exact H) | (simp only [hji4] at H ⊢; exact H)
 have hji4_ : (if a1_1 < a0_1 then a1_1 else a0_1) = ji4 := hji4
 by_cases c5 : (ji3) ≤ (ji4)
 ·rw [if_pos c5] at H
  have c5b0 : decide ((ji3) ≤ (ji4)) = true := decide_eq_true c5
  clear c5
  obtain ⟨ji6, hji6⟩ : ∃ j_ : Int, (mx a0_2 a1_2) = j_ := ⟨_, rfl⟩
  replace H : (if (ji6) ≤ (mn a0_3 a1_3) then (some (decide ((mx a0_4 a1_4) ≤ (mn a0_5 a1_5)))) else (some false)) = some r := by first | (rw [hji6] at H; exact H) | (simp only [hji6] at H ⊢; exact H)
  have hji6_ : (if a0_2 < a1_2 then a1_2 else a0_2) = ji6 := hji6
  obtain ⟨ji7, hji7⟩ : ∃ j_ : Int, (mn a0_3 a1_3) = j_ := ⟨_, rfl⟩
  replace H : (if (ji6) ≤ (ji7) then (some (decide ((mx a0_4 a1_4) ≤ (mn a0_5 a1_5)))) else (some false)) = some r := by first | (rw [hji7] at H; exact H) | (simp only [hji7] at H ⊢; exact H)
  have hji7_ : (if a1_3 < a0_3 then a1_3 else a0_3) = ji7 := hji7
  by_cases c8 : (ji6) ≤ (ji7)
  ·rw [if_pos c8] at H
   have c8b0 : decide ((ji6) ≤ (ji7)) = true := decide_eq_true c8
   clear c8
   obtain ⟨ji9, hji9⟩ : ∃ j_ : Int, (mx a0_4 a1_4) = j_ := ⟨_, rfl⟩
   replace H : (some (decide ((ji9) ≤ (mn a0_5 a1_5)))) = some r := by first | (rw [hji9] at H; exact H) | (simp only [hji9] at H ⊢; exact H)
   have hji9_ : (if a0_4 < a1_4 then a1_4 else a0_4) = ji9 := hji9
   obtain ⟨ji10, hji10⟩ : ∃ j_ : Int, (mn a0_5 a1_5) = j_ := ⟨_, rfl⟩
   replace H : (some (decide ((ji9) ≤ (ji10)))) = some r := by first | (rw [hji10] at H; exact H) | (simp only [hji10] at H ⊢; exact H)
   have hji10_ : (if a1_5 < a0_5 then a1_5 else a0_5) = ji10 := hji10
   obtain rfl := Option.some.inj H
   go_enter Try.func58, Try.ntmps58
   go_wp2_with (first | ((with_reducible refine gate_dst (N := 2) rfl ?_); (try (refine gate_guard (by rfl) ?_; dsimp only)); refine box_event rfl (N := 2) rfl (cs := #[.int .i64 a0_0, .int .i64 a0_1, .int .i64 a0_2, .int .i64 a0_3, .int .i64 a0_4, .int .i64 a0_5, .int .i64 a0_6]) (t := 80) BX ?_; intro gb101 hg w11 hbox hb; have BK101 := am (hbox); have GW101 := am (GH HB hg); have GE101 := GW101; replace HB := am (below_step (KL HB) hb); clear hb hbox hg) | ((with_reducible refine gate_dst (N := 3) rfl ?_); (try (refine gate_guard (by rfl) ?_; dsimp only)); refine box_event rfl (N := 3) rfl (cs := #[.int .i64 a1_0, .int .i64 a1_1, .int .i64 a1_2, .int .i64 a1_3, .int .i64 a1_4, .int .i64 a1_5, .int .i64 a1_6]) (t := 80) BX ?_; intro gb102 hg w12 hbox hb; have BK102 := am (hbox); have GW102 := am (GH1 HB GE101.out hg); have GE102 := GW102; replace HB := am (below_step (K1 HB GE101.out) hb); have NB101_102 := am (NL BK101 hg); have NB102_101 := am (NG BK101 hg); replace BK101 := am (BB BK101 hb); clear hb hbox hg; have hnb13 := NB101_102.out; have hnc13 := NB102_101.out; obtain ⟨hcz14_0, hcz14_1, hcz14_2, hcz14_3, hcz14_4, hcz14_5, hcz14_6, hfz14_0⟩ := y7 w12 BK101.out; obtain ⟨hcz15_0, hcz15_1, hcz15_2, hcz15_3, hcz15_4, hcz15_5, hcz15_6, hfz15_0⟩ := y7 w12 BK102.out))
   go_ret
   exact ⟨by first | rfl | (simp [errW_none, errW_some] <;> rfl) | (simp only [← hji3, ← hji4, ← hji6, ← hji7, ← hji9, ← hji10]; first | rfl | (simp [errW_none, errW_some] <;> rfl)) | (simp [*, errW_none, errW_some] <;> rfl), K2 HB GE101.out GE102.out⟩
  ·rw [if_neg c8] at H
   have c8b0 : decide ((ji6) ≤ (ji7)) = false := decide_eq_false c8
   clear c8
   obtain rfl := Option.some.inj H
   go_enter Try.func58, Try.ntmps58
   go_wp2_with (first | ((with_reducible refine gate_dst (N := 2) rfl ?_); (try (refine gate_guard (by rfl) ?_; dsimp only)); refine box_event rfl (N := 2) rfl (cs := #[.int .i64 a0_0, .int .i64 a0_1, .int .i64 a0_2, .int .i64 a0_3, .int .i64 a0_4, .int .i64 a0_5, .int .i64 a0_6]) (t := 80) BX ?_; intro gb101 hg w16 hbox hb; have BK101 := am (hbox); have GW101 := am (GH HB hg); have GE101 := GW101; replace HB := am (below_step (KL HB) hb); clear hb hbox hg) | ((with_reducible refine gate_dst (N := 3) rfl ?_); (try (refine gate_guard (by rfl) ?_; dsimp only)); refine box_event rfl (N := 3) rfl (cs := #[.int .i64 a1_0, .int .i64 a1_1, .int .i64 a1_2, .int .i64 a1_3, .int .i64 a1_4, .int .i64 a1_5, .int .i64 a1_6]) (t := 80) BX ?_; intro gb102 hg w17 hbox hb; have BK102 := am (hbox); have GW102 := am (GH1 HB GE101.out hg); have GE102 := GW102; replace HB := am (below_step (K1 HB GE101.out) hb); have NB101_102 := am (NL BK101 hg); have NB102_101 := am (NG BK101 hg); replace BK101 := am (BB BK101 hb); clear hb hbox hg; have hnb18 := NB101_102.out; have hnc18 := NB102_101.out; obtain ⟨hcz19_0, hcz19_1, hcz19_2, hcz19_3, hcz19_4, hcz19_5, hcz19_6, hfz19_0⟩ := y7 w17 BK101.out; obtain ⟨hcz20_0, hcz20_1, hcz20_2, hcz20_3, hcz20_4, hcz20_5, hcz20_6, hfz20_0⟩ := y7 w17 BK102.out))
   go_ret
   exact ⟨by first | rfl | (simp [errW_none, errW_some] <;> rfl) | (simp only [← hji3, ← hji4, ← hji6, ← hji7]; first | rfl | (simp [errW_none, errW_some] <;> rfl)) | (simp [*, errW_none, errW_some] <;> rfl), K2 HB GE101.out GE102.out⟩
 ·rw [if_neg c5] at H
  have c5b0 : decide ((ji3) ≤ (ji4)) = false := decide_eq_false c5
  clear c5
  obtain rfl := Option.some.inj H
  go_enter Try.func58, Try.ntmps58
  go_wp2_with (first | ((with_reducible refine gate_dst (N := 2) rfl ?_); (try (refine gate_guard (by rfl) ?_; dsimp only)); refine box_event rfl (N := 2) rfl (cs := #[.int .i64 a0_0, .int .i64 a0_1, .int .i64 a0_2, .int .i64 a0_3, .int .i64 a0_4, .int .i64 a0_5, .int .i64 a0_6]) (t := 80) BX ?_; intro gb101 hg w21 hbox hb; have BK101 := am (hbox); have GW101 := am (GH HB hg); have GE101 := GW101; replace HB := am (below_step (KL HB) hb); clear hb hbox hg) | ((with_reducible refine gate_dst (N := 3) rfl ?_); (try (refine gate_guard (by rfl) ?_; dsimp only)); refine box_event rfl (N := 3) rfl (cs := #[.int .i64 a1_0, .int .i64 a1_1, .int .i64 a1_2, .int .i64 a1_3, .int .i64 a1_4, .int .i64 a1_5, .int .i64 a1_6]) (t := 80) BX ?_; intro gb102 hg w22 hbox hb; have BK102 := am (hbox); have GW102 := am (GH1 HB GE101.out hg); have GE102 := GW102; replace HB := am (below_step (K1 HB GE101.out) hb); have NB101_102 := am (NL BK101 hg); have NB102_101 := am (NG BK101 hg); replace BK101 := am (BB BK101 hb); clear hb hbox hg; have hnb23 := NB101_102.out; have hnc23 := NB102_101.out; obtain ⟨hcz24_0, hcz24_1, hcz24_2, hcz24_3, hcz24_4, hcz24_5, hcz24_6, hfz24_0⟩ := y7 w22 BK101.out; obtain ⟨hcz25_0, hcz25_1, hcz25_2, hcz25_3, hcz25_4, hcz25_5, hcz25_6, hfz25_0⟩ := y7 w22 BK102.out))
  go_ret
  exact ⟨by first | rfl | (simp [errW_none, errW_some] <;> rfl) | (simp only [← hji3, ← hji4]; first | rfl | (simp [errW_none, errW_some] <;> rfl)) | (simp [*, errW_none, errW_some] <;> rfl), K2 HB GE101.out GE102.out⟩
def impl_CellsFind.l0 : Nat → List (S80) → Int → Int → Int → Int → Int → Option (Int)
 | 0, _, _, _, _, _, _ => none
 | k + 1, x7, x8, x9, x102000, x102001, x102002 => if x9 < x8 then (if 0 ≤ x9 then (if x9 < (x7.length : Int) then ((impl_in.f x102000 ((rd_T80 x7 x9).f0) ((rd_T80 x7 x9).f1)).bind fun t104 => (if t104 = true then ((impl_in.f x102001 ((rd_T80 x7 x9).f2) ((rd_T80 x7 x9).f3)).bind fun t105 => (if t105 = true then ((impl_in.f x102002 ((rd_T80 x7 x9).f4) ((rd_T80 x7 x9).f5)).bind fun t106 => (if t106 = true then (some ((rd_T80 x7 x9).f6)) else (impl_CellsFind.l0 k x7 x8 (wrap64 (x9 + 1)) x102000 x102001 x102002))) else (impl_CellsFind.l0 k x7 x8 (wrap64 (x9 + 1)) x102000 x102001 x102002))) else (impl_CellsFind.l0 k x7 x8 (wrap64 (x9 + 1)) x102000 x102001 x102002))) else (none)) else (none)) else (some (-1))
def impl_CellsFind.f (k : Nat) (l0 : List (S80)) (a1_0 : Int) (a1_1 : Int) (a1_2 : Int) : Option (Int) := impl_CellsFind.l0 k l0 (l0.length : Int) 0 a1_0 a1_1 a1_2
set_option maxHeartbeats 8000000 in
set_option maxRecDepth 100000 in
theorem impl_CellsFind.calls (k : Nat) (A0 : Option Addr) (c0 : Nat) (l0 : List (S80)) (a1_0 : Int) (a1_1 : Int) (a1_2 : Int) (r : Int) (w : World) (hr0 : Kd.C k80 w A0 l0.length l0) (hc0 : l0.length ≤ c0) (h : impl_CellsFind.f k l0 a1_0 a1_1 a1_2 = some r) :
  Calls Try.prog 59 #[.slice A0 l0.length c0, .agg #[.int .i64 a1_0, .int .i64 a1_1, .int .i64 a1_2]] w fun e w' => e = .returned (.int .i64 r) ∧ Below w.heap.size w w' := by
 have hu60 := Try.underlying60
 have hu80 := Try.underlying80
 have HR0 := Aside0.mk hr0
 have HC0 := Aside0.mk hc0
 clear hr0 hc0
 have HB := am (Below.refl w.heap.size w)
 have H : (impl_CellsFind.l0 k l0 (l0.length : Int) 0 a1_0 a1_1 a1_2) = some r := h
 clear h
 have H' := Aside0.mk H
 clear H
 go_enter Try.func59, Try.ntmps59
 go_wp2_with (first | ((with_reducible refine gate_dst (N := 3) rfl ?_); refine box_event rfl (N := 3) rfl (cs := #[.int .i64 a1_0, .int .i64 a1_1, .int .i64 a1_2]) (t := 60) BX ?_; intro gb101 hg w3 hbox hb; have BK101 := am (hbox); have GW101 := am (GH HB hg); have GE101 := GW101; replace HB := am (below_step (KL HB) hb); clear hb hbox hg))
 go_loopg [9] k (fun kq v9 w' => ∃ (x9_1 : Int), v9 = .int .i64 x9_1 ∧ Aside0 (impl_CellsFind.l0 kq l0 (l0.length : Int) x9_1 a1_0 a1_1 a1_2 = some r) ∧ Aside0 (kq ≤ k) ∧ Aside0 (w'.heap[gb101]? = some (.cells #[.int .i64 a1_0, .int .i64 a1_1, .int .i64 a1_2] 60 (0, 0))) ∧ Aside0 (Below w.heap.size w w'))
 case atStart => exact ⟨(0), (by first | rfl | (simp; done) | (simp [*]; done)), H', ⟨Nat.le_refl _⟩, ⟨KB BK101⟩, ⟨K1 HB GE101.out⟩⟩
 case round =>
  clear H'
  try clear p2
  obtain ⟨x9_1, rfl, HA, HK1, BK101, HB⟩ := hrel
  cases gk with
  | zero => exact absurd HA.out (by simp [impl_CellsFind.l0])
  | succ k1 =>
   have H := HA.out
   clear HA
   simp only [impl_CellsFind.l0] at H
   by_cases c4 : x9_1 < (l0.length : Int)
   ·rw [if_pos c4] at H
    have c4b0 : decide (x9_1 < (l0.length : Int)) = true := decide_eq_true c4
    clear c4
    by_cases c5 : 0 ≤ x9_1
    ·rw [if_pos c5] at H
     have c5b0 : decide (0 ≤ x9_1) = true := decide_eq_true c5
     clear c5
     by_cases c6 : x9_1 < (l0.length : Int)
     ·rw [if_pos c6] at H
      have c6b0 : decide (x9_1 < (l0.length : Int)) = true := decide_eq_true c6
      clear c6
      replace H := Option.bind_eq_some_iff.mp H
      obtain ⟨t104, A70, H⟩ := H
      replace H : (if t104 = true then ((impl_in.f a1_1 ((rd_T80 l0 x9_1).f2) ((rd_T80 l0 x9_1).f3)).bind fun t105 => (if t105 = true then ((impl_in.f a1_2 ((rd_T80 l0 x9_1).f4) ((rd_T80 l0 x9_1).f5)).bind fun t106 => (if t106 = true then (some ((rd_T80 l0 x9_1).f6)) else (impl_CellsFind.l0 k1 l0 (l0.length : Int) (wrap64 (x9_1 + 1)) a1_0 a1_1 a1_2))) else (impl_CellsFind.l0 k1 l0 (l0.length : Int) (wrap64 (x9_1 + 1)) a1_0 a1_1 a1_2))) else (impl_CellsFind.l0 k1 l0 (l0.length : Int) (wrap64 (x9_1 + 1)) a1_0 a1_1 a1_2)) = some r := H
      have A7 := Aside0.mk A70
      clear A70
      by_cases c8 : t104 = true
      ·subst c8
       have H1 : ((impl_in.f a1_1 ((rd_T80 l0 x9_1).f2) ((rd_T80 l0 x9_1).f3)).bind fun t105 => (if t105 = true then ((impl_in.f a1_2 ((rd_T80 l0 x9_1).f4) ((rd_T80 l0 x9_1).f5)).bind fun t106 => (if t106 = true then (some ((rd_T80 l0 x9_1).f6)) else (impl_CellsFind.l0 k1 l0 (l0.length : Int) (wrap64 (x9_1 + 1)) a1_0 a1_1 a1_2))) else (impl_CellsFind.l0 k1 l0 (l0.length : Int) (wrap64 (x9_1 + 1)) a1_0 a1_1 a1_2))) = some r := by rw [if_pos rfl] at H; exact H
       clear H
       have H := H1
       clear H1
       replace H := Option.bind_eq_some_iff.mp H
       obtain ⟨t105, A90, H⟩ := H
       replace H : (if t105 = true then ((impl_in.f a1_2 ((rd_T80 l0 x9_1).f4) ((rd_T80 l0 x9_1).f5)).bind fun t106 => (if t106 = true then (some ((rd_T80 l0 x9_1).f6)) else (impl_CellsFind.l0 k1 l0 (l0.length : Int) (wrap64 (x9_1 + 1)) a1_0 a1_1 a1_2))) else (impl_CellsFind.l0 k1 l0 (l0.length : Int) (wrap64 (x9_1 + 1)) a1_0 a1_1 a1_2)) = some r := H
       have A9 := Aside0.mk A90
       clear A90
       by_cases c10 : t105 = true
       ·subst c10
        have H1 : ((impl_in.f a1_2 ((rd_T80 l0 x9_1).f4) ((rd_T80 l0 x9_1).f5)).bind fun t106 => (if t106 = true then (some ((rd_T80 l0 x9_1).f6)) else (impl_CellsFind.l0 k1 l0 (l0.length : Int) (wrap64 (x9_1 + 1)) a1_0 a1_1 a1_2))) = some r := by rw [if_pos rfl] at H; exact H
        clear H
        have H := H1
        clear H1
        replace H := Option.bind_eq_some_iff.mp H
        obtain ⟨t106, A110, H⟩ := H
        replace H : (if t106 = true then (some ((rd_T80 l0 x9_1).f6)) else (impl_CellsFind.l0 k1 l0 (l0.length : Int) (wrap64 (x9_1 + 1)) a1_0 a1_1 a1_2)) = some r := H
        have A11 := Aside0.mk A110
        clear A110
        by_cases c12 : t106 = true
        ·subst c12
         have H1 : (some ((rd_T80 l0 x9_1).f6)) = some r := by rw [if_pos rfl] at H; exact H
         clear H
         have H := H1
         clear H1
         obtain rfl := Option.some.inj H
         have p102 : 0 ≤ (x9_1 : Int) := OD
         have q102 : x9_1 < (l0.length : Int) := OD
         obtain ⟨ad102, e102, hx102_0, hx102_1, hx102_2, hx102_3, hx102_4, hx102_5, hx102_6⟩ := at_T80 HR0.out x9_1 p102 q102
         cases e102
         replace hx102_0 := CX HB.out hx102_0
         replace hx102_1 := CX HB.out hx102_1
         replace hx102_2 := CX HB.out hx102_2
         replace hx102_3 := CX HB.out hx102_3
         replace hx102_4 := CX HB.out hx102_4
         replace hx102_5 := CX HB.out hx102_5
         replace hx102_6 := CX HB.out hx102_6
         replace p102 := eq_true p102
         replace q102 := eq_true q102
         go_wp2_with (first | ((with_reducible refine gate_dst (N := 6) rfl ?_); refine box_event rfl (N := 6) rfl (cs := #[.int .i64 0, .int .i64 0, .int .i64 0, .int .i64 0, .int .i64 0, .int .i64 0, .int .i64 0]) (t := 80) BX ?_; intro gb103 hg w13 hbox hb; have BK103 := am (hbox); have GW103 := am (GH1 HB GE101.out hg); have GE103 := GW103; replace HB := am (below_step (K1 HB GE101.out) hb); have NB101_103 := am (NL BK101 hg); have NB103_101 := am (NG BK101 hg); replace BK101 := am (BB BK101 hb); clear hb hbox hg; have hnb14 := NB103_101.out; have hnc14 := NB101_103.out; obtain ⟨hcz15_0, hcz15_1, hcz15_2, hcz15_3, hcz15_4, hcz15_5, hcz15_6, hfz15_0⟩ := y7 w13 BK103.out; obtain ⟨hcz16_0, hcz16_1, hcz16_2, hfz16_0⟩ := y3 w13 BK101.out) | ((with_reducible refine gate_callee (f := 81) rfl ?_); refine goesL_ (some 19) rfl rfl Try.func81 (by kernel_rfl) rfl #[.int .i64 a1_0, .int .i64 ((rd_T80 l0 x9_1).f0), .int .i64 ((rd_T80 l0 x9_1).f1)] rfl MT ?_; (with_reducible refine (impl_in.calls a1_0 ((rd_T80 l0 x9_1).f0) ((rd_T80 l0 x9_1).f1) true _ A7.out).mono ?_); rintro e w' ⟨rfl, ⟨nd, rfl⟩⟩; refine ⟨_, rfl, ?_⟩) | (go_at_call 81; (with_reducible refine (impl_in.calls a1_1 ((rd_T80 l0 x9_1).f2) ((rd_T80 l0 x9_1).f3) true _ A9.out).mono ?_); rintro e w' ⟨rfl, ⟨nd, rfl⟩⟩) | (go_at_call 81; (with_reducible refine (impl_in.calls a1_2 ((rd_T80 l0 x9_1).f4) ((rd_T80 l0 x9_1).f5) true _ A11.out).mono ?_); rintro e w' ⟨rfl, ⟨nd, rfl⟩⟩))
         go_ret
         exact ⟨ER, K2 HB GE101.out GE103.out⟩
        ·replace c12 := Bool.eq_false_iff.mpr c12
         subst c12
         have H1 : (impl_CellsFind.l0 k1 l0 (l0.length : Int) (wrap64 (x9_1 + 1)) a1_0 a1_1 a1_2) = some r := by rw [if_neg (show ¬ (false = true) by decide)] at H; exact H
         clear H
         have H := H1
         clear H1
         have H' := Aside0.mk H
         clear H
         have p102 : 0 ≤ (x9_1 : Int) := OD
         have q102 : x9_1 < (l0.length : Int) := OD
         obtain ⟨ad102, e102, hx102_0, hx102_1, hx102_2, hx102_3, hx102_4, hx102_5, hx102_6⟩ := at_T80 HR0.out x9_1 p102 q102
         cases e102
         replace hx102_0 := CX HB.out hx102_0
         replace hx102_1 := CX HB.out hx102_1
         replace hx102_2 := CX HB.out hx102_2
         replace hx102_3 := CX HB.out hx102_3
         replace hx102_4 := CX HB.out hx102_4
         replace hx102_5 := CX HB.out hx102_5
         replace hx102_6 := CX HB.out hx102_6
         replace p102 := eq_true p102
         replace q102 := eq_true q102
         go_wp2_with (first | ((with_reducible refine gate_dst (N := 6) rfl ?_); refine box_event rfl (N := 6) rfl (cs := #[.int .i64 0, .int .i64 0, .int .i64 0, .int .i64 0, .int .i64 0, .int .i64 0, .int .i64 0]) (t := 80) BX ?_; intro gb103 hg w17 hbox hb; have BK103 := am (hbox); have GW103 := am (GH1 HB GE101.out hg); have GE103 := GW103; replace HB := am (below_step (K1 HB GE101.out) hb); have NB101_103 := am (NL BK101 hg); have NB103_101 := am (NG BK101 hg); replace BK101 := am (BB BK101 hb); clear hb hbox hg; have hnb18 := NB103_101.out; have hnc18 := NB101_103.out; obtain ⟨hcz19_0, hcz19_1, hcz19_2, hcz19_3, hcz19_4, hcz19_5, hcz19_6, hfz19_0⟩ := y7 w17 BK103.out; obtain ⟨hcz20_0, hcz20_1, hcz20_2, hfz20_0⟩ := y3 w17 BK101.out) | ((with_reducible refine gate_callee (f := 81) rfl ?_); refine goesL_ (some 19) rfl rfl Try.func81 (by kernel_rfl) rfl #[.int .i64 a1_0, .int .i64 ((rd_T80 l0 x9_1).f0), .int .i64 ((rd_T80 l0 x9_1).f1)] rfl MT ?_; (with_reducible refine (impl_in.calls a1_0 ((rd_T80 l0 x9_1).f0) ((rd_T80 l0 x9_1).f1) true _ A7.out).mono ?_); rintro e w' ⟨rfl, ⟨nd, rfl⟩⟩; refine ⟨_, rfl, ?_⟩) | (go_at_call 81; (with_reducible refine (impl_in.calls a1_1 ((rd_T80 l0 x9_1).f2) ((rd_T80 l0 x9_1).f3) true _ A9.out).mono ?_); rintro e w' ⟨rfl, ⟨nd, rfl⟩⟩) | (go_at_call 81; (with_reducible refine (impl_in.calls a1_2 ((rd_T80 l0 x9_1).f4) ((rd_T80 l0 x9_1).f5) false _ A11.out).mono ?_); rintro e w' ⟨rfl, ⟨nd, rfl⟩⟩))
         go_roundg k1
         case measure => have := HK1.out; omega
         case rel => exact ⟨(wrap64 (x9_1 + 1)), (by first | rfl | (simp; done) | (simp [*]; done)), H', ⟨by have := HK1.out; omega⟩, ⟨by (with_reducible repeat (first | refine blk_drewN ?_ _ | refine blk_drew ?_ | refine blk_alloc ?_ _)); refine blk_far ?_ NB101_103.out _; (with_reducible repeat (first | refine blk_drewN ?_ _ | refine blk_drew ?_ | refine blk_alloc ?_ _)); refine blk_far ?_ NB101_103.out _; (with_reducible repeat (first | refine blk_drewN ?_ _ | refine blk_drew ?_ | refine blk_alloc ?_ _)); refine blk_far ?_ NB101_103.out _; (with_reducible repeat (first | refine blk_drewN ?_ _ | refine blk_drew ?_ | refine blk_alloc ?_ _)); refine blk_far ?_ NB101_103.out _; (with_reducible repeat (first | refine blk_drewN ?_ _ | refine blk_drew ?_ | refine blk_alloc ?_ _)); refine blk_far ?_ NB101_103.out _; (with_reducible repeat (first | refine blk_drewN ?_ _ | refine blk_drew ?_ | refine blk_alloc ?_ _)); refine blk_far ?_ NB101_103.out _; (with_reducible repeat (first | refine blk_drewN ?_ _ | refine blk_drew ?_ | refine blk_alloc ?_ _)); refine blk_far ?_ NB101_103.out _; (with_reducible repeat (first | refine blk_drewN ?_ _ | refine blk_drew ?_ | refine blk_alloc ?_ _)); exact BK101.out⟩, ⟨K2 HB GE101.out GE103.out⟩⟩
       ·replace c10 := Bool.eq_false_iff.mpr c10
        subst c10
        have H1 : (impl_CellsFind.l0 k1 l0 (l0.length : Int) (wrap64 (x9_1 + 1)) a1_0 a1_1 a1_2) = some r := by rw [if_neg (show ¬ (false = true) by decide)] at H; exact H
        clear H
        have H := H1
        clear H1
        have H' := Aside0.mk H
        clear H
        have p102 : 0 ≤ (x9_1 : Int) := OD
        have q102 : x9_1 < (l0.length : Int) := OD
        obtain ⟨ad102, e102, hx102_0, hx102_1, hx102_2, hx102_3, hx102_4, hx102_5, hx102_6⟩ := at_T80 HR0.out x9_1 p102 q102
        cases e102
        replace hx102_0 := CX HB.out hx102_0
        replace hx102_1 := CX HB.out hx102_1
        replace hx102_2 := CX HB.out hx102_2
        replace hx102_3 := CX HB.out hx102_3
        replace hx102_4 := CX HB.out hx102_4
        replace hx102_5 := CX HB.out hx102_5
        replace hx102_6 := CX HB.out hx102_6
        replace p102 := eq_true p102
        replace q102 := eq_true q102
        go_wp2_with (first | ((with_reducible refine gate_dst (N := 6) rfl ?_); refine box_event rfl (N := 6) rfl (cs := #[.int .i64 0, .int .i64 0, .int .i64 0, .int .i64 0, .int .i64 0, .int .i64 0, .int .i64 0]) (t := 80) BX ?_; intro gb103 hg w21 hbox hb; have BK103 := am (hbox); have GW103 := am (GH1 HB GE101.out hg); have GE103 := GW103; replace HB := am (below_step (K1 HB GE101.out) hb); have NB101_103 := am (NL BK101 hg); have NB103_101 := am (NG BK101 hg); replace BK101 := am (BB BK101 hb); clear hb hbox hg; have hnb22 := NB103_101.out; have hnc22 := NB101_103.out; obtain ⟨hcz23_0, hcz23_1, hcz23_2, hcz23_3, hcz23_4, hcz23_5, hcz23_6, hfz23_0⟩ := y7 w21 BK103.out; obtain ⟨hcz24_0, hcz24_1, hcz24_2, hfz24_0⟩ := y3 w21 BK101.out) | ((with_reducible refine gate_callee (f := 81) rfl ?_); refine goesL_ (some 19) rfl rfl Try.func81 (by kernel_rfl) rfl #[.int .i64 a1_0, .int .i64 ((rd_T80 l0 x9_1).f0), .int .i64 ((rd_T80 l0 x9_1).f1)] rfl MT ?_; (with_reducible refine (impl_in.calls a1_0 ((rd_T80 l0 x9_1).f0) ((rd_T80 l0 x9_1).f1) true _ A7.out).mono ?_); rintro e w' ⟨rfl, ⟨nd, rfl⟩⟩; refine ⟨_, rfl, ?_⟩) | (go_at_call 81; (with_reducible refine (impl_in.calls a1_1 ((rd_T80 l0 x9_1).f2) ((rd_T80 l0 x9_1).f3) false _ A9.out).mono ?_); rintro e w' ⟨rfl, ⟨nd, rfl⟩⟩))
        go_roundg k1
        case measure => have := HK1.out; omega
        case rel => exact ⟨(wrap64 (x9_1 + 1)), (by first | rfl | (simp; done) | (simp [*]; done)), H', ⟨by have := HK1.out; omega⟩, ⟨by (with_reducible repeat (first | refine blk_drewN ?_ _ | refine blk_drew ?_ | refine blk_alloc ?_ _)); refine blk_far ?_ NB101_103.out _; (with_reducible repeat (first | refine blk_drewN ?_ _ | refine blk_drew ?_ | refine blk_alloc ?_ _)); refine blk_far ?_ NB101_103.out _; (with_reducible repeat (first | refine blk_drewN ?_ _ | refine blk_drew ?_ | refine blk_alloc ?_ _)); refine blk_far ?_ NB101_103.out _; (with_reducible repeat (first | refine blk_drewN ?_ _ | refine blk_drew ?_ | refine blk_alloc ?_ _)); refine blk_far ?_ NB101_103.out _; (with_reducible repeat (first | refine blk_drewN ?_ _ | refine blk_drew ?_ | refine blk_alloc ?_ _)); refine blk_far ?_ NB101_103.out _; (with_reducible repeat (first | refine blk_drewN ?_ _ | refine blk_drew ?_ | refine blk_alloc ?_ _)); refine blk_far ?_ NB101_103.out _; (with_reducible repeat (first | refine blk_drewN ?_ _ | refine blk_drew ?_ | refine blk_alloc ?_ _)); refine blk_far ?_ NB101_103.out _; (with_reducible repeat (first | refine blk_drewN ?_ _ | refine blk_drew ?_ | refine blk_alloc ?_ _)); exact BK101.out⟩, ⟨K2 HB GE101.out GE103.out⟩⟩
      ·replace c8 := Bool.eq_false_iff.mpr c8
       subst c8
       have H1 : (impl_CellsFind.l0 k1 l0 (l0.length : Int) (wrap64 (x9_1 + 1)) a1_0 a1_1 a1_2) = some r := by rw [if_neg (show ¬ (false = true) by decide)] at H; exact H
       clear H
       have H := H1
       clear H1
       have H' := Aside0.mk H
       clear H
       have p102 : 0 ≤ (x9_1 : Int) := OD
       have q102 : x9_1 < (l0.length : Int) := OD
       obtain ⟨ad102, e102, hx102_0, hx102_1, hx102_2, hx102_3, hx102_4, hx102_5, hx102_6⟩ := at_T80 HR0.out x9_1 p102 q102
       cases e102
       replace hx102_0 := CX HB.out hx102_0
       replace hx102_1 := CX HB.out hx102_1
       replace hx102_2 := CX HB.out hx102_2
       replace hx102_3 := CX HB.out hx102_3
       replace hx102_4 := CX HB.out hx102_4
       replace hx102_5 := CX HB.out hx102_5
       replace hx102_6 := CX HB.out hx102_6
       replace p102 := eq_true p102
       replace q102 := eq_true q102
       go_wp2_with (first | ((with_reducible refine gate_dst (N := 6) rfl ?_); refine box_event rfl (N := 6) rfl (cs := #[.int .i64 0, .int .i64 0, .int .i64 0, .int .i64 0, .int .i64 0, .int .i64 0, .int .i64 0]) (t := 80) BX ?_; intro gb103 hg w25 hbox hb; have BK103 := am (hbox); have GW103 := am (GH1 HB GE101.out hg); have GE103 := GW103; replace HB := am (below_step (K1 HB GE101.out) hb); have NB101_103 := am (NL BK101 hg); have NB103_101 := am (NG BK101 hg); replace BK101 := am (BB BK101 hb); clear hb hbox hg; have hnb26 := NB103_101.out; have hnc26 := NB101_103.out; obtain ⟨hcz27_0, hcz27_1, hcz27_2, hcz27_3, hcz27_4, hcz27_5, hcz27_6, hfz27_0⟩ := y7 w25 BK103.out; obtain ⟨hcz28_0, hcz28_1, hcz28_2, hfz28_0⟩ := y3 w25 BK101.out) | ((with_reducible refine gate_callee (f := 81) rfl ?_); refine goesL_ (some 19) rfl rfl Try.func81 (by kernel_rfl) rfl #[.int .i64 a1_0, .int .i64 ((rd_T80 l0 x9_1).f0), .int .i64 ((rd_T80 l0 x9_1).f1)] rfl MT ?_; (with_reducible refine (impl_in.calls a1_0 ((rd_T80 l0 x9_1).f0) ((rd_T80 l0 x9_1).f1) false _ A7.out).mono ?_); rintro e w' ⟨rfl, ⟨nd, rfl⟩⟩; refine ⟨_, rfl, ?_⟩))
       go_roundg k1
       case measure => have := HK1.out; omega
       case rel => exact ⟨(wrap64 (x9_1 + 1)), (by first | rfl | (simp; done) | (simp [*]; done)), H', ⟨by have := HK1.out; omega⟩, ⟨by (with_reducible repeat (first | refine blk_drewN ?_ _ | refine blk_drew ?_ | refine blk_alloc ?_ _)); refine blk_far ?_ NB101_103.out _; (with_reducible repeat (first | refine blk_drewN ?_ _ | refine blk_drew ?_ | refine blk_alloc ?_ _)); refine blk_far ?_ NB101_103.out _; (with_reducible repeat (first | refine blk_drewN ?_ _ | refine blk_drew ?_ | refine blk_alloc ?_ _)); refine blk_far ?_ NB101_103.out _; (with_reducible repeat (first | refine blk_drewN ?_ _ | refine blk_drew ?_ | refine blk_alloc ?_ _)); refine blk_far ?_ NB101_103.out _; (with_reducible repeat (first | refine blk_drewN ?_ _ | refine blk_drew ?_ | refine blk_alloc ?_ _)); refine blk_far ?_ NB101_103.out _; (with_reducible repeat (first | refine blk_drewN ?_ _ | refine blk_drew ?_ | refine blk_alloc ?_ _)); refine blk_far ?_ NB101_103.out _; (with_reducible repeat (first | refine blk_drewN ?_ _ | refine blk_drew ?_ | refine blk_alloc ?_ _)); refine blk_far ?_ NB101_103.out _; (with_reducible repeat (first | refine blk_drewN ?_ _ | refine blk_drew ?_ | refine blk_alloc ?_ _)); exact BK101.out⟩, ⟨K2 HB GE101.out GE103.out⟩⟩
     ·rw [if_neg c6] at H
      exact absurd H (by simp)
    ·rw [if_neg c5] at H
     exact absurd H (by simp)
   ·rw [if_neg c4] at H
    have c4b0 : decide (x9_1 < (l0.length : Int)) = false := decide_eq_false c4
    clear c4
    obtain rfl := Option.some.inj H
    go_wp2
    go_ret
    exact ⟨ER, K1 HB GE101.out⟩
end Go.Proofs.Ytkgbgaojglcaoaa.PAll
end
