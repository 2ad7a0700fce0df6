/- Contracts of the functions that the statement reaches, printed by a program out of the translation and joined with the plain laws. -/
import Derived.Test.YtioghacieopbdaaCFnCacheRun3
import Derived.Test.YtioghacieopbdaaCFnCacheRun4
import Derived.Test.YtioghacieopbdaaCFnCacheRun6
section
namespace Go.Proofs.Ytioghacieopbdaa.PAll
open Go.RowKit Go.Proofs.YtioghacieopbdaaW.PrintWords Go.Proofs.YtioghacieopbdaaW.PrintLast Go.Proofs.YtioghacieopbdaaW.PrintMore
attribute [local go_sem] max2_int min2_int max_two min_two max_three min_three max_four min_four   -- for this text's walks alone
set_option linter.unusedVariables false
set_option linter.unusedSimpArgs false
def spec_l12Rules.l0 : Nat → List (S34) → Int → List Int → Int → Option ((List (S34)) × Int)
 | 0, _, _, _, _ => none
 | k + 1, x3, x4, x1000, x1001 => if x4 > 0 then ((spec_l12Rule.f k x1000 x1001).bind fun bt106 => (if x3.length < 2199023255552 then (spec_l12Rules.l0 k (x3 ++ [(⟨bt106.1, bt106.2.1, (⟨bt106.2.2.1, bt106.2.2.2.1⟩ : S32), (⟨bt106.2.2.2.2.1, bt106.2.2.2.2.2.1⟩ : S32), bt106.2.2.2.2.2.2.1, bt106.2.2.2.2.2.2.2.1⟩ : S34)]) (wrap64 (x4 - 1)) x1000 bt106.2.2.2.2.2.2.2.2) else (none))) else ((spec_l1Rd_pick.f k x1000 x1001 2).bind fun bt118 => (if bt118.1 = 0 then ((spec_l1Rd_one.f k x1000 bt118.2 (([1, 2, 2] : List Int))).bind fun bt123 => ((spec_l1Over.f k 0 0).bind fun bt125 => ((spec_l1Over.f k 0 0).bind fun bt127 => (if x3.length < 2199023255552 then (some ((x3 ++ [(⟨bt123.1, 0, (⟨bt125.1, bt125.2⟩ : S32), (⟨bt127.1, bt127.2⟩ : S32), 0, 65535⟩ : S34)]), bt123.2)) else (none))))) else (some (x3, bt118.2))))
def spec_l12Rules.f (k : Nat) (s0_0 : List Int) (s0_1 : Int) : Option ((List (S34)) × Int) := (spec_l1Rd_pick.f k s0_0 s0_1 5).bind fun bt104 => (spec_l12Rules.l0 k (([] : List (S34))) bt104.1 s0_0 bt104.2)
set_option maxHeartbeats 8000000 in
set_option maxRecDepth 100000 in
theorem spec_l12Rules.calls (k : Nat) (g : Nat) (s0_0 : List Int) (s0_1 : Int) (r1 : List (S34)) (r2 : Int) (w0 w : World) (hI : IsS143 w0 w g s0_0 s0_1) (hB : Below w0.heap.size w0 w) (h : spec_l12Rules.f k s0_0 s0_1 = some (r1, r2)) :
  Calls Try.prog 122 #[.pointer (some ⟨g, 0, none⟩)] w fun e w' => ∃ v0_ : Value, e = .returned (v0_) ∧ Kd.R k34 34 w' w.heap.size (fun _ => True) v0_ r1 ∧ IsS143 w0 w' g s0_0 r2 ∧ Below w0.heap.size w0 w' ∧ KeepBut w w' g none := by
 have hu34 := Try.underlying34
 have HI0 := Aside0.mk hI
 have HK := am (KeepBut.refl w g none)
 have HL := Aside0.mk hB.size
 clear hI
 have HW0 := Aside0.mk hB.size
 have HB := Aside0.mk hB
 clear hB
 have H : ((spec_l1Rd_pick.f k s0_0 s0_1 5).bind fun bt104 => (spec_l12Rules.l0 k (([] : List (S34))) bt104.1 s0_0 bt104.2)) = some (r1, r2) := h
 clear h
 obtain ⟨y101, hy101⟩ : ∃ y_ : List (S34), y_ = (([] : List (S34))) := ⟨_, rfl⟩
 replace H : ((spec_l1Rd_pick.f k s0_0 s0_1 5).bind fun bt104 => (spec_l12Rules.l0 k y101 bt104.1 s0_0 bt104.2)) = some (r1, r2) := by first | (rw [hy101]; with_reducible exact H) | (have H2_ := (Option.bind_some _ _).symm.trans H; rw [hy101]; with_reducible exact H2_) | (have H2_ := (Option.bind_some _ _).symm.trans H; with_reducible exact H2_) | with_reducible exact H | (rw [hy101]; exact H) | exact H
 have Ny101 := Aside0.mk hy101
 clear hy101
 replace H := Option.bind_eq_some_iff.mp H
 obtain ⟨⟨t104, t105⟩, A20, H⟩ := H
 replace H : (spec_l12Rules.l0 k y101 t104 s0_0 t105) = some (r1, r2) := H
 have A2 := Aside0.mk A20
 clear A20
 have H' := Aside0.mk H
 clear H
 go_enter Try.func122, Try.ntmps122
 go_wp2_with (first | ((with_reducible refine gate_dst (N := 5) rfl ?_); refine Kd.R_lit k34 _ 34 ?hg (N := 5) ?hd (xs := ([] : List (S34))) (inner := []) (ok := fun _ => True) (okp := fun _ => True) ?hr ?hp (fun _ hk => hk) trivial (Below.refl _ _) (Nat.le_refl _) (by simp) ?_; (case hd => rfl); (case hg => rfl); (case hr => first | (go_simp; done) | (go_simp; rfl)); (case hp => exact (Reps.none _ _)); intro v102 w3 ho4 hb hg_ hnew_; clear hg_ hnew_; (first | rw [← Ny101.out] at ho4 | (simp only [Int.reduceToNat] at ho4; rw [← Ny101.out] at ho4)); have HO103 := am (Kd.R_lower ho4 (keep_size (w := w) (g := g) (row := none) (J0 HK))); replace HK := am (KeepBut.trans (J0 HK) (KeepBut.of_below hb g none) (.inl rfl)); replace HB := am (below_step (K1 HB (IsS143.ge HI0.out)) hb); replace HI0 := am (IsS143.below (I143_0 HI0) hb); clear hb ho4) | ((with_reducible refine gate_callee (f := 91) rfl ?_); refine goesL_ (some 7) rfl rfl Try.func91 (by kernel_rfl) rfl #[.pointer (some ⟨g, 0, none⟩), .int .i64 5] rfl MT ?_; (with_reducible refine (spec_l1Rd_pick.calls k g s0_0 s0_1 5 t104 t105 w0 _ ?side1 ?side2 A2.out).mono ?_); (case side1 => exact I143_0 HI0); (case side2 => exact K1 HB (IsS143.ge HI0.out)); rintro e w5 ⟨rfl, hi, hb, hk⟩; refine ⟨_, rfl, ?_⟩; replace HO103 := am (Kd.R_mono (Kd.R_keep (IsS143.apart (show IsS143 w0 _ g s0_0 s0_1 from I143_0 HI0) (KR HO103) (by decide)) hk (fun _ h => h.2)) (fun _ h => h.1)); replace HK := am (KeepBut.trans (J0 HK) hk (.inl rfl)); replace HB := am (hb); replace HI0 := am (hi); (try clear hb); (try clear hb2); (try clear hk); (try clear hi)))
 go_loopg [3, 4] k (fun kq v3 v4 w' => ∃ (x3_1 : List (S34)) (x4_1 : Int) (x1001_1 : Int), v4 = .int .i64 x4_1 ∧ Aside0 (spec_l12Rules.l0 kq x3_1 x4_1 s0_0 x1001_1 = some (r1, r2)) ∧ Aside0 (kq ≤ k) ∧ Aside0 (Kd.R k34 34 w' w.heap.size (fun _ => True) v3 x3_1) ∧ Aside0 (IsS143 w0 w' g s0_0 x1001_1) ∧ Aside0 (KeepBut w w' g none) ∧ Aside0 (Below w0.heap.size w0 w'))
 case atStart => exact ⟨(y101), (t104), (t105), (by first | rfl | (simp; done) | (simp [*]; done)), H', ⟨Nat.le_refl _⟩, ⟨KR HO103⟩, ⟨I143_0 HI0⟩, ⟨J0 HK⟩, ⟨K1 HB (IsS143.ge HI0.out)⟩⟩
 case round =>
  clear H'
  try clear c1
  try clear p2
  obtain ⟨x3_1, x4_1, x1001_1, rfl, HA, HK1, HO_3, HI0, HK, HB⟩ := hrel
  cases gk with
  | zero => exact absurd HA.out (by simp [spec_l12Rules.l0])
  | succ k1 =>
   have H := HA.out
   clear HA
   simp only [spec_l12Rules.l0] at H
   by_cases c6 : x4_1 > 0
   ·rw [if_pos c6] at H
    have c6b0 : decide (0 < x4_1) = true := decide_eq_true c6
    clear c6
    replace H := Option.bind_eq_some_iff.mp H
    obtain ⟨⟨t106, t107, t108, t109, t110, t111, t112, t113, t114⟩, A70, H⟩ := H
    replace H : (if x3_1.length < 2199023255552 then (spec_l12Rules.l0 k1 (x3_1 ++ [(⟨t106, t107, (⟨t108, t109⟩ : S32), (⟨t110, t111⟩ : S32), t112, t113⟩ : S34)]) (wrap64 (x4_1 - 1)) s0_0 t114) else (none)) = some (r1, r2) := H
    have A7 := Aside0.mk A70
    clear A70
    by_cases c8 : x3_1.length < 2199023255552
    ·rw [if_pos c8] at H
     have LMc8 := Aside0.mk c8
     clear c8
     obtain ⟨y115, hy115⟩ : ∃ y_ : List (S34), y_ = (x3_1 ++ [(⟨t106, t107, (⟨t108, t109⟩ : S32), (⟨t110, t111⟩ : S32), t112, t113⟩ : S34)]) := ⟨_, rfl⟩
     replace H : (spec_l12Rules.l0 k1 y115 (wrap64 (x4_1 - 1)) s0_0 t114) = some (r1, r2) := by first | (rw [hy115]; with_reducible exact H) | (have H2_ := (Option.bind_some _ _).symm.trans H; rw [hy115]; with_reducible exact H2_) | (have H2_ := (Option.bind_some _ _).symm.trans H; with_reducible exact H2_) | with_reducible exact H | (rw [hy115]; exact H) | exact H
     have Ny115 := Aside0.mk hy115
     clear hy115
     have H' := Aside0.mk H
     clear H
     go_wp2_with (first | ((with_reducible refine gate_callee (f := 123) rfl ?_); refine goesL_ (some 14) rfl rfl Try.func123 (by kernel_rfl) rfl #[.pointer (some ⟨g, 0, none⟩)] rfl MT ?_; (with_reducible refine (spec_l12Rule.calls k1 g s0_0 x1001_1 t106 t107 t108 t109 t110 t111 t112 t113 t114 w0 _ ?side1 ?side2 A7.out).mono ?_); (case side1 => exact I143_0 HI0); (case side2 => exact K1 HB (IsS143.ge HI0.out)); rintro e w9 ⟨rfl, hi, hb, hk⟩; refine ⟨_, rfl, ?_⟩; replace HO_3 := am (Kd.R_mono (Kd.R_keep (IsS143.apart (show IsS143 w0 _ g s0_0 x1001_1 from I143_0 HI0) (KR HO_3) (by decide)) hk (fun _ h => h.2)) (fun _ h => h.1)); replace HK := am (KeepBut.trans (J0 HK) hk (.inl rfl)); replace HB := am (hb); replace HI0 := am (hi); (try clear hb); (try clear hb2); (try clear hk); (try clear hi)) | ((with_reducible refine gate_builtin (b := .append) (xs := #[.tmp 12, .tmp 15]) rfl ?_); at_builtin; refine Kd.R_append k34 w.heap.size rfl (.tmp 12) (.tmp 15) 23 34 (.agg #[(.int .i64 0), (.int .i64 0), (.int .i64 0), (.int .i64 0), (.int .i64 0), (.int .i64 0), (.int .i64 0), (.int .i64 0)]) 64 rfl Try.underlying23 info34 rfl (by decide) (by omega) u3 x3_1 (⟨t106, t107, (⟨t108, t109⟩ : S32), (⟨t110, t111⟩ : S32), t112, t113⟩ : S34) [.int .i64 t106, .int .i64 t107, .int .i64 t108, .int .i64 t109, .int .i64 t110, .int .i64 t111, .int .i64 t112, .int .i64 t113] (fun _ => True) (fun _ => False) rfl rfl ?aP (fun _ hk => hk.elim) ?aF ?aO (Below.refl _ _) ?aS ?aL ?_; (case aP => exact k34_mkM _ _ _ (⟨t106, t107, (⟨t108, t109⟩ : S32), (⟨t110, t111⟩ : S32), t112, t113⟩ : S34)); (case aF => exact (fun _ _ => trivial)); (case aO => exact (KR HO_3)); (case aS => exact (keep_size (w := w) (g := g) (row := none) (J0 HK))); (case aL => have := LMc8.out; omega); intro v116 w10 ho hb hg hat; rw [← Ny115.out] at ho; replace HB := am (below_weaken (K1 HB (IsS143.ge HI0.out)) HL.out hb); replace HI0 := am (IsS143.grown (I143_0 HI0) hg (IsS143.own_ne HI0.out HO_3.out (by decide))); replace HK := am (KeepBut.trans (J0 HK) (KeepBut.of_grown hg g) (Kd.R_base2 HO_3.out)); have HO117 := am (ho); clear HO_3; clear ho hb hg hat))
     go_roundg k1
     case measure => have := HK1.out; omega
     case rel => exact ⟨(y115), (wrap64 (x4_1 - 1)), (t114), (by first | rfl | (simp; done) | (simp [*]; done)), H', ⟨by have := HK1.out; omega⟩, ⟨KR HO117⟩, ⟨I143_0 HI0⟩, ⟨J0 HK⟩, ⟨K1 HB (IsS143.ge HI0.out)⟩⟩
    ·rw [if_neg c8] at H
     exact absurd H (by simp)
   ·rw [if_neg c6] at H
    have c6b0 : decide (0 < x4_1) = false := decide_eq_false c6
    clear c6
    replace H := Option.bind_eq_some_iff.mp H
    obtain ⟨⟨t118, t119⟩, A110, H⟩ := H
    replace H : (if t118 = 0 then ((spec_l1Rd_one.f k1 s0_0 t119 (([1, 2, 2] : List Int))).bind fun bt123 => ((spec_l1Over.f k1 0 0).bind fun bt125 => ((spec_l1Over.f k1 0 0).bind fun bt127 => (if x3_1.length < 2199023255552 then (some ((x3_1 ++ [(⟨bt123.1, 0, (⟨bt125.1, bt125.2⟩ : S32), (⟨bt127.1, bt127.2⟩ : S32), 0, 65535⟩ : S34)]), bt123.2)) else (none))))) else (some (x3_1, t119))) = some (r1, r2) := H
    have A11 := Aside0.mk A110
    clear A110
    by_cases c12 : t118 = 0
    ·rw [if_pos c12] at H
     have c12b0 : (t118 == 0) = true := beq_iff_eq.mpr c12
     have c12b1 : (t118 != 0) = false := bne_eq_false_iff_eq.mpr c12
     clear c12
     obtain ⟨y120, hy120⟩ : ∃ y_ : List Int, y_ = (([1, 2, 2] : List Int)) := ⟨_, rfl⟩
     replace H : ((spec_l1Rd_one.f k1 s0_0 t119 y120).bind fun bt123 => ((spec_l1Over.f k1 0 0).bind fun bt125 => ((spec_l1Over.f k1 0 0).bind fun bt127 => (if x3_1.length < 2199023255552 then (some ((x3_1 ++ [(⟨bt123.1, 0, (⟨bt125.1, bt125.2⟩ : S32), (⟨bt127.1, bt127.2⟩ : S32), 0, 65535⟩ : S34)]), bt123.2)) else (none))))) = some (r1, r2) := by first | (rw [hy120]; with_reducible exact H) | (have H2_ := (Option.bind_some _ _).symm.trans H; rw [hy120]; with_reducible exact H2_) | (have H2_ := (Option.bind_some _ _).symm.trans H; with_reducible exact H2_) | with_reducible exact H | (rw [hy120]; exact H) | exact H
     have Ny120 := Aside0.mk hy120
     clear hy120
     replace H := Option.bind_eq_some_iff.mp H
     obtain ⟨⟨t123, t124⟩, A130, H⟩ := H
     replace H : ((spec_l1Over.f k1 0 0).bind fun bt125 => ((spec_l1Over.f k1 0 0).bind fun bt127 => (if x3_1.length < 2199023255552 then (some ((x3_1 ++ [(⟨t123, 0, (⟨bt125.1, bt125.2⟩ : S32), (⟨bt127.1, bt127.2⟩ : S32), 0, 65535⟩ : S34)]), t124)) else (none)))) = some (r1, r2) := H
     have A13 := Aside0.mk A130
     clear A130
     replace H := Option.bind_eq_some_iff.mp H
     obtain ⟨⟨t125, t126⟩, A140, H⟩ := H
     replace H : ((spec_l1Over.f k1 0 0).bind fun bt127 => (if x3_1.length < 2199023255552 then (some ((x3_1 ++ [(⟨t123, 0, (⟨t125, t126⟩ : S32), (⟨bt127.1, bt127.2⟩ : S32), 0, 65535⟩ : S34)]), t124)) else (none))) = some (r1, r2) := H
     have A14 := Aside0.mk A140
     clear A140
     replace H := Option.bind_eq_some_iff.mp H
     obtain ⟨⟨t127, t128⟩, A150, H⟩ := H
     replace H : (if x3_1.length < 2199023255552 then (some ((x3_1 ++ [(⟨t123, 0, (⟨t125, t126⟩ : S32), (⟨t127, t128⟩ : S32), 0, 65535⟩ : S34)]), t124)) else (none)) = some (r1, r2) := H
     have A15 := Aside0.mk A150
     clear A150
     by_cases c16 : x3_1.length < 2199023255552
     ·rw [if_pos c16] at H
      have LMc16 := Aside0.mk c16
      clear c16
      obtain ⟨y129, hy129⟩ : ∃ y_ : List (S34), y_ = (x3_1 ++ [(⟨t123, 0, (⟨t125, t126⟩ : S32), (⟨t127, t128⟩ : S32), 0, 65535⟩ : S34)]) := ⟨_, rfl⟩
      replace H : (some (y129, t124)) = some (r1, r2) := by first | (rw [hy129]; with_reducible exact H) | (have H2_ := (Option.bind_some _ _).symm.trans H; rw [hy129]; with_reducible exact H2_) | (have H2_ := (Option.bind_some _ _).symm.trans H; with_reducible exact H2_) | with_reducible exact H | (rw [hy129]; exact H) | exact H
      have Ny129 := Aside0.mk hy129
      clear hy129
      simp only [Option.some.injEq, Prod.mk.injEq] at H
      obtain ⟨rfl, rfl⟩ := H
      go_wp2_with (first | ((with_reducible refine gate_callee (f := 91) rfl ?_); refine goesL_ (some 18) rfl rfl Try.func91 (by kernel_rfl) rfl #[.pointer (some ⟨g, 0, none⟩), .int .i64 2] rfl MT ?_; (with_reducible refine (spec_l1Rd_pick.calls k1 g s0_0 x1001_1 2 t118 t119 w0 _ ?side1 ?side2 A11.out).mono ?_); (case side1 => exact I143_0 HI0); (case side2 => exact K1 HB (IsS143.ge HI0.out)); rintro e w17 ⟨rfl, hi, hb, hk⟩; refine ⟨_, rfl, ?_⟩; replace HO_3 := am (Kd.R_mono (Kd.R_keep (IsS143.apart (show IsS143 w0 _ g s0_0 x1001_1 from I143_0 HI0) (KR HO_3) (by decide)) hk (fun _ h => h.2)) (fun _ h => h.1)); replace HK := am (KeepBut.trans (J0 HK) hk (.inl rfl)); replace HB := am (hb); replace HI0 := am (hi); (try clear hb); (try clear hb2); (try clear hk); (try clear hi)) | ((with_reducible refine gate_dst (N := 22) rfl ?_); refine Kd.R_lit (Kd.int .i64) _ 3 ?hg (N := 22) ?hd (xs := ([1, 2, 2] : List Int)) (inner := [.int .i64 1, .int .i64 2, .int .i64 2]) (ok := fun _ => True) (okp := fun _ => True) ?hr ?hp (fun _ hk => hk) trivial (Below.refl _ _) (Nat.le_refl _) (by simp) ?_; (case hd => rfl); (case hg => rfl); (case hr => first | (go_simp; done) | (go_simp; rfl)); (case hp => exact (Reps.one (show Kd.M (Kd.int .i64) _ _ _ 1 [.int .i64 1] from rfl) (Reps.one (show Kd.M (Kd.int .i64) _ _ _ 2 [.int .i64 2] from rfl) (Reps.one (show Kd.M (Kd.int .i64) _ _ _ 2 [.int .i64 2] from rfl) (Reps.none _ _))))); intro v121 w18 ho19 hb hg_ hnew_; clear hg_ hnew_; (first | rw [← Ny120.out] at ho19 | (simp only [Int.reduceToNat] at ho19; rw [← Ny120.out] at ho19)); replace HO_3 := am (Kd.R_below (KR HO_3) hb); have HO122 := am (Kd.R_lower ho19 (keep_size (w := w) (g := g) (row := none) (J0 HK))); replace HK := am (KeepBut.trans (J0 HK) (KeepBut.of_below hb g none) (.inl rfl)); replace HB := am (below_step (K1 HB (IsS143.ge HI0.out)) hb); replace HI0 := am (IsS143.below (I143_0 HI0) hb); clear hb ho19; obtain ⟨Ao20, co20, eo20⟩ := Kd.R_slice HO122.out; subst eo20) | ((with_reducible refine gate_callee (f := 95) rfl ?_); refine goesL_ (some 23) rfl rfl Try.func95 (by kernel_rfl) rfl #[.pointer (some ⟨g, 0, none⟩), .slice Ao20 y120.length co20] rfl MT ?_; (with_reducible refine (spec_l1Rd_one.calls k1 g s0_0 t119 _ _ y120 t123 t124 w0 _ ?side1 ?side2 ?side3 ?side4 ?side5 A13.out).mono ?_); (case side1 => exact I143_0 HI0); (case side2 => exact K1 HB (IsS143.ge HI0.out)); (case side3 => exact KC (Kd.R_reads' HO122.out).2.2); (case side4 => exact (Kd.R_reads' HO122.out).2.1); (case side5 => exact far_slice (IsS143.own_ne HI0.out HO122.out (by decide))); rintro e w21 ⟨rfl, hi, hb, hk⟩; refine ⟨_, rfl, ?_⟩; replace HO_3 := am (Kd.R_mono (Kd.R_keep (IsS143.apart (show IsS143 w0 _ g s0_0 t119 from I143_0 HI0) (KR HO_3) (by decide)) hk (fun _ h => h.2)) (fun _ h => h.1)); replace HO122 := am (Kd.R_mono (Kd.R_keep (IsS143.apart (show IsS143 w0 _ g s0_0 t119 from I143_0 HI0) (KR HO122) (by decide)) hk (fun _ h => h.2)) (fun _ h => h.1)); replace HK := am (KeepBut.trans (J0 HK) hk (.inl rfl)); replace HB := am (hb); replace HI0 := am (hi); (try clear hb); (try clear hb2); (try clear hk); (try clear hi)) | ((with_reducible refine gate_callee (f := 147) rfl ?_); refine goesL_ (some 24) rfl rfl Try.func147 (by kernel_rfl) rfl #[.int .i64 0, .int .i64 0] rfl MT ?_; (with_reducible refine (spec_l1Over.calls k1 0 0 t125 t126 _ A14.out).mono ?_); rintro e w22 ⟨rfl, hb⟩; refine ⟨_, rfl, ?_⟩; replace HO_3 := am (Kd.R_below (KR HO_3) hb); replace HO122 := am (Kd.R_below (KR HO122) hb); replace HK := am (KeepBut.trans (J0 HK) (KeepBut.of_below hb g none) (.inl rfl)); replace HB := am (below_step (K1 HB (IsS143.ge HI0.out)) hb); replace HI0 := am (IsS143.below (I143_0 HI0) hb); (try clear hb); (try clear hb2); (try clear hk); (try clear hi)) | ((with_reducible refine gate_callee (f := 147) rfl ?_); refine goesL_ (some 25) rfl rfl Try.func147 (by kernel_rfl) rfl #[.int .i64 0, .int .i64 0] rfl MT ?_; (with_reducible refine (spec_l1Over.calls k1 0 0 t127 t128 _ A15.out).mono ?_); rintro e w23 ⟨rfl, hb⟩; refine ⟨_, rfl, ?_⟩; replace HO_3 := am (Kd.R_below (KR HO_3) hb); replace HO122 := am (Kd.R_below (KR HO122) hb); replace HK := am (KeepBut.trans (J0 HK) (KeepBut.of_below hb g none) (.inl rfl)); replace HB := am (below_step (K1 HB (IsS143.ge HI0.out)) hb); replace HI0 := am (IsS143.below (I143_0 HI0) hb); (try clear hb); (try clear hb2); (try clear hk); (try clear hi)) | ((with_reducible refine gate_builtin (b := .append) (xs := #[.tmp 20, .tmp 27]) rfl ?_); at_builtin; refine Kd.R_append k34 w.heap.size rfl (.tmp 20) (.tmp 27) 23 34 (.agg #[(.int .i64 0), (.int .i64 0), (.int .i64 0), (.int .i64 0), (.int .i64 0), (.int .i64 0), (.int .i64 0), (.int .i64 0)]) 64 rfl Try.underlying23 info34 rfl (by decide) (by omega) u3 x3_1 (⟨t123, 0, (⟨t125, t126⟩ : S32), (⟨t127, t128⟩ : S32), 0, 65535⟩ : S34) [.int .i64 t123, .int .i64 0, .int .i64 t125, .int .i64 t126, .int .i64 t127, .int .i64 t128, .int .i64 0, .int .i64 65535] (fun _ => True) (fun _ => False) rfl rfl ?aP (fun _ hk => hk.elim) ?aF ?aO (Below.refl _ _) ?aS ?aL ?_; (case aP => exact k34_mkM _ _ _ (⟨t123, 0, (⟨t125, t126⟩ : S32), (⟨t127, t128⟩ : S32), 0, 65535⟩ : S34)); (case aF => exact (fun _ _ => trivial)); (case aO => exact (KR HO_3)); (case aS => exact (keep_size (w := w) (g := g) (row := none) (J0 HK))); (case aL => have := LMc16.out; omega); intro v130 w24 ho hb hg hat; rw [← Ny129.out] at ho; replace HO122 := am (Kd.R_over' (KR HO122) (Kd.R_typed (KR HO_3)) (by decide) hg); replace HB := am (below_weaken (K1 HB (IsS143.ge HI0.out)) HL.out hb); replace HI0 := am (IsS143.grown (I143_0 HI0) hg (IsS143.own_ne HI0.out HO_3.out (by decide))); replace HK := am (KeepBut.trans (J0 HK) (KeepBut.of_grown hg g) (Kd.R_base2 HO_3.out)); have HO131 := am (ho); clear HO_3; clear ho hb hg hat))
      go_ret
      exact ⟨_, by first | rfl | (simp [errW_none, errW_some] <;> rfl) | (simp [*, errW_none, errW_some] <;> rfl), by (with_reducible repeat (first | apply Kd.R_alloc | apply Kd.R_drewN | apply Kd.R_drew)); exact HO131.out, I143_0 HI0, K1 HB (IsS143.ge HI0.out), J0 HK⟩
     ·rw [if_neg c16] at H
      exact absurd H (by simp)
    ·rw [if_neg c12] at H
     have c12b0 : (t118 == 0) = false := beq_eq_false_iff_ne.mpr c12
     have c12b1 : (t118 != 0) = true := bne_iff_ne.mpr c12
     simp only [Option.some.injEq, Prod.mk.injEq] at H
     obtain ⟨rfl, rfl⟩ := H
     go_wp2_with (first | ((with_reducible refine gate_callee (f := 91) rfl ?_); refine goesL_ (some 18) rfl rfl Try.func91 (by kernel_rfl) rfl #[.pointer (some ⟨g, 0, none⟩), .int .i64 2] rfl MT ?_; (with_reducible refine (spec_l1Rd_pick.calls k1 g s0_0 x1001_1 2 t118 t119 w0 _ ?side1 ?side2 A11.out).mono ?_); (case side1 => exact I143_0 HI0); (case side2 => exact K1 HB (IsS143.ge HI0.out)); rintro e w25 ⟨rfl, hi, hb, hk⟩; refine ⟨_, rfl, ?_⟩; replace HO_3 := am (Kd.R_mono (Kd.R_keep (IsS143.apart (show IsS143 w0 _ g s0_0 x1001_1 from I143_0 HI0) (KR HO_3) (by decide)) hk (fun _ h => h.2)) (fun _ h => h.1)); replace HK := am (KeepBut.trans (J0 HK) hk (.inl rfl)); replace HB := am (hb); replace HI0 := am (hi); (try clear hb); (try clear hb2); (try clear hk); (try clear hi)))
     go_ret
     exact ⟨_, by first | rfl | (simp [errW_none, errW_some] <;> rfl) | (simp [*, errW_none, errW_some] <;> rfl), by (with_reducible repeat (first | apply Kd.R_alloc | apply Kd.R_drewN | apply Kd.R_drew)); exact HO_3.out, I143_0 HI0, K1 HB (IsS143.ge HI0.out), J0 HK⟩
end Go.Proofs.Ytioghacieopbdaa.PAll
end
section
namespace Go.Proofs.Ytioghacieopbdaa.PAll
open Go.RowKit Go.Proofs.YtioghacieopbdaaW.PrintWords Go.Proofs.YtioghacieopbdaaW.PrintLast Go.Proofs.YtioghacieopbdaaW.PrintMore
attribute [local go_sem] max2_int min2_int max_two min_two max_three min_three max_four min_four   -- for this text's walks alone
set_option linter.unusedVariables false
set_option linter.unusedSimpArgs false
def spec_l12AnyRules.l0 : Nat → List (S34) → List Int → Int → Option ((List (S34)) × Int)
 | 0, _, _, _ => none
 | k + 1, x3, x1000, x1001 => (spec_l1Rd_pick.f k x1000 x1001 2).bind fun bt131 => (if (x3.length : Int) < (wrap64 (8 + bt131.1)) then ((spec_l12Rule.f k x1000 bt131.2).bind fun bt133 => (if x3.length < 2199023255552 then (spec_l12AnyRules.l0 k (x3 ++ [(⟨bt133.1, bt133.2.1, (⟨bt133.2.2.1, bt133.2.2.2.1⟩ : S32), (⟨bt133.2.2.2.2.1, bt133.2.2.2.2.2.1⟩ : S32), bt133.2.2.2.2.2.2.1, bt133.2.2.2.2.2.2.2.1⟩ : S34)]) x1000 bt133.2.2.2.2.2.2.2.2) else (none))) else (some (x3, bt131.2)))
def spec_l12AnyRules.f (k : Nat) (s0_0 : List Int) (s0_1 : Int) : Option ((List (S34)) × Int) := (spec_l12Rules.f k s0_0 s0_1).bind fun bt101 => (if (bt101.1.length : Int) = 0 then (some (bt101.1, bt101.2)) else ((spec_l1Rd_pick.f k s0_0 bt101.2 (bt101.1.length : Int)).bind fun bt105 => ((spec_l1Rd_pick.f k s0_0 bt105.2 20).bind fun bt107 => (if bt107.1 = 0 then ((spec_l1Rd_one.f k s0_0 bt107.2 (([(-1), 3, 0] : List Int))).bind fun bt112 => (if 0 ≤ bt105.1 then (if bt105.1 < (bt101.1.length : Int) then (some ((bt101.1.set (bt105.1 : Int).toNat (⟨bt112.1, (rd_T34 bt101.1 bt105.1).f1, (⟨(rd_T34 bt101.1 bt105.1).f2.f0, (rd_T34 bt101.1 bt105.1).f2.f1⟩ : S32), (⟨(rd_T34 bt101.1 bt105.1).f3.f0, (rd_T34 bt101.1 bt105.1).f3.f1⟩ : S32), (rd_T34 bt101.1 bt105.1).f4, (rd_T34 bt101.1 bt105.1).f5⟩ : S34)), bt112.2)) else (none)) else (none))) else (if bt107.1 = 1 then ((spec_l1Rd_one.f k s0_0 bt107.2 (([(-1), 4, 1] : List Int))).bind fun bt118 => (if 0 ≤ bt105.1 then (if bt105.1 < (bt101.1.length : Int) then (some ((bt101.1.set (bt105.1 : Int).toNat (⟨(rd_T34 bt101.1 bt105.1).f0, bt118.1, (⟨(rd_T34 bt101.1 bt105.1).f2.f0, (rd_T34 bt101.1 bt105.1).f2.f1⟩ : S32), (⟨(rd_T34 bt101.1 bt105.1).f3.f0, (rd_T34 bt101.1 bt105.1).f3.f1⟩ : S32), (rd_T34 bt101.1 bt105.1).f4, (rd_T34 bt101.1 bt105.1).f5⟩ : S34)), bt118.2)) else (none)) else (none))) else (if bt107.1 = 2 then ((spec_l1Rd_one.f k s0_0 bt107.2 (([(-1), 65536] : List Int))).bind fun bt124 => (if 0 ≤ bt105.1 then (if bt105.1 < (bt101.1.length : Int) then (some ((bt101.1.set (bt105.1 : Int).toNat (⟨(rd_T34 bt101.1 bt105.1).f0, (rd_T34 bt101.1 bt105.1).f1, (⟨(rd_T34 bt101.1 bt105.1).f2.f0, (rd_T34 bt101.1 bt105.1).f2.f1⟩ : S32), (⟨(rd_T34 bt101.1 bt105.1).f3.f0, (rd_T34 bt101.1 bt105.1).f3.f1⟩ : S32), bt124.1, (rd_T34 bt101.1 bt105.1).f5⟩ : S34)), bt124.2)) else (none)) else (none))) else (if bt107.1 = 3 then ((spec_l12AnyBlock.f k s0_0 bt107.2).bind fun bt127 => (if 0 ≤ bt105.1 then (if bt105.1 < (bt101.1.length : Int) then (some ((bt101.1.set (bt105.1 : Int).toNat (⟨(rd_T34 bt101.1 bt105.1).f0, (rd_T34 bt101.1 bt105.1).f1, (⟨bt127.1, bt127.2.1⟩ : S32), (⟨(rd_T34 bt101.1 bt105.1).f3.f0, (rd_T34 bt101.1 bt105.1).f3.f1⟩ : S32), (rd_T34 bt101.1 bt105.1).f4, (rd_T34 bt101.1 bt105.1).f5⟩ : S34)), bt127.2.2)) else (none)) else (none))) else (if bt107.1 = 4 then (spec_l12AnyRules.l0 k bt101.1 s0_0 bt107.2) else (some (bt101.1, bt107.2))))))))))
set_option maxHeartbeats 8000000 in
set_option maxRecDepth 100000 in
theorem spec_l12AnyRules.calls (k : Nat) (g : Nat) (s0_0 : List Int) (s0_1 : Int) (r1 : List (S34)) (r2 : Int) (w0 w : World) (hI : IsS143 w0 w g s0_0 s0_1) (hB : Below w0.heap.size w0 w) (h : spec_l12AnyRules.f k s0_0 s0_1 = some (r1, r2)) :
  Calls Try.prog 71 #[.pointer (some ⟨g, 0, none⟩)] w fun e w' => ∃ v0_ : Value, e = .returned (v0_) ∧ Kd.R k34 34 w' w.heap.size (fun _ => True) v0_ r1 ∧ IsS143 w0 w' g s0_0 r2 ∧ Below w0.heap.size w0 w' ∧ KeepBut w w' g none := by
 have hu32 := Try.underlying32
 have HI0 := Aside0.mk hI
 have HK := am (KeepBut.refl w g none)
 have HL := Aside0.mk hB.size
 clear hI
 have HW0 := Aside0.mk hB.size
 have HB := Aside0.mk hB
 clear hB
 have H : ((spec_l12Rules.f k s0_0 s0_1).bind fun bt101 => (if (bt101.1.length : Int) = 0 then (some (bt101.1, bt101.2)) else ((spec_l1Rd_pick.f k s0_0 bt101.2 (bt101.1.length : Int)).bind fun bt105 => ((spec_l1Rd_pick.f k s0_0 bt105.2 20).bind fun bt107 => (if bt107.1 = 0 then ((spec_l1Rd_one.f k s0_0 bt107.2 (([(-1), 3, 0] : List Int))).bind fun bt112 => (if 0 ≤ bt105.1 then (if bt105.1 < (bt101.1.length : Int) then (some ((bt101.1.set (bt105.1 : Int).toNat (⟨bt112.1, (rd_T34 bt101.1 bt105.1).f1, (⟨(rd_T34 bt101.1 bt105.1).f2.f0, (rd_T34 bt101.1 bt105.1).f2.f1⟩ : S32), (⟨(rd_T34 bt101.1 bt105.1).f3.f0, (rd_T34 bt101.1 bt105.1).f3.f1⟩ : S32), (rd_T34 bt101.1 bt105.1).f4, (rd_T34 bt101.1 bt105.1).f5⟩ : S34)), bt112.2)) else (none)) else (none))) else (if bt107.1 = 1 then ((spec_l1Rd_one.f k s0_0 bt107.2 (([(-1), 4, 1] : List Int))).bind fun bt118 => (if 0 ≤ bt105.1 then (if bt105.1 < (bt101.1.length : Int) then (some ((bt101.1.set (bt105.1 : Int).toNat (⟨(rd_T34 bt101.1 bt105.1).f0, bt118.1, (⟨(rd_T34 bt101.1 bt105.1).f2.f0, (rd_T34 bt101.1 bt105.1).f2.f1⟩ : S32), (⟨(rd_T34 bt101.1 bt105.1).f3.f0, (rd_T34 bt101.1 bt105.1).f3.f1⟩ : S32), (rd_T34 bt101.1 bt105.1).f4, (rd_T34 bt101.1 bt105.1).f5⟩ : S34)), bt118.2)) else (none)) else (none))) else (if bt107.1 = 2 then ((spec_l1Rd_one.f k s0_0 bt107.2 (([(-1), 65536] : List Int))).bind fun bt124 => (if 0 ≤ bt105.1 then (if bt105.1 < (bt101.1.length : Int) then (some ((bt101.1.set (bt105.1 : Int).toNat (⟨(rd_T34 bt101.1 bt105.1).f0, (rd_T34 bt101.1 bt105.1).f1, (⟨(rd_T34 bt101.1 bt105.1).f2.f0, (rd_T34 bt101.1 bt105.1).f2.f1⟩ : S32), (⟨(rd_T34 bt101.1 bt105.1).f3.f0, (rd_T34 bt101.1 bt105.1).f3.f1⟩ : S32), bt124.1, (rd_T34 bt101.1 bt105.1).f5⟩ : S34)), bt124.2)) else (none)) else (none))) else (if bt107.1 = 3 then ((spec_l12AnyBlock.f k s0_0 bt107.2).bind fun bt127 => (if 0 ≤ bt105.1 then (if bt105.1 < (bt101.1.length : Int) then (some ((bt101.1.set (bt105.1 : Int).toNat (⟨(rd_T34 bt101.1 bt105.1).f0, (rd_T34 bt101.1 bt105.1).f1, (⟨bt127.1, bt127.2.1⟩ : S32), (⟨(rd_T34 bt101.1 bt105.1).f3.f0, (rd_T34 bt101.1 bt105.1).f3.f1⟩ : S32), (rd_T34 bt101.1 bt105.1).f4, (rd_T34 bt101.1 bt105.1).f5⟩ : S34)), bt127.2.2)) else (none)) else (none))) else (if bt107.1 = 4 then (spec_l12AnyRules.l0 k bt101.1 s0_0 bt107.2) else (some (bt101.1, bt107.2))))))))))) = some (r1, r2) := h
 clear h
 replace H := Option.bind_eq_some_iff.mp H
 obtain ⟨⟨t101, t104⟩, A20, H⟩ := H
 replace H : (if (t101.length : Int) = 0 then (some (t101, t104)) else ((spec_l1Rd_pick.f k s0_0 t104 (t101.length : Int)).bind fun bt105 => ((spec_l1Rd_pick.f k s0_0 bt105.2 20).bind fun bt107 => (if bt107.1 = 0 then ((spec_l1Rd_one.f k s0_0 bt107.2 (([(-1), 3, 0] : List Int))).bind fun bt112 => (if 0 ≤ bt105.1 then (if bt105.1 < (t101.length : Int) then (some ((t101.set (bt105.1 : Int).toNat (⟨bt112.1, (rd_T34 t101 bt105.1).f1, (⟨(rd_T34 t101 bt105.1).f2.f0, (rd_T34 t101 bt105.1).f2.f1⟩ : S32), (⟨(rd_T34 t101 bt105.1).f3.f0, (rd_T34 t101 bt105.1).f3.f1⟩ : S32), (rd_T34 t101 bt105.1).f4, (rd_T34 t101 bt105.1).f5⟩ : S34)), bt112.2)) else (none)) else (none))) else (if bt107.1 = 1 then ((spec_l1Rd_one.f k s0_0 bt107.2 (([(-1), 4, 1] : List Int))).bind fun bt118 => (if 0 ≤ bt105.1 then (if bt105.1 < (t101.length : Int) then (some ((t101.set (bt105.1 : Int).toNat (⟨(rd_T34 t101 bt105.1).f0, bt118.1, (⟨(rd_T34 t101 bt105.1).f2.f0, (rd_T34 t101 bt105.1).f2.f1⟩ : S32), (⟨(rd_T34 t101 bt105.1).f3.f0, (rd_T34 t101 bt105.1).f3.f1⟩ : S32), (rd_T34 t101 bt105.1).f4, (rd_T34 t101 bt105.1).f5⟩ : S34)), bt118.2)) else (none)) else (none))) else (if bt107.1 = 2 then ((spec_l1Rd_one.f k s0_0 bt107.2 (([(-1), 65536] : List Int))).bind fun bt124 => (if 0 ≤ bt105.1 then (if bt105.1 < (t101.length : Int) then (some ((t101.set (bt105.1 : Int).toNat (⟨(rd_T34 t101 bt105.1).f0, (rd_T34 t101 bt105.1).f1, (⟨(rd_T34 t101 bt105.1).f2.f0, (rd_T34 t101 bt105.1).f2.f1⟩ : S32), (⟨(rd_T34 t101 bt105.1).f3.f0, (rd_T34 t101 bt105.1).f3.f1⟩ : S32), bt124.1, (rd_T34 t101 bt105.1).f5⟩ : S34)), bt124.2)) else (none)) else (none))) else (if bt107.1 = 3 then ((spec_l12AnyBlock.f k s0_0 bt107.2).bind fun bt127 => (if 0 ≤ bt105.1 then (if bt105.1 < (t101.length : Int) then (some ((t101.set (bt105.1 : Int).toNat (⟨(rd_T34 t101 bt105.1).f0, (rd_T34 t101 bt105.1).f1, (⟨bt127.1, bt127.2.1⟩ : S32), (⟨(rd_T34 t101 bt105.1).f3.f0, (rd_T34 t101 bt105.1).f3.f1⟩ : S32), (rd_T34 t101 bt105.1).f4, (rd_T34 t101 bt105.1).f5⟩ : S34)), bt127.2.2)) else (none)) else (none))) else (if bt107.1 = 4 then (spec_l12AnyRules.l0 k t101 s0_0 bt107.2) else (some (t101, bt107.2)))))))))) = some (r1, r2) := H
 have A2 := Aside0.mk A20
 clear A20
 by_cases c3 : (t101.length : Int) = 0
 ·rw [if_pos c3] at H
  have c3b0 : ((t101.length : Int) == 0) = true := beq_iff_eq.mpr c3
  have c3b1 : ((t101.length : Int) != 0) = false := bne_eq_false_iff_eq.mpr c3
  clear c3
  simp only [Option.some.injEq, Prod.mk.injEq] at H
  obtain ⟨rfl, rfl⟩ := H
  go_enter Try.func71, Try.ntmps71
  go_wp2_with (first | ((with_reducible refine gate_callee (f := 122) rfl ?_); refine goesL_ (some 6) rfl rfl Try.func122 (by kernel_rfl) rfl #[.pointer (some ⟨g, 0, none⟩)] rfl MT ?_; (with_reducible refine (spec_l12Rules.calls k g s0_0 s0_1 t101 t104 w0 _ ?side1 ?side2 A2.out).mono ?_); (case side1 => exact I143_0 HI0); (case side2 => exact K1 HB (IsS143.ge HI0.out)); rintro e w4 ⟨v102, rfl, ho0, hi, hb, hk⟩; refine ⟨_, rfl, ?_⟩; have HO103 := am (Kd.R_lower ho0 (keep_size (w := w) (g := g) (row := none) (J0 HK))); replace HK := am (KeepBut.trans (J0 HK) hk (.inl rfl)); replace HB := am (hb); replace HI0 := am (hi); (try clear hb); (try clear hb2); (try clear hk); (try clear hi); (try clear ho0); obtain ⟨Ao5, co5, eo5⟩ := Kd.R_slice HO103.out; subst eo5))
  go_ret
  exact ⟨_, by first | rfl | (simp [errW_none, errW_some] <;> rfl) | (simp [*, errW_none, errW_some] <;> rfl), by (with_reducible repeat (first | apply Kd.R_alloc | apply Kd.R_drewN | apply Kd.R_drew)); exact HO103.out, I143_0 HI0, K1 HB (IsS143.ge HI0.out), J0 HK⟩
 ·rw [if_neg c3] at H
  have c3b0 : ((t101.length : Int) == 0) = false := beq_eq_false_iff_ne.mpr c3
  have c3b1 : ((t101.length : Int) != 0) = true := bne_iff_ne.mpr c3
  have c3b2 : ¬ (t101 = []) := fun h_ => c3 (by rw [h_]; rfl)
  replace H := Option.bind_eq_some_iff.mp H
  obtain ⟨⟨t105, t106⟩, A60, H⟩ := H
  replace H : ((spec_l1Rd_pick.f k s0_0 t106 20).bind fun bt107 => (if bt107.1 = 0 then ((spec_l1Rd_one.f k s0_0 bt107.2 (([(-1), 3, 0] : List Int))).bind fun bt112 => (if 0 ≤ t105 then (if t105 < (t101.length : Int) then (some ((t101.set (t105 : Int).toNat (⟨bt112.1, (rd_T34 t101 t105).f1, (⟨(rd_T34 t101 t105).f2.f0, (rd_T34 t101 t105).f2.f1⟩ : S32), (⟨(rd_T34 t101 t105).f3.f0, (rd_T34 t101 t105).f3.f1⟩ : S32), (rd_T34 t101 t105).f4, (rd_T34 t101 t105).f5⟩ : S34)), bt112.2)) else (none)) else (none))) else (if bt107.1 = 1 then ((spec_l1Rd_one.f k s0_0 bt107.2 (([(-1), 4, 1] : List Int))).bind fun bt118 => (if 0 ≤ t105 then (if t105 < (t101.length : Int) then (some ((t101.set (t105 : Int).toNat (⟨(rd_T34 t101 t105).f0, bt118.1, (⟨(rd_T34 t101 t105).f2.f0, (rd_T34 t101 t105).f2.f1⟩ : S32), (⟨(rd_T34 t101 t105).f3.f0, (rd_T34 t101 t105).f3.f1⟩ : S32), (rd_T34 t101 t105).f4, (rd_T34 t101 t105).f5⟩ : S34)), bt118.2)) else (none)) else (none))) else (if bt107.1 = 2 then ((spec_l1Rd_one.f k s0_0 bt107.2 (([(-1), 65536] : List Int))).bind fun bt124 => (if 0 ≤ t105 then (if t105 < (t101.length : Int) then (some ((t101.set (t105 : Int).toNat (⟨(rd_T34 t101 t105).f0, (rd_T34 t101 t105).f1, (⟨(rd_T34 t101 t105).f2.f0, (rd_T34 t101 t105).f2.f1⟩ : S32), (⟨(rd_T34 t101 t105).f3.f0, (rd_T34 t101 t105).f3.f1⟩ : S32), bt124.1, (rd_T34 t101 t105).f5⟩ : S34)), bt124.2)) else (none)) else (none))) else (if bt107.1 = 3 then ((spec_l12AnyBlock.f k s0_0 bt107.2).bind fun bt127 => (if 0 ≤ t105 then (if t105 < (t101.length : Int) then (some ((t101.set (t105 : Int).toNat (⟨(rd_T34 t101 t105).f0, (rd_T34 t101 t105).f1, (⟨bt127.1, bt127.2.1⟩ : S32), (⟨(rd_T34 t101 t105).f3.f0, (rd_T34 t101 t105).f3.f1⟩ : S32), (rd_T34 t101 t105).f4, (rd_T34 t101 t105).f5⟩ : S34)), bt127.2.2)) else (none)) else (none))) else (if bt107.1 = 4 then (spec_l12AnyRules.l0 k t101 s0_0 bt107.2) else (some (t101, bt107.2)))))))) = some (r1, r2) := H
  have A6 := Aside0.mk A60
  clear A60
  replace H := Option.bind_eq_some_iff.mp H
  obtain ⟨⟨t107, t108⟩, A70, H⟩ := H
  replace H : (if t107 = 0 then ((spec_l1Rd_one.f k s0_0 t108 (([(-1), 3, 0] : List Int))).bind fun bt112 => (if 0 ≤ t105 then (if t105 < (t101.length : Int) then (some ((t101.set (t105 : Int).toNat (⟨bt112.1, (rd_T34 t101 t105).f1, (⟨(rd_T34 t101 t105).f2.f0, (rd_T34 t101 t105).f2.f1⟩ : S32), (⟨(rd_T34 t101 t105).f3.f0, (rd_T34 t101 t105).f3.f1⟩ : S32), (rd_T34 t101 t105).f4, (rd_T34 t101 t105).f5⟩ : S34)), bt112.2)) else (none)) else (none))) else (if t107 = 1 then ((spec_l1Rd_one.f k s0_0 t108 (([(-1), 4, 1] : List Int))).bind fun bt118 => (if 0 ≤ t105 then (if t105 < (t101.length : Int) then (some ((t101.set (t105 : Int).toNat (⟨(rd_T34 t101 t105).f0, bt118.1, (⟨(rd_T34 t101 t105).f2.f0, (rd_T34 t101 t105).f2.f1⟩ : S32), (⟨(rd_T34 t101 t105).f3.f0, (rd_T34 t101 t105).f3.f1⟩ : S32), (rd_T34 t101 t105).f4, (rd_T34 t101 t105).f5⟩ : S34)), bt118.2)) else (none)) else (none))) else (if t107 = 2 then ((spec_l1Rd_one.f k s0_0 t108 (([(-1), 65536] : List Int))).bind fun bt124 => (if 0 ≤ t105 then (if t105 < (t101.length : Int) then (some ((t101.set (t105 : Int).toNat (⟨(rd_T34 t101 t105).f0, (rd_T34 t101 t105).f1, (⟨(rd_T34 t101 t105).f2.f0, (rd_T34 t101 t105).f2.f1⟩ : S32), (⟨(rd_T34 t101 t105).f3.f0, (rd_T34 t101 t105).f3.f1⟩ : S32), bt124.1, (rd_T34 t101 t105).f5⟩ : S34)), bt124.2)) else (none)) else (none))) else (if t107 = 3 then ((spec_l12AnyBlock.f k s0_0 t108).bind fun bt127 => (if 0 ≤ t105 then (if t105 < (t101.length : Int) then (some ((t101.set (t105 : Int).toNat (⟨(rd_T34 t101 t105).f0, (rd_T34 t101 t105).f1, (⟨bt127.1, bt127.2.1⟩ : S32), (⟨(rd_T34 t101 t105).f3.f0, (rd_T34 t101 t105).f3.f1⟩ : S32), (rd_T34 t101 t105).f4, (rd_T34 t101 t105).f5⟩ : S34)), bt127.2.2)) else (none)) else (none))) else (if t107 = 4 then (spec_l12AnyRules.l0 k t101 s0_0 t108) else (some (t101, t108))))))) = some (r1, r2) := H
  have A7 := Aside0.mk A70
  clear A70
  by_cases c8 : t107 = 0
  ·rw [if_pos c8] at H
   have c8b0 : (t107 == 0) = true := beq_iff_eq.mpr c8
   have c8b1 : (t107 != 0) = false := bne_eq_false_iff_eq.mpr c8
   clear c8
   obtain ⟨y109, hy109⟩ : ∃ y_ : List Int, y_ = (([(-1), 3, 0] : List Int)) := ⟨_, rfl⟩
   replace H : ((spec_l1Rd_one.f k s0_0 t108 y109).bind fun bt112 => (if 0 ≤ t105 then (if t105 < (t101.length : Int) then (some ((t101.set (t105 : Int).toNat (⟨bt112.1, (rd_T34 t101 t105).f1, (⟨(rd_T34 t101 t105).f2.f0, (rd_T34 t101 t105).f2.f1⟩ : S32), (⟨(rd_T34 t101 t105).f3.f0, (rd_T34 t101 t105).f3.f1⟩ : S32), (rd_T34 t101 t105).f4, (rd_T34 t101 t105).f5⟩ : S34)), bt112.2)) else (none)) else (none))) = some (r1, r2) := by first | (rw [hy109]; with_reducible exact H) | (have H2_ := (Option.bind_some _ _).symm.trans H; rw [hy109]; with_reducible exact H2_) | (have H2_ := (Option.bind_some _ _).symm.trans H; with_reducible exact H2_) | with_reducible exact H | (rw [hy109]; exact H) | exact H
   have Ny109 := Aside0.mk hy109
   clear hy109
   replace H := Option.bind_eq_some_iff.mp H
   obtain ⟨⟨t112, t113⟩, A90, H⟩ := H
   replace H : (if 0 ≤ t105 then (if t105 < (t101.length : Int) then (some ((t101.set (t105 : Int).toNat (⟨t112, (rd_T34 t101 t105).f1, (⟨(rd_T34 t101 t105).f2.f0, (rd_T34 t101 t105).f2.f1⟩ : S32), (⟨(rd_T34 t101 t105).f3.f0, (rd_T34 t101 t105).f3.f1⟩ : S32), (rd_T34 t101 t105).f4, (rd_T34 t101 t105).f5⟩ : S34)), t113)) else (none)) else (none)) = some (r1, r2) := H
   have A9 := Aside0.mk A90
   clear A90
   by_cases c10 : 0 ≤ t105
   ·rw [if_pos c10] at H
    have c10b0 : decide (0 ≤ t105) = true := decide_eq_true c10
    clear c10
    by_cases c11 : t105 < (t101.length : Int)
    ·rw [if_pos c11] at H
     have c11b0 : decide (t105 < (t101.length : Int)) = true := decide_eq_true c11
     clear c11
     obtain ⟨y114, hy114⟩ : ∃ y_ : List (S34), y_ = (t101.set (t105 : Int).toNat (⟨t112, (rd_T34 t101 t105).f1, (⟨(rd_T34 t101 t105).f2.f0, (rd_T34 t101 t105).f2.f1⟩ : S32), (⟨(rd_T34 t101 t105).f3.f0, (rd_T34 t101 t105).f3.f1⟩ : S32), (rd_T34 t101 t105).f4, (rd_T34 t101 t105).f5⟩ : S34)) := ⟨_, rfl⟩
     replace H : (some (y114, t113)) = some (r1, r2) := by first | (rw [hy114]; with_reducible exact H) | (have H2_ := (Option.bind_some _ _).symm.trans H; rw [hy114]; with_reducible exact H2_) | (have H2_ := (Option.bind_some _ _).symm.trans H; with_reducible exact H2_) | with_reducible exact H | (rw [hy114]; exact H) | exact H
     have Ny114 := Aside0.mk hy114
     clear hy114
     simp only [Option.some.injEq, Prod.mk.injEq] at H
     obtain ⟨rfl, rfl⟩ := H
     go_enter Try.func71, Try.ntmps71
     go_wp2_with (first | ((with_reducible refine gate_callee (f := 122) rfl ?_); refine goesL_ (some 6) rfl rfl Try.func122 (by kernel_rfl) rfl #[.pointer (some ⟨g, 0, none⟩)] rfl MT ?_; (with_reducible refine (spec_l12Rules.calls k g s0_0 s0_1 t101 t104 w0 _ ?side1 ?side2 A2.out).mono ?_); (case side1 => exact I143_0 HI0); (case side2 => exact K1 HB (IsS143.ge HI0.out)); rintro e w13 ⟨v102, rfl, ho0, hi, hb, hk⟩; refine ⟨_, rfl, ?_⟩; have HO103 := am (Kd.R_lower ho0 (keep_size (w := w) (g := g) (row := none) (J0 HK))); replace HK := am (KeepBut.trans (J0 HK) hk (.inl rfl)); replace HB := am (hb); replace HI0 := am (hi); (try clear hb); (try clear hb2); (try clear hk); (try clear hi); (try clear ho0); obtain ⟨Ao14, co14, eo14⟩ := Kd.R_slice HO103.out; subst eo14) | ((with_reducible refine gate_callee (f := 91) rfl ?_); refine goesL_ (some 14) rfl rfl Try.func91 (by kernel_rfl) rfl #[.pointer (some ⟨g, 0, none⟩), .int .i64 (t101.length : Int)] rfl MT ?_; (with_reducible refine (spec_l1Rd_pick.calls k g s0_0 t104 (t101.length : Int) t105 t106 w0 _ ?side1 ?side2 A6.out).mono ?_); (case side1 => exact I143_0 HI0); (case side2 => exact K1 HB (IsS143.ge HI0.out)); rintro e w15 ⟨rfl, hi, hb, hk⟩; refine ⟨_, rfl, ?_⟩; replace HO103 := am (Kd.R_mono (Kd.R_keep (IsS143.apart (show IsS143 w0 _ g s0_0 t104 from I143_0 HI0) (KR HO103) (by decide)) hk (fun _ h => h.2)) (fun _ h => h.1)); replace HK := am (KeepBut.trans (J0 HK) hk (.inl rfl)); replace HB := am (hb); replace HI0 := am (hi); (try clear hb); (try clear hb2); (try clear hk); (try clear hi)) | ((with_reducible refine gate_callee (f := 91) rfl ?_); refine goesL_ (some 16) rfl rfl Try.func91 (by kernel_rfl) rfl #[.pointer (some ⟨g, 0, none⟩), .int .i64 20] rfl MT ?_; (with_reducible refine (spec_l1Rd_pick.calls k g s0_0 t106 20 t107 t108 w0 _ ?side1 ?side2 A7.out).mono ?_); (case side1 => exact I143_0 HI0); (case side2 => exact K1 HB (IsS143.ge HI0.out)); rintro e w16 ⟨rfl, hi, hb, hk⟩; refine ⟨_, rfl, ?_⟩; replace HO103 := am (Kd.R_mono (Kd.R_keep (IsS143.apart (show IsS143 w0 _ g s0_0 t106 from I143_0 HI0) (KR HO103) (by decide)) hk (fun _ h => h.2)) (fun _ h => h.1)); replace HK := am (KeepBut.trans (J0 HK) hk (.inl rfl)); replace HB := am (hb); replace HI0 := am (hi); (try clear hb); (try clear hb2); (try clear hk); (try clear hi)) | ((with_reducible refine gate_dst (N := 22) rfl ?_); refine Kd.R_lit (Kd.int .i64) _ 3 ?hg (N := 22) ?hd (xs := ([(-1), 3, 0] : List Int)) (inner := [.int .i64 (-1), .int .i64 3, .int .i64 0]) (ok := fun _ => True) (okp := fun _ => True) ?hr ?hp (fun _ hk => hk) trivial (Below.refl _ _) (Nat.le_refl _) (by simp) ?_; (case hd => rfl); (case hg => rfl); (case hr => first | (go_simp; done) | (go_simp; rfl)); (case hp => exact (Reps.one (show Kd.M (Kd.int .i64) _ _ _ (-1) [.int .i64 (-1)] from rfl) (Reps.one (show Kd.M (Kd.int .i64) _ _ _ 3 [.int .i64 3] from rfl) (Reps.one (show Kd.M (Kd.int .i64) _ _ _ 0 [.int .i64 0] from rfl) (Reps.none _ _))))); intro v110 w17 ho18 hb hg_ hnew_; clear hg_ hnew_; (first | rw [← Ny109.out] at ho18 | (simp only [Int.reduceToNat] at ho18; rw [← Ny109.out] at ho18)); replace HO103 := am (Kd.R_below (KR HO103) hb); have HO111 := am (Kd.R_lower ho18 (keep_size (w := w) (g := g) (row := none) (J0 HK))); replace HK := am (KeepBut.trans (J0 HK) (KeepBut.of_below hb g none) (.inl rfl)); replace HB := am (below_step (K1 HB (IsS143.ge HI0.out)) hb); replace HI0 := am (IsS143.below (I143_0 HI0) hb); clear hb ho18; obtain ⟨Ao19, co19, eo19⟩ := Kd.R_slice HO111.out; subst eo19) | ((with_reducible refine gate_callee (f := 95) rfl ?_); refine goesL_ (some 23) rfl rfl Try.func95 (by kernel_rfl) rfl #[.pointer (some ⟨g, 0, none⟩), .slice Ao19 y109.length co19] rfl MT ?_; (with_reducible refine (spec_l1Rd_one.calls k g s0_0 t108 _ _ y109 t112 t113 w0 _ ?side1 ?side2 ?side3 ?side4 ?side5 A9.out).mono ?_); (case side1 => exact I143_0 HI0); (case side2 => exact K1 HB (IsS143.ge HI0.out)); (case side3 => exact KC (Kd.R_reads' HO111.out).2.2); (case side4 => exact (Kd.R_reads' HO111.out).2.1); (case side5 => exact far_slice (IsS143.own_ne HI0.out HO111.out (by decide))); rintro e w20 ⟨rfl, hi, hb, hk⟩; refine ⟨_, rfl, ?_⟩; replace HO103 := am (Kd.R_mono (Kd.R_keep (IsS143.apart (show IsS143 w0 _ g s0_0 t108 from I143_0 HI0) (KR HO103) (by decide)) hk (fun _ h => h.2)) (fun _ h => h.1)); replace HO111 := am (Kd.R_mono (Kd.R_keep (IsS143.apart (show IsS143 w0 _ g s0_0 t108 from I143_0 HI0) (KR HO111) (by decide)) hk (fun _ h => h.2)) (fun _ h => h.1)); replace HK := am (KeepBut.trans (J0 HK) hk (.inl rfl)); replace HB := am (hb); replace HI0 := am (hi); (try clear hb); (try clear hb2); (try clear hk); (try clear hi); have p12 : 0 ≤ (t105 : Int) := of_decide_eq_true (by first | (with_reducible assumption) | assumption); have q12 : (t105 : Int) < ((t101.length : Int) : Int) := of_decide_eq_true (by first | (with_reducible assumption) | assumption); obtain ⟨go12, co12, eo12, gb12, gl12, cl12, HG12⟩ := Kd.R_form HO103.out (by omega); (first | cases eo12 | (injection eo12 with ea_ en_ ec_; (first | subst ea_ | (injection ea_ with ea_; subst ea_)); subst ec_; clear en_)); have GB12 := Aside0.mk gb12; have GG12 := Aside0.mk HG12; clear gb12 gl12 HG12; obtain ⟨ce12, hcl12, hM12, hcc12, hfr12⟩ := Kd.R_elem HO103.out z34 (t105 : Int) p12 q12; obtain rfl := k34_openM hM12; have hx12_0 : w20.cell? ⟨go12, (t105 : Int).toNat * 8, none⟩ = some (.int .i64 ((rd_T34 t101 t105).f0)) := hcc12 0 _ rfl; have hx12_1 : w20.cell? ⟨go12, (t105 : Int).toNat * 8 + 1, none⟩ = some (.int .i64 ((rd_T34 t101 t105).f1)) := hcc12 1 _ rfl; have hx12_2 : w20.cell? ⟨go12, (t105 : Int).toNat * 8 + 2, none⟩ = some (.int .i64 ((rd_T34 t101 t105).f2.f0)) := hcc12 2 _ rfl; have hx12_3 : w20.cell? ⟨go12, (t105 : Int).toNat * 8 + 3, none⟩ = some (.int .i64 ((rd_T34 t101 t105).f2.f1)) := hcc12 3 _ rfl; have hx12_4 : w20.cell? ⟨go12, (t105 : Int).toNat * 8 + 4, none⟩ = some (.int .i64 ((rd_T34 t101 t105).f3.f0)) := hcc12 4 _ rfl; have hx12_5 : w20.cell? ⟨go12, (t105 : Int).toNat * 8 + 5, none⟩ = some (.int .i64 ((rd_T34 t101 t105).f3.f1)) := hcc12 5 _ rfl; have hx12_6 : w20.cell? ⟨go12, (t105 : Int).toNat * 8 + 6, none⟩ = some (.int .i64 ((rd_T34 t101 t105).f4)) := hcc12 6 _ rfl; have hx12_7 : w20.cell? ⟨go12, (t105 : Int).toNat * 8 + 7, none⟩ = some (.int .i64 ((rd_T34 t101 t105).f5)) := hcc12 7 _ rfl; have hf12_0 : w20.frozen? ⟨go12, (t105 : Int).toNat * 8, none⟩ = false := hfr12 0; have hf12_1 : w20.frozen? ⟨go12, (t105 : Int).toNat * 8 + 1, none⟩ = false := hfr12 1; have hf12_2 : w20.frozen? ⟨go12, (t105 : Int).toNat * 8 + 2, none⟩ = false := hfr12 2; have hf12_3 : w20.frozen? ⟨go12, (t105 : Int).toNat * 8 + 3, none⟩ = false := hfr12 3; have hf12_4 : w20.frozen? ⟨go12, (t105 : Int).toNat * 8 + 4, none⟩ = false := hfr12 4; have hf12_5 : w20.frozen? ⟨go12, (t105 : Int).toNat * 8 + 5, none⟩ = false := hfr12 5; have hf12_6 : w20.frozen? ⟨go12, (t105 : Int).toNat * 8 + 6, none⟩ = false := hfr12 6; have hf12_7 : w20.frozen? ⟨go12, (t105 : Int).toNat * 8 + 7, none⟩ = false := hfr12 7; clear hcl12 hcc12 hfr12 hM12; replace p12 := eq_true p12; replace q12 := eq_true q12; have HX21 := am (show Kd.R k34 34 w20 w.heap.size (fun _ => True) (.slice (some ⟨go12, 0, none⟩) t101.length co14) t101 from (KR HO103)); obtain ⟨ce21, hcl21, hM21, hcc21, hfr21⟩ := Kd.R_elem HX21.out z34 (t105 : Int) (of_decide_eq_true (by first | (with_reducible assumption) | assumption)) (by have h_ : (t105 : Int) < ((t101.length : Int) : Int) := of_decide_eq_true (by first | (with_reducible assumption) | assumption); first | exact h_ | (have e_ := (Kd.R_reads' HO103.out).1; omega) | simpa using h_); obtain rfl := k34_openM hM21; have HP21 := Kd.R_seg HX21.out (t105 : Int) (of_decide_eq_true (by first | (with_reducible assumption) | assumption)) (by have h_ : (t105 : Int) < ((t101.length : Int) : Int) := of_decide_eq_true (by first | (with_reducible assumption) | assumption); first | exact h_ | (have e_ := (Kd.R_reads' HO103.out).1; omega) | simpa using h_) (seg := [.int .i64 t112]) (j := 0) hcl21 hcc21 (show 1 ≤ 8 from by decide) (x' := (⟨t112, (rd_T34 t101 t105).f1, (⟨(rd_T34 t101 t105).f2.f0, (rd_T34 t101 t105).f2.f1⟩ : S32), (⟨(rd_T34 t101 t105).f3.f0, (rd_T34 t101 t105).f3.f1⟩ : S32), (rd_T34 t101 t105).f4, (rd_T34 t101 t105).f5⟩ : S34)) (k34_mkM _ _ _ (⟨t112, (rd_T34 t101 t105).f1, (⟨(rd_T34 t101 t105).f2.f0, (rd_T34 t101 t105).f2.f1⟩ : S32), (⟨(rd_T34 t101 t105).f3.f0, (rd_T34 t101 t105).f3.f1⟩ : S32), (rd_T34 t101 t105).f4, (rd_T34 t101 t105).f5⟩ : S34) ) (fun _ hk => hk); have hx21_0 := hcc21 0 _ rfl; (try simp only [show (k34).sz = 8 from rfl, Nat.mul_one, Nat.add_zero] at hx21_0); have hf21_0 := hfr21 0; (try simp only [show (k34).sz = 8 from rfl, Nat.mul_one, Nat.add_zero] at hf21_0); clear hcl21 hcc21 hfr21 hM21) | ((with_reducible refine gate_store (t := 3) (p := 25) rfl ?_); refine store_event (t := 3) (p := 25) (v := ?vo_w22) (w1 := (w20.setCell ⟨go12, (t105 : Int).toNat * 8, none⟩ (.int .i64 t112))) ?hg ?ho ?hn ?hr ?_; (case ho => rfl); (case hg => rfl); (case hn => rfl); (case hr => first | (go_simp; done) | (go_simp; rfl)); intro w22 hw; have hg : w20.grownBy w22 (some go12) := (by rw [hw]; exact HP21.2); have hp_ : Kd.R k34 34 w22 w.heap.size (fun _ => True) (.slice (some ⟨go12, 0, none⟩) t101.length co14) y114 := (by rw [hw, Ny114.out]; exact HP21.1); clear HP21; replace HI0 := am (IsS143.grown (I143_0 HI0) hg (IsS143.own_ne HI0.out HO103.out (by decide))); replace HO111 := am (Kd.R_over' (v := (.slice (some ⟨go12, 0, none⟩) t101.length co14)) (KR HO111) (Kd.R_typed HO103.out) (by decide) hg); replace HB := am ((by rw [hw]; exact below_set (HB.out) (Nat.le_trans HL.out GB12.out) : Below w0.heap.size w0 w22)); replace HK := am (KeepBut.trans (J0 HK) (KeepBut.of_grown hg g) (Kd.R_base2 HO103.out)); replace HO103 := am (hp_); clear hg hw hp_))
     go_ret
     exact ⟨_, by first | rfl | (simp [errW_none, errW_some] <;> rfl) | (simp [*, errW_none, errW_some] <;> rfl), by (with_reducible repeat (first | apply Kd.R_alloc | apply Kd.R_drewN | apply Kd.R_drew)); exact HO103.out, I143_0 HI0, K1 HB (IsS143.ge HI0.out), J0 HK⟩
    ·rw [if_neg c11] at H
     exact absurd H (by simp)
   ·rw [if_neg c10] at H
    exact absurd H (by simp)
  ·rw [if_neg c8] at H
   have c8b0 : (t107 == 0) = false := beq_eq_false_iff_ne.mpr c8
   have c8b1 : (t107 != 0) = true := bne_iff_ne.mpr c8
   by_cases c23 : t107 = 1
   ·rw [if_pos c23] at H
    have c23b0 : (t107 == 1) = true := beq_iff_eq.mpr c23
    have c23b1 : (t107 != 1) = false := bne_eq_false_iff_eq.mpr c23
    clear c23
    obtain ⟨y115, hy115⟩ : ∃ y_ : List Int, y_ = (([(-1), 4, 1] : List Int)) := ⟨_, rfl⟩
    replace H : ((spec_l1Rd_one.f k s0_0 t108 y115).bind fun bt118 => (if 0 ≤ t105 then (if t105 < (t101.length : Int) then (some ((t101.set (t105 : Int).toNat (⟨(rd_T34 t101 t105).f0, bt118.1, (⟨(rd_T34 t101 t105).f2.f0, (rd_T34 t101 t105).f2.f1⟩ : S32), (⟨(rd_T34 t101 t105).f3.f0, (rd_T34 t101 t105).f3.f1⟩ : S32), (rd_T34 t101 t105).f4, (rd_T34 t101 t105).f5⟩ : S34)), bt118.2)) else (none)) else (none))) = some (r1, r2) := by first | (rw [hy115]; with_reducible exact H) | (have H2_ := (Option.bind_some _ _).symm.trans H; rw [hy115]; with_reducible exact H2_) | (have H2_ := (Option.bind_some _ _).symm.trans H; with_reducible exact H2_) | with_reducible exact H | (rw [hy115]; exact H) | exact H
    have Ny115 := Aside0.mk hy115
    clear hy115
    replace H := Option.bind_eq_some_iff.mp H
    obtain ⟨⟨t118, t119⟩, A240, H⟩ := H
    replace H : (if 0 ≤ t105 then (if t105 < (t101.length : Int) then (some ((t101.set (t105 : Int).toNat (⟨(rd_T34 t101 t105).f0, t118, (⟨(rd_T34 t101 t105).f2.f0, (rd_T34 t101 t105).f2.f1⟩ : S32), (⟨(rd_T34 t101 t105).f3.f0, (rd_T34 t101 t105).f3.f1⟩ : S32), (rd_T34 t101 t105).f4, (rd_T34 t101 t105).f5⟩ : S34)), t119)) else (none)) else (none)) = some (r1, r2) := H
    have A24 := Aside0.mk A240
    clear A240
    by_cases c25 : 0 ≤ t105
    ·rw [if_pos c25] at H
     have c25b0 : decide (0 ≤ t105) = true := decide_eq_true c25
     clear c25
     by_cases c26 : t105 < (t101.length : Int)
     ·rw [if_pos c26] at H
      have c26b0 : decide (t105 < (t101.length : Int)) = true := decide_eq_true c26
      clear c26
      obtain ⟨y120, hy120⟩ : ∃ y_ : List (S34), y_ = (t101.set (t105 : Int).toNat (⟨(rd_T34 t101 t105).f0, t118, (⟨(rd_T34 t101 t105).f2.f0, (rd_T34 t101 t105).f2.f1⟩ : S32), (⟨(rd_T34 t101 t105).f3.f0, (rd_T34 t101 t105).f3.f1⟩ : S32), (rd_T34 t101 t105).f4, (rd_T34 t101 t105).f5⟩ : S34)) := ⟨_, rfl⟩
      replace H : (some (y120, t119)) = some (r1, r2) := by first | (rw [hy120]; with_reducible exact H) | (have H2_ := (Option.bind_some _ _).symm.trans H; rw [hy120]; with_reducible exact H2_) | (have H2_ := (Option.bind_some _ _).symm.trans H; with_reducible exact H2_) | with_reducible exact H | (rw [hy120]; exact H) | exact H
      have Ny120 := Aside0.mk hy120
      clear hy120
      simp only [Option.some.injEq, Prod.mk.injEq] at H
      obtain ⟨rfl, rfl⟩ := H
      go_enter Try.func71, Try.ntmps71
      go_wp2_with (first | ((with_reducible refine gate_callee (f := 122) rfl ?_); refine goesL_ (some 6) rfl rfl Try.func122 (by kernel_rfl) rfl #[.pointer (some ⟨g, 0, none⟩)] rfl MT ?_; (with_reducible refine (spec_l12Rules.calls k g s0_0 s0_1 t101 t104 w0 _ ?side1 ?side2 A2.out).mono ?_); (case side1 => exact I143_0 HI0); (case side2 => exact K1 HB (IsS143.ge HI0.out)); rintro e w28 ⟨v102, rfl, ho0, hi, hb, hk⟩; refine ⟨_, rfl, ?_⟩; have HO103 := am (Kd.R_lower ho0 (keep_size (w := w) (g := g) (row := none) (J0 HK))); replace HK := am (KeepBut.trans (J0 HK) hk (.inl rfl)); replace HB := am (hb); replace HI0 := am (hi); (try clear hb); (try clear hb2); (try clear hk); (try clear hi); (try clear ho0); obtain ⟨Ao29, co29, eo29⟩ := Kd.R_slice HO103.out; subst eo29) | ((with_reducible refine gate_callee (f := 91) rfl ?_); refine goesL_ (some 14) rfl rfl Try.func91 (by kernel_rfl) rfl #[.pointer (some ⟨g, 0, none⟩), .int .i64 (t101.length : Int)] rfl MT ?_; (with_reducible refine (spec_l1Rd_pick.calls k g s0_0 t104 (t101.length : Int) t105 t106 w0 _ ?side1 ?side2 A6.out).mono ?_); (case side1 => exact I143_0 HI0); (case side2 => exact K1 HB (IsS143.ge HI0.out)); rintro e w30 ⟨rfl, hi, hb, hk⟩; refine ⟨_, rfl, ?_⟩; replace HO103 := am (Kd.R_mono (Kd.R_keep (IsS143.apart (show IsS143 w0 _ g s0_0 t104 from I143_0 HI0) (KR HO103) (by decide)) hk (fun _ h => h.2)) (fun _ h => h.1)); replace HK := am (KeepBut.trans (J0 HK) hk (.inl rfl)); replace HB := am (hb); replace HI0 := am (hi); (try clear hb); (try clear hb2); (try clear hk); (try clear hi)) | ((with_reducible refine gate_callee (f := 91) rfl ?_); refine goesL_ (some 16) rfl rfl Try.func91 (by kernel_rfl) rfl #[.pointer (some ⟨g, 0, none⟩), .int .i64 20] rfl MT ?_; (with_reducible refine (spec_l1Rd_pick.calls k g s0_0 t106 20 t107 t108 w0 _ ?side1 ?side2 A7.out).mono ?_); (case side1 => exact I143_0 HI0); (case side2 => exact K1 HB (IsS143.ge HI0.out)); rintro e w31 ⟨rfl, hi, hb, hk⟩; refine ⟨_, rfl, ?_⟩; replace HO103 := am (Kd.R_mono (Kd.R_keep (IsS143.apart (show IsS143 w0 _ g s0_0 t106 from I143_0 HI0) (KR HO103) (by decide)) hk (fun _ h => h.2)) (fun _ h => h.1)); replace HK := am (KeepBut.trans (J0 HK) hk (.inl rfl)); replace HB := am (hb); replace HI0 := am (hi); (try clear hb); (try clear hb2); (try clear hk); (try clear hi)) | ((with_reducible refine gate_dst (N := 31) rfl ?_); refine Kd.R_lit (Kd.int .i64) _ 3 ?hg (N := 31) ?hd (xs := ([(-1), 4, 1] : List Int)) (inner := [.int .i64 (-1), .int .i64 4, .int .i64 1]) (ok := fun _ => True) (okp := fun _ => True) ?hr ?hp (fun _ hk => hk) trivial (Below.refl _ _) (Nat.le_refl _) (by simp) ?_; (case hd => rfl); (case hg => rfl); (case hr => first | (go_simp; done) | (go_simp; rfl)); (case hp => exact (Reps.one (show Kd.M (Kd.int .i64) _ _ _ (-1) [.int .i64 (-1)] from rfl) (Reps.one (show Kd.M (Kd.int .i64) _ _ _ 4 [.int .i64 4] from rfl) (Reps.one (show Kd.M (Kd.int .i64) _ _ _ 1 [.int .i64 1] from rfl) (Reps.none _ _))))); intro v116 w32 ho33 hb hg_ hnew_; clear hg_ hnew_; (first | rw [← Ny115.out] at ho33 | (simp only [Int.reduceToNat] at ho33; rw [← Ny115.out] at ho33)); replace HO103 := am (Kd.R_below (KR HO103) hb); have HO117 := am (Kd.R_lower ho33 (keep_size (w := w) (g := g) (row := none) (J0 HK))); replace HK := am (KeepBut.trans (J0 HK) (KeepBut.of_below hb g none) (.inl rfl)); replace HB := am (below_step (K1 HB (IsS143.ge HI0.out)) hb); replace HI0 := am (IsS143.below (I143_0 HI0) hb); clear hb ho33; obtain ⟨Ao34, co34, eo34⟩ := Kd.R_slice HO117.out; subst eo34) | ((with_reducible refine gate_callee (f := 95) rfl ?_); refine goesL_ (some 32) rfl rfl Try.func95 (by kernel_rfl) rfl #[.pointer (some ⟨g, 0, none⟩), .slice Ao34 y115.length co34] rfl MT ?_; (with_reducible refine (spec_l1Rd_one.calls k g s0_0 t108 _ _ y115 t118 t119 w0 _ ?side1 ?side2 ?side3 ?side4 ?side5 A24.out).mono ?_); (case side1 => exact I143_0 HI0); (case side2 => exact K1 HB (IsS143.ge HI0.out)); (case side3 => exact KC (Kd.R_reads' HO117.out).2.2); (case side4 => exact (Kd.R_reads' HO117.out).2.1); (case side5 => exact far_slice (IsS143.own_ne HI0.out HO117.out (by decide))); rintro e w35 ⟨rfl, hi, hb, hk⟩; refine ⟨_, rfl, ?_⟩; replace HO103 := am (Kd.R_mono (Kd.R_keep (IsS143.apart (show IsS143 w0 _ g s0_0 t108 from I143_0 HI0) (KR HO103) (by decide)) hk (fun _ h => h.2)) (fun _ h => h.1)); replace HO117 := am (Kd.R_mono (Kd.R_keep (IsS143.apart (show IsS143 w0 _ g s0_0 t108 from I143_0 HI0) (KR HO117) (by decide)) hk (fun _ h => h.2)) (fun _ h => h.1)); replace HK := am (KeepBut.trans (J0 HK) hk (.inl rfl)); replace HB := am (hb); replace HI0 := am (hi); (try clear hb); (try clear hb2); (try clear hk); (try clear hi); have p27 : 0 ≤ (t105 : Int) := of_decide_eq_true (by first | (with_reducible assumption) | assumption); have q27 : (t105 : Int) < ((t101.length : Int) : Int) := of_decide_eq_true (by first | (with_reducible assumption) | assumption); obtain ⟨go27, co27, eo27, gb27, gl27, cl27, HG27⟩ := Kd.R_form HO103.out (by omega); (first | cases eo27 | (injection eo27 with ea_ en_ ec_; (first | subst ea_ | (injection ea_ with ea_; subst ea_)); subst ec_; clear en_)); have GB27 := Aside0.mk gb27; have GG27 := Aside0.mk HG27; clear gb27 gl27 HG27; obtain ⟨ce27, hcl27, hM27, hcc27, hfr27⟩ := Kd.R_elem HO103.out z34 (t105 : Int) p27 q27; obtain rfl := k34_openM hM27; have hx27_0 : w35.cell? ⟨go27, (t105 : Int).toNat * 8, none⟩ = some (.int .i64 ((rd_T34 t101 t105).f0)) := hcc27 0 _ rfl; have hx27_1 : w35.cell? ⟨go27, (t105 : Int).toNat * 8 + 1, none⟩ = some (.int .i64 ((rd_T34 t101 t105).f1)) := hcc27 1 _ rfl; have hx27_2 : w35.cell? ⟨go27, (t105 : Int).toNat * 8 + 2, none⟩ = some (.int .i64 ((rd_T34 t101 t105).f2.f0)) := hcc27 2 _ rfl; have hx27_3 : w35.cell? ⟨go27, (t105 : Int).toNat * 8 + 3, none⟩ = some (.int .i64 ((rd_T34 t101 t105).f2.f1)) := hcc27 3 _ rfl; have hx27_4 : w35.cell? ⟨go27, (t105 : Int).toNat * 8 + 4, none⟩ = some (.int .i64 ((rd_T34 t101 t105).f3.f0)) := hcc27 4 _ rfl; have hx27_5 : w35.cell? ⟨go27, (t105 : Int).toNat * 8 + 5, none⟩ = some (.int .i64 ((rd_T34 t101 t105).f3.f1)) := hcc27 5 _ rfl; have hx27_6 : w35.cell? ⟨go27, (t105 : Int).toNat * 8 + 6, none⟩ = some (.int .i64 ((rd_T34 t101 t105).f4)) := hcc27 6 _ rfl; have hx27_7 : w35.cell? ⟨go27, (t105 : Int).toNat * 8 + 7, none⟩ = some (.int .i64 ((rd_T34 t101 t105).f5)) := hcc27 7 _ rfl; have hf27_0 : w35.frozen? ⟨go27, (t105 : Int).toNat * 8, none⟩ = false := hfr27 0; have hf27_1 : w35.frozen? ⟨go27, (t105 : Int).toNat * 8 + 1, none⟩ = false := hfr27 1; have hf27_2 : w35.frozen? ⟨go27, (t105 : Int).toNat * 8 + 2, none⟩ = false := hfr27 2; have hf27_3 : w35.frozen? ⟨go27, (t105 : Int).toNat * 8 + 3, none⟩ = false := hfr27 3; have hf27_4 : w35.frozen? ⟨go27, (t105 : Int).toNat * 8 + 4, none⟩ = false := hfr27 4; have hf27_5 : w35.frozen? ⟨go27, (t105 : Int).toNat * 8 + 5, none⟩ = false := hfr27 5; have hf27_6 : w35.frozen? ⟨go27, (t105 : Int).toNat * 8 + 6, none⟩ = false := hfr27 6; have hf27_7 : w35.frozen? ⟨go27, (t105 : Int).toNat * 8 + 7, none⟩ = false := hfr27 7; clear hcl27 hcc27 hfr27 hM27; replace p27 := eq_true p27; replace q27 := eq_true q27; have HX36 := am (show Kd.R k34 34 w35 w.heap.size (fun _ => True) (.slice (some ⟨go27, 0, none⟩) t101.length co29) t101 from (KR HO103)); obtain ⟨ce36, hcl36, hM36, hcc36, hfr36⟩ := Kd.R_elem HX36.out z34 (t105 : Int) (of_decide_eq_true (by first | (with_reducible assumption) | assumption)) (by have h_ : (t105 : Int) < ((t101.length : Int) : Int) := of_decide_eq_true (by first | (with_reducible assumption) | assumption); first | exact h_ | (have e_ := (Kd.R_reads' HO103.out).1; omega) | simpa using h_); obtain rfl := k34_openM hM36; have HP36 := Kd.R_seg HX36.out (t105 : Int) (of_decide_eq_true (by first | (with_reducible assumption) | assumption)) (by have h_ : (t105 : Int) < ((t101.length : Int) : Int) := of_decide_eq_true (by first | (with_reducible assumption) | assumption); first | exact h_ | (have e_ := (Kd.R_reads' HO103.out).1; omega) | simpa using h_) (seg := [.int .i64 t118]) (j := 1) hcl36 hcc36 (show 2 ≤ 8 from by decide) (x' := (⟨(rd_T34 t101 t105).f0, t118, (⟨(rd_T34 t101 t105).f2.f0, (rd_T34 t101 t105).f2.f1⟩ : S32), (⟨(rd_T34 t101 t105).f3.f0, (rd_T34 t101 t105).f3.f1⟩ : S32), (rd_T34 t101 t105).f4, (rd_T34 t101 t105).f5⟩ : S34)) (k34_mkM _ _ _ (⟨(rd_T34 t101 t105).f0, t118, (⟨(rd_T34 t101 t105).f2.f0, (rd_T34 t101 t105).f2.f1⟩ : S32), (⟨(rd_T34 t101 t105).f3.f0, (rd_T34 t101 t105).f3.f1⟩ : S32), (rd_T34 t101 t105).f4, (rd_T34 t101 t105).f5⟩ : S34) ) (fun _ hk => hk); have hx36_1 := hcc36 1 _ rfl; (try simp only [show (k34).sz = 8 from rfl, Nat.mul_one, Nat.add_zero] at hx36_1); have hf36_1 := hfr36 1; (try simp only [show (k34).sz = 8 from rfl, Nat.mul_one, Nat.add_zero] at hf36_1); clear hcl36 hcc36 hfr36 hM36) | ((with_reducible refine gate_store (t := 3) (p := 34) rfl ?_); refine store_event (t := 3) (p := 34) (v := ?vo_w37) (w1 := (w35.setCell ⟨go27, (t105 : Int).toNat * 8 + 1, none⟩ (.int .i64 t118))) ?hg ?ho ?hn ?hr ?_; (case ho => rfl); (case hg => rfl); (case hn => rfl); (case hr => first | (go_simp; done) | (go_simp; rfl)); intro w37 hw; have hg : w35.grownBy w37 (some go27) := (by rw [hw]; exact HP36.2); have hp_ : Kd.R k34 34 w37 w.heap.size (fun _ => True) (.slice (some ⟨go27, 0, none⟩) t101.length co29) y120 := (by rw [hw, Ny120.out]; exact HP36.1); clear HP36; replace HI0 := am (IsS143.grown (I143_0 HI0) hg (IsS143.own_ne HI0.out HO103.out (by decide))); replace HO117 := am (Kd.R_over' (v := (.slice (some ⟨go27, 0, none⟩) t101.length co29)) (KR HO117) (Kd.R_typed HO103.out) (by decide) hg); replace HB := am ((by rw [hw]; exact below_set (HB.out) (Nat.le_trans HL.out GB27.out) : Below w0.heap.size w0 w37)); replace HK := am (KeepBut.trans (J0 HK) (KeepBut.of_grown hg g) (Kd.R_base2 HO103.out)); replace HO103 := am (hp_); clear hg hw hp_))
      go_ret
      exact ⟨_, by first | rfl | (simp [errW_none, errW_some] <;> rfl) | (simp [*, errW_none, errW_some] <;> rfl), by (with_reducible repeat (first | apply Kd.R_alloc | apply Kd.R_drewN | apply Kd.R_drew)); exact HO103.out, I143_0 HI0, K1 HB (IsS143.ge HI0.out), J0 HK⟩
     ·rw [if_neg c26] at H
      exact absurd H (by simp)
    ·rw [if_neg c25] at H
     exact absurd H (by simp)
   ·rw [if_neg c23] at H
    have c23b0 : (t107 == 1) = false := beq_eq_false_iff_ne.mpr c23
    have c23b1 : (t107 != 1) = true := bne_iff_ne.mpr c23
    by_cases c38 : t107 = 2
    ·rw [if_pos c38] at H
     have c38b0 : (t107 == 2) = true := beq_iff_eq.mpr c38
     have c38b1 : (t107 != 2) = false := bne_eq_false_iff_eq.mpr c38
     clear c38
     obtain ⟨y121, hy121⟩ : ∃ y_ : List Int, y_ = (([(-1), 65536] : List Int)) := ⟨_, rfl⟩
     replace H : ((spec_l1Rd_one.f k s0_0 t108 y121).bind fun bt124 => (if 0 ≤ t105 then (if t105 < (t101.length : Int) then (some ((t101.set (t105 : Int).toNat (⟨(rd_T34 t101 t105).f0, (rd_T34 t101 t105).f1, (⟨(rd_T34 t101 t105).f2.f0, (rd_T34 t101 t105).f2.f1⟩ : S32), (⟨(rd_T34 t101 t105).f3.f0, (rd_T34 t101 t105).f3.f1⟩ : S32), bt124.1, (rd_T34 t101 t105).f5⟩ : S34)), bt124.2)) else (none)) else (none))) = some (r1, r2) := by first | (rw [hy121]; with_reducible exact H) | (have H2_ := (Option.bind_some _ _).symm.trans H; rw [hy121]; with_reducible exact H2_) | (have H2_ := (Option.bind_some _ _).symm.trans H; with_reducible exact H2_) | with_reducible exact H | (rw [hy121]; exact H) | exact H
     have Ny121 := Aside0.mk hy121
     clear hy121
     replace H := Option.bind_eq_some_iff.mp H
     obtain ⟨⟨t124, t125⟩, A390, H⟩ := H
     replace H : (if 0 ≤ t105 then (if t105 < (t101.length : Int) then (some ((t101.set (t105 : Int).toNat (⟨(rd_T34 t101 t105).f0, (rd_T34 t101 t105).f1, (⟨(rd_T34 t101 t105).f2.f0, (rd_T34 t101 t105).f2.f1⟩ : S32), (⟨(rd_T34 t101 t105).f3.f0, (rd_T34 t101 t105).f3.f1⟩ : S32), t124, (rd_T34 t101 t105).f5⟩ : S34)), t125)) else (none)) else (none)) = some (r1, r2) := H
     have A39 := Aside0.mk A390
     clear A390
     by_cases c40 : 0 ≤ t105
     ·rw [if_pos c40] at H
      have c40b0 : decide (0 ≤ t105) = true := decide_eq_true c40
      clear c40
      by_cases c41 : t105 < (t101.length : Int)
      ·rw [if_pos c41] at H
       have c41b0 : decide (t105 < (t101.length : Int)) = true := decide_eq_true c41
       clear c41
       obtain ⟨y126, hy126⟩ : ∃ y_ : List (S34), y_ = (t101.set (t105 : Int).toNat (⟨(rd_T34 t101 t105).f0, (rd_T34 t101 t105).f1, (⟨(rd_T34 t101 t105).f2.f0, (rd_T34 t101 t105).f2.f1⟩ : S32), (⟨(rd_T34 t101 t105).f3.f0, (rd_T34 t101 t105).f3.f1⟩ : S32), t124, (rd_T34 t101 t105).f5⟩ : S34)) := ⟨_, rfl⟩
       replace H : (some (y126, t125)) = some (r1, r2) := by first | (rw [hy126]; with_reducible exact H) | (have H2_ := (Option.bind_some _ _).symm.trans H; rw [hy126]; with_reducible exact H2_) | (have H2_ := (Option.bind_some _ _).symm.trans H; with_reducible exact H2_) | with_reducible exact H | (rw [hy126]; exact H) | exact H
       have Ny126 := Aside0.mk hy126
       clear hy126
       simp only [Option.some.injEq, Prod.mk.injEq] at H
       obtain ⟨rfl, rfl⟩ := H
       go_enter Try.func71, Try.ntmps71
       go_wp2_with (first | ((with_reducible refine gate_callee (f := 122) rfl ?_); refine goesL_ (some 6) rfl rfl Try.func122 (by kernel_rfl) rfl #[.pointer (some ⟨g, 0, none⟩)] rfl MT ?_; (with_reducible refine (spec_l12Rules.calls k g s0_0 s0_1 t101 t104 w0 _ ?side1 ?side2 A2.out).mono ?_); (case side1 => exact I143_0 HI0); (case side2 => exact K1 HB (IsS143.ge HI0.out)); rintro e w43 ⟨v102, rfl, ho0, hi, hb, hk⟩; refine ⟨_, rfl, ?_⟩; have HO103 := am (Kd.R_lower ho0 (keep_size (w := w) (g := g) (row := none) (J0 HK))); replace HK := am (KeepBut.trans (J0 HK) hk (.inl rfl)); replace HB := am (hb); replace HI0 := am (hi); (try clear hb); (try clear hb2); (try clear hk); (try clear hi); (try clear ho0); obtain ⟨Ao44, co44, eo44⟩ := Kd.R_slice HO103.out; subst eo44) | ((with_reducible refine gate_callee (f := 91) rfl ?_); refine goesL_ (some 14) rfl rfl Try.func91 (by kernel_rfl) rfl #[.pointer (some ⟨g, 0, none⟩), .int .i64 (t101.length : Int)] rfl MT ?_; (with_reducible refine (spec_l1Rd_pick.calls k g s0_0 t104 (t101.length : Int) t105 t106 w0 _ ?side1 ?side2 A6.out).mono ?_); (case side1 => exact I143_0 HI0); (case side2 => exact K1 HB (IsS143.ge HI0.out)); rintro e w45 ⟨rfl, hi, hb, hk⟩; refine ⟨_, rfl, ?_⟩; replace HO103 := am (Kd.R_mono (Kd.R_keep (IsS143.apart (show IsS143 w0 _ g s0_0 t104 from I143_0 HI0) (KR HO103) (by decide)) hk (fun _ h => h.2)) (fun _ h => h.1)); replace HK := am (KeepBut.trans (J0 HK) hk (.inl rfl)); replace HB := am (hb); replace HI0 := am (hi); (try clear hb); (try clear hb2); (try clear hk); (try clear hi)) | ((with_reducible refine gate_callee (f := 91) rfl ?_); refine goesL_ (some 16) rfl rfl Try.func91 (by kernel_rfl) rfl #[.pointer (some ⟨g, 0, none⟩), .int .i64 20] rfl MT ?_; (with_reducible refine (spec_l1Rd_pick.calls k g s0_0 t106 20 t107 t108 w0 _ ?side1 ?side2 A7.out).mono ?_); (case side1 => exact I143_0 HI0); (case side2 => exact K1 HB (IsS143.ge HI0.out)); rintro e w46 ⟨rfl, hi, hb, hk⟩; refine ⟨_, rfl, ?_⟩; replace HO103 := am (Kd.R_mono (Kd.R_keep (IsS143.apart (show IsS143 w0 _ g s0_0 t106 from I143_0 HI0) (KR HO103) (by decide)) hk (fun _ h => h.2)) (fun _ h => h.1)); replace HK := am (KeepBut.trans (J0 HK) hk (.inl rfl)); replace HB := am (hb); replace HI0 := am (hi); (try clear hb); (try clear hb2); (try clear hk); (try clear hi)) | ((with_reducible refine gate_dst (N := 40) rfl ?_); refine Kd.R_lit (Kd.int .i64) _ 3 ?hg (N := 40) ?hd (xs := ([(-1), 65536] : List Int)) (inner := [.int .i64 (-1), .int .i64 65536]) (ok := fun _ => True) (okp := fun _ => True) ?hr ?hp (fun _ hk => hk) trivial (Below.refl _ _) (Nat.le_refl _) (by simp) ?_; (case hd => rfl); (case hg => rfl); (case hr => first | (go_simp; done) | (go_simp; rfl)); (case hp => exact (Reps.one (show Kd.M (Kd.int .i64) _ _ _ (-1) [.int .i64 (-1)] from rfl) (Reps.one (show Kd.M (Kd.int .i64) _ _ _ 65536 [.int .i64 65536] from rfl) (Reps.none _ _)))); intro v122 w47 ho48 hb hg_ hnew_; clear hg_ hnew_; (first | rw [← Ny121.out] at ho48 | (simp only [Int.reduceToNat] at ho48; rw [← Ny121.out] at ho48)); replace HO103 := am (Kd.R_below (KR HO103) hb); have HO123 := am (Kd.R_lower ho48 (keep_size (w := w) (g := g) (row := none) (J0 HK))); replace HK := am (KeepBut.trans (J0 HK) (KeepBut.of_below hb g none) (.inl rfl)); replace HB := am (below_step (K1 HB (IsS143.ge HI0.out)) hb); replace HI0 := am (IsS143.below (I143_0 HI0) hb); clear hb ho48; obtain ⟨Ao49, co49, eo49⟩ := Kd.R_slice HO123.out; subst eo49) | ((with_reducible refine gate_callee (f := 95) rfl ?_); refine goesL_ (some 41) rfl rfl Try.func95 (by kernel_rfl) rfl #[.pointer (some ⟨g, 0, none⟩), .slice Ao49 y121.length co49] rfl MT ?_; (with_reducible refine (spec_l1Rd_one.calls k g s0_0 t108 _ _ y121 t124 t125 w0 _ ?side1 ?side2 ?side3 ?side4 ?side5 A39.out).mono ?_); (case side1 => exact I143_0 HI0); (case side2 => exact K1 HB (IsS143.ge HI0.out)); (case side3 => exact KC (Kd.R_reads' HO123.out).2.2); (case side4 => exact (Kd.R_reads' HO123.out).2.1); (case side5 => exact far_slice (IsS143.own_ne HI0.out HO123.out (by decide))); rintro e w50 ⟨rfl, hi, hb, hk⟩; refine ⟨_, rfl, ?_⟩; replace HO103 := am (Kd.R_mono (Kd.R_keep (IsS143.apart (show IsS143 w0 _ g s0_0 t108 from I143_0 HI0) (KR HO103) (by decide)) hk (fun _ h => h.2)) (fun _ h => h.1)); replace HO123 := am (Kd.R_mono (Kd.R_keep (IsS143.apart (show IsS143 w0 _ g s0_0 t108 from I143_0 HI0) (KR HO123) (by decide)) hk (fun _ h => h.2)) (fun _ h => h.1)); replace HK := am (KeepBut.trans (J0 HK) hk (.inl rfl)); replace HB := am (hb); replace HI0 := am (hi); (try clear hb); (try clear hb2); (try clear hk); (try clear hi); have p42 : 0 ≤ (t105 : Int) := of_decide_eq_true (by first | (with_reducible assumption) | assumption); have q42 : (t105 : Int) < ((t101.length : Int) : Int) := of_decide_eq_true (by first | (with_reducible assumption) | assumption); obtain ⟨go42, co42, eo42, gb42, gl42, cl42, HG42⟩ := Kd.R_form HO103.out (by omega); (first | cases eo42 | (injection eo42 with ea_ en_ ec_; (first | subst ea_ | (injection ea_ with ea_; subst ea_)); subst ec_; clear en_)); have GB42 := Aside0.mk gb42; have GG42 := Aside0.mk HG42; clear gb42 gl42 HG42; obtain ⟨ce42, hcl42, hM42, hcc42, hfr42⟩ := Kd.R_elem HO103.out z34 (t105 : Int) p42 q42; obtain rfl := k34_openM hM42; have hx42_0 : w50.cell? ⟨go42, (t105 : Int).toNat * 8, none⟩ = some (.int .i64 ((rd_T34 t101 t105).f0)) := hcc42 0 _ rfl; have hx42_1 : w50.cell? ⟨go42, (t105 : Int).toNat * 8 + 1, none⟩ = some (.int .i64 ((rd_T34 t101 t105).f1)) := hcc42 1 _ rfl; have hx42_2 : w50.cell? ⟨go42, (t105 : Int).toNat * 8 + 2, none⟩ = some (.int .i64 ((rd_T34 t101 t105).f2.f0)) := hcc42 2 _ rfl; have hx42_3 : w50.cell? ⟨go42, (t105 : Int).toNat * 8 + 3, none⟩ = some (.int .i64 ((rd_T34 t101 t105).f2.f1)) := hcc42 3 _ rfl; have hx42_4 : w50.cell? ⟨go42, (t105 : Int).toNat * 8 + 4, none⟩ = some (.int .i64 ((rd_T34 t101 t105).f3.f0)) := hcc42 4 _ rfl; have hx42_5 : w50.cell? ⟨go42, (t105 : Int).toNat * 8 + 5, none⟩ = some (.int .i64 ((rd_T34 t101 t105).f3.f1)) := hcc42 5 _ rfl; have hx42_6 : w50.cell? ⟨go42, (t105 : Int).toNat * 8 + 6, none⟩ = some (.int .i64 ((rd_T34 t101 t105).f4)) := hcc42 6 _ rfl; have hx42_7 : w50.cell? ⟨go42, (t105 : Int).toNat * 8 + 7, none⟩ = some (.int .i64 ((rd_T34 t101 t105).f5)) := hcc42 7 _ rfl; have hf42_0 : w50.frozen? ⟨go42, (t105 : Int).toNat * 8, none⟩ = false := hfr42 0; have hf42_1 : w50.frozen? ⟨go42, (t105 : Int).toNat * 8 + 1, none⟩ = false := hfr42 1; have hf42_2 : w50.frozen? ⟨go42, (t105 : Int).toNat * 8 + 2, none⟩ = false := hfr42 2; have hf42_3 : w50.frozen? ⟨go42, (t105 : Int).toNat * 8 + 3, none⟩ = false := hfr42 3; have hf42_4 : w50.frozen? ⟨go42, (t105 : Int).toNat * 8 + 4, none⟩ = false := hfr42 4; have hf42_5 : w50.frozen? ⟨go42, (t105 : Int).toNat * 8 + 5, none⟩ = false := hfr42 5; have hf42_6 : w50.frozen? ⟨go42, (t105 : Int).toNat * 8 + 6, none⟩ = false := hfr42 6; have hf42_7 : w50.frozen? ⟨go42, (t105 : Int).toNat * 8 + 7, none⟩ = false := hfr42 7; clear hcl42 hcc42 hfr42 hM42; replace p42 := eq_true p42; replace q42 := eq_true q42; have HX51 := am (show Kd.R k34 34 w50 w.heap.size (fun _ => True) (.slice (some ⟨go42, 0, none⟩) t101.length co44) t101 from (KR HO103)); obtain ⟨ce51, hcl51, hM51, hcc51, hfr51⟩ := Kd.R_elem HX51.out z34 (t105 : Int) (of_decide_eq_true (by first | (with_reducible assumption) | assumption)) (by have h_ : (t105 : Int) < ((t101.length : Int) : Int) := of_decide_eq_true (by first | (with_reducible assumption) | assumption); first | exact h_ | (have e_ := (Kd.R_reads' HO103.out).1; omega) | simpa using h_); obtain rfl := k34_openM hM51; have HP51 := Kd.R_seg HX51.out (t105 : Int) (of_decide_eq_true (by first | (with_reducible assumption) | assumption)) (by have h_ : (t105 : Int) < ((t101.length : Int) : Int) := of_decide_eq_true (by first | (with_reducible assumption) | assumption); first | exact h_ | (have e_ := (Kd.R_reads' HO103.out).1; omega) | simpa using h_) (seg := [.int .i64 t124]) (j := 6) hcl51 hcc51 (show 7 ≤ 8 from by decide) (x' := (⟨(rd_T34 t101 t105).f0, (rd_T34 t101 t105).f1, (⟨(rd_T34 t101 t105).f2.f0, (rd_T34 t101 t105).f2.f1⟩ : S32), (⟨(rd_T34 t101 t105).f3.f0, (rd_T34 t101 t105).f3.f1⟩ : S32), t124, (rd_T34 t101 t105).f5⟩ : S34)) (k34_mkM _ _ _ (⟨(rd_T34 t101 t105).f0, (rd_T34 t101 t105).f1, (⟨(rd_T34 t101 t105).f2.f0, (rd_T34 t101 t105).f2.f1⟩ : S32), (⟨(rd_T34 t101 t105).f3.f0, (rd_T34 t101 t105).f3.f1⟩ : S32), t124, (rd_T34 t101 t105).f5⟩ : S34) ) (fun _ hk => hk); have hx51_6 := hcc51 6 _ rfl; (try simp only [show (k34).sz = 8 from rfl, Nat.mul_one, Nat.add_zero] at hx51_6); have hf51_6 := hfr51 6; (try simp only [show (k34).sz = 8 from rfl, Nat.mul_one, Nat.add_zero] at hf51_6); clear hcl51 hcc51 hfr51 hM51) | ((with_reducible refine gate_store (t := 3) (p := 43) rfl ?_); refine store_event (t := 3) (p := 43) (v := ?vo_w52) (w1 := (w50.setCell ⟨go42, (t105 : Int).toNat * 8 + 6, none⟩ (.int .i64 t124))) ?hg ?ho ?hn ?hr ?_; (case ho => rfl); (case hg => rfl); (case hn => rfl); (case hr => first | (go_simp; done) | (go_simp; rfl)); intro w52 hw; have hg : w50.grownBy w52 (some go42) := (by rw [hw]; exact HP51.2); have hp_ : Kd.R k34 34 w52 w.heap.size (fun _ => True) (.slice (some ⟨go42, 0, none⟩) t101.length co44) y126 := (by rw [hw, Ny126.out]; exact HP51.1); clear HP51; replace HI0 := am (IsS143.grown (I143_0 HI0) hg (IsS143.own_ne HI0.out HO103.out (by decide))); replace HO123 := am (Kd.R_over' (v := (.slice (some ⟨go42, 0, none⟩) t101.length co44)) (KR HO123) (Kd.R_typed HO103.out) (by decide) hg); replace HB := am ((by rw [hw]; exact below_set (HB.out) (Nat.le_trans HL.out GB42.out) : Below w0.heap.size w0 w52)); replace HK := am (KeepBut.trans (J0 HK) (KeepBut.of_grown hg g) (Kd.R_base2 HO103.out)); replace HO103 := am (hp_); clear hg hw hp_))
       go_ret
       exact ⟨_, by first | rfl | (simp [errW_none, errW_some] <;> rfl) | (simp [*, errW_none, errW_some] <;> rfl), by (with_reducible repeat (first | apply Kd.R_alloc | apply Kd.R_drewN | apply Kd.R_drew)); exact HO103.out, I143_0 HI0, K1 HB (IsS143.ge HI0.out), J0 HK⟩
      ·rw [if_neg c41] at H
       exact absurd H (by simp)
     ·rw [if_neg c40] at H
      exact absurd H (by simp)
    ·rw [if_neg c38] at H
     have c38b0 : (t107 == 2) = false := beq_eq_false_iff_ne.mpr c38
     have c38b1 : (t107 != 2) = true := bne_iff_ne.mpr c38
     by_cases c53 : t107 = 3
     ·rw [if_pos c53] at H
      have c53b0 : (t107 == 3) = true := beq_iff_eq.mpr c53
      have c53b1 : (t107 != 3) = false := bne_eq_false_iff_eq.mpr c53
      clear c53
      replace H := Option.bind_eq_some_iff.mp H
      obtain ⟨⟨t127, t128, t129⟩, A540, H⟩ := H
      replace H : (if 0 ≤ t105 then (if t105 < (t101.length : Int) then (some ((t101.set (t105 : Int).toNat (⟨(rd_T34 t101 t105).f0, (rd_T34 t101 t105).f1, (⟨t127, t128⟩ : S32), (⟨(rd_T34 t101 t105).f3.f0, (rd_T34 t101 t105).f3.f1⟩ : S32), (rd_T34 t101 t105).f4, (rd_T34 t101 t105).f5⟩ : S34)), t129)) else (none)) else (none)) = some (r1, r2) := H
      have A54 := Aside0.mk A540
      clear A540
      by_cases c55 : 0 ≤ t105
      ·rw [if_pos c55] at H
       have c55b0 : decide (0 ≤ t105) = true := decide_eq_true c55
       clear c55
       by_cases c56 : t105 < (t101.length : Int)
       ·rw [if_pos c56] at H
        have c56b0 : decide (t105 < (t101.length : Int)) = true := decide_eq_true c56
        clear c56
        obtain ⟨y130, hy130⟩ : ∃ y_ : List (S34), y_ = (t101.set (t105 : Int).toNat (⟨(rd_T34 t101 t105).f0, (rd_T34 t101 t105).f1, (⟨t127, t128⟩ : S32), (⟨(rd_T34 t101 t105).f3.f0, (rd_T34 t101 t105).f3.f1⟩ : S32), (rd_T34 t101 t105).f4, (rd_T34 t101 t105).f5⟩ : S34)) := ⟨_, rfl⟩
        replace H : (some (y130, t129)) = some (r1, r2) := by first | (rw [hy130]; with_reducible exact H) | (have H2_ := (Option.bind_some _ _).symm.trans H; rw [hy130]; with_reducible exact H2_) | (have H2_ := (Option.bind_some _ _).symm.trans H; with_reducible exact H2_) | with_reducible exact H | (rw [hy130]; exact H) | exact H
        have Ny130 := Aside0.mk hy130
        clear hy130
        simp only [Option.some.injEq, Prod.mk.injEq] at H
        obtain ⟨rfl, rfl⟩ := H
        go_enter Try.func71, Try.ntmps71
        go_wp2_with (first | ((with_reducible refine gate_callee (f := 122) rfl ?_); refine goesL_ (some 6) rfl rfl Try.func122 (by kernel_rfl) rfl #[.pointer (some ⟨g, 0, none⟩)] rfl MT ?_; (with_reducible refine (spec_l12Rules.calls k g s0_0 s0_1 t101 t104 w0 _ ?side1 ?side2 A2.out).mono ?_); (case side1 => exact I143_0 HI0); (case side2 => exact K1 HB (IsS143.ge HI0.out)); rintro e w58 ⟨v102, rfl, ho0, hi, hb, hk⟩; refine ⟨_, rfl, ?_⟩; have HO103 := am (Kd.R_lower ho0 (keep_size (w := w) (g := g) (row := none) (J0 HK))); replace HK := am (KeepBut.trans (J0 HK) hk (.inl rfl)); replace HB := am (hb); replace HI0 := am (hi); (try clear hb); (try clear hb2); (try clear hk); (try clear hi); (try clear ho0); obtain ⟨Ao59, co59, eo59⟩ := Kd.R_slice HO103.out; subst eo59) | ((with_reducible refine gate_callee (f := 91) rfl ?_); refine goesL_ (some 14) rfl rfl Try.func91 (by kernel_rfl) rfl #[.pointer (some ⟨g, 0, none⟩), .int .i64 (t101.length : Int)] rfl MT ?_; (with_reducible refine (spec_l1Rd_pick.calls k g s0_0 t104 (t101.length : Int) t105 t106 w0 _ ?side1 ?side2 A6.out).mono ?_); (case side1 => exact I143_0 HI0); (case side2 => exact K1 HB (IsS143.ge HI0.out)); rintro e w60 ⟨rfl, hi, hb, hk⟩; refine ⟨_, rfl, ?_⟩; replace HO103 := am (Kd.R_mono (Kd.R_keep (IsS143.apart (show IsS143 w0 _ g s0_0 t104 from I143_0 HI0) (KR HO103) (by decide)) hk (fun _ h => h.2)) (fun _ h => h.1)); replace HK := am (KeepBut.trans (J0 HK) hk (.inl rfl)); replace HB := am (hb); replace HI0 := am (hi); (try clear hb); (try clear hb2); (try clear hk); (try clear hi)) | ((with_reducible refine gate_callee (f := 91) rfl ?_); refine goesL_ (some 16) rfl rfl Try.func91 (by kernel_rfl) rfl #[.pointer (some ⟨g, 0, none⟩), .int .i64 20] rfl MT ?_; (with_reducible refine (spec_l1Rd_pick.calls k g s0_0 t106 20 t107 t108 w0 _ ?side1 ?side2 A7.out).mono ?_); (case side1 => exact I143_0 HI0); (case side2 => exact K1 HB (IsS143.ge HI0.out)); rintro e w61 ⟨rfl, hi, hb, hk⟩; refine ⟨_, rfl, ?_⟩; replace HO103 := am (Kd.R_mono (Kd.R_keep (IsS143.apart (show IsS143 w0 _ g s0_0 t106 from I143_0 HI0) (KR HO103) (by decide)) hk (fun _ h => h.2)) (fun _ h => h.1)); replace HK := am (KeepBut.trans (J0 HK) hk (.inl rfl)); replace HB := am (hb); replace HI0 := am (hi); (try clear hb); (try clear hb2); (try clear hk); (try clear hi)) | ((with_reducible refine gate_callee (f := 120) rfl ?_); refine goesL_ (some 49) rfl rfl Try.func120 (by kernel_rfl) rfl #[.pointer (some ⟨g, 0, none⟩)] rfl MT ?_; (with_reducible refine (spec_l12AnyBlock.calls k g s0_0 t108 t127 t128 t129 w0 _ ?side1 ?side2 A54.out).mono ?_); (case side1 => exact I143_0 HI0); (case side2 => exact K1 HB (IsS143.ge HI0.out)); rintro e w62 ⟨rfl, hi, hb, hk⟩; refine ⟨_, rfl, ?_⟩; replace HO103 := am (Kd.R_mono (Kd.R_keep (IsS143.apart (show IsS143 w0 _ g s0_0 t108 from I143_0 HI0) (KR HO103) (by decide)) hk (fun _ h => h.2)) (fun _ h => h.1)); replace HK := am (KeepBut.trans (J0 HK) hk (.inl rfl)); replace HB := am (hb); replace HI0 := am (hi); (try clear hb); (try clear hb2); (try clear hk); (try clear hi); have p57 : 0 ≤ (t105 : Int) := of_decide_eq_true (by first | (with_reducible assumption) | assumption); have q57 : (t105 : Int) < ((t101.length : Int) : Int) := of_decide_eq_true (by first | (with_reducible assumption) | assumption); obtain ⟨go57, co57, eo57, gb57, gl57, cl57, HG57⟩ := Kd.R_form HO103.out (by omega); (first | cases eo57 | (injection eo57 with ea_ en_ ec_; (first | subst ea_ | (injection ea_ with ea_; subst ea_)); subst ec_; clear en_)); have GB57 := Aside0.mk gb57; have GG57 := Aside0.mk HG57; clear gb57 gl57 HG57; obtain ⟨ce57, hcl57, hM57, hcc57, hfr57⟩ := Kd.R_elem HO103.out z34 (t105 : Int) p57 q57; obtain rfl := k34_openM hM57; have hx57_0 : w62.cell? ⟨go57, (t105 : Int).toNat * 8, none⟩ = some (.int .i64 ((rd_T34 t101 t105).f0)) := hcc57 0 _ rfl; have hx57_1 : w62.cell? ⟨go57, (t105 : Int).toNat * 8 + 1, none⟩ = some (.int .i64 ((rd_T34 t101 t105).f1)) := hcc57 1 _ rfl; have hx57_2 : w62.cell? ⟨go57, (t105 : Int).toNat * 8 + 2, none⟩ = some (.int .i64 ((rd_T34 t101 t105).f2.f0)) := hcc57 2 _ rfl; have hx57_3 : w62.cell? ⟨go57, (t105 : Int).toNat * 8 + 3, none⟩ = some (.int .i64 ((rd_T34 t101 t105).f2.f1)) := hcc57 3 _ rfl; have hx57_4 : w62.cell? ⟨go57, (t105 : Int).toNat * 8 + 4, none⟩ = some (.int .i64 ((rd_T34 t101 t105).f3.f0)) := hcc57 4 _ rfl; have hx57_5 : w62.cell? ⟨go57, (t105 : Int).toNat * 8 + 5, none⟩ = some (.int .i64 ((rd_T34 t101 t105).f3.f1)) := hcc57 5 _ rfl; have hx57_6 : w62.cell? ⟨go57, (t105 : Int).toNat * 8 + 6, none⟩ = some (.int .i64 ((rd_T34 t101 t105).f4)) := hcc57 6 _ rfl; have hx57_7 : w62.cell? ⟨go57, (t105 : Int).toNat * 8 + 7, none⟩ = some (.int .i64 ((rd_T34 t101 t105).f5)) := hcc57 7 _ rfl; have hf57_0 : w62.frozen? ⟨go57, (t105 : Int).toNat * 8, none⟩ = false := hfr57 0; have hf57_1 : w62.frozen? ⟨go57, (t105 : Int).toNat * 8 + 1, none⟩ = false := hfr57 1; have hf57_2 : w62.frozen? ⟨go57, (t105 : Int).toNat * 8 + 2, none⟩ = false := hfr57 2; have hf57_3 : w62.frozen? ⟨go57, (t105 : Int).toNat * 8 + 3, none⟩ = false := hfr57 3; have hf57_4 : w62.frozen? ⟨go57, (t105 : Int).toNat * 8 + 4, none⟩ = false := hfr57 4; have hf57_5 : w62.frozen? ⟨go57, (t105 : Int).toNat * 8 + 5, none⟩ = false := hfr57 5; have hf57_6 : w62.frozen? ⟨go57, (t105 : Int).toNat * 8 + 6, none⟩ = false := hfr57 6; have hf57_7 : w62.frozen? ⟨go57, (t105 : Int).toNat * 8 + 7, none⟩ = false := hfr57 7; clear hcl57 hcc57 hfr57 hM57; replace p57 := eq_true p57; replace q57 := eq_true q57; have HX63 := am (show Kd.R k34 34 w62 w.heap.size (fun _ => True) (.slice (some ⟨go57, 0, none⟩) t101.length co59) t101 from (KR HO103)); obtain ⟨ce63, hcl63, hM63, hcc63, hfr63⟩ := Kd.R_elem HX63.out z34 (t105 : Int) (of_decide_eq_true (by first | (with_reducible assumption) | assumption)) (by have h_ : (t105 : Int) < ((t101.length : Int) : Int) := of_decide_eq_true (by first | (with_reducible assumption) | assumption); first | exact h_ | (have e_ := (Kd.R_reads' HO103.out).1; omega) | simpa using h_); obtain rfl := k34_openM hM63; have HP63 := Kd.R_seg HX63.out (t105 : Int) (of_decide_eq_true (by first | (with_reducible assumption) | assumption)) (by have h_ : (t105 : Int) < ((t101.length : Int) : Int) := of_decide_eq_true (by first | (with_reducible assumption) | assumption); first | exact h_ | (have e_ := (Kd.R_reads' HO103.out).1; omega) | simpa using h_) (seg := [.int .i64 t127, .int .i64 t128]) (j := 2) hcl63 hcc63 (show 4 ≤ 8 from by decide) (x' := (⟨(rd_T34 t101 t105).f0, (rd_T34 t101 t105).f1, (⟨t127, t128⟩ : S32), (⟨(rd_T34 t101 t105).f3.f0, (rd_T34 t101 t105).f3.f1⟩ : S32), (rd_T34 t101 t105).f4, (rd_T34 t101 t105).f5⟩ : S34)) (k34_mkM _ _ _ (⟨(rd_T34 t101 t105).f0, (rd_T34 t101 t105).f1, (⟨t127, t128⟩ : S32), (⟨(rd_T34 t101 t105).f3.f0, (rd_T34 t101 t105).f3.f1⟩ : S32), (rd_T34 t101 t105).f4, (rd_T34 t101 t105).f5⟩ : S34) ) (fun _ hk => hk); have hx63_2 := hcc63 2 _ rfl; (try simp only [show (k34).sz = 8 from rfl, Nat.mul_one, Nat.add_zero] at hx63_2); have hf63_2 := hfr63 2; (try simp only [show (k34).sz = 8 from rfl, Nat.mul_one, Nat.add_zero] at hf63_2); have hx63_3 := hcc63 3 _ rfl; (try simp only [show (k34).sz = 8 from rfl, Nat.mul_one, Nat.add_zero] at hx63_3); have hf63_3 := hfr63 3; (try simp only [show (k34).sz = 8 from rfl, Nat.mul_one, Nat.add_zero] at hf63_3); clear hcl63 hcc63 hfr63 hM63) | ((with_reducible refine gate_store (t := 32) (p := 51) rfl ?_); refine store_event (t := 32) (p := 51) (v := ?vo_w64) (w1 := ((w62.setCell ⟨go57, (t105 : Int).toNat * 8 + 2, none⟩ (.int .i64 t127)).setCell ⟨go57, (t105 : Int).toNat * 8 + 3, none⟩ (.int .i64 t128))) ?hg ?ho ?hn ?hr ?_; (case ho => rfl); (case hg => rfl); (case hn => rfl); (case hr => first | (go_simp; done) | (go_simp; rfl)); intro w64 hw; have hg : w62.grownBy w64 (some go57) := (by rw [hw]; exact HP63.2); have hp_ : Kd.R k34 34 w64 w.heap.size (fun _ => True) (.slice (some ⟨go57, 0, none⟩) t101.length co59) y130 := (by rw [hw, Ny130.out]; exact HP63.1); clear HP63; replace HI0 := am (IsS143.grown (I143_0 HI0) hg (IsS143.own_ne HI0.out HO103.out (by decide))); replace HB := am ((by rw [hw]; exact below_set (below_set (HB.out) (Nat.le_trans HL.out GB57.out)) (Nat.le_trans HL.out GB57.out) : Below w0.heap.size w0 w64)); replace HK := am (KeepBut.trans (J0 HK) (KeepBut.of_grown hg g) (Kd.R_base2 HO103.out)); replace HO103 := am (hp_); clear hg hw hp_))
        go_ret
        exact ⟨_, by first | rfl | (simp [errW_none, errW_some] <;> rfl) | (simp [*, errW_none, errW_some] <;> rfl), by (with_reducible repeat (first | apply Kd.R_alloc | apply Kd.R_drewN | apply Kd.R_drew)); exact HO103.out, I143_0 HI0, K1 HB (IsS143.ge HI0.out), J0 HK⟩
       ·rw [if_neg c56] at H
        exact absurd H (by simp)
      ·rw [if_neg c55] at H
       exact absurd H (by simp)
     ·rw [if_neg c53] at H
      have c53b0 : (t107 == 3) = false := beq_eq_false_iff_ne.mpr c53
      have c53b1 : (t107 != 3) = true := bne_iff_ne.mpr c53
      by_cases c65 : t107 = 4
      ·rw [if_pos c65] at H
       have c65b0 : (t107 == 4) = true := beq_iff_eq.mpr c65
       have c65b1 : (t107 != 4) = false := bne_eq_false_iff_eq.mpr c65
       clear c65
       have H' := Aside0.mk H
       clear H
       go_enter Try.func71, Try.ntmps71
       go_wp2_with (first | ((with_reducible refine gate_callee (f := 122) rfl ?_); refine goesL_ (some 6) rfl rfl Try.func122 (by kernel_rfl) rfl #[.pointer (some ⟨g, 0, none⟩)] rfl MT ?_; (with_reducible refine (spec_l12Rules.calls k g s0_0 s0_1 t101 t104 w0 _ ?side1 ?side2 A2.out).mono ?_); (case side1 => exact I143_0 HI0); (case side2 => exact K1 HB (IsS143.ge HI0.out)); rintro e w66 ⟨v102, rfl, ho0, hi, hb, hk⟩; refine ⟨_, rfl, ?_⟩; have HO103 := am (Kd.R_lower ho0 (keep_size (w := w) (g := g) (row := none) (J0 HK))); replace HK := am (KeepBut.trans (J0 HK) hk (.inl rfl)); replace HB := am (hb); replace HI0 := am (hi); (try clear hb); (try clear hb2); (try clear hk); (try clear hi); (try clear ho0); obtain ⟨Ao67, co67, eo67⟩ := Kd.R_slice HO103.out; subst eo67) | ((with_reducible refine gate_callee (f := 91) rfl ?_); refine goesL_ (some 14) rfl rfl Try.func91 (by kernel_rfl) rfl #[.pointer (some ⟨g, 0, none⟩), .int .i64 (t101.length : Int)] rfl MT ?_; (with_reducible refine (spec_l1Rd_pick.calls k g s0_0 t104 (t101.length : Int) t105 t106 w0 _ ?side1 ?side2 A6.out).mono ?_); (case side1 => exact I143_0 HI0); (case side2 => exact K1 HB (IsS143.ge HI0.out)); rintro e w68 ⟨rfl, hi, hb, hk⟩; refine ⟨_, rfl, ?_⟩; replace HO103 := am (Kd.R_mono (Kd.R_keep (IsS143.apart (show IsS143 w0 _ g s0_0 t104 from I143_0 HI0) (KR HO103) (by decide)) hk (fun _ h => h.2)) (fun _ h => h.1)); replace HK := am (KeepBut.trans (J0 HK) hk (.inl rfl)); replace HB := am (hb); replace HI0 := am (hi); (try clear hb); (try clear hb2); (try clear hk); (try clear hi)) | ((with_reducible refine gate_callee (f := 91) rfl ?_); refine goesL_ (some 16) rfl rfl Try.func91 (by kernel_rfl) rfl #[.pointer (some ⟨g, 0, none⟩), .int .i64 20] rfl MT ?_; (with_reducible refine (spec_l1Rd_pick.calls k g s0_0 t106 20 t107 t108 w0 _ ?side1 ?side2 A7.out).mono ?_); (case side1 => exact I143_0 HI0); (case side2 => exact K1 HB (IsS143.ge HI0.out)); rintro e w69 ⟨rfl, hi, hb, hk⟩; refine ⟨_, rfl, ?_⟩; replace HO103 := am (Kd.R_mono (Kd.R_keep (IsS143.apart (show IsS143 w0 _ g s0_0 t106 from I143_0 HI0) (KR HO103) (by decide)) hk (fun _ h => h.2)) (fun _ h => h.1)); replace HK := am (KeepBut.trans (J0 HK) hk (.inl rfl)); replace HB := am (hb); replace HI0 := am (hi); (try clear hb); (try clear hb2); (try clear hk); (try clear hi)))
       go_loopg [3] k (fun kq v3 w' => ∃ (x3_1 : List (S34)) (x1001_1 : Int), Aside0 (spec_l12AnyRules.l0 kq x3_1 s0_0 x1001_1 = some (r1, r2)) ∧ Aside0 (kq ≤ k) ∧ Aside0 (Kd.R k34 34 w' w.heap.size (fun _ => True) v3 x3_1) ∧ Aside0 (IsS143 w0 w' g s0_0 x1001_1) ∧ Aside0 (KeepBut w w' g none) ∧ Aside0 (Below w0.heap.size w0 w'))
       case atStart => exact ⟨(t101), (t108), H', ⟨Nat.le_refl _⟩, ⟨KR HO103⟩, ⟨I143_0 HI0⟩, ⟨J0 HK⟩, ⟨K1 HB (IsS143.ge HI0.out)⟩⟩
       case round =>
        clear H'
        try clear c1
        try clear p1
        try clear q1
        try clear hx1
        try clear hf1
        try clear c2
        try clear p2
        try clear q2
        try clear hx2
        try clear hf2
        try clear c3
        try clear c3b0
        try clear c3b1
        try clear c3b2
        try clear hx3
        try clear hf3
        try clear c4
        try clear p4
        try clear q4
        try clear hx4
        try clear hf4
        try clear c5
        try clear p5
        try clear q5
        try clear hx5
        try clear hf5
        try clear c6
        try clear hx6
        try clear hf6
        try clear c7
        try clear c8
        try clear c8b0
        try clear c8b1
        try clear c9
        try clear c10
        try clear c10b0
        try clear c11
        try clear c11b0
        try clear c12
        try clear p12
        try clear q12
        try clear hx12
        try clear hf12
        try clear c21
        try clear hx21
        try clear hf21
        try clear c23
        try clear c23b0
        try clear c23b1
        try clear c25
        try clear c25b0
        try clear c26
        try clear c26b0
        try clear c27
        try clear p27
        try clear q27
        try clear hx27
        try clear hf27
        try clear c36
        try clear hx36
        try clear hf36
        try clear c38
        try clear c38b0
        try clear c38b1
        try clear c40
        try clear c40b0
        try clear c41
        try clear c41b0
        try clear c42
        try clear p42
        try clear q42
        try clear hx42
        try clear hf42
        try clear c51
        try clear hx51
        try clear hf51
        try clear c53
        try clear c53b0
        try clear c53b1
        try clear c55
        try clear c55b0
        try clear c56
        try clear c56b0
        try clear c57
        try clear p57
        try clear q57
        try clear hx57
        try clear hf57
        try clear c63
        try clear hx63
        try clear hf63
        try clear c65
        try clear c65b0
        try clear c65b1
        try clear hx12_0
        try clear hx12_1
        try clear hx12_2
        try clear hx12_3
        try clear hx12_4
        try clear hx12_5
        try clear hx12_6
        try clear hx12_7
        try clear hx21_0
        try clear hx27_0
        try clear hx27_1
        try clear hx27_2
        try clear hx27_3
        try clear hx27_4
        try clear hx27_5
        try clear hx27_6
        try clear hx27_7
        try clear hx36_1
        try clear hx42_0
        try clear hx42_1
        try clear hx42_2
        try clear hx42_3
        try clear hx42_4
        try clear hx42_5
        try clear hx42_6
        try clear hx42_7
        try clear hx51_6
        try clear hx57_0
        try clear hx57_1
        try clear hx57_2
        try clear hx57_3
        try clear hx57_4
        try clear hx57_5
        try clear hx57_6
        try clear hx57_7
        try clear hx63_2
        try clear hx63_3
        try clear p12
        try clear p27
        try clear p42
        try clear p57
        try clear q12
        try clear q27
        try clear q42
        try clear q57
        obtain ⟨x3_1, x1001_1, HA, HK1, HO_3, HI0, HK, HB⟩ := hrel
        cases gk with
        | zero => exact absurd HA.out (by simp [spec_l12AnyRules.l0])
        | succ k1 =>
         have H := HA.out
         clear HA
         simp only [spec_l12AnyRules.l0] at H
         replace H := Option.bind_eq_some_iff.mp H
         obtain ⟨⟨t131, t132⟩, A700, H⟩ := H
         replace H : (if (x3_1.length : Int) < (wrap64 (8 + t131)) then ((spec_l12Rule.f k1 s0_0 t132).bind fun bt133 => (if x3_1.length < 2199023255552 then (spec_l12AnyRules.l0 k1 (x3_1 ++ [(⟨bt133.1, bt133.2.1, (⟨bt133.2.2.1, bt133.2.2.2.1⟩ : S32), (⟨bt133.2.2.2.2.1, bt133.2.2.2.2.2.1⟩ : S32), bt133.2.2.2.2.2.2.1, bt133.2.2.2.2.2.2.2.1⟩ : S34)]) s0_0 bt133.2.2.2.2.2.2.2.2) else (none))) else (some (x3_1, t132))) = some (r1, r2) := H
         have A70 := Aside0.mk A700
         clear A700
         by_cases c71 : (x3_1.length : Int) < (wrap64 (8 + t131))
         ·rw [if_pos c71] at H
          have c71b0 : decide ((x3_1.length : Int) < (wrap64 (8 + t131))) = true := decide_eq_true c71
          clear c71
          replace H := Option.bind_eq_some_iff.mp H
          obtain ⟨⟨t133, t134, t135, t136, t137, t138, t139, t140, t141⟩, A720, H⟩ := H
          replace H : (if x3_1.length < 2199023255552 then (spec_l12AnyRules.l0 k1 (x3_1 ++ [(⟨t133, t134, (⟨t135, t136⟩ : S32), (⟨t137, t138⟩ : S32), t139, t140⟩ : S34)]) s0_0 t141) else (none)) = some (r1, r2) := H
          have A72 := Aside0.mk A720
          clear A720
          by_cases c73 : x3_1.length < 2199023255552
          ·rw [if_pos c73] at H
           have LMc73 := Aside0.mk c73
           clear c73
           obtain ⟨y142, hy142⟩ : ∃ y_ : List (S34), y_ = (x3_1 ++ [(⟨t133, t134, (⟨t135, t136⟩ : S32), (⟨t137, t138⟩ : S32), t139, t140⟩ : S34)]) := ⟨_, rfl⟩
           replace H : (spec_l12AnyRules.l0 k1 y142 s0_0 t141) = some (r1, r2) := by first | (rw [hy142]; with_reducible exact H) | (have H2_ := (Option.bind_some _ _).symm.trans H; rw [hy142]; with_reducible exact H2_) | (have H2_ := (Option.bind_some _ _).symm.trans H; with_reducible exact H2_) | with_reducible exact H | (rw [hy142]; exact H) | exact H
           have Ny142 := Aside0.mk hy142
           clear hy142
           have H' := Aside0.mk H
           clear H
           obtain ⟨Ao74, co74, eo74⟩ := Kd.R_slice HO_3.out
           subst eo74
           go_wp2_with (first | ((with_reducible refine gate_callee (f := 91) rfl ?_); refine goesL_ (some 57) rfl rfl Try.func91 (by kernel_rfl) rfl #[.pointer (some ⟨g, 0, none⟩), .int .i64 2] rfl MT ?_; (with_reducible refine (spec_l1Rd_pick.calls k1 g s0_0 x1001_1 2 t131 t132 w0 _ ?side1 ?side2 A70.out).mono ?_); (case side1 => exact I143_0 HI0); (case side2 => exact K1 HB (IsS143.ge HI0.out)); rintro e w75 ⟨rfl, hi, hb, hk⟩; refine ⟨_, rfl, ?_⟩; replace HO_3 := am (Kd.R_mono (Kd.R_keep (IsS143.apart (show IsS143 w0 _ g s0_0 x1001_1 from I143_0 HI0) (KR HO_3) (by decide)) hk (fun _ h => h.2)) (fun _ h => h.1)); replace HK := am (KeepBut.trans (J0 HK) hk (.inl rfl)); replace HB := am (hb); replace HI0 := am (hi); (try clear hb); (try clear hb2); (try clear hk); (try clear hi)) | ((with_reducible refine gate_callee (f := 123) rfl ?_); refine goesL_ (some 62) rfl rfl Try.func123 (by kernel_rfl) rfl #[.pointer (some ⟨g, 0, none⟩)] rfl MT ?_; (with_reducible refine (spec_l12Rule.calls k1 g s0_0 t132 t133 t134 t135 t136 t137 t138 t139 t140 t141 w0 _ ?side1 ?side2 A72.out).mono ?_); (case side1 => exact I143_0 HI0); (case side2 => exact K1 HB (IsS143.ge HI0.out)); rintro e w76 ⟨rfl, hi, hb, hk⟩; refine ⟨_, rfl, ?_⟩; replace HO_3 := am (Kd.R_mono (Kd.R_keep (IsS143.apart (show IsS143 w0 _ g s0_0 t132 from I143_0 HI0) (KR HO_3) (by decide)) hk (fun _ h => h.2)) (fun _ h => h.1)); replace HK := am (KeepBut.trans (J0 HK) hk (.inl rfl)); replace HB := am (hb); replace HI0 := am (hi); (try clear hb); (try clear hb2); (try clear hk); (try clear hi)) | ((with_reducible refine gate_builtin (b := .append) (xs := #[.tmp 60, .tmp 63]) rfl ?_); at_builtin; refine Kd.R_append k34 w.heap.size rfl (.tmp 60) (.tmp 63) 23 34 (.agg #[(.int .i64 0), (.int .i64 0), (.int .i64 0), (.int .i64 0), (.int .i64 0), (.int .i64 0), (.int .i64 0), (.int .i64 0)]) 64 rfl Try.underlying23 info34 rfl (by decide) (by omega) (.slice Ao74 x3_1.length co74) x3_1 (⟨t133, t134, (⟨t135, t136⟩ : S32), (⟨t137, t138⟩ : S32), t139, t140⟩ : S34) [.int .i64 t133, .int .i64 t134, .int .i64 t135, .int .i64 t136, .int .i64 t137, .int .i64 t138, .int .i64 t139, .int .i64 t140] (fun _ => True) (fun _ => False) rfl rfl ?aP (fun _ hk => hk.elim) ?aF ?aO (Below.refl _ _) ?aS ?aL ?_; (case aP => exact k34_mkM _ _ _ (⟨t133, t134, (⟨t135, t136⟩ : S32), (⟨t137, t138⟩ : S32), t139, t140⟩ : S34)); (case aF => exact (fun _ _ => trivial)); (case aO => exact (KR HO_3)); (case aS => exact (keep_size (w := w) (g := g) (row := none) (J0 HK))); (case aL => have := LMc73.out; omega); intro v143 w77 ho hb hg hat; rw [← Ny142.out] at ho; replace HB := am (below_weaken (K1 HB (IsS143.ge HI0.out)) HL.out hb); replace HI0 := am (IsS143.grown (I143_0 HI0) hg (IsS143.own_ne HI0.out HO_3.out (by decide))); replace HK := am (KeepBut.trans (J0 HK) (KeepBut.of_grown hg g) (Kd.R_base2 HO_3.out)); have HO144 := am (ho); clear HO_3; clear ho hb hg hat))
           go_roundg k1
           case measure => have := HK1.out; omega
           case rel => exact ⟨(y142), (t141), H', ⟨by have := HK1.out; omega⟩, ⟨KR HO144⟩, ⟨I143_0 HI0⟩, ⟨J0 HK⟩, ⟨K1 HB (IsS143.ge HI0.out)⟩⟩
          ·rw [if_neg c73] at H
           exact absurd H (by simp)
         ·rw [if_neg c71] at H
          have c71b0 : decide ((x3_1.length : Int) < (wrap64 (8 + t131))) = false := decide_eq_false c71
          clear c71
          simp only [Option.some.injEq, Prod.mk.injEq] at H
          obtain ⟨rfl, rfl⟩ := H
          obtain ⟨Ao78, co78, eo78⟩ := Kd.R_slice HO_3.out
          subst eo78
          go_wp2_with (first | ((with_reducible refine gate_callee (f := 91) rfl ?_); refine goesL_ (some 57) rfl rfl Try.func91 (by kernel_rfl) rfl #[.pointer (some ⟨g, 0, none⟩), .int .i64 2] rfl MT ?_; (with_reducible refine (spec_l1Rd_pick.calls k1 g s0_0 x1001_1 2 t131 t132 w0 _ ?side1 ?side2 A70.out).mono ?_); (case side1 => exact I143_0 HI0); (case side2 => exact K1 HB (IsS143.ge HI0.out)); rintro e w79 ⟨rfl, hi, hb, hk⟩; refine ⟨_, rfl, ?_⟩; replace HO_3 := am (Kd.R_mono (Kd.R_keep (IsS143.apart (show IsS143 w0 _ g s0_0 x1001_1 from I143_0 HI0) (KR HO_3) (by decide)) hk (fun _ h => h.2)) (fun _ h => h.1)); replace HK := am (KeepBut.trans (J0 HK) hk (.inl rfl)); replace HB := am (hb); replace HI0 := am (hi); (try clear hb); (try clear hb2); (try clear hk); (try clear hi)))
          go_ret
          exact ⟨_, by first | rfl | (simp [errW_none, errW_some] <;> rfl) | (simp [*, errW_none, errW_some] <;> rfl), by (with_reducible repeat (first | apply Kd.R_alloc | apply Kd.R_drewN | apply Kd.R_drew)); exact HO_3.out, I143_0 HI0, K1 HB (IsS143.ge HI0.out), J0 HK⟩
      ·rw [if_neg c65] at H
       have c65b0 : (t107 == 4) = false := beq_eq_false_iff_ne.mpr c65
       have c65b1 : (t107 != 4) = true := bne_iff_ne.mpr c65
       simp only [Option.some.injEq, Prod.mk.injEq] at H
       obtain ⟨rfl, rfl⟩ := H
       go_enter Try.func71, Try.ntmps71
       go_wp2_with (first | ((with_reducible refine gate_callee (f := 122) rfl ?_); refine goesL_ (some 6) rfl rfl Try.func122 (by kernel_rfl) rfl #[.pointer (some ⟨g, 0, none⟩)] rfl MT ?_; (with_reducible refine (spec_l12Rules.calls k g s0_0 s0_1 t101 t104 w0 _ ?side1 ?side2 A2.out).mono ?_); (case side1 => exact I143_0 HI0); (case side2 => exact K1 HB (IsS143.ge HI0.out)); rintro e w80 ⟨v102, rfl, ho0, hi, hb, hk⟩; refine ⟨_, rfl, ?_⟩; have HO103 := am (Kd.R_lower ho0 (keep_size (w := w) (g := g) (row := none) (J0 HK))); replace HK := am (KeepBut.trans (J0 HK) hk (.inl rfl)); replace HB := am (hb); replace HI0 := am (hi); (try clear hb); (try clear hb2); (try clear hk); (try clear hi); (try clear ho0); obtain ⟨Ao81, co81, eo81⟩ := Kd.R_slice HO103.out; subst eo81) | ((with_reducible refine gate_callee (f := 91) rfl ?_); refine goesL_ (some 14) rfl rfl Try.func91 (by kernel_rfl) rfl #[.pointer (some ⟨g, 0, none⟩), .int .i64 (t101.length : Int)] rfl MT ?_; (with_reducible refine (spec_l1Rd_pick.calls k g s0_0 t104 (t101.length : Int) t105 t106 w0 _ ?side1 ?side2 A6.out).mono ?_); (case side1 => exact I143_0 HI0); (case side2 => exact K1 HB (IsS143.ge HI0.out)); rintro e w82 ⟨rfl, hi, hb, hk⟩; refine ⟨_, rfl, ?_⟩; replace HO103 := am (Kd.R_mono (Kd.R_keep (IsS143.apart (show IsS143 w0 _ g s0_0 t104 from I143_0 HI0) (KR HO103) (by decide)) hk (fun _ h => h.2)) (fun _ h => h.1)); replace HK := am (KeepBut.trans (J0 HK) hk (.inl rfl)); replace HB := am (hb); replace HI0 := am (hi); (try clear hb); (try clear hb2); (try clear hk); (try clear hi)) | ((with_reducible refine gate_callee (f := 91) rfl ?_); refine goesL_ (some 16) rfl rfl Try.func91 (by kernel_rfl) rfl #[.pointer (some ⟨g, 0, none⟩), .int .i64 20] rfl MT ?_; (with_reducible refine (spec_l1Rd_pick.calls k g s0_0 t106 20 t107 t108 w0 _ ?side1 ?side2 A7.out).mono ?_); (case side1 => exact I143_0 HI0); (case side2 => exact K1 HB (IsS143.ge HI0.out)); rintro e w83 ⟨rfl, hi, hb, hk⟩; refine ⟨_, rfl, ?_⟩; replace HO103 := am (Kd.R_mono (Kd.R_keep (IsS143.apart (show IsS143 w0 _ g s0_0 t106 from I143_0 HI0) (KR HO103) (by decide)) hk (fun _ h => h.2)) (fun _ h => h.1)); replace HK := am (KeepBut.trans (J0 HK) hk (.inl rfl)); replace HB := am (hb); replace HI0 := am (hi); (try clear hb); (try clear hb2); (try clear hk); (try clear hi)))
       go_ret
       exact ⟨_, by first | rfl | (simp [errW_none, errW_some] <;> rfl) | (simp [*, errW_none, errW_some] <;> rfl), by (with_reducible repeat (first | apply Kd.R_alloc | apply Kd.R_drewN | apply Kd.R_drew)); exact HO103.out, I143_0 HI0, K1 HB (IsS143.ge HI0.out), J0 HK⟩
end Go.Proofs.Ytioghacieopbdaa.PAll
end
section
namespace Go.Proofs.Ytioghacieopbdaa.PAll
open Go.RowKit Go.Proofs.YtioghacieopbdaaW.PrintWords Go.Proofs.YtioghacieopbdaaW.PrintLast Go.Proofs.YtioghacieopbdaaW.PrintMore
attribute [local go_sem] max2_int min2_int max_two min_two max_three min_three max_four min_four   -- for this text's walks alone
set_option linter.unusedVariables false
set_option linter.unusedSimpArgs false
def spec_l12Call.f (k : Nat) (s0_0 : List Int) (s0_1 : Int) : Option (Int × Int × Int × Int) := (spec_l12Addr.f k s0_0 s0_1).bind fun bt102 => ((spec_l12Addr.f k s0_0 bt102.2).bind fun bt104 => ((spec_l1Rd_pick.f k s0_0 bt104.2 256).bind fun bt106 => ((spec_l1Rd_one.f k s0_0 bt106.2 (([0, 80, 81, 100, 443, 65535, bt106.1] : List Int))).bind fun bt111 => (some (bt102.1, bt104.1, bt111.1, bt111.2)))))
set_option maxHeartbeats 8000000 in
set_option maxRecDepth 100000 in
theorem spec_l12Call.calls (k : Nat) (g : Nat) (s0_0 : List Int) (s0_1 : Int) (r1 : Int) (r2 : Int) (r3 : Int) (r4 : Int) (w0 w : World) (hI : IsS143 w0 w g s0_0 s0_1) (hB : Below w0.heap.size w0 w) (h : spec_l12Call.f k s0_0 s0_1 = some (r1, r2, r3, r4)) :
  Calls Try.prog 124 #[.pointer (some ⟨g, 0, none⟩)] w fun e w' => e = .returned (.agg #[.int .i64 r1, .int .i64 r2, .int .i64 r3]) ∧ IsS143 w0 w' g s0_0 r4 ∧ Below w0.heap.size w0 w' ∧ KeepBut w w' g none := by
 have hu25 := Try.underlying25
 have HI0 := Aside0.mk hI
 have HK := am (KeepBut.refl w g none)
 have HL := Aside0.mk hB.size
 clear hI
 have HW0 := Aside0.mk hB.size
 have HB := Aside0.mk hB
 clear hB
 have H : ((spec_l12Addr.f k s0_0 s0_1).bind fun bt102 => ((spec_l12Addr.f k s0_0 bt102.2).bind fun bt104 => ((spec_l1Rd_pick.f k s0_0 bt104.2 256).bind fun bt106 => ((spec_l1Rd_one.f k s0_0 bt106.2 (([0, 80, 81, 100, 443, 65535, bt106.1] : List Int))).bind fun bt111 => (some (bt102.1, bt104.1, bt111.1, bt111.2)))))) = some (r1, r2, r3, r4) := h
 clear h
 replace H := Option.bind_eq_some_iff.mp H
 obtain ⟨⟨t102, t103⟩, A20, H⟩ := H
 replace H : ((spec_l12Addr.f k s0_0 t103).bind fun bt104 => ((spec_l1Rd_pick.f k s0_0 bt104.2 256).bind fun bt106 => ((spec_l1Rd_one.f k s0_0 bt106.2 (([0, 80, 81, 100, 443, 65535, bt106.1] : List Int))).bind fun bt111 => (some (t102, bt104.1, bt111.1, bt111.2))))) = some (r1, r2, r3, r4) := H
 have A2 := Aside0.mk A20
 clear A20
 replace H := Option.bind_eq_some_iff.mp H
 obtain ⟨⟨t104, t105⟩, A30, H⟩ := H
 replace H : ((spec_l1Rd_pick.f k s0_0 t105 256).bind fun bt106 => ((spec_l1Rd_one.f k s0_0 bt106.2 (([0, 80, 81, 100, 443, 65535, bt106.1] : List Int))).bind fun bt111 => (some (t102, t104, bt111.1, bt111.2)))) = some (r1, r2, r3, r4) := H
 have A3 := Aside0.mk A30
 clear A30
 replace H := Option.bind_eq_some_iff.mp H
 obtain ⟨⟨t106, t107⟩, A40, H⟩ := H
 replace H : ((spec_l1Rd_one.f k s0_0 t107 (([0, 80, 81, 100, 443, 65535, t106] : List Int))).bind fun bt111 => (some (t102, t104, bt111.1, bt111.2))) = some (r1, r2, r3, r4) := H
 have A4 := Aside0.mk A40
 clear A40
 obtain ⟨y108, hy108⟩ : ∃ y_ : List Int, y_ = (([0, 80, 81, 100, 443, 65535, t106] : List Int)) := ⟨_, rfl⟩
 replace H : ((spec_l1Rd_one.f k s0_0 t107 y108).bind fun bt111 => (some (t102, t104, bt111.1, bt111.2))) = some (r1, r2, r3, r4) := by first | (rw [hy108]; with_reducible exact H) | (have H2_ := (Option.bind_some _ _).symm.trans H; rw [hy108]; with_reducible exact H2_) | (have H2_ := (Option.bind_some _ _).symm.trans H; with_reducible exact H2_) | with_reducible exact H | (rw [hy108]; exact H) | exact H
 have Ny108 := Aside0.mk hy108
 clear hy108
 replace H := Option.bind_eq_some_iff.mp H
 obtain ⟨⟨t111, t112⟩, A50, H⟩ := H
 replace H : (some (t102, t104, t111, t112)) = some (r1, r2, r3, r4) := H
 have A5 := Aside0.mk A50
 clear A50
 simp only [Option.some.injEq, Prod.mk.injEq] at H
 obtain ⟨rfl, rfl, rfl, rfl⟩ := H
 go_enter Try.func124, Try.ntmps124
 go_wp2_with (first | ((with_reducible refine gate_dst (N := 2) rfl ?_); refine box_event rfl (N := 2) rfl (cs := #[.int .i64 0, .int .i64 0, .int .i64 0]) (t := 25) BX ?_; intro gb101 hg w6 hbox hb; replace HB := am (below_step (K1 HB (IsS143.ge HI0.out)) hb); have BK101 := am (hbox); have GW101 := am ((by rw [hg]; exact (keep_size (w := w) (g := g) (row := none) (J0 HK)) : w.heap.size ≤ gb101)); have GE101 := am ((Nat.le_trans HW0.out (by rw [hg]; exact (keep_size (w := w) (g := g) (row := none) (J0 HK)) : w.heap.size ≤ gb101) : w0.heap.size ≤ gb101)); replace HK := am (KeepBut.trans (J0 HK) (KeepBut.of_below hb g none) (.inl rfl)); have NB0_101 := am ((by rw [hg]; exact Nat.ne_of_lt (IsS143.lt (show IsS143 w0 _ g s0_0 s0_1 from I143_0 HI0)) : g ≠ gb101)); have NB101_0 := am ((by rw [hg]; exact Nat.ne_of_gt (IsS143.lt (show IsS143 w0 _ g s0_0 s0_1 from I143_0 HI0)) : gb101 ≠ g)); replace HI0 := am (IsS143.below (I143_0 HI0) hb); clear hb hbox hg) | ((with_reducible refine gate_callee (f := 136) rfl ?_); refine goesL_ (some 4) rfl rfl Try.func136 (by kernel_rfl) rfl #[.pointer (some ⟨g, 0, none⟩)] rfl MT ?_; (with_reducible refine (spec_l12Addr.calls k g s0_0 s0_1 t102 t103 w0 _ ?side1 ?side2 A2.out).mono ?_); (case side1 => exact I143_1 HI0 NB0_101.out); (case side2 => exact K2 HB (IsS143.ge HI0.out) GE101.out); rintro e w7 ⟨rfl, hi, hb, hk⟩; refine ⟨_, rfl, ?_⟩; replace BK101 := am (KeepBut.blk hk (g' := gb101) (o := .cells #[.int .i64 0, .int .i64 0, .int .i64 0] 25 (0, 0)) (KB BK101) NB101_0.out (by simp)); replace HK := am (KeepBut.trans (J1 HK GW101.out) hk (.inl rfl)); replace HB := am (hb); replace HI0 := am (hi); (try clear hb); (try clear hb2); (try clear hk); (try clear hi)) | ((with_reducible refine gate_callee (f := 136) rfl ?_); refine goesL_ (some 6) rfl rfl Try.func136 (by kernel_rfl) rfl #[.pointer (some ⟨g, 0, none⟩)] rfl MT ?_; (with_reducible refine (spec_l12Addr.calls k g s0_0 t103 t104 t105 w0 _ ?side1 ?side2 A3.out).mono ?_); (case side1 => exact I143_1 HI0 NB0_101.out); (case side2 => exact K2 HB (IsS143.ge HI0.out) GE101.out); rintro e w8 ⟨rfl, hi, hb, hk⟩; refine ⟨_, rfl, ?_⟩; replace BK101 := am (KeepBut.blk hk (g' := gb101) (o := .cells #[.int .i64 0, .int .i64 0, .int .i64 0] 25 (0, 0)) (KB BK101) NB101_0.out (by simp)); replace HK := am (KeepBut.trans (J1 HK GW101.out) hk (.inl rfl)); replace HB := am (hb); replace HI0 := am (hi); (try clear hb); (try clear hb2); (try clear hk); (try clear hi)) | ((with_reducible refine gate_callee (f := 91) rfl ?_); refine goesL_ (some 9) rfl rfl Try.func91 (by kernel_rfl) rfl #[.pointer (some ⟨g, 0, none⟩), .int .i64 256] rfl MT ?_; (with_reducible refine (spec_l1Rd_pick.calls k g s0_0 t105 256 t106 t107 w0 _ ?side1 ?side2 A4.out).mono ?_); (case side1 => exact I143_1 HI0 NB0_101.out); (case side2 => exact K2 HB (IsS143.ge HI0.out) GE101.out); rintro e w9 ⟨rfl, hi, hb, hk⟩; refine ⟨_, rfl, ?_⟩; replace BK101 := am (KeepBut.blk hk (g' := gb101) (o := .cells #[.int .i64 0, .int .i64 0, .int .i64 0] 25 (0, 0)) (KB BK101) NB101_0.out (by simp)); replace HK := am (KeepBut.trans (J1 HK GW101.out) hk (.inl rfl)); replace HB := am (hb); replace HI0 := am (hi); (try clear hb); (try clear hb2); (try clear hk); (try clear hi)) | ((with_reducible refine gate_dst (N := 10) rfl ?_); refine Kd.R_lit (Kd.int .i64) _ 3 ?hg (N := 10) ?hd (xs := ([0, 80, 81, 100, 443, 65535, t106] : List Int)) (inner := [.int .i64 0, .int .i64 80, .int .i64 81, .int .i64 100, .int .i64 443, .int .i64 65535, .int .i64 t106]) (ok := fun _ => True) (okp := fun _ => True) ?hr ?hp (fun _ hk => hk) trivial (Below.refl _ _) (Nat.le_refl _) (by simp) ?_; (case hd => rfl); (case hg => rfl); (case hr => first | (go_simp; done) | (go_simp; rfl)); (case hp => exact (Reps.one (show Kd.M (Kd.int .i64) _ _ _ 0 [.int .i64 0] from rfl) (Reps.one (show Kd.M (Kd.int .i64) _ _ _ 80 [.int .i64 80] from rfl) (Reps.one (show Kd.M (Kd.int .i64) _ _ _ 81 [.int .i64 81] from rfl) (Reps.one (show Kd.M (Kd.int .i64) _ _ _ 100 [.int .i64 100] from rfl) (Reps.one (show Kd.M (Kd.int .i64) _ _ _ 443 [.int .i64 443] from rfl) (Reps.one (show Kd.M (Kd.int .i64) _ _ _ 65535 [.int .i64 65535] from rfl) (Reps.one (show Kd.M (Kd.int .i64) _ _ _ t106 [.int .i64 t106] from rfl) (Reps.none _ _))))))))); intro v109 w10 ho11 hb hg_ hnew_; clear hg_ hnew_; (first | rw [← Ny108.out] at ho11 | (simp only [Int.reduceToNat] at ho11; rw [← Ny108.out] at ho11)); have HO110 := am (Kd.R_lower ho11 (keep_size (w := w) (g := g) (row := none) (J1 HK GW101.out))); replace BK101 := am (BB BK101 hb); replace HK := am (KeepBut.trans (J1 HK GW101.out) (KeepBut.of_below hb g none) (.inl rfl)); replace HB := am (below_step (K2 HB (IsS143.ge HI0.out) GE101.out) hb); replace HI0 := am (IsS143.below (I143_1 HI0 NB0_101.out) hb); clear hb ho11; obtain ⟨Ao12, co12, eo12⟩ := Kd.R_slice HO110.out; subst eo12) | ((with_reducible refine gate_callee (f := 95) rfl ?_); refine goesL_ (some 11) rfl rfl Try.func95 (by kernel_rfl) rfl #[.pointer (some ⟨g, 0, none⟩), .slice Ao12 y108.length co12] rfl MT ?_; (with_reducible refine (spec_l1Rd_one.calls k g s0_0 t107 _ _ y108 t111 t112 w0 _ ?side1 ?side2 ?side3 ?side4 ?side5 A5.out).mono ?_); (case side1 => exact I143_1 HI0 NB0_101.out); (case side2 => exact K2 HB (IsS143.ge HI0.out) GE101.out); (case side3 => exact KC (Kd.R_reads' HO110.out).2.2); (case side4 => exact (Kd.R_reads' HO110.out).2.1); (case side5 => exact far_slice (IsS143.own_ne HI0.out HO110.out (by decide))); rintro e w13 ⟨rfl, hi, hb, hk⟩; refine ⟨_, rfl, ?_⟩; replace BK101 := am (KeepBut.blk hk (g' := gb101) (o := .cells #[.int .i64 0, .int .i64 0, .int .i64 0] 25 (0, 0)) (KB BK101) NB101_0.out (by simp)); replace HO110 := am (Kd.R_mono (Kd.R_keep (IsS143.apart (show IsS143 w0 _ g s0_0 t107 from I143_1 HI0 NB0_101.out) (KR HO110) (by decide)) hk (fun _ h => h.2)) (fun _ h => h.1)); replace HK := am (KeepBut.trans (J1 HK GW101.out) hk (.inl rfl)); replace HB := am (hb); replace HI0 := am (hi); (try clear hb); (try clear hb2); (try clear hk); (try clear hi); have hnb14 := NB101_0.out; have hnc14 := NB0_101.out; have hcz15_0 := z0 w13 BK101.out; have hcz15_1 := z1 w13 BK101.out; have hcz15_2 := z2 w13 BK101.out; have hfz15_0 := blk_frozen BK101.out 0; have hfz15_1 := blk_frozen BK101.out 1; have hfz15_2 := blk_frozen BK101.out 2))
 refine bodyPost_ret (results_cell_row rfl _ _ gb101 25 #[.int .i64 t102, .int .i64 t104, .int .i64 t111] (0, 0) _ rfl (by (with_reducible repeat (first | refine blk_drewN ?_ _ | refine blk_drew ?_ | refine blk_alloc ?_ _)); refine blk_put (cs := #[.int .i64 t102, .int .i64 t104, .int .i64 0]) ?_ 2 _ rfl; (with_reducible repeat (first | refine blk_drewN ?_ _ | refine blk_drew ?_ | refine blk_alloc ?_ _)); refine blk_put (cs := #[.int .i64 t102, .int .i64 0, .int .i64 0]) ?_ 1 _ rfl; (with_reducible repeat (first | refine blk_drewN ?_ _ | refine blk_drew ?_ | refine blk_alloc ?_ _)); refine blk_put (cs := #[.int .i64 0, .int .i64 0, .int .i64 0]) ?_ 0 _ rfl; (with_reducible repeat (first | refine blk_drewN ?_ _ | refine blk_drew ?_ | refine blk_alloc ?_ _)); exact BK101.out) Try.underlying25 rfl (by kernel_rfl)) rfl ?_
 exact ⟨by first | rfl | (simp [errW_none, errW_some] <;> rfl) | (simp [*, errW_none, errW_some] <;> rfl), I143_1 HI0 NB0_101.out, K2 HB (IsS143.ge HI0.out) GE101.out, J1 HK GW101.out⟩
end Go.Proofs.Ytioghacieopbdaa.PAll
end
section
namespace Go.Proofs.Ytioghacieopbdaa.PAll
open Go.RowKit Go.Proofs.YtioghacieopbdaaW.PrintWords Go.Proofs.YtioghacieopbdaaW.PrintLast Go.Proofs.YtioghacieopbdaaW.PrintMore
attribute [local go_sem] max2_int min2_int max_two min_two max_three min_three max_four min_four   -- for this text's walks alone
set_option linter.unusedVariables false
set_option linter.unusedSimpArgs false
def spec_l12AnyCall.f (k : Nat) (s0_0 : List Int) (s0_1 : Int) : Option (Int × Int × Int × Int) := (spec_l12Call.f k s0_0 s0_1).bind fun bt102 => ((spec_l1Rd_pick.f k s0_0 bt102.2.2.2 20).bind fun bt107 => (if bt107.1 = 0 then ((spec_l12AnyAddr.f k s0_0 bt107.2).bind fun bt109 => (some (bt109.1, bt102.2.1, bt102.2.2.1, bt109.2))) else (if bt107.1 = 1 then ((spec_l1Rd_one.f k s0_0 bt107.2 (([(-1), 65536] : List Int))).bind fun bt114 => (some (bt102.1, bt102.2.1, bt114.1, bt114.2))) else (some (bt102.1, bt102.2.1, bt102.2.2.1, bt107.2)))))
set_option maxHeartbeats 8000000 in
set_option maxRecDepth 100000 in
theorem spec_l12AnyCall.calls (k : Nat) (g : Nat) (s0_0 : List Int) (s0_1 : Int) (r1 : Int) (r2 : Int) (r3 : Int) (r4 : Int) (w0 w : World) (hI : IsS143 w0 w g s0_0 s0_1) (hB : Below w0.heap.size w0 w) (h : spec_l12AnyCall.f k s0_0 s0_1 = some (r1, r2, r3, r4)) :
  Calls Try.prog 72 #[.pointer (some ⟨g, 0, none⟩)] w fun e w' => e = .returned (.agg #[.int .i64 r1, .int .i64 r2, .int .i64 r3]) ∧ IsS143 w0 w' g s0_0 r4 ∧ Below w0.heap.size w0 w' ∧ KeepBut w w' g none := by
 have hu25 := Try.underlying25
 have HI0 := Aside0.mk hI
 have HK := am (KeepBut.refl w g none)
 have HL := Aside0.mk hB.size
 clear hI
 have HW0 := Aside0.mk hB.size
 have HB := Aside0.mk hB
 clear hB
 have H : ((spec_l12Call.f k s0_0 s0_1).bind fun bt102 => ((spec_l1Rd_pick.f k s0_0 bt102.2.2.2 20).bind fun bt107 => (if bt107.1 = 0 then ((spec_l12AnyAddr.f k s0_0 bt107.2).bind fun bt109 => (some (bt109.1, bt102.2.1, bt102.2.2.1, bt109.2))) else (if bt107.1 = 1 then ((spec_l1Rd_one.f k s0_0 bt107.2 (([(-1), 65536] : List Int))).bind fun bt114 => (some (bt102.1, bt102.2.1, bt114.1, bt114.2))) else (some (bt102.1, bt102.2.1, bt102.2.2.1, bt107.2)))))) = some (r1, r2, r3, r4) := h
 clear h
 replace H := Option.bind_eq_some_iff.mp H
 obtain ⟨⟨t102, t103, t104, t105⟩, A20, H⟩ := H
 replace H : ((spec_l1Rd_pick.f k s0_0 t105 20).bind fun bt107 => (if bt107.1 = 0 then ((spec_l12AnyAddr.f k s0_0 bt107.2).bind fun bt109 => (some (bt109.1, t103, t104, bt109.2))) else (if bt107.1 = 1 then ((spec_l1Rd_one.f k s0_0 bt107.2 (([(-1), 65536] : List Int))).bind fun bt114 => (some (t102, t103, bt114.1, bt114.2))) else (some (t102, t103, t104, bt107.2))))) = some (r1, r2, r3, r4) := H
 have A2 := Aside0.mk A20
 clear A20
 replace H := Option.bind_eq_some_iff.mp H
 obtain ⟨⟨t107, t108⟩, A30, H⟩ := H
 replace H : (if t107 = 0 then ((spec_l12AnyAddr.f k s0_0 t108).bind fun bt109 => (some (bt109.1, t103, t104, bt109.2))) else (if t107 = 1 then ((spec_l1Rd_one.f k s0_0 t108 (([(-1), 65536] : List Int))).bind fun bt114 => (some (t102, t103, bt114.1, bt114.2))) else (some (t102, t103, t104, t108)))) = some (r1, r2, r3, r4) := H
 have A3 := Aside0.mk A30
 clear A30
 by_cases c4 : t107 = 0
 ·rw [if_pos c4] at H
  have c4b0 : (t107 == 0) = true := beq_iff_eq.mpr c4
  have c4b1 : (t107 != 0) = false := bne_eq_false_iff_eq.mpr c4
  clear c4
  replace H := Option.bind_eq_some_iff.mp H
  obtain ⟨⟨t109, t110⟩, A50, H⟩ := H
  replace H : (some (t109, t103, t104, t110)) = some (r1, r2, r3, r4) := H
  have A5 := Aside0.mk A50
  clear A50
  simp only [Option.some.injEq, Prod.mk.injEq] at H
  obtain ⟨rfl, rfl, rfl, rfl⟩ := H
  go_enter Try.func72, Try.ntmps72
  go_wp2_with (first | ((with_reducible refine gate_dst (N := 2) rfl ?_); refine box_event rfl (N := 2) rfl (cs := #[.int .i64 0, .int .i64 0, .int .i64 0]) (t := 25) BX ?_; intro gb101 hg w6 hbox hb; replace HB := am (below_step (K1 HB (IsS143.ge HI0.out)) hb); have BK101 := am (hbox); have GW101 := am ((by rw [hg]; exact (keep_size (w := w) (g := g) (row := none) (J0 HK)) : w.heap.size ≤ gb101)); have GE101 := am ((Nat.le_trans HW0.out (by rw [hg]; exact (keep_size (w := w) (g := g) (row := none) (J0 HK)) : w.heap.size ≤ gb101) : w0.heap.size ≤ gb101)); replace HK := am (KeepBut.trans (J0 HK) (KeepBut.of_below hb g none) (.inl rfl)); have NB0_101 := am ((by rw [hg]; exact Nat.ne_of_lt (IsS143.lt (show IsS143 w0 _ g s0_0 s0_1 from I143_0 HI0)) : g ≠ gb101)); have NB101_0 := am ((by rw [hg]; exact Nat.ne_of_gt (IsS143.lt (show IsS143 w0 _ g s0_0 s0_1 from I143_0 HI0)) : gb101 ≠ g)); replace HI0 := am (IsS143.below (I143_0 HI0) hb); clear hb hbox hg) | ((with_reducible refine gate_callee (f := 124) rfl ?_); refine goesL_ (some 5) rfl rfl Try.func124 (by kernel_rfl) rfl #[.pointer (some ⟨g, 0, none⟩)] rfl MT ?_; (with_reducible refine (spec_l12Call.calls k g s0_0 s0_1 t102 t103 t104 t105 w0 _ ?side1 ?side2 A2.out).mono ?_); (case side1 => exact I143_1 HI0 NB0_101.out); (case side2 => exact K2 HB (IsS143.ge HI0.out) GE101.out); rintro e w7 ⟨rfl, hi, hb, hk⟩; refine ⟨_, rfl, ?_⟩; replace BK101 := am (KeepBut.blk hk (g' := gb101) (o := .cells #[.int .i64 0, .int .i64 0, .int .i64 0] 25 (0, 0)) (KB BK101) NB101_0.out (by simp)); replace HK := am (KeepBut.trans (J1 HK GW101.out) hk (.inl rfl)); replace HB := am (hb); replace HI0 := am (hi); (try clear hb); (try clear hb2); (try clear hk); (try clear hi)) | ((with_reducible refine gate_dst (N := 3) rfl ?_); refine box_event rfl (N := 3) rfl (cs := #[.int .i64 0, .int .i64 0, .int .i64 0]) (t := 25) BX ?_; intro gb106 hg w8 hbox hb; replace HB := am (below_step (K2 HB (IsS143.ge HI0.out) GE101.out) hb); have BK106 := am (hbox); have GW106 := am ((by rw [hg]; exact (keep_size (w := w) (g := g) (row := none) (J1 HK GW101.out)) : w.heap.size ≤ gb106)); have GE106 := am ((Nat.le_trans HW0.out (by rw [hg]; exact (keep_size (w := w) (g := g) (row := none) (J1 HK GW101.out)) : w.heap.size ≤ gb106) : w0.heap.size ≤ gb106)); replace HK := am (KeepBut.trans (J1 HK GW101.out) (KeepBut.of_below hb g none) (.inl rfl)); have NB101_106 := am (NL BK101 hg); have NB106_101 := am (NG BK101 hg); replace BK101 := am (BB BK101 hb); have NB0_106 := am ((by rw [hg]; exact Nat.ne_of_lt (IsS143.lt (show IsS143 w0 _ g s0_0 t105 from I143_1 HI0 NB0_101.out)) : g ≠ gb106)); have NB106_0 := am ((by rw [hg]; exact Nat.ne_of_gt (IsS143.lt (show IsS143 w0 _ g s0_0 t105 from I143_1 HI0 NB0_101.out)) : gb106 ≠ g)); replace HI0 := am (IsS143.below (I143_1 HI0 NB0_101.out) hb); clear hb hbox hg; have hnb9 := NB106_101.out; have hnc9 := NB101_106.out; have hnb10 := NB106_0.out; have hnc10 := NB0_106.out; have hcz11_0 := z0 w8 BK106.out; have hcz11_1 := z1 w8 BK106.out; have hcz11_2 := z2 w8 BK106.out; have hfz11_0 := blk_frozen BK106.out 0; have hfz11_1 := blk_frozen BK106.out 1; have hfz11_2 := blk_frozen BK106.out 2) | ((with_reducible refine gate_callee (f := 91) rfl ?_); refine goesL_ (some 7) rfl rfl Try.func91 (by kernel_rfl) rfl #[.pointer (some ⟨g, 0, none⟩), .int .i64 20] rfl MT ?_; (with_reducible refine (spec_l1Rd_pick.calls k g s0_0 t105 20 t107 t108 w0 _ ?side1 ?side2 A3.out).mono ?_); (case side1 => exact I143_2 HI0 NB0_101.out NB0_106.out); (case side2 => exact K3 HB (IsS143.ge HI0.out) GE101.out GE106.out); rintro e w12 ⟨rfl, hi, hb, hk⟩; refine ⟨_, rfl, ?_⟩; replace BK101 := am (KeepBut.blk hk (g' := gb101) (o := .cells #[.int .i64 0, .int .i64 0, .int .i64 0] 25 (0, 0)) (by (with_reducible repeat (first | refine blk_drewN ?_ _ | refine blk_drew ?_ | refine blk_alloc ?_ _)); refine blk_far ?_ NB101_106.out _; (with_reducible repeat (first | refine blk_drewN ?_ _ | refine blk_drew ?_ | refine blk_alloc ?_ _)); refine blk_far ?_ NB101_106.out _; (with_reducible repeat (first | refine blk_drewN ?_ _ | refine blk_drew ?_ | refine blk_alloc ?_ _)); refine blk_far ?_ NB101_106.out _; (with_reducible repeat (first | refine blk_drewN ?_ _ | refine blk_drew ?_ | refine blk_alloc ?_ _)); exact BK101.out) NB101_0.out (by simp)); replace BK106 := am (KeepBut.blk hk (g' := gb106) (o := .cells #[.int .i64 t102, .int .i64 t103, .int .i64 t104] 25 (0, 0)) (by (with_reducible repeat (first | refine blk_drewN ?_ _ | refine blk_drew ?_ | refine blk_alloc ?_ _)); refine blk_put (cs := #[.int .i64 t102, .int .i64 t103, .int .i64 0]) ?_ 2 _ rfl; (with_reducible repeat (first | refine blk_drewN ?_ _ | refine blk_drew ?_ | refine blk_alloc ?_ _)); refine blk_put (cs := #[.int .i64 t102, .int .i64 0, .int .i64 0]) ?_ 1 _ rfl; (with_reducible repeat (first | refine blk_drewN ?_ _ | refine blk_drew ?_ | refine blk_alloc ?_ _)); refine blk_put (cs := #[.int .i64 0, .int .i64 0, .int .i64 0]) ?_ 0 _ rfl; (with_reducible repeat (first | refine blk_drewN ?_ _ | refine blk_drew ?_ | refine blk_alloc ?_ _)); exact BK106.out) NB106_0.out (by simp)); replace HK := am (KeepBut.trans (J2 HK GW101.out GW106.out) hk (.inl rfl)); replace HB := am (hb); replace HI0 := am (hi); (try clear hb); (try clear hb2); (try clear hk); (try clear hi)) | ((with_reducible refine gate_callee (f := 105) rfl ?_); refine goesL_ (some 11) rfl rfl Try.func105 (by kernel_rfl) rfl #[.pointer (some ⟨g, 0, none⟩)] rfl MT ?_; (with_reducible refine (spec_l12AnyAddr.calls k g s0_0 t108 t109 t110 w0 _ ?side1 ?side2 A5.out).mono ?_); (case side1 => exact I143_2 HI0 NB0_101.out NB0_106.out); (case side2 => exact K3 HB (IsS143.ge HI0.out) GE101.out GE106.out); rintro e w13 ⟨rfl, hi, hb, hk⟩; refine ⟨_, rfl, ?_⟩; replace BK101 := am (KeepBut.blk hk (g' := gb101) (o := .cells #[.int .i64 0, .int .i64 0, .int .i64 0] 25 (0, 0)) (KB BK101) NB101_0.out (by simp)); replace BK106 := am (KeepBut.blk hk (g' := gb106) (o := .cells #[.int .i64 t102, .int .i64 t103, .int .i64 t104] 25 (0, 0)) (KB BK106) NB106_0.out (by simp)); replace HK := am (KeepBut.trans (J2 HK GW101.out GW106.out) hk (.inl rfl)); replace HB := am (hb); replace HI0 := am (hi); (try clear hb); (try clear hb2); (try clear hk); (try clear hi); have hcz14_0 := z0 w13 BK106.out; have hcz14_1 := z1 w13 BK106.out; have hcz14_2 := z2 w13 BK106.out; have hfz14_0 := blk_frozen BK106.out 0; have hfz14_1 := blk_frozen BK106.out 1; have hfz14_2 := blk_frozen BK106.out 2; have hnb15 := NB101_0.out; have hnc15 := NB0_101.out; have hcz16_0 := z0 w13 BK101.out; have hcz16_1 := z1 w13 BK101.out; have hcz16_2 := z2 w13 BK101.out; have hfz16_0 := blk_frozen BK101.out 0; have hfz16_1 := blk_frozen BK101.out 1; have hfz16_2 := blk_frozen BK101.out 2))
  refine bodyPost_ret (results_cell_row rfl _ _ gb101 25 #[.int .i64 t109, .int .i64 t103, .int .i64 t104] (0, 0) _ rfl (by (with_reducible repeat (first | refine blk_drewN ?_ _ | refine blk_drew ?_ | refine blk_alloc ?_ _)); refine blk_put (cs := #[.int .i64 t109, .int .i64 t103, .int .i64 0]) ?_ 2 _ rfl; (with_reducible repeat (first | refine blk_drewN ?_ _ | refine blk_drew ?_ | refine blk_alloc ?_ _)); refine blk_put (cs := #[.int .i64 t109, .int .i64 0, .int .i64 0]) ?_ 1 _ rfl; (with_reducible repeat (first | refine blk_drewN ?_ _ | refine blk_drew ?_ | refine blk_alloc ?_ _)); refine blk_put (cs := #[.int .i64 0, .int .i64 0, .int .i64 0]) ?_ 0 _ rfl; (with_reducible repeat (first | refine blk_drewN ?_ _ | refine blk_drew ?_ | refine blk_alloc ?_ _)); refine blk_far ?_ NB101_106.out _; (with_reducible repeat (first | refine blk_drewN ?_ _ | refine blk_drew ?_ | refine blk_alloc ?_ _)); exact BK101.out) Try.underlying25 rfl (by kernel_rfl)) rfl ?_
  exact ⟨by first | rfl | (simp [errW_none, errW_some] <;> rfl) | (simp [*, errW_none, errW_some] <;> rfl), I143_2 HI0 NB0_101.out NB0_106.out, K3 HB (IsS143.ge HI0.out) GE101.out GE106.out, J2 HK GW101.out GW106.out⟩
 ·rw [if_neg c4] at H
  have c4b0 : (t107 == 0) = false := beq_eq_false_iff_ne.mpr c4
  have c4b1 : (t107 != 0) = true := bne_iff_ne.mpr c4
  by_cases c17 : t107 = 1
  ·rw [if_pos c17] at H
   have c17b0 : (t107 == 1) = true := beq_iff_eq.mpr c17
   have c17b1 : (t107 != 1) = false := bne_eq_false_iff_eq.mpr c17
   clear c17
   obtain ⟨y111, hy111⟩ : ∃ y_ : List Int, y_ = (([(-1), 65536] : List Int)) := ⟨_, rfl⟩
   replace H : ((spec_l1Rd_one.f k s0_0 t108 y111).bind fun bt114 => (some (t102, t103, bt114.1, bt114.2))) = some (r1, r2, r3, r4) := by first | (rw [hy111]; with_reducible exact H) | (have H2_ := (Option.bind_some _ _).symm.trans H; rw [hy111]; with_reducible exact H2_) | (have H2_ := (Option.bind_some _ _).symm.trans H; with_reducible exact H2_) | with_reducible exact H | (rw [hy111]; exact H) | exact H
   have Ny111 := Aside0.mk hy111
   clear hy111
   replace H := Option.bind_eq_some_iff.mp H
   obtain ⟨⟨t114, t115⟩, A180, H⟩ := H
   replace H : (some (t102, t103, t114, t115)) = some (r1, r2, r3, r4) := H
   have A18 := Aside0.mk A180
   clear A180
   simp only [Option.some.injEq, Prod.mk.injEq] at H
   obtain ⟨rfl, rfl, rfl, rfl⟩ := H
   go_enter Try.func72, Try.ntmps72
   go_wp2_with (first | ((with_reducible refine gate_dst (N := 2) rfl ?_); refine box_event rfl (N := 2) rfl (cs := #[.int .i64 0, .int .i64 0, .int .i64 0]) (t := 25) BX ?_; intro gb101 hg w19 hbox hb; replace HB := am (below_step (K1 HB (IsS143.ge HI0.out)) hb); have BK101 := am (hbox); have GW101 := am ((by rw [hg]; exact (keep_size (w := w) (g := g) (row := none) (J0 HK)) : w.heap.size ≤ gb101)); have GE101 := am ((Nat.le_trans HW0.out (by rw [hg]; exact (keep_size (w := w) (g := g) (row := none) (J0 HK)) : w.heap.size ≤ gb101) : w0.heap.size ≤ gb101)); replace HK := am (KeepBut.trans (J0 HK) (KeepBut.of_below hb g none) (.inl rfl)); have NB0_101 := am ((by rw [hg]; exact Nat.ne_of_lt (IsS143.lt (show IsS143 w0 _ g s0_0 s0_1 from I143_0 HI0)) : g ≠ gb101)); have NB101_0 := am ((by rw [hg]; exact Nat.ne_of_gt (IsS143.lt (show IsS143 w0 _ g s0_0 s0_1 from I143_0 HI0)) : gb101 ≠ g)); replace HI0 := am (IsS143.below (I143_0 HI0) hb); clear hb hbox hg) | ((with_reducible refine gate_callee (f := 124) rfl ?_); refine goesL_ (some 5) rfl rfl Try.func124 (by kernel_rfl) rfl #[.pointer (some ⟨g, 0, none⟩)] rfl MT ?_; (with_reducible refine (spec_l12Call.calls k g s0_0 s0_1 t102 t103 t104 t105 w0 _ ?side1 ?side2 A2.out).mono ?_); (case side1 => exact I143_1 HI0 NB0_101.out); (case side2 => exact K2 HB (IsS143.ge HI0.out) GE101.out); rintro e w20 ⟨rfl, hi, hb, hk⟩; refine ⟨_, rfl, ?_⟩; replace BK101 := am (KeepBut.blk hk (g' := gb101) (o := .cells #[.int .i64 0, .int .i64 0, .int .i64 0] 25 (0, 0)) (KB BK101) NB101_0.out (by simp)); replace HK := am (KeepBut.trans (J1 HK GW101.out) hk (.inl rfl)); replace HB := am (hb); replace HI0 := am (hi); (try clear hb); (try clear hb2); (try clear hk); (try clear hi)) | ((with_reducible refine gate_dst (N := 3) rfl ?_); refine box_event rfl (N := 3) rfl (cs := #[.int .i64 0, .int .i64 0, .int .i64 0]) (t := 25) BX ?_; intro gb106 hg w21 hbox hb; replace HB := am (below_step (K2 HB (IsS143.ge HI0.out) GE101.out) hb); have BK106 := am (hbox); have GW106 := am ((by rw [hg]; exact (keep_size (w := w) (g := g) (row := none) (J1 HK GW101.out)) : w.heap.size ≤ gb106)); have GE106 := am ((Nat.le_trans HW0.out (by rw [hg]; exact (keep_size (w := w) (g := g) (row := none) (J1 HK GW101.out)) : w.heap.size ≤ gb106) : w0.heap.size ≤ gb106)); replace HK := am (KeepBut.trans (J1 HK GW101.out) (KeepBut.of_below hb g none) (.inl rfl)); have NB101_106 := am (NL BK101 hg); have NB106_101 := am (NG BK101 hg); replace BK101 := am (BB BK101 hb); have NB0_106 := am ((by rw [hg]; exact Nat.ne_of_lt (IsS143.lt (show IsS143 w0 _ g s0_0 t105 from I143_1 HI0 NB0_101.out)) : g ≠ gb106)); have NB106_0 := am ((by rw [hg]; exact Nat.ne_of_gt (IsS143.lt (show IsS143 w0 _ g s0_0 t105 from I143_1 HI0 NB0_101.out)) : gb106 ≠ g)); replace HI0 := am (IsS143.below (I143_1 HI0 NB0_101.out) hb); clear hb hbox hg; have hnb22 := NB106_101.out; have hnc22 := NB101_106.out; have hnb23 := NB106_0.out; have hnc23 := NB0_106.out; have hcz24_0 := z0 w21 BK106.out; have hcz24_1 := z1 w21 BK106.out; have hcz24_2 := z2 w21 BK106.out; have hfz24_0 := blk_frozen BK106.out 0; have hfz24_1 := blk_frozen BK106.out 1; have hfz24_2 := blk_frozen BK106.out 2) | ((with_reducible refine gate_callee (f := 91) rfl ?_); refine goesL_ (some 7) rfl rfl Try.func91 (by kernel_rfl) rfl #[.pointer (some ⟨g, 0, none⟩), .int .i64 20] rfl MT ?_; (with_reducible refine (spec_l1Rd_pick.calls k g s0_0 t105 20 t107 t108 w0 _ ?side1 ?side2 A3.out).mono ?_); (case side1 => exact I143_2 HI0 NB0_101.out NB0_106.out); (case side2 => exact K3 HB (IsS143.ge HI0.out) GE101.out GE106.out); rintro e w25 ⟨rfl, hi, hb, hk⟩; refine ⟨_, rfl, ?_⟩; replace BK101 := am (KeepBut.blk hk (g' := gb101) (o := .cells #[.int .i64 0, .int .i64 0, .int .i64 0] 25 (0, 0)) (by (with_reducible repeat (first | refine blk_drewN ?_ _ | refine blk_drew ?_ | refine blk_alloc ?_ _)); refine blk_far ?_ NB101_106.out _; (with_reducible repeat (first | refine blk_drewN ?_ _ | refine blk_drew ?_ | refine blk_alloc ?_ _)); refine blk_far ?_ NB101_106.out _; (with_reducible repeat (first | refine blk_drewN ?_ _ | refine blk_drew ?_ | refine blk_alloc ?_ _)); refine blk_far ?_ NB101_106.out _; (with_reducible repeat (first | refine blk_drewN ?_ _ | refine blk_drew ?_ | refine blk_alloc ?_ _)); exact BK101.out) NB101_0.out (by simp)); replace BK106 := am (KeepBut.blk hk (g' := gb106) (o := .cells #[.int .i64 t102, .int .i64 t103, .int .i64 t104] 25 (0, 0)) (by (with_reducible repeat (first | refine blk_drewN ?_ _ | refine blk_drew ?_ | refine blk_alloc ?_ _)); refine blk_put (cs := #[.int .i64 t102, .int .i64 t103, .int .i64 0]) ?_ 2 _ rfl; (with_reducible repeat (first | refine blk_drewN ?_ _ | refine blk_drew ?_ | refine blk_alloc ?_ _)); refine blk_put (cs := #[.int .i64 t102, .int .i64 0, .int .i64 0]) ?_ 1 _ rfl; (with_reducible repeat (first | refine blk_drewN ?_ _ | refine blk_drew ?_ | refine blk_alloc ?_ _)); refine blk_put (cs := #[.int .i64 0, .int .i64 0, .int .i64 0]) ?_ 0 _ rfl; (with_reducible repeat (first | refine blk_drewN ?_ _ | refine blk_drew ?_ | refine blk_alloc ?_ _)); exact BK106.out) NB106_0.out (by simp)); replace HK := am (KeepBut.trans (J2 HK GW101.out GW106.out) hk (.inl rfl)); replace HB := am (hb); replace HI0 := am (hi); (try clear hb); (try clear hb2); (try clear hk); (try clear hi)) | ((with_reducible refine gate_dst (N := 16) rfl ?_); refine Kd.R_lit (Kd.int .i64) _ 3 ?hg (N := 16) ?hd (xs := ([(-1), 65536] : List Int)) (inner := [.int .i64 (-1), .int .i64 65536]) (ok := fun _ => True) (okp := fun _ => True) ?hr ?hp (fun _ hk => hk) trivial (Below.refl _ _) (Nat.le_refl _) (by simp) ?_; (case hd => rfl); (case hg => rfl); (case hr => first | (go_simp; done) | (go_simp; rfl)); (case hp => exact (Reps.one (show Kd.M (Kd.int .i64) _ _ _ (-1) [.int .i64 (-1)] from rfl) (Reps.one (show Kd.M (Kd.int .i64) _ _ _ 65536 [.int .i64 65536] from rfl) (Reps.none _ _)))); intro v112 w26 ho27 hb hg_ hnew_; clear hg_ hnew_; (first | rw [← Ny111.out] at ho27 | (simp only [Int.reduceToNat] at ho27; rw [← Ny111.out] at ho27)); have HO113 := am (Kd.R_lower ho27 (keep_size (w := w) (g := g) (row := none) (J2 HK GW101.out GW106.out))); replace BK101 := am (BB BK101 hb); replace BK106 := am (BB BK106 hb); replace HK := am (KeepBut.trans (J2 HK GW101.out GW106.out) (KeepBut.of_below hb g none) (.inl rfl)); replace HB := am (below_step (K3 HB (IsS143.ge HI0.out) GE101.out GE106.out) hb); replace HI0 := am (IsS143.below (I143_2 HI0 NB0_101.out NB0_106.out) hb); clear hb ho27; obtain ⟨Ao28, co28, eo28⟩ := Kd.R_slice HO113.out; subst eo28) | ((with_reducible refine gate_callee (f := 95) rfl ?_); refine goesL_ (some 17) rfl rfl Try.func95 (by kernel_rfl) rfl #[.pointer (some ⟨g, 0, none⟩), .slice Ao28 y111.length co28] rfl MT ?_; (with_reducible refine (spec_l1Rd_one.calls k g s0_0 t108 _ _ y111 t114 t115 w0 _ ?side1 ?side2 ?side3 ?side4 ?side5 A18.out).mono ?_); (case side1 => exact I143_2 HI0 NB0_101.out NB0_106.out); (case side2 => exact K3 HB (IsS143.ge HI0.out) GE101.out GE106.out); (case side3 => exact KC (Kd.R_reads' HO113.out).2.2); (case side4 => exact (Kd.R_reads' HO113.out).2.1); (case side5 => exact far_slice (IsS143.own_ne HI0.out HO113.out (by decide))); rintro e w29 ⟨rfl, hi, hb, hk⟩; refine ⟨_, rfl, ?_⟩; replace BK101 := am (KeepBut.blk hk (g' := gb101) (o := .cells #[.int .i64 0, .int .i64 0, .int .i64 0] 25 (0, 0)) (KB BK101) NB101_0.out (by simp)); replace BK106 := am (KeepBut.blk hk (g' := gb106) (o := .cells #[.int .i64 t102, .int .i64 t103, .int .i64 t104] 25 (0, 0)) (KB BK106) NB106_0.out (by simp)); replace HO113 := am (Kd.R_mono (Kd.R_keep (IsS143.apart (show IsS143 w0 _ g s0_0 t108 from I143_2 HI0 NB0_101.out NB0_106.out) (KR HO113) (by decide)) hk (fun _ h => h.2)) (fun _ h => h.1)); replace HK := am (KeepBut.trans (J2 HK GW101.out GW106.out) hk (.inl rfl)); replace HB := am (hb); replace HI0 := am (hi); (try clear hb); (try clear hb2); (try clear hk); (try clear hi); have hcz30_0 := z0 w29 BK106.out; have hcz30_1 := z1 w29 BK106.out; have hcz30_2 := z2 w29 BK106.out; have hfz30_0 := blk_frozen BK106.out 0; have hfz30_1 := blk_frozen BK106.out 1; have hfz30_2 := blk_frozen BK106.out 2; have hnb31 := NB101_0.out; have hnc31 := NB0_101.out; have hcz32_0 := z0 w29 BK101.out; have hcz32_1 := z1 w29 BK101.out; have hcz32_2 := z2 w29 BK101.out; have hfz32_0 := blk_frozen BK101.out 0; have hfz32_1 := blk_frozen BK101.out 1; have hfz32_2 := blk_frozen BK101.out 2))
   refine bodyPost_ret (results_cell_row rfl _ _ gb101 25 #[.int .i64 t102, .int .i64 t103, .int .i64 t114] (0, 0) _ rfl (by (with_reducible repeat (first | refine blk_drewN ?_ _ | refine blk_drew ?_ | refine blk_alloc ?_ _)); refine blk_put (cs := #[.int .i64 t102, .int .i64 t103, .int .i64 0]) ?_ 2 _ rfl; (with_reducible repeat (first | refine blk_drewN ?_ _ | refine blk_drew ?_ | refine blk_alloc ?_ _)); refine blk_put (cs := #[.int .i64 t102, .int .i64 0, .int .i64 0]) ?_ 1 _ rfl; (with_reducible repeat (first | refine blk_drewN ?_ _ | refine blk_drew ?_ | refine blk_alloc ?_ _)); refine blk_put (cs := #[.int .i64 0, .int .i64 0, .int .i64 0]) ?_ 0 _ rfl; (with_reducible repeat (first | refine blk_drewN ?_ _ | refine blk_drew ?_ | refine blk_alloc ?_ _)); refine blk_far ?_ NB101_106.out _; (with_reducible repeat (first | refine blk_drewN ?_ _ | refine blk_drew ?_ | refine blk_alloc ?_ _)); exact BK101.out) Try.underlying25 rfl (by kernel_rfl)) rfl ?_
   exact ⟨by first | rfl | (simp [errW_none, errW_some] <;> rfl) | (simp [*, errW_none, errW_some] <;> rfl), I143_2 HI0 NB0_101.out NB0_106.out, K3 HB (IsS143.ge HI0.out) GE101.out GE106.out, J2 HK GW101.out GW106.out⟩
  ·rw [if_neg c17] at H
   have c17b0 : (t107 == 1) = false := beq_eq_false_iff_ne.mpr c17
   have c17b1 : (t107 != 1) = true := bne_iff_ne.mpr c17
   simp only [Option.some.injEq, Prod.mk.injEq] at H
   obtain ⟨rfl, rfl, rfl, rfl⟩ := H
   go_enter Try.func72, Try.ntmps72
   go_wp2_with (first | ((with_reducible refine gate_dst (N := 2) rfl ?_); refine box_event rfl (N := 2) rfl (cs := #[.int .i64 0, .int .i64 0, .int .i64 0]) (t := 25) BX ?_; intro gb101 hg w33 hbox hb; replace HB := am (below_step (K1 HB (IsS143.ge HI0.out)) hb); have BK101 := am (hbox); have GW101 := am ((by rw [hg]; exact (keep_size (w := w) (g := g) (row := none) (J0 HK)) : w.heap.size ≤ gb101)); have GE101 := am ((Nat.le_trans HW0.out (by rw [hg]; exact (keep_size (w := w) (g := g) (row := none) (J0 HK)) : w.heap.size ≤ gb101) : w0.heap.size ≤ gb101)); replace HK := am (KeepBut.trans (J0 HK) (KeepBut.of_below hb g none) (.inl rfl)); have NB0_101 := am ((by rw [hg]; exact Nat.ne_of_lt (IsS143.lt (show IsS143 w0 _ g s0_0 s0_1 from I143_0 HI0)) : g ≠ gb101)); have NB101_0 := am ((by rw [hg]; exact Nat.ne_of_gt (IsS143.lt (show IsS143 w0 _ g s0_0 s0_1 from I143_0 HI0)) : gb101 ≠ g)); replace HI0 := am (IsS143.below (I143_0 HI0) hb); clear hb hbox hg) | ((with_reducible refine gate_callee (f := 124) rfl ?_); refine goesL_ (some 5) rfl rfl Try.func124 (by kernel_rfl) rfl #[.pointer (some ⟨g, 0, none⟩)] rfl MT ?_; (with_reducible refine (spec_l12Call.calls k g s0_0 s0_1 t102 t103 t104 t105 w0 _ ?side1 ?side2 A2.out).mono ?_); (case side1 => exact I143_1 HI0 NB0_101.out); (case side2 => exact K2 HB (IsS143.ge HI0.out) GE101.out); rintro e w34 ⟨rfl, hi, hb, hk⟩; refine ⟨_, rfl, ?_⟩; replace BK101 := am (KeepBut.blk hk (g' := gb101) (o := .cells #[.int .i64 0, .int .i64 0, .int .i64 0] 25 (0, 0)) (KB BK101) NB101_0.out (by simp)); replace HK := am (KeepBut.trans (J1 HK GW101.out) hk (.inl rfl)); replace HB := am (hb); replace HI0 := am (hi); (try clear hb); (try clear hb2); (try clear hk); (try clear hi)) | ((with_reducible refine gate_dst (N := 3) rfl ?_); refine box_event rfl (N := 3) rfl (cs := #[.int .i64 0, .int .i64 0, .int .i64 0]) (t := 25) BX ?_; intro gb106 hg w35 hbox hb; replace HB := am (below_step (K2 HB (IsS143.ge HI0.out) GE101.out) hb); have BK106 := am (hbox); have GW106 := am ((by rw [hg]; exact (keep_size (w := w) (g := g) (row := none) (J1 HK GW101.out)) : w.heap.size ≤ gb106)); have GE106 := am ((Nat.le_trans HW0.out (by rw [hg]; exact (keep_size (w := w) (g := g) (row := none) (J1 HK GW101.out)) : w.heap.size ≤ gb106) : w0.heap.size ≤ gb106)); replace HK := am (KeepBut.trans (J1 HK GW101.out) (KeepBut.of_below hb g none) (.inl rfl)); have NB101_106 := am (NL BK101 hg); have NB106_101 := am (NG BK101 hg); replace BK101 := am (BB BK101 hb); have NB0_106 := am ((by rw [hg]; exact Nat.ne_of_lt (IsS143.lt (show IsS143 w0 _ g s0_0 t105 from I143_1 HI0 NB0_101.out)) : g ≠ gb106)); have NB106_0 := am ((by rw [hg]; exact Nat.ne_of_gt (IsS143.lt (show IsS143 w0 _ g s0_0 t105 from I143_1 HI0 NB0_101.out)) : gb106 ≠ g)); replace HI0 := am (IsS143.below (I143_1 HI0 NB0_101.out) hb); clear hb hbox hg; have hnb36 := NB106_101.out; have hnc36 := NB101_106.out; have hnb37 := NB106_0.out; have hnc37 := NB0_106.out; have hcz38_0 := z0 w35 BK106.out; have hcz38_1 := z1 w35 BK106.out; have hcz38_2 := z2 w35 BK106.out; have hfz38_0 := blk_frozen BK106.out 0; have hfz38_1 := blk_frozen BK106.out 1; have hfz38_2 := blk_frozen BK106.out 2) | ((with_reducible refine gate_callee (f := 91) rfl ?_); refine goesL_ (some 7) rfl rfl Try.func91 (by kernel_rfl) rfl #[.pointer (some ⟨g, 0, none⟩), .int .i64 20] rfl MT ?_; (with_reducible refine (spec_l1Rd_pick.calls k g s0_0 t105 20 t107 t108 w0 _ ?side1 ?side2 A3.out).mono ?_); (case side1 => exact I143_2 HI0 NB0_101.out NB0_106.out); (case side2 => exact K3 HB (IsS143.ge HI0.out) GE101.out GE106.out); rintro e w39 ⟨rfl, hi, hb, hk⟩; refine ⟨_, rfl, ?_⟩; replace BK101 := am (KeepBut.blk hk (g' := gb101) (o := .cells #[.int .i64 0, .int .i64 0, .int .i64 0] 25 (0, 0)) (by (with_reducible repeat (first | refine blk_drewN ?_ _ | refine blk_drew ?_ | refine blk_alloc ?_ _)); refine blk_far ?_ NB101_106.out _; (with_reducible repeat (first | refine blk_drewN ?_ _ | refine blk_drew ?_ | refine blk_alloc ?_ _)); refine blk_far ?_ NB101_106.out _; (with_reducible repeat (first | refine blk_drewN ?_ _ | refine blk_drew ?_ | refine blk_alloc ?_ _)); refine blk_far ?_ NB101_106.out _; (with_reducible repeat (first | refine blk_drewN ?_ _ | refine blk_drew ?_ | refine blk_alloc ?_ _)); exact BK101.out) NB101_0.out (by simp)); replace BK106 := am (KeepBut.blk hk (g' := gb106) (o := .cells #[.int .i64 t102, .int .i64 t103, .int .i64 t104] 25 (0, 0)) (by (with_reducible repeat (first | refine blk_drewN ?_ _ | refine blk_drew ?_ | refine blk_alloc ?_ _)); refine blk_put (cs := #[.int .i64 t102, .int .i64 t103, .int .i64 0]) ?_ 2 _ rfl; (with_reducible repeat (first | refine blk_drewN ?_ _ | refine blk_drew ?_ | refine blk_alloc ?_ _)); refine blk_put (cs := #[.int .i64 t102, .int .i64 0, .int .i64 0]) ?_ 1 _ rfl; (with_reducible repeat (first | refine blk_drewN ?_ _ | refine blk_drew ?_ | refine blk_alloc ?_ _)); refine blk_put (cs := #[.int .i64 0, .int .i64 0, .int .i64 0]) ?_ 0 _ rfl; (with_reducible repeat (first | refine blk_drewN ?_ _ | refine blk_drew ?_ | refine blk_alloc ?_ _)); exact BK106.out) NB106_0.out (by simp)); replace HK := am (KeepBut.trans (J2 HK GW101.out GW106.out) hk (.inl rfl)); replace HB := am (hb); replace HI0 := am (hi); (try clear hb); (try clear hb2); (try clear hk); (try clear hi); have hcz40_0 := z0 w39 BK106.out; have hcz40_1 := z1 w39 BK106.out; have hcz40_2 := z2 w39 BK106.out; have hfz40_0 := blk_frozen BK106.out 0; have hfz40_1 := blk_frozen BK106.out 1; have hfz40_2 := blk_frozen BK106.out 2; have hnb41 := NB101_0.out; have hnc41 := NB0_101.out; have hcz42_0 := z0 w39 BK101.out; have hcz42_1 := z1 w39 BK101.out; have hcz42_2 := z2 w39 BK101.out; have hfz42_0 := blk_frozen BK101.out 0; have hfz42_1 := blk_frozen BK101.out 1; have hfz42_2 := blk_frozen BK101.out 2))
   refine bodyPost_ret (results_cell_row rfl _ _ gb101 25 #[.int .i64 t102, .int .i64 t103, .int .i64 t104] (0, 0) _ rfl (by (with_reducible repeat (first | refine blk_drewN ?_ _ | refine blk_drew ?_ | refine blk_alloc ?_ _)); refine blk_put (cs := #[.int .i64 t102, .int .i64 t103, .int .i64 0]) ?_ 2 _ rfl; (with_reducible repeat (first | refine blk_drewN ?_ _ | refine blk_drew ?_ | refine blk_alloc ?_ _)); refine blk_put (cs := #[.int .i64 t102, .int .i64 0, .int .i64 0]) ?_ 1 _ rfl; (with_reducible repeat (first | refine blk_drewN ?_ _ | refine blk_drew ?_ | refine blk_alloc ?_ _)); refine blk_put (cs := #[.int .i64 0, .int .i64 0, .int .i64 0]) ?_ 0 _ rfl; (with_reducible repeat (first | refine blk_drewN ?_ _ | refine blk_drew ?_ | refine blk_alloc ?_ _)); exact BK101.out) Try.underlying25 rfl (by kernel_rfl)) rfl ?_
   exact ⟨by first | rfl | (simp [errW_none, errW_some] <;> rfl) | (simp [*, errW_none, errW_some] <;> rfl), I143_2 HI0 NB0_101.out NB0_106.out, K3 HB (IsS143.ge HI0.out) GE101.out GE106.out, J2 HK GW101.out GW106.out⟩
end Go.Proofs.Ytioghacieopbdaa.PAll
end
section
namespace Go.Proofs.Ytioghacieopbdaa.PAll
open Go.RowKit Go.Proofs.YtioghacieopbdaaW.PrintWords Go.Proofs.YtioghacieopbdaaW.PrintLast Go.Proofs.YtioghacieopbdaaW.PrintMore
attribute [local go_sem] max2_int min2_int max_two min_two max_three min_three max_four min_four   -- for this text's walks alone
set_option linter.unusedVariables false
set_option linter.unusedSimpArgs false
mutual
def spec_DrawCacheRun.j0 : Nat → List (S34) → List (S25) → Int → List Int → Int → Option ((List (S34)) × Int × (List (S25)))
 | 0, _, _, _, _, _ => none
 | k + 1, x6, x7, x8, x104000, x104001 => spec_DrawCacheRun.l0 k x6 x7 x8 x104000 x104001
def spec_DrawCacheRun.l0 : Nat → List (S34) → List (S25) → Int → List Int → Int → Option ((List (S34)) × Int × (List (S25)))
 | 0, _, _, _, _, _ => none
 | k + 1, x6, x7, x8, x104000, x104001 => if x8 > 0 then (if (x7.length : Int) > 0 then ((spec_l1Rd_pick.f k x104000 x104001 2).bind fun bt122 => (spec_DrawCacheRun.j2 k x6 x7 x8 (bt122.1 == 0) x104000 bt122.2)) else (spec_DrawCacheRun.j2 k x6 x7 x8 false x104000 x104001)) else ((spec_l1Rd_one.f k x104000 x104001 (([0, 1, 2, 4, 16, 17, (-1)] : List Int))).bind fun bt120 => (some (x6, bt120.1, x7)))
def spec_DrawCacheRun.j2 : Nat → List (S34) → List (S25) → Int → Bool → List Int → Int → Option ((List (S34)) × Int × (List (S25)))
 | 0, _, _, _, _, _, _ => none
 | k + 1, x6, x7, x8, x33, x104000, x104001 => if x33 = true then ((spec_l1Rd_pick.f k x104000 x104001 (x7.length : Int)).bind fun bt124 => (if 0 ≤ bt124.1 then (if bt124.1 < (x7.length : Int) then (if x7.length < 5864062014805 then (spec_DrawCacheRun.l0 k x6 (x7 ++ [(⟨(rd_T25 x7 bt124.1).f0, (rd_T25 x7 bt124.1).f1, (rd_T25 x7 bt124.1).f2⟩ : S25)]) (wrap64 (x8 - 1)) x104000 bt124.2) else (none)) else (none)) else (none))) else ((spec_l12AnyCall.f k x104000 x104001).bind fun bt130 => (if x7.length < 5864062014805 then (spec_DrawCacheRun.l0 k x6 (x7 ++ [(⟨bt130.1, bt130.2.1, bt130.2.2.1⟩ : S25)]) (wrap64 (x8 - 1)) x104000 bt130.2.2.2) else (none)))
end
def spec_DrawCacheRun.f (k : Nat) (l0 : List Int) : Option ((List (S34)) × Int × (List (S25))) := (spec_l1Open.f l0).bind fun bt101 => ((spec_l12AnyRules.f k bt101.1 bt101.2).bind fun bt104 => ((some (([] : List (S25)) : List (S25))).bind fun y108 => ((spec_l1Rd_pick.f k bt101.1 bt104.2 12).bind fun bt111 => ((spec_l1Rd_pick.f k bt101.1 bt111.2 20).bind fun bt113 => (if bt113.1 = 0 then ((spec_l1Rd_pick.f k bt101.1 bt113.2 2).bind fun bt115 => (spec_DrawCacheRun.j0 k bt104.1 y108 (wrap64 (60 + bt115.1)) bt101.1 bt115.2)) else (spec_DrawCacheRun.j0 k bt104.1 y108 bt111.1 bt101.1 bt113.2))))))
set_option maxHeartbeats 8000000 in
set_option maxRecDepth 100000 in
theorem spec_DrawCacheRun.calls (k : Nat) (A0 : Option Addr) (c0 : Nat) (l0 : List Int) (r1 : List (S34)) (r2 : Int) (r3 : List (S25)) (w : World) (hr0 : Kd.C (Kd.int .u8) w A0 l0.length l0) (hc0 : l0.length ≤ c0) (h : spec_DrawCacheRun.f k l0 = some (r1, r2, r3)) :
  Calls Try.prog 33 #[.slice A0 l0.length c0] w fun e w' => ∃ v0_ v2_ : Value, e = .returned (.tuple #[v0_, .int .i64 r2, v2_]) ∧ Kd.R k34 34 w' w.heap.size (fun _ => True) v0_ r1 ∧ Kd.R k25 25 w' w.heap.size (fun _ => True) v2_ r3 ∧ Below w.heap.size w w' := by
 have hu25 := Try.underlying25
 have HR0 := Aside0.mk hr0
 have HC0 := Aside0.mk hc0
 clear hr0 hc0
 have HB := am (Below.refl w.heap.size w)
 have H : ((spec_l1Open.f l0).bind fun bt101 => ((spec_l12AnyRules.f k bt101.1 bt101.2).bind fun bt104 => ((some (([] : List (S25)) : List (S25))).bind fun y108 => ((spec_l1Rd_pick.f k bt101.1 bt104.2 12).bind fun bt111 => ((spec_l1Rd_pick.f k bt101.1 bt111.2 20).bind fun bt113 => (if bt113.1 = 0 then ((spec_l1Rd_pick.f k bt101.1 bt113.2 2).bind fun bt115 => (spec_DrawCacheRun.j0 k bt104.1 y108 (wrap64 (60 + bt115.1)) bt101.1 bt115.2)) else (spec_DrawCacheRun.j0 k bt104.1 y108 bt111.1 bt101.1 bt113.2))))))) = some (r1, r2, r3) := h
 clear h
 replace H := Option.bind_eq_some_iff.mp H
 obtain ⟨⟨t101, t102⟩, A20, H⟩ := H
 replace H : ((spec_l12AnyRules.f k t101 t102).bind fun bt104 => ((some (([] : List (S25)) : List (S25))).bind fun y108 => ((spec_l1Rd_pick.f k t101 bt104.2 12).bind fun bt111 => ((spec_l1Rd_pick.f k t101 bt111.2 20).bind fun bt113 => (if bt113.1 = 0 then ((spec_l1Rd_pick.f k t101 bt113.2 2).bind fun bt115 => (spec_DrawCacheRun.j0 k bt104.1 y108 (wrap64 (60 + bt115.1)) t101 bt115.2)) else (spec_DrawCacheRun.j0 k bt104.1 y108 bt111.1 t101 bt113.2)))))) = some (r1, r2, r3) := H
 have A2 := Aside0.mk A20
 clear A20
 replace H := Option.bind_eq_some_iff.mp H
 obtain ⟨⟨t104, t107⟩, A30, H⟩ := H
 replace H : ((some (([] : List (S25)) : List (S25))).bind fun y108 => ((spec_l1Rd_pick.f k t101 t107 12).bind fun bt111 => ((spec_l1Rd_pick.f k t101 bt111.2 20).bind fun bt113 => (if bt113.1 = 0 then ((spec_l1Rd_pick.f k t101 bt113.2 2).bind fun bt115 => (spec_DrawCacheRun.j0 k t104 y108 (wrap64 (60 + bt115.1)) t101 bt115.2)) else (spec_DrawCacheRun.j0 k t104 y108 bt111.1 t101 bt113.2))))) = some (r1, r2, r3) := H
 have A3 := Aside0.mk A30
 clear A30
 obtain ⟨y108, hy108⟩ : ∃ y_ : List (S25), y_ = (([] : List (S25))) := ⟨_, rfl⟩
 replace H : ((spec_l1Rd_pick.f k t101 t107 12).bind fun bt111 => ((spec_l1Rd_pick.f k t101 bt111.2 20).bind fun bt113 => (if bt113.1 = 0 then ((spec_l1Rd_pick.f k t101 bt113.2 2).bind fun bt115 => (spec_DrawCacheRun.j0 k t104 y108 (wrap64 (60 + bt115.1)) t101 bt115.2)) else (spec_DrawCacheRun.j0 k t104 y108 bt111.1 t101 bt113.2)))) = some (r1, r2, r3) := by first | (rw [hy108]; with_reducible exact H) | (have H2_ := (Option.bind_some _ _).symm.trans H; rw [hy108]; with_reducible exact H2_) | (have H2_ := (Option.bind_some _ _).symm.trans H; with_reducible exact H2_) | with_reducible exact H | (rw [hy108]; exact H) | exact H
 have Ny108 := Aside0.mk hy108
 clear hy108
 replace H := Option.bind_eq_some_iff.mp H
 obtain ⟨⟨t111, t112⟩, A40, H⟩ := H
 replace H : ((spec_l1Rd_pick.f k t101 t112 20).bind fun bt113 => (if bt113.1 = 0 then ((spec_l1Rd_pick.f k t101 bt113.2 2).bind fun bt115 => (spec_DrawCacheRun.j0 k t104 y108 (wrap64 (60 + bt115.1)) t101 bt115.2)) else (spec_DrawCacheRun.j0 k t104 y108 t111 t101 bt113.2))) = some (r1, r2, r3) := H
 have A4 := Aside0.mk A40
 clear A40
 replace H := Option.bind_eq_some_iff.mp H
 obtain ⟨⟨t113, t114⟩, A50, H⟩ := H
 replace H : (if t113 = 0 then ((spec_l1Rd_pick.f k t101 t114 2).bind fun bt115 => (spec_DrawCacheRun.j0 k t104 y108 (wrap64 (60 + bt115.1)) t101 bt115.2)) else (spec_DrawCacheRun.j0 k t104 y108 t111 t101 t114)) = some (r1, r2, r3) := H
 have A5 := Aside0.mk A50
 clear A50
 have HC6 := Aside0.mk H
 clear H
 go_enter Try.func33, Try.ntmps33
 go_upto_if 18 with (first | ((with_reducible refine gate_callee (f := 70) rfl ?_); refine goesL_ (some 10) rfl rfl Try.func70 (by kernel_rfl) rfl #[.slice A0 l0.length c0] rfl MT ?_; (with_reducible refine (spec_l1Open.calls _ _ l0 t101 t102 w _ ?side1 ?side2 ?side3 A2.out).mono ?_); (case side1 => exact KL HB); (case side2 => exact HR0.out); (case side3 => exact HC0.out); rintro e w7 ⟨g103, rfl, hi, hb, hb2⟩; refine ⟨_, rfl, ?_⟩; replace HB := am (hb); have HI103 := am (hi); (try clear hb); (try clear hb2); (try clear hk); (try clear hi)) | ((with_reducible refine gate_callee (f := 71) rfl ?_); refine goesL_ (some 12) rfl rfl Try.func71 (by kernel_rfl) rfl #[.pointer (some ⟨g103, 0, none⟩)] rfl MT ?_; (with_reducible refine (spec_l12AnyRules.calls k g103 t101 t102 t104 t107 w _ ?side1 ?side2 A3.out).mono ?_); (case side1 => exact I143_0 HI103); (case side2 => exact K1 HB (IsS143.ge HI103.out)); rintro e w8 ⟨v105, rfl, ho0, hi, hb, hk⟩; refine ⟨_, rfl, ?_⟩; have HO106 := am (Kd.R_lower ho0 (below_size (K1 HB (IsS143.ge HI103.out)))); replace HB := am (hb); replace HI103 := am (hi); (try clear hb); (try clear hb2); (try clear hk); (try clear hi); (try clear ho0)) | ((with_reducible refine gate_dst (N := 13) rfl ?_); refine Kd.R_lit k25 _ 25 ?hg (N := 13) ?hd (xs := ([] : List (S25))) (inner := []) (ok := fun _ => True) (okp := fun _ => True) ?hr ?hp (fun _ hk => hk) trivial (Below.refl _ _) (Nat.le_refl _) (by simp) ?_; (case hd => rfl); (case hg => rfl); (case hr => first | (go_simp; done) | (go_simp; rfl)); (case hp => exact (Reps.none _ _)); intro v109 w9 ho10 hb hg_ hnew_; clear hg_ hnew_; (first | rw [← Ny108.out] at ho10 | (simp only [Int.reduceToNat] at ho10; rw [← Ny108.out] at ho10)); replace HO106 := am (Kd.R_below (KR HO106) hb); have HO110 := am (Kd.R_lower ho10 (below_size (K1 HB (IsS143.ge HI103.out)))); replace HB := am (below_step (K1 HB (IsS143.ge HI103.out)) hb); replace HI103 := am (IsS143.below (I143_0 HI103) hb); clear hb ho10) | ((with_reducible refine gate_callee (f := 91) rfl ?_); refine goesL_ (some 15) rfl rfl Try.func91 (by kernel_rfl) rfl #[.pointer (some ⟨g103, 0, none⟩), .int .i64 12] rfl MT ?_; (with_reducible refine (spec_l1Rd_pick.calls k g103 t101 t107 12 t111 t112 w _ ?side1 ?side2 A4.out).mono ?_); (case side1 => exact I143_0 HI103); (case side2 => exact K1 HB (IsS143.ge HI103.out)); rintro e w11 ⟨rfl, hi, hb, hk⟩; refine ⟨_, rfl, ?_⟩; replace HO106 := am (Kd.R_mono (Kd.R_keep (IsS143.apart (show IsS143 w _ g103 t101 t107 from I143_0 HI103) (KR HO106) (by decide)) hk (fun _ h => h.2)) (fun _ h => h.1)); replace HO110 := am (Kd.R_mono (Kd.R_keep (IsS143.apart (show IsS143 w _ g103 t101 t107 from I143_0 HI103) (KR HO110) (by decide)) hk (fun _ h => h.2)) (fun _ h => h.1)); replace HB := am (hb); replace HI103 := am (hi); (try clear hb); (try clear hb2); (try clear hk); (try clear hi)) | ((with_reducible refine gate_callee (f := 91) rfl ?_); refine goesL_ (some 17) rfl rfl Try.func91 (by kernel_rfl) rfl #[.pointer (some ⟨g103, 0, none⟩), .int .i64 20] rfl MT ?_; (with_reducible refine (spec_l1Rd_pick.calls k g103 t101 t112 20 t113 t114 w _ ?side1 ?side2 A5.out).mono ?_); (case side1 => exact I143_0 HI103); (case side2 => exact K1 HB (IsS143.ge HI103.out)); rintro e w12 ⟨rfl, hi, hb, hk⟩; refine ⟨_, rfl, ?_⟩; replace HO106 := am (Kd.R_mono (Kd.R_keep (IsS143.apart (show IsS143 w _ g103 t101 t112 from I143_0 HI103) (KR HO106) (by decide)) hk (fun _ h => h.2)) (fun _ h => h.1)); replace HO110 := am (Kd.R_mono (Kd.R_keep (IsS143.apart (show IsS143 w _ g103 t101 t112 from I143_0 HI103) (KR HO110) (by decide)) hk (fun _ h => h.2)) (fun _ h => h.1)); replace HB := am (hb); replace HI103 := am (hi); (try clear hb); (try clear hb2); (try clear hk); (try clear hi)))
 (try simp only [Act.put, List.setIfInBounds_toArray, List.set_cons_zero, List.set_cons_succ])
 go_cut [8] (fun v8 wc => ∃ (kq : Nat) (x8_5 : Int) (x104001_5 : Int), v8 = .int .i64 x8_5 ∧ Aside0 (spec_DrawCacheRun.j0 kq t104 y108 x8_5 t101 x104001_5 = some (r1, r2, r3)) ∧ Aside0 (kq ≤ k) ∧ Aside0 (Kd.R k34 34 wc w.heap.size (fun _ => True) v105 t104) ∧ Aside0 (Kd.R k25 25 wc w.heap.size (fun _ => True) v109 y108) ∧ Aside0 (IsS143 w wc g103 t101 x104001_5) ∧ Aside0 (Below w.heap.size w wc))
 case first =>
  have H := HC6.out
  clear HC6
  by_cases c13 : t113 = 0
  ·rw [if_pos c13] at H
   have c13b0 : (t113 == 0) = true := beq_iff_eq.mpr c13
   have c13b1 : (t113 != 0) = false := bne_eq_false_iff_eq.mpr c13
   clear c13
   (first | rw [c13b0] | (simp only [i64_w, i32_w]; rw [c13b0]) | skip)
   replace H := Option.bind_eq_some_iff.mp H
   obtain ⟨⟨t115, t116⟩, A140, H⟩ := H
   replace H : (spec_DrawCacheRun.j0 k t104 y108 (wrap64 (60 + t115)) t101 t116) = some (r1, r2, r3) := H
   have A14 := Aside0.mk A140
   clear A140
   have H' := Aside0.mk H
   clear H
   go_wp2_with (first | ((with_reducible refine gate_callee (f := 91) rfl ?_); refine goesL_ (some 20) rfl rfl Try.func91 (by kernel_rfl) rfl #[.pointer (some ⟨g103, 0, none⟩), .int .i64 2] rfl MT ?_; (with_reducible refine (spec_l1Rd_pick.calls k g103 t101 t114 2 t115 t116 w _ ?side1 ?side2 A14.out).mono ?_); (case side1 => exact I143_0 HI103); (case side2 => exact K1 HB (IsS143.ge HI103.out)); rintro e w15 ⟨rfl, hi, hb, hk⟩; refine ⟨_, rfl, ?_⟩; replace HO106 := am (Kd.R_mono (Kd.R_keep (IsS143.apart (show IsS143 w _ g103 t101 t114 from I143_0 HI103) (KR HO106) (by decide)) hk (fun _ h => h.2)) (fun _ h => h.1)); replace HO110 := am (Kd.R_mono (Kd.R_keep (IsS143.apart (show IsS143 w _ g103 t101 t114 from I143_0 HI103) (KR HO110) (by decide)) hk (fun _ h => h.2)) (fun _ h => h.1)); replace HB := am (hb); replace HI103 := am (hi); (try clear hb); (try clear hb2); (try clear hk); (try clear hi)))
   go_meet
   case rel => exact ⟨_, (wrap64 (60 + t115)), (t116), (by first | rfl | (simp; done) | (simp [*]; done)), H', ⟨by first | omega | exact Nat.le_refl _⟩, ⟨KR HO106⟩, ⟨KR HO110⟩, ⟨I143_0 HI103⟩, ⟨K1 HB (IsS143.ge HI103.out)⟩⟩
  ·rw [if_neg c13] at H
   have c13b0 : (t113 == 0) = false := beq_eq_false_iff_ne.mpr c13
   have c13b1 : (t113 != 0) = true := bne_iff_ne.mpr c13
   (first | rw [c13b0] | (simp only [i64_w, i32_w]; rw [c13b0]) | skip)
   have H' := Aside0.mk H
   clear H
   go_wp2
   go_meet
   case rel => exact ⟨_, (t111), (t114), (by first | rfl | (simp; done) | (simp [*]; done)), H', ⟨by first | omega | exact Nat.le_refl _⟩, ⟨KR HO106⟩, ⟨KR HO110⟩, ⟨I143_0 HI103⟩, ⟨K1 HB (IsS143.ge HI103.out)⟩⟩
 case rest =>
  clear HC6
  try clear c1
  try clear p2
  try clear c3
  try clear p6
  try clear c7
  try clear c9
  try clear c13
  try clear c13b0
  try clear c13b1
  obtain ⟨kq, x8_5, x104001_5, rfl, HA, HJ5, HO_6, HO_7, HI103, HB⟩ := hcut
  cases kq with
  | zero => exact absurd HA.out (by simp [spec_DrawCacheRun.j0])
  | succ kj5 =>
   have H := HA.out
   clear HA
   simp only [spec_DrawCacheRun.j0] at H
   have H' := Aside0.mk H
   clear H
   go_wp2
   go_loopg [7, 8] kj5 (fun kq v7 v8 w' => ∃ (x7_2 : List (S25)) (x8_2 : Int) (x104001_2 : Int), v8 = .int .i64 x8_2 ∧ Aside0 (spec_DrawCacheRun.l0 kq t104 x7_2 x8_2 t101 x104001_2 = some (r1, r2, r3)) ∧ Aside0 (kq ≤ kj5) ∧ Aside0 (Kd.R k34 34 w' w.heap.size (fun _ => True) v105 t104) ∧ Aside0 (Kd.R k25 25 w' w.heap.size (fun _ => True) v7 x7_2) ∧ Aside0 (IsS143 w w' g103 t101 x104001_2) ∧ Aside0 (Below w.heap.size w w'))
   case atStart => exact ⟨(y108), (x8_5), (x104001_5), (by first | rfl | (simp; done) | (simp [*]; done)), H', ⟨Nat.le_refl _⟩, ⟨KR HO_6⟩, ⟨KR HO_7⟩, ⟨I143_0 HI103⟩, ⟨K1 HB (IsS143.ge HI103.out)⟩⟩
   case round =>
    clear H'
    try clear c1
    try clear p2
    try clear c3
    try clear p6
    try clear c7
    try clear c9
    try clear c13
    try clear c13b0
    try clear c13b1
    try clear p2
    try clear p6
    obtain ⟨x7_2, x8_2, x104001_2, rfl, HA, HK2, HO_6, HO_7, HI103, HB⟩ := hrel
    cases gk with
    | zero => exact absurd HA.out (by simp [spec_DrawCacheRun.l0])
    | succ k2 =>
     have H := HA.out
     clear HA
     simp only [spec_DrawCacheRun.l0] at H
     by_cases c16 : x8_2 > 0
     ·rw [if_pos c16] at H
      have c16b0 : decide (0 < x8_2) = true := decide_eq_true c16
      clear c16
      have HC17 := Aside0.mk H
      clear H
      go_upto_region 9 with (fail)
      go_cut [33] (fun v33 wc => ∃ (kq : Nat) (x33_16 : Bool) (x104001_16 : Int), v33 = .bool x33_16 ∧ Aside0 (spec_DrawCacheRun.j2 kq t104 x7_2 x8_2 x33_16 t101 x104001_16 = some (r1, r2, r3)) ∧ Aside0 (kq ≤ k2) ∧ Aside0 (Kd.R k34 34 wc w.heap.size (fun _ => True) v105 t104) ∧ Aside0 (Kd.R k25 25 wc w.heap.size (fun _ => True) u7 x7_2) ∧ Aside0 (IsS143 w wc g103 t101 x104001_16) ∧ Aside0 (Below w.heap.size w wc))
      case first =>
       have H := HC17.out
       clear HC17
       by_cases c18 : (x7_2.length : Int) > 0
       ·rw [if_pos c18] at H
        have c18b0 : decide (0 < (x7_2.length : Int)) = true := decide_eq_true c18
        have c18b1 : decide (0 < x7_2.length) = true := decide_eq_true (by omega)
        clear c18
        (first | rw [c18b0] | (simp only [i64_w, i32_w]; rw [c18b0]) | skip)
        replace H := Option.bind_eq_some_iff.mp H
        obtain ⟨⟨t122, t123⟩, A190, H⟩ := H
        replace H : (spec_DrawCacheRun.j2 k2 t104 x7_2 x8_2 (t122 == 0) t101 t123) = some (r1, r2, r3) := H
        have A19 := Aside0.mk A190
        clear A190
        have H' := Aside0.mk H
        clear H
        obtain ⟨Ao20, co20, eo20⟩ := Kd.R_slice HO_7.out
        subst eo20
        go_wp2_with (first | (go_at_call 91; (with_reducible refine (spec_l1Rd_pick.calls k2 g103 t101 x104001_2 2 t122 t123 w _ ?side1 ?side2 A19.out).mono ?_); (case side1 => exact I143_0 HI103); (case side2 => exact K1 HB (IsS143.ge HI103.out)); rintro e w21 ⟨rfl, hi, hb, hk⟩; replace HO_6 := am (Kd.R_mono (Kd.R_keep (IsS143.apart (show IsS143 w _ g103 t101 x104001_2 from I143_0 HI103) (KR HO_6) (by decide)) hk (fun _ h => h.2)) (fun _ h => h.1)); replace HO_7 := am (Kd.R_mono (Kd.R_keep (IsS143.apart (show IsS143 w _ g103 t101 x104001_2 from I143_0 HI103) (KR HO_7) (by decide)) hk (fun _ h => h.2)) (fun _ h => h.1)); replace HB := am (hb); replace HI103 := am (hi); (try clear hb); (try clear hb2); (try clear hk); (try clear hi)))
        go_meet
        case rel => exact ⟨_, ((t122 == 0)), (t123), (by first | rfl | (simp; done) | (simp [*]; done)), H', ⟨by have := HJ5.out; have := HK2.out; first | omega | exact Nat.le_refl _⟩, ⟨KR HO_6⟩, ⟨KR HO_7⟩, ⟨I143_0 HI103⟩, ⟨K1 HB (IsS143.ge HI103.out)⟩⟩
       ·rw [if_neg c18] at H
        have c18b0 : decide (0 < (x7_2.length : Int)) = false := decide_eq_false c18
        have c18b1 : decide (0 < x7_2.length) = false := decide_eq_false (by omega)
        clear c18
        (first | rw [c18b0] | (simp only [i64_w, i32_w]; rw [c18b0]) | skip)
        have H' := Aside0.mk H
        clear H
        obtain ⟨Ao22, co22, eo22⟩ := Kd.R_slice HO_7.out
        subst eo22
        go_wp2
        go_meet
        case rel => exact ⟨_, (false), (x104001_2), (by first | rfl | (simp; done) | (simp [*]; done)), H', ⟨by have := HJ5.out; have := HK2.out; first | omega | exact Nat.le_refl _⟩, ⟨KR HO_6⟩, ⟨KR HO_7⟩, ⟨I143_0 HI103⟩, ⟨K1 HB (IsS143.ge HI103.out)⟩⟩
      case rest =>
       clear HC17
       try clear c1
       try clear p2
       try clear c3
       try clear p6
       try clear c7
       try clear c9
       try clear c13
       try clear c13b0
       try clear c13b1
       try clear c16
       try clear c16b0
       try clear c18
       try clear c18b0
       try clear c18b1
       try clear p2
       try clear p6
       obtain ⟨kq, x33_16, x104001_16, rfl, HA, HJ16, HO_6, HO_7, HI103, HB⟩ := hcut
       cases kq with
       | zero => exact absurd HA.out (by simp [spec_DrawCacheRun.j2])
       | succ kj16 =>
        have H := HA.out
        clear HA
        simp only [spec_DrawCacheRun.j2] at H
        by_cases c23 : x33_16 = true
        ·subst c23
         have H1 : ((spec_l1Rd_pick.f kj16 t101 x104001_16 (x7_2.length : Int)).bind fun bt124 => (if 0 ≤ bt124.1 then (if bt124.1 < (x7_2.length : Int) then (if x7_2.length < 5864062014805 then (spec_DrawCacheRun.l0 kj16 t104 (x7_2 ++ [(⟨(rd_T25 x7_2 bt124.1).f0, (rd_T25 x7_2 bt124.1).f1, (rd_T25 x7_2 bt124.1).f2⟩ : S25)]) (wrap64 (x8_2 - 1)) t101 bt124.2) else (none)) else (none)) else (none))) = some (r1, r2, r3) := by rw [if_pos rfl] at H; exact H
         clear H
         have H := H1
         clear H1
         replace H := Option.bind_eq_some_iff.mp H
         obtain ⟨⟨t124, t125⟩, A240, H⟩ := H
         replace H : (if 0 ≤ t124 then (if t124 < (x7_2.length : Int) then (if x7_2.length < 5864062014805 then (spec_DrawCacheRun.l0 kj16 t104 (x7_2 ++ [(⟨(rd_T25 x7_2 t124).f0, (rd_T25 x7_2 t124).f1, (rd_T25 x7_2 t124).f2⟩ : S25)]) (wrap64 (x8_2 - 1)) t101 t125) else (none)) else (none)) else (none)) = some (r1, r2, r3) := H
         have A24 := Aside0.mk A240
         clear A240
         by_cases c25 : 0 ≤ t124
         ·rw [if_pos c25] at H
          have c25b0 : decide (0 ≤ t124) = true := decide_eq_true c25
          clear c25
          by_cases c26 : t124 < (x7_2.length : Int)
          ·rw [if_pos c26] at H
           have c26b0 : decide (t124 < (x7_2.length : Int)) = true := decide_eq_true c26
           clear c26
           by_cases c27 : x7_2.length < 5864062014805
           ·rw [if_pos c27] at H
            have LMc27 := Aside0.mk c27
            clear c27
            obtain ⟨y127, hy127⟩ : ∃ y_ : List (S25), y_ = (x7_2 ++ [(⟨(rd_T25 x7_2 t124).f0, (rd_T25 x7_2 t124).f1, (rd_T25 x7_2 t124).f2⟩ : S25)]) := ⟨_, rfl⟩
            replace H : (spec_DrawCacheRun.l0 kj16 t104 y127 (wrap64 (x8_2 - 1)) t101 t125) = some (r1, r2, r3) := by first | (rw [hy127]; with_reducible exact H) | (have H2_ := (Option.bind_some _ _).symm.trans H; rw [hy127]; with_reducible exact H2_) | (have H2_ := (Option.bind_some _ _).symm.trans H; with_reducible exact H2_) | with_reducible exact H | (rw [hy127]; exact H) | exact H
            have Ny127 := Aside0.mk hy127
            clear hy127
            have H' := Aside0.mk H
            clear H
            obtain ⟨Ao28, co28, eo28⟩ := Kd.R_slice HO_7.out
            subst eo28
            go_wp2_with (first | ((with_reducible refine gate_callee (f := 91) rfl ?_); refine goesL_ (some 39) rfl rfl Try.func91 (by kernel_rfl) rfl #[.pointer (some ⟨g103, 0, none⟩), .int .i64 (x7_2.length : Int)] rfl MT ?_; (with_reducible refine (spec_l1Rd_pick.calls kj16 g103 t101 x104001_16 (x7_2.length : Int) t124 t125 w _ ?side1 ?side2 A24.out).mono ?_); (case side1 => exact I143_0 HI103); (case side2 => exact K1 HB (IsS143.ge HI103.out)); rintro e w29 ⟨rfl, hi, hb, hk⟩; refine ⟨_, rfl, ?_⟩; replace HO_6 := am (Kd.R_mono (Kd.R_keep (IsS143.apart (show IsS143 w _ g103 t101 x104001_16 from I143_0 HI103) (KR HO_6) (by decide)) hk (fun _ h => h.2)) (fun _ h => h.1)); replace HO_7 := am (Kd.R_mono (Kd.R_keep (IsS143.apart (show IsS143 w _ g103 t101 x104001_16 from I143_0 HI103) (KR HO_7) (by decide)) hk (fun _ h => h.2)) (fun _ h => h.1)); replace HB := am (hb); replace HI103 := am (hi); (try clear hb); (try clear hb2); (try clear hk); (try clear hi); have p126 : 0 ≤ (t124 : Int) := of_decide_eq_true (by first | (with_reducible assumption) | assumption); have q126 : t124 < (x7_2.length : Int) := of_decide_eq_true (by first | (with_reducible assumption) | assumption); obtain ⟨ad126, e126, hx126_0, hx126_1, hx126_2⟩ := at_T25 (Kd.R_reads' HO_7.out).2.2 t124 p126 q126; cases e126; replace p126 := eq_true p126; replace q126 := eq_true q126) | ((with_reducible refine gate_builtin (b := .append) (xs := #[.tmp 34, .tmp 42]) rfl ?_); at_builtin; refine Kd.R_append k25 (w0 := w) w.heap.size rfl (.tmp 34) (.tmp 42) 55 25 (.agg #[(.int .i64 0), (.int .i64 0), (.int .i64 0)]) 24 rfl Try.underlying55 info25 rfl (by decide) (by omega) (.slice (some ad126) x7_2.length co28) x7_2 (⟨(rd_T25 x7_2 t124).f0, (rd_T25 x7_2 t124).f1, (rd_T25 x7_2 t124).f2⟩ : S25) [.int .i64 ((rd_T25 x7_2 t124).f0), .int .i64 ((rd_T25 x7_2 t124).f1), .int .i64 ((rd_T25 x7_2 t124).f2)] (fun _ => True) (fun _ => False) rfl rfl ?aP (fun _ hk => hk.elim) ?aF ?aO ?aB ?aS ?aL ?_; (case aP => exact k25_mkM _ _ _ (⟨(rd_T25 x7_2 t124).f0, (rd_T25 x7_2 t124).f1, (rd_T25 x7_2 t124).f2⟩ : S25)); (case aB => exact (K1 HB (IsS143.ge HI103.out))); (case aF => exact (fun _ _ => trivial)); (case aO => exact (KR HO_7)); (case aS => exact (below_size (K1 HB (IsS143.ge HI103.out)))); (case aL => have := LMc27.out; omega); intro v128 w30 ho hb hg hat; rw [← Ny127.out] at ho; replace HO_6 := am (Kd.R_over' (KR HO_6) (Kd.R_typed (KR HO_7)) (by decide) hg); replace HI103 := am (IsS143.grown (I143_0 HI103) hg (IsS143.own_ne HI103.out HO_7.out (by decide))); replace HB := am (hb); have HO129 := am (ho); clear HO_7; clear ho hb hg hat))
            go_roundg kj16
            case measure => have := HJ5.out; have := HK2.out; have := HJ16.out; omega
            case rel => exact ⟨(y127), (wrap64 (x8_2 - 1)), (t125), (by first | rfl | (simp; done) | (simp [*]; done)), H', ⟨by have := HJ5.out; have := HK2.out; have := HJ16.out; omega⟩, ⟨KR HO_6⟩, ⟨KR HO129⟩, ⟨I143_0 HI103⟩, ⟨K1 HB (IsS143.ge HI103.out)⟩⟩
           ·rw [if_neg c27] at H
            exact absurd H (by simp)
          ·rw [if_neg c26] at H
           exact absurd H (by simp)
         ·rw [if_neg c25] at H
          exact absurd H (by simp)
        ·replace c23 := Bool.eq_false_iff.mpr c23
         subst c23
         have H1 : ((spec_l12AnyCall.f kj16 t101 x104001_16).bind fun bt130 => (if x7_2.length < 5864062014805 then (spec_DrawCacheRun.l0 kj16 t104 (x7_2 ++ [(⟨bt130.1, bt130.2.1, bt130.2.2.1⟩ : S25)]) (wrap64 (x8_2 - 1)) t101 bt130.2.2.2) else (none))) = some (r1, r2, r3) := by rw [if_neg (show ¬ (false = true) by decide)] at H; exact H
         clear H
         have H := H1
         clear H1
         replace H := Option.bind_eq_some_iff.mp H
         obtain ⟨⟨t130, t131, t132, t133⟩, A310, H⟩ := H
         replace H : (if x7_2.length < 5864062014805 then (spec_DrawCacheRun.l0 kj16 t104 (x7_2 ++ [(⟨t130, t131, t132⟩ : S25)]) (wrap64 (x8_2 - 1)) t101 t133) else (none)) = some (r1, r2, r3) := H
         have A31 := Aside0.mk A310
         clear A310
         by_cases c32 : x7_2.length < 5864062014805
         ·rw [if_pos c32] at H
          have LMc32 := Aside0.mk c32
          clear c32
          obtain ⟨y134, hy134⟩ : ∃ y_ : List (S25), y_ = (x7_2 ++ [(⟨t130, t131, t132⟩ : S25)]) := ⟨_, rfl⟩
          replace H : (spec_DrawCacheRun.l0 kj16 t104 y134 (wrap64 (x8_2 - 1)) t101 t133) = some (r1, r2, r3) := by first | (rw [hy134]; with_reducible exact H) | (have H2_ := (Option.bind_some _ _).symm.trans H; rw [hy134]; with_reducible exact H2_) | (have H2_ := (Option.bind_some _ _).symm.trans H; with_reducible exact H2_) | with_reducible exact H | (rw [hy134]; exact H) | exact H
          have Ny134 := Aside0.mk hy134
          clear hy134
          have H' := Aside0.mk H
          clear H
          go_wp2_with (first | ((with_reducible refine gate_callee (f := 72) rfl ?_); refine goesL_ (some 46) rfl rfl Try.func72 (by kernel_rfl) rfl #[.pointer (some ⟨g103, 0, none⟩)] rfl MT ?_; (with_reducible refine (spec_l12AnyCall.calls kj16 g103 t101 x104001_16 t130 t131 t132 t133 w _ ?side1 ?side2 A31.out).mono ?_); (case side1 => exact I143_0 HI103); (case side2 => exact K1 HB (IsS143.ge HI103.out)); rintro e w33 ⟨rfl, hi, hb, hk⟩; refine ⟨_, rfl, ?_⟩; replace HO_6 := am (Kd.R_mono (Kd.R_keep (IsS143.apart (show IsS143 w _ g103 t101 x104001_16 from I143_0 HI103) (KR HO_6) (by decide)) hk (fun _ h => h.2)) (fun _ h => h.1)); replace HO_7 := am (Kd.R_mono (Kd.R_keep (IsS143.apart (show IsS143 w _ g103 t101 x104001_16 from I143_0 HI103) (KR HO_7) (by decide)) hk (fun _ h => h.2)) (fun _ h => h.1)); replace HB := am (hb); replace HI103 := am (hi); (try clear hb); (try clear hb2); (try clear hk); (try clear hi)) | ((with_reducible refine gate_builtin (b := .append) (xs := #[.tmp 44, .tmp 47]) rfl ?_); at_builtin; refine Kd.R_append k25 (w0 := w) w.heap.size rfl (.tmp 44) (.tmp 47) 55 25 (.agg #[(.int .i64 0), (.int .i64 0), (.int .i64 0)]) 24 rfl Try.underlying55 info25 rfl (by decide) (by omega) u7 x7_2 (⟨t130, t131, t132⟩ : S25) [.int .i64 t130, .int .i64 t131, .int .i64 t132] (fun _ => True) (fun _ => False) rfl rfl ?aP (fun _ hk => hk.elim) ?aF ?aO ?aB ?aS ?aL ?_; (case aP => exact k25_mkM _ _ _ (⟨t130, t131, t132⟩ : S25)); (case aB => exact (K1 HB (IsS143.ge HI103.out))); (case aF => exact (fun _ _ => trivial)); (case aO => exact (KR HO_7)); (case aS => exact (below_size (K1 HB (IsS143.ge HI103.out)))); (case aL => have := LMc32.out; omega); intro v135 w34 ho hb hg hat; rw [← Ny134.out] at ho; replace HO_6 := am (Kd.R_over' (KR HO_6) (Kd.R_typed (KR HO_7)) (by decide) hg); replace HI103 := am (IsS143.grown (I143_0 HI103) hg (IsS143.own_ne HI103.out HO_7.out (by decide))); replace HB := am (hb); have HO136 := am (ho); clear HO_7; clear ho hb hg hat))
          go_roundg kj16
          case measure => have := HJ5.out; have := HK2.out; have := HJ16.out; omega
          case rel => exact ⟨(y134), (wrap64 (x8_2 - 1)), (t133), (by first | rfl | (simp; done) | (simp [*]; done)), H', ⟨by have := HJ5.out; have := HK2.out; have := HJ16.out; omega⟩, ⟨KR HO_6⟩, ⟨KR HO136⟩, ⟨I143_0 HI103⟩, ⟨K1 HB (IsS143.ge HI103.out)⟩⟩
         ·rw [if_neg c32] at H
          exact absurd H (by simp)
     ·rw [if_neg c16] at H
      have c16b0 : decide (0 < x8_2) = false := decide_eq_false c16
      clear c16
      obtain ⟨y117, hy117⟩ : ∃ y_ : List Int, y_ = (([0, 1, 2, 4, 16, 17, (-1)] : List Int)) := ⟨_, rfl⟩
      replace H : ((spec_l1Rd_one.f k2 t101 x104001_2 y117).bind fun bt120 => (some (t104, bt120.1, x7_2))) = some (r1, r2, r3) := by first | (rw [hy117]; with_reducible exact H) | (have H2_ := (Option.bind_some _ _).symm.trans H; rw [hy117]; with_reducible exact H2_) | (have H2_ := (Option.bind_some _ _).symm.trans H; with_reducible exact H2_) | with_reducible exact H | (rw [hy117]; exact H) | exact H
      have Ny117 := Aside0.mk hy117
      clear hy117
      replace H := Option.bind_eq_some_iff.mp H
      obtain ⟨⟨t120, t121⟩, A350, H⟩ := H
      replace H : (some (t104, t120, x7_2)) = some (r1, r2, r3) := H
      have A35 := Aside0.mk A350
      clear A350
      simp only [Option.some.injEq, Prod.mk.injEq] at H
      obtain ⟨rfl, rfl, rfl⟩ := H
      go_wp2_with (first | ((with_reducible refine gate_dst (N := 51) rfl ?_); refine Kd.R_lit (Kd.int .i64) _ 3 ?hg (N := 51) ?hd (xs := ([0, 1, 2, 4, 16, 17, (-1)] : List Int)) (inner := [.int .i64 0, .int .i64 1, .int .i64 2, .int .i64 4, .int .i64 16, .int .i64 17, .int .i64 (-1)]) (ok := fun _ => True) (okp := fun _ => True) ?hr ?hp (fun _ hk => hk) trivial (Below.refl _ _) (Nat.le_refl _) (by simp) ?_; (case hd => rfl); (case hg => rfl); (case hr => first | (go_simp; done) | (go_simp; rfl)); (case hp => exact (Reps.one (show Kd.M (Kd.int .i64) _ _ _ 0 [.int .i64 0] from rfl) (Reps.one (show Kd.M (Kd.int .i64) _ _ _ 1 [.int .i64 1] from rfl) (Reps.one (show Kd.M (Kd.int .i64) _ _ _ 2 [.int .i64 2] from rfl) (Reps.one (show Kd.M (Kd.int .i64) _ _ _ 4 [.int .i64 4] from rfl) (Reps.one (show Kd.M (Kd.int .i64) _ _ _ 16 [.int .i64 16] from rfl) (Reps.one (show Kd.M (Kd.int .i64) _ _ _ 17 [.int .i64 17] from rfl) (Reps.one (show Kd.M (Kd.int .i64) _ _ _ (-1) [.int .i64 (-1)] from rfl) (Reps.none _ _))))))))); intro v118 w36 ho37 hb hg_ hnew_; clear hg_ hnew_; (first | rw [← Ny117.out] at ho37 | (simp only [Int.reduceToNat] at ho37; rw [← Ny117.out] at ho37)); replace HO_6 := am (Kd.R_below (KR HO_6) hb); replace HO_7 := am (Kd.R_below (KR HO_7) hb); have HO119 := am (Kd.R_lower ho37 (below_size (K1 HB (IsS143.ge HI103.out)))); replace HB := am (below_step (K1 HB (IsS143.ge HI103.out)) hb); replace HI103 := am (IsS143.below (I143_0 HI103) hb); clear hb ho37; obtain ⟨Ao38, co38, eo38⟩ := Kd.R_slice HO119.out; subst eo38) | ((with_reducible refine gate_callee (f := 95) rfl ?_); refine goesL_ (some 52) rfl rfl Try.func95 (by kernel_rfl) rfl #[.pointer (some ⟨g103, 0, none⟩), .slice Ao38 y117.length co38] rfl MT ?_; (with_reducible refine (spec_l1Rd_one.calls k2 g103 t101 x104001_2 _ _ y117 t120 t121 w _ ?side1 ?side2 ?side3 ?side4 ?side5 A35.out).mono ?_); (case side1 => exact I143_0 HI103); (case side2 => exact K1 HB (IsS143.ge HI103.out)); (case side3 => exact KC (Kd.R_reads' HO119.out).2.2); (case side4 => exact (Kd.R_reads' HO119.out).2.1); (case side5 => exact far_slice (IsS143.own_ne HI103.out HO119.out (by decide))); rintro e w39 ⟨rfl, hi, hb, hk⟩; refine ⟨_, rfl, ?_⟩; replace HO_6 := am (Kd.R_mono (Kd.R_keep (IsS143.apart (show IsS143 w _ g103 t101 x104001_2 from I143_0 HI103) (KR HO_6) (by decide)) hk (fun _ h => h.2)) (fun _ h => h.1)); replace HO_7 := am (Kd.R_mono (Kd.R_keep (IsS143.apart (show IsS143 w _ g103 t101 x104001_2 from I143_0 HI103) (KR HO_7) (by decide)) hk (fun _ h => h.2)) (fun _ h => h.1)); replace HO119 := am (Kd.R_mono (Kd.R_keep (IsS143.apart (show IsS143 w _ g103 t101 x104001_2 from I143_0 HI103) (KR HO119) (by decide)) hk (fun _ h => h.2)) (fun _ h => h.1)); replace HB := am (hb); replace HI103 := am (hi); (try clear hb); (try clear hb2); (try clear hk); (try clear hi)))
      go_ret3
      exact ⟨_, _, by first | rfl | (simp [errW_none, errW_some] <;> rfl) | (simp [*, errW_none, errW_some] <;> rfl), by (with_reducible repeat (first | apply Kd.R_alloc | apply Kd.R_drewN | apply Kd.R_drew)); exact HO_6.out, by (with_reducible repeat (first | apply Kd.R_alloc | apply Kd.R_drewN | apply Kd.R_drew)); exact HO_7.out, K1 HB (IsS143.ge HI103.out)⟩
end Go.Proofs.Ytioghacieopbdaa.PAll
end
section
namespace Go.Proofs.Ytioghacieopbdaa.PAll
open Go.RowKit Go.Proofs.YtioghacieopbdaaW.PrintWords Go.Proofs.YtioghacieopbdaaW.PrintLast Go.Proofs.YtioghacieopbdaaW.PrintMore
attribute [local go_sem] max2_int min2_int max_two min_two max_three min_three max_four min_four   -- for this text's walks alone
set_option linter.unusedVariables false
set_option linter.unusedSimpArgs false
def spec_l4Call.f (a0_0 : Int) (a0_1 : Int) (a0_2 : Int) : Option (Bool) := (spec_l1Addr.f a0_0).bind fun t102 => (if t102 = true then ((spec_l1Addr.f a0_1).bind fun t103 => (if t103 = true then ((spec_l1In.f a0_2 0 65535).bind fun t104 => (some t104)) else (some false))) else (some false))
set_option maxHeartbeats 8000000 in
set_option maxRecDepth 100000 in
theorem spec_l4Call.calls (a0_0 : Int) (a0_1 : Int) (a0_2 : Int) (r : Bool) (w : World) (h : spec_l4Call.f a0_0 a0_1 a0_2 = some r) :
  Calls Try.prog 75 #[.agg #[.int .i64 a0_0, .int .i64 a0_1, .int .i64 a0_2]] w fun e w' => e = .returned (.bool r) ∧ Below w.heap.size w w' := by
 have hu25 := Try.underlying25
 have HB := am (Below.refl w.heap.size w)
 have H : ((spec_l1Addr.f a0_0).bind fun t102 => (if t102 = true then ((spec_l1Addr.f a0_1).bind fun t103 => (if t103 = true then ((spec_l1In.f a0_2 0 65535).bind fun t104 => (some t104)) else (some false))) else (some false))) = some r := h
 clear h
 replace H := Option.bind_eq_some_iff.mp H
 obtain ⟨t102, A20, H⟩ := H
 replace H : (if t102 = true then ((spec_l1Addr.f a0_1).bind fun t103 => (if t103 = true then ((spec_l1In.f a0_2 0 65535).bind fun t104 => (some t104)) else (some false))) else (some false)) = some r := H
 have A2 := Aside0.mk A20
 clear A20
 by_cases c3 : t102 = true
 ·subst c3
  have H1 : ((spec_l1Addr.f a0_1).bind fun t103 => (if t103 = true then ((spec_l1In.f a0_2 0 65535).bind fun t104 => (some t104)) else (some false))) = some r := by rw [if_pos rfl] at H; exact H
  clear H
  have H := H1
  clear H1
  replace H := Option.bind_eq_some_iff.mp H
  obtain ⟨t103, A40, H⟩ := H
  replace H : (if t103 = true then ((spec_l1In.f a0_2 0 65535).bind fun t104 => (some t104)) else (some false)) = some r := H
  have A4 := Aside0.mk A40
  clear A40
  by_cases c5 : t103 = true
  ·subst c5
   have H1 : ((spec_l1In.f a0_2 0 65535).bind fun t104 => (some t104)) = some r := by rw [if_pos rfl] at H; exact H
   clear H
   have H := H1
   clear H1
   replace H := Option.bind_eq_some_iff.mp H
   obtain ⟨t104, A60, H⟩ := H
   replace H : (some t104) = some r := H
   have A6 := Aside0.mk A60
   clear A60
   obtain rfl := Option.some.inj H
   go_enter Try.func75, Try.ntmps75
   go_wp2_with (first | ((with_reducible refine gate_dst (N := 1) rfl ?_); refine box_event rfl (N := 1) rfl (cs := #[.int .i64 a0_0, .int .i64 a0_1, .int .i64 a0_2]) (t := 25) BX ?_; intro gb101 hg w7 hbox hb; have BK101 := am (hbox); have GW101 := am ((GL hg (below_size (KL HB)) : w.heap.size ≤ gb101)); have GE101 := GW101; replace HB := am (below_step (KL HB) hb); clear hb hbox hg; have hcz8_0 := z0 w7 BK101.out; have hcz8_1 := z1 w7 BK101.out; have hcz8_2 := z2 w7 BK101.out; have hfz8_0 := blk_frozen BK101.out 0; have hfz8_1 := blk_frozen BK101.out 1; have hfz8_2 := blk_frozen BK101.out 2) | ((with_reducible refine gate_callee (f := 107) rfl ?_); refine goesL_ (some 5) rfl rfl Try.func107 (by kernel_rfl) rfl #[.int .i64 a0_0] rfl MT ?_; (with_reducible refine (spec_l1Addr.calls a0_0 true _ A2.out).mono ?_); rintro e w' ⟨rfl, ⟨nd, rfl⟩⟩; refine ⟨_, rfl, ?_⟩) | (go_at_call 107; (with_reducible refine (spec_l1Addr.calls a0_1 true _ A4.out).mono ?_); rintro e w' ⟨rfl, ⟨nd, rfl⟩⟩) | (go_at_call 82; (with_reducible refine (spec_l1In.calls a0_2 0 65535 t104 _ A6.out).mono ?_); rintro e w' ⟨rfl, ⟨nd, rfl⟩⟩))
   go_ret
   exact ⟨by first | rfl | (simp [errW_none, errW_some] <;> rfl) | (simp [*, errW_none, errW_some] <;> rfl), K1 HB GE101.out⟩
  ·replace c5 := Bool.eq_false_iff.mpr c5
   subst c5
   have H1 : (some false) = some r := by rw [if_neg (show ¬ (false = true) by decide)] at H; exact H
   clear H
   have H := H1
   clear H1
   obtain rfl := Option.some.inj H
   go_enter Try.func75, Try.ntmps75
   go_wp2_with (first | ((with_reducible refine gate_dst (N := 1) rfl ?_); refine box_event rfl (N := 1) rfl (cs := #[.int .i64 a0_0, .int .i64 a0_1, .int .i64 a0_2]) (t := 25) BX ?_; intro gb101 hg w9 hbox hb; have BK101 := am (hbox); have GW101 := am ((GL hg (below_size (KL HB)) : w.heap.size ≤ gb101)); have GE101 := GW101; replace HB := am (below_step (KL HB) hb); clear hb hbox hg; have hcz10_0 := z0 w9 BK101.out; have hcz10_1 := z1 w9 BK101.out; have hcz10_2 := z2 w9 BK101.out; have hfz10_0 := blk_frozen BK101.out 0; have hfz10_1 := blk_frozen BK101.out 1; have hfz10_2 := blk_frozen BK101.out 2) | ((with_reducible refine gate_callee (f := 107) rfl ?_); refine goesL_ (some 5) rfl rfl Try.func107 (by kernel_rfl) rfl #[.int .i64 a0_0] rfl MT ?_; (with_reducible refine (spec_l1Addr.calls a0_0 true _ A2.out).mono ?_); rintro e w' ⟨rfl, ⟨nd, rfl⟩⟩; refine ⟨_, rfl, ?_⟩) | (go_at_call 107; (with_reducible refine (spec_l1Addr.calls a0_1 false _ A4.out).mono ?_); rintro e w' ⟨rfl, ⟨nd, rfl⟩⟩))
   go_ret
   exact ⟨by first | rfl | (simp [errW_none, errW_some] <;> rfl) | (simp [*, errW_none, errW_some] <;> rfl), K1 HB GE101.out⟩
 ·replace c3 := Bool.eq_false_iff.mpr c3
  subst c3
  have H1 : (some false) = some r := by rw [if_neg (show ¬ (false = true) by decide)] at H; exact H
  clear H
  have H := H1
  clear H1
  obtain rfl := Option.some.inj H
  go_enter Try.func75, Try.ntmps75
  go_wp2_with (first | ((with_reducible refine gate_dst (N := 1) rfl ?_); refine box_event rfl (N := 1) rfl (cs := #[.int .i64 a0_0, .int .i64 a0_1, .int .i64 a0_2]) (t := 25) BX ?_; intro gb101 hg w11 hbox hb; have BK101 := am (hbox); have GW101 := am ((GL hg (below_size (KL HB)) : w.heap.size ≤ gb101)); have GE101 := GW101; replace HB := am (below_step (KL HB) hb); clear hb hbox hg; have hcz12_0 := z0 w11 BK101.out; have hcz12_1 := z1 w11 BK101.out; have hcz12_2 := z2 w11 BK101.out; have hfz12_0 := blk_frozen BK101.out 0; have hfz12_1 := blk_frozen BK101.out 1; have hfz12_2 := blk_frozen BK101.out 2) | ((with_reducible refine gate_callee (f := 107) rfl ?_); refine goesL_ (some 5) rfl rfl Try.func107 (by kernel_rfl) rfl #[.int .i64 a0_0] rfl MT ?_; (with_reducible refine (spec_l1Addr.calls a0_0 false _ A2.out).mono ?_); rintro e w' ⟨rfl, ⟨nd, rfl⟩⟩; refine ⟨_, rfl, ?_⟩))
  go_ret
  exact ⟨by first | rfl | (simp [errW_none, errW_some] <;> rfl) | (simp [*, errW_none, errW_some] <;> rfl), K1 HB GE101.out⟩
end Go.Proofs.Ytioghacieopbdaa.PAll
end
section
namespace Go.Proofs.Ytioghacieopbdaa.PAll
open Go.RowKit Go.Proofs.YtioghacieopbdaaW.PrintWords Go.Proofs.YtioghacieopbdaaW.PrintLast Go.Proofs.YtioghacieopbdaaW.PrintMore
attribute [local go_sem] max2_int min2_int max_two min_two max_three min_three max_four min_four   -- for this text's walks alone
set_option linter.unusedVariables false
set_option linter.unusedSimpArgs false
def spec_l1Last.f (k : Nat) (a0_0 : Int) (a0_1 : Int) : Option (Int) := (spec_l1Size.f k a0_1).bind fun t102 => (some (wrap64 ((wrap64 (a0_0 + t102)) - 1)))
set_option maxHeartbeats 8000000 in
set_option maxRecDepth 100000 in
theorem spec_l1Last.calls (k : Nat) (a0_0 : Int) (a0_1 : Int) (r : Int) (w : World) (h : spec_l1Last.f k a0_0 a0_1 = some r) :
  Calls Try.prog 137 #[.agg #[.int .i64 a0_0, .int .i64 a0_1]] w fun e w' => e = .returned (.int .i64 r) ∧ Below w.heap.size w w' := by
 have hu32 := Try.underlying32
 have HB := am (Below.refl w.heap.size w)
 have H : ((spec_l1Size.f k a0_1).bind fun t102 => (some (wrap64 ((wrap64 (a0_0 + t102)) - 1)))) = some r := h
 clear h
 replace H := Option.bind_eq_some_iff.mp H
 obtain ⟨t102, A20, H⟩ := H
 replace H : (some (wrap64 ((wrap64 (a0_0 + t102)) - 1))) = some r := H
 have A2 := Aside0.mk A20
 clear A20
 obtain rfl := Option.some.inj H
 go_enter Try.func137, Try.ntmps137
 go_wp2_with (first | ((with_reducible refine gate_dst (N := 1) rfl ?_); refine box_event rfl (N := 1) rfl (cs := #[.int .i64 a0_0, .int .i64 a0_1]) (t := 32) BX ?_; intro gb101 hg w3 hbox hb; have BK101 := am (hbox); have GW101 := am ((GL hg (below_size (KL HB)) : w.heap.size ≤ gb101)); have GE101 := GW101; replace HB := am (below_step (KL HB) hb); clear hb hbox hg; have hcz4_0 := z0 w3 BK101.out; have hcz4_1 := z1 w3 BK101.out; have hfz4_0 := blk_frozen BK101.out 0; have hfz4_1 := blk_frozen BK101.out 1) | (go_at_call 138; (with_reducible refine (spec_l1Size.calls k a0_1 t102 _ A2.out).mono ?_); rintro e w' ⟨rfl, ⟨nd, rfl⟩⟩; (try first | exact ⟨rfl, _, World.drewN_drewN _ _ _⟩ | exact ⟨rfl, _, Eq.trans (World.drewN_drewN _ _ _) (congrArg (World.drewN _) (Nat.add_assoc _ _ _))⟩)))
 repeat (go_quiet (first | ((with_reducible refine gate_dst (N := 1) rfl ?_); refine box_event rfl (N := 1) rfl (cs := #[.int .i64 a0_0, .int .i64 a0_1]) (t := 32) BX ?_; intro gb101 hg w3 hbox hb; have BK101 := am (hbox); have GW101 := am ((GL hg (below_size (KL HB)) : w.heap.size ≤ gb101)); have GE101 := GW101; replace HB := am (below_step (KL HB) hb); clear hb hbox hg; have hcz4_0 := z0 w3 BK101.out; have hcz4_1 := z1 w3 BK101.out; have hfz4_0 := blk_frozen BK101.out 0; have hfz4_1 := blk_frozen BK101.out 1) | (go_at_call 138; (with_reducible refine (spec_l1Size.calls k a0_1 t102 _ A2.out).mono ?_); rintro e w' ⟨rfl, ⟨nd, rfl⟩⟩; (try first | exact ⟨rfl, _, World.drewN_drewN _ _ _⟩ | exact ⟨rfl, _, Eq.trans (World.drewN_drewN _ _ _) (congrArg (World.drewN _) (Nat.add_assoc _ _ _))⟩))); try go_wp2_with (first | ((with_reducible refine gate_dst (N := 1) rfl ?_); refine box_event rfl (N := 1) rfl (cs := #[.int .i64 a0_0, .int .i64 a0_1]) (t := 32) BX ?_; intro gb101 hg w3 hbox hb; have BK101 := am (hbox); have GW101 := am ((GL hg (below_size (KL HB)) : w.heap.size ≤ gb101)); have GE101 := GW101; replace HB := am (below_step (KL HB) hb); clear hb hbox hg; have hcz4_0 := z0 w3 BK101.out; have hcz4_1 := z1 w3 BK101.out; have hfz4_0 := blk_frozen BK101.out 0; have hfz4_1 := blk_frozen BK101.out 1) | (go_at_call 138; (with_reducible refine (spec_l1Size.calls k a0_1 t102 _ A2.out).mono ?_); rintro e w' ⟨rfl, ⟨nd, rfl⟩⟩; (try first | exact ⟨rfl, _, World.drewN_drewN _ _ _⟩ | exact ⟨rfl, _, Eq.trans (World.drewN_drewN _ _ _) (congrArg (World.drewN _) (Nat.add_assoc _ _ _))⟩))))
 go_ret
 exact ⟨by first | rfl | (simp [errW_none, errW_some] <;> rfl) | (simp [*, errW_none, errW_some] <;> rfl), K1 HB GE101.out⟩
end Go.Proofs.Ytioghacieopbdaa.PAll
end
section
namespace Go.Proofs.Ytioghacieopbdaa.PAll
open Go.RowKit Go.Proofs.YtioghacieopbdaaW.PrintWords Go.Proofs.YtioghacieopbdaaW.PrintLast Go.Proofs.YtioghacieopbdaaW.PrintMore
attribute [local go_sem] max2_int min2_int max_two min_two max_three min_three max_four min_four   -- for this text's walks alone
set_option linter.unusedVariables false
set_option linter.unusedSimpArgs false
def spec_l4About.f (k : Nat) (a0_0 : Int) (a0_1 : Int) (a0_2 : Int) (a0_3 : Int) (a0_4 : Int) (a0_5 : Int) (a0_6 : Int) (a0_7 : Int) (a1_0 : Int) (a1_1 : Int) (a1_2 : Int) : Option (Bool) := (spec_l1Last.f k a0_2 a0_3).bind fun t103 => ((spec_l1In.f a1_0 a0_2 t103).bind fun t104 => (if t104 = true then ((spec_l1Last.f k a0_4 a0_5).bind fun t105 => ((spec_l1In.f a1_1 a0_4 t105).bind fun t106 => (if t106 = true then ((spec_l1In.f a1_2 a0_6 a0_7).bind fun t107 => (some t107)) else (some false)))) else (some false)))
def spec_l4About.T1 : Bool × List (List Nat × List Nat) := (true, [([], []), ([0], [0]), ([], []), ([2], [2]), ([3], [3]), ([], []), ([5], [5]), ([6], [6]), ([1, 4, 7, 7], [1, 4, 7]), ([8, 8], [8]), ([9], [9]), ([10, 9], [9, 10]), ([9], [9]), ([12, 9], [9, 12]), ([13, 9], [9, 13]), ([9], [9]), ([15, 9], [9, 15]), ([16, 9, 9], [9, 16]), ([11, 14, 17, 17, 9], [9, 11, 14, 17]), ([9, 18], [9, 18]), ([19, 18], [19]), ([20], [20]), ([21, 20], [20, 21]), ([20], [20]), ([23, 20], [20, 23]), ([20], [20]), ([25, 20], [20, 25]), ([22, 24, 26, 20, 20], [20, 22, 24, 26]), ([20, 27], [20, 27]), ([28, 27, 0, 1, 2, 3, 4, 5, 6, 7, 8, 9, 10, 11, 12, 13, 14, 15, 16, 17, 18, 19, 20, 21, 22, 23, 24, 25, 26, 27, 28], [28])])
def spec_l4About.B1 : List Nat := [0, 1, 0, 4, 12, 0, 32, 96, 255, 511, 1023, 2047, 1023, 5119, 13311, 1023, 33791, 99327, 262143, 524287, 1048575, 2097151, 4194303, 2097151, 10485759, 2097151, 35651583, 134217727, 268435455, 536870911]
theorem spec_l4About.tab1 : rtab .any (opsOf Try.f128 1) = spec_l4About.T1 := by kernel_rfl
theorem spec_l4About.bits1 : waitsOk spec_l4About.T1.2 spec_l4About.B1 = true := by kernel_rfl
set_option maxHeartbeats 8000000 in
set_option maxRecDepth 100000 in
theorem spec_l4About.calls (k : Nat) (a0_0 : Int) (a0_1 : Int) (a0_2 : Int) (a0_3 : Int) (a0_4 : Int) (a0_5 : Int) (a0_6 : Int) (a0_7 : Int) (a1_0 : Int) (a1_1 : Int) (a1_2 : Int) (r : Bool) (w : World) (h : spec_l4About.f k a0_0 a0_1 a0_2 a0_3 a0_4 a0_5 a0_6 a0_7 a1_0 a1_1 a1_2 = some r) :
  Calls Try.prog 128 #[.agg #[.int .i64 a0_0, .int .i64 a0_1, .int .i64 a0_2, .int .i64 a0_3, .int .i64 a0_4, .int .i64 a0_5, .int .i64 a0_6, .int .i64 a0_7], .agg #[.int .i64 a1_0, .int .i64 a1_1, .int .i64 a1_2]] w fun e w' => e = .returned (.bool r) ∧ Below w.heap.size w w' := by
 have hu34 := Try.underlying34
 have hu25 := Try.underlying25
 have hu32 := Try.underlying32
 have HB := am (Below.refl w.heap.size w)
 have H : ((spec_l1Last.f k a0_2 a0_3).bind fun t103 => ((spec_l1In.f a1_0 a0_2 t103).bind fun t104 => (if t104 = true then ((spec_l1Last.f k a0_4 a0_5).bind fun t105 => ((spec_l1In.f a1_1 a0_4 t105).bind fun t106 => (if t106 = true then ((spec_l1In.f a1_2 a0_6 a0_7).bind fun t107 => (some t107)) else (some false)))) else (some false)))) = some r := h
 clear h
 replace H := Option.bind_eq_some_iff.mp H
 obtain ⟨t103, A30, H⟩ := H
 replace H : ((spec_l1In.f a1_0 a0_2 t103).bind fun t104 => (if t104 = true then ((spec_l1Last.f k a0_4 a0_5).bind fun t105 => ((spec_l1In.f a1_1 a0_4 t105).bind fun t106 => (if t106 = true then ((spec_l1In.f a1_2 a0_6 a0_7).bind fun t107 => (some t107)) else (some false)))) else (some false))) = some r := H
 have A3 := Aside0.mk A30
 clear A30
 replace H := Option.bind_eq_some_iff.mp H
 obtain ⟨t104, A40, H⟩ := H
 replace H : (if t104 = true then ((spec_l1Last.f k a0_4 a0_5).bind fun t105 => ((spec_l1In.f a1_1 a0_4 t105).bind fun t106 => (if t106 = true then ((spec_l1In.f a1_2 a0_6 a0_7).bind fun t107 => (some t107)) else (some false)))) else (some false)) = some r := H
 have A4 := Aside0.mk A40
 clear A40
 by_cases c5 : t104 = true
 ·subst c5
  have H1 : ((spec_l1Last.f k a0_4 a0_5).bind fun t105 => ((spec_l1In.f a1_1 a0_4 t105).bind fun t106 => (if t106 = true then ((spec_l1In.f a1_2 a0_6 a0_7).bind fun t107 => (some t107)) else (some false)))) = some r := by rw [if_pos rfl] at H; exact H
  clear H
  have H := H1
  clear H1
  replace H := Option.bind_eq_some_iff.mp H
  obtain ⟨t105, A60, H⟩ := H
  replace H : ((spec_l1In.f a1_1 a0_4 t105).bind fun t106 => (if t106 = true then ((spec_l1In.f a1_2 a0_6 a0_7).bind fun t107 => (some t107)) else (some false))) = some r := H
  have A6 := Aside0.mk A60
  clear A60
  replace H := Option.bind_eq_some_iff.mp H
  obtain ⟨t106, A70, H⟩ := H
  replace H : (if t106 = true then ((spec_l1In.f a1_2 a0_6 a0_7).bind fun t107 => (some t107)) else (some false)) = some r := H
  have A7 := Aside0.mk A70
  clear A70
  by_cases c8 : t106 = true
  ·subst c8
   have H1 : ((spec_l1In.f a1_2 a0_6 a0_7).bind fun t107 => (some t107)) = some r := by rw [if_pos rfl] at H; exact H
   clear H
   have H := H1
   clear H1
   replace H := Option.bind_eq_some_iff.mp H
   obtain ⟨t107, A90, H⟩ := H
   replace H : (some t107) = some r := H
   have A9 := Aside0.mk A90
   clear A90
   obtain rfl := Option.some.inj H
   go_enter Try.func128, Try.ntmps128
   try go_wp2_with (first | ((with_reducible refine gate_dst (N := 2) rfl ?_); refine box_event rfl (N := 2) rfl (cs := #[.int .i64 a0_0, .int .i64 a0_1, .int .i64 a0_2, .int .i64 a0_3, .int .i64 a0_4, .int .i64 a0_5, .int .i64 a0_6, .int .i64 a0_7]) (t := 34) BX ?_; intro gb101 hg w10 hbox hb; have BK101 := am (hbox); have GW101 := am ((GL hg (below_size (KL HB)) : w.heap.size ≤ gb101)); have GE101 := GW101; replace HB := am (below_step (KL HB) hb); clear hb hbox hg) | ((with_reducible refine gate_dst (N := 3) rfl ?_); refine box_event rfl (N := 3) rfl (cs := #[.int .i64 a1_0, .int .i64 a1_1, .int .i64 a1_2]) (t := 25) BX ?_; intro gb102 hg w11 hbox hb; have BK102 := am (hbox); have GW102 := am ((GL hg (below_size (K1 HB GE101.out)) : w.heap.size ≤ gb102)); have GE102 := GW102; replace HB := am (below_step (K1 HB GE101.out) hb); have NB101_102 := am (NL BK101 hg); have NB102_101 := am (NG BK101 hg); replace BK101 := am (BB BK101 hb); clear hb hbox hg))
   replace BK101 := am (blk_drew BK101.out)
   replace BK102 := am (blk_drew BK102.out)
   replace HB := am (below_drew1 HB.out)
   refine start_ (n := 30) (S := fun w' => w'.cell? ⟨gb102, 0, none⟩ = some (.int .i64 a1_0) ∧ w'.cell? ⟨gb102, 1, none⟩ = some (.int .i64 a1_1) ∧ w'.cell? ⟨gb102, 2, none⟩ = some (.int .i64 a1_2) ∧ w'.cell? ⟨gb101, 0, none⟩ = some (.int .i64 a0_0) ∧ w'.cell? ⟨gb101, 1, none⟩ = some (.int .i64 a0_1) ∧ w'.cell? ⟨gb101, 2, none⟩ = some (.int .i64 a0_2) ∧ w'.cell? ⟨gb101, 3, none⟩ = some (.int .i64 a0_3) ∧ w'.cell? ⟨gb101, 4, none⟩ = some (.int .i64 a0_4) ∧ w'.cell? ⟨gb101, 5, none⟩ = some (.int .i64 a0_5) ∧ w'.cell? ⟨gb101, 6, none⟩ = some (.int .i64 a0_6) ∧ w'.cell? ⟨gb101, 7, none⟩ = some (.int .i64 a0_7)) (ds := []) (tf 0 30) (by kernel_rfl) rfl rfl ⟨z0 _ BK102.out, z1 _ BK102.out, z2 _ BK102.out, z0 _ BK101.out, z1 _ BK101.out, z2 _ BK101.out, z3 _ BK101.out, z4 _ BK101.out, z5 _ BK101.out, z6 _ BK101.out, z7 _ BK101.out⟩ (fun hHeld => ?_); refine with_tabW spec_l4About.tab1 spec_l4About.bits1 (fun HT_ HW_ => ?_)
   generalize w11.drew = w12 at BK101 BK102 HB hHeld ⊢
   refine pu 0 (some 5) (tf 1 29) (any_of HT_.out (by kernel_rfl)) ?_
   refine pu 2 (some 7) #[true, false, true, false, false, false, false, false, false, false, false, false, false, false, false, false, false, false, false, false, false, false, false, false, false, false, false, false, false, false] (any_of HT_.out (by kernel_rfl)) ?_
   refine pu 3 (some 8) #[true, false, true, true, false, false, false, false, false, false, false, false, false, false, false, false, false, false, false, false, false, false, false, false, false, false, false, false, false, false] (any_of HT_.out (by kernel_rfl)) ?_
   refine pu 5 (some 10) #[true, false, true, true, false, true, false, false, false, false, false, false, false, false, false, false, false, false, false, false, false, false, false, false, false, false, false, false, false, false] (any_of HT_.out (by kernel_rfl)) ?_
   refine tk 1 (some 6) #[true, true, true, true, false, true, false, false, false, false, false, false, false, false, false, false, false, false, false, false, false, false, false, false, false, false, false, false, false, false] (take_ofW HT_.out HW_.out (by kernel_rfl)) hHeld ?_
   refine tk 4 (some 9) (tf 6 24) (take_ofW HT_.out HW_.out (by kernel_rfl)) hHeld ?_
   refine tk 6 (some 11) (tf 7 23) (take_ofW HT_.out HW_.out (by kernel_rfl)) hHeld ?_
   refine one_ (i := 7) (N := some 12) (tf 8 22) rfl rfl (one_of HT_.out (by kernel_rfl)) (by decide) (fun K hK => ?_)
   refine goes_ Try.func137 (by kernel_rfl) rfl #[.agg #[.int .i64 a0_2, .int .i64 a0_3]] (by rfl) rfl rfl MT ?_
   with_reducible refine (spec_l1Last.calls k a0_2 a0_3 t103 _ A3.out).mono ?_
   rintro e w13 ⟨rfl, hb⟩
   refine ⟨_, rfl, ?_⟩
   replace BK101 := am (BB BK101 hb)
   replace BK102 := am (BB BK102 hb)
   replace HB := am (below_step (K2 HB GE101.out GE102.out) hb)
   (try clear hb)
   (try clear hb2)
   (try clear hk)
   (try clear hi)
   refine hK.out _ _ ⟨z0 _ BK102.out, z1 _ BK102.out, z2 _ BK102.out, z0 _ BK101.out, z1 _ BK101.out, z2 _ BK101.out, z3 _ BK101.out, z4 _ BK101.out, z5 _ BK101.out, z6 _ BK101.out, z7 _ BK101.out⟩ (fun hHeld => ?_)
   clear hK K
   refine norm_ (a' := ?_) ?_ ?_
   rotate_left
   ·show Act.put _ (some 12) _ = _
    simp only [Act.put, List.setIfInBounds_toArray, List.set_cons_zero, List.set_cons_succ, i64_w, i32_w]
    rfl
   refine one_ (i := 8) (N := some 13) (tf 9 21) rfl rfl (one_of HT_.out (by kernel_rfl)) (by decide) (fun K hK => ?_)
   refine goes_ Try.func82 (by kernel_rfl) rfl #[.int .i64 a1_0, .int .i64 a0_2, .int .i64 t103] (by rfl) rfl rfl MT ?_
   with_reducible refine (spec_l1In.calls a1_0 a0_2 t103 true _ A4.out).mono ?_
   rintro e w' ⟨rfl, ⟨nd, rfl⟩⟩
   refine ⟨_, rfl, ?_⟩
   refine hK.out _ _ ⟨z0 _ BK102.out, z1 _ BK102.out, z2 _ BK102.out, z0 _ BK101.out, z1 _ BK101.out, z2 _ BK101.out, z3 _ BK101.out, z4 _ BK101.out, z5 _ BK101.out, z6 _ BK101.out, z7 _ BK101.out⟩ (fun hHeld => ?_)
   clear hK K
   refine norm_ (a' := ?_) ?_ ?_
   rotate_left
   ·show Act.put _ (some 13) _ = _
    simp only [Act.put, List.setIfInBounds_toArray, List.set_cons_zero, List.set_cons_succ, i64_w, i32_w]
    rfl
   refine pu 9 (some 14) (tf 10 20) (any_of HT_.out (by kernel_rfl)) ?_
   refine pu 10 (some 15) (tf 11 19) (any_of HT_.out (by kernel_rfl)) ?_
   refine pu 12 (some 17) #[true, true, true, true, true, true, true, true, true, true, true, false, true, false, false, false, false, false, false, false, false, false, false, false, false, false, false, false, false, false] (any_of HT_.out (by kernel_rfl)) ?_
   refine pu 13 (some 18) #[true, true, true, true, true, true, true, true, true, true, true, false, true, true, false, false, false, false, false, false, false, false, false, false, false, false, false, false, false, false] (any_of HT_.out (by kernel_rfl)) ?_
   refine pu 15 (some 20) #[true, true, true, true, true, true, true, true, true, true, true, false, true, true, false, true, false, false, false, false, false, false, false, false, false, false, false, false, false, false] (any_of HT_.out (by kernel_rfl)) ?_
   refine tk 11 (some 16) #[true, true, true, true, true, true, true, true, true, true, true, true, true, true, false, true, false, false, false, false, false, false, false, false, false, false, false, false, false, false] (take_ofW HT_.out HW_.out (by kernel_rfl)) hHeld ?_
   refine tk 14 (some 19) (tf 16 14) (take_ofW HT_.out HW_.out (by kernel_rfl)) hHeld ?_
   refine tk 16 (some 21) (tf 17 13) (take_ofW HT_.out HW_.out (by kernel_rfl)) hHeld ?_
   refine one_ (i := 17) (N := some 22) (tf 18 12) rfl rfl (one_of HT_.out (by kernel_rfl)) (by decide) (fun K hK => ?_)
   refine goes_ Try.func137 (by kernel_rfl) rfl #[.agg #[.int .i64 a0_4, .int .i64 a0_5]] (by rfl) rfl rfl MT ?_
   with_reducible refine (spec_l1Last.calls k a0_4 a0_5 t105 _ A6.out).mono ?_
   rintro e w14 ⟨rfl, hb⟩
   refine ⟨_, rfl, ?_⟩
   replace BK101 := am (BB BK101 hb)
   replace BK102 := am (BB BK102 hb)
   replace HB := am (below_step (K2 HB GE101.out GE102.out) hb)
   (try clear hb)
   (try clear hb2)
   (try clear hk)
   (try clear hi)
   refine hK.out _ _ ⟨z0 _ BK102.out, z1 _ BK102.out, z2 _ BK102.out, z0 _ BK101.out, z1 _ BK101.out, z2 _ BK101.out, z3 _ BK101.out, z4 _ BK101.out, z5 _ BK101.out, z6 _ BK101.out, z7 _ BK101.out⟩ (fun hHeld => ?_)
   clear hK K
   refine norm_ (a' := ?_) ?_ ?_
   rotate_left
   ·show Act.put _ (some 22) _ = _
    simp only [Act.put, List.setIfInBounds_toArray, List.set_cons_zero, List.set_cons_succ, i64_w, i32_w]
    rfl
   refine one_ (i := 18) (N := some 23) (tf 19 11) rfl rfl (one_of HT_.out (by kernel_rfl)) (by decide) (fun K hK => ?_)
   refine goes_ Try.func82 (by kernel_rfl) rfl #[.int .i64 a1_1, .int .i64 a0_4, .int .i64 t105] (by rfl) rfl rfl MT ?_
   with_reducible refine (spec_l1In.calls a1_1 a0_4 t105 true _ A7.out).mono ?_
   rintro e w' ⟨rfl, ⟨nd, rfl⟩⟩
   refine ⟨_, rfl, ?_⟩
   refine hK.out _ _ ⟨z0 _ BK102.out, z1 _ BK102.out, z2 _ BK102.out, z0 _ BK101.out, z1 _ BK101.out, z2 _ BK101.out, z3 _ BK101.out, z4 _ BK101.out, z5 _ BK101.out, z6 _ BK101.out, z7 _ BK101.out⟩ (fun hHeld => ?_)
   clear hK K
   refine norm_ (a' := ?_) ?_ ?_
   rotate_left
   ·show Act.put _ (some 23) _ = _
    simp only [Act.put, List.setIfInBounds_toArray, List.set_cons_zero, List.set_cons_succ, i64_w, i32_w]
    rfl
   refine pu 19 (some 24) (tf 20 10) (any_of HT_.out (by kernel_rfl)) ?_
   refine pu 20 (some 25) (tf 21 9) (any_of HT_.out (by kernel_rfl)) ?_
   refine pu 21 (some 26) (tf 22 8) (any_of HT_.out (by kernel_rfl)) ?_
   refine pu 23 (some 28) #[true, true, true, true, true, true, true, true, true, true, true, true, true, true, true, true, true, true, true, true, true, true, false, true, false, false, false, false, false, false] (any_of HT_.out (by kernel_rfl)) ?_
   refine pu 25 (some 30) #[true, true, true, true, true, true, true, true, true, true, true, true, true, true, true, true, true, true, true, true, true, true, false, true, false, true, false, false, false, false] (any_of HT_.out (by kernel_rfl)) ?_
   refine tk 22 (some 27) #[true, true, true, true, true, true, true, true, true, true, true, true, true, true, true, true, true, true, true, true, true, true, true, true, false, true, false, false, false, false] (take_ofW HT_.out HW_.out (by kernel_rfl)) hHeld ?_
   refine tk 24 (some 29) (tf 26 4) (take_ofW HT_.out HW_.out (by kernel_rfl)) hHeld ?_
   refine tk 26 (some 31) (tf 27 3) (take_ofW HT_.out HW_.out (by kernel_rfl)) hHeld ?_
   refine one_ (i := 27) (N := some 32) (tf 28 2) rfl rfl (one_of HT_.out (by kernel_rfl)) (by decide) (fun K hK => ?_)
   refine goes_ Try.func82 (by kernel_rfl) rfl #[.int .i64 a1_2, .int .i64 a0_6, .int .i64 a0_7] (by rfl) rfl rfl MT ?_
   with_reducible refine (spec_l1In.calls a1_2 a0_6 a0_7 t107 _ A9.out).mono ?_
   rintro e w' ⟨rfl, ⟨nd, rfl⟩⟩
   refine ⟨_, rfl, ?_⟩
   refine hK.out _ _ ⟨z0 _ BK102.out, z1 _ BK102.out, z2 _ BK102.out, z0 _ BK101.out, z1 _ BK101.out, z2 _ BK101.out, z3 _ BK101.out, z4 _ BK101.out, z5 _ BK101.out, z6 _ BK101.out, z7 _ BK101.out⟩ (fun hHeld => ?_)
   clear hK K
   refine norm_ (a' := ?_) ?_ ?_
   rotate_left
   ·show Act.put _ (some 32) _ = _
    simp only [Act.put, List.setIfInBounds_toArray, List.set_cons_zero, List.set_cons_succ, i64_w, i32_w]
    rfl
   refine pu 28 (some 33) (tf 29 1) (any_of HT_.out (by kernel_rfl)) ?_
   refine pu 29 (some 4) (tf 30 0) (any_of HT_.out (by kernel_rfl)) ?_
   refine done_ (done_of HT_.out (by kernel_rfl)) ?_
   try go_wp2
   go_ret
   exact ⟨by first | rfl | (simp [errW_none, errW_some] <;> rfl) | (simp [*, errW_none, errW_some] <;> rfl), K2 HB GE101.out GE102.out⟩
  ·replace c8 := Bool.eq_false_iff.mpr c8
   subst c8
   have H1 : (some false) = some r := by rw [if_neg (show ¬ (false = true) by decide)] at H; exact H
   clear H
   have H := H1
   clear H1
   obtain rfl := Option.some.inj H
   go_enter Try.func128, Try.ntmps128
   try go_wp2_with (first | ((with_reducible refine gate_dst (N := 2) rfl ?_); refine box_event rfl (N := 2) rfl (cs := #[.int .i64 a0_0, .int .i64 a0_1, .int .i64 a0_2, .int .i64 a0_3, .int .i64 a0_4, .int .i64 a0_5, .int .i64 a0_6, .int .i64 a0_7]) (t := 34) BX ?_; intro gb101 hg w15 hbox hb; have BK101 := am (hbox); have GW101 := am ((GL hg (below_size (KL HB)) : w.heap.size ≤ gb101)); have GE101 := GW101; replace HB := am (below_step (KL HB) hb); clear hb hbox hg) | ((with_reducible refine gate_dst (N := 3) rfl ?_); refine box_event rfl (N := 3) rfl (cs := #[.int .i64 a1_0, .int .i64 a1_1, .int .i64 a1_2]) (t := 25) BX ?_; intro gb102 hg w16 hbox hb; have BK102 := am (hbox); have GW102 := am ((GL hg (below_size (K1 HB GE101.out)) : w.heap.size ≤ gb102)); have GE102 := GW102; replace HB := am (below_step (K1 HB GE101.out) hb); have NB101_102 := am (NL BK101 hg); have NB102_101 := am (NG BK101 hg); replace BK101 := am (BB BK101 hb); clear hb hbox hg))
   replace BK101 := am (blk_drew BK101.out)
   replace BK102 := am (blk_drew BK102.out)
   replace HB := am (below_drew1 HB.out)
   refine start_ (n := 30) (S := fun w' => w'.cell? ⟨gb102, 0, none⟩ = some (.int .i64 a1_0) ∧ w'.cell? ⟨gb102, 1, none⟩ = some (.int .i64 a1_1) ∧ w'.cell? ⟨gb102, 2, none⟩ = some (.int .i64 a1_2) ∧ w'.cell? ⟨gb101, 0, none⟩ = some (.int .i64 a0_0) ∧ w'.cell? ⟨gb101, 1, none⟩ = some (.int .i64 a0_1) ∧ w'.cell? ⟨gb101, 2, none⟩ = some (.int .i64 a0_2) ∧ w'.cell? ⟨gb101, 3, none⟩ = some (.int .i64 a0_3) ∧ w'.cell? ⟨gb101, 4, none⟩ = some (.int .i64 a0_4) ∧ w'.cell? ⟨gb101, 5, none⟩ = some (.int .i64 a0_5) ∧ w'.cell? ⟨gb101, 6, none⟩ = some (.int .i64 a0_6) ∧ w'.cell? ⟨gb101, 7, none⟩ = some (.int .i64 a0_7)) (ds := []) (tf 0 30) (by kernel_rfl) rfl rfl ⟨z0 _ BK102.out, z1 _ BK102.out, z2 _ BK102.out, z0 _ BK101.out, z1 _ BK101.out, z2 _ BK101.out, z3 _ BK101.out, z4 _ BK101.out, z5 _ BK101.out, z6 _ BK101.out, z7 _ BK101.out⟩ (fun hHeld => ?_); refine with_tabW spec_l4About.tab1 spec_l4About.bits1 (fun HT_ HW_ => ?_)
   generalize w16.drew = w17 at BK101 BK102 HB hHeld ⊢
   refine pu 0 (some 5) (tf 1 29) (any_of HT_.out (by kernel_rfl)) ?_
   refine pu 2 (some 7) #[true, false, true, false, false, false, false, false, false, false, false, false, false, false, false, false, false, false, false, false, false, false, false, false, false, false, false, false, false, false] (any_of HT_.out (by kernel_rfl)) ?_
   refine pu 3 (some 8) #[true, false, true, true, false, false, false, false, false, false, false, false, false, false, false, false, false, false, false, false, false, false, false, false, false, false, false, false, false, false] (any_of HT_.out (by kernel_rfl)) ?_
   refine pu 5 (some 10) #[true, false, true, true, false, true, false, false, false, false, false, false, false, false, false, false, false, false, false, false, false, false, false, false, false, false, false, false, false, false] (any_of HT_.out (by kernel_rfl)) ?_
   refine tk 1 (some 6) #[true, true, true, true, false, true, false, false, false, false, false, false, false, false, false, false, false, false, false, false, false, false, false, false, false, false, false, false, false, false] (take_ofW HT_.out HW_.out (by kernel_rfl)) hHeld ?_
   refine tk 4 (some 9) (tf 6 24) (take_ofW HT_.out HW_.out (by kernel_rfl)) hHeld ?_
   refine tk 6 (some 11) (tf 7 23) (take_ofW HT_.out HW_.out (by kernel_rfl)) hHeld ?_
   refine one_ (i := 7) (N := some 12) (tf 8 22) rfl rfl (one_of HT_.out (by kernel_rfl)) (by decide) (fun K hK => ?_)
   refine goes_ Try.func137 (by kernel_rfl) rfl #[.agg #[.int .i64 a0_2, .int .i64 a0_3]] (by rfl) rfl rfl MT ?_
   with_reducible refine (spec_l1Last.calls k a0_2 a0_3 t103 _ A3.out).mono ?_
   rintro e w18 ⟨rfl, hb⟩
   refine ⟨_, rfl, ?_⟩
   replace BK101 := am (BB BK101 hb)
   replace BK102 := am (BB BK102 hb)
   replace HB := am (below_step (K2 HB GE101.out GE102.out) hb)
   (try clear hb)
   (try clear hb2)
   (try clear hk)
   (try clear hi)
   refine hK.out _ _ ⟨z0 _ BK102.out, z1 _ BK102.out, z2 _ BK102.out, z0 _ BK101.out, z1 _ BK101.out, z2 _ BK101.out, z3 _ BK101.out, z4 _ BK101.out, z5 _ BK101.out, z6 _ BK101.out, z7 _ BK101.out⟩ (fun hHeld => ?_)
   clear hK K
   refine norm_ (a' := ?_) ?_ ?_
   rotate_left
   ·show Act.put _ (some 12) _ = _
    simp only [Act.put, List.setIfInBounds_toArray, List.set_cons_zero, List.set_cons_succ, i64_w, i32_w]
    rfl
   refine one_ (i := 8) (N := some 13) (tf 9 21) rfl rfl (one_of HT_.out (by kernel_rfl)) (by decide) (fun K hK => ?_)
   refine goes_ Try.func82 (by kernel_rfl) rfl #[.int .i64 a1_0, .int .i64 a0_2, .int .i64 t103] (by rfl) rfl rfl MT ?_
   with_reducible refine (spec_l1In.calls a1_0 a0_2 t103 true _ A4.out).mono ?_
   rintro e w' ⟨rfl, ⟨nd, rfl⟩⟩
   refine ⟨_, rfl, ?_⟩
   refine hK.out _ _ ⟨z0 _ BK102.out, z1 _ BK102.out, z2 _ BK102.out, z0 _ BK101.out, z1 _ BK101.out, z2 _ BK101.out, z3 _ BK101.out, z4 _ BK101.out, z5 _ BK101.out, z6 _ BK101.out, z7 _ BK101.out⟩ (fun hHeld => ?_)
   clear hK K
   refine norm_ (a' := ?_) ?_ ?_
   rotate_left
   ·show Act.put _ (some 13) _ = _
    simp only [Act.put, List.setIfInBounds_toArray, List.set_cons_zero, List.set_cons_succ, i64_w, i32_w]
    rfl
   refine pu 9 (some 14) (tf 10 20) (any_of HT_.out (by kernel_rfl)) ?_
   refine pu 10 (some 15) (tf 11 19) (any_of HT_.out (by kernel_rfl)) ?_
   refine pu 12 (some 17) #[true, true, true, true, true, true, true, true, true, true, true, false, true, false, false, false, false, false, false, false, false, false, false, false, false, false, false, false, false, false] (any_of HT_.out (by kernel_rfl)) ?_
   refine pu 13 (some 18) #[true, true, true, true, true, true, true, true, true, true, true, false, true, true, false, false, false, false, false, false, false, false, false, false, false, false, false, false, false, false] (any_of HT_.out (by kernel_rfl)) ?_
   refine pu 15 (some 20) #[true, true, true, true, true, true, true, true, true, true, true, false, true, true, false, true, false, false, false, false, false, false, false, false, false, false, false, false, false, false] (any_of HT_.out (by kernel_rfl)) ?_
   refine tk 11 (some 16) #[true, true, true, true, true, true, true, true, true, true, true, true, true, true, false, true, false, false, false, false, false, false, false, false, false, false, false, false, false, false] (take_ofW HT_.out HW_.out (by kernel_rfl)) hHeld ?_
   refine tk 14 (some 19) (tf 16 14) (take_ofW HT_.out HW_.out (by kernel_rfl)) hHeld ?_
   refine tk 16 (some 21) (tf 17 13) (take_ofW HT_.out HW_.out (by kernel_rfl)) hHeld ?_
   refine one_ (i := 17) (N := some 22) (tf 18 12) rfl rfl (one_of HT_.out (by kernel_rfl)) (by decide) (fun K hK => ?_)
   refine goes_ Try.func137 (by kernel_rfl) rfl #[.agg #[.int .i64 a0_4, .int .i64 a0_5]] (by rfl) rfl rfl MT ?_
   with_reducible refine (spec_l1Last.calls k a0_4 a0_5 t105 _ A6.out).mono ?_
   rintro e w19 ⟨rfl, hb⟩
   refine ⟨_, rfl, ?_⟩
   replace BK101 := am (BB BK101 hb)
   replace BK102 := am (BB BK102 hb)
   replace HB := am (below_step (K2 HB GE101.out GE102.out) hb)
   (try clear hb)
   (try clear hb2)
   (try clear hk)
   (try clear hi)
   refine hK.out _ _ ⟨z0 _ BK102.out, z1 _ BK102.out, z2 _ BK102.out, z0 _ BK101.out, z1 _ BK101.out, z2 _ BK101.out, z3 _ BK101.out, z4 _ BK101.out, z5 _ BK101.out, z6 _ BK101.out, z7 _ BK101.out⟩ (fun hHeld => ?_)
   clear hK K
   refine norm_ (a' := ?_) ?_ ?_
   rotate_left
   ·show Act.put _ (some 22) _ = _
    simp only [Act.put, List.setIfInBounds_toArray, List.set_cons_zero, List.set_cons_succ, i64_w, i32_w]
    rfl
   refine one_ (i := 18) (N := some 23) (tf 19 11) rfl rfl (one_of HT_.out (by kernel_rfl)) (by decide) (fun K hK => ?_)
   refine goes_ Try.func82 (by kernel_rfl) rfl #[.int .i64 a1_1, .int .i64 a0_4, .int .i64 t105] (by rfl) rfl rfl MT ?_
   with_reducible refine (spec_l1In.calls a1_1 a0_4 t105 false _ A7.out).mono ?_
   rintro e w' ⟨rfl, ⟨nd, rfl⟩⟩
   refine ⟨_, rfl, ?_⟩
   refine hK.out _ _ ⟨z0 _ BK102.out, z1 _ BK102.out, z2 _ BK102.out, z0 _ BK101.out, z1 _ BK101.out, z2 _ BK101.out, z3 _ BK101.out, z4 _ BK101.out, z5 _ BK101.out, z6 _ BK101.out, z7 _ BK101.out⟩ (fun hHeld => ?_)
   clear hK K
   refine norm_ (a' := ?_) ?_ ?_
   rotate_left
   ·show Act.put _ (some 23) _ = _
    simp only [Act.put, List.setIfInBounds_toArray, List.set_cons_zero, List.set_cons_succ, i64_w, i32_w]
    rfl
   refine pu 19 (some 24) (tf 20 10) (any_of HT_.out (by kernel_rfl)) ?_
   refine pu 20 (some 25) (tf 21 9) (any_of HT_.out (by kernel_rfl)) ?_
   refine pn 21 (some 26) (tf 22 8) (any_of HT_.out (by kernel_rfl)) ?_
   refine pn 22 (some 27) (tf 23 7) (any_of HT_.out (by kernel_rfl)) ?_
   refine pn 23 (some 28) (tf 24 6) (any_of HT_.out (by kernel_rfl)) ?_
   refine pn 24 (some 29) (tf 25 5) (any_of HT_.out (by kernel_rfl)) ?_
   refine pn 25 (some 30) (tf 26 4) (any_of HT_.out (by kernel_rfl)) ?_
   refine pn 26 (some 31) (tf 27 3) (any_of HT_.out (by kernel_rfl)) ?_
   refine pn 27 (some 32) (tf 28 2) (any_of HT_.out (by kernel_rfl)) ?_
   refine pu 28 (some 33) (tf 29 1) (any_of HT_.out (by kernel_rfl)) ?_
   refine pu 29 (some 4) (tf 30 0) (any_of HT_.out (by kernel_rfl)) ?_
   refine done_ (done_of HT_.out (by kernel_rfl)) ?_
   try go_wp2
   go_ret
   exact ⟨by first | rfl | (simp [errW_none, errW_some] <;> rfl) | (simp [*, errW_none, errW_some] <;> rfl), K2 HB GE101.out GE102.out⟩
 ·replace c5 := Bool.eq_false_iff.mpr c5
  subst c5
  have H1 : (some false) = some r := by rw [if_neg (show ¬ (false = true) by decide)] at H; exact H
  clear H
  have H := H1
  clear H1
  obtain rfl := Option.some.inj H
  go_enter Try.func128, Try.ntmps128
  try go_wp2_with (first | ((with_reducible refine gate_dst (N := 2) rfl ?_); refine box_event rfl (N := 2) rfl (cs := #[.int .i64 a0_0, .int .i64 a0_1, .int .i64 a0_2, .int .i64 a0_3, .int .i64 a0_4, .int .i64 a0_5, .int .i64 a0_6, .int .i64 a0_7]) (t := 34) BX ?_; intro gb101 hg w20 hbox hb; have BK101 := am (hbox); have GW101 := am ((GL hg (below_size (KL HB)) : w.heap.size ≤ gb101)); have GE101 := GW101; replace HB := am (below_step (KL HB) hb); clear hb hbox hg) | ((with_reducible refine gate_dst (N := 3) rfl ?_); refine box_event rfl (N := 3) rfl (cs := #[.int .i64 a1_0, .int .i64 a1_1, .int .i64 a1_2]) (t := 25) BX ?_; intro gb102 hg w21 hbox hb; have BK102 := am (hbox); have GW102 := am ((GL hg (below_size (K1 HB GE101.out)) : w.heap.size ≤ gb102)); have GE102 := GW102; replace HB := am (below_step (K1 HB GE101.out) hb); have NB101_102 := am (NL BK101 hg); have NB102_101 := am (NG BK101 hg); replace BK101 := am (BB BK101 hb); clear hb hbox hg))
  replace BK101 := am (blk_drew BK101.out)
  replace BK102 := am (blk_drew BK102.out)
  replace HB := am (below_drew1 HB.out)
  refine start_ (n := 30) (S := fun w' => w'.cell? ⟨gb102, 0, none⟩ = some (.int .i64 a1_0) ∧ w'.cell? ⟨gb102, 1, none⟩ = some (.int .i64 a1_1) ∧ w'.cell? ⟨gb102, 2, none⟩ = some (.int .i64 a1_2) ∧ w'.cell? ⟨gb101, 0, none⟩ = some (.int .i64 a0_0) ∧ w'.cell? ⟨gb101, 1, none⟩ = some (.int .i64 a0_1) ∧ w'.cell? ⟨gb101, 2, none⟩ = some (.int .i64 a0_2) ∧ w'.cell? ⟨gb101, 3, none⟩ = some (.int .i64 a0_3) ∧ w'.cell? ⟨gb101, 4, none⟩ = some (.int .i64 a0_4) ∧ w'.cell? ⟨gb101, 5, none⟩ = some (.int .i64 a0_5) ∧ w'.cell? ⟨gb101, 6, none⟩ = some (.int .i64 a0_6) ∧ w'.cell? ⟨gb101, 7, none⟩ = some (.int .i64 a0_7)) (ds := []) (tf 0 30) (by kernel_rfl) rfl rfl ⟨z0 _ BK102.out, z1 _ BK102.out, z2 _ BK102.out, z0 _ BK101.out, z1 _ BK101.out, z2 _ BK101.out, z3 _ BK101.out, z4 _ BK101.out, z5 _ BK101.out, z6 _ BK101.out, z7 _ BK101.out⟩ (fun hHeld => ?_); refine with_tabW spec_l4About.tab1 spec_l4About.bits1 (fun HT_ HW_ => ?_)
  generalize w21.drew = w22 at BK101 BK102 HB hHeld ⊢
  refine pu 0 (some 5) (tf 1 29) (any_of HT_.out (by kernel_rfl)) ?_
  refine pu 2 (some 7) #[true, false, true, false, false, false, false, false, false, false, false, false, false, false, false, false, false, false, false, false, false, false, false, false, false, false, false, false, false, false] (any_of HT_.out (by kernel_rfl)) ?_
  refine pu 3 (some 8) #[true, false, true, true, false, false, false, false, false, false, false, false, false, false, false, false, false, false, false, false, false, false, false, false, false, false, false, false, false, false] (any_of HT_.out (by kernel_rfl)) ?_
  refine pu 5 (some 10) #[true, false, true, true, false, true, false, false, false, false, false, false, false, false, false, false, false, false, false, false, false, false, false, false, false, false, false, false, false, false] (any_of HT_.out (by kernel_rfl)) ?_
  refine tk 1 (some 6) #[true, true, true, true, false, true, false, false, false, false, false, false, false, false, false, false, false, false, false, false, false, false, false, false, false, false, false, false, false, false] (take_ofW HT_.out HW_.out (by kernel_rfl)) hHeld ?_
  refine tk 4 (some 9) (tf 6 24) (take_ofW HT_.out HW_.out (by kernel_rfl)) hHeld ?_
  refine tk 6 (some 11) (tf 7 23) (take_ofW HT_.out HW_.out (by kernel_rfl)) hHeld ?_
  refine one_ (i := 7) (N := some 12) (tf 8 22) rfl rfl (one_of HT_.out (by kernel_rfl)) (by decide) (fun K hK => ?_)
  refine goes_ Try.func137 (by kernel_rfl) rfl #[.agg #[.int .i64 a0_2, .int .i64 a0_3]] (by rfl) rfl rfl MT ?_
  with_reducible refine (spec_l1Last.calls k a0_2 a0_3 t103 _ A3.out).mono ?_
  rintro e w23 ⟨rfl, hb⟩
  refine ⟨_, rfl, ?_⟩
  replace BK101 := am (BB BK101 hb)
  replace BK102 := am (BB BK102 hb)
  replace HB := am (below_step (K2 HB GE101.out GE102.out) hb)
  (try clear hb)
  (try clear hb2)
  (try clear hk)
  (try clear hi)
  refine hK.out _ _ ⟨z0 _ BK102.out, z1 _ BK102.out, z2 _ BK102.out, z0 _ BK101.out, z1 _ BK101.out, z2 _ BK101.out, z3 _ BK101.out, z4 _ BK101.out, z5 _ BK101.out, z6 _ BK101.out, z7 _ BK101.out⟩ (fun hHeld => ?_)
  clear hK K
  refine norm_ (a' := ?_) ?_ ?_
  rotate_left
  ·show Act.put _ (some 12) _ = _
   simp only [Act.put, List.setIfInBounds_toArray, List.set_cons_zero, List.set_cons_succ, i64_w, i32_w]
   rfl
  refine one_ (i := 8) (N := some 13) (tf 9 21) rfl rfl (one_of HT_.out (by kernel_rfl)) (by decide) (fun K hK => ?_)
  refine goes_ Try.func82 (by kernel_rfl) rfl #[.int .i64 a1_0, .int .i64 a0_2, .int .i64 t103] (by rfl) rfl rfl MT ?_
  with_reducible refine (spec_l1In.calls a1_0 a0_2 t103 false _ A4.out).mono ?_
  rintro e w' ⟨rfl, ⟨nd, rfl⟩⟩
  refine ⟨_, rfl, ?_⟩
  refine hK.out _ _ ⟨z0 _ BK102.out, z1 _ BK102.out, z2 _ BK102.out, z0 _ BK101.out, z1 _ BK101.out, z2 _ BK101.out, z3 _ BK101.out, z4 _ BK101.out, z5 _ BK101.out, z6 _ BK101.out, z7 _ BK101.out⟩ (fun hHeld => ?_)
  clear hK K
  refine norm_ (a' := ?_) ?_ ?_
  rotate_left
  ·show Act.put _ (some 13) _ = _
   simp only [Act.put, List.setIfInBounds_toArray, List.set_cons_zero, List.set_cons_succ, i64_w, i32_w]
   rfl
  refine pu 9 (some 14) (tf 10 20) (any_of HT_.out (by kernel_rfl)) ?_
  refine pn 10 (some 15) (tf 11 19) (any_of HT_.out (by kernel_rfl)) ?_
  refine pn 11 (some 16) (tf 12 18) (any_of HT_.out (by kernel_rfl)) ?_
  refine pn 12 (some 17) (tf 13 17) (any_of HT_.out (by kernel_rfl)) ?_
  refine pn 13 (some 18) (tf 14 16) (any_of HT_.out (by kernel_rfl)) ?_
  refine pn 14 (some 19) (tf 15 15) (any_of HT_.out (by kernel_rfl)) ?_
  refine pn 15 (some 20) (tf 16 14) (any_of HT_.out (by kernel_rfl)) ?_
  refine pn 16 (some 21) (tf 17 13) (any_of HT_.out (by kernel_rfl)) ?_
  refine pn 17 (some 22) (tf 18 12) (any_of HT_.out (by kernel_rfl)) ?_
  refine pn 18 (some 23) (tf 19 11) (any_of HT_.out (by kernel_rfl)) ?_
  refine pu 19 (some 24) (tf 20 10) (any_of HT_.out (by kernel_rfl)) ?_
  refine pu 20 (some 25) (tf 21 9) (any_of HT_.out (by kernel_rfl)) ?_
  refine pn 21 (some 26) (tf 22 8) (any_of HT_.out (by kernel_rfl)) ?_
  refine pn 22 (some 27) (tf 23 7) (any_of HT_.out (by kernel_rfl)) ?_
  refine pn 23 (some 28) (tf 24 6) (any_of HT_.out (by kernel_rfl)) ?_
  refine pn 24 (some 29) (tf 25 5) (any_of HT_.out (by kernel_rfl)) ?_
  refine pn 25 (some 30) (tf 26 4) (any_of HT_.out (by kernel_rfl)) ?_
  refine pn 26 (some 31) (tf 27 3) (any_of HT_.out (by kernel_rfl)) ?_
  refine pn 27 (some 32) (tf 28 2) (any_of HT_.out (by kernel_rfl)) ?_
  refine pu 28 (some 33) (tf 29 1) (any_of HT_.out (by kernel_rfl)) ?_
  refine pu 29 (some 4) (tf 30 0) (any_of HT_.out (by kernel_rfl)) ?_
  refine done_ (done_of HT_.out (by kernel_rfl)) ?_
  try go_wp2
  go_ret
  exact ⟨by first | rfl | (simp [errW_none, errW_some] <;> rfl) | (simp [*, errW_none, errW_some] <;> rfl), K2 HB GE101.out GE102.out⟩
end Go.Proofs.Ytioghacieopbdaa.PAll
end
section
namespace Go.Proofs.Ytioghacieopbdaa.PAll
open Go.RowKit Go.Proofs.YtioghacieopbdaaW.PrintWords Go.Proofs.YtioghacieopbdaaW.PrintLast Go.Proofs.YtioghacieopbdaaW.PrintMore
attribute [local go_sem] max2_int min2_int max_two min_two max_three min_three max_four min_four   -- for this text's walks alone
set_option linter.unusedVariables false
set_option linter.unusedSimpArgs false
def spec_l4First.l0 : Nat → List (S34) → Int → Int → Int → Int → Option (Int)
 | 0, _, _, _, _, _ => none
 | k + 1, x0, x5, x102000, x102001, x102002 => if x5 < (x0.length : Int) then (if 0 ≤ x5 then ((spec_l4About.f k ((rd_T34 x0 x5).f0) ((rd_T34 x0 x5).f1) ((rd_T34 x0 x5).f2.f0) ((rd_T34 x0 x5).f2.f1) ((rd_T34 x0 x5).f3.f0) ((rd_T34 x0 x5).f3.f1) ((rd_T34 x0 x5).f4) ((rd_T34 x0 x5).f5) x102000 x102001 x102002).bind fun t103 => (if t103 = true then (some x5) else (spec_l4First.l0 k x0 (wrap64 (x5 + 1)) x102000 x102001 x102002))) else (none)) else (some (-1))
def spec_l4First.f (k : Nat) (l0 : List (S34)) (a1_0 : Int) (a1_1 : Int) (a1_2 : Int) : Option (Int) := spec_l4First.l0 k l0 0 a1_0 a1_1 a1_2
set_option maxHeartbeats 8000000 in
set_option maxRecDepth 100000 in
theorem spec_l4First.calls (k : Nat) (A0 : Option Addr) (c0 : Nat) (l0 : List (S34)) (a1_0 : Int) (a1_1 : Int) (a1_2 : Int) (r : Int) (w : World) (hr0 : Kd.C k34 w A0 l0.length l0) (hc0 : l0.length ≤ c0) (h : spec_l4First.f k l0 a1_0 a1_1 a1_2 = some r) :
  Calls Try.prog 76 #[.slice A0 l0.length c0, .agg #[.int .i64 a1_0, .int .i64 a1_1, .int .i64 a1_2]] w fun e w' => e = .returned (.int .i64 r) ∧ Below w.heap.size w w' := by
 have hu25 := Try.underlying25
 have hu34 := Try.underlying34
 have HR0 := Aside0.mk hr0
 have HC0 := Aside0.mk hc0
 clear hr0 hc0
 have HB := am (Below.refl w.heap.size w)
 have H : (spec_l4First.l0 k l0 0 a1_0 a1_1 a1_2) = some r := h
 clear h
 have H' := Aside0.mk H
 clear H
 go_enter Try.func76, Try.ntmps76
 go_wp2_with (first | ((with_reducible refine gate_dst (N := 3) rfl ?_); refine box_event rfl (N := 3) rfl (cs := #[.int .i64 a1_0, .int .i64 a1_1, .int .i64 a1_2]) (t := 25) BX ?_; intro gb101 hg w3 hbox hb; have BK101 := am (hbox); have GW101 := am ((GL hg (below_size (KL HB)) : w.heap.size ≤ gb101)); have GE101 := GW101; replace HB := am (below_step (KL HB) hb); clear hb hbox hg))
 go_loopg [5] k (fun kq v5 w' => ∃ (x5_1 : Int), v5 = .int .i64 x5_1 ∧ Aside0 (spec_l4First.l0 kq l0 x5_1 a1_0 a1_1 a1_2 = some r) ∧ Aside0 (kq ≤ k) ∧ Aside0 (w'.heap[gb101]? = some (.cells #[.int .i64 a1_0, .int .i64 a1_1, .int .i64 a1_2] 25 (0, 0))) ∧ Aside0 (Below w.heap.size w w'))
 case atStart => exact ⟨(0), (by first | rfl | (simp; done) | (simp [*]; done)), H', ⟨Nat.le_refl _⟩, ⟨KB BK101⟩, ⟨K1 HB GE101.out⟩⟩
 case round =>
  clear H'
  try clear p2
  obtain ⟨x5_1, rfl, HA, HK1, BK101, HB⟩ := hrel
  cases gk with
  | zero => exact absurd HA.out (by simp [spec_l4First.l0])
  | succ k1 =>
   have H := HA.out
   clear HA
   simp only [spec_l4First.l0] at H
   by_cases c4 : x5_1 < (l0.length : Int)
   ·rw [if_pos c4] at H
    have c4b0 : decide (x5_1 < (l0.length : Int)) = true := decide_eq_true c4
    clear c4
    by_cases c5 : 0 ≤ x5_1
    ·rw [if_pos c5] at H
     have c5b0 : decide (0 ≤ x5_1) = true := decide_eq_true c5
     clear c5
     replace H := Option.bind_eq_some_iff.mp H
     obtain ⟨t103, A60, H⟩ := H
     replace H : (if t103 = true then (some x5_1) else (spec_l4First.l0 k1 l0 (wrap64 (x5_1 + 1)) a1_0 a1_1 a1_2)) = some r := H
     have A6 := Aside0.mk A60
     clear A60
     by_cases c7 : t103 = true
     ·subst c7
      have H1 : (some x5_1) = some r := by rw [if_pos rfl] at H; exact H
      clear H
      have H := H1
      clear H1
      obtain rfl := Option.some.inj H
      try go_wp2
      replace BK101 := am (blk_drew BK101.out)
      replace HB := am (below_drew1 HB.out)
      have p102 : 0 ≤ (x5_1 : Int) := of_decide_eq_true (by first | (with_reducible assumption) | assumption)
      have q102 : x5_1 < (l0.length : Int) := of_decide_eq_true (by first | (with_reducible assumption) | assumption)
      obtain ⟨ad102, e102, hx102_0, hx102_1, hx102_2, hx102_3, hx102_4, hx102_5, hx102_6, hx102_7⟩ := at_T34 HR0.out x5_1 p102 q102
      have hw102_7 := hx102_7
      have hw102_6 := hx102_6
      have hw102_5 := hx102_5
      have hw102_4 := hx102_4
      have hw102_3 := hx102_3
      have hw102_2 := hx102_2
      have hw102_1 := hx102_1
      have hw102_0 := hx102_0
      cases e102
      replace hx102_0 := (HB.out.cell (World.block_lt_of_cell? w _ hx102_0)).trans hx102_0
      replace hx102_1 := (HB.out.cell (World.block_lt_of_cell? w _ hx102_1)).trans hx102_1
      replace hx102_2 := (HB.out.cell (World.block_lt_of_cell? w _ hx102_2)).trans hx102_2
      replace hx102_3 := (HB.out.cell (World.block_lt_of_cell? w _ hx102_3)).trans hx102_3
      replace hx102_4 := (HB.out.cell (World.block_lt_of_cell? w _ hx102_4)).trans hx102_4
      replace hx102_5 := (HB.out.cell (World.block_lt_of_cell? w _ hx102_5)).trans hx102_5
      replace hx102_6 := (HB.out.cell (World.block_lt_of_cell? w _ hx102_6)).trans hx102_6
      replace hx102_7 := (HB.out.cell (World.block_lt_of_cell? w _ hx102_7)).trans hx102_7
      replace p102 := eq_true p102
      replace q102 := eq_true q102
      refine start_ (n := 6) (S := fun w' => w'.cell? ⟨gb101, 0, none⟩ = some (.int .i64 a1_0) ∧ w'.cell? ⟨gb101, 1, none⟩ = some (.int .i64 a1_1) ∧ w'.cell? ⟨gb101, 2, none⟩ = some (.int .i64 a1_2) ∧ w'.cell? (ad102.add ((x5_1).toNat * 8)) = some (.int .i64 ((rd_T34 l0 x5_1).f0)) ∧ w'.cell? ⟨(ad102.add ((x5_1).toNat * 8)).block, (ad102.add ((x5_1).toNat * 8)).off + 1, none⟩ = some (.int .i64 ((rd_T34 l0 x5_1).f1)) ∧ w'.cell? ⟨(ad102.add ((x5_1).toNat * 8)).block, (ad102.add ((x5_1).toNat * 8)).off + 2, none⟩ = some (.int .i64 ((rd_T34 l0 x5_1).f2.f0)) ∧ w'.cell? ⟨(ad102.add ((x5_1).toNat * 8)).block, (ad102.add ((x5_1).toNat * 8)).off + 3, none⟩ = some (.int .i64 ((rd_T34 l0 x5_1).f2.f1)) ∧ w'.cell? ⟨(ad102.add ((x5_1).toNat * 8)).block, (ad102.add ((x5_1).toNat * 8)).off + 4, none⟩ = some (.int .i64 ((rd_T34 l0 x5_1).f3.f0)) ∧ w'.cell? ⟨(ad102.add ((x5_1).toNat * 8)).block, (ad102.add ((x5_1).toNat * 8)).off + 5, none⟩ = some (.int .i64 ((rd_T34 l0 x5_1).f3.f1)) ∧ w'.cell? ⟨(ad102.add ((x5_1).toNat * 8)).block, (ad102.add ((x5_1).toNat * 8)).off + 6, none⟩ = some (.int .i64 ((rd_T34 l0 x5_1).f4)) ∧ w'.cell? ⟨(ad102.add ((x5_1).toNat * 8)).block, (ad102.add ((x5_1).toNat * 8)).off + 7, none⟩ = some (.int .i64 ((rd_T34 l0 x5_1).f5))) (ds := []) (tf 0 6) (by kernel_rfl) rfl rfl ⟨z0 _ BK101.out, z1 _ BK101.out, z2 _ BK101.out, ((HB.out.cell (World.block_lt_of_cell? w _ hw102_0)).trans hw102_0), ((HB.out.cell (World.block_lt_of_cell? w _ hw102_1)).trans hw102_1), ((HB.out.cell (World.block_lt_of_cell? w _ hw102_2)).trans hw102_2), ((HB.out.cell (World.block_lt_of_cell? w _ hw102_3)).trans hw102_3), ((HB.out.cell (World.block_lt_of_cell? w _ hw102_4)).trans hw102_4), ((HB.out.cell (World.block_lt_of_cell? w _ hw102_5)).trans hw102_5), ((HB.out.cell (World.block_lt_of_cell? w _ hw102_6)).trans hw102_6), ((HB.out.cell (World.block_lt_of_cell? w _ hw102_7)).trans hw102_7)⟩ (fun hHeld => ?_)
      generalize wr.drew = w8 at BK101 HB hx102_0 hx102_1 hx102_2 hx102_3 hx102_4 hx102_5 hx102_6 hx102_7 hHeld ⊢
      refine pure_ (i := 0) (N := some 12) (v := ?_) (a' := ?_) (tf 1 5) rfl rfl (by kernel_rfl) (fun _ _ _ h => h) (Or.inl ⟨by rfl, ?_⟩) ?_ ?_; rotate_left; (· intro w'; go_simp; with_reducible rfl); rotate_left; (· simp only [Act.put, List.setIfInBounds_toArray, List.set_cons_zero, List.set_cons_succ, i64_w, i32_w]; rfl)
      refine pure_ (i := 1) (N := some 13) (v := ?_) (a' := ?_) (tf 2 4) rfl rfl (by kernel_rfl) (fun _ _ _ h => h) (Or.inl ⟨by rfl, ?_⟩) ?_ ?_; rotate_left; (· intro w'; go_simp; with_reducible rfl); rotate_left; (· simp only [Act.put, List.setIfInBounds_toArray, List.set_cons_zero, List.set_cons_succ, i64_w, i32_w]; rfl)
      refine pure_ (i := 2) (N := some 14) (v := ?_) (a' := ?_) (tf 3 3) rfl rfl (by kernel_rfl) (fun _ _ _ h => h) (Or.inl ⟨by rfl, ?_⟩) ?_ ?_; rotate_left; (· intro w'; go_simp; with_reducible rfl); rotate_left; (· simp only [Act.put, List.setIfInBounds_toArray, List.set_cons_zero, List.set_cons_succ, i64_w, i32_w]; rfl)
      refine take_ (i := 3) (N := some 15) (v := ?_) (a' := ?_) (tf 4 2) rfl rfl (by kernel_rfl) (fun _ _ _ h => h) (Or.inl ⟨by rfl, ?_⟩) hHeld ?_ ?_
      rotate_left
      ·rintro w' ⟨s0, s1, s2, s3, s4, s5, s6, s7, s8, s9, s10⟩
       go_simp
       with_reducible rfl
      rotate_left
      ·simp only [Act.put, List.setIfInBounds_toArray, List.set_cons_zero, List.set_cons_succ, i64_w, i32_w]
       rfl
      refine take_ (i := 4) (N := some 16) (v := ?_) (a' := ?_) (tf 5 1) rfl rfl (by kernel_rfl) (fun _ _ _ h => h) (Or.inl ⟨by rfl, ?_⟩) hHeld ?_ ?_
      rotate_left
      ·rintro w' ⟨s0, s1, s2, s3, s4, s5, s6, s7, s8, s9, s10⟩
       go_simp
       with_reducible rfl
      rotate_left
      ·simp only [Act.put, List.setIfInBounds_toArray, List.set_cons_zero, List.set_cons_succ, i64_w, i32_w]
       rfl
      refine one_ (i := 5) (N := some 17) (tf 6 0) rfl rfl (by kernel_rfl) (by decide) (fun K hK => ?_)
      refine goes_ Try.func128 (by kernel_rfl) rfl #[.agg #[.int .i64 ((rd_T34 l0 x5_1).f0), .int .i64 ((rd_T34 l0 x5_1).f1), .int .i64 ((rd_T34 l0 x5_1).f2.f0), .int .i64 ((rd_T34 l0 x5_1).f2.f1), .int .i64 ((rd_T34 l0 x5_1).f3.f0), .int .i64 ((rd_T34 l0 x5_1).f3.f1), .int .i64 ((rd_T34 l0 x5_1).f4), .int .i64 ((rd_T34 l0 x5_1).f5)], .agg #[.int .i64 a1_0, .int .i64 a1_1, .int .i64 a1_2]] (by rfl) rfl rfl MT ?_
      with_reducible refine (spec_l4About.calls k1 ((rd_T34 l0 x5_1).f0) ((rd_T34 l0 x5_1).f1) ((rd_T34 l0 x5_1).f2.f0) ((rd_T34 l0 x5_1).f2.f1) ((rd_T34 l0 x5_1).f3.f0) ((rd_T34 l0 x5_1).f3.f1) ((rd_T34 l0 x5_1).f4) ((rd_T34 l0 x5_1).f5) a1_0 a1_1 a1_2 true _ A6.out).mono ?_
      rintro e w9 ⟨rfl, hb⟩
      refine ⟨_, rfl, ?_⟩
      replace BK101 := am (BB BK101 hb)
      replace HB := am (below_step (K1 HB GE101.out) hb)
      (try clear hb)
      (try clear hb2)
      (try clear hk)
      (try clear hi)
      refine hK.out _ _ ⟨z0 _ BK101.out, z1 _ BK101.out, z2 _ BK101.out, ((HB.out.cell (World.block_lt_of_cell? w _ hw102_0)).trans hw102_0), ((HB.out.cell (World.block_lt_of_cell? w _ hw102_1)).trans hw102_1), ((HB.out.cell (World.block_lt_of_cell? w _ hw102_2)).trans hw102_2), ((HB.out.cell (World.block_lt_of_cell? w _ hw102_3)).trans hw102_3), ((HB.out.cell (World.block_lt_of_cell? w _ hw102_4)).trans hw102_4), ((HB.out.cell (World.block_lt_of_cell? w _ hw102_5)).trans hw102_5), ((HB.out.cell (World.block_lt_of_cell? w _ hw102_6)).trans hw102_6), ((HB.out.cell (World.block_lt_of_cell? w _ hw102_7)).trans hw102_7)⟩ (fun hHeld => ?_)
      clear hK K
      refine norm_ (a' := ?_) ?_ ?_
      rotate_left
      ·show Act.put _ (some 17) _ = _
       simp only [Act.put, List.setIfInBounds_toArray, List.set_cons_zero, List.set_cons_succ, i64_w, i32_w]
       rfl
      refine done_ (by kernel_rfl) ?_
      try go_wp2
      go_ret
      exact ⟨by first | rfl | (simp [errW_none, errW_some] <;> rfl) | (simp [*, errW_none, errW_some] <;> rfl), K1 HB GE101.out⟩
     ·replace c7 := Bool.eq_false_iff.mpr c7
      subst c7
      have H1 : (spec_l4First.l0 k1 l0 (wrap64 (x5_1 + 1)) a1_0 a1_1 a1_2) = some r := by rw [if_neg (show ¬ (false = true) by decide)] at H; exact H
      clear H
      have H := H1
      clear H1
      have H' := Aside0.mk H
      clear H
      try go_wp2
      replace BK101 := am (blk_drew BK101.out)
      replace HB := am (below_drew1 HB.out)
      have p102 : 0 ≤ (x5_1 : Int) := of_decide_eq_true (by first | (with_reducible assumption) | assumption)
      have q102 : x5_1 < (l0.length : Int) := of_decide_eq_true (by first | (with_reducible assumption) | assumption)
      obtain ⟨ad102, e102, hx102_0, hx102_1, hx102_2, hx102_3, hx102_4, hx102_5, hx102_6, hx102_7⟩ := at_T34 HR0.out x5_1 p102 q102
      have hw102_7 := hx102_7
      have hw102_6 := hx102_6
      have hw102_5 := hx102_5
      have hw102_4 := hx102_4
      have hw102_3 := hx102_3
      have hw102_2 := hx102_2
      have hw102_1 := hx102_1
      have hw102_0 := hx102_0
      cases e102
      replace hx102_0 := (HB.out.cell (World.block_lt_of_cell? w _ hx102_0)).trans hx102_0
      replace hx102_1 := (HB.out.cell (World.block_lt_of_cell? w _ hx102_1)).trans hx102_1
      replace hx102_2 := (HB.out.cell (World.block_lt_of_cell? w _ hx102_2)).trans hx102_2
      replace hx102_3 := (HB.out.cell (World.block_lt_of_cell? w _ hx102_3)).trans hx102_3
      replace hx102_4 := (HB.out.cell (World.block_lt_of_cell? w _ hx102_4)).trans hx102_4
      replace hx102_5 := (HB.out.cell (World.block_lt_of_cell? w _ hx102_5)).trans hx102_5
      replace hx102_6 := (HB.out.cell (World.block_lt_of_cell? w _ hx102_6)).trans hx102_6
      replace hx102_7 := (HB.out.cell (World.block_lt_of_cell? w _ hx102_7)).trans hx102_7
      replace p102 := eq_true p102
      replace q102 := eq_true q102
      refine start_ (n := 6) (S := fun w' => w'.cell? ⟨gb101, 0, none⟩ = some (.int .i64 a1_0) ∧ w'.cell? ⟨gb101, 1, none⟩ = some (.int .i64 a1_1) ∧ w'.cell? ⟨gb101, 2, none⟩ = some (.int .i64 a1_2) ∧ w'.cell? (ad102.add ((x5_1).toNat * 8)) = some (.int .i64 ((rd_T34 l0 x5_1).f0)) ∧ w'.cell? ⟨(ad102.add ((x5_1).toNat * 8)).block, (ad102.add ((x5_1).toNat * 8)).off + 1, none⟩ = some (.int .i64 ((rd_T34 l0 x5_1).f1)) ∧ w'.cell? ⟨(ad102.add ((x5_1).toNat * 8)).block, (ad102.add ((x5_1).toNat * 8)).off + 2, none⟩ = some (.int .i64 ((rd_T34 l0 x5_1).f2.f0)) ∧ w'.cell? ⟨(ad102.add ((x5_1).toNat * 8)).block, (ad102.add ((x5_1).toNat * 8)).off + 3, none⟩ = some (.int .i64 ((rd_T34 l0 x5_1).f2.f1)) ∧ w'.cell? ⟨(ad102.add ((x5_1).toNat * 8)).block, (ad102.add ((x5_1).toNat * 8)).off + 4, none⟩ = some (.int .i64 ((rd_T34 l0 x5_1).f3.f0)) ∧ w'.cell? ⟨(ad102.add ((x5_1).toNat * 8)).block, (ad102.add ((x5_1).toNat * 8)).off + 5, none⟩ = some (.int .i64 ((rd_T34 l0 x5_1).f3.f1)) ∧ w'.cell? ⟨(ad102.add ((x5_1).toNat * 8)).block, (ad102.add ((x5_1).toNat * 8)).off + 6, none⟩ = some (.int .i64 ((rd_T34 l0 x5_1).f4)) ∧ w'.cell? ⟨(ad102.add ((x5_1).toNat * 8)).block, (ad102.add ((x5_1).toNat * 8)).off + 7, none⟩ = some (.int .i64 ((rd_T34 l0 x5_1).f5))) (ds := []) (tf 0 6) (by kernel_rfl) rfl rfl ⟨z0 _ BK101.out, z1 _ BK101.out, z2 _ BK101.out, ((HB.out.cell (World.block_lt_of_cell? w _ hw102_0)).trans hw102_0), ((HB.out.cell (World.block_lt_of_cell? w _ hw102_1)).trans hw102_1), ((HB.out.cell (World.block_lt_of_cell? w _ hw102_2)).trans hw102_2), ((HB.out.cell (World.block_lt_of_cell? w _ hw102_3)).trans hw102_3), ((HB.out.cell (World.block_lt_of_cell? w _ hw102_4)).trans hw102_4), ((HB.out.cell (World.block_lt_of_cell? w _ hw102_5)).trans hw102_5), ((HB.out.cell (World.block_lt_of_cell? w _ hw102_6)).trans hw102_6), ((HB.out.cell (World.block_lt_of_cell? w _ hw102_7)).trans hw102_7)⟩ (fun hHeld => ?_)
      generalize wr.drew = w10 at BK101 HB hx102_0 hx102_1 hx102_2 hx102_3 hx102_4 hx102_5 hx102_6 hx102_7 hHeld ⊢
      refine pure_ (i := 0) (N := some 12) (v := ?_) (a' := ?_) (tf 1 5) rfl rfl (by kernel_rfl) (fun _ _ _ h => h) (Or.inl ⟨by rfl, ?_⟩) ?_ ?_; rotate_left; (· intro w'; go_simp; with_reducible rfl); rotate_left; (· simp only [Act.put, List.setIfInBounds_toArray, List.set_cons_zero, List.set_cons_succ, i64_w, i32_w]; rfl)
      refine pure_ (i := 1) (N := some 13) (v := ?_) (a' := ?_) (tf 2 4) rfl rfl (by kernel_rfl) (fun _ _ _ h => h) (Or.inl ⟨by rfl, ?_⟩) ?_ ?_; rotate_left; (· intro w'; go_simp; with_reducible rfl); rotate_left; (· simp only [Act.put, List.setIfInBounds_toArray, List.set_cons_zero, List.set_cons_succ, i64_w, i32_w]; rfl)
      refine pure_ (i := 2) (N := some 14) (v := ?_) (a' := ?_) (tf 3 3) rfl rfl (by kernel_rfl) (fun _ _ _ h => h) (Or.inl ⟨by rfl, ?_⟩) ?_ ?_; rotate_left; (· intro w'; go_simp; with_reducible rfl); rotate_left; (· simp only [Act.put, List.setIfInBounds_toArray, List.set_cons_zero, List.set_cons_succ, i64_w, i32_w]; rfl)
      refine take_ (i := 3) (N := some 15) (v := ?_) (a' := ?_) (tf 4 2) rfl rfl (by kernel_rfl) (fun _ _ _ h => h) (Or.inl ⟨by rfl, ?_⟩) hHeld ?_ ?_
      rotate_left
      ·rintro w' ⟨s0, s1, s2, s3, s4, s5, s6, s7, s8, s9, s10⟩
       go_simp
       with_reducible rfl
      rotate_left
      ·simp only [Act.put, List.setIfInBounds_toArray, List.set_cons_zero, List.set_cons_succ, i64_w, i32_w]
       rfl
      refine take_ (i := 4) (N := some 16) (v := ?_) (a' := ?_) (tf 5 1) rfl rfl (by kernel_rfl) (fun _ _ _ h => h) (Or.inl ⟨by rfl, ?_⟩) hHeld ?_ ?_
      rotate_left
      ·rintro w' ⟨s0, s1, s2, s3, s4, s5, s6, s7, s8, s9, s10⟩
       go_simp
       with_reducible rfl
      rotate_left
      ·simp only [Act.put, List.setIfInBounds_toArray, List.set_cons_zero, List.set_cons_succ, i64_w, i32_w]
       rfl
      refine one_ (i := 5) (N := some 17) (tf 6 0) rfl rfl (by kernel_rfl) (by decide) (fun K hK => ?_)
      refine goes_ Try.func128 (by kernel_rfl) rfl #[.agg #[.int .i64 ((rd_T34 l0 x5_1).f0), .int .i64 ((rd_T34 l0 x5_1).f1), .int .i64 ((rd_T34 l0 x5_1).f2.f0), .int .i64 ((rd_T34 l0 x5_1).f2.f1), .int .i64 ((rd_T34 l0 x5_1).f3.f0), .int .i64 ((rd_T34 l0 x5_1).f3.f1), .int .i64 ((rd_T34 l0 x5_1).f4), .int .i64 ((rd_T34 l0 x5_1).f5)], .agg #[.int .i64 a1_0, .int .i64 a1_1, .int .i64 a1_2]] (by rfl) rfl rfl MT ?_
      with_reducible refine (spec_l4About.calls k1 ((rd_T34 l0 x5_1).f0) ((rd_T34 l0 x5_1).f1) ((rd_T34 l0 x5_1).f2.f0) ((rd_T34 l0 x5_1).f2.f1) ((rd_T34 l0 x5_1).f3.f0) ((rd_T34 l0 x5_1).f3.f1) ((rd_T34 l0 x5_1).f4) ((rd_T34 l0 x5_1).f5) a1_0 a1_1 a1_2 false _ A6.out).mono ?_
      rintro e w11 ⟨rfl, hb⟩
      refine ⟨_, rfl, ?_⟩
      replace BK101 := am (BB BK101 hb)
      replace HB := am (below_step (K1 HB GE101.out) hb)
      (try clear hb)
      (try clear hb2)
      (try clear hk)
      (try clear hi)
      refine hK.out _ _ ⟨z0 _ BK101.out, z1 _ BK101.out, z2 _ BK101.out, ((HB.out.cell (World.block_lt_of_cell? w _ hw102_0)).trans hw102_0), ((HB.out.cell (World.block_lt_of_cell? w _ hw102_1)).trans hw102_1), ((HB.out.cell (World.block_lt_of_cell? w _ hw102_2)).trans hw102_2), ((HB.out.cell (World.block_lt_of_cell? w _ hw102_3)).trans hw102_3), ((HB.out.cell (World.block_lt_of_cell? w _ hw102_4)).trans hw102_4), ((HB.out.cell (World.block_lt_of_cell? w _ hw102_5)).trans hw102_5), ((HB.out.cell (World.block_lt_of_cell? w _ hw102_6)).trans hw102_6), ((HB.out.cell (World.block_lt_of_cell? w _ hw102_7)).trans hw102_7)⟩ (fun hHeld => ?_)
      clear hK K
      refine norm_ (a' := ?_) ?_ ?_
      rotate_left
      ·show Act.put _ (some 17) _ = _
       simp only [Act.put, List.setIfInBounds_toArray, List.set_cons_zero, List.set_cons_succ, i64_w, i32_w]
       rfl
      refine done_ (by kernel_rfl) ?_
      try go_wp2
      go_roundg k1
      case measure => have := HK1.out; omega
      case rel => exact ⟨(wrap64 (x5_1 + 1)), (by first | rfl | (simp; done) | (simp [*]; done)), H', ⟨by have := HK1.out; omega⟩, ⟨KB BK101⟩, ⟨K1 HB GE101.out⟩⟩
    ·rw [if_neg c5] at H
     exact absurd H (by simp)
   ·rw [if_neg c4] at H
    have c4b0 : decide (x5_1 < (l0.length : Int)) = false := decide_eq_false c4
    clear c4
    obtain rfl := Option.some.inj H
    go_wp2
    go_ret
    exact ⟨by first | rfl | (simp [errW_none, errW_some] <;> rfl) | (simp [*, errW_none, errW_some] <;> rfl), K1 HB GE101.out⟩
end Go.Proofs.Ytioghacieopbdaa.PAll
end
section
namespace Go.Proofs.Ytioghacieopbdaa.PAll
open Go.RowKit Go.Proofs.YtioghacieopbdaaW.PrintWords Go.Proofs.YtioghacieopbdaaW.PrintLast Go.Proofs.YtioghacieopbdaaW.PrintMore
attribute [local go_sem] max2_int min2_int max_two min_two max_three min_three max_four min_four   -- for this text's walks alone
set_option linter.unusedVariables false
set_option linter.unusedSimpArgs false
attribute [local go_sem high] eqA25
def spec_l5Find.l0 : Nat → Int → Int → Int → List (S108) → Int → Int → Int → Int → List (S108) → Option (Int × (List (S108)) × Int)
 | 0, _, _, _, _, _, _, _, _, _ => none
 | k + 1, x8, x10, x102000, x102001, x103000, x103001, x103002, x109000, x109001 => if x10 < (x102001.length : Int) then (if 0 ≤ x10 then (if (!(((rd_T108 x102001 x10).f0.f0) == x103000) || (!(((rd_T108 x102001 x10).f0.f1) == x103001) || (!(((rd_T108 x102001 x10).f0.f2) == x103002)))) = true then (if x109001.length < 4398046511104 then (spec_l5Find.l0 k x8 (wrap64 (x10 + 1)) x102000 x102001 x103000 x103001 x103002 x109000 (x109001 ++ [(⟨(⟨(rd_T108 x102001 x10).f0.f0, (rd_T108 x102001 x10).f0.f1, (rd_T108 x102001 x10).f0.f2⟩ : S25), (rd_T108 x102001 x10).f1⟩ : S108)])) else (none)) else (spec_l5Find.l0 k x8 (wrap64 (x10 + 1)) x102000 x102001 x103000 x103001 x103002 x109000 x109001)) else (none)) else (if (x109001.length : Int) > x102000 then (if 0 ≤ x102000 then (if x102000 ≤ (x109001.length : Int) then (some (x109000, (x109001.take (x102000 : Int).toNat), x8)) else (none)) else (none)) else (some (x109000, x109001, x8)))
def spec_l5Find.f (k : Nat) (l0 : List (S34)) (a1_0 : Int) (l1_1 : List (S108)) (a2_0 : Int) (a2_1 : Int) (a2_2 : Int) : Option (Int × (List (S108)) × Int) := (spec_l4First.f k l0 a2_0 a2_1 a2_2).bind fun t104 => (spec_l5Find.l0 k t104 0 a1_0 l1_1 a2_0 a2_1 a2_2 a1_0 (([(⟨(⟨a2_0, a2_1, a2_2⟩ : S25), t104⟩ : S108)] : List (S108))))
def spec_l5Find.T6 : Bool × List (List Nat × List Nat) := (true, [([], []), ([0], [0]), ([], []), ([1, 2], [1, 2]), ([3], [3]), ([4], [4]), ([], []), ([5, 6], [5, 6])])
def spec_l5Find.B6 : List Nat := [0, 1, 0, 7, 15, 31, 0, 127]
theorem spec_l5Find.tab6 : rtab .any (opsOf Try.f94 6) = spec_l5Find.T6 := by kernel_rfl
theorem spec_l5Find.bits6 : waitsOk spec_l5Find.T6.2 spec_l5Find.B6 = true := by kernel_rfl
def spec_l5Find.T7 : Bool × List (List Nat × List Nat) := (true, [([], []), ([0], [0]), ([], []), ([2], [2]), ([], []), ([3, 4], [3, 4]), ([5], [5]), ([6], [6]), ([1, 7], [1, 7]), ([0, 1, 2, 3, 4, 5, 6, 7, 8], []), ([9, 8, 8, 0, 1, 2, 3, 4, 5, 6, 7, 8], [8, 9])])
def spec_l5Find.B7 : List Nat := [0, 1, 0, 4, 0, 28, 60, 124, 255, 511, 1023]
theorem spec_l5Find.tab7 : rtab .any (opsOf Try.f94 7) = spec_l5Find.T7 := by kernel_rfl
theorem spec_l5Find.bits7 : waitsOk spec_l5Find.T7.2 spec_l5Find.B7 = true := by kernel_rfl
set_option maxHeartbeats 8000000 in
set_option maxRecDepth 100000 in
theorem spec_l5Find.calls (k : Nat) (A0 : Option Addr) (c0 : Nat) (l0 : List (S34)) (a1_0 : Int) (A1_1 : Option Addr) (c1_1 : Nat) (l1_1 : List (S108)) (a2_0 : Int) (a2_1 : Int) (a2_2 : Int) (r1 : Int) (r2 : List (S108)) (r3 : Int) (w : World) (hr0 : Kd.C k34 w A0 l0.length l0) (hc0 : l0.length ≤ c0) (hr1_1 : Kd.C k108 w A1_1 l1_1.length l1_1) (hc1_1 : l1_1.length ≤ c1_1) (h : spec_l5Find.f k l0 a1_0 l1_1 a2_0 a2_1 a2_2 = some (r1, r2, r3)) :
  Calls Try.prog 94 #[.slice A0 l0.length c0, .agg #[.int .i64 a1_0, .slice A1_1 l1_1.length c1_1], .agg #[.int .i64 a2_0, .int .i64 a2_1, .int .i64 a2_2]] w fun e w' => ∃ v1_ : Value, e = .returned (.tuple #[.agg #[.int .i64 r1, v1_], .int .i64 r3]) ∧ Kd.R k108 108 w' w.heap.size (fun _ => True) v1_ r2 ∧ Below w.heap.size w w' := by
 have hu46 := Try.underlying46
 have hu25 := Try.underlying25
 have hu108 := Try.underlying108
 have HR0 := Aside0.mk hr0
 have HC0 := Aside0.mk hc0
 clear hr0 hc0
 have HR1_1 := Aside0.mk hr1_1
 have HC1_1 := Aside0.mk hc1_1
 clear hr1_1 hc1_1
 have HB := am (Below.refl w.heap.size w)
 have H : ((spec_l4First.f k l0 a2_0 a2_1 a2_2).bind fun t104 => (spec_l5Find.l0 k t104 0 a1_0 l1_1 a2_0 a2_1 a2_2 a1_0 (([(⟨(⟨a2_0, a2_1, a2_2⟩ : S25), t104⟩ : S108)] : List (S108))))) = some (r1, r2, r3) := h
 clear h
 replace H := Option.bind_eq_some_iff.mp H
 obtain ⟨t104, A40, H⟩ := H
 replace H : (spec_l5Find.l0 k t104 0 a1_0 l1_1 a2_0 a2_1 a2_2 a1_0 (([(⟨(⟨a2_0, a2_1, a2_2⟩ : S25), t104⟩ : S108)] : List (S108)))) = some (r1, r2, r3) := H
 have A4 := Aside0.mk A40
 clear A40
 obtain ⟨y105, hy105⟩ : ∃ y_ : List (S108), y_ = (([(⟨(⟨a2_0, a2_1, a2_2⟩ : S25), t104⟩ : S108)] : List (S108))) := ⟨_, rfl⟩
 replace H : (spec_l5Find.l0 k t104 0 a1_0 l1_1 a2_0 a2_1 a2_2 a1_0 y105) = some (r1, r2, r3) := by first | (rw [hy105]; with_reducible exact H) | (have H2_ := (Option.bind_some _ _).symm.trans H; rw [hy105]; with_reducible exact H2_) | (have H2_ := (Option.bind_some _ _).symm.trans H; with_reducible exact H2_) | with_reducible exact H | (rw [hy105]; exact H) | exact H
 have Ny105 := Aside0.mk hy105
 clear hy105
 have H' := Aside0.mk H
 clear H
 go_enter Try.func94, Try.ntmps94
 go_wp2_with (first | ((with_reducible refine gate_dst (N := 4) rfl ?_); refine box_event rfl (N := 4) rfl (cs := #[.int .i64 a1_0, .slice A1_1 l1_1.length c1_1]) (t := 46) BX ?_; intro gb101 hg w5 hbox hb; have BK101 := am (hbox); have GW101 := am ((GL hg (below_size (KL HB)) : w.heap.size ≤ gb101)); have GE101 := GW101; replace HB := am (below_step (KL HB) hb); clear hb hbox hg) | ((with_reducible refine gate_dst (N := 5) rfl ?_); refine box_event rfl (N := 5) rfl (cs := #[.int .i64 a2_0, .int .i64 a2_1, .int .i64 a2_2]) (t := 25) BX ?_; intro gb102 hg w6 hbox hb; have BK102 := am (hbox); have GW102 := am ((GL hg (below_size (K1 HB GE101.out)) : w.heap.size ≤ gb102)); have GE102 := GW102; replace HB := am (below_step (K1 HB GE101.out) hb); have NB101_102 := am (NL BK101 hg); have NB102_101 := am (NG BK101 hg); replace BK101 := am (BB BK101 hb); clear hb hbox hg) | ((with_reducible refine gate_dst (N := 6) rfl ?_); refine box_event rfl (N := 6) rfl (cs := #[.int .i64 0, .slice none 0 0]) (t := 46) BX ?_; intro gb103 hg w7 hbox hb; have BK103 := am (hbox); have GW103 := am ((GL hg (below_size (K2 HB GE101.out GE102.out)) : w.heap.size ≤ gb103)); have GE103 := GW103; replace HB := am (below_step (K2 HB GE101.out GE102.out) hb); have NB101_103 := am (NL BK101 hg); have NB103_101 := am (NG BK101 hg); replace BK101 := am (BB BK101 hb); have NB102_103 := am (NL BK102 hg); have NB103_102 := am (NG BK102 hg); replace BK102 := am (BB BK102 hb); clear hb hbox hg; have hnb8 := NB102_101.out; have hnc8 := NB101_102.out; have hnb9 := NB102_103.out; have hnc9 := NB103_102.out; have hcz10_0 := z0 w7 BK102.out; have hcz10_1 := z1 w7 BK102.out; have hcz10_2 := z2 w7 BK102.out; have hfz10_0 := blk_frozen BK102.out 0; have hfz10_1 := blk_frozen BK102.out 1; have hfz10_2 := blk_frozen BK102.out 2) | ((with_reducible refine gate_callee (f := 76) rfl ?_); refine goesL_ (some 13) rfl rfl Try.func76 (by kernel_rfl) rfl #[.slice A0 l0.length c0, .agg #[.int .i64 a2_0, .int .i64 a2_1, .int .i64 a2_2]] rfl MT ?_; (with_reducible refine (spec_l4First.calls k _ _ l0 a2_0 a2_1 a2_2 t104 _ ?side1 ?side2 A4.out).mono ?_); (case side1 => exact KC (Kd.C_below HR0.out HB.out)); (case side2 => exact HC0.out); rintro e w11 ⟨rfl, hb⟩; refine ⟨_, rfl, ?_⟩; replace BK101 := am (BB BK101 hb); replace BK102 := am (BB BK102 hb); replace BK103 := am (BB BK103 hb); replace HB := am (below_step (K3 HB GE101.out GE102.out GE103.out) hb); (try clear hb); (try clear hb2); (try clear hk); (try clear hi); have hnb12 := NB101_103.out; have hnc12 := NB103_101.out; have hcz13_0 := z0 w11 BK101.out; have hcz13_1 := z1 w11 BK101.out; have hfz13_0 := blk_frozen BK101.out 0; have hfz13_1 := blk_frozen BK101.out 1; have hcz14_0 := z0 w11 BK102.out; have hcz14_1 := z1 w11 BK102.out; have hcz14_2 := z2 w11 BK102.out; have hfz14_0 := blk_frozen BK102.out 0; have hfz14_1 := blk_frozen BK102.out 1; have hfz14_2 := blk_frozen BK102.out 2) | ((with_reducible refine gate_dst (N := 19) rfl ?_); refine Kd.R_lit k108 _ 108 ?hg (N := 19) ?hd (xs := ([(⟨(⟨a2_0, a2_1, a2_2⟩ : S25), t104⟩ : S108)] : List (S108))) (inner := [.int .i64 a2_0, .int .i64 a2_1, .int .i64 a2_2, .int .i64 t104]) (ok := fun _ => True) (okp := fun _ => True) ?hr ?hp (fun _ hk => hk) trivial (Below.refl _ _) (Nat.le_refl _) (by simp) ?_; (case hd => rfl); (case hg => rfl); (case hr => first | (go_simp; done) | (go_simp; rfl)); (case hp => exact (Reps.c4 (show Kd.M k108 _ _ _ (⟨(⟨a2_0, a2_1, a2_2⟩ : S25), t104⟩ : S108) [.int .i64 a2_0, .int .i64 a2_1, .int .i64 a2_2, .int .i64 t104] from (k108_mkM _ _ _ (⟨(⟨a2_0, a2_1, a2_2⟩ : S25), t104⟩ : S108) )) (Reps.none _ _))); intro v106 w15 ho16 hb hg_ hnew_; clear hg_ hnew_; (first | rw [← Ny105.out] at ho16 | (simp only [Int.reduceToNat] at ho16; rw [← Ny105.out] at ho16)); have HO107 := am (Kd.R_lower ho16 (below_size (K3 HB GE101.out GE102.out GE103.out))); replace BK101 := am (BB BK101 hb); replace BK102 := am (BB BK102 hb); replace BK103 := am (BB BK103 hb); replace HB := am (below_step (K3 HB GE101.out GE102.out GE103.out) hb); clear hb ho16; obtain ⟨Ao17, co17, eo17⟩ := Kd.R_slice HO107.out; subst eo17) | ((with_reducible refine gate_dst (N := 9) rfl ?_); refine box_event rfl (N := 9) rfl (cs := #[.int .i64 0, .slice none 0 0]) (t := 46) BX ?_; intro gb108 hg w18 hbox hb; replace HO107 := am (Kd.R_below (KR HO107) hb); have BK108 := am (hbox); have GW108 := am ((GL hg (below_size (K3 HB GE101.out GE102.out GE103.out)) : w.heap.size ≤ gb108)); have GE108 := GW108; replace HB := am (below_step (K3 HB GE101.out GE102.out GE103.out) hb); have NB101_108 := am (NL BK101 hg); have NB108_101 := am (NG BK101 hg); replace BK101 := am (BB BK101 hb); have NB102_108 := am (NL BK102 hg); have NB108_102 := am (NG BK102 hg); replace BK102 := am (BB BK102 hb); have NB103_108 := am (NL BK103 hg); have NB108_103 := am (NG BK103 hg); replace BK103 := am (BB BK103 hb); clear hb hbox hg; have hnb19 := NB108_101.out; have hnc19 := NB101_108.out; have hnb20 := NB108_102.out; have hnc20 := NB102_108.out; have hnb21 := NB108_103.out; have hnc21 := NB103_108.out; have hcz22_0 := z0 w18 BK108.out; have hcz22_1 := z1 w18 BK108.out; have hfz22_0 := blk_frozen BK108.out 0; have hfz22_1 := blk_frozen BK108.out 1))
 go_loopg [10] k (fun kq v10 w' => ∃ (x10_1 : Int) (x109001_1 : List (S108)) (u109001 : Value), v10 = .int .i64 x10_1 ∧ Aside0 (spec_l5Find.l0 kq t104 x10_1 a1_0 l1_1 a2_0 a2_1 a2_2 a1_0 x109001_1 = some (r1, r2, r3)) ∧ Aside0 (kq ≤ k) ∧ Aside0 (Kd.R k108 108 w' w.heap.size (fun _ => True) u109001 x109001_1) ∧ Aside0 (w'.heap[gb101]? = some (.cells #[.int .i64 a1_0, (.slice A1_1 l1_1.length c1_1)] 46 (0, 0))) ∧ Aside0 (w'.heap[gb102]? = some (.cells #[.int .i64 a2_0, .int .i64 a2_1, .int .i64 a2_2] 25 (0, 0))) ∧ Aside0 (w'.heap[gb103]? = some (.cells #[.int .i64 0, (.slice none 0 0)] 46 (0, 0))) ∧ Aside0 (w'.heap[gb108]? = some (.cells #[.int .i64 a1_0, u109001] 46 (0, 0))) ∧ Aside0 (Below w.heap.size w w'))
 case atStart => exact ⟨(0), (y105), (.slice Ao17 y105.length co17), (by first | rfl | (simp; done) | (simp [*]; done)), H', ⟨Nat.le_refl _⟩, ⟨by (with_reducible repeat (first | apply Kd.R_alloc | apply Kd.R_drewN | apply Kd.R_drew)); exact Kd.R_mono (Kd.R_far (p := ⟨gb108, 1, none⟩) (Kd.R_far (p := ⟨gb108, 0, none⟩) (Kd.R_types HO107.out BK108.out (by decide)) (fun _ hk => hk.2) (.int .i64 a1_0)) (fun _ hk => hk.2) (.slice Ao17 y105.length co17)) (fun _ hk => trivial)⟩, ⟨by (with_reducible repeat (first | refine blk_drewN ?_ _ | refine blk_drew ?_ | refine blk_alloc ?_ _)); refine blk_far ?_ NB101_108.out _; (with_reducible repeat (first | refine blk_drewN ?_ _ | refine blk_drew ?_ | refine blk_alloc ?_ _)); refine blk_far ?_ NB101_108.out _; (with_reducible repeat (first | refine blk_drewN ?_ _ | refine blk_drew ?_ | refine blk_alloc ?_ _)); exact BK101.out⟩, ⟨by (with_reducible repeat (first | refine blk_drewN ?_ _ | refine blk_drew ?_ | refine blk_alloc ?_ _)); refine blk_far ?_ NB102_108.out _; (with_reducible repeat (first | refine blk_drewN ?_ _ | refine blk_drew ?_ | refine blk_alloc ?_ _)); refine blk_far ?_ NB102_108.out _; (with_reducible repeat (first | refine blk_drewN ?_ _ | refine blk_drew ?_ | refine blk_alloc ?_ _)); exact BK102.out⟩, ⟨by (with_reducible repeat (first | refine blk_drewN ?_ _ | refine blk_drew ?_ | refine blk_alloc ?_ _)); refine blk_far ?_ NB103_108.out _; (with_reducible repeat (first | refine blk_drewN ?_ _ | refine blk_drew ?_ | refine blk_alloc ?_ _)); refine blk_far ?_ NB103_108.out _; (with_reducible repeat (first | refine blk_drewN ?_ _ | refine blk_drew ?_ | refine blk_alloc ?_ _)); exact BK103.out⟩, ⟨by (with_reducible repeat (first | refine blk_drewN ?_ _ | refine blk_drew ?_ | refine blk_alloc ?_ _)); refine blk_put (cs := #[.int .i64 a1_0, .slice none 0 0]) ?_ 1 _ rfl; (with_reducible repeat (first | refine blk_drewN ?_ _ | refine blk_drew ?_ | refine blk_alloc ?_ _)); refine blk_put (cs := #[.int .i64 0, .slice none 0 0]) ?_ 0 _ rfl; (with_reducible repeat (first | refine blk_drewN ?_ _ | refine blk_drew ?_ | refine blk_alloc ?_ _)); exact BK108.out⟩, ⟨K4 HB GE101.out GE102.out GE103.out GE108.out⟩⟩
 case round =>
  clear H'
  try clear c1
  try clear c2
  try clear p2
  try clear c4
  try clear c7
  try clear c8
  try clear c9
  try clear c12
  try clear c19
  try clear c20
  try clear c21
  try clear hcz10_0
  try clear hcz10_1
  try clear hcz10_2
  try clear hcz13_0
  try clear hcz13_1
  try clear hcz14_0
  try clear hcz14_1
  try clear hcz14_2
  try clear hcz22_0
  try clear hcz22_1
  try clear hfz10_0
  try clear hfz10_1
  try clear hfz10_2
  try clear hfz13_0
  try clear hfz13_1
  try clear hfz14_0
  try clear hfz14_1
  try clear hfz14_2
  try clear hfz22_0
  try clear hfz22_1
  obtain ⟨x10_1, x109001_1, u109001, rfl, HA, HK1, HO_109001, BK101, BK102, BK103, BK108, HB⟩ := hrel
  cases gk with
  | zero => exact absurd HA.out (by simp [spec_l5Find.l0])
  | succ k1 =>
   have H := HA.out
   clear HA
   simp only [spec_l5Find.l0] at H
   by_cases c23 : x10_1 < (l1_1.length : Int)
   ·rw [if_pos c23] at H
    have c23b0 : decide (x10_1 < (l1_1.length : Int)) = true := decide_eq_true c23
    clear c23
    by_cases c24 : 0 ≤ x10_1
    ·rw [if_pos c24] at H
     have c24b0 : decide (0 ≤ x10_1) = true := decide_eq_true c24
     clear c24
     by_cases c25 : (!(((rd_T108 l1_1 x10_1).f0.f0) == a2_0) || (!(((rd_T108 l1_1 x10_1).f0.f1) == a2_1) || (!(((rd_T108 l1_1 x10_1).f0.f2) == a2_2)))) = true
     ·rw [if_pos c25] at H
      have c25b0 : (!(((rd_T108 l1_1 x10_1).f0.f0) == a2_0) || (!(((rd_T108 l1_1 x10_1).f0.f1) == a2_1) || (!(((rd_T108 l1_1 x10_1).f0.f2) == a2_2)))) = true := c25
      clear c25
      by_cases c26 : x109001_1.length < 4398046511104
      ·rw [if_pos c26] at H
       have LMc26 := Aside0.mk c26
       clear c26
       obtain ⟨y111, hy111⟩ : ∃ y_ : List (S108), y_ = (x109001_1 ++ [(⟨(⟨(rd_T108 l1_1 x10_1).f0.f0, (rd_T108 l1_1 x10_1).f0.f1, (rd_T108 l1_1 x10_1).f0.f2⟩ : S25), (rd_T108 l1_1 x10_1).f1⟩ : S108)]) := ⟨_, rfl⟩
       replace H : (spec_l5Find.l0 k1 t104 (wrap64 (x10_1 + 1)) a1_0 l1_1 a2_0 a2_1 a2_2 a1_0 y111) = some (r1, r2, r3) := by first | (rw [hy111]; with_reducible exact H) | (have H2_ := (Option.bind_some _ _).symm.trans H; rw [hy111]; with_reducible exact H2_) | (have H2_ := (Option.bind_some _ _).symm.trans H; with_reducible exact H2_) | with_reducible exact H | (rw [hy111]; exact H) | exact H
       have Ny111 := Aside0.mk hy111
       clear hy111
       have H' := Aside0.mk H
       clear H
       have hnb27 := NB101_102.out
       have hnc27 := NB102_101.out
       have hnb28 := NB101_103.out
       have hnc28 := NB103_101.out
       have hnb29 := NB101_108.out
       have hnc29 := NB108_101.out
       have hcz30_0 := z0 wr BK101.out
       have hcz30_1 := z1 wr BK101.out
       have hfz30_0 := blk_frozen BK101.out 0
       have hfz30_1 := blk_frozen BK101.out 1
       try go_wp2
       replace HO_109001 := am (Kd.R_drew HO_109001.out)
       replace BK101 := am (blk_drew BK101.out)
       replace BK102 := am (blk_drew BK102.out)
       replace BK103 := am (blk_drew BK103.out)
       replace BK108 := am (blk_drew BK108.out)
       replace HB := am (below_drew1 HB.out)
       have p109 : 0 ≤ (x10_1 : Int) := of_decide_eq_true (by first | (with_reducible assumption) | assumption)
       have q109 : x10_1 < (l1_1.length : Int) := of_decide_eq_true (by first | (with_reducible assumption) | assumption)
       obtain ⟨ad109, e109, hx109_0, hx109_1, hx109_2, hx109_3⟩ := at_T108 HR1_1.out x10_1 p109 q109
       have hw109_3 := hx109_3
       have hw109_2 := hx109_2
       have hw109_1 := hx109_1
       have hw109_0 := hx109_0
       cases e109
       replace hx109_0 := (HB.out.cell (World.block_lt_of_cell? w _ hx109_0)).trans hx109_0
       replace hx109_1 := (HB.out.cell (World.block_lt_of_cell? w _ hx109_1)).trans hx109_1
       replace hx109_2 := (HB.out.cell (World.block_lt_of_cell? w _ hx109_2)).trans hx109_2
       replace hx109_3 := (HB.out.cell (World.block_lt_of_cell? w _ hx109_3)).trans hx109_3
       replace p109 := eq_true p109
       replace q109 := eq_true q109
       refine start_ (n := 8) (S := fun w' => w'.cell? ⟨gb101, 0, none⟩ = some (.int .i64 a1_0) ∧ w'.cell? ⟨gb101, 1, none⟩ = some (.slice (some ad109) l1_1.length c1_1) ∧ w'.cell? ⟨gb102, 0, none⟩ = some (.int .i64 a2_0) ∧ w'.cell? ⟨gb102, 1, none⟩ = some (.int .i64 a2_1) ∧ w'.cell? ⟨gb102, 2, none⟩ = some (.int .i64 a2_2) ∧ w'.cell? (ad109.add ((x10_1).toNat * 4)) = some (.int .i64 ((rd_T108 l1_1 x10_1).f0.f0)) ∧ w'.cell? ⟨(ad109.add ((x10_1).toNat * 4)).block, (ad109.add ((x10_1).toNat * 4)).off + 1, none⟩ = some (.int .i64 ((rd_T108 l1_1 x10_1).f0.f1)) ∧ w'.cell? ⟨(ad109.add ((x10_1).toNat * 4)).block, (ad109.add ((x10_1).toNat * 4)).off + 2, none⟩ = some (.int .i64 ((rd_T108 l1_1 x10_1).f0.f2)) ∧ w'.cell? ⟨(ad109.add ((x10_1).toNat * 4)).block, (ad109.add ((x10_1).toNat * 4)).off + 3, none⟩ = some (.int .i64 ((rd_T108 l1_1 x10_1).f1))) (ds := []) (tf 0 8) (by kernel_rfl) rfl rfl ⟨z0 _ BK101.out, z1 _ BK101.out, z0 _ BK102.out, z1 _ BK102.out, z2 _ BK102.out, ((HB.out.cell (World.block_lt_of_cell? w _ hw109_0)).trans hw109_0), ((HB.out.cell (World.block_lt_of_cell? w _ hw109_1)).trans hw109_1), ((HB.out.cell (World.block_lt_of_cell? w _ hw109_2)).trans hw109_2), ((HB.out.cell (World.block_lt_of_cell? w _ hw109_3)).trans hw109_3)⟩ (fun hHeld => ?_); refine with_tabW spec_l5Find.tab6 spec_l5Find.bits6 (fun HT_ HW_ => ?_)
       generalize wr.drew = w31 at HO_109001 BK101 BK102 BK103 BK108 HB hx109_0 hx109_1 hx109_2 hx109_3 hHeld ⊢
       refine pu 0 (some 28) (tf 1 7) (any_of HT_.out (by kernel_rfl)) ?_
       refine pu 2 (some 30) #[true, false, true, false, false, false, false, false] (any_of HT_.out (by kernel_rfl)) ?_
       refine tk 1 (some 29) (tf 3 5) (take_ofW HT_.out HW_.out (by kernel_rfl)) hHeld ?_
       refine pu 3 (some 31) (tf 4 4) (any_of HT_.out (by kernel_rfl)) ?_
       refine pu 4 (some 32) (tf 5 3) (any_of HT_.out (by kernel_rfl)) ?_
       refine tk 5 (some 33) (tf 6 2) (take_ofW HT_.out HW_.out (by kernel_rfl)) hHeld ?_
       refine tk 6 (some 34) (tf 7 1) (take_ofW HT_.out HW_.out (by kernel_rfl)) hHeld ?_
       refine pu 7 (some 35) (tf 8 0) (any_of HT_.out (by kernel_rfl)) ?_
       refine done_ (done_of HT_.out (by kernel_rfl)) ?_
       try go_wp2
       replace HO_109001 := am (Kd.R_drew HO_109001.out)
       replace BK101 := am (blk_drew BK101.out)
       replace BK102 := am (blk_drew BK102.out)
       replace BK103 := am (blk_drew BK103.out)
       replace BK108 := am (blk_drew BK108.out)
       replace HB := am (below_drew1 HB.out)
       have p110 : 0 ≤ (x10_1 : Int) := of_decide_eq_true (by first | (with_reducible assumption) | assumption)
       have q110 : x10_1 < (l1_1.length : Int) := of_decide_eq_true (by first | (with_reducible assumption) | assumption)
       obtain ⟨ad110, e110, hx110_0, hx110_1, hx110_2, hx110_3⟩ := at_T108 HR1_1.out x10_1 p110 q110
       have hw110_3 := hx110_3
       have hw110_2 := hx110_2
       have hw110_1 := hx110_1
       have hw110_0 := hx110_0
       obtain rfl : ad109 = ad110 := (by injection e110)
       replace hx110_0 := (HB.out.cell (World.block_lt_of_cell? w _ hx110_0)).trans hx110_0
       replace hx110_1 := (HB.out.cell (World.block_lt_of_cell? w _ hx110_1)).trans hx110_1
       replace hx110_2 := (HB.out.cell (World.block_lt_of_cell? w _ hx110_2)).trans hx110_2
       replace hx110_3 := (HB.out.cell (World.block_lt_of_cell? w _ hx110_3)).trans hx110_3
       replace p110 := eq_true p110
       replace q110 := eq_true q110
       refine start_ (n := 11) (S := fun w' => w'.cell? ⟨gb108, 0, none⟩ = some (.int .i64 a1_0) ∧ w'.cell? ⟨gb108, 1, none⟩ = some (u109001) ∧ w'.cell? ⟨gb101, 0, none⟩ = some (.int .i64 a1_0) ∧ w'.cell? ⟨gb101, 1, none⟩ = some (.slice (some ad109) l1_1.length c1_1) ∧ w'.cell? (ad109.add ((x10_1).toNat * 4)) = some (.int .i64 ((rd_T108 l1_1 x10_1).f0.f0)) ∧ w'.cell? ⟨(ad109.add ((x10_1).toNat * 4)).block, (ad109.add ((x10_1).toNat * 4)).off + 1, none⟩ = some (.int .i64 ((rd_T108 l1_1 x10_1).f0.f1)) ∧ w'.cell? ⟨(ad109.add ((x10_1).toNat * 4)).block, (ad109.add ((x10_1).toNat * 4)).off + 2, none⟩ = some (.int .i64 ((rd_T108 l1_1 x10_1).f0.f2)) ∧ w'.cell? ⟨(ad109.add ((x10_1).toNat * 4)).block, (ad109.add ((x10_1).toNat * 4)).off + 3, none⟩ = some (.int .i64 ((rd_T108 l1_1 x10_1).f1))) (ds := [10]) (tf 0 11) (by kernel_rfl) rfl rfl ⟨z0 _ BK108.out, z1 _ BK108.out, z0 _ BK101.out, z1 _ BK101.out, ((HB.out.cell (World.block_lt_of_cell? w _ hw110_0)).trans hw110_0), ((HB.out.cell (World.block_lt_of_cell? w _ hw110_1)).trans hw110_1), ((HB.out.cell (World.block_lt_of_cell? w _ hw110_2)).trans hw110_2), ((HB.out.cell (World.block_lt_of_cell? w _ hw110_3)).trans hw110_3)⟩ (fun hHeld => ?_); refine with_tabW spec_l5Find.tab7 spec_l5Find.bits7 (fun HT_ HW_ => ?_)
       generalize w31.drew = w32 at HO_109001 BK101 BK102 BK103 BK108 HB hx110_0 hx110_1 hx110_2 hx110_3 hHeld ⊢
       refine pu 0 (some 36) (tf 1 10) (any_of HT_.out (by kernel_rfl)) ?_
       refine pu 2 (some 38) #[true, false, true, false, false, false, false, false, false, false, false] (any_of HT_.out (by kernel_rfl)) ?_
       refine pu 4 (some 40) #[true, false, true, false, true, false, false, false, false, false, false] (any_of HT_.out (by kernel_rfl)) ?_
       refine tk 1 (some 37) #[true, true, true, false, true, false, false, false, false, false, false] (take_ofW HT_.out HW_.out (by kernel_rfl)) hHeld ?_
       refine tk 3 (some 39) (tf 5 6) (take_ofW HT_.out HW_.out (by kernel_rfl)) hHeld ?_
       refine pu 5 (some 41) (tf 6 5) (any_of HT_.out (by kernel_rfl)) ?_
       refine tk 6 (some 42) (tf 7 4) (take_ofW HT_.out HW_.out (by kernel_rfl)) hHeld ?_
       refine one_ (i := 7) (N := some 43) (tf 8 3) rfl rfl (one_of HT_.out (by kernel_rfl)) (by decide) (fun K hK => ?_)
       refine value_ (w1 := ?_) (v := ?_) (by rfl) rfl ?_ ?_
       rotate_left 2
       ·go_simp
        constructor
        ·rfl
        ·rfl
       refine hK.out _ _ ⟨(blk_cell (blk_alloc BK108.out _) 0).trans rfl, (blk_cell (blk_alloc BK108.out _) 1).trans rfl, (blk_cell (blk_alloc BK101.out _) 0).trans rfl, (blk_cell (blk_alloc BK101.out _) 1).trans rfl, (World.cell?_alloc_lt _ _ _ (World.block_lt_of_cell? _ _ (((HB.out.cell (World.block_lt_of_cell? w _ hw110_0)).trans hw110_0)))).trans (((HB.out.cell (World.block_lt_of_cell? w _ hw110_0)).trans hw110_0)), (World.cell?_alloc_lt _ _ _ (World.block_lt_of_cell? _ _ (((HB.out.cell (World.block_lt_of_cell? w _ hw110_1)).trans hw110_1)))).trans (((HB.out.cell (World.block_lt_of_cell? w _ hw110_1)).trans hw110_1)), (World.cell?_alloc_lt _ _ _ (World.block_lt_of_cell? _ _ (((HB.out.cell (World.block_lt_of_cell? w _ hw110_2)).trans hw110_2)))).trans (((HB.out.cell (World.block_lt_of_cell? w _ hw110_2)).trans hw110_2)), (World.cell?_alloc_lt _ _ _ (World.block_lt_of_cell? _ _ (((HB.out.cell (World.block_lt_of_cell? w _ hw110_3)).trans hw110_3)))).trans (((HB.out.cell (World.block_lt_of_cell? w _ hw110_3)).trans hw110_3))⟩ (fun hHeld => ?_)
       clear hK K
       refine norm_ (a' := ?_) ?_ ?_
       rotate_left
       ·show Act.put _ (some 43) _ = _
        simp only [Act.put, List.setIfInBounds_toArray, List.set_cons_zero, List.set_cons_succ, i64_w, i32_w]
        rfl
       refine one_ (i := 8) (N := some 44) (tf 9 2) rfl rfl (one_of HT_.out (by kernel_rfl)) (by decide) (fun K hK => ?_)
       refine Kd.R_append_step k108 (w0 := w) w.heap.size (by rfl) (.tmp 37) (.tmp 43) 44 108 (.agg #[(.int .i64 0), (.int .i64 0), (.int .i64 0), (.int .i64 0)]) 32 rfl Try.underlying44 info108 rfl (by decide) (by omega) u109001 x109001_1 (⟨(⟨(rd_T108 l1_1 x10_1).f0.f0, (rd_T108 l1_1 x10_1).f0.f1, (rd_T108 l1_1 x10_1).f0.f2⟩ : S25), (rd_T108 l1_1 x10_1).f1⟩ : S108) [.int .i64 ((rd_T108 l1_1 x10_1).f0.f0), .int .i64 ((rd_T108 l1_1 x10_1).f0.f1), .int .i64 ((rd_T108 l1_1 x10_1).f0.f2), .int .i64 ((rd_T108 l1_1 x10_1).f1)] (fun _ => True) (fun _ => False) rfl rfl ?aP (fun _ hk => hk.elim) ?aF ?aO ?aB ?aS ?aL ?_
       (case aP => exact k108_mkM _ _ _ (⟨(⟨(rd_T108 l1_1 x10_1).f0.f0, (rd_T108 l1_1 x10_1).f0.f1, (rd_T108 l1_1 x10_1).f0.f2⟩ : S25), (rd_T108 l1_1 x10_1).f1⟩ : S108))
       (case aB => exact (K4 HB GE101.out GE102.out GE103.out GE108.out))
       (case aF => exact (fun _ _ => trivial))
       (case aO => exact (KR HO_109001))
       (case aS => exact (below_size (K4 HB GE101.out GE102.out GE103.out GE108.out)))
       (case aL => have := LMc26.out; omega)
       intro v112 w33 ho hb hg hat
       rw [← Ny111.out] at ho
       replace BK101 := am (blk_grown (g := gb101) (o := .cells #[.int .i64 a1_0, .slice (some ad109) l1_1.length c1_1] 46 (0, 0)) (KB BK101) hg (Kd.R_ne HO_109001.out BK101.out (by decide)))
       replace BK102 := am (blk_grown (g := gb102) (o := .cells #[.int .i64 a2_0, .int .i64 a2_1, .int .i64 a2_2] 25 (0, 0)) (KB BK102) hg (Kd.R_ne HO_109001.out BK102.out (by decide)))
       replace BK103 := am (blk_grown (g := gb103) (o := .cells #[.int .i64 0, .slice none 0 0] 46 (0, 0)) (KB BK103) hg (Kd.R_ne HO_109001.out BK103.out (by decide)))
       replace BK108 := am (blk_grown (g := gb108) (o := .cells #[.int .i64 a1_0, u109001] 46 (0, 0)) (KB BK108) hg (Kd.R_ne HO_109001.out BK108.out (by decide)))
       replace HB := am (hb)
       have HO113 := am (ho)
       clear HO_109001
       clear ho hb hg hat
       obtain ⟨Ao34, co34, eo34⟩ := Kd.R_slice HO113.out
       (first | subst eo34 | (injection eo34 with f1_ f2_ f3_; have f4_ := f1_.symm; have f5_ := f3_.symm; clear f1_ f2_ f3_; subst f4_; subst f5_))
       refine hK.out _ _ ⟨z0 _ BK108.out, z1 _ BK108.out, z0 _ BK101.out, z1 _ BK101.out, ((HB.out.cell (World.block_lt_of_cell? w _ hw110_0)).trans hw110_0), ((HB.out.cell (World.block_lt_of_cell? w _ hw110_1)).trans hw110_1), ((HB.out.cell (World.block_lt_of_cell? w _ hw110_2)).trans hw110_2), ((HB.out.cell (World.block_lt_of_cell? w _ hw110_3)).trans hw110_3)⟩ (fun hHeld => ?_)
       clear hK K
       refine norm_ (a' := ?_) ?_ ?_
       rotate_left
       ·show Act.put _ (some 44) _ = _
        simp only [Act.put, List.setIfInBounds_toArray, List.set_cons_zero, List.set_cons_succ, i64_w, i32_w]
        rfl
       refine pu 9 (some 45) (tf 10 1) (any_of HT_.out (by kernel_rfl)) ?_
       refine last_ (i := 10) (N := none) (tf 11 0) rfl rfl (one_of HT_.out (by kernel_rfl)) (by decide) (fun K hK => ?_)
       have hs35 : w33.cell? ⟨gb108, 1, none⟩ = some (u109001) := z1 _ BK108.out
       have hfs35 := blk_frozen BK108.out 1
       have hns35_0 := NB101_108.out
       have hns35_1 := NB102_108.out
       have hns35_2 := NB103_108.out
       have hms35_0 := NB108_101.out
       have hms35_1 := NB108_102.out
       have hms35_2 := NB108_103.out
       refine skip_ (w1 := ?_) (by rfl) rfl ?_ ?_
       rotate_left
       ·go_simp
        rfl
       refine hK.out _ _ ?_
       clear hK K
       refine done_ (done_of HT_.out (by kernel_rfl)) ?_
       try go_wp2
       go_roundg k1
       case measure => have := HK1.out; omega
       case rel => exact ⟨(wrap64 (x10_1 + 1)), (y111), (.slice Ao34 y111.length co34), (by first | rfl | (simp; done) | (simp [*]; done)), H', ⟨by have := HK1.out; omega⟩, ⟨by (with_reducible repeat (first | apply Kd.R_alloc | apply Kd.R_drewN | apply Kd.R_drew)); exact Kd.R_mono (Kd.R_far (p := ⟨gb108, 1, none⟩) (Kd.R_types HO113.out BK108.out (by decide)) (fun _ hk => hk.2) (.slice Ao34 y111.length co34)) (fun _ hk => trivial)⟩, ⟨by (with_reducible repeat (first | refine blk_drewN ?_ _ | refine blk_drew ?_ | refine blk_alloc ?_ _)); refine blk_far ?_ NB101_108.out _; (with_reducible repeat (first | refine blk_drewN ?_ _ | refine blk_drew ?_ | refine blk_alloc ?_ _)); exact BK101.out⟩, ⟨by (with_reducible repeat (first | refine blk_drewN ?_ _ | refine blk_drew ?_ | refine blk_alloc ?_ _)); refine blk_far ?_ NB102_108.out _; (with_reducible repeat (first | refine blk_drewN ?_ _ | refine blk_drew ?_ | refine blk_alloc ?_ _)); exact BK102.out⟩, ⟨by (with_reducible repeat (first | refine blk_drewN ?_ _ | refine blk_drew ?_ | refine blk_alloc ?_ _)); refine blk_far ?_ NB103_108.out _; (with_reducible repeat (first | refine blk_drewN ?_ _ | refine blk_drew ?_ | refine blk_alloc ?_ _)); exact BK103.out⟩, ⟨by (with_reducible repeat (first | refine blk_drewN ?_ _ | refine blk_drew ?_ | refine blk_alloc ?_ _)); refine blk_put (cs := #[.int .i64 a1_0, u109001]) ?_ 1 _ rfl; (with_reducible repeat (first | refine blk_drewN ?_ _ | refine blk_drew ?_ | refine blk_alloc ?_ _)); exact BK108.out⟩, ⟨K4 HB GE101.out GE102.out GE103.out GE108.out⟩⟩
      ·rw [if_neg c26] at H
       exact absurd H (by simp)
     ·rw [if_neg c25] at H
      have c25b0 : (!(((rd_T108 l1_1 x10_1).f0.f0) == a2_0) || (!(((rd_T108 l1_1 x10_1).f0.f1) == a2_1) || (!(((rd_T108 l1_1 x10_1).f0.f2) == a2_2)))) = false := by simpa using c25
      clear c25
      have H' := Aside0.mk H
      clear H
      have hnb36 := NB101_102.out
      have hnc36 := NB102_101.out
      have hnb37 := NB101_103.out
      have hnc37 := NB103_101.out
      have hnb38 := NB101_108.out
      have hnc38 := NB108_101.out
      have hcz39_0 := z0 wr BK101.out
      have hcz39_1 := z1 wr BK101.out
      have hfz39_0 := blk_frozen BK101.out 0
      have hfz39_1 := blk_frozen BK101.out 1
      try go_wp2
      replace HO_109001 := am (Kd.R_drew HO_109001.out)
      replace BK101 := am (blk_drew BK101.out)
      replace BK102 := am (blk_drew BK102.out)
      replace BK103 := am (blk_drew BK103.out)
      replace BK108 := am (blk_drew BK108.out)
      replace HB := am (below_drew1 HB.out)
      have p109 : 0 ≤ (x10_1 : Int) := of_decide_eq_true (by first | (with_reducible assumption) | assumption)
      have q109 : x10_1 < (l1_1.length : Int) := of_decide_eq_true (by first | (with_reducible assumption) | assumption)
      obtain ⟨ad109, e109, hx109_0, hx109_1, hx109_2, hx109_3⟩ := at_T108 HR1_1.out x10_1 p109 q109
      have hw109_3 := hx109_3
      have hw109_2 := hx109_2
      have hw109_1 := hx109_1
      have hw109_0 := hx109_0
      cases e109
      replace hx109_0 := (HB.out.cell (World.block_lt_of_cell? w _ hx109_0)).trans hx109_0
      replace hx109_1 := (HB.out.cell (World.block_lt_of_cell? w _ hx109_1)).trans hx109_1
      replace hx109_2 := (HB.out.cell (World.block_lt_of_cell? w _ hx109_2)).trans hx109_2
      replace hx109_3 := (HB.out.cell (World.block_lt_of_cell? w _ hx109_3)).trans hx109_3
      replace p109 := eq_true p109
      replace q109 := eq_true q109
      refine start_ (n := 8) (S := fun w' => w'.cell? ⟨gb101, 0, none⟩ = some (.int .i64 a1_0) ∧ w'.cell? ⟨gb101, 1, none⟩ = some (.slice (some ad109) l1_1.length c1_1) ∧ w'.cell? ⟨gb102, 0, none⟩ = some (.int .i64 a2_0) ∧ w'.cell? ⟨gb102, 1, none⟩ = some (.int .i64 a2_1) ∧ w'.cell? ⟨gb102, 2, none⟩ = some (.int .i64 a2_2) ∧ w'.cell? (ad109.add ((x10_1).toNat * 4)) = some (.int .i64 ((rd_T108 l1_1 x10_1).f0.f0)) ∧ w'.cell? ⟨(ad109.add ((x10_1).toNat * 4)).block, (ad109.add ((x10_1).toNat * 4)).off + 1, none⟩ = some (.int .i64 ((rd_T108 l1_1 x10_1).f0.f1)) ∧ w'.cell? ⟨(ad109.add ((x10_1).toNat * 4)).block, (ad109.add ((x10_1).toNat * 4)).off + 2, none⟩ = some (.int .i64 ((rd_T108 l1_1 x10_1).f0.f2)) ∧ w'.cell? ⟨(ad109.add ((x10_1).toNat * 4)).block, (ad109.add ((x10_1).toNat * 4)).off + 3, none⟩ = some (.int .i64 ((rd_T108 l1_1 x10_1).f1))) (ds := []) (tf 0 8) (by kernel_rfl) rfl rfl ⟨z0 _ BK101.out, z1 _ BK101.out, z0 _ BK102.out, z1 _ BK102.out, z2 _ BK102.out, ((HB.out.cell (World.block_lt_of_cell? w _ hw109_0)).trans hw109_0), ((HB.out.cell (World.block_lt_of_cell? w _ hw109_1)).trans hw109_1), ((HB.out.cell (World.block_lt_of_cell? w _ hw109_2)).trans hw109_2), ((HB.out.cell (World.block_lt_of_cell? w _ hw109_3)).trans hw109_3)⟩ (fun hHeld => ?_); refine with_tabW spec_l5Find.tab6 spec_l5Find.bits6 (fun HT_ HW_ => ?_)
      generalize wr.drew = w40 at HO_109001 BK101 BK102 BK103 BK108 HB hx109_0 hx109_1 hx109_2 hx109_3 hHeld ⊢
      refine pu 0 (some 28) (tf 1 7) (any_of HT_.out (by kernel_rfl)) ?_
      refine pu 2 (some 30) #[true, false, true, false, false, false, false, false] (any_of HT_.out (by kernel_rfl)) ?_
      refine tk 1 (some 29) (tf 3 5) (take_ofW HT_.out HW_.out (by kernel_rfl)) hHeld ?_
      refine pu 3 (some 31) (tf 4 4) (any_of HT_.out (by kernel_rfl)) ?_
      refine pu 4 (some 32) (tf 5 3) (any_of HT_.out (by kernel_rfl)) ?_
      refine tk 5 (some 33) (tf 6 2) (take_ofW HT_.out HW_.out (by kernel_rfl)) hHeld ?_
      refine tk 6 (some 34) (tf 7 1) (take_ofW HT_.out HW_.out (by kernel_rfl)) hHeld ?_
      refine pu 7 (some 35) (tf 8 0) (any_of HT_.out (by kernel_rfl)) ?_
      refine done_ (done_of HT_.out (by kernel_rfl)) ?_
      try go_wp2
      go_roundg k1
      case measure => have := HK1.out; omega
      case rel => exact ⟨(wrap64 (x10_1 + 1)), (x109001_1), (u109001), (by first | rfl | (simp; done) | (simp [*]; done)), H', ⟨by have := HK1.out; omega⟩, ⟨KR HO_109001⟩, ⟨KB BK101⟩, ⟨KB BK102⟩, ⟨KB BK103⟩, ⟨KB BK108⟩, ⟨K4 HB GE101.out GE102.out GE103.out GE108.out⟩⟩
    ·rw [if_neg c24] at H
     exact absurd H (by simp)
   ·rw [if_neg c23] at H
    have c23b0 : decide (x10_1 < (l1_1.length : Int)) = false := decide_eq_false c23
    clear c23
    by_cases c41 : (x109001_1.length : Int) > a1_0
    ·rw [if_pos c41] at H
     have c41b0 : decide (a1_0 < (x109001_1.length : Int)) = true := decide_eq_true c41
     clear c41
     by_cases c42 : 0 ≤ a1_0
     ·rw [if_pos c42] at H
      have c42b0 := eq_true c42
      have c42b1 : decide (0 ≤ a1_0) = true := decide_eq_true c42
      clear c42
      by_cases c43 : a1_0 ≤ (x109001_1.length : Int)
      ·rw [if_pos c43] at H
       have c43b0 := eq_true c43
       have c43b1 : decide (a1_0 ≤ (x109001_1.length : Int)) = true := decide_eq_true c43
       clear c43
       obtain ⟨y114, hy114⟩ : ∃ y_ : List (S108), y_ = (x109001_1.take (a1_0 : Int).toNat) := ⟨_, rfl⟩
       replace H : (some (a1_0, y114, t104)) = some (r1, r2, r3) := by first | (rw [hy114]; with_reducible exact H) | (have H2_ := (Option.bind_some _ _).symm.trans H; rw [hy114]; with_reducible exact H2_) | (have H2_ := (Option.bind_some _ _).symm.trans H; with_reducible exact H2_) | with_reducible exact H | (rw [hy114]; exact H) | exact H
       have Ny114 := Aside0.mk hy114
       clear hy114
       simp only [Option.some.injEq, Prod.mk.injEq] at H
       obtain ⟨rfl, rfl, rfl⟩ := H
       have hnb44 := NB101_102.out
       have hnc44 := NB102_101.out
       have hnb45 := NB101_103.out
       have hnc45 := NB103_101.out
       have hnb46 := NB101_108.out
       have hnc46 := NB108_101.out
       have hcz47_0 := z0 wr BK101.out
       have hcz47_1 := z1 wr BK101.out
       have hfz47_0 := blk_frozen BK101.out 0
       have hfz47_1 := blk_frozen BK101.out 1
       have hnb48 := NB108_102.out
       have hnc48 := NB102_108.out
       have hnb49 := NB108_103.out
       have hnc49 := NB103_108.out
       have hcz50_0 := z0 wr BK108.out
       have hcz50_1 := z1 wr BK108.out
       have hfz50_0 := blk_frozen BK108.out 0
       have hfz50_1 := blk_frozen BK108.out 1
       obtain ⟨Ao51, co51, eo51⟩ := Kd.R_slice HO_109001.out
       subst eo51
       have q52 : (a1_0 : Int) ≤ ((x109001_1.length : Int) : Int) := of_decide_eq_true (by first | (with_reducible assumption) | assumption)
       obtain ⟨i052, hi052, _, hsz52, _⟩ := info_parts info108
       have hcut52 := cut_to (P := Try.prog) 44 108 .i64 Try.underlying44 hi052 Ao51 x109001_1.length co51 a1_0 (of_decide_eq_true (by first | (with_reducible assumption) | assumption)) q52 (Kd.R_reads' HO_109001.out).2.1
       have hr52 := Kd.R_take (m := (a1_0 : Int).toNat) HO_109001.out (by omega)
       have hy52 : y114.length = (a1_0 : Int).toNat := (by rw [Ny114.out, List.length_take]; omega)
       rw [← Ny114.out] at hr52
       rw [← hy52] at hr52 hcut52
       clear hy52 hi052 hsz52 HO_109001
       have HO116 := Aside0.mk hr52
       clear hr52
       replace q52 := eq_true q52
       have hnb53 := NB103_102.out
       have hnc53 := NB102_103.out
       have hcz54_0 := z0 wr BK103.out
       have hcz54_1 := z1 wr BK103.out
       have hfz54_0 := blk_frozen BK103.out 0
       have hfz54_1 := blk_frozen BK103.out 1
       go_wp2
       refine bodyPost_ret (results_ct rfl _ _ gb103 46 #[.int .i64 a1_0, .slice Ao51 y114.length co51] (0, 0) _ rfl (by (with_reducible repeat (first | refine blk_drewN ?_ _ | refine blk_drew ?_ | refine blk_alloc ?_ _)); refine blk_put (cs := #[.int .i64 a1_0, .slice none 0 0]) ?_ 1 _ rfl; (with_reducible repeat (first | refine blk_drewN ?_ _ | refine blk_drew ?_ | refine blk_alloc ?_ _)); refine blk_put (cs := #[.int .i64 0, .slice none 0 0]) ?_ 0 _ rfl; (with_reducible repeat (first | refine blk_drewN ?_ _ | refine blk_drew ?_ | refine blk_alloc ?_ _)); refine blk_far ?_ NB103_108.out _; (with_reducible repeat (first | refine blk_drewN ?_ _ | refine blk_drew ?_ | refine blk_alloc ?_ _)); exact BK103.out) Try.underlying46 rfl (by kernel_rfl)) rfl ?_
       exact ⟨_, by first | rfl | (simp [errW_none, errW_some] <;> rfl) | (simp [*, errW_none, errW_some] <;> rfl), by (with_reducible repeat (first | apply Kd.R_alloc | apply Kd.R_drewN | apply Kd.R_drew)); exact Kd.R_mono (Kd.R_far (p := ⟨gb103, 1, none⟩) (Kd.R_far (p := ⟨gb103, 0, none⟩) (Kd.R_far (p := ⟨gb108, 1, none⟩) (Kd.R_types (Kd.R_types HO116.out BK108.out (by decide)) BK103.out (by decide)) (fun _ hk => hk.1.2) (.slice Ao51 y114.length co51)) (fun _ hk => hk.2) (.int .i64 a1_0)) (fun _ hk => hk.2) (.slice Ao51 y114.length co51)) (fun _ hk => trivial), K4 HB GE101.out GE102.out GE103.out GE108.out⟩
      ·rw [if_neg c43] at H
       exact absurd H (by simp)
     ·rw [if_neg c42] at H
      exact absurd H (by simp)
    ·rw [if_neg c41] at H
     have c41b0 : decide (a1_0 < (x109001_1.length : Int)) = false := decide_eq_false c41
     clear c41
     simp only [Option.some.injEq, Prod.mk.injEq] at H
     obtain ⟨rfl, rfl, rfl⟩ := H
     have hnb55 := NB101_102.out
     have hnc55 := NB102_101.out
     have hnb56 := NB101_103.out
     have hnc56 := NB103_101.out
     have hnb57 := NB101_108.out
     have hnc57 := NB108_101.out
     have hcz58_0 := z0 wr BK101.out
     have hcz58_1 := z1 wr BK101.out
     have hfz58_0 := blk_frozen BK101.out 0
     have hfz58_1 := blk_frozen BK101.out 1
     have hnb59 := NB108_102.out
     have hnc59 := NB102_108.out
     have hnb60 := NB108_103.out
     have hnc60 := NB103_108.out
     have hcz61_0 := z0 wr BK108.out
     have hcz61_1 := z1 wr BK108.out
     have hfz61_0 := blk_frozen BK108.out 0
     have hfz61_1 := blk_frozen BK108.out 1
     obtain ⟨Ao62, co62, eo62⟩ := Kd.R_slice HO_109001.out
     subst eo62
     have hnb63 := NB103_102.out
     have hnc63 := NB102_103.out
     have hcz64_0 := z0 wr BK103.out
     have hcz64_1 := z1 wr BK103.out
     have hfz64_0 := blk_frozen BK103.out 0
     have hfz64_1 := blk_frozen BK103.out 1
     go_wp2
     refine bodyPost_ret (results_ct rfl _ _ gb103 46 #[.int .i64 a1_0, .slice Ao62 x109001_1.length co62] (0, 0) _ rfl (by (with_reducible repeat (first | refine blk_drewN ?_ _ | refine blk_drew ?_ | refine blk_alloc ?_ _)); refine blk_put (cs := #[.int .i64 a1_0, .slice none 0 0]) ?_ 1 _ rfl; (with_reducible repeat (first | refine blk_drewN ?_ _ | refine blk_drew ?_ | refine blk_alloc ?_ _)); refine blk_put (cs := #[.int .i64 0, .slice none 0 0]) ?_ 0 _ rfl; (with_reducible repeat (first | refine blk_drewN ?_ _ | refine blk_drew ?_ | refine blk_alloc ?_ _)); exact BK103.out) Try.underlying46 rfl (by kernel_rfl)) rfl ?_
     exact ⟨_, by first | rfl | (simp [errW_none, errW_some] <;> rfl) | (simp [*, errW_none, errW_some] <;> rfl), by (with_reducible repeat (first | apply Kd.R_alloc | apply Kd.R_drewN | apply Kd.R_drew)); exact Kd.R_mono (Kd.R_far (p := ⟨gb103, 1, none⟩) (Kd.R_far (p := ⟨gb103, 0, none⟩) (Kd.R_types HO_109001.out BK103.out (by decide)) (fun _ hk => hk.2) (.int .i64 a1_0)) (fun _ hk => hk.2) (.slice Ao62 x109001_1.length co62)) (fun _ hk => trivial), K4 HB GE101.out GE102.out GE103.out GE108.out⟩
end Go.Proofs.Ytioghacieopbdaa.PAll
end
