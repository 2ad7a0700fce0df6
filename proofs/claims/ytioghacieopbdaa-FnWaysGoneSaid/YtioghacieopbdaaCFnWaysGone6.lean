/- Contracts of the functions that the statement reaches, printed by a program out of the translation and joined with the plain laws. -/
import Derived.Lib.LazyBuf
import Derived.Test.YtioghacieopbdaaCFnWaysGone3
import Derived.Test.YtioghacieopbdaaCFnWaysGone4
import Derived.Test.YtioghacieopbdaaCFnWaysGone5
section
namespace Go.Proofs.Ytioghacieopbdaa.PAll
open Go.RowKit Go.Proofs.YtioghacieopbdaaW.PrintWords Go.Proofs.YtioghacieopbdaaW.PrintLast Go.Proofs.YtioghacieopbdaaW.PrintMore
attribute [local go_sem] max2_int min2_int max_two min_two max_three min_three max_four min_four   -- for this text's walks alone
set_option linter.unusedVariables false
set_option linter.unusedSimpArgs false
def spec_l12AnyWays.f (k : Nat) (s0_0 : List Int) (s0_1 : Int) : Option ((List (S86)) × Int) := (spec_l12Ways.f k s0_0 s0_1).bind fun bt101 => (if (bt101.1.length : Int) = 0 then (some (bt101.1, bt101.2)) else ((spec_l1Rd_pick.f k s0_0 bt101.2 (bt101.1.length : Int)).bind fun bt105 => ((spec_l1Rd_pick.f k s0_0 bt105.2 20).bind fun bt107 => (if bt107.1 = 0 then ((spec_l1Rd_one.f k s0_0 bt107.2 (([(-1), 99, 100] : List Int))).bind fun bt112 => (if 0 ≤ bt105.1 then (if bt105.1 < (bt101.1.length : Int) then (some ((bt101.1.set (bt105.1 : Int).toNat (⟨(⟨(rd_T86 bt101.1 bt105.1).f0.f0, (rd_T86 bt101.1 bt105.1).f0.f1⟩ : S32), bt112.1⟩ : S86)), bt112.2)) else (none)) else (none))) else (if bt107.1 = 1 then ((spec_l12AnyBlock.f k s0_0 bt107.2).bind fun bt115 => (if 0 ≤ bt105.1 then (if bt105.1 < (bt101.1.length : Int) then (some ((bt101.1.set (bt105.1 : Int).toNat (⟨(⟨bt115.1, bt115.2.1⟩ : S32), (rd_T86 bt101.1 bt105.1).f1⟩ : S86)), bt115.2.2)) else (none)) else (none))) else (if bt107.1 = 2 then (if 0 < (bt101.1.length : Int) then (if bt101.1.length < 5864062014805 then (some ((bt101.1 ++ [(⟨(⟨(rd_T86 bt101.1 0).f0.f0, (rd_T86 bt101.1 0).f0.f1⟩ : S32), (rd_T86 bt101.1 0).f1⟩ : S86)]), bt107.2)) else (none)) else (none)) else (some (bt101.1, bt107.2))))))))
set_option maxHeartbeats 8000000 in
set_option maxRecDepth 100000 in
theorem spec_l12AnyWays.calls (k : Nat) (g : Nat) (s0_0 : List Int) (s0_1 : Int) (r1 : List (S86)) (r2 : Int) (w0 w : World) (hI : IsS143 w0 w g s0_0 s0_1) (hB : Below w0.heap.size w0 w) (h : spec_l12AnyWays.f k s0_0 s0_1 = some (r1, r2)) :
  Calls Try.prog 104 #[.pointer (some ⟨g, 0, none⟩)] w fun e w' => ∃ v0_ : Value, e = .returned (v0_) ∧ Kd.R k86 86 w' w.heap.size (fun _ => True) v0_ r1 ∧ IsS143 w0 w' g s0_0 r2 ∧ Below w0.heap.size w0 w' ∧ KeepBut w w' g none := by
 have hu32 := Try.underlying32
 have hu86 := Try.underlying86
 have HI0 := Aside0.mk hI
 have HK := am (KeepBut.refl w g none)
 have HL := Aside0.mk hB.size
 clear hI
 have HW0 := Aside0.mk hB.size
 have HB := Aside0.mk hB
 clear hB
 have H : ((spec_l12Ways.f k s0_0 s0_1).bind fun bt101 => (if (bt101.1.length : Int) = 0 then (some (bt101.1, bt101.2)) else ((spec_l1Rd_pick.f k s0_0 bt101.2 (bt101.1.length : Int)).bind fun bt105 => ((spec_l1Rd_pick.f k s0_0 bt105.2 20).bind fun bt107 => (if bt107.1 = 0 then ((spec_l1Rd_one.f k s0_0 bt107.2 (([(-1), 99, 100] : List Int))).bind fun bt112 => (if 0 ≤ bt105.1 then (if bt105.1 < (bt101.1.length : Int) then (some ((bt101.1.set (bt105.1 : Int).toNat (⟨(⟨(rd_T86 bt101.1 bt105.1).f0.f0, (rd_T86 bt101.1 bt105.1).f0.f1⟩ : S32), bt112.1⟩ : S86)), bt112.2)) else (none)) else (none))) else (if bt107.1 = 1 then ((spec_l12AnyBlock.f k s0_0 bt107.2).bind fun bt115 => (if 0 ≤ bt105.1 then (if bt105.1 < (bt101.1.length : Int) then (some ((bt101.1.set (bt105.1 : Int).toNat (⟨(⟨bt115.1, bt115.2.1⟩ : S32), (rd_T86 bt101.1 bt105.1).f1⟩ : S86)), bt115.2.2)) else (none)) else (none))) else (if bt107.1 = 2 then (if 0 < (bt101.1.length : Int) then (if bt101.1.length < 5864062014805 then (some ((bt101.1 ++ [(⟨(⟨(rd_T86 bt101.1 0).f0.f0, (rd_T86 bt101.1 0).f0.f1⟩ : S32), (rd_T86 bt101.1 0).f1⟩ : S86)]), bt107.2)) else (none)) else (none)) else (some (bt101.1, bt107.2))))))))) = some (r1, r2) := h
 clear h
 replace H := Option.bind_eq_some_iff.mp H
 obtain ⟨⟨t101, t104⟩, A20, H⟩ := H
 replace H : (if (t101.length : Int) = 0 then (some (t101, t104)) else ((spec_l1Rd_pick.f k s0_0 t104 (t101.length : Int)).bind fun bt105 => ((spec_l1Rd_pick.f k s0_0 bt105.2 20).bind fun bt107 => (if bt107.1 = 0 then ((spec_l1Rd_one.f k s0_0 bt107.2 (([(-1), 99, 100] : List Int))).bind fun bt112 => (if 0 ≤ bt105.1 then (if bt105.1 < (t101.length : Int) then (some ((t101.set (bt105.1 : Int).toNat (⟨(⟨(rd_T86 t101 bt105.1).f0.f0, (rd_T86 t101 bt105.1).f0.f1⟩ : S32), bt112.1⟩ : S86)), bt112.2)) else (none)) else (none))) else (if bt107.1 = 1 then ((spec_l12AnyBlock.f k s0_0 bt107.2).bind fun bt115 => (if 0 ≤ bt105.1 then (if bt105.1 < (t101.length : Int) then (some ((t101.set (bt105.1 : Int).toNat (⟨(⟨bt115.1, bt115.2.1⟩ : S32), (rd_T86 t101 bt105.1).f1⟩ : S86)), bt115.2.2)) else (none)) else (none))) else (if bt107.1 = 2 then (if 0 < (t101.length : Int) then (if t101.length < 5864062014805 then (some ((t101 ++ [(⟨(⟨(rd_T86 t101 0).f0.f0, (rd_T86 t101 0).f0.f1⟩ : S32), (rd_T86 t101 0).f1⟩ : S86)]), bt107.2)) else (none)) else (none)) else (some (t101, bt107.2)))))))) = some (r1, r2) := H
 have A2 := Aside0.mk A20
 clear A20
 by_cases c3 : (t101.length : Int) = 0
 ·rw [if_pos c3] at H
  have c3b0 : ((t101.length : Int) == 0) = true := beq_iff_eq.mpr c3
  have c3b1 : ((t101.length : Int) != 0) = false := bne_eq_false_iff_eq.mpr c3
  clear c3
  simp only [Option.some.injEq, Prod.mk.injEq] at H
  obtain ⟨rfl, rfl⟩ := H
  go_enter Try.func104, Try.ntmps104
  go_wp2_with (first | ((with_reducible refine gate_callee (f := 135) rfl ?_); refine goesL_ (some 6) rfl rfl Try.func135 (by kernel_rfl) rfl #[.pointer (some ⟨g, 0, none⟩)] rfl MT ?_; (with_reducible refine (spec_l12Ways.calls k g s0_0 s0_1 t101 t104 w0 _ ?side1 ?side2 A2.out).mono ?_); (case side1 => exact I143_0 HI0); (case side2 => exact K1 HB (IsS143.ge HI0.out)); rintro e w4 ⟨v102, rfl, ho0, hi, hb, hk⟩; refine ⟨_, rfl, ?_⟩; have HO103 := am (Kd.R_lower ho0 (keep_size (w := w) (g := g) (row := none) (J0 HK))); replace HK := am (KeepBut.trans (J0 HK) hk (.inl rfl)); replace HB := am (hb); replace HI0 := am (hi); (try clear hb); (try clear hb2); (try clear hk); (try clear hi); (try clear ho0); obtain ⟨Ao5, co5, eo5⟩ := Kd.R_slice HO103.out; subst eo5))
  go_ret
  exact ⟨_, ER, by (with_reducible repeat (first | apply Kd.R_alloc | apply Kd.R_drewN | apply Kd.R_drew)); exact HO103.out, I143_0 HI0, K1 HB (IsS143.ge HI0.out), J0 HK⟩
 ·rw [if_neg c3] at H
  have c3b0 : ((t101.length : Int) == 0) = false := beq_eq_false_iff_ne.mpr c3
  have c3b1 : ((t101.length : Int) != 0) = true := bne_iff_ne.mpr c3
  have c3b2 : ¬ (t101 = []) := fun h_ => c3 (by rw [h_]; rfl)
  replace H := Option.bind_eq_some_iff.mp H
  obtain ⟨⟨t105, t106⟩, A60, H⟩ := H
  replace H : ((spec_l1Rd_pick.f k s0_0 t106 20).bind fun bt107 => (if bt107.1 = 0 then ((spec_l1Rd_one.f k s0_0 bt107.2 (([(-1), 99, 100] : List Int))).bind fun bt112 => (if 0 ≤ t105 then (if t105 < (t101.length : Int) then (some ((t101.set (t105 : Int).toNat (⟨(⟨(rd_T86 t101 t105).f0.f0, (rd_T86 t101 t105).f0.f1⟩ : S32), bt112.1⟩ : S86)), bt112.2)) else (none)) else (none))) else (if bt107.1 = 1 then ((spec_l12AnyBlock.f k s0_0 bt107.2).bind fun bt115 => (if 0 ≤ t105 then (if t105 < (t101.length : Int) then (some ((t101.set (t105 : Int).toNat (⟨(⟨bt115.1, bt115.2.1⟩ : S32), (rd_T86 t101 t105).f1⟩ : S86)), bt115.2.2)) else (none)) else (none))) else (if bt107.1 = 2 then (if 0 < (t101.length : Int) then (if t101.length < 5864062014805 then (some ((t101 ++ [(⟨(⟨(rd_T86 t101 0).f0.f0, (rd_T86 t101 0).f0.f1⟩ : S32), (rd_T86 t101 0).f1⟩ : S86)]), bt107.2)) else (none)) else (none)) else (some (t101, bt107.2)))))) = some (r1, r2) := H
  have A6 := Aside0.mk A60
  clear A60
  replace H := Option.bind_eq_some_iff.mp H
  obtain ⟨⟨t107, t108⟩, A70, H⟩ := H
  replace H : (if t107 = 0 then ((spec_l1Rd_one.f k s0_0 t108 (([(-1), 99, 100] : List Int))).bind fun bt112 => (if 0 ≤ t105 then (if t105 < (t101.length : Int) then (some ((t101.set (t105 : Int).toNat (⟨(⟨(rd_T86 t101 t105).f0.f0, (rd_T86 t101 t105).f0.f1⟩ : S32), bt112.1⟩ : S86)), bt112.2)) else (none)) else (none))) else (if t107 = 1 then ((spec_l12AnyBlock.f k s0_0 t108).bind fun bt115 => (if 0 ≤ t105 then (if t105 < (t101.length : Int) then (some ((t101.set (t105 : Int).toNat (⟨(⟨bt115.1, bt115.2.1⟩ : S32), (rd_T86 t101 t105).f1⟩ : S86)), bt115.2.2)) else (none)) else (none))) else (if t107 = 2 then (if 0 < (t101.length : Int) then (if t101.length < 5864062014805 then (some ((t101 ++ [(⟨(⟨(rd_T86 t101 0).f0.f0, (rd_T86 t101 0).f0.f1⟩ : S32), (rd_T86 t101 0).f1⟩ : S86)]), t108)) else (none)) else (none)) else (some (t101, t108))))) = some (r1, r2) := H
  have A7 := Aside0.mk A70
  clear A70
  by_cases c8 : t107 = 0
  ·rw [if_pos c8] at H
   have c8b0 : (t107 == 0) = true := beq_iff_eq.mpr c8
   have c8b1 : (t107 != 0) = false := bne_eq_false_iff_eq.mpr c8
   clear c8
   obtain ⟨y109, hy109⟩ : ∃ y_ : List Int, y_ = (([(-1), 99, 100] : List Int)) := ⟨_, rfl⟩
   replace H : ((spec_l1Rd_one.f k s0_0 t108 y109).bind fun bt112 => (if 0 ≤ t105 then (if t105 < (t101.length : Int) then (some ((t101.set (t105 : Int).toNat (⟨(⟨(rd_T86 t101 t105).f0.f0, (rd_T86 t101 t105).f0.f1⟩ : S32), bt112.1⟩ : S86)), bt112.2)) else (none)) else (none))) = some (r1, r2) := by first | (rw [hy109]; with_reducible exact H) | (have H2_ := (Option.bind_some _ _).symm.trans H; rw [hy109]; with_reducible exact H2_) | (have H2_ := (Option.bind_some _ _).symm.trans H; with_reducible exact H2_) | with_reducible exact H | (rw [hy109]; exact H) | exact H
   have Ny109 := Aside0.mk hy109
   clear hy109
   replace H := Option.bind_eq_some_iff.mp H
   obtain ⟨⟨t112, t113⟩, A90, H⟩ := H
   replace H : (if 0 ≤ t105 then (if t105 < (t101.length : Int) then (some ((t101.set (t105 : Int).toNat (⟨(⟨(rd_T86 t101 t105).f0.f0, (rd_T86 t101 t105).f0.f1⟩ : S32), t112⟩ : S86)), t113)) else (none)) else (none)) = some (r1, r2) := H
   have A9 := Aside0.mk A90
   clear A90
   by_cases c10 : 0 ≤ t105
   ·rw [if_pos c10] at H
    have c10b0 : decide (0 ≤ t105) = true := decide_eq_true c10
    clear c10
    by_cases c11 : t105 < (t101.length : Int)
    ·rw [if_pos c11] at H
     have c11b0 : decide (t105 < (t101.length : Int)) = true := decide_eq_true c11
     clear c11
     obtain ⟨y114, hy114⟩ : ∃ y_ : List (S86), y_ = (t101.set (t105 : Int).toNat (⟨(⟨(rd_T86 t101 t105).f0.f0, (rd_T86 t101 t105).f0.f1⟩ : S32), t112⟩ : S86)) := ⟨_, rfl⟩
     replace H : (some (y114, t113)) = some (r1, r2) := by first | (rw [hy114]; with_reducible exact H) | (have H2_ := (Option.bind_some _ _).symm.trans H; rw [hy114]; with_reducible exact H2_) | (have H2_ := (Option.bind_some _ _).symm.trans H; with_reducible exact H2_) | with_reducible exact H | (rw [hy114]; exact H) | exact H
     have Ny114 := Aside0.mk hy114
     clear hy114
     simp only [Option.some.injEq, Prod.mk.injEq] at H
     obtain ⟨rfl, rfl⟩ := H
     go_enter Try.func104, Try.ntmps104
     go_wp2_with (first | ((with_reducible refine gate_callee (f := 135) rfl ?_); refine goesL_ (some 6) rfl rfl Try.func135 (by kernel_rfl) rfl #[.pointer (some ⟨g, 0, none⟩)] rfl MT ?_; (with_reducible refine (spec_l12Ways.calls k g s0_0 s0_1 t101 t104 w0 _ ?side1 ?side2 A2.out).mono ?_); (case side1 => exact I143_0 HI0); (case side2 => exact K1 HB (IsS143.ge HI0.out)); rintro e w13 ⟨v102, rfl, ho0, hi, hb, hk⟩; refine ⟨_, rfl, ?_⟩; have HO103 := am (Kd.R_lower ho0 (keep_size (w := w) (g := g) (row := none) (J0 HK))); replace HK := am (KeepBut.trans (J0 HK) hk (.inl rfl)); replace HB := am (hb); replace HI0 := am (hi); (try clear hb); (try clear hb2); (try clear hk); (try clear hi); (try clear ho0); obtain ⟨Ao14, co14, eo14⟩ := Kd.R_slice HO103.out; subst eo14) | ((with_reducible refine gate_callee (f := 91) rfl ?_); refine goesL_ (some 14) rfl rfl Try.func91 (by kernel_rfl) rfl #[.pointer (some ⟨g, 0, none⟩), .int .i64 (t101.length : Int)] rfl MT ?_; (with_reducible refine (spec_l1Rd_pick.calls k g s0_0 t104 (t101.length : Int) t105 t106 w0 _ ?side1 ?side2 A6.out).mono ?_); (case side1 => exact I143_0 HI0); (case side2 => exact K1 HB (IsS143.ge HI0.out)); rintro e w15 ⟨rfl, hi, hb, hk⟩; refine ⟨_, rfl, ?_⟩; replace HO103 := am (Kd.R_mono (Kd.R_keep (IsS143.apart (show IsS143 w0 _ g s0_0 t104 from I143_0 HI0) (KR HO103) (by decide)) hk (fun _ h => h.2)) (fun _ h => h.1)); replace HK := am (KeepBut.trans (J0 HK) hk (.inl rfl)); replace HB := am (hb); replace HI0 := am (hi); (try clear hb); (try clear hb2); (try clear hk); (try clear hi)) | ((with_reducible refine gate_callee (f := 91) rfl ?_); refine goesL_ (some 16) rfl rfl Try.func91 (by kernel_rfl) rfl #[.pointer (some ⟨g, 0, none⟩), .int .i64 20] rfl MT ?_; (with_reducible refine (spec_l1Rd_pick.calls k g s0_0 t106 20 t107 t108 w0 _ ?side1 ?side2 A7.out).mono ?_); (case side1 => exact I143_0 HI0); (case side2 => exact K1 HB (IsS143.ge HI0.out)); rintro e w16 ⟨rfl, hi, hb, hk⟩; refine ⟨_, rfl, ?_⟩; replace HO103 := am (Kd.R_mono (Kd.R_keep (IsS143.apart (show IsS143 w0 _ g s0_0 t106 from I143_0 HI0) (KR HO103) (by decide)) hk (fun _ h => h.2)) (fun _ h => h.1)); replace HK := am (KeepBut.trans (J0 HK) hk (.inl rfl)); replace HB := am (hb); replace HI0 := am (hi); (try clear hb); (try clear hb2); (try clear hk); (try clear hi)) | ((with_reducible refine gate_dst (N := 22) rfl ?_); refine Kd.R_lit (Kd.int .i64) _ 3 ?hg (N := 22) ?hd (xs := ([(-1), 99, 100] : List Int)) (inner := [.int .i64 (-1), .int .i64 99, .int .i64 100]) (ok := fun _ => True) (okp := fun _ => True) ?hr ?hp (fun _ hk => hk) trivial (Below.refl _ _) (Nat.le_refl _) (by simp) ?_; (case hd => rfl); (case hg => rfl); (case hr => first | (go_simp; done) | (go_simp; rfl)); (case hp => exact (Reps.one (show Kd.M (Kd.int .i64) _ _ _ (-1) [.int .i64 (-1)] from rfl) (Reps.one (show Kd.M (Kd.int .i64) _ _ _ 99 [.int .i64 99] from rfl) (Reps.one (show Kd.M (Kd.int .i64) _ _ _ 100 [.int .i64 100] from rfl) (Reps.none _ _))))); intro v110 w17 ho18 hb hg_ hnew_; clear hg_ hnew_; (first | rw [← Ny109.out] at ho18 | (simp only [Int.reduceToNat] at ho18; rw [← Ny109.out] at ho18)); replace HO103 := am (Kd.R_below (KR HO103) hb); have HO111 := am (Kd.R_lower ho18 (keep_size (w := w) (g := g) (row := none) (J0 HK))); replace HK := am (KeepBut.trans (J0 HK) (KeepBut.of_below hb g none) (.inl rfl)); replace HB := am (below_step (K1 HB (IsS143.ge HI0.out)) hb); replace HI0 := am (IsS143.below (I143_0 HI0) hb); clear hb ho18; obtain ⟨Ao19, co19, eo19⟩ := Kd.R_slice HO111.out; subst eo19) | ((with_reducible refine gate_callee (f := 95) rfl ?_); refine goesL_ (some 23) rfl rfl Try.func95 (by kernel_rfl) rfl #[.pointer (some ⟨g, 0, none⟩), .slice Ao19 y109.length co19] rfl MT ?_; (with_reducible refine (spec_l1Rd_one.calls k g s0_0 t108 _ _ y109 t112 t113 w0 _ ?side1 ?side2 ?side3 ?side4 ?side5 A9.out).mono ?_); (case side1 => exact I143_0 HI0); (case side2 => exact K1 HB (IsS143.ge HI0.out)); (case side3 => exact KC (Kd.R_reads' HO111.out).2.2); (case side4 => exact (Kd.R_reads' HO111.out).2.1); (case side5 => exact far_slice (IsS143.own_ne HI0.out HO111.out (by decide))); rintro e w20 ⟨rfl, hi, hb, hk⟩; refine ⟨_, rfl, ?_⟩; replace HO103 := am (Kd.R_mono (Kd.R_keep (IsS143.apart (show IsS143 w0 _ g s0_0 t108 from I143_0 HI0) (KR HO103) (by decide)) hk (fun _ h => h.2)) (fun _ h => h.1)); replace HO111 := am (Kd.R_mono (Kd.R_keep (IsS143.apart (show IsS143 w0 _ g s0_0 t108 from I143_0 HI0) (KR HO111) (by decide)) hk (fun _ h => h.2)) (fun _ h => h.1)); replace HK := am (KeepBut.trans (J0 HK) hk (.inl rfl)); replace HB := am (hb); replace HI0 := am (hi); (try clear hb); (try clear hb2); (try clear hk); (try clear hi); have p12 : 0 ≤ (t105 : Int) := OD; have q12 : (t105 : Int) < ((t101.length : Int) : Int) := OD; obtain ⟨go12, co12, eo12, gb12, gl12, cl12, HG12⟩ := Kd.R_form HO103.out (by omega); (first | cases eo12 | (injection eo12 with ea_ en_ ec_; (first | subst ea_ | (injection ea_ with ea_; subst ea_)); subst ec_; clear en_)); have GB12 := Aside0.mk gb12; have GG12 := Aside0.mk HG12; clear gb12 gl12 HG12; obtain ⟨ce12, hcl12, hM12, hcc12, hfr12⟩ := Kd.R_elem HO103.out z86 (t105 : Int) p12 q12; obtain rfl := k86_openM hM12; have hx12_0 : w20.cell? ⟨go12, (t105 : Int).toNat * 3, none⟩ = some (.int .i64 ((rd_T86 t101 t105).f0.f0)) := hcc12 0 _ rfl; have hx12_1 : w20.cell? ⟨go12, (t105 : Int).toNat * 3 + 1, none⟩ = some (.int .i64 ((rd_T86 t101 t105).f0.f1)) := hcc12 1 _ rfl; have hx12_2 : w20.cell? ⟨go12, (t105 : Int).toNat * 3 + 2, none⟩ = some (.int .i64 ((rd_T86 t101 t105).f1)) := hcc12 2 _ rfl; have hf12_0 : w20.frozen? ⟨go12, (t105 : Int).toNat * 3, none⟩ = false := hfr12 0; have hf12_1 : w20.frozen? ⟨go12, (t105 : Int).toNat * 3 + 1, none⟩ = false := hfr12 1; have hf12_2 : w20.frozen? ⟨go12, (t105 : Int).toNat * 3 + 2, none⟩ = false := hfr12 2; clear hcl12 hcc12 hfr12 hM12; replace p12 := eq_true p12; replace q12 := eq_true q12; have HX21 := am (show Kd.R k86 86 w20 w.heap.size (fun _ => True) (.slice (some ⟨go12, 0, none⟩) t101.length co14) t101 from (KR HO103)); obtain ⟨ce21, hcl21, hM21, hcc21, hfr21⟩ := Kd.R_elem HX21.out z86 (t105 : Int) (OD) (by have h_ : (t105 : Int) < ((t101.length : Int) : Int) := OD; first | exact h_ | (have e_ := (Kd.R_reads' HO103.out).1; omega) | simpa using h_); obtain rfl := k86_openM hM21; have HP21 := Kd.R_seg HX21.out (t105 : Int) (OD) (by have h_ : (t105 : Int) < ((t101.length : Int) : Int) := OD; first | exact h_ | (have e_ := (Kd.R_reads' HO103.out).1; omega) | simpa using h_) (seg := [.int .i64 t112]) (j := 2) hcl21 hcc21 (show 3 ≤ 3 from by decide) (x' := (⟨(⟨(rd_T86 t101 t105).f0.f0, (rd_T86 t101 t105).f0.f1⟩ : S32), t112⟩ : S86)) (k86_mkM _ _ _ (⟨(⟨(rd_T86 t101 t105).f0.f0, (rd_T86 t101 t105).f0.f1⟩ : S32), t112⟩ : S86) ) (fun _ hk => hk); have hx21_2 := hcc21 2 _ rfl; (try simp only [show (k86).sz = 3 from rfl, Nat.mul_one, Nat.add_zero] at hx21_2); have hf21_2 := hfr21 2; (try simp only [show (k86).sz = 3 from rfl, Nat.mul_one, Nat.add_zero] at hf21_2); clear hcl21 hcc21 hfr21 hM21) | ((with_reducible refine gate_store (t := 3) (p := 25) rfl ?_); refine store_event (t := 3) (p := 25) (v := ?vo_w22) (w1 := (w20.setCell ⟨go12, (t105 : Int).toNat * 3 + 2, none⟩ (.int .i64 t112))) ?hg ?ho ?hn ?hr ?_; (case ho => rfl); (case hg => rfl); (case hn => rfl); (case hr => first | (go_simp; done) | (go_simp; rfl)); intro w22 hw; have hg : w20.grownBy w22 (some go12) := (by rw [hw]; exact HP21.2); have hp_ : Kd.R k86 86 w22 w.heap.size (fun _ => True) (.slice (some ⟨go12, 0, none⟩) t101.length co14) y114 := (by rw [hw, Ny114.out]; exact HP21.1); clear HP21; replace HI0 := am (IsS143.grown (I143_0 HI0) hg (IsS143.own_ne HI0.out HO103.out (by decide))); replace HO111 := am (Kd.R_over' (v := (.slice (some ⟨go12, 0, none⟩) t101.length co14)) (KR HO111) (Kd.R_typed HO103.out) (by decide) hg); replace HB := am ((by rw [hw]; exact below_set (HB.out) (Nat.le_trans HL.out GB12.out) : Below w0.heap.size w0 w22)); replace HK := am (KeepBut.trans (J0 HK) (KeepBut.of_grown hg g) (Kd.R_base2 HO103.out)); replace HO103 := am (hp_); clear hg hw hp_))
     go_ret
     exact ⟨_, ER, by (with_reducible repeat (first | apply Kd.R_alloc | apply Kd.R_drewN | apply Kd.R_drew)); exact HO103.out, I143_0 HI0, K1 HB (IsS143.ge HI0.out), J0 HK⟩
    ·rw [if_neg c11] at H
     exact absurd H (by simp)
   ·rw [if_neg c10] at H
    exact absurd H (by simp)
  ·rw [if_neg c8] at H
   have c8b0 : (t107 == 0) = false := beq_eq_false_iff_ne.mpr c8
   have c8b1 : (t107 != 0) = true := bne_iff_ne.mpr c8
   by_cases c23 : t107 = 1
   ·rw [if_pos c23] at H
    have c23b0 : (t107 == 1) = true := beq_iff_eq.mpr c23
    have c23b1 : (t107 != 1) = false := bne_eq_false_iff_eq.mpr c23
    clear c23
    replace H := Option.bind_eq_some_iff.mp H
    obtain ⟨⟨t115, t116, t117⟩, A240, H⟩ := H
    replace H : (if 0 ≤ t105 then (if t105 < (t101.length : Int) then (some ((t101.set (t105 : Int).toNat (⟨(⟨t115, t116⟩ : S32), (rd_T86 t101 t105).f1⟩ : S86)), t117)) else (none)) else (none)) = some (r1, r2) := H
    have A24 := Aside0.mk A240
    clear A240
    by_cases c25 : 0 ≤ t105
    ·rw [if_pos c25] at H
     have c25b0 : decide (0 ≤ t105) = true := decide_eq_true c25
     clear c25
     by_cases c26 : t105 < (t101.length : Int)
     ·rw [if_pos c26] at H
      have c26b0 : decide (t105 < (t101.length : Int)) = true := decide_eq_true c26
      clear c26
      obtain ⟨y118, hy118⟩ : ∃ y_ : List (S86), y_ = (t101.set (t105 : Int).toNat (⟨(⟨t115, t116⟩ : S32), (rd_T86 t101 t105).f1⟩ : S86)) := ⟨_, rfl⟩
      replace H : (some (y118, t117)) = some (r1, r2) := by first | (rw [hy118]; with_reducible exact H) | (have H2_ := (Option.bind_some _ _).symm.trans H; rw [hy118]; with_reducible exact H2_) | (have H2_ := (Option.bind_some _ _).symm.trans H; with_reducible exact H2_) | with_reducible exact H | (rw [hy118]; exact H) | exact H
      have Ny118 := Aside0.mk hy118
      clear hy118
      simp only [Option.some.injEq, Prod.mk.injEq] at H
      obtain ⟨rfl, rfl⟩ := H
      go_enter Try.func104, Try.ntmps104
      go_wp2_with (first | ((with_reducible refine gate_callee (f := 135) rfl ?_); refine goesL_ (some 6) rfl rfl Try.func135 (by kernel_rfl) rfl #[.pointer (some ⟨g, 0, none⟩)] rfl MT ?_; (with_reducible refine (spec_l12Ways.calls k g s0_0 s0_1 t101 t104 w0 _ ?side1 ?side2 A2.out).mono ?_); (case side1 => exact I143_0 HI0); (case side2 => exact K1 HB (IsS143.ge HI0.out)); rintro e w28 ⟨v102, rfl, ho0, hi, hb, hk⟩; refine ⟨_, rfl, ?_⟩; have HO103 := am (Kd.R_lower ho0 (keep_size (w := w) (g := g) (row := none) (J0 HK))); replace HK := am (KeepBut.trans (J0 HK) hk (.inl rfl)); replace HB := am (hb); replace HI0 := am (hi); (try clear hb); (try clear hb2); (try clear hk); (try clear hi); (try clear ho0); obtain ⟨Ao29, co29, eo29⟩ := Kd.R_slice HO103.out; subst eo29) | ((with_reducible refine gate_callee (f := 91) rfl ?_); refine goesL_ (some 14) rfl rfl Try.func91 (by kernel_rfl) rfl #[.pointer (some ⟨g, 0, none⟩), .int .i64 (t101.length : Int)] rfl MT ?_; (with_reducible refine (spec_l1Rd_pick.calls k g s0_0 t104 (t101.length : Int) t105 t106 w0 _ ?side1 ?side2 A6.out).mono ?_); (case side1 => exact I143_0 HI0); (case side2 => exact K1 HB (IsS143.ge HI0.out)); rintro e w30 ⟨rfl, hi, hb, hk⟩; refine ⟨_, rfl, ?_⟩; replace HO103 := am (Kd.R_mono (Kd.R_keep (IsS143.apart (show IsS143 w0 _ g s0_0 t104 from I143_0 HI0) (KR HO103) (by decide)) hk (fun _ h => h.2)) (fun _ h => h.1)); replace HK := am (KeepBut.trans (J0 HK) hk (.inl rfl)); replace HB := am (hb); replace HI0 := am (hi); (try clear hb); (try clear hb2); (try clear hk); (try clear hi)) | ((with_reducible refine gate_callee (f := 91) rfl ?_); refine goesL_ (some 16) rfl rfl Try.func91 (by kernel_rfl) rfl #[.pointer (some ⟨g, 0, none⟩), .int .i64 20] rfl MT ?_; (with_reducible refine (spec_l1Rd_pick.calls k g s0_0 t106 20 t107 t108 w0 _ ?side1 ?side2 A7.out).mono ?_); (case side1 => exact I143_0 HI0); (case side2 => exact K1 HB (IsS143.ge HI0.out)); rintro e w31 ⟨rfl, hi, hb, hk⟩; refine ⟨_, rfl, ?_⟩; replace HO103 := am (Kd.R_mono (Kd.R_keep (IsS143.apart (show IsS143 w0 _ g s0_0 t106 from I143_0 HI0) (KR HO103) (by decide)) hk (fun _ h => h.2)) (fun _ h => h.1)); replace HK := am (KeepBut.trans (J0 HK) hk (.inl rfl)); replace HB := am (hb); replace HI0 := am (hi); (try clear hb); (try clear hb2); (try clear hk); (try clear hi)) | ((with_reducible refine gate_callee (f := 120) rfl ?_); refine goesL_ (some 31) rfl rfl Try.func120 (by kernel_rfl) rfl #[.pointer (some ⟨g, 0, none⟩)] rfl MT ?_; (with_reducible refine (spec_l12AnyBlock.calls k g s0_0 t108 t115 t116 t117 w0 _ ?side1 ?side2 A24.out).mono ?_); (case side1 => exact I143_0 HI0); (case side2 => exact K1 HB (IsS143.ge HI0.out)); rintro e w32 ⟨rfl, hi, hb, hk⟩; refine ⟨_, rfl, ?_⟩; replace HO103 := am (Kd.R_mono (Kd.R_keep (IsS143.apart (show IsS143 w0 _ g s0_0 t108 from I143_0 HI0) (KR HO103) (by decide)) hk (fun _ h => h.2)) (fun _ h => h.1)); replace HK := am (KeepBut.trans (J0 HK) hk (.inl rfl)); replace HB := am (hb); replace HI0 := am (hi); (try clear hb); (try clear hb2); (try clear hk); (try clear hi); have p27 : 0 ≤ (t105 : Int) := OD; have q27 : (t105 : Int) < ((t101.length : Int) : Int) := OD; obtain ⟨go27, co27, eo27, gb27, gl27, cl27, HG27⟩ := Kd.R_form HO103.out (by omega); (first | cases eo27 | (injection eo27 with ea_ en_ ec_; (first | subst ea_ | (injection ea_ with ea_; subst ea_)); subst ec_; clear en_)); have GB27 := Aside0.mk gb27; have GG27 := Aside0.mk HG27; clear gb27 gl27 HG27; obtain ⟨ce27, hcl27, hM27, hcc27, hfr27⟩ := Kd.R_elem HO103.out z86 (t105 : Int) p27 q27; obtain rfl := k86_openM hM27; have hx27_0 : w32.cell? ⟨go27, (t105 : Int).toNat * 3, none⟩ = some (.int .i64 ((rd_T86 t101 t105).f0.f0)) := hcc27 0 _ rfl; have hx27_1 : w32.cell? ⟨go27, (t105 : Int).toNat * 3 + 1, none⟩ = some (.int .i64 ((rd_T86 t101 t105).f0.f1)) := hcc27 1 _ rfl; have hx27_2 : w32.cell? ⟨go27, (t105 : Int).toNat * 3 + 2, none⟩ = some (.int .i64 ((rd_T86 t101 t105).f1)) := hcc27 2 _ rfl; have hf27_0 : w32.frozen? ⟨go27, (t105 : Int).toNat * 3, none⟩ = false := hfr27 0; have hf27_1 : w32.frozen? ⟨go27, (t105 : Int).toNat * 3 + 1, none⟩ = false := hfr27 1; have hf27_2 : w32.frozen? ⟨go27, (t105 : Int).toNat * 3 + 2, none⟩ = false := hfr27 2; clear hcl27 hcc27 hfr27 hM27; replace p27 := eq_true p27; replace q27 := eq_true q27; have HX33 := am (show Kd.R k86 86 w32 w.heap.size (fun _ => True) (.slice (some ⟨go27, 0, none⟩) t101.length co29) t101 from (KR HO103)); obtain ⟨ce33, hcl33, hM33, hcc33, hfr33⟩ := Kd.R_elem HX33.out z86 (t105 : Int) (OD) (by have h_ : (t105 : Int) < ((t101.length : Int) : Int) := OD; first | exact h_ | (have e_ := (Kd.R_reads' HO103.out).1; omega) | simpa using h_); obtain rfl := k86_openM hM33; have HP33 := Kd.R_seg HX33.out (t105 : Int) (OD) (by have h_ : (t105 : Int) < ((t101.length : Int) : Int) := OD; first | exact h_ | (have e_ := (Kd.R_reads' HO103.out).1; omega) | simpa using h_) (seg := [.int .i64 t115, .int .i64 t116]) (j := 0) hcl33 hcc33 (show 2 ≤ 3 from by decide) (x' := (⟨(⟨t115, t116⟩ : S32), (rd_T86 t101 t105).f1⟩ : S86)) (k86_mkM _ _ _ (⟨(⟨t115, t116⟩ : S32), (rd_T86 t101 t105).f1⟩ : S86) ) (fun _ hk => hk); have hx33_0 := hcc33 0 _ rfl; (try simp only [show (k86).sz = 3 from rfl, Nat.mul_one, Nat.add_zero] at hx33_0); have hf33_0 := hfr33 0; (try simp only [show (k86).sz = 3 from rfl, Nat.mul_one, Nat.add_zero] at hf33_0); have hx33_1 := hcc33 1 _ rfl; (try simp only [show (k86).sz = 3 from rfl, Nat.mul_one, Nat.add_zero] at hx33_1); have hf33_1 := hfr33 1; (try simp only [show (k86).sz = 3 from rfl, Nat.mul_one, Nat.add_zero] at hf33_1); clear hcl33 hcc33 hfr33 hM33) | ((with_reducible refine gate_store (t := 32) (p := 33) rfl ?_); refine store_event (t := 32) (p := 33) (v := ?vo_w34) (w1 := ((w32.setCell ⟨go27, (t105 : Int).toNat * 3, none⟩ (.int .i64 t115)).setCell ⟨go27, (t105 : Int).toNat * 3 + 1, none⟩ (.int .i64 t116))) ?hg ?ho ?hn ?hr ?_; (case ho => rfl); (case hg => rfl); (case hn => rfl); (case hr => first | (go_simp; done) | (go_simp; rfl)); intro w34 hw; have hg : w32.grownBy w34 (some go27) := (by rw [hw]; exact HP33.2); have hp_ : Kd.R k86 86 w34 w.heap.size (fun _ => True) (.slice (some ⟨go27, 0, none⟩) t101.length co29) y118 := (by rw [hw, Ny118.out]; exact HP33.1); clear HP33; replace HI0 := am (IsS143.grown (I143_0 HI0) hg (IsS143.own_ne HI0.out HO103.out (by decide))); replace HB := am ((by rw [hw]; exact below_set (below_set (HB.out) (Nat.le_trans HL.out GB27.out)) (Nat.le_trans HL.out GB27.out) : Below w0.heap.size w0 w34)); replace HK := am (KeepBut.trans (J0 HK) (KeepBut.of_grown hg g) (Kd.R_base2 HO103.out)); replace HO103 := am (hp_); clear hg hw hp_))
      go_ret
      exact ⟨_, ER, by (with_reducible repeat (first | apply Kd.R_alloc | apply Kd.R_drewN | apply Kd.R_drew)); exact HO103.out, I143_0 HI0, K1 HB (IsS143.ge HI0.out), J0 HK⟩
     ·rw [if_neg c26] at H
      exact absurd H (by simp)
    ·rw [if_neg c25] at H
     exact absurd H (by simp)
   ·rw [if_neg c23] at H
    have c23b0 : (t107 == 1) = false := beq_eq_false_iff_ne.mpr c23
    have c23b1 : (t107 != 1) = true := bne_iff_ne.mpr c23
    by_cases c35 : t107 = 2
    ·rw [if_pos c35] at H
     have c35b0 : (t107 == 2) = true := beq_iff_eq.mpr c35
     have c35b1 : (t107 != 2) = false := bne_eq_false_iff_eq.mpr c35
     clear c35
     by_cases c36 : 0 < (t101.length : Int)
     ·rw [if_pos c36] at H
      have c36b0 : decide (0 < (t101.length : Int)) = true := decide_eq_true c36
      have c36b1 : decide (0 < t101.length) = true := decide_eq_true (by omega)
      clear c36
      by_cases c37 : t101.length < 5864062014805
      ·rw [if_pos c37] at H
       have LMc37 := Aside0.mk c37
       clear c37
       obtain ⟨y120, hy120⟩ : ∃ y_ : List (S86), y_ = (t101 ++ [(⟨(⟨(rd_T86 t101 0).f0.f0, (rd_T86 t101 0).f0.f1⟩ : S32), (rd_T86 t101 0).f1⟩ : S86)]) := ⟨_, rfl⟩
       replace H : (some (y120, t108)) = some (r1, r2) := by first | (rw [hy120]; with_reducible exact H) | (have H2_ := (Option.bind_some _ _).symm.trans H; rw [hy120]; with_reducible exact H2_) | (have H2_ := (Option.bind_some _ _).symm.trans H; with_reducible exact H2_) | with_reducible exact H | (rw [hy120]; exact H) | exact H
       have Ny120 := Aside0.mk hy120
       clear hy120
       simp only [Option.some.injEq, Prod.mk.injEq] at H
       obtain ⟨rfl, rfl⟩ := H
       go_enter Try.func104, Try.ntmps104
       go_wp2_with (first | ((with_reducible refine gate_callee (f := 135) rfl ?_); refine goesL_ (some 6) rfl rfl Try.func135 (by kernel_rfl) rfl #[.pointer (some ⟨g, 0, none⟩)] rfl MT ?_; (with_reducible refine (spec_l12Ways.calls k g s0_0 s0_1 t101 t104 w0 _ ?side1 ?side2 A2.out).mono ?_); (case side1 => exact I143_0 HI0); (case side2 => exact K1 HB (IsS143.ge HI0.out)); rintro e w38 ⟨v102, rfl, ho0, hi, hb, hk⟩; refine ⟨_, rfl, ?_⟩; have HO103 := am (Kd.R_lower ho0 (keep_size (w := w) (g := g) (row := none) (J0 HK))); replace HK := am (KeepBut.trans (J0 HK) hk (.inl rfl)); replace HB := am (hb); replace HI0 := am (hi); (try clear hb); (try clear hb2); (try clear hk); (try clear hi); (try clear ho0); obtain ⟨Ao39, co39, eo39⟩ := Kd.R_slice HO103.out; subst eo39) | ((with_reducible refine gate_callee (f := 91) rfl ?_); refine goesL_ (some 14) rfl rfl Try.func91 (by kernel_rfl) rfl #[.pointer (some ⟨g, 0, none⟩), .int .i64 (t101.length : Int)] rfl MT ?_; (with_reducible refine (spec_l1Rd_pick.calls k g s0_0 t104 (t101.length : Int) t105 t106 w0 _ ?side1 ?side2 A6.out).mono ?_); (case side1 => exact I143_0 HI0); (case side2 => exact K1 HB (IsS143.ge HI0.out)); rintro e w40 ⟨rfl, hi, hb, hk⟩; refine ⟨_, rfl, ?_⟩; replace HO103 := am (Kd.R_mono (Kd.R_keep (IsS143.apart (show IsS143 w0 _ g s0_0 t104 from I143_0 HI0) (KR HO103) (by decide)) hk (fun _ h => h.2)) (fun _ h => h.1)); replace HK := am (KeepBut.trans (J0 HK) hk (.inl rfl)); replace HB := am (hb); replace HI0 := am (hi); (try clear hb); (try clear hb2); (try clear hk); (try clear hi)) | ((with_reducible refine gate_callee (f := 91) rfl ?_); refine goesL_ (some 16) rfl rfl Try.func91 (by kernel_rfl) rfl #[.pointer (some ⟨g, 0, none⟩), .int .i64 20] rfl MT ?_; (with_reducible refine (spec_l1Rd_pick.calls k g s0_0 t106 20 t107 t108 w0 _ ?side1 ?side2 A7.out).mono ?_); (case side1 => exact I143_0 HI0); (case side2 => exact K1 HB (IsS143.ge HI0.out)); rintro e w41 ⟨rfl, hi, hb, hk⟩; refine ⟨_, rfl, ?_⟩; replace HO103 := am (Kd.R_mono (Kd.R_keep (IsS143.apart (show IsS143 w0 _ g s0_0 t106 from I143_0 HI0) (KR HO103) (by decide)) hk (fun _ h => h.2)) (fun _ h => h.1)); replace HK := am (KeepBut.trans (J0 HK) hk (.inl rfl)); replace HB := am (hb); replace HI0 := am (hi); (try clear hb); (try clear hb2); (try clear hk); (try clear hi); have p119 : 0 ≤ (0 : Int) := (by omega); have q119 : 0 < (t101.length : Int) := OD; obtain ⟨ad119, e119, hx119_0, hx119_1, hx119_2⟩ := at_T86 (Kd.R_reads' HO103.out).2.2 0 p119 q119; cases e119; have qi119 : (0 < t101.length) = True := eq_true (by omega); (try rw [show ((0 : Int)).toNat = 0 from rfl] at hx119_0); (try rw [show 0 * 3 = 0 from rfl] at hx119_0); (try rw [Addr.add_zero'] at hx119_0); (try rw [show ((0 : Int)).toNat = 0 from rfl] at hx119_1); (try rw [show 0 * 3 = 0 from rfl] at hx119_1); (try rw [Addr.add_zero'] at hx119_1); (try rw [show ((0 : Int)).toNat = 0 from rfl] at hx119_2); (try rw [show 0 * 3 = 0 from rfl] at hx119_2); (try rw [Addr.add_zero'] at hx119_2); replace p119 := eq_true p119; replace q119 := eq_true q119) | ((with_reducible refine gate_builtin (b := .append) (xs := #[.tmp 36, .tmp 40]) rfl ?_); at_builtin; refine Kd.R_append k86 w.heap.size rfl (.tmp 36) (.tmp 40) 75 86 (.agg #[(.int .i64 0), (.int .i64 0), (.int .i64 0)]) 24 rfl Try.underlying75 info86 rfl (by decide) (by omega) (.slice (some ad119) t101.length co39) t101 (⟨(⟨(rd_T86 t101 0).f0.f0, (rd_T86 t101 0).f0.f1⟩ : S32), (rd_T86 t101 0).f1⟩ : S86) [.int .i64 ((rd_T86 t101 0).f0.f0), .int .i64 ((rd_T86 t101 0).f0.f1), .int .i64 ((rd_T86 t101 0).f1)] (fun _ => True) (fun _ => False) rfl rfl ?aP (fun _ hk => hk.elim) ?aF ?aO (Below.refl _ _) ?aS ?aL ?_; (case aP => exact k86_mkM _ _ _ (⟨(⟨(rd_T86 t101 0).f0.f0, (rd_T86 t101 0).f0.f1⟩ : S32), (rd_T86 t101 0).f1⟩ : S86)); (case aF => exact (fun _ _ => trivial)); (case aO => exact (KR HO103)); (case aS => exact (keep_size (w := w) (g := g) (row := none) (J0 HK))); (case aL => have := LMc37.out; omega); intro v121 w42 ho hb hg hat; rw [← Ny120.out] at ho; replace HB := am (below_weaken (K1 HB (IsS143.ge HI0.out)) HL.out hb); replace HI0 := am (IsS143.grown (I143_0 HI0) hg (IsS143.own_ne HI0.out HO103.out (by decide))); replace HK := am (KeepBut.trans (J0 HK) (KeepBut.of_grown hg g) (Kd.R_base2 HO103.out)); have HO122 := am (ho); clear HO103; clear ho hb hg hat))
       go_ret
       exact ⟨_, ER, by (with_reducible repeat (first | apply Kd.R_alloc | apply Kd.R_drewN | apply Kd.R_drew)); exact HO122.out, I143_0 HI0, K1 HB (IsS143.ge HI0.out), J0 HK⟩
      ·rw [if_neg c37] at H
       exact absurd H (by simp)
     ·rw [if_neg c36] at H
      exact absurd H (by simp)
    ·rw [if_neg c35] at H
     have c35b0 : (t107 == 2) = false := beq_eq_false_iff_ne.mpr c35
     have c35b1 : (t107 != 2) = true := bne_iff_ne.mpr c35
     simp only [Option.some.injEq, Prod.mk.injEq] at H
     obtain ⟨rfl, rfl⟩ := H
     go_enter Try.func104, Try.ntmps104
     go_wp2_with (first | ((with_reducible refine gate_callee (f := 135) rfl ?_); refine goesL_ (some 6) rfl rfl Try.func135 (by kernel_rfl) rfl #[.pointer (some ⟨g, 0, none⟩)] rfl MT ?_; (with_reducible refine (spec_l12Ways.calls k g s0_0 s0_1 t101 t104 w0 _ ?side1 ?side2 A2.out).mono ?_); (case side1 => exact I143_0 HI0); (case side2 => exact K1 HB (IsS143.ge HI0.out)); rintro e w43 ⟨v102, rfl, ho0, hi, hb, hk⟩; refine ⟨_, rfl, ?_⟩; have HO103 := am (Kd.R_lower ho0 (keep_size (w := w) (g := g) (row := none) (J0 HK))); replace HK := am (KeepBut.trans (J0 HK) hk (.inl rfl)); replace HB := am (hb); replace HI0 := am (hi); (try clear hb); (try clear hb2); (try clear hk); (try clear hi); (try clear ho0); obtain ⟨Ao44, co44, eo44⟩ := Kd.R_slice HO103.out; subst eo44) | ((with_reducible refine gate_callee (f := 91) rfl ?_); refine goesL_ (some 14) rfl rfl Try.func91 (by kernel_rfl) rfl #[.pointer (some ⟨g, 0, none⟩), .int .i64 (t101.length : Int)] rfl MT ?_; (with_reducible refine (spec_l1Rd_pick.calls k g s0_0 t104 (t101.length : Int) t105 t106 w0 _ ?side1 ?side2 A6.out).mono ?_); (case side1 => exact I143_0 HI0); (case side2 => exact K1 HB (IsS143.ge HI0.out)); rintro e w45 ⟨rfl, hi, hb, hk⟩; refine ⟨_, rfl, ?_⟩; replace HO103 := am (Kd.R_mono (Kd.R_keep (IsS143.apart (show IsS143 w0 _ g s0_0 t104 from I143_0 HI0) (KR HO103) (by decide)) hk (fun _ h => h.2)) (fun _ h => h.1)); replace HK := am (KeepBut.trans (J0 HK) hk (.inl rfl)); replace HB := am (hb); replace HI0 := am (hi); (try clear hb); (try clear hb2); (try clear hk); (try clear hi)) | ((with_reducible refine gate_callee (f := 91) rfl ?_); refine goesL_ (some 16) rfl rfl Try.func91 (by kernel_rfl) rfl #[.pointer (some ⟨g, 0, none⟩), .int .i64 20] rfl MT ?_; (with_reducible refine (spec_l1Rd_pick.calls k g s0_0 t106 20 t107 t108 w0 _ ?side1 ?side2 A7.out).mono ?_); (case side1 => exact I143_0 HI0); (case side2 => exact K1 HB (IsS143.ge HI0.out)); rintro e w46 ⟨rfl, hi, hb, hk⟩; refine ⟨_, rfl, ?_⟩; replace HO103 := am (Kd.R_mono (Kd.R_keep (IsS143.apart (show IsS143 w0 _ g s0_0 t106 from I143_0 HI0) (KR HO103) (by decide)) hk (fun _ h => h.2)) (fun _ h => h.1)); replace HK := am (KeepBut.trans (J0 HK) hk (.inl rfl)); replace HB := am (hb); replace HI0 := am (hi); (try clear hb); (try clear hb2); (try clear hk); (try clear hi)))
     go_ret
     exact ⟨_, ER, by (with_reducible repeat (first | apply Kd.R_alloc | apply Kd.R_drewN | apply Kd.R_drew)); exact HO103.out, I143_0 HI0, K1 HB (IsS143.ge HI0.out), J0 HK⟩
def spec_DrawWaysLead.j0 : Nat → List (S86) → Bool → List Int → Int → Option ((List (S86)) × Int)
 | 0, _, _, _, _ => none
 | k + 1, x5, x17, x104000, x104001 => if x17 = true then ((spec_l1Rd_pick.f k x104000 x104001 (x5.length : Int)).bind fun bt110 => (if 0 ≤ bt110.1 then (if bt110.1 < (x5.length : Int) then (some (x5, (rd_T86 x5 bt110.1).f0.f0)) else (none)) else (none))) else ((spec_l12AnyAddr.f k x104000 x104001).bind fun bt113 => (some (x5, bt113.1)))
def spec_DrawWaysLead.f (k : Nat) (l0 : List Int) : Option ((List (S86)) × Int) := (spec_l1Open.f l0).bind fun bt101 => ((spec_l12AnyWays.f k bt101.1 bt101.2).bind fun bt104 => (if (bt104.1.length : Int) > 0 then ((spec_l1Rd_pick.f k bt101.1 bt104.2 2).bind fun bt108 => (spec_DrawWaysLead.j0 k bt104.1 (bt108.1 == 0) bt101.1 bt108.2)) else (spec_DrawWaysLead.j0 k bt104.1 false bt101.1 bt104.2)))
def spec_DrawWaysLead.T4 : Bool × List (List Nat × List Nat) := (true, [([], []), ([], []), ([], []), ([], []), ([3], [3]), ([2, 4], [2, 4]), ([1, 5], [1, 5]), ([6], [6]), ([7], [7]), ([8], [8]), ([0, 5, 0], [0]), ([9, 10, 0, 1, 2, 3, 4, 5, 6, 7, 8, 9, 10], [9])])
def spec_DrawWaysLead.B4 : List Nat := [0, 0, 0, 0, 8, 28, 62, 126, 254, 510, 61, 2047]
theorem spec_DrawWaysLead.tab4 : rtab .any (opsOf Try.f55 4) = spec_DrawWaysLead.T4 := by kernel_rfl
theorem spec_DrawWaysLead.bits4 : waitsOk spec_DrawWaysLead.T4.2 spec_DrawWaysLead.B4 = true := by kernel_rfl
set_option maxHeartbeats 8000000 in
set_option maxRecDepth 100000 in
theorem spec_DrawWaysLead.calls (k : Nat) (A0 : Option Addr) (c0 : Nat) (l0 : List Int) (r1 : List (S86)) (r2 : Int) (w : World) (hr0 : Kd.C (Kd.int .u8) w A0 l0.length l0) (hc0 : l0.length ≤ c0) (h : spec_DrawWaysLead.f k l0 = some (r1, r2)) :
  Calls Try.prog 55 #[.slice A0 l0.length c0] w fun e w' => ∃ v0_ : Value, e = .returned (.tuple #[v0_, .int .i64 r2]) ∧ Kd.R k86 86 w' w.heap.size (fun _ => True) v0_ r1 ∧ Below w.heap.size w w' := by
 have HR0 := Aside0.mk hr0
 have HC0 := Aside0.mk hc0
 clear hr0 hc0
 have HB := am (Below.refl w.heap.size w)
 have H : ((spec_l1Open.f l0).bind fun bt101 => ((spec_l12AnyWays.f k bt101.1 bt101.2).bind fun bt104 => (if (bt104.1.length : Int) > 0 then ((spec_l1Rd_pick.f k bt101.1 bt104.2 2).bind fun bt108 => (spec_DrawWaysLead.j0 k bt104.1 (bt108.1 == 0) bt101.1 bt108.2)) else (spec_DrawWaysLead.j0 k bt104.1 false bt101.1 bt104.2)))) = some (r1, r2) := h
 clear h
 replace H := Option.bind_eq_some_iff.mp H
 obtain ⟨⟨t101, t102⟩, A20, H⟩ := H
 replace H : ((spec_l12AnyWays.f k t101 t102).bind fun bt104 => (if (bt104.1.length : Int) > 0 then ((spec_l1Rd_pick.f k t101 bt104.2 2).bind fun bt108 => (spec_DrawWaysLead.j0 k bt104.1 (bt108.1 == 0) t101 bt108.2)) else (spec_DrawWaysLead.j0 k bt104.1 false t101 bt104.2))) = some (r1, r2) := H
 have A2 := Aside0.mk A20
 clear A20
 replace H := Option.bind_eq_some_iff.mp H
 obtain ⟨⟨t104, t107⟩, A30, H⟩ := H
 replace H : (if (t104.length : Int) > 0 then ((spec_l1Rd_pick.f k t101 t107 2).bind fun bt108 => (spec_DrawWaysLead.j0 k t104 (bt108.1 == 0) t101 bt108.2)) else (spec_DrawWaysLead.j0 k t104 false t101 t107)) = some (r1, r2) := H
 have A3 := Aside0.mk A30
 clear A30
 have HC4 := Aside0.mk H
 clear H
 go_enter Try.func55, Try.ntmps55
 go_upto_region 3 with (first | ((with_reducible refine gate_callee (f := 70) rfl ?_); refine goesL_ (some 7) rfl rfl Try.func70 (by kernel_rfl) rfl #[.slice A0 l0.length c0] rfl MT ?_; (with_reducible refine (spec_l1Open.calls _ _ l0 t101 t102 w _ ?side1 ?side2 ?side3 A2.out).mono ?_); (case side1 => exact KL HB); (case side2 => exact HR0.out); (case side3 => exact HC0.out); rintro e w5 ⟨g103, rfl, hi, hb, hb2⟩; refine ⟨_, rfl, ?_⟩; replace HB := am (hb); have HI103 := am (hi); (try clear hb); (try clear hb2); (try clear hk); (try clear hi)) | ((with_reducible refine gate_callee (f := 104) rfl ?_); refine goesL_ (some 9) rfl rfl Try.func104 (by kernel_rfl) rfl #[.pointer (some ⟨g103, 0, none⟩)] rfl MT ?_; (with_reducible refine (spec_l12AnyWays.calls k g103 t101 t102 t104 t107 w _ ?side1 ?side2 A3.out).mono ?_); (case side1 => exact I143_0 HI103); (case side2 => exact K1 HB (IsS143.ge HI103.out)); rintro e w6 ⟨v105, rfl, ho0, hi, hb, hk⟩; refine ⟨_, rfl, ?_⟩; have HO106 := am (Kd.R_lower ho0 (below_size (K1 HB (IsS143.ge HI103.out)))); replace HB := am (hb); replace HI103 := am (hi); (try clear hb); (try clear hb2); (try clear hk); (try clear hi); (try clear ho0)))
 (try simp only [Act.put, List.setIfInBounds_toArray, List.set_cons_zero, List.set_cons_succ])
 go_cut [17] (fun v17 wc => ∃ (kq : Nat) (x17_3 : Bool) (x104001_3 : Int), v17 = .bool x17_3 ∧ Aside0 (spec_DrawWaysLead.j0 kq t104 x17_3 t101 x104001_3 = some (r1, r2)) ∧ Aside0 (kq ≤ k) ∧ Aside0 (Kd.R k86 86 wc w.heap.size (fun _ => True) v105 t104) ∧ Aside0 (IsS143 w wc g103 t101 x104001_3) ∧ Aside0 (Below w.heap.size w wc))
 case first =>
  have H := HC4.out
  clear HC4
  by_cases c7 : (t104.length : Int) > 0
  ·rw [if_pos c7] at H
   have c7b0 : decide (0 < (t104.length : Int)) = true := decide_eq_true c7
   have c7b1 : decide (0 < t104.length) = true := decide_eq_true (by omega)
   clear c7
   (first | rw [c7b0] | (simp only [i64_w, i32_w]; rw [c7b0]) | skip)
   replace H := Option.bind_eq_some_iff.mp H
   obtain ⟨⟨t108, t109⟩, A80, H⟩ := H
   replace H : (spec_DrawWaysLead.j0 k t104 (t108 == 0) t101 t109) = some (r1, r2) := H
   have A8 := Aside0.mk A80
   clear A80
   have H' := Aside0.mk H
   clear H
   obtain ⟨Ao9, co9, eo9⟩ := Kd.R_slice HO106.out
   subst eo9
   go_wp2_with (first | (go_at_call 91; (with_reducible refine (spec_l1Rd_pick.calls k g103 t101 t107 2 t108 t109 w _ ?side1 ?side2 A8.out).mono ?_); (case side1 => exact I143_0 HI103); (case side2 => exact K1 HB (IsS143.ge HI103.out)); rintro e w10 ⟨rfl, hi, hb, hk⟩; replace HO106 := am (Kd.R_mono (Kd.R_keep (IsS143.apart (show IsS143 w _ g103 t101 t107 from I143_0 HI103) (KR HO106) (by decide)) hk (fun _ h => h.2)) (fun _ h => h.1)); replace HB := am (hb); replace HI103 := am (hi); (try clear hb); (try clear hb2); (try clear hk); (try clear hi)))
   go_meet
   case rel => exact ⟨_, ((t108 == 0)), (t109), (by first | rfl | (simp; done) | (simp [*]; done)), H', ⟨by first | omega | exact Nat.le_refl _⟩, ⟨KR HO106⟩, ⟨I143_0 HI103⟩, ⟨K1 HB (IsS143.ge HI103.out)⟩⟩
  ·rw [if_neg c7] at H
   have c7b0 : decide (0 < (t104.length : Int)) = false := decide_eq_false c7
   have c7b1 : decide (0 < t104.length) = false := decide_eq_false (by omega)
   clear c7
   (first | rw [c7b0] | (simp only [i64_w, i32_w]; rw [c7b0]) | skip)
   have H' := Aside0.mk H
   clear H
   obtain ⟨Ao11, co11, eo11⟩ := Kd.R_slice HO106.out
   subst eo11
   go_wp2
   go_meet
   case rel => exact ⟨_, (false), (t107), (by first | rfl | (simp; done) | (simp [*]; done)), H', ⟨by first | omega | exact Nat.le_refl _⟩, ⟨KR HO106⟩, ⟨I143_0 HI103⟩, ⟨K1 HB (IsS143.ge HI103.out)⟩⟩
 case rest =>
  clear HC4
  try clear c1
  try clear p2
  try clear c5
  try clear c7
  try clear c7b0
  try clear c7b1
  try clear c10
  obtain ⟨kq, x17_3, x104001_3, rfl, HA, HJ3, HO_5, HI103, HB⟩ := hcut
  cases kq with
  | zero => exact absurd HA.out (by simp [spec_DrawWaysLead.j0])
  | succ kj3 =>
   have H := HA.out
   clear HA
   simp only [spec_DrawWaysLead.j0] at H
   by_cases c12 : x17_3 = true
   ·subst c12
    have H1 : ((spec_l1Rd_pick.f kj3 t101 x104001_3 (t104.length : Int)).bind fun bt110 => (if 0 ≤ bt110.1 then (if bt110.1 < (t104.length : Int) then (some (t104, (rd_T86 t104 bt110.1).f0.f0)) else (none)) else (none))) = some (r1, r2) := by rw [if_pos rfl] at H; exact H
    clear H
    have H := H1
    clear H1
    replace H := Option.bind_eq_some_iff.mp H
    obtain ⟨⟨t110, t111⟩, A130, H⟩ := H
    replace H : (if 0 ≤ t110 then (if t110 < (t104.length : Int) then (some (t104, (rd_T86 t104 t110).f0.f0)) else (none)) else (none)) = some (r1, r2) := H
    have A13 := Aside0.mk A130
    clear A130
    by_cases c14 : 0 ≤ t110
    ·rw [if_pos c14] at H
     have c14b0 : decide (0 ≤ t110) = true := decide_eq_true c14
     clear c14
     by_cases c15 : t110 < (t104.length : Int)
     ·rw [if_pos c15] at H
      have c15b0 : decide (t110 < (t104.length : Int)) = true := decide_eq_true c15
      clear c15
      simp only [Option.some.injEq, Prod.mk.injEq] at H
      obtain ⟨rfl, rfl⟩ := H
      try go_wp2
      replace HO_5 := am (Kd.R_drew HO_5.out)
      replace HI103 := am (IsS143.drew HI103.out)
      replace HB := am (below_drew1 HB.out)
      obtain ⟨Ao17, co17, eo17⟩ := Kd.R_slice HO_5.out
      (first | subst eo17 | (injection eo17 with f1_ f2_ f3_; have f4_ := f1_.symm; have f5_ := f3_.symm; clear f1_ f2_ f3_; subst f4_; subst f5_))
      have p112 : 0 ≤ (t110 : Int) := OD
      have q112 : t110 < (t104.length : Int) := OD
      obtain ⟨ad112, e112, hx112_0, hx112_1, hx112_2⟩ := at_T86 (Kd.R_reads' HO_5.out).2.2 t110 p112 q112
      cases e112
      replace p112 := eq_true p112
      replace q112 := eq_true q112
      refine start_ (n := 12) (S := fun w' => w'.cell? (ad112.add ((t110).toNat * 3)) = some (.int .i64 ((rd_T86 t104 t110).f0.f0)) ∧ w'.cell? ⟨(ad112.add ((t110).toNat * 3)).block, (ad112.add ((t110).toNat * 3)).off + 1, none⟩ = some (.int .i64 ((rd_T86 t104 t110).f0.f1)) ∧ w'.cell? ⟨(ad112.add ((t110).toNat * 3)).block, (ad112.add ((t110).toNat * 3)).off + 2, none⟩ = some (.int .i64 ((rd_T86 t104 t110).f1))) (ds := []) (tf 0 12) (by kernel_rfl) rfl rfl ⟨hx112_0, hx112_1, hx112_2⟩ (fun hHeld => ?_); refine with_tabW spec_DrawWaysLead.tab4 spec_DrawWaysLead.bits4 (fun HT_ HW_ => ?_)
      generalize wc.drew = w16 at HO_5 HI103 HB hx112_0 hx112_1 hx112_2 hHeld ⊢
      refine pv HT_ 0 18 (tf 1 11) ?_
      refine pv HT_ 1 19 (tf 2 10) ?_
      refine pv HT_ 2 20 (tf 3 9) ?_
      refine pv HT_ 3 21 (tf 4 8) ?_
      refine pv HT_ 4 22 (tf 5 7) ?_
      refine one_ (i := 5) (N := some 23) (tf 6 6) rfl rfl (one_of HT_.out (by kernel_rfl)) (by decide) (fun K hK => ?_)
      refine goes_ Try.func91 (by kernel_rfl) rfl #[.pointer (some ⟨g103, 0, none⟩), .int .i64 (t104.length : Int)] (by rfl) rfl rfl MT ?_
      with_reducible refine (spec_l1Rd_pick.calls kj3 g103 t101 x104001_3 (t104.length : Int) t110 t111 w _ ?side1 ?side2 A13.out).mono ?_
      (case side1 => exact I143_0 HI103)
      (case side2 => exact K1 HB (IsS143.ge HI103.out))
      rintro e w18 ⟨rfl, hi, hb, hk⟩
      have HS0_ := keep_cell hk (hHeld.1) (by first | (rw [add_block]; exact Kd.own_blk (IsS143.own_ne HI103.out HO_5.out (by decide))) | (show (Addr.add _ _).block ≠ _; rw [add_block]; exact Kd.own_blk (IsS143.own_ne HI103.out HO_5.out (by decide))) | exact Kd.own_blk (IsS143.own_ne HI103.out HO_5.out (by decide)))
      have HS1_ := keep_cell hk (hHeld.2.1) (by first | (rw [add_block]; exact Kd.own_blk (IsS143.own_ne HI103.out HO_5.out (by decide))) | (show (Addr.add _ _).block ≠ _; rw [add_block]; exact Kd.own_blk (IsS143.own_ne HI103.out HO_5.out (by decide))) | exact Kd.own_blk (IsS143.own_ne HI103.out HO_5.out (by decide)))
      have HS2_ := keep_cell hk (hHeld.2.2) (by first | (rw [add_block]; exact Kd.own_blk (IsS143.own_ne HI103.out HO_5.out (by decide))) | (show (Addr.add _ _).block ≠ _; rw [add_block]; exact Kd.own_blk (IsS143.own_ne HI103.out HO_5.out (by decide))) | exact Kd.own_blk (IsS143.own_ne HI103.out HO_5.out (by decide)))
      refine ⟨_, rfl, ?_⟩
      replace HO_5 := am (Kd.R_mono (Kd.R_keep (IsS143.apart (show IsS143 w _ g103 t101 x104001_3 from I143_0 HI103) (KR HO_5) (by decide)) hk (fun _ h => h.2)) (fun _ h => h.1))
      replace HB := am (hb)
      replace HI103 := am (hi)
      (try clear hb)
      (try clear hb2)
      (try clear hk)
      (try clear hi)
      refine hK.out _ _ ⟨HS0_, HS1_, HS2_⟩ (fun hHeld => ?_)
      clear hK K
      refine norm_ (a' := ?_) ?_ ?_
      rotate_left
      ·show Act.put _ (some 23) _ = _
       simp only [Act.put, List.setIfInBounds_toArray, List.set_cons_zero, List.set_cons_succ, i64_w, i32_w]
       rfl
      refine pv HT_ 6 24 (tf 7 5) ?_
      refine pv HT_ 7 25 (tf 8 4) ?_
      refine pv HT_ 8 26 (tf 9 3) ?_
      refine pv HT_ 10 2 (tr [9, 1, 1, 1]) ?_
      refine tk 9 (some 27) (tf 11 1) (take_ofW HT_.out HW_.out (by kernel_rfl)) hHeld ?_
      refine pv HT_ 11 3 (tf 12 0) ?_
      refine done_ (done_of HT_.out (by kernel_rfl)) ?_
      try go_wp2
      go_ret2
      exact ⟨_, ER, by (with_reducible repeat (first | apply Kd.R_alloc | apply Kd.R_drewN | apply Kd.R_drew)); exact HO_5.out, K1 HB (IsS143.ge HI103.out)⟩
     ·rw [if_neg c15] at H
      exact absurd H (by simp)
    ·rw [if_neg c14] at H
     exact absurd H (by simp)
   ·replace c12 := Bool.eq_false_iff.mpr c12
    subst c12
    have H1 : ((spec_l12AnyAddr.f kj3 t101 x104001_3).bind fun bt113 => (some (t104, bt113.1))) = some (r1, r2) := by rw [if_neg (show ¬ (false = true) by decide)] at H; exact H
    clear H
    have H := H1
    clear H1
    replace H := Option.bind_eq_some_iff.mp H
    obtain ⟨⟨t113, t114⟩, A190, H⟩ := H
    replace H : (some (t104, t113)) = some (r1, r2) := H
    have A19 := Aside0.mk A190
    clear A190
    simp only [Option.some.injEq, Prod.mk.injEq] at H
    obtain ⟨rfl, rfl⟩ := H
    go_wp2_with (first | ((with_reducible refine gate_callee (f := 105) rfl ?_); refine goesL_ (some 30) rfl rfl Try.func105 (by kernel_rfl) rfl #[.pointer (some ⟨g103, 0, none⟩)] rfl MT ?_; (with_reducible refine (spec_l12AnyAddr.calls kj3 g103 t101 x104001_3 t113 t114 w _ ?side1 ?side2 A19.out).mono ?_); (case side1 => exact I143_0 HI103); (case side2 => exact K1 HB (IsS143.ge HI103.out)); rintro e w20 ⟨rfl, hi, hb, hk⟩; refine ⟨_, rfl, ?_⟩; replace HO_5 := am (Kd.R_mono (Kd.R_keep (IsS143.apart (show IsS143 w _ g103 t101 x104001_3 from I143_0 HI103) (KR HO_5) (by decide)) hk (fun _ h => h.2)) (fun _ h => h.1)); replace HB := am (hb); replace HI103 := am (hi); (try clear hb); (try clear hb2); (try clear hk); (try clear hi)))
    go_ret2
    exact ⟨_, ER, by (with_reducible repeat (first | apply Kd.R_alloc | apply Kd.R_drewN | apply Kd.R_drew)); exact HO_5.out, K1 HB (IsS143.ge HI103.out)⟩
def impl_Block_has.f (a0_0 : Int) (a0_1 : Int) (a1 : Int) : Option (Bool) := (impl_Block_last.f a0_0 a0_1).bind fun t102 => ((impl_in.f a1 a0_0 t102).bind fun t103 => (some t103))
set_option maxHeartbeats 8000000 in
set_option maxRecDepth 100000 in
theorem impl_Block_has.calls (a0_0 : Int) (a0_1 : Int) (a1 : Int) (r : Bool) (w : World) (h : impl_Block_has.f a0_0 a0_1 a1 = some r) :
  Calls Try.prog 112 #[.agg #[.int .i64 a0_0, .int .i64 a0_1], .int .i64 a1] w fun e w' => e = .returned (.bool r) ∧ Below w.heap.size w w' := by
 have hu32 := Try.underlying32
 have HB := am (Below.refl w.heap.size w)
 have H : ((impl_Block_last.f a0_0 a0_1).bind fun t102 => ((impl_in.f a1 a0_0 t102).bind fun t103 => (some t103))) = some r := h
 clear h
 replace H := Option.bind_eq_some_iff.mp H
 obtain ⟨t102, A30, H⟩ := H
 replace H : ((impl_in.f a1 a0_0 t102).bind fun t103 => (some t103)) = some r := H
 have A3 := Aside0.mk A30
 clear A30
 replace H := Option.bind_eq_some_iff.mp H
 obtain ⟨t103, A40, H⟩ := H
 replace H : (some t103) = some r := H
 have A4 := Aside0.mk A40
 clear A40
 obtain rfl := Option.some.inj H
 go_enter Try.func112, Try.ntmps112
 try go_wp2_with (first | ((with_reducible refine gate_dst (N := 2) rfl ?_); refine box_event rfl (N := 2) rfl (cs := #[.int .i64 a0_0, .int .i64 a0_1]) (t := 32) BX ?_; intro gb101 hg w5 hbox hb; have BK101 := am (hbox); have GW101 := am (GH HB hg); have GE101 := GW101; replace HB := am (below_step (KL HB) hb); clear hb hbox hg))
 replace BK101 := am (blk_drew BK101.out)
 replace HB := am (below_drew1 HB.out)
 refine start_ (n := 7) (S := fun w' => de2 w' gb101 (.int .i64 a0_0) (.int .i64 a0_1)) (ds := []) (tf 0 7) (by kernel_rfl) rfl rfl ⟨z0 _ BK101.out, z1 _ BK101.out⟩ (fun hHeld => ?_)
 generalize w5.drew = w6 at BK101 HB hHeld ⊢
 refine pure_ (i := 0) (N := some 5) (v := ?_) (a' := ?_) (tf 1 6) rfl rfl (by kernel_rfl) (fun _ _ _ h => h) (Or.inl ⟨by rfl, ?_⟩) ?_ ?_; rotate_left; (· intro w'; go_simp; with_reducible rfl); rotate_left; (· simp only [Act.put, List.setIfInBounds_toArray, List.set_cons_zero, List.set_cons_succ, i64_w, i32_w]; rfl)
 refine pure_ (i := 1) (N := some 6) (v := ?_) (a' := ?_) (tf 2 5) rfl rfl (by kernel_rfl) (fun _ _ _ h => h) (Or.inl ⟨by rfl, ?_⟩) ?_ ?_; rotate_left; (· intro w'; go_simp; with_reducible rfl); rotate_left; (· simp only [Act.put, List.setIfInBounds_toArray, List.set_cons_zero, List.set_cons_succ, i64_w, i32_w]; rfl)
 refine take_ (i := 2) (N := some 7) (v := ?_) (a' := ?_) (tf 3 4) rfl rfl (by kernel_rfl) (fun _ _ _ h => h) (Or.inl ⟨by rfl, ?_⟩) hHeld ?_ ?_
 rotate_left
 ·rintro w' ⟨s0, s1⟩
  go_simp
  with_reducible rfl
 rotate_left
 ·simp only [Act.put, List.setIfInBounds_toArray, List.set_cons_zero, List.set_cons_succ, i64_w, i32_w]
  rfl
 refine take_ (i := 3) (N := some 8) (v := ?_) (a' := ?_) (tf 4 3) rfl rfl (by kernel_rfl) (fun _ _ _ h => h) (Or.inl ⟨by rfl, ?_⟩) hHeld ?_ ?_
 rotate_left
 ·rintro w' ⟨s0, s1⟩
  go_simp
  with_reducible rfl
 rotate_left
 ·simp only [Act.put, List.setIfInBounds_toArray, List.set_cons_zero, List.set_cons_succ, i64_w, i32_w]
  rfl
 refine one_ (i := 4) (N := some 9) (tf 5 2) rfl rfl (by kernel_rfl) (by decide) (fun K hK => ?_)
 refine goes_ Try.func139 (by kernel_rfl) rfl #[.agg #[.int .i64 a0_0, .int .i64 a0_1]] (by rfl) rfl rfl MT ?_
 with_reducible refine (impl_Block_last.calls a0_0 a0_1 t102 _ A3.out).mono ?_
 rintro e w7 ⟨rfl, hb⟩
 refine ⟨_, rfl, ?_⟩
 replace BK101 := am (BB BK101 hb)
 replace HB := am (below_step (K1 HB GE101.out) hb)
 (try clear hb)
 (try clear hb2)
 (try clear hk)
 (try clear hi)
 refine hK.out _ _ ⟨z0 _ BK101.out, z1 _ BK101.out⟩ (fun hHeld => ?_)
 clear hK K
 refine norm_ (a' := ?_) ?_ ?_
 rotate_left
 ·show Act.put _ (some 9) _ = _
  simp only [Act.put, List.setIfInBounds_toArray, List.set_cons_zero, List.set_cons_succ, i64_w, i32_w]
  rfl
 refine one_ (i := 5) (N := some 10) (tf 6 1) rfl rfl (by kernel_rfl) (by decide) (fun K hK => ?_)
 refine goes_ Try.func85 (by kernel_rfl) rfl #[.int .i64 a1, .int .i64 a0_0, .int .i64 t102] (by rfl) rfl rfl MT ?_
 with_reducible refine (impl_in.calls a1 a0_0 t102 t103 _ A4.out).mono ?_
 rintro e w' ⟨rfl, ⟨nd, rfl⟩⟩
 refine ⟨_, rfl, ?_⟩
 refine hK.out _ _ ⟨z0 _ BK101.out, z1 _ BK101.out⟩ (fun hHeld => ?_)
 clear hK K
 refine norm_ (a' := ?_) ?_ ?_
 rotate_left
 ·show Act.put _ (some 10) _ = _
  simp only [Act.put, List.setIfInBounds_toArray, List.set_cons_zero, List.set_cons_succ, i64_w, i32_w]
  rfl
 refine pure_ (i := 6) (N := some 4) (v := ?_) (a' := ?_) (tf 7 0) rfl rfl (by kernel_rfl) (fun _ _ _ h => h) (Or.inl ⟨by rfl, ?_⟩) ?_ ?_; rotate_left; (· intro w'; go_simp; with_reducible rfl); rotate_left; (· simp only [Act.put, List.setIfInBounds_toArray, List.set_cons_zero, List.set_cons_succ, i64_w, i32_w]; rfl)
 refine done_ (by kernel_rfl) ?_
 try go_wp2
 go_ret
 exact ⟨ER, K1 HB GE101.out⟩
def impl_lead.l0 : Nat → Int → List (S86) → Int → Int → Int → Int → Int → Option (Int)
 | 0, _, _, _, _, _, _, _ => none
 | k + 1, x1, x10, x11, x12, x102000, x102001, x102002 => if x12 < x11 then (if 0 ≤ x12 then (if x12 < (x10.length : Int) then ((impl_Block_has.f ((rd_T86 x10 x12).f0.f0) ((rd_T86 x10 x12).f0.f1) x1).bind fun t104 => (if t104 = true then (if ((rd_T86 x10 x12).f0.f1) > x102001 then (impl_lead.l0 k x1 x10 x11 (wrap64 (x12 + 1)) ((rd_T86 x10 x12).f0.f0) ((rd_T86 x10 x12).f0.f1) ((rd_T86 x10 x12).f1)) else (impl_lead.l0 k x1 x10 x11 (wrap64 (x12 + 1)) x102000 x102001 x102002)) else (impl_lead.l0 k x1 x10 x11 (wrap64 (x12 + 1)) x102000 x102001 x102002))) else (none)) else (none)) else (some x102002)
def impl_lead.f (k : Nat) (l0 : List (S86)) (a1 : Int) : Option (Int) := impl_lead.l0 k a1 l0 (l0.length : Int) 0 0 (-1) (-1)
set_option maxHeartbeats 8000000 in
set_option maxRecDepth 100000 in
theorem impl_lead.calls (k : Nat) (A0 : Option Addr) (c0 : Nat) (l0 : List (S86)) (a1 : Int) (r : Int) (w : World) (hr0 : Kd.C k86 w A0 l0.length l0) (hc0 : l0.length ≤ c0) (h : impl_lead.f k l0 a1 = some r) :
  Calls Try.prog 102 #[.slice A0 l0.length c0, .int .i64 a1] w fun e w' => e = .returned (.int .i64 r) ∧ Below w.heap.size w w' := by
 have hu32 := Try.underlying32
 have hu86 := Try.underlying86
 have HR0 := Aside0.mk hr0
 have HC0 := Aside0.mk hc0
 clear hr0 hc0
 have HB := am (Below.refl w.heap.size w)
 have H : (impl_lead.l0 k a1 l0 (l0.length : Int) 0 0 (-1) (-1)) = some r := h
 clear h
 have H' := Aside0.mk H
 clear H
 go_enter Try.func102, Try.ntmps102
 go_wp2_with (first | ((with_reducible refine gate_dst (N := 5) rfl ?_); refine box_event rfl (N := 5) rfl (cs := #[.int .i64 0, .int .i64 0, .int .i64 0]) (t := 86) BX ?_; intro gb101 hg w3 hbox hb; have BK101 := am (hbox); have GW101 := am (GH HB hg); have GE101 := GW101; replace HB := am (below_step (KL HB) hb); clear hb hbox hg; obtain ⟨hcz4_0, hcz4_1, hcz4_2, hfz4_0⟩ := y3 w3 BK101.out))
 go_loopg [12] k (fun kq v12 w' => ∃ (x12_1 : Int) (x102000_1 : Int) (x102001_1 : Int) (x102002_1 : Int), v12 = .int .i64 x12_1 ∧ Aside0 (impl_lead.l0 kq a1 l0 (l0.length : Int) x12_1 x102000_1 x102001_1 x102002_1 = some r) ∧ Aside0 (kq ≤ k) ∧ Aside0 (w'.heap[gb101]? = some (.cells #[.int .i64 x102000_1, .int .i64 x102001_1, .int .i64 x102002_1] 86 (0, 0))) ∧ Aside0 (Below w.heap.size w w'))
 case atStart => exact ⟨(0), (0), ((-1)), ((-1)), (by first | rfl | (simp; done) | (simp [*]; done)), H', ⟨Nat.le_refl _⟩, ⟨by (with_reducible repeat (first | refine blk_drewN ?_ _ | refine blk_drew ?_ | refine blk_alloc ?_ _)); refine blk_put (cs := #[.int .i64 0, .int .i64 (-1), .int .i64 0]) ?_ 2 _ rfl; (with_reducible repeat (first | refine blk_drewN ?_ _ | refine blk_drew ?_ | refine blk_alloc ?_ _)); refine blk_put (cs := #[.int .i64 0, .int .i64 0, .int .i64 0]) ?_ 1 _ rfl; (with_reducible repeat (first | refine blk_drewN ?_ _ | refine blk_drew ?_ | refine blk_alloc ?_ _)); refine blk_put (cs := #[.int .i64 0, .int .i64 0, .int .i64 0]) ?_ 0 _ rfl; (with_reducible repeat (first | refine blk_drewN ?_ _ | refine blk_drew ?_ | refine blk_alloc ?_ _)); exact BK101.out⟩, ⟨K1 HB GE101.out⟩⟩
 case round =>
  clear H'
  try clear c1
  try clear p2
  try clear hcz4_0
  try clear hcz4_1
  try clear hcz4_2
  try clear hfz4_0
  obtain ⟨x12_1, x102000_1, x102001_1, x102002_1, rfl, HA, HK1, BK101, HB⟩ := hrel
  cases gk with
  | zero => exact absurd HA.out (by simp [impl_lead.l0])
  | succ k1 =>
   have H := HA.out
   clear HA
   simp only [impl_lead.l0] at H
   by_cases c5 : x12_1 < (l0.length : Int)
   ·rw [if_pos c5] at H
    have c5b0 : decide (x12_1 < (l0.length : Int)) = true := decide_eq_true c5
    clear c5
    by_cases c6 : 0 ≤ x12_1
    ·rw [if_pos c6] at H
     have c6b0 : decide (0 ≤ x12_1) = true := decide_eq_true c6
     clear c6
     by_cases c7 : x12_1 < (l0.length : Int)
     ·rw [if_pos c7] at H
      have c7b0 : decide (x12_1 < (l0.length : Int)) = true := decide_eq_true c7
      clear c7
      replace H := Option.bind_eq_some_iff.mp H
      obtain ⟨t104, A80, H⟩ := H
      replace H : (if t104 = true then (if ((rd_T86 l0 x12_1).f0.f1) > x102001_1 then (impl_lead.l0 k1 a1 l0 (l0.length : Int) (wrap64 (x12_1 + 1)) ((rd_T86 l0 x12_1).f0.f0) ((rd_T86 l0 x12_1).f0.f1) ((rd_T86 l0 x12_1).f1)) else (impl_lead.l0 k1 a1 l0 (l0.length : Int) (wrap64 (x12_1 + 1)) x102000_1 x102001_1 x102002_1)) else (impl_lead.l0 k1 a1 l0 (l0.length : Int) (wrap64 (x12_1 + 1)) x102000_1 x102001_1 x102002_1)) = some r := H
      have A8 := Aside0.mk A80
      clear A80
      by_cases c9 : t104 = true
      ·subst c9
       have H1 : (if ((rd_T86 l0 x12_1).f0.f1) > x102001_1 then (impl_lead.l0 k1 a1 l0 (l0.length : Int) (wrap64 (x12_1 + 1)) ((rd_T86 l0 x12_1).f0.f0) ((rd_T86 l0 x12_1).f0.f1) ((rd_T86 l0 x12_1).f1)) else (impl_lead.l0 k1 a1 l0 (l0.length : Int) (wrap64 (x12_1 + 1)) x102000_1 x102001_1 x102002_1)) = some r := by rw [if_pos rfl] at H; exact H
       clear H
       have H := H1
       clear H1
       by_cases c10 : ((rd_T86 l0 x12_1).f0.f1) > x102001_1
       ·rw [if_pos c10] at H
        have c10b0 : decide (x102001_1 < ((rd_T86 l0 x12_1).f0.f1)) = true := decide_eq_true c10
        clear c10
        have H' := Aside0.mk H
        clear H
        have p102 : 0 ≤ (x12_1 : Int) := OD
        have q102 : x12_1 < (l0.length : Int) := OD
        obtain ⟨ad102, e102, hx102_0, hx102_1, hx102_2⟩ := at_T86 HR0.out x12_1 p102 q102
        cases e102
        replace hx102_0 := CX HB.out hx102_0
        replace hx102_1 := CX HB.out hx102_1
        replace hx102_2 := CX HB.out hx102_2
        replace p102 := eq_true p102
        replace q102 := eq_true q102
        go_wp2_with (first | ((with_reducible refine gate_dst (N := 7) rfl ?_); refine box_event rfl (N := 7) rfl (cs := #[.int .i64 0, .int .i64 0, .int .i64 0]) (t := 86) BX ?_; intro gb103 hg w11 hbox hb; have BK103 := am (hbox); have GW103 := am (GH1 HB GE101.out hg); have GE103 := GW103; replace HB := am (below_step (K1 HB GE101.out) hb); have NB101_103 := am (NL BK101 hg); have NB103_101 := am (NG BK101 hg); replace BK101 := am (BB BK101 hb); clear hb hbox hg; have hnb12 := NB103_101.out; have hnc12 := NB101_103.out; obtain ⟨hcz13_0, hcz13_1, hcz13_2, hfz13_0⟩ := y3 w11 BK103.out) | ((with_reducible refine gate_callee (f := 112) rfl ?_); refine goesL_ (some 19) rfl rfl Try.func112 (by kernel_rfl) rfl #[.agg #[.int .i64 ((rd_T86 l0 x12_1).f0.f0), .int .i64 ((rd_T86 l0 x12_1).f0.f1)], .int .i64 a1] rfl MT ?_; (with_reducible refine (impl_Block_has.calls ((rd_T86 l0 x12_1).f0.f0) ((rd_T86 l0 x12_1).f0.f1) a1 true _ A8.out).mono ?_); rintro e w14 ⟨rfl, hb⟩; refine ⟨_, rfl, ?_⟩; replace BK101 := am (blk_below (g := gb101) (o := .cells #[.int .i64 x102000_1, .int .i64 x102001_1, .int .i64 x102002_1] 86 (0, 0)) (by (with_reducible repeat (first | refine blk_drewN ?_ _ | refine blk_drew ?_ | refine blk_alloc ?_ _)); refine blk_far ?_ NB101_103.out _; (with_reducible repeat (first | refine blk_drewN ?_ _ | refine blk_drew ?_ | refine blk_alloc ?_ _)); refine blk_far ?_ NB101_103.out _; (with_reducible repeat (first | refine blk_drewN ?_ _ | refine blk_drew ?_ | refine blk_alloc ?_ _)); refine blk_far ?_ NB101_103.out _; (with_reducible repeat (first | refine blk_drewN ?_ _ | refine blk_drew ?_ | refine blk_alloc ?_ _)); exact BK101.out) hb); replace BK103 := am (blk_below (g := gb103) (o := .cells #[.int .i64 ((rd_T86 l0 x12_1).f0.f0), .int .i64 ((rd_T86 l0 x12_1).f0.f1), .int .i64 ((rd_T86 l0 x12_1).f1)] 86 (0, 0)) (by (with_reducible repeat (first | refine blk_drewN ?_ _ | refine blk_drew ?_ | refine blk_alloc ?_ _)); refine blk_put (cs := #[.int .i64 ((rd_T86 l0 x12_1).f0.f0), .int .i64 ((rd_T86 l0 x12_1).f0.f1), .int .i64 0]) ?_ 2 _ rfl; (with_reducible repeat (first | refine blk_drewN ?_ _ | refine blk_drew ?_ | refine blk_alloc ?_ _)); refine blk_put (cs := #[.int .i64 ((rd_T86 l0 x12_1).f0.f0), .int .i64 0, .int .i64 0]) ?_ 1 _ rfl; (with_reducible repeat (first | refine blk_drewN ?_ _ | refine blk_drew ?_ | refine blk_alloc ?_ _)); refine blk_put (cs := #[.int .i64 0, .int .i64 0, .int .i64 0]) ?_ 0 _ rfl; (with_reducible repeat (first | refine blk_drewN ?_ _ | refine blk_drew ?_ | refine blk_alloc ?_ _)); exact BK103.out) hb); replace HB := am (below_step (K2 HB GE101.out GE103.out) hb); (try clear hb); (try clear hb2); (try clear hk); (try clear hi); obtain ⟨hcz15_0, hcz15_1, hcz15_2, hfz15_0⟩ := y3 w14 BK103.out; obtain ⟨hcz16_0, hcz16_1, hcz16_2, hfz16_0⟩ := y3 w14 BK101.out))
        go_roundg k1
        case measure => have := HK1.out; omega
        case rel => exact ⟨(wrap64 (x12_1 + 1)), ((rd_T86 l0 x12_1).f0.f0), ((rd_T86 l0 x12_1).f0.f1), ((rd_T86 l0 x12_1).f1), (by first | rfl | (simp; done) | (simp [*]; done)), H', ⟨by have := HK1.out; omega⟩, ⟨by (with_reducible repeat (first | refine blk_drewN ?_ _ | refine blk_drew ?_ | refine blk_alloc ?_ _)); refine blk_put (cs := #[.int .i64 ((rd_T86 l0 x12_1).f0.f0), .int .i64 ((rd_T86 l0 x12_1).f0.f1), .int .i64 x102002_1]) ?_ 2 _ rfl; (with_reducible repeat (first | refine blk_drewN ?_ _ | refine blk_drew ?_ | refine blk_alloc ?_ _)); refine blk_put (cs := #[.int .i64 ((rd_T86 l0 x12_1).f0.f0), .int .i64 x102001_1, .int .i64 x102002_1]) ?_ 1 _ rfl; (with_reducible repeat (first | refine blk_drewN ?_ _ | refine blk_drew ?_ | refine blk_alloc ?_ _)); refine blk_put (cs := #[.int .i64 x102000_1, .int .i64 x102001_1, .int .i64 x102002_1]) ?_ 0 _ rfl; (with_reducible repeat (first | refine blk_drewN ?_ _ | refine blk_drew ?_ | refine blk_alloc ?_ _)); exact BK101.out⟩, ⟨K2 HB GE101.out GE103.out⟩⟩
       ·rw [if_neg c10] at H
        have c10b0 : decide (x102001_1 < ((rd_T86 l0 x12_1).f0.f1)) = false := decide_eq_false c10
        clear c10
        have H' := Aside0.mk H
        clear H
        have p102 : 0 ≤ (x12_1 : Int) := OD
        have q102 : x12_1 < (l0.length : Int) := OD
        obtain ⟨ad102, e102, hx102_0, hx102_1, hx102_2⟩ := at_T86 HR0.out x12_1 p102 q102
        cases e102
        replace hx102_0 := CX HB.out hx102_0
        replace hx102_1 := CX HB.out hx102_1
        replace hx102_2 := CX HB.out hx102_2
        replace p102 := eq_true p102
        replace q102 := eq_true q102
        go_wp2_with (first | ((with_reducible refine gate_dst (N := 7) rfl ?_); refine box_event rfl (N := 7) rfl (cs := #[.int .i64 0, .int .i64 0, .int .i64 0]) (t := 86) BX ?_; intro gb103 hg w17 hbox hb; have BK103 := am (hbox); have GW103 := am (GH1 HB GE101.out hg); have GE103 := GW103; replace HB := am (below_step (K1 HB GE101.out) hb); have NB101_103 := am (NL BK101 hg); have NB103_101 := am (NG BK101 hg); replace BK101 := am (BB BK101 hb); clear hb hbox hg; have hnb18 := NB103_101.out; have hnc18 := NB101_103.out; obtain ⟨hcz19_0, hcz19_1, hcz19_2, hfz19_0⟩ := y3 w17 BK103.out) | ((with_reducible refine gate_callee (f := 112) rfl ?_); refine goesL_ (some 19) rfl rfl Try.func112 (by kernel_rfl) rfl #[.agg #[.int .i64 ((rd_T86 l0 x12_1).f0.f0), .int .i64 ((rd_T86 l0 x12_1).f0.f1)], .int .i64 a1] rfl MT ?_; (with_reducible refine (impl_Block_has.calls ((rd_T86 l0 x12_1).f0.f0) ((rd_T86 l0 x12_1).f0.f1) a1 true _ A8.out).mono ?_); rintro e w20 ⟨rfl, hb⟩; refine ⟨_, rfl, ?_⟩; replace BK101 := am (blk_below (g := gb101) (o := .cells #[.int .i64 x102000_1, .int .i64 x102001_1, .int .i64 x102002_1] 86 (0, 0)) (by (with_reducible repeat (first | refine blk_drewN ?_ _ | refine blk_drew ?_ | refine blk_alloc ?_ _)); refine blk_far ?_ NB101_103.out _; (with_reducible repeat (first | refine blk_drewN ?_ _ | refine blk_drew ?_ | refine blk_alloc ?_ _)); refine blk_far ?_ NB101_103.out _; (with_reducible repeat (first | refine blk_drewN ?_ _ | refine blk_drew ?_ | refine blk_alloc ?_ _)); refine blk_far ?_ NB101_103.out _; (with_reducible repeat (first | refine blk_drewN ?_ _ | refine blk_drew ?_ | refine blk_alloc ?_ _)); exact BK101.out) hb); replace BK103 := am (blk_below (g := gb103) (o := .cells #[.int .i64 ((rd_T86 l0 x12_1).f0.f0), .int .i64 ((rd_T86 l0 x12_1).f0.f1), .int .i64 ((rd_T86 l0 x12_1).f1)] 86 (0, 0)) (by (with_reducible repeat (first | refine blk_drewN ?_ _ | refine blk_drew ?_ | refine blk_alloc ?_ _)); refine blk_put (cs := #[.int .i64 ((rd_T86 l0 x12_1).f0.f0), .int .i64 ((rd_T86 l0 x12_1).f0.f1), .int .i64 0]) ?_ 2 _ rfl; (with_reducible repeat (first | refine blk_drewN ?_ _ | refine blk_drew ?_ | refine blk_alloc ?_ _)); refine blk_put (cs := #[.int .i64 ((rd_T86 l0 x12_1).f0.f0), .int .i64 0, .int .i64 0]) ?_ 1 _ rfl; (with_reducible repeat (first | refine blk_drewN ?_ _ | refine blk_drew ?_ | refine blk_alloc ?_ _)); refine blk_put (cs := #[.int .i64 0, .int .i64 0, .int .i64 0]) ?_ 0 _ rfl; (with_reducible repeat (first | refine blk_drewN ?_ _ | refine blk_drew ?_ | refine blk_alloc ?_ _)); exact BK103.out) hb); replace HB := am (below_step (K2 HB GE101.out GE103.out) hb); (try clear hb); (try clear hb2); (try clear hk); (try clear hi); obtain ⟨hcz21_0, hcz21_1, hcz21_2, hfz21_0⟩ := y3 w20 BK103.out; obtain ⟨hcz22_0, hcz22_1, hcz22_2, hfz22_0⟩ := y3 w20 BK101.out))
        go_roundg k1
        case measure => have := HK1.out; omega
        case rel => exact ⟨(wrap64 (x12_1 + 1)), (x102000_1), (x102001_1), (x102002_1), (by first | rfl | (simp; done) | (simp [*]; done)), H', ⟨by have := HK1.out; omega⟩, ⟨KB BK101⟩, ⟨K2 HB GE101.out GE103.out⟩⟩
      ·replace c9 := Bool.eq_false_iff.mpr c9
       subst c9
       have H1 : (impl_lead.l0 k1 a1 l0 (l0.length : Int) (wrap64 (x12_1 + 1)) x102000_1 x102001_1 x102002_1) = some r := by rw [if_neg (show ¬ (false = true) by decide)] at H; exact H
       clear H
       have H := H1
       clear H1
       have H' := Aside0.mk H
       clear H
       have p102 : 0 ≤ (x12_1 : Int) := OD
       have q102 : x12_1 < (l0.length : Int) := OD
       obtain ⟨ad102, e102, hx102_0, hx102_1, hx102_2⟩ := at_T86 HR0.out x12_1 p102 q102
       cases e102
       replace hx102_0 := CX HB.out hx102_0
       replace hx102_1 := CX HB.out hx102_1
       replace hx102_2 := CX HB.out hx102_2
       replace p102 := eq_true p102
       replace q102 := eq_true q102
       go_wp2_with (first | ((with_reducible refine gate_dst (N := 7) rfl ?_); refine box_event rfl (N := 7) rfl (cs := #[.int .i64 0, .int .i64 0, .int .i64 0]) (t := 86) BX ?_; intro gb103 hg w23 hbox hb; have BK103 := am (hbox); have GW103 := am (GH1 HB GE101.out hg); have GE103 := GW103; replace HB := am (below_step (K1 HB GE101.out) hb); have NB101_103 := am (NL BK101 hg); have NB103_101 := am (NG BK101 hg); replace BK101 := am (BB BK101 hb); clear hb hbox hg; have hnb24 := NB103_101.out; have hnc24 := NB101_103.out; obtain ⟨hcz25_0, hcz25_1, hcz25_2, hfz25_0⟩ := y3 w23 BK103.out) | ((with_reducible refine gate_callee (f := 112) rfl ?_); refine goesL_ (some 19) rfl rfl Try.func112 (by kernel_rfl) rfl #[.agg #[.int .i64 ((rd_T86 l0 x12_1).f0.f0), .int .i64 ((rd_T86 l0 x12_1).f0.f1)], .int .i64 a1] rfl MT ?_; (with_reducible refine (impl_Block_has.calls ((rd_T86 l0 x12_1).f0.f0) ((rd_T86 l0 x12_1).f0.f1) a1 false _ A8.out).mono ?_); rintro e w26 ⟨rfl, hb⟩; refine ⟨_, rfl, ?_⟩; replace BK101 := am (blk_below (g := gb101) (o := .cells #[.int .i64 x102000_1, .int .i64 x102001_1, .int .i64 x102002_1] 86 (0, 0)) (by (with_reducible repeat (first | refine blk_drewN ?_ _ | refine blk_drew ?_ | refine blk_alloc ?_ _)); refine blk_far ?_ NB101_103.out _; (with_reducible repeat (first | refine blk_drewN ?_ _ | refine blk_drew ?_ | refine blk_alloc ?_ _)); refine blk_far ?_ NB101_103.out _; (with_reducible repeat (first | refine blk_drewN ?_ _ | refine blk_drew ?_ | refine blk_alloc ?_ _)); refine blk_far ?_ NB101_103.out _; (with_reducible repeat (first | refine blk_drewN ?_ _ | refine blk_drew ?_ | refine blk_alloc ?_ _)); exact BK101.out) hb); replace BK103 := am (blk_below (g := gb103) (o := .cells #[.int .i64 ((rd_T86 l0 x12_1).f0.f0), .int .i64 ((rd_T86 l0 x12_1).f0.f1), .int .i64 ((rd_T86 l0 x12_1).f1)] 86 (0, 0)) (by (with_reducible repeat (first | refine blk_drewN ?_ _ | refine blk_drew ?_ | refine blk_alloc ?_ _)); refine blk_put (cs := #[.int .i64 ((rd_T86 l0 x12_1).f0.f0), .int .i64 ((rd_T86 l0 x12_1).f0.f1), .int .i64 0]) ?_ 2 _ rfl; (with_reducible repeat (first | refine blk_drewN ?_ _ | refine blk_drew ?_ | refine blk_alloc ?_ _)); refine blk_put (cs := #[.int .i64 ((rd_T86 l0 x12_1).f0.f0), .int .i64 0, .int .i64 0]) ?_ 1 _ rfl; (with_reducible repeat (first | refine blk_drewN ?_ _ | refine blk_drew ?_ | refine blk_alloc ?_ _)); refine blk_put (cs := #[.int .i64 0, .int .i64 0, .int .i64 0]) ?_ 0 _ rfl; (with_reducible repeat (first | refine blk_drewN ?_ _ | refine blk_drew ?_ | refine blk_alloc ?_ _)); exact BK103.out) hb); replace HB := am (below_step (K2 HB GE101.out GE103.out) hb); (try clear hb); (try clear hb2); (try clear hk); (try clear hi)))
       go_roundg k1
       case measure => have := HK1.out; omega
       case rel => exact ⟨(wrap64 (x12_1 + 1)), (x102000_1), (x102001_1), (x102002_1), (by first | rfl | (simp; done) | (simp [*]; done)), H', ⟨by have := HK1.out; omega⟩, ⟨KB BK101⟩, ⟨K2 HB GE101.out GE103.out⟩⟩
     ·rw [if_neg c7] at H
      exact absurd H (by simp)
    ·rw [if_neg c6] at H
     exact absurd H (by simp)
   ·rw [if_neg c5] at H
    have c5b0 : decide (x12_1 < (l0.length : Int)) = false := decide_eq_false c5
    clear c5
    obtain rfl := Option.some.inj H
    obtain ⟨hcz27_0, hcz27_1, hcz27_2, hfz27_0⟩ := y3 wr BK101.out
    go_wp2
    go_ret
    exact ⟨ER, K1 HB GE101.out⟩
def impl_BlockOk.f (a0_0 : Int) (a0_1 : Int) : Option (Bool) := (impl_isAddr.f a0_0).bind fun t102 => (if t102 = true then ((impl_in.f a0_1 0 32).bind fun t103 => (if t103 = true then ((impl_Block_size.f a0_0 a0_1).bind fun t104 => (if t104 = 0 then (none) else (some ((Int.tmod a0_0 t104) == 0)))) else (some false))) else (some false))
def impl_BlockOk.T1 : Bool × List (List Nat × List Nat) := (true, [([], []), ([0], [0]), ([1], [1]), ([2, 2], [2]), ([3], [3]), ([4, 3], [3, 4]), ([5, 3, 3], [3, 5]), ([3, 6], [3, 6]), ([7, 6], [7]), ([8], [8]), ([9, 8], [8, 9]), ([8], [8]), ([11, 8, 8], [8, 11]), ([10, 12, 8], [8, 10, 12]), ([13, 8], [8, 13]), ([8, 14], [8, 14]), ([15, 12, 0, 1, 2, 3, 4, 5, 6, 7, 8, 9, 10, 11, 12, 13, 14, 15], [15])])
def impl_BlockOk.B1 : List Nat := [0, 1, 3, 7, 15, 31, 63, 127, 255, 511, 1023, 511, 2559, 8191, 16383, 32767, 65535]
theorem impl_BlockOk.tab1 : rtab .any (opsOf Try.f111 1) = impl_BlockOk.T1 := by kernel_rfl
theorem impl_BlockOk.bits1 : waitsOk impl_BlockOk.T1.2 impl_BlockOk.B1 = true := by kernel_rfl
set_option maxHeartbeats 8000000 in
set_option maxRecDepth 100000 in
theorem impl_BlockOk.calls (a0_0 : Int) (a0_1 : Int) (r : Bool) (w : World) (h : impl_BlockOk.f a0_0 a0_1 = some r) :
  Calls Try.prog 111 #[.agg #[.int .i64 a0_0, .int .i64 a0_1]] w fun e w' => e = .returned (.bool r) ∧ Below w.heap.size w w' := by
 have hu32 := Try.underlying32
 have HB := am (Below.refl w.heap.size w)
 have H : ((impl_isAddr.f a0_0).bind fun t102 => (if t102 = true then ((impl_in.f a0_1 0 32).bind fun t103 => (if t103 = true then ((impl_Block_size.f a0_0 a0_1).bind fun t104 => (if t104 = 0 then (none) else (some ((Int.tmod a0_0 t104) == 0)))) else (some false))) else (some false))) = some r := h
 clear h
 replace H := Option.bind_eq_some_iff.mp H
 obtain ⟨t102, A20, H⟩ := H
 replace H : (if t102 = true then ((impl_in.f a0_1 0 32).bind fun t103 => (if t103 = true then ((impl_Block_size.f a0_0 a0_1).bind fun t104 => (if t104 = 0 then (none) else (some ((Int.tmod a0_0 t104) == 0)))) else (some false))) else (some false)) = some r := H
 have A2 := Aside0.mk A20
 clear A20
 by_cases c3 : t102 = true
 ·subst c3
  have H1 : ((impl_in.f a0_1 0 32).bind fun t103 => (if t103 = true then ((impl_Block_size.f a0_0 a0_1).bind fun t104 => (if t104 = 0 then (none) else (some ((Int.tmod a0_0 t104) == 0)))) else (some false))) = some r := by rw [if_pos rfl] at H; exact H
  clear H
  have H := H1
  clear H1
  replace H := Option.bind_eq_some_iff.mp H
  obtain ⟨t103, A40, H⟩ := H
  replace H : (if t103 = true then ((impl_Block_size.f a0_0 a0_1).bind fun t104 => (if t104 = 0 then (none) else (some ((Int.tmod a0_0 t104) == 0)))) else (some false)) = some r := H
  have A4 := Aside0.mk A40
  clear A40
  by_cases c5 : t103 = true
  ·subst c5
   have H1 : ((impl_Block_size.f a0_0 a0_1).bind fun t104 => (if t104 = 0 then (none) else (some ((Int.tmod a0_0 t104) == 0)))) = some r := by rw [if_pos rfl] at H; exact H
   clear H
   have H := H1
   clear H1
   replace H := Option.bind_eq_some_iff.mp H
   obtain ⟨t104, A60, H⟩ := H
   replace H : (if t104 = 0 then (none) else (some ((Int.tmod a0_0 t104) == 0))) = some r := H
   have A6 := Aside0.mk A60
   clear A60
   by_cases c7 : t104 = 0
   ·rw [if_pos c7] at H
    exact absurd H (by simp)
   ·rw [if_neg c7] at H
    have c7b0 : (t104 == 0) = false := beq_eq_false_iff_ne.mpr c7
    have c7b1 : (t104 != 0) = true := bne_iff_ne.mpr c7
    obtain rfl := Option.some.inj H
    go_enter Try.func111, Try.ntmps111
    try go_wp2_with (first | ((with_reducible refine gate_dst (N := 1) rfl ?_); refine box_event rfl (N := 1) rfl (cs := #[.int .i64 a0_0, .int .i64 a0_1]) (t := 32) BX ?_; intro gb101 hg w8 hbox hb; have BK101 := am (hbox); have GW101 := am (GH HB hg); have GE101 := GW101; replace HB := am (below_step (KL HB) hb); clear hb hbox hg))
    replace BK101 := am (blk_drew BK101.out)
    replace HB := am (below_drew1 HB.out)
    refine start_ (n := 17) (S := fun w' => de2 w' gb101 (.int .i64 a0_0) (.int .i64 a0_1)) (ds := []) (tf 0 17) (by kernel_rfl) rfl rfl ⟨z0 _ BK101.out, z1 _ BK101.out⟩ (fun hHeld => ?_); refine with_tabW impl_BlockOk.tab1 impl_BlockOk.bits1 (fun HT_ HW_ => ?_)
    generalize w8.drew = w9 at BK101 HB hHeld ⊢
    refine pv HT_ 0 3 (tf 1 16) ?_
    refine tk 1 (some 4) (tf 2 15) (take_ofW HT_.out HW_.out (by kernel_rfl)) hHeld ?_
    refine one_ (i := 2) (N := some 5) (tf 3 14) rfl rfl (one_of HT_.out (by kernel_rfl)) (by decide) (fun K hK => ?_)
    refine goes_ Try.func106 (by kernel_rfl) rfl #[.int .i64 a0_0] (by rfl) rfl rfl MT ?_
    with_reducible refine (impl_isAddr.calls a0_0 true _ A2.out).mono ?_
    rintro e w' ⟨rfl, ⟨nd, rfl⟩⟩
    refine ⟨_, rfl, ?_⟩
    refine hK.out _ _ ⟨z0 _ BK101.out, z1 _ BK101.out⟩ (fun hHeld => ?_)
    clear hK K
    refine norm_ (a' := ?_) ?_ ?_
    rotate_left
    ·show Act.put _ (some 5) _ = _
     simp only [Act.put, List.setIfInBounds_toArray, List.set_cons_zero, List.set_cons_succ, i64_w, i32_w]
     rfl
    refine pv HT_ 3 6 (tf 4 13) ?_
    refine pv HT_ 4 7 (tf 5 12) ?_
    refine tk 5 (some 8) (tf 6 11) (take_ofW HT_.out HW_.out (by kernel_rfl)) hHeld ?_
    refine one_ (i := 6) (N := some 9) (tf 7 10) rfl rfl (one_of HT_.out (by kernel_rfl)) (by decide) (fun K hK => ?_)
    refine goes_ Try.func85 (by kernel_rfl) rfl #[.int .i64 a0_1, .int .i64 0, .int .i64 32] (by rfl) rfl rfl MT ?_
    with_reducible refine (impl_in.calls a0_1 0 32 true _ A4.out).mono ?_
    rintro e w' ⟨rfl, ⟨nd, rfl⟩⟩
    refine ⟨_, rfl, ?_⟩
    refine hK.out _ _ ⟨z0 _ BK101.out, z1 _ BK101.out⟩ (fun hHeld => ?_)
    clear hK K
    refine norm_ (a' := ?_) ?_ ?_
    rotate_left
    ·show Act.put _ (some 9) _ = _
     simp only [Act.put, List.setIfInBounds_toArray, List.set_cons_zero, List.set_cons_succ, i64_w, i32_w]
     rfl
    refine pv HT_ 7 10 (tf 8 9) ?_
    refine pv HT_ 8 11 (tf 9 8) ?_
    refine pv HT_ 9 12 (tf 10 7) ?_
    refine tk 10 (some 13) (tf 11 6) (take_ofW HT_.out HW_.out (by kernel_rfl)) hHeld ?_
    refine tk 11 (some 14) (tf 12 5) (take_ofW HT_.out HW_.out (by kernel_rfl)) hHeld ?_
    refine one_ (i := 12) (N := some 15) (tf 13 4) rfl rfl (one_of HT_.out (by kernel_rfl)) (by decide) (fun K hK => ?_)
    refine goes_ Try.func113 (by kernel_rfl) rfl #[.agg #[.int .i64 a0_0, .int .i64 a0_1]] (by rfl) rfl rfl MT ?_
    with_reducible refine (impl_Block_size.calls a0_0 a0_1 t104 _ A6.out).mono ?_
    rintro e w10 ⟨rfl, hb⟩
    refine ⟨_, rfl, ?_⟩
    replace BK101 := am (BB BK101 hb)
    replace HB := am (below_step (K1 HB GE101.out) hb)
    (try clear hb)
    (try clear hb2)
    (try clear hk)
    (try clear hi)
    refine hK.out _ _ ⟨z0 _ BK101.out, z1 _ BK101.out⟩ (fun hHeld => ?_)
    clear hK K
    refine norm_ (a' := ?_) ?_ ?_
    rotate_left
    ·show Act.put _ (some 15) _ = _
     simp only [Act.put, List.setIfInBounds_toArray, List.set_cons_zero, List.set_cons_succ, i64_w, i32_w]
     rfl
    refine pv HT_ 13 16 (tf 14 3) ?_
    refine pv HT_ 14 17 (tf 15 2) ?_
    refine pv HT_ 15 18 (tf 16 1) ?_
    refine pv HT_ 16 2 (tf 17 0) ?_
    refine done_ (done_of HT_.out (by kernel_rfl)) ?_
    try go_wp2
    go_ret
    exact ⟨ER, K1 HB GE101.out⟩
  ·replace c5 := Bool.eq_false_iff.mpr c5
   subst c5
   have H1 : (some false) = some r := by rw [if_neg (show ¬ (false = true) by decide)] at H; exact H
   clear H
   have H := H1
   clear H1
   obtain rfl := Option.some.inj H
   go_enter Try.func111, Try.ntmps111
   try go_wp2_with (first | ((with_reducible refine gate_dst (N := 1) rfl ?_); refine box_event rfl (N := 1) rfl (cs := #[.int .i64 a0_0, .int .i64 a0_1]) (t := 32) BX ?_; intro gb101 hg w11 hbox hb; have BK101 := am (hbox); have GW101 := am (GH HB hg); have GE101 := GW101; replace HB := am (below_step (KL HB) hb); clear hb hbox hg))
   replace BK101 := am (blk_drew BK101.out)
   replace HB := am (below_drew1 HB.out)
   refine start_ (n := 17) (S := fun w' => de2 w' gb101 (.int .i64 a0_0) (.int .i64 a0_1)) (ds := []) (tf 0 17) (by kernel_rfl) rfl rfl ⟨z0 _ BK101.out, z1 _ BK101.out⟩ (fun hHeld => ?_); refine with_tabW impl_BlockOk.tab1 impl_BlockOk.bits1 (fun HT_ HW_ => ?_)
   generalize w11.drew = w12 at BK101 HB hHeld ⊢
   refine pv HT_ 0 3 (tf 1 16) ?_
   refine tk 1 (some 4) (tf 2 15) (take_ofW HT_.out HW_.out (by kernel_rfl)) hHeld ?_
   refine one_ (i := 2) (N := some 5) (tf 3 14) rfl rfl (one_of HT_.out (by kernel_rfl)) (by decide) (fun K hK => ?_)
   refine goes_ Try.func106 (by kernel_rfl) rfl #[.int .i64 a0_0] (by rfl) rfl rfl MT ?_
   with_reducible refine (impl_isAddr.calls a0_0 true _ A2.out).mono ?_
   rintro e w' ⟨rfl, ⟨nd, rfl⟩⟩
   refine ⟨_, rfl, ?_⟩
   refine hK.out _ _ ⟨z0 _ BK101.out, z1 _ BK101.out⟩ (fun hHeld => ?_)
   clear hK K
   refine norm_ (a' := ?_) ?_ ?_
   rotate_left
   ·show Act.put _ (some 5) _ = _
    simp only [Act.put, List.setIfInBounds_toArray, List.set_cons_zero, List.set_cons_succ, i64_w, i32_w]
    rfl
   refine pv HT_ 3 6 (tf 4 13) ?_
   refine pv HT_ 4 7 (tf 5 12) ?_
   refine tk 5 (some 8) (tf 6 11) (take_ofW HT_.out HW_.out (by kernel_rfl)) hHeld ?_
   refine one_ (i := 6) (N := some 9) (tf 7 10) rfl rfl (one_of HT_.out (by kernel_rfl)) (by decide) (fun K hK => ?_)
   refine goes_ Try.func85 (by kernel_rfl) rfl #[.int .i64 a0_1, .int .i64 0, .int .i64 32] (by rfl) rfl rfl MT ?_
   with_reducible refine (impl_in.calls a0_1 0 32 false _ A4.out).mono ?_
   rintro e w' ⟨rfl, ⟨nd, rfl⟩⟩
   refine ⟨_, rfl, ?_⟩
   refine hK.out _ _ ⟨z0 _ BK101.out, z1 _ BK101.out⟩ (fun hHeld => ?_)
   clear hK K
   refine norm_ (a' := ?_) ?_ ?_
   rotate_left
   ·show Act.put _ (some 9) _ = _
    simp only [Act.put, List.setIfInBounds_toArray, List.set_cons_zero, List.set_cons_succ, i64_w, i32_w]
    rfl
   refine pv HT_ 7 10 (tf 8 9) ?_
   refine pv HT_ 8 11 (tf 9 8) ?_
   refine pw HT_ 9 12 (tf 10 7) ?_
   refine pw HT_ 10 13 (tf 11 6) ?_
   refine pw HT_ 11 14 (tf 12 5) ?_
   refine pw HT_ 12 15 (tf 13 4) ?_
   refine pw HT_ 13 16 (tf 14 3) ?_
   refine pw HT_ 14 17 (tf 15 2) ?_
   refine pv HT_ 15 18 (tf 16 1) ?_
   refine pv HT_ 16 2 (tf 17 0) ?_
   refine done_ (done_of HT_.out (by kernel_rfl)) ?_
   try go_wp2
   go_ret
   exact ⟨ER, K1 HB GE101.out⟩
 ·replace c3 := Bool.eq_false_iff.mpr c3
  subst c3
  have H1 : (some false) = some r := by rw [if_neg (show ¬ (false = true) by decide)] at H; exact H
  clear H
  have H := H1
  clear H1
  obtain rfl := Option.some.inj H
  go_enter Try.func111, Try.ntmps111
  try go_wp2_with (first | ((with_reducible refine gate_dst (N := 1) rfl ?_); refine box_event rfl (N := 1) rfl (cs := #[.int .i64 a0_0, .int .i64 a0_1]) (t := 32) BX ?_; intro gb101 hg w13 hbox hb; have BK101 := am (hbox); have GW101 := am (GH HB hg); have GE101 := GW101; replace HB := am (below_step (KL HB) hb); clear hb hbox hg))
  replace BK101 := am (blk_drew BK101.out)
  replace HB := am (below_drew1 HB.out)
  refine start_ (n := 17) (S := fun w' => de2 w' gb101 (.int .i64 a0_0) (.int .i64 a0_1)) (ds := []) (tf 0 17) (by kernel_rfl) rfl rfl ⟨z0 _ BK101.out, z1 _ BK101.out⟩ (fun hHeld => ?_); refine with_tabW impl_BlockOk.tab1 impl_BlockOk.bits1 (fun HT_ HW_ => ?_)
  generalize w13.drew = w14 at BK101 HB hHeld ⊢
  refine pv HT_ 0 3 (tf 1 16) ?_
  refine tk 1 (some 4) (tf 2 15) (take_ofW HT_.out HW_.out (by kernel_rfl)) hHeld ?_
  refine one_ (i := 2) (N := some 5) (tf 3 14) rfl rfl (one_of HT_.out (by kernel_rfl)) (by decide) (fun K hK => ?_)
  refine goes_ Try.func106 (by kernel_rfl) rfl #[.int .i64 a0_0] (by rfl) rfl rfl MT ?_
  with_reducible refine (impl_isAddr.calls a0_0 false _ A2.out).mono ?_
  rintro e w' ⟨rfl, ⟨nd, rfl⟩⟩
  refine ⟨_, rfl, ?_⟩
  refine hK.out _ _ ⟨z0 _ BK101.out, z1 _ BK101.out⟩ (fun hHeld => ?_)
  clear hK K
  refine norm_ (a' := ?_) ?_ ?_
  rotate_left
  ·show Act.put _ (some 5) _ = _
   simp only [Act.put, List.setIfInBounds_toArray, List.set_cons_zero, List.set_cons_succ, i64_w, i32_w]
   rfl
  refine pv HT_ 3 6 (tf 4 13) ?_
  refine pw HT_ 4 7 (tf 5 12) ?_
  refine pw HT_ 5 8 (tf 6 11) ?_
  refine pw HT_ 6 9 (tf 7 10) ?_
  refine pv HT_ 7 10 (tf 8 9) ?_
  refine pv HT_ 8 11 (tf 9 8) ?_
  refine pw HT_ 9 12 (tf 10 7) ?_
  refine pw HT_ 10 13 (tf 11 6) ?_
  refine pw HT_ 11 14 (tf 12 5) ?_
  refine pw HT_ 12 15 (tf 13 4) ?_
  refine pw HT_ 13 16 (tf 14 3) ?_
  refine pw HT_ 14 17 (tf 15 2) ?_
  refine pv HT_ 15 18 (tf 16 1) ?_
  refine pv HT_ 16 2 (tf 17 0) ?_
  refine done_ (done_of HT_.out (by kernel_rfl)) ?_
  try go_wp2
  go_ret
  exact ⟨ER, K1 HB GE101.out⟩
def cmp_Or_int.l0 : Nat → Int → List Int → Int → Int → Option (Int)
 | 0, _, _, _, _ => none
 | k + 1, x3, x6, x7, x8 => if x8 < x7 then (if 0 ≤ x8 then (if x8 < (x6.length : Int) then (if (rd x6 x8) = x3 then (cmp_Or_int.l0 k x3 x6 x7 (wrap64 (x8 + 1))) else (some (rd x6 x8))) else (none)) else (none)) else (some x3)
def cmp_Or_int.f (k : Nat) (l0 : List Int) : Option (Int) := cmp_Or_int.l0 k 0 l0 (l0.length : Int) 0
set_option maxHeartbeats 8000000 in
set_option maxRecDepth 100000 in
theorem cmp_Or_int.calls (k : Nat) (A0 : Option Addr) (c0 : Nat) (l0 : List Int) (r : Int) (w : World) (hr0 : Kd.C (Kd.int .i64) w A0 l0.length l0) (hc0 : l0.length ≤ c0) (h : cmp_Or_int.f k l0 = some r) :
  Calls Try.prog 140 #[.slice A0 l0.length c0] w fun e w' => e = .returned (.int .i64 r) ∧ Drawn0 w w' := by
 have HR0 := Aside0.mk hr0
 have HC0 := Aside0.mk hc0
 clear hr0 hc0
 have H : (cmp_Or_int.l0 k 0 l0 (l0.length : Int) 0) = some r := h
 clear h
 have H' := Aside0.mk H
 clear H
 go_enter Try.func140, Try.ntmps140
 go_wp2
 go_loopg [8] k (fun kq v8 w' => ∃ (x8_1 : Int), v8 = .int .i64 x8_1 ∧ Aside0 (cmp_Or_int.l0 kq 0 l0 (l0.length : Int) x8_1 = some r) ∧ Aside0 (kq ≤ k) ∧ Drawn0 w w')
 case atStart => exact ⟨(0), (by first | rfl | (simp; done) | (simp [*]; done)), H', ⟨Nat.le_refl _⟩, by repeat (first | exact Drawn0.refl _ | apply Drawn0.step)⟩
 case round =>
  clear H'
  try clear c1
  obtain ⟨x8_1, rfl, HA, HK1, ⟨m1, rfl⟩⟩ := hrel
  cases gk with
  | zero => exact absurd HA.out (by simp [cmp_Or_int.l0])
  | succ k1 =>
   have H := HA.out
   clear HA
   simp only [cmp_Or_int.l0] at H
   by_cases c2 : x8_1 < (l0.length : Int)
   ·rw [if_pos c2] at H
    have c2b0 : decide (x8_1 < (l0.length : Int)) = true := decide_eq_true c2
    clear c2
    by_cases c3 : 0 ≤ x8_1
    ·rw [if_pos c3] at H
     have c3b0 : decide (0 ≤ x8_1) = true := decide_eq_true c3
     clear c3
     by_cases c4 : x8_1 < (l0.length : Int)
     ·rw [if_pos c4] at H
      have c4b0 : decide (x8_1 < (l0.length : Int)) = true := decide_eq_true c4
      clear c4
      by_cases c5 : (rd l0 x8_1) = 0
      ·rw [if_pos c5] at H
       have c5b0 : ((rd l0 x8_1) == 0) = true := beq_iff_eq.mpr c5
       have c5b1 : ((rd l0 x8_1) != 0) = false := bne_eq_false_iff_eq.mpr c5
       clear c5
       have H' := Aside0.mk H
       clear H
       have p101 : 0 ≤ (x8_1 : Int) := OD
       have q101 : x8_1 < (l0.length : Int) := OD
       obtain ⟨ad101, e101, hx101_0⟩ := Kd.at_int HR0.out x8_1 p101 q101
       cases e101
       replace p101 := eq_true p101
       replace q101 := eq_true q101
       go_wp2
       go_roundg k1
       case measure => have := HK1.out; omega
       case rel => exact ⟨(wrap64 (x8_1 + 1)), (by first | rfl | (simp; done) | (simp [*]; done)), H', ⟨by have := HK1.out; omega⟩, by repeat (first | exact Drawn0.refl _ | apply Drawn0.step)⟩
      ·rw [if_neg c5] at H
       have c5b0 : ((rd l0 x8_1) == 0) = false := beq_eq_false_iff_ne.mpr c5
       have c5b1 : ((rd l0 x8_1) != 0) = true := bne_iff_ne.mpr c5
       obtain rfl := Option.some.inj H
       have p101 : 0 ≤ (x8_1 : Int) := OD
       have q101 : x8_1 < (l0.length : Int) := OD
       obtain ⟨ad101, e101, hx101_0⟩ := Kd.at_int HR0.out x8_1 p101 q101
       cases e101
       replace p101 := eq_true p101
       replace q101 := eq_true q101
       go_wp2
       go_ret
       exact ⟨by first | rfl | (simp; done) | (simp [*]; done), by repeat (first | exact Drawn0.refl _ | apply Drawn0.step)⟩
     ·rw [if_neg c4] at H
      exact absurd H (by simp)
    ·rw [if_neg c3] at H
     exact absurd H (by simp)
   ·rw [if_neg c2] at H
    have c2b0 : decide (x8_1 < (l0.length : Int)) = false := decide_eq_false c2
    clear c2
    obtain rfl := Option.some.inj H
    go_wp2
    go_ret
    exact ⟨by first | rfl | (simp; done) | (simp [*]; done), by repeat (first | exact Drawn0.refl _ | apply Drawn0.step)⟩
def cmp_Compare_int.f (a0 : Int) (a1 : Int) : Option (Int) := (cmp_isNaN_int.f a0).bind fun t101 => ((cmp_isNaN_int.f a1).bind fun t102 => (if t101 = true then (if t102 = true then (some 0) else (some (-1))) else (if t102 = true then (some 1) else (if a0 < a1 then (some (-1)) else (if a0 > a1 then (some 1) else (some 0))))))
set_option maxHeartbeats 8000000 in
set_option maxRecDepth 100000 in
theorem cmp_Compare_int.calls (a0 : Int) (a1 : Int) (r : Int) (w : World) (h : cmp_Compare_int.f a0 a1 = some r) :
  Calls Try.prog 141 #[.int .i64 a0, .int .i64 a1] w fun e w' => e = .returned (.int .i64 r) ∧ Drawn0 w w' := by
 have H : ((cmp_isNaN_int.f a0).bind fun t101 => ((cmp_isNaN_int.f a1).bind fun t102 => (if t101 = true then (if t102 = true then (some 0) else (some (-1))) else (if t102 = true then (some 1) else (if a0 < a1 then (some (-1)) else (if a0 > a1 then (some 1) else (some 0))))))) = some r := h
 clear h
 replace H := Option.bind_eq_some_iff.mp H
 obtain ⟨t101, A30, H⟩ := H
 replace H : ((cmp_isNaN_int.f a1).bind fun t102 => (if t101 = true then (if t102 = true then (some 0) else (some (-1))) else (if t102 = true then (some 1) else (if a0 < a1 then (some (-1)) else (if a0 > a1 then (some 1) else (some 0)))))) = some r := H
 have A3 := Aside0.mk A30
 clear A30
 replace H := Option.bind_eq_some_iff.mp H
 obtain ⟨t102, A40, H⟩ := H
 replace H : (if t101 = true then (if t102 = true then (some 0) else (some (-1))) else (if t102 = true then (some 1) else (if a0 < a1 then (some (-1)) else (if a0 > a1 then (some 1) else (some 0))))) = some r := H
 have A4 := Aside0.mk A40
 clear A40
 by_cases c5 : t101 = true
 ·subst c5
  have H1 : (if t102 = true then (some 0) else (some (-1))) = some r := by rw [if_pos rfl] at H; exact H
  clear H
  have H := H1
  clear H1
  by_cases c6 : t102 = true
  ·subst c6
   have H1 : (some 0) = some r := by rw [if_pos rfl] at H; exact H
   clear H
   have H := H1
   clear H1
   obtain rfl := Option.some.inj H
   go_enter Try.func141, Try.ntmps141
   go_wp2_with (first | ((with_reducible refine gate_callee (f := 149) rfl ?_); refine goesL_ (some 8) rfl rfl Try.func149 (by kernel_rfl) rfl #[.int .i64 a0] rfl MT ?_; (with_reducible refine (cmp_isNaN_int.calls a0 true _ A3.out).mono ?_); rintro e w' ⟨rfl, ⟨nd, rfl⟩⟩; refine ⟨_, rfl, ?_⟩) | ((with_reducible refine gate_callee (f := 149) rfl ?_); refine goesL_ (some 10) rfl rfl Try.func149 (by kernel_rfl) rfl #[.int .i64 a1] rfl MT ?_; (with_reducible refine (cmp_isNaN_int.calls a1 true _ A4.out).mono ?_); rintro e w' ⟨rfl, ⟨nd, rfl⟩⟩; refine ⟨_, rfl, ?_⟩))
   go_ret
   exact ⟨by first | rfl | (simp; done) | (simp [*]; done), by repeat (first | exact Drawn0.refl _ | apply Drawn0.step)⟩
  ·replace c6 := Bool.eq_false_iff.mpr c6
   subst c6
   have H1 : (some (-1)) = some r := by rw [if_neg (show ¬ (false = true) by decide)] at H; exact H
   clear H
   have H := H1
   clear H1
   obtain rfl := Option.some.inj H
   go_enter Try.func141, Try.ntmps141
   go_wp2_with (first | ((with_reducible refine gate_callee (f := 149) rfl ?_); refine goesL_ (some 8) rfl rfl Try.func149 (by kernel_rfl) rfl #[.int .i64 a0] rfl MT ?_; (with_reducible refine (cmp_isNaN_int.calls a0 true _ A3.out).mono ?_); rintro e w' ⟨rfl, ⟨nd, rfl⟩⟩; refine ⟨_, rfl, ?_⟩) | ((with_reducible refine gate_callee (f := 149) rfl ?_); refine goesL_ (some 10) rfl rfl Try.func149 (by kernel_rfl) rfl #[.int .i64 a1] rfl MT ?_; (with_reducible refine (cmp_isNaN_int.calls a1 false _ A4.out).mono ?_); rintro e w' ⟨rfl, ⟨nd, rfl⟩⟩; refine ⟨_, rfl, ?_⟩))
   go_ret
   exact ⟨by first | rfl | (simp; done) | (simp [*]; done), by repeat (first | exact Drawn0.refl _ | apply Drawn0.step)⟩
 ·replace c5 := Bool.eq_false_iff.mpr c5
  subst c5
  have H1 : (if t102 = true then (some 1) else (if a0 < a1 then (some (-1)) else (if a0 > a1 then (some 1) else (some 0)))) = some r := by rw [if_neg (show ¬ (false = true) by decide)] at H; exact H
  clear H
  have H := H1
  clear H1
  by_cases c7 : t102 = true
  ·subst c7
   have H1 : (some 1) = some r := by rw [if_pos rfl] at H; exact H
   clear H
   have H := H1
   clear H1
   obtain rfl := Option.some.inj H
   go_enter Try.func141, Try.ntmps141
   go_wp2_with (first | ((with_reducible refine gate_callee (f := 149) rfl ?_); refine goesL_ (some 8) rfl rfl Try.func149 (by kernel_rfl) rfl #[.int .i64 a0] rfl MT ?_; (with_reducible refine (cmp_isNaN_int.calls a0 false _ A3.out).mono ?_); rintro e w' ⟨rfl, ⟨nd, rfl⟩⟩; refine ⟨_, rfl, ?_⟩) | ((with_reducible refine gate_callee (f := 149) rfl ?_); refine goesL_ (some 10) rfl rfl Try.func149 (by kernel_rfl) rfl #[.int .i64 a1] rfl MT ?_; (with_reducible refine (cmp_isNaN_int.calls a1 true _ A4.out).mono ?_); rintro e w' ⟨rfl, ⟨nd, rfl⟩⟩; refine ⟨_, rfl, ?_⟩))
   go_ret
   exact ⟨by first | rfl | (simp; done) | (simp [*]; done), by repeat (first | exact Drawn0.refl _ | apply Drawn0.step)⟩
  ·replace c7 := Bool.eq_false_iff.mpr c7
   subst c7
   have H1 : (if a0 < a1 then (some (-1)) else (if a0 > a1 then (some 1) else (some 0))) = some r := by rw [if_neg (show ¬ (false = true) by decide)] at H; exact H
   clear H
   have H := H1
   clear H1
   by_cases c8 : a0 < a1
   ·rw [if_pos c8] at H
    have c8b0 : decide (a0 < a1) = true := decide_eq_true c8
    clear c8
    obtain rfl := Option.some.inj H
    go_enter Try.func141, Try.ntmps141
    go_wp2_with (first | ((with_reducible refine gate_callee (f := 149) rfl ?_); refine goesL_ (some 8) rfl rfl Try.func149 (by kernel_rfl) rfl #[.int .i64 a0] rfl MT ?_; (with_reducible refine (cmp_isNaN_int.calls a0 false _ A3.out).mono ?_); rintro e w' ⟨rfl, ⟨nd, rfl⟩⟩; refine ⟨_, rfl, ?_⟩) | ((with_reducible refine gate_callee (f := 149) rfl ?_); refine goesL_ (some 10) rfl rfl Try.func149 (by kernel_rfl) rfl #[.int .i64 a1] rfl MT ?_; (with_reducible refine (cmp_isNaN_int.calls a1 false _ A4.out).mono ?_); rintro e w' ⟨rfl, ⟨nd, rfl⟩⟩; refine ⟨_, rfl, ?_⟩))
    go_ret
    exact ⟨by first | rfl | (simp; done) | (simp [*]; done), by repeat (first | exact Drawn0.refl _ | apply Drawn0.step)⟩
   ·rw [if_neg c8] at H
    have c8b0 : decide (a0 < a1) = false := decide_eq_false c8
    clear c8
    by_cases c9 : a0 > a1
    ·rw [if_pos c9] at H
     have c9b0 : decide (a1 < a0) = true := decide_eq_true c9
     clear c9
     obtain rfl := Option.some.inj H
     go_enter Try.func141, Try.ntmps141
     go_wp2_with (first | ((with_reducible refine gate_callee (f := 149) rfl ?_); refine goesL_ (some 8) rfl rfl Try.func149 (by kernel_rfl) rfl #[.int .i64 a0] rfl MT ?_; (with_reducible refine (cmp_isNaN_int.calls a0 false _ A3.out).mono ?_); rintro e w' ⟨rfl, ⟨nd, rfl⟩⟩; refine ⟨_, rfl, ?_⟩) | ((with_reducible refine gate_callee (f := 149) rfl ?_); refine goesL_ (some 10) rfl rfl Try.func149 (by kernel_rfl) rfl #[.int .i64 a1] rfl MT ?_; (with_reducible refine (cmp_isNaN_int.calls a1 false _ A4.out).mono ?_); rintro e w' ⟨rfl, ⟨nd, rfl⟩⟩; refine ⟨_, rfl, ?_⟩))
     go_ret
     exact ⟨by first | rfl | (simp; done) | (simp [*]; done), by repeat (first | exact Drawn0.refl _ | apply Drawn0.step)⟩
    ·rw [if_neg c9] at H
     have c9b0 : decide (a1 < a0) = false := decide_eq_false c9
     clear c9
     obtain rfl := Option.some.inj H
     go_enter Try.func141, Try.ntmps141
     go_wp2_with (first | ((with_reducible refine gate_callee (f := 149) rfl ?_); refine goesL_ (some 8) rfl rfl Try.func149 (by kernel_rfl) rfl #[.int .i64 a0] rfl MT ?_; (with_reducible refine (cmp_isNaN_int.calls a0 false _ A3.out).mono ?_); rintro e w' ⟨rfl, ⟨nd, rfl⟩⟩; refine ⟨_, rfl, ?_⟩) | ((with_reducible refine gate_callee (f := 149) rfl ?_); refine goesL_ (some 10) rfl rfl Try.func149 (by kernel_rfl) rfl #[.int .i64 a1] rfl MT ?_; (with_reducible refine (cmp_isNaN_int.calls a1 false _ A4.out).mono ?_); rintro e w' ⟨rfl, ⟨nd, rfl⟩⟩; refine ⟨_, rfl, ?_⟩))
     go_ret
     exact ⟨by first | rfl | (simp; done) | (simp [*]; done), by repeat (first | exact Drawn0.refl _ | apply Drawn0.step)⟩
def impl_byBlock.f (k : Nat) (a0_0 : Int) (a0_1 : Int) (a1_0 : Int) (a1_1 : Int) : Option (Int) := (cmp_Compare_int.f a0_0 a1_0).bind fun t103 => ((cmp_Compare_int.f a0_1 a1_1).bind fun t104 => ((cmp_Or_int.f k (([t103, t104] : List Int))).bind fun t108 => (some t108)))
def impl_byBlock.T1 : Bool × List (List Nat × List Nat) := (true, [([], []), ([0], [0]), ([], []), ([2], [2]), ([1, 3], [1, 3]), ([], []), ([5], [5]), ([], []), ([7], [7]), ([6, 8, 4], [6, 8]), ([4, 9], [4, 9]), ([10, 9], [10]), ([11, 11, 0, 1, 2, 3, 4, 5, 6, 7, 8, 9, 10, 11], [11])])
def impl_byBlock.B1 : List Nat := [0, 1, 0, 4, 15, 0, 32, 0, 128, 511, 1023, 2047, 4095]
theorem impl_byBlock.tab1 : rtab .any (opsOf Try.f114 1) = impl_byBlock.T1 := by kernel_rfl
theorem impl_byBlock.bits1 : waitsOk impl_byBlock.T1.2 impl_byBlock.B1 = true := by kernel_rfl
set_option maxHeartbeats 8000000 in
set_option maxRecDepth 100000 in
theorem impl_byBlock.calls (k : Nat) (a0_0 : Int) (a0_1 : Int) (a1_0 : Int) (a1_1 : Int) (r : Int) (w : World) (h : impl_byBlock.f k a0_0 a0_1 a1_0 a1_1 = some r) :
  Calls Try.prog 114 #[.agg #[.int .i64 a0_0, .int .i64 a0_1], .agg #[.int .i64 a1_0, .int .i64 a1_1]] w fun e w' => e = .returned (.int .i64 r) ∧ Below w.heap.size w w' := by
 have hu32 := Try.underlying32
 have HB := am (Below.refl w.heap.size w)
 have H : ((cmp_Compare_int.f a0_0 a1_0).bind fun t103 => ((cmp_Compare_int.f a0_1 a1_1).bind fun t104 => ((cmp_Or_int.f k (([t103, t104] : List Int))).bind fun t108 => (some t108)))) = some r := h
 clear h
 replace H := Option.bind_eq_some_iff.mp H
 obtain ⟨t103, A30, H⟩ := H
 replace H : ((cmp_Compare_int.f a0_1 a1_1).bind fun t104 => ((cmp_Or_int.f k (([t103, t104] : List Int))).bind fun t108 => (some t108))) = some r := H
 have A3 := Aside0.mk A30
 clear A30
 replace H := Option.bind_eq_some_iff.mp H
 obtain ⟨t104, A40, H⟩ := H
 replace H : ((cmp_Or_int.f k (([t103, t104] : List Int))).bind fun t108 => (some t108)) = some r := H
 have A4 := Aside0.mk A40
 clear A40
 obtain ⟨y105, hy105⟩ : ∃ y_ : List Int, y_ = (([t103, t104] : List Int)) := ⟨_, rfl⟩
 replace H : ((cmp_Or_int.f k y105).bind fun t108 => (some t108)) = some r := by first | (rw [hy105]; with_reducible exact H) | (have H2_ := (Option.bind_some _ _).symm.trans H; rw [hy105]; with_reducible exact H2_) | (have H2_ := (Option.bind_some _ _).symm.trans H; with_reducible exact H2_) | with_reducible exact H | (rw [hy105]; exact H) | exact H
 have Ny105 := Aside0.mk hy105
 clear hy105
 replace H := Option.bind_eq_some_iff.mp H
 obtain ⟨t108, A50, H⟩ := H
 replace H : (some t108) = some r := H
 have A5 := Aside0.mk A50
 clear A50
 obtain rfl := Option.some.inj H
 go_enter Try.func114, Try.ntmps114
 try go_wp2_with (first | ((with_reducible refine gate_dst (N := 2) rfl ?_); refine box_event rfl (N := 2) rfl (cs := #[.int .i64 a0_0, .int .i64 a0_1]) (t := 32) BX ?_; intro gb101 hg w6 hbox hb; have BK101 := am (hbox); have GW101 := am (GH HB hg); have GE101 := GW101; replace HB := am (below_step (KL HB) hb); clear hb hbox hg) | ((with_reducible refine gate_dst (N := 3) rfl ?_); refine box_event rfl (N := 3) rfl (cs := #[.int .i64 a1_0, .int .i64 a1_1]) (t := 32) BX ?_; intro gb102 hg w7 hbox hb; have BK102 := am (hbox); have GW102 := am (GH1 HB GE101.out hg); have GE102 := GW102; replace HB := am (below_step (K1 HB GE101.out) hb); have NB101_102 := am (NL BK101 hg); have NB102_101 := am (NG BK101 hg); replace BK101 := am (BB BK101 hb); clear hb hbox hg))
 replace BK101 := am (blk_drew BK101.out)
 replace BK102 := am (blk_drew BK102.out)
 replace HB := am (below_drew1 HB.out)
 refine start_ (n := 13) (S := fun w' => ce2 w' gb101 (.int .i64 a0_0) (.int .i64 a0_1) (de2 w' gb102 (.int .i64 a1_0) (.int .i64 a1_1))) (ds := []) (tf 0 13) (by kernel_rfl) rfl rfl ⟨z0 _ BK101.out, z1 _ BK101.out, z0 _ BK102.out, z1 _ BK102.out⟩ (fun hHeld => ?_); refine with_tabW impl_byBlock.tab1 impl_byBlock.bits1 (fun HT_ HW_ => ?_)
 generalize w7.drew = w8 at BK101 BK102 HB hHeld ⊢
 refine pv HT_ 0 5 (tf 1 12) ?_
 refine pv HT_ 2 7 (tr [1, 1, 1, 10]) ?_
 refine pv HT_ 5 10 (tr [1, 1, 1, 2, 1, 7]) ?_
 refine pv HT_ 7 12 (tr [1, 1, 1, 2, 1, 1, 1, 5]) ?_
 refine tk 1 (some 6) (tr [3, 2, 1, 1, 1, 5]) (take_ofW HT_.out HW_.out (by kernel_rfl)) hHeld ?_
 refine tk 3 (some 8) (tr [4, 1, 1, 1, 1, 5]) (take_ofW HT_.out HW_.out (by kernel_rfl)) hHeld ?_
 refine tk 6 (some 11) (tr [4, 1, 3, 5]) (take_ofW HT_.out HW_.out (by kernel_rfl)) hHeld ?_
 refine tk 8 (some 13) (tr [4, 1, 4, 4]) (take_ofW HT_.out HW_.out (by kernel_rfl)) hHeld ?_
 refine one_ (i := 4) (N := some 9) (tf 9 4) rfl rfl (one_of HT_.out (by kernel_rfl)) (by decide) (fun K hK => ?_)
 refine goes_ Try.func141 (by kernel_rfl) rfl #[.int .i64 a0_0, .int .i64 a1_0] (by rfl) rfl rfl MT ?_
 with_reducible refine (cmp_Compare_int.calls a0_0 a1_0 t103 _ A3.out).mono ?_
 rintro e w' ⟨rfl, ⟨nd, rfl⟩⟩
 refine ⟨_, rfl, ?_⟩
 refine hK.out _ _ ⟨z0 _ BK101.out, z1 _ BK101.out, z0 _ BK102.out, z1 _ BK102.out⟩ (fun hHeld => ?_)
 clear hK K
 refine norm_ (a' := ?_) ?_ ?_
 rotate_left
 ·show Act.put _ (some 9) _ = _
  simp only [Act.put, List.setIfInBounds_toArray, List.set_cons_zero, List.set_cons_succ, i64_w, i32_w]
  rfl
 refine one_ (i := 9) (N := some 14) (tf 10 3) rfl rfl (one_of HT_.out (by kernel_rfl)) (by decide) (fun K hK => ?_)
 refine goes_ Try.func141 (by kernel_rfl) rfl #[.int .i64 a0_1, .int .i64 a1_1] (by rfl) rfl rfl MT ?_
 with_reducible refine (cmp_Compare_int.calls a0_1 a1_1 t104 _ A4.out).mono ?_
 rintro e w' ⟨rfl, ⟨nd, rfl⟩⟩
 refine ⟨_, rfl, ?_⟩
 refine hK.out _ _ ⟨z0 _ BK101.out, z1 _ BK101.out, z0 _ BK102.out, z1 _ BK102.out⟩ (fun hHeld => ?_)
 clear hK K
 refine norm_ (a' := ?_) ?_ ?_
 rotate_left
 ·show Act.put _ (some 14) _ = _
  simp only [Act.put, List.setIfInBounds_toArray, List.set_cons_zero, List.set_cons_succ, i64_w, i32_w]
  rfl
 refine one_ (i := 10) (N := some 15) (tf 11 2) rfl rfl (one_of HT_.out (by kernel_rfl)) (by decide) (fun K hK => ?_)
 refine Kd.R_lit_step (Kd.int .i64) _ 3 ?hg (N := 15) ?hd (xs := ([t103, t104] : List Int)) (inner := [.int .i64 t103, .int .i64 t104]) (ok := fun _ => True) (okp := fun _ => True) ?hr ?hp (fun _ hk => hk) trivial (Below.refl _ _) (Nat.le_refl _) (by simp) ?_; (case hd => rfl); (case hg => rfl); (case hr => first | (go_simp; done) | (go_simp; rfl)); (case hp => exact (Reps.one (show Kd.M (Kd.int .i64) _ _ _ t103 [.int .i64 t103] from rfl) (Reps.one (show Kd.M (Kd.int .i64) _ _ _ t104 [.int .i64 t104] from rfl) (Reps.none _ _))))
 intro v106 w9 ho10 hb hg_ hnew_
 clear hg_ hnew_
 (first | rw [← Ny105.out] at ho10 | (simp only [Int.reduceToNat] at ho10; rw [← Ny105.out] at ho10))
 have HO107 := am (Kd.R_lower ho10 (below_size (K2 HB GE101.out GE102.out)))
 replace BK101 := am (BB BK101 hb)
 replace BK102 := am (BB BK102 hb)
 replace HB := am (below_step (K2 HB GE101.out GE102.out) hb)
 clear hb ho10
 obtain ⟨Ao11, co11, eo11⟩ := Kd.R_slice HO107.out
 (first | subst eo11 | (injection eo11 with f1_ f2_ f3_; have f4_ := f1_.symm; have f5_ := f3_.symm; clear f1_ f2_ f3_; subst f4_; subst f5_))
 refine hK.out _ _ ⟨z0 _ BK101.out, z1 _ BK101.out, z0 _ BK102.out, z1 _ BK102.out⟩ (fun hHeld => ?_)
 clear hK K
 refine norm_ (a' := ?_) ?_ ?_
 rotate_left
 ·show Act.put _ (some 15) _ = _
  simp only [Act.put, List.setIfInBounds_toArray, List.set_cons_zero, List.set_cons_succ, i64_w, i32_w]
  rfl
 refine one_ (i := 11) (N := some 16) (tf 12 1) rfl rfl (one_of HT_.out (by kernel_rfl)) (by decide) (fun K hK => ?_)
 refine goes_ Try.func140 (by kernel_rfl) rfl #[.slice Ao11 y105.length co11] (by rfl) rfl rfl MT ?_
 with_reducible refine (cmp_Or_int.calls k _ _ y105 t108 _ ?side1 ?side2 A5.out).mono ?_
 (case side1 => exact KC (Kd.R_reads' HO107.out).2.2)
 (case side2 => exact (Kd.R_reads' HO107.out).2.1)
 rintro e w' ⟨rfl, ⟨nd, rfl⟩⟩
 refine ⟨_, rfl, ?_⟩
 refine hK.out _ _ ⟨z0 _ BK101.out, z1 _ BK101.out, z0 _ BK102.out, z1 _ BK102.out⟩ (fun hHeld => ?_)
 clear hK K
 refine norm_ (a' := ?_) ?_ ?_
 rotate_left
 ·show Act.put _ (some 16) _ = _
  simp only [Act.put, List.setIfInBounds_toArray, List.set_cons_zero, List.set_cons_succ, i64_w, i32_w]
  rfl
 refine pv HT_ 12 4 (tf 13 0) ?_
 refine done_ (done_of HT_.out (by kernel_rfl)) ?_
 try go_wp2
 go_ret
 exact ⟨ER, K2 HB GE101.out GE102.out⟩
def impl_WaysOk.l0 : Nat → List (S86) → List (S86) → Int → Int → Option (Bool)
 | 0, _, _, _, _ => none
 | k + 1, x0, x5, x6, x7 => if x7 < x6 then (if 0 ≤ x7 then (if x7 < (x5.length : Int) then ((impl_BlockOk.f ((rd_T86 x5 x7).f0.f0) ((rd_T86 x5 x7).f0.f1)).bind fun t103 => (if t103 = true then ((impl_in.f ((rd_T86 x5 x7).f1) 0 99).bind fun t104 => (if t104 = true then (if x7 > 0 then (if 0 ≤ (wrap64 (x7 - 1)) then (if (wrap64 (x7 - 1)) < (x0.length : Int) then ((impl_byBlock.f k ((rd_T86 x0 (wrap64 (x7 - 1))).f0.f0) ((rd_T86 x0 (wrap64 (x7 - 1))).f0.f1) ((rd_T86 x5 x7).f0.f0) ((rd_T86 x5 x7).f0.f1)).bind fun t106 => (if t106 ≥ 0 then (some false) else (impl_WaysOk.l0 k x0 x5 x6 (wrap64 (x7 + 1))))) else (none)) else (none)) else (impl_WaysOk.l0 k x0 x5 x6 (wrap64 (x7 + 1)))) else (some false))) else (some false))) else (none)) else (none)) else (some (decide ((x0.length : Int) ≤ 40)))
def impl_WaysOk.f (k : Nat) (l0 : List (S86)) : Option (Bool) := impl_WaysOk.l0 k l0 l0 (l0.length : Int) 0
def impl_WaysOk.T4 : Bool × List (List Nat × List Nat) := (true, [([], []), ([0], [0]), ([1], [1]), ([2], [2]), ([3, 2], [3]), ([4], [4]), ([5, 4], [4, 5]), ([6, 4, 4], [4, 6]), ([7, 4], [4, 7]), ([4, 8], [4, 8]), ([9, 7], [9]), ([10], [10]), ([11, 10], [10, 11]), ([12, 10, 10], [10, 12]), ([13], [13]), ([13], [13]), ([15, 13], [13, 15]), ([14, 16, 13], [13, 14, 16]), ([17, 13], [13, 17]), ([18, 13], [13, 18]), ([13], [13]), ([20, 13], [13, 20]), ([19, 21, 13, 13], [13, 19, 21]), ([22, 13], [13, 22]), ([13, 23, 10], [10, 13, 23]), ([10, 24], [10, 24])])
def impl_WaysOk.B4 : List Nat := [0, 1, 3, 7, 15, 31, 63, 127, 255, 511, 1023, 2047, 4095, 8191, 16383, 16383, 49151, 131071, 262143, 524287, 16383, 1064959, 4194303, 8388607, 16777215, 33554431]
theorem impl_WaysOk.tab4 : rtab .any (opsOf Try.f63 4) = impl_WaysOk.T4 := by kernel_rfl
theorem impl_WaysOk.bits4 : waitsOk impl_WaysOk.T4.2 impl_WaysOk.B4 = true := by kernel_rfl
set_option maxHeartbeats 8000000 in
set_option maxRecDepth 100000 in
theorem impl_WaysOk.calls (k : Nat) (A0 : Option Addr) (c0 : Nat) (l0 : List (S86)) (r : Bool) (w : World) (hr0 : Kd.C k86 w A0 l0.length l0) (hc0 : l0.length ≤ c0) (h : impl_WaysOk.f k l0 = some r) :
  Calls Try.prog 63 #[.slice A0 l0.length c0] w fun e w' => e = .returned (.bool r) ∧ Below w.heap.size w w' := by
 have hu86 := Try.underlying86
 have hu32 := Try.underlying32
 have HR0 := Aside0.mk hr0
 have HC0 := Aside0.mk hc0
 clear hr0 hc0
 have HB := am (Below.refl w.heap.size w)
 have H : (impl_WaysOk.l0 k l0 l0 (l0.length : Int) 0) = some r := h
 clear h
 have H' := Aside0.mk H
 clear H
 go_enter Try.func63, Try.ntmps63
 go_wp2
 go_loopg [7] k (fun kq v7 w' => ∃ (x7_1 : Int), v7 = .int .i64 x7_1 ∧ Aside0 (impl_WaysOk.l0 kq l0 l0 (l0.length : Int) x7_1 = some r) ∧ Aside0 (kq ≤ k) ∧ Aside0 (Below w.heap.size w w'))
 case atStart => exact ⟨(0), (by first | rfl | (simp; done) | (simp [*]; done)), H', ⟨Nat.le_refl _⟩, ⟨KL HB⟩⟩
 case round =>
  clear H'
  obtain ⟨x7_1, rfl, HA, HK1, HB⟩ := hrel
  cases gk with
  | zero => exact absurd HA.out (by simp [impl_WaysOk.l0])
  | succ k1 =>
   have H := HA.out
   clear HA
   simp only [impl_WaysOk.l0] at H
   by_cases c2 : x7_1 < (l0.length : Int)
   ·rw [if_pos c2] at H
    have c2b0 : decide (x7_1 < (l0.length : Int)) = true := decide_eq_true c2
    clear c2
    by_cases c3 : 0 ≤ x7_1
    ·rw [if_pos c3] at H
     have c3b0 : decide (0 ≤ x7_1) = true := decide_eq_true c3
     clear c3
     by_cases c4 : x7_1 < (l0.length : Int)
     ·rw [if_pos c4] at H
      have c4b0 : decide (x7_1 < (l0.length : Int)) = true := decide_eq_true c4
      clear c4
      replace H := Option.bind_eq_some_iff.mp H
      obtain ⟨t103, A50, H⟩ := H
      replace H : (if t103 = true then ((impl_in.f ((rd_T86 l0 x7_1).f1) 0 99).bind fun t104 => (if t104 = true then (if x7_1 > 0 then (if 0 ≤ (wrap64 (x7_1 - 1)) then (if (wrap64 (x7_1 - 1)) < (l0.length : Int) then ((impl_byBlock.f k1 ((rd_T86 l0 (wrap64 (x7_1 - 1))).f0.f0) ((rd_T86 l0 (wrap64 (x7_1 - 1))).f0.f1) ((rd_T86 l0 x7_1).f0.f0) ((rd_T86 l0 x7_1).f0.f1)).bind fun t106 => (if t106 ≥ 0 then (some false) else (impl_WaysOk.l0 k1 l0 l0 (l0.length : Int) (wrap64 (x7_1 + 1))))) else (none)) else (none)) else (impl_WaysOk.l0 k1 l0 l0 (l0.length : Int) (wrap64 (x7_1 + 1)))) else (some false))) else (some false)) = some r := H
      have A5 := Aside0.mk A50
      clear A50
      by_cases c6 : t103 = true
      ·subst c6
       have H1 : ((impl_in.f ((rd_T86 l0 x7_1).f1) 0 99).bind fun t104 => (if t104 = true then (if x7_1 > 0 then (if 0 ≤ (wrap64 (x7_1 - 1)) then (if (wrap64 (x7_1 - 1)) < (l0.length : Int) then ((impl_byBlock.f k1 ((rd_T86 l0 (wrap64 (x7_1 - 1))).f0.f0) ((rd_T86 l0 (wrap64 (x7_1 - 1))).f0.f1) ((rd_T86 l0 x7_1).f0.f0) ((rd_T86 l0 x7_1).f0.f1)).bind fun t106 => (if t106 ≥ 0 then (some false) else (impl_WaysOk.l0 k1 l0 l0 (l0.length : Int) (wrap64 (x7_1 + 1))))) else (none)) else (none)) else (impl_WaysOk.l0 k1 l0 l0 (l0.length : Int) (wrap64 (x7_1 + 1)))) else (some false))) = some r := by rw [if_pos rfl] at H; exact H
       clear H
       have H := H1
       clear H1
       replace H := Option.bind_eq_some_iff.mp H
       obtain ⟨t104, A70, H⟩ := H
       replace H : (if t104 = true then (if x7_1 > 0 then (if 0 ≤ (wrap64 (x7_1 - 1)) then (if (wrap64 (x7_1 - 1)) < (l0.length : Int) then ((impl_byBlock.f k1 ((rd_T86 l0 (wrap64 (x7_1 - 1))).f0.f0) ((rd_T86 l0 (wrap64 (x7_1 - 1))).f0.f1) ((rd_T86 l0 x7_1).f0.f0) ((rd_T86 l0 x7_1).f0.f1)).bind fun t106 => (if t106 ≥ 0 then (some false) else (impl_WaysOk.l0 k1 l0 l0 (l0.length : Int) (wrap64 (x7_1 + 1))))) else (none)) else (none)) else (impl_WaysOk.l0 k1 l0 l0 (l0.length : Int) (wrap64 (x7_1 + 1)))) else (some false)) = some r := H
       have A7 := Aside0.mk A70
       clear A70
       by_cases c8 : t104 = true
       ·subst c8
        have H1 : (if x7_1 > 0 then (if 0 ≤ (wrap64 (x7_1 - 1)) then (if (wrap64 (x7_1 - 1)) < (l0.length : Int) then ((impl_byBlock.f k1 ((rd_T86 l0 (wrap64 (x7_1 - 1))).f0.f0) ((rd_T86 l0 (wrap64 (x7_1 - 1))).f0.f1) ((rd_T86 l0 x7_1).f0.f0) ((rd_T86 l0 x7_1).f0.f1)).bind fun t106 => (if t106 ≥ 0 then (some false) else (impl_WaysOk.l0 k1 l0 l0 (l0.length : Int) (wrap64 (x7_1 + 1))))) else (none)) else (none)) else (impl_WaysOk.l0 k1 l0 l0 (l0.length : Int) (wrap64 (x7_1 + 1)))) = some r := by rw [if_pos rfl] at H; exact H
        clear H
        have H := H1
        clear H1
        by_cases c9 : x7_1 > 0
        ·rw [if_pos c9] at H
         have c9b0 : decide (0 < x7_1) = true := decide_eq_true c9
         clear c9
         obtain ⟨ji10, hji10⟩ : ∃ j_ : Int, (wrap64 (x7_1 - 1)) = j_ := ⟨_, rfl⟩
         replace H : (if 0 ≤ (ji10) then (if (ji10) < (l0.length : Int) then ((impl_byBlock.f k1 ((rd_T86 l0 (ji10)).f0.f0) ((rd_T86 l0 (ji10)).f0.f1) ((rd_T86 l0 x7_1).f0.f0) ((rd_T86 l0 x7_1).f0.f1)).bind fun t106 => (if t106 ≥ 0 then (some false) else (impl_WaysOk.l0 k1 l0 l0 (l0.length : Int) (wrap64 (x7_1 + 1))))) else (none)) else (none)) = some r := by first | (rw [hji10] at H; exact H) | (simp only [hji10] at H ⊢; exact H)
         (try rw [hji10] at A5)
         (try rw [hji10] at A7)
         have hji10w : (IntKind.i64.wrap (x7_1 - 1)) = ji10 := (i64_w _).trans hji10
         by_cases c11 : 0 ≤ (ji10)
         ·rw [if_pos c11] at H
          have c11b0 : decide (0 ≤ (ji10)) = true := decide_eq_true c11
          clear c11
          by_cases c12 : (ji10) < (l0.length : Int)
          ·rw [if_pos c12] at H
           have c12b0 : decide ((ji10) < (l0.length : Int)) = true := decide_eq_true c12
           clear c12
           replace H := Option.bind_eq_some_iff.mp H
           obtain ⟨t106, A130, H⟩ := H
           replace H : (if t106 ≥ 0 then (some false) else (impl_WaysOk.l0 k1 l0 l0 (l0.length : Int) (wrap64 (x7_1 + 1)))) = some r := H
           have A13 := Aside0.mk A130
           clear A130
           by_cases c14 : t106 ≥ 0
           ·rw [if_pos c14] at H
            have c14b0 : decide (0 ≤ t106) = true := decide_eq_true c14
            clear c14
            obtain rfl := Option.some.inj H
            have p101 : 0 ≤ (x7_1 : Int) := OD
            have q101 : x7_1 < (l0.length : Int) := OD
            obtain ⟨ad101, e101, hx101_0, hx101_1, hx101_2⟩ := at_T86 HR0.out x7_1 p101 q101
            cases e101
            replace hx101_0 := CX HB.out hx101_0
            replace hx101_1 := CX HB.out hx101_1
            replace hx101_2 := CX HB.out hx101_2
            replace p101 := eq_true p101
            replace q101 := eq_true q101
            try go_wp2_with (first | ((with_reducible refine gate_dst (N := 4) rfl ?_); refine box_event rfl (N := 4) rfl (cs := #[.int .i64 0, .int .i64 0, .int .i64 0]) (t := 86) BX ?_; intro gb102 hg w15 hbox hb; have BK102 := am (hbox); have GW102 := am (GH HB hg); have GE102 := GW102; replace HB := am (below_step (KL HB) hb); clear hb hbox hg; obtain ⟨hcz16_0, hcz16_1, hcz16_2, hfz16_0⟩ := y3 w15 BK102.out))
            have n0_ : Aside0 ((((w15.setCell ⟨gb102, 0, none⟩ (.int .i64 ((rd_T86 l0 x7_1).f0.f0))).setCell ⟨gb102, 1, none⟩ (.int .i64 ((rd_T86 l0 x7_1).f0.f1))).setCell ⟨gb102, 2, none⟩ (.int .i64 ((rd_T86 l0 x7_1).f1))).heap[gb102]? = some (.cells #[.int .i64 ((rd_T86 l0 x7_1).f0.f0), .int .i64 ((rd_T86 l0 x7_1).f0.f1), .int .i64 ((rd_T86 l0 x7_1).f1)] 86 (0, 0))) := ⟨by (with_reducible repeat (first | refine blk_drewN ?_ _ | refine blk_drew ?_ | refine blk_alloc ?_ _)); refine blk_put (cs := #[.int .i64 ((rd_T86 l0 x7_1).f0.f0), .int .i64 ((rd_T86 l0 x7_1).f0.f1), .int .i64 0]) ?_ 2 _ rfl; (with_reducible repeat (first | refine blk_drewN ?_ _ | refine blk_drew ?_ | refine blk_alloc ?_ _)); refine blk_put (cs := #[.int .i64 ((rd_T86 l0 x7_1).f0.f0), .int .i64 0, .int .i64 0]) ?_ 1 _ rfl; (with_reducible repeat (first | refine blk_drewN ?_ _ | refine blk_drew ?_ | refine blk_alloc ?_ _)); refine blk_put (cs := #[.int .i64 0, .int .i64 0, .int .i64 0]) ?_ 0 _ rfl; (with_reducible repeat (first | refine blk_drewN ?_ _ | refine blk_drew ?_ | refine blk_alloc ?_ _)); exact BK102.out⟩
            have n1_ : Aside0 (Below w.heap.size w (((w15.setCell ⟨gb102, 0, none⟩ (.int .i64 ((rd_T86 l0 x7_1).f0.f0))).setCell ⟨gb102, 1, none⟩ (.int .i64 ((rd_T86 l0 x7_1).f0.f1))).setCell ⟨gb102, 2, none⟩ (.int .i64 ((rd_T86 l0 x7_1).f1)))) := ⟨K1 HB GE102.out⟩
            (try clear BK102)
            (try clear HB)
            generalize (((w15.setCell ⟨gb102, 0, none⟩ (.int .i64 ((rd_T86 l0 x7_1).f0.f0))).setCell ⟨gb102, 1, none⟩ (.int .i64 ((rd_T86 l0 x7_1).f0.f1))).setCell ⟨gb102, 2, none⟩ (.int .i64 ((rd_T86 l0 x7_1).f1))) = w17 at n0_ n1_ ⊢
            have BK102 := n0_
            have HB := n1_
            clear n0_ n1_
            replace BK102 := am (blk_drew BK102.out)
            replace HB := am (below_drew1 HB.out)
            have p105 : 0 ≤ ((ji10) : Int) := OD
            have q105 : (ji10) < (l0.length : Int) := OD
            obtain ⟨ad105, e105, hx105_0, hx105_1, hx105_2⟩ := at_T86 HR0.out (ji10) p105 q105
            have hw105_2 := hx105_2
            have hw105_1 := hx105_1
            have hw105_0 := hx105_0
            obtain rfl : ad101 = ad105 := (by injection e105)
            replace hx105_0 := CX HB.out hx105_0
            replace hx105_1 := CX HB.out hx105_1
            replace hx105_2 := CX HB.out hx105_2
            replace p105 := eq_true p105
            replace q105 := eq_true q105
            refine start_ (n := 26) (S := fun w' => ce3 w' gb102 (.int .i64 ((rd_T86 l0 x7_1).f0.f0)) (.int .i64 ((rd_T86 l0 x7_1).f0.f1)) (.int .i64 ((rd_T86 l0 x7_1).f1)) (w'.cell? (ad101.add (((ji10)).toNat * 3)) = some (.int .i64 ((rd_T86 l0 (ji10)).f0.f0)) ∧ w'.cell? ⟨(ad101.add (((ji10)).toNat * 3)).block, (ad101.add (((ji10)).toNat * 3)).off + 1, none⟩ = some (.int .i64 ((rd_T86 l0 (ji10)).f0.f1)) ∧ w'.cell? ⟨(ad101.add (((ji10)).toNat * 3)).block, (ad101.add (((ji10)).toNat * 3)).off + 2, none⟩ = some (.int .i64 ((rd_T86 l0 (ji10)).f1)))) (ds := []) (tf 0 26) (by kernel_rfl) rfl rfl ⟨z0 _ BK102.out, z1 _ BK102.out, z2 _ BK102.out, ((HB.out.cell (World.block_lt_of_cell? w _ hw105_0)).trans hw105_0), ((HB.out.cell (World.block_lt_of_cell? w _ hw105_1)).trans hw105_1), ((HB.out.cell (World.block_lt_of_cell? w _ hw105_2)).trans hw105_2)⟩ (fun hHeld => ?_); refine with_tabW impl_WaysOk.tab4 impl_WaysOk.bits4 (fun HT_ HW_ => ?_)
            generalize w17.drew = w18 at BK102 HB hx105_0 hx105_1 hx105_2 hHeld ⊢
            refine pv HT_ 0 12 (tf 1 25) ?_
            refine tk 1 (some 13) (tf 2 24) (take_ofW HT_.out HW_.out (by kernel_rfl)) hHeld ?_
            refine one_ (i := 2) (N := some 14) (tf 3 23) rfl rfl (one_of HT_.out (by kernel_rfl)) (by decide) (fun K hK => ?_)
            refine goes_ Try.func111 (by kernel_rfl) rfl #[.agg #[.int .i64 ((rd_T86 l0 x7_1).f0.f0), .int .i64 ((rd_T86 l0 x7_1).f0.f1)]] (by rfl) rfl rfl MT ?_
            with_reducible refine (impl_BlockOk.calls ((rd_T86 l0 x7_1).f0.f0) ((rd_T86 l0 x7_1).f0.f1) true _ A5.out).mono ?_
            rintro e w19 ⟨rfl, hb⟩
            refine ⟨_, rfl, ?_⟩
            replace BK102 := am (BB BK102 hb)
            replace HB := am (below_step (K1 HB GE102.out) hb)
            (try clear hb)
            (try clear hb2)
            (try clear hk)
            (try clear hi)
            refine hK.out _ _ ⟨z0 _ BK102.out, z1 _ BK102.out, z2 _ BK102.out, ((HB.out.cell (World.block_lt_of_cell? w _ hw105_0)).trans hw105_0), ((HB.out.cell (World.block_lt_of_cell? w _ hw105_1)).trans hw105_1), ((HB.out.cell (World.block_lt_of_cell? w _ hw105_2)).trans hw105_2)⟩ (fun hHeld => ?_)
            clear hK K
            refine norm_ (a' := ?_) ?_ ?_
            rotate_left
            ·show Act.put _ (some 14) _ = _
             simp only [Act.put, List.setIfInBounds_toArray, List.set_cons_zero, List.set_cons_succ, i64_w, i32_w]
             rfl
            refine pv HT_ 3 15 (tf 4 22) ?_
            refine pv HT_ 4 16 (tf 5 21) ?_
            refine pv HT_ 5 17 (tf 6 20) ?_
            refine tk 6 (some 18) (tf 7 19) (take_ofW HT_.out HW_.out (by kernel_rfl)) hHeld ?_
            refine one_ (i := 7) (N := some 19) (tf 8 18) rfl rfl (one_of HT_.out (by kernel_rfl)) (by decide) (fun K hK => ?_)
            refine goes_ Try.func85 (by kernel_rfl) rfl #[.int .i64 ((rd_T86 l0 x7_1).f1), .int .i64 0, .int .i64 99] (by rfl) rfl rfl MT ?_
            with_reducible refine (impl_in.calls ((rd_T86 l0 x7_1).f1) 0 99 true _ A7.out).mono ?_
            rintro e w' ⟨rfl, ⟨nd, rfl⟩⟩
            refine ⟨_, rfl, ?_⟩
            refine hK.out _ _ ⟨z0 _ BK102.out, z1 _ BK102.out, z2 _ BK102.out, ((HB.out.cell (World.block_lt_of_cell? w _ hw105_0)).trans hw105_0), ((HB.out.cell (World.block_lt_of_cell? w _ hw105_1)).trans hw105_1), ((HB.out.cell (World.block_lt_of_cell? w _ hw105_2)).trans hw105_2)⟩ (fun hHeld => ?_)
            clear hK K
            refine norm_ (a' := ?_) ?_ ?_
            rotate_left
            ·show Act.put _ (some 19) _ = _
             simp only [Act.put, List.setIfInBounds_toArray, List.set_cons_zero, List.set_cons_succ, i64_w, i32_w]
             rfl
            refine pv HT_ 8 20 (tf 9 17) ?_
            refine pv HT_ 9 21 (tf 10 16) ?_
            refine pv HT_ 10 22 (tf 11 15) ?_
            refine pv HT_ 11 23 (tf 12 14) ?_
            refine pv HT_ 12 24 (tf 13 13) ?_
            refine pv HT_ 13 25 (tf 14 12) ?_
            refine pv HT_ 14 26 (tf 15 11) ?_
            refine pv HT_ 15 27 (tf 16 10) ?_
            refine pv HT_ 16 28 (tf 17 9) ?_
            refine pv HT_ 17 29 (tf 18 8) ?_
            refine pv HT_ 18 30 (tf 19 7) ?_
            refine pv HT_ 20 32 (tr [19, 1, 1, 5]) ?_
            refine tk 19 (some 31) (tf 21 5) (take_ofW HT_.out HW_.out (by kernel_rfl)) hHeld ?_
            refine tk 21 (some 33) (tf 22 4) (take_ofW HT_.out HW_.out (by kernel_rfl)) hHeld ?_
            refine one_ (i := 22) (N := some 34) (tf 23 3) rfl rfl (one_of HT_.out (by kernel_rfl)) (by decide) (fun K hK => ?_)
            refine goes_ Try.func114 (by kernel_rfl) rfl #[.agg #[.int .i64 ((rd_T86 l0 (ji10)).f0.f0), .int .i64 ((rd_T86 l0 (ji10)).f0.f1)], .agg #[.int .i64 ((rd_T86 l0 x7_1).f0.f0), .int .i64 ((rd_T86 l0 x7_1).f0.f1)]] (by rfl) rfl rfl (by (try simp only [List.map_toArray, List.map_cons, List.map_nil]); first | done | (simp only [hji10]; rfl) | rfl | (simp only [List.length_drop, List.length_take]; rfl)) ?_
            with_reducible refine (impl_byBlock.calls k1 ((rd_T86 l0 (ji10)).f0.f0) ((rd_T86 l0 (ji10)).f0.f1) ((rd_T86 l0 x7_1).f0.f0) ((rd_T86 l0 x7_1).f0.f1) t106 _ A13.out).mono ?_
            rintro e w20 ⟨rfl, hb⟩
            refine ⟨_, rfl, ?_⟩
            replace BK102 := am (BB BK102 hb)
            replace HB := am (below_step (K1 HB GE102.out) hb)
            (try clear hb)
            (try clear hb2)
            (try clear hk)
            (try clear hi)
            refine hK.out _ _ ⟨z0 _ BK102.out, z1 _ BK102.out, z2 _ BK102.out, ((HB.out.cell (World.block_lt_of_cell? w _ hw105_0)).trans hw105_0), ((HB.out.cell (World.block_lt_of_cell? w _ hw105_1)).trans hw105_1), ((HB.out.cell (World.block_lt_of_cell? w _ hw105_2)).trans hw105_2)⟩ (fun hHeld => ?_)
            clear hK K
            refine norm_ (a' := ?_) ?_ ?_
            rotate_left
            ·show Act.put _ (some 34) _ = _
             simp only [Act.put, List.setIfInBounds_toArray, List.set_cons_zero, List.set_cons_succ, i64_w, i32_w]
             rfl
            refine pv HT_ 23 35 (tf 24 2) ?_
            refine pv HT_ 24 36 (tf 25 1) ?_
            refine pv HT_ 25 37 (tf 26 0) ?_
            refine done_ (done_of HT_.out (by kernel_rfl)) ?_
            try go_wp2
            go_ret
            exact ⟨by first | rfl | (simp [errW_none, errW_some] <;> rfl) | (simp only [← hji10]; first | rfl | (simp [errW_none, errW_some] <;> rfl)) | (simp [*, errW_none, errW_some] <;> rfl), K1 HB GE102.out⟩
           ·rw [if_neg c14] at H
            have c14b0 : decide (0 ≤ t106) = false := decide_eq_false c14
            clear c14
            have H' := Aside0.mk H
            clear H
            have p101 : 0 ≤ (x7_1 : Int) := OD
            have q101 : x7_1 < (l0.length : Int) := OD
            obtain ⟨ad101, e101, hx101_0, hx101_1, hx101_2⟩ := at_T86 HR0.out x7_1 p101 q101
            cases e101
            replace hx101_0 := CX HB.out hx101_0
            replace hx101_1 := CX HB.out hx101_1
            replace hx101_2 := CX HB.out hx101_2
            replace p101 := eq_true p101
            replace q101 := eq_true q101
            try go_wp2_with (first | ((with_reducible refine gate_dst (N := 4) rfl ?_); refine box_event rfl (N := 4) rfl (cs := #[.int .i64 0, .int .i64 0, .int .i64 0]) (t := 86) BX ?_; intro gb102 hg w21 hbox hb; have BK102 := am (hbox); have GW102 := am (GH HB hg); have GE102 := GW102; replace HB := am (below_step (KL HB) hb); clear hb hbox hg; obtain ⟨hcz22_0, hcz22_1, hcz22_2, hfz22_0⟩ := y3 w21 BK102.out))
            have n0_ : Aside0 ((((w21.setCell ⟨gb102, 0, none⟩ (.int .i64 ((rd_T86 l0 x7_1).f0.f0))).setCell ⟨gb102, 1, none⟩ (.int .i64 ((rd_T86 l0 x7_1).f0.f1))).setCell ⟨gb102, 2, none⟩ (.int .i64 ((rd_T86 l0 x7_1).f1))).heap[gb102]? = some (.cells #[.int .i64 ((rd_T86 l0 x7_1).f0.f0), .int .i64 ((rd_T86 l0 x7_1).f0.f1), .int .i64 ((rd_T86 l0 x7_1).f1)] 86 (0, 0))) := ⟨by (with_reducible repeat (first | refine blk_drewN ?_ _ | refine blk_drew ?_ | refine blk_alloc ?_ _)); refine blk_put (cs := #[.int .i64 ((rd_T86 l0 x7_1).f0.f0), .int .i64 ((rd_T86 l0 x7_1).f0.f1), .int .i64 0]) ?_ 2 _ rfl; (with_reducible repeat (first | refine blk_drewN ?_ _ | refine blk_drew ?_ | refine blk_alloc ?_ _)); refine blk_put (cs := #[.int .i64 ((rd_T86 l0 x7_1).f0.f0), .int .i64 0, .int .i64 0]) ?_ 1 _ rfl; (with_reducible repeat (first | refine blk_drewN ?_ _ | refine blk_drew ?_ | refine blk_alloc ?_ _)); refine blk_put (cs := #[.int .i64 0, .int .i64 0, .int .i64 0]) ?_ 0 _ rfl; (with_reducible repeat (first | refine blk_drewN ?_ _ | refine blk_drew ?_ | refine blk_alloc ?_ _)); exact BK102.out⟩
            have n1_ : Aside0 (Below w.heap.size w (((w21.setCell ⟨gb102, 0, none⟩ (.int .i64 ((rd_T86 l0 x7_1).f0.f0))).setCell ⟨gb102, 1, none⟩ (.int .i64 ((rd_T86 l0 x7_1).f0.f1))).setCell ⟨gb102, 2, none⟩ (.int .i64 ((rd_T86 l0 x7_1).f1)))) := ⟨K1 HB GE102.out⟩
            (try clear BK102)
            (try clear HB)
            generalize (((w21.setCell ⟨gb102, 0, none⟩ (.int .i64 ((rd_T86 l0 x7_1).f0.f0))).setCell ⟨gb102, 1, none⟩ (.int .i64 ((rd_T86 l0 x7_1).f0.f1))).setCell ⟨gb102, 2, none⟩ (.int .i64 ((rd_T86 l0 x7_1).f1))) = w23 at n0_ n1_ ⊢
            have BK102 := n0_
            have HB := n1_
            clear n0_ n1_
            replace BK102 := am (blk_drew BK102.out)
            replace HB := am (below_drew1 HB.out)
            have p105 : 0 ≤ ((ji10) : Int) := OD
            have q105 : (ji10) < (l0.length : Int) := OD
            obtain ⟨ad105, e105, hx105_0, hx105_1, hx105_2⟩ := at_T86 HR0.out (ji10) p105 q105
            have hw105_2 := hx105_2
            have hw105_1 := hx105_1
            have hw105_0 := hx105_0
            obtain rfl : ad101 = ad105 := (by injection e105)
            replace hx105_0 := CX HB.out hx105_0
            replace hx105_1 := CX HB.out hx105_1
            replace hx105_2 := CX HB.out hx105_2
            replace p105 := eq_true p105
            replace q105 := eq_true q105
            refine start_ (n := 26) (S := fun w' => ce3 w' gb102 (.int .i64 ((rd_T86 l0 x7_1).f0.f0)) (.int .i64 ((rd_T86 l0 x7_1).f0.f1)) (.int .i64 ((rd_T86 l0 x7_1).f1)) (w'.cell? (ad101.add (((ji10)).toNat * 3)) = some (.int .i64 ((rd_T86 l0 (ji10)).f0.f0)) ∧ w'.cell? ⟨(ad101.add (((ji10)).toNat * 3)).block, (ad101.add (((ji10)).toNat * 3)).off + 1, none⟩ = some (.int .i64 ((rd_T86 l0 (ji10)).f0.f1)) ∧ w'.cell? ⟨(ad101.add (((ji10)).toNat * 3)).block, (ad101.add (((ji10)).toNat * 3)).off + 2, none⟩ = some (.int .i64 ((rd_T86 l0 (ji10)).f1)))) (ds := []) (tf 0 26) (by kernel_rfl) rfl rfl ⟨z0 _ BK102.out, z1 _ BK102.out, z2 _ BK102.out, ((HB.out.cell (World.block_lt_of_cell? w _ hw105_0)).trans hw105_0), ((HB.out.cell (World.block_lt_of_cell? w _ hw105_1)).trans hw105_1), ((HB.out.cell (World.block_lt_of_cell? w _ hw105_2)).trans hw105_2)⟩ (fun hHeld => ?_); refine with_tabW impl_WaysOk.tab4 impl_WaysOk.bits4 (fun HT_ HW_ => ?_)
            generalize w23.drew = w24 at BK102 HB hx105_0 hx105_1 hx105_2 hHeld ⊢
            refine pv HT_ 0 12 (tf 1 25) ?_
            refine tk 1 (some 13) (tf 2 24) (take_ofW HT_.out HW_.out (by kernel_rfl)) hHeld ?_
            refine one_ (i := 2) (N := some 14) (tf 3 23) rfl rfl (one_of HT_.out (by kernel_rfl)) (by decide) (fun K hK => ?_)
            refine goes_ Try.func111 (by kernel_rfl) rfl #[.agg #[.int .i64 ((rd_T86 l0 x7_1).f0.f0), .int .i64 ((rd_T86 l0 x7_1).f0.f1)]] (by rfl) rfl rfl MT ?_
            with_reducible refine (impl_BlockOk.calls ((rd_T86 l0 x7_1).f0.f0) ((rd_T86 l0 x7_1).f0.f1) true _ A5.out).mono ?_
            rintro e w25 ⟨rfl, hb⟩
            refine ⟨_, rfl, ?_⟩
            replace BK102 := am (BB BK102 hb)
            replace HB := am (below_step (K1 HB GE102.out) hb)
            (try clear hb)
            (try clear hb2)
            (try clear hk)
            (try clear hi)
            refine hK.out _ _ ⟨z0 _ BK102.out, z1 _ BK102.out, z2 _ BK102.out, ((HB.out.cell (World.block_lt_of_cell? w _ hw105_0)).trans hw105_0), ((HB.out.cell (World.block_lt_of_cell? w _ hw105_1)).trans hw105_1), ((HB.out.cell (World.block_lt_of_cell? w _ hw105_2)).trans hw105_2)⟩ (fun hHeld => ?_)
            clear hK K
            refine norm_ (a' := ?_) ?_ ?_
            rotate_left
            ·show Act.put _ (some 14) _ = _
             simp only [Act.put, List.setIfInBounds_toArray, List.set_cons_zero, List.set_cons_succ, i64_w, i32_w]
             rfl
            refine pv HT_ 3 15 (tf 4 22) ?_
            refine pv HT_ 4 16 (tf 5 21) ?_
            refine pv HT_ 5 17 (tf 6 20) ?_
            refine tk 6 (some 18) (tf 7 19) (take_ofW HT_.out HW_.out (by kernel_rfl)) hHeld ?_
            refine one_ (i := 7) (N := some 19) (tf 8 18) rfl rfl (one_of HT_.out (by kernel_rfl)) (by decide) (fun K hK => ?_)
            refine goes_ Try.func85 (by kernel_rfl) rfl #[.int .i64 ((rd_T86 l0 x7_1).f1), .int .i64 0, .int .i64 99] (by rfl) rfl rfl MT ?_
            with_reducible refine (impl_in.calls ((rd_T86 l0 x7_1).f1) 0 99 true _ A7.out).mono ?_
            rintro e w' ⟨rfl, ⟨nd, rfl⟩⟩
            refine ⟨_, rfl, ?_⟩
            refine hK.out _ _ ⟨z0 _ BK102.out, z1 _ BK102.out, z2 _ BK102.out, ((HB.out.cell (World.block_lt_of_cell? w _ hw105_0)).trans hw105_0), ((HB.out.cell (World.block_lt_of_cell? w _ hw105_1)).trans hw105_1), ((HB.out.cell (World.block_lt_of_cell? w _ hw105_2)).trans hw105_2)⟩ (fun hHeld => ?_)
            clear hK K
            refine norm_ (a' := ?_) ?_ ?_
            rotate_left
            ·show Act.put _ (some 19) _ = _
             simp only [Act.put, List.setIfInBounds_toArray, List.set_cons_zero, List.set_cons_succ, i64_w, i32_w]
             rfl
            refine pv HT_ 8 20 (tf 9 17) ?_
            refine pv HT_ 9 21 (tf 10 16) ?_
            refine pv HT_ 10 22 (tf 11 15) ?_
            refine pv HT_ 11 23 (tf 12 14) ?_
            refine pv HT_ 12 24 (tf 13 13) ?_
            refine pv HT_ 13 25 (tf 14 12) ?_
            refine pv HT_ 14 26 (tf 15 11) ?_
            refine pv HT_ 15 27 (tf 16 10) ?_
            refine pv HT_ 16 28 (tf 17 9) ?_
            refine pv HT_ 17 29 (tf 18 8) ?_
            refine pv HT_ 18 30 (tf 19 7) ?_
            refine pv HT_ 20 32 (tr [19, 1, 1, 5]) ?_
            refine tk 19 (some 31) (tf 21 5) (take_ofW HT_.out HW_.out (by kernel_rfl)) hHeld ?_
            refine tk 21 (some 33) (tf 22 4) (take_ofW HT_.out HW_.out (by kernel_rfl)) hHeld ?_
            refine one_ (i := 22) (N := some 34) (tf 23 3) rfl rfl (one_of HT_.out (by kernel_rfl)) (by decide) (fun K hK => ?_)
            refine goes_ Try.func114 (by kernel_rfl) rfl #[.agg #[.int .i64 ((rd_T86 l0 (ji10)).f0.f0), .int .i64 ((rd_T86 l0 (ji10)).f0.f1)], .agg #[.int .i64 ((rd_T86 l0 x7_1).f0.f0), .int .i64 ((rd_T86 l0 x7_1).f0.f1)]] (by rfl) rfl rfl (by (try simp only [List.map_toArray, List.map_cons, List.map_nil]); first | done | (simp only [hji10]; rfl) | rfl | (simp only [List.length_drop, List.length_take]; rfl)) ?_
            with_reducible refine (impl_byBlock.calls k1 ((rd_T86 l0 (ji10)).f0.f0) ((rd_T86 l0 (ji10)).f0.f1) ((rd_T86 l0 x7_1).f0.f0) ((rd_T86 l0 x7_1).f0.f1) t106 _ A13.out).mono ?_
            rintro e w26 ⟨rfl, hb⟩
            refine ⟨_, rfl, ?_⟩
            replace BK102 := am (BB BK102 hb)
            replace HB := am (below_step (K1 HB GE102.out) hb)
            (try clear hb)
            (try clear hb2)
            (try clear hk)
            (try clear hi)
            refine hK.out _ _ ⟨z0 _ BK102.out, z1 _ BK102.out, z2 _ BK102.out, ((HB.out.cell (World.block_lt_of_cell? w _ hw105_0)).trans hw105_0), ((HB.out.cell (World.block_lt_of_cell? w _ hw105_1)).trans hw105_1), ((HB.out.cell (World.block_lt_of_cell? w _ hw105_2)).trans hw105_2)⟩ (fun hHeld => ?_)
            clear hK K
            refine norm_ (a' := ?_) ?_ ?_
            rotate_left
            ·show Act.put _ (some 34) _ = _
             simp only [Act.put, List.setIfInBounds_toArray, List.set_cons_zero, List.set_cons_succ, i64_w, i32_w]
             rfl
            refine pv HT_ 23 35 (tf 24 2) ?_
            refine pv HT_ 24 36 (tf 25 1) ?_
            refine pv HT_ 25 37 (tf 26 0) ?_
            refine done_ (done_of HT_.out (by kernel_rfl)) ?_
            try go_wp2
            go_roundg k1
            case measure => have := HK1.out; omega
            case rel => exact ⟨(wrap64 (x7_1 + 1)), (by first | rfl | (simp; done) | (simp [*]; done)), H', ⟨by have := HK1.out; omega⟩, ⟨K1 HB GE102.out⟩⟩
          ·rw [if_neg c12] at H
           exact absurd H (by simp)
         ·rw [if_neg c11] at H
          exact absurd H (by simp)
        ·rw [if_neg c9] at H
         have c9b0 : decide (0 < x7_1) = false := decide_eq_false c9
         clear c9
         have H' := Aside0.mk H
         clear H
         have p101 : 0 ≤ (x7_1 : Int) := OD
         have q101 : x7_1 < (l0.length : Int) := OD
         obtain ⟨ad101, e101, hx101_0, hx101_1, hx101_2⟩ := at_T86 HR0.out x7_1 p101 q101
         cases e101
         replace hx101_0 := CX HB.out hx101_0
         replace hx101_1 := CX HB.out hx101_1
         replace hx101_2 := CX HB.out hx101_2
         replace p101 := eq_true p101
         replace q101 := eq_true q101
         try go_wp2_with (first | ((with_reducible refine gate_dst (N := 4) rfl ?_); refine box_event rfl (N := 4) rfl (cs := #[.int .i64 0, .int .i64 0, .int .i64 0]) (t := 86) BX ?_; intro gb102 hg w27 hbox hb; have BK102 := am (hbox); have GW102 := am (GH HB hg); have GE102 := GW102; replace HB := am (below_step (KL HB) hb); clear hb hbox hg; obtain ⟨hcz28_0, hcz28_1, hcz28_2, hfz28_0⟩ := y3 w27 BK102.out))
         have n0_ : Aside0 ((((w27.setCell ⟨gb102, 0, none⟩ (.int .i64 ((rd_T86 l0 x7_1).f0.f0))).setCell ⟨gb102, 1, none⟩ (.int .i64 ((rd_T86 l0 x7_1).f0.f1))).setCell ⟨gb102, 2, none⟩ (.int .i64 ((rd_T86 l0 x7_1).f1))).heap[gb102]? = some (.cells #[.int .i64 ((rd_T86 l0 x7_1).f0.f0), .int .i64 ((rd_T86 l0 x7_1).f0.f1), .int .i64 ((rd_T86 l0 x7_1).f1)] 86 (0, 0))) := ⟨by (with_reducible repeat (first | refine blk_drewN ?_ _ | refine blk_drew ?_ | refine blk_alloc ?_ _)); refine blk_put (cs := #[.int .i64 ((rd_T86 l0 x7_1).f0.f0), .int .i64 ((rd_T86 l0 x7_1).f0.f1), .int .i64 0]) ?_ 2 _ rfl; (with_reducible repeat (first | refine blk_drewN ?_ _ | refine blk_drew ?_ | refine blk_alloc ?_ _)); refine blk_put (cs := #[.int .i64 ((rd_T86 l0 x7_1).f0.f0), .int .i64 0, .int .i64 0]) ?_ 1 _ rfl; (with_reducible repeat (first | refine blk_drewN ?_ _ | refine blk_drew ?_ | refine blk_alloc ?_ _)); refine blk_put (cs := #[.int .i64 0, .int .i64 0, .int .i64 0]) ?_ 0 _ rfl; (with_reducible repeat (first | refine blk_drewN ?_ _ | refine blk_drew ?_ | refine blk_alloc ?_ _)); exact BK102.out⟩
         have n1_ : Aside0 (Below w.heap.size w (((w27.setCell ⟨gb102, 0, none⟩ (.int .i64 ((rd_T86 l0 x7_1).f0.f0))).setCell ⟨gb102, 1, none⟩ (.int .i64 ((rd_T86 l0 x7_1).f0.f1))).setCell ⟨gb102, 2, none⟩ (.int .i64 ((rd_T86 l0 x7_1).f1)))) := ⟨K1 HB GE102.out⟩
         (try clear BK102)
         (try clear HB)
         generalize (((w27.setCell ⟨gb102, 0, none⟩ (.int .i64 ((rd_T86 l0 x7_1).f0.f0))).setCell ⟨gb102, 1, none⟩ (.int .i64 ((rd_T86 l0 x7_1).f0.f1))).setCell ⟨gb102, 2, none⟩ (.int .i64 ((rd_T86 l0 x7_1).f1))) = w29 at n0_ n1_ ⊢
         have BK102 := n0_
         have HB := n1_
         clear n0_ n1_
         replace BK102 := am (blk_drew BK102.out)
         replace HB := am (below_drew1 HB.out)
         refine start_ (n := 26) (S := fun w' => de3 w' gb102 (.int .i64 ((rd_T86 l0 x7_1).f0.f0)) (.int .i64 ((rd_T86 l0 x7_1).f0.f1)) (.int .i64 ((rd_T86 l0 x7_1).f1))) (ds := []) (tf 0 26) (by kernel_rfl) rfl rfl ⟨z0 _ BK102.out, z1 _ BK102.out, z2 _ BK102.out⟩ (fun hHeld => ?_); refine with_tabW impl_WaysOk.tab4 impl_WaysOk.bits4 (fun HT_ HW_ => ?_)
         generalize w29.drew = w30 at BK102 HB hHeld ⊢
         refine pv HT_ 0 12 (tf 1 25) ?_
         refine tk 1 (some 13) (tf 2 24) (take_ofW HT_.out HW_.out (by kernel_rfl)) hHeld ?_
         refine one_ (i := 2) (N := some 14) (tf 3 23) rfl rfl (one_of HT_.out (by kernel_rfl)) (by decide) (fun K hK => ?_)
         refine goes_ Try.func111 (by kernel_rfl) rfl #[.agg #[.int .i64 ((rd_T86 l0 x7_1).f0.f0), .int .i64 ((rd_T86 l0 x7_1).f0.f1)]] (by rfl) rfl rfl MT ?_
         with_reducible refine (impl_BlockOk.calls ((rd_T86 l0 x7_1).f0.f0) ((rd_T86 l0 x7_1).f0.f1) true _ A5.out).mono ?_
         rintro e w31 ⟨rfl, hb⟩
         refine ⟨_, rfl, ?_⟩
         replace BK102 := am (BB BK102 hb)
         replace HB := am (below_step (K1 HB GE102.out) hb)
         (try clear hb)
         (try clear hb2)
         (try clear hk)
         (try clear hi)
         refine hK.out _ _ ⟨z0 _ BK102.out, z1 _ BK102.out, z2 _ BK102.out⟩ (fun hHeld => ?_)
         clear hK K
         refine norm_ (a' := ?_) ?_ ?_
         rotate_left
         ·show Act.put _ (some 14) _ = _
          simp only [Act.put, List.setIfInBounds_toArray, List.set_cons_zero, List.set_cons_succ, i64_w, i32_w]
          rfl
         refine pv HT_ 3 15 (tf 4 22) ?_
         refine pv HT_ 4 16 (tf 5 21) ?_
         refine pv HT_ 5 17 (tf 6 20) ?_
         refine tk 6 (some 18) (tf 7 19) (take_ofW HT_.out HW_.out (by kernel_rfl)) hHeld ?_
         refine one_ (i := 7) (N := some 19) (tf 8 18) rfl rfl (one_of HT_.out (by kernel_rfl)) (by decide) (fun K hK => ?_)
         refine goes_ Try.func85 (by kernel_rfl) rfl #[.int .i64 ((rd_T86 l0 x7_1).f1), .int .i64 0, .int .i64 99] (by rfl) rfl rfl MT ?_
         with_reducible refine (impl_in.calls ((rd_T86 l0 x7_1).f1) 0 99 true _ A7.out).mono ?_
         rintro e w' ⟨rfl, ⟨nd, rfl⟩⟩
         refine ⟨_, rfl, ?_⟩
         refine hK.out _ _ ⟨z0 _ BK102.out, z1 _ BK102.out, z2 _ BK102.out⟩ (fun hHeld => ?_)
         clear hK K
         refine norm_ (a' := ?_) ?_ ?_
         rotate_left
         ·show Act.put _ (some 19) _ = _
          simp only [Act.put, List.setIfInBounds_toArray, List.set_cons_zero, List.set_cons_succ, i64_w, i32_w]
          rfl
         refine pv HT_ 8 20 (tf 9 17) ?_
         refine pv HT_ 9 21 (tf 10 16) ?_
         refine pv HT_ 10 22 (tf 11 15) ?_
         refine pv HT_ 11 23 (tf 12 14) ?_
         refine pv HT_ 12 24 (tf 13 13) ?_
         refine pv HT_ 13 25 (tf 14 12) ?_
         refine pw HT_ 14 26 (tf 15 11) ?_
         refine pw HT_ 15 27 (tf 16 10) ?_
         refine pw HT_ 16 28 (tf 17 9) ?_
         refine pw HT_ 17 29 (tf 18 8) ?_
         refine pw HT_ 18 30 (tf 19 7) ?_
         refine pw HT_ 19 31 (tf 20 6) ?_
         refine pw HT_ 20 32 (tf 21 5) ?_
         refine pw HT_ 21 33 (tf 22 4) ?_
         refine pw HT_ 22 34 (tf 23 3) ?_
         refine pw HT_ 23 35 (tf 24 2) ?_
         refine pv HT_ 24 36 (tf 25 1) ?_
         refine pv HT_ 25 37 (tf 26 0) ?_
         refine done_ (done_of HT_.out (by kernel_rfl)) ?_
         try go_wp2
         go_roundg k1
         case measure => have := HK1.out; omega
         case rel => exact ⟨(wrap64 (x7_1 + 1)), (by first | rfl | (simp; done) | (simp [*]; done)), H', ⟨by have := HK1.out; omega⟩, ⟨K1 HB GE102.out⟩⟩
       ·replace c8 := Bool.eq_false_iff.mpr c8
        subst c8
        have H1 : (some false) = some r := by rw [if_neg (show ¬ (false = true) by decide)] at H; exact H
        clear H
        have H := H1
        clear H1
        obtain rfl := Option.some.inj H
        have p101 : 0 ≤ (x7_1 : Int) := OD
        have q101 : x7_1 < (l0.length : Int) := OD
        obtain ⟨ad101, e101, hx101_0, hx101_1, hx101_2⟩ := at_T86 HR0.out x7_1 p101 q101
        cases e101
        replace hx101_0 := CX HB.out hx101_0
        replace hx101_1 := CX HB.out hx101_1
        replace hx101_2 := CX HB.out hx101_2
        replace p101 := eq_true p101
        replace q101 := eq_true q101
        try go_wp2_with (first | ((with_reducible refine gate_dst (N := 4) rfl ?_); refine box_event rfl (N := 4) rfl (cs := #[.int .i64 0, .int .i64 0, .int .i64 0]) (t := 86) BX ?_; intro gb102 hg w32 hbox hb; have BK102 := am (hbox); have GW102 := am (GH HB hg); have GE102 := GW102; replace HB := am (below_step (KL HB) hb); clear hb hbox hg; obtain ⟨hcz33_0, hcz33_1, hcz33_2, hfz33_0⟩ := y3 w32 BK102.out))
        have n0_ : Aside0 ((((w32.setCell ⟨gb102, 0, none⟩ (.int .i64 ((rd_T86 l0 x7_1).f0.f0))).setCell ⟨gb102, 1, none⟩ (.int .i64 ((rd_T86 l0 x7_1).f0.f1))).setCell ⟨gb102, 2, none⟩ (.int .i64 ((rd_T86 l0 x7_1).f1))).heap[gb102]? = some (.cells #[.int .i64 ((rd_T86 l0 x7_1).f0.f0), .int .i64 ((rd_T86 l0 x7_1).f0.f1), .int .i64 ((rd_T86 l0 x7_1).f1)] 86 (0, 0))) := ⟨by (with_reducible repeat (first | refine blk_drewN ?_ _ | refine blk_drew ?_ | refine blk_alloc ?_ _)); refine blk_put (cs := #[.int .i64 ((rd_T86 l0 x7_1).f0.f0), .int .i64 ((rd_T86 l0 x7_1).f0.f1), .int .i64 0]) ?_ 2 _ rfl; (with_reducible repeat (first | refine blk_drewN ?_ _ | refine blk_drew ?_ | refine blk_alloc ?_ _)); refine blk_put (cs := #[.int .i64 ((rd_T86 l0 x7_1).f0.f0), .int .i64 0, .int .i64 0]) ?_ 1 _ rfl; (with_reducible repeat (first | refine blk_drewN ?_ _ | refine blk_drew ?_ | refine blk_alloc ?_ _)); refine blk_put (cs := #[.int .i64 0, .int .i64 0, .int .i64 0]) ?_ 0 _ rfl; (with_reducible repeat (first | refine blk_drewN ?_ _ | refine blk_drew ?_ | refine blk_alloc ?_ _)); exact BK102.out⟩
        have n1_ : Aside0 (Below w.heap.size w (((w32.setCell ⟨gb102, 0, none⟩ (.int .i64 ((rd_T86 l0 x7_1).f0.f0))).setCell ⟨gb102, 1, none⟩ (.int .i64 ((rd_T86 l0 x7_1).f0.f1))).setCell ⟨gb102, 2, none⟩ (.int .i64 ((rd_T86 l0 x7_1).f1)))) := ⟨K1 HB GE102.out⟩
        (try clear BK102)
        (try clear HB)
        generalize (((w32.setCell ⟨gb102, 0, none⟩ (.int .i64 ((rd_T86 l0 x7_1).f0.f0))).setCell ⟨gb102, 1, none⟩ (.int .i64 ((rd_T86 l0 x7_1).f0.f1))).setCell ⟨gb102, 2, none⟩ (.int .i64 ((rd_T86 l0 x7_1).f1))) = w34 at n0_ n1_ ⊢
        have BK102 := n0_
        have HB := n1_
        clear n0_ n1_
        replace BK102 := am (blk_drew BK102.out)
        replace HB := am (below_drew1 HB.out)
        refine start_ (n := 26) (S := fun w' => de3 w' gb102 (.int .i64 ((rd_T86 l0 x7_1).f0.f0)) (.int .i64 ((rd_T86 l0 x7_1).f0.f1)) (.int .i64 ((rd_T86 l0 x7_1).f1))) (ds := []) (tf 0 26) (by kernel_rfl) rfl rfl ⟨z0 _ BK102.out, z1 _ BK102.out, z2 _ BK102.out⟩ (fun hHeld => ?_); refine with_tabW impl_WaysOk.tab4 impl_WaysOk.bits4 (fun HT_ HW_ => ?_)
        generalize w34.drew = w35 at BK102 HB hHeld ⊢
        refine pv HT_ 0 12 (tf 1 25) ?_
        refine tk 1 (some 13) (tf 2 24) (take_ofW HT_.out HW_.out (by kernel_rfl)) hHeld ?_
        refine one_ (i := 2) (N := some 14) (tf 3 23) rfl rfl (one_of HT_.out (by kernel_rfl)) (by decide) (fun K hK => ?_)
        refine goes_ Try.func111 (by kernel_rfl) rfl #[.agg #[.int .i64 ((rd_T86 l0 x7_1).f0.f0), .int .i64 ((rd_T86 l0 x7_1).f0.f1)]] (by rfl) rfl rfl MT ?_
        with_reducible refine (impl_BlockOk.calls ((rd_T86 l0 x7_1).f0.f0) ((rd_T86 l0 x7_1).f0.f1) true _ A5.out).mono ?_
        rintro e w36 ⟨rfl, hb⟩
        refine ⟨_, rfl, ?_⟩
        replace BK102 := am (BB BK102 hb)
        replace HB := am (below_step (K1 HB GE102.out) hb)
        (try clear hb)
        (try clear hb2)
        (try clear hk)
        (try clear hi)
        refine hK.out _ _ ⟨z0 _ BK102.out, z1 _ BK102.out, z2 _ BK102.out⟩ (fun hHeld => ?_)
        clear hK K
        refine norm_ (a' := ?_) ?_ ?_
        rotate_left
        ·show Act.put _ (some 14) _ = _
         simp only [Act.put, List.setIfInBounds_toArray, List.set_cons_zero, List.set_cons_succ, i64_w, i32_w]
         rfl
        refine pv HT_ 3 15 (tf 4 22) ?_
        refine pv HT_ 4 16 (tf 5 21) ?_
        refine pv HT_ 5 17 (tf 6 20) ?_
        refine tk 6 (some 18) (tf 7 19) (take_ofW HT_.out HW_.out (by kernel_rfl)) hHeld ?_
        refine one_ (i := 7) (N := some 19) (tf 8 18) rfl rfl (one_of HT_.out (by kernel_rfl)) (by decide) (fun K hK => ?_)
        refine goes_ Try.func85 (by kernel_rfl) rfl #[.int .i64 ((rd_T86 l0 x7_1).f1), .int .i64 0, .int .i64 99] (by rfl) rfl rfl MT ?_
        with_reducible refine (impl_in.calls ((rd_T86 l0 x7_1).f1) 0 99 false _ A7.out).mono ?_
        rintro e w' ⟨rfl, ⟨nd, rfl⟩⟩
        refine ⟨_, rfl, ?_⟩
        refine hK.out _ _ ⟨z0 _ BK102.out, z1 _ BK102.out, z2 _ BK102.out⟩ (fun hHeld => ?_)
        clear hK K
        refine norm_ (a' := ?_) ?_ ?_
        rotate_left
        ·show Act.put _ (some 19) _ = _
         simp only [Act.put, List.setIfInBounds_toArray, List.set_cons_zero, List.set_cons_succ, i64_w, i32_w]
         rfl
        refine pv HT_ 8 20 (tf 9 17) ?_
        refine pv HT_ 9 21 (tf 10 16) ?_
        refine pv HT_ 10 22 (tf 11 15) ?_
        refine pw HT_ 11 23 (tf 12 14) ?_
        refine pw HT_ 12 24 (tf 13 13) ?_
        refine pw HT_ 13 25 (tf 14 12) ?_
        refine pw HT_ 14 26 (tf 15 11) ?_
        refine pw HT_ 15 27 (tf 16 10) ?_
        refine pw HT_ 16 28 (tf 17 9) ?_
        refine pw HT_ 17 29 (tf 18 8) ?_
        refine pw HT_ 18 30 (tf 19 7) ?_
        refine pw HT_ 19 31 (tf 20 6) ?_
        refine pw HT_ 20 32 (tf 21 5) ?_
        refine pw HT_ 21 33 (tf 22 4) ?_
        refine pw HT_ 22 34 (tf 23 3) ?_
        refine pw HT_ 23 35 (tf 24 2) ?_
        refine pw HT_ 24 36 (tf 25 1) ?_
        refine pv HT_ 25 37 (tf 26 0) ?_
        refine done_ (done_of HT_.out (by kernel_rfl)) ?_
        try go_wp2
        go_ret
        exact ⟨ER, K1 HB GE102.out⟩
      ·replace c6 := Bool.eq_false_iff.mpr c6
       subst c6
       have H1 : (some false) = some r := by rw [if_neg (show ¬ (false = true) by decide)] at H; exact H
       clear H
       have H := H1
       clear H1
       obtain rfl := Option.some.inj H
       have p101 : 0 ≤ (x7_1 : Int) := OD
       have q101 : x7_1 < (l0.length : Int) := OD
       obtain ⟨ad101, e101, hx101_0, hx101_1, hx101_2⟩ := at_T86 HR0.out x7_1 p101 q101
       cases e101
       replace hx101_0 := CX HB.out hx101_0
       replace hx101_1 := CX HB.out hx101_1
       replace hx101_2 := CX HB.out hx101_2
       replace p101 := eq_true p101
       replace q101 := eq_true q101
       try go_wp2_with (first | ((with_reducible refine gate_dst (N := 4) rfl ?_); refine box_event rfl (N := 4) rfl (cs := #[.int .i64 0, .int .i64 0, .int .i64 0]) (t := 86) BX ?_; intro gb102 hg w37 hbox hb; have BK102 := am (hbox); have GW102 := am (GH HB hg); have GE102 := GW102; replace HB := am (below_step (KL HB) hb); clear hb hbox hg; obtain ⟨hcz38_0, hcz38_1, hcz38_2, hfz38_0⟩ := y3 w37 BK102.out))
       have n0_ : Aside0 ((((w37.setCell ⟨gb102, 0, none⟩ (.int .i64 ((rd_T86 l0 x7_1).f0.f0))).setCell ⟨gb102, 1, none⟩ (.int .i64 ((rd_T86 l0 x7_1).f0.f1))).setCell ⟨gb102, 2, none⟩ (.int .i64 ((rd_T86 l0 x7_1).f1))).heap[gb102]? = some (.cells #[.int .i64 ((rd_T86 l0 x7_1).f0.f0), .int .i64 ((rd_T86 l0 x7_1).f0.f1), .int .i64 ((rd_T86 l0 x7_1).f1)] 86 (0, 0))) := ⟨by (with_reducible repeat (first | refine blk_drewN ?_ _ | refine blk_drew ?_ | refine blk_alloc ?_ _)); refine blk_put (cs := #[.int .i64 ((rd_T86 l0 x7_1).f0.f0), .int .i64 ((rd_T86 l0 x7_1).f0.f1), .int .i64 0]) ?_ 2 _ rfl; (with_reducible repeat (first | refine blk_drewN ?_ _ | refine blk_drew ?_ | refine blk_alloc ?_ _)); refine blk_put (cs := #[.int .i64 ((rd_T86 l0 x7_1).f0.f0), .int .i64 0, .int .i64 0]) ?_ 1 _ rfl; (with_reducible repeat (first | refine blk_drewN ?_ _ | refine blk_drew ?_ | refine blk_alloc ?_ _)); refine blk_put (cs := #[.int .i64 0, .int .i64 0, .int .i64 0]) ?_ 0 _ rfl; (with_reducible repeat (first | refine blk_drewN ?_ _ | refine blk_drew ?_ | refine blk_alloc ?_ _)); exact BK102.out⟩
       have n1_ : Aside0 (Below w.heap.size w (((w37.setCell ⟨gb102, 0, none⟩ (.int .i64 ((rd_T86 l0 x7_1).f0.f0))).setCell ⟨gb102, 1, none⟩ (.int .i64 ((rd_T86 l0 x7_1).f0.f1))).setCell ⟨gb102, 2, none⟩ (.int .i64 ((rd_T86 l0 x7_1).f1)))) := ⟨K1 HB GE102.out⟩
       (try clear BK102)
       (try clear HB)
       generalize (((w37.setCell ⟨gb102, 0, none⟩ (.int .i64 ((rd_T86 l0 x7_1).f0.f0))).setCell ⟨gb102, 1, none⟩ (.int .i64 ((rd_T86 l0 x7_1).f0.f1))).setCell ⟨gb102, 2, none⟩ (.int .i64 ((rd_T86 l0 x7_1).f1))) = w39 at n0_ n1_ ⊢
       have BK102 := n0_
       have HB := n1_
       clear n0_ n1_
       replace BK102 := am (blk_drew BK102.out)
       replace HB := am (below_drew1 HB.out)
       refine start_ (n := 26) (S := fun w' => de3 w' gb102 (.int .i64 ((rd_T86 l0 x7_1).f0.f0)) (.int .i64 ((rd_T86 l0 x7_1).f0.f1)) (.int .i64 ((rd_T86 l0 x7_1).f1))) (ds := []) (tf 0 26) (by kernel_rfl) rfl rfl ⟨z0 _ BK102.out, z1 _ BK102.out, z2 _ BK102.out⟩ (fun hHeld => ?_); refine with_tabW impl_WaysOk.tab4 impl_WaysOk.bits4 (fun HT_ HW_ => ?_)
       generalize w39.drew = w40 at BK102 HB hHeld ⊢
       refine pv HT_ 0 12 (tf 1 25) ?_
       refine tk 1 (some 13) (tf 2 24) (take_ofW HT_.out HW_.out (by kernel_rfl)) hHeld ?_
       refine one_ (i := 2) (N := some 14) (tf 3 23) rfl rfl (one_of HT_.out (by kernel_rfl)) (by decide) (fun K hK => ?_)
       refine goes_ Try.func111 (by kernel_rfl) rfl #[.agg #[.int .i64 ((rd_T86 l0 x7_1).f0.f0), .int .i64 ((rd_T86 l0 x7_1).f0.f1)]] (by rfl) rfl rfl MT ?_
       with_reducible refine (impl_BlockOk.calls ((rd_T86 l0 x7_1).f0.f0) ((rd_T86 l0 x7_1).f0.f1) false _ A5.out).mono ?_
       rintro e w41 ⟨rfl, hb⟩
       refine ⟨_, rfl, ?_⟩
       replace BK102 := am (BB BK102 hb)
       replace HB := am (below_step (K1 HB GE102.out) hb)
       (try clear hb)
       (try clear hb2)
       (try clear hk)
       (try clear hi)
       refine hK.out _ _ ⟨z0 _ BK102.out, z1 _ BK102.out, z2 _ BK102.out⟩ (fun hHeld => ?_)
       clear hK K
       refine norm_ (a' := ?_) ?_ ?_
       rotate_left
       ·show Act.put _ (some 14) _ = _
        simp only [Act.put, List.setIfInBounds_toArray, List.set_cons_zero, List.set_cons_succ, i64_w, i32_w]
        rfl
       refine pv HT_ 3 15 (tf 4 22) ?_
       refine pv HT_ 4 16 (tf 5 21) ?_
       refine pw HT_ 5 17 (tf 6 20) ?_
       refine pw HT_ 6 18 (tf 7 19) ?_
       refine pw HT_ 7 19 (tf 8 18) ?_
       refine pw HT_ 8 20 (tf 9 17) ?_
       refine pv HT_ 9 21 (tf 10 16) ?_
       refine pv HT_ 10 22 (tf 11 15) ?_
       refine pw HT_ 11 23 (tf 12 14) ?_
       refine pw HT_ 12 24 (tf 13 13) ?_
       refine pw HT_ 13 25 (tf 14 12) ?_
       refine pw HT_ 14 26 (tf 15 11) ?_
       refine pw HT_ 15 27 (tf 16 10) ?_
       refine pw HT_ 16 28 (tf 17 9) ?_
       refine pw HT_ 17 29 (tf 18 8) ?_
       refine pw HT_ 18 30 (tf 19 7) ?_
       refine pw HT_ 19 31 (tf 20 6) ?_
       refine pw HT_ 20 32 (tf 21 5) ?_
       refine pw HT_ 21 33 (tf 22 4) ?_
       refine pw HT_ 22 34 (tf 23 3) ?_
       refine pw HT_ 23 35 (tf 24 2) ?_
       refine pw HT_ 24 36 (tf 25 1) ?_
       refine pv HT_ 25 37 (tf 26 0) ?_
       refine done_ (done_of HT_.out (by kernel_rfl)) ?_
       try go_wp2
       go_ret
       exact ⟨ER, K1 HB GE102.out⟩
     ·rw [if_neg c4] at H
      exact absurd H (by simp)
    ·rw [if_neg c3] at H
     exact absurd H (by simp)
   ·rw [if_neg c2] at H
    have c2b0 : decide (x7_1 < (l0.length : Int)) = false := decide_eq_false c2
    clear c2
    obtain rfl := Option.some.inj H
    go_wp2
    go_ret
    exact ⟨ER, KL HB⟩
def impl_WaysLead.f (k : Nat) (l0 : List (S86)) (a1 : Int) : Option (Int) := (impl_WaysOk.f k l0).bind fun t101 => (if t101 = true then ((impl_isAddr.f a1).bind fun t102 => (if t102 = true then ((impl_lead.f k l0 a1).bind fun t103 => (some t103)) else (some (-1)))) else (some (-1)))
set_option maxHeartbeats 8000000 in
set_option maxRecDepth 100000 in
theorem impl_WaysLead.calls (k : Nat) (A0 : Option Addr) (c0 : Nat) (l0 : List (S86)) (a1 : Int) (r : Int) (w : World) (hr0 : Kd.C k86 w A0 l0.length l0) (hc0 : l0.length ≤ c0) (h : impl_WaysLead.f k l0 a1 = some r) :
  Calls Try.prog 56 #[.slice A0 l0.length c0, .int .i64 a1] w fun e w' => e = .returned (.int .i64 r) ∧ Below w.heap.size w w' := by
 have HR0 := Aside0.mk hr0
 have HC0 := Aside0.mk hc0
 clear hr0 hc0
 have HB := am (Below.refl w.heap.size w)
 have H : ((impl_WaysOk.f k l0).bind fun t101 => (if t101 = true then ((impl_isAddr.f a1).bind fun t102 => (if t102 = true then ((impl_lead.f k l0 a1).bind fun t103 => (some t103)) else (some (-1)))) else (some (-1)))) = some r := h
 clear h
 replace H := Option.bind_eq_some_iff.mp H
 obtain ⟨t101, A30, H⟩ := H
 replace H : (if t101 = true then ((impl_isAddr.f a1).bind fun t102 => (if t102 = true then ((impl_lead.f k l0 a1).bind fun t103 => (some t103)) else (some (-1)))) else (some (-1))) = some r := H
 have A3 := Aside0.mk A30
 clear A30
 by_cases c4 : t101 = true
 ·subst c4
  have H1 : ((impl_isAddr.f a1).bind fun t102 => (if t102 = true then ((impl_lead.f k l0 a1).bind fun t103 => (some t103)) else (some (-1)))) = some r := by rw [if_pos rfl] at H; exact H
  clear H
  have H := H1
  clear H1
  replace H := Option.bind_eq_some_iff.mp H
  obtain ⟨t102, A50, H⟩ := H
  replace H : (if t102 = true then ((impl_lead.f k l0 a1).bind fun t103 => (some t103)) else (some (-1))) = some r := H
  have A5 := Aside0.mk A50
  clear A50
  by_cases c6 : t102 = true
  ·subst c6
   have H1 : ((impl_lead.f k l0 a1).bind fun t103 => (some t103)) = some r := by rw [if_pos rfl] at H; exact H
   clear H
   have H := H1
   clear H1
   replace H := Option.bind_eq_some_iff.mp H
   obtain ⟨t103, A70, H⟩ := H
   replace H : (some t103) = some r := H
   have A7 := Aside0.mk A70
   clear A70
   obtain rfl := Option.some.inj H
   go_enter Try.func56, Try.ntmps56
   go_wp2_with (first | ((with_reducible refine gate_callee (f := 63) rfl ?_); refine goesL_ (some 6) rfl rfl Try.func63 (by kernel_rfl) rfl #[.slice A0 l0.length c0] rfl MT ?_; (with_reducible refine (impl_WaysOk.calls k _ _ l0 true _ ?side1 ?side2 A3.out).mono ?_); (case side1 => exact KC HR0.out); (case side2 => exact HC0.out); rintro e w8 ⟨rfl, hb⟩; refine ⟨_, rfl, ?_⟩; replace HB := am (below_step (KL HB) hb); (try clear hb); (try clear hb2); (try clear hk); (try clear hi)) | (go_at_call 106; (with_reducible refine (impl_isAddr.calls a1 true _ A5.out).mono ?_); rintro e w' ⟨rfl, ⟨nd, rfl⟩⟩) | ((with_reducible refine gate_callee (f := 102) rfl ?_); refine goesL_ (some 15) rfl rfl Try.func102 (by kernel_rfl) rfl #[.slice A0 l0.length c0, .int .i64 a1] rfl MT ?_; (with_reducible refine (impl_lead.calls k _ _ l0 a1 t103 _ ?side1 ?side2 A7.out).mono ?_); (case side1 => repeat (first | exact (Kd.C_below HR0.out (KL HB)) | (with_reducible refine Kd.C_alloc ?_ _) | (with_reducible refine Kd.C_drewN ?_ _) | (with_reducible refine Kd.C_drew ?_))); (case side2 => exact HC0.out); rintro e w9 ⟨rfl, hb⟩; refine ⟨_, rfl, ?_⟩; replace HB := am (below_step (KL HB) hb); (try clear hb); (try clear hb2); (try clear hk); (try clear hi)))
   go_ret
   exact ⟨ER, KL HB⟩
  ·replace c6 := Bool.eq_false_iff.mpr c6
   subst c6
   have H1 : (some (-1)) = some r := by rw [if_neg (show ¬ (false = true) by decide)] at H; exact H
   clear H
   have H := H1
   clear H1
   obtain rfl := Option.some.inj H
   go_enter Try.func56, Try.ntmps56
   go_wp2_with (first | ((with_reducible refine gate_callee (f := 63) rfl ?_); refine goesL_ (some 6) rfl rfl Try.func63 (by kernel_rfl) rfl #[.slice A0 l0.length c0] rfl MT ?_; (with_reducible refine (impl_WaysOk.calls k _ _ l0 true _ ?side1 ?side2 A3.out).mono ?_); (case side1 => exact KC HR0.out); (case side2 => exact HC0.out); rintro e w10 ⟨rfl, hb⟩; refine ⟨_, rfl, ?_⟩; replace HB := am (below_step (KL HB) hb); (try clear hb); (try clear hb2); (try clear hk); (try clear hi)) | (go_at_call 106; (with_reducible refine (impl_isAddr.calls a1 false _ A5.out).mono ?_); rintro e w' ⟨rfl, ⟨nd, rfl⟩⟩))
   go_ret
   exact ⟨ER, KL HB⟩
 ·replace c4 := Bool.eq_false_iff.mpr c4
  subst c4
  have H1 : (some (-1)) = some r := by rw [if_neg (show ¬ (false = true) by decide)] at H; exact H
  clear H
  have H := H1
  clear H1
  obtain rfl := Option.some.inj H
  go_enter Try.func56, Try.ntmps56
  go_wp2_with (first | ((with_reducible refine gate_callee (f := 63) rfl ?_); refine goesL_ (some 6) rfl rfl Try.func63 (by kernel_rfl) rfl #[.slice A0 l0.length c0] rfl MT ?_; (with_reducible refine (impl_WaysOk.calls k _ _ l0 false _ ?side1 ?side2 A3.out).mono ?_); (case side1 => exact KC HR0.out); (case side2 => exact HC0.out); rintro e w11 ⟨rfl, hb⟩; refine ⟨_, rfl, ?_⟩; replace HB := am (below_step (KL HB) hb); (try clear hb); (try clear hb2); (try clear hk); (try clear hi)))
  go_ret
  exact ⟨ER, KL HB⟩
def impl_BlockHas.f (a0_0 : Int) (a0_1 : Int) (a1 : Int) : Option (Bool) := (impl_BlockOk.f a0_0 a0_1).bind fun t102 => (if t102 = true then ((impl_Block_has.f a0_0 a0_1 a1).bind fun t103 => (some t103)) else (some false))
set_option maxHeartbeats 8000000 in
set_option maxRecDepth 100000 in
theorem impl_BlockHas.calls (a0_0 : Int) (a0_1 : Int) (a1 : Int) (r : Bool) (w : World) (h : impl_BlockHas.f a0_0 a0_1 a1 = some r) :
  Calls Try.prog 59 #[.agg #[.int .i64 a0_0, .int .i64 a0_1], .int .i64 a1] w fun e w' => e = .returned (.bool r) ∧ Below w.heap.size w w' := by
 have hu32 := Try.underlying32
 have HB := am (Below.refl w.heap.size w)
 have H : ((impl_BlockOk.f a0_0 a0_1).bind fun t102 => (if t102 = true then ((impl_Block_has.f a0_0 a0_1 a1).bind fun t103 => (some t103)) else (some false))) = some r := h
 clear h
 replace H := Option.bind_eq_some_iff.mp H
 obtain ⟨t102, A30, H⟩ := H
 replace H : (if t102 = true then ((impl_Block_has.f a0_0 a0_1 a1).bind fun t103 => (some t103)) else (some false)) = some r := H
 have A3 := Aside0.mk A30
 clear A30
 by_cases c4 : t102 = true
 ·subst c4
  have H1 : ((impl_Block_has.f a0_0 a0_1 a1).bind fun t103 => (some t103)) = some r := by rw [if_pos rfl] at H; exact H
  clear H
  have H := H1
  clear H1
  replace H := Option.bind_eq_some_iff.mp H
  obtain ⟨t103, A50, H⟩ := H
  replace H : (some t103) = some r := H
  have A5 := Aside0.mk A50
  clear A50
  obtain rfl := Option.some.inj H
  go_enter Try.func59, Try.ntmps59
  go_wp2_with (first | ((with_reducible refine gate_dst (N := 2) rfl ?_); refine box_event rfl (N := 2) rfl (cs := #[.int .i64 a0_0, .int .i64 a0_1]) (t := 32) BX ?_; intro gb101 hg w6 hbox hb; have BK101 := am (hbox); have GW101 := am (GH HB hg); have GE101 := GW101; replace HB := am (below_step (KL HB) hb); clear hb hbox hg; obtain ⟨hcz7_0, hcz7_1, hfz7_0⟩ := y2 w6 BK101.out) | ((with_reducible refine gate_callee (f := 111) rfl ?_); refine goesL_ (some 6) rfl rfl Try.func111 (by kernel_rfl) rfl #[.agg #[.int .i64 a0_0, .int .i64 a0_1]] rfl MT ?_; (with_reducible refine (impl_BlockOk.calls a0_0 a0_1 true _ A3.out).mono ?_); rintro e w8 ⟨rfl, hb⟩; refine ⟨_, rfl, ?_⟩; replace BK101 := am (BB BK101 hb); replace HB := am (below_step (K1 HB GE101.out) hb); (try clear hb); (try clear hb2); (try clear hk); (try clear hi); obtain ⟨hcz9_0, hcz9_1, hfz9_0⟩ := y2 w8 BK101.out) | (go_at_call 112; (with_reducible refine (impl_Block_has.calls a0_0 a0_1 a1 t103 _ A5.out).mono ?_); rintro e w10 ⟨rfl, hb⟩; replace BK101 := am (BB BK101 hb); replace HB := am (below_step (K1 HB GE101.out) hb); (try clear hb); (try clear hb2); (try clear hk); (try clear hi)))
  go_ret
  exact ⟨ER, K1 HB GE101.out⟩
 ·replace c4 := Bool.eq_false_iff.mpr c4
  subst c4
  have H1 : (some false) = some r := by rw [if_neg (show ¬ (false = true) by decide)] at H; exact H
  clear H
  have H := H1
  clear H1
  obtain rfl := Option.some.inj H
  go_enter Try.func59, Try.ntmps59
  go_wp2_with (first | ((with_reducible refine gate_dst (N := 2) rfl ?_); refine box_event rfl (N := 2) rfl (cs := #[.int .i64 a0_0, .int .i64 a0_1]) (t := 32) BX ?_; intro gb101 hg w11 hbox hb; have BK101 := am (hbox); have GW101 := am (GH HB hg); have GE101 := GW101; replace HB := am (below_step (KL HB) hb); clear hb hbox hg; obtain ⟨hcz12_0, hcz12_1, hfz12_0⟩ := y2 w11 BK101.out) | ((with_reducible refine gate_callee (f := 111) rfl ?_); refine goesL_ (some 6) rfl rfl Try.func111 (by kernel_rfl) rfl #[.agg #[.int .i64 a0_0, .int .i64 a0_1]] rfl MT ?_; (with_reducible refine (impl_BlockOk.calls a0_0 a0_1 false _ A3.out).mono ?_); rintro e w13 ⟨rfl, hb⟩; refine ⟨_, rfl, ?_⟩; replace BK101 := am (BB BK101 hb); replace HB := am (below_step (K1 HB GE101.out) hb); (try clear hb); (try clear hb2); (try clear hk); (try clear hi)))
  go_ret
  exact ⟨ER, K1 HB GE101.out⟩
end Go.Proofs.Ytioghacieopbdaa.PAll
end
section
namespace Go.Proofs.Ytioghacieopbdaa.PAll
open Go.RowKit Go.Proofs.YtioghacieopbdaaW.PrintWords Go.Proofs.YtioghacieopbdaaW.PrintLast Go.Proofs.YtioghacieopbdaaW.PrintMore
attribute [local go_sem] max2_int min2_int max_two min_two max_three min_three max_four min_four   -- for this text's walks alone
set_option linter.unusedVariables false
set_option linter.unusedSimpArgs false
attribute [local go_sem high] eqA86
def laws_ovWays.l0 : Nat → List (S86) → List (S86) → Int → Option (Bool)
 | 0, _, _, _ => none
 | k + 1, x0, x1, x5 => if x5 < (x0.length : Int) then (if 0 ≤ x5 then (if x5 < (x1.length : Int) then (if ((!(((rd_T86 x0 x5).f0.f0) == ((rd_T86 x1 x5).f0.f0)) || (!(((rd_T86 x0 x5).f0.f1) == ((rd_T86 x1 x5).f0.f1)))) || (!(((rd_T86 x0 x5).f1) == ((rd_T86 x1 x5).f1)))) = true then (some false) else (laws_ovWays.l0 k x0 x1 (wrap64 (x5 + 1)))) else (none)) else (none)) else (some true)
def laws_ovWays.f (k : Nat) (l0 : List (S86)) (l1 : List (S86)) : Option (Bool) := if (l0.length : Int) = (l1.length : Int) then (laws_ovWays.l0 k l0 l1 0) else (some false)
set_option maxHeartbeats 8000000 in
set_option maxRecDepth 100000 in
theorem laws_ovWays.calls (k : Nat) (A0 : Option Addr) (c0 : Nat) (l0 : List (S86)) (A1 : Option Addr) (c1 : Nat) (l1 : List (S86)) (r : Bool) (w : World) (hr0 : Kd.C k86 w A0 l0.length l0) (hc0 : l0.length ≤ c0) (hr1 : Kd.C k86 w A1 l1.length l1) (hc1 : l1.length ≤ c1) (h : laws_ovWays.f k l0 l1 = some r) :
  Calls Try.prog 61 #[.slice A0 l0.length c0, .slice A1 l1.length c1] w fun e w' => e = .returned (.bool r) ∧ Drawn0 w w' := by
 have hu86 := Try.underlying86
 have HR0 := Aside0.mk hr0
 have HC0 := Aside0.mk hc0
 clear hr0 hc0
 have HR1 := Aside0.mk hr1
 have HC1 := Aside0.mk hc1
 clear hr1 hc1
 have H : (if (l0.length : Int) = (l1.length : Int) then (laws_ovWays.l0 k l0 l1 0) else (some false)) = some r := h
 clear h
 by_cases c3 : (l0.length : Int) = (l1.length : Int)
 ·rw [if_pos c3] at H
  have c3b0 : ((l0.length : Int) == (l1.length : Int)) = true := beq_iff_eq.mpr c3
  have c3b1 : ((l0.length : Int) != (l1.length : Int)) = false := bne_eq_false_iff_eq.mpr c3
  have c3b2 : (l0.length == l1.length) = true := by first | simpa using c3 | (simp at c3 ⊢; omega)
  clear c3
  have H' := Aside0.mk H
  clear H
  go_enter Try.func61, Try.ntmps61
  go_wp2
  repeat (go_quiet (fail); try go_wp2)
  go_loopg [5] k (fun kq v5 w' => ∃ (x5_1 : Int), v5 = .int .i64 x5_1 ∧ Aside0 (laws_ovWays.l0 kq l0 l1 x5_1 = some r) ∧ Aside0 (kq ≤ k) ∧ Drawn0 w w')
  case atStart => exact ⟨(0), (by first | rfl | (simp; done) | (simp [*]; done)), H', ⟨Nat.le_refl _⟩, by repeat (first | exact Drawn0.refl _ | apply Drawn0.step)⟩
  case round =>
   clear H'
   try clear c1
   try clear p2
   try clear c3
   try clear c3b0
   try clear c3b1
   try clear c3b2
   obtain ⟨x5_1, rfl, HA, HK1, ⟨m1, rfl⟩⟩ := hrel
   cases gk with
   | zero => exact absurd HA.out (by simp [laws_ovWays.l0])
   | succ k1 =>
    have H := HA.out
    clear HA
    simp only [laws_ovWays.l0] at H
    by_cases c4 : x5_1 < (l0.length : Int)
    ·rw [if_pos c4] at H
     have c4b0 : decide (x5_1 < (l0.length : Int)) = true := decide_eq_true c4
     clear c4
     by_cases c5 : 0 ≤ x5_1
     ·rw [if_pos c5] at H
      have c5b0 : decide (0 ≤ x5_1) = true := decide_eq_true c5
      clear c5
      by_cases c6 : x5_1 < (l1.length : Int)
      ·rw [if_pos c6] at H
       have c6b0 : decide (x5_1 < (l1.length : Int)) = true := decide_eq_true c6
       clear c6
       by_cases c7 : ((!(((rd_T86 l0 x5_1).f0.f0) == ((rd_T86 l1 x5_1).f0.f0)) || (!(((rd_T86 l0 x5_1).f0.f1) == ((rd_T86 l1 x5_1).f0.f1)))) || (!(((rd_T86 l0 x5_1).f1) == ((rd_T86 l1 x5_1).f1)))) = true
       ·rw [if_pos c7] at H
        have c7b0 : ((!(((rd_T86 l0 x5_1).f0.f0) == ((rd_T86 l1 x5_1).f0.f0)) || (!(((rd_T86 l0 x5_1).f0.f1) == ((rd_T86 l1 x5_1).f0.f1)))) || (!(((rd_T86 l0 x5_1).f1) == ((rd_T86 l1 x5_1).f1)))) = true := c7
        clear c7
        obtain rfl := Option.some.inj H
        have p101 : 0 ≤ (x5_1 : Int) := OD
        have q101 : x5_1 < (l0.length : Int) := OD
        obtain ⟨ad101, e101, hx101_0, hx101_1, hx101_2⟩ := at_T86 HR0.out x5_1 p101 q101
        cases e101
        replace p101 := eq_true p101
        replace q101 := eq_true q101
        have p102 : 0 ≤ (x5_1 : Int) := OD
        have q102 : x5_1 < (l1.length : Int) := OD
        obtain ⟨ad102, e102, hx102_0, hx102_1, hx102_2⟩ := at_T86 HR1.out x5_1 p102 q102
        cases e102
        replace p102 := eq_true p102
        replace q102 := eq_true q102
        go_wp2
        repeat (go_quiet (fail); try go_wp2)
        go_ret
        exact ⟨by first | rfl | (simp; done) | (simp [*]; done), by repeat (first | exact Drawn0.refl _ | apply Drawn0.step)⟩
       ·rw [if_neg c7] at H
        have c7b0 : ((!(((rd_T86 l0 x5_1).f0.f0) == ((rd_T86 l1 x5_1).f0.f0)) || (!(((rd_T86 l0 x5_1).f0.f1) == ((rd_T86 l1 x5_1).f0.f1)))) || (!(((rd_T86 l0 x5_1).f1) == ((rd_T86 l1 x5_1).f1)))) = false := by simpa using c7
        clear c7
        have H' := Aside0.mk H
        clear H
        have p101 : 0 ≤ (x5_1 : Int) := OD
        have q101 : x5_1 < (l0.length : Int) := OD
        obtain ⟨ad101, e101, hx101_0, hx101_1, hx101_2⟩ := at_T86 HR0.out x5_1 p101 q101
        cases e101
        replace p101 := eq_true p101
        replace q101 := eq_true q101
        have p102 : 0 ≤ (x5_1 : Int) := OD
        have q102 : x5_1 < (l1.length : Int) := OD
        obtain ⟨ad102, e102, hx102_0, hx102_1, hx102_2⟩ := at_T86 HR1.out x5_1 p102 q102
        cases e102
        replace p102 := eq_true p102
        replace q102 := eq_true q102
        go_wp2
        repeat (go_quiet (fail); try go_wp2)
        go_roundg k1
        case measure => have := HK1.out; omega
        case rel => exact ⟨(wrap64 (x5_1 + 1)), (by first | rfl | (simp; done) | (simp [*]; done)), H', ⟨by have := HK1.out; omega⟩, by repeat (first | exact Drawn0.refl _ | apply Drawn0.step)⟩
      ·rw [if_neg c6] at H
       exact absurd H (by simp)
     ·rw [if_neg c5] at H
      exact absurd H (by simp)
    ·rw [if_neg c4] at H
     have c4b0 : decide (x5_1 < (l0.length : Int)) = false := decide_eq_false c4
     clear c4
     obtain rfl := Option.some.inj H
     go_wp2
     repeat (go_quiet (fail); try go_wp2)
     go_ret
     exact ⟨by first | rfl | (simp; done) | (simp [*]; done), by repeat (first | exact Drawn0.refl _ | apply Drawn0.step)⟩
 ·rw [if_neg c3] at H
  have c3b0 : ((l0.length : Int) == (l1.length : Int)) = false := beq_eq_false_iff_ne.mpr c3
  have c3b1 : ((l0.length : Int) != (l1.length : Int)) = true := bne_iff_ne.mpr c3
  have c3b2 : (l0.length == l1.length) = false := by first | simpa using c3 | (simp at c3 ⊢; omega)
  obtain rfl := Option.some.inj H
  go_enter Try.func61, Try.ntmps61
  go_wp2
  repeat (go_quiet (fail); try go_wp2)
  go_ret
  exact ⟨by first | rfl | (simp; done) | (simp [*]; done), by repeat (first | exact Drawn0.refl _ | apply Drawn0.step)⟩
end Go.Proofs.Ytioghacieopbdaa.PAll
end
section
namespace Go.Proofs.Ytioghacieopbdaa.PAll
open Go.RowKit Go.Proofs.YtioghacieopbdaaW.PrintWords Go.Proofs.YtioghacieopbdaaW.PrintLast Go.Proofs.YtioghacieopbdaaW.PrintMore
attribute [local go_sem] max2_int min2_int max_two min_two max_three min_three max_four min_four   -- for this text's walks alone
set_option linter.unusedVariables false
set_option linter.unusedSimpArgs false
def spec_DrawWaysPut.f (k : Nat) (l0 : List Int) : Option ((List (S86)) × Int × Int × Int) := (spec_l1Open.f l0).bind fun bt102 => ((spec_l12AnyWays.f k bt102.1 bt102.2).bind fun bt105 => ((spec_l12AnyBlock.f k bt102.1 bt105.2).bind fun bt109 => ((spec_l1Rd_one.f k bt102.1 bt109.2.2 (([0, 1, 2, 99, 100] : List Int))).bind fun bt115 => (if (bt105.1.length : Int) > 0 then ((spec_l1Rd_pick.f k bt102.1 bt115.2 3).bind fun bt118 => (if bt118.1 = 0 then ((spec_l1Rd_pick.f k bt102.1 bt118.2 (bt105.1.length : Int)).bind fun bt120 => (if 0 ≤ bt120.1 then (if bt120.1 < (bt105.1.length : Int) then (some (bt105.1, (rd_T86 bt105.1 bt120.1).f0.f0, (rd_T86 bt105.1 bt120.1).f0.f1, bt115.1)) else (none)) else (none))) else (some (bt105.1, bt109.1, bt109.2.1, bt115.1)))) else (some (bt105.1, bt109.1, bt109.2.1, bt115.1))))))
set_option maxHeartbeats 8000000 in
set_option maxRecDepth 100000 in
theorem spec_DrawWaysPut.calls (k : Nat) (A0 : Option Addr) (c0 : Nat) (l0 : List Int) (r1 : List (S86)) (r2 : Int) (r3 : Int) (r4 : Int) (w : World) (hr0 : Kd.C (Kd.int .u8) w A0 l0.length l0) (hc0 : l0.length ≤ c0) (h : spec_DrawWaysPut.f k l0 = some (r1, r2, r3, r4)) :
  Calls Try.prog 67 #[.slice A0 l0.length c0] w fun e w' => ∃ v0_ : Value, e = .returned (.tuple #[v0_, .agg #[.int .i64 r2, .int .i64 r3, .int .i64 r4]]) ∧ Kd.R k86 86 w' w.heap.size (fun _ => True) v0_ r1 ∧ Below w.heap.size w w' := by
 have hu86 := Try.underlying86
 have hu32 := Try.underlying32
 have HR0 := Aside0.mk hr0
 have HC0 := Aside0.mk hc0
 clear hr0 hc0
 have HB := am (Below.refl w.heap.size w)
 have H : ((spec_l1Open.f l0).bind fun bt102 => ((spec_l12AnyWays.f k bt102.1 bt102.2).bind fun bt105 => ((spec_l12AnyBlock.f k bt102.1 bt105.2).bind fun bt109 => ((spec_l1Rd_one.f k bt102.1 bt109.2.2 (([0, 1, 2, 99, 100] : List Int))).bind fun bt115 => (if (bt105.1.length : Int) > 0 then ((spec_l1Rd_pick.f k bt102.1 bt115.2 3).bind fun bt118 => (if bt118.1 = 0 then ((spec_l1Rd_pick.f k bt102.1 bt118.2 (bt105.1.length : Int)).bind fun bt120 => (if 0 ≤ bt120.1 then (if bt120.1 < (bt105.1.length : Int) then (some (bt105.1, (rd_T86 bt105.1 bt120.1).f0.f0, (rd_T86 bt105.1 bt120.1).f0.f1, bt115.1)) else (none)) else (none))) else (some (bt105.1, bt109.1, bt109.2.1, bt115.1)))) else (some (bt105.1, bt109.1, bt109.2.1, bt115.1))))))) = some (r1, r2, r3, r4) := h
 clear h
 replace H := Option.bind_eq_some_iff.mp H
 obtain ⟨⟨t102, t103⟩, A20, H⟩ := H
 replace H : ((spec_l12AnyWays.f k t102 t103).bind fun bt105 => ((spec_l12AnyBlock.f k t102 bt105.2).bind fun bt109 => ((spec_l1Rd_one.f k t102 bt109.2.2 (([0, 1, 2, 99, 100] : List Int))).bind fun bt115 => (if (bt105.1.length : Int) > 0 then ((spec_l1Rd_pick.f k t102 bt115.2 3).bind fun bt118 => (if bt118.1 = 0 then ((spec_l1Rd_pick.f k t102 bt118.2 (bt105.1.length : Int)).bind fun bt120 => (if 0 ≤ bt120.1 then (if bt120.1 < (bt105.1.length : Int) then (some (bt105.1, (rd_T86 bt105.1 bt120.1).f0.f0, (rd_T86 bt105.1 bt120.1).f0.f1, bt115.1)) else (none)) else (none))) else (some (bt105.1, bt109.1, bt109.2.1, bt115.1)))) else (some (bt105.1, bt109.1, bt109.2.1, bt115.1)))))) = some (r1, r2, r3, r4) := H
 have A2 := Aside0.mk A20
 clear A20
 replace H := Option.bind_eq_some_iff.mp H
 obtain ⟨⟨t105, t108⟩, A30, H⟩ := H
 replace H : ((spec_l12AnyBlock.f k t102 t108).bind fun bt109 => ((spec_l1Rd_one.f k t102 bt109.2.2 (([0, 1, 2, 99, 100] : List Int))).bind fun bt115 => (if (t105.length : Int) > 0 then ((spec_l1Rd_pick.f k t102 bt115.2 3).bind fun bt118 => (if bt118.1 = 0 then ((spec_l1Rd_pick.f k t102 bt118.2 (t105.length : Int)).bind fun bt120 => (if 0 ≤ bt120.1 then (if bt120.1 < (t105.length : Int) then (some (t105, (rd_T86 t105 bt120.1).f0.f0, (rd_T86 t105 bt120.1).f0.f1, bt115.1)) else (none)) else (none))) else (some (t105, bt109.1, bt109.2.1, bt115.1)))) else (some (t105, bt109.1, bt109.2.1, bt115.1))))) = some (r1, r2, r3, r4) := H
 have A3 := Aside0.mk A30
 clear A30
 replace H := Option.bind_eq_some_iff.mp H
 obtain ⟨⟨t109, t110, t111⟩, A40, H⟩ := H
 replace H : ((spec_l1Rd_one.f k t102 t111 (([0, 1, 2, 99, 100] : List Int))).bind fun bt115 => (if (t105.length : Int) > 0 then ((spec_l1Rd_pick.f k t102 bt115.2 3).bind fun bt118 => (if bt118.1 = 0 then ((spec_l1Rd_pick.f k t102 bt118.2 (t105.length : Int)).bind fun bt120 => (if 0 ≤ bt120.1 then (if bt120.1 < (t105.length : Int) then (some (t105, (rd_T86 t105 bt120.1).f0.f0, (rd_T86 t105 bt120.1).f0.f1, bt115.1)) else (none)) else (none))) else (some (t105, t109, t110, bt115.1)))) else (some (t105, t109, t110, bt115.1)))) = some (r1, r2, r3, r4) := H
 have A4 := Aside0.mk A40
 clear A40
 obtain ⟨y112, hy112⟩ : ∃ y_ : List Int, y_ = (([0, 1, 2, 99, 100] : List Int)) := ⟨_, rfl⟩
 replace H : ((spec_l1Rd_one.f k t102 t111 y112).bind fun bt115 => (if (t105.length : Int) > 0 then ((spec_l1Rd_pick.f k t102 bt115.2 3).bind fun bt118 => (if bt118.1 = 0 then ((spec_l1Rd_pick.f k t102 bt118.2 (t105.length : Int)).bind fun bt120 => (if 0 ≤ bt120.1 then (if bt120.1 < (t105.length : Int) then (some (t105, (rd_T86 t105 bt120.1).f0.f0, (rd_T86 t105 bt120.1).f0.f1, bt115.1)) else (none)) else (none))) else (some (t105, t109, t110, bt115.1)))) else (some (t105, t109, t110, bt115.1)))) = some (r1, r2, r3, r4) := by first | (rw [hy112]; with_reducible exact H) | (have H2_ := (Option.bind_some _ _).symm.trans H; rw [hy112]; with_reducible exact H2_) | (have H2_ := (Option.bind_some _ _).symm.trans H; with_reducible exact H2_) | with_reducible exact H | (rw [hy112]; exact H) | exact H
 have Ny112 := Aside0.mk hy112
 clear hy112
 replace H := Option.bind_eq_some_iff.mp H
 obtain ⟨⟨t115, t116⟩, A50, H⟩ := H
 replace H : (if (t105.length : Int) > 0 then ((spec_l1Rd_pick.f k t102 t116 3).bind fun bt118 => (if bt118.1 = 0 then ((spec_l1Rd_pick.f k t102 bt118.2 (t105.length : Int)).bind fun bt120 => (if 0 ≤ bt120.1 then (if bt120.1 < (t105.length : Int) then (some (t105, (rd_T86 t105 bt120.1).f0.f0, (rd_T86 t105 bt120.1).f0.f1, t115)) else (none)) else (none))) else (some (t105, t109, t110, t115)))) else (some (t105, t109, t110, t115))) = some (r1, r2, r3, r4) := H
 have A5 := Aside0.mk A50
 clear A50
 by_cases c6 : (t105.length : Int) > 0
 ·rw [if_pos c6] at H
  have c6b0 : decide (0 < (t105.length : Int)) = true := decide_eq_true c6
  have c6b1 : decide (0 < t105.length) = true := decide_eq_true (by omega)
  clear c6
  replace H := Option.bind_eq_some_iff.mp H
  obtain ⟨⟨t118, t119⟩, A70, H⟩ := H
  replace H : (if t118 = 0 then ((spec_l1Rd_pick.f k t102 t119 (t105.length : Int)).bind fun bt120 => (if 0 ≤ bt120.1 then (if bt120.1 < (t105.length : Int) then (some (t105, (rd_T86 t105 bt120.1).f0.f0, (rd_T86 t105 bt120.1).f0.f1, t115)) else (none)) else (none))) else (some (t105, t109, t110, t115))) = some (r1, r2, r3, r4) := H
  have A7 := Aside0.mk A70
  clear A70
  by_cases c8 : t118 = 0
  ·rw [if_pos c8] at H
   have c8b0 : (t118 == 0) = true := beq_iff_eq.mpr c8
   have c8b1 : (t118 != 0) = false := bne_eq_false_iff_eq.mpr c8
   clear c8
   replace H := Option.bind_eq_some_iff.mp H
   obtain ⟨⟨t120, t121⟩, A90, H⟩ := H
   replace H : (if 0 ≤ t120 then (if t120 < (t105.length : Int) then (some (t105, (rd_T86 t105 t120).f0.f0, (rd_T86 t105 t120).f0.f1, t115)) else (none)) else (none)) = some (r1, r2, r3, r4) := H
   have A9 := Aside0.mk A90
   clear A90
   by_cases c10 : 0 ≤ t120
   ·rw [if_pos c10] at H
    have c10b0 : decide (0 ≤ t120) = true := decide_eq_true c10
    clear c10
    by_cases c11 : t120 < (t105.length : Int)
    ·rw [if_pos c11] at H
     have c11b0 : decide (t120 < (t105.length : Int)) = true := decide_eq_true c11
     clear c11
     simp only [Option.some.injEq, Prod.mk.injEq] at H
     obtain ⟨rfl, rfl, rfl, rfl⟩ := H
     go_enter Try.func67, Try.ntmps67
     try go_wp2_with (first | ((with_reducible refine gate_dst (N := 3) rfl ?_); refine box_event rfl (N := 3) rfl (cs := #[.int .i64 0, .int .i64 0, .int .i64 0]) (t := 86) BX ?_; intro gb101 hg w12 hbox hb; have BK101 := am (hbox); have GW101 := am (GH HB hg); have GE101 := GW101; replace HB := am (below_step (KL HB) hb); clear hb hbox hg) | ((with_reducible refine gate_callee (f := 70) rfl ?_); refine goesL_ (some 8) rfl rfl Try.func70 (by kernel_rfl) rfl #[.slice A0 l0.length c0] rfl MT ?_; (with_reducible refine (spec_l1Open.calls _ _ l0 t102 t103 w _ ?side1 ?side2 ?side3 A2.out).mono ?_); (case side1 => exact K1 HB GE101.out); (case side2 => exact HR0.out); (case side3 => exact HC0.out); rintro e w13 ⟨g104, rfl, hi, hb, hb2⟩; refine ⟨_, rfl, ?_⟩; replace HB := am (hb); have HI104 := am (hi); have NB104_101 := am (IsS143.ne_blk hi (blk_below (g := gb101) (o := .cells #[.int .i64 0, .int .i64 0, .int .i64 0] 86 (0, 0)) (KB BK101) hb2) (by decide)); have NB101_104 := am (Ne.symm (IsS143.ne_blk hi (blk_below (g := gb101) (o := .cells #[.int .i64 0, .int .i64 0, .int .i64 0] 86 (0, 0)) (KB BK101) hb2) (by decide))); replace BK101 := am (blk_below (g := gb101) (o := .cells #[.int .i64 0, .int .i64 0, .int .i64 0] 86 (0, 0)) (KB BK101) hb2); (try clear hb); (try clear hb2); (try clear hk); (try clear hi)) | ((with_reducible refine gate_callee (f := 104) rfl ?_); refine goesL_ (some 10) rfl rfl Try.func104 (by kernel_rfl) rfl #[.pointer (some ⟨g104, 0, none⟩)] rfl MT ?_; (with_reducible refine (spec_l12AnyWays.calls k g104 t102 t103 t105 t108 w _ ?side1 ?side2 A3.out).mono ?_); (case side1 => exact I143_1 HI104 NB104_101.out); (case side2 => exact K2 HB (IsS143.ge HI104.out) GE101.out); rintro e w14 ⟨v106, rfl, ho0, hi, hb, hk⟩; refine ⟨_, rfl, ?_⟩; have HO107 := am (Kd.R_lower (Kd.R_newB ho0 (g := gb101) (o := .cells #[.int .i64 0, .int .i64 0, .int .i64 0] 86 (0, 0)) (KB BK101)) (below_size (K2 HB (IsS143.ge HI104.out) GE101.out))); replace BK101 := am (KeepBut.blk hk (g' := gb101) (o := .cells #[.int .i64 0, .int .i64 0, .int .i64 0] 86 (0, 0)) (KB BK101) NB101_104.out (by simp)); replace HB := am (hb); replace HI104 := am (hi); (try clear hb); (try clear hb2); (try clear hk); (try clear hi); (try clear ho0)) | ((with_reducible refine gate_callee (f := 120) rfl ?_); refine goesL_ (some 12) rfl rfl Try.func120 (by kernel_rfl) rfl #[.pointer (some ⟨g104, 0, none⟩)] rfl MT ?_; (with_reducible refine (spec_l12AnyBlock.calls k g104 t102 t108 t109 t110 t111 w _ ?side1 ?side2 A4.out).mono ?_); (case side1 => exact I143_1 HI104 NB104_101.out); (case side2 => exact K2 HB (IsS143.ge HI104.out) GE101.out); rintro e w15 ⟨rfl, hi, hb, hk⟩; refine ⟨_, rfl, ?_⟩; replace BK101 := am (KeepBut.blk hk (g' := gb101) (o := .cells #[.int .i64 0, .int .i64 0, .int .i64 0] 86 (0, 0)) (KB BK101) NB101_104.out (by simp)); replace HO107 := am (Kd.R_mono (Kd.R_keep (IsS143.apart (show IsS143 w _ g104 t102 t108 from I143_1 HI104 NB104_101.out) (KR HO107) (by decide)) hk (fun _ h => h.2)) (fun _ h => h.1)); replace HB := am (hb); replace HI104 := am (hi); (try clear hb); (try clear hb2); (try clear hk); (try clear hi)) | ((with_reducible refine gate_dst (N := 14) rfl ?_); refine Kd.R_lit (Kd.int .i64) _ 3 ?hg (N := 14) ?hd (xs := ([0, 1, 2, 99, 100] : List Int)) (inner := [.int .i64 0, .int .i64 1, .int .i64 2, .int .i64 99, .int .i64 100]) (ok := fun _ => True) (okp := fun _ => True) ?hr ?hp (fun _ hk => hk) trivial (Below.refl _ _) (Nat.le_refl _) (by simp) ?_; (case hd => rfl); (case hg => rfl); (case hr => first | (go_simp; done) | (go_simp; rfl)); (case hp => exact (Reps.one (show Kd.M (Kd.int .i64) _ _ _ 0 [.int .i64 0] from rfl) (Reps.one (show Kd.M (Kd.int .i64) _ _ _ 1 [.int .i64 1] from rfl) (Reps.one (show Kd.M (Kd.int .i64) _ _ _ 2 [.int .i64 2] from rfl) (Reps.one (show Kd.M (Kd.int .i64) _ _ _ 99 [.int .i64 99] from rfl) (Reps.one (show Kd.M (Kd.int .i64) _ _ _ 100 [.int .i64 100] from rfl) (Reps.none _ _))))))); intro v113 w16 ho17 hb hg_ hnew_; clear hg_ hnew_; (first | rw [← Ny112.out] at ho17 | (simp only [Int.reduceToNat] at ho17; rw [← Ny112.out] at ho17)); replace HO107 := am (Kd.R_below (KR HO107) hb); have HO114 := am (Kd.R_lower ho17 (below_size (K2 HB (IsS143.ge HI104.out) GE101.out))); replace BK101 := am (BB BK101 hb); replace HB := am (below_step (K2 HB (IsS143.ge HI104.out) GE101.out) hb); replace HI104 := am (IsS143.below (I143_1 HI104 NB104_101.out) hb); clear hb ho17; obtain ⟨Ao18, co18, eo18⟩ := Kd.R_slice HO114.out; subst eo18) | ((with_reducible refine gate_callee (f := 95) rfl ?_); refine goesL_ (some 15) rfl rfl Try.func95 (by kernel_rfl) rfl #[.pointer (some ⟨g104, 0, none⟩), .slice Ao18 y112.length co18] rfl MT ?_; (with_reducible refine (spec_l1Rd_one.calls k g104 t102 t111 _ _ y112 t115 t116 w _ ?side1 ?side2 ?side3 ?side4 ?side5 A5.out).mono ?_); (case side1 => exact I143_1 HI104 NB104_101.out); (case side2 => exact K2 HB (IsS143.ge HI104.out) GE101.out); (case side3 => exact KC (Kd.R_reads' HO114.out).2.2); (case side4 => exact (Kd.R_reads' HO114.out).2.1); (case side5 => exact far_slice (IsS143.own_ne HI104.out HO114.out (by decide))); rintro e w19 ⟨rfl, hi, hb, hk⟩; refine ⟨_, rfl, ?_⟩; replace BK101 := am (KeepBut.blk hk (g' := gb101) (o := .cells #[.int .i64 0, .int .i64 0, .int .i64 0] 86 (0, 0)) (KB BK101) NB101_104.out (by simp)); replace HO107 := am (Kd.R_mono (Kd.R_keep (IsS143.apart (show IsS143 w _ g104 t102 t111 from I143_1 HI104 NB104_101.out) (KR HO107) (by decide)) hk (fun _ h => h.2)) (fun _ h => h.1)); replace HO114 := am (Kd.R_mono (Kd.R_keep (IsS143.apart (show IsS143 w _ g104 t102 t111 from I143_1 HI104 NB104_101.out) (KR HO114) (by decide)) hk (fun _ h => h.2)) (fun _ h => h.1)); replace HB := am (hb); replace HI104 := am (hi); (try clear hb); (try clear hb2); (try clear hk); (try clear hi)) | ((with_reducible refine gate_dst (N := 6) rfl ?_); refine box_event rfl (N := 6) rfl (cs := #[.int .i64 0, .int .i64 0, .int .i64 0]) (t := 86) BX ?_; intro gb117 hg w20 hbox hb; replace HO107 := am (Kd.R_below (Kd.R_elderB (KR HO107) gb117 (Nat.le_of_eq hg.symm)) hb); replace HO114 := am (Kd.R_below (KR HO114) hb); have BK117 := am (hbox); have GW117 := am (GH2 HB (IsS143.ge HI104.out) GE101.out hg); have GE117 := GW117; replace HB := am (below_step (K2 HB (IsS143.ge HI104.out) GE101.out) hb); have NB101_117 := am (NL BK101 hg); have NB117_101 := am (NG BK101 hg); replace BK101 := am (BB BK101 hb); have NB104_117 := am ((by rw [hg]; exact Nat.ne_of_lt (IsS143.lt (show IsS143 w _ g104 t102 t116 from I143_1 HI104 NB104_101.out)) : g104 ≠ gb117)); have NB117_104 := am ((by rw [hg]; exact Nat.ne_of_gt (IsS143.lt (show IsS143 w _ g104 t102 t116 from I143_1 HI104 NB104_101.out)) : gb117 ≠ g104)); replace HI104 := am (IsS143.below (I143_1 HI104 NB104_101.out) hb); clear hb hbox hg; have hnb21 := NB117_101.out; have hnc21 := NB101_117.out; have hnb22 := NB117_104.out; have hnc22 := NB104_117.out; obtain ⟨hcz23_0, hcz23_1, hcz23_2, hfz23_0⟩ := y3 w20 BK117.out; obtain ⟨Ao24, co24, eo24⟩ := Kd.R_slice HO107.out; subst eo24) | (go_at_call 91; (with_reducible refine (spec_l1Rd_pick.calls k g104 t102 t116 3 t118 t119 w _ ?side1 ?side2 A7.out).mono ?_); (case side1 => exact I143_2 HI104 NB104_101.out NB104_117.out); (case side2 => exact K3 HB (IsS143.ge HI104.out) GE101.out GE117.out); rintro e w25 ⟨rfl, hi, hb, hk⟩; replace BK101 := am (KeepBut.blk hk (g' := gb101) (o := .cells #[.int .i64 0, .int .i64 0, .int .i64 0] 86 (0, 0)) (by (with_reducible repeat (first | refine blk_drewN ?_ _ | refine blk_drew ?_ | refine blk_alloc ?_ _)); refine blk_far ?_ NB101_117.out _; (with_reducible repeat (first | refine blk_drewN ?_ _ | refine blk_drew ?_ | refine blk_alloc ?_ _)); refine blk_far ?_ NB101_117.out _; (with_reducible repeat (first | refine blk_drewN ?_ _ | refine blk_drew ?_ | refine blk_alloc ?_ _)); refine blk_far ?_ NB101_117.out _; (with_reducible repeat (first | refine blk_drewN ?_ _ | refine blk_drew ?_ | refine blk_alloc ?_ _)); exact BK101.out) NB101_104.out (by simp)); replace HO107 := am (Kd.R_mono (Kd.R_keep (IsS143.apart (show IsS143 w _ g104 t102 t116 from I143_2 HI104 NB104_101.out NB104_117.out) (by (with_reducible repeat (first | apply Kd.R_alloc | apply Kd.R_drewN | apply Kd.R_drew)); exact (Kd.R_mono (Kd.R_far (p := ⟨gb117, 2, none⟩) (Kd.R_far (p := ⟨gb117, 1, none⟩) (Kd.R_far (p := ⟨gb117, 0, none⟩) (Kd.R_mono HO107.out (fun k_ hk => (⟨hk, hk.2⟩ : _ ∧ k_ ≠ gb117))) (fun _ hk => hk.2) (.int .i64 t109)) (fun _ hk => hk.2) (.int .i64 t110)) (fun _ hk => hk.2) (.int .i64 t115)) (fun _ h_ => h_.1))) (by decide)) hk (fun _ h => h.2)) (fun _ h => h.1)); replace HO114 := am (Kd.R_mono (Kd.R_keep (IsS143.apart (show IsS143 w _ g104 t102 t116 from I143_2 HI104 NB104_101.out NB104_117.out) (by (with_reducible repeat (first | apply Kd.R_alloc | apply Kd.R_drewN | apply Kd.R_drew)); exact (Kd.R_mono (Kd.R_far (p := ⟨gb117, 2, none⟩) (Kd.R_far (p := ⟨gb117, 1, none⟩) (Kd.R_far (p := ⟨gb117, 0, none⟩) (Kd.R_types HO114.out BK117.out (by decide)) (fun _ hk => hk.2) (.int .i64 t109)) (fun _ hk => hk.2) (.int .i64 t110)) (fun _ hk => hk.2) (.int .i64 t115)) (fun _ h_ => h_.1))) (by decide)) hk (fun _ h => h.2)) (fun _ h => h.1)); replace BK117 := am (KeepBut.blk hk (g' := gb117) (o := .cells #[.int .i64 t109, .int .i64 t110, .int .i64 t115] 86 (0, 0)) (by (with_reducible repeat (first | refine blk_drewN ?_ _ | refine blk_drew ?_ | refine blk_alloc ?_ _)); refine blk_put (cs := #[.int .i64 t109, .int .i64 t110, .int .i64 0]) ?_ 2 _ rfl; (with_reducible repeat (first | refine blk_drewN ?_ _ | refine blk_drew ?_ | refine blk_alloc ?_ _)); refine blk_put (cs := #[.int .i64 t109, .int .i64 0, .int .i64 0]) ?_ 1 _ rfl; (with_reducible repeat (first | refine blk_drewN ?_ _ | refine blk_drew ?_ | refine blk_alloc ?_ _)); refine blk_put (cs := #[.int .i64 0, .int .i64 0, .int .i64 0]) ?_ 0 _ rfl; (with_reducible repeat (first | refine blk_drewN ?_ _ | refine blk_drew ?_ | refine blk_alloc ?_ _)); exact BK117.out) NB117_104.out (by simp)); replace HB := am (hb); replace HI104 := am (hi); (try clear hb); (try clear hb2); (try clear hk); (try clear hi)) | ((with_reducible refine gate_callee (f := 91) rfl ?_); refine goesL_ (some 29) rfl rfl Try.func91 (by kernel_rfl) rfl #[.pointer (some ⟨g104, 0, none⟩), .int .i64 (t105.length : Int)] rfl MT ?_; (with_reducible refine (spec_l1Rd_pick.calls k g104 t102 t119 (t105.length : Int) t120 t121 w _ ?side1 ?side2 A9.out).mono ?_); (case side1 => exact I143_2 HI104 NB104_101.out NB104_117.out); (case side2 => exact K3 HB (IsS143.ge HI104.out) GE101.out GE117.out); rintro e w26 ⟨rfl, hi, hb, hk⟩; refine ⟨_, rfl, ?_⟩; replace BK101 := am (KeepBut.blk hk (g' := gb101) (o := .cells #[.int .i64 0, .int .i64 0, .int .i64 0] 86 (0, 0)) (KB BK101) NB101_104.out (by simp)); replace HO107 := am (Kd.R_mono (Kd.R_keep (IsS143.apart (show IsS143 w _ g104 t102 t119 from I143_2 HI104 NB104_101.out NB104_117.out) (KR HO107) (by decide)) hk (fun _ h => h.2)) (fun _ h => h.1)); replace HO114 := am (Kd.R_mono (Kd.R_keep (IsS143.apart (show IsS143 w _ g104 t102 t119 from I143_2 HI104 NB104_101.out NB104_117.out) (KR HO114) (by decide)) hk (fun _ h => h.2)) (fun _ h => h.1)); replace BK117 := am (KeepBut.blk hk (g' := gb117) (o := .cells #[.int .i64 t109, .int .i64 t110, .int .i64 t115] 86 (0, 0)) (KB BK117) NB117_104.out (by simp)); replace HB := am (hb); replace HI104 := am (hi); (try clear hb); (try clear hb2); (try clear hk); (try clear hi); have p122 : 0 ≤ (t120 : Int) := OD; have q122 : t120 < (t105.length : Int) := OD; obtain ⟨ad122, e122, hx122_0, hx122_1, hx122_2⟩ := at_T86 (Kd.R_reads' HO107.out).2.2 t120 p122 q122; cases e122; replace p122 := eq_true p122; replace q122 := eq_true q122; obtain ⟨hcz27_0, hcz27_1, hcz27_2, hfz27_0⟩ := y3 w26 BK117.out))
     have n0_ : Aside0 (Kd.R k86 86 ((w26.setCell ⟨gb117, 0, none⟩ (.int .i64 ((rd_T86 t105 t120).f0.f0))).setCell ⟨gb117, 1, none⟩ (.int .i64 ((rd_T86 t105 t120).f0.f1))) w.heap.size (fun k_ => k_ ≠ gb101 ∧ k_ ≠ gb117) (.slice (some ad122) t105.length co24) t105) := ⟨by (with_reducible repeat (first | apply Kd.R_alloc | apply Kd.R_drewN | apply Kd.R_drew)); exact Kd.R_mono (Kd.R_far (p := ⟨gb117, 1, none⟩) (Kd.R_far (p := ⟨gb117, 0, none⟩) (Kd.R_mono HO107.out (fun k_ hk => (⟨hk, hk.2⟩ : _ ∧ k_ ≠ gb117))) (fun _ hk => hk.2) (.int .i64 ((rd_T86 t105 t120).f0.f0))) (fun _ hk => hk.2) (.int .i64 ((rd_T86 t105 t120).f0.f1))) (fun _ hk => ⟨hk.1.1.2, hk.1.2⟩)⟩
     have n1_ : Aside0 (Kd.R (Kd.int .i64) 3 ((w26.setCell ⟨gb117, 0, none⟩ (.int .i64 ((rd_T86 t105 t120).f0.f0))).setCell ⟨gb117, 1, none⟩ (.int .i64 ((rd_T86 t105 t120).f0.f1))) w.heap.size (fun _ => True) (.slice Ao18 y112.length co18) y112) := ⟨by (with_reducible repeat (first | apply Kd.R_alloc | apply Kd.R_drewN | apply Kd.R_drew)); exact Kd.R_mono (Kd.R_far (p := ⟨gb117, 1, none⟩) (Kd.R_far (p := ⟨gb117, 0, none⟩) (Kd.R_types HO114.out BK117.out (by decide)) (fun _ hk => hk.2) (.int .i64 ((rd_T86 t105 t120).f0.f0))) (fun _ hk => hk.2) (.int .i64 ((rd_T86 t105 t120).f0.f1))) (fun _ hk => trivial)⟩
     have n2_ : Aside0 (((w26.setCell ⟨gb117, 0, none⟩ (.int .i64 ((rd_T86 t105 t120).f0.f0))).setCell ⟨gb117, 1, none⟩ (.int .i64 ((rd_T86 t105 t120).f0.f1))).heap[gb101]? = some (.cells #[.int .i64 0, .int .i64 0, .int .i64 0] 86 (0, 0))) := ⟨by (with_reducible repeat (first | refine blk_drewN ?_ _ | refine blk_drew ?_ | refine blk_alloc ?_ _)); refine blk_far ?_ NB101_117.out _; (with_reducible repeat (first | refine blk_drewN ?_ _ | refine blk_drew ?_ | refine blk_alloc ?_ _)); refine blk_far ?_ NB101_117.out _; (with_reducible repeat (first | refine blk_drewN ?_ _ | refine blk_drew ?_ | refine blk_alloc ?_ _)); exact BK101.out⟩
     have n3_ : Aside0 (((w26.setCell ⟨gb117, 0, none⟩ (.int .i64 ((rd_T86 t105 t120).f0.f0))).setCell ⟨gb117, 1, none⟩ (.int .i64 ((rd_T86 t105 t120).f0.f1))).heap[gb117]? = some (.cells #[.int .i64 ((rd_T86 t105 t120).f0.f0), .int .i64 ((rd_T86 t105 t120).f0.f1), .int .i64 t115] 86 (0, 0))) := ⟨by (with_reducible repeat (first | refine blk_drewN ?_ _ | refine blk_drew ?_ | refine blk_alloc ?_ _)); refine blk_put (cs := #[.int .i64 ((rd_T86 t105 t120).f0.f0), .int .i64 t110, .int .i64 t115]) ?_ 1 _ rfl; (with_reducible repeat (first | refine blk_drewN ?_ _ | refine blk_drew ?_ | refine blk_alloc ?_ _)); refine blk_put (cs := #[.int .i64 t109, .int .i64 t110, .int .i64 t115]) ?_ 0 _ rfl; (with_reducible repeat (first | refine blk_drewN ?_ _ | refine blk_drew ?_ | refine blk_alloc ?_ _)); exact BK117.out⟩
     have n4_ : Aside0 (IsS143 w ((w26.setCell ⟨gb117, 0, none⟩ (.int .i64 ((rd_T86 t105 t120).f0.f0))).setCell ⟨gb117, 1, none⟩ (.int .i64 ((rd_T86 t105 t120).f0.f1))) g104 t102 t121) := ⟨I143_2 HI104 NB104_101.out NB104_117.out⟩
     have n5_ : Aside0 (Below w.heap.size w ((w26.setCell ⟨gb117, 0, none⟩ (.int .i64 ((rd_T86 t105 t120).f0.f0))).setCell ⟨gb117, 1, none⟩ (.int .i64 ((rd_T86 t105 t120).f0.f1)))) := ⟨K3 HB (IsS143.ge HI104.out) GE101.out GE117.out⟩
     (try clear HO107)
     (try clear HO114)
     (try clear BK101)
     (try clear BK117)
     (try clear HI104)
     (try clear HB)
     generalize ((w26.setCell ⟨gb117, 0, none⟩ (.int .i64 ((rd_T86 t105 t120).f0.f0))).setCell ⟨gb117, 1, none⟩ (.int .i64 ((rd_T86 t105 t120).f0.f1))) = w28 at n0_ n1_ n2_ n3_ n4_ n5_ ⊢
     have HO107 := n0_
     have HO114 := n1_
     have BK101 := n2_
     have BK117 := n3_
     have HI104 := n4_
     have HB := n5_
     clear n0_ n1_ n2_ n3_ n4_ n5_
     replace HO107 := am (Kd.R_drew HO107.out)
     replace HO114 := am (Kd.R_drew HO114.out)
     replace BK101 := am (blk_drew BK101.out)
     replace BK117 := am (blk_drew BK117.out)
     replace HI104 := am (IsS143.drew HI104.out)
     replace HB := am (below_drew1 HB.out)
     refine start_ (n := 4) (S := fun w' => de3 w' gb117 (.int .i64 ((rd_T86 t105 t120).f0.f0)) (.int .i64 ((rd_T86 t105 t120).f0.f1)) (.int .i64 t115)) (ds := []) #[false, false, false, false] (by kernel_rfl) rfl rfl ⟨z0 _ BK117.out, z1 _ BK117.out, z2 _ BK117.out⟩ (fun hHeld => ?_)
     generalize w28.drew = w29 at HO107 HO114 BK101 BK117 HI104 HB hHeld ⊢
     refine pure_ (i := 0) (N := some 34) (v := ?_) (a' := ?_) #[true, false, false, false] rfl rfl (by kernel_rfl) (fun _ _ _ h => h) (Or.inl ⟨by rfl, ?_⟩) ?_ ?_; rotate_left; (· intro w'; go_simp; with_reducible rfl); rotate_left; (· simp only [Act.put, List.setIfInBounds_toArray, List.set_cons_zero, List.set_cons_succ, i64_w, i32_w]; rfl)
     refine pure_ (i := 2) (N := some 2) (v := ?_) (a' := ?_) #[true, false, true, false] rfl rfl (by kernel_rfl) (fun _ _ _ h => h) (Or.inl ⟨by rfl, ?_⟩) ?_ ?_; rotate_left; (· intro w'; go_simp; with_reducible rfl); rotate_left; (· simp only [Act.put, List.setIfInBounds_toArray, List.set_cons_zero, List.set_cons_succ, i64_w, i32_w]; rfl)
     refine take_ (i := 1) (N := some 35) (v := ?_) (a' := ?_) #[true, true, true, false] rfl rfl (by kernel_rfl) (fun _ _ _ h => h) (Or.inl ⟨by rfl, ?_⟩) hHeld ?_ ?_
     rotate_left
     ·rintro w' ⟨s0, s1, s2⟩
      go_simp
      with_reducible rfl
     rotate_left
     ·simp only [Act.put, List.setIfInBounds_toArray, List.set_cons_zero, List.set_cons_succ, i64_w, i32_w]
      rfl
     refine one_ (i := 3) (N := none) #[true, true, true, true] rfl rfl (by kernel_rfl) (by decide) (fun K hK => ?_)
     have hs30 : w29.cell? ⟨gb101, 0, none⟩ = some (.int .i64 0) := z0 _ BK101.out
     have hfs30 := blk_frozen BK101.out 0
     have hns30_1 := NB117_101.out
     have hms30_1 := NB101_117.out
     have hs31 : w29.cell? ⟨gb101, 1, none⟩ = some (.int .i64 0) := z1 _ BK101.out
     have hfs31 := blk_frozen BK101.out 1
     have hns31_1 := NB117_101.out
     have hms31_1 := NB101_117.out
     have hs32 : w29.cell? ⟨gb101, 2, none⟩ = some (.int .i64 0) := z2 _ BK101.out
     have hfs32 := blk_frozen BK101.out 2
     have hns32_1 := NB117_101.out
     have hms32_1 := NB101_117.out
     refine skip_ (w1 := ?_) (by rfl) rfl ?_ ?_
     rotate_left
     ·go_simp
      rfl
     refine hK.out _ _ ⟨((cell_far (p := ⟨gb101, _, none⟩) NB117_101.out _).trans (((cell_far (p := ⟨gb101, _, none⟩) NB117_101.out _).trans (((cell_far (p := ⟨gb101, _, none⟩) NB117_101.out _).trans (hHeld.1)))))), ((cell_far (p := ⟨gb101, _, none⟩) NB117_101.out _).trans (((cell_far (p := ⟨gb101, _, none⟩) NB117_101.out _).trans (((cell_far (p := ⟨gb101, _, none⟩) NB117_101.out _).trans (hHeld.2.1)))))), ((cell_far (p := ⟨gb101, _, none⟩) NB117_101.out _).trans (((cell_far (p := ⟨gb101, _, none⟩) NB117_101.out _).trans (((cell_far (p := ⟨gb101, _, none⟩) NB117_101.out _).trans (hHeld.2.2))))))⟩ (fun hHeld => ?_)
     clear hK K
     refine done_ (by kernel_rfl) ?_
     try go_wp2
     refine bodyPost_ret (results_tc rfl _ _ gb101 86 #[.int .i64 ((rd_T86 t105 t120).f0.f0), .int .i64 ((rd_T86 t105 t120).f0.f1), .int .i64 t115] (0, 0) _ rfl (by (with_reducible repeat (first | refine blk_drewN ?_ _ | refine blk_drew ?_ | refine blk_alloc ?_ _)); refine blk_put (cs := #[.int .i64 ((rd_T86 t105 t120).f0.f0), .int .i64 ((rd_T86 t105 t120).f0.f1), .int .i64 0]) ?_ 2 _ rfl; (with_reducible repeat (first | refine blk_drewN ?_ _ | refine blk_drew ?_ | refine blk_alloc ?_ _)); refine blk_put (cs := #[.int .i64 ((rd_T86 t105 t120).f0.f0), .int .i64 0, .int .i64 0]) ?_ 1 _ rfl; (with_reducible repeat (first | refine blk_drewN ?_ _ | refine blk_drew ?_ | refine blk_alloc ?_ _)); refine blk_put (cs := #[.int .i64 0, .int .i64 0, .int .i64 0]) ?_ 0 _ rfl; (with_reducible repeat (first | refine blk_drewN ?_ _ | refine blk_drew ?_ | refine blk_alloc ?_ _)); exact BK101.out) Try.underlying86 rfl (by kernel_rfl)) rfl ?_
     exact ⟨_, ER, by (with_reducible repeat (first | apply Kd.R_alloc | apply Kd.R_drewN | apply Kd.R_drew)); exact Kd.R_mono (Kd.R_far (p := ⟨gb101, 2, none⟩) (Kd.R_far (p := ⟨gb101, 1, none⟩) (Kd.R_far (p := ⟨gb101, 0, none⟩) (Kd.R_mono HO107.out (fun k_ hk => (⟨hk, hk.1⟩ : _ ∧ k_ ≠ gb101))) (fun _ hk => hk.2) (.int .i64 ((rd_T86 t105 t120).f0.f0))) (fun _ hk => hk.2) (.int .i64 ((rd_T86 t105 t120).f0.f1))) (fun _ hk => hk.2) (.int .i64 t115)) (fun _ hk => trivial), K3 HB (IsS143.ge HI104.out) GE101.out GE117.out⟩
    ·rw [if_neg c11] at H
     exact absurd H (by simp)
   ·rw [if_neg c10] at H
    exact absurd H (by simp)
  ·rw [if_neg c8] at H
   have c8b0 : (t118 == 0) = false := beq_eq_false_iff_ne.mpr c8
   have c8b1 : (t118 != 0) = true := bne_iff_ne.mpr c8
   simp only [Option.some.injEq, Prod.mk.injEq] at H
   obtain ⟨rfl, rfl, rfl, rfl⟩ := H
   go_enter Try.func67, Try.ntmps67
   try go_wp2_with (first | ((with_reducible refine gate_dst (N := 3) rfl ?_); refine box_event rfl (N := 3) rfl (cs := #[.int .i64 0, .int .i64 0, .int .i64 0]) (t := 86) BX ?_; intro gb101 hg w33 hbox hb; have BK101 := am (hbox); have GW101 := am (GH HB hg); have GE101 := GW101; replace HB := am (below_step (KL HB) hb); clear hb hbox hg) | ((with_reducible refine gate_callee (f := 70) rfl ?_); refine goesL_ (some 8) rfl rfl Try.func70 (by kernel_rfl) rfl #[.slice A0 l0.length c0] rfl MT ?_; (with_reducible refine (spec_l1Open.calls _ _ l0 t102 t103 w _ ?side1 ?side2 ?side3 A2.out).mono ?_); (case side1 => exact K1 HB GE101.out); (case side2 => exact HR0.out); (case side3 => exact HC0.out); rintro e w34 ⟨g104, rfl, hi, hb, hb2⟩; refine ⟨_, rfl, ?_⟩; replace HB := am (hb); have HI104 := am (hi); have NB104_101 := am (IsS143.ne_blk hi (blk_below (g := gb101) (o := .cells #[.int .i64 0, .int .i64 0, .int .i64 0] 86 (0, 0)) (KB BK101) hb2) (by decide)); have NB101_104 := am (Ne.symm (IsS143.ne_blk hi (blk_below (g := gb101) (o := .cells #[.int .i64 0, .int .i64 0, .int .i64 0] 86 (0, 0)) (KB BK101) hb2) (by decide))); replace BK101 := am (blk_below (g := gb101) (o := .cells #[.int .i64 0, .int .i64 0, .int .i64 0] 86 (0, 0)) (KB BK101) hb2); (try clear hb); (try clear hb2); (try clear hk); (try clear hi)) | ((with_reducible refine gate_callee (f := 104) rfl ?_); refine goesL_ (some 10) rfl rfl Try.func104 (by kernel_rfl) rfl #[.pointer (some ⟨g104, 0, none⟩)] rfl MT ?_; (with_reducible refine (spec_l12AnyWays.calls k g104 t102 t103 t105 t108 w _ ?side1 ?side2 A3.out).mono ?_); (case side1 => exact I143_1 HI104 NB104_101.out); (case side2 => exact K2 HB (IsS143.ge HI104.out) GE101.out); rintro e w35 ⟨v106, rfl, ho0, hi, hb, hk⟩; refine ⟨_, rfl, ?_⟩; have HO107 := am (Kd.R_lower (Kd.R_newB ho0 (g := gb101) (o := .cells #[.int .i64 0, .int .i64 0, .int .i64 0] 86 (0, 0)) (KB BK101)) (below_size (K2 HB (IsS143.ge HI104.out) GE101.out))); replace BK101 := am (KeepBut.blk hk (g' := gb101) (o := .cells #[.int .i64 0, .int .i64 0, .int .i64 0] 86 (0, 0)) (KB BK101) NB101_104.out (by simp)); replace HB := am (hb); replace HI104 := am (hi); (try clear hb); (try clear hb2); (try clear hk); (try clear hi); (try clear ho0)) | ((with_reducible refine gate_callee (f := 120) rfl ?_); refine goesL_ (some 12) rfl rfl Try.func120 (by kernel_rfl) rfl #[.pointer (some ⟨g104, 0, none⟩)] rfl MT ?_; (with_reducible refine (spec_l12AnyBlock.calls k g104 t102 t108 t109 t110 t111 w _ ?side1 ?side2 A4.out).mono ?_); (case side1 => exact I143_1 HI104 NB104_101.out); (case side2 => exact K2 HB (IsS143.ge HI104.out) GE101.out); rintro e w36 ⟨rfl, hi, hb, hk⟩; refine ⟨_, rfl, ?_⟩; replace BK101 := am (KeepBut.blk hk (g' := gb101) (o := .cells #[.int .i64 0, .int .i64 0, .int .i64 0] 86 (0, 0)) (KB BK101) NB101_104.out (by simp)); replace HO107 := am (Kd.R_mono (Kd.R_keep (IsS143.apart (show IsS143 w _ g104 t102 t108 from I143_1 HI104 NB104_101.out) (KR HO107) (by decide)) hk (fun _ h => h.2)) (fun _ h => h.1)); replace HB := am (hb); replace HI104 := am (hi); (try clear hb); (try clear hb2); (try clear hk); (try clear hi)) | ((with_reducible refine gate_dst (N := 14) rfl ?_); refine Kd.R_lit (Kd.int .i64) _ 3 ?hg (N := 14) ?hd (xs := ([0, 1, 2, 99, 100] : List Int)) (inner := [.int .i64 0, .int .i64 1, .int .i64 2, .int .i64 99, .int .i64 100]) (ok := fun _ => True) (okp := fun _ => True) ?hr ?hp (fun _ hk => hk) trivial (Below.refl _ _) (Nat.le_refl _) (by simp) ?_; (case hd => rfl); (case hg => rfl); (case hr => first | (go_simp; done) | (go_simp; rfl)); (case hp => exact (Reps.one (show Kd.M (Kd.int .i64) _ _ _ 0 [.int .i64 0] from rfl) (Reps.one (show Kd.M (Kd.int .i64) _ _ _ 1 [.int .i64 1] from rfl) (Reps.one (show Kd.M (Kd.int .i64) _ _ _ 2 [.int .i64 2] from rfl) (Reps.one (show Kd.M (Kd.int .i64) _ _ _ 99 [.int .i64 99] from rfl) (Reps.one (show Kd.M (Kd.int .i64) _ _ _ 100 [.int .i64 100] from rfl) (Reps.none _ _))))))); intro v113 w37 ho38 hb hg_ hnew_; clear hg_ hnew_; (first | rw [← Ny112.out] at ho38 | (simp only [Int.reduceToNat] at ho38; rw [← Ny112.out] at ho38)); replace HO107 := am (Kd.R_below (KR HO107) hb); have HO114 := am (Kd.R_lower ho38 (below_size (K2 HB (IsS143.ge HI104.out) GE101.out))); replace BK101 := am (BB BK101 hb); replace HB := am (below_step (K2 HB (IsS143.ge HI104.out) GE101.out) hb); replace HI104 := am (IsS143.below (I143_1 HI104 NB104_101.out) hb); clear hb ho38; obtain ⟨Ao39, co39, eo39⟩ := Kd.R_slice HO114.out; subst eo39) | ((with_reducible refine gate_callee (f := 95) rfl ?_); refine goesL_ (some 15) rfl rfl Try.func95 (by kernel_rfl) rfl #[.pointer (some ⟨g104, 0, none⟩), .slice Ao39 y112.length co39] rfl MT ?_; (with_reducible refine (spec_l1Rd_one.calls k g104 t102 t111 _ _ y112 t115 t116 w _ ?side1 ?side2 ?side3 ?side4 ?side5 A5.out).mono ?_); (case side1 => exact I143_1 HI104 NB104_101.out); (case side2 => exact K2 HB (IsS143.ge HI104.out) GE101.out); (case side3 => exact KC (Kd.R_reads' HO114.out).2.2); (case side4 => exact (Kd.R_reads' HO114.out).2.1); (case side5 => exact far_slice (IsS143.own_ne HI104.out HO114.out (by decide))); rintro e w40 ⟨rfl, hi, hb, hk⟩; refine ⟨_, rfl, ?_⟩; replace BK101 := am (KeepBut.blk hk (g' := gb101) (o := .cells #[.int .i64 0, .int .i64 0, .int .i64 0] 86 (0, 0)) (KB BK101) NB101_104.out (by simp)); replace HO107 := am (Kd.R_mono (Kd.R_keep (IsS143.apart (show IsS143 w _ g104 t102 t111 from I143_1 HI104 NB104_101.out) (KR HO107) (by decide)) hk (fun _ h => h.2)) (fun _ h => h.1)); replace HO114 := am (Kd.R_mono (Kd.R_keep (IsS143.apart (show IsS143 w _ g104 t102 t111 from I143_1 HI104 NB104_101.out) (KR HO114) (by decide)) hk (fun _ h => h.2)) (fun _ h => h.1)); replace HB := am (hb); replace HI104 := am (hi); (try clear hb); (try clear hb2); (try clear hk); (try clear hi)) | ((with_reducible refine gate_dst (N := 6) rfl ?_); refine box_event rfl (N := 6) rfl (cs := #[.int .i64 0, .int .i64 0, .int .i64 0]) (t := 86) BX ?_; intro gb117 hg w41 hbox hb; replace HO107 := am (Kd.R_below (Kd.R_elderB (KR HO107) gb117 (Nat.le_of_eq hg.symm)) hb); replace HO114 := am (Kd.R_below (KR HO114) hb); have BK117 := am (hbox); have GW117 := am (GH2 HB (IsS143.ge HI104.out) GE101.out hg); have GE117 := GW117; replace HB := am (below_step (K2 HB (IsS143.ge HI104.out) GE101.out) hb); have NB101_117 := am (NL BK101 hg); have NB117_101 := am (NG BK101 hg); replace BK101 := am (BB BK101 hb); have NB104_117 := am ((by rw [hg]; exact Nat.ne_of_lt (IsS143.lt (show IsS143 w _ g104 t102 t116 from I143_1 HI104 NB104_101.out)) : g104 ≠ gb117)); have NB117_104 := am ((by rw [hg]; exact Nat.ne_of_gt (IsS143.lt (show IsS143 w _ g104 t102 t116 from I143_1 HI104 NB104_101.out)) : gb117 ≠ g104)); replace HI104 := am (IsS143.below (I143_1 HI104 NB104_101.out) hb); clear hb hbox hg; have hnb42 := NB117_101.out; have hnc42 := NB101_117.out; have hnb43 := NB117_104.out; have hnc43 := NB104_117.out; obtain ⟨hcz44_0, hcz44_1, hcz44_2, hfz44_0⟩ := y3 w41 BK117.out; obtain ⟨Ao45, co45, eo45⟩ := Kd.R_slice HO107.out; subst eo45) | (go_at_call 91; (with_reducible refine (spec_l1Rd_pick.calls k g104 t102 t116 3 t118 t119 w _ ?side1 ?side2 A7.out).mono ?_); (case side1 => exact I143_2 HI104 NB104_101.out NB104_117.out); (case side2 => exact K3 HB (IsS143.ge HI104.out) GE101.out GE117.out); rintro e w46 ⟨rfl, hi, hb, hk⟩; replace BK101 := am (KeepBut.blk hk (g' := gb101) (o := .cells #[.int .i64 0, .int .i64 0, .int .i64 0] 86 (0, 0)) (by (with_reducible repeat (first | refine blk_drewN ?_ _ | refine blk_drew ?_ | refine blk_alloc ?_ _)); refine blk_far ?_ NB101_117.out _; (with_reducible repeat (first | refine blk_drewN ?_ _ | refine blk_drew ?_ | refine blk_alloc ?_ _)); refine blk_far ?_ NB101_117.out _; (with_reducible repeat (first | refine blk_drewN ?_ _ | refine blk_drew ?_ | refine blk_alloc ?_ _)); refine blk_far ?_ NB101_117.out _; (with_reducible repeat (first | refine blk_drewN ?_ _ | refine blk_drew ?_ | refine blk_alloc ?_ _)); exact BK101.out) NB101_104.out (by simp)); replace HO107 := am (Kd.R_mono (Kd.R_keep (IsS143.apart (show IsS143 w _ g104 t102 t116 from I143_2 HI104 NB104_101.out NB104_117.out) (by (with_reducible repeat (first | apply Kd.R_alloc | apply Kd.R_drewN | apply Kd.R_drew)); exact (Kd.R_mono (Kd.R_far (p := ⟨gb117, 2, none⟩) (Kd.R_far (p := ⟨gb117, 1, none⟩) (Kd.R_far (p := ⟨gb117, 0, none⟩) (Kd.R_mono HO107.out (fun k_ hk => (⟨hk, hk.2⟩ : _ ∧ k_ ≠ gb117))) (fun _ hk => hk.2) (.int .i64 t109)) (fun _ hk => hk.2) (.int .i64 t110)) (fun _ hk => hk.2) (.int .i64 t115)) (fun _ h_ => h_.1))) (by decide)) hk (fun _ h => h.2)) (fun _ h => h.1)); replace HO114 := am (Kd.R_mono (Kd.R_keep (IsS143.apart (show IsS143 w _ g104 t102 t116 from I143_2 HI104 NB104_101.out NB104_117.out) (by (with_reducible repeat (first | apply Kd.R_alloc | apply Kd.R_drewN | apply Kd.R_drew)); exact (Kd.R_mono (Kd.R_far (p := ⟨gb117, 2, none⟩) (Kd.R_far (p := ⟨gb117, 1, none⟩) (Kd.R_far (p := ⟨gb117, 0, none⟩) (Kd.R_types HO114.out BK117.out (by decide)) (fun _ hk => hk.2) (.int .i64 t109)) (fun _ hk => hk.2) (.int .i64 t110)) (fun _ hk => hk.2) (.int .i64 t115)) (fun _ h_ => h_.1))) (by decide)) hk (fun _ h => h.2)) (fun _ h => h.1)); replace BK117 := am (KeepBut.blk hk (g' := gb117) (o := .cells #[.int .i64 t109, .int .i64 t110, .int .i64 t115] 86 (0, 0)) (by (with_reducible repeat (first | refine blk_drewN ?_ _ | refine blk_drew ?_ | refine blk_alloc ?_ _)); refine blk_put (cs := #[.int .i64 t109, .int .i64 t110, .int .i64 0]) ?_ 2 _ rfl; (with_reducible repeat (first | refine blk_drewN ?_ _ | refine blk_drew ?_ | refine blk_alloc ?_ _)); refine blk_put (cs := #[.int .i64 t109, .int .i64 0, .int .i64 0]) ?_ 1 _ rfl; (with_reducible repeat (first | refine blk_drewN ?_ _ | refine blk_drew ?_ | refine blk_alloc ?_ _)); refine blk_put (cs := #[.int .i64 0, .int .i64 0, .int .i64 0]) ?_ 0 _ rfl; (with_reducible repeat (first | refine blk_drewN ?_ _ | refine blk_drew ?_ | refine blk_alloc ?_ _)); exact BK117.out) NB117_104.out (by simp)); replace HB := am (hb); replace HI104 := am (hi); (try clear hb); (try clear hb2); (try clear hk); (try clear hi)))
   replace HO107 := am (Kd.R_drew HO107.out)
   replace HO114 := am (Kd.R_drew HO114.out)
   replace BK101 := am (blk_drew BK101.out)
   replace BK117 := am (blk_drew BK117.out)
   replace HI104 := am (IsS143.drew HI104.out)
   replace HB := am (below_drew1 HB.out)
   refine start_ (n := 4) (S := fun w' => de3 w' gb117 (.int .i64 t109) (.int .i64 t110) (.int .i64 t115)) (ds := []) #[false, false, false, false] (by kernel_rfl) rfl rfl ⟨z0 _ BK117.out, z1 _ BK117.out, z2 _ BK117.out⟩ (fun hHeld => ?_)
   generalize w46.drew = w47 at HO107 HO114 BK101 BK117 HI104 HB hHeld ⊢
   refine pure_ (i := 0) (N := some 34) (v := ?_) (a' := ?_) #[true, false, false, false] rfl rfl (by kernel_rfl) (fun _ _ _ h => h) (Or.inl ⟨by rfl, ?_⟩) ?_ ?_; rotate_left; (· intro w'; go_simp; with_reducible rfl); rotate_left; (· simp only [Act.put, List.setIfInBounds_toArray, List.set_cons_zero, List.set_cons_succ, i64_w, i32_w]; rfl)
   refine pure_ (i := 2) (N := some 2) (v := ?_) (a' := ?_) #[true, false, true, false] rfl rfl (by kernel_rfl) (fun _ _ _ h => h) (Or.inl ⟨by rfl, ?_⟩) ?_ ?_; rotate_left; (· intro w'; go_simp; with_reducible rfl); rotate_left; (· simp only [Act.put, List.setIfInBounds_toArray, List.set_cons_zero, List.set_cons_succ, i64_w, i32_w]; rfl)
   refine take_ (i := 1) (N := some 35) (v := ?_) (a' := ?_) #[true, true, true, false] rfl rfl (by kernel_rfl) (fun _ _ _ h => h) (Or.inl ⟨by rfl, ?_⟩) hHeld ?_ ?_
   rotate_left
   ·rintro w' ⟨s0, s1, s2⟩
    go_simp
    with_reducible rfl
   rotate_left
   ·simp only [Act.put, List.setIfInBounds_toArray, List.set_cons_zero, List.set_cons_succ, i64_w, i32_w]
    rfl
   refine one_ (i := 3) (N := none) #[true, true, true, true] rfl rfl (by kernel_rfl) (by decide) (fun K hK => ?_)
   have hs48 : w47.cell? ⟨gb101, 0, none⟩ = some (.int .i64 0) := z0 _ BK101.out
   have hfs48 := blk_frozen BK101.out 0
   have hns48_1 := NB117_101.out
   have hms48_1 := NB101_117.out
   have hs49 : w47.cell? ⟨gb101, 1, none⟩ = some (.int .i64 0) := z1 _ BK101.out
   have hfs49 := blk_frozen BK101.out 1
   have hns49_1 := NB117_101.out
   have hms49_1 := NB101_117.out
   have hs50 : w47.cell? ⟨gb101, 2, none⟩ = some (.int .i64 0) := z2 _ BK101.out
   have hfs50 := blk_frozen BK101.out 2
   have hns50_1 := NB117_101.out
   have hms50_1 := NB101_117.out
   refine skip_ (w1 := ?_) (by rfl) rfl ?_ ?_
   rotate_left
   ·go_simp
    rfl
   refine hK.out _ _ ⟨((cell_far (p := ⟨gb101, _, none⟩) NB117_101.out _).trans (((cell_far (p := ⟨gb101, _, none⟩) NB117_101.out _).trans (((cell_far (p := ⟨gb101, _, none⟩) NB117_101.out _).trans (hHeld.1)))))), ((cell_far (p := ⟨gb101, _, none⟩) NB117_101.out _).trans (((cell_far (p := ⟨gb101, _, none⟩) NB117_101.out _).trans (((cell_far (p := ⟨gb101, _, none⟩) NB117_101.out _).trans (hHeld.2.1)))))), ((cell_far (p := ⟨gb101, _, none⟩) NB117_101.out _).trans (((cell_far (p := ⟨gb101, _, none⟩) NB117_101.out _).trans (((cell_far (p := ⟨gb101, _, none⟩) NB117_101.out _).trans (hHeld.2.2))))))⟩ (fun hHeld => ?_)
   clear hK K
   refine done_ (by kernel_rfl) ?_
   try go_wp2
   refine bodyPost_ret (results_tc rfl _ _ gb101 86 #[.int .i64 t109, .int .i64 t110, .int .i64 t115] (0, 0) _ rfl (by (with_reducible repeat (first | refine blk_drewN ?_ _ | refine blk_drew ?_ | refine blk_alloc ?_ _)); refine blk_put (cs := #[.int .i64 t109, .int .i64 t110, .int .i64 0]) ?_ 2 _ rfl; (with_reducible repeat (first | refine blk_drewN ?_ _ | refine blk_drew ?_ | refine blk_alloc ?_ _)); refine blk_put (cs := #[.int .i64 t109, .int .i64 0, .int .i64 0]) ?_ 1 _ rfl; (with_reducible repeat (first | refine blk_drewN ?_ _ | refine blk_drew ?_ | refine blk_alloc ?_ _)); refine blk_put (cs := #[.int .i64 0, .int .i64 0, .int .i64 0]) ?_ 0 _ rfl; (with_reducible repeat (first | refine blk_drewN ?_ _ | refine blk_drew ?_ | refine blk_alloc ?_ _)); exact BK101.out) Try.underlying86 rfl (by kernel_rfl)) rfl ?_
   exact ⟨_, ER, by (with_reducible repeat (first | apply Kd.R_alloc | apply Kd.R_drewN | apply Kd.R_drew)); exact Kd.R_mono (Kd.R_far (p := ⟨gb101, 2, none⟩) (Kd.R_far (p := ⟨gb101, 1, none⟩) (Kd.R_far (p := ⟨gb101, 0, none⟩) (Kd.R_mono HO107.out (fun k_ hk => (⟨hk, hk.1.2⟩ : _ ∧ k_ ≠ gb101))) (fun _ hk => hk.2) (.int .i64 t109)) (fun _ hk => hk.2) (.int .i64 t110)) (fun _ hk => hk.2) (.int .i64 t115)) (fun _ hk => trivial), K3 HB (IsS143.ge HI104.out) GE101.out GE117.out⟩
 ·rw [if_neg c6] at H
  have c6b0 : decide (0 < (t105.length : Int)) = false := decide_eq_false c6
  have c6b1 : decide (0 < t105.length) = false := decide_eq_false (by omega)
  clear c6
  simp only [Option.some.injEq, Prod.mk.injEq] at H
  obtain ⟨rfl, rfl, rfl, rfl⟩ := H
  go_enter Try.func67, Try.ntmps67
  try go_wp2_with (first | ((with_reducible refine gate_dst (N := 3) rfl ?_); refine box_event rfl (N := 3) rfl (cs := #[.int .i64 0, .int .i64 0, .int .i64 0]) (t := 86) BX ?_; intro gb101 hg w51 hbox hb; have BK101 := am (hbox); have GW101 := am (GH HB hg); have GE101 := GW101; replace HB := am (below_step (KL HB) hb); clear hb hbox hg) | ((with_reducible refine gate_callee (f := 70) rfl ?_); refine goesL_ (some 8) rfl rfl Try.func70 (by kernel_rfl) rfl #[.slice A0 l0.length c0] rfl MT ?_; (with_reducible refine (spec_l1Open.calls _ _ l0 t102 t103 w _ ?side1 ?side2 ?side3 A2.out).mono ?_); (case side1 => exact K1 HB GE101.out); (case side2 => exact HR0.out); (case side3 => exact HC0.out); rintro e w52 ⟨g104, rfl, hi, hb, hb2⟩; refine ⟨_, rfl, ?_⟩; replace HB := am (hb); have HI104 := am (hi); have NB104_101 := am (IsS143.ne_blk hi (blk_below (g := gb101) (o := .cells #[.int .i64 0, .int .i64 0, .int .i64 0] 86 (0, 0)) (KB BK101) hb2) (by decide)); have NB101_104 := am (Ne.symm (IsS143.ne_blk hi (blk_below (g := gb101) (o := .cells #[.int .i64 0, .int .i64 0, .int .i64 0] 86 (0, 0)) (KB BK101) hb2) (by decide))); replace BK101 := am (blk_below (g := gb101) (o := .cells #[.int .i64 0, .int .i64 0, .int .i64 0] 86 (0, 0)) (KB BK101) hb2); (try clear hb); (try clear hb2); (try clear hk); (try clear hi)) | ((with_reducible refine gate_callee (f := 104) rfl ?_); refine goesL_ (some 10) rfl rfl Try.func104 (by kernel_rfl) rfl #[.pointer (some ⟨g104, 0, none⟩)] rfl MT ?_; (with_reducible refine (spec_l12AnyWays.calls k g104 t102 t103 t105 t108 w _ ?side1 ?side2 A3.out).mono ?_); (case side1 => exact I143_1 HI104 NB104_101.out); (case side2 => exact K2 HB (IsS143.ge HI104.out) GE101.out); rintro e w53 ⟨v106, rfl, ho0, hi, hb, hk⟩; refine ⟨_, rfl, ?_⟩; have HO107 := am (Kd.R_lower (Kd.R_newB ho0 (g := gb101) (o := .cells #[.int .i64 0, .int .i64 0, .int .i64 0] 86 (0, 0)) (KB BK101)) (below_size (K2 HB (IsS143.ge HI104.out) GE101.out))); replace BK101 := am (KeepBut.blk hk (g' := gb101) (o := .cells #[.int .i64 0, .int .i64 0, .int .i64 0] 86 (0, 0)) (KB BK101) NB101_104.out (by simp)); replace HB := am (hb); replace HI104 := am (hi); (try clear hb); (try clear hb2); (try clear hk); (try clear hi); (try clear ho0)) | ((with_reducible refine gate_callee (f := 120) rfl ?_); refine goesL_ (some 12) rfl rfl Try.func120 (by kernel_rfl) rfl #[.pointer (some ⟨g104, 0, none⟩)] rfl MT ?_; (with_reducible refine (spec_l12AnyBlock.calls k g104 t102 t108 t109 t110 t111 w _ ?side1 ?side2 A4.out).mono ?_); (case side1 => exact I143_1 HI104 NB104_101.out); (case side2 => exact K2 HB (IsS143.ge HI104.out) GE101.out); rintro e w54 ⟨rfl, hi, hb, hk⟩; refine ⟨_, rfl, ?_⟩; replace BK101 := am (KeepBut.blk hk (g' := gb101) (o := .cells #[.int .i64 0, .int .i64 0, .int .i64 0] 86 (0, 0)) (KB BK101) NB101_104.out (by simp)); replace HO107 := am (Kd.R_mono (Kd.R_keep (IsS143.apart (show IsS143 w _ g104 t102 t108 from I143_1 HI104 NB104_101.out) (KR HO107) (by decide)) hk (fun _ h => h.2)) (fun _ h => h.1)); replace HB := am (hb); replace HI104 := am (hi); (try clear hb); (try clear hb2); (try clear hk); (try clear hi)) | ((with_reducible refine gate_dst (N := 14) rfl ?_); refine Kd.R_lit (Kd.int .i64) _ 3 ?hg (N := 14) ?hd (xs := ([0, 1, 2, 99, 100] : List Int)) (inner := [.int .i64 0, .int .i64 1, .int .i64 2, .int .i64 99, .int .i64 100]) (ok := fun _ => True) (okp := fun _ => True) ?hr ?hp (fun _ hk => hk) trivial (Below.refl _ _) (Nat.le_refl _) (by simp) ?_; (case hd => rfl); (case hg => rfl); (case hr => first | (go_simp; done) | (go_simp; rfl)); (case hp => exact (Reps.one (show Kd.M (Kd.int .i64) _ _ _ 0 [.int .i64 0] from rfl) (Reps.one (show Kd.M (Kd.int .i64) _ _ _ 1 [.int .i64 1] from rfl) (Reps.one (show Kd.M (Kd.int .i64) _ _ _ 2 [.int .i64 2] from rfl) (Reps.one (show Kd.M (Kd.int .i64) _ _ _ 99 [.int .i64 99] from rfl) (Reps.one (show Kd.M (Kd.int .i64) _ _ _ 100 [.int .i64 100] from rfl) (Reps.none _ _))))))); intro v113 w55 ho56 hb hg_ hnew_; clear hg_ hnew_; (first | rw [← Ny112.out] at ho56 | (simp only [Int.reduceToNat] at ho56; rw [← Ny112.out] at ho56)); replace HO107 := am (Kd.R_below (KR HO107) hb); have HO114 := am (Kd.R_lower ho56 (below_size (K2 HB (IsS143.ge HI104.out) GE101.out))); replace BK101 := am (BB BK101 hb); replace HB := am (below_step (K2 HB (IsS143.ge HI104.out) GE101.out) hb); replace HI104 := am (IsS143.below (I143_1 HI104 NB104_101.out) hb); clear hb ho56; obtain ⟨Ao57, co57, eo57⟩ := Kd.R_slice HO114.out; subst eo57) | ((with_reducible refine gate_callee (f := 95) rfl ?_); refine goesL_ (some 15) rfl rfl Try.func95 (by kernel_rfl) rfl #[.pointer (some ⟨g104, 0, none⟩), .slice Ao57 y112.length co57] rfl MT ?_; (with_reducible refine (spec_l1Rd_one.calls k g104 t102 t111 _ _ y112 t115 t116 w _ ?side1 ?side2 ?side3 ?side4 ?side5 A5.out).mono ?_); (case side1 => exact I143_1 HI104 NB104_101.out); (case side2 => exact K2 HB (IsS143.ge HI104.out) GE101.out); (case side3 => exact KC (Kd.R_reads' HO114.out).2.2); (case side4 => exact (Kd.R_reads' HO114.out).2.1); (case side5 => exact far_slice (IsS143.own_ne HI104.out HO114.out (by decide))); rintro e w58 ⟨rfl, hi, hb, hk⟩; refine ⟨_, rfl, ?_⟩; replace BK101 := am (KeepBut.blk hk (g' := gb101) (o := .cells #[.int .i64 0, .int .i64 0, .int .i64 0] 86 (0, 0)) (KB BK101) NB101_104.out (by simp)); replace HO107 := am (Kd.R_mono (Kd.R_keep (IsS143.apart (show IsS143 w _ g104 t102 t111 from I143_1 HI104 NB104_101.out) (KR HO107) (by decide)) hk (fun _ h => h.2)) (fun _ h => h.1)); replace HO114 := am (Kd.R_mono (Kd.R_keep (IsS143.apart (show IsS143 w _ g104 t102 t111 from I143_1 HI104 NB104_101.out) (KR HO114) (by decide)) hk (fun _ h => h.2)) (fun _ h => h.1)); replace HB := am (hb); replace HI104 := am (hi); (try clear hb); (try clear hb2); (try clear hk); (try clear hi)) | ((with_reducible refine gate_dst (N := 6) rfl ?_); refine box_event rfl (N := 6) rfl (cs := #[.int .i64 0, .int .i64 0, .int .i64 0]) (t := 86) BX ?_; intro gb117 hg w59 hbox hb; replace HO107 := am (Kd.R_below (Kd.R_elderB (KR HO107) gb117 (Nat.le_of_eq hg.symm)) hb); replace HO114 := am (Kd.R_below (KR HO114) hb); have BK117 := am (hbox); have GW117 := am (GH2 HB (IsS143.ge HI104.out) GE101.out hg); have GE117 := GW117; replace HB := am (below_step (K2 HB (IsS143.ge HI104.out) GE101.out) hb); have NB101_117 := am (NL BK101 hg); have NB117_101 := am (NG BK101 hg); replace BK101 := am (BB BK101 hb); have NB104_117 := am ((by rw [hg]; exact Nat.ne_of_lt (IsS143.lt (show IsS143 w _ g104 t102 t116 from I143_1 HI104 NB104_101.out)) : g104 ≠ gb117)); have NB117_104 := am ((by rw [hg]; exact Nat.ne_of_gt (IsS143.lt (show IsS143 w _ g104 t102 t116 from I143_1 HI104 NB104_101.out)) : gb117 ≠ g104)); replace HI104 := am (IsS143.below (I143_1 HI104 NB104_101.out) hb); clear hb hbox hg; have hnb60 := NB117_101.out; have hnc60 := NB101_117.out; have hnb61 := NB117_104.out; have hnc61 := NB104_117.out; obtain ⟨hcz62_0, hcz62_1, hcz62_2, hfz62_0⟩ := y3 w59 BK117.out; obtain ⟨Ao63, co63, eo63⟩ := Kd.R_slice HO107.out; subst eo63))
  have n0_ : Aside0 (Kd.R k86 86 (((w59.setCell ⟨gb117, 0, none⟩ (.int .i64 t109)).setCell ⟨gb117, 1, none⟩ (.int .i64 t110)).setCell ⟨gb117, 2, none⟩ (.int .i64 t115)) w.heap.size (fun k_ => k_ ≠ gb101 ∧ k_ ≠ gb117) (.slice Ao63 t105.length co63) t105) := ⟨by (with_reducible repeat (first | apply Kd.R_alloc | apply Kd.R_drewN | apply Kd.R_drew)); exact Kd.R_mono (Kd.R_far (p := ⟨gb117, 2, none⟩) (Kd.R_far (p := ⟨gb117, 1, none⟩) (Kd.R_far (p := ⟨gb117, 0, none⟩) (Kd.R_mono HO107.out (fun k_ hk => (⟨hk, hk.2⟩ : _ ∧ k_ ≠ gb117))) (fun _ hk => hk.2) (.int .i64 t109)) (fun _ hk => hk.2) (.int .i64 t110)) (fun _ hk => hk.2) (.int .i64 t115)) (fun _ hk => ⟨hk.1.1.2, hk.1.2⟩)⟩
  have n1_ : Aside0 (Kd.R (Kd.int .i64) 3 (((w59.setCell ⟨gb117, 0, none⟩ (.int .i64 t109)).setCell ⟨gb117, 1, none⟩ (.int .i64 t110)).setCell ⟨gb117, 2, none⟩ (.int .i64 t115)) w.heap.size (fun _ => True) (.slice Ao57 y112.length co57) y112) := ⟨by (with_reducible repeat (first | apply Kd.R_alloc | apply Kd.R_drewN | apply Kd.R_drew)); exact Kd.R_mono (Kd.R_far (p := ⟨gb117, 2, none⟩) (Kd.R_far (p := ⟨gb117, 1, none⟩) (Kd.R_far (p := ⟨gb117, 0, none⟩) (Kd.R_types HO114.out BK117.out (by decide)) (fun _ hk => hk.2) (.int .i64 t109)) (fun _ hk => hk.2) (.int .i64 t110)) (fun _ hk => hk.2) (.int .i64 t115)) (fun _ hk => trivial)⟩
  have n2_ : Aside0 ((((w59.setCell ⟨gb117, 0, none⟩ (.int .i64 t109)).setCell ⟨gb117, 1, none⟩ (.int .i64 t110)).setCell ⟨gb117, 2, none⟩ (.int .i64 t115)).heap[gb101]? = some (.cells #[.int .i64 0, .int .i64 0, .int .i64 0] 86 (0, 0))) := ⟨by (with_reducible repeat (first | refine blk_drewN ?_ _ | refine blk_drew ?_ | refine blk_alloc ?_ _)); refine blk_far ?_ NB101_117.out _; (with_reducible repeat (first | refine blk_drewN ?_ _ | refine blk_drew ?_ | refine blk_alloc ?_ _)); refine blk_far ?_ NB101_117.out _; (with_reducible repeat (first | refine blk_drewN ?_ _ | refine blk_drew ?_ | refine blk_alloc ?_ _)); refine blk_far ?_ NB101_117.out _; (with_reducible repeat (first | refine blk_drewN ?_ _ | refine blk_drew ?_ | refine blk_alloc ?_ _)); exact BK101.out⟩
  have n3_ : Aside0 ((((w59.setCell ⟨gb117, 0, none⟩ (.int .i64 t109)).setCell ⟨gb117, 1, none⟩ (.int .i64 t110)).setCell ⟨gb117, 2, none⟩ (.int .i64 t115)).heap[gb117]? = some (.cells #[.int .i64 t109, .int .i64 t110, .int .i64 t115] 86 (0, 0))) := ⟨by (with_reducible repeat (first | refine blk_drewN ?_ _ | refine blk_drew ?_ | refine blk_alloc ?_ _)); refine blk_put (cs := #[.int .i64 t109, .int .i64 t110, .int .i64 0]) ?_ 2 _ rfl; (with_reducible repeat (first | refine blk_drewN ?_ _ | refine blk_drew ?_ | refine blk_alloc ?_ _)); refine blk_put (cs := #[.int .i64 t109, .int .i64 0, .int .i64 0]) ?_ 1 _ rfl; (with_reducible repeat (first | refine blk_drewN ?_ _ | refine blk_drew ?_ | refine blk_alloc ?_ _)); refine blk_put (cs := #[.int .i64 0, .int .i64 0, .int .i64 0]) ?_ 0 _ rfl; (with_reducible repeat (first | refine blk_drewN ?_ _ | refine blk_drew ?_ | refine blk_alloc ?_ _)); exact BK117.out⟩
  have n4_ : Aside0 (IsS143 w (((w59.setCell ⟨gb117, 0, none⟩ (.int .i64 t109)).setCell ⟨gb117, 1, none⟩ (.int .i64 t110)).setCell ⟨gb117, 2, none⟩ (.int .i64 t115)) g104 t102 t116) := ⟨I143_2 HI104 NB104_101.out NB104_117.out⟩
  have n5_ : Aside0 (Below w.heap.size w (((w59.setCell ⟨gb117, 0, none⟩ (.int .i64 t109)).setCell ⟨gb117, 1, none⟩ (.int .i64 t110)).setCell ⟨gb117, 2, none⟩ (.int .i64 t115))) := ⟨K3 HB (IsS143.ge HI104.out) GE101.out GE117.out⟩
  (try clear HO107)
  (try clear HO114)
  (try clear BK101)
  (try clear BK117)
  (try clear HI104)
  (try clear HB)
  generalize (((w59.setCell ⟨gb117, 0, none⟩ (.int .i64 t109)).setCell ⟨gb117, 1, none⟩ (.int .i64 t110)).setCell ⟨gb117, 2, none⟩ (.int .i64 t115)) = w64 at n0_ n1_ n2_ n3_ n4_ n5_ ⊢
  have HO107 := n0_
  have HO114 := n1_
  have BK101 := n2_
  have BK117 := n3_
  have HI104 := n4_
  have HB := n5_
  clear n0_ n1_ n2_ n3_ n4_ n5_
  replace HO107 := am (Kd.R_drew HO107.out)
  replace HO114 := am (Kd.R_drew HO114.out)
  replace BK101 := am (blk_drew BK101.out)
  replace BK117 := am (blk_drew BK117.out)
  replace HI104 := am (IsS143.drew HI104.out)
  replace HB := am (below_drew1 HB.out)
  refine start_ (n := 4) (S := fun w' => de3 w' gb117 (.int .i64 t109) (.int .i64 t110) (.int .i64 t115)) (ds := []) #[false, false, false, false] (by kernel_rfl) rfl rfl ⟨z0 _ BK117.out, z1 _ BK117.out, z2 _ BK117.out⟩ (fun hHeld => ?_)
  generalize w64.drew = w65 at HO107 HO114 BK101 BK117 HI104 HB hHeld ⊢
  refine pure_ (i := 0) (N := some 34) (v := ?_) (a' := ?_) #[true, false, false, false] rfl rfl (by kernel_rfl) (fun _ _ _ h => h) (Or.inl ⟨by rfl, ?_⟩) ?_ ?_; rotate_left; (· intro w'; go_simp; with_reducible rfl); rotate_left; (· simp only [Act.put, List.setIfInBounds_toArray, List.set_cons_zero, List.set_cons_succ, i64_w, i32_w]; rfl)
  refine pure_ (i := 2) (N := some 2) (v := ?_) (a' := ?_) #[true, false, true, false] rfl rfl (by kernel_rfl) (fun _ _ _ h => h) (Or.inl ⟨by rfl, ?_⟩) ?_ ?_; rotate_left; (· intro w'; go_simp; with_reducible rfl); rotate_left; (· simp only [Act.put, List.setIfInBounds_toArray, List.set_cons_zero, List.set_cons_succ, i64_w, i32_w]; rfl)
  refine take_ (i := 1) (N := some 35) (v := ?_) (a' := ?_) #[true, true, true, false] rfl rfl (by kernel_rfl) (fun _ _ _ h => h) (Or.inl ⟨by rfl, ?_⟩) hHeld ?_ ?_
  rotate_left
  ·rintro w' ⟨s0, s1, s2⟩
   go_simp
   with_reducible rfl
  rotate_left
  ·simp only [Act.put, List.setIfInBounds_toArray, List.set_cons_zero, List.set_cons_succ, i64_w, i32_w]
   rfl
  refine one_ (i := 3) (N := none) #[true, true, true, true] rfl rfl (by kernel_rfl) (by decide) (fun K hK => ?_)
  have hs66 : w65.cell? ⟨gb101, 0, none⟩ = some (.int .i64 0) := z0 _ BK101.out
  have hfs66 := blk_frozen BK101.out 0
  have hns66_1 := NB117_101.out
  have hms66_1 := NB101_117.out
  have hs67 : w65.cell? ⟨gb101, 1, none⟩ = some (.int .i64 0) := z1 _ BK101.out
  have hfs67 := blk_frozen BK101.out 1
  have hns67_1 := NB117_101.out
  have hms67_1 := NB101_117.out
  have hs68 : w65.cell? ⟨gb101, 2, none⟩ = some (.int .i64 0) := z2 _ BK101.out
  have hfs68 := blk_frozen BK101.out 2
  have hns68_1 := NB117_101.out
  have hms68_1 := NB101_117.out
  refine skip_ (w1 := ?_) (by rfl) rfl ?_ ?_
  rotate_left
  ·go_simp
   rfl
  refine hK.out _ _ ⟨((cell_far (p := ⟨gb101, _, none⟩) NB117_101.out _).trans (((cell_far (p := ⟨gb101, _, none⟩) NB117_101.out _).trans (((cell_far (p := ⟨gb101, _, none⟩) NB117_101.out _).trans (hHeld.1)))))), ((cell_far (p := ⟨gb101, _, none⟩) NB117_101.out _).trans (((cell_far (p := ⟨gb101, _, none⟩) NB117_101.out _).trans (((cell_far (p := ⟨gb101, _, none⟩) NB117_101.out _).trans (hHeld.2.1)))))), ((cell_far (p := ⟨gb101, _, none⟩) NB117_101.out _).trans (((cell_far (p := ⟨gb101, _, none⟩) NB117_101.out _).trans (((cell_far (p := ⟨gb101, _, none⟩) NB117_101.out _).trans (hHeld.2.2))))))⟩ (fun hHeld => ?_)
  clear hK K
  refine done_ (by kernel_rfl) ?_
  try go_wp2
  refine bodyPost_ret (results_tc rfl _ _ gb101 86 #[.int .i64 t109, .int .i64 t110, .int .i64 t115] (0, 0) _ rfl (by (with_reducible repeat (first | refine blk_drewN ?_ _ | refine blk_drew ?_ | refine blk_alloc ?_ _)); refine blk_put (cs := #[.int .i64 t109, .int .i64 t110, .int .i64 0]) ?_ 2 _ rfl; (with_reducible repeat (first | refine blk_drewN ?_ _ | refine blk_drew ?_ | refine blk_alloc ?_ _)); refine blk_put (cs := #[.int .i64 t109, .int .i64 0, .int .i64 0]) ?_ 1 _ rfl; (with_reducible repeat (first | refine blk_drewN ?_ _ | refine blk_drew ?_ | refine blk_alloc ?_ _)); refine blk_put (cs := #[.int .i64 0, .int .i64 0, .int .i64 0]) ?_ 0 _ rfl; (with_reducible repeat (first | refine blk_drewN ?_ _ | refine blk_drew ?_ | refine blk_alloc ?_ _)); exact BK101.out) Try.underlying86 rfl (by kernel_rfl)) rfl ?_
  exact ⟨_, ER, by (with_reducible repeat (first | apply Kd.R_alloc | apply Kd.R_drewN | apply Kd.R_drew)); exact Kd.R_mono (Kd.R_far (p := ⟨gb101, 2, none⟩) (Kd.R_far (p := ⟨gb101, 1, none⟩) (Kd.R_far (p := ⟨gb101, 0, none⟩) (Kd.R_mono HO107.out (fun k_ hk => (⟨hk, hk.1⟩ : _ ∧ k_ ≠ gb101))) (fun _ hk => hk.2) (.int .i64 t109)) (fun _ hk => hk.2) (.int .i64 t110)) (fun _ hk => hk.2) (.int .i64 t115)) (fun _ hk => trivial), K3 HB (IsS143.ge HI104.out) GE101.out GE117.out⟩
def spec_DrawWaysGone.f (k : Nat) (l0 : List Int) : Option ((List (S86)) × Int × Int) := (spec_DrawWaysPut.f k l0).bind fun bt102 => (some (bt102.1, bt102.2.1, bt102.2.2.1))
set_option maxHeartbeats 8000000 in
set_option maxRecDepth 100000 in
theorem spec_DrawWaysGone.calls (k : Nat) (A0 : Option Addr) (c0 : Nat) (l0 : List Int) (r1 : List (S86)) (r2 : Int) (r3 : Int) (w : World) (hr0 : Kd.C (Kd.int .u8) w A0 l0.length l0) (hc0 : l0.length ≤ c0) (h : spec_DrawWaysGone.f k l0 = some (r1, r2, r3)) :
  Calls Try.prog 64 #[.slice A0 l0.length c0] w fun e w' => ∃ v0_ : Value, e = .returned (.tuple #[v0_, .agg #[.int .i64 r2, .int .i64 r3]]) ∧ Kd.R k86 86 w' w.heap.size (fun _ => True) v0_ r1 ∧ Below w.heap.size w w' := by
 have hu32 := Try.underlying32
 have hu86 := Try.underlying86
 have HR0 := Aside0.mk hr0
 have HC0 := Aside0.mk hc0
 clear hr0 hc0
 have HB := am (Below.refl w.heap.size w)
 have H : ((spec_DrawWaysPut.f k l0).bind fun bt102 => (some (bt102.1, bt102.2.1, bt102.2.2.1))) = some (r1, r2, r3) := h
 clear h
 replace H := Option.bind_eq_some_iff.mp H
 obtain ⟨⟨t102, t105, t106, t107⟩, A20, H⟩ := H
 replace H : (some (t102, t105, t106)) = some (r1, r2, r3) := H
 have A2 := Aside0.mk A20
 clear A20
 simp only [Option.some.injEq, Prod.mk.injEq] at H
 obtain ⟨rfl, rfl, rfl⟩ := H
 go_enter Try.func64, Try.ntmps64
 try go_wp2_with (first | ((with_reducible refine gate_dst (N := 3) rfl ?_); refine box_event rfl (N := 3) rfl (cs := #[.int .i64 0, .int .i64 0]) (t := 32) BX ?_; intro gb101 hg w3 hbox hb; have BK101 := am (hbox); have GW101 := am (GH HB hg); have GE101 := GW101; replace HB := am (below_step (KL HB) hb); clear hb hbox hg) | ((with_reducible refine gate_callee (f := 67) rfl ?_); refine goesL_ (some 8) rfl rfl Try.func67 (by kernel_rfl) rfl #[.slice A0 l0.length c0] rfl MT ?_; (with_reducible refine (spec_DrawWaysPut.calls k _ _ l0 t102 t105 t106 t107 _ ?side1 ?side2 A2.out).mono ?_); (case side1 => exact KC (Kd.C_below HR0.out HB.out)); (case side2 => exact HC0.out); rintro e w4 ⟨v103, rfl, ho0, hb⟩; refine ⟨_, rfl, ?_⟩; have HO104 := am (Kd.R_lower ho0 (below_size (K1 HB GE101.out))); replace BK101 := am (BB BK101 hb); replace HB := am (below_step (K1 HB GE101.out) hb); (try clear hb); (try clear hb2); (try clear hk); (try clear hi); (try clear ho0)) | ((with_reducible refine gate_dst (N := 5) rfl ?_); refine box_event rfl (N := 5) rfl (cs := #[.int .i64 0, .int .i64 0, .int .i64 0]) (t := 86) BX ?_; intro gb108 hg w5 hbox hb; replace HO104 := am (Kd.R_below (Kd.R_elderB (KR HO104) gb108 (Nat.le_of_eq hg.symm)) hb); have BK108 := am (hbox); have GW108 := am (GH1 HB GE101.out hg); have GE108 := GW108; replace HB := am (below_step (K1 HB GE101.out) hb); have NB101_108 := am (NL BK101 hg); have NB108_101 := am (NG BK101 hg); replace BK101 := am (BB BK101 hb); clear hb hbox hg; have hnb6 := NB108_101.out; have hnc6 := NB101_108.out; obtain ⟨hcz7_0, hcz7_1, hcz7_2, hfz7_0⟩ := y3 w5 BK108.out))
 have n0_ : Aside0 (Kd.R k86 86 (((w5.setCell ⟨gb108, 0, none⟩ (.int .i64 t105)).setCell ⟨gb108, 1, none⟩ (.int .i64 t106)).setCell ⟨gb108, 2, none⟩ (.int .i64 t107)) w.heap.size (fun k_ => k_ ≠ gb108) v103 t102) := ⟨by (with_reducible repeat (first | apply Kd.R_alloc | apply Kd.R_drewN | apply Kd.R_drew)); exact Kd.R_mono (Kd.R_far (p := ⟨gb108, 2, none⟩) (Kd.R_far (p := ⟨gb108, 1, none⟩) (Kd.R_far (p := ⟨gb108, 0, none⟩) (Kd.R_mono HO104.out (fun k_ hk => (⟨hk, hk.2⟩ : _ ∧ k_ ≠ gb108))) (fun _ hk => hk.2) (.int .i64 t105)) (fun _ hk => hk.2) (.int .i64 t106)) (fun _ hk => hk.2) (.int .i64 t107)) (fun _ hk => hk.1.2)⟩
 have n1_ : Aside0 ((((w5.setCell ⟨gb108, 0, none⟩ (.int .i64 t105)).setCell ⟨gb108, 1, none⟩ (.int .i64 t106)).setCell ⟨gb108, 2, none⟩ (.int .i64 t107)).heap[gb101]? = some (.cells #[.int .i64 0, .int .i64 0] 32 (0, 0))) := ⟨by (with_reducible repeat (first | refine blk_drewN ?_ _ | refine blk_drew ?_ | refine blk_alloc ?_ _)); refine blk_far ?_ NB101_108.out _; (with_reducible repeat (first | refine blk_drewN ?_ _ | refine blk_drew ?_ | refine blk_alloc ?_ _)); refine blk_far ?_ NB101_108.out _; (with_reducible repeat (first | refine blk_drewN ?_ _ | refine blk_drew ?_ | refine blk_alloc ?_ _)); refine blk_far ?_ NB101_108.out _; (with_reducible repeat (first | refine blk_drewN ?_ _ | refine blk_drew ?_ | refine blk_alloc ?_ _)); exact BK101.out⟩
 have n2_ : Aside0 ((((w5.setCell ⟨gb108, 0, none⟩ (.int .i64 t105)).setCell ⟨gb108, 1, none⟩ (.int .i64 t106)).setCell ⟨gb108, 2, none⟩ (.int .i64 t107)).heap[gb108]? = some (.cells #[.int .i64 t105, .int .i64 t106, .int .i64 t107] 86 (0, 0))) := ⟨by (with_reducible repeat (first | refine blk_drewN ?_ _ | refine blk_drew ?_ | refine blk_alloc ?_ _)); refine blk_put (cs := #[.int .i64 t105, .int .i64 t106, .int .i64 0]) ?_ 2 _ rfl; (with_reducible repeat (first | refine blk_drewN ?_ _ | refine blk_drew ?_ | refine blk_alloc ?_ _)); refine blk_put (cs := #[.int .i64 t105, .int .i64 0, .int .i64 0]) ?_ 1 _ rfl; (with_reducible repeat (first | refine blk_drewN ?_ _ | refine blk_drew ?_ | refine blk_alloc ?_ _)); refine blk_put (cs := #[.int .i64 0, .int .i64 0, .int .i64 0]) ?_ 0 _ rfl; (with_reducible repeat (first | refine blk_drewN ?_ _ | refine blk_drew ?_ | refine blk_alloc ?_ _)); exact BK108.out⟩
 have n3_ : Aside0 (Below w.heap.size w (((w5.setCell ⟨gb108, 0, none⟩ (.int .i64 t105)).setCell ⟨gb108, 1, none⟩ (.int .i64 t106)).setCell ⟨gb108, 2, none⟩ (.int .i64 t107))) := ⟨K2 HB GE101.out GE108.out⟩
 (try clear HO104)
 (try clear BK101)
 (try clear BK108)
 (try clear HB)
 generalize (((w5.setCell ⟨gb108, 0, none⟩ (.int .i64 t105)).setCell ⟨gb108, 1, none⟩ (.int .i64 t106)).setCell ⟨gb108, 2, none⟩ (.int .i64 t107)) = w8 at n0_ n1_ n2_ n3_ ⊢
 have HO104 := n0_
 have BK101 := n1_
 have BK108 := n2_
 have HB := n3_
 clear n0_ n1_ n2_ n3_
 replace HO104 := am (Kd.R_drew HO104.out)
 replace BK101 := am (blk_drew BK101.out)
 replace BK108 := am (blk_drew BK108.out)
 replace HB := am (below_drew1 HB.out)
 refine start_ (n := 5) (S := fun w' => de3 w' gb108 (.int .i64 t105) (.int .i64 t106) (.int .i64 t107)) (ds := []) (tf 0 5) (by kernel_rfl) rfl rfl ⟨z0 _ BK108.out, z1 _ BK108.out, z2 _ BK108.out⟩ (fun hHeld => ?_)
 generalize w8.drew = w9 at HO104 BK101 BK108 HB hHeld ⊢
 refine pure_ (i := 0) (N := some 11) (v := ?_) (a' := ?_) (tf 1 4) rfl rfl (by kernel_rfl) (fun _ _ _ h => h) (Or.inl ⟨by rfl, ?_⟩) ?_ ?_; rotate_left; (· intro w'; go_simp; with_reducible rfl); rotate_left; (· simp only [Act.put, List.setIfInBounds_toArray, List.set_cons_zero, List.set_cons_succ, i64_w, i32_w]; rfl)
 refine pure_ (i := 1) (N := some 12) (v := ?_) (a' := ?_) (tf 2 3) rfl rfl (by kernel_rfl) (fun _ _ _ h => h) (Or.inl ⟨by rfl, ?_⟩) ?_ ?_; rotate_left; (· intro w'; go_simp; with_reducible rfl); rotate_left; (· simp only [Act.put, List.setIfInBounds_toArray, List.set_cons_zero, List.set_cons_succ, i64_w, i32_w]; rfl)
 refine pure_ (i := 3) (N := some 2) (v := ?_) (a' := ?_) #[true, true, false, true, false] rfl rfl (by kernel_rfl) (fun _ _ _ h => h) (Or.inl ⟨by rfl, ?_⟩) ?_ ?_; rotate_left; (· intro w'; go_simp; with_reducible rfl); rotate_left; (· simp only [Act.put, List.setIfInBounds_toArray, List.set_cons_zero, List.set_cons_succ, i64_w, i32_w]; rfl)
 refine take_ (i := 2) (N := some 13) (v := ?_) (a' := ?_) (tf 4 1) rfl rfl (by kernel_rfl) (fun _ _ _ h => h) (Or.inl ⟨by rfl, ?_⟩) hHeld ?_ ?_
 rotate_left
 ·rintro w' ⟨s0, s1, s2⟩
  go_simp
  with_reducible rfl
 rotate_left
 ·simp only [Act.put, List.setIfInBounds_toArray, List.set_cons_zero, List.set_cons_succ, i64_w, i32_w]
  rfl
 refine one_ (i := 4) (N := none) (tf 5 0) rfl rfl (by kernel_rfl) (by decide) (fun K hK => ?_)
 have hs10 : w9.cell? ⟨gb101, 0, none⟩ = some (.int .i64 0) := z0 _ BK101.out
 have hfs10 := blk_frozen BK101.out 0
 have hns10_1 := NB108_101.out
 have hms10_1 := NB101_108.out
 have hs11 : w9.cell? ⟨gb101, 1, none⟩ = some (.int .i64 0) := z1 _ BK101.out
 have hfs11 := blk_frozen BK101.out 1
 have hns11_1 := NB108_101.out
 have hms11_1 := NB101_108.out
 refine skip_ (w1 := ?_) (by rfl) rfl ?_ ?_
 rotate_left
 ·go_simp
  rfl
 refine hK.out _ _ ⟨((cell_far (p := ⟨gb101, _, none⟩) NB108_101.out _).trans (((cell_far (p := ⟨gb101, _, none⟩) NB108_101.out _).trans (hHeld.1)))), ((cell_far (p := ⟨gb101, _, none⟩) NB108_101.out _).trans (((cell_far (p := ⟨gb101, _, none⟩) NB108_101.out _).trans (hHeld.2.1)))), ((cell_far (p := ⟨gb101, _, none⟩) NB108_101.out _).trans (((cell_far (p := ⟨gb101, _, none⟩) NB108_101.out _).trans (hHeld.2.2))))⟩ (fun hHeld => ?_)
 clear hK K
 refine done_ (by kernel_rfl) ?_
 try go_wp2
 refine bodyPost_ret (results_tc rfl _ _ gb101 32 #[.int .i64 t105, .int .i64 t106] (0, 0) _ rfl (by (with_reducible repeat (first | refine blk_drewN ?_ _ | refine blk_drew ?_ | refine blk_alloc ?_ _)); refine blk_put (cs := #[.int .i64 t105, .int .i64 0]) ?_ 1 _ rfl; (with_reducible repeat (first | refine blk_drewN ?_ _ | refine blk_drew ?_ | refine blk_alloc ?_ _)); refine blk_put (cs := #[.int .i64 0, .int .i64 0]) ?_ 0 _ rfl; (with_reducible repeat (first | refine blk_drewN ?_ _ | refine blk_drew ?_ | refine blk_alloc ?_ _)); exact BK101.out) Try.underlying32 rfl (by kernel_rfl)) rfl ?_
 exact ⟨_, ER, by (with_reducible repeat (first | apply Kd.R_alloc | apply Kd.R_drewN | apply Kd.R_drew)); exact Kd.R_mono (Kd.R_far (p := ⟨gb101, 1, none⟩) (Kd.R_far (p := ⟨gb101, 0, none⟩) (Kd.R_types HO104.out BK101.out (by decide)) (fun _ hk => hk.2) (.int .i64 t105)) (fun _ hk => hk.2) (.int .i64 t106)) (fun _ hk => trivial), K2 HB GE101.out GE108.out⟩
def slices_Clone_Way.f (l0 : List (S86)) : Option (List (S86)) := if l0.length < 5864062014805 then some l0 else none
set_option maxHeartbeats 8000000 in
set_option maxRecDepth 100000 in
theorem slices_Clone_Way.calls (A0 : Option Addr) (c0 : Nat) (l0 : List (S86)) (r : List (S86)) (w : World) (hr0 : Kd.C k86 w A0 l0.length l0) (hc0 : l0.length ≤ c0) (h : slices_Clone_Way.f l0 = some r) :
  Calls Try.prog 115 #[.slice A0 l0.length c0] w fun e w' => ∃ v0_ : Value, e = .returned (v0_) ∧ Kd.R k86 86 w' w.heap.size (fun _ => True) v0_ r ∧ Below w.heap.size w w' := by
 have hlim : l0.length < 5864062014805 ∧ l0 = r := by
  unfold slices_Clone_Way.f at h
  by_cases c : l0.length < 5864062014805
  ·rw [if_pos c] at h; exact ⟨c, Option.some.inj h⟩
  ·rw [if_neg c] at h; cases h
 obtain ⟨hlim, rfl⟩ := hlim
 have HL := Aside0.mk hlim
 have q22 : ∀ (w : World) (a : Option Addr) (n c : Nat), (binOp .eql 75 (.slice a n c) (.slice none 0 0)).run Try.prog w = .ok (.bool a.isNone) w := fun w a n c => Go.run_eql_slice_nil w _ _ a n c Try.underlying75
 cases A0 with
 | none =>
  have hz : l0 = [] := by
   cases l0 with
   | nil => rfl
   | cons x l => obtain ⟨ad, e, _⟩ := hr0.2.2 (by simp); cases e
  subst hz
  clear hr0 hc0 h hlim
  go_enter Try.func115, Try.ntmps115
  go_wp2
  go_ret
  exact ⟨_, rfl, Kd.R_nil _ _ _ _ _, Below.refl _ _⟩
 | some a =>
  have HR0 := Aside0.mk hr0
  have HB := am (Below.refl w.heap.size w)
  clear hr0 hc0 h hlim
  go_enter Try.func115, Try.ntmps115
  go_wp2_with (first | ((with_reducible refine gate_dst (N := 5) rfl ?_); refine Kd.R_lit k86 _ 86 ?hg (N := 5) ?hd (xs := ([] : List (S86))) (inner := []) (ok := fun _ => True) (okp := fun _ => True) ?hr ?hp (fun _ hk => hk) trivial (Below.refl _ _) (Nat.le_refl _) (by simp) ?_; (case hd => rfl); (case hg => rfl); (case hr => first | (go_simp; done) | (go_simp; rfl)); (case hp => exact (Reps.none _ _)); intro v102 w3 ho4 hb hg_ hnew_; clear hg_ hnew_; have HO103 := am (Kd.R_lower ho4 (below_size (KL HB))); replace HB := am (below_step (KL HB) hb); clear hb ho4) | ((with_reducible refine gate_builtin (b := .append) (xs := #[.tmp 5, .tmp 6]) rfl ?_); at_builtin; refine Kd.R_append_rows k86 (w0 := w) w.heap.size rfl (.tmp 5) (.tmp 6) 75 86 (.agg #[(.int .i64 0), (.int .i64 0), (.int .i64 0)]) 24 rfl Try.underlying75 info86 rfl (by decide) (by omega) v102 [] l0 _ _ _ (fun _ => True) (fun _ => False) rfl rfl ?aO ?aR (fun _ _ h => h) (fun _ h => h.elim) ?aF ?aB ?aS ?aL ?_; (case aR => exact KC (Kd.C_below HR0.out HB.out)); (case aB => exact (KL HB)); (case aF => exact (fun _ _ => trivial)); (case aO => exact (KR HO103)); (case aS => exact (below_size (KL HB))); (case aL => have := HL.out; simp only [List.length_nil]; omega); intro v105 w5 ho hb hg hat; rw [List.nil_append] at ho; replace HB := am (hb); have HO106 := am (ho); clear HO103; clear ho hb hg hat))
  go_ret
  exact ⟨_, rfl, by (with_reducible repeat (first | apply Kd.R_alloc | apply Kd.R_drewN | apply Kd.R_drew)); exact HO106.out, KL HB⟩
def impl_find_cl1.f (k : Nat) (a0_0 : Int) (a0_1 : Int) (a0_2 : Int) (a1_0 : Int) (a1_1 : Int) : Option (Int) := (impl_byBlock.f k a0_0 a0_1 a1_0 a1_1).bind fun t103 => (some t103)
set_option maxHeartbeats 8000000 in
set_option maxRecDepth 100000 in
theorem impl_find_cl1.calls (k : Nat) (a0_0 : Int) (a0_1 : Int) (a0_2 : Int) (a1_0 : Int) (a1_1 : Int) (r : Int) (w : World) (h : impl_find_cl1.f k a0_0 a0_1 a0_2 a1_0 a1_1 = some r) :
  Calls Try.prog 143 #[.agg #[.int .i64 a0_0, .int .i64 a0_1, .int .i64 a0_2], .agg #[.int .i64 a1_0, .int .i64 a1_1]] w fun e w' => e = .returned (.int .i64 r) ∧ Below w.heap.size w w' := by
 have hu86 := Try.underlying86
 have hu32 := Try.underlying32
 have HB := am (Below.refl w.heap.size w)
 have H : ((impl_byBlock.f k a0_0 a0_1 a1_0 a1_1).bind fun t103 => (some t103)) = some r := h
 clear h
 replace H := Option.bind_eq_some_iff.mp H
 obtain ⟨t103, A30, H⟩ := H
 replace H : (some t103) = some r := H
 have A3 := Aside0.mk A30
 clear A30
 obtain rfl := Option.some.inj H
 go_enter Try.func143, Try.ntmps143
 go_wp2_with (first | ((with_reducible refine gate_dst (N := 2) rfl ?_); refine box_event rfl (N := 2) rfl (cs := #[.int .i64 a0_0, .int .i64 a0_1, .int .i64 a0_2]) (t := 86) BX ?_; intro gb101 hg w4 hbox hb; have BK101 := am (hbox); have GW101 := am (GH HB hg); have GE101 := GW101; replace HB := am (below_step (KL HB) hb); clear hb hbox hg) | ((with_reducible refine gate_dst (N := 3) rfl ?_); refine box_event rfl (N := 3) rfl (cs := #[.int .i64 a1_0, .int .i64 a1_1]) (t := 32) BX ?_; intro gb102 hg w5 hbox hb; have BK102 := am (hbox); have GW102 := am (GH1 HB GE101.out hg); have GE102 := GW102; replace HB := am (below_step (K1 HB GE101.out) hb); have NB101_102 := am (NL BK101 hg); have NB102_101 := am (NG BK101 hg); replace BK101 := am (BB BK101 hb); clear hb hbox hg; have hnb6 := NB101_102.out; have hnc6 := NB102_101.out; obtain ⟨hcz7_0, hcz7_1, hcz7_2, hfz7_0⟩ := y3 w5 BK101.out; obtain ⟨hcz8_0, hcz8_1, hfz8_0⟩ := y2 w5 BK102.out) | ((with_reducible refine gate_callee (f := 114) rfl ?_); refine goesL_ (some 8) rfl rfl Try.func114 (by kernel_rfl) rfl #[.agg #[.int .i64 a0_0, .int .i64 a0_1], .agg #[.int .i64 a1_0, .int .i64 a1_1]] rfl MT ?_; (with_reducible refine (impl_byBlock.calls k a0_0 a0_1 a1_0 a1_1 t103 _ A3.out).mono ?_); rintro e w9 ⟨rfl, hb⟩; refine ⟨_, rfl, ?_⟩; replace BK101 := am (BB BK101 hb); replace BK102 := am (BB BK102 hb); replace HB := am (below_step (K2 HB GE101.out GE102.out) hb); (try clear hb); (try clear hb2); (try clear hk); (try clear hi)))
 go_ret
 exact ⟨ER, K2 HB GE101.out GE102.out⟩
def impl_Block_find_cl1.l0 : Nat → List (S86) → Int → Int → Int → Int → Int → Option (Int × Bool)
 | 0, _, _, _, _, _, _ => none
 | k + 1, x0, x8, x9, x10, x102000, x102001 => if x9 < x10 then (if 0 ≤ (wrap64 ((IntKind.u64.wrap (wrap64 (x9 + x10))) / 2)) then (if (wrap64 ((IntKind.u64.wrap (wrap64 (x9 + x10))) / 2)) < (x0.length : Int) then ((impl_find_cl1.f k ((rd_T86 x0 (wrap64 ((IntKind.u64.wrap (wrap64 (x9 + x10))) / 2))).f0.f0) ((rd_T86 x0 (wrap64 ((IntKind.u64.wrap (wrap64 (x9 + x10))) / 2))).f0.f1) ((rd_T86 x0 (wrap64 ((IntKind.u64.wrap (wrap64 (x9 + x10))) / 2))).f1) x102000 x102001).bind fun t103 => (if t103 < 0 then (impl_Block_find_cl1.l0 k x0 x8 (wrap64 ((wrap64 ((IntKind.u64.wrap (wrap64 (x9 + x10))) / 2)) + 1)) x10 x102000 x102001) else (impl_Block_find_cl1.l0 k x0 x8 x9 (wrap64 ((IntKind.u64.wrap (wrap64 (x9 + x10))) / 2)) x102000 x102001))) else (none)) else (none)) else (if x9 < x8 then (if 0 ≤ x9 then (if x9 < (x0.length : Int) then ((impl_find_cl1.f k ((rd_T86 x0 x9).f0.f0) ((rd_T86 x0 x9).f0.f1) ((rd_T86 x0 x9).f1) x102000 x102001).bind fun t105 => (some (x9, (t105 == 0)))) else (none)) else (none)) else (some (x9, false)))
def impl_Block_find_cl1.f (k : Nat) (l0 : List (S86)) (a1_0 : Int) (a1_1 : Int)  : Option (Int × Bool) := impl_Block_find_cl1.l0 k l0 (l0.length : Int) 0 (l0.length : Int) a1_0 a1_1
def impl_Block_find_cl1.T5 : Bool × List (List Nat × List Nat) := (true, [([], []), ([], []), ([], []), ([1, 2], [1, 2]), ([3], [3]), ([], []), ([0, 4, 5], [0, 4, 5]), ([6], [6])])
def impl_Block_find_cl1.B5 : List Nat := [0, 0, 0, 6, 14, 0, 63, 127]
theorem impl_Block_find_cl1.tab5 : rtab .any (opsOf Try.f142 5) = impl_Block_find_cl1.T5 := by kernel_rfl
theorem impl_Block_find_cl1.bits5 : waitsOk impl_Block_find_cl1.T5.2 impl_Block_find_cl1.B5 = true := by kernel_rfl
def impl_Block_find_cl1.T8 : Bool × List (List Nat × List Nat) := (true, [([], []), ([], []), ([], []), ([1, 2], [1, 2]), ([3], [3]), ([4], [4]), ([4], [4]), ([4], [4]), ([6, 7, 4], [4, 6, 7]), ([8, 4], [4, 8]), ([4], [4]), ([5, 9, 10, 4, 4], [4, 5, 9, 10]), ([11, 4], [4, 11]), ([4, 12], [4, 12]), ([0, 11, 0], [0]), ([13, 14, 0, 1, 2, 3, 4, 5, 6, 7, 8, 9, 10, 11, 12, 13, 14], [13])])
def impl_Block_find_cl1.B8 : List Nat := [0, 0, 0, 6, 14, 30, 30, 30, 222, 478, 30, 2046, 4094, 8190, 4095, 32767]
theorem impl_Block_find_cl1.tab8 : rtab .any (opsOf Try.f142 8) = impl_Block_find_cl1.T8 := by kernel_rfl
theorem impl_Block_find_cl1.bits8 : waitsOk impl_Block_find_cl1.T8.2 impl_Block_find_cl1.B8 = true := by kernel_rfl
set_option maxHeartbeats 8000000 in
set_option maxRecDepth 100000 in
theorem impl_Block_find_cl1.calls (k : Nat) (A0 : Option Addr) (c0 : Nat) (l0 : List (S86)) (a1_0 : Int) (a1_1 : Int)  (r1 : Int) (r2 : Bool) (w : World) (hr0 : Kd.C k86 w A0 l0.length l0) (hc0 : l0.length ≤ c0) (h : impl_Block_find_cl1.f k l0 a1_0 a1_1 = some (r1, r2)) :
  Calls Try.prog 142 #[.slice A0 l0.length c0, .agg #[.int .i64 a1_0, .int .i64 a1_1], .func (.func 143) #[] #[]] w fun e w' => e = .returned (.tuple #[.int .i64 r1, .bool r2]) ∧ Below w.heap.size w w' := by
 have hu32 := Try.underlying32
 have hu86 := Try.underlying86
 have HR0 := Aside0.mk hr0
 have HC0 := Aside0.mk hc0
 clear hr0 hc0
 have HB := am (Below.refl w.heap.size w)
 have H : (impl_Block_find_cl1.l0 k l0 (l0.length : Int) 0 (l0.length : Int) a1_0 a1_1) = some (r1, r2) := h
 clear h
 have H' := Aside0.mk H
 clear H
 go_enter Try.func142, Try.ntmps142
 go_wp2_with (first | ((with_reducible refine gate_dst (N := 4) rfl ?_); refine box_event rfl (N := 4) rfl (cs := #[.int .i64 a1_0, .int .i64 a1_1]) (t := 32) BX ?_; intro gb101 hg w4 hbox hb; have BK101 := am (hbox); have GW101 := am (GH HB hg); have GE101 := GW101; replace HB := am (below_step (KL HB) hb); clear hb hbox hg))
 go_loopg [9, 10] k (fun kq v9 v10 w' => ∃ (x9_1 : Int) (x10_1 : Int), v9 = .int .i64 x9_1 ∧ v10 = .int .i64 x10_1 ∧ Aside0 (impl_Block_find_cl1.l0 kq l0 (l0.length : Int) x9_1 x10_1 a1_0 a1_1 = some (r1, r2)) ∧ Aside0 (kq ≤ k) ∧ Aside0 (w'.heap[gb101]? = some (.cells #[.int .i64 a1_0, .int .i64 a1_1] 32 (0, 0))) ∧ Aside0 (Below w.heap.size w w'))
 case atStart => exact ⟨(0), ((l0.length : Int)), (by first | rfl | (simp; done) | (simp [*]; done)), (by first | rfl | (simp; done) | (simp [*]; done)), H', ⟨Nat.le_refl _⟩, ⟨KB BK101⟩, ⟨K1 HB GE101.out⟩⟩
 case round =>
  clear H'
  try clear p2
  obtain ⟨x9_1, x10_1, rfl, rfl, HA, HK1, BK101, HB⟩ := hrel
  cases gk with
  | zero => exact absurd HA.out (by simp [impl_Block_find_cl1.l0])
  | succ k1 =>
   have H := HA.out
   clear HA
   simp only [impl_Block_find_cl1.l0] at H
   by_cases c5 : x9_1 < x10_1
   ·rw [if_pos c5] at H
    have c5b0 : decide (x9_1 < x10_1) = true := decide_eq_true c5
    clear c5
    obtain ⟨ji6, hji6⟩ : ∃ j_ : Int, (wrap64 ((IntKind.u64.wrap (wrap64 (x9_1 + x10_1))) / 2)) = j_ := ⟨_, rfl⟩
    replace H : (if 0 ≤ (ji6) then (if (ji6) < (l0.length : Int) then ((impl_find_cl1.f k1 ((rd_T86 l0 (ji6)).f0.f0) ((rd_T86 l0 (ji6)).f0.f1) ((rd_T86 l0 (ji6)).f1) a1_0 a1_1).bind fun t103 => (if t103 < 0 then (impl_Block_find_cl1.l0 k1 l0 (l0.length : Int) (wrap64 ((ji6) + 1)) x10_1 a1_0 a1_1) else (impl_Block_find_cl1.l0 k1 l0 (l0.length : Int) x9_1 ji6 a1_0 a1_1))) else (none)) else (none)) = some (r1, r2) := by first | (rw [hji6] at H; exact H) | (simp only [hji6] at H ⊢; exact H)
    have hji6w : (IntKind.i64.wrap ((IntKind.u64.wrap (wrap64 (x9_1 + x10_1))) / 2)) = ji6 := (i64_w _).trans hji6
    by_cases c7 : 0 ≤ (ji6)
    ·rw [if_pos c7] at H
     have c7b0 : decide (0 ≤ (ji6)) = true := decide_eq_true c7
     clear c7
     by_cases c8 : (ji6) < (l0.length : Int)
     ·rw [if_pos c8] at H
      have c8b0 : decide ((ji6) < (l0.length : Int)) = true := decide_eq_true c8
      clear c8
      replace H := Option.bind_eq_some_iff.mp H
      obtain ⟨t103, A90, H⟩ := H
      replace H : (if t103 < 0 then (impl_Block_find_cl1.l0 k1 l0 (l0.length : Int) (wrap64 ((ji6) + 1)) x10_1 a1_0 a1_1) else (impl_Block_find_cl1.l0 k1 l0 (l0.length : Int) x9_1 ji6 a1_0 a1_1)) = some (r1, r2) := H
      have A9 := Aside0.mk A90
      clear A90
      by_cases c10 : t103 < 0
      ·rw [if_pos c10] at H
       have c10b0 : decide (t103 < 0) = true := decide_eq_true c10
       clear c10
       have H' := Aside0.mk H
       clear H
       try go_wp2
       replace BK101 := am (blk_drew BK101.out)
       replace HB := am (below_drew1 HB.out)
       have p102 : 0 ≤ ((ji6) : Int) := OD
       have q102 : (ji6) < (l0.length : Int) := OD
       obtain ⟨ad102, e102, hx102_0, hx102_1, hx102_2⟩ := at_T86 HR0.out (ji6) p102 q102
       have hw102_2 := hx102_2
       have hw102_1 := hx102_1
       have hw102_0 := hx102_0
       cases e102
       replace hx102_0 := CX HB.out hx102_0
       replace hx102_1 := CX HB.out hx102_1
       replace hx102_2 := CX HB.out hx102_2
       replace p102 := eq_true p102
       replace q102 := eq_true q102
       refine start_ (n := 8) (S := fun w' => ce2 w' gb101 (.int .i64 a1_0) (.int .i64 a1_1) (w'.cell? (ad102.add (((ji6)).toNat * 3)) = some (.int .i64 ((rd_T86 l0 (ji6)).f0.f0)) ∧ w'.cell? ⟨(ad102.add (((ji6)).toNat * 3)).block, (ad102.add (((ji6)).toNat * 3)).off + 1, none⟩ = some (.int .i64 ((rd_T86 l0 (ji6)).f0.f1)) ∧ w'.cell? ⟨(ad102.add (((ji6)).toNat * 3)).block, (ad102.add (((ji6)).toNat * 3)).off + 2, none⟩ = some (.int .i64 ((rd_T86 l0 (ji6)).f1)))) (ds := []) (tf 0 8) (by kernel_rfl) rfl rfl ⟨z0 _ BK101.out, z1 _ BK101.out, ((HB.out.cell (World.block_lt_of_cell? w _ hw102_0)).trans hw102_0), ((HB.out.cell (World.block_lt_of_cell? w _ hw102_1)).trans hw102_1), ((HB.out.cell (World.block_lt_of_cell? w _ hw102_2)).trans hw102_2)⟩ (fun hHeld => ?_); refine with_tabW impl_Block_find_cl1.tab5 impl_Block_find_cl1.bits5 (fun HT_ HW_ => ?_)
       generalize wr.drew = w11 at BK101 HB hx102_0 hx102_1 hx102_2 hHeld ⊢
       refine pv HT_ 0 24 (tf 1 7) ?_
       refine pv HT_ 1 25 (tf 2 6) ?_
       refine pv HT_ 2 26 (tf 3 5) ?_
       refine pv HT_ 3 27 (tf 4 4) ?_
       refine tk 4 (some 28) (tf 5 3) (take_ofW HT_.out HW_.out (by kernel_rfl)) hHeld ?_
       refine tk 5 (some 29) (tf 6 2) (take_ofW HT_.out HW_.out (by kernel_rfl)) hHeld ?_
       refine one_ (i := 6) (N := some 30) (tf 7 1) rfl rfl (one_of HT_.out (by kernel_rfl)) (by decide) (fun K hK => ?_)
       refine goesW_ Try.func143 (by kernel_rfl) rfl #[.agg #[.int .i64 ((rd_T86 l0 (ji6)).f0.f0), .int .i64 ((rd_T86 l0 (ji6)).f0.f1), .int .i64 ((rd_T86 l0 (ji6)).f1)], .agg #[.int .i64 a1_0, .int .i64 a1_1]] (by rfl) rfl rfl (by first | rfl | (simp [Act.eval, Act.put]; done)) (by (try simp only [List.map_toArray, List.map_cons, List.map_nil]); first | done | (simp only [hji6]; rfl) | rfl | (simp only [List.length_drop, List.length_take]; rfl)) ?_
       with_reducible refine (impl_find_cl1.calls k1 ((rd_T86 l0 (ji6)).f0.f0) ((rd_T86 l0 (ji6)).f0.f1) ((rd_T86 l0 (ji6)).f1) a1_0 a1_1 t103 _ A9.out).mono ?_
       rintro e w12 ⟨rfl, hb⟩
       refine ⟨_, rfl, ?_⟩
       replace BK101 := am (BB BK101 hb)
       replace HB := am (below_step (K1 HB GE101.out) hb)
       (try clear hb)
       (try clear hb2)
       (try clear hk)
       (try clear hi)
       refine hK.out _ _ ⟨z0 _ BK101.out, z1 _ BK101.out, ((HB.out.cell (World.block_lt_of_cell? w _ hw102_0)).trans hw102_0), ((HB.out.cell (World.block_lt_of_cell? w _ hw102_1)).trans hw102_1), ((HB.out.cell (World.block_lt_of_cell? w _ hw102_2)).trans hw102_2)⟩ (fun hHeld => ?_)
       clear hK K
       refine norm_ (a' := ?_) ?_ ?_
       rotate_left
       ·show Act.put _ (some 30) _ = _
        simp only [Act.put, List.setIfInBounds_toArray, List.set_cons_zero, List.set_cons_succ, i64_w, i32_w]
        rfl
       refine pv HT_ 7 31 (tf 8 0) ?_
       refine done_ (done_of HT_.out (by kernel_rfl)) ?_
       try go_wp2
       go_roundg k1
       case measure => have := HK1.out; omega
       case rel => exact ⟨(wrap64 ((ji6) + 1)), (x10_1), (by first | rfl | (simp; done) | (simp only [← hji6] <;> (first | rfl | simp)) | (simp [*]; done)), (by first | rfl | (simp; done) | (simp [*]; done)), H', ⟨by have := HK1.out; omega⟩, ⟨KB BK101⟩, ⟨K1 HB GE101.out⟩⟩
      ·rw [if_neg c10] at H
       have c10b0 : decide (t103 < 0) = false := decide_eq_false c10
       clear c10
       have H' := Aside0.mk H
       clear H
       try go_wp2
       replace BK101 := am (blk_drew BK101.out)
       replace HB := am (below_drew1 HB.out)
       have p102 : 0 ≤ ((ji6) : Int) := OD
       have q102 : (ji6) < (l0.length : Int) := OD
       obtain ⟨ad102, e102, hx102_0, hx102_1, hx102_2⟩ := at_T86 HR0.out (ji6) p102 q102
       have hw102_2 := hx102_2
       have hw102_1 := hx102_1
       have hw102_0 := hx102_0
       cases e102
       replace hx102_0 := CX HB.out hx102_0
       replace hx102_1 := CX HB.out hx102_1
       replace hx102_2 := CX HB.out hx102_2
       replace p102 := eq_true p102
       replace q102 := eq_true q102
       refine start_ (n := 8) (S := fun w' => ce2 w' gb101 (.int .i64 a1_0) (.int .i64 a1_1) (w'.cell? (ad102.add (((ji6)).toNat * 3)) = some (.int .i64 ((rd_T86 l0 (ji6)).f0.f0)) ∧ w'.cell? ⟨(ad102.add (((ji6)).toNat * 3)).block, (ad102.add (((ji6)).toNat * 3)).off + 1, none⟩ = some (.int .i64 ((rd_T86 l0 (ji6)).f0.f1)) ∧ w'.cell? ⟨(ad102.add (((ji6)).toNat * 3)).block, (ad102.add (((ji6)).toNat * 3)).off + 2, none⟩ = some (.int .i64 ((rd_T86 l0 (ji6)).f1)))) (ds := []) (tf 0 8) (by kernel_rfl) rfl rfl ⟨z0 _ BK101.out, z1 _ BK101.out, ((HB.out.cell (World.block_lt_of_cell? w _ hw102_0)).trans hw102_0), ((HB.out.cell (World.block_lt_of_cell? w _ hw102_1)).trans hw102_1), ((HB.out.cell (World.block_lt_of_cell? w _ hw102_2)).trans hw102_2)⟩ (fun hHeld => ?_); refine with_tabW impl_Block_find_cl1.tab5 impl_Block_find_cl1.bits5 (fun HT_ HW_ => ?_)
       generalize wr.drew = w13 at BK101 HB hx102_0 hx102_1 hx102_2 hHeld ⊢
       refine pv HT_ 0 24 (tf 1 7) ?_
       refine pv HT_ 1 25 (tf 2 6) ?_
       refine pv HT_ 2 26 (tf 3 5) ?_
       refine pv HT_ 3 27 (tf 4 4) ?_
       refine tk 4 (some 28) (tf 5 3) (take_ofW HT_.out HW_.out (by kernel_rfl)) hHeld ?_
       refine tk 5 (some 29) (tf 6 2) (take_ofW HT_.out HW_.out (by kernel_rfl)) hHeld ?_
       refine one_ (i := 6) (N := some 30) (tf 7 1) rfl rfl (one_of HT_.out (by kernel_rfl)) (by decide) (fun K hK => ?_)
       refine goesW_ Try.func143 (by kernel_rfl) rfl #[.agg #[.int .i64 ((rd_T86 l0 (ji6)).f0.f0), .int .i64 ((rd_T86 l0 (ji6)).f0.f1), .int .i64 ((rd_T86 l0 (ji6)).f1)], .agg #[.int .i64 a1_0, .int .i64 a1_1]] (by rfl) rfl rfl (by first | rfl | (simp [Act.eval, Act.put]; done)) (by (try simp only [List.map_toArray, List.map_cons, List.map_nil]); first | done | (simp only [hji6]; rfl) | rfl | (simp only [List.length_drop, List.length_take]; rfl)) ?_
       with_reducible refine (impl_find_cl1.calls k1 ((rd_T86 l0 (ji6)).f0.f0) ((rd_T86 l0 (ji6)).f0.f1) ((rd_T86 l0 (ji6)).f1) a1_0 a1_1 t103 _ A9.out).mono ?_
       rintro e w14 ⟨rfl, hb⟩
       refine ⟨_, rfl, ?_⟩
       replace BK101 := am (BB BK101 hb)
       replace HB := am (below_step (K1 HB GE101.out) hb)
       (try clear hb)
       (try clear hb2)
       (try clear hk)
       (try clear hi)
       refine hK.out _ _ ⟨z0 _ BK101.out, z1 _ BK101.out, ((HB.out.cell (World.block_lt_of_cell? w _ hw102_0)).trans hw102_0), ((HB.out.cell (World.block_lt_of_cell? w _ hw102_1)).trans hw102_1), ((HB.out.cell (World.block_lt_of_cell? w _ hw102_2)).trans hw102_2)⟩ (fun hHeld => ?_)
       clear hK K
       refine norm_ (a' := ?_) ?_ ?_
       rotate_left
       ·show Act.put _ (some 30) _ = _
        simp only [Act.put, List.setIfInBounds_toArray, List.set_cons_zero, List.set_cons_succ, i64_w, i32_w]
        rfl
       refine pv HT_ 7 31 (tf 8 0) ?_
       refine done_ (done_of HT_.out (by kernel_rfl)) ?_
       try go_wp2
       go_roundg k1
       case measure => have := HK1.out; omega
       case rel => exact ⟨(x9_1), (ji6), (by first | rfl | (simp; done) | (simp [*]; done)), (by first | rfl | (simp; done) | (simp only [← hji6] <;> (first | rfl | simp)) | (simp [*]; done)), H', ⟨by have := HK1.out; omega⟩, ⟨KB BK101⟩, ⟨K1 HB GE101.out⟩⟩
     ·rw [if_neg c8] at H
      exact absurd H (by simp)
    ·rw [if_neg c7] at H
     exact absurd H (by simp)
   ·rw [if_neg c5] at H
    have c5b0 : decide (x9_1 < x10_1) = false := decide_eq_false c5
    clear c5
    by_cases c15 : x9_1 < (l0.length : Int)
    ·rw [if_pos c15] at H
     have c15b0 : decide (x9_1 < (l0.length : Int)) = true := decide_eq_true c15
     clear c15
     by_cases c16 : 0 ≤ x9_1
     ·rw [if_pos c16] at H
      have c16b0 : decide (0 ≤ x9_1) = true := decide_eq_true c16
      clear c16
      by_cases c17 : x9_1 < (l0.length : Int)
      ·rw [if_pos c17] at H
       have c17b0 : decide (x9_1 < (l0.length : Int)) = true := decide_eq_true c17
       clear c17
       replace H := Option.bind_eq_some_iff.mp H
       obtain ⟨t105, A180, H⟩ := H
       replace H : (some (x9_1, (t105 == 0))) = some (r1, r2) := H
       have A18 := Aside0.mk A180
       clear A180
       simp only [Option.some.injEq, Prod.mk.injEq] at H
       obtain ⟨rfl, rfl⟩ := H
       try go_wp2
       replace BK101 := am (blk_drew BK101.out)
       replace HB := am (below_drew1 HB.out)
       have p104 : 0 ≤ (x9_1 : Int) := OD
       have q104 : x9_1 < (l0.length : Int) := OD
       obtain ⟨ad104, e104, hx104_0, hx104_1, hx104_2⟩ := at_T86 HR0.out x9_1 p104 q104
       have hw104_2 := hx104_2
       have hw104_1 := hx104_1
       have hw104_0 := hx104_0
       cases e104
       replace hx104_0 := CX HB.out hx104_0
       replace hx104_1 := CX HB.out hx104_1
       replace hx104_2 := CX HB.out hx104_2
       replace p104 := eq_true p104
       replace q104 := eq_true q104
       refine start_ (n := 16) (S := fun w' => ce2 w' gb101 (.int .i64 a1_0) (.int .i64 a1_1) (w'.cell? (ad104.add ((x9_1).toNat * 3)) = some (.int .i64 ((rd_T86 l0 x9_1).f0.f0)) ∧ w'.cell? ⟨(ad104.add ((x9_1).toNat * 3)).block, (ad104.add ((x9_1).toNat * 3)).off + 1, none⟩ = some (.int .i64 ((rd_T86 l0 x9_1).f0.f1)) ∧ w'.cell? ⟨(ad104.add ((x9_1).toNat * 3)).block, (ad104.add ((x9_1).toNat * 3)).off + 2, none⟩ = some (.int .i64 ((rd_T86 l0 x9_1).f1)))) (ds := []) (tf 0 16) (by kernel_rfl) rfl rfl ⟨z0 _ BK101.out, z1 _ BK101.out, ((HB.out.cell (World.block_lt_of_cell? w _ hw104_0)).trans hw104_0), ((HB.out.cell (World.block_lt_of_cell? w _ hw104_1)).trans hw104_1), ((HB.out.cell (World.block_lt_of_cell? w _ hw104_2)).trans hw104_2)⟩ (fun hHeld => ?_); refine with_tabW impl_Block_find_cl1.tab8 impl_Block_find_cl1.bits8 (fun HT_ HW_ => ?_)
       generalize wr.drew = w19 at BK101 HB hx104_0 hx104_1 hx104_2 hHeld ⊢
       refine pv HT_ 0 35 (tf 1 15) ?_
       refine pv HT_ 1 36 (tf 2 14) ?_
       refine pv HT_ 2 37 (tf 3 13) ?_
       refine pv HT_ 3 38 (tf 4 12) ?_
       refine pv HT_ 4 39 (tf 5 11) ?_
       refine pv HT_ 5 40 (tf 6 10) ?_
       refine pv HT_ 6 41 (tf 7 9) ?_
       refine pv HT_ 7 42 (tf 8 8) ?_
       refine pv HT_ 8 43 (tf 9 7) ?_
       refine tk 9 (some 44) (tf 10 6) (take_ofW HT_.out HW_.out (by kernel_rfl)) hHeld ?_
       refine tk 10 (some 45) (tf 11 5) (take_ofW HT_.out HW_.out (by kernel_rfl)) hHeld ?_
       refine one_ (i := 11) (N := some 46) (tf 12 4) rfl rfl (one_of HT_.out (by kernel_rfl)) (by decide) (fun K hK => ?_)
       refine goesW_ Try.func143 (by kernel_rfl) rfl #[.agg #[.int .i64 ((rd_T86 l0 x9_1).f0.f0), .int .i64 ((rd_T86 l0 x9_1).f0.f1), .int .i64 ((rd_T86 l0 x9_1).f1)], .agg #[.int .i64 a1_0, .int .i64 a1_1]] (by rfl) rfl rfl (by first | rfl | (simp [Act.eval, Act.put]; done)) MT ?_
       with_reducible refine (impl_find_cl1.calls k1 ((rd_T86 l0 x9_1).f0.f0) ((rd_T86 l0 x9_1).f0.f1) ((rd_T86 l0 x9_1).f1) a1_0 a1_1 t105 _ A18.out).mono ?_
       rintro e w20 ⟨rfl, hb⟩
       refine ⟨_, rfl, ?_⟩
       replace BK101 := am (BB BK101 hb)
       replace HB := am (below_step (K1 HB GE101.out) hb)
       (try clear hb)
       (try clear hb2)
       (try clear hk)
       (try clear hi)
       refine hK.out _ _ ⟨z0 _ BK101.out, z1 _ BK101.out, ((HB.out.cell (World.block_lt_of_cell? w _ hw104_0)).trans hw104_0), ((HB.out.cell (World.block_lt_of_cell? w _ hw104_1)).trans hw104_1), ((HB.out.cell (World.block_lt_of_cell? w _ hw104_2)).trans hw104_2)⟩ (fun hHeld => ?_)
       clear hK K
       refine norm_ (a' := ?_) ?_ ?_
       rotate_left
       ·show Act.put _ (some 46) _ = _
        simp only [Act.put, List.setIfInBounds_toArray, List.set_cons_zero, List.set_cons_succ, i64_w, i32_w]
        rfl
       refine pv HT_ 12 47 (tf 13 3) ?_
       refine pv HT_ 13 48 (tf 14 2) ?_
       refine pv HT_ 14 6 (tf 15 1) ?_
       refine pv HT_ 15 7 (tf 16 0) ?_
       refine done_ (done_of HT_.out (by kernel_rfl)) ?_
       try go_wp2
       go_ret2
       exact ⟨ER, K1 HB GE101.out⟩
      ·rw [if_neg c17] at H
       exact absurd H (by simp)
     ·rw [if_neg c16] at H
      exact absurd H (by simp)
    ·rw [if_neg c15] at H
     have c15b0 : decide (x9_1 < (l0.length : Int)) = false := decide_eq_false c15
     clear c15
     simp only [Option.some.injEq, Prod.mk.injEq] at H
     obtain ⟨rfl, rfl⟩ := H
     try go_wp2
     replace BK101 := am (blk_drew BK101.out)
     replace HB := am (below_drew1 HB.out)
     refine start_ (n := 16) (S := fun w' => True) (ds := []) (tf 0 16) (by kernel_rfl) rfl rfl trivial (fun hHeld => ?_); refine with_tabW impl_Block_find_cl1.tab8 impl_Block_find_cl1.bits8 (fun HT_ HW_ => ?_)
     generalize wr.drew = w21 at BK101 HB hHeld ⊢
     refine pv HT_ 0 35 (tf 1 15) ?_
     refine pv HT_ 1 36 (tf 2 14) ?_
     refine pv HT_ 2 37 (tf 3 13) ?_
     refine pv HT_ 3 38 (tf 4 12) ?_
     refine pv HT_ 4 39 (tf 5 11) ?_
     refine pw HT_ 5 40 (tf 6 10) ?_
     refine pw HT_ 6 41 (tf 7 9) ?_
     refine pw HT_ 7 42 (tf 8 8) ?_
     refine pw HT_ 8 43 (tf 9 7) ?_
     refine pw HT_ 9 44 (tf 10 6) ?_
     refine pw HT_ 10 45 (tf 11 5) ?_
     refine pw HT_ 11 46 (tf 12 4) ?_
     refine pw HT_ 12 47 (tf 13 3) ?_
     refine pv HT_ 13 48 (tf 14 2) ?_
     refine pv HT_ 14 6 (tf 15 1) ?_
     refine pv HT_ 15 7 (tf 16 0) ?_
     refine done_ (done_of HT_.out (by kernel_rfl)) ?_
     try go_wp2
     go_ret2
     exact ⟨ER, K1 HB GE101.out⟩
def impl_find.f (k : Nat) (l0 : List (S86)) (a1_0 : Int) (a1_1 : Int) : Option (Int × Bool) := (impl_Block_find_cl1.f k l0 a1_0 a1_1).bind fun bt102 => (some (bt102.1, bt102.2))
set_option maxHeartbeats 8000000 in
set_option maxRecDepth 100000 in
theorem impl_find.calls (k : Nat) (A0 : Option Addr) (c0 : Nat) (l0 : List (S86)) (a1_0 : Int) (a1_1 : Int) (r1 : Int) (r2 : Bool) (w : World) (hr0 : Kd.C k86 w A0 l0.length l0) (hc0 : l0.length ≤ c0) (h : impl_find.f k l0 a1_0 a1_1 = some (r1, r2)) :
  Calls Try.prog 116 #[.slice A0 l0.length c0, .agg #[.int .i64 a1_0, .int .i64 a1_1]] w fun e w' => e = .returned (.tuple #[.int .i64 r1, .bool r2]) ∧ Below w.heap.size w w' := by
 have hu32 := Try.underlying32
 have HR0 := Aside0.mk hr0
 have HC0 := Aside0.mk hc0
 clear hr0 hc0
 have HB := am (Below.refl w.heap.size w)
 have H : ((impl_Block_find_cl1.f k l0 a1_0 a1_1).bind fun bt102 => (some (bt102.1, bt102.2))) = some (r1, r2) := h
 clear h
 replace H := Option.bind_eq_some_iff.mp H
 obtain ⟨⟨t102, t103⟩, A30, H⟩ := H
 replace H : (some (t102, t103)) = some (r1, r2) := H
 have A3 := Aside0.mk A30
 clear A30
 simp only [Option.some.injEq, Prod.mk.injEq] at H
 obtain ⟨rfl, rfl⟩ := H
 go_enter Try.func116, Try.ntmps116
 go_wp2_with (first | ((with_reducible refine gate_dst (N := 3) rfl ?_); refine box_event rfl (N := 3) rfl (cs := #[.int .i64 a1_0, .int .i64 a1_1]) (t := 32) BX ?_; intro gb101 hg w4 hbox hb; have BK101 := am (hbox); have GW101 := am (GH HB hg); have GE101 := GW101; replace HB := am (below_step (KL HB) hb); clear hb hbox hg; obtain ⟨hcz5_0, hcz5_1, hfz5_0⟩ := y2 w4 BK101.out) | ((with_reducible refine gate_callee (f := 142) rfl ?_); refine goesL_ (some 8) rfl rfl Try.func142 (by kernel_rfl) rfl #[.slice A0 l0.length c0, .agg #[.int .i64 a1_0, .int .i64 a1_1], .func (.func 143) #[] #[]] rfl MT ?_; (with_reducible refine (impl_Block_find_cl1.calls k _ _ l0 a1_0 a1_1  t102 t103 _ ?side1 ?side2 A3.out).mono ?_); (case side1 => exact KC (Kd.C_below HR0.out HB.out)); (case side2 => exact HC0.out); rintro e w6 ⟨rfl, hb⟩; refine ⟨_, rfl, ?_⟩; replace BK101 := am (BB BK101 hb); replace HB := am (below_step (K1 HB GE101.out) hb); (try clear hb); (try clear hb2); (try clear hk); (try clear hi)))
 go_ret2
 exact ⟨ER, K1 HB GE101.out⟩
end Go.Proofs.Ytioghacieopbdaa.PAll
end
