/- Contracts of the functions that the statement reaches, printed by a program out of the translation and joined with the plain laws. -/
import Derived.Test.YtkgbgaojglcaoaaCFnWaysDiffer3
import Derived.Test.YtkgbgaojglcaoaaCFnWaysDiffer4
import Derived.Test.YtkgbgaojglcaoaaCFnWaysDiffer6
section
namespace Go.Proofs.Ytkgbgaojglcaoaa.PAll
open Go.RowKit Go.Proofs.YtkgbgaojglcaoaaW.PrintWords Go.Proofs.YtkgbgaojglcaoaaW.PrintLast Go.Proofs.YtkgbgaojglcaoaaW.PrintMore
attribute [local go_sem] max2_int min2_int max_two min_two max_three min_three max_four min_four   -- for this text's walks alone
set_option linter.unusedVariables false
set_option linter.unusedSimpArgs false
def spec_l12AnyWays.f (k : Nat) (s0_0 : List Int) (s0_1 : Int) : Option ((List (S45)) × Int) := (spec_l12Ways.f k s0_0 s0_1).bind fun bt101 => (if (bt101.1.length : Int) = 0 then (some (bt101.1, bt101.2)) else ((spec_l1Rd_pick.f k s0_0 bt101.2 (bt101.1.length : Int)).bind fun bt105 => ((spec_l1Rd_pick.f k s0_0 bt105.2 20).bind fun bt107 => (if bt107.1 = 0 then ((spec_l1Rd_one.f k s0_0 bt107.2 (([(-1), 99, 100] : List Int))).bind fun bt112 => (if 0 ≤ bt105.1 then (if bt105.1 < (bt101.1.length : Int) then (some ((bt101.1.set (bt105.1 : Int).toNat (⟨(⟨(rd_T45 bt101.1 bt105.1).f0.f0, (rd_T45 bt101.1 bt105.1).f0.f1⟩ : S43), bt112.1⟩ : S45)), bt112.2)) else (none)) else (none))) else (if bt107.1 = 1 then ((spec_l12AnyBlock.f k s0_0 bt107.2).bind fun bt115 => (if 0 ≤ bt105.1 then (if bt105.1 < (bt101.1.length : Int) then (some ((bt101.1.set (bt105.1 : Int).toNat (⟨(⟨bt115.1, bt115.2.1⟩ : S43), (rd_T45 bt101.1 bt105.1).f1⟩ : S45)), bt115.2.2)) else (none)) else (none))) else (if bt107.1 = 2 then (if 0 < (bt101.1.length : Int) then (if bt101.1.length < 5864062014805 then (some ((bt101.1 ++ [(⟨(⟨(rd_T45 bt101.1 0).f0.f0, (rd_T45 bt101.1 0).f0.f1⟩ : S43), (rd_T45 bt101.1 0).f1⟩ : S45)]), bt107.2)) else (none)) else (none)) else (some (bt101.1, bt107.2))))))))
set_option maxHeartbeats 8000000 in
set_option maxRecDepth 100000 in
theorem spec_l12AnyWays.calls (k : Nat) (g : Nat) (s0_0 : List Int) (s0_1 : Int) (r1 : List (S45)) (r2 : Int) (w0 w : World) (hI : IsS140 w0 w g s0_0 s0_1) (hB : Below w0.heap.size w0 w) (h : spec_l12AnyWays.f k s0_0 s0_1 = some (r1, r2)) :
  Calls Try.prog 68 #[.pointer (some ⟨g, 0, none⟩)] w fun e w' => ∃ v0_ : Value, e = .returned (v0_) ∧ Kd.R k45 45 w' w.heap.size (fun _ => True) v0_ r1 ∧ IsS140 w0 w' g s0_0 r2 ∧ Below w0.heap.size w0 w' ∧ KeepBut w w' g none := by
 have hu43 := Try.underlying43
 have hu45 := Try.underlying45
 have HI0 := Aside0.mk hI
 have HK := am (KeepBut.refl w g none)
 have HL := Aside0.mk hB.size
 clear hI
 have HW0 := Aside0.mk hB.size
 have HB := Aside0.mk hB
 clear hB
 have H : ((spec_l12Ways.f k s0_0 s0_1).bind fun bt101 => (if (bt101.1.length : Int) = 0 then (some (bt101.1, bt101.2)) else ((spec_l1Rd_pick.f k s0_0 bt101.2 (bt101.1.length : Int)).bind fun bt105 => ((spec_l1Rd_pick.f k s0_0 bt105.2 20).bind fun bt107 => (if bt107.1 = 0 then ((spec_l1Rd_one.f k s0_0 bt107.2 (([(-1), 99, 100] : List Int))).bind fun bt112 => (if 0 ≤ bt105.1 then (if bt105.1 < (bt101.1.length : Int) then (some ((bt101.1.set (bt105.1 : Int).toNat (⟨(⟨(rd_T45 bt101.1 bt105.1).f0.f0, (rd_T45 bt101.1 bt105.1).f0.f1⟩ : S43), bt112.1⟩ : S45)), bt112.2)) else (none)) else (none))) else (if bt107.1 = 1 then ((spec_l12AnyBlock.f k s0_0 bt107.2).bind fun bt115 => (if 0 ≤ bt105.1 then (if bt105.1 < (bt101.1.length : Int) then (some ((bt101.1.set (bt105.1 : Int).toNat (⟨(⟨bt115.1, bt115.2.1⟩ : S43), (rd_T45 bt101.1 bt105.1).f1⟩ : S45)), bt115.2.2)) else (none)) else (none))) else (if bt107.1 = 2 then (if 0 < (bt101.1.length : Int) then (if bt101.1.length < 5864062014805 then (some ((bt101.1 ++ [(⟨(⟨(rd_T45 bt101.1 0).f0.f0, (rd_T45 bt101.1 0).f0.f1⟩ : S43), (rd_T45 bt101.1 0).f1⟩ : S45)]), bt107.2)) else (none)) else (none)) else (some (bt101.1, bt107.2))))))))) = some (r1, r2) := h
 clear h
 replace H := Option.bind_eq_some_iff.mp H
 obtain ⟨⟨t101, t104⟩, A20, H⟩ := H
 replace H : (if (t101.length : Int) = 0 then (some (t101, t104)) else ((spec_l1Rd_pick.f k s0_0 t104 (t101.length : Int)).bind fun bt105 => ((spec_l1Rd_pick.f k s0_0 bt105.2 20).bind fun bt107 => (if bt107.1 = 0 then ((spec_l1Rd_one.f k s0_0 bt107.2 (([(-1), 99, 100] : List Int))).bind fun bt112 => (if 0 ≤ bt105.1 then (if bt105.1 < (t101.length : Int) then (some ((t101.set (bt105.1 : Int).toNat (⟨(⟨(rd_T45 t101 bt105.1).f0.f0, (rd_T45 t101 bt105.1).f0.f1⟩ : S43), bt112.1⟩ : S45)), bt112.2)) else (none)) else (none))) else (if bt107.1 = 1 then ((spec_l12AnyBlock.f k s0_0 bt107.2).bind fun bt115 => (if 0 ≤ bt105.1 then (if bt105.1 < (t101.length : Int) then (some ((t101.set (bt105.1 : Int).toNat (⟨(⟨bt115.1, bt115.2.1⟩ : S43), (rd_T45 t101 bt105.1).f1⟩ : S45)), bt115.2.2)) else (none)) else (none))) else (if bt107.1 = 2 then (if 0 < (t101.length : Int) then (if t101.length < 5864062014805 then (some ((t101 ++ [(⟨(⟨(rd_T45 t101 0).f0.f0, (rd_T45 t101 0).f0.f1⟩ : S43), (rd_T45 t101 0).f1⟩ : S45)]), bt107.2)) else (none)) else (none)) else (some (t101, bt107.2)))))))) = some (r1, r2) := H
 have A2 := Aside0.mk A20
 clear A20
 by_cases c3 : (t101.length : Int) = 0
 ·rw [if_pos c3] at H
  have c3b0 : ((t101.length : Int) == 0) = true := beq_iff_eq.mpr c3
  have c3b1 : ((t101.length : Int) != 0) = false := bne_eq_false_iff_eq.mpr c3
  clear c3
  simp only [Option.some.injEq, Prod.mk.injEq] at H
  obtain ⟨rfl, rfl⟩ := H
  go_enter Try.func68, Try.ntmps68
  go_wp2_with (first | ((with_reducible refine gate_callee (f := 114) rfl ?_); refine goesL_ (some 6) rfl rfl Try.func114 (by kernel_rfl) rfl #[.pointer (some ⟨g, 0, none⟩)] rfl MT ?_; (with_reducible refine (spec_l12Ways.calls k g s0_0 s0_1 t101 t104 w0 _ ?side1 ?side2 A2.out).mono ?_); (case side1 => exact I140_0 HI0); (case side2 => exact K1 HB (IsS140.ge HI0.out)); rintro e w4 ⟨v102, rfl, ho0, hi, hb, hk⟩; refine ⟨_, rfl, ?_⟩; have HO103 := am (Kd.R_lower ho0 (keep_size (w := w) (g := g) (row := none) (J0 HK))); replace HK := am (KeepBut.trans (J0 HK) hk (.inl rfl)); replace HB := am (hb); replace HI0 := am (hi); (try clear hb); (try clear hk); (try clear hi); (try clear ho0); obtain ⟨Ao5, co5, eo5⟩ := Kd.R_slice HO103.out; subst eo5))
  go_ret
  exact ⟨_, ER, by (with_reducible repeat (first | apply Kd.R_alloc | apply Kd.R_drewN | apply Kd.R_drew)); exact HO103.out, I140_0 HI0, K1 HB (IsS140.ge HI0.out), J0 HK⟩
 ·rw [if_neg c3] at H
  have c3b0 : ((t101.length : Int) == 0) = false := beq_eq_false_iff_ne.mpr c3
  have c3b1 : ((t101.length : Int) != 0) = true := bne_iff_ne.mpr c3
  have c3b2 : ¬ (t101 = []) := fun h_ => c3 (by rw [h_]; rfl)
  replace H := Option.bind_eq_some_iff.mp H
  obtain ⟨⟨t105, t106⟩, A60, H⟩ := H
  replace H : ((spec_l1Rd_pick.f k s0_0 t106 20).bind fun bt107 => (if bt107.1 = 0 then ((spec_l1Rd_one.f k s0_0 bt107.2 (([(-1), 99, 100] : List Int))).bind fun bt112 => (if 0 ≤ t105 then (if t105 < (t101.length : Int) then (some ((t101.set (t105 : Int).toNat (⟨(⟨(rd_T45 t101 t105).f0.f0, (rd_T45 t101 t105).f0.f1⟩ : S43), bt112.1⟩ : S45)), bt112.2)) else (none)) else (none))) else (if bt107.1 = 1 then ((spec_l12AnyBlock.f k s0_0 bt107.2).bind fun bt115 => (if 0 ≤ t105 then (if t105 < (t101.length : Int) then (some ((t101.set (t105 : Int).toNat (⟨(⟨bt115.1, bt115.2.1⟩ : S43), (rd_T45 t101 t105).f1⟩ : S45)), bt115.2.2)) else (none)) else (none))) else (if bt107.1 = 2 then (if 0 < (t101.length : Int) then (if t101.length < 5864062014805 then (some ((t101 ++ [(⟨(⟨(rd_T45 t101 0).f0.f0, (rd_T45 t101 0).f0.f1⟩ : S43), (rd_T45 t101 0).f1⟩ : S45)]), bt107.2)) else (none)) else (none)) else (some (t101, bt107.2)))))) = some (r1, r2) := H
  have A6 := Aside0.mk A60
  clear A60
  replace H := Option.bind_eq_some_iff.mp H
  obtain ⟨⟨t107, t108⟩, A70, H⟩ := H
  replace H : (if t107 = 0 then ((spec_l1Rd_one.f k s0_0 t108 (([(-1), 99, 100] : List Int))).bind fun bt112 => (if 0 ≤ t105 then (if t105 < (t101.length : Int) then (some ((t101.set (t105 : Int).toNat (⟨(⟨(rd_T45 t101 t105).f0.f0, (rd_T45 t101 t105).f0.f1⟩ : S43), bt112.1⟩ : S45)), bt112.2)) else (none)) else (none))) else (if t107 = 1 then ((spec_l12AnyBlock.f k s0_0 t108).bind fun bt115 => (if 0 ≤ t105 then (if t105 < (t101.length : Int) then (some ((t101.set (t105 : Int).toNat (⟨(⟨bt115.1, bt115.2.1⟩ : S43), (rd_T45 t101 t105).f1⟩ : S45)), bt115.2.2)) else (none)) else (none))) else (if t107 = 2 then (if 0 < (t101.length : Int) then (if t101.length < 5864062014805 then (some ((t101 ++ [(⟨(⟨(rd_T45 t101 0).f0.f0, (rd_T45 t101 0).f0.f1⟩ : S43), (rd_T45 t101 0).f1⟩ : S45)]), t108)) else (none)) else (none)) else (some (t101, t108))))) = some (r1, r2) := H
  have A7 := Aside0.mk A70
  clear A70
  by_cases c8 : t107 = 0
  ·rw [if_pos c8] at H
   have c8b0 : (t107 == 0) = true := beq_iff_eq.mpr c8
   have c8b1 : (t107 != 0) = false := bne_eq_false_iff_eq.mpr c8
   clear c8
   obtain ⟨y109, hy109⟩ : ∃ y_ : List Int, y_ = (([(-1), 99, 100] : List Int)) := ⟨_, rfl⟩
   replace H : ((spec_l1Rd_one.f k s0_0 t108 y109).bind fun bt112 => (if 0 ≤ t105 then (if t105 < (t101.length : Int) then (some ((t101.set (t105 : Int).toNat (⟨(⟨(rd_T45 t101 t105).f0.f0, (rd_T45 t101 t105).f0.f1⟩ : S43), bt112.1⟩ : S45)), bt112.2)) else (none)) else (none))) = some (r1, r2) := by first | (rw [hy109]; with_reducible exact H) | (have H2_ := (Option.bind_some _ _).symm.trans H; rw [hy109]; with_reducible exact H2_) | (have H2_ := (Option.bind_some _ _).symm.trans H; with_reducible exact H2_) | with_reducible exact H | (rw [hy109]; exact H) | exact H
   have Ny109 := Aside0.mk hy109
   clear hy109
   replace H := Option.bind_eq_some_iff.mp H
   obtain ⟨⟨t112, t113⟩, A90, H⟩ := H
   replace H : (if 0 ≤ t105 then (if t105 < (t101.length : Int) then (some ((t101.set (t105 : Int).toNat (⟨(⟨(rd_T45 t101 t105).f0.f0, (rd_T45 t101 t105).f0.f1⟩ : S43), t112⟩ : S45)), t113)) else (none)) else (none)) = some (r1, r2) := H
   have A9 := Aside0.mk A90
   clear A90
   by_cases c10 : 0 ≤ t105
   ·rw [if_pos c10] at H
    have c10b0 : decide (0 ≤ t105) = true := decide_eq_true c10
    clear c10
    by_cases c11 : t105 < (t101.length : Int)
    ·rw [if_pos c11] at H
     have c11b0 : decide (t105 < (t101.length : Int)) = true := decide_eq_true c11
     clear c11
     obtain ⟨y114, hy114⟩ : ∃ y_ : List (S45), y_ = (t101.set (t105 : Int).toNat (⟨(⟨(rd_T45 t101 t105).f0.f0, (rd_T45 t101 t105).f0.f1⟩ : S43), t112⟩ : S45)) := ⟨_, rfl⟩
     replace H : (some (y114, t113)) = some (r1, r2) := by first | (rw [hy114]; with_reducible exact H) | (have H2_ := (Option.bind_some _ _).symm.trans H; rw [hy114]; with_reducible exact H2_) | (have H2_ := (Option.bind_some _ _).symm.trans H; with_reducible exact H2_) | with_reducible exact H | (rw [hy114]; exact H) | exact H
     have Ny114 := Aside0.mk hy114
     clear hy114
     simp only [Option.some.injEq, Prod.mk.injEq] at H
     obtain ⟨rfl, rfl⟩ := H
     go_enter Try.func68, Try.ntmps68
     go_wp2_with (first | ((with_reducible refine gate_callee (f := 114) rfl ?_); refine goesL_ (some 6) rfl rfl Try.func114 (by kernel_rfl) rfl #[.pointer (some ⟨g, 0, none⟩)] rfl MT ?_; (with_reducible refine (spec_l12Ways.calls k g s0_0 s0_1 t101 t104 w0 _ ?side1 ?side2 A2.out).mono ?_); (case side1 => exact I140_0 HI0); (case side2 => exact K1 HB (IsS140.ge HI0.out)); rintro e w13 ⟨v102, rfl, ho0, hi, hb, hk⟩; refine ⟨_, rfl, ?_⟩; have HO103 := am (Kd.R_lower ho0 (keep_size (w := w) (g := g) (row := none) (J0 HK))); replace HK := am (KeepBut.trans (J0 HK) hk (.inl rfl)); replace HB := am (hb); replace HI0 := am (hi); (try clear hb); (try clear hk); (try clear hi); (try clear ho0); obtain ⟨Ao14, co14, eo14⟩ := Kd.R_slice HO103.out; subst eo14) | ((with_reducible refine gate_callee (f := 69) rfl ?_); refine goesL_ (some 14) rfl rfl Try.func69 (by kernel_rfl) rfl #[.pointer (some ⟨g, 0, none⟩), .int .i64 (t101.length : Int)] rfl MT ?_; (with_reducible refine (spec_l1Rd_pick.calls k g s0_0 t104 (t101.length : Int) t105 t106 w0 _ ?side1 ?side2 A6.out).mono ?_); (case side1 => exact I140_0 HI0); (case side2 => exact K1 HB (IsS140.ge HI0.out)); rintro e w15 ⟨rfl, hi, hb, hk⟩; refine ⟨_, rfl, ?_⟩; replace HO103 := am (Kd.R_mono (Kd.R_keep (IsS140.apart (show IsS140 w0 _ g s0_0 t104 from I140_0 HI0) (KR HO103) (by decide)) hk (fun _ h => h.2)) (fun _ h => h.1)); replace HK := am (KeepBut.trans (J0 HK) hk (.inl rfl)); replace HB := am (hb); replace HI0 := am (hi); (try clear hb); (try clear hk); (try clear hi)) | ((with_reducible refine gate_callee (f := 69) rfl ?_); refine goesL_ (some 16) rfl rfl Try.func69 (by kernel_rfl) rfl #[.pointer (some ⟨g, 0, none⟩), .int .i64 20] rfl MT ?_; (with_reducible refine (spec_l1Rd_pick.calls k g s0_0 t106 20 t107 t108 w0 _ ?side1 ?side2 A7.out).mono ?_); (case side1 => exact I140_0 HI0); (case side2 => exact K1 HB (IsS140.ge HI0.out)); rintro e w16 ⟨rfl, hi, hb, hk⟩; refine ⟨_, rfl, ?_⟩; replace HO103 := am (Kd.R_mono (Kd.R_keep (IsS140.apart (show IsS140 w0 _ g s0_0 t106 from I140_0 HI0) (KR HO103) (by decide)) hk (fun _ h => h.2)) (fun _ h => h.1)); replace HK := am (KeepBut.trans (J0 HK) hk (.inl rfl)); replace HB := am (hb); replace HI0 := am (hi); (try clear hb); (try clear hk); (try clear hi)) | ((with_reducible refine gate_dst (N := 22) rfl ?_); refine Kd.R_lit (Kd.int .i64) _ 3 ?hg (N := 22) ?hd (xs := ([(-1), 99, 100] : List Int)) (inner := [.int .i64 (-1), .int .i64 99, .int .i64 100]) (ok := fun _ => True) (okp := fun _ => True) ?hr ?hp (fun _ hk => hk) trivial (Below.refl _ _) (Nat.le_refl _) (by simp) ?_; (case hd => rfl); (case hg => rfl); (case hr => first | (go_simp; done) | (go_simp; rfl)); (case hp => exact (Reps.one (show Kd.M (Kd.int .i64) _ _ _ (-1) [.int .i64 (-1)] from rfl) (Reps.one (show Kd.M (Kd.int .i64) _ _ _ 99 [.int .i64 99] from rfl) (Reps.one (show Kd.M (Kd.int .i64) _ _ _ 100 [.int .i64 100] from rfl) (Reps.none _ _))))); intro v110 w17 ho18 hb hg_ hnew_; clear hg_ hnew_; (first | rw [← Ny109.out] at ho18 | (simp only [Int.reduceToNat] at ho18; rw [← Ny109.out] at ho18)); replace HO103 := am (Kd.R_below (KR HO103) hb); have HO111 := am (Kd.R_lower ho18 (keep_size (w := w) (g := g) (row := none) (J0 HK))); replace HK := am (KeepBut.trans (J0 HK) (KeepBut.of_below hb g none) (.inl rfl)); replace HB := am (below_step (K1 HB (IsS140.ge HI0.out)) hb); replace HI0 := am (IsS140.below (I140_0 HI0) hb); clear hb ho18; obtain ⟨Ao19, co19, eo19⟩ := Kd.R_slice HO111.out; subst eo19) | ((with_reducible refine gate_callee (f := 115) rfl ?_); refine goesL_ (some 23) rfl rfl Try.func115 (by kernel_rfl) rfl #[.pointer (some ⟨g, 0, none⟩), .slice Ao19 y109.length co19] rfl MT ?_; (with_reducible refine (spec_l1Rd_one.calls k g s0_0 t108 _ _ y109 t112 t113 w0 _ ?side1 ?side2 ?side3 ?side4 ?side5 A9.out).mono ?_); (case side1 => exact I140_0 HI0); (case side2 => exact K1 HB (IsS140.ge HI0.out)); (case side3 => exact KC (Kd.R_reads' HO111.out).2.2); (case side4 => exact (Kd.R_reads' HO111.out).2.1); (case side5 => exact far_slice (IsS140.own_ne HI0.out HO111.out (by decide))); rintro e w20 ⟨rfl, hi, hb, hk⟩; refine ⟨_, rfl, ?_⟩; replace HO103 := am (Kd.R_mono (Kd.R_keep (IsS140.apart (show IsS140 w0 _ g s0_0 t108 from I140_0 HI0) (KR HO103) (by decide)) hk (fun _ h => h.2)) (fun _ h => h.1)); replace HO111 := am (Kd.R_mono (Kd.R_keep (IsS140.apart (show IsS140 w0 _ g s0_0 t108 from I140_0 HI0) (KR HO111) (by decide)) hk (fun _ h => h.2)) (fun _ h => h.1)); replace HK := am (KeepBut.trans (J0 HK) hk (.inl rfl)); replace HB := am (hb); replace HI0 := am (hi); (try clear hb); (try clear hk); (try clear hi); have p12 : 0 ≤ (t105 : Int) := OD; have q12 : (t105 : Int) < ((t101.length : Int) : Int) := OD; obtain ⟨go12, co12, eo12, gb12, gl12, cl12, HG12⟩ := Kd.R_form HO103.out (by omega); (first | cases eo12 | (injection eo12 with ea_ en_ ec_; (first | subst ea_ | (injection ea_ with ea_; subst ea_)); subst ec_; clear en_)); have GB12 := Aside0.mk gb12; have GG12 := Aside0.mk HG12; clear gb12 gl12 HG12; obtain ⟨ce12, hcl12, hM12, hcc12, hfr12⟩ := Kd.R_elem HO103.out z45 (t105 : Int) p12 q12; obtain rfl := k45_openM hM12; have hx12_0 : w20.cell? ⟨go12, (t105 : Int).toNat * 3, none⟩ = some (.int .i64 ((rd_T45 t101 t105).f0.f0)) := hcc12 0 _ rfl; have hx12_1 : w20.cell? ⟨go12, (t105 : Int).toNat * 3 + 1, none⟩ = some (.int .i64 ((rd_T45 t101 t105).f0.f1)) := hcc12 1 _ rfl; have hx12_2 : w20.cell? ⟨go12, (t105 : Int).toNat * 3 + 2, none⟩ = some (.int .i64 ((rd_T45 t101 t105).f1)) := hcc12 2 _ rfl; have hf12_0 : w20.frozen? ⟨go12, (t105 : Int).toNat * 3, none⟩ = false := hfr12 0; have hf12_1 : w20.frozen? ⟨go12, (t105 : Int).toNat * 3 + 1, none⟩ = false := hfr12 1; have hf12_2 : w20.frozen? ⟨go12, (t105 : Int).toNat * 3 + 2, none⟩ = false := hfr12 2; clear hcl12 hcc12 hfr12 hM12; replace p12 := eq_true p12; replace q12 := eq_true q12; have HX21 := am (show Kd.R k45 45 w20 w.heap.size (fun _ => True) (.slice (some ⟨go12, 0, none⟩) t101.length co14) t101 from (KR HO103)); obtain ⟨ce21, hcl21, hM21, hcc21, hfr21⟩ := Kd.R_elem HX21.out z45 (t105 : Int) (OD) (by have h_ : (t105 : Int) < ((t101.length : Int) : Int) := OD; first | exact h_ | (have e_ := (Kd.R_reads' HO103.out).1; omega) | simpa using h_); obtain rfl := k45_openM hM21; have HP21 := Kd.R_seg HX21.out (t105 : Int) (OD) (by have h_ : (t105 : Int) < ((t101.length : Int) : Int) := OD; first | exact h_ | (have e_ := (Kd.R_reads' HO103.out).1; omega) | simpa using h_) (seg := [.int .i64 t112]) (j := 2) hcl21 hcc21 (show 3 ≤ 3 from by decide) (x' := (⟨(⟨(rd_T45 t101 t105).f0.f0, (rd_T45 t101 t105).f0.f1⟩ : S43), t112⟩ : S45)) (k45_mkM _ _ _ (⟨(⟨(rd_T45 t101 t105).f0.f0, (rd_T45 t101 t105).f0.f1⟩ : S43), t112⟩ : S45) ) (fun _ hk => hk); have hx21_2 := hcc21 2 _ rfl; (try simp only [show (k45).sz = 3 from rfl, Nat.mul_one, Nat.add_zero] at hx21_2); have hf21_2 := hfr21 2; (try simp only [show (k45).sz = 3 from rfl, Nat.mul_one, Nat.add_zero] at hf21_2); clear hcl21 hcc21 hfr21 hM21) | ((with_reducible refine gate_store (t := 3) (p := 25) rfl ?_); refine store_event (t := 3) (p := 25) (v := ?vo_w22) (w1 := (w20.setCell ⟨go12, (t105 : Int).toNat * 3 + 2, none⟩ (.int .i64 t112))) ?hg ?ho ?hn ?hr ?_; (case ho => rfl); (case hg => rfl); (case hn => rfl); (case hr => first | (go_simp; done) | (go_simp; rfl)); intro w22 hw; have hg : w20.grownBy w22 (some go12) := (by rw [hw]; exact HP21.2); have hp_ : Kd.R k45 45 w22 w.heap.size (fun _ => True) (.slice (some ⟨go12, 0, none⟩) t101.length co14) y114 := (by rw [hw, Ny114.out]; exact HP21.1); clear HP21; replace HI0 := am (IsS140.grown (I140_0 HI0) hg (IsS140.own_ne HI0.out HO103.out (by decide))); replace HO111 := am (Kd.R_over' (v := (.slice (some ⟨go12, 0, none⟩) t101.length co14)) (KR HO111) (Kd.R_typed HO103.out) (by decide) hg); replace HB := am ((by rw [hw]; exact below_set (HB.out) (Nat.le_trans HL.out GB12.out) : Below w0.heap.size w0 w22)); replace HK := am (KeepBut.trans (J0 HK) (KeepBut.of_grown hg g) (Kd.R_base2 HO103.out)); replace HO103 := am (hp_); clear hg hw hp_))
     go_ret
     exact ⟨_, ER, by (with_reducible repeat (first | apply Kd.R_alloc | apply Kd.R_drewN | apply Kd.R_drew)); exact HO103.out, I140_0 HI0, K1 HB (IsS140.ge HI0.out), J0 HK⟩
    ·rw [if_neg c11] at H
     exact absurd H (by simp)
   ·rw [if_neg c10] at H
    exact absurd H (by simp)
  ·rw [if_neg c8] at H
   have c8b0 : (t107 == 0) = false := beq_eq_false_iff_ne.mpr c8
   have c8b1 : (t107 != 0) = true := bne_iff_ne.mpr c8
   by_cases c23 : t107 = 1
   ·rw [if_pos c23] at H
    have c23b0 : (t107 == 1) = true := beq_iff_eq.mpr c23
    have c23b1 : (t107 != 1) = false := bne_eq_false_iff_eq.mpr c23
    clear c23
    replace H := Option.bind_eq_some_iff.mp H
    obtain ⟨⟨t115, t116, t117⟩, A240, H⟩ := H
    replace H : (if 0 ≤ t105 then (if t105 < (t101.length : Int) then (some ((t101.set (t105 : Int).toNat (⟨(⟨t115, t116⟩ : S43), (rd_T45 t101 t105).f1⟩ : S45)), t117)) else (none)) else (none)) = some (r1, r2) := H
    have A24 := Aside0.mk A240
    clear A240
    by_cases c25 : 0 ≤ t105
    ·rw [if_pos c25] at H
     have c25b0 : decide (0 ≤ t105) = true := decide_eq_true c25
     clear c25
     by_cases c26 : t105 < (t101.length : Int)
     ·rw [if_pos c26] at H
      have c26b0 : decide (t105 < (t101.length : Int)) = true := decide_eq_true c26
      clear c26
      obtain ⟨y118, hy118⟩ : ∃ y_ : List (S45), y_ = (t101.set (t105 : Int).toNat (⟨(⟨t115, t116⟩ : S43), (rd_T45 t101 t105).f1⟩ : S45)) := ⟨_, rfl⟩
      replace H : (some (y118, t117)) = some (r1, r2) := by first | (rw [hy118]; with_reducible exact H) | (have H2_ := (Option.bind_some _ _).symm.trans H; rw [hy118]; with_reducible exact H2_) | (have H2_ := (Option.bind_some _ _).symm.trans H; with_reducible exact H2_) | with_reducible exact H | (rw [hy118]; exact H) | exact H
      have Ny118 := Aside0.mk hy118
      clear hy118
      simp only [Option.some.injEq, Prod.mk.injEq] at H
      obtain ⟨rfl, rfl⟩ := H
      go_enter Try.func68, Try.ntmps68
      go_wp2_with (first | ((with_reducible refine gate_callee (f := 114) rfl ?_); refine goesL_ (some 6) rfl rfl Try.func114 (by kernel_rfl) rfl #[.pointer (some ⟨g, 0, none⟩)] rfl MT ?_; (with_reducible refine (spec_l12Ways.calls k g s0_0 s0_1 t101 t104 w0 _ ?side1 ?side2 A2.out).mono ?_); (case side1 => exact I140_0 HI0); (case side2 => exact K1 HB (IsS140.ge HI0.out)); rintro e w28 ⟨v102, rfl, ho0, hi, hb, hk⟩; refine ⟨_, rfl, ?_⟩; have HO103 := am (Kd.R_lower ho0 (keep_size (w := w) (g := g) (row := none) (J0 HK))); replace HK := am (KeepBut.trans (J0 HK) hk (.inl rfl)); replace HB := am (hb); replace HI0 := am (hi); (try clear hb); (try clear hk); (try clear hi); (try clear ho0); obtain ⟨Ao29, co29, eo29⟩ := Kd.R_slice HO103.out; subst eo29) | ((with_reducible refine gate_callee (f := 69) rfl ?_); refine goesL_ (some 14) rfl rfl Try.func69 (by kernel_rfl) rfl #[.pointer (some ⟨g, 0, none⟩), .int .i64 (t101.length : Int)] rfl MT ?_; (with_reducible refine (spec_l1Rd_pick.calls k g s0_0 t104 (t101.length : Int) t105 t106 w0 _ ?side1 ?side2 A6.out).mono ?_); (case side1 => exact I140_0 HI0); (case side2 => exact K1 HB (IsS140.ge HI0.out)); rintro e w30 ⟨rfl, hi, hb, hk⟩; refine ⟨_, rfl, ?_⟩; replace HO103 := am (Kd.R_mono (Kd.R_keep (IsS140.apart (show IsS140 w0 _ g s0_0 t104 from I140_0 HI0) (KR HO103) (by decide)) hk (fun _ h => h.2)) (fun _ h => h.1)); replace HK := am (KeepBut.trans (J0 HK) hk (.inl rfl)); replace HB := am (hb); replace HI0 := am (hi); (try clear hb); (try clear hk); (try clear hi)) | ((with_reducible refine gate_callee (f := 69) rfl ?_); refine goesL_ (some 16) rfl rfl Try.func69 (by kernel_rfl) rfl #[.pointer (some ⟨g, 0, none⟩), .int .i64 20] rfl MT ?_; (with_reducible refine (spec_l1Rd_pick.calls k g s0_0 t106 20 t107 t108 w0 _ ?side1 ?side2 A7.out).mono ?_); (case side1 => exact I140_0 HI0); (case side2 => exact K1 HB (IsS140.ge HI0.out)); rintro e w31 ⟨rfl, hi, hb, hk⟩; refine ⟨_, rfl, ?_⟩; replace HO103 := am (Kd.R_mono (Kd.R_keep (IsS140.apart (show IsS140 w0 _ g s0_0 t106 from I140_0 HI0) (KR HO103) (by decide)) hk (fun _ h => h.2)) (fun _ h => h.1)); replace HK := am (KeepBut.trans (J0 HK) hk (.inl rfl)); replace HB := am (hb); replace HI0 := am (hi); (try clear hb); (try clear hk); (try clear hi)) | ((with_reducible refine gate_callee (f := 116) rfl ?_); refine goesL_ (some 31) rfl rfl Try.func116 (by kernel_rfl) rfl #[.pointer (some ⟨g, 0, none⟩)] rfl MT ?_; (with_reducible refine (spec_l12AnyBlock.calls k g s0_0 t108 t115 t116 t117 w0 _ ?side1 ?side2 A24.out).mono ?_); (case side1 => exact I140_0 HI0); (case side2 => exact K1 HB (IsS140.ge HI0.out)); rintro e w32 ⟨rfl, hi, hb, hk⟩; refine ⟨_, rfl, ?_⟩; replace HO103 := am (Kd.R_mono (Kd.R_keep (IsS140.apart (show IsS140 w0 _ g s0_0 t108 from I140_0 HI0) (KR HO103) (by decide)) hk (fun _ h => h.2)) (fun _ h => h.1)); replace HK := am (KeepBut.trans (J0 HK) hk (.inl rfl)); replace HB := am (hb); replace HI0 := am (hi); (try clear hb); (try clear hk); (try clear hi); have p27 : 0 ≤ (t105 : Int) := OD; have q27 : (t105 : Int) < ((t101.length : Int) : Int) := OD; obtain ⟨go27, co27, eo27, gb27, gl27, cl27, HG27⟩ := Kd.R_form HO103.out (by omega); (first | cases eo27 | (injection eo27 with ea_ en_ ec_; (first | subst ea_ | (injection ea_ with ea_; subst ea_)); subst ec_; clear en_)); have GB27 := Aside0.mk gb27; have GG27 := Aside0.mk HG27; clear gb27 gl27 HG27; obtain ⟨ce27, hcl27, hM27, hcc27, hfr27⟩ := Kd.R_elem HO103.out z45 (t105 : Int) p27 q27; obtain rfl := k45_openM hM27; have hx27_0 : w32.cell? ⟨go27, (t105 : Int).toNat * 3, none⟩ = some (.int .i64 ((rd_T45 t101 t105).f0.f0)) := hcc27 0 _ rfl; have hx27_1 : w32.cell? ⟨go27, (t105 : Int).toNat * 3 + 1, none⟩ = some (.int .i64 ((rd_T45 t101 t105).f0.f1)) := hcc27 1 _ rfl; have hx27_2 : w32.cell? ⟨go27, (t105 : Int).toNat * 3 + 2, none⟩ = some (.int .i64 ((rd_T45 t101 t105).f1)) := hcc27 2 _ rfl; have hf27_0 : w32.frozen? ⟨go27, (t105 : Int).toNat * 3, none⟩ = false := hfr27 0; have hf27_1 : w32.frozen? ⟨go27, (t105 : Int).toNat * 3 + 1, none⟩ = false := hfr27 1; have hf27_2 : w32.frozen? ⟨go27, (t105 : Int).toNat * 3 + 2, none⟩ = false := hfr27 2; clear hcl27 hcc27 hfr27 hM27; replace p27 := eq_true p27; replace q27 := eq_true q27; have HX33 := am (show Kd.R k45 45 w32 w.heap.size (fun _ => True) (.slice (some ⟨go27, 0, none⟩) t101.length co29) t101 from (KR HO103)); obtain ⟨ce33, hcl33, hM33, hcc33, hfr33⟩ := Kd.R_elem HX33.out z45 (t105 : Int) (OD) (by have h_ : (t105 : Int) < ((t101.length : Int) : Int) := OD; first | exact h_ | (have e_ := (Kd.R_reads' HO103.out).1; omega) | simpa using h_); obtain rfl := k45_openM hM33; have HP33 := Kd.R_seg HX33.out (t105 : Int) (OD) (by have h_ : (t105 : Int) < ((t101.length : Int) : Int) := OD; first | exact h_ | (have e_ := (Kd.R_reads' HO103.out).1; omega) | simpa using h_) (seg := [.int .i64 t115, .int .i64 t116]) (j := 0) hcl33 hcc33 (show 2 ≤ 3 from by decide) (x' := (⟨(⟨t115, t116⟩ : S43), (rd_T45 t101 t105).f1⟩ : S45)) (k45_mkM _ _ _ (⟨(⟨t115, t116⟩ : S43), (rd_T45 t101 t105).f1⟩ : S45) ) (fun _ hk => hk); have hx33_0 := hcc33 0 _ rfl; (try simp only [show (k45).sz = 3 from rfl, Nat.mul_one, Nat.add_zero] at hx33_0); have hf33_0 := hfr33 0; (try simp only [show (k45).sz = 3 from rfl, Nat.mul_one, Nat.add_zero] at hf33_0); have hx33_1 := hcc33 1 _ rfl; (try simp only [show (k45).sz = 3 from rfl, Nat.mul_one, Nat.add_zero] at hx33_1); have hf33_1 := hfr33 1; (try simp only [show (k45).sz = 3 from rfl, Nat.mul_one, Nat.add_zero] at hf33_1); clear hcl33 hcc33 hfr33 hM33) | ((with_reducible refine gate_store (t := 43) (p := 33) rfl ?_); refine store_event (t := 43) (p := 33) (v := ?vo_w34) (w1 := ((w32.setCell ⟨go27, (t105 : Int).toNat * 3, none⟩ (.int .i64 t115)).setCell ⟨go27, (t105 : Int).toNat * 3 + 1, none⟩ (.int .i64 t116))) ?hg ?ho ?hn ?hr ?_; (case ho => rfl); (case hg => rfl); (case hn => rfl); (case hr => first | (go_simp; done) | (go_simp; rfl)); intro w34 hw; have hg : w32.grownBy w34 (some go27) := (by rw [hw]; exact HP33.2); have hp_ : Kd.R k45 45 w34 w.heap.size (fun _ => True) (.slice (some ⟨go27, 0, none⟩) t101.length co29) y118 := (by rw [hw, Ny118.out]; exact HP33.1); clear HP33; replace HI0 := am (IsS140.grown (I140_0 HI0) hg (IsS140.own_ne HI0.out HO103.out (by decide))); replace HB := am ((by rw [hw]; exact below_set (below_set (HB.out) (Nat.le_trans HL.out GB27.out)) (Nat.le_trans HL.out GB27.out) : Below w0.heap.size w0 w34)); replace HK := am (KeepBut.trans (J0 HK) (KeepBut.of_grown hg g) (Kd.R_base2 HO103.out)); replace HO103 := am (hp_); clear hg hw hp_))
      go_ret
      exact ⟨_, ER, by (with_reducible repeat (first | apply Kd.R_alloc | apply Kd.R_drewN | apply Kd.R_drew)); exact HO103.out, I140_0 HI0, K1 HB (IsS140.ge HI0.out), J0 HK⟩
     ·rw [if_neg c26] at H
      exact absurd H (by simp)
    ·rw [if_neg c25] at H
     exact absurd H (by simp)
   ·rw [if_neg c23] at H
    have c23b0 : (t107 == 1) = false := beq_eq_false_iff_ne.mpr c23
    have c23b1 : (t107 != 1) = true := bne_iff_ne.mpr c23
    by_cases c35 : t107 = 2
    ·rw [if_pos c35] at H
     have c35b0 : (t107 == 2) = true := beq_iff_eq.mpr c35
     have c35b1 : (t107 != 2) = false := bne_eq_false_iff_eq.mpr c35
     clear c35
     by_cases c36 : 0 < (t101.length : Int)
     ·rw [if_pos c36] at H
      have c36b0 : decide (0 < (t101.length : Int)) = true := decide_eq_true c36
      have c36b1 : decide (0 < t101.length) = true := decide_eq_true (by omega)
      clear c36
      by_cases c37 : t101.length < 5864062014805
      ·rw [if_pos c37] at H
       have LMc37 := Aside0.mk c37
       clear c37
       obtain ⟨y120, hy120⟩ : ∃ y_ : List (S45), y_ = (t101 ++ [(⟨(⟨(rd_T45 t101 0).f0.f0, (rd_T45 t101 0).f0.f1⟩ : S43), (rd_T45 t101 0).f1⟩ : S45)]) := ⟨_, rfl⟩
       replace H : (some (y120, t108)) = some (r1, r2) := by first | (rw [hy120]; with_reducible exact H) | (have H2_ := (Option.bind_some _ _).symm.trans H; rw [hy120]; with_reducible exact H2_) | (have H2_ := (Option.bind_some _ _).symm.trans H; with_reducible exact H2_) | with_reducible exact H | (rw [hy120]; exact H) | exact H
       have Ny120 := Aside0.mk hy120
       clear hy120
       simp only [Option.some.injEq, Prod.mk.injEq] at H
       obtain ⟨rfl, rfl⟩ := H
       go_enter Try.func68, Try.ntmps68
       go_wp2_with (first | ((with_reducible refine gate_callee (f := 114) rfl ?_); refine goesL_ (some 6) rfl rfl Try.func114 (by kernel_rfl) rfl #[.pointer (some ⟨g, 0, none⟩)] rfl MT ?_; (with_reducible refine (spec_l12Ways.calls k g s0_0 s0_1 t101 t104 w0 _ ?side1 ?side2 A2.out).mono ?_); (case side1 => exact I140_0 HI0); (case side2 => exact K1 HB (IsS140.ge HI0.out)); rintro e w38 ⟨v102, rfl, ho0, hi, hb, hk⟩; refine ⟨_, rfl, ?_⟩; have HO103 := am (Kd.R_lower ho0 (keep_size (w := w) (g := g) (row := none) (J0 HK))); replace HK := am (KeepBut.trans (J0 HK) hk (.inl rfl)); replace HB := am (hb); replace HI0 := am (hi); (try clear hb); (try clear hk); (try clear hi); (try clear ho0); obtain ⟨Ao39, co39, eo39⟩ := Kd.R_slice HO103.out; subst eo39) | ((with_reducible refine gate_callee (f := 69) rfl ?_); refine goesL_ (some 14) rfl rfl Try.func69 (by kernel_rfl) rfl #[.pointer (some ⟨g, 0, none⟩), .int .i64 (t101.length : Int)] rfl MT ?_; (with_reducible refine (spec_l1Rd_pick.calls k g s0_0 t104 (t101.length : Int) t105 t106 w0 _ ?side1 ?side2 A6.out).mono ?_); (case side1 => exact I140_0 HI0); (case side2 => exact K1 HB (IsS140.ge HI0.out)); rintro e w40 ⟨rfl, hi, hb, hk⟩; refine ⟨_, rfl, ?_⟩; replace HO103 := am (Kd.R_mono (Kd.R_keep (IsS140.apart (show IsS140 w0 _ g s0_0 t104 from I140_0 HI0) (KR HO103) (by decide)) hk (fun _ h => h.2)) (fun _ h => h.1)); replace HK := am (KeepBut.trans (J0 HK) hk (.inl rfl)); replace HB := am (hb); replace HI0 := am (hi); (try clear hb); (try clear hk); (try clear hi)) | ((with_reducible refine gate_callee (f := 69) rfl ?_); refine goesL_ (some 16) rfl rfl Try.func69 (by kernel_rfl) rfl #[.pointer (some ⟨g, 0, none⟩), .int .i64 20] rfl MT ?_; (with_reducible refine (spec_l1Rd_pick.calls k g s0_0 t106 20 t107 t108 w0 _ ?side1 ?side2 A7.out).mono ?_); (case side1 => exact I140_0 HI0); (case side2 => exact K1 HB (IsS140.ge HI0.out)); rintro e w41 ⟨rfl, hi, hb, hk⟩; refine ⟨_, rfl, ?_⟩; replace HO103 := am (Kd.R_mono (Kd.R_keep (IsS140.apart (show IsS140 w0 _ g s0_0 t106 from I140_0 HI0) (KR HO103) (by decide)) hk (fun _ h => h.2)) (fun _ h => h.1)); replace HK := am (KeepBut.trans (J0 HK) hk (.inl rfl)); replace HB := am (hb); replace HI0 := am (hi); (try clear hb); (try clear hk); (try clear hi); have p119 : 0 ≤ (0 : Int) := (by omega); have q119 : 0 < (t101.length : Int) := OD; obtain ⟨ad119, e119, hx119_0, hx119_1, hx119_2⟩ := at_T45 (Kd.R_reads' HO103.out).2.2 0 p119 q119; cases e119; have qi119 : (0 < t101.length) = True := eq_true (by omega); (try rw [show ((0 : Int)).toNat = 0 from rfl] at hx119_0); (try rw [show 0 * 3 = 0 from rfl] at hx119_0); (try rw [Addr.add_zero'] at hx119_0); (try rw [show ((0 : Int)).toNat = 0 from rfl] at hx119_1); (try rw [show 0 * 3 = 0 from rfl] at hx119_1); (try rw [Addr.add_zero'] at hx119_1); (try rw [show ((0 : Int)).toNat = 0 from rfl] at hx119_2); (try rw [show 0 * 3 = 0 from rfl] at hx119_2); (try rw [Addr.add_zero'] at hx119_2); replace p119 := eq_true p119; replace q119 := eq_true q119) | ((with_reducible refine gate_builtin (b := .append) (xs := #[.tmp 36, .tmp 40]) rfl ?_); at_builtin; refine Kd.R_append k45 w.heap.size rfl (.tmp 36) (.tmp 40) 26 45 (.agg #[(.int .i64 0), (.int .i64 0), (.int .i64 0)]) 24 rfl Try.underlying26 info45 rfl (by decide) (by omega) (.slice (some ad119) t101.length co39) t101 (⟨(⟨(rd_T45 t101 0).f0.f0, (rd_T45 t101 0).f0.f1⟩ : S43), (rd_T45 t101 0).f1⟩ : S45) [.int .i64 ((rd_T45 t101 0).f0.f0), .int .i64 ((rd_T45 t101 0).f0.f1), .int .i64 ((rd_T45 t101 0).f1)] (fun _ => True) (fun _ => False) rfl rfl ?aP (fun _ hk => hk.elim) ?aF ?aO (Below.refl _ _) ?aS ?aL ?_; (case aP => exact k45_mkM _ _ _ (⟨(⟨(rd_T45 t101 0).f0.f0, (rd_T45 t101 0).f0.f1⟩ : S43), (rd_T45 t101 0).f1⟩ : S45)); (case aF => exact (fun _ _ => trivial)); (case aO => exact (KR HO103)); (case aS => exact (keep_size (w := w) (g := g) (row := none) (J0 HK))); (case aL => have := LMc37.out; omega); intro v121 w42 ho hb hg hat; rw [← Ny120.out] at ho; replace HB := am (below_weaken (K1 HB (IsS140.ge HI0.out)) HL.out hb); replace HI0 := am (IsS140.grown (I140_0 HI0) hg (IsS140.own_ne HI0.out HO103.out (by decide))); replace HK := am (KeepBut.trans (J0 HK) (KeepBut.of_grown hg g) (Kd.R_base2 HO103.out)); have HO122 := am (ho); clear HO103; clear ho hb hg hat))
       go_ret
       exact ⟨_, ER, by (with_reducible repeat (first | apply Kd.R_alloc | apply Kd.R_drewN | apply Kd.R_drew)); exact HO122.out, I140_0 HI0, K1 HB (IsS140.ge HI0.out), J0 HK⟩
      ·rw [if_neg c37] at H
       exact absurd H (by simp)
     ·rw [if_neg c36] at H
      exact absurd H (by simp)
    ·rw [if_neg c35] at H
     have c35b0 : (t107 == 2) = false := beq_eq_false_iff_ne.mpr c35
     have c35b1 : (t107 != 2) = true := bne_iff_ne.mpr c35
     simp only [Option.some.injEq, Prod.mk.injEq] at H
     obtain ⟨rfl, rfl⟩ := H
     go_enter Try.func68, Try.ntmps68
     go_wp2_with (first | ((with_reducible refine gate_callee (f := 114) rfl ?_); refine goesL_ (some 6) rfl rfl Try.func114 (by kernel_rfl) rfl #[.pointer (some ⟨g, 0, none⟩)] rfl MT ?_; (with_reducible refine (spec_l12Ways.calls k g s0_0 s0_1 t101 t104 w0 _ ?side1 ?side2 A2.out).mono ?_); (case side1 => exact I140_0 HI0); (case side2 => exact K1 HB (IsS140.ge HI0.out)); rintro e w43 ⟨v102, rfl, ho0, hi, hb, hk⟩; refine ⟨_, rfl, ?_⟩; have HO103 := am (Kd.R_lower ho0 (keep_size (w := w) (g := g) (row := none) (J0 HK))); replace HK := am (KeepBut.trans (J0 HK) hk (.inl rfl)); replace HB := am (hb); replace HI0 := am (hi); (try clear hb); (try clear hk); (try clear hi); (try clear ho0); obtain ⟨Ao44, co44, eo44⟩ := Kd.R_slice HO103.out; subst eo44) | ((with_reducible refine gate_callee (f := 69) rfl ?_); refine goesL_ (some 14) rfl rfl Try.func69 (by kernel_rfl) rfl #[.pointer (some ⟨g, 0, none⟩), .int .i64 (t101.length : Int)] rfl MT ?_; (with_reducible refine (spec_l1Rd_pick.calls k g s0_0 t104 (t101.length : Int) t105 t106 w0 _ ?side1 ?side2 A6.out).mono ?_); (case side1 => exact I140_0 HI0); (case side2 => exact K1 HB (IsS140.ge HI0.out)); rintro e w45 ⟨rfl, hi, hb, hk⟩; refine ⟨_, rfl, ?_⟩; replace HO103 := am (Kd.R_mono (Kd.R_keep (IsS140.apart (show IsS140 w0 _ g s0_0 t104 from I140_0 HI0) (KR HO103) (by decide)) hk (fun _ h => h.2)) (fun _ h => h.1)); replace HK := am (KeepBut.trans (J0 HK) hk (.inl rfl)); replace HB := am (hb); replace HI0 := am (hi); (try clear hb); (try clear hk); (try clear hi)) | ((with_reducible refine gate_callee (f := 69) rfl ?_); refine goesL_ (some 16) rfl rfl Try.func69 (by kernel_rfl) rfl #[.pointer (some ⟨g, 0, none⟩), .int .i64 20] rfl MT ?_; (with_reducible refine (spec_l1Rd_pick.calls k g s0_0 t106 20 t107 t108 w0 _ ?side1 ?side2 A7.out).mono ?_); (case side1 => exact I140_0 HI0); (case side2 => exact K1 HB (IsS140.ge HI0.out)); rintro e w46 ⟨rfl, hi, hb, hk⟩; refine ⟨_, rfl, ?_⟩; replace HO103 := am (Kd.R_mono (Kd.R_keep (IsS140.apart (show IsS140 w0 _ g s0_0 t106 from I140_0 HI0) (KR HO103) (by decide)) hk (fun _ h => h.2)) (fun _ h => h.1)); replace HK := am (KeepBut.trans (J0 HK) hk (.inl rfl)); replace HB := am (hb); replace HI0 := am (hi); (try clear hb); (try clear hk); (try clear hi)))
     go_ret
     exact ⟨_, ER, by (with_reducible repeat (first | apply Kd.R_alloc | apply Kd.R_drewN | apply Kd.R_drew)); exact HO103.out, I140_0 HI0, K1 HB (IsS140.ge HI0.out), J0 HK⟩
def spec_DrawWaysDiffer.f (k : Nat) (l0 : List Int) : Option ((List (S45)) × (List (S45))) := (spec_l1Open.f l0).bind fun bt101 => ((spec_l12AnyWays.f k bt101.1 bt101.2).bind fun bt104 => ((spec_l1Rd_pick.f k bt101.1 bt104.2 3).bind fun bt108 => (if bt108.1 = 0 then ((spec_WaysLess.f k bt104.1).bind fun t110 => (some (bt104.1, t110))) else ((spec_l12AnyWays.f k bt101.1 bt108.2).bind fun bt113 => (some (bt104.1, bt113.1))))))
set_option maxHeartbeats 8000000 in
set_option maxRecDepth 100000 in
theorem spec_DrawWaysDiffer.calls (k : Nat) (A0 : Option Addr) (c0 : Nat) (l0 : List Int) (r1 : List (S45)) (r2 : List (S45)) (w : World) (hr0 : Kd.C (Kd.int .u8) w A0 l0.length l0) (hc0 : l0.length ≤ c0) (h : spec_DrawWaysDiffer.f k l0 = some (r1, r2)) :
  Calls Try.prog 19 #[.slice A0 l0.length c0] w fun e w' => ∃ v0_ v1_ : Value, e = .returned (.tuple #[v0_, v1_]) ∧ Kd.R k45 45 w' w.heap.size (fun k_ => some k_ ≠ (v1_ : Value).ownBlock) v0_ r1 ∧ Kd.R k45 45 w' w.heap.size (fun k_ => some k_ ≠ (v0_ : Value).ownBlock) v1_ r2 ∧ Below w.heap.size w w' := by
 have HR0 := Aside0.mk hr0
 have HC0 := Aside0.mk hc0
 clear hr0 hc0
 have HB := am (Below.refl w.heap.size w)
 have H : ((spec_l1Open.f l0).bind fun bt101 => ((spec_l12AnyWays.f k bt101.1 bt101.2).bind fun bt104 => ((spec_l1Rd_pick.f k bt101.1 bt104.2 3).bind fun bt108 => (if bt108.1 = 0 then ((spec_WaysLess.f k bt104.1).bind fun t110 => (some (bt104.1, t110))) else ((spec_l12AnyWays.f k bt101.1 bt108.2).bind fun bt113 => (some (bt104.1, bt113.1))))))) = some (r1, r2) := h
 clear h
 replace H := Option.bind_eq_some_iff.mp H
 obtain ⟨⟨t101, t102⟩, A20, H⟩ := H
 replace H : ((spec_l12AnyWays.f k t101 t102).bind fun bt104 => ((spec_l1Rd_pick.f k t101 bt104.2 3).bind fun bt108 => (if bt108.1 = 0 then ((spec_WaysLess.f k bt104.1).bind fun t110 => (some (bt104.1, t110))) else ((spec_l12AnyWays.f k t101 bt108.2).bind fun bt113 => (some (bt104.1, bt113.1)))))) = some (r1, r2) := H
 have A2 := Aside0.mk A20
 clear A20
 replace H := Option.bind_eq_some_iff.mp H
 obtain ⟨⟨t104, t107⟩, A30, H⟩ := H
 replace H : ((spec_l1Rd_pick.f k t101 t107 3).bind fun bt108 => (if bt108.1 = 0 then ((spec_WaysLess.f k t104).bind fun t110 => (some (t104, t110))) else ((spec_l12AnyWays.f k t101 bt108.2).bind fun bt113 => (some (t104, bt113.1))))) = some (r1, r2) := H
 have A3 := Aside0.mk A30
 clear A30
 replace H := Option.bind_eq_some_iff.mp H
 obtain ⟨⟨t108, t109⟩, A40, H⟩ := H
 replace H : (if t108 = 0 then ((spec_WaysLess.f k t104).bind fun t110 => (some (t104, t110))) else ((spec_l12AnyWays.f k t101 t109).bind fun bt113 => (some (t104, bt113.1)))) = some (r1, r2) := H
 have A4 := Aside0.mk A40
 clear A40
 by_cases c5 : t108 = 0
 ·rw [if_pos c5] at H
  have c5b0 : (t108 == 0) = true := beq_iff_eq.mpr c5
  have c5b1 : (t108 != 0) = false := bne_eq_false_iff_eq.mpr c5
  clear c5
  replace H := Option.bind_eq_some_iff.mp H
  obtain ⟨t110, A60, H⟩ := H
  replace H : (some (t104, t110)) = some (r1, r2) := H
  have A6 := Aside0.mk A60
  clear A60
  simp only [Option.some.injEq, Prod.mk.injEq] at H
  obtain ⟨rfl, rfl⟩ := H
  go_enter Try.func19, Try.ntmps19
  go_wp2_with (first | ((with_reducible refine gate_callee (f := 67) rfl ?_); refine goesL_ (some 7) rfl rfl Try.func67 (by kernel_rfl) rfl #[.slice A0 l0.length c0] rfl MT ?_; (with_reducible refine (spec_l1Open.calls _ _ l0 t101 t102 w _ ?side1 ?side2 ?side3 A2.out).mono ?_); (case side1 => exact KL HB); (case side2 => exact HR0.out); (case side3 => exact HC0.out); rintro e w7 ⟨g103, rfl, hi, hb, hb2⟩; refine ⟨_, rfl, ?_⟩; replace HB := am (hb); have HI103 := am (hi); (try clear hb); (try clear hb2); (try clear hi)) | ((with_reducible refine gate_callee (f := 68) rfl ?_); refine goesL_ (some 9) rfl rfl Try.func68 (by kernel_rfl) rfl #[.pointer (some ⟨g103, 0, none⟩)] rfl MT ?_; (with_reducible refine (spec_l12AnyWays.calls k g103 t101 t102 t104 t107 w _ ?side1 ?side2 A3.out).mono ?_); (case side1 => exact I140_0 HI103); (case side2 => exact K1 HB (IsS140.ge HI103.out)); rintro e w8 ⟨v105, rfl, ho0, hi, hb, hk⟩; refine ⟨_, rfl, ?_⟩; have HO106 := am (Kd.R_lower ho0 (below_size (K1 HB (IsS140.ge HI103.out)))); replace HB := am (hb); replace HI103 := am (hi); (try clear hb); (try clear hk); (try clear hi); (try clear ho0)) | ((with_reducible refine gate_callee (f := 69) rfl ?_); refine goesL_ (some 11) rfl rfl Try.func69 (by kernel_rfl) rfl #[.pointer (some ⟨g103, 0, none⟩), .int .i64 3] rfl MT ?_; (with_reducible refine (spec_l1Rd_pick.calls k g103 t101 t107 3 t108 t109 w _ ?side1 ?side2 A4.out).mono ?_); (case side1 => exact I140_0 HI103); (case side2 => exact K1 HB (IsS140.ge HI103.out)); rintro e w9 ⟨rfl, hi, hb, hk⟩; refine ⟨_, rfl, ?_⟩; replace HO106 := am (Kd.R_mono (Kd.R_keep (IsS140.apart (show IsS140 w _ g103 t101 t107 from I140_0 HI103) (KR HO106) (by decide)) hk (fun _ h => h.2)) (fun _ h => h.1)); replace HB := am (hb); replace HI103 := am (hi); (try clear hb); (try clear hk); (try clear hi); obtain ⟨Ao10, co10, eo10⟩ := Kd.R_slice HO106.out; subst eo10) | ((with_reducible refine gate_callee (f := 26) rfl ?_); refine goesL_ (some 15) rfl rfl Try.func26 (by kernel_rfl) rfl #[.slice Ao10 t104.length co10] rfl MT ?_; (with_reducible refine (spec_WaysLess.calls k _ _ t104 t110 _ ?side1 ?side2 A6.out).mono ?_); (case side1 => exact KC (Kd.R_reads' HO106.out).2.2); (case side2 => exact (Kd.R_reads' HO106.out).2.1); rintro e w11 ⟨v111, rfl, ho0, hb⟩; refine ⟨_, rfl, ?_⟩; have HO112 := am (Kd.R_lower (Kd.R_new' ho0 (Kd.R_lt (KR HO106))) (below_size (K1 HB (IsS140.ge HI103.out)))); replace HO106 := am (Kd.R_elder' (KR HO106) (Kd.R_base ho0) hb); replace HB := am (below_step (K1 HB (IsS140.ge HI103.out)) hb); replace HI103 := am (IsS140.below (I140_0 HI103) hb); (try clear hb); (try clear ho0)))
  go_ret2
  exact ⟨_, _, ER, by (with_reducible repeat (first | apply Kd.R_alloc | apply Kd.R_drewN | apply Kd.R_drew)); exact Kd.R_mono HO106.out (fun _ hk => hk.2), by (with_reducible repeat (first | apply Kd.R_alloc | apply Kd.R_drewN | apply Kd.R_drew)); exact Kd.R_mono HO112.out (fun _ hk => hk.2), K1 HB (IsS140.ge HI103.out)⟩
 ·rw [if_neg c5] at H
  have c5b0 : (t108 == 0) = false := beq_eq_false_iff_ne.mpr c5
  have c5b1 : (t108 != 0) = true := bne_iff_ne.mpr c5
  replace H := Option.bind_eq_some_iff.mp H
  obtain ⟨⟨t113, t116⟩, A120, H⟩ := H
  replace H : (some (t104, t113)) = some (r1, r2) := H
  have A12 := Aside0.mk A120
  clear A120
  simp only [Option.some.injEq, Prod.mk.injEq] at H
  obtain ⟨rfl, rfl⟩ := H
  go_enter Try.func19, Try.ntmps19
  go_wp2_with (first | ((with_reducible refine gate_callee (f := 67) rfl ?_); refine goesL_ (some 7) rfl rfl Try.func67 (by kernel_rfl) rfl #[.slice A0 l0.length c0] rfl MT ?_; (with_reducible refine (spec_l1Open.calls _ _ l0 t101 t102 w _ ?side1 ?side2 ?side3 A2.out).mono ?_); (case side1 => exact KL HB); (case side2 => exact HR0.out); (case side3 => exact HC0.out); rintro e w13 ⟨g103, rfl, hi, hb, hb2⟩; refine ⟨_, rfl, ?_⟩; replace HB := am (hb); have HI103 := am (hi); (try clear hb); (try clear hb2); (try clear hi)) | ((with_reducible refine gate_callee (f := 68) rfl ?_); refine goesL_ (some 9) rfl rfl Try.func68 (by kernel_rfl) rfl #[.pointer (some ⟨g103, 0, none⟩)] rfl MT ?_; (with_reducible refine (spec_l12AnyWays.calls k g103 t101 t102 t104 t107 w _ ?side1 ?side2 A3.out).mono ?_); (case side1 => exact I140_0 HI103); (case side2 => exact K1 HB (IsS140.ge HI103.out)); rintro e w14 ⟨v105, rfl, ho0, hi, hb, hk⟩; refine ⟨_, rfl, ?_⟩; have HO106 := am (Kd.R_lower ho0 (below_size (K1 HB (IsS140.ge HI103.out)))); replace HB := am (hb); replace HI103 := am (hi); (try clear hb); (try clear hk); (try clear hi); (try clear ho0)) | ((with_reducible refine gate_callee (f := 69) rfl ?_); refine goesL_ (some 11) rfl rfl Try.func69 (by kernel_rfl) rfl #[.pointer (some ⟨g103, 0, none⟩), .int .i64 3] rfl MT ?_; (with_reducible refine (spec_l1Rd_pick.calls k g103 t101 t107 3 t108 t109 w _ ?side1 ?side2 A4.out).mono ?_); (case side1 => exact I140_0 HI103); (case side2 => exact K1 HB (IsS140.ge HI103.out)); rintro e w15 ⟨rfl, hi, hb, hk⟩; refine ⟨_, rfl, ?_⟩; replace HO106 := am (Kd.R_mono (Kd.R_keep (IsS140.apart (show IsS140 w _ g103 t101 t107 from I140_0 HI103) (KR HO106) (by decide)) hk (fun _ h => h.2)) (fun _ h => h.1)); replace HB := am (hb); replace HI103 := am (hi); (try clear hb); (try clear hk); (try clear hi)) | ((with_reducible refine gate_callee (f := 68) rfl ?_); refine goesL_ (some 18) rfl rfl Try.func68 (by kernel_rfl) rfl #[.pointer (some ⟨g103, 0, none⟩)] rfl MT ?_; (with_reducible refine (spec_l12AnyWays.calls k g103 t101 t109 t113 t116 w _ ?side1 ?side2 A12.out).mono ?_); (case side1 => exact I140_0 HI103); (case side2 => exact K1 HB (IsS140.ge HI103.out)); rintro e w16 ⟨v114, rfl, ho0, hi, hb, hk⟩; refine ⟨_, rfl, ?_⟩; have HO115 := am (Kd.R_lower (Kd.R_new' ho0 (Kd.R_lt (KR HO106))) (below_size (K1 HB (IsS140.ge HI103.out)))); replace HO106 := am (Kd.R_mono (Kd.R_told (Kd.R_oldK (IsS140.apart (show IsS140 w _ g103 t101 t109 from I140_0 HI103) (KR HO106) (by decide)) hk) (Kd.R_base ho0)) (fun _ h_ => h_.1)); replace HB := am (hb); replace HI103 := am (hi); (try clear hb); (try clear hk); (try clear hi); (try clear ho0)))
  go_ret2
  exact ⟨_, _, ER, by (with_reducible repeat (first | apply Kd.R_alloc | apply Kd.R_drewN | apply Kd.R_drew)); exact Kd.R_mono HO106.out (fun _ hk => hk.2), by (with_reducible repeat (first | apply Kd.R_alloc | apply Kd.R_drewN | apply Kd.R_drew)); exact Kd.R_mono HO115.out (fun _ hk => hk.2), K1 HB (IsS140.ge HI103.out)⟩
def spec_l12AnyAddr.f (k : Nat) (s0_0 : List Int) (s0_1 : Int) : Option (Int × Int) := (spec_l1Rd_pick.f k s0_0 s0_1 16).bind fun bt101 => (if bt101.1 = 0 then ((spec_l1Rd_one.f k s0_0 bt101.2 (([(-1), 4294967296, 1099511627776] : List Int))).bind fun bt106 => (some (bt106.1, bt106.2))) else ((spec_l12Addr.f k s0_0 bt101.2).bind fun bt108 => (some (bt108.1, bt108.2))))
set_option maxHeartbeats 8000000 in
set_option maxRecDepth 100000 in
theorem spec_l12AnyAddr.calls (k : Nat) (g : Nat) (s0_0 : List Int) (s0_1 : Int) (r1 : Int) (r2 : Int) (w0 w : World) (hI : IsS140 w0 w g s0_0 s0_1) (hB : Below w0.heap.size w0 w) (h : spec_l12AnyAddr.f k s0_0 s0_1 = some (r1, r2)) :
  Calls Try.prog 73 #[.pointer (some ⟨g, 0, none⟩)] w fun e w' => e = .returned (.int .i64 r1) ∧ IsS140 w0 w' g s0_0 r2 ∧ Below w0.heap.size w0 w' ∧ KeepBut w w' g none := by
 have HI0 := Aside0.mk hI
 have HK := am (KeepBut.refl w g none)
 have HL := Aside0.mk hB.size
 clear hI
 have HW0 := Aside0.mk hB.size
 have HB := Aside0.mk hB
 clear hB
 have H : ((spec_l1Rd_pick.f k s0_0 s0_1 16).bind fun bt101 => (if bt101.1 = 0 then ((spec_l1Rd_one.f k s0_0 bt101.2 (([(-1), 4294967296, 1099511627776] : List Int))).bind fun bt106 => (some (bt106.1, bt106.2))) else ((spec_l12Addr.f k s0_0 bt101.2).bind fun bt108 => (some (bt108.1, bt108.2))))) = some (r1, r2) := h
 clear h
 replace H := Option.bind_eq_some_iff.mp H
 obtain ⟨⟨t101, t102⟩, A20, H⟩ := H
 replace H : (if t101 = 0 then ((spec_l1Rd_one.f k s0_0 t102 (([(-1), 4294967296, 1099511627776] : List Int))).bind fun bt106 => (some (bt106.1, bt106.2))) else ((spec_l12Addr.f k s0_0 t102).bind fun bt108 => (some (bt108.1, bt108.2)))) = some (r1, r2) := H
 have A2 := Aside0.mk A20
 clear A20
 by_cases c3 : t101 = 0
 ·rw [if_pos c3] at H
  have c3b0 : (t101 == 0) = true := beq_iff_eq.mpr c3
  have c3b1 : (t101 != 0) = false := bne_eq_false_iff_eq.mpr c3
  clear c3
  obtain ⟨y103, hy103⟩ : ∃ y_ : List Int, y_ = (([(-1), 4294967296, 1099511627776] : List Int)) := ⟨_, rfl⟩
  replace H : ((spec_l1Rd_one.f k s0_0 t102 y103).bind fun bt106 => (some (bt106.1, bt106.2))) = some (r1, r2) := by first | (rw [hy103]; with_reducible exact H) | (have H2_ := (Option.bind_some _ _).symm.trans H; rw [hy103]; with_reducible exact H2_) | (have H2_ := (Option.bind_some _ _).symm.trans H; with_reducible exact H2_) | with_reducible exact H | (rw [hy103]; exact H) | exact H
  have Ny103 := Aside0.mk hy103
  clear hy103
  replace H := Option.bind_eq_some_iff.mp H
  obtain ⟨⟨t106, t107⟩, A40, H⟩ := H
  replace H : (some (t106, t107)) = some (r1, r2) := H
  have A4 := Aside0.mk A40
  clear A40
  simp only [Option.some.injEq, Prod.mk.injEq] at H
  obtain ⟨rfl, rfl⟩ := H
  go_enter Try.func73, Try.ntmps73
  go_wp2_with (first | ((with_reducible refine gate_callee (f := 69) rfl ?_); refine goesL_ (some 4) rfl rfl Try.func69 (by kernel_rfl) rfl #[.pointer (some ⟨g, 0, none⟩), .int .i64 16] rfl MT ?_; (with_reducible refine (spec_l1Rd_pick.calls k g s0_0 s0_1 16 t101 t102 w0 _ ?side1 ?side2 A2.out).mono ?_); (case side1 => exact I140_0 HI0); (case side2 => exact K1 HB (IsS140.ge HI0.out)); rintro e w5 ⟨rfl, hi, hb, hk⟩; refine ⟨_, rfl, ?_⟩; replace HK := am (KeepBut.trans (J0 HK) hk (.inl rfl)); replace HB := am (hb); replace HI0 := am (hi); (try clear hb); (try clear hk); (try clear hi)) | ((with_reducible refine gate_dst (N := 7) rfl ?_); refine Kd.R_lit (Kd.int .i64) _ 3 ?hg (N := 7) ?hd (xs := ([(-1), 4294967296, 1099511627776] : List Int)) (inner := [.int .i64 (-1), .int .i64 4294967296, .int .i64 1099511627776]) (ok := fun _ => True) (okp := fun _ => True) ?hr ?hp (fun _ hk => hk) trivial (Below.refl _ _) (Nat.le_refl _) (by simp) ?_; (case hd => rfl); (case hg => rfl); (case hr => first | (go_simp; done) | (go_simp; rfl)); (case hp => exact (Reps.one (show Kd.M (Kd.int .i64) _ _ _ (-1) [.int .i64 (-1)] from rfl) (Reps.one (show Kd.M (Kd.int .i64) _ _ _ 4294967296 [.int .i64 4294967296] from rfl) (Reps.one (show Kd.M (Kd.int .i64) _ _ _ 1099511627776 [.int .i64 1099511627776] from rfl) (Reps.none _ _))))); intro v104 w6 ho7 hb hg_ hnew_; clear hg_ hnew_; (first | rw [← Ny103.out] at ho7 | (simp only [Int.reduceToNat] at ho7; rw [← Ny103.out] at ho7)); have HO105 := am (Kd.R_lower ho7 (keep_size (w := w) (g := g) (row := none) (J0 HK))); replace HK := am (KeepBut.trans (J0 HK) (KeepBut.of_below hb g none) (.inl rfl)); replace HB := am (below_step (K1 HB (IsS140.ge HI0.out)) hb); replace HI0 := am (IsS140.below (I140_0 HI0) hb); clear hb ho7; obtain ⟨Ao8, co8, eo8⟩ := Kd.R_slice HO105.out; subst eo8) | ((with_reducible refine gate_callee (f := 115) rfl ?_); refine goesL_ (some 8) rfl rfl Try.func115 (by kernel_rfl) rfl #[.pointer (some ⟨g, 0, none⟩), .slice Ao8 y103.length co8] rfl MT ?_; (with_reducible refine (spec_l1Rd_one.calls k g s0_0 t102 _ _ y103 t106 t107 w0 _ ?side1 ?side2 ?side3 ?side4 ?side5 A4.out).mono ?_); (case side1 => exact I140_0 HI0); (case side2 => exact K1 HB (IsS140.ge HI0.out)); (case side3 => exact KC (Kd.R_reads' HO105.out).2.2); (case side4 => exact (Kd.R_reads' HO105.out).2.1); (case side5 => exact far_slice (IsS140.own_ne HI0.out HO105.out (by decide))); rintro e w9 ⟨rfl, hi, hb, hk⟩; refine ⟨_, rfl, ?_⟩; replace HO105 := am (Kd.R_mono (Kd.R_keep (IsS140.apart (show IsS140 w0 _ g s0_0 t102 from I140_0 HI0) (KR HO105) (by decide)) hk (fun _ h => h.2)) (fun _ h => h.1)); replace HK := am (KeepBut.trans (J0 HK) hk (.inl rfl)); replace HB := am (hb); replace HI0 := am (hi); (try clear hb); (try clear hk); (try clear hi)))
  go_ret
  exact ⟨ER, I140_0 HI0, K1 HB (IsS140.ge HI0.out), J0 HK⟩
 ·rw [if_neg c3] at H
  have c3b0 : (t101 == 0) = false := beq_eq_false_iff_ne.mpr c3
  have c3b1 : (t101 != 0) = true := bne_iff_ne.mpr c3
  replace H := Option.bind_eq_some_iff.mp H
  obtain ⟨⟨t108, t109⟩, A100, H⟩ := H
  replace H : (some (t108, t109)) = some (r1, r2) := H
  have A10 := Aside0.mk A100
  clear A100
  simp only [Option.some.injEq, Prod.mk.injEq] at H
  obtain ⟨rfl, rfl⟩ := H
  go_enter Try.func73, Try.ntmps73
  go_wp2_with (first | ((with_reducible refine gate_callee (f := 69) rfl ?_); refine goesL_ (some 4) rfl rfl Try.func69 (by kernel_rfl) rfl #[.pointer (some ⟨g, 0, none⟩), .int .i64 16] rfl MT ?_; (with_reducible refine (spec_l1Rd_pick.calls k g s0_0 s0_1 16 t101 t102 w0 _ ?side1 ?side2 A2.out).mono ?_); (case side1 => exact I140_0 HI0); (case side2 => exact K1 HB (IsS140.ge HI0.out)); rintro e w11 ⟨rfl, hi, hb, hk⟩; refine ⟨_, rfl, ?_⟩; replace HK := am (KeepBut.trans (J0 HK) hk (.inl rfl)); replace HB := am (hb); replace HI0 := am (hi); (try clear hb); (try clear hk); (try clear hi)) | ((with_reducible refine gate_callee (f := 119) rfl ?_); refine goesL_ (some 10) rfl rfl Try.func119 (by kernel_rfl) rfl #[.pointer (some ⟨g, 0, none⟩)] rfl MT ?_; (with_reducible refine (spec_l12Addr.calls k g s0_0 t102 t108 t109 w0 _ ?side1 ?side2 A10.out).mono ?_); (case side1 => exact I140_0 HI0); (case side2 => exact K1 HB (IsS140.ge HI0.out)); rintro e w12 ⟨rfl, hi, hb, hk⟩; refine ⟨_, rfl, ?_⟩; replace HK := am (KeepBut.trans (J0 HK) hk (.inl rfl)); replace HB := am (hb); replace HI0 := am (hi); (try clear hb); (try clear hk); (try clear hi)))
  go_ret
  exact ⟨ER, I140_0 HI0, K1 HB (IsS140.ge HI0.out), J0 HK⟩
def spec_DrawWaysLead.j0 : Nat → List (S45) → Bool → List Int → Int → Option ((List (S45)) × Int)
 | 0, _, _, _, _ => none
 | k + 1, x5, x17, x104000, x104001 => if x17 = true then ((spec_l1Rd_pick.f k x104000 x104001 (x5.length : Int)).bind fun bt110 => (if 0 ≤ bt110.1 then (if bt110.1 < (x5.length : Int) then (some (x5, (rd_T45 x5 bt110.1).f0.f0)) else (none)) else (none))) else ((spec_l12AnyAddr.f k x104000 x104001).bind fun bt113 => (some (x5, bt113.1)))
def spec_DrawWaysLead.f (k : Nat) (l0 : List Int) : Option ((List (S45)) × Int) := (spec_l1Open.f l0).bind fun bt101 => ((spec_l12AnyWays.f k bt101.1 bt101.2).bind fun bt104 => (if (bt104.1.length : Int) > 0 then ((spec_l1Rd_pick.f k bt101.1 bt104.2 2).bind fun bt108 => (spec_DrawWaysLead.j0 k bt104.1 (bt108.1 == 0) bt101.1 bt108.2)) else (spec_DrawWaysLead.j0 k bt104.1 false bt101.1 bt104.2)))
def spec_DrawWaysLead.T4 : Bool × List (List Nat × List Nat) := (true, [([], []), ([], []), ([], []), ([], []), ([3], [3]), ([2, 4], [2, 4]), ([1, 5], [1, 5]), ([6], [6]), ([7], [7]), ([8], [8]), ([0, 5, 0], [0]), ([9, 10, 0, 1, 2, 3, 4, 5, 6, 7, 8, 9, 10], [9])])
def spec_DrawWaysLead.B4 : List Nat := [0, 0, 0, 0, 8, 28, 62, 126, 254, 510, 61, 2047]
theorem spec_DrawWaysLead.tab4 : rtab .any (opsOf Try.f21 4) = spec_DrawWaysLead.T4 := by kernel_rfl
theorem spec_DrawWaysLead.bits4 : waitsOk spec_DrawWaysLead.T4.2 spec_DrawWaysLead.B4 = true := by kernel_rfl
set_option maxHeartbeats 8000000 in
set_option maxRecDepth 100000 in
theorem spec_DrawWaysLead.calls (k : Nat) (A0 : Option Addr) (c0 : Nat) (l0 : List Int) (r1 : List (S45)) (r2 : Int) (w : World) (hr0 : Kd.C (Kd.int .u8) w A0 l0.length l0) (hc0 : l0.length ≤ c0) (h : spec_DrawWaysLead.f k l0 = some (r1, r2)) :
  Calls Try.prog 21 #[.slice A0 l0.length c0] w fun e w' => ∃ v0_ : Value, e = .returned (.tuple #[v0_, .int .i64 r2]) ∧ Kd.R k45 45 w' w.heap.size (fun _ => True) v0_ r1 ∧ Below w.heap.size w w' := by
 have HR0 := Aside0.mk hr0
 have HC0 := Aside0.mk hc0
 clear hr0 hc0
 have HB := am (Below.refl w.heap.size w)
 have H : ((spec_l1Open.f l0).bind fun bt101 => ((spec_l12AnyWays.f k bt101.1 bt101.2).bind fun bt104 => (if (bt104.1.length : Int) > 0 then ((spec_l1Rd_pick.f k bt101.1 bt104.2 2).bind fun bt108 => (spec_DrawWaysLead.j0 k bt104.1 (bt108.1 == 0) bt101.1 bt108.2)) else (spec_DrawWaysLead.j0 k bt104.1 false bt101.1 bt104.2)))) = some (r1, r2) := h
 clear h
 replace H := Option.bind_eq_some_iff.mp H
 obtain ⟨⟨t101, t102⟩, A20, H⟩ := H
 replace H : ((spec_l12AnyWays.f k t101 t102).bind fun bt104 => (if (bt104.1.length : Int) > 0 then ((spec_l1Rd_pick.f k t101 bt104.2 2).bind fun bt108 => (spec_DrawWaysLead.j0 k bt104.1 (bt108.1 == 0) t101 bt108.2)) else (spec_DrawWaysLead.j0 k bt104.1 false t101 bt104.2))) = some (r1, r2) := H
 have A2 := Aside0.mk A20
 clear A20
 replace H := Option.bind_eq_some_iff.mp H
 obtain ⟨⟨t104, t107⟩, A30, H⟩ := H
 replace H : (if (t104.length : Int) > 0 then ((spec_l1Rd_pick.f k t101 t107 2).bind fun bt108 => (spec_DrawWaysLead.j0 k t104 (bt108.1 == 0) t101 bt108.2)) else (spec_DrawWaysLead.j0 k t104 false t101 t107)) = some (r1, r2) := H
 have A3 := Aside0.mk A30
 clear A30
 have HC4 := Aside0.mk H
 clear H
 go_enter Try.func21, Try.ntmps21
 go_upto_region 3 with (first | ((with_reducible refine gate_callee (f := 67) rfl ?_); refine goesL_ (some 7) rfl rfl Try.func67 (by kernel_rfl) rfl #[.slice A0 l0.length c0] rfl MT ?_; (with_reducible refine (spec_l1Open.calls _ _ l0 t101 t102 w _ ?side1 ?side2 ?side3 A2.out).mono ?_); (case side1 => exact KL HB); (case side2 => exact HR0.out); (case side3 => exact HC0.out); rintro e w5 ⟨g103, rfl, hi, hb, hb2⟩; refine ⟨_, rfl, ?_⟩; replace HB := am (hb); have HI103 := am (hi); (try clear hb); (try clear hb2); (try clear hi)) | ((with_reducible refine gate_callee (f := 68) rfl ?_); refine goesL_ (some 9) rfl rfl Try.func68 (by kernel_rfl) rfl #[.pointer (some ⟨g103, 0, none⟩)] rfl MT ?_; (with_reducible refine (spec_l12AnyWays.calls k g103 t101 t102 t104 t107 w _ ?side1 ?side2 A3.out).mono ?_); (case side1 => exact I140_0 HI103); (case side2 => exact K1 HB (IsS140.ge HI103.out)); rintro e w6 ⟨v105, rfl, ho0, hi, hb, hk⟩; refine ⟨_, rfl, ?_⟩; have HO106 := am (Kd.R_lower ho0 (below_size (K1 HB (IsS140.ge HI103.out)))); replace HB := am (hb); replace HI103 := am (hi); (try clear hb); (try clear hk); (try clear hi); (try clear ho0)))
 (try simp only [Act.put, List.setIfInBounds_toArray, List.set_cons_zero, List.set_cons_succ])
 go_cut [17] (fun v17 wc => ∃ (kq : Nat) (x17_3 : Bool) (x104001_3 : Int), v17 = .bool x17_3 ∧ Aside0 (spec_DrawWaysLead.j0 kq t104 x17_3 t101 x104001_3 = some (r1, r2)) ∧ Aside0 (kq ≤ k) ∧ Aside0 (Kd.R k45 45 wc w.heap.size (fun _ => True) v105 t104) ∧ Aside0 (IsS140 w wc g103 t101 x104001_3) ∧ Aside0 (Below w.heap.size w wc))
 case first =>
  have H := HC4.out
  clear HC4
  by_cases c7 : (t104.length : Int) > 0
  ·rw [if_pos c7] at H
   have c7b0 : decide (0 < (t104.length : Int)) = true := decide_eq_true c7
   have c7b1 : decide (0 < t104.length) = true := decide_eq_true (by omega)
   clear c7
   (first | rw [c7b0] | (simp only [i64_w, i32_w]; rw [c7b0]) | skip)
   replace H := Option.bind_eq_some_iff.mp H
   obtain ⟨⟨t108, t109⟩, A80, H⟩ := H
   replace H : (spec_DrawWaysLead.j0 k t104 (t108 == 0) t101 t109) = some (r1, r2) := H
   have A8 := Aside0.mk A80
   clear A80
   have H' := Aside0.mk H
   clear H
   obtain ⟨Ao9, co9, eo9⟩ := Kd.R_slice HO106.out
   subst eo9
   go_wp2_with (first | (go_at_call 69; (with_reducible refine (spec_l1Rd_pick.calls k g103 t101 t107 2 t108 t109 w _ ?side1 ?side2 A8.out).mono ?_); (case side1 => exact I140_0 HI103); (case side2 => exact K1 HB (IsS140.ge HI103.out)); rintro e w10 ⟨rfl, hi, hb, hk⟩; replace HO106 := am (Kd.R_mono (Kd.R_keep (IsS140.apart (show IsS140 w _ g103 t101 t107 from I140_0 HI103) (KR HO106) (by decide)) hk (fun _ h => h.2)) (fun _ h => h.1)); replace HB := am (hb); replace HI103 := am (hi); (try clear hb); (try clear hk); (try clear hi)))
   go_meet
   case rel => exact ⟨_, ((t108 == 0)), (t109), (by first | rfl | (simp; done) | (simp [*]; done)), H', ⟨by first | omega | exact Nat.le_refl _⟩, ⟨KR HO106⟩, ⟨I140_0 HI103⟩, ⟨K1 HB (IsS140.ge HI103.out)⟩⟩
  ·rw [if_neg c7] at H
   have c7b0 : decide (0 < (t104.length : Int)) = false := decide_eq_false c7
   have c7b1 : decide (0 < t104.length) = false := decide_eq_false (by omega)
   clear c7
   (first | rw [c7b0] | (simp only [i64_w, i32_w]; rw [c7b0]) | skip)
   have H' := Aside0.mk H
   clear H
   obtain ⟨Ao11, co11, eo11⟩ := Kd.R_slice HO106.out
   subst eo11
   go_wp2
   go_meet
   case rel => exact ⟨_, (false), (t107), (by first | rfl | (simp; done) | (simp [*]; done)), H', ⟨by first | omega | exact Nat.le_refl _⟩, ⟨KR HO106⟩, ⟨I140_0 HI103⟩, ⟨K1 HB (IsS140.ge HI103.out)⟩⟩
 case rest =>
  clear HC4
  try clear c2
  try clear p2
  try clear c6
  try clear c7
  try clear c7b0
  try clear c7b1
  obtain ⟨kq, x17_3, x104001_3, rfl, HA, HJ3, HO_5, HI103, HB⟩ := hcut
  cases kq with
  | zero => exact absurd HA.out (by simp [spec_DrawWaysLead.j0])
  | succ kj3 =>
   have H := HA.out
   clear HA
   simp only [spec_DrawWaysLead.j0] at H
   by_cases c12 : x17_3 = true
   ·subst c12
    have H1 : ((spec_l1Rd_pick.f kj3 t101 x104001_3 (t104.length : Int)).bind fun bt110 => (if 0 ≤ bt110.1 then (if bt110.1 < (t104.length : Int) then (some (t104, (rd_T45 t104 bt110.1).f0.f0)) else (none)) else (none))) = some (r1, r2) := by rw [if_pos rfl] at H; exact H
    clear H
    have H := H1
    clear H1
    replace H := Option.bind_eq_some_iff.mp H
    obtain ⟨⟨t110, t111⟩, A130, H⟩ := H
    replace H : (if 0 ≤ t110 then (if t110 < (t104.length : Int) then (some (t104, (rd_T45 t104 t110).f0.f0)) else (none)) else (none)) = some (r1, r2) := H
    have A13 := Aside0.mk A130
    clear A130
    by_cases c14 : 0 ≤ t110
    ·rw [if_pos c14] at H
     have c14b0 : decide (0 ≤ t110) = true := decide_eq_true c14
     clear c14
     by_cases c15 : t110 < (t104.length : Int)
     ·rw [if_pos c15] at H
      have c15b0 : decide (t110 < (t104.length : Int)) = true := decide_eq_true c15
      clear c15
      simp only [Option.some.injEq, Prod.mk.injEq] at H
      obtain ⟨rfl, rfl⟩ := H
      try go_wp2
      replace HO_5 := am (Kd.R_drew HO_5.out)
      replace HI103 := am (IsS140.drew HI103.out)
      replace HB := am (below_drew1 HB.out)
      obtain ⟨Ao17, co17, eo17⟩ := Kd.R_slice HO_5.out
      (first | subst eo17 | (injection eo17 with f1_ f2_ f3_; have f4_ := f1_.symm; have f5_ := f3_.symm; clear f1_ f2_ f3_; subst f4_; subst f5_))
      have p112 : 0 ≤ (t110 : Int) := OD
      have q112 : t110 < (t104.length : Int) := OD
      obtain ⟨ad112, e112, hx112_0, hx112_1, hx112_2⟩ := at_T45 (Kd.R_reads' HO_5.out).2.2 t110 p112 q112
      cases e112
      replace p112 := eq_true p112
      replace q112 := eq_true q112
      refine start_ (n := 12) (S := fun w' => w'.cell? (ad112.add ((t110).toNat * 3)) = some (.int .i64 ((rd_T45 t104 t110).f0.f0)) ∧ w'.cell? ⟨(ad112.add ((t110).toNat * 3)).block, (ad112.add ((t110).toNat * 3)).off + 1, none⟩ = some (.int .i64 ((rd_T45 t104 t110).f0.f1)) ∧ w'.cell? ⟨(ad112.add ((t110).toNat * 3)).block, (ad112.add ((t110).toNat * 3)).off + 2, none⟩ = some (.int .i64 ((rd_T45 t104 t110).f1))) (ds := []) (tf 0 12) (by kernel_rfl) rfl rfl ⟨hx112_0, hx112_1, hx112_2⟩ (fun hHeld => ?_); refine with_tabW spec_DrawWaysLead.tab4 spec_DrawWaysLead.bits4 (fun HT_ HW_ => ?_)
      generalize wc.drew = w16 at HO_5 HI103 HB hx112_0 hx112_1 hx112_2 hHeld ⊢
      refine pv HT_ 0 18 (tf 1 11) ?_
      refine pv HT_ 1 19 (tf 2 10) ?_
      refine pv HT_ 2 20 (tf 3 9) ?_
      refine pv HT_ 3 21 (tf 4 8) ?_
      refine pv HT_ 4 22 (tf 5 7) ?_
      refine one_ (i := 5) (N := some 23) (tf 6 6) rfl rfl (one_of HT_.out (by kernel_rfl)) (by decide) (fun K hK => ?_)
      refine goes_ Try.func69 (by kernel_rfl) rfl #[.pointer (some ⟨g103, 0, none⟩), .int .i64 (t104.length : Int)] (by rfl) rfl rfl MT ?_
      with_reducible refine (spec_l1Rd_pick.calls kj3 g103 t101 x104001_3 (t104.length : Int) t110 t111 w _ ?side1 ?side2 A13.out).mono ?_
      (case side1 => exact I140_0 HI103)
      (case side2 => exact K1 HB (IsS140.ge HI103.out))
      rintro e w18 ⟨rfl, hi, hb, hk⟩
      have HS0_ := keep_cell hk (hHeld.1) (by first | (rw [add_block]; exact Kd.own_blk (IsS140.own_ne HI103.out HO_5.out (by decide))) | (show (Addr.add _ _).block ≠ _; rw [add_block]; exact Kd.own_blk (IsS140.own_ne HI103.out HO_5.out (by decide))) | exact Kd.own_blk (IsS140.own_ne HI103.out HO_5.out (by decide)))
      have HS1_ := keep_cell hk (hHeld.2.1) (by first | (rw [add_block]; exact Kd.own_blk (IsS140.own_ne HI103.out HO_5.out (by decide))) | (show (Addr.add _ _).block ≠ _; rw [add_block]; exact Kd.own_blk (IsS140.own_ne HI103.out HO_5.out (by decide))) | exact Kd.own_blk (IsS140.own_ne HI103.out HO_5.out (by decide)))
      have HS2_ := keep_cell hk (hHeld.2.2) (by first | (rw [add_block]; exact Kd.own_blk (IsS140.own_ne HI103.out HO_5.out (by decide))) | (show (Addr.add _ _).block ≠ _; rw [add_block]; exact Kd.own_blk (IsS140.own_ne HI103.out HO_5.out (by decide))) | exact Kd.own_blk (IsS140.own_ne HI103.out HO_5.out (by decide)))
      refine ⟨_, rfl, ?_⟩
      replace HO_5 := am (Kd.R_mono (Kd.R_keep (IsS140.apart (show IsS140 w _ g103 t101 x104001_3 from I140_0 HI103) (KR HO_5) (by decide)) hk (fun _ h => h.2)) (fun _ h => h.1))
      replace HB := am (hb)
      replace HI103 := am (hi)
      (try clear hb)
      (try clear hb2)
      (try clear hk)
      (try clear hi)
      refine hK.out _ _ ⟨HS0_, HS1_, HS2_⟩ (fun hHeld => ?_)
      clear hK K
      refine norm_ (a' := ?_) ?_ ?_
      rotate_left
      ·show Act.put _ (some 23) _ = _
       simp only [Act.put, List.setIfInBounds_toArray, List.set_cons_zero, List.set_cons_succ, i64_w, i32_w]
       rfl
      refine pv HT_ 6 24 (tf 7 5) ?_
      refine pv HT_ 7 25 (tf 8 4) ?_
      refine pv HT_ 8 26 (tf 9 3) ?_
      refine pv HT_ 10 2 (tr [9, 1, 1, 1]) ?_
      refine tk 9 (some 27) (tf 11 1) (take_ofW HT_.out HW_.out (by kernel_rfl)) hHeld ?_
      refine pv HT_ 11 3 (tf 12 0) ?_
      refine done_ (done_of HT_.out (by kernel_rfl)) ?_
      try go_wp2
      go_ret2
      exact ⟨_, ER, by (with_reducible repeat (first | apply Kd.R_alloc | apply Kd.R_drewN | apply Kd.R_drew)); exact HO_5.out, K1 HB (IsS140.ge HI103.out)⟩
     ·rw [if_neg c15] at H
      exact absurd H (by simp)
    ·rw [if_neg c14] at H
     exact absurd H (by simp)
   ·replace c12 := Bool.eq_false_iff.mpr c12
    subst c12
    have H1 : ((spec_l12AnyAddr.f kj3 t101 x104001_3).bind fun bt113 => (some (t104, bt113.1))) = some (r1, r2) := by rw [if_neg (show ¬ (false = true) by decide)] at H; exact H
    clear H
    have H := H1
    clear H1
    replace H := Option.bind_eq_some_iff.mp H
    obtain ⟨⟨t113, t114⟩, A190, H⟩ := H
    replace H : (some (t104, t113)) = some (r1, r2) := H
    have A19 := Aside0.mk A190
    clear A190
    simp only [Option.some.injEq, Prod.mk.injEq] at H
    obtain ⟨rfl, rfl⟩ := H
    go_wp2_with (first | ((with_reducible refine gate_callee (f := 73) rfl ?_); refine goesL_ (some 30) rfl rfl Try.func73 (by kernel_rfl) rfl #[.pointer (some ⟨g103, 0, none⟩)] rfl MT ?_; (with_reducible refine (spec_l12AnyAddr.calls kj3 g103 t101 x104001_3 t113 t114 w _ ?side1 ?side2 A19.out).mono ?_); (case side1 => exact I140_0 HI103); (case side2 => exact K1 HB (IsS140.ge HI103.out)); rintro e w20 ⟨rfl, hi, hb, hk⟩; refine ⟨_, rfl, ?_⟩; replace HO_5 := am (Kd.R_mono (Kd.R_keep (IsS140.apart (show IsS140 w _ g103 t101 x104001_3 from I140_0 HI103) (KR HO_5) (by decide)) hk (fun _ h => h.2)) (fun _ h => h.1)); replace HB := am (hb); replace HI103 := am (hi); (try clear hb); (try clear hk); (try clear hi)))
    go_ret2
    exact ⟨_, ER, by (with_reducible repeat (first | apply Kd.R_alloc | apply Kd.R_drewN | apply Kd.R_drew)); exact HO_5.out, K1 HB (IsS140.ge HI103.out)⟩
end Go.Proofs.Ytkgbgaojglcaoaa.PAll
end
