/- Contracts of the functions that the statement reaches, printed by a program out of the translation and joined with the plain laws. -/
import Derived.Lib.LazyBuf
import Derived.Test.YtioghacieopbdaaCFnCacheFind3
import Derived.Test.YtioghacieopbdaaCFnCacheFind4
import Derived.Test.YtioghacieopbdaaCFnCacheFind6
section
namespace Go.Proofs.Ytioghacieopbdaa.PAll
open Go.RowKit Go.Proofs.YtioghacieopbdaaW.PrintWords Go.Proofs.YtioghacieopbdaaW.PrintLast Go.Proofs.YtioghacieopbdaaW.PrintMore
attribute [local go_sem] max2_int min2_int max_two min_two max_three min_three max_four min_four   -- for this text's walks alone
set_option linter.unusedVariables false
set_option linter.unusedSimpArgs false
def spec_l1Rd_one.f (k : Nat) (s0_0 : List Int) (s0_1 : Int) (l1 : List Int) : Option (Int × Int) := (spec_l1Rd_pick.f k s0_0 s0_1 (l1.length : Int)).bind fun bt101 => (if 0 ≤ bt101.1 then (if bt101.1 < (l1.length : Int) then (some (rd l1 bt101.1, bt101.2)) else (none)) else (none))
set_option maxHeartbeats 8000000 in
set_option maxRecDepth 100000 in
theorem spec_l1Rd_one.calls (k : Nat) (g : Nat) (s0_0 : List Int) (s0_1 : Int) (A1 : Option Addr) (c1 : Nat) (l1 : List Int) (r1 : Int) (r2 : Int) (w0 w : World) (hI : IsS143 w0 w g s0_0 s0_1) (hB : Below w0.heap.size w0 w) (hr1 : Kd.C (Kd.int .i64) w A1 l1.length l1) (hc1 : l1.length ≤ c1) (hf1 : ∀ ad, A1 = some ad → 0 < l1.length → ad.block ≠ g) (h : spec_l1Rd_one.f k s0_0 s0_1 l1 = some (r1, r2)) :
  Calls Try.prog 95 #[.pointer (some ⟨g, 0, none⟩), .slice A1 l1.length c1] w fun e w' => e = .returned (.int .i64 r1) ∧ IsS143 w0 w' g s0_0 r2 ∧ Below w0.heap.size w0 w' ∧ KeepBut w w' g none := by
 have HR1 := Aside0.mk hr1
 have HC1 := Aside0.mk hc1
 clear hr1 hc1
 have HI0 := Aside0.mk hI
 have HK := am (KeepBut.refl w g none)
 have HL := Aside0.mk hB.size
 clear hI
 have HW0 := Aside0.mk hB.size
 have HB := Aside0.mk hB
 clear hB
 have H : ((spec_l1Rd_pick.f k s0_0 s0_1 (l1.length : Int)).bind fun bt101 => (if 0 ≤ bt101.1 then (if bt101.1 < (l1.length : Int) then (some (rd l1 bt101.1, bt101.2)) else (none)) else (none))) = some (r1, r2) := h
 clear h
 replace H := Option.bind_eq_some_iff.mp H
 obtain ⟨⟨t101, t102⟩, A30, H⟩ := H
 replace H : (if 0 ≤ t101 then (if t101 < (l1.length : Int) then (some (rd l1 t101, t102)) else (none)) else (none)) = some (r1, r2) := H
 have A3 := Aside0.mk A30
 clear A30
 by_cases c4 : 0 ≤ t101
 ·rw [if_pos c4] at H
  have c4b0 : decide (0 ≤ t101) = true := decide_eq_true c4
  clear c4
  by_cases c5 : t101 < (l1.length : Int)
  ·rw [if_pos c5] at H
   have c5b0 : decide (t101 < (l1.length : Int)) = true := decide_eq_true c5
   clear c5
   simp only [Option.some.injEq, Prod.mk.injEq] at H
   obtain ⟨rfl, rfl⟩ := H
   go_enter Try.func95, Try.ntmps95
   go_wp2_with (first | ((with_reducible refine gate_callee (f := 91) rfl ?_); refine goesL_ (some 9) rfl rfl Try.func91 (by kernel_rfl) rfl #[.pointer (some ⟨g, 0, none⟩), .int .i64 (l1.length : Int)] rfl MT ?_; (with_reducible refine (spec_l1Rd_pick.calls k g s0_0 s0_1 (l1.length : Int) t101 t102 w0 _ ?side1 ?side2 A3.out).mono ?_); (case side1 => exact I143_0 HI0); (case side2 => exact K1 HB (IsS143.ge HI0.out)); rintro e w6 ⟨rfl, hi, hb, hk⟩; refine ⟨_, rfl, ?_⟩; replace HK := am (KeepBut.trans (J0 HK) hk (.inl rfl)); replace HB := am (hb); replace HI0 := am (hi); (try clear hb); (try clear hb2); (try clear hk); (try clear hi); have p103 : 0 ≤ (t101 : Int) := of_decide_eq_true (by first | (with_reducible assumption) | assumption); have q103 : t101 < (l1.length : Int) := of_decide_eq_true (by first | (with_reducible assumption) | assumption); obtain ⟨ad103, e103, hx103_0⟩ := Kd.at_int HR1.out t101 p103 q103; cases e103; replace hx103_0 := keep_cell HK.out hx103_0 (by first | (rw [add_block]; exact hf1 _ rfl (by omega)) | exact hf1 _ rfl (by omega) | exact hf1 ad103 rfl (by omega)); replace p103 := eq_true p103; replace q103 := eq_true q103))
   go_ret
   exact ⟨by first | rfl | (simp [errW_none, errW_some] <;> rfl) | (simp [*, errW_none, errW_some] <;> rfl), I143_0 HI0, K1 HB (IsS143.ge HI0.out), J0 HK⟩
  ·rw [if_neg c5] at H
   exact absurd H (by simp)
 ·rw [if_neg c4] at H
  exact absurd H (by simp)
end Go.Proofs.Ytioghacieopbdaa.PAll
end
section
namespace Go.Proofs.Ytioghacieopbdaa.PAll
open Go.RowKit Go.Proofs.YtioghacieopbdaaW.PrintWords Go.Proofs.YtioghacieopbdaaW.PrintLast Go.Proofs.YtioghacieopbdaaW.PrintMore
attribute [local go_sem] max2_int min2_int max_two min_two max_three min_three max_four min_four   -- for this text's walks alone
set_option linter.unusedVariables false
set_option linter.unusedSimpArgs false
def spec_l12Addr.f (k : Nat) (s0_0 : List Int) (s0_1 : Int) : Option (Int × Int) := (spec_l1Rd_pick.f k s0_0 s0_1 256).bind fun bt101 => ((spec_l1Rd_pick.f k s0_0 bt101.2 8).bind fun bt103 => ((spec_l1Rd_pick.f k s0_0 bt103.2 16).bind fun bt105 => ((spec_l1Rd_pick.f k s0_0 bt105.2 256).bind fun bt107 => ((spec_l1Rd_pick.f k s0_0 bt107.2 64).bind fun bt109 => ((spec_l1Rd_one.f k s0_0 bt109.2 (([wrap64 (167772160 + bt101.1), wrap64 (167772160 + bt103.1), wrap64 (167772416 + bt105.1), wrap64 (3232235520 + bt107.1), 0, 4294967295, 184549375, wrap64 (2886729728 + (wrap64 (bt109.1 * 256)))] : List Int))).bind fun bt114 => (some (bt114.1, bt114.2)))))))
set_option maxHeartbeats 8000000 in
set_option maxRecDepth 100000 in
theorem spec_l12Addr.calls (k : Nat) (g : Nat) (s0_0 : List Int) (s0_1 : Int) (r1 : Int) (r2 : Int) (w0 w : World) (hI : IsS143 w0 w g s0_0 s0_1) (hB : Below w0.heap.size w0 w) (h : spec_l12Addr.f k s0_0 s0_1 = some (r1, r2)) :
  Calls Try.prog 136 #[.pointer (some ⟨g, 0, none⟩)] w fun e w' => e = .returned (.int .i64 r1) ∧ IsS143 w0 w' g s0_0 r2 ∧ Below w0.heap.size w0 w' ∧ KeepBut w w' g none := by
 have HI0 := Aside0.mk hI
 have HK := am (KeepBut.refl w g none)
 have HL := Aside0.mk hB.size
 clear hI
 have HW0 := Aside0.mk hB.size
 have HB := Aside0.mk hB
 clear hB
 have H : ((spec_l1Rd_pick.f k s0_0 s0_1 256).bind fun bt101 => ((spec_l1Rd_pick.f k s0_0 bt101.2 8).bind fun bt103 => ((spec_l1Rd_pick.f k s0_0 bt103.2 16).bind fun bt105 => ((spec_l1Rd_pick.f k s0_0 bt105.2 256).bind fun bt107 => ((spec_l1Rd_pick.f k s0_0 bt107.2 64).bind fun bt109 => ((spec_l1Rd_one.f k s0_0 bt109.2 (([wrap64 (167772160 + bt101.1), wrap64 (167772160 + bt103.1), wrap64 (167772416 + bt105.1), wrap64 (3232235520 + bt107.1), 0, 4294967295, 184549375, wrap64 (2886729728 + (wrap64 (bt109.1 * 256)))] : List Int))).bind fun bt114 => (some (bt114.1, bt114.2)))))))) = some (r1, r2) := h
 clear h
 replace H := Option.bind_eq_some_iff.mp H
 obtain ⟨⟨t101, t102⟩, A20, H⟩ := H
 replace H : ((spec_l1Rd_pick.f k s0_0 t102 8).bind fun bt103 => ((spec_l1Rd_pick.f k s0_0 bt103.2 16).bind fun bt105 => ((spec_l1Rd_pick.f k s0_0 bt105.2 256).bind fun bt107 => ((spec_l1Rd_pick.f k s0_0 bt107.2 64).bind fun bt109 => ((spec_l1Rd_one.f k s0_0 bt109.2 (([wrap64 (167772160 + t101), wrap64 (167772160 + bt103.1), wrap64 (167772416 + bt105.1), wrap64 (3232235520 + bt107.1), 0, 4294967295, 184549375, wrap64 (2886729728 + (wrap64 (bt109.1 * 256)))] : List Int))).bind fun bt114 => (some (bt114.1, bt114.2))))))) = some (r1, r2) := H
 have A2 := Aside0.mk A20
 clear A20
 replace H := Option.bind_eq_some_iff.mp H
 obtain ⟨⟨t103, t104⟩, A30, H⟩ := H
 replace H : ((spec_l1Rd_pick.f k s0_0 t104 16).bind fun bt105 => ((spec_l1Rd_pick.f k s0_0 bt105.2 256).bind fun bt107 => ((spec_l1Rd_pick.f k s0_0 bt107.2 64).bind fun bt109 => ((spec_l1Rd_one.f k s0_0 bt109.2 (([wrap64 (167772160 + t101), wrap64 (167772160 + t103), wrap64 (167772416 + bt105.1), wrap64 (3232235520 + bt107.1), 0, 4294967295, 184549375, wrap64 (2886729728 + (wrap64 (bt109.1 * 256)))] : List Int))).bind fun bt114 => (some (bt114.1, bt114.2)))))) = some (r1, r2) := H
 have A3 := Aside0.mk A30
 clear A30
 replace H := Option.bind_eq_some_iff.mp H
 obtain ⟨⟨t105, t106⟩, A40, H⟩ := H
 replace H : ((spec_l1Rd_pick.f k s0_0 t106 256).bind fun bt107 => ((spec_l1Rd_pick.f k s0_0 bt107.2 64).bind fun bt109 => ((spec_l1Rd_one.f k s0_0 bt109.2 (([wrap64 (167772160 + t101), wrap64 (167772160 + t103), wrap64 (167772416 + t105), wrap64 (3232235520 + bt107.1), 0, 4294967295, 184549375, wrap64 (2886729728 + (wrap64 (bt109.1 * 256)))] : List Int))).bind fun bt114 => (some (bt114.1, bt114.2))))) = some (r1, r2) := H
 have A4 := Aside0.mk A40
 clear A40
 replace H := Option.bind_eq_some_iff.mp H
 obtain ⟨⟨t107, t108⟩, A50, H⟩ := H
 replace H : ((spec_l1Rd_pick.f k s0_0 t108 64).bind fun bt109 => ((spec_l1Rd_one.f k s0_0 bt109.2 (([wrap64 (167772160 + t101), wrap64 (167772160 + t103), wrap64 (167772416 + t105), wrap64 (3232235520 + t107), 0, 4294967295, 184549375, wrap64 (2886729728 + (wrap64 (bt109.1 * 256)))] : List Int))).bind fun bt114 => (some (bt114.1, bt114.2)))) = some (r1, r2) := H
 have A5 := Aside0.mk A50
 clear A50
 replace H := Option.bind_eq_some_iff.mp H
 obtain ⟨⟨t109, t110⟩, A60, H⟩ := H
 replace H : ((spec_l1Rd_one.f k s0_0 t110 (([wrap64 (167772160 + t101), wrap64 (167772160 + t103), wrap64 (167772416 + t105), wrap64 (3232235520 + t107), 0, 4294967295, 184549375, wrap64 (2886729728 + (wrap64 (t109 * 256)))] : List Int))).bind fun bt114 => (some (bt114.1, bt114.2))) = some (r1, r2) := H
 have A6 := Aside0.mk A60
 clear A60
 obtain ⟨y111, hy111⟩ : ∃ y_ : List Int, y_ = (([wrap64 (167772160 + t101), wrap64 (167772160 + t103), wrap64 (167772416 + t105), wrap64 (3232235520 + t107), 0, 4294967295, 184549375, wrap64 (2886729728 + (wrap64 (t109 * 256)))] : List Int)) := ⟨_, rfl⟩
 replace H : ((spec_l1Rd_one.f k s0_0 t110 y111).bind fun bt114 => (some (bt114.1, bt114.2))) = some (r1, r2) := by first | (rw [hy111]; with_reducible exact H) | (have H2_ := (Option.bind_some _ _).symm.trans H; rw [hy111]; with_reducible exact H2_) | (have H2_ := (Option.bind_some _ _).symm.trans H; with_reducible exact H2_) | with_reducible exact H | (rw [hy111]; exact H) | exact H
 have Ny111 := Aside0.mk hy111
 clear hy111
 replace H := Option.bind_eq_some_iff.mp H
 obtain ⟨⟨t114, t115⟩, A70, H⟩ := H
 replace H : (some (t114, t115)) = some (r1, r2) := H
 have A7 := Aside0.mk A70
 clear A70
 simp only [Option.some.injEq, Prod.mk.injEq] at H
 obtain ⟨rfl, rfl⟩ := H
 go_enter Try.func136, Try.ntmps136
 go_wp2_with (first | ((with_reducible refine gate_callee (f := 91) rfl ?_); refine goesL_ (some 5) rfl rfl Try.func91 (by kernel_rfl) rfl #[.pointer (some ⟨g, 0, none⟩), .int .i64 256] rfl MT ?_; (with_reducible refine (spec_l1Rd_pick.calls k g s0_0 s0_1 256 t101 t102 w0 _ ?side1 ?side2 A2.out).mono ?_); (case side1 => exact I143_0 HI0); (case side2 => exact K1 HB (IsS143.ge HI0.out)); rintro e w8 ⟨rfl, hi, hb, hk⟩; refine ⟨_, rfl, ?_⟩; replace HK := am (KeepBut.trans (J0 HK) hk (.inl rfl)); replace HB := am (hb); replace HI0 := am (hi); (try clear hb); (try clear hb2); (try clear hk); (try clear hi)) | ((with_reducible refine gate_callee (f := 91) rfl ?_); refine goesL_ (some 8) rfl rfl Try.func91 (by kernel_rfl) rfl #[.pointer (some ⟨g, 0, none⟩), .int .i64 8] rfl MT ?_; (with_reducible refine (spec_l1Rd_pick.calls k g s0_0 t102 8 t103 t104 w0 _ ?side1 ?side2 A3.out).mono ?_); (case side1 => exact I143_0 HI0); (case side2 => exact K1 HB (IsS143.ge HI0.out)); rintro e w9 ⟨rfl, hi, hb, hk⟩; refine ⟨_, rfl, ?_⟩; replace HK := am (KeepBut.trans (J0 HK) hk (.inl rfl)); replace HB := am (hb); replace HI0 := am (hi); (try clear hb); (try clear hb2); (try clear hk); (try clear hi)) | ((with_reducible refine gate_callee (f := 91) rfl ?_); refine goesL_ (some 11) rfl rfl Try.func91 (by kernel_rfl) rfl #[.pointer (some ⟨g, 0, none⟩), .int .i64 16] rfl MT ?_; (with_reducible refine (spec_l1Rd_pick.calls k g s0_0 t104 16 t105 t106 w0 _ ?side1 ?side2 A4.out).mono ?_); (case side1 => exact I143_0 HI0); (case side2 => exact K1 HB (IsS143.ge HI0.out)); rintro e w10 ⟨rfl, hi, hb, hk⟩; refine ⟨_, rfl, ?_⟩; replace HK := am (KeepBut.trans (J0 HK) hk (.inl rfl)); replace HB := am (hb); replace HI0 := am (hi); (try clear hb); (try clear hb2); (try clear hk); (try clear hi)) | ((with_reducible refine gate_callee (f := 91) rfl ?_); refine goesL_ (some 14) rfl rfl Try.func91 (by kernel_rfl) rfl #[.pointer (some ⟨g, 0, none⟩), .int .i64 256] rfl MT ?_; (with_reducible refine (spec_l1Rd_pick.calls k g s0_0 t106 256 t107 t108 w0 _ ?side1 ?side2 A5.out).mono ?_); (case side1 => exact I143_0 HI0); (case side2 => exact K1 HB (IsS143.ge HI0.out)); rintro e w11 ⟨rfl, hi, hb, hk⟩; refine ⟨_, rfl, ?_⟩; replace HK := am (KeepBut.trans (J0 HK) hk (.inl rfl)); replace HB := am (hb); replace HI0 := am (hi); (try clear hb); (try clear hb2); (try clear hk); (try clear hi)) | ((with_reducible refine gate_callee (f := 91) rfl ?_); refine goesL_ (some 17) rfl rfl Try.func91 (by kernel_rfl) rfl #[.pointer (some ⟨g, 0, none⟩), .int .i64 64] rfl MT ?_; (with_reducible refine (spec_l1Rd_pick.calls k g s0_0 t108 64 t109 t110 w0 _ ?side1 ?side2 A6.out).mono ?_); (case side1 => exact I143_0 HI0); (case side2 => exact K1 HB (IsS143.ge HI0.out)); rintro e w12 ⟨rfl, hi, hb, hk⟩; refine ⟨_, rfl, ?_⟩; replace HK := am (KeepBut.trans (J0 HK) hk (.inl rfl)); replace HB := am (hb); replace HI0 := am (hi); (try clear hb); (try clear hb2); (try clear hk); (try clear hi)) | ((with_reducible refine gate_dst (N := 20) rfl ?_); refine Kd.R_lit (Kd.int .i64) _ 3 ?hg (N := 20) ?hd (xs := ([wrap64 (167772160 + t101), wrap64 (167772160 + t103), wrap64 (167772416 + t105), wrap64 (3232235520 + t107), 0, 4294967295, 184549375, wrap64 (2886729728 + (wrap64 (t109 * 256)))] : List Int)) (inner := [.int .i64 (wrap64 (167772160 + t101)), .int .i64 (wrap64 (167772160 + t103)), .int .i64 (wrap64 (167772416 + t105)), .int .i64 (wrap64 (3232235520 + t107)), .int .i64 0, .int .i64 4294967295, .int .i64 184549375, .int .i64 (wrap64 (2886729728 + (wrap64 (t109 * 256))))]) (ok := fun _ => True) (okp := fun _ => True) ?hr ?hp (fun _ hk => hk) trivial (Below.refl _ _) (Nat.le_refl _) (by simp) ?_; (case hd => rfl); (case hg => rfl); (case hr => first | (go_simp; done) | (go_simp; rfl)); (case hp => exact (Reps.one (show Kd.M (Kd.int .i64) _ _ _ (wrap64 (167772160 + t101)) [.int .i64 (wrap64 (167772160 + t101))] from rfl) (Reps.one (show Kd.M (Kd.int .i64) _ _ _ (wrap64 (167772160 + t103)) [.int .i64 (wrap64 (167772160 + t103))] from rfl) (Reps.one (show Kd.M (Kd.int .i64) _ _ _ (wrap64 (167772416 + t105)) [.int .i64 (wrap64 (167772416 + t105))] from rfl) (Reps.one (show Kd.M (Kd.int .i64) _ _ _ (wrap64 (3232235520 + t107)) [.int .i64 (wrap64 (3232235520 + t107))] from rfl) (Reps.one (show Kd.M (Kd.int .i64) _ _ _ 0 [.int .i64 0] from rfl) (Reps.one (show Kd.M (Kd.int .i64) _ _ _ 4294967295 [.int .i64 4294967295] from rfl) (Reps.one (show Kd.M (Kd.int .i64) _ _ _ 184549375 [.int .i64 184549375] from rfl) (Reps.one (show Kd.M (Kd.int .i64) _ _ _ (wrap64 (2886729728 + (wrap64 (t109 * 256)))) [.int .i64 (wrap64 (2886729728 + (wrap64 (t109 * 256))))] from rfl) (Reps.none _ _)))))))))); intro v112 w13 ho14 hb hg_ hnew_; clear hg_ hnew_; (first | rw [← Ny111.out] at ho14 | (simp only [Int.reduceToNat] at ho14; rw [← Ny111.out] at ho14)); have HO113 := am (Kd.R_lower ho14 (keep_size (w := w) (g := g) (row := none) (J0 HK))); replace HK := am (KeepBut.trans (J0 HK) (KeepBut.of_below hb g none) (.inl rfl)); replace HB := am (below_step (K1 HB (IsS143.ge HI0.out)) hb); replace HI0 := am (IsS143.below (I143_0 HI0) hb); clear hb ho14; obtain ⟨Ao15, co15, eo15⟩ := Kd.R_slice HO113.out; subst eo15) | ((with_reducible refine gate_callee (f := 95) rfl ?_); refine goesL_ (some 21) rfl rfl Try.func95 (by kernel_rfl) rfl #[.pointer (some ⟨g, 0, none⟩), .slice Ao15 y111.length co15] rfl MT ?_; (with_reducible refine (spec_l1Rd_one.calls k g s0_0 t110 _ _ y111 t114 t115 w0 _ ?side1 ?side2 ?side3 ?side4 ?side5 A7.out).mono ?_); (case side1 => exact I143_0 HI0); (case side2 => exact K1 HB (IsS143.ge HI0.out)); (case side3 => exact KC (Kd.R_reads' HO113.out).2.2); (case side4 => exact (Kd.R_reads' HO113.out).2.1); (case side5 => exact far_slice (IsS143.own_ne HI0.out HO113.out (by decide))); rintro e w16 ⟨rfl, hi, hb, hk⟩; refine ⟨_, rfl, ?_⟩; replace HO113 := am (Kd.R_mono (Kd.R_keep (IsS143.apart (show IsS143 w0 _ g s0_0 t110 from I143_0 HI0) (KR HO113) (by decide)) hk (fun _ h => h.2)) (fun _ h => h.1)); replace HK := am (KeepBut.trans (J0 HK) hk (.inl rfl)); replace HB := am (hb); replace HI0 := am (hi); (try clear hb); (try clear hb2); (try clear hk); (try clear hi)))
 go_ret
 exact ⟨by first | rfl | (simp [errW_none, errW_some] <;> rfl) | (simp [*, errW_none, errW_some] <;> rfl), I143_0 HI0, K1 HB (IsS143.ge HI0.out), J0 HK⟩
end Go.Proofs.Ytioghacieopbdaa.PAll
end
section
namespace Go.Proofs.Ytioghacieopbdaa.PAll
open Go.RowKit Go.Proofs.YtioghacieopbdaaW.PrintWords Go.Proofs.YtioghacieopbdaaW.PrintLast Go.Proofs.YtioghacieopbdaaW.PrintMore
attribute [local go_sem] max2_int min2_int max_two min_two max_three min_three max_four min_four   -- for this text's walks alone
set_option linter.unusedVariables false
set_option linter.unusedSimpArgs false
def spec_l1Over.f (k : Nat) (a0 : Int) (a1 : Int) : Option (Int × Int) := (spec_l1Size.f k a1).bind fun t102 => (if t102 = 0 then (none) else ((spec_l1Size.f k a1).bind fun t103 => (some (wrap64 ((wrap64 (Int.tdiv a0 t102)) * t103), a1))))
def spec_l1Over.T1 : Bool × List (List Nat × List Nat) := (true, [([], []), ([], []), ([1], [1]), ([0, 2], [0, 2]), ([], []), ([4, 2], [4]), ([3, 5], [3, 5]), ([], []), ([6, 7], [6, 7]), ([8, 5, 0, 1, 2, 3, 4, 5, 6, 7, 8], [8])])
def spec_l1Over.B1 : List Nat := [0, 0, 2, 7, 0, 22, 63, 0, 255, 511]
theorem spec_l1Over.tab1 : rtab .any (opsOf Try.f147 1) = spec_l1Over.T1 := by kernel_rfl
theorem spec_l1Over.bits1 : waitsOk spec_l1Over.T1.2 spec_l1Over.B1 = true := by kernel_rfl
set_option maxHeartbeats 8000000 in
set_option maxRecDepth 100000 in
theorem spec_l1Over.calls (k : Nat) (a0 : Int) (a1 : Int) (r1 : Int) (r2 : Int) (w : World) (h : spec_l1Over.f k a0 a1 = some (r1, r2)) :
  Calls Try.prog 147 #[.int .i64 a0, .int .i64 a1] w fun e w' => e = .returned (.agg #[.int .i64 r1, .int .i64 r2]) ∧ Below w.heap.size w w' := by
 have hu32 := Try.underlying32
 have HB := am (Below.refl w.heap.size w)
 have H : ((spec_l1Size.f k a1).bind fun t102 => (if t102 = 0 then (none) else ((spec_l1Size.f k a1).bind fun t103 => (some (wrap64 ((wrap64 (Int.tdiv a0 t102)) * t103), a1))))) = some (r1, r2) := h
 clear h
 replace H := Option.bind_eq_some_iff.mp H
 obtain ⟨t102, A30, H⟩ := H
 replace H : (if t102 = 0 then (none) else ((spec_l1Size.f k a1).bind fun t103 => (some (wrap64 ((wrap64 (Int.tdiv a0 t102)) * t103), a1)))) = some (r1, r2) := H
 have A3 := Aside0.mk A30
 clear A30
 by_cases c4 : t102 = 0
 ·rw [if_pos c4] at H
  exact absurd H (by simp)
 ·rw [if_neg c4] at H
  have c4b0 : (t102 == 0) = false := beq_eq_false_iff_ne.mpr c4
  have c4b1 : (t102 != 0) = true := bne_iff_ne.mpr c4
  replace H := Option.bind_eq_some_iff.mp H
  obtain ⟨t103, A50, H⟩ := H
  replace H : (some (wrap64 ((wrap64 (Int.tdiv a0 t102)) * t103), a1)) = some (r1, r2) := H
  have A5 := Aside0.mk A50
  clear A50
  simp only [Option.some.injEq, Prod.mk.injEq] at H
  obtain ⟨rfl, rfl⟩ := H
  go_enter Try.func147, Try.ntmps147
  try go_wp2_with (first | ((with_reducible refine gate_dst (N := 4) rfl ?_); refine box_event rfl (N := 4) rfl (cs := #[.int .i64 0, .int .i64 0]) (t := 32) BX ?_; intro gb101 hg w6 hbox hb; have BK101 := am (hbox); have GW101 := am ((GL hg (below_size (KL HB)) : w.heap.size ≤ gb101)); have GE101 := GW101; replace HB := am (below_step (KL HB) hb); clear hb hbox hg))
  replace BK101 := am (blk_drew BK101.out)
  replace HB := am (below_drew1 HB.out)
  refine start_ (n := 10) (S := fun w' => True) (ds := []) (tf 0 10) (by kernel_rfl) rfl rfl trivial (fun hHeld => ?_); refine with_tabW spec_l1Over.tab1 spec_l1Over.bits1 (fun HT_ HW_ => ?_)
  generalize w6.drew = w7 at BK101 HB hHeld ⊢
  refine pu 0 (some 5) (tf 1 9) (any_of HT_.out (by kernel_rfl)) ?_
  refine pu 1 (some 6) (tf 2 8) (any_of HT_.out (by kernel_rfl)) ?_
  refine pu 4 (some 9) #[true, true, false, false, true, false, false, false, false, false] (any_of HT_.out (by kernel_rfl)) ?_
  refine pu 7 (some 12) #[true, true, false, false, true, false, false, true, false, false] (any_of HT_.out (by kernel_rfl)) ?_
  refine one_ (i := 2) (N := some 7) #[true, true, true, false, true, false, false, true, false, false] rfl rfl (one_of HT_.out (by kernel_rfl)) (by decide) (fun K hK => ?_)
  refine goes_ Try.func138 (by kernel_rfl) rfl #[.int .i64 a1] (by rfl) rfl rfl MT ?_
  with_reducible refine (spec_l1Size.calls k a1 t102 _ A3.out).mono ?_
  rintro e w' ⟨rfl, ⟨nd, rfl⟩⟩
  refine ⟨_, rfl, ?_⟩
  refine hK.out _ _ trivial (fun hHeld => ?_)
  clear hK K
  refine norm_ (a' := ?_) ?_ ?_
  rotate_left
  ·show Act.put _ (some 7) _ = _
   simp only [Act.put, List.setIfInBounds_toArray, List.set_cons_zero, List.set_cons_succ, i64_w, i32_w]
   rfl
  refine pu 3 (some 8) #[true, true, true, true, true, false, false, true, false, false] (any_of HT_.out (by kernel_rfl)) ?_
  refine one_ (i := 5) (N := some 10) #[true, true, true, true, true, true, false, true, false, false] rfl rfl (one_of HT_.out (by kernel_rfl)) (by decide) (fun K hK => ?_)
  refine goes_ Try.func138 (by kernel_rfl) rfl #[.int .i64 a1] (by rfl) rfl rfl MT ?_
  with_reducible refine (spec_l1Size.calls k a1 t103 _ A5.out).mono ?_
  rintro e w' ⟨rfl, ⟨nd, rfl⟩⟩
  refine ⟨_, rfl, ?_⟩
  refine hK.out _ _ trivial (fun hHeld => ?_)
  clear hK K
  refine norm_ (a' := ?_) ?_ ?_
  rotate_left
  ·show Act.put _ (some 10) _ = _
   simp only [Act.put, List.setIfInBounds_toArray, List.set_cons_zero, List.set_cons_succ, i64_w, i32_w]
   rfl
  refine pu 6 (some 11) (tf 8 2) (any_of HT_.out (by kernel_rfl)) ?_
  refine pu 8 (some 13) (tf 9 1) (any_of HT_.out (by kernel_rfl)) ?_
  refine one_ (i := 9) (N := none) (tf 10 0) rfl rfl (one_of HT_.out (by kernel_rfl)) (by decide) (fun K hK => ?_)
  have hs8 : w7.cell? ⟨gb101, 0, none⟩ = some (.int .i64 0) := z0 _ BK101.out
  have hfs8 := blk_frozen BK101.out 0
  have hs9 : w7.cell? ⟨gb101, 1, none⟩ = some (.int .i64 0) := z1 _ BK101.out
  have hfs9 := blk_frozen BK101.out 1
  refine skip_ (w1 := ?_) (by rfl) rfl ?_ ?_
  rotate_left
  ·go_simp
   rfl
  refine hK.out _ _ trivial (fun hHeld => ?_)
  clear hK K
  refine done_ (done_of HT_.out (by kernel_rfl)) ?_
  try go_wp2
  refine bodyPost_ret (results_cell_row rfl _ _ gb101 32 #[.int .i64 (wrap64 ((wrap64 (Int.tdiv a0 t102)) * t103)), .int .i64 a1] (0, 0) _ rfl (by (with_reducible repeat (first | refine blk_drewN ?_ _ | refine blk_drew ?_ | refine blk_alloc ?_ _)); refine blk_put (cs := #[.int .i64 (wrap64 ((wrap64 (Int.tdiv a0 t102)) * t103)), .int .i64 0]) ?_ 1 _ rfl; (with_reducible repeat (first | refine blk_drewN ?_ _ | refine blk_drew ?_ | refine blk_alloc ?_ _)); refine blk_put (cs := #[.int .i64 0, .int .i64 0]) ?_ 0 _ rfl; (with_reducible repeat (first | refine blk_drewN ?_ _ | refine blk_drew ?_ | refine blk_alloc ?_ _)); exact BK101.out) Try.underlying32 rfl (by kernel_rfl)) rfl ?_
  exact ⟨by first | rfl | (simp [errW_none, errW_some] <;> rfl) | (simp [*, errW_none, errW_some] <;> rfl), K1 HB GE101.out⟩
end Go.Proofs.Ytioghacieopbdaa.PAll
end
section
namespace Go.Proofs.Ytioghacieopbdaa.PAll
open Go.RowKit Go.Proofs.YtioghacieopbdaaW.PrintWords Go.Proofs.YtioghacieopbdaaW.PrintLast Go.Proofs.YtioghacieopbdaaW.PrintMore
attribute [local go_sem] max2_int min2_int max_two min_two max_three min_three max_four min_four   -- for this text's walks alone
set_option linter.unusedVariables false
set_option linter.unusedSimpArgs false
def spec_l12Block.f (k : Nat) (s0_0 : List Int) (s0_1 : Int) : Option (Int × Int × Int) := (spec_l12Addr.f k s0_0 s0_1).bind fun bt102 => ((spec_l1Rd_one.f k s0_0 bt102.2 (([32, 31, 30, 28, 24, 24, 25, 16, 8, 1, 0, 29] : List Int))).bind fun bt107 => ((spec_l1Over.f k bt102.1 bt107.1).bind fun bt109 => (some (bt109.1, bt109.2, bt107.2))))
set_option maxHeartbeats 8000000 in
set_option maxRecDepth 100000 in
theorem spec_l12Block.calls (k : Nat) (g : Nat) (s0_0 : List Int) (s0_1 : Int) (r1 : Int) (r2 : Int) (r3 : Int) (w0 w : World) (hI : IsS143 w0 w g s0_0 s0_1) (hB : Below w0.heap.size w0 w) (h : spec_l12Block.f k s0_0 s0_1 = some (r1, r2, r3)) :
  Calls Try.prog 144 #[.pointer (some ⟨g, 0, none⟩)] w fun e w' => e = .returned (.agg #[.int .i64 r1, .int .i64 r2]) ∧ IsS143 w0 w' g s0_0 r3 ∧ Below w0.heap.size w0 w' ∧ KeepBut w w' g none := by
 have hu32 := Try.underlying32
 have HI0 := Aside0.mk hI
 have HK := am (KeepBut.refl w g none)
 have HL := Aside0.mk hB.size
 clear hI
 have HW0 := Aside0.mk hB.size
 have HB := Aside0.mk hB
 clear hB
 have H : ((spec_l12Addr.f k s0_0 s0_1).bind fun bt102 => ((spec_l1Rd_one.f k s0_0 bt102.2 (([32, 31, 30, 28, 24, 24, 25, 16, 8, 1, 0, 29] : List Int))).bind fun bt107 => ((spec_l1Over.f k bt102.1 bt107.1).bind fun bt109 => (some (bt109.1, bt109.2, bt107.2))))) = some (r1, r2, r3) := h
 clear h
 replace H := Option.bind_eq_some_iff.mp H
 obtain ⟨⟨t102, t103⟩, A20, H⟩ := H
 replace H : ((spec_l1Rd_one.f k s0_0 t103 (([32, 31, 30, 28, 24, 24, 25, 16, 8, 1, 0, 29] : List Int))).bind fun bt107 => ((spec_l1Over.f k t102 bt107.1).bind fun bt109 => (some (bt109.1, bt109.2, bt107.2)))) = some (r1, r2, r3) := H
 have A2 := Aside0.mk A20
 clear A20
 obtain ⟨y104, hy104⟩ : ∃ y_ : List Int, y_ = (([32, 31, 30, 28, 24, 24, 25, 16, 8, 1, 0, 29] : List Int)) := ⟨_, rfl⟩
 replace H : ((spec_l1Rd_one.f k s0_0 t103 y104).bind fun bt107 => ((spec_l1Over.f k t102 bt107.1).bind fun bt109 => (some (bt109.1, bt109.2, bt107.2)))) = some (r1, r2, r3) := by first | (rw [hy104]; with_reducible exact H) | (have H2_ := (Option.bind_some _ _).symm.trans H; rw [hy104]; with_reducible exact H2_) | (have H2_ := (Option.bind_some _ _).symm.trans H; with_reducible exact H2_) | with_reducible exact H | (rw [hy104]; exact H) | exact H
 have Ny104 := Aside0.mk hy104
 clear hy104
 replace H := Option.bind_eq_some_iff.mp H
 obtain ⟨⟨t107, t108⟩, A30, H⟩ := H
 replace H : ((spec_l1Over.f k t102 t107).bind fun bt109 => (some (bt109.1, bt109.2, t108))) = some (r1, r2, r3) := H
 have A3 := Aside0.mk A30
 clear A30
 replace H := Option.bind_eq_some_iff.mp H
 obtain ⟨⟨t109, t110⟩, A40, H⟩ := H
 replace H : (some (t109, t110, t108)) = some (r1, r2, r3) := H
 have A4 := Aside0.mk A40
 clear A40
 simp only [Option.some.injEq, Prod.mk.injEq] at H
 obtain ⟨rfl, rfl, rfl⟩ := H
 go_enter Try.func144, Try.ntmps144
 go_wp2_with (first | ((with_reducible refine gate_dst (N := 2) rfl ?_); refine box_event rfl (N := 2) rfl (cs := #[.int .i64 0, .int .i64 0]) (t := 32) BX ?_; intro gb101 hg w5 hbox hb; replace HB := am (below_step (K1 HB (IsS143.ge HI0.out)) hb); have BK101 := am (hbox); have GW101 := am ((by rw [hg]; exact (keep_size (w := w) (g := g) (row := none) (J0 HK)) : w.heap.size ≤ gb101)); have GE101 := am ((Nat.le_trans HW0.out (by rw [hg]; exact (keep_size (w := w) (g := g) (row := none) (J0 HK)) : w.heap.size ≤ gb101) : w0.heap.size ≤ gb101)); replace HK := am (KeepBut.trans (J0 HK) (KeepBut.of_below hb g none) (.inl rfl)); have NB0_101 := am ((by rw [hg]; exact Nat.ne_of_lt (IsS143.lt (show IsS143 w0 _ g s0_0 s0_1 from I143_0 HI0)) : g ≠ gb101)); have NB101_0 := am ((by rw [hg]; exact Nat.ne_of_gt (IsS143.lt (show IsS143 w0 _ g s0_0 s0_1 from I143_0 HI0)) : gb101 ≠ g)); replace HI0 := am (IsS143.below (I143_0 HI0) hb); clear hb hbox hg) | ((with_reducible refine gate_callee (f := 136) rfl ?_); refine goesL_ (some 4) rfl rfl Try.func136 (by kernel_rfl) rfl #[.pointer (some ⟨g, 0, none⟩)] rfl MT ?_; (with_reducible refine (spec_l12Addr.calls k g s0_0 s0_1 t102 t103 w0 _ ?side1 ?side2 A2.out).mono ?_); (case side1 => exact I143_1 HI0 NB0_101.out); (case side2 => exact K2 HB (IsS143.ge HI0.out) GE101.out); rintro e w6 ⟨rfl, hi, hb, hk⟩; refine ⟨_, rfl, ?_⟩; replace BK101 := am (KeepBut.blk hk (g' := gb101) (o := .cells #[.int .i64 0, .int .i64 0] 32 (0, 0)) (KB BK101) NB101_0.out (by simp)); replace HK := am (KeepBut.trans (J1 HK GW101.out) hk (.inl rfl)); replace HB := am (hb); replace HI0 := am (hi); (try clear hb); (try clear hb2); (try clear hk); (try clear hi)) | ((with_reducible refine gate_dst (N := 6) rfl ?_); refine Kd.R_lit (Kd.int .i64) _ 3 ?hg (N := 6) ?hd (xs := ([32, 31, 30, 28, 24, 24, 25, 16, 8, 1, 0, 29] : List Int)) (inner := [.int .i64 32, .int .i64 31, .int .i64 30, .int .i64 28, .int .i64 24, .int .i64 24, .int .i64 25, .int .i64 16, .int .i64 8, .int .i64 1, .int .i64 0, .int .i64 29]) (ok := fun _ => True) (okp := fun _ => True) ?hr ?hp (fun _ hk => hk) trivial (Below.refl _ _) (Nat.le_refl _) (by simp) ?_; (case hd => rfl); (case hg => rfl); (case hr => first | (go_simp; done) | (go_simp; rfl)); (case hp => exact (Reps.one (show Kd.M (Kd.int .i64) _ _ _ 32 [.int .i64 32] from rfl) (Reps.one (show Kd.M (Kd.int .i64) _ _ _ 31 [.int .i64 31] from rfl) (Reps.one (show Kd.M (Kd.int .i64) _ _ _ 30 [.int .i64 30] from rfl) (Reps.one (show Kd.M (Kd.int .i64) _ _ _ 28 [.int .i64 28] from rfl) (Reps.one (show Kd.M (Kd.int .i64) _ _ _ 24 [.int .i64 24] from rfl) (Reps.one (show Kd.M (Kd.int .i64) _ _ _ 24 [.int .i64 24] from rfl) (Reps.one (show Kd.M (Kd.int .i64) _ _ _ 25 [.int .i64 25] from rfl) (Reps.one (show Kd.M (Kd.int .i64) _ _ _ 16 [.int .i64 16] from rfl) (Reps.one (show Kd.M (Kd.int .i64) _ _ _ 8 [.int .i64 8] from rfl) (Reps.one (show Kd.M (Kd.int .i64) _ _ _ 1 [.int .i64 1] from rfl) (Reps.one (show Kd.M (Kd.int .i64) _ _ _ 0 [.int .i64 0] from rfl) (Reps.one (show Kd.M (Kd.int .i64) _ _ _ 29 [.int .i64 29] from rfl) (Reps.none _ _)))))))))))))); intro v105 w7 ho8 hb hg_ hnew_; clear hg_ hnew_; (first | rw [← Ny104.out] at ho8 | (simp only [Int.reduceToNat] at ho8; rw [← Ny104.out] at ho8)); have HO106 := am (Kd.R_lower ho8 (keep_size (w := w) (g := g) (row := none) (J1 HK GW101.out))); replace BK101 := am (BB BK101 hb); replace HK := am (KeepBut.trans (J1 HK GW101.out) (KeepBut.of_below hb g none) (.inl rfl)); replace HB := am (below_step (K2 HB (IsS143.ge HI0.out) GE101.out) hb); replace HI0 := am (IsS143.below (I143_1 HI0 NB0_101.out) hb); clear hb ho8; obtain ⟨Ao9, co9, eo9⟩ := Kd.R_slice HO106.out; subst eo9) | ((with_reducible refine gate_callee (f := 95) rfl ?_); refine goesL_ (some 7) rfl rfl Try.func95 (by kernel_rfl) rfl #[.pointer (some ⟨g, 0, none⟩), .slice Ao9 y104.length co9] rfl MT ?_; (with_reducible refine (spec_l1Rd_one.calls k g s0_0 t103 _ _ y104 t107 t108 w0 _ ?side1 ?side2 ?side3 ?side4 ?side5 A3.out).mono ?_); (case side1 => exact I143_1 HI0 NB0_101.out); (case side2 => exact K2 HB (IsS143.ge HI0.out) GE101.out); (case side3 => exact KC (Kd.R_reads' HO106.out).2.2); (case side4 => exact (Kd.R_reads' HO106.out).2.1); (case side5 => exact far_slice (IsS143.own_ne HI0.out HO106.out (by decide))); rintro e w10 ⟨rfl, hi, hb, hk⟩; refine ⟨_, rfl, ?_⟩; replace BK101 := am (KeepBut.blk hk (g' := gb101) (o := .cells #[.int .i64 0, .int .i64 0] 32 (0, 0)) (KB BK101) NB101_0.out (by simp)); replace HO106 := am (Kd.R_mono (Kd.R_keep (IsS143.apart (show IsS143 w0 _ g s0_0 t103 from I143_1 HI0 NB0_101.out) (KR HO106) (by decide)) hk (fun _ h => h.2)) (fun _ h => h.1)); replace HK := am (KeepBut.trans (J1 HK GW101.out) hk (.inl rfl)); replace HB := am (hb); replace HI0 := am (hi); (try clear hb); (try clear hb2); (try clear hk); (try clear hi)) | ((with_reducible refine gate_callee (f := 147) rfl ?_); refine goesL_ (some 8) rfl rfl Try.func147 (by kernel_rfl) rfl #[.int .i64 t102, .int .i64 t107] rfl MT ?_; (with_reducible refine (spec_l1Over.calls k t102 t107 t109 t110 _ A4.out).mono ?_); rintro e w11 ⟨rfl, hb⟩; refine ⟨_, rfl, ?_⟩; replace HO106 := am (Kd.R_below (KR HO106) hb); replace BK101 := am (BB BK101 hb); replace HK := am (KeepBut.trans (J1 HK GW101.out) (KeepBut.of_below hb g none) (.inl rfl)); replace HB := am (below_step (K2 HB (IsS143.ge HI0.out) GE101.out) hb); replace HI0 := am (IsS143.below (I143_1 HI0 NB0_101.out) hb); (try clear hb); (try clear hb2); (try clear hk); (try clear hi); have hnb12 := NB101_0.out; have hnc12 := NB0_101.out; have hcz13_0 := z0 w11 BK101.out; have hcz13_1 := z1 w11 BK101.out; have hfz13_0 := blk_frozen BK101.out 0; have hfz13_1 := blk_frozen BK101.out 1))
 refine bodyPost_ret (results_cell_row rfl _ _ gb101 32 #[.int .i64 t109, .int .i64 t110] (0, 0) _ rfl (by (with_reducible repeat (first | refine blk_drewN ?_ _ | refine blk_drew ?_ | refine blk_alloc ?_ _)); refine blk_put (cs := #[.int .i64 t109, .int .i64 0]) ?_ 1 _ rfl; (with_reducible repeat (first | refine blk_drewN ?_ _ | refine blk_drew ?_ | refine blk_alloc ?_ _)); refine blk_put (cs := #[.int .i64 0, .int .i64 0]) ?_ 0 _ rfl; (with_reducible repeat (first | refine blk_drewN ?_ _ | refine blk_drew ?_ | refine blk_alloc ?_ _)); exact BK101.out) Try.underlying32 rfl (by kernel_rfl)) rfl ?_
 exact ⟨by first | rfl | (simp [errW_none, errW_some] <;> rfl) | (simp [*, errW_none, errW_some] <;> rfl), I143_1 HI0 NB0_101.out, K2 HB (IsS143.ge HI0.out) GE101.out, J1 HK GW101.out⟩
end Go.Proofs.Ytioghacieopbdaa.PAll
end
section
namespace Go.Proofs.Ytioghacieopbdaa.PAll
open Go.RowKit Go.Proofs.YtioghacieopbdaaW.PrintWords Go.Proofs.YtioghacieopbdaaW.PrintLast Go.Proofs.YtioghacieopbdaaW.PrintMore
attribute [local go_sem] max2_int min2_int max_two min_two max_three min_three max_four min_four   -- for this text's walks alone
set_option linter.unusedVariables false
set_option linter.unusedSimpArgs false
def spec_l12AnyBlock.f (k : Nat) (s0_0 : List Int) (s0_1 : Int) : Option (Int × Int × Int) := (spec_l12Block.f k s0_0 s0_1).bind fun bt102 => ((spec_l1Rd_pick.f k s0_0 bt102.2.2 16).bind fun bt106 => (if bt106.1 = 0 then ((spec_l1Rd_one.f k s0_0 bt106.2 (([1, (-1), 256] : List Int))).bind fun bt111 => (some (wrap64 (bt102.1 + bt111.1), bt102.2.1, bt111.2))) else (if bt106.1 = 1 then ((spec_l1Rd_one.f k s0_0 bt106.2 (([(-1), 33, 0, 32] : List Int))).bind fun bt116 => (some (bt102.1, bt116.1, bt116.2))) else (some (bt102.1, bt102.2.1, bt106.2)))))
def spec_l12AnyBlock.T4 : Bool × List (List Nat × List Nat) := (true, [([], []), ([0], [0]), ([], []), ([], []), ([2, 3], [2, 3]), ([1, 4], [1, 4]), ([0, 1, 2, 3, 4, 5], []), ([6, 5, 4, 0, 1, 2, 3, 4, 5], [5, 6])])
def spec_l12AnyBlock.B4 : List Nat := [0, 1, 0, 0, 12, 31, 63, 127]
theorem spec_l12AnyBlock.tab4 : rtab .any (opsOf Try.f120 4) = spec_l12AnyBlock.T4 := by kernel_rfl
theorem spec_l12AnyBlock.bits4 : waitsOk spec_l12AnyBlock.T4.2 spec_l12AnyBlock.B4 = true := by kernel_rfl
set_option maxHeartbeats 8000000 in
set_option maxRecDepth 100000 in
theorem spec_l12AnyBlock.calls (k : Nat) (g : Nat) (s0_0 : List Int) (s0_1 : Int) (r1 : Int) (r2 : Int) (r3 : Int) (w0 w : World) (hI : IsS143 w0 w g s0_0 s0_1) (hB : Below w0.heap.size w0 w) (h : spec_l12AnyBlock.f k s0_0 s0_1 = some (r1, r2, r3)) :
  Calls Try.prog 120 #[.pointer (some ⟨g, 0, none⟩)] w fun e w' => e = .returned (.agg #[.int .i64 r1, .int .i64 r2]) ∧ IsS143 w0 w' g s0_0 r3 ∧ Below w0.heap.size w0 w' ∧ KeepBut w w' g none := by
 have hu32 := Try.underlying32
 have HI0 := Aside0.mk hI
 have HK := am (KeepBut.refl w g none)
 have HL := Aside0.mk hB.size
 clear hI
 have HW0 := Aside0.mk hB.size
 have HB := Aside0.mk hB
 clear hB
 have H : ((spec_l12Block.f k s0_0 s0_1).bind fun bt102 => ((spec_l1Rd_pick.f k s0_0 bt102.2.2 16).bind fun bt106 => (if bt106.1 = 0 then ((spec_l1Rd_one.f k s0_0 bt106.2 (([1, (-1), 256] : List Int))).bind fun bt111 => (some (wrap64 (bt102.1 + bt111.1), bt102.2.1, bt111.2))) else (if bt106.1 = 1 then ((spec_l1Rd_one.f k s0_0 bt106.2 (([(-1), 33, 0, 32] : List Int))).bind fun bt116 => (some (bt102.1, bt116.1, bt116.2))) else (some (bt102.1, bt102.2.1, bt106.2)))))) = some (r1, r2, r3) := h
 clear h
 replace H := Option.bind_eq_some_iff.mp H
 obtain ⟨⟨t102, t103, t104⟩, A20, H⟩ := H
 replace H : ((spec_l1Rd_pick.f k s0_0 t104 16).bind fun bt106 => (if bt106.1 = 0 then ((spec_l1Rd_one.f k s0_0 bt106.2 (([1, (-1), 256] : List Int))).bind fun bt111 => (some (wrap64 (t102 + bt111.1), t103, bt111.2))) else (if bt106.1 = 1 then ((spec_l1Rd_one.f k s0_0 bt106.2 (([(-1), 33, 0, 32] : List Int))).bind fun bt116 => (some (t102, bt116.1, bt116.2))) else (some (t102, t103, bt106.2))))) = some (r1, r2, r3) := H
 have A2 := Aside0.mk A20
 clear A20
 replace H := Option.bind_eq_some_iff.mp H
 obtain ⟨⟨t106, t107⟩, A30, H⟩ := H
 replace H : (if t106 = 0 then ((spec_l1Rd_one.f k s0_0 t107 (([1, (-1), 256] : List Int))).bind fun bt111 => (some (wrap64 (t102 + bt111.1), t103, bt111.2))) else (if t106 = 1 then ((spec_l1Rd_one.f k s0_0 t107 (([(-1), 33, 0, 32] : List Int))).bind fun bt116 => (some (t102, bt116.1, bt116.2))) else (some (t102, t103, t107)))) = some (r1, r2, r3) := H
 have A3 := Aside0.mk A30
 clear A30
 by_cases c4 : t106 = 0
 ·rw [if_pos c4] at H
  have c4b0 : (t106 == 0) = true := beq_iff_eq.mpr c4
  have c4b1 : (t106 != 0) = false := bne_eq_false_iff_eq.mpr c4
  clear c4
  obtain ⟨y108, hy108⟩ : ∃ y_ : List Int, y_ = (([1, (-1), 256] : List Int)) := ⟨_, rfl⟩
  replace H : ((spec_l1Rd_one.f k s0_0 t107 y108).bind fun bt111 => (some (wrap64 (t102 + bt111.1), t103, bt111.2))) = some (r1, r2, r3) := by first | (rw [hy108]; with_reducible exact H) | (have H2_ := (Option.bind_some _ _).symm.trans H; rw [hy108]; with_reducible exact H2_) | (have H2_ := (Option.bind_some _ _).symm.trans H; with_reducible exact H2_) | with_reducible exact H | (rw [hy108]; exact H) | exact H
  have Ny108 := Aside0.mk hy108
  clear hy108
  replace H := Option.bind_eq_some_iff.mp H
  obtain ⟨⟨t111, t112⟩, A50, H⟩ := H
  replace H : (some (wrap64 (t102 + t111), t103, t112)) = some (r1, r2, r3) := H
  have A5 := Aside0.mk A50
  clear A50
  simp only [Option.some.injEq, Prod.mk.injEq] at H
  obtain ⟨rfl, rfl, rfl⟩ := H
  go_enter Try.func120, Try.ntmps120
  try go_wp2_with (first | ((with_reducible refine gate_dst (N := 2) rfl ?_); refine box_event rfl (N := 2) rfl (cs := #[.int .i64 0, .int .i64 0]) (t := 32) BX ?_; intro gb101 hg w6 hbox hb; replace HB := am (below_step (K1 HB (IsS143.ge HI0.out)) hb); have BK101 := am (hbox); have GW101 := am ((by rw [hg]; exact (keep_size (w := w) (g := g) (row := none) (J0 HK)) : w.heap.size ≤ gb101)); have GE101 := am ((Nat.le_trans HW0.out (by rw [hg]; exact (keep_size (w := w) (g := g) (row := none) (J0 HK)) : w.heap.size ≤ gb101) : w0.heap.size ≤ gb101)); replace HK := am (KeepBut.trans (J0 HK) (KeepBut.of_below hb g none) (.inl rfl)); have NB0_101 := am ((by rw [hg]; exact Nat.ne_of_lt (IsS143.lt (show IsS143 w0 _ g s0_0 s0_1 from I143_0 HI0)) : g ≠ gb101)); have NB101_0 := am ((by rw [hg]; exact Nat.ne_of_gt (IsS143.lt (show IsS143 w0 _ g s0_0 s0_1 from I143_0 HI0)) : gb101 ≠ g)); replace HI0 := am (IsS143.below (I143_0 HI0) hb); clear hb hbox hg) | ((with_reducible refine gate_callee (f := 144) rfl ?_); refine goesL_ (some 5) rfl rfl Try.func144 (by kernel_rfl) rfl #[.pointer (some ⟨g, 0, none⟩)] rfl MT ?_; (with_reducible refine (spec_l12Block.calls k g s0_0 s0_1 t102 t103 t104 w0 _ ?side1 ?side2 A2.out).mono ?_); (case side1 => exact I143_1 HI0 NB0_101.out); (case side2 => exact K2 HB (IsS143.ge HI0.out) GE101.out); rintro e w7 ⟨rfl, hi, hb, hk⟩; refine ⟨_, rfl, ?_⟩; replace BK101 := am (KeepBut.blk hk (g' := gb101) (o := .cells #[.int .i64 0, .int .i64 0] 32 (0, 0)) (KB BK101) NB101_0.out (by simp)); replace HK := am (KeepBut.trans (J1 HK GW101.out) hk (.inl rfl)); replace HB := am (hb); replace HI0 := am (hi); (try clear hb); (try clear hb2); (try clear hk); (try clear hi)) | ((with_reducible refine gate_dst (N := 3) rfl ?_); refine box_event rfl (N := 3) rfl (cs := #[.int .i64 0, .int .i64 0]) (t := 32) BX ?_; intro gb105 hg w8 hbox hb; replace HB := am (below_step (K2 HB (IsS143.ge HI0.out) GE101.out) hb); have BK105 := am (hbox); have GW105 := am ((by rw [hg]; exact (keep_size (w := w) (g := g) (row := none) (J1 HK GW101.out)) : w.heap.size ≤ gb105)); have GE105 := am ((Nat.le_trans HW0.out (by rw [hg]; exact (keep_size (w := w) (g := g) (row := none) (J1 HK GW101.out)) : w.heap.size ≤ gb105) : w0.heap.size ≤ gb105)); replace HK := am (KeepBut.trans (J1 HK GW101.out) (KeepBut.of_below hb g none) (.inl rfl)); have NB101_105 := am (NL BK101 hg); have NB105_101 := am (NG BK101 hg); replace BK101 := am (BB BK101 hb); have NB0_105 := am ((by rw [hg]; exact Nat.ne_of_lt (IsS143.lt (show IsS143 w0 _ g s0_0 t104 from I143_1 HI0 NB0_101.out)) : g ≠ gb105)); have NB105_0 := am ((by rw [hg]; exact Nat.ne_of_gt (IsS143.lt (show IsS143 w0 _ g s0_0 t104 from I143_1 HI0 NB0_101.out)) : gb105 ≠ g)); replace HI0 := am (IsS143.below (I143_1 HI0 NB0_101.out) hb); clear hb hbox hg; have hnb9 := NB105_101.out; have hnc9 := NB101_105.out; have hnb10 := NB105_0.out; have hnc10 := NB0_105.out; have hcz11_0 := z0 w8 BK105.out; have hcz11_1 := z1 w8 BK105.out; have hfz11_0 := blk_frozen BK105.out 0; have hfz11_1 := blk_frozen BK105.out 1) | ((with_reducible refine gate_callee (f := 91) rfl ?_); refine goesL_ (some 7) rfl rfl Try.func91 (by kernel_rfl) rfl #[.pointer (some ⟨g, 0, none⟩), .int .i64 16] rfl MT ?_; (with_reducible refine (spec_l1Rd_pick.calls k g s0_0 t104 16 t106 t107 w0 _ ?side1 ?side2 A3.out).mono ?_); (case side1 => exact I143_2 HI0 NB0_101.out NB0_105.out); (case side2 => exact K3 HB (IsS143.ge HI0.out) GE101.out GE105.out); rintro e w12 ⟨rfl, hi, hb, hk⟩; refine ⟨_, rfl, ?_⟩; replace BK101 := am (KeepBut.blk hk (g' := gb101) (o := .cells #[.int .i64 0, .int .i64 0] 32 (0, 0)) (by (with_reducible repeat (first | refine blk_drewN ?_ _ | refine blk_drew ?_ | refine blk_alloc ?_ _)); refine blk_far ?_ NB101_105.out _; (with_reducible repeat (first | refine blk_drewN ?_ _ | refine blk_drew ?_ | refine blk_alloc ?_ _)); refine blk_far ?_ NB101_105.out _; (with_reducible repeat (first | refine blk_drewN ?_ _ | refine blk_drew ?_ | refine blk_alloc ?_ _)); exact BK101.out) NB101_0.out (by simp)); replace BK105 := am (KeepBut.blk hk (g' := gb105) (o := .cells #[.int .i64 t102, .int .i64 t103] 32 (0, 0)) (by (with_reducible repeat (first | refine blk_drewN ?_ _ | refine blk_drew ?_ | refine blk_alloc ?_ _)); refine blk_put (cs := #[.int .i64 t102, .int .i64 0]) ?_ 1 _ rfl; (with_reducible repeat (first | refine blk_drewN ?_ _ | refine blk_drew ?_ | refine blk_alloc ?_ _)); refine blk_put (cs := #[.int .i64 0, .int .i64 0]) ?_ 0 _ rfl; (with_reducible repeat (first | refine blk_drewN ?_ _ | refine blk_drew ?_ | refine blk_alloc ?_ _)); exact BK105.out) NB105_0.out (by simp)); replace HK := am (KeepBut.trans (J2 HK GW101.out GW105.out) hk (.inl rfl)); replace HB := am (hb); replace HI0 := am (hi); (try clear hb); (try clear hb2); (try clear hk); (try clear hi)))
  replace BK101 := am (blk_drew BK101.out)
  replace BK105 := am (blk_drew BK105.out)
  replace HI0 := am (IsS143.drew HI0.out)
  replace HK := am (keep_drew HK.out)
  replace HB := am (below_drew1 HB.out)
  refine start_ (n := 8) (S := fun w' => w'.cell? ⟨gb105, 0, none⟩ = some (.int .i64 t102) ∧ w'.cell? ⟨gb105, 1, none⟩ = some (.int .i64 t103)) (ds := [7]) (tf 0 8) (by kernel_rfl) rfl rfl ⟨z0 _ BK105.out, z1 _ BK105.out⟩ (fun hHeld => ?_); refine with_tabW spec_l12AnyBlock.tab4 spec_l12AnyBlock.bits4 (fun HT_ HW_ => ?_)
  generalize w12.drew = w13 at BK101 BK105 HI0 HK HB hHeld ⊢
  refine pu 0 (some 10) (tf 1 7) (any_of HT_.out (by kernel_rfl)) ?_
  refine pu 2 (some 12) #[true, false, true, false, false, false, false, false] (any_of HT_.out (by kernel_rfl)) ?_
  refine tk 1 (some 11) (tf 3 5) (take_ofW HT_.out HW_.out (by kernel_rfl)) hHeld ?_
  refine one_ (i := 3) (N := some 13) (tf 4 4) rfl rfl (one_of HT_.out (by kernel_rfl)) (by decide) (fun K hK => ?_)
  refine Kd.R_lit_step (Kd.int .i64) _ 3 ?hg (N := 13) ?hd (xs := ([1, (-1), 256] : List Int)) (inner := [.int .i64 1, .int .i64 (-1), .int .i64 256]) (ok := fun _ => True) (okp := fun _ => True) ?hr ?hp (fun _ hk => hk) trivial (Below.refl _ _) (Nat.le_refl _) (by simp) ?_; (case hd => rfl); (case hg => rfl); (case hr => first | (go_simp; done) | (go_simp; rfl)); (case hp => exact (Reps.one (show Kd.M (Kd.int .i64) _ _ _ 1 [.int .i64 1] from rfl) (Reps.one (show Kd.M (Kd.int .i64) _ _ _ (-1) [.int .i64 (-1)] from rfl) (Reps.one (show Kd.M (Kd.int .i64) _ _ _ 256 [.int .i64 256] from rfl) (Reps.none _ _)))))
  intro v109 w14 ho15 hb hg_ hnew_
  clear hg_ hnew_
  (first | rw [← Ny108.out] at ho15 | (simp only [Int.reduceToNat] at ho15; rw [← Ny108.out] at ho15))
  have HO110 := am (Kd.R_lower ho15 (keep_size (w := w) (g := g) (row := none) (J2 HK GW101.out GW105.out)))
  replace BK101 := am (BB BK101 hb)
  replace BK105 := am (BB BK105 hb)
  replace HK := am (KeepBut.trans (J2 HK GW101.out GW105.out) (KeepBut.of_below hb g none) (.inl rfl))
  replace HB := am (below_step (K3 HB (IsS143.ge HI0.out) GE101.out GE105.out) hb)
  replace HI0 := am (IsS143.below (I143_2 HI0 NB0_101.out NB0_105.out) hb)
  clear hb ho15
  obtain ⟨Ao16, co16, eo16⟩ := Kd.R_slice HO110.out
  (first | subst eo16 | (injection eo16 with f1_ f2_ f3_; have f4_ := f1_.symm; have f5_ := f3_.symm; clear f1_ f2_ f3_; subst f4_; subst f5_))
  refine hK.out _ _ ⟨z0 _ BK105.out, z1 _ BK105.out⟩ (fun hHeld => ?_)
  clear hK K
  refine norm_ (a' := ?_) ?_ ?_
  rotate_left
  ·show Act.put _ (some 13) _ = _
   simp only [Act.put, List.setIfInBounds_toArray, List.set_cons_zero, List.set_cons_succ, i64_w, i32_w]
   rfl
  refine one_ (i := 4) (N := some 14) (tf 5 3) rfl rfl (one_of HT_.out (by kernel_rfl)) (by decide) (fun K hK => ?_)
  refine goes_ Try.func95 (by kernel_rfl) rfl #[.pointer (some ⟨g, 0, none⟩), .slice Ao16 y108.length co16] (by rfl) rfl rfl MT ?_
  with_reducible refine (spec_l1Rd_one.calls k g s0_0 t107 _ _ y108 t111 t112 w0 _ ?side1 ?side2 ?side3 ?side4 ?side5 A5.out).mono ?_
  (case side1 => exact I143_2 HI0 NB0_101.out NB0_105.out)
  (case side2 => exact K3 HB (IsS143.ge HI0.out) GE101.out GE105.out)
  (case side3 => exact KC (Kd.R_reads' HO110.out).2.2)
  (case side4 => exact (Kd.R_reads' HO110.out).2.1)
  (case side5 => exact far_slice (IsS143.own_ne HI0.out HO110.out (by decide)))
  rintro e w17 ⟨rfl, hi, hb, hk⟩
  refine ⟨_, rfl, ?_⟩
  replace BK101 := am (KeepBut.blk hk (g' := gb101) (o := .cells #[.int .i64 0, .int .i64 0] 32 (0, 0)) (KB BK101) NB101_0.out (by simp))
  replace BK105 := am (KeepBut.blk hk (g' := gb105) (o := .cells #[.int .i64 t102, .int .i64 t103] 32 (0, 0)) (KB BK105) NB105_0.out (by simp))
  replace HO110 := am (Kd.R_mono (Kd.R_keep (IsS143.apart (show IsS143 w0 _ g s0_0 t107 from I143_2 HI0 NB0_101.out NB0_105.out) (KR HO110) (by decide)) hk (fun _ h => h.2)) (fun _ h => h.1))
  replace HK := am (KeepBut.trans (J2 HK GW101.out GW105.out) hk (.inl rfl))
  replace HB := am (hb)
  replace HI0 := am (hi)
  (try clear hb)
  (try clear hb2)
  (try clear hk)
  (try clear hi)
  refine hK.out _ _ ⟨z0 _ BK105.out, z1 _ BK105.out⟩ (fun hHeld => ?_)
  clear hK K
  refine norm_ (a' := ?_) ?_ ?_
  rotate_left
  ·show Act.put _ (some 14) _ = _
   simp only [Act.put, List.setIfInBounds_toArray, List.set_cons_zero, List.set_cons_succ, i64_w, i32_w]
   rfl
  refine pu 5 (some 15) (tf 6 2) (any_of HT_.out (by kernel_rfl)) ?_
  refine pu 6 (some 16) (tf 7 1) (any_of HT_.out (by kernel_rfl)) ?_
  refine last_ (i := 7) (N := none) (tf 8 0) rfl rfl (one_of HT_.out (by kernel_rfl)) (by decide) (fun K hK => ?_)
  have hs18 : w17.cell? ⟨gb105, 0, none⟩ = some (.int .i64 t102) := z0 _ BK105.out
  have hfs18 := blk_frozen BK105.out 0
  have hns18_0 := NB101_105.out
  have hms18_0 := NB105_101.out
  refine skip_ (w1 := ?_) (by rfl) rfl ?_ ?_
  rotate_left
  ·go_simp
   rfl
  refine hK.out _ _ ?_
  clear hK K
  refine done_ (done_of HT_.out (by kernel_rfl)) ?_
  have hcz19_0 := z0 w17 BK105.out
  have hcz19_1 := z1 w17 BK105.out
  have hfz19_0 := blk_frozen BK105.out 0
  have hfz19_1 := blk_frozen BK105.out 1
  have hnb20 := NB101_0.out
  have hnc20 := NB0_101.out
  have hcz21_0 := z0 w17 BK101.out
  have hcz21_1 := z1 w17 BK101.out
  have hfz21_0 := blk_frozen BK101.out 0
  have hfz21_1 := blk_frozen BK101.out 1
  try go_wp2
  refine bodyPost_ret (results_cell_row rfl _ _ gb101 32 #[.int .i64 (wrap64 (t102 + t111)), .int .i64 t103] (0, 0) _ rfl (by (with_reducible repeat (first | refine blk_drewN ?_ _ | refine blk_drew ?_ | refine blk_alloc ?_ _)); refine blk_put (cs := #[.int .i64 (wrap64 (t102 + t111)), .int .i64 0]) ?_ 1 _ rfl; (with_reducible repeat (first | refine blk_drewN ?_ _ | refine blk_drew ?_ | refine blk_alloc ?_ _)); refine blk_put (cs := #[.int .i64 0, .int .i64 0]) ?_ 0 _ rfl; (with_reducible repeat (first | refine blk_drewN ?_ _ | refine blk_drew ?_ | refine blk_alloc ?_ _)); refine blk_far ?_ NB101_105.out _; (with_reducible repeat (first | refine blk_drewN ?_ _ | refine blk_drew ?_ | refine blk_alloc ?_ _)); exact BK101.out) Try.underlying32 rfl (by kernel_rfl)) rfl ?_
  exact ⟨by first | rfl | (simp [errW_none, errW_some] <;> rfl) | (simp [*, errW_none, errW_some] <;> rfl), I143_2 HI0 NB0_101.out NB0_105.out, K3 HB (IsS143.ge HI0.out) GE101.out GE105.out, J2 HK GW101.out GW105.out⟩
 ·rw [if_neg c4] at H
  have c4b0 : (t106 == 0) = false := beq_eq_false_iff_ne.mpr c4
  have c4b1 : (t106 != 0) = true := bne_iff_ne.mpr c4
  by_cases c22 : t106 = 1
  ·rw [if_pos c22] at H
   have c22b0 : (t106 == 1) = true := beq_iff_eq.mpr c22
   have c22b1 : (t106 != 1) = false := bne_eq_false_iff_eq.mpr c22
   clear c22
   obtain ⟨y113, hy113⟩ : ∃ y_ : List Int, y_ = (([(-1), 33, 0, 32] : List Int)) := ⟨_, rfl⟩
   replace H : ((spec_l1Rd_one.f k s0_0 t107 y113).bind fun bt116 => (some (t102, bt116.1, bt116.2))) = some (r1, r2, r3) := by first | (rw [hy113]; with_reducible exact H) | (have H2_ := (Option.bind_some _ _).symm.trans H; rw [hy113]; with_reducible exact H2_) | (have H2_ := (Option.bind_some _ _).symm.trans H; with_reducible exact H2_) | with_reducible exact H | (rw [hy113]; exact H) | exact H
   have Ny113 := Aside0.mk hy113
   clear hy113
   replace H := Option.bind_eq_some_iff.mp H
   obtain ⟨⟨t116, t117⟩, A230, H⟩ := H
   replace H : (some (t102, t116, t117)) = some (r1, r2, r3) := H
   have A23 := Aside0.mk A230
   clear A230
   simp only [Option.some.injEq, Prod.mk.injEq] at H
   obtain ⟨rfl, rfl, rfl⟩ := H
   go_enter Try.func120, Try.ntmps120
   go_wp2_with (first | ((with_reducible refine gate_dst (N := 2) rfl ?_); refine box_event rfl (N := 2) rfl (cs := #[.int .i64 0, .int .i64 0]) (t := 32) BX ?_; intro gb101 hg w24 hbox hb; replace HB := am (below_step (K1 HB (IsS143.ge HI0.out)) hb); have BK101 := am (hbox); have GW101 := am ((by rw [hg]; exact (keep_size (w := w) (g := g) (row := none) (J0 HK)) : w.heap.size ≤ gb101)); have GE101 := am ((Nat.le_trans HW0.out (by rw [hg]; exact (keep_size (w := w) (g := g) (row := none) (J0 HK)) : w.heap.size ≤ gb101) : w0.heap.size ≤ gb101)); replace HK := am (KeepBut.trans (J0 HK) (KeepBut.of_below hb g none) (.inl rfl)); have NB0_101 := am ((by rw [hg]; exact Nat.ne_of_lt (IsS143.lt (show IsS143 w0 _ g s0_0 s0_1 from I143_0 HI0)) : g ≠ gb101)); have NB101_0 := am ((by rw [hg]; exact Nat.ne_of_gt (IsS143.lt (show IsS143 w0 _ g s0_0 s0_1 from I143_0 HI0)) : gb101 ≠ g)); replace HI0 := am (IsS143.below (I143_0 HI0) hb); clear hb hbox hg) | ((with_reducible refine gate_callee (f := 144) rfl ?_); refine goesL_ (some 5) rfl rfl Try.func144 (by kernel_rfl) rfl #[.pointer (some ⟨g, 0, none⟩)] rfl MT ?_; (with_reducible refine (spec_l12Block.calls k g s0_0 s0_1 t102 t103 t104 w0 _ ?side1 ?side2 A2.out).mono ?_); (case side1 => exact I143_1 HI0 NB0_101.out); (case side2 => exact K2 HB (IsS143.ge HI0.out) GE101.out); rintro e w25 ⟨rfl, hi, hb, hk⟩; refine ⟨_, rfl, ?_⟩; replace BK101 := am (KeepBut.blk hk (g' := gb101) (o := .cells #[.int .i64 0, .int .i64 0] 32 (0, 0)) (KB BK101) NB101_0.out (by simp)); replace HK := am (KeepBut.trans (J1 HK GW101.out) hk (.inl rfl)); replace HB := am (hb); replace HI0 := am (hi); (try clear hb); (try clear hb2); (try clear hk); (try clear hi)) | ((with_reducible refine gate_dst (N := 3) rfl ?_); refine box_event rfl (N := 3) rfl (cs := #[.int .i64 0, .int .i64 0]) (t := 32) BX ?_; intro gb105 hg w26 hbox hb; replace HB := am (below_step (K2 HB (IsS143.ge HI0.out) GE101.out) hb); have BK105 := am (hbox); have GW105 := am ((by rw [hg]; exact (keep_size (w := w) (g := g) (row := none) (J1 HK GW101.out)) : w.heap.size ≤ gb105)); have GE105 := am ((Nat.le_trans HW0.out (by rw [hg]; exact (keep_size (w := w) (g := g) (row := none) (J1 HK GW101.out)) : w.heap.size ≤ gb105) : w0.heap.size ≤ gb105)); replace HK := am (KeepBut.trans (J1 HK GW101.out) (KeepBut.of_below hb g none) (.inl rfl)); have NB101_105 := am (NL BK101 hg); have NB105_101 := am (NG BK101 hg); replace BK101 := am (BB BK101 hb); have NB0_105 := am ((by rw [hg]; exact Nat.ne_of_lt (IsS143.lt (show IsS143 w0 _ g s0_0 t104 from I143_1 HI0 NB0_101.out)) : g ≠ gb105)); have NB105_0 := am ((by rw [hg]; exact Nat.ne_of_gt (IsS143.lt (show IsS143 w0 _ g s0_0 t104 from I143_1 HI0 NB0_101.out)) : gb105 ≠ g)); replace HI0 := am (IsS143.below (I143_1 HI0 NB0_101.out) hb); clear hb hbox hg; have hnb27 := NB105_101.out; have hnc27 := NB101_105.out; have hnb28 := NB105_0.out; have hnc28 := NB0_105.out; have hcz29_0 := z0 w26 BK105.out; have hcz29_1 := z1 w26 BK105.out; have hfz29_0 := blk_frozen BK105.out 0; have hfz29_1 := blk_frozen BK105.out 1) | ((with_reducible refine gate_callee (f := 91) rfl ?_); refine goesL_ (some 7) rfl rfl Try.func91 (by kernel_rfl) rfl #[.pointer (some ⟨g, 0, none⟩), .int .i64 16] rfl MT ?_; (with_reducible refine (spec_l1Rd_pick.calls k g s0_0 t104 16 t106 t107 w0 _ ?side1 ?side2 A3.out).mono ?_); (case side1 => exact I143_2 HI0 NB0_101.out NB0_105.out); (case side2 => exact K3 HB (IsS143.ge HI0.out) GE101.out GE105.out); rintro e w30 ⟨rfl, hi, hb, hk⟩; refine ⟨_, rfl, ?_⟩; replace BK101 := am (KeepBut.blk hk (g' := gb101) (o := .cells #[.int .i64 0, .int .i64 0] 32 (0, 0)) (by (with_reducible repeat (first | refine blk_drewN ?_ _ | refine blk_drew ?_ | refine blk_alloc ?_ _)); refine blk_far ?_ NB101_105.out _; (with_reducible repeat (first | refine blk_drewN ?_ _ | refine blk_drew ?_ | refine blk_alloc ?_ _)); refine blk_far ?_ NB101_105.out _; (with_reducible repeat (first | refine blk_drewN ?_ _ | refine blk_drew ?_ | refine blk_alloc ?_ _)); exact BK101.out) NB101_0.out (by simp)); replace BK105 := am (KeepBut.blk hk (g' := gb105) (o := .cells #[.int .i64 t102, .int .i64 t103] 32 (0, 0)) (by (with_reducible repeat (first | refine blk_drewN ?_ _ | refine blk_drew ?_ | refine blk_alloc ?_ _)); refine blk_put (cs := #[.int .i64 t102, .int .i64 0]) ?_ 1 _ rfl; (with_reducible repeat (first | refine blk_drewN ?_ _ | refine blk_drew ?_ | refine blk_alloc ?_ _)); refine blk_put (cs := #[.int .i64 0, .int .i64 0]) ?_ 0 _ rfl; (with_reducible repeat (first | refine blk_drewN ?_ _ | refine blk_drew ?_ | refine blk_alloc ?_ _)); exact BK105.out) NB105_0.out (by simp)); replace HK := am (KeepBut.trans (J2 HK GW101.out GW105.out) hk (.inl rfl)); replace HB := am (hb); replace HI0 := am (hi); (try clear hb); (try clear hb2); (try clear hk); (try clear hi)) | ((with_reducible refine gate_dst (N := 20) rfl ?_); refine Kd.R_lit (Kd.int .i64) _ 3 ?hg (N := 20) ?hd (xs := ([(-1), 33, 0, 32] : List Int)) (inner := [.int .i64 (-1), .int .i64 33, .int .i64 0, .int .i64 32]) (ok := fun _ => True) (okp := fun _ => True) ?hr ?hp (fun _ hk => hk) trivial (Below.refl _ _) (Nat.le_refl _) (by simp) ?_; (case hd => rfl); (case hg => rfl); (case hr => first | (go_simp; done) | (go_simp; rfl)); (case hp => exact (Reps.one (show Kd.M (Kd.int .i64) _ _ _ (-1) [.int .i64 (-1)] from rfl) (Reps.one (show Kd.M (Kd.int .i64) _ _ _ 33 [.int .i64 33] from rfl) (Reps.one (show Kd.M (Kd.int .i64) _ _ _ 0 [.int .i64 0] from rfl) (Reps.one (show Kd.M (Kd.int .i64) _ _ _ 32 [.int .i64 32] from rfl) (Reps.none _ _)))))); intro v114 w31 ho32 hb hg_ hnew_; clear hg_ hnew_; (first | rw [← Ny113.out] at ho32 | (simp only [Int.reduceToNat] at ho32; rw [← Ny113.out] at ho32)); have HO115 := am (Kd.R_lower ho32 (keep_size (w := w) (g := g) (row := none) (J2 HK GW101.out GW105.out))); replace BK101 := am (BB BK101 hb); replace BK105 := am (BB BK105 hb); replace HK := am (KeepBut.trans (J2 HK GW101.out GW105.out) (KeepBut.of_below hb g none) (.inl rfl)); replace HB := am (below_step (K3 HB (IsS143.ge HI0.out) GE101.out GE105.out) hb); replace HI0 := am (IsS143.below (I143_2 HI0 NB0_101.out NB0_105.out) hb); clear hb ho32; obtain ⟨Ao33, co33, eo33⟩ := Kd.R_slice HO115.out; subst eo33) | ((with_reducible refine gate_callee (f := 95) rfl ?_); refine goesL_ (some 21) rfl rfl Try.func95 (by kernel_rfl) rfl #[.pointer (some ⟨g, 0, none⟩), .slice Ao33 y113.length co33] rfl MT ?_; (with_reducible refine (spec_l1Rd_one.calls k g s0_0 t107 _ _ y113 t116 t117 w0 _ ?side1 ?side2 ?side3 ?side4 ?side5 A23.out).mono ?_); (case side1 => exact I143_2 HI0 NB0_101.out NB0_105.out); (case side2 => exact K3 HB (IsS143.ge HI0.out) GE101.out GE105.out); (case side3 => exact KC (Kd.R_reads' HO115.out).2.2); (case side4 => exact (Kd.R_reads' HO115.out).2.1); (case side5 => exact far_slice (IsS143.own_ne HI0.out HO115.out (by decide))); rintro e w34 ⟨rfl, hi, hb, hk⟩; refine ⟨_, rfl, ?_⟩; replace BK101 := am (KeepBut.blk hk (g' := gb101) (o := .cells #[.int .i64 0, .int .i64 0] 32 (0, 0)) (KB BK101) NB101_0.out (by simp)); replace BK105 := am (KeepBut.blk hk (g' := gb105) (o := .cells #[.int .i64 t102, .int .i64 t103] 32 (0, 0)) (KB BK105) NB105_0.out (by simp)); replace HO115 := am (Kd.R_mono (Kd.R_keep (IsS143.apart (show IsS143 w0 _ g s0_0 t107 from I143_2 HI0 NB0_101.out NB0_105.out) (KR HO115) (by decide)) hk (fun _ h => h.2)) (fun _ h => h.1)); replace HK := am (KeepBut.trans (J2 HK GW101.out GW105.out) hk (.inl rfl)); replace HB := am (hb); replace HI0 := am (hi); (try clear hb); (try clear hb2); (try clear hk); (try clear hi); have hcz35_0 := z0 w34 BK105.out; have hcz35_1 := z1 w34 BK105.out; have hfz35_0 := blk_frozen BK105.out 0; have hfz35_1 := blk_frozen BK105.out 1; have hnb36 := NB101_0.out; have hnc36 := NB0_101.out; have hcz37_0 := z0 w34 BK101.out; have hcz37_1 := z1 w34 BK101.out; have hfz37_0 := blk_frozen BK101.out 0; have hfz37_1 := blk_frozen BK101.out 1))
   refine bodyPost_ret (results_cell_row rfl _ _ gb101 32 #[.int .i64 t102, .int .i64 t116] (0, 0) _ rfl (by (with_reducible repeat (first | refine blk_drewN ?_ _ | refine blk_drew ?_ | refine blk_alloc ?_ _)); refine blk_put (cs := #[.int .i64 t102, .int .i64 0]) ?_ 1 _ rfl; (with_reducible repeat (first | refine blk_drewN ?_ _ | refine blk_drew ?_ | refine blk_alloc ?_ _)); refine blk_put (cs := #[.int .i64 0, .int .i64 0]) ?_ 0 _ rfl; (with_reducible repeat (first | refine blk_drewN ?_ _ | refine blk_drew ?_ | refine blk_alloc ?_ _)); refine blk_far ?_ NB101_105.out _; (with_reducible repeat (first | refine blk_drewN ?_ _ | refine blk_drew ?_ | refine blk_alloc ?_ _)); exact BK101.out) Try.underlying32 rfl (by kernel_rfl)) rfl ?_
   exact ⟨by first | rfl | (simp [errW_none, errW_some] <;> rfl) | (simp [*, errW_none, errW_some] <;> rfl), I143_2 HI0 NB0_101.out NB0_105.out, K3 HB (IsS143.ge HI0.out) GE101.out GE105.out, J2 HK GW101.out GW105.out⟩
  ·rw [if_neg c22] at H
   have c22b0 : (t106 == 1) = false := beq_eq_false_iff_ne.mpr c22
   have c22b1 : (t106 != 1) = true := bne_iff_ne.mpr c22
   simp only [Option.some.injEq, Prod.mk.injEq] at H
   obtain ⟨rfl, rfl, rfl⟩ := H
   go_enter Try.func120, Try.ntmps120
   go_wp2_with (first | ((with_reducible refine gate_dst (N := 2) rfl ?_); refine box_event rfl (N := 2) rfl (cs := #[.int .i64 0, .int .i64 0]) (t := 32) BX ?_; intro gb101 hg w38 hbox hb; replace HB := am (below_step (K1 HB (IsS143.ge HI0.out)) hb); have BK101 := am (hbox); have GW101 := am ((by rw [hg]; exact (keep_size (w := w) (g := g) (row := none) (J0 HK)) : w.heap.size ≤ gb101)); have GE101 := am ((Nat.le_trans HW0.out (by rw [hg]; exact (keep_size (w := w) (g := g) (row := none) (J0 HK)) : w.heap.size ≤ gb101) : w0.heap.size ≤ gb101)); replace HK := am (KeepBut.trans (J0 HK) (KeepBut.of_below hb g none) (.inl rfl)); have NB0_101 := am ((by rw [hg]; exact Nat.ne_of_lt (IsS143.lt (show IsS143 w0 _ g s0_0 s0_1 from I143_0 HI0)) : g ≠ gb101)); have NB101_0 := am ((by rw [hg]; exact Nat.ne_of_gt (IsS143.lt (show IsS143 w0 _ g s0_0 s0_1 from I143_0 HI0)) : gb101 ≠ g)); replace HI0 := am (IsS143.below (I143_0 HI0) hb); clear hb hbox hg) | ((with_reducible refine gate_callee (f := 144) rfl ?_); refine goesL_ (some 5) rfl rfl Try.func144 (by kernel_rfl) rfl #[.pointer (some ⟨g, 0, none⟩)] rfl MT ?_; (with_reducible refine (spec_l12Block.calls k g s0_0 s0_1 t102 t103 t104 w0 _ ?side1 ?side2 A2.out).mono ?_); (case side1 => exact I143_1 HI0 NB0_101.out); (case side2 => exact K2 HB (IsS143.ge HI0.out) GE101.out); rintro e w39 ⟨rfl, hi, hb, hk⟩; refine ⟨_, rfl, ?_⟩; replace BK101 := am (KeepBut.blk hk (g' := gb101) (o := .cells #[.int .i64 0, .int .i64 0] 32 (0, 0)) (KB BK101) NB101_0.out (by simp)); replace HK := am (KeepBut.trans (J1 HK GW101.out) hk (.inl rfl)); replace HB := am (hb); replace HI0 := am (hi); (try clear hb); (try clear hb2); (try clear hk); (try clear hi)) | ((with_reducible refine gate_dst (N := 3) rfl ?_); refine box_event rfl (N := 3) rfl (cs := #[.int .i64 0, .int .i64 0]) (t := 32) BX ?_; intro gb105 hg w40 hbox hb; replace HB := am (below_step (K2 HB (IsS143.ge HI0.out) GE101.out) hb); have BK105 := am (hbox); have GW105 := am ((by rw [hg]; exact (keep_size (w := w) (g := g) (row := none) (J1 HK GW101.out)) : w.heap.size ≤ gb105)); have GE105 := am ((Nat.le_trans HW0.out (by rw [hg]; exact (keep_size (w := w) (g := g) (row := none) (J1 HK GW101.out)) : w.heap.size ≤ gb105) : w0.heap.size ≤ gb105)); replace HK := am (KeepBut.trans (J1 HK GW101.out) (KeepBut.of_below hb g none) (.inl rfl)); have NB101_105 := am (NL BK101 hg); have NB105_101 := am (NG BK101 hg); replace BK101 := am (BB BK101 hb); have NB0_105 := am ((by rw [hg]; exact Nat.ne_of_lt (IsS143.lt (show IsS143 w0 _ g s0_0 t104 from I143_1 HI0 NB0_101.out)) : g ≠ gb105)); have NB105_0 := am ((by rw [hg]; exact Nat.ne_of_gt (IsS143.lt (show IsS143 w0 _ g s0_0 t104 from I143_1 HI0 NB0_101.out)) : gb105 ≠ g)); replace HI0 := am (IsS143.below (I143_1 HI0 NB0_101.out) hb); clear hb hbox hg; have hnb41 := NB105_101.out; have hnc41 := NB101_105.out; have hnb42 := NB105_0.out; have hnc42 := NB0_105.out; have hcz43_0 := z0 w40 BK105.out; have hcz43_1 := z1 w40 BK105.out; have hfz43_0 := blk_frozen BK105.out 0; have hfz43_1 := blk_frozen BK105.out 1) | ((with_reducible refine gate_callee (f := 91) rfl ?_); refine goesL_ (some 7) rfl rfl Try.func91 (by kernel_rfl) rfl #[.pointer (some ⟨g, 0, none⟩), .int .i64 16] rfl MT ?_; (with_reducible refine (spec_l1Rd_pick.calls k g s0_0 t104 16 t106 t107 w0 _ ?side1 ?side2 A3.out).mono ?_); (case side1 => exact I143_2 HI0 NB0_101.out NB0_105.out); (case side2 => exact K3 HB (IsS143.ge HI0.out) GE101.out GE105.out); rintro e w44 ⟨rfl, hi, hb, hk⟩; refine ⟨_, rfl, ?_⟩; replace BK101 := am (KeepBut.blk hk (g' := gb101) (o := .cells #[.int .i64 0, .int .i64 0] 32 (0, 0)) (by (with_reducible repeat (first | refine blk_drewN ?_ _ | refine blk_drew ?_ | refine blk_alloc ?_ _)); refine blk_far ?_ NB101_105.out _; (with_reducible repeat (first | refine blk_drewN ?_ _ | refine blk_drew ?_ | refine blk_alloc ?_ _)); refine blk_far ?_ NB101_105.out _; (with_reducible repeat (first | refine blk_drewN ?_ _ | refine blk_drew ?_ | refine blk_alloc ?_ _)); exact BK101.out) NB101_0.out (by simp)); replace BK105 := am (KeepBut.blk hk (g' := gb105) (o := .cells #[.int .i64 t102, .int .i64 t103] 32 (0, 0)) (by (with_reducible repeat (first | refine blk_drewN ?_ _ | refine blk_drew ?_ | refine blk_alloc ?_ _)); refine blk_put (cs := #[.int .i64 t102, .int .i64 0]) ?_ 1 _ rfl; (with_reducible repeat (first | refine blk_drewN ?_ _ | refine blk_drew ?_ | refine blk_alloc ?_ _)); refine blk_put (cs := #[.int .i64 0, .int .i64 0]) ?_ 0 _ rfl; (with_reducible repeat (first | refine blk_drewN ?_ _ | refine blk_drew ?_ | refine blk_alloc ?_ _)); exact BK105.out) NB105_0.out (by simp)); replace HK := am (KeepBut.trans (J2 HK GW101.out GW105.out) hk (.inl rfl)); replace HB := am (hb); replace HI0 := am (hi); (try clear hb); (try clear hb2); (try clear hk); (try clear hi); have hcz45_0 := z0 w44 BK105.out; have hcz45_1 := z1 w44 BK105.out; have hfz45_0 := blk_frozen BK105.out 0; have hfz45_1 := blk_frozen BK105.out 1; have hnb46 := NB101_0.out; have hnc46 := NB0_101.out; have hcz47_0 := z0 w44 BK101.out; have hcz47_1 := z1 w44 BK101.out; have hfz47_0 := blk_frozen BK101.out 0; have hfz47_1 := blk_frozen BK101.out 1))
   refine bodyPost_ret (results_cell_row rfl _ _ gb101 32 #[.int .i64 t102, .int .i64 t103] (0, 0) _ rfl (by (with_reducible repeat (first | refine blk_drewN ?_ _ | refine blk_drew ?_ | refine blk_alloc ?_ _)); refine blk_put (cs := #[.int .i64 t102, .int .i64 0]) ?_ 1 _ rfl; (with_reducible repeat (first | refine blk_drewN ?_ _ | refine blk_drew ?_ | refine blk_alloc ?_ _)); refine blk_put (cs := #[.int .i64 0, .int .i64 0]) ?_ 0 _ rfl; (with_reducible repeat (first | refine blk_drewN ?_ _ | refine blk_drew ?_ | refine blk_alloc ?_ _)); exact BK101.out) Try.underlying32 rfl (by kernel_rfl)) rfl ?_
   exact ⟨by first | rfl | (simp [errW_none, errW_some] <;> rfl) | (simp [*, errW_none, errW_some] <;> rfl), I143_2 HI0 NB0_101.out NB0_105.out, K3 HB (IsS143.ge HI0.out) GE101.out GE105.out, J2 HK GW101.out GW105.out⟩
end Go.Proofs.Ytioghacieopbdaa.PAll
end
section
namespace Go.Proofs.Ytioghacieopbdaa.PAll
open Go.RowKit Go.Proofs.YtioghacieopbdaaW.PrintWords Go.Proofs.YtioghacieopbdaaW.PrintLast Go.Proofs.YtioghacieopbdaaW.PrintMore
attribute [local go_sem] max2_int min2_int max_two min_two max_three min_three max_four min_four   -- for this text's walks alone
set_option linter.unusedVariables false
set_option linter.unusedSimpArgs false
def spec_l12Rule.j0 : Nat → List Int → Int → Int → Int → Int → Int → Int → Int → Int → Int → Option (Int × Int × Int × Int × Int × Int × Int × Int × Int)
 | 0, _, _, _, _, _, _, _, _, _, _ => none
 | k + 1, x1000, x1001, x124000, x124001, x124002, x124003, x124004, x124005, x124006, x124007 => if x124000 = 2 then ((spec_l1Rd_pick.f k x1000 x1001 2).bind fun bt124 => (some (x124000, bt124.1, x124002, x124003, x124004, x124005, x124006, x124007, bt124.2))) else (some (x124000, x124001, x124002, x124003, x124004, x124005, x124006, x124007, x1001))
def spec_l12Rule.f (k : Nat) (s0_0 : List Int) (s0_1 : Int) : Option (Int × Int × Int × Int × Int × Int × Int × Int × Int) := (spec_l1Rd_one.f k s0_0 s0_1 (([0, 1, 2, 2, 2] : List Int))).bind fun bt105 => ((spec_l12Block.f k s0_0 bt105.2).bind fun bt107 => ((spec_l12Block.f k s0_0 bt107.2.2).bind fun bt110 => ((spec_l1Rd_one.f k s0_0 bt110.2.2 (([0, 0, 80, 100] : List Int))).bind fun bt116 => ((spec_l1Rd_one.f k s0_0 bt116.2 (([65535, 80, 100, 443] : List Int))).bind fun bt121 => (if bt121.1 < bt116.1 then (spec_l12Rule.j0 k s0_0 bt121.2 bt105.1 0 bt107.1 bt107.2.1 bt110.1 bt110.2.1 bt116.1 bt116.1) else (spec_l12Rule.j0 k s0_0 bt121.2 bt105.1 0 bt107.1 bt107.2.1 bt110.1 bt110.2.1 bt116.1 bt121.1))))))
set_option maxHeartbeats 8000000 in
set_option maxRecDepth 100000 in
theorem spec_l12Rule.calls (k : Nat) (g : Nat) (s0_0 : List Int) (s0_1 : Int) (r1 : Int) (r2 : Int) (r3 : Int) (r4 : Int) (r5 : Int) (r6 : Int) (r7 : Int) (r8 : Int) (r9 : Int) (w0 w : World) (hI : IsS143 w0 w g s0_0 s0_1) (hB : Below w0.heap.size w0 w) (h : spec_l12Rule.f k s0_0 s0_1 = some (r1, r2, r3, r4, r5, r6, r7, r8, r9)) :
  Calls Try.prog 123 #[.pointer (some ⟨g, 0, none⟩)] w fun e w' => e = .returned (.agg #[.int .i64 r1, .int .i64 r2, .int .i64 r3, .int .i64 r4, .int .i64 r5, .int .i64 r6, .int .i64 r7, .int .i64 r8]) ∧ IsS143 w0 w' g s0_0 r9 ∧ Below w0.heap.size w0 w' ∧ KeepBut w w' g none := by
 have hu34 := Try.underlying34
 have HI0 := Aside0.mk hI
 have HK := am (KeepBut.refl w g none)
 have HL := Aside0.mk hB.size
 clear hI
 have HW0 := Aside0.mk hB.size
 have HB := Aside0.mk hB
 clear hB
 have H : ((spec_l1Rd_one.f k s0_0 s0_1 (([0, 1, 2, 2, 2] : List Int))).bind fun bt105 => ((spec_l12Block.f k s0_0 bt105.2).bind fun bt107 => ((spec_l12Block.f k s0_0 bt107.2.2).bind fun bt110 => ((spec_l1Rd_one.f k s0_0 bt110.2.2 (([0, 0, 80, 100] : List Int))).bind fun bt116 => ((spec_l1Rd_one.f k s0_0 bt116.2 (([65535, 80, 100, 443] : List Int))).bind fun bt121 => (if bt121.1 < bt116.1 then (spec_l12Rule.j0 k s0_0 bt121.2 bt105.1 0 bt107.1 bt107.2.1 bt110.1 bt110.2.1 bt116.1 bt116.1) else (spec_l12Rule.j0 k s0_0 bt121.2 bt105.1 0 bt107.1 bt107.2.1 bt110.1 bt110.2.1 bt116.1 bt121.1))))))) = some (r1, r2, r3, r4, r5, r6, r7, r8, r9) := h
 clear h
 obtain ⟨y102, hy102⟩ : ∃ y_ : List Int, y_ = (([0, 1, 2, 2, 2] : List Int)) := ⟨_, rfl⟩
 replace H : ((spec_l1Rd_one.f k s0_0 s0_1 y102).bind fun bt105 => ((spec_l12Block.f k s0_0 bt105.2).bind fun bt107 => ((spec_l12Block.f k s0_0 bt107.2.2).bind fun bt110 => ((spec_l1Rd_one.f k s0_0 bt110.2.2 (([0, 0, 80, 100] : List Int))).bind fun bt116 => ((spec_l1Rd_one.f k s0_0 bt116.2 (([65535, 80, 100, 443] : List Int))).bind fun bt121 => (if bt121.1 < bt116.1 then (spec_l12Rule.j0 k s0_0 bt121.2 bt105.1 0 bt107.1 bt107.2.1 bt110.1 bt110.2.1 bt116.1 bt116.1) else (spec_l12Rule.j0 k s0_0 bt121.2 bt105.1 0 bt107.1 bt107.2.1 bt110.1 bt110.2.1 bt116.1 bt121.1))))))) = some (r1, r2, r3, r4, r5, r6, r7, r8, r9) := by first | (rw [hy102]; with_reducible exact H) | (have H2_ := (Option.bind_some _ _).symm.trans H; rw [hy102]; with_reducible exact H2_) | (have H2_ := (Option.bind_some _ _).symm.trans H; with_reducible exact H2_) | with_reducible exact H | (rw [hy102]; exact H) | exact H
 have Ny102 := Aside0.mk hy102
 clear hy102
 replace H := Option.bind_eq_some_iff.mp H
 obtain ⟨⟨t105, t106⟩, A20, H⟩ := H
 replace H : ((spec_l12Block.f k s0_0 t106).bind fun bt107 => ((spec_l12Block.f k s0_0 bt107.2.2).bind fun bt110 => ((spec_l1Rd_one.f k s0_0 bt110.2.2 (([0, 0, 80, 100] : List Int))).bind fun bt116 => ((spec_l1Rd_one.f k s0_0 bt116.2 (([65535, 80, 100, 443] : List Int))).bind fun bt121 => (if bt121.1 < bt116.1 then (spec_l12Rule.j0 k s0_0 bt121.2 t105 0 bt107.1 bt107.2.1 bt110.1 bt110.2.1 bt116.1 bt116.1) else (spec_l12Rule.j0 k s0_0 bt121.2 t105 0 bt107.1 bt107.2.1 bt110.1 bt110.2.1 bt116.1 bt121.1)))))) = some (r1, r2, r3, r4, r5, r6, r7, r8, r9) := H
 have A2 := Aside0.mk A20
 clear A20
 replace H := Option.bind_eq_some_iff.mp H
 obtain ⟨⟨t107, t108, t109⟩, A30, H⟩ := H
 replace H : ((spec_l12Block.f k s0_0 t109).bind fun bt110 => ((spec_l1Rd_one.f k s0_0 bt110.2.2 (([0, 0, 80, 100] : List Int))).bind fun bt116 => ((spec_l1Rd_one.f k s0_0 bt116.2 (([65535, 80, 100, 443] : List Int))).bind fun bt121 => (if bt121.1 < bt116.1 then (spec_l12Rule.j0 k s0_0 bt121.2 t105 0 t107 t108 bt110.1 bt110.2.1 bt116.1 bt116.1) else (spec_l12Rule.j0 k s0_0 bt121.2 t105 0 t107 t108 bt110.1 bt110.2.1 bt116.1 bt121.1))))) = some (r1, r2, r3, r4, r5, r6, r7, r8, r9) := H
 have A3 := Aside0.mk A30
 clear A30
 replace H := Option.bind_eq_some_iff.mp H
 obtain ⟨⟨t110, t111, t112⟩, A40, H⟩ := H
 replace H : ((spec_l1Rd_one.f k s0_0 t112 (([0, 0, 80, 100] : List Int))).bind fun bt116 => ((spec_l1Rd_one.f k s0_0 bt116.2 (([65535, 80, 100, 443] : List Int))).bind fun bt121 => (if bt121.1 < bt116.1 then (spec_l12Rule.j0 k s0_0 bt121.2 t105 0 t107 t108 t110 t111 bt116.1 bt116.1) else (spec_l12Rule.j0 k s0_0 bt121.2 t105 0 t107 t108 t110 t111 bt116.1 bt121.1)))) = some (r1, r2, r3, r4, r5, r6, r7, r8, r9) := H
 have A4 := Aside0.mk A40
 clear A40
 obtain ⟨y113, hy113⟩ : ∃ y_ : List Int, y_ = (([0, 0, 80, 100] : List Int)) := ⟨_, rfl⟩
 replace H : ((spec_l1Rd_one.f k s0_0 t112 y113).bind fun bt116 => ((spec_l1Rd_one.f k s0_0 bt116.2 (([65535, 80, 100, 443] : List Int))).bind fun bt121 => (if bt121.1 < bt116.1 then (spec_l12Rule.j0 k s0_0 bt121.2 t105 0 t107 t108 t110 t111 bt116.1 bt116.1) else (spec_l12Rule.j0 k s0_0 bt121.2 t105 0 t107 t108 t110 t111 bt116.1 bt121.1)))) = some (r1, r2, r3, r4, r5, r6, r7, r8, r9) := by first | (rw [hy113]; with_reducible exact H) | (have H2_ := (Option.bind_some _ _).symm.trans H; rw [hy113]; with_reducible exact H2_) | (have H2_ := (Option.bind_some _ _).symm.trans H; with_reducible exact H2_) | with_reducible exact H | (rw [hy113]; exact H) | exact H
 have Ny113 := Aside0.mk hy113
 clear hy113
 replace H := Option.bind_eq_some_iff.mp H
 obtain ⟨⟨t116, t117⟩, A50, H⟩ := H
 replace H : ((spec_l1Rd_one.f k s0_0 t117 (([65535, 80, 100, 443] : List Int))).bind fun bt121 => (if bt121.1 < t116 then (spec_l12Rule.j0 k s0_0 bt121.2 t105 0 t107 t108 t110 t111 t116 t116) else (spec_l12Rule.j0 k s0_0 bt121.2 t105 0 t107 t108 t110 t111 t116 bt121.1))) = some (r1, r2, r3, r4, r5, r6, r7, r8, r9) := H
 have A5 := Aside0.mk A50
 clear A50
 obtain ⟨y118, hy118⟩ : ∃ y_ : List Int, y_ = (([65535, 80, 100, 443] : List Int)) := ⟨_, rfl⟩
 replace H : ((spec_l1Rd_one.f k s0_0 t117 y118).bind fun bt121 => (if bt121.1 < t116 then (spec_l12Rule.j0 k s0_0 bt121.2 t105 0 t107 t108 t110 t111 t116 t116) else (spec_l12Rule.j0 k s0_0 bt121.2 t105 0 t107 t108 t110 t111 t116 bt121.1))) = some (r1, r2, r3, r4, r5, r6, r7, r8, r9) := by first | (rw [hy118]; with_reducible exact H) | (have H2_ := (Option.bind_some _ _).symm.trans H; rw [hy118]; with_reducible exact H2_) | (have H2_ := (Option.bind_some _ _).symm.trans H; with_reducible exact H2_) | with_reducible exact H | (rw [hy118]; exact H) | exact H
 have Ny118 := Aside0.mk hy118
 clear hy118
 replace H := Option.bind_eq_some_iff.mp H
 obtain ⟨⟨t121, t122⟩, A60, H⟩ := H
 replace H : (if t121 < t116 then (spec_l12Rule.j0 k s0_0 t122 t105 0 t107 t108 t110 t111 t116 t116) else (spec_l12Rule.j0 k s0_0 t122 t105 0 t107 t108 t110 t111 t116 t121)) = some (r1, r2, r3, r4, r5, r6, r7, r8, r9) := H
 have A6 := Aside0.mk A60
 clear A60
 have HC7 := Aside0.mk H
 clear H
 go_enter Try.func123, Try.ntmps123
 go_upto_if 22 with (first | ((with_reducible refine gate_dst (N := 2) rfl ?_); refine box_event rfl (N := 2) rfl (cs := #[.int .i64 0, .int .i64 0, .int .i64 0, .int .i64 0, .int .i64 0, .int .i64 0, .int .i64 0, .int .i64 0]) (t := 34) BX ?_; intro gb101 hg w8 hbox hb; replace HB := am (below_step (K1 HB (IsS143.ge HI0.out)) hb); have BK101 := am (hbox); have GW101 := am ((by rw [hg]; exact (keep_size (w := w) (g := g) (row := none) (J0 HK)) : w.heap.size ≤ gb101)); have GE101 := am ((Nat.le_trans HW0.out (by rw [hg]; exact (keep_size (w := w) (g := g) (row := none) (J0 HK)) : w.heap.size ≤ gb101) : w0.heap.size ≤ gb101)); replace HK := am (KeepBut.trans (J0 HK) (KeepBut.of_below hb g none) (.inl rfl)); have NB0_101 := am ((by rw [hg]; exact Nat.ne_of_lt (IsS143.lt (show IsS143 w0 _ g s0_0 s0_1 from I143_0 HI0)) : g ≠ gb101)); have NB101_0 := am ((by rw [hg]; exact Nat.ne_of_gt (IsS143.lt (show IsS143 w0 _ g s0_0 s0_1 from I143_0 HI0)) : gb101 ≠ g)); replace HI0 := am (IsS143.below (I143_0 HI0) hb); clear hb hbox hg) | ((with_reducible refine gate_dst (N := 5) rfl ?_); refine Kd.R_lit (Kd.int .i64) _ 3 ?hg (N := 5) ?hd (xs := ([0, 1, 2, 2, 2] : List Int)) (inner := [.int .i64 0, .int .i64 1, .int .i64 2, .int .i64 2, .int .i64 2]) (ok := fun _ => True) (okp := fun _ => True) ?hr ?hp (fun _ hk => hk) trivial (Below.refl _ _) (Nat.le_refl _) (by simp) ?_; (case hd => rfl); (case hg => rfl); (case hr => first | (go_simp; done) | (go_simp; rfl)); (case hp => exact (Reps.one (show Kd.M (Kd.int .i64) _ _ _ 0 [.int .i64 0] from rfl) (Reps.one (show Kd.M (Kd.int .i64) _ _ _ 1 [.int .i64 1] from rfl) (Reps.one (show Kd.M (Kd.int .i64) _ _ _ 2 [.int .i64 2] from rfl) (Reps.one (show Kd.M (Kd.int .i64) _ _ _ 2 [.int .i64 2] from rfl) (Reps.one (show Kd.M (Kd.int .i64) _ _ _ 2 [.int .i64 2] from rfl) (Reps.none _ _))))))); intro v103 w9 ho10 hb hg_ hnew_; clear hg_ hnew_; (first | rw [← Ny102.out] at ho10 | (simp only [Int.reduceToNat] at ho10; rw [← Ny102.out] at ho10)); have HO104 := am (Kd.R_lower ho10 (keep_size (w := w) (g := g) (row := none) (J1 HK GW101.out))); replace BK101 := am (BB BK101 hb); replace HK := am (KeepBut.trans (J1 HK GW101.out) (KeepBut.of_below hb g none) (.inl rfl)); replace HB := am (below_step (K2 HB (IsS143.ge HI0.out) GE101.out) hb); replace HI0 := am (IsS143.below (I143_1 HI0 NB0_101.out) hb); clear hb ho10; obtain ⟨Ao11, co11, eo11⟩ := Kd.R_slice HO104.out; subst eo11) | ((with_reducible refine gate_callee (f := 95) rfl ?_); refine goesL_ (some 6) rfl rfl Try.func95 (by kernel_rfl) rfl #[.pointer (some ⟨g, 0, none⟩), .slice Ao11 y102.length co11] rfl MT ?_; (with_reducible refine (spec_l1Rd_one.calls k g s0_0 s0_1 _ _ y102 t105 t106 w0 _ ?side1 ?side2 ?side3 ?side4 ?side5 A2.out).mono ?_); (case side1 => exact I143_1 HI0 NB0_101.out); (case side2 => exact K2 HB (IsS143.ge HI0.out) GE101.out); (case side3 => exact KC (Kd.R_reads' HO104.out).2.2); (case side4 => exact (Kd.R_reads' HO104.out).2.1); (case side5 => exact far_slice (IsS143.own_ne HI0.out HO104.out (by decide))); rintro e w12 ⟨rfl, hi, hb, hk⟩; refine ⟨_, rfl, ?_⟩; replace BK101 := am (KeepBut.blk hk (g' := gb101) (o := .cells #[.int .i64 0, .int .i64 0, .int .i64 0, .int .i64 0, .int .i64 0, .int .i64 0, .int .i64 0, .int .i64 0] 34 (0, 0)) (KB BK101) NB101_0.out (by simp)); replace HO104 := am (Kd.R_mono (Kd.R_keep (IsS143.apart (show IsS143 w0 _ g s0_0 s0_1 from I143_1 HI0 NB0_101.out) (KR HO104) (by decide)) hk (fun _ h => h.2)) (fun _ h => h.1)); replace HK := am (KeepBut.trans (J1 HK GW101.out) hk (.inl rfl)); replace HB := am (hb); replace HI0 := am (hi); (try clear hb); (try clear hb2); (try clear hk); (try clear hi)) | ((with_reducible refine gate_callee (f := 144) rfl ?_); refine goesL_ (some 8) rfl rfl Try.func144 (by kernel_rfl) rfl #[.pointer (some ⟨g, 0, none⟩)] rfl MT ?_; (with_reducible refine (spec_l12Block.calls k g s0_0 t106 t107 t108 t109 w0 _ ?side1 ?side2 A3.out).mono ?_); (case side1 => exact I143_1 HI0 NB0_101.out); (case side2 => exact K2 HB (IsS143.ge HI0.out) GE101.out); rintro e w13 ⟨rfl, hi, hb, hk⟩; refine ⟨_, rfl, ?_⟩; replace BK101 := am (KeepBut.blk hk (g' := gb101) (o := .cells #[.int .i64 0, .int .i64 0, .int .i64 0, .int .i64 0, .int .i64 0, .int .i64 0, .int .i64 0, .int .i64 0] 34 (0, 0)) (KB BK101) NB101_0.out (by simp)); replace HO104 := am (Kd.R_mono (Kd.R_keep (IsS143.apart (show IsS143 w0 _ g s0_0 t106 from I143_1 HI0 NB0_101.out) (KR HO104) (by decide)) hk (fun _ h => h.2)) (fun _ h => h.1)); replace HK := am (KeepBut.trans (J1 HK GW101.out) hk (.inl rfl)); replace HB := am (hb); replace HI0 := am (hi); (try clear hb); (try clear hb2); (try clear hk); (try clear hi)) | ((with_reducible refine gate_callee (f := 144) rfl ?_); refine goesL_ (some 10) rfl rfl Try.func144 (by kernel_rfl) rfl #[.pointer (some ⟨g, 0, none⟩)] rfl MT ?_; (with_reducible refine (spec_l12Block.calls k g s0_0 t109 t110 t111 t112 w0 _ ?side1 ?side2 A4.out).mono ?_); (case side1 => exact I143_1 HI0 NB0_101.out); (case side2 => exact K2 HB (IsS143.ge HI0.out) GE101.out); rintro e w14 ⟨rfl, hi, hb, hk⟩; refine ⟨_, rfl, ?_⟩; replace BK101 := am (KeepBut.blk hk (g' := gb101) (o := .cells #[.int .i64 0, .int .i64 0, .int .i64 0, .int .i64 0, .int .i64 0, .int .i64 0, .int .i64 0, .int .i64 0] 34 (0, 0)) (KB BK101) NB101_0.out (by simp)); replace HO104 := am (Kd.R_mono (Kd.R_keep (IsS143.apart (show IsS143 w0 _ g s0_0 t109 from I143_1 HI0 NB0_101.out) (KR HO104) (by decide)) hk (fun _ h => h.2)) (fun _ h => h.1)); replace HK := am (KeepBut.trans (J1 HK GW101.out) hk (.inl rfl)); replace HB := am (hb); replace HI0 := am (hi); (try clear hb); (try clear hb2); (try clear hk); (try clear hi)) | ((with_reducible refine gate_dst (N := 12) rfl ?_); refine Kd.R_lit (Kd.int .i64) _ 3 ?hg (N := 12) ?hd (xs := ([0, 0, 80, 100] : List Int)) (inner := [.int .i64 0, .int .i64 0, .int .i64 80, .int .i64 100]) (ok := fun _ => True) (okp := fun _ => True) ?hr ?hp (fun _ hk => hk) trivial (Below.refl _ _) (Nat.le_refl _) (by simp) ?_; (case hd => rfl); (case hg => rfl); (case hr => first | (go_simp; done) | (go_simp; rfl)); (case hp => exact (Reps.one (show Kd.M (Kd.int .i64) _ _ _ 0 [.int .i64 0] from rfl) (Reps.one (show Kd.M (Kd.int .i64) _ _ _ 0 [.int .i64 0] from rfl) (Reps.one (show Kd.M (Kd.int .i64) _ _ _ 80 [.int .i64 80] from rfl) (Reps.one (show Kd.M (Kd.int .i64) _ _ _ 100 [.int .i64 100] from rfl) (Reps.none _ _)))))); intro v114 w15 ho16 hb hg_ hnew_; clear hg_ hnew_; (first | rw [← Ny113.out] at ho16 | (simp only [Int.reduceToNat] at ho16; rw [← Ny113.out] at ho16)); have HO115 := am (Kd.R_lower (Kd.R_new' ho16 (Kd.R_lt (KR HO104))) (keep_size (w := w) (g := g) (row := none) (J1 HK GW101.out))); replace HO104 := am (Kd.R_elder' (KR HO104) (Kd.R_base ho16) hb); replace BK101 := am (BB BK101 hb); replace HK := am (KeepBut.trans (J1 HK GW101.out) (KeepBut.of_below hb g none) (.inl rfl)); replace HB := am (below_step (K2 HB (IsS143.ge HI0.out) GE101.out) hb); replace HI0 := am (IsS143.below (I143_1 HI0 NB0_101.out) hb); clear hb ho16; obtain ⟨Ao17, co17, eo17⟩ := Kd.R_slice HO115.out; subst eo17) | ((with_reducible refine gate_callee (f := 95) rfl ?_); refine goesL_ (some 13) rfl rfl Try.func95 (by kernel_rfl) rfl #[.pointer (some ⟨g, 0, none⟩), .slice Ao17 y113.length co17] rfl MT ?_; (with_reducible refine (spec_l1Rd_one.calls k g s0_0 t112 _ _ y113 t116 t117 w0 _ ?side1 ?side2 ?side3 ?side4 ?side5 A5.out).mono ?_); (case side1 => exact I143_1 HI0 NB0_101.out); (case side2 => exact K2 HB (IsS143.ge HI0.out) GE101.out); (case side3 => exact KC (Kd.R_reads' HO115.out).2.2); (case side4 => exact (Kd.R_reads' HO115.out).2.1); (case side5 => exact far_slice (IsS143.own_ne HI0.out HO115.out (by decide))); rintro e w18 ⟨rfl, hi, hb, hk⟩; refine ⟨_, rfl, ?_⟩; replace BK101 := am (KeepBut.blk hk (g' := gb101) (o := .cells #[.int .i64 0, .int .i64 0, .int .i64 0, .int .i64 0, .int .i64 0, .int .i64 0, .int .i64 0, .int .i64 0] 34 (0, 0)) (KB BK101) NB101_0.out (by simp)); replace HO104 := am (Kd.R_mono (Kd.R_keep (IsS143.apart (show IsS143 w0 _ g s0_0 t112 from I143_1 HI0 NB0_101.out) (KR HO104) (by decide)) hk (fun _ h => h.2)) (fun _ h => h.1)); replace HO115 := am (Kd.R_mono (Kd.R_keep (IsS143.apart (show IsS143 w0 _ g s0_0 t112 from I143_1 HI0 NB0_101.out) (KR HO115) (by decide)) hk (fun _ h => h.2)) (fun _ h => h.1)); replace HK := am (KeepBut.trans (J1 HK GW101.out) hk (.inl rfl)); replace HB := am (hb); replace HI0 := am (hi); (try clear hb); (try clear hb2); (try clear hk); (try clear hi)) | ((with_reducible refine gate_dst (N := 15) rfl ?_); refine Kd.R_lit (Kd.int .i64) _ 3 ?hg (N := 15) ?hd (xs := ([65535, 80, 100, 443] : List Int)) (inner := [.int .i64 65535, .int .i64 80, .int .i64 100, .int .i64 443]) (ok := fun _ => True) (okp := fun _ => True) ?hr ?hp (fun _ hk => hk) trivial (Below.refl _ _) (Nat.le_refl _) (by simp) ?_; (case hd => rfl); (case hg => rfl); (case hr => first | (go_simp; done) | (go_simp; rfl)); (case hp => exact (Reps.one (show Kd.M (Kd.int .i64) _ _ _ 65535 [.int .i64 65535] from rfl) (Reps.one (show Kd.M (Kd.int .i64) _ _ _ 80 [.int .i64 80] from rfl) (Reps.one (show Kd.M (Kd.int .i64) _ _ _ 100 [.int .i64 100] from rfl) (Reps.one (show Kd.M (Kd.int .i64) _ _ _ 443 [.int .i64 443] from rfl) (Reps.none _ _)))))); intro v119 w19 ho20 hb hg_ hnew_; clear hg_ hnew_; (first | rw [← Ny118.out] at ho20 | (simp only [Int.reduceToNat] at ho20; rw [← Ny118.out] at ho20)); have HO120 := am (Kd.R_lower (Kd.R_new' (Kd.R_new' ho20 (Kd.R_lt (KR HO104))) (Kd.R_lt (KR HO115))) (keep_size (w := w) (g := g) (row := none) (J1 HK GW101.out))); replace HO104 := am (Kd.R_elder' (KR HO104) (Kd.R_base ho20) hb); replace HO115 := am (Kd.R_elder' (KR HO115) (Kd.R_base ho20) hb); replace BK101 := am (BB BK101 hb); replace HK := am (KeepBut.trans (J1 HK GW101.out) (KeepBut.of_below hb g none) (.inl rfl)); replace HB := am (below_step (K2 HB (IsS143.ge HI0.out) GE101.out) hb); replace HI0 := am (IsS143.below (I143_1 HI0 NB0_101.out) hb); clear hb ho20; obtain ⟨Ao21, co21, eo21⟩ := Kd.R_slice HO120.out; subst eo21) | ((with_reducible refine gate_callee (f := 95) rfl ?_); refine goesL_ (some 16) rfl rfl Try.func95 (by kernel_rfl) rfl #[.pointer (some ⟨g, 0, none⟩), .slice Ao21 y118.length co21] rfl MT ?_; (with_reducible refine (spec_l1Rd_one.calls k g s0_0 t117 _ _ y118 t121 t122 w0 _ ?side1 ?side2 ?side3 ?side4 ?side5 A6.out).mono ?_); (case side1 => exact I143_1 HI0 NB0_101.out); (case side2 => exact K2 HB (IsS143.ge HI0.out) GE101.out); (case side3 => exact KC (Kd.R_reads' HO120.out).2.2); (case side4 => exact (Kd.R_reads' HO120.out).2.1); (case side5 => exact far_slice (IsS143.own_ne HI0.out HO120.out (by decide))); rintro e w22 ⟨rfl, hi, hb, hk⟩; refine ⟨_, rfl, ?_⟩; replace BK101 := am (KeepBut.blk hk (g' := gb101) (o := .cells #[.int .i64 0, .int .i64 0, .int .i64 0, .int .i64 0, .int .i64 0, .int .i64 0, .int .i64 0, .int .i64 0] 34 (0, 0)) (KB BK101) NB101_0.out (by simp)); replace HO104 := am (Kd.R_mono (Kd.R_keep (IsS143.apart (show IsS143 w0 _ g s0_0 t117 from I143_1 HI0 NB0_101.out) (KR HO104) (by decide)) hk (fun _ h => h.2)) (fun _ h => h.1)); replace HO115 := am (Kd.R_mono (Kd.R_keep (IsS143.apart (show IsS143 w0 _ g s0_0 t117 from I143_1 HI0 NB0_101.out) (KR HO115) (by decide)) hk (fun _ h => h.2)) (fun _ h => h.1)); replace HO120 := am (Kd.R_mono (Kd.R_keep (IsS143.apart (show IsS143 w0 _ g s0_0 t117 from I143_1 HI0 NB0_101.out) (KR HO120) (by decide)) hk (fun _ h => h.2)) (fun _ h => h.1)); replace HK := am (KeepBut.trans (J1 HK GW101.out) hk (.inl rfl)); replace HB := am (hb); replace HI0 := am (hi); (try clear hb); (try clear hb2); (try clear hk); (try clear hi)) | ((with_reducible refine gate_dst (N := 3) rfl ?_); refine box_event rfl (N := 3) rfl (cs := #[.int .i64 0, .int .i64 0, .int .i64 0, .int .i64 0, .int .i64 0, .int .i64 0, .int .i64 0, .int .i64 0]) (t := 34) BX ?_; intro gb123 hg w23 hbox hb; replace HO104 := am (Kd.R_below (KR HO104) hb); replace HO115 := am (Kd.R_below (KR HO115) hb); replace HO120 := am (Kd.R_below (KR HO120) hb); replace HB := am (below_step (K2 HB (IsS143.ge HI0.out) GE101.out) hb); have BK123 := am (hbox); have GW123 := am ((by rw [hg]; exact (keep_size (w := w) (g := g) (row := none) (J1 HK GW101.out)) : w.heap.size ≤ gb123)); have GE123 := am ((Nat.le_trans HW0.out (by rw [hg]; exact (keep_size (w := w) (g := g) (row := none) (J1 HK GW101.out)) : w.heap.size ≤ gb123) : w0.heap.size ≤ gb123)); replace HK := am (KeepBut.trans (J1 HK GW101.out) (KeepBut.of_below hb g none) (.inl rfl)); have NB101_123 := am (NL BK101 hg); have NB123_101 := am (NG BK101 hg); replace BK101 := am (BB BK101 hb); have NB0_123 := am ((by rw [hg]; exact Nat.ne_of_lt (IsS143.lt (show IsS143 w0 _ g s0_0 t122 from I143_1 HI0 NB0_101.out)) : g ≠ gb123)); have NB123_0 := am ((by rw [hg]; exact Nat.ne_of_gt (IsS143.lt (show IsS143 w0 _ g s0_0 t122 from I143_1 HI0 NB0_101.out)) : gb123 ≠ g)); replace HI0 := am (IsS143.below (I143_1 HI0 NB0_101.out) hb); clear hb hbox hg; have hnb24 := NB123_101.out; have hnc24 := NB101_123.out; have hnb25 := NB123_0.out; have hnc25 := NB0_123.out; have hcz26_0 := z0 w23 BK123.out; have hcz26_1 := z1 w23 BK123.out; have hcz26_2 := z2 w23 BK123.out; have hcz26_3 := z3 w23 BK123.out; have hcz26_4 := z4 w23 BK123.out; have hcz26_5 := z5 w23 BK123.out; have hcz26_6 := z6 w23 BK123.out; have hcz26_7 := z7 w23 BK123.out; have hfz26_0 := blk_frozen BK123.out 0; have hfz26_1 := blk_frozen BK123.out 1; have hfz26_2 := blk_frozen BK123.out 2; have hfz26_3 := blk_frozen BK123.out 3; have hfz26_4 := blk_frozen BK123.out 4; have hfz26_5 := blk_frozen BK123.out 5; have hfz26_6 := blk_frozen BK123.out 6; have hfz26_7 := blk_frozen BK123.out 7))
 (try simp only [Act.put, List.setIfInBounds_toArray, List.set_cons_zero, List.set_cons_succ])
 go_cut [] (fun wc => ∃ (kq : Nat) (x124007_6 : Int), Aside0 (spec_l12Rule.j0 kq s0_0 t122 t105 0 t107 t108 t110 t111 t116 x124007_6 = some (r1, r2, r3, r4, r5, r6, r7, r8, r9)) ∧ Aside0 (kq ≤ k) ∧ Aside0 (wc.heap[gb101]? = some (.cells #[.int .i64 0, .int .i64 0, .int .i64 0, .int .i64 0, .int .i64 0, .int .i64 0, .int .i64 0, .int .i64 0] 34 (0, 0))) ∧ Aside0 (wc.heap[gb123]? = some (.cells #[.int .i64 t105, .int .i64 0, .int .i64 t107, .int .i64 t108, .int .i64 t110, .int .i64 t111, .int .i64 t116, .int .i64 x124007_6] 34 (0, 0))) ∧ Aside0 (IsS143 w0 wc g s0_0 t122) ∧ Aside0 (KeepBut w wc g none) ∧ Aside0 (Below w0.heap.size w0 wc))
 case first =>
  have H := HC7.out
  clear HC7
  by_cases c27 : t121 < t116
  ·rw [if_pos c27] at H
   have c27b0 : decide (t121 < t116) = true := decide_eq_true c27
   clear c27
   (first | rw [c27b0] | (simp only [i64_w, i32_w]; rw [c27b0]) | skip)
   have H' := Aside0.mk H
   clear H
   have hnb28 := NB123_101.out
   have hnc28 := NB101_123.out
   have hnb29 := NB123_0.out
   have hnc29 := NB0_123.out
   have hcz30_0 := z0 w23 BK123.out
   have hcz30_1 := z1 w23 BK123.out
   have hcz30_2 := z2 w23 BK123.out
   have hcz30_3 := z3 w23 BK123.out
   have hcz30_4 := z4 w23 BK123.out
   have hcz30_5 := z5 w23 BK123.out
   have hcz30_6 := z6 w23 BK123.out
   have hcz30_7 := z7 w23 BK123.out
   have hfz30_0 := blk_frozen BK123.out 0
   have hfz30_1 := blk_frozen BK123.out 1
   have hfz30_2 := blk_frozen BK123.out 2
   have hfz30_3 := blk_frozen BK123.out 3
   have hfz30_4 := blk_frozen BK123.out 4
   have hfz30_5 := blk_frozen BK123.out 5
   have hfz30_6 := blk_frozen BK123.out 6
   have hfz30_7 := blk_frozen BK123.out 7
   go_wp2
   go_meet
   case rel => exact ⟨_, (t116), H', ⟨by first | omega | exact Nat.le_refl _⟩, ⟨by (with_reducible repeat (first | refine blk_drewN ?_ _ | refine blk_drew ?_ | refine blk_alloc ?_ _)); refine blk_far ?_ NB101_123.out _; (with_reducible repeat (first | refine blk_drewN ?_ _ | refine blk_drew ?_ | refine blk_alloc ?_ _)); refine blk_far ?_ NB101_123.out _; (with_reducible repeat (first | refine blk_drewN ?_ _ | refine blk_drew ?_ | refine blk_alloc ?_ _)); refine blk_far ?_ NB101_123.out _; (with_reducible repeat (first | refine blk_drewN ?_ _ | refine blk_drew ?_ | refine blk_alloc ?_ _)); refine blk_far ?_ NB101_123.out _; (with_reducible repeat (first | refine blk_drewN ?_ _ | refine blk_drew ?_ | refine blk_alloc ?_ _)); refine blk_far ?_ NB101_123.out _; (with_reducible repeat (first | refine blk_drewN ?_ _ | refine blk_drew ?_ | refine blk_alloc ?_ _)); refine blk_far ?_ NB101_123.out _; (with_reducible repeat (first | refine blk_drewN ?_ _ | refine blk_drew ?_ | refine blk_alloc ?_ _)); refine blk_far ?_ NB101_123.out _; (with_reducible repeat (first | refine blk_drewN ?_ _ | refine blk_drew ?_ | refine blk_alloc ?_ _)); refine blk_far ?_ NB101_123.out _; (with_reducible repeat (first | refine blk_drewN ?_ _ | refine blk_drew ?_ | refine blk_alloc ?_ _)); refine blk_far ?_ NB101_123.out _; (with_reducible repeat (first | refine blk_drewN ?_ _ | refine blk_drew ?_ | refine blk_alloc ?_ _)); exact BK101.out⟩, ⟨by (with_reducible repeat (first | refine blk_drewN ?_ _ | refine blk_drew ?_ | refine blk_alloc ?_ _)); refine blk_put (cs := #[.int .i64 t105, .int .i64 0, .int .i64 t107, .int .i64 t108, .int .i64 t110, .int .i64 t111, .int .i64 t116, .int .i64 t121]) ?_ 7 _ rfl; (with_reducible repeat (first | refine blk_drewN ?_ _ | refine blk_drew ?_ | refine blk_alloc ?_ _)); refine blk_put (cs := #[.int .i64 t105, .int .i64 0, .int .i64 t107, .int .i64 t108, .int .i64 t110, .int .i64 t111, .int .i64 t116, .int .i64 0]) ?_ 7 _ rfl; (with_reducible repeat (first | refine blk_drewN ?_ _ | refine blk_drew ?_ | refine blk_alloc ?_ _)); refine blk_put (cs := #[.int .i64 t105, .int .i64 0, .int .i64 t107, .int .i64 t108, .int .i64 t110, .int .i64 t111, .int .i64 0, .int .i64 0]) ?_ 6 _ rfl; (with_reducible repeat (first | refine blk_drewN ?_ _ | refine blk_drew ?_ | refine blk_alloc ?_ _)); refine blk_put (cs := #[.int .i64 t105, .int .i64 0, .int .i64 t107, .int .i64 t108, .int .i64 t110, .int .i64 0, .int .i64 0, .int .i64 0]) ?_ 5 _ rfl; (with_reducible repeat (first | refine blk_drewN ?_ _ | refine blk_drew ?_ | refine blk_alloc ?_ _)); refine blk_put (cs := #[.int .i64 t105, .int .i64 0, .int .i64 t107, .int .i64 t108, .int .i64 0, .int .i64 0, .int .i64 0, .int .i64 0]) ?_ 4 _ rfl; (with_reducible repeat (first | refine blk_drewN ?_ _ | refine blk_drew ?_ | refine blk_alloc ?_ _)); refine blk_put (cs := #[.int .i64 t105, .int .i64 0, .int .i64 t107, .int .i64 0, .int .i64 0, .int .i64 0, .int .i64 0, .int .i64 0]) ?_ 3 _ rfl; (with_reducible repeat (first | refine blk_drewN ?_ _ | refine blk_drew ?_ | refine blk_alloc ?_ _)); refine blk_put (cs := #[.int .i64 t105, .int .i64 0, .int .i64 0, .int .i64 0, .int .i64 0, .int .i64 0, .int .i64 0, .int .i64 0]) ?_ 2 _ rfl; (with_reducible repeat (first | refine blk_drewN ?_ _ | refine blk_drew ?_ | refine blk_alloc ?_ _)); refine blk_put (cs := #[.int .i64 t105, .int .i64 0, .int .i64 0, .int .i64 0, .int .i64 0, .int .i64 0, .int .i64 0, .int .i64 0]) ?_ 1 _ rfl; (with_reducible repeat (first | refine blk_drewN ?_ _ | refine blk_drew ?_ | refine blk_alloc ?_ _)); refine blk_put (cs := #[.int .i64 0, .int .i64 0, .int .i64 0, .int .i64 0, .int .i64 0, .int .i64 0, .int .i64 0, .int .i64 0]) ?_ 0 _ rfl; (with_reducible repeat (first | refine blk_drewN ?_ _ | refine blk_drew ?_ | refine blk_alloc ?_ _)); exact BK123.out⟩, ⟨I143_2 HI0 NB0_101.out NB0_123.out⟩, ⟨J2 HK GW101.out GW123.out⟩, ⟨K3 HB (IsS143.ge HI0.out) GE101.out GE123.out⟩⟩
  ·rw [if_neg c27] at H
   have c27b0 : decide (t121 < t116) = false := decide_eq_false c27
   clear c27
   (first | rw [c27b0] | (simp only [i64_w, i32_w]; rw [c27b0]) | skip)
   have H' := Aside0.mk H
   clear H
   go_wp2
   go_meet
   case rel => exact ⟨_, (t121), H', ⟨by first | omega | exact Nat.le_refl _⟩, ⟨by (with_reducible repeat (first | refine blk_drewN ?_ _ | refine blk_drew ?_ | refine blk_alloc ?_ _)); refine blk_far ?_ NB101_123.out _; (with_reducible repeat (first | refine blk_drewN ?_ _ | refine blk_drew ?_ | refine blk_alloc ?_ _)); refine blk_far ?_ NB101_123.out _; (with_reducible repeat (first | refine blk_drewN ?_ _ | refine blk_drew ?_ | refine blk_alloc ?_ _)); refine blk_far ?_ NB101_123.out _; (with_reducible repeat (first | refine blk_drewN ?_ _ | refine blk_drew ?_ | refine blk_alloc ?_ _)); refine blk_far ?_ NB101_123.out _; (with_reducible repeat (first | refine blk_drewN ?_ _ | refine blk_drew ?_ | refine blk_alloc ?_ _)); refine blk_far ?_ NB101_123.out _; (with_reducible repeat (first | refine blk_drewN ?_ _ | refine blk_drew ?_ | refine blk_alloc ?_ _)); refine blk_far ?_ NB101_123.out _; (with_reducible repeat (first | refine blk_drewN ?_ _ | refine blk_drew ?_ | refine blk_alloc ?_ _)); refine blk_far ?_ NB101_123.out _; (with_reducible repeat (first | refine blk_drewN ?_ _ | refine blk_drew ?_ | refine blk_alloc ?_ _)); refine blk_far ?_ NB101_123.out _; (with_reducible repeat (first | refine blk_drewN ?_ _ | refine blk_drew ?_ | refine blk_alloc ?_ _)); exact BK101.out⟩, ⟨by (with_reducible repeat (first | refine blk_drewN ?_ _ | refine blk_drew ?_ | refine blk_alloc ?_ _)); refine blk_put (cs := #[.int .i64 t105, .int .i64 0, .int .i64 t107, .int .i64 t108, .int .i64 t110, .int .i64 t111, .int .i64 t116, .int .i64 0]) ?_ 7 _ rfl; (with_reducible repeat (first | refine blk_drewN ?_ _ | refine blk_drew ?_ | refine blk_alloc ?_ _)); refine blk_put (cs := #[.int .i64 t105, .int .i64 0, .int .i64 t107, .int .i64 t108, .int .i64 t110, .int .i64 t111, .int .i64 0, .int .i64 0]) ?_ 6 _ rfl; (with_reducible repeat (first | refine blk_drewN ?_ _ | refine blk_drew ?_ | refine blk_alloc ?_ _)); refine blk_put (cs := #[.int .i64 t105, .int .i64 0, .int .i64 t107, .int .i64 t108, .int .i64 t110, .int .i64 0, .int .i64 0, .int .i64 0]) ?_ 5 _ rfl; (with_reducible repeat (first | refine blk_drewN ?_ _ | refine blk_drew ?_ | refine blk_alloc ?_ _)); refine blk_put (cs := #[.int .i64 t105, .int .i64 0, .int .i64 t107, .int .i64 t108, .int .i64 0, .int .i64 0, .int .i64 0, .int .i64 0]) ?_ 4 _ rfl; (with_reducible repeat (first | refine blk_drewN ?_ _ | refine blk_drew ?_ | refine blk_alloc ?_ _)); refine blk_put (cs := #[.int .i64 t105, .int .i64 0, .int .i64 t107, .int .i64 0, .int .i64 0, .int .i64 0, .int .i64 0, .int .i64 0]) ?_ 3 _ rfl; (with_reducible repeat (first | refine blk_drewN ?_ _ | refine blk_drew ?_ | refine blk_alloc ?_ _)); refine blk_put (cs := #[.int .i64 t105, .int .i64 0, .int .i64 0, .int .i64 0, .int .i64 0, .int .i64 0, .int .i64 0, .int .i64 0]) ?_ 2 _ rfl; (with_reducible repeat (first | refine blk_drewN ?_ _ | refine blk_drew ?_ | refine blk_alloc ?_ _)); refine blk_put (cs := #[.int .i64 t105, .int .i64 0, .int .i64 0, .int .i64 0, .int .i64 0, .int .i64 0, .int .i64 0, .int .i64 0]) ?_ 1 _ rfl; (with_reducible repeat (first | refine blk_drewN ?_ _ | refine blk_drew ?_ | refine blk_alloc ?_ _)); refine blk_put (cs := #[.int .i64 0, .int .i64 0, .int .i64 0, .int .i64 0, .int .i64 0, .int .i64 0, .int .i64 0, .int .i64 0]) ?_ 0 _ rfl; (with_reducible repeat (first | refine blk_drewN ?_ _ | refine blk_drew ?_ | refine blk_alloc ?_ _)); exact BK123.out⟩, ⟨I143_2 HI0 NB0_101.out NB0_123.out⟩, ⟨J2 HK GW101.out GW123.out⟩, ⟨K3 HB (IsS143.ge HI0.out) GE101.out GE123.out⟩⟩
 case rest =>
  clear HC7
  try clear c1
  try clear c2
  try clear p2
  try clear c9
  try clear c12
  try clear c14
  try clear c24
  try clear c25
  try clear c27
  try clear c27b0
  try clear c28
  try clear c29
  try clear hcz26_0
  try clear hcz26_1
  try clear hcz26_2
  try clear hcz26_3
  try clear hcz26_4
  try clear hcz26_5
  try clear hcz26_6
  try clear hcz26_7
  try clear hcz30_0
  try clear hcz30_1
  try clear hcz30_2
  try clear hcz30_3
  try clear hcz30_4
  try clear hcz30_5
  try clear hcz30_6
  try clear hcz30_7
  try clear hfz26_0
  try clear hfz26_1
  try clear hfz26_2
  try clear hfz26_3
  try clear hfz26_4
  try clear hfz26_5
  try clear hfz26_6
  try clear hfz26_7
  try clear hfz30_0
  try clear hfz30_1
  try clear hfz30_2
  try clear hfz30_3
  try clear hfz30_4
  try clear hfz30_5
  try clear hfz30_6
  try clear hfz30_7
  obtain ⟨kq, x124007_6, HA, HJ6, BK101, BK123, HI0, HK, HB⟩ := hcut
  cases kq with
  | zero => exact absurd HA.out (by simp [spec_l12Rule.j0])
  | succ kj6 =>
   have H := HA.out
   clear HA
   simp only [spec_l12Rule.j0] at H
   by_cases c31 : t105 = 2
   ·rw [if_pos c31] at H
    have c31b0 : (t105 == 2) = true := beq_iff_eq.mpr c31
    have c31b1 : (t105 != 2) = false := bne_eq_false_iff_eq.mpr c31
    clear c31
    replace H := Option.bind_eq_some_iff.mp H
    obtain ⟨⟨t124, t125⟩, A320, H⟩ := H
    replace H : (some (t105, t124, t107, t108, t110, t111, t116, x124007_6, t125)) = some (r1, r2, r3, r4, r5, r6, r7, r8, r9) := H
    have A32 := Aside0.mk A320
    clear A320
    simp only [Option.some.injEq, Prod.mk.injEq] at H
    obtain ⟨rfl, rfl, rfl, rfl, rfl, rfl, rfl, rfl, rfl⟩ := H
    have hnb33 := NB123_101.out
    have hnc33 := NB101_123.out
    have hnb34 := NB123_0.out
    have hnc34 := NB0_123.out
    have hcz35_0 := z0 wc BK123.out
    have hcz35_1 := z1 wc BK123.out
    have hcz35_2 := z2 wc BK123.out
    have hcz35_3 := z3 wc BK123.out
    have hcz35_4 := z4 wc BK123.out
    have hcz35_5 := z5 wc BK123.out
    have hcz35_6 := z6 wc BK123.out
    have hcz35_7 := z7 wc BK123.out
    have hfz35_0 := blk_frozen BK123.out 0
    have hfz35_1 := blk_frozen BK123.out 1
    have hfz35_2 := blk_frozen BK123.out 2
    have hfz35_3 := blk_frozen BK123.out 3
    have hfz35_4 := blk_frozen BK123.out 4
    have hfz35_5 := blk_frozen BK123.out 5
    have hfz35_6 := blk_frozen BK123.out 6
    have hfz35_7 := blk_frozen BK123.out 7
    go_wp2_with (first | ((with_reducible refine gate_callee (f := 91) rfl ?_); refine goesL_ (some 30) rfl rfl Try.func91 (by kernel_rfl) rfl #[.pointer (some ⟨g, 0, none⟩), .int .i64 2] rfl MT ?_; (with_reducible refine (spec_l1Rd_pick.calls kj6 g s0_0 t122 2 t124 t125 w0 _ ?side1 ?side2 A32.out).mono ?_); (case side1 => exact I143_2 HI0 NB0_101.out NB0_123.out); (case side2 => exact K3 HB (IsS143.ge HI0.out) GE101.out GE123.out); rintro e w36 ⟨rfl, hi, hb, hk⟩; refine ⟨_, rfl, ?_⟩; replace BK101 := am (KeepBut.blk hk (g' := gb101) (o := .cells #[.int .i64 0, .int .i64 0, .int .i64 0, .int .i64 0, .int .i64 0, .int .i64 0, .int .i64 0, .int .i64 0] 34 (0, 0)) (KB BK101) NB101_0.out (by simp)); replace BK123 := am (KeepBut.blk hk (g' := gb123) (o := .cells #[.int .i64 t105, .int .i64 0, .int .i64 t107, .int .i64 t108, .int .i64 t110, .int .i64 t111, .int .i64 t116, .int .i64 x124007_6] 34 (0, 0)) (KB BK123) NB123_0.out (by simp)); replace HK := am (KeepBut.trans (J2 HK GW101.out GW123.out) hk (.inl rfl)); replace HB := am (hb); replace HI0 := am (hi); (try clear hb); (try clear hb2); (try clear hk); (try clear hi); have hcz37_0 := z0 w36 BK123.out; have hcz37_1 := z1 w36 BK123.out; have hcz37_2 := z2 w36 BK123.out; have hcz37_3 := z3 w36 BK123.out; have hcz37_4 := z4 w36 BK123.out; have hcz37_5 := z5 w36 BK123.out; have hcz37_6 := z6 w36 BK123.out; have hcz37_7 := z7 w36 BK123.out; have hfz37_0 := blk_frozen BK123.out 0; have hfz37_1 := blk_frozen BK123.out 1; have hfz37_2 := blk_frozen BK123.out 2; have hfz37_3 := blk_frozen BK123.out 3; have hfz37_4 := blk_frozen BK123.out 4; have hfz37_5 := blk_frozen BK123.out 5; have hfz37_6 := blk_frozen BK123.out 6; have hfz37_7 := blk_frozen BK123.out 7; have hnb38 := NB101_0.out; have hnc38 := NB0_101.out; have hcz39_0 := z0 w36 BK101.out; have hcz39_1 := z1 w36 BK101.out; have hcz39_2 := z2 w36 BK101.out; have hcz39_3 := z3 w36 BK101.out; have hcz39_4 := z4 w36 BK101.out; have hcz39_5 := z5 w36 BK101.out; have hcz39_6 := z6 w36 BK101.out; have hcz39_7 := z7 w36 BK101.out; have hfz39_0 := blk_frozen BK101.out 0; have hfz39_1 := blk_frozen BK101.out 1; have hfz39_2 := blk_frozen BK101.out 2; have hfz39_3 := blk_frozen BK101.out 3; have hfz39_4 := blk_frozen BK101.out 4; have hfz39_5 := blk_frozen BK101.out 5; have hfz39_6 := blk_frozen BK101.out 6; have hfz39_7 := blk_frozen BK101.out 7))
    refine bodyPost_ret (results_cell_row rfl _ _ gb101 34 #[.int .i64 t105, .int .i64 t124, .int .i64 t107, .int .i64 t108, .int .i64 t110, .int .i64 t111, .int .i64 t116, .int .i64 x124007_6] (0, 0) _ rfl (by (with_reducible repeat (first | refine blk_drewN ?_ _ | refine blk_drew ?_ | refine blk_alloc ?_ _)); refine blk_put (cs := #[.int .i64 t105, .int .i64 t124, .int .i64 t107, .int .i64 t108, .int .i64 t110, .int .i64 t111, .int .i64 t116, .int .i64 0]) ?_ 7 _ rfl; (with_reducible repeat (first | refine blk_drewN ?_ _ | refine blk_drew ?_ | refine blk_alloc ?_ _)); refine blk_put (cs := #[.int .i64 t105, .int .i64 t124, .int .i64 t107, .int .i64 t108, .int .i64 t110, .int .i64 t111, .int .i64 0, .int .i64 0]) ?_ 6 _ rfl; (with_reducible repeat (first | refine blk_drewN ?_ _ | refine blk_drew ?_ | refine blk_alloc ?_ _)); refine blk_put (cs := #[.int .i64 t105, .int .i64 t124, .int .i64 t107, .int .i64 t108, .int .i64 t110, .int .i64 0, .int .i64 0, .int .i64 0]) ?_ 5 _ rfl; (with_reducible repeat (first | refine blk_drewN ?_ _ | refine blk_drew ?_ | refine blk_alloc ?_ _)); refine blk_put (cs := #[.int .i64 t105, .int .i64 t124, .int .i64 t107, .int .i64 t108, .int .i64 0, .int .i64 0, .int .i64 0, .int .i64 0]) ?_ 4 _ rfl; (with_reducible repeat (first | refine blk_drewN ?_ _ | refine blk_drew ?_ | refine blk_alloc ?_ _)); refine blk_put (cs := #[.int .i64 t105, .int .i64 t124, .int .i64 t107, .int .i64 0, .int .i64 0, .int .i64 0, .int .i64 0, .int .i64 0]) ?_ 3 _ rfl; (with_reducible repeat (first | refine blk_drewN ?_ _ | refine blk_drew ?_ | refine blk_alloc ?_ _)); refine blk_put (cs := #[.int .i64 t105, .int .i64 t124, .int .i64 0, .int .i64 0, .int .i64 0, .int .i64 0, .int .i64 0, .int .i64 0]) ?_ 2 _ rfl; (with_reducible repeat (first | refine blk_drewN ?_ _ | refine blk_drew ?_ | refine blk_alloc ?_ _)); refine blk_put (cs := #[.int .i64 t105, .int .i64 0, .int .i64 0, .int .i64 0, .int .i64 0, .int .i64 0, .int .i64 0, .int .i64 0]) ?_ 1 _ rfl; (with_reducible repeat (first | refine blk_drewN ?_ _ | refine blk_drew ?_ | refine blk_alloc ?_ _)); refine blk_put (cs := #[.int .i64 0, .int .i64 0, .int .i64 0, .int .i64 0, .int .i64 0, .int .i64 0, .int .i64 0, .int .i64 0]) ?_ 0 _ rfl; (with_reducible repeat (first | refine blk_drewN ?_ _ | refine blk_drew ?_ | refine blk_alloc ?_ _)); refine blk_far ?_ NB101_123.out _; (with_reducible repeat (first | refine blk_drewN ?_ _ | refine blk_drew ?_ | refine blk_alloc ?_ _)); exact BK101.out) Try.underlying34 rfl (by kernel_rfl)) rfl ?_
    exact ⟨by first | rfl | (simp [errW_none, errW_some] <;> rfl) | (simp [*, errW_none, errW_some] <;> rfl), I143_2 HI0 NB0_101.out NB0_123.out, K3 HB (IsS143.ge HI0.out) GE101.out GE123.out, J2 HK GW101.out GW123.out⟩
   ·rw [if_neg c31] at H
    have c31b0 : (t105 == 2) = false := beq_eq_false_iff_ne.mpr c31
    have c31b1 : (t105 != 2) = true := bne_iff_ne.mpr c31
    simp only [Option.some.injEq, Prod.mk.injEq] at H
    obtain ⟨rfl, rfl, rfl, rfl, rfl, rfl, rfl, rfl, rfl⟩ := H
    have hnb40 := NB123_101.out
    have hnc40 := NB101_123.out
    have hnb41 := NB123_0.out
    have hnc41 := NB0_123.out
    have hcz42_0 := z0 wc BK123.out
    have hcz42_1 := z1 wc BK123.out
    have hcz42_2 := z2 wc BK123.out
    have hcz42_3 := z3 wc BK123.out
    have hcz42_4 := z4 wc BK123.out
    have hcz42_5 := z5 wc BK123.out
    have hcz42_6 := z6 wc BK123.out
    have hcz42_7 := z7 wc BK123.out
    have hfz42_0 := blk_frozen BK123.out 0
    have hfz42_1 := blk_frozen BK123.out 1
    have hfz42_2 := blk_frozen BK123.out 2
    have hfz42_3 := blk_frozen BK123.out 3
    have hfz42_4 := blk_frozen BK123.out 4
    have hfz42_5 := blk_frozen BK123.out 5
    have hfz42_6 := blk_frozen BK123.out 6
    have hfz42_7 := blk_frozen BK123.out 7
    have hnb43 := NB101_0.out
    have hnc43 := NB0_101.out
    have hcz44_0 := z0 wc BK101.out
    have hcz44_1 := z1 wc BK101.out
    have hcz44_2 := z2 wc BK101.out
    have hcz44_3 := z3 wc BK101.out
    have hcz44_4 := z4 wc BK101.out
    have hcz44_5 := z5 wc BK101.out
    have hcz44_6 := z6 wc BK101.out
    have hcz44_7 := z7 wc BK101.out
    have hfz44_0 := blk_frozen BK101.out 0
    have hfz44_1 := blk_frozen BK101.out 1
    have hfz44_2 := blk_frozen BK101.out 2
    have hfz44_3 := blk_frozen BK101.out 3
    have hfz44_4 := blk_frozen BK101.out 4
    have hfz44_5 := blk_frozen BK101.out 5
    have hfz44_6 := blk_frozen BK101.out 6
    have hfz44_7 := blk_frozen BK101.out 7
    go_wp2
    refine bodyPost_ret (results_cell_row rfl _ _ gb101 34 #[.int .i64 t105, .int .i64 0, .int .i64 t107, .int .i64 t108, .int .i64 t110, .int .i64 t111, .int .i64 t116, .int .i64 x124007_6] (0, 0) _ rfl (by (with_reducible repeat (first | refine blk_drewN ?_ _ | refine blk_drew ?_ | refine blk_alloc ?_ _)); refine blk_put (cs := #[.int .i64 t105, .int .i64 0, .int .i64 t107, .int .i64 t108, .int .i64 t110, .int .i64 t111, .int .i64 t116, .int .i64 0]) ?_ 7 _ rfl; (with_reducible repeat (first | refine blk_drewN ?_ _ | refine blk_drew ?_ | refine blk_alloc ?_ _)); refine blk_put (cs := #[.int .i64 t105, .int .i64 0, .int .i64 t107, .int .i64 t108, .int .i64 t110, .int .i64 t111, .int .i64 0, .int .i64 0]) ?_ 6 _ rfl; (with_reducible repeat (first | refine blk_drewN ?_ _ | refine blk_drew ?_ | refine blk_alloc ?_ _)); refine blk_put (cs := #[.int .i64 t105, .int .i64 0, .int .i64 t107, .int .i64 t108, .int .i64 t110, .int .i64 0, .int .i64 0, .int .i64 0]) ?_ 5 _ rfl; (with_reducible repeat (first | refine blk_drewN ?_ _ | refine blk_drew ?_ | refine blk_alloc ?_ _)); refine blk_put (cs := #[.int .i64 t105, .int .i64 0, .int .i64 t107, .int .i64 t108, .int .i64 0, .int .i64 0, .int .i64 0, .int .i64 0]) ?_ 4 _ rfl; (with_reducible repeat (first | refine blk_drewN ?_ _ | refine blk_drew ?_ | refine blk_alloc ?_ _)); refine blk_put (cs := #[.int .i64 t105, .int .i64 0, .int .i64 t107, .int .i64 0, .int .i64 0, .int .i64 0, .int .i64 0, .int .i64 0]) ?_ 3 _ rfl; (with_reducible repeat (first | refine blk_drewN ?_ _ | refine blk_drew ?_ | refine blk_alloc ?_ _)); refine blk_put (cs := #[.int .i64 t105, .int .i64 0, .int .i64 0, .int .i64 0, .int .i64 0, .int .i64 0, .int .i64 0, .int .i64 0]) ?_ 2 _ rfl; (with_reducible repeat (first | refine blk_drewN ?_ _ | refine blk_drew ?_ | refine blk_alloc ?_ _)); refine blk_put (cs := #[.int .i64 t105, .int .i64 0, .int .i64 0, .int .i64 0, .int .i64 0, .int .i64 0, .int .i64 0, .int .i64 0]) ?_ 1 _ rfl; (with_reducible repeat (first | refine blk_drewN ?_ _ | refine blk_drew ?_ | refine blk_alloc ?_ _)); refine blk_put (cs := #[.int .i64 0, .int .i64 0, .int .i64 0, .int .i64 0, .int .i64 0, .int .i64 0, .int .i64 0, .int .i64 0]) ?_ 0 _ rfl; (with_reducible repeat (first | refine blk_drewN ?_ _ | refine blk_drew ?_ | refine blk_alloc ?_ _)); exact BK101.out) Try.underlying34 rfl (by kernel_rfl)) rfl ?_
    exact ⟨by first | rfl | (simp [errW_none, errW_some] <;> rfl) | (simp [*, errW_none, errW_some] <;> rfl), I143_2 HI0 NB0_101.out NB0_123.out, K3 HB (IsS143.ge HI0.out) GE101.out GE123.out, J2 HK GW101.out GW123.out⟩
end Go.Proofs.Ytioghacieopbdaa.PAll
end
section
namespace Go.Proofs.Ytioghacieopbdaa.PAll
open Go.RowKit Go.Proofs.YtioghacieopbdaaW.PrintWords Go.Proofs.YtioghacieopbdaaW.PrintLast Go.Proofs.YtioghacieopbdaaW.PrintMore
attribute [local go_sem] max2_int min2_int max_two min_two max_three min_three max_four min_four   -- for this text's walks alone
set_option linter.unusedVariables false
set_option linter.unusedSimpArgs false
def spec_l12Rules.l0 : Nat → List (S34) → Int → List Int → Int → Option ((List (S34)) × Int)
 | 0, _, _, _, _ => none
 | k + 1, x3, x4, x1000, x1001 => if x4 > 0 then ((spec_l12Rule.f k x1000 x1001).bind fun bt106 => (if x3.length < 2199023255552 then (spec_l12Rules.l0 k (x3 ++ [(⟨bt106.1, bt106.2.1, (⟨bt106.2.2.1, bt106.2.2.2.1⟩ : S32), (⟨bt106.2.2.2.2.1, bt106.2.2.2.2.2.1⟩ : S32), bt106.2.2.2.2.2.2.1, bt106.2.2.2.2.2.2.2.1⟩ : S34)]) (wrap64 (x4 - 1)) x1000 bt106.2.2.2.2.2.2.2.2) else (none))) else ((spec_l1Rd_pick.f k x1000 x1001 2).bind fun bt118 => (if bt118.1 = 0 then ((spec_l1Rd_one.f k x1000 bt118.2 (([1, 2, 2] : List Int))).bind fun bt123 => ((spec_l1Over.f k 0 0).bind fun bt125 => ((spec_l1Over.f k 0 0).bind fun bt127 => (if x3.length < 2199023255552 then (some ((x3 ++ [(⟨bt123.1, 0, (⟨bt125.1, bt125.2⟩ : S32), (⟨bt127.1, bt127.2⟩ : S32), 0, 65535⟩ : S34)]), bt123.2)) else (none))))) else (some (x3, bt118.2))))
def spec_l12Rules.f (k : Nat) (s0_0 : List Int) (s0_1 : Int) : Option ((List (S34)) × Int) := (spec_l1Rd_pick.f k s0_0 s0_1 5).bind fun bt104 => (spec_l12Rules.l0 k (([] : List (S34))) bt104.1 s0_0 bt104.2)
set_option maxHeartbeats 8000000 in
set_option maxRecDepth 100000 in
theorem spec_l12Rules.calls (k : Nat) (g : Nat) (s0_0 : List Int) (s0_1 : Int) (r1 : List (S34)) (r2 : Int) (w0 w : World) (hI : IsS143 w0 w g s0_0 s0_1) (hB : Below w0.heap.size w0 w) (h : spec_l12Rules.f k s0_0 s0_1 = some (r1, r2)) :
  Calls Try.prog 122 #[.pointer (some ⟨g, 0, none⟩)] w fun e w' => ∃ v0_ : Value, e = .returned (v0_) ∧ Kd.R k34 34 w' w.heap.size (fun _ => True) v0_ r1 ∧ IsS143 w0 w' g s0_0 r2 ∧ Below w0.heap.size w0 w' ∧ KeepBut w w' g none := by
 have hu34 := Try.underlying34
 have HI0 := Aside0.mk hI
 have HK := am (KeepBut.refl w g none)
 have HL := Aside0.mk hB.size
 clear hI
 have HW0 := Aside0.mk hB.size
 have HB := Aside0.mk hB
 clear hB
 have H : ((spec_l1Rd_pick.f k s0_0 s0_1 5).bind fun bt104 => (spec_l12Rules.l0 k (([] : List (S34))) bt104.1 s0_0 bt104.2)) = some (r1, r2) := h
 clear h
 obtain ⟨y101, hy101⟩ : ∃ y_ : List (S34), y_ = (([] : List (S34))) := ⟨_, rfl⟩
 replace H : ((spec_l1Rd_pick.f k s0_0 s0_1 5).bind fun bt104 => (spec_l12Rules.l0 k y101 bt104.1 s0_0 bt104.2)) = some (r1, r2) := by first | (rw [hy101]; with_reducible exact H) | (have H2_ := (Option.bind_some _ _).symm.trans H; rw [hy101]; with_reducible exact H2_) | (have H2_ := (Option.bind_some _ _).symm.trans H; with_reducible exact H2_) | with_reducible exact H | (rw [hy101]; exact H) | exact H
 have Ny101 := Aside0.mk hy101
 clear hy101
 replace H := Option.bind_eq_some_iff.mp H
 obtain ⟨⟨t104, t105⟩, A20, H⟩ := H
 replace H : (spec_l12Rules.l0 k y101 t104 s0_0 t105) = some (r1, r2) := H
 have A2 := Aside0.mk A20
 clear A20
 have H' := Aside0.mk H
 clear H
 go_enter Try.func122, Try.ntmps122
 go_wp2_with (first | ((with_reducible refine gate_dst (N := 5) rfl ?_); refine Kd.R_lit k34 _ 34 ?hg (N := 5) ?hd (xs := ([] : List (S34))) (inner := []) (ok := fun _ => True) (okp := fun _ => True) ?hr ?hp (fun _ hk => hk) trivial (Below.refl _ _) (Nat.le_refl _) (by simp) ?_; (case hd => rfl); (case hg => rfl); (case hr => first | (go_simp; done) | (go_simp; rfl)); (case hp => exact (Reps.none _ _)); intro v102 w3 ho4 hb hg_ hnew_; clear hg_ hnew_; (first | rw [← Ny101.out] at ho4 | (simp only [Int.reduceToNat] at ho4; rw [← Ny101.out] at ho4)); have HO103 := am (Kd.R_lower ho4 (keep_size (w := w) (g := g) (row := none) (J0 HK))); replace HK := am (KeepBut.trans (J0 HK) (KeepBut.of_below hb g none) (.inl rfl)); replace HB := am (below_step (K1 HB (IsS143.ge HI0.out)) hb); replace HI0 := am (IsS143.below (I143_0 HI0) hb); clear hb ho4) | ((with_reducible refine gate_callee (f := 91) rfl ?_); refine goesL_ (some 7) rfl rfl Try.func91 (by kernel_rfl) rfl #[.pointer (some ⟨g, 0, none⟩), .int .i64 5] rfl MT ?_; (with_reducible refine (spec_l1Rd_pick.calls k g s0_0 s0_1 5 t104 t105 w0 _ ?side1 ?side2 A2.out).mono ?_); (case side1 => exact I143_0 HI0); (case side2 => exact K1 HB (IsS143.ge HI0.out)); rintro e w5 ⟨rfl, hi, hb, hk⟩; refine ⟨_, rfl, ?_⟩; replace HO103 := am (Kd.R_mono (Kd.R_keep (IsS143.apart (show IsS143 w0 _ g s0_0 s0_1 from I143_0 HI0) (KR HO103) (by decide)) hk (fun _ h => h.2)) (fun _ h => h.1)); replace HK := am (KeepBut.trans (J0 HK) hk (.inl rfl)); replace HB := am (hb); replace HI0 := am (hi); (try clear hb); (try clear hb2); (try clear hk); (try clear hi)))
 go_loopg [3, 4] k (fun kq v3 v4 w' => ∃ (x3_1 : List (S34)) (x4_1 : Int) (x1001_1 : Int), v4 = .int .i64 x4_1 ∧ Aside0 (spec_l12Rules.l0 kq x3_1 x4_1 s0_0 x1001_1 = some (r1, r2)) ∧ Aside0 (kq ≤ k) ∧ Aside0 (Kd.R k34 34 w' w.heap.size (fun _ => True) v3 x3_1) ∧ Aside0 (IsS143 w0 w' g s0_0 x1001_1) ∧ Aside0 (KeepBut w w' g none) ∧ Aside0 (Below w0.heap.size w0 w'))
 case atStart => exact ⟨(y101), (t104), (t105), (by first | rfl | (simp; done) | (simp [*]; done)), H', ⟨Nat.le_refl _⟩, ⟨KR HO103⟩, ⟨I143_0 HI0⟩, ⟨J0 HK⟩, ⟨K1 HB (IsS143.ge HI0.out)⟩⟩
 case round =>
  clear H'
  try clear c1
  try clear p2
  obtain ⟨x3_1, x4_1, x1001_1, rfl, HA, HK1, HO_3, HI0, HK, HB⟩ := hrel
  cases gk with
  | zero => exact absurd HA.out (by simp [spec_l12Rules.l0])
  | succ k1 =>
   have H := HA.out
   clear HA
   simp only [spec_l12Rules.l0] at H
   by_cases c6 : x4_1 > 0
   ·rw [if_pos c6] at H
    have c6b0 : decide (0 < x4_1) = true := decide_eq_true c6
    clear c6
    replace H := Option.bind_eq_some_iff.mp H
    obtain ⟨⟨t106, t107, t108, t109, t110, t111, t112, t113, t114⟩, A70, H⟩ := H
    replace H : (if x3_1.length < 2199023255552 then (spec_l12Rules.l0 k1 (x3_1 ++ [(⟨t106, t107, (⟨t108, t109⟩ : S32), (⟨t110, t111⟩ : S32), t112, t113⟩ : S34)]) (wrap64 (x4_1 - 1)) s0_0 t114) else (none)) = some (r1, r2) := H
    have A7 := Aside0.mk A70
    clear A70
    by_cases c8 : x3_1.length < 2199023255552
    ·rw [if_pos c8] at H
     have LMc8 := Aside0.mk c8
     clear c8
     obtain ⟨y115, hy115⟩ : ∃ y_ : List (S34), y_ = (x3_1 ++ [(⟨t106, t107, (⟨t108, t109⟩ : S32), (⟨t110, t111⟩ : S32), t112, t113⟩ : S34)]) := ⟨_, rfl⟩
     replace H : (spec_l12Rules.l0 k1 y115 (wrap64 (x4_1 - 1)) s0_0 t114) = some (r1, r2) := by first | (rw [hy115]; with_reducible exact H) | (have H2_ := (Option.bind_some _ _).symm.trans H; rw [hy115]; with_reducible exact H2_) | (have H2_ := (Option.bind_some _ _).symm.trans H; with_reducible exact H2_) | with_reducible exact H | (rw [hy115]; exact H) | exact H
     have Ny115 := Aside0.mk hy115
     clear hy115
     have H' := Aside0.mk H
     clear H
     go_wp2_with (first | ((with_reducible refine gate_callee (f := 123) rfl ?_); refine goesL_ (some 14) rfl rfl Try.func123 (by kernel_rfl) rfl #[.pointer (some ⟨g, 0, none⟩)] rfl MT ?_; (with_reducible refine (spec_l12Rule.calls k1 g s0_0 x1001_1 t106 t107 t108 t109 t110 t111 t112 t113 t114 w0 _ ?side1 ?side2 A7.out).mono ?_); (case side1 => exact I143_0 HI0); (case side2 => exact K1 HB (IsS143.ge HI0.out)); rintro e w9 ⟨rfl, hi, hb, hk⟩; refine ⟨_, rfl, ?_⟩; replace HO_3 := am (Kd.R_mono (Kd.R_keep (IsS143.apart (show IsS143 w0 _ g s0_0 x1001_1 from I143_0 HI0) (KR HO_3) (by decide)) hk (fun _ h => h.2)) (fun _ h => h.1)); replace HK := am (KeepBut.trans (J0 HK) hk (.inl rfl)); replace HB := am (hb); replace HI0 := am (hi); (try clear hb); (try clear hb2); (try clear hk); (try clear hi)) | ((with_reducible refine gate_builtin (b := .append) (xs := #[.tmp 12, .tmp 15]) rfl ?_); at_builtin; refine Kd.R_append k34 w.heap.size rfl (.tmp 12) (.tmp 15) 23 34 (.agg #[(.int .i64 0), (.int .i64 0), (.int .i64 0), (.int .i64 0), (.int .i64 0), (.int .i64 0), (.int .i64 0), (.int .i64 0)]) 64 rfl Try.underlying23 info34 rfl (by decide) (by omega) u3 x3_1 (⟨t106, t107, (⟨t108, t109⟩ : S32), (⟨t110, t111⟩ : S32), t112, t113⟩ : S34) [.int .i64 t106, .int .i64 t107, .int .i64 t108, .int .i64 t109, .int .i64 t110, .int .i64 t111, .int .i64 t112, .int .i64 t113] (fun _ => True) (fun _ => False) rfl rfl ?aP (fun _ hk => hk.elim) ?aF ?aO (Below.refl _ _) ?aS ?aL ?_; (case aP => exact k34_mkM _ _ _ (⟨t106, t107, (⟨t108, t109⟩ : S32), (⟨t110, t111⟩ : S32), t112, t113⟩ : S34)); (case aF => exact (fun _ _ => trivial)); (case aO => exact (KR HO_3)); (case aS => exact (keep_size (w := w) (g := g) (row := none) (J0 HK))); (case aL => have := LMc8.out; omega); intro v116 w10 ho hb hg hat; rw [← Ny115.out] at ho; replace HB := am (below_weaken (K1 HB (IsS143.ge HI0.out)) HL.out hb); replace HI0 := am (IsS143.grown (I143_0 HI0) hg (IsS143.own_ne HI0.out HO_3.out (by decide))); replace HK := am (KeepBut.trans (J0 HK) (KeepBut.of_grown hg g) (Kd.R_base2 HO_3.out)); have HO117 := am (ho); clear HO_3; clear ho hb hg hat))
     go_roundg k1
     case measure => have := HK1.out; omega
     case rel => exact ⟨(y115), (wrap64 (x4_1 - 1)), (t114), (by first | rfl | (simp; done) | (simp [*]; done)), H', ⟨by have := HK1.out; omega⟩, ⟨KR HO117⟩, ⟨I143_0 HI0⟩, ⟨J0 HK⟩, ⟨K1 HB (IsS143.ge HI0.out)⟩⟩
    ·rw [if_neg c8] at H
     exact absurd H (by simp)
   ·rw [if_neg c6] at H
    have c6b0 : decide (0 < x4_1) = false := decide_eq_false c6
    clear c6
    replace H := Option.bind_eq_some_iff.mp H
    obtain ⟨⟨t118, t119⟩, A110, H⟩ := H
    replace H : (if t118 = 0 then ((spec_l1Rd_one.f k1 s0_0 t119 (([1, 2, 2] : List Int))).bind fun bt123 => ((spec_l1Over.f k1 0 0).bind fun bt125 => ((spec_l1Over.f k1 0 0).bind fun bt127 => (if x3_1.length < 2199023255552 then (some ((x3_1 ++ [(⟨bt123.1, 0, (⟨bt125.1, bt125.2⟩ : S32), (⟨bt127.1, bt127.2⟩ : S32), 0, 65535⟩ : S34)]), bt123.2)) else (none))))) else (some (x3_1, t119))) = some (r1, r2) := H
    have A11 := Aside0.mk A110
    clear A110
    by_cases c12 : t118 = 0
    ·rw [if_pos c12] at H
     have c12b0 : (t118 == 0) = true := beq_iff_eq.mpr c12
     have c12b1 : (t118 != 0) = false := bne_eq_false_iff_eq.mpr c12
     clear c12
     obtain ⟨y120, hy120⟩ : ∃ y_ : List Int, y_ = (([1, 2, 2] : List Int)) := ⟨_, rfl⟩
     replace H : ((spec_l1Rd_one.f k1 s0_0 t119 y120).bind fun bt123 => ((spec_l1Over.f k1 0 0).bind fun bt125 => ((spec_l1Over.f k1 0 0).bind fun bt127 => (if x3_1.length < 2199023255552 then (some ((x3_1 ++ [(⟨bt123.1, 0, (⟨bt125.1, bt125.2⟩ : S32), (⟨bt127.1, bt127.2⟩ : S32), 0, 65535⟩ : S34)]), bt123.2)) else (none))))) = some (r1, r2) := by first | (rw [hy120]; with_reducible exact H) | (have H2_ := (Option.bind_some _ _).symm.trans H; rw [hy120]; with_reducible exact H2_) | (have H2_ := (Option.bind_some _ _).symm.trans H; with_reducible exact H2_) | with_reducible exact H | (rw [hy120]; exact H) | exact H
     have Ny120 := Aside0.mk hy120
     clear hy120
     replace H := Option.bind_eq_some_iff.mp H
     obtain ⟨⟨t123, t124⟩, A130, H⟩ := H
     replace H : ((spec_l1Over.f k1 0 0).bind fun bt125 => ((spec_l1Over.f k1 0 0).bind fun bt127 => (if x3_1.length < 2199023255552 then (some ((x3_1 ++ [(⟨t123, 0, (⟨bt125.1, bt125.2⟩ : S32), (⟨bt127.1, bt127.2⟩ : S32), 0, 65535⟩ : S34)]), t124)) else (none)))) = some (r1, r2) := H
     have A13 := Aside0.mk A130
     clear A130
     replace H := Option.bind_eq_some_iff.mp H
     obtain ⟨⟨t125, t126⟩, A140, H⟩ := H
     replace H : ((spec_l1Over.f k1 0 0).bind fun bt127 => (if x3_1.length < 2199023255552 then (some ((x3_1 ++ [(⟨t123, 0, (⟨t125, t126⟩ : S32), (⟨bt127.1, bt127.2⟩ : S32), 0, 65535⟩ : S34)]), t124)) else (none))) = some (r1, r2) := H
     have A14 := Aside0.mk A140
     clear A140
     replace H := Option.bind_eq_some_iff.mp H
     obtain ⟨⟨t127, t128⟩, A150, H⟩ := H
     replace H : (if x3_1.length < 2199023255552 then (some ((x3_1 ++ [(⟨t123, 0, (⟨t125, t126⟩ : S32), (⟨t127, t128⟩ : S32), 0, 65535⟩ : S34)]), t124)) else (none)) = some (r1, r2) := H
     have A15 := Aside0.mk A150
     clear A150
     by_cases c16 : x3_1.length < 2199023255552
     ·rw [if_pos c16] at H
      have LMc16 := Aside0.mk c16
      clear c16
      obtain ⟨y129, hy129⟩ : ∃ y_ : List (S34), y_ = (x3_1 ++ [(⟨t123, 0, (⟨t125, t126⟩ : S32), (⟨t127, t128⟩ : S32), 0, 65535⟩ : S34)]) := ⟨_, rfl⟩
      replace H : (some (y129, t124)) = some (r1, r2) := by first | (rw [hy129]; with_reducible exact H) | (have H2_ := (Option.bind_some _ _).symm.trans H; rw [hy129]; with_reducible exact H2_) | (have H2_ := (Option.bind_some _ _).symm.trans H; with_reducible exact H2_) | with_reducible exact H | (rw [hy129]; exact H) | exact H
      have Ny129 := Aside0.mk hy129
      clear hy129
      simp only [Option.some.injEq, Prod.mk.injEq] at H
      obtain ⟨rfl, rfl⟩ := H
      go_wp2_with (first | ((with_reducible refine gate_callee (f := 91) rfl ?_); refine goesL_ (some 18) rfl rfl Try.func91 (by kernel_rfl) rfl #[.pointer (some ⟨g, 0, none⟩), .int .i64 2] rfl MT ?_; (with_reducible refine (spec_l1Rd_pick.calls k1 g s0_0 x1001_1 2 t118 t119 w0 _ ?side1 ?side2 A11.out).mono ?_); (case side1 => exact I143_0 HI0); (case side2 => exact K1 HB (IsS143.ge HI0.out)); rintro e w17 ⟨rfl, hi, hb, hk⟩; refine ⟨_, rfl, ?_⟩; replace HO_3 := am (Kd.R_mono (Kd.R_keep (IsS143.apart (show IsS143 w0 _ g s0_0 x1001_1 from I143_0 HI0) (KR HO_3) (by decide)) hk (fun _ h => h.2)) (fun _ h => h.1)); replace HK := am (KeepBut.trans (J0 HK) hk (.inl rfl)); replace HB := am (hb); replace HI0 := am (hi); (try clear hb); (try clear hb2); (try clear hk); (try clear hi)) | ((with_reducible refine gate_dst (N := 22) rfl ?_); refine Kd.R_lit (Kd.int .i64) _ 3 ?hg (N := 22) ?hd (xs := ([1, 2, 2] : List Int)) (inner := [.int .i64 1, .int .i64 2, .int .i64 2]) (ok := fun _ => True) (okp := fun _ => True) ?hr ?hp (fun _ hk => hk) trivial (Below.refl _ _) (Nat.le_refl _) (by simp) ?_; (case hd => rfl); (case hg => rfl); (case hr => first | (go_simp; done) | (go_simp; rfl)); (case hp => exact (Reps.one (show Kd.M (Kd.int .i64) _ _ _ 1 [.int .i64 1] from rfl) (Reps.one (show Kd.M (Kd.int .i64) _ _ _ 2 [.int .i64 2] from rfl) (Reps.one (show Kd.M (Kd.int .i64) _ _ _ 2 [.int .i64 2] from rfl) (Reps.none _ _))))); intro v121 w18 ho19 hb hg_ hnew_; clear hg_ hnew_; (first | rw [← Ny120.out] at ho19 | (simp only [Int.reduceToNat] at ho19; rw [← Ny120.out] at ho19)); replace HO_3 := am (Kd.R_below (KR HO_3) hb); have HO122 := am (Kd.R_lower ho19 (keep_size (w := w) (g := g) (row := none) (J0 HK))); replace HK := am (KeepBut.trans (J0 HK) (KeepBut.of_below hb g none) (.inl rfl)); replace HB := am (below_step (K1 HB (IsS143.ge HI0.out)) hb); replace HI0 := am (IsS143.below (I143_0 HI0) hb); clear hb ho19; obtain ⟨Ao20, co20, eo20⟩ := Kd.R_slice HO122.out; subst eo20) | ((with_reducible refine gate_callee (f := 95) rfl ?_); refine goesL_ (some 23) rfl rfl Try.func95 (by kernel_rfl) rfl #[.pointer (some ⟨g, 0, none⟩), .slice Ao20 y120.length co20] rfl MT ?_; (with_reducible refine (spec_l1Rd_one.calls k1 g s0_0 t119 _ _ y120 t123 t124 w0 _ ?side1 ?side2 ?side3 ?side4 ?side5 A13.out).mono ?_); (case side1 => exact I143_0 HI0); (case side2 => exact K1 HB (IsS143.ge HI0.out)); (case side3 => exact KC (Kd.R_reads' HO122.out).2.2); (case side4 => exact (Kd.R_reads' HO122.out).2.1); (case side5 => exact far_slice (IsS143.own_ne HI0.out HO122.out (by decide))); rintro e w21 ⟨rfl, hi, hb, hk⟩; refine ⟨_, rfl, ?_⟩; replace HO_3 := am (Kd.R_mono (Kd.R_keep (IsS143.apart (show IsS143 w0 _ g s0_0 t119 from I143_0 HI0) (KR HO_3) (by decide)) hk (fun _ h => h.2)) (fun _ h => h.1)); replace HO122 := am (Kd.R_mono (Kd.R_keep (IsS143.apart (show IsS143 w0 _ g s0_0 t119 from I143_0 HI0) (KR HO122) (by decide)) hk (fun _ h => h.2)) (fun _ h => h.1)); replace HK := am (KeepBut.trans (J0 HK) hk (.inl rfl)); replace HB := am (hb); replace HI0 := am (hi); (try clear hb); (try clear hb2); (try clear hk); (try clear hi)) | ((with_reducible refine gate_callee (f := 147) rfl ?_); refine goesL_ (some 24) rfl rfl Try.func147 (by kernel_rfl) rfl #[.int .i64 0, .int .i64 0] rfl MT ?_; (with_reducible refine (spec_l1Over.calls k1 0 0 t125 t126 _ A14.out).mono ?_); rintro e w22 ⟨rfl, hb⟩; refine ⟨_, rfl, ?_⟩; replace HO_3 := am (Kd.R_below (KR HO_3) hb); replace HO122 := am (Kd.R_below (KR HO122) hb); replace HK := am (KeepBut.trans (J0 HK) (KeepBut.of_below hb g none) (.inl rfl)); replace HB := am (below_step (K1 HB (IsS143.ge HI0.out)) hb); replace HI0 := am (IsS143.below (I143_0 HI0) hb); (try clear hb); (try clear hb2); (try clear hk); (try clear hi)) | ((with_reducible refine gate_callee (f := 147) rfl ?_); refine goesL_ (some 25) rfl rfl Try.func147 (by kernel_rfl) rfl #[.int .i64 0, .int .i64 0] rfl MT ?_; (with_reducible refine (spec_l1Over.calls k1 0 0 t127 t128 _ A15.out).mono ?_); rintro e w23 ⟨rfl, hb⟩; refine ⟨_, rfl, ?_⟩; replace HO_3 := am (Kd.R_below (KR HO_3) hb); replace HO122 := am (Kd.R_below (KR HO122) hb); replace HK := am (KeepBut.trans (J0 HK) (KeepBut.of_below hb g none) (.inl rfl)); replace HB := am (below_step (K1 HB (IsS143.ge HI0.out)) hb); replace HI0 := am (IsS143.below (I143_0 HI0) hb); (try clear hb); (try clear hb2); (try clear hk); (try clear hi)) | ((with_reducible refine gate_builtin (b := .append) (xs := #[.tmp 20, .tmp 27]) rfl ?_); at_builtin; refine Kd.R_append k34 w.heap.size rfl (.tmp 20) (.tmp 27) 23 34 (.agg #[(.int .i64 0), (.int .i64 0), (.int .i64 0), (.int .i64 0), (.int .i64 0), (.int .i64 0), (.int .i64 0), (.int .i64 0)]) 64 rfl Try.underlying23 info34 rfl (by decide) (by omega) u3 x3_1 (⟨t123, 0, (⟨t125, t126⟩ : S32), (⟨t127, t128⟩ : S32), 0, 65535⟩ : S34) [.int .i64 t123, .int .i64 0, .int .i64 t125, .int .i64 t126, .int .i64 t127, .int .i64 t128, .int .i64 0, .int .i64 65535] (fun _ => True) (fun _ => False) rfl rfl ?aP (fun _ hk => hk.elim) ?aF ?aO (Below.refl _ _) ?aS ?aL ?_; (case aP => exact k34_mkM _ _ _ (⟨t123, 0, (⟨t125, t126⟩ : S32), (⟨t127, t128⟩ : S32), 0, 65535⟩ : S34)); (case aF => exact (fun _ _ => trivial)); (case aO => exact (KR HO_3)); (case aS => exact (keep_size (w := w) (g := g) (row := none) (J0 HK))); (case aL => have := LMc16.out; omega); intro v130 w24 ho hb hg hat; rw [← Ny129.out] at ho; replace HO122 := am (Kd.R_over' (KR HO122) (Kd.R_typed (KR HO_3)) (by decide) hg); replace HB := am (below_weaken (K1 HB (IsS143.ge HI0.out)) HL.out hb); replace HI0 := am (IsS143.grown (I143_0 HI0) hg (IsS143.own_ne HI0.out HO_3.out (by decide))); replace HK := am (KeepBut.trans (J0 HK) (KeepBut.of_grown hg g) (Kd.R_base2 HO_3.out)); have HO131 := am (ho); clear HO_3; clear ho hb hg hat))
      go_ret
      exact ⟨_, by first | rfl | (simp [errW_none, errW_some] <;> rfl) | (simp [*, errW_none, errW_some] <;> rfl), by (with_reducible repeat (first | apply Kd.R_alloc | apply Kd.R_drewN | apply Kd.R_drew)); exact HO131.out, I143_0 HI0, K1 HB (IsS143.ge HI0.out), J0 HK⟩
     ·rw [if_neg c16] at H
      exact absurd H (by simp)
    ·rw [if_neg c12] at H
     have c12b0 : (t118 == 0) = false := beq_eq_false_iff_ne.mpr c12
     have c12b1 : (t118 != 0) = true := bne_iff_ne.mpr c12
     simp only [Option.some.injEq, Prod.mk.injEq] at H
     obtain ⟨rfl, rfl⟩ := H
     go_wp2_with (first | ((with_reducible refine gate_callee (f := 91) rfl ?_); refine goesL_ (some 18) rfl rfl Try.func91 (by kernel_rfl) rfl #[.pointer (some ⟨g, 0, none⟩), .int .i64 2] rfl MT ?_; (with_reducible refine (spec_l1Rd_pick.calls k1 g s0_0 x1001_1 2 t118 t119 w0 _ ?side1 ?side2 A11.out).mono ?_); (case side1 => exact I143_0 HI0); (case side2 => exact K1 HB (IsS143.ge HI0.out)); rintro e w25 ⟨rfl, hi, hb, hk⟩; refine ⟨_, rfl, ?_⟩; replace HO_3 := am (Kd.R_mono (Kd.R_keep (IsS143.apart (show IsS143 w0 _ g s0_0 x1001_1 from I143_0 HI0) (KR HO_3) (by decide)) hk (fun _ h => h.2)) (fun _ h => h.1)); replace HK := am (KeepBut.trans (J0 HK) hk (.inl rfl)); replace HB := am (hb); replace HI0 := am (hi); (try clear hb); (try clear hb2); (try clear hk); (try clear hi)))
     go_ret
     exact ⟨_, by first | rfl | (simp [errW_none, errW_some] <;> rfl) | (simp [*, errW_none, errW_some] <;> rfl), by (with_reducible repeat (first | apply Kd.R_alloc | apply Kd.R_drewN | apply Kd.R_drew)); exact HO_3.out, I143_0 HI0, K1 HB (IsS143.ge HI0.out), J0 HK⟩
end Go.Proofs.Ytioghacieopbdaa.PAll
end
section
namespace Go.Proofs.Ytioghacieopbdaa.PAll
open Go.RowKit Go.Proofs.YtioghacieopbdaaW.PrintWords Go.Proofs.YtioghacieopbdaaW.PrintLast Go.Proofs.YtioghacieopbdaaW.PrintMore
attribute [local go_sem] max2_int min2_int max_two min_two max_three min_three max_four min_four   -- for this text's walks alone
set_option linter.unusedVariables false
set_option linter.unusedSimpArgs false
def spec_l12AnyRules.l0 : Nat → List (S34) → List Int → Int → Option ((List (S34)) × Int)
 | 0, _, _, _ => none
 | k + 1, x3, x1000, x1001 => (spec_l1Rd_pick.f k x1000 x1001 2).bind fun bt131 => (if (x3.length : Int) < (wrap64 (8 + bt131.1)) then ((spec_l12Rule.f k x1000 bt131.2).bind fun bt133 => (if x3.length < 2199023255552 then (spec_l12AnyRules.l0 k (x3 ++ [(⟨bt133.1, bt133.2.1, (⟨bt133.2.2.1, bt133.2.2.2.1⟩ : S32), (⟨bt133.2.2.2.2.1, bt133.2.2.2.2.2.1⟩ : S32), bt133.2.2.2.2.2.2.1, bt133.2.2.2.2.2.2.2.1⟩ : S34)]) x1000 bt133.2.2.2.2.2.2.2.2) else (none))) else (some (x3, bt131.2)))
def spec_l12AnyRules.f (k : Nat) (s0_0 : List Int) (s0_1 : Int) : Option ((List (S34)) × Int) := (spec_l12Rules.f k s0_0 s0_1).bind fun bt101 => (if (bt101.1.length : Int) = 0 then (some (bt101.1, bt101.2)) else ((spec_l1Rd_pick.f k s0_0 bt101.2 (bt101.1.length : Int)).bind fun bt105 => ((spec_l1Rd_pick.f k s0_0 bt105.2 20).bind fun bt107 => (if bt107.1 = 0 then ((spec_l1Rd_one.f k s0_0 bt107.2 (([(-1), 3, 0] : List Int))).bind fun bt112 => (if 0 ≤ bt105.1 then (if bt105.1 < (bt101.1.length : Int) then (some ((bt101.1.set (bt105.1 : Int).toNat (⟨bt112.1, (rd_T34 bt101.1 bt105.1).f1, (⟨(rd_T34 bt101.1 bt105.1).f2.f0, (rd_T34 bt101.1 bt105.1).f2.f1⟩ : S32), (⟨(rd_T34 bt101.1 bt105.1).f3.f0, (rd_T34 bt101.1 bt105.1).f3.f1⟩ : S32), (rd_T34 bt101.1 bt105.1).f4, (rd_T34 bt101.1 bt105.1).f5⟩ : S34)), bt112.2)) else (none)) else (none))) else (if bt107.1 = 1 then ((spec_l1Rd_one.f k s0_0 bt107.2 (([(-1), 4, 1] : List Int))).bind fun bt118 => (if 0 ≤ bt105.1 then (if bt105.1 < (bt101.1.length : Int) then (some ((bt101.1.set (bt105.1 : Int).toNat (⟨(rd_T34 bt101.1 bt105.1).f0, bt118.1, (⟨(rd_T34 bt101.1 bt105.1).f2.f0, (rd_T34 bt101.1 bt105.1).f2.f1⟩ : S32), (⟨(rd_T34 bt101.1 bt105.1).f3.f0, (rd_T34 bt101.1 bt105.1).f3.f1⟩ : S32), (rd_T34 bt101.1 bt105.1).f4, (rd_T34 bt101.1 bt105.1).f5⟩ : S34)), bt118.2)) else (none)) else (none))) else (if bt107.1 = 2 then ((spec_l1Rd_one.f k s0_0 bt107.2 (([(-1), 65536] : List Int))).bind fun bt124 => (if 0 ≤ bt105.1 then (if bt105.1 < (bt101.1.length : Int) then (some ((bt101.1.set (bt105.1 : Int).toNat (⟨(rd_T34 bt101.1 bt105.1).f0, (rd_T34 bt101.1 bt105.1).f1, (⟨(rd_T34 bt101.1 bt105.1).f2.f0, (rd_T34 bt101.1 bt105.1).f2.f1⟩ : S32), (⟨(rd_T34 bt101.1 bt105.1).f3.f0, (rd_T34 bt101.1 bt105.1).f3.f1⟩ : S32), bt124.1, (rd_T34 bt101.1 bt105.1).f5⟩ : S34)), bt124.2)) else (none)) else (none))) else (if bt107.1 = 3 then ((spec_l12AnyBlock.f k s0_0 bt107.2).bind fun bt127 => (if 0 ≤ bt105.1 then (if bt105.1 < (bt101.1.length : Int) then (some ((bt101.1.set (bt105.1 : Int).toNat (⟨(rd_T34 bt101.1 bt105.1).f0, (rd_T34 bt101.1 bt105.1).f1, (⟨bt127.1, bt127.2.1⟩ : S32), (⟨(rd_T34 bt101.1 bt105.1).f3.f0, (rd_T34 bt101.1 bt105.1).f3.f1⟩ : S32), (rd_T34 bt101.1 bt105.1).f4, (rd_T34 bt101.1 bt105.1).f5⟩ : S34)), bt127.2.2)) else (none)) else (none))) else (if bt107.1 = 4 then (spec_l12AnyRules.l0 k bt101.1 s0_0 bt107.2) else (some (bt101.1, bt107.2))))))))))
set_option maxHeartbeats 8000000 in
set_option maxRecDepth 100000 in
theorem spec_l12AnyRules.calls (k : Nat) (g : Nat) (s0_0 : List Int) (s0_1 : Int) (r1 : List (S34)) (r2 : Int) (w0 w : World) (hI : IsS143 w0 w g s0_0 s0_1) (hB : Below w0.heap.size w0 w) (h : spec_l12AnyRules.f k s0_0 s0_1 = some (r1, r2)) :
  Calls Try.prog 71 #[.pointer (some ⟨g, 0, none⟩)] w fun e w' => ∃ v0_ : Value, e = .returned (v0_) ∧ Kd.R k34 34 w' w.heap.size (fun _ => True) v0_ r1 ∧ IsS143 w0 w' g s0_0 r2 ∧ Below w0.heap.size w0 w' ∧ KeepBut w w' g none := by
 have hu32 := Try.underlying32
 have HI0 := Aside0.mk hI
 have HK := am (KeepBut.refl w g none)
 have HL := Aside0.mk hB.size
 clear hI
 have HW0 := Aside0.mk hB.size
 have HB := Aside0.mk hB
 clear hB
 have H : ((spec_l12Rules.f k s0_0 s0_1).bind fun bt101 => (if (bt101.1.length : Int) = 0 then (some (bt101.1, bt101.2)) else ((spec_l1Rd_pick.f k s0_0 bt101.2 (bt101.1.length : Int)).bind fun bt105 => ((spec_l1Rd_pick.f k s0_0 bt105.2 20).bind fun bt107 => (if bt107.1 = 0 then ((spec_l1Rd_one.f k s0_0 bt107.2 (([(-1), 3, 0] : List Int))).bind fun bt112 => (if 0 ≤ bt105.1 then (if bt105.1 < (bt101.1.length : Int) then (some ((bt101.1.set (bt105.1 : Int).toNat (⟨bt112.1, (rd_T34 bt101.1 bt105.1).f1, (⟨(rd_T34 bt101.1 bt105.1).f2.f0, (rd_T34 bt101.1 bt105.1).f2.f1⟩ : S32), (⟨(rd_T34 bt101.1 bt105.1).f3.f0, (rd_T34 bt101.1 bt105.1).f3.f1⟩ : S32), (rd_T34 bt101.1 bt105.1).f4, (rd_T34 bt101.1 bt105.1).f5⟩ : S34)), bt112.2)) else (none)) else (none))) else (if bt107.1 = 1 then ((spec_l1Rd_one.f k s0_0 bt107.2 (([(-1), 4, 1] : List Int))).bind fun bt118 => (if 0 ≤ bt105.1 then (if bt105.1 < (bt101.1.length : Int) then (some ((bt101.1.set (bt105.1 : Int).toNat (⟨(rd_T34 bt101.1 bt105.1).f0, bt118.1, (⟨(rd_T34 bt101.1 bt105.1).f2.f0, (rd_T34 bt101.1 bt105.1).f2.f1⟩ : S32), (⟨(rd_T34 bt101.1 bt105.1).f3.f0, (rd_T34 bt101.1 bt105.1).f3.f1⟩ : S32), (rd_T34 bt101.1 bt105.1).f4, (rd_T34 bt101.1 bt105.1).f5⟩ : S34)), bt118.2)) else (none)) else (none))) else (if bt107.1 = 2 then ((spec_l1Rd_one.f k s0_0 bt107.2 (([(-1), 65536] : List Int))).bind fun bt124 => (if 0 ≤ bt105.1 then (if bt105.1 < (bt101.1.length : Int) then (some ((bt101.1.set (bt105.1 : Int).toNat (⟨(rd_T34 bt101.1 bt105.1).f0, (rd_T34 bt101.1 bt105.1).f1, (⟨(rd_T34 bt101.1 bt105.1).f2.f0, (rd_T34 bt101.1 bt105.1).f2.f1⟩ : S32), (⟨(rd_T34 bt101.1 bt105.1).f3.f0, (rd_T34 bt101.1 bt105.1).f3.f1⟩ : S32), bt124.1, (rd_T34 bt101.1 bt105.1).f5⟩ : S34)), bt124.2)) else (none)) else (none))) else (if bt107.1 = 3 then ((spec_l12AnyBlock.f k s0_0 bt107.2).bind fun bt127 => (if 0 ≤ bt105.1 then (if bt105.1 < (bt101.1.length : Int) then (some ((bt101.1.set (bt105.1 : Int).toNat (⟨(rd_T34 bt101.1 bt105.1).f0, (rd_T34 bt101.1 bt105.1).f1, (⟨bt127.1, bt127.2.1⟩ : S32), (⟨(rd_T34 bt101.1 bt105.1).f3.f0, (rd_T34 bt101.1 bt105.1).f3.f1⟩ : S32), (rd_T34 bt101.1 bt105.1).f4, (rd_T34 bt101.1 bt105.1).f5⟩ : S34)), bt127.2.2)) else (none)) else (none))) else (if bt107.1 = 4 then (spec_l12AnyRules.l0 k bt101.1 s0_0 bt107.2) else (some (bt101.1, bt107.2))))))))))) = some (r1, r2) := h
 clear h
 replace H := Option.bind_eq_some_iff.mp H
 obtain ⟨⟨t101, t104⟩, A20, H⟩ := H
 replace H : (if (t101.length : Int) = 0 then (some (t101, t104)) else ((spec_l1Rd_pick.f k s0_0 t104 (t101.length : Int)).bind fun bt105 => ((spec_l1Rd_pick.f k s0_0 bt105.2 20).bind fun bt107 => (if bt107.1 = 0 then ((spec_l1Rd_one.f k s0_0 bt107.2 (([(-1), 3, 0] : List Int))).bind fun bt112 => (if 0 ≤ bt105.1 then (if bt105.1 < (t101.length : Int) then (some ((t101.set (bt105.1 : Int).toNat (⟨bt112.1, (rd_T34 t101 bt105.1).f1, (⟨(rd_T34 t101 bt105.1).f2.f0, (rd_T34 t101 bt105.1).f2.f1⟩ : S32), (⟨(rd_T34 t101 bt105.1).f3.f0, (rd_T34 t101 bt105.1).f3.f1⟩ : S32), (rd_T34 t101 bt105.1).f4, (rd_T34 t101 bt105.1).f5⟩ : S34)), bt112.2)) else (none)) else (none))) else (if bt107.1 = 1 then ((spec_l1Rd_one.f k s0_0 bt107.2 (([(-1), 4, 1] : List Int))).bind fun bt118 => (if 0 ≤ bt105.1 then (if bt105.1 < (t101.length : Int) then (some ((t101.set (bt105.1 : Int).toNat (⟨(rd_T34 t101 bt105.1).f0, bt118.1, (⟨(rd_T34 t101 bt105.1).f2.f0, (rd_T34 t101 bt105.1).f2.f1⟩ : S32), (⟨(rd_T34 t101 bt105.1).f3.f0, (rd_T34 t101 bt105.1).f3.f1⟩ : S32), (rd_T34 t101 bt105.1).f4, (rd_T34 t101 bt105.1).f5⟩ : S34)), bt118.2)) else (none)) else (none))) else (if bt107.1 = 2 then ((spec_l1Rd_one.f k s0_0 bt107.2 (([(-1), 65536] : List Int))).bind fun bt124 => (if 0 ≤ bt105.1 then (if bt105.1 < (t101.length : Int) then (some ((t101.set (bt105.1 : Int).toNat (⟨(rd_T34 t101 bt105.1).f0, (rd_T34 t101 bt105.1).f1, (⟨(rd_T34 t101 bt105.1).f2.f0, (rd_T34 t101 bt105.1).f2.f1⟩ : S32), (⟨(rd_T34 t101 bt105.1).f3.f0, (rd_T34 t101 bt105.1).f3.f1⟩ : S32), bt124.1, (rd_T34 t101 bt105.1).f5⟩ : S34)), bt124.2)) else (none)) else (none))) else (if bt107.1 = 3 then ((spec_l12AnyBlock.f k s0_0 bt107.2).bind fun bt127 => (if 0 ≤ bt105.1 then (if bt105.1 < (t101.length : Int) then (some ((t101.set (bt105.1 : Int).toNat (⟨(rd_T34 t101 bt105.1).f0, (rd_T34 t101 bt105.1).f1, (⟨bt127.1, bt127.2.1⟩ : S32), (⟨(rd_T34 t101 bt105.1).f3.f0, (rd_T34 t101 bt105.1).f3.f1⟩ : S32), (rd_T34 t101 bt105.1).f4, (rd_T34 t101 bt105.1).f5⟩ : S34)), bt127.2.2)) else (none)) else (none))) else (if bt107.1 = 4 then (spec_l12AnyRules.l0 k t101 s0_0 bt107.2) else (some (t101, bt107.2)))))))))) = some (r1, r2) := H
 have A2 := Aside0.mk A20
 clear A20
 by_cases c3 : (t101.length : Int) = 0
 ·rw [if_pos c3] at H
  have c3b0 : ((t101.length : Int) == 0) = true := beq_iff_eq.mpr c3
  have c3b1 : ((t101.length : Int) != 0) = false := bne_eq_false_iff_eq.mpr c3
  clear c3
  simp only [Option.some.injEq, Prod.mk.injEq] at H
  obtain ⟨rfl, rfl⟩ := H
  go_enter Try.func71, Try.ntmps71
  go_wp2_with (first | ((with_reducible refine gate_callee (f := 122) rfl ?_); refine goesL_ (some 6) rfl rfl Try.func122 (by kernel_rfl) rfl #[.pointer (some ⟨g, 0, none⟩)] rfl MT ?_; (with_reducible refine (spec_l12Rules.calls k g s0_0 s0_1 t101 t104 w0 _ ?side1 ?side2 A2.out).mono ?_); (case side1 => exact I143_0 HI0); (case side2 => exact K1 HB (IsS143.ge HI0.out)); rintro e w4 ⟨v102, rfl, ho0, hi, hb, hk⟩; refine ⟨_, rfl, ?_⟩; have HO103 := am (Kd.R_lower ho0 (keep_size (w := w) (g := g) (row := none) (J0 HK))); replace HK := am (KeepBut.trans (J0 HK) hk (.inl rfl)); replace HB := am (hb); replace HI0 := am (hi); (try clear hb); (try clear hb2); (try clear hk); (try clear hi); (try clear ho0); obtain ⟨Ao5, co5, eo5⟩ := Kd.R_slice HO103.out; subst eo5))
  go_ret
  exact ⟨_, by first | rfl | (simp [errW_none, errW_some] <;> rfl) | (simp [*, errW_none, errW_some] <;> rfl), by (with_reducible repeat (first | apply Kd.R_alloc | apply Kd.R_drewN | apply Kd.R_drew)); exact HO103.out, I143_0 HI0, K1 HB (IsS143.ge HI0.out), J0 HK⟩
 ·rw [if_neg c3] at H
  have c3b0 : ((t101.length : Int) == 0) = false := beq_eq_false_iff_ne.mpr c3
  have c3b1 : ((t101.length : Int) != 0) = true := bne_iff_ne.mpr c3
  have c3b2 : ¬ (t101 = []) := fun h_ => c3 (by rw [h_]; rfl)
  replace H := Option.bind_eq_some_iff.mp H
  obtain ⟨⟨t105, t106⟩, A60, H⟩ := H
  replace H : ((spec_l1Rd_pick.f k s0_0 t106 20).bind fun bt107 => (if bt107.1 = 0 then ((spec_l1Rd_one.f k s0_0 bt107.2 (([(-1), 3, 0] : List Int))).bind fun bt112 => (if 0 ≤ t105 then (if t105 < (t101.length : Int) then (some ((t101.set (t105 : Int).toNat (⟨bt112.1, (rd_T34 t101 t105).f1, (⟨(rd_T34 t101 t105).f2.f0, (rd_T34 t101 t105).f2.f1⟩ : S32), (⟨(rd_T34 t101 t105).f3.f0, (rd_T34 t101 t105).f3.f1⟩ : S32), (rd_T34 t101 t105).f4, (rd_T34 t101 t105).f5⟩ : S34)), bt112.2)) else (none)) else (none))) else (if bt107.1 = 1 then ((spec_l1Rd_one.f k s0_0 bt107.2 (([(-1), 4, 1] : List Int))).bind fun bt118 => (if 0 ≤ t105 then (if t105 < (t101.length : Int) then (some ((t101.set (t105 : Int).toNat (⟨(rd_T34 t101 t105).f0, bt118.1, (⟨(rd_T34 t101 t105).f2.f0, (rd_T34 t101 t105).f2.f1⟩ : S32), (⟨(rd_T34 t101 t105).f3.f0, (rd_T34 t101 t105).f3.f1⟩ : S32), (rd_T34 t101 t105).f4, (rd_T34 t101 t105).f5⟩ : S34)), bt118.2)) else (none)) else (none))) else (if bt107.1 = 2 then ((spec_l1Rd_one.f k s0_0 bt107.2 (([(-1), 65536] : List Int))).bind fun bt124 => (if 0 ≤ t105 then (if t105 < (t101.length : Int) then (some ((t101.set (t105 : Int).toNat (⟨(rd_T34 t101 t105).f0, (rd_T34 t101 t105).f1, (⟨(rd_T34 t101 t105).f2.f0, (rd_T34 t101 t105).f2.f1⟩ : S32), (⟨(rd_T34 t101 t105).f3.f0, (rd_T34 t101 t105).f3.f1⟩ : S32), bt124.1, (rd_T34 t101 t105).f5⟩ : S34)), bt124.2)) else (none)) else (none))) else (if bt107.1 = 3 then ((spec_l12AnyBlock.f k s0_0 bt107.2).bind fun bt127 => (if 0 ≤ t105 then (if t105 < (t101.length : Int) then (some ((t101.set (t105 : Int).toNat (⟨(rd_T34 t101 t105).f0, (rd_T34 t101 t105).f1, (⟨bt127.1, bt127.2.1⟩ : S32), (⟨(rd_T34 t101 t105).f3.f0, (rd_T34 t101 t105).f3.f1⟩ : S32), (rd_T34 t101 t105).f4, (rd_T34 t101 t105).f5⟩ : S34)), bt127.2.2)) else (none)) else (none))) else (if bt107.1 = 4 then (spec_l12AnyRules.l0 k t101 s0_0 bt107.2) else (some (t101, bt107.2)))))))) = some (r1, r2) := H
  have A6 := Aside0.mk A60
  clear A60
  replace H := Option.bind_eq_some_iff.mp H
  obtain ⟨⟨t107, t108⟩, A70, H⟩ := H
  replace H : (if t107 = 0 then ((spec_l1Rd_one.f k s0_0 t108 (([(-1), 3, 0] : List Int))).bind fun bt112 => (if 0 ≤ t105 then (if t105 < (t101.length : Int) then (some ((t101.set (t105 : Int).toNat (⟨bt112.1, (rd_T34 t101 t105).f1, (⟨(rd_T34 t101 t105).f2.f0, (rd_T34 t101 t105).f2.f1⟩ : S32), (⟨(rd_T34 t101 t105).f3.f0, (rd_T34 t101 t105).f3.f1⟩ : S32), (rd_T34 t101 t105).f4, (rd_T34 t101 t105).f5⟩ : S34)), bt112.2)) else (none)) else (none))) else (if t107 = 1 then ((spec_l1Rd_one.f k s0_0 t108 (([(-1), 4, 1] : List Int))).bind fun bt118 => (if 0 ≤ t105 then (if t105 < (t101.length : Int) then (some ((t101.set (t105 : Int).toNat (⟨(rd_T34 t101 t105).f0, bt118.1, (⟨(rd_T34 t101 t105).f2.f0, (rd_T34 t101 t105).f2.f1⟩ : S32), (⟨(rd_T34 t101 t105).f3.f0, (rd_T34 t101 t105).f3.f1⟩ : S32), (rd_T34 t101 t105).f4, (rd_T34 t101 t105).f5⟩ : S34)), bt118.2)) else (none)) else (none))) else (if t107 = 2 then ((spec_l1Rd_one.f k s0_0 t108 (([(-1), 65536] : List Int))).bind fun bt124 => (if 0 ≤ t105 then (if t105 < (t101.length : Int) then (some ((t101.set (t105 : Int).toNat (⟨(rd_T34 t101 t105).f0, (rd_T34 t101 t105).f1, (⟨(rd_T34 t101 t105).f2.f0, (rd_T34 t101 t105).f2.f1⟩ : S32), (⟨(rd_T34 t101 t105).f3.f0, (rd_T34 t101 t105).f3.f1⟩ : S32), bt124.1, (rd_T34 t101 t105).f5⟩ : S34)), bt124.2)) else (none)) else (none))) else (if t107 = 3 then ((spec_l12AnyBlock.f k s0_0 t108).bind fun bt127 => (if 0 ≤ t105 then (if t105 < (t101.length : Int) then (some ((t101.set (t105 : Int).toNat (⟨(rd_T34 t101 t105).f0, (rd_T34 t101 t105).f1, (⟨bt127.1, bt127.2.1⟩ : S32), (⟨(rd_T34 t101 t105).f3.f0, (rd_T34 t101 t105).f3.f1⟩ : S32), (rd_T34 t101 t105).f4, (rd_T34 t101 t105).f5⟩ : S34)), bt127.2.2)) else (none)) else (none))) else (if t107 = 4 then (spec_l12AnyRules.l0 k t101 s0_0 t108) else (some (t101, t108))))))) = some (r1, r2) := H
  have A7 := Aside0.mk A70
  clear A70
  by_cases c8 : t107 = 0
  ·rw [if_pos c8] at H
   have c8b0 : (t107 == 0) = true := beq_iff_eq.mpr c8
   have c8b1 : (t107 != 0) = false := bne_eq_false_iff_eq.mpr c8
   clear c8
   obtain ⟨y109, hy109⟩ : ∃ y_ : List Int, y_ = (([(-1), 3, 0] : List Int)) := ⟨_, rfl⟩
   replace H : ((spec_l1Rd_one.f k s0_0 t108 y109).bind fun bt112 => (if 0 ≤ t105 then (if t105 < (t101.length : Int) then (some ((t101.set (t105 : Int).toNat (⟨bt112.1, (rd_T34 t101 t105).f1, (⟨(rd_T34 t101 t105).f2.f0, (rd_T34 t101 t105).f2.f1⟩ : S32), (⟨(rd_T34 t101 t105).f3.f0, (rd_T34 t101 t105).f3.f1⟩ : S32), (rd_T34 t101 t105).f4, (rd_T34 t101 t105).f5⟩ : S34)), bt112.2)) else (none)) else (none))) = some (r1, r2) := by first | (rw [hy109]; with_reducible exact H) | (have H2_ := (Option.bind_some _ _).symm.trans H; rw [hy109]; with_reducible exact H2_) | (have H2_ := (Option.bind_some _ _).symm.trans H; with_reducible exact H2_) | with_reducible exact H | (rw [hy109]; exact H) | exact H
   have Ny109 := Aside0.mk hy109
   clear hy109
   replace H := Option.bind_eq_some_iff.mp H
   obtain ⟨⟨t112, t113⟩, A90, H⟩ := H
   replace H : (if 0 ≤ t105 then (if t105 < (t101.length : Int) then (some ((t101.set (t105 : Int).toNat (⟨t112, (rd_T34 t101 t105).f1, (⟨(rd_T34 t101 t105).f2.f0, (rd_T34 t101 t105).f2.f1⟩ : S32), (⟨(rd_T34 t101 t105).f3.f0, (rd_T34 t101 t105).f3.f1⟩ : S32), (rd_T34 t101 t105).f4, (rd_T34 t101 t105).f5⟩ : S34)), t113)) else (none)) else (none)) = some (r1, r2) := H
   have A9 := Aside0.mk A90
   clear A90
   by_cases c10 : 0 ≤ t105
   ·rw [if_pos c10] at H
    have c10b0 : decide (0 ≤ t105) = true := decide_eq_true c10
    clear c10
    by_cases c11 : t105 < (t101.length : Int)
    ·rw [if_pos c11] at H
     have c11b0 : decide (t105 < (t101.length : Int)) = true := decide_eq_true c11
     clear c11
     obtain ⟨y114, hy114⟩ : ∃ y_ : List (S34), y_ = (t101.set (t105 : Int).toNat (⟨t112, (rd_T34 t101 t105).f1, (⟨(rd_T34 t101 t105).f2.f0, (rd_T34 t101 t105).f2.f1⟩ : S32), (⟨(rd_T34 t101 t105).f3.f0, (rd_T34 t101 t105).f3.f1⟩ : S32), (rd_T34 t101 t105).f4, (rd_T34 t101 t105).f5⟩ : S34)) := ⟨_, rfl⟩
     replace H : (some (y114, t113)) = some (r1, r2) := by first | (rw [hy114]; with_reducible exact H) | (have H2_ := (Option.bind_some _ _).symm.trans H; rw [hy114]; with_reducible exact H2_) | (have H2_ := (Option.bind_some _ _).symm.trans H; with_reducible exact H2_) | with_reducible exact H | (rw [hy114]; exact H) | exact H
     have Ny114 := Aside0.mk hy114
     clear hy114
     simp only [Option.some.injEq, Prod.mk.injEq] at H
     obtain ⟨rfl, rfl⟩ := H
     go_enter Try.func71, Try.ntmps71
     go_wp2_with (first | ((with_reducible refine gate_callee (f := 122) rfl ?_); refine goesL_ (some 6) rfl rfl Try.func122 (by kernel_rfl) rfl #[.pointer (some ⟨g, 0, none⟩)] rfl MT ?_; (with_reducible refine (spec_l12Rules.calls k g s0_0 s0_1 t101 t104 w0 _ ?side1 ?side2 A2.out).mono ?_); (case side1 => exact I143_0 HI0); (case side2 => exact K1 HB (IsS143.ge HI0.out)); rintro e w13 ⟨v102, rfl, ho0, hi, hb, hk⟩; refine ⟨_, rfl, ?_⟩; have HO103 := am (Kd.R_lower ho0 (keep_size (w := w) (g := g) (row := none) (J0 HK))); replace HK := am (KeepBut.trans (J0 HK) hk (.inl rfl)); replace HB := am (hb); replace HI0 := am (hi); (try clear hb); (try clear hb2); (try clear hk); (try clear hi); (try clear ho0); obtain ⟨Ao14, co14, eo14⟩ := Kd.R_slice HO103.out; subst eo14) | ((with_reducible refine gate_callee (f := 91) rfl ?_); refine goesL_ (some 14) rfl rfl Try.func91 (by kernel_rfl) rfl #[.pointer (some ⟨g, 0, none⟩), .int .i64 (t101.length : Int)] rfl MT ?_; (with_reducible refine (spec_l1Rd_pick.calls k g s0_0 t104 (t101.length : Int) t105 t106 w0 _ ?side1 ?side2 A6.out).mono ?_); (case side1 => exact I143_0 HI0); (case side2 => exact K1 HB (IsS143.ge HI0.out)); rintro e w15 ⟨rfl, hi, hb, hk⟩; refine ⟨_, rfl, ?_⟩; replace HO103 := am (Kd.R_mono (Kd.R_keep (IsS143.apart (show IsS143 w0 _ g s0_0 t104 from I143_0 HI0) (KR HO103) (by decide)) hk (fun _ h => h.2)) (fun _ h => h.1)); replace HK := am (KeepBut.trans (J0 HK) hk (.inl rfl)); replace HB := am (hb); replace HI0 := am (hi); (try clear hb); (try clear hb2); (try clear hk); (try clear hi)) | ((with_reducible refine gate_callee (f := 91) rfl ?_); refine goesL_ (some 16) rfl rfl Try.func91 (by kernel_rfl) rfl #[.pointer (some ⟨g, 0, none⟩), .int .i64 20] rfl MT ?_; (with_reducible refine (spec_l1Rd_pick.calls k g s0_0 t106 20 t107 t108 w0 _ ?side1 ?side2 A7.out).mono ?_); (case side1 => exact I143_0 HI0); (case side2 => exact K1 HB (IsS143.ge HI0.out)); rintro e w16 ⟨rfl, hi, hb, hk⟩; refine ⟨_, rfl, ?_⟩; replace HO103 := am (Kd.R_mono (Kd.R_keep (IsS143.apart (show IsS143 w0 _ g s0_0 t106 from I143_0 HI0) (KR HO103) (by decide)) hk (fun _ h => h.2)) (fun _ h => h.1)); replace HK := am (KeepBut.trans (J0 HK) hk (.inl rfl)); replace HB := am (hb); replace HI0 := am (hi); (try clear hb); (try clear hb2); (try clear hk); (try clear hi)) | ((with_reducible refine gate_dst (N := 22) rfl ?_); refine Kd.R_lit (Kd.int .i64) _ 3 ?hg (N := 22) ?hd (xs := ([(-1), 3, 0] : List Int)) (inner := [.int .i64 (-1), .int .i64 3, .int .i64 0]) (ok := fun _ => True) (okp := fun _ => True) ?hr ?hp (fun _ hk => hk) trivial (Below.refl _ _) (Nat.le_refl _) (by simp) ?_; (case hd => rfl); (case hg => rfl); (case hr => first | (go_simp; done) | (go_simp; rfl)); (case hp => exact (Reps.one (show Kd.M (Kd.int .i64) _ _ _ (-1) [.int .i64 (-1)] from rfl) (Reps.one (show Kd.M (Kd.int .i64) _ _ _ 3 [.int .i64 3] from rfl) (Reps.one (show Kd.M (Kd.int .i64) _ _ _ 0 [.int .i64 0] from rfl) (Reps.none _ _))))); intro v110 w17 ho18 hb hg_ hnew_; clear hg_ hnew_; (first | rw [← Ny109.out] at ho18 | (simp only [Int.reduceToNat] at ho18; rw [← Ny109.out] at ho18)); replace HO103 := am (Kd.R_below (KR HO103) hb); have HO111 := am (Kd.R_lower ho18 (keep_size (w := w) (g := g) (row := none) (J0 HK))); replace HK := am (KeepBut.trans (J0 HK) (KeepBut.of_below hb g none) (.inl rfl)); replace HB := am (below_step (K1 HB (IsS143.ge HI0.out)) hb); replace HI0 := am (IsS143.below (I143_0 HI0) hb); clear hb ho18; obtain ⟨Ao19, co19, eo19⟩ := Kd.R_slice HO111.out; subst eo19) | ((with_reducible refine gate_callee (f := 95) rfl ?_); refine goesL_ (some 23) rfl rfl Try.func95 (by kernel_rfl) rfl #[.pointer (some ⟨g, 0, none⟩), .slice Ao19 y109.length co19] rfl MT ?_; (with_reducible refine (spec_l1Rd_one.calls k g s0_0 t108 _ _ y109 t112 t113 w0 _ ?side1 ?side2 ?side3 ?side4 ?side5 A9.out).mono ?_); (case side1 => exact I143_0 HI0); (case side2 => exact K1 HB (IsS143.ge HI0.out)); (case side3 => exact KC (Kd.R_reads' HO111.out).2.2); (case side4 => exact (Kd.R_reads' HO111.out).2.1); (case side5 => exact far_slice (IsS143.own_ne HI0.out HO111.out (by decide))); rintro e w20 ⟨rfl, hi, hb, hk⟩; refine ⟨_, rfl, ?_⟩; replace HO103 := am (Kd.R_mono (Kd.R_keep (IsS143.apart (show IsS143 w0 _ g s0_0 t108 from I143_0 HI0) (KR HO103) (by decide)) hk (fun _ h => h.2)) (fun _ h => h.1)); replace HO111 := am (Kd.R_mono (Kd.R_keep (IsS143.apart (show IsS143 w0 _ g s0_0 t108 from I143_0 HI0) (KR HO111) (by decide)) hk (fun _ h => h.2)) (fun _ h => h.1)); replace HK := am (KeepBut.trans (J0 HK) hk (.inl rfl)); replace HB := am (hb); replace HI0 := am (hi); (try clear hb); (try clear hb2); (try clear hk); (try clear hi); have p12 : 0 ≤ (t105 : Int) := of_decide_eq_true (by first | (with_reducible assumption) | assumption); have q12 : (t105 : Int) < ((t101.length : Int) : Int) := of_decide_eq_true (by first | (with_reducible assumption) | assumption); obtain ⟨go12, co12, eo12, gb12, gl12, cl12, HG12⟩ := Kd.R_form HO103.out (by omega); (first | cases eo12 | (injection eo12 with ea_ en_ ec_; (first | subst ea_ | (injection ea_ with ea_; subst ea_)); subst ec_; clear en_)); have GB12 := Aside0.mk gb12; have GG12 := Aside0.mk HG12; clear gb12 gl12 HG12; obtain ⟨ce12, hcl12, hM12, hcc12, hfr12⟩ := Kd.R_elem HO103.out z34 (t105 : Int) p12 q12; obtain rfl := k34_openM hM12; have hx12_0 : w20.cell? ⟨go12, (t105 : Int).toNat * 8, none⟩ = some (.int .i64 ((rd_T34 t101 t105).f0)) := hcc12 0 _ rfl; have hx12_1 : w20.cell? ⟨go12, (t105 : Int).toNat * 8 + 1, none⟩ = some (.int .i64 ((rd_T34 t101 t105).f1)) := hcc12 1 _ rfl; have hx12_2 : w20.cell? ⟨go12, (t105 : Int).toNat * 8 + 2, none⟩ = some (.int .i64 ((rd_T34 t101 t105).f2.f0)) := hcc12 2 _ rfl; have hx12_3 : w20.cell? ⟨go12, (t105 : Int).toNat * 8 + 3, none⟩ = some (.int .i64 ((rd_T34 t101 t105).f2.f1)) := hcc12 3 _ rfl; have hx12_4 : w20.cell? ⟨go12, (t105 : Int).toNat * 8 + 4, none⟩ = some (.int .i64 ((rd_T34 t101 t105).f3.f0)) := hcc12 4 _ rfl; have hx12_5 : w20.cell? ⟨go12, (t105 : Int).toNat * 8 + 5, none⟩ = some (.int .i64 ((rd_T34 t101 t105).f3.f1)) := hcc12 5 _ rfl; have hx12_6 : w20.cell? ⟨go12, (t105 : Int).toNat * 8 + 6, none⟩ = some (.int .i64 ((rd_T34 t101 t105).f4)) := hcc12 6 _ rfl; have hx12_7 : w20.cell? ⟨go12, (t105 : Int).toNat * 8 + 7, none⟩ = some (.int .i64 ((rd_T34 t101 t105).f5)) := hcc12 7 _ rfl; have hf12_0 : w20.frozen? ⟨go12, (t105 : Int).toNat * 8, none⟩ = false := hfr12 0; have hf12_1 : w20.frozen? ⟨go12, (t105 : Int).toNat * 8 + 1, none⟩ = false := hfr12 1; have hf12_2 : w20.frozen? ⟨go12, (t105 : Int).toNat * 8 + 2, none⟩ = false := hfr12 2; have hf12_3 : w20.frozen? ⟨go12, (t105 : Int).toNat * 8 + 3, none⟩ = false := hfr12 3; have hf12_4 : w20.frozen? ⟨go12, (t105 : Int).toNat * 8 + 4, none⟩ = false := hfr12 4; have hf12_5 : w20.frozen? ⟨go12, (t105 : Int).toNat * 8 + 5, none⟩ = false := hfr12 5; have hf12_6 : w20.frozen? ⟨go12, (t105 : Int).toNat * 8 + 6, none⟩ = false := hfr12 6; have hf12_7 : w20.frozen? ⟨go12, (t105 : Int).toNat * 8 + 7, none⟩ = false := hfr12 7; clear hcl12 hcc12 hfr12 hM12; replace p12 := eq_true p12; replace q12 := eq_true q12; have HX21 := am (show Kd.R k34 34 w20 w.heap.size (fun _ => True) (.slice (some ⟨go12, 0, none⟩) t101.length co14) t101 from (KR HO103)); obtain ⟨ce21, hcl21, hM21, hcc21, hfr21⟩ := Kd.R_elem HX21.out z34 (t105 : Int) (of_decide_eq_true (by first | (with_reducible assumption) | assumption)) (by have h_ : (t105 : Int) < ((t101.length : Int) : Int) := of_decide_eq_true (by first | (with_reducible assumption) | assumption); first | exact h_ | (have e_ := (Kd.R_reads' HO103.out).1; omega) | simpa using h_); obtain rfl := k34_openM hM21; have HP21 := Kd.R_seg HX21.out (t105 : Int) (of_decide_eq_true (by first | (with_reducible assumption) | assumption)) (by have h_ : (t105 : Int) < ((t101.length : Int) : Int) := of_decide_eq_true (by first | (with_reducible assumption) | assumption); first | exact h_ | (have e_ := (Kd.R_reads' HO103.out).1; omega) | simpa using h_) (seg := [.int .i64 t112]) (j := 0) hcl21 hcc21 (show 1 ≤ 8 from by decide) (x' := (⟨t112, (rd_T34 t101 t105).f1, (⟨(rd_T34 t101 t105).f2.f0, (rd_T34 t101 t105).f2.f1⟩ : S32), (⟨(rd_T34 t101 t105).f3.f0, (rd_T34 t101 t105).f3.f1⟩ : S32), (rd_T34 t101 t105).f4, (rd_T34 t101 t105).f5⟩ : S34)) (k34_mkM _ _ _ (⟨t112, (rd_T34 t101 t105).f1, (⟨(rd_T34 t101 t105).f2.f0, (rd_T34 t101 t105).f2.f1⟩ : S32), (⟨(rd_T34 t101 t105).f3.f0, (rd_T34 t101 t105).f3.f1⟩ : S32), (rd_T34 t101 t105).f4, (rd_T34 t101 t105).f5⟩ : S34) ) (fun _ hk => hk); have hx21_0 := hcc21 0 _ rfl; (try simp only [show (k34).sz = 8 from rfl, Nat.mul_one, Nat.add_zero] at hx21_0); have hf21_0 := hfr21 0; (try simp only [show (k34).sz = 8 from rfl, Nat.mul_one, Nat.add_zero] at hf21_0); clear hcl21 hcc21 hfr21 hM21) | ((with_reducible refine gate_store (t := 3) (p := 25) rfl ?_); refine store_event (t := 3) (p := 25) (v := ?vo_w22) (w1 := (w20.setCell ⟨go12, (t105 : Int).toNat * 8, none⟩ (.int .i64 t112))) ?hg ?ho ?hn ?hr ?_; (case ho => rfl); (case hg => rfl); (case hn => rfl); (case hr => first | (go_simp; done) | (go_simp; rfl)); intro w22 hw; have hg : w20.grownBy w22 (some go12) := (by rw [hw]; exact HP21.2); have hp_ : Kd.R k34 34 w22 w.heap.size (fun _ => True) (.slice (some ⟨go12, 0, none⟩) t101.length co14) y114 := (by rw [hw, Ny114.out]; exact HP21.1); clear HP21; replace HI0 := am (IsS143.grown (I143_0 HI0) hg (IsS143.own_ne HI0.out HO103.out (by decide))); replace HO111 := am (Kd.R_over' (v := (.slice (some ⟨go12, 0, none⟩) t101.length co14)) (KR HO111) (Kd.R_typed HO103.out) (by decide) hg); replace HB := am ((by rw [hw]; exact below_set (HB.out) (Nat.le_trans HL.out GB12.out) : Below w0.heap.size w0 w22)); replace HK := am (KeepBut.trans (J0 HK) (KeepBut.of_grown hg g) (Kd.R_base2 HO103.out)); replace HO103 := am (hp_); clear hg hw hp_))
     go_ret
     exact ⟨_, by first | rfl | (simp [errW_none, errW_some] <;> rfl) | (simp [*, errW_none, errW_some] <;> rfl), by (with_reducible repeat (first | apply Kd.R_alloc | apply Kd.R_drewN | apply Kd.R_drew)); exact HO103.out, I143_0 HI0, K1 HB (IsS143.ge HI0.out), J0 HK⟩
    ·rw [if_neg c11] at H
     exact absurd H (by simp)
   ·rw [if_neg c10] at H
    exact absurd H (by simp)
  ·rw [if_neg c8] at H
   have c8b0 : (t107 == 0) = false := beq_eq_false_iff_ne.mpr c8
   have c8b1 : (t107 != 0) = true := bne_iff_ne.mpr c8
   by_cases c23 : t107 = 1
   ·rw [if_pos c23] at H
    have c23b0 : (t107 == 1) = true := beq_iff_eq.mpr c23
    have c23b1 : (t107 != 1) = false := bne_eq_false_iff_eq.mpr c23
    clear c23
    obtain ⟨y115, hy115⟩ : ∃ y_ : List Int, y_ = (([(-1), 4, 1] : List Int)) := ⟨_, rfl⟩
    replace H : ((spec_l1Rd_one.f k s0_0 t108 y115).bind fun bt118 => (if 0 ≤ t105 then (if t105 < (t101.length : Int) then (some ((t101.set (t105 : Int).toNat (⟨(rd_T34 t101 t105).f0, bt118.1, (⟨(rd_T34 t101 t105).f2.f0, (rd_T34 t101 t105).f2.f1⟩ : S32), (⟨(rd_T34 t101 t105).f3.f0, (rd_T34 t101 t105).f3.f1⟩ : S32), (rd_T34 t101 t105).f4, (rd_T34 t101 t105).f5⟩ : S34)), bt118.2)) else (none)) else (none))) = some (r1, r2) := by first | (rw [hy115]; with_reducible exact H) | (have H2_ := (Option.bind_some _ _).symm.trans H; rw [hy115]; with_reducible exact H2_) | (have H2_ := (Option.bind_some _ _).symm.trans H; with_reducible exact H2_) | with_reducible exact H | (rw [hy115]; exact H) | exact H
    have Ny115 := Aside0.mk hy115
    clear hy115
    replace H := Option.bind_eq_some_iff.mp H
    obtain ⟨⟨t118, t119⟩, A240, H⟩ := H
    replace H : (if 0 ≤ t105 then (if t105 < (t101.length : Int) then (some ((t101.set (t105 : Int).toNat (⟨(rd_T34 t101 t105).f0, t118, (⟨(rd_T34 t101 t105).f2.f0, (rd_T34 t101 t105).f2.f1⟩ : S32), (⟨(rd_T34 t101 t105).f3.f0, (rd_T34 t101 t105).f3.f1⟩ : S32), (rd_T34 t101 t105).f4, (rd_T34 t101 t105).f5⟩ : S34)), t119)) else (none)) else (none)) = some (r1, r2) := H
    have A24 := Aside0.mk A240
    clear A240
    by_cases c25 : 0 ≤ t105
    ·rw [if_pos c25] at H
     have c25b0 : decide (0 ≤ t105) = true := decide_eq_true c25
     clear c25
     by_cases c26 : t105 < (t101.length : Int)
     ·rw [if_pos c26] at H
      have c26b0 : decide (t105 < (t101.length : Int)) = true := decide_eq_true c26
      clear c26
      obtain ⟨y120, hy120⟩ : ∃ y_ : List (S34), y_ = (t101.set (t105 : Int).toNat (⟨(rd_T34 t101 t105).f0, t118, (⟨(rd_T34 t101 t105).f2.f0, (rd_T34 t101 t105).f2.f1⟩ : S32), (⟨(rd_T34 t101 t105).f3.f0, (rd_T34 t101 t105).f3.f1⟩ : S32), (rd_T34 t101 t105).f4, (rd_T34 t101 t105).f5⟩ : S34)) := ⟨_, rfl⟩
      replace H : (some (y120, t119)) = some (r1, r2) := by first | (rw [hy120]; with_reducible exact H) | (have H2_ := (Option.bind_some _ _).symm.trans H; rw [hy120]; with_reducible exact H2_) | (have H2_ := (Option.bind_some _ _).symm.trans H; with_reducible exact H2_) | with_reducible exact H | (rw [hy120]; exact H) | exact H
      have Ny120 := Aside0.mk hy120
      clear hy120
      simp only [Option.some.injEq, Prod.mk.injEq] at H
      obtain ⟨rfl, rfl⟩ := H
      go_enter Try.func71, Try.ntmps71
      go_wp2_with (first | ((with_reducible refine gate_callee (f := 122) rfl ?_); refine goesL_ (some 6) rfl rfl Try.func122 (by kernel_rfl) rfl #[.pointer (some ⟨g, 0, none⟩)] rfl MT ?_; (with_reducible refine (spec_l12Rules.calls k g s0_0 s0_1 t101 t104 w0 _ ?side1 ?side2 A2.out).mono ?_); (case side1 => exact I143_0 HI0); (case side2 => exact K1 HB (IsS143.ge HI0.out)); rintro e w28 ⟨v102, rfl, ho0, hi, hb, hk⟩; refine ⟨_, rfl, ?_⟩; have HO103 := am (Kd.R_lower ho0 (keep_size (w := w) (g := g) (row := none) (J0 HK))); replace HK := am (KeepBut.trans (J0 HK) hk (.inl rfl)); replace HB := am (hb); replace HI0 := am (hi); (try clear hb); (try clear hb2); (try clear hk); (try clear hi); (try clear ho0); obtain ⟨Ao29, co29, eo29⟩ := Kd.R_slice HO103.out; subst eo29) | ((with_reducible refine gate_callee (f := 91) rfl ?_); refine goesL_ (some 14) rfl rfl Try.func91 (by kernel_rfl) rfl #[.pointer (some ⟨g, 0, none⟩), .int .i64 (t101.length : Int)] rfl MT ?_; (with_reducible refine (spec_l1Rd_pick.calls k g s0_0 t104 (t101.length : Int) t105 t106 w0 _ ?side1 ?side2 A6.out).mono ?_); (case side1 => exact I143_0 HI0); (case side2 => exact K1 HB (IsS143.ge HI0.out)); rintro e w30 ⟨rfl, hi, hb, hk⟩; refine ⟨_, rfl, ?_⟩; replace HO103 := am (Kd.R_mono (Kd.R_keep (IsS143.apart (show IsS143 w0 _ g s0_0 t104 from I143_0 HI0) (KR HO103) (by decide)) hk (fun _ h => h.2)) (fun _ h => h.1)); replace HK := am (KeepBut.trans (J0 HK) hk (.inl rfl)); replace HB := am (hb); replace HI0 := am (hi); (try clear hb); (try clear hb2); (try clear hk); (try clear hi)) | ((with_reducible refine gate_callee (f := 91) rfl ?_); refine goesL_ (some 16) rfl rfl Try.func91 (by kernel_rfl) rfl #[.pointer (some ⟨g, 0, none⟩), .int .i64 20] rfl MT ?_; (with_reducible refine (spec_l1Rd_pick.calls k g s0_0 t106 20 t107 t108 w0 _ ?side1 ?side2 A7.out).mono ?_); (case side1 => exact I143_0 HI0); (case side2 => exact K1 HB (IsS143.ge HI0.out)); rintro e w31 ⟨rfl, hi, hb, hk⟩; refine ⟨_, rfl, ?_⟩; replace HO103 := am (Kd.R_mono (Kd.R_keep (IsS143.apart (show IsS143 w0 _ g s0_0 t106 from I143_0 HI0) (KR HO103) (by decide)) hk (fun _ h => h.2)) (fun _ h => h.1)); replace HK := am (KeepBut.trans (J0 HK) hk (.inl rfl)); replace HB := am (hb); replace HI0 := am (hi); (try clear hb); (try clear hb2); (try clear hk); (try clear hi)) | ((with_reducible refine gate_dst (N := 31) rfl ?_); refine Kd.R_lit (Kd.int .i64) _ 3 ?hg (N := 31) ?hd (xs := ([(-1), 4, 1] : List Int)) (inner := [.int .i64 (-1), .int .i64 4, .int .i64 1]) (ok := fun _ => True) (okp := fun _ => True) ?hr ?hp (fun _ hk => hk) trivial (Below.refl _ _) (Nat.le_refl _) (by simp) ?_; (case hd => rfl); (case hg => rfl); (case hr => first | (go_simp; done) | (go_simp; rfl)); (case hp => exact (Reps.one (show Kd.M (Kd.int .i64) _ _ _ (-1) [.int .i64 (-1)] from rfl) (Reps.one (show Kd.M (Kd.int .i64) _ _ _ 4 [.int .i64 4] from rfl) (Reps.one (show Kd.M (Kd.int .i64) _ _ _ 1 [.int .i64 1] from rfl) (Reps.none _ _))))); intro v116 w32 ho33 hb hg_ hnew_; clear hg_ hnew_; (first | rw [← Ny115.out] at ho33 | (simp only [Int.reduceToNat] at ho33; rw [← Ny115.out] at ho33)); replace HO103 := am (Kd.R_below (KR HO103) hb); have HO117 := am (Kd.R_lower ho33 (keep_size (w := w) (g := g) (row := none) (J0 HK))); replace HK := am (KeepBut.trans (J0 HK) (KeepBut.of_below hb g none) (.inl rfl)); replace HB := am (below_step (K1 HB (IsS143.ge HI0.out)) hb); replace HI0 := am (IsS143.below (I143_0 HI0) hb); clear hb ho33; obtain ⟨Ao34, co34, eo34⟩ := Kd.R_slice HO117.out; subst eo34) | ((with_reducible refine gate_callee (f := 95) rfl ?_); refine goesL_ (some 32) rfl rfl Try.func95 (by kernel_rfl) rfl #[.pointer (some ⟨g, 0, none⟩), .slice Ao34 y115.length co34] rfl MT ?_; (with_reducible refine (spec_l1Rd_one.calls k g s0_0 t108 _ _ y115 t118 t119 w0 _ ?side1 ?side2 ?side3 ?side4 ?side5 A24.out).mono ?_); (case side1 => exact I143_0 HI0); (case side2 => exact K1 HB (IsS143.ge HI0.out)); (case side3 => exact KC (Kd.R_reads' HO117.out).2.2); (case side4 => exact (Kd.R_reads' HO117.out).2.1); (case side5 => exact far_slice (IsS143.own_ne HI0.out HO117.out (by decide))); rintro e w35 ⟨rfl, hi, hb, hk⟩; refine ⟨_, rfl, ?_⟩; replace HO103 := am (Kd.R_mono (Kd.R_keep (IsS143.apart (show IsS143 w0 _ g s0_0 t108 from I143_0 HI0) (KR HO103) (by decide)) hk (fun _ h => h.2)) (fun _ h => h.1)); replace HO117 := am (Kd.R_mono (Kd.R_keep (IsS143.apart (show IsS143 w0 _ g s0_0 t108 from I143_0 HI0) (KR HO117) (by decide)) hk (fun _ h => h.2)) (fun _ h => h.1)); replace HK := am (KeepBut.trans (J0 HK) hk (.inl rfl)); replace HB := am (hb); replace HI0 := am (hi); (try clear hb); (try clear hb2); (try clear hk); (try clear hi); have p27 : 0 ≤ (t105 : Int) := of_decide_eq_true (by first | (with_reducible assumption) | assumption); have q27 : (t105 : Int) < ((t101.length : Int) : Int) := of_decide_eq_true (by first | (with_reducible assumption) | assumption); obtain ⟨go27, co27, eo27, gb27, gl27, cl27, HG27⟩ := Kd.R_form HO103.out (by omega); (first | cases eo27 | (injection eo27 with ea_ en_ ec_; (first | subst ea_ | (injection ea_ with ea_; subst ea_)); subst ec_; clear en_)); have GB27 := Aside0.mk gb27; have GG27 := Aside0.mk HG27; clear gb27 gl27 HG27; obtain ⟨ce27, hcl27, hM27, hcc27, hfr27⟩ := Kd.R_elem HO103.out z34 (t105 : Int) p27 q27; obtain rfl := k34_openM hM27; have hx27_0 : w35.cell? ⟨go27, (t105 : Int).toNat * 8, none⟩ = some (.int .i64 ((rd_T34 t101 t105).f0)) := hcc27 0 _ rfl; have hx27_1 : w35.cell? ⟨go27, (t105 : Int).toNat * 8 + 1, none⟩ = some (.int .i64 ((rd_T34 t101 t105).f1)) := hcc27 1 _ rfl; have hx27_2 : w35.cell? ⟨go27, (t105 : Int).toNat * 8 + 2, none⟩ = some (.int .i64 ((rd_T34 t101 t105).f2.f0)) := hcc27 2 _ rfl; have hx27_3 : w35.cell? ⟨go27, (t105 : Int).toNat * 8 + 3, none⟩ = some (.int .i64 ((rd_T34 t101 t105).f2.f1)) := hcc27 3 _ rfl; have hx27_4 : w35.cell? ⟨go27, (t105 : Int).toNat * 8 + 4, none⟩ = some (.int .i64 ((rd_T34 t101 t105).f3.f0)) := hcc27 4 _ rfl; have hx27_5 : w35.cell? ⟨go27, (t105 : Int).toNat * 8 + 5, none⟩ = some (.int .i64 ((rd_T34 t101 t105).f3.f1)) := hcc27 5 _ rfl; have hx27_6 : w35.cell? ⟨go27, (t105 : Int).toNat * 8 + 6, none⟩ = some (.int .i64 ((rd_T34 t101 t105).f4)) := hcc27 6 _ rfl; have hx27_7 : w35.cell? ⟨go27, (t105 : Int).toNat * 8 + 7, none⟩ = some (.int .i64 ((rd_T34 t101 t105).f5)) := hcc27 7 _ rfl; have hf27_0 : w35.frozen? ⟨go27, (t105 : Int).toNat * 8, none⟩ = false := hfr27 0; have hf27_1 : w35.frozen? ⟨go27, (t105 : Int).toNat * 8 + 1, none⟩ = false := hfr27 1; have hf27_2 : w35.frozen? ⟨go27, (t105 : Int).toNat * 8 + 2, none⟩ = false := hfr27 2; have hf27_3 : w35.frozen? ⟨go27, (t105 : Int).toNat * 8 + 3, none⟩ = false := hfr27 3; have hf27_4 : w35.frozen? ⟨go27, (t105 : Int).toNat * 8 + 4, none⟩ = false := hfr27 4; have hf27_5 : w35.frozen? ⟨go27, (t105 : Int).toNat * 8 + 5, none⟩ = false := hfr27 5; have hf27_6 : w35.frozen? ⟨go27, (t105 : Int).toNat * 8 + 6, none⟩ = false := hfr27 6; have hf27_7 : w35.frozen? ⟨go27, (t105 : Int).toNat * 8 + 7, none⟩ = false := hfr27 7; clear hcl27 hcc27 hfr27 hM27; replace p27 := eq_true p27; replace q27 := eq_true q27; have HX36 := am (show Kd.R k34 34 w35 w.heap.size (fun _ => True) (.slice (some ⟨go27, 0, none⟩) t101.length co29) t101 from (KR HO103)); obtain ⟨ce36, hcl36, hM36, hcc36, hfr36⟩ := Kd.R_elem HX36.out z34 (t105 : Int) (of_decide_eq_true (by first | (with_reducible assumption) | assumption)) (by have h_ : (t105 : Int) < ((t101.length : Int) : Int) := of_decide_eq_true (by first | (with_reducible assumption) | assumption); first | exact h_ | (have e_ := (Kd.R_reads' HO103.out).1; omega) | simpa using h_); obtain rfl := k34_openM hM36; have HP36 := Kd.R_seg HX36.out (t105 : Int) (of_decide_eq_true (by first | (with_reducible assumption) | assumption)) (by have h_ : (t105 : Int) < ((t101.length : Int) : Int) := of_decide_eq_true (by first | (with_reducible assumption) | assumption); first | exact h_ | (have e_ := (Kd.R_reads' HO103.out).1; omega) | simpa using h_) (seg := [.int .i64 t118]) (j := 1) hcl36 hcc36 (show 2 ≤ 8 from by decide) (x' := (⟨(rd_T34 t101 t105).f0, t118, (⟨(rd_T34 t101 t105).f2.f0, (rd_T34 t101 t105).f2.f1⟩ : S32), (⟨(rd_T34 t101 t105).f3.f0, (rd_T34 t101 t105).f3.f1⟩ : S32), (rd_T34 t101 t105).f4, (rd_T34 t101 t105).f5⟩ : S34)) (k34_mkM _ _ _ (⟨(rd_T34 t101 t105).f0, t118, (⟨(rd_T34 t101 t105).f2.f0, (rd_T34 t101 t105).f2.f1⟩ : S32), (⟨(rd_T34 t101 t105).f3.f0, (rd_T34 t101 t105).f3.f1⟩ : S32), (rd_T34 t101 t105).f4, (rd_T34 t101 t105).f5⟩ : S34) ) (fun _ hk => hk); have hx36_1 := hcc36 1 _ rfl; (try simp only [show (k34).sz = 8 from rfl, Nat.mul_one, Nat.add_zero] at hx36_1); have hf36_1 := hfr36 1; (try simp only [show (k34).sz = 8 from rfl, Nat.mul_one, Nat.add_zero] at hf36_1); clear hcl36 hcc36 hfr36 hM36) | ((with_reducible refine gate_store (t := 3) (p := 34) rfl ?_); refine store_event (t := 3) (p := 34) (v := ?vo_w37) (w1 := (w35.setCell ⟨go27, (t105 : Int).toNat * 8 + 1, none⟩ (.int .i64 t118))) ?hg ?ho ?hn ?hr ?_; (case ho => rfl); (case hg => rfl); (case hn => rfl); (case hr => first | (go_simp; done) | (go_simp; rfl)); intro w37 hw; have hg : w35.grownBy w37 (some go27) := (by rw [hw]; exact HP36.2); have hp_ : Kd.R k34 34 w37 w.heap.size (fun _ => True) (.slice (some ⟨go27, 0, none⟩) t101.length co29) y120 := (by rw [hw, Ny120.out]; exact HP36.1); clear HP36; replace HI0 := am (IsS143.grown (I143_0 HI0) hg (IsS143.own_ne HI0.out HO103.out (by decide))); replace HO117 := am (Kd.R_over' (v := (.slice (some ⟨go27, 0, none⟩) t101.length co29)) (KR HO117) (Kd.R_typed HO103.out) (by decide) hg); replace HB := am ((by rw [hw]; exact below_set (HB.out) (Nat.le_trans HL.out GB27.out) : Below w0.heap.size w0 w37)); replace HK := am (KeepBut.trans (J0 HK) (KeepBut.of_grown hg g) (Kd.R_base2 HO103.out)); replace HO103 := am (hp_); clear hg hw hp_))
      go_ret
      exact ⟨_, by first | rfl | (simp [errW_none, errW_some] <;> rfl) | (simp [*, errW_none, errW_some] <;> rfl), by (with_reducible repeat (first | apply Kd.R_alloc | apply Kd.R_drewN | apply Kd.R_drew)); exact HO103.out, I143_0 HI0, K1 HB (IsS143.ge HI0.out), J0 HK⟩
     ·rw [if_neg c26] at H
      exact absurd H (by simp)
    ·rw [if_neg c25] at H
     exact absurd H (by simp)
   ·rw [if_neg c23] at H
    have c23b0 : (t107 == 1) = false := beq_eq_false_iff_ne.mpr c23
    have c23b1 : (t107 != 1) = true := bne_iff_ne.mpr c23
    by_cases c38 : t107 = 2
    ·rw [if_pos c38] at H
     have c38b0 : (t107 == 2) = true := beq_iff_eq.mpr c38
     have c38b1 : (t107 != 2) = false := bne_eq_false_iff_eq.mpr c38
     clear c38
     obtain ⟨y121, hy121⟩ : ∃ y_ : List Int, y_ = (([(-1), 65536] : List Int)) := ⟨_, rfl⟩
     replace H : ((spec_l1Rd_one.f k s0_0 t108 y121).bind fun bt124 => (if 0 ≤ t105 then (if t105 < (t101.length : Int) then (some ((t101.set (t105 : Int).toNat (⟨(rd_T34 t101 t105).f0, (rd_T34 t101 t105).f1, (⟨(rd_T34 t101 t105).f2.f0, (rd_T34 t101 t105).f2.f1⟩ : S32), (⟨(rd_T34 t101 t105).f3.f0, (rd_T34 t101 t105).f3.f1⟩ : S32), bt124.1, (rd_T34 t101 t105).f5⟩ : S34)), bt124.2)) else (none)) else (none))) = some (r1, r2) := by first | (rw [hy121]; with_reducible exact H) | (have H2_ := (Option.bind_some _ _).symm.trans H; rw [hy121]; with_reducible exact H2_) | (have H2_ := (Option.bind_some _ _).symm.trans H; with_reducible exact H2_) | with_reducible exact H | (rw [hy121]; exact H) | exact H
     have Ny121 := Aside0.mk hy121
     clear hy121
     replace H := Option.bind_eq_some_iff.mp H
     obtain ⟨⟨t124, t125⟩, A390, H⟩ := H
     replace H : (if 0 ≤ t105 then (if t105 < (t101.length : Int) then (some ((t101.set (t105 : Int).toNat (⟨(rd_T34 t101 t105).f0, (rd_T34 t101 t105).f1, (⟨(rd_T34 t101 t105).f2.f0, (rd_T34 t101 t105).f2.f1⟩ : S32), (⟨(rd_T34 t101 t105).f3.f0, (rd_T34 t101 t105).f3.f1⟩ : S32), t124, (rd_T34 t101 t105).f5⟩ : S34)), t125)) else (none)) else (none)) = some (r1, r2) := H
     have A39 := Aside0.mk A390
     clear A390
     by_cases c40 : 0 ≤ t105
     ·rw [if_pos c40] at H
      have c40b0 : decide (0 ≤ t105) = true := decide_eq_true c40
      clear c40
      by_cases c41 : t105 < (t101.length : Int)
      ·rw [if_pos c41] at H
       have c41b0 : decide (t105 < (t101.length : Int)) = true := decide_eq_true c41
       clear c41
       obtain ⟨y126, hy126⟩ : ∃ y_ : List (S34), y_ = (t101.set (t105 : Int).toNat (⟨(rd_T34 t101 t105).f0, (rd_T34 t101 t105).f1, (⟨(rd_T34 t101 t105).f2.f0, (rd_T34 t101 t105).f2.f1⟩ : S32), (⟨(rd_T34 t101 t105).f3.f0, (rd_T34 t101 t105).f3.f1⟩ : S32), t124, (rd_T34 t101 t105).f5⟩ : S34)) := ⟨_, rfl⟩
       replace H : (some (y126, t125)) = some (r1, r2) := by first | (rw [hy126]; with_reducible exact H) | (have H2_ := (Option.bind_some _ _).symm.trans H; rw [hy126]; with_reducible exact H2_) | (have H2_ := (Option.bind_some _ _).symm.trans H; with_reducible exact H2_) | with_reducible exact H | (rw [hy126]; exact H) | exact H
       have Ny126 := Aside0.mk hy126
       clear hy126
       simp only [Option.some.injEq, Prod.mk.injEq] at H
       obtain ⟨rfl, rfl⟩ := H
       go_enter Try.func71, Try.ntmps71
       go_wp2_with (first | ((with_reducible refine gate_callee (f := 122) rfl ?_); refine goesL_ (some 6) rfl rfl Try.func122 (by kernel_rfl) rfl #[.pointer (some ⟨g, 0, none⟩)] rfl MT ?_; (with_reducible refine (spec_l12Rules.calls k g s0_0 s0_1 t101 t104 w0 _ ?side1 ?side2 A2.out).mono ?_); (case side1 => exact I143_0 HI0); (case side2 => exact K1 HB (IsS143.ge HI0.out)); rintro e w43 ⟨v102, rfl, ho0, hi, hb, hk⟩; refine ⟨_, rfl, ?_⟩; have HO103 := am (Kd.R_lower ho0 (keep_size (w := w) (g := g) (row := none) (J0 HK))); replace HK := am (KeepBut.trans (J0 HK) hk (.inl rfl)); replace HB := am (hb); replace HI0 := am (hi); (try clear hb); (try clear hb2); (try clear hk); (try clear hi); (try clear ho0); obtain ⟨Ao44, co44, eo44⟩ := Kd.R_slice HO103.out; subst eo44) | ((with_reducible refine gate_callee (f := 91) rfl ?_); refine goesL_ (some 14) rfl rfl Try.func91 (by kernel_rfl) rfl #[.pointer (some ⟨g, 0, none⟩), .int .i64 (t101.length : Int)] rfl MT ?_; (with_reducible refine (spec_l1Rd_pick.calls k g s0_0 t104 (t101.length : Int) t105 t106 w0 _ ?side1 ?side2 A6.out).mono ?_); (case side1 => exact I143_0 HI0); (case side2 => exact K1 HB (IsS143.ge HI0.out)); rintro e w45 ⟨rfl, hi, hb, hk⟩; refine ⟨_, rfl, ?_⟩; replace HO103 := am (Kd.R_mono (Kd.R_keep (IsS143.apart (show IsS143 w0 _ g s0_0 t104 from I143_0 HI0) (KR HO103) (by decide)) hk (fun _ h => h.2)) (fun _ h => h.1)); replace HK := am (KeepBut.trans (J0 HK) hk (.inl rfl)); replace HB := am (hb); replace HI0 := am (hi); (try clear hb); (try clear hb2); (try clear hk); (try clear hi)) | ((with_reducible refine gate_callee (f := 91) rfl ?_); refine goesL_ (some 16) rfl rfl Try.func91 (by kernel_rfl) rfl #[.pointer (some ⟨g, 0, none⟩), .int .i64 20] rfl MT ?_; (with_reducible refine (spec_l1Rd_pick.calls k g s0_0 t106 20 t107 t108 w0 _ ?side1 ?side2 A7.out).mono ?_); (case side1 => exact I143_0 HI0); (case side2 => exact K1 HB (IsS143.ge HI0.out)); rintro e w46 ⟨rfl, hi, hb, hk⟩; refine ⟨_, rfl, ?_⟩; replace HO103 := am (Kd.R_mono (Kd.R_keep (IsS143.apart (show IsS143 w0 _ g s0_0 t106 from I143_0 HI0) (KR HO103) (by decide)) hk (fun _ h => h.2)) (fun _ h => h.1)); replace HK := am (KeepBut.trans (J0 HK) hk (.inl rfl)); replace HB := am (hb); replace HI0 := am (hi); (try clear hb); (try clear hb2); (try clear hk); (try clear hi)) | ((with_reducible refine gate_dst (N := 40) rfl ?_); refine Kd.R_lit (Kd.int .i64) _ 3 ?hg (N := 40) ?hd (xs := ([(-1), 65536] : List Int)) (inner := [.int .i64 (-1), .int .i64 65536]) (ok := fun _ => True) (okp := fun _ => True) ?hr ?hp (fun _ hk => hk) trivial (Below.refl _ _) (Nat.le_refl _) (by simp) ?_; (case hd => rfl); (case hg => rfl); (case hr => first | (go_simp; done) | (go_simp; rfl)); (case hp => exact (Reps.one (show Kd.M (Kd.int .i64) _ _ _ (-1) [.int .i64 (-1)] from rfl) (Reps.one (show Kd.M (Kd.int .i64) _ _ _ 65536 [.int .i64 65536] from rfl) (Reps.none _ _)))); intro v122 w47 ho48 hb hg_ hnew_; clear hg_ hnew_; (first | rw [← Ny121.out] at ho48 | (simp only [Int.reduceToNat] at ho48; rw [← Ny121.out] at ho48)); replace HO103 := am (Kd.R_below (KR HO103) hb); have HO123 := am (Kd.R_lower ho48 (keep_size (w := w) (g := g) (row := none) (J0 HK))); replace HK := am (KeepBut.trans (J0 HK) (KeepBut.of_below hb g none) (.inl rfl)); replace HB := am (below_step (K1 HB (IsS143.ge HI0.out)) hb); replace HI0 := am (IsS143.below (I143_0 HI0) hb); clear hb ho48; obtain ⟨Ao49, co49, eo49⟩ := Kd.R_slice HO123.out; subst eo49) | ((with_reducible refine gate_callee (f := 95) rfl ?_); refine goesL_ (some 41) rfl rfl Try.func95 (by kernel_rfl) rfl #[.pointer (some ⟨g, 0, none⟩), .slice Ao49 y121.length co49] rfl MT ?_; (with_reducible refine (spec_l1Rd_one.calls k g s0_0 t108 _ _ y121 t124 t125 w0 _ ?side1 ?side2 ?side3 ?side4 ?side5 A39.out).mono ?_); (case side1 => exact I143_0 HI0); (case side2 => exact K1 HB (IsS143.ge HI0.out)); (case side3 => exact KC (Kd.R_reads' HO123.out).2.2); (case side4 => exact (Kd.R_reads' HO123.out).2.1); (case side5 => exact far_slice (IsS143.own_ne HI0.out HO123.out (by decide))); rintro e w50 ⟨rfl, hi, hb, hk⟩; refine ⟨_, rfl, ?_⟩; replace HO103 := am (Kd.R_mono (Kd.R_keep (IsS143.apart (show IsS143 w0 _ g s0_0 t108 from I143_0 HI0) (KR HO103) (by decide)) hk (fun _ h => h.2)) (fun _ h => h.1)); replace HO123 := am (Kd.R_mono (Kd.R_keep (IsS143.apart (show IsS143 w0 _ g s0_0 t108 from I143_0 HI0) (KR HO123) (by decide)) hk (fun _ h => h.2)) (fun _ h => h.1)); replace HK := am (KeepBut.trans (J0 HK) hk (.inl rfl)); replace HB := am (hb); replace HI0 := am (hi); (try clear hb); (try clear hb2); (try clear hk); (try clear hi); have p42 : 0 ≤ (t105 : Int) := of_decide_eq_true (by first | (with_reducible assumption) | assumption); have q42 : (t105 : Int) < ((t101.length : Int) : Int) := of_decide_eq_true (by first | (with_reducible assumption) | assumption); obtain ⟨go42, co42, eo42, gb42, gl42, cl42, HG42⟩ := Kd.R_form HO103.out (by omega); (first | cases eo42 | (injection eo42 with ea_ en_ ec_; (first | subst ea_ | (injection ea_ with ea_; subst ea_)); subst ec_; clear en_)); have GB42 := Aside0.mk gb42; have GG42 := Aside0.mk HG42; clear gb42 gl42 HG42; obtain ⟨ce42, hcl42, hM42, hcc42, hfr42⟩ := Kd.R_elem HO103.out z34 (t105 : Int) p42 q42; obtain rfl := k34_openM hM42; have hx42_0 : w50.cell? ⟨go42, (t105 : Int).toNat * 8, none⟩ = some (.int .i64 ((rd_T34 t101 t105).f0)) := hcc42 0 _ rfl; have hx42_1 : w50.cell? ⟨go42, (t105 : Int).toNat * 8 + 1, none⟩ = some (.int .i64 ((rd_T34 t101 t105).f1)) := hcc42 1 _ rfl; have hx42_2 : w50.cell? ⟨go42, (t105 : Int).toNat * 8 + 2, none⟩ = some (.int .i64 ((rd_T34 t101 t105).f2.f0)) := hcc42 2 _ rfl; have hx42_3 : w50.cell? ⟨go42, (t105 : Int).toNat * 8 + 3, none⟩ = some (.int .i64 ((rd_T34 t101 t105).f2.f1)) := hcc42 3 _ rfl; have hx42_4 : w50.cell? ⟨go42, (t105 : Int).toNat * 8 + 4, none⟩ = some (.int .i64 ((rd_T34 t101 t105).f3.f0)) := hcc42 4 _ rfl; have hx42_5 : w50.cell? ⟨go42, (t105 : Int).toNat * 8 + 5, none⟩ = some (.int .i64 ((rd_T34 t101 t105).f3.f1)) := hcc42 5 _ rfl; have hx42_6 : w50.cell? ⟨go42, (t105 : Int).toNat * 8 + 6, none⟩ = some (.int .i64 ((rd_T34 t101 t105).f4)) := hcc42 6 _ rfl; have hx42_7 : w50.cell? ⟨go42, (t105 : Int).toNat * 8 + 7, none⟩ = some (.int .i64 ((rd_T34 t101 t105).f5)) := hcc42 7 _ rfl; have hf42_0 : w50.frozen? ⟨go42, (t105 : Int).toNat * 8, none⟩ = false := hfr42 0; have hf42_1 : w50.frozen? ⟨go42, (t105 : Int).toNat * 8 + 1, none⟩ = false := hfr42 1; have hf42_2 : w50.frozen? ⟨go42, (t105 : Int).toNat * 8 + 2, none⟩ = false := hfr42 2; have hf42_3 : w50.frozen? ⟨go42, (t105 : Int).toNat * 8 + 3, none⟩ = false := hfr42 3; have hf42_4 : w50.frozen? ⟨go42, (t105 : Int).toNat * 8 + 4, none⟩ = false := hfr42 4; have hf42_5 : w50.frozen? ⟨go42, (t105 : Int).toNat * 8 + 5, none⟩ = false := hfr42 5; have hf42_6 : w50.frozen? ⟨go42, (t105 : Int).toNat * 8 + 6, none⟩ = false := hfr42 6; have hf42_7 : w50.frozen? ⟨go42, (t105 : Int).toNat * 8 + 7, none⟩ = false := hfr42 7; clear hcl42 hcc42 hfr42 hM42; replace p42 := eq_true p42; replace q42 := eq_true q42; have HX51 := am (show Kd.R k34 34 w50 w.heap.size (fun _ => True) (.slice (some ⟨go42, 0, none⟩) t101.length co44) t101 from (KR HO103)); obtain ⟨ce51, hcl51, hM51, hcc51, hfr51⟩ := Kd.R_elem HX51.out z34 (t105 : Int) (of_decide_eq_true (by first | (with_reducible assumption) | assumption)) (by have h_ : (t105 : Int) < ((t101.length : Int) : Int) := of_decide_eq_true (by first | (with_reducible assumption) | assumption); first | exact h_ | (have e_ := (Kd.R_reads' HO103.out).1; omega) | simpa using h_); obtain rfl := k34_openM hM51; have HP51 := Kd.R_seg HX51.out (t105 : Int) (of_decide_eq_true (by first | (with_reducible assumption) | assumption)) (by have h_ : (t105 : Int) < ((t101.length : Int) : Int) := of_decide_eq_true (by first | (with_reducible assumption) | assumption); first | exact h_ | (have e_ := (Kd.R_reads' HO103.out).1; omega) | simpa using h_) (seg := [.int .i64 t124]) (j := 6) hcl51 hcc51 (show 7 ≤ 8 from by decide) (x' := (⟨(rd_T34 t101 t105).f0, (rd_T34 t101 t105).f1, (⟨(rd_T34 t101 t105).f2.f0, (rd_T34 t101 t105).f2.f1⟩ : S32), (⟨(rd_T34 t101 t105).f3.f0, (rd_T34 t101 t105).f3.f1⟩ : S32), t124, (rd_T34 t101 t105).f5⟩ : S34)) (k34_mkM _ _ _ (⟨(rd_T34 t101 t105).f0, (rd_T34 t101 t105).f1, (⟨(rd_T34 t101 t105).f2.f0, (rd_T34 t101 t105).f2.f1⟩ : S32), (⟨(rd_T34 t101 t105).f3.f0, (rd_T34 t101 t105).f3.f1⟩ : S32), t124, (rd_T34 t101 t105).f5⟩ : S34) ) (fun _ hk => hk); have hx51_6 := hcc51 6 _ rfl; (try simp only [show (k34).sz = 8 from rfl, Nat.mul_one, Nat.add_zero] at hx51_6); have hf51_6 := hfr51 6; (try simp only [show (k34).sz = 8 from rfl, Nat.mul_one, Nat.add_zero] at hf51_6); clear hcl51 hcc51 hfr51 hM51) | ((with_reducible refine gate_store (t := 3) (p := 43) rfl ?_); refine store_event (t := 3) (p := 43) (v := ?vo_w52) (w1 := (w50.setCell ⟨go42, (t105 : Int).toNat * 8 + 6, none⟩ (.int .i64 t124))) ?hg ?ho ?hn ?hr ?_; (case ho => rfl); (case hg => rfl); (case hn => rfl); (case hr => first | (go_simp; done) | (go_simp; rfl)); intro w52 hw; have hg : w50.grownBy w52 (some go42) := (by rw [hw]; exact HP51.2); have hp_ : Kd.R k34 34 w52 w.heap.size (fun _ => True) (.slice (some ⟨go42, 0, none⟩) t101.length co44) y126 := (by rw [hw, Ny126.out]; exact HP51.1); clear HP51; replace HI0 := am (IsS143.grown (I143_0 HI0) hg (IsS143.own_ne HI0.out HO103.out (by decide))); replace HO123 := am (Kd.R_over' (v := (.slice (some ⟨go42, 0, none⟩) t101.length co44)) (KR HO123) (Kd.R_typed HO103.out) (by decide) hg); replace HB := am ((by rw [hw]; exact below_set (HB.out) (Nat.le_trans HL.out GB42.out) : Below w0.heap.size w0 w52)); replace HK := am (KeepBut.trans (J0 HK) (KeepBut.of_grown hg g) (Kd.R_base2 HO103.out)); replace HO103 := am (hp_); clear hg hw hp_))
       go_ret
       exact ⟨_, by first | rfl | (simp [errW_none, errW_some] <;> rfl) | (simp [*, errW_none, errW_some] <;> rfl), by (with_reducible repeat (first | apply Kd.R_alloc | apply Kd.R_drewN | apply Kd.R_drew)); exact HO103.out, I143_0 HI0, K1 HB (IsS143.ge HI0.out), J0 HK⟩
      ·rw [if_neg c41] at H
       exact absurd H (by simp)
     ·rw [if_neg c40] at H
      exact absurd H (by simp)
    ·rw [if_neg c38] at H
     have c38b0 : (t107 == 2) = false := beq_eq_false_iff_ne.mpr c38
     have c38b1 : (t107 != 2) = true := bne_iff_ne.mpr c38
     by_cases c53 : t107 = 3
     ·rw [if_pos c53] at H
      have c53b0 : (t107 == 3) = true := beq_iff_eq.mpr c53
      have c53b1 : (t107 != 3) = false := bne_eq_false_iff_eq.mpr c53
      clear c53
      replace H := Option.bind_eq_some_iff.mp H
      obtain ⟨⟨t127, t128, t129⟩, A540, H⟩ := H
      replace H : (if 0 ≤ t105 then (if t105 < (t101.length : Int) then (some ((t101.set (t105 : Int).toNat (⟨(rd_T34 t101 t105).f0, (rd_T34 t101 t105).f1, (⟨t127, t128⟩ : S32), (⟨(rd_T34 t101 t105).f3.f0, (rd_T34 t101 t105).f3.f1⟩ : S32), (rd_T34 t101 t105).f4, (rd_T34 t101 t105).f5⟩ : S34)), t129)) else (none)) else (none)) = some (r1, r2) := H
      have A54 := Aside0.mk A540
      clear A540
      by_cases c55 : 0 ≤ t105
      ·rw [if_pos c55] at H
       have c55b0 : decide (0 ≤ t105) = true := decide_eq_true c55
       clear c55
       by_cases c56 : t105 < (t101.length : Int)
       ·rw [if_pos c56] at H
        have c56b0 : decide (t105 < (t101.length : Int)) = true := decide_eq_true c56
        clear c56
        obtain ⟨y130, hy130⟩ : ∃ y_ : List (S34), y_ = (t101.set (t105 : Int).toNat (⟨(rd_T34 t101 t105).f0, (rd_T34 t101 t105).f1, (⟨t127, t128⟩ : S32), (⟨(rd_T34 t101 t105).f3.f0, (rd_T34 t101 t105).f3.f1⟩ : S32), (rd_T34 t101 t105).f4, (rd_T34 t101 t105).f5⟩ : S34)) := ⟨_, rfl⟩
        replace H : (some (y130, t129)) = some (r1, r2) := by first | (rw [hy130]; with_reducible exact H) | (have H2_ := (Option.bind_some _ _).symm.trans H; rw [hy130]; with_reducible exact H2_) | (have H2_ := (Option.bind_some _ _).symm.trans H; with_reducible exact H2_) | with_reducible exact H | (rw [hy130]; exact H) | exact H
        have Ny130 := Aside0.mk hy130
        clear hy130
        simp only [Option.some.injEq, Prod.mk.injEq] at H
        obtain ⟨rfl, rfl⟩ := H
        go_enter Try.func71, Try.ntmps71
        go_wp2_with (first | ((with_reducible refine gate_callee (f := 122) rfl ?_); refine goesL_ (some 6) rfl rfl Try.func122 (by kernel_rfl) rfl #[.pointer (some ⟨g, 0, none⟩)] rfl MT ?_; (with_reducible refine (spec_l12Rules.calls k g s0_0 s0_1 t101 t104 w0 _ ?side1 ?side2 A2.out).mono ?_); (case side1 => exact I143_0 HI0); (case side2 => exact K1 HB (IsS143.ge HI0.out)); rintro e w58 ⟨v102, rfl, ho0, hi, hb, hk⟩; refine ⟨_, rfl, ?_⟩; have HO103 := am (Kd.R_lower ho0 (keep_size (w := w) (g := g) (row := none) (J0 HK))); replace HK := am (KeepBut.trans (J0 HK) hk (.inl rfl)); replace HB := am (hb); replace HI0 := am (hi); (try clear hb); (try clear hb2); (try clear hk); (try clear hi); (try clear ho0); obtain ⟨Ao59, co59, eo59⟩ := Kd.R_slice HO103.out; subst eo59) | ((with_reducible refine gate_callee (f := 91) rfl ?_); refine goesL_ (some 14) rfl rfl Try.func91 (by kernel_rfl) rfl #[.pointer (some ⟨g, 0, none⟩), .int .i64 (t101.length : Int)] rfl MT ?_; (with_reducible refine (spec_l1Rd_pick.calls k g s0_0 t104 (t101.length : Int) t105 t106 w0 _ ?side1 ?side2 A6.out).mono ?_); (case side1 => exact I143_0 HI0); (case side2 => exact K1 HB (IsS143.ge HI0.out)); rintro e w60 ⟨rfl, hi, hb, hk⟩; refine ⟨_, rfl, ?_⟩; replace HO103 := am (Kd.R_mono (Kd.R_keep (IsS143.apart (show IsS143 w0 _ g s0_0 t104 from I143_0 HI0) (KR HO103) (by decide)) hk (fun _ h => h.2)) (fun _ h => h.1)); replace HK := am (KeepBut.trans (J0 HK) hk (.inl rfl)); replace HB := am (hb); replace HI0 := am (hi); (try clear hb); (try clear hb2); (try clear hk); (try clear hi)) | ((with_reducible refine gate_callee (f := 91) rfl ?_); refine goesL_ (some 16) rfl rfl Try.func91 (by kernel_rfl) rfl #[.pointer (some ⟨g, 0, none⟩), .int .i64 20] rfl MT ?_; (with_reducible refine (spec_l1Rd_pick.calls k g s0_0 t106 20 t107 t108 w0 _ ?side1 ?side2 A7.out).mono ?_); (case side1 => exact I143_0 HI0); (case side2 => exact K1 HB (IsS143.ge HI0.out)); rintro e w61 ⟨rfl, hi, hb, hk⟩; refine ⟨_, rfl, ?_⟩; replace HO103 := am (Kd.R_mono (Kd.R_keep (IsS143.apart (show IsS143 w0 _ g s0_0 t106 from I143_0 HI0) (KR HO103) (by decide)) hk (fun _ h => h.2)) (fun _ h => h.1)); replace HK := am (KeepBut.trans (J0 HK) hk (.inl rfl)); replace HB := am (hb); replace HI0 := am (hi); (try clear hb); (try clear hb2); (try clear hk); (try clear hi)) | ((with_reducible refine gate_callee (f := 120) rfl ?_); refine goesL_ (some 49) rfl rfl Try.func120 (by kernel_rfl) rfl #[.pointer (some ⟨g, 0, none⟩)] rfl MT ?_; (with_reducible refine (spec_l12AnyBlock.calls k g s0_0 t108 t127 t128 t129 w0 _ ?side1 ?side2 A54.out).mono ?_); (case side1 => exact I143_0 HI0); (case side2 => exact K1 HB (IsS143.ge HI0.out)); rintro e w62 ⟨rfl, hi, hb, hk⟩; refine ⟨_, rfl, ?_⟩; replace HO103 := am (Kd.R_mono (Kd.R_keep (IsS143.apart (show IsS143 w0 _ g s0_0 t108 from I143_0 HI0) (KR HO103) (by decide)) hk (fun _ h => h.2)) (fun _ h => h.1)); replace HK := am (KeepBut.trans (J0 HK) hk (.inl rfl)); replace HB := am (hb); replace HI0 := am (hi); (try clear hb); (try clear hb2); (try clear hk); (try clear hi); have p57 : 0 ≤ (t105 : Int) := of_decide_eq_true (by first | (with_reducible assumption) | assumption); have q57 : (t105 : Int) < ((t101.length : Int) : Int) := of_decide_eq_true (by first | (with_reducible assumption) | assumption); obtain ⟨go57, co57, eo57, gb57, gl57, cl57, HG57⟩ := Kd.R_form HO103.out (by omega); (first | cases eo57 | (injection eo57 with ea_ en_ ec_; (first | subst ea_ | (injection ea_ with ea_; subst ea_)); subst ec_; clear en_)); have GB57 := Aside0.mk gb57; have GG57 := Aside0.mk HG57; clear gb57 gl57 HG57; obtain ⟨ce57, hcl57, hM57, hcc57, hfr57⟩ := Kd.R_elem HO103.out z34 (t105 : Int) p57 q57; obtain rfl := k34_openM hM57; have hx57_0 : w62.cell? ⟨go57, (t105 : Int).toNat * 8, none⟩ = some (.int .i64 ((rd_T34 t101 t105).f0)) := hcc57 0 _ rfl; have hx57_1 : w62.cell? ⟨go57, (t105 : Int).toNat * 8 + 1, none⟩ = some (.int .i64 ((rd_T34 t101 t105).f1)) := hcc57 1 _ rfl; have hx57_2 : w62.cell? ⟨go57, (t105 : Int).toNat * 8 + 2, none⟩ = some (.int .i64 ((rd_T34 t101 t105).f2.f0)) := hcc57 2 _ rfl; have hx57_3 : w62.cell? ⟨go57, (t105 : Int).toNat * 8 + 3, none⟩ = some (.int .i64 ((rd_T34 t101 t105).f2.f1)) := hcc57 3 _ rfl; have hx57_4 : w62.cell? ⟨go57, (t105 : Int).toNat * 8 + 4, none⟩ = some (.int .i64 ((rd_T34 t101 t105).f3.f0)) := hcc57 4 _ rfl; have hx57_5 : w62.cell? ⟨go57, (t105 : Int).toNat * 8 + 5, none⟩ = some (.int .i64 ((rd_T34 t101 t105).f3.f1)) := hcc57 5 _ rfl; have hx57_6 : w62.cell? ⟨go57, (t105 : Int).toNat * 8 + 6, none⟩ = some (.int .i64 ((rd_T34 t101 t105).f4)) := hcc57 6 _ rfl; have hx57_7 : w62.cell? ⟨go57, (t105 : Int).toNat * 8 + 7, none⟩ = some (.int .i64 ((rd_T34 t101 t105).f5)) := hcc57 7 _ rfl; have hf57_0 : w62.frozen? ⟨go57, (t105 : Int).toNat * 8, none⟩ = false := hfr57 0; have hf57_1 : w62.frozen? ⟨go57, (t105 : Int).toNat * 8 + 1, none⟩ = false := hfr57 1; have hf57_2 : w62.frozen? ⟨go57, (t105 : Int).toNat * 8 + 2, none⟩ = false := hfr57 2; have hf57_3 : w62.frozen? ⟨go57, (t105 : Int).toNat * 8 + 3, none⟩ = false := hfr57 3; have hf57_4 : w62.frozen? ⟨go57, (t105 : Int).toNat * 8 + 4, none⟩ = false := hfr57 4; have hf57_5 : w62.frozen? ⟨go57, (t105 : Int).toNat * 8 + 5, none⟩ = false := hfr57 5; have hf57_6 : w62.frozen? ⟨go57, (t105 : Int).toNat * 8 + 6, none⟩ = false := hfr57 6; have hf57_7 : w62.frozen? ⟨go57, (t105 : Int).toNat * 8 + 7, none⟩ = false := hfr57 7; clear hcl57 hcc57 hfr57 hM57; replace p57 := eq_true p57; replace q57 := eq_true q57; have HX63 := am (show Kd.R k34 34 w62 w.heap.size (fun _ => True) (.slice (some ⟨go57, 0, none⟩) t101.length co59) t101 from (KR HO103)); obtain ⟨ce63, hcl63, hM63, hcc63, hfr63⟩ := Kd.R_elem HX63.out z34 (t105 : Int) (of_decide_eq_true (by first | (with_reducible assumption) | assumption)) (by have h_ : (t105 : Int) < ((t101.length : Int) : Int) := of_decide_eq_true (by first | (with_reducible assumption) | assumption); first | exact h_ | (have e_ := (Kd.R_reads' HO103.out).1; omega) | simpa using h_); obtain rfl := k34_openM hM63; have HP63 := Kd.R_seg HX63.out (t105 : Int) (of_decide_eq_true (by first | (with_reducible assumption) | assumption)) (by have h_ : (t105 : Int) < ((t101.length : Int) : Int) := of_decide_eq_true (by first | (with_reducible assumption) | assumption); first | exact h_ | (have e_ := (Kd.R_reads' HO103.out).1; omega) | simpa using h_) (seg := [.int .i64 t127, .int .i64 t128]) (j := 2) hcl63 hcc63 (show 4 ≤ 8 from by decide) (x' := (⟨(rd_T34 t101 t105).f0, (rd_T34 t101 t105).f1, (⟨t127, t128⟩ : S32), (⟨(rd_T34 t101 t105).f3.f0, (rd_T34 t101 t105).f3.f1⟩ : S32), (rd_T34 t101 t105).f4, (rd_T34 t101 t105).f5⟩ : S34)) (k34_mkM _ _ _ (⟨(rd_T34 t101 t105).f0, (rd_T34 t101 t105).f1, (⟨t127, t128⟩ : S32), (⟨(rd_T34 t101 t105).f3.f0, (rd_T34 t101 t105).f3.f1⟩ : S32), (rd_T34 t101 t105).f4, (rd_T34 t101 t105).f5⟩ : S34) ) (fun _ hk => hk); have hx63_2 := hcc63 2 _ rfl; (try simp only [show (k34).sz = 8 from rfl, Nat.mul_one, Nat.add_zero] at hx63_2); have hf63_2 := hfr63 2; (try simp only [show (k34).sz = 8 from rfl, Nat.mul_one, Nat.add_zero] at hf63_2); have hx63_3 := hcc63 3 _ rfl; (try simp only [show (k34).sz = 8 from rfl, Nat.mul_one, Nat.add_zero] at hx63_3); have hf63_3 := hfr63 3; (try simp only [show (k34).sz = 8 from rfl, Nat.mul_one, Nat.add_zero] at hf63_3); clear hcl63 hcc63 hfr63 hM63) | ((with_reducible refine gate_store (t := 32) (p := 51) rfl ?_); refine store_event (t := 32) (p := 51) (v := ?vo_w64) (w1 := ((w62.setCell ⟨go57, (t105 : Int).toNat * 8 + 2, none⟩ (.int .i64 t127)).setCell ⟨go57, (t105 : Int).toNat * 8 + 3, none⟩ (.int .i64 t128))) ?hg ?ho ?hn ?hr ?_; (case ho => rfl); (case hg => rfl); (case hn => rfl); (case hr => first | (go_simp; done) | (go_simp; rfl)); intro w64 hw; have hg : w62.grownBy w64 (some go57) := (by rw [hw]; exact HP63.2); have hp_ : Kd.R k34 34 w64 w.heap.size (fun _ => True) (.slice (some ⟨go57, 0, none⟩) t101.length co59) y130 := (by rw [hw, Ny130.out]; exact HP63.1); clear HP63; replace HI0 := am (IsS143.grown (I143_0 HI0) hg (IsS143.own_ne HI0.out HO103.out (by decide))); replace HB := am ((by rw [hw]; exact below_set (below_set (HB.out) (Nat.le_trans HL.out GB57.out)) (Nat.le_trans HL.out GB57.out) : Below w0.heap.size w0 w64)); replace HK := am (KeepBut.trans (J0 HK) (KeepBut.of_grown hg g) (Kd.R_base2 HO103.out)); replace HO103 := am (hp_); clear hg hw hp_))
        go_ret
        exact ⟨_, by first | rfl | (simp [errW_none, errW_some] <;> rfl) | (simp [*, errW_none, errW_some] <;> rfl), by (with_reducible repeat (first | apply Kd.R_alloc | apply Kd.R_drewN | apply Kd.R_drew)); exact HO103.out, I143_0 HI0, K1 HB (IsS143.ge HI0.out), J0 HK⟩
       ·rw [if_neg c56] at H
        exact absurd H (by simp)
      ·rw [if_neg c55] at H
       exact absurd H (by simp)
     ·rw [if_neg c53] at H
      have c53b0 : (t107 == 3) = false := beq_eq_false_iff_ne.mpr c53
      have c53b1 : (t107 != 3) = true := bne_iff_ne.mpr c53
      by_cases c65 : t107 = 4
      ·rw [if_pos c65] at H
       have c65b0 : (t107 == 4) = true := beq_iff_eq.mpr c65
       have c65b1 : (t107 != 4) = false := bne_eq_false_iff_eq.mpr c65
       clear c65
       have H' := Aside0.mk H
       clear H
       go_enter Try.func71, Try.ntmps71
       go_wp2_with (first | ((with_reducible refine gate_callee (f := 122) rfl ?_); refine goesL_ (some 6) rfl rfl Try.func122 (by kernel_rfl) rfl #[.pointer (some ⟨g, 0, none⟩)] rfl MT ?_; (with_reducible refine (spec_l12Rules.calls k g s0_0 s0_1 t101 t104 w0 _ ?side1 ?side2 A2.out).mono ?_); (case side1 => exact I143_0 HI0); (case side2 => exact K1 HB (IsS143.ge HI0.out)); rintro e w66 ⟨v102, rfl, ho0, hi, hb, hk⟩; refine ⟨_, rfl, ?_⟩; have HO103 := am (Kd.R_lower ho0 (keep_size (w := w) (g := g) (row := none) (J0 HK))); replace HK := am (KeepBut.trans (J0 HK) hk (.inl rfl)); replace HB := am (hb); replace HI0 := am (hi); (try clear hb); (try clear hb2); (try clear hk); (try clear hi); (try clear ho0); obtain ⟨Ao67, co67, eo67⟩ := Kd.R_slice HO103.out; subst eo67) | ((with_reducible refine gate_callee (f := 91) rfl ?_); refine goesL_ (some 14) rfl rfl Try.func91 (by kernel_rfl) rfl #[.pointer (some ⟨g, 0, none⟩), .int .i64 (t101.length : Int)] rfl MT ?_; (with_reducible refine (spec_l1Rd_pick.calls k g s0_0 t104 (t101.length : Int) t105 t106 w0 _ ?side1 ?side2 A6.out).mono ?_); (case side1 => exact I143_0 HI0); (case side2 => exact K1 HB (IsS143.ge HI0.out)); rintro e w68 ⟨rfl, hi, hb, hk⟩; refine ⟨_, rfl, ?_⟩; replace HO103 := am (Kd.R_mono (Kd.R_keep (IsS143.apart (show IsS143 w0 _ g s0_0 t104 from I143_0 HI0) (KR HO103) (by decide)) hk (fun _ h => h.2)) (fun _ h => h.1)); replace HK := am (KeepBut.trans (J0 HK) hk (.inl rfl)); replace HB := am (hb); replace HI0 := am (hi); (try clear hb); (try clear hb2); (try clear hk); (try clear hi)) | ((with_reducible refine gate_callee (f := 91) rfl ?_); refine goesL_ (some 16) rfl rfl Try.func91 (by kernel_rfl) rfl #[.pointer (some ⟨g, 0, none⟩), .int .i64 20] rfl MT ?_; (with_reducible refine (spec_l1Rd_pick.calls k g s0_0 t106 20 t107 t108 w0 _ ?side1 ?side2 A7.out).mono ?_); (case side1 => exact I143_0 HI0); (case side2 => exact K1 HB (IsS143.ge HI0.out)); rintro e w69 ⟨rfl, hi, hb, hk⟩; refine ⟨_, rfl, ?_⟩; replace HO103 := am (Kd.R_mono (Kd.R_keep (IsS143.apart (show IsS143 w0 _ g s0_0 t106 from I143_0 HI0) (KR HO103) (by decide)) hk (fun _ h => h.2)) (fun _ h => h.1)); replace HK := am (KeepBut.trans (J0 HK) hk (.inl rfl)); replace HB := am (hb); replace HI0 := am (hi); (try clear hb); (try clear hb2); (try clear hk); (try clear hi)))
       go_loopg [3] k (fun kq v3 w' => ∃ (x3_1 : List (S34)) (x1001_1 : Int), Aside0 (spec_l12AnyRules.l0 kq x3_1 s0_0 x1001_1 = some (r1, r2)) ∧ Aside0 (kq ≤ k) ∧ Aside0 (Kd.R k34 34 w' w.heap.size (fun _ => True) v3 x3_1) ∧ Aside0 (IsS143 w0 w' g s0_0 x1001_1) ∧ Aside0 (KeepBut w w' g none) ∧ Aside0 (Below w0.heap.size w0 w'))
       case atStart => exact ⟨(t101), (t108), H', ⟨Nat.le_refl _⟩, ⟨KR HO103⟩, ⟨I143_0 HI0⟩, ⟨J0 HK⟩, ⟨K1 HB (IsS143.ge HI0.out)⟩⟩
       case round =>
        clear H'
        try clear c1
        try clear p1
        try clear q1
        try clear hx1
        try clear hf1
        try clear c2
        try clear p2
        try clear q2
        try clear hx2
        try clear hf2
        try clear c3
        try clear c3b0
        try clear c3b1
        try clear c3b2
        try clear hx3
        try clear hf3
        try clear c4
        try clear p4
        try clear q4
        try clear hx4
        try clear hf4
        try clear c5
        try clear p5
        try clear q5
        try clear hx5
        try clear hf5
        try clear c6
        try clear hx6
        try clear hf6
        try clear c7
        try clear c8
        try clear c8b0
        try clear c8b1
        try clear c9
        try clear c10
        try clear c10b0
        try clear c11
        try clear c11b0
        try clear c12
        try clear p12
        try clear q12
        try clear hx12
        try clear hf12
        try clear c21
        try clear hx21
        try clear hf21
        try clear c23
        try clear c23b0
        try clear c23b1
        try clear c25
        try clear c25b0
        try clear c26
        try clear c26b0
        try clear c27
        try clear p27
        try clear q27
        try clear hx27
        try clear hf27
        try clear c36
        try clear hx36
        try clear hf36
        try clear c38
        try clear c38b0
        try clear c38b1
        try clear c40
        try clear c40b0
        try clear c41
        try clear c41b0
        try clear c42
        try clear p42
        try clear q42
        try clear hx42
        try clear hf42
        try clear c51
        try clear hx51
        try clear hf51
        try clear c53
        try clear c53b0
        try clear c53b1
        try clear c55
        try clear c55b0
        try clear c56
        try clear c56b0
        try clear c57
        try clear p57
        try clear q57
        try clear hx57
        try clear hf57
        try clear c63
        try clear hx63
        try clear hf63
        try clear c65
        try clear c65b0
        try clear c65b1
        try clear hx12_0
        try clear hx12_1
        try clear hx12_2
        try clear hx12_3
        try clear hx12_4
        try clear hx12_5
        try clear hx12_6
        try clear hx12_7
        try clear hx21_0
        try clear hx27_0
        try clear hx27_1
        try clear hx27_2
        try clear hx27_3
        try clear hx27_4
        try clear hx27_5
        try clear hx27_6
        try clear hx27_7
        try clear hx36_1
        try clear hx42_0
        try clear hx42_1
        try clear hx42_2
        try clear hx42_3
        try clear hx42_4
        try clear hx42_5
        try clear hx42_6
        try clear hx42_7
        try clear hx51_6
        try clear hx57_0
        try clear hx57_1
        try clear hx57_2
        try clear hx57_3
        try clear hx57_4
        try clear hx57_5
        try clear hx57_6
        try clear hx57_7
        try clear hx63_2
        try clear hx63_3
        try clear p12
        try clear p27
        try clear p42
        try clear p57
        try clear q12
        try clear q27
        try clear q42
        try clear q57
        obtain ⟨x3_1, x1001_1, HA, HK1, HO_3, HI0, HK, HB⟩ := hrel
        cases gk with
        | zero => exact absurd HA.out (by simp [spec_l12AnyRules.l0])
        | succ k1 =>
         have H := HA.out
         clear HA
         simp only [spec_l12AnyRules.l0] at H
         replace H := Option.bind_eq_some_iff.mp H
         obtain ⟨⟨t131, t132⟩, A700, H⟩ := H
         replace H : (if (x3_1.length : Int) < (wrap64 (8 + t131)) then ((spec_l12Rule.f k1 s0_0 t132).bind fun bt133 => (if x3_1.length < 2199023255552 then (spec_l12AnyRules.l0 k1 (x3_1 ++ [(⟨bt133.1, bt133.2.1, (⟨bt133.2.2.1, bt133.2.2.2.1⟩ : S32), (⟨bt133.2.2.2.2.1, bt133.2.2.2.2.2.1⟩ : S32), bt133.2.2.2.2.2.2.1, bt133.2.2.2.2.2.2.2.1⟩ : S34)]) s0_0 bt133.2.2.2.2.2.2.2.2) else (none))) else (some (x3_1, t132))) = some (r1, r2) := H
         have A70 := Aside0.mk A700
         clear A700
         by_cases c71 : (x3_1.length : Int) < (wrap64 (8 + t131))
         ·rw [if_pos c71] at H
          have c71b0 : decide ((x3_1.length : Int) < (wrap64 (8 + t131))) = true := decide_eq_true c71
          clear c71
          replace H := Option.bind_eq_some_iff.mp H
          obtain ⟨⟨t133, t134, t135, t136, t137, t138, t139, t140, t141⟩, A720, H⟩ := H
          replace H : (if x3_1.length < 2199023255552 then (spec_l12AnyRules.l0 k1 (x3_1 ++ [(⟨t133, t134, (⟨t135, t136⟩ : S32), (⟨t137, t138⟩ : S32), t139, t140⟩ : S34)]) s0_0 t141) else (none)) = some (r1, r2) := H
          have A72 := Aside0.mk A720
          clear A720
          by_cases c73 : x3_1.length < 2199023255552
          ·rw [if_pos c73] at H
           have LMc73 := Aside0.mk c73
           clear c73
           obtain ⟨y142, hy142⟩ : ∃ y_ : List (S34), y_ = (x3_1 ++ [(⟨t133, t134, (⟨t135, t136⟩ : S32), (⟨t137, t138⟩ : S32), t139, t140⟩ : S34)]) := ⟨_, rfl⟩
           replace H : (spec_l12AnyRules.l0 k1 y142 s0_0 t141) = some (r1, r2) := by first | (rw [hy142]; with_reducible exact H) | (have H2_ := (Option.bind_some _ _).symm.trans H; rw [hy142]; with_reducible exact H2_) | (have H2_ := (Option.bind_some _ _).symm.trans H; with_reducible exact H2_) | with_reducible exact H | (rw [hy142]; exact H) | exact H
           have Ny142 := Aside0.mk hy142
           clear hy142
           have H' := Aside0.mk H
           clear H
           obtain ⟨Ao74, co74, eo74⟩ := Kd.R_slice HO_3.out
           subst eo74
           go_wp2_with (first | ((with_reducible refine gate_callee (f := 91) rfl ?_); refine goesL_ (some 57) rfl rfl Try.func91 (by kernel_rfl) rfl #[.pointer (some ⟨g, 0, none⟩), .int .i64 2] rfl MT ?_; (with_reducible refine (spec_l1Rd_pick.calls k1 g s0_0 x1001_1 2 t131 t132 w0 _ ?side1 ?side2 A70.out).mono ?_); (case side1 => exact I143_0 HI0); (case side2 => exact K1 HB (IsS143.ge HI0.out)); rintro e w75 ⟨rfl, hi, hb, hk⟩; refine ⟨_, rfl, ?_⟩; replace HO_3 := am (Kd.R_mono (Kd.R_keep (IsS143.apart (show IsS143 w0 _ g s0_0 x1001_1 from I143_0 HI0) (KR HO_3) (by decide)) hk (fun _ h => h.2)) (fun _ h => h.1)); replace HK := am (KeepBut.trans (J0 HK) hk (.inl rfl)); replace HB := am (hb); replace HI0 := am (hi); (try clear hb); (try clear hb2); (try clear hk); (try clear hi)) | ((with_reducible refine gate_callee (f := 123) rfl ?_); refine goesL_ (some 62) rfl rfl Try.func123 (by kernel_rfl) rfl #[.pointer (some ⟨g, 0, none⟩)] rfl MT ?_; (with_reducible refine (spec_l12Rule.calls k1 g s0_0 t132 t133 t134 t135 t136 t137 t138 t139 t140 t141 w0 _ ?side1 ?side2 A72.out).mono ?_); (case side1 => exact I143_0 HI0); (case side2 => exact K1 HB (IsS143.ge HI0.out)); rintro e w76 ⟨rfl, hi, hb, hk⟩; refine ⟨_, rfl, ?_⟩; replace HO_3 := am (Kd.R_mono (Kd.R_keep (IsS143.apart (show IsS143 w0 _ g s0_0 t132 from I143_0 HI0) (KR HO_3) (by decide)) hk (fun _ h => h.2)) (fun _ h => h.1)); replace HK := am (KeepBut.trans (J0 HK) hk (.inl rfl)); replace HB := am (hb); replace HI0 := am (hi); (try clear hb); (try clear hb2); (try clear hk); (try clear hi)) | ((with_reducible refine gate_builtin (b := .append) (xs := #[.tmp 60, .tmp 63]) rfl ?_); at_builtin; refine Kd.R_append k34 w.heap.size rfl (.tmp 60) (.tmp 63) 23 34 (.agg #[(.int .i64 0), (.int .i64 0), (.int .i64 0), (.int .i64 0), (.int .i64 0), (.int .i64 0), (.int .i64 0), (.int .i64 0)]) 64 rfl Try.underlying23 info34 rfl (by decide) (by omega) (.slice Ao74 x3_1.length co74) x3_1 (⟨t133, t134, (⟨t135, t136⟩ : S32), (⟨t137, t138⟩ : S32), t139, t140⟩ : S34) [.int .i64 t133, .int .i64 t134, .int .i64 t135, .int .i64 t136, .int .i64 t137, .int .i64 t138, .int .i64 t139, .int .i64 t140] (fun _ => True) (fun _ => False) rfl rfl ?aP (fun _ hk => hk.elim) ?aF ?aO (Below.refl _ _) ?aS ?aL ?_; (case aP => exact k34_mkM _ _ _ (⟨t133, t134, (⟨t135, t136⟩ : S32), (⟨t137, t138⟩ : S32), t139, t140⟩ : S34)); (case aF => exact (fun _ _ => trivial)); (case aO => exact (KR HO_3)); (case aS => exact (keep_size (w := w) (g := g) (row := none) (J0 HK))); (case aL => have := LMc73.out; omega); intro v143 w77 ho hb hg hat; rw [← Ny142.out] at ho; replace HB := am (below_weaken (K1 HB (IsS143.ge HI0.out)) HL.out hb); replace HI0 := am (IsS143.grown (I143_0 HI0) hg (IsS143.own_ne HI0.out HO_3.out (by decide))); replace HK := am (KeepBut.trans (J0 HK) (KeepBut.of_grown hg g) (Kd.R_base2 HO_3.out)); have HO144 := am (ho); clear HO_3; clear ho hb hg hat))
           go_roundg k1
           case measure => have := HK1.out; omega
           case rel => exact ⟨(y142), (t141), H', ⟨by have := HK1.out; omega⟩, ⟨KR HO144⟩, ⟨I143_0 HI0⟩, ⟨J0 HK⟩, ⟨K1 HB (IsS143.ge HI0.out)⟩⟩
          ·rw [if_neg c73] at H
           exact absurd H (by simp)
         ·rw [if_neg c71] at H
          have c71b0 : decide ((x3_1.length : Int) < (wrap64 (8 + t131))) = false := decide_eq_false c71
          clear c71
          simp only [Option.some.injEq, Prod.mk.injEq] at H
          obtain ⟨rfl, rfl⟩ := H
          obtain ⟨Ao78, co78, eo78⟩ := Kd.R_slice HO_3.out
          subst eo78
          go_wp2_with (first | ((with_reducible refine gate_callee (f := 91) rfl ?_); refine goesL_ (some 57) rfl rfl Try.func91 (by kernel_rfl) rfl #[.pointer (some ⟨g, 0, none⟩), .int .i64 2] rfl MT ?_; (with_reducible refine (spec_l1Rd_pick.calls k1 g s0_0 x1001_1 2 t131 t132 w0 _ ?side1 ?side2 A70.out).mono ?_); (case side1 => exact I143_0 HI0); (case side2 => exact K1 HB (IsS143.ge HI0.out)); rintro e w79 ⟨rfl, hi, hb, hk⟩; refine ⟨_, rfl, ?_⟩; replace HO_3 := am (Kd.R_mono (Kd.R_keep (IsS143.apart (show IsS143 w0 _ g s0_0 x1001_1 from I143_0 HI0) (KR HO_3) (by decide)) hk (fun _ h => h.2)) (fun _ h => h.1)); replace HK := am (KeepBut.trans (J0 HK) hk (.inl rfl)); replace HB := am (hb); replace HI0 := am (hi); (try clear hb); (try clear hb2); (try clear hk); (try clear hi)))
          go_ret
          exact ⟨_, by first | rfl | (simp [errW_none, errW_some] <;> rfl) | (simp [*, errW_none, errW_some] <;> rfl), by (with_reducible repeat (first | apply Kd.R_alloc | apply Kd.R_drewN | apply Kd.R_drew)); exact HO_3.out, I143_0 HI0, K1 HB (IsS143.ge HI0.out), J0 HK⟩
      ·rw [if_neg c65] at H
       have c65b0 : (t107 == 4) = false := beq_eq_false_iff_ne.mpr c65
       have c65b1 : (t107 != 4) = true := bne_iff_ne.mpr c65
       simp only [Option.some.injEq, Prod.mk.injEq] at H
       obtain ⟨rfl, rfl⟩ := H
       go_enter Try.func71, Try.ntmps71
       go_wp2_with (first | ((with_reducible refine gate_callee (f := 122) rfl ?_); refine goesL_ (some 6) rfl rfl Try.func122 (by kernel_rfl) rfl #[.pointer (some ⟨g, 0, none⟩)] rfl MT ?_; (with_reducible refine (spec_l12Rules.calls k g s0_0 s0_1 t101 t104 w0 _ ?side1 ?side2 A2.out).mono ?_); (case side1 => exact I143_0 HI0); (case side2 => exact K1 HB (IsS143.ge HI0.out)); rintro e w80 ⟨v102, rfl, ho0, hi, hb, hk⟩; refine ⟨_, rfl, ?_⟩; have HO103 := am (Kd.R_lower ho0 (keep_size (w := w) (g := g) (row := none) (J0 HK))); replace HK := am (KeepBut.trans (J0 HK) hk (.inl rfl)); replace HB := am (hb); replace HI0 := am (hi); (try clear hb); (try clear hb2); (try clear hk); (try clear hi); (try clear ho0); obtain ⟨Ao81, co81, eo81⟩ := Kd.R_slice HO103.out; subst eo81) | ((with_reducible refine gate_callee (f := 91) rfl ?_); refine goesL_ (some 14) rfl rfl Try.func91 (by kernel_rfl) rfl #[.pointer (some ⟨g, 0, none⟩), .int .i64 (t101.length : Int)] rfl MT ?_; (with_reducible refine (spec_l1Rd_pick.calls k g s0_0 t104 (t101.length : Int) t105 t106 w0 _ ?side1 ?side2 A6.out).mono ?_); (case side1 => exact I143_0 HI0); (case side2 => exact K1 HB (IsS143.ge HI0.out)); rintro e w82 ⟨rfl, hi, hb, hk⟩; refine ⟨_, rfl, ?_⟩; replace HO103 := am (Kd.R_mono (Kd.R_keep (IsS143.apart (show IsS143 w0 _ g s0_0 t104 from I143_0 HI0) (KR HO103) (by decide)) hk (fun _ h => h.2)) (fun _ h => h.1)); replace HK := am (KeepBut.trans (J0 HK) hk (.inl rfl)); replace HB := am (hb); replace HI0 := am (hi); (try clear hb); (try clear hb2); (try clear hk); (try clear hi)) | ((with_reducible refine gate_callee (f := 91) rfl ?_); refine goesL_ (some 16) rfl rfl Try.func91 (by kernel_rfl) rfl #[.pointer (some ⟨g, 0, none⟩), .int .i64 20] rfl MT ?_; (with_reducible refine (spec_l1Rd_pick.calls k g s0_0 t106 20 t107 t108 w0 _ ?side1 ?side2 A7.out).mono ?_); (case side1 => exact I143_0 HI0); (case side2 => exact K1 HB (IsS143.ge HI0.out)); rintro e w83 ⟨rfl, hi, hb, hk⟩; refine ⟨_, rfl, ?_⟩; replace HO103 := am (Kd.R_mono (Kd.R_keep (IsS143.apart (show IsS143 w0 _ g s0_0 t106 from I143_0 HI0) (KR HO103) (by decide)) hk (fun _ h => h.2)) (fun _ h => h.1)); replace HK := am (KeepBut.trans (J0 HK) hk (.inl rfl)); replace HB := am (hb); replace HI0 := am (hi); (try clear hb); (try clear hb2); (try clear hk); (try clear hi)))
       go_ret
       exact ⟨_, by first | rfl | (simp [errW_none, errW_some] <;> rfl) | (simp [*, errW_none, errW_some] <;> rfl), by (with_reducible repeat (first | apply Kd.R_alloc | apply Kd.R_drewN | apply Kd.R_drew)); exact HO103.out, I143_0 HI0, K1 HB (IsS143.ge HI0.out), J0 HK⟩
end Go.Proofs.Ytioghacieopbdaa.PAll
end
section
namespace Go.Proofs.Ytioghacieopbdaa.PAll
open Go.RowKit Go.Proofs.YtioghacieopbdaaW.PrintWords Go.Proofs.YtioghacieopbdaaW.PrintLast Go.Proofs.YtioghacieopbdaaW.PrintMore
attribute [local go_sem] max2_int min2_int max_two min_two max_three min_three max_four min_four   -- for this text's walks alone
set_option linter.unusedVariables false
set_option linter.unusedSimpArgs false
def spec_l12AnyAddr.f (k : Nat) (s0_0 : List Int) (s0_1 : Int) : Option (Int × Int) := (spec_l1Rd_pick.f k s0_0 s0_1 16).bind fun bt101 => (if bt101.1 = 0 then ((spec_l1Rd_one.f k s0_0 bt101.2 (([(-1), 4294967296, 1099511627776] : List Int))).bind fun bt106 => (some (bt106.1, bt106.2))) else ((spec_l12Addr.f k s0_0 bt101.2).bind fun bt108 => (some (bt108.1, bt108.2))))
set_option maxHeartbeats 8000000 in
set_option maxRecDepth 100000 in
theorem spec_l12AnyAddr.calls (k : Nat) (g : Nat) (s0_0 : List Int) (s0_1 : Int) (r1 : Int) (r2 : Int) (w0 w : World) (hI : IsS143 w0 w g s0_0 s0_1) (hB : Below w0.heap.size w0 w) (h : spec_l12AnyAddr.f k s0_0 s0_1 = some (r1, r2)) :
  Calls Try.prog 105 #[.pointer (some ⟨g, 0, none⟩)] w fun e w' => e = .returned (.int .i64 r1) ∧ IsS143 w0 w' g s0_0 r2 ∧ Below w0.heap.size w0 w' ∧ KeepBut w w' g none := by
 have HI0 := Aside0.mk hI
 have HK := am (KeepBut.refl w g none)
 have HL := Aside0.mk hB.size
 clear hI
 have HW0 := Aside0.mk hB.size
 have HB := Aside0.mk hB
 clear hB
 have H : ((spec_l1Rd_pick.f k s0_0 s0_1 16).bind fun bt101 => (if bt101.1 = 0 then ((spec_l1Rd_one.f k s0_0 bt101.2 (([(-1), 4294967296, 1099511627776] : List Int))).bind fun bt106 => (some (bt106.1, bt106.2))) else ((spec_l12Addr.f k s0_0 bt101.2).bind fun bt108 => (some (bt108.1, bt108.2))))) = some (r1, r2) := h
 clear h
 replace H := Option.bind_eq_some_iff.mp H
 obtain ⟨⟨t101, t102⟩, A20, H⟩ := H
 replace H : (if t101 = 0 then ((spec_l1Rd_one.f k s0_0 t102 (([(-1), 4294967296, 1099511627776] : List Int))).bind fun bt106 => (some (bt106.1, bt106.2))) else ((spec_l12Addr.f k s0_0 t102).bind fun bt108 => (some (bt108.1, bt108.2)))) = some (r1, r2) := H
 have A2 := Aside0.mk A20
 clear A20
 by_cases c3 : t101 = 0
 ·rw [if_pos c3] at H
  have c3b0 : (t101 == 0) = true := beq_iff_eq.mpr c3
  have c3b1 : (t101 != 0) = false := bne_eq_false_iff_eq.mpr c3
  clear c3
  obtain ⟨y103, hy103⟩ : ∃ y_ : List Int, y_ = (([(-1), 4294967296, 1099511627776] : List Int)) := ⟨_, rfl⟩
  replace H : ((spec_l1Rd_one.f k s0_0 t102 y103).bind fun bt106 => (some (bt106.1, bt106.2))) = some (r1, r2) := by first | (rw [hy103]; with_reducible exact H) | (have H2_ := (Option.bind_some _ _).symm.trans H; rw [hy103]; with_reducible exact H2_) | (have H2_ := (Option.bind_some _ _).symm.trans H; with_reducible exact H2_) | with_reducible exact H | (rw [hy103]; exact H) | exact H
  have Ny103 := Aside0.mk hy103
  clear hy103
  replace H := Option.bind_eq_some_iff.mp H
  obtain ⟨⟨t106, t107⟩, A40, H⟩ := H
  replace H : (some (t106, t107)) = some (r1, r2) := H
  have A4 := Aside0.mk A40
  clear A40
  simp only [Option.some.injEq, Prod.mk.injEq] at H
  obtain ⟨rfl, rfl⟩ := H
  go_enter Try.func105, Try.ntmps105
  go_wp2_with (first | ((with_reducible refine gate_callee (f := 91) rfl ?_); refine goesL_ (some 4) rfl rfl Try.func91 (by kernel_rfl) rfl #[.pointer (some ⟨g, 0, none⟩), .int .i64 16] rfl MT ?_; (with_reducible refine (spec_l1Rd_pick.calls k g s0_0 s0_1 16 t101 t102 w0 _ ?side1 ?side2 A2.out).mono ?_); (case side1 => exact I143_0 HI0); (case side2 => exact K1 HB (IsS143.ge HI0.out)); rintro e w5 ⟨rfl, hi, hb, hk⟩; refine ⟨_, rfl, ?_⟩; replace HK := am (KeepBut.trans (J0 HK) hk (.inl rfl)); replace HB := am (hb); replace HI0 := am (hi); (try clear hb); (try clear hb2); (try clear hk); (try clear hi)) | ((with_reducible refine gate_dst (N := 7) rfl ?_); refine Kd.R_lit (Kd.int .i64) _ 3 ?hg (N := 7) ?hd (xs := ([(-1), 4294967296, 1099511627776] : List Int)) (inner := [.int .i64 (-1), .int .i64 4294967296, .int .i64 1099511627776]) (ok := fun _ => True) (okp := fun _ => True) ?hr ?hp (fun _ hk => hk) trivial (Below.refl _ _) (Nat.le_refl _) (by simp) ?_; (case hd => rfl); (case hg => rfl); (case hr => first | (go_simp; done) | (go_simp; rfl)); (case hp => exact (Reps.one (show Kd.M (Kd.int .i64) _ _ _ (-1) [.int .i64 (-1)] from rfl) (Reps.one (show Kd.M (Kd.int .i64) _ _ _ 4294967296 [.int .i64 4294967296] from rfl) (Reps.one (show Kd.M (Kd.int .i64) _ _ _ 1099511627776 [.int .i64 1099511627776] from rfl) (Reps.none _ _))))); intro v104 w6 ho7 hb hg_ hnew_; clear hg_ hnew_; (first | rw [← Ny103.out] at ho7 | (simp only [Int.reduceToNat] at ho7; rw [← Ny103.out] at ho7)); have HO105 := am (Kd.R_lower ho7 (keep_size (w := w) (g := g) (row := none) (J0 HK))); replace HK := am (KeepBut.trans (J0 HK) (KeepBut.of_below hb g none) (.inl rfl)); replace HB := am (below_step (K1 HB (IsS143.ge HI0.out)) hb); replace HI0 := am (IsS143.below (I143_0 HI0) hb); clear hb ho7; obtain ⟨Ao8, co8, eo8⟩ := Kd.R_slice HO105.out; subst eo8) | ((with_reducible refine gate_callee (f := 95) rfl ?_); refine goesL_ (some 8) rfl rfl Try.func95 (by kernel_rfl) rfl #[.pointer (some ⟨g, 0, none⟩), .slice Ao8 y103.length co8] rfl MT ?_; (with_reducible refine (spec_l1Rd_one.calls k g s0_0 t102 _ _ y103 t106 t107 w0 _ ?side1 ?side2 ?side3 ?side4 ?side5 A4.out).mono ?_); (case side1 => exact I143_0 HI0); (case side2 => exact K1 HB (IsS143.ge HI0.out)); (case side3 => exact KC (Kd.R_reads' HO105.out).2.2); (case side4 => exact (Kd.R_reads' HO105.out).2.1); (case side5 => exact far_slice (IsS143.own_ne HI0.out HO105.out (by decide))); rintro e w9 ⟨rfl, hi, hb, hk⟩; refine ⟨_, rfl, ?_⟩; replace HO105 := am (Kd.R_mono (Kd.R_keep (IsS143.apart (show IsS143 w0 _ g s0_0 t102 from I143_0 HI0) (KR HO105) (by decide)) hk (fun _ h => h.2)) (fun _ h => h.1)); replace HK := am (KeepBut.trans (J0 HK) hk (.inl rfl)); replace HB := am (hb); replace HI0 := am (hi); (try clear hb); (try clear hb2); (try clear hk); (try clear hi)))
  go_ret
  exact ⟨by first | rfl | (simp [errW_none, errW_some] <;> rfl) | (simp [*, errW_none, errW_some] <;> rfl), I143_0 HI0, K1 HB (IsS143.ge HI0.out), J0 HK⟩
 ·rw [if_neg c3] at H
  have c3b0 : (t101 == 0) = false := beq_eq_false_iff_ne.mpr c3
  have c3b1 : (t101 != 0) = true := bne_iff_ne.mpr c3
  replace H := Option.bind_eq_some_iff.mp H
  obtain ⟨⟨t108, t109⟩, A100, H⟩ := H
  replace H : (some (t108, t109)) = some (r1, r2) := H
  have A10 := Aside0.mk A100
  clear A100
  simp only [Option.some.injEq, Prod.mk.injEq] at H
  obtain ⟨rfl, rfl⟩ := H
  go_enter Try.func105, Try.ntmps105
  go_wp2_with (first | ((with_reducible refine gate_callee (f := 91) rfl ?_); refine goesL_ (some 4) rfl rfl Try.func91 (by kernel_rfl) rfl #[.pointer (some ⟨g, 0, none⟩), .int .i64 16] rfl MT ?_; (with_reducible refine (spec_l1Rd_pick.calls k g s0_0 s0_1 16 t101 t102 w0 _ ?side1 ?side2 A2.out).mono ?_); (case side1 => exact I143_0 HI0); (case side2 => exact K1 HB (IsS143.ge HI0.out)); rintro e w11 ⟨rfl, hi, hb, hk⟩; refine ⟨_, rfl, ?_⟩; replace HK := am (KeepBut.trans (J0 HK) hk (.inl rfl)); replace HB := am (hb); replace HI0 := am (hi); (try clear hb); (try clear hb2); (try clear hk); (try clear hi)) | ((with_reducible refine gate_callee (f := 136) rfl ?_); refine goesL_ (some 10) rfl rfl Try.func136 (by kernel_rfl) rfl #[.pointer (some ⟨g, 0, none⟩)] rfl MT ?_; (with_reducible refine (spec_l12Addr.calls k g s0_0 t102 t108 t109 w0 _ ?side1 ?side2 A10.out).mono ?_); (case side1 => exact I143_0 HI0); (case side2 => exact K1 HB (IsS143.ge HI0.out)); rintro e w12 ⟨rfl, hi, hb, hk⟩; refine ⟨_, rfl, ?_⟩; replace HK := am (KeepBut.trans (J0 HK) hk (.inl rfl)); replace HB := am (hb); replace HI0 := am (hi); (try clear hb); (try clear hb2); (try clear hk); (try clear hi)))
  go_ret
  exact ⟨by first | rfl | (simp [errW_none, errW_some] <;> rfl) | (simp [*, errW_none, errW_some] <;> rfl), I143_0 HI0, K1 HB (IsS143.ge HI0.out), J0 HK⟩
end Go.Proofs.Ytioghacieopbdaa.PAll
end
section
namespace Go.Proofs.Ytioghacieopbdaa.PAll
open Go.RowKit Go.Proofs.YtioghacieopbdaaW.PrintWords Go.Proofs.YtioghacieopbdaaW.PrintLast Go.Proofs.YtioghacieopbdaaW.PrintMore
attribute [local go_sem] max2_int min2_int max_two min_two max_three min_three max_four min_four   -- for this text's walks alone
set_option linter.unusedVariables false
set_option linter.unusedSimpArgs false
def spec_l12Call.f (k : Nat) (s0_0 : List Int) (s0_1 : Int) : Option (Int × Int × Int × Int) := (spec_l12Addr.f k s0_0 s0_1).bind fun bt102 => ((spec_l12Addr.f k s0_0 bt102.2).bind fun bt104 => ((spec_l1Rd_pick.f k s0_0 bt104.2 256).bind fun bt106 => ((spec_l1Rd_one.f k s0_0 bt106.2 (([0, 80, 81, 100, 443, 65535, bt106.1] : List Int))).bind fun bt111 => (some (bt102.1, bt104.1, bt111.1, bt111.2)))))
set_option maxHeartbeats 8000000 in
set_option maxRecDepth 100000 in
theorem spec_l12Call.calls (k : Nat) (g : Nat) (s0_0 : List Int) (s0_1 : Int) (r1 : Int) (r2 : Int) (r3 : Int) (r4 : Int) (w0 w : World) (hI : IsS143 w0 w g s0_0 s0_1) (hB : Below w0.heap.size w0 w) (h : spec_l12Call.f k s0_0 s0_1 = some (r1, r2, r3, r4)) :
  Calls Try.prog 124 #[.pointer (some ⟨g, 0, none⟩)] w fun e w' => e = .returned (.agg #[.int .i64 r1, .int .i64 r2, .int .i64 r3]) ∧ IsS143 w0 w' g s0_0 r4 ∧ Below w0.heap.size w0 w' ∧ KeepBut w w' g none := by
 have hu25 := Try.underlying25
 have HI0 := Aside0.mk hI
 have HK := am (KeepBut.refl w g none)
 have HL := Aside0.mk hB.size
 clear hI
 have HW0 := Aside0.mk hB.size
 have HB := Aside0.mk hB
 clear hB
 have H : ((spec_l12Addr.f k s0_0 s0_1).bind fun bt102 => ((spec_l12Addr.f k s0_0 bt102.2).bind fun bt104 => ((spec_l1Rd_pick.f k s0_0 bt104.2 256).bind fun bt106 => ((spec_l1Rd_one.f k s0_0 bt106.2 (([0, 80, 81, 100, 443, 65535, bt106.1] : List Int))).bind fun bt111 => (some (bt102.1, bt104.1, bt111.1, bt111.2)))))) = some (r1, r2, r3, r4) := h
 clear h
 replace H := Option.bind_eq_some_iff.mp H
 obtain ⟨⟨t102, t103⟩, A20, H⟩ := H
 replace H : ((spec_l12Addr.f k s0_0 t103).bind fun bt104 => ((spec_l1Rd_pick.f k s0_0 bt104.2 256).bind fun bt106 => ((spec_l1Rd_one.f k s0_0 bt106.2 (([0, 80, 81, 100, 443, 65535, bt106.1] : List Int))).bind fun bt111 => (some (t102, bt104.1, bt111.1, bt111.2))))) = some (r1, r2, r3, r4) := H
 have A2 := Aside0.mk A20
 clear A20
 replace H := Option.bind_eq_some_iff.mp H
 obtain ⟨⟨t104, t105⟩, A30, H⟩ := H
 replace H : ((spec_l1Rd_pick.f k s0_0 t105 256).bind fun bt106 => ((spec_l1Rd_one.f k s0_0 bt106.2 (([0, 80, 81, 100, 443, 65535, bt106.1] : List Int))).bind fun bt111 => (some (t102, t104, bt111.1, bt111.2)))) = some (r1, r2, r3, r4) := H
 have A3 := Aside0.mk A30
 clear A30
 replace H := Option.bind_eq_some_iff.mp H
 obtain ⟨⟨t106, t107⟩, A40, H⟩ := H
 replace H : ((spec_l1Rd_one.f k s0_0 t107 (([0, 80, 81, 100, 443, 65535, t106] : List Int))).bind fun bt111 => (some (t102, t104, bt111.1, bt111.2))) = some (r1, r2, r3, r4) := H
 have A4 := Aside0.mk A40
 clear A40
 obtain ⟨y108, hy108⟩ : ∃ y_ : List Int, y_ = (([0, 80, 81, 100, 443, 65535, t106] : List Int)) := ⟨_, rfl⟩
 replace H : ((spec_l1Rd_one.f k s0_0 t107 y108).bind fun bt111 => (some (t102, t104, bt111.1, bt111.2))) = some (r1, r2, r3, r4) := by first | (rw [hy108]; with_reducible exact H) | (have H2_ := (Option.bind_some _ _).symm.trans H; rw [hy108]; with_reducible exact H2_) | (have H2_ := (Option.bind_some _ _).symm.trans H; with_reducible exact H2_) | with_reducible exact H | (rw [hy108]; exact H) | exact H
 have Ny108 := Aside0.mk hy108
 clear hy108
 replace H := Option.bind_eq_some_iff.mp H
 obtain ⟨⟨t111, t112⟩, A50, H⟩ := H
 replace H : (some (t102, t104, t111, t112)) = some (r1, r2, r3, r4) := H
 have A5 := Aside0.mk A50
 clear A50
 simp only [Option.some.injEq, Prod.mk.injEq] at H
 obtain ⟨rfl, rfl, rfl, rfl⟩ := H
 go_enter Try.func124, Try.ntmps124
 go_wp2_with (first | ((with_reducible refine gate_dst (N := 2) rfl ?_); refine box_event rfl (N := 2) rfl (cs := #[.int .i64 0, .int .i64 0, .int .i64 0]) (t := 25) BX ?_; intro gb101 hg w6 hbox hb; replace HB := am (below_step (K1 HB (IsS143.ge HI0.out)) hb); have BK101 := am (hbox); have GW101 := am ((by rw [hg]; exact (keep_size (w := w) (g := g) (row := none) (J0 HK)) : w.heap.size ≤ gb101)); have GE101 := am ((Nat.le_trans HW0.out (by rw [hg]; exact (keep_size (w := w) (g := g) (row := none) (J0 HK)) : w.heap.size ≤ gb101) : w0.heap.size ≤ gb101)); replace HK := am (KeepBut.trans (J0 HK) (KeepBut.of_below hb g none) (.inl rfl)); have NB0_101 := am ((by rw [hg]; exact Nat.ne_of_lt (IsS143.lt (show IsS143 w0 _ g s0_0 s0_1 from I143_0 HI0)) : g ≠ gb101)); have NB101_0 := am ((by rw [hg]; exact Nat.ne_of_gt (IsS143.lt (show IsS143 w0 _ g s0_0 s0_1 from I143_0 HI0)) : gb101 ≠ g)); replace HI0 := am (IsS143.below (I143_0 HI0) hb); clear hb hbox hg) | ((with_reducible refine gate_callee (f := 136) rfl ?_); refine goesL_ (some 4) rfl rfl Try.func136 (by kernel_rfl) rfl #[.pointer (some ⟨g, 0, none⟩)] rfl MT ?_; (with_reducible refine (spec_l12Addr.calls k g s0_0 s0_1 t102 t103 w0 _ ?side1 ?side2 A2.out).mono ?_); (case side1 => exact I143_1 HI0 NB0_101.out); (case side2 => exact K2 HB (IsS143.ge HI0.out) GE101.out); rintro e w7 ⟨rfl, hi, hb, hk⟩; refine ⟨_, rfl, ?_⟩; replace BK101 := am (KeepBut.blk hk (g' := gb101) (o := .cells #[.int .i64 0, .int .i64 0, .int .i64 0] 25 (0, 0)) (KB BK101) NB101_0.out (by simp)); replace HK := am (KeepBut.trans (J1 HK GW101.out) hk (.inl rfl)); replace HB := am (hb); replace HI0 := am (hi); (try clear hb); (try clear hb2); (try clear hk); (try clear hi)) | ((with_reducible refine gate_callee (f := 136) rfl ?_); refine goesL_ (some 6) rfl rfl Try.func136 (by kernel_rfl) rfl #[.pointer (some ⟨g, 0, none⟩)] rfl MT ?_; (with_reducible refine (spec_l12Addr.calls k g s0_0 t103 t104 t105 w0 _ ?side1 ?side2 A3.out).mono ?_); (case side1 => exact I143_1 HI0 NB0_101.out); (case side2 => exact K2 HB (IsS143.ge HI0.out) GE101.out); rintro e w8 ⟨rfl, hi, hb, hk⟩; refine ⟨_, rfl, ?_⟩; replace BK101 := am (KeepBut.blk hk (g' := gb101) (o := .cells #[.int .i64 0, .int .i64 0, .int .i64 0] 25 (0, 0)) (KB BK101) NB101_0.out (by simp)); replace HK := am (KeepBut.trans (J1 HK GW101.out) hk (.inl rfl)); replace HB := am (hb); replace HI0 := am (hi); (try clear hb); (try clear hb2); (try clear hk); (try clear hi)) | ((with_reducible refine gate_callee (f := 91) rfl ?_); refine goesL_ (some 9) rfl rfl Try.func91 (by kernel_rfl) rfl #[.pointer (some ⟨g, 0, none⟩), .int .i64 256] rfl MT ?_; (with_reducible refine (spec_l1Rd_pick.calls k g s0_0 t105 256 t106 t107 w0 _ ?side1 ?side2 A4.out).mono ?_); (case side1 => exact I143_1 HI0 NB0_101.out); (case side2 => exact K2 HB (IsS143.ge HI0.out) GE101.out); rintro e w9 ⟨rfl, hi, hb, hk⟩; refine ⟨_, rfl, ?_⟩; replace BK101 := am (KeepBut.blk hk (g' := gb101) (o := .cells #[.int .i64 0, .int .i64 0, .int .i64 0] 25 (0, 0)) (KB BK101) NB101_0.out (by simp)); replace HK := am (KeepBut.trans (J1 HK GW101.out) hk (.inl rfl)); replace HB := am (hb); replace HI0 := am (hi); (try clear hb); (try clear hb2); (try clear hk); (try clear hi)) | ((with_reducible refine gate_dst (N := 10) rfl ?_); refine Kd.R_lit (Kd.int .i64) _ 3 ?hg (N := 10) ?hd (xs := ([0, 80, 81, 100, 443, 65535, t106] : List Int)) (inner := [.int .i64 0, .int .i64 80, .int .i64 81, .int .i64 100, .int .i64 443, .int .i64 65535, .int .i64 t106]) (ok := fun _ => True) (okp := fun _ => True) ?hr ?hp (fun _ hk => hk) trivial (Below.refl _ _) (Nat.le_refl _) (by simp) ?_; (case hd => rfl); (case hg => rfl); (case hr => first | (go_simp; done) | (go_simp; rfl)); (case hp => exact (Reps.one (show Kd.M (Kd.int .i64) _ _ _ 0 [.int .i64 0] from rfl) (Reps.one (show Kd.M (Kd.int .i64) _ _ _ 80 [.int .i64 80] from rfl) (Reps.one (show Kd.M (Kd.int .i64) _ _ _ 81 [.int .i64 81] from rfl) (Reps.one (show Kd.M (Kd.int .i64) _ _ _ 100 [.int .i64 100] from rfl) (Reps.one (show Kd.M (Kd.int .i64) _ _ _ 443 [.int .i64 443] from rfl) (Reps.one (show Kd.M (Kd.int .i64) _ _ _ 65535 [.int .i64 65535] from rfl) (Reps.one (show Kd.M (Kd.int .i64) _ _ _ t106 [.int .i64 t106] from rfl) (Reps.none _ _))))))))); intro v109 w10 ho11 hb hg_ hnew_; clear hg_ hnew_; (first | rw [← Ny108.out] at ho11 | (simp only [Int.reduceToNat] at ho11; rw [← Ny108.out] at ho11)); have HO110 := am (Kd.R_lower ho11 (keep_size (w := w) (g := g) (row := none) (J1 HK GW101.out))); replace BK101 := am (BB BK101 hb); replace HK := am (KeepBut.trans (J1 HK GW101.out) (KeepBut.of_below hb g none) (.inl rfl)); replace HB := am (below_step (K2 HB (IsS143.ge HI0.out) GE101.out) hb); replace HI0 := am (IsS143.below (I143_1 HI0 NB0_101.out) hb); clear hb ho11; obtain ⟨Ao12, co12, eo12⟩ := Kd.R_slice HO110.out; subst eo12) | ((with_reducible refine gate_callee (f := 95) rfl ?_); refine goesL_ (some 11) rfl rfl Try.func95 (by kernel_rfl) rfl #[.pointer (some ⟨g, 0, none⟩), .slice Ao12 y108.length co12] rfl MT ?_; (with_reducible refine (spec_l1Rd_one.calls k g s0_0 t107 _ _ y108 t111 t112 w0 _ ?side1 ?side2 ?side3 ?side4 ?side5 A5.out).mono ?_); (case side1 => exact I143_1 HI0 NB0_101.out); (case side2 => exact K2 HB (IsS143.ge HI0.out) GE101.out); (case side3 => exact KC (Kd.R_reads' HO110.out).2.2); (case side4 => exact (Kd.R_reads' HO110.out).2.1); (case side5 => exact far_slice (IsS143.own_ne HI0.out HO110.out (by decide))); rintro e w13 ⟨rfl, hi, hb, hk⟩; refine ⟨_, rfl, ?_⟩; replace BK101 := am (KeepBut.blk hk (g' := gb101) (o := .cells #[.int .i64 0, .int .i64 0, .int .i64 0] 25 (0, 0)) (KB BK101) NB101_0.out (by simp)); replace HO110 := am (Kd.R_mono (Kd.R_keep (IsS143.apart (show IsS143 w0 _ g s0_0 t107 from I143_1 HI0 NB0_101.out) (KR HO110) (by decide)) hk (fun _ h => h.2)) (fun _ h => h.1)); replace HK := am (KeepBut.trans (J1 HK GW101.out) hk (.inl rfl)); replace HB := am (hb); replace HI0 := am (hi); (try clear hb); (try clear hb2); (try clear hk); (try clear hi); have hnb14 := NB101_0.out; have hnc14 := NB0_101.out; have hcz15_0 := z0 w13 BK101.out; have hcz15_1 := z1 w13 BK101.out; have hcz15_2 := z2 w13 BK101.out; have hfz15_0 := blk_frozen BK101.out 0; have hfz15_1 := blk_frozen BK101.out 1; have hfz15_2 := blk_frozen BK101.out 2))
 refine bodyPost_ret (results_cell_row rfl _ _ gb101 25 #[.int .i64 t102, .int .i64 t104, .int .i64 t111] (0, 0) _ rfl (by (with_reducible repeat (first | refine blk_drewN ?_ _ | refine blk_drew ?_ | refine blk_alloc ?_ _)); refine blk_put (cs := #[.int .i64 t102, .int .i64 t104, .int .i64 0]) ?_ 2 _ rfl; (with_reducible repeat (first | refine blk_drewN ?_ _ | refine blk_drew ?_ | refine blk_alloc ?_ _)); refine blk_put (cs := #[.int .i64 t102, .int .i64 0, .int .i64 0]) ?_ 1 _ rfl; (with_reducible repeat (first | refine blk_drewN ?_ _ | refine blk_drew ?_ | refine blk_alloc ?_ _)); refine blk_put (cs := #[.int .i64 0, .int .i64 0, .int .i64 0]) ?_ 0 _ rfl; (with_reducible repeat (first | refine blk_drewN ?_ _ | refine blk_drew ?_ | refine blk_alloc ?_ _)); exact BK101.out) Try.underlying25 rfl (by kernel_rfl)) rfl ?_
 exact ⟨by first | rfl | (simp [errW_none, errW_some] <;> rfl) | (simp [*, errW_none, errW_some] <;> rfl), I143_1 HI0 NB0_101.out, K2 HB (IsS143.ge HI0.out) GE101.out, J1 HK GW101.out⟩
end Go.Proofs.Ytioghacieopbdaa.PAll
end
section
namespace Go.Proofs.Ytioghacieopbdaa.PAll
open Go.RowKit Go.Proofs.YtioghacieopbdaaW.PrintWords Go.Proofs.YtioghacieopbdaaW.PrintLast Go.Proofs.YtioghacieopbdaaW.PrintMore
attribute [local go_sem] max2_int min2_int max_two min_two max_three min_three max_four min_four   -- for this text's walks alone
set_option linter.unusedVariables false
set_option linter.unusedSimpArgs false
def spec_l12AnyCall.f (k : Nat) (s0_0 : List Int) (s0_1 : Int) : Option (Int × Int × Int × Int) := (spec_l12Call.f k s0_0 s0_1).bind fun bt102 => ((spec_l1Rd_pick.f k s0_0 bt102.2.2.2 20).bind fun bt107 => (if bt107.1 = 0 then ((spec_l12AnyAddr.f k s0_0 bt107.2).bind fun bt109 => (some (bt109.1, bt102.2.1, bt102.2.2.1, bt109.2))) else (if bt107.1 = 1 then ((spec_l1Rd_one.f k s0_0 bt107.2 (([(-1), 65536] : List Int))).bind fun bt114 => (some (bt102.1, bt102.2.1, bt114.1, bt114.2))) else (some (bt102.1, bt102.2.1, bt102.2.2.1, bt107.2)))))
set_option maxHeartbeats 8000000 in
set_option maxRecDepth 100000 in
theorem spec_l12AnyCall.calls (k : Nat) (g : Nat) (s0_0 : List Int) (s0_1 : Int) (r1 : Int) (r2 : Int) (r3 : Int) (r4 : Int) (w0 w : World) (hI : IsS143 w0 w g s0_0 s0_1) (hB : Below w0.heap.size w0 w) (h : spec_l12AnyCall.f k s0_0 s0_1 = some (r1, r2, r3, r4)) :
  Calls Try.prog 72 #[.pointer (some ⟨g, 0, none⟩)] w fun e w' => e = .returned (.agg #[.int .i64 r1, .int .i64 r2, .int .i64 r3]) ∧ IsS143 w0 w' g s0_0 r4 ∧ Below w0.heap.size w0 w' ∧ KeepBut w w' g none := by
 have hu25 := Try.underlying25
 have HI0 := Aside0.mk hI
 have HK := am (KeepBut.refl w g none)
 have HL := Aside0.mk hB.size
 clear hI
 have HW0 := Aside0.mk hB.size
 have HB := Aside0.mk hB
 clear hB
 have H : ((spec_l12Call.f k s0_0 s0_1).bind fun bt102 => ((spec_l1Rd_pick.f k s0_0 bt102.2.2.2 20).bind fun bt107 => (if bt107.1 = 0 then ((spec_l12AnyAddr.f k s0_0 bt107.2).bind fun bt109 => (some (bt109.1, bt102.2.1, bt102.2.2.1, bt109.2))) else (if bt107.1 = 1 then ((spec_l1Rd_one.f k s0_0 bt107.2 (([(-1), 65536] : List Int))).bind fun bt114 => (some (bt102.1, bt102.2.1, bt114.1, bt114.2))) else (some (bt102.1, bt102.2.1, bt102.2.2.1, bt107.2)))))) = some (r1, r2, r3, r4) := h
 clear h
 replace H := Option.bind_eq_some_iff.mp H
 obtain ⟨⟨t102, t103, t104, t105⟩, A20, H⟩ := H
 replace H : ((spec_l1Rd_pick.f k s0_0 t105 20).bind fun bt107 => (if bt107.1 = 0 then ((spec_l12AnyAddr.f k s0_0 bt107.2).bind fun bt109 => (some (bt109.1, t103, t104, bt109.2))) else (if bt107.1 = 1 then ((spec_l1Rd_one.f k s0_0 bt107.2 (([(-1), 65536] : List Int))).bind fun bt114 => (some (t102, t103, bt114.1, bt114.2))) else (some (t102, t103, t104, bt107.2))))) = some (r1, r2, r3, r4) := H
 have A2 := Aside0.mk A20
 clear A20
 replace H := Option.bind_eq_some_iff.mp H
 obtain ⟨⟨t107, t108⟩, A30, H⟩ := H
 replace H : (if t107 = 0 then ((spec_l12AnyAddr.f k s0_0 t108).bind fun bt109 => (some (bt109.1, t103, t104, bt109.2))) else (if t107 = 1 then ((spec_l1Rd_one.f k s0_0 t108 (([(-1), 65536] : List Int))).bind fun bt114 => (some (t102, t103, bt114.1, bt114.2))) else (some (t102, t103, t104, t108)))) = some (r1, r2, r3, r4) := H
 have A3 := Aside0.mk A30
 clear A30
 by_cases c4 : t107 = 0
 ·rw [if_pos c4] at H
  have c4b0 : (t107 == 0) = true := beq_iff_eq.mpr c4
  have c4b1 : (t107 != 0) = false := bne_eq_false_iff_eq.mpr c4
  clear c4
  replace H := Option.bind_eq_some_iff.mp H
  obtain ⟨⟨t109, t110⟩, A50, H⟩ := H
  replace H : (some (t109, t103, t104, t110)) = some (r1, r2, r3, r4) := H
  have A5 := Aside0.mk A50
  clear A50
  simp only [Option.some.injEq, Prod.mk.injEq] at H
  obtain ⟨rfl, rfl, rfl, rfl⟩ := H
  go_enter Try.func72, Try.ntmps72
  go_wp2_with (first | ((with_reducible refine gate_dst (N := 2) rfl ?_); refine box_event rfl (N := 2) rfl (cs := #[.int .i64 0, .int .i64 0, .int .i64 0]) (t := 25) BX ?_; intro gb101 hg w6 hbox hb; replace HB := am (below_step (K1 HB (IsS143.ge HI0.out)) hb); have BK101 := am (hbox); have GW101 := am ((by rw [hg]; exact (keep_size (w := w) (g := g) (row := none) (J0 HK)) : w.heap.size ≤ gb101)); have GE101 := am ((Nat.le_trans HW0.out (by rw [hg]; exact (keep_size (w := w) (g := g) (row := none) (J0 HK)) : w.heap.size ≤ gb101) : w0.heap.size ≤ gb101)); replace HK := am (KeepBut.trans (J0 HK) (KeepBut.of_below hb g none) (.inl rfl)); have NB0_101 := am ((by rw [hg]; exact Nat.ne_of_lt (IsS143.lt (show IsS143 w0 _ g s0_0 s0_1 from I143_0 HI0)) : g ≠ gb101)); have NB101_0 := am ((by rw [hg]; exact Nat.ne_of_gt (IsS143.lt (show IsS143 w0 _ g s0_0 s0_1 from I143_0 HI0)) : gb101 ≠ g)); replace HI0 := am (IsS143.below (I143_0 HI0) hb); clear hb hbox hg) | ((with_reducible refine gate_callee (f := 124) rfl ?_); refine goesL_ (some 5) rfl rfl Try.func124 (by kernel_rfl) rfl #[.pointer (some ⟨g, 0, none⟩)] rfl MT ?_; (with_reducible refine (spec_l12Call.calls k g s0_0 s0_1 t102 t103 t104 t105 w0 _ ?side1 ?side2 A2.out).mono ?_); (case side1 => exact I143_1 HI0 NB0_101.out); (case side2 => exact K2 HB (IsS143.ge HI0.out) GE101.out); rintro e w7 ⟨rfl, hi, hb, hk⟩; refine ⟨_, rfl, ?_⟩; replace BK101 := am (KeepBut.blk hk (g' := gb101) (o := .cells #[.int .i64 0, .int .i64 0, .int .i64 0] 25 (0, 0)) (KB BK101) NB101_0.out (by simp)); replace HK := am (KeepBut.trans (J1 HK GW101.out) hk (.inl rfl)); replace HB := am (hb); replace HI0 := am (hi); (try clear hb); (try clear hb2); (try clear hk); (try clear hi)) | ((with_reducible refine gate_dst (N := 3) rfl ?_); refine box_event rfl (N := 3) rfl (cs := #[.int .i64 0, .int .i64 0, .int .i64 0]) (t := 25) BX ?_; intro gb106 hg w8 hbox hb; replace HB := am (below_step (K2 HB (IsS143.ge HI0.out) GE101.out) hb); have BK106 := am (hbox); have GW106 := am ((by rw [hg]; exact (keep_size (w := w) (g := g) (row := none) (J1 HK GW101.out)) : w.heap.size ≤ gb106)); have GE106 := am ((Nat.le_trans HW0.out (by rw [hg]; exact (keep_size (w := w) (g := g) (row := none) (J1 HK GW101.out)) : w.heap.size ≤ gb106) : w0.heap.size ≤ gb106)); replace HK := am (KeepBut.trans (J1 HK GW101.out) (KeepBut.of_below hb g none) (.inl rfl)); have NB101_106 := am (NL BK101 hg); have NB106_101 := am (NG BK101 hg); replace BK101 := am (BB BK101 hb); have NB0_106 := am ((by rw [hg]; exact Nat.ne_of_lt (IsS143.lt (show IsS143 w0 _ g s0_0 t105 from I143_1 HI0 NB0_101.out)) : g ≠ gb106)); have NB106_0 := am ((by rw [hg]; exact Nat.ne_of_gt (IsS143.lt (show IsS143 w0 _ g s0_0 t105 from I143_1 HI0 NB0_101.out)) : gb106 ≠ g)); replace HI0 := am (IsS143.below (I143_1 HI0 NB0_101.out) hb); clear hb hbox hg; have hnb9 := NB106_101.out; have hnc9 := NB101_106.out; have hnb10 := NB106_0.out; have hnc10 := NB0_106.out; have hcz11_0 := z0 w8 BK106.out; have hcz11_1 := z1 w8 BK106.out; have hcz11_2 := z2 w8 BK106.out; have hfz11_0 := blk_frozen BK106.out 0; have hfz11_1 := blk_frozen BK106.out 1; have hfz11_2 := blk_frozen BK106.out 2) | ((with_reducible refine gate_callee (f := 91) rfl ?_); refine goesL_ (some 7) rfl rfl Try.func91 (by kernel_rfl) rfl #[.pointer (some ⟨g, 0, none⟩), .int .i64 20] rfl MT ?_; (with_reducible refine (spec_l1Rd_pick.calls k g s0_0 t105 20 t107 t108 w0 _ ?side1 ?side2 A3.out).mono ?_); (case side1 => exact I143_2 HI0 NB0_101.out NB0_106.out); (case side2 => exact K3 HB (IsS143.ge HI0.out) GE101.out GE106.out); rintro e w12 ⟨rfl, hi, hb, hk⟩; refine ⟨_, rfl, ?_⟩; replace BK101 := am (KeepBut.blk hk (g' := gb101) (o := .cells #[.int .i64 0, .int .i64 0, .int .i64 0] 25 (0, 0)) (by (with_reducible repeat (first | refine blk_drewN ?_ _ | refine blk_drew ?_ | refine blk_alloc ?_ _)); refine blk_far ?_ NB101_106.out _; (with_reducible repeat (first | refine blk_drewN ?_ _ | refine blk_drew ?_ | refine blk_alloc ?_ _)); refine blk_far ?_ NB101_106.out _; (with_reducible repeat (first | refine blk_drewN ?_ _ | refine blk_drew ?_ | refine blk_alloc ?_ _)); refine blk_far ?_ NB101_106.out _; (with_reducible repeat (first | refine blk_drewN ?_ _ | refine blk_drew ?_ | refine blk_alloc ?_ _)); exact BK101.out) NB101_0.out (by simp)); replace BK106 := am (KeepBut.blk hk (g' := gb106) (o := .cells #[.int .i64 t102, .int .i64 t103, .int .i64 t104] 25 (0, 0)) (by (with_reducible repeat (first | refine blk_drewN ?_ _ | refine blk_drew ?_ | refine blk_alloc ?_ _)); refine blk_put (cs := #[.int .i64 t102, .int .i64 t103, .int .i64 0]) ?_ 2 _ rfl; (with_reducible repeat (first | refine blk_drewN ?_ _ | refine blk_drew ?_ | refine blk_alloc ?_ _)); refine blk_put (cs := #[.int .i64 t102, .int .i64 0, .int .i64 0]) ?_ 1 _ rfl; (with_reducible repeat (first | refine blk_drewN ?_ _ | refine blk_drew ?_ | refine blk_alloc ?_ _)); refine blk_put (cs := #[.int .i64 0, .int .i64 0, .int .i64 0]) ?_ 0 _ rfl; (with_reducible repeat (first | refine blk_drewN ?_ _ | refine blk_drew ?_ | refine blk_alloc ?_ _)); exact BK106.out) NB106_0.out (by simp)); replace HK := am (KeepBut.trans (J2 HK GW101.out GW106.out) hk (.inl rfl)); replace HB := am (hb); replace HI0 := am (hi); (try clear hb); (try clear hb2); (try clear hk); (try clear hi)) | ((with_reducible refine gate_callee (f := 105) rfl ?_); refine goesL_ (some 11) rfl rfl Try.func105 (by kernel_rfl) rfl #[.pointer (some ⟨g, 0, none⟩)] rfl MT ?_; (with_reducible refine (spec_l12AnyAddr.calls k g s0_0 t108 t109 t110 w0 _ ?side1 ?side2 A5.out).mono ?_); (case side1 => exact I143_2 HI0 NB0_101.out NB0_106.out); (case side2 => exact K3 HB (IsS143.ge HI0.out) GE101.out GE106.out); rintro e w13 ⟨rfl, hi, hb, hk⟩; refine ⟨_, rfl, ?_⟩; replace BK101 := am (KeepBut.blk hk (g' := gb101) (o := .cells #[.int .i64 0, .int .i64 0, .int .i64 0] 25 (0, 0)) (KB BK101) NB101_0.out (by simp)); replace BK106 := am (KeepBut.blk hk (g' := gb106) (o := .cells #[.int .i64 t102, .int .i64 t103, .int .i64 t104] 25 (0, 0)) (KB BK106) NB106_0.out (by simp)); replace HK := am (KeepBut.trans (J2 HK GW101.out GW106.out) hk (.inl rfl)); replace HB := am (hb); replace HI0 := am (hi); (try clear hb); (try clear hb2); (try clear hk); (try clear hi); have hcz14_0 := z0 w13 BK106.out; have hcz14_1 := z1 w13 BK106.out; have hcz14_2 := z2 w13 BK106.out; have hfz14_0 := blk_frozen BK106.out 0; have hfz14_1 := blk_frozen BK106.out 1; have hfz14_2 := blk_frozen BK106.out 2; have hnb15 := NB101_0.out; have hnc15 := NB0_101.out; have hcz16_0 := z0 w13 BK101.out; have hcz16_1 := z1 w13 BK101.out; have hcz16_2 := z2 w13 BK101.out; have hfz16_0 := blk_frozen BK101.out 0; have hfz16_1 := blk_frozen BK101.out 1; have hfz16_2 := blk_frozen BK101.out 2))
  refine bodyPost_ret (results_cell_row rfl _ _ gb101 25 #[.int .i64 t109, .int .i64 t103, .int .i64 t104] (0, 0) _ rfl (by (with_reducible repeat (first | refine blk_drewN ?_ _ | refine blk_drew ?_ | refine blk_alloc ?_ _)); refine blk_put (cs := #[.int .i64 t109, .int .i64 t103, .int .i64 0]) ?_ 2 _ rfl; (with_reducible repeat (first | refine blk_drewN ?_ _ | refine blk_drew ?_ | refine blk_alloc ?_ _)); refine blk_put (cs := #[.int .i64 t109, .int .i64 0, .int .i64 0]) ?_ 1 _ rfl; (with_reducible repeat (first | refine blk_drewN ?_ _ | refine blk_drew ?_ | refine blk_alloc ?_ _)); refine blk_put (cs := #[.int .i64 0, .int .i64 0, .int .i64 0]) ?_ 0 _ rfl; (with_reducible repeat (first | refine blk_drewN ?_ _ | refine blk_drew ?_ | refine blk_alloc ?_ _)); refine blk_far ?_ NB101_106.out _; (with_reducible repeat (first | refine blk_drewN ?_ _ | refine blk_drew ?_ | refine blk_alloc ?_ _)); exact BK101.out) Try.underlying25 rfl (by kernel_rfl)) rfl ?_
  exact ⟨by first | rfl | (simp [errW_none, errW_some] <;> rfl) | (simp [*, errW_none, errW_some] <;> rfl), I143_2 HI0 NB0_101.out NB0_106.out, K3 HB (IsS143.ge HI0.out) GE101.out GE106.out, J2 HK GW101.out GW106.out⟩
 ·rw [if_neg c4] at H
  have c4b0 : (t107 == 0) = false := beq_eq_false_iff_ne.mpr c4
  have c4b1 : (t107 != 0) = true := bne_iff_ne.mpr c4
  by_cases c17 : t107 = 1
  ·rw [if_pos c17] at H
   have c17b0 : (t107 == 1) = true := beq_iff_eq.mpr c17
   have c17b1 : (t107 != 1) = false := bne_eq_false_iff_eq.mpr c17
   clear c17
   obtain ⟨y111, hy111⟩ : ∃ y_ : List Int, y_ = (([(-1), 65536] : List Int)) := ⟨_, rfl⟩
   replace H : ((spec_l1Rd_one.f k s0_0 t108 y111).bind fun bt114 => (some (t102, t103, bt114.1, bt114.2))) = some (r1, r2, r3, r4) := by first | (rw [hy111]; with_reducible exact H) | (have H2_ := (Option.bind_some _ _).symm.trans H; rw [hy111]; with_reducible exact H2_) | (have H2_ := (Option.bind_some _ _).symm.trans H; with_reducible exact H2_) | with_reducible exact H | (rw [hy111]; exact H) | exact H
   have Ny111 := Aside0.mk hy111
   clear hy111
   replace H := Option.bind_eq_some_iff.mp H
   obtain ⟨⟨t114, t115⟩, A180, H⟩ := H
   replace H : (some (t102, t103, t114, t115)) = some (r1, r2, r3, r4) := H
   have A18 := Aside0.mk A180
   clear A180
   simp only [Option.some.injEq, Prod.mk.injEq] at H
   obtain ⟨rfl, rfl, rfl, rfl⟩ := H
   go_enter Try.func72, Try.ntmps72
   go_wp2_with (first | ((with_reducible refine gate_dst (N := 2) rfl ?_); refine box_event rfl (N := 2) rfl (cs := #[.int .i64 0, .int .i64 0, .int .i64 0]) (t := 25) BX ?_; intro gb101 hg w19 hbox hb; replace HB := am (below_step (K1 HB (IsS143.ge HI0.out)) hb); have BK101 := am (hbox); have GW101 := am ((by rw [hg]; exact (keep_size (w := w) (g := g) (row := none) (J0 HK)) : w.heap.size ≤ gb101)); have GE101 := am ((Nat.le_trans HW0.out (by rw [hg]; exact (keep_size (w := w) (g := g) (row := none) (J0 HK)) : w.heap.size ≤ gb101) : w0.heap.size ≤ gb101)); replace HK := am (KeepBut.trans (J0 HK) (KeepBut.of_below hb g none) (.inl rfl)); have NB0_101 := am ((by rw [hg]; exact Nat.ne_of_lt (IsS143.lt (show IsS143 w0 _ g s0_0 s0_1 from I143_0 HI0)) : g ≠ gb101)); have NB101_0 := am ((by rw [hg]; exact Nat.ne_of_gt (IsS143.lt (show IsS143 w0 _ g s0_0 s0_1 from I143_0 HI0)) : gb101 ≠ g)); replace HI0 := am (IsS143.below (I143_0 HI0) hb); clear hb hbox hg) | ((with_reducible refine gate_callee (f := 124) rfl ?_); refine goesL_ (some 5) rfl rfl Try.func124 (by kernel_rfl) rfl #[.pointer (some ⟨g, 0, none⟩)] rfl MT ?_; (with_reducible refine (spec_l12Call.calls k g s0_0 s0_1 t102 t103 t104 t105 w0 _ ?side1 ?side2 A2.out).mono ?_); (case side1 => exact I143_1 HI0 NB0_101.out); (case side2 => exact K2 HB (IsS143.ge HI0.out) GE101.out); rintro e w20 ⟨rfl, hi, hb, hk⟩; refine ⟨_, rfl, ?_⟩; replace BK101 := am (KeepBut.blk hk (g' := gb101) (o := .cells #[.int .i64 0, .int .i64 0, .int .i64 0] 25 (0, 0)) (KB BK101) NB101_0.out (by simp)); replace HK := am (KeepBut.trans (J1 HK GW101.out) hk (.inl rfl)); replace HB := am (hb); replace HI0 := am (hi); (try clear hb); (try clear hb2); (try clear hk); (try clear hi)) | ((with_reducible refine gate_dst (N := 3) rfl ?_); refine box_event rfl (N := 3) rfl (cs := #[.int .i64 0, .int .i64 0, .int .i64 0]) (t := 25) BX ?_; intro gb106 hg w21 hbox hb; replace HB := am (below_step (K2 HB (IsS143.ge HI0.out) GE101.out) hb); have BK106 := am (hbox); have GW106 := am ((by rw [hg]; exact (keep_size (w := w) (g := g) (row := none) (J1 HK GW101.out)) : w.heap.size ≤ gb106)); have GE106 := am ((Nat.le_trans HW0.out (by rw [hg]; exact (keep_size (w := w) (g := g) (row := none) (J1 HK GW101.out)) : w.heap.size ≤ gb106) : w0.heap.size ≤ gb106)); replace HK := am (KeepBut.trans (J1 HK GW101.out) (KeepBut.of_below hb g none) (.inl rfl)); have NB101_106 := am (NL BK101 hg); have NB106_101 := am (NG BK101 hg); replace BK101 := am (BB BK101 hb); have NB0_106 := am ((by rw [hg]; exact Nat.ne_of_lt (IsS143.lt (show IsS143 w0 _ g s0_0 t105 from I143_1 HI0 NB0_101.out)) : g ≠ gb106)); have NB106_0 := am ((by rw [hg]; exact Nat.ne_of_gt (IsS143.lt (show IsS143 w0 _ g s0_0 t105 from I143_1 HI0 NB0_101.out)) : gb106 ≠ g)); replace HI0 := am (IsS143.below (I143_1 HI0 NB0_101.out) hb); clear hb hbox hg; have hnb22 := NB106_101.out; have hnc22 := NB101_106.out; have hnb23 := NB106_0.out; have hnc23 := NB0_106.out; have hcz24_0 := z0 w21 BK106.out; have hcz24_1 := z1 w21 BK106.out; have hcz24_2 := z2 w21 BK106.out; have hfz24_0 := blk_frozen BK106.out 0; have hfz24_1 := blk_frozen BK106.out 1; have hfz24_2 := blk_frozen BK106.out 2) | ((with_reducible refine gate_callee (f := 91) rfl ?_); refine goesL_ (some 7) rfl rfl Try.func91 (by kernel_rfl) rfl #[.pointer (some ⟨g, 0, none⟩), .int .i64 20] rfl MT ?_; (with_reducible refine (spec_l1Rd_pick.calls k g s0_0 t105 20 t107 t108 w0 _ ?side1 ?side2 A3.out).mono ?_); (case side1 => exact I143_2 HI0 NB0_101.out NB0_106.out); (case side2 => exact K3 HB (IsS143.ge HI0.out) GE101.out GE106.out); rintro e w25 ⟨rfl, hi, hb, hk⟩; refine ⟨_, rfl, ?_⟩; replace BK101 := am (KeepBut.blk hk (g' := gb101) (o := .cells #[.int .i64 0, .int .i64 0, .int .i64 0] 25 (0, 0)) (by (with_reducible repeat (first | refine blk_drewN ?_ _ | refine blk_drew ?_ | refine blk_alloc ?_ _)); refine blk_far ?_ NB101_106.out _; (with_reducible repeat (first | refine blk_drewN ?_ _ | refine blk_drew ?_ | refine blk_alloc ?_ _)); refine blk_far ?_ NB101_106.out _; (with_reducible repeat (first | refine blk_drewN ?_ _ | refine blk_drew ?_ | refine blk_alloc ?_ _)); refine blk_far ?_ NB101_106.out _; (with_reducible repeat (first | refine blk_drewN ?_ _ | refine blk_drew ?_ | refine blk_alloc ?_ _)); exact BK101.out) NB101_0.out (by simp)); replace BK106 := am (KeepBut.blk hk (g' := gb106) (o := .cells #[.int .i64 t102, .int .i64 t103, .int .i64 t104] 25 (0, 0)) (by (with_reducible repeat (first | refine blk_drewN ?_ _ | refine blk_drew ?_ | refine blk_alloc ?_ _)); refine blk_put (cs := #[.int .i64 t102, .int .i64 t103, .int .i64 0]) ?_ 2 _ rfl; (with_reducible repeat (first | refine blk_drewN ?_ _ | refine blk_drew ?_ | refine blk_alloc ?_ _)); refine blk_put (cs := #[.int .i64 t102, .int .i64 0, .int .i64 0]) ?_ 1 _ rfl; (with_reducible repeat (first | refine blk_drewN ?_ _ | refine blk_drew ?_ | refine blk_alloc ?_ _)); refine blk_put (cs := #[.int .i64 0, .int .i64 0, .int .i64 0]) ?_ 0 _ rfl; (with_reducible repeat (first | refine blk_drewN ?_ _ | refine blk_drew ?_ | refine blk_alloc ?_ _)); exact BK106.out) NB106_0.out (by simp)); replace HK := am (KeepBut.trans (J2 HK GW101.out GW106.out) hk (.inl rfl)); replace HB := am (hb); replace HI0 := am (hi); (try clear hb); (try clear hb2); (try clear hk); (try clear hi)) | ((with_reducible refine gate_dst (N := 16) rfl ?_); refine Kd.R_lit (Kd.int .i64) _ 3 ?hg (N := 16) ?hd (xs := ([(-1), 65536] : List Int)) (inner := [.int .i64 (-1), .int .i64 65536]) (ok := fun _ => True) (okp := fun _ => True) ?hr ?hp (fun _ hk => hk) trivial (Below.refl _ _) (Nat.le_refl _) (by simp) ?_; (case hd => rfl); (case hg => rfl); (case hr => first | (go_simp; done) | (go_simp; rfl)); (case hp => exact (Reps.one (show Kd.M (Kd.int .i64) _ _ _ (-1) [.int .i64 (-1)] from rfl) (Reps.one (show Kd.M (Kd.int .i64) _ _ _ 65536 [.int .i64 65536] from rfl) (Reps.none _ _)))); intro v112 w26 ho27 hb hg_ hnew_; clear hg_ hnew_; (first | rw [← Ny111.out] at ho27 | (simp only [Int.reduceToNat] at ho27; rw [← Ny111.out] at ho27)); have HO113 := am (Kd.R_lower ho27 (keep_size (w := w) (g := g) (row := none) (J2 HK GW101.out GW106.out))); replace BK101 := am (BB BK101 hb); replace BK106 := am (BB BK106 hb); replace HK := am (KeepBut.trans (J2 HK GW101.out GW106.out) (KeepBut.of_below hb g none) (.inl rfl)); replace HB := am (below_step (K3 HB (IsS143.ge HI0.out) GE101.out GE106.out) hb); replace HI0 := am (IsS143.below (I143_2 HI0 NB0_101.out NB0_106.out) hb); clear hb ho27; obtain ⟨Ao28, co28, eo28⟩ := Kd.R_slice HO113.out; subst eo28) | ((with_reducible refine gate_callee (f := 95) rfl ?_); refine goesL_ (some 17) rfl rfl Try.func95 (by kernel_rfl) rfl #[.pointer (some ⟨g, 0, none⟩), .slice Ao28 y111.length co28] rfl MT ?_; (with_reducible refine (spec_l1Rd_one.calls k g s0_0 t108 _ _ y111 t114 t115 w0 _ ?side1 ?side2 ?side3 ?side4 ?side5 A18.out).mono ?_); (case side1 => exact I143_2 HI0 NB0_101.out NB0_106.out); (case side2 => exact K3 HB (IsS143.ge HI0.out) GE101.out GE106.out); (case side3 => exact KC (Kd.R_reads' HO113.out).2.2); (case side4 => exact (Kd.R_reads' HO113.out).2.1); (case side5 => exact far_slice (IsS143.own_ne HI0.out HO113.out (by decide))); rintro e w29 ⟨rfl, hi, hb, hk⟩; refine ⟨_, rfl, ?_⟩; replace BK101 := am (KeepBut.blk hk (g' := gb101) (o := .cells #[.int .i64 0, .int .i64 0, .int .i64 0] 25 (0, 0)) (KB BK101) NB101_0.out (by simp)); replace BK106 := am (KeepBut.blk hk (g' := gb106) (o := .cells #[.int .i64 t102, .int .i64 t103, .int .i64 t104] 25 (0, 0)) (KB BK106) NB106_0.out (by simp)); replace HO113 := am (Kd.R_mono (Kd.R_keep (IsS143.apart (show IsS143 w0 _ g s0_0 t108 from I143_2 HI0 NB0_101.out NB0_106.out) (KR HO113) (by decide)) hk (fun _ h => h.2)) (fun _ h => h.1)); replace HK := am (KeepBut.trans (J2 HK GW101.out GW106.out) hk (.inl rfl)); replace HB := am (hb); replace HI0 := am (hi); (try clear hb); (try clear hb2); (try clear hk); (try clear hi); have hcz30_0 := z0 w29 BK106.out; have hcz30_1 := z1 w29 BK106.out; have hcz30_2 := z2 w29 BK106.out; have hfz30_0 := blk_frozen BK106.out 0; have hfz30_1 := blk_frozen BK106.out 1; have hfz30_2 := blk_frozen BK106.out 2; have hnb31 := NB101_0.out; have hnc31 := NB0_101.out; have hcz32_0 := z0 w29 BK101.out; have hcz32_1 := z1 w29 BK101.out; have hcz32_2 := z2 w29 BK101.out; have hfz32_0 := blk_frozen BK101.out 0; have hfz32_1 := blk_frozen BK101.out 1; have hfz32_2 := blk_frozen BK101.out 2))
   refine bodyPost_ret (results_cell_row rfl _ _ gb101 25 #[.int .i64 t102, .int .i64 t103, .int .i64 t114] (0, 0) _ rfl (by (with_reducible repeat (first | refine blk_drewN ?_ _ | refine blk_drew ?_ | refine blk_alloc ?_ _)); refine blk_put (cs := #[.int .i64 t102, .int .i64 t103, .int .i64 0]) ?_ 2 _ rfl; (with_reducible repeat (first | refine blk_drewN ?_ _ | refine blk_drew ?_ | refine blk_alloc ?_ _)); refine blk_put (cs := #[.int .i64 t102, .int .i64 0, .int .i64 0]) ?_ 1 _ rfl; (with_reducible repeat (first | refine blk_drewN ?_ _ | refine blk_drew ?_ | refine blk_alloc ?_ _)); refine blk_put (cs := #[.int .i64 0, .int .i64 0, .int .i64 0]) ?_ 0 _ rfl; (with_reducible repeat (first | refine blk_drewN ?_ _ | refine blk_drew ?_ | refine blk_alloc ?_ _)); refine blk_far ?_ NB101_106.out _; (with_reducible repeat (first | refine blk_drewN ?_ _ | refine blk_drew ?_ | refine blk_alloc ?_ _)); exact BK101.out) Try.underlying25 rfl (by kernel_rfl)) rfl ?_
   exact ⟨by first | rfl | (simp [errW_none, errW_some] <;> rfl) | (simp [*, errW_none, errW_some] <;> rfl), I143_2 HI0 NB0_101.out NB0_106.out, K3 HB (IsS143.ge HI0.out) GE101.out GE106.out, J2 HK GW101.out GW106.out⟩
  ·rw [if_neg c17] at H
   have c17b0 : (t107 == 1) = false := beq_eq_false_iff_ne.mpr c17
   have c17b1 : (t107 != 1) = true := bne_iff_ne.mpr c17
   simp only [Option.some.injEq, Prod.mk.injEq] at H
   obtain ⟨rfl, rfl, rfl, rfl⟩ := H
   go_enter Try.func72, Try.ntmps72
   go_wp2_with (first | ((with_reducible refine gate_dst (N := 2) rfl ?_); refine box_event rfl (N := 2) rfl (cs := #[.int .i64 0, .int .i64 0, .int .i64 0]) (t := 25) BX ?_; intro gb101 hg w33 hbox hb; replace HB := am (below_step (K1 HB (IsS143.ge HI0.out)) hb); have BK101 := am (hbox); have GW101 := am ((by rw [hg]; exact (keep_size (w := w) (g := g) (row := none) (J0 HK)) : w.heap.size ≤ gb101)); have GE101 := am ((Nat.le_trans HW0.out (by rw [hg]; exact (keep_size (w := w) (g := g) (row := none) (J0 HK)) : w.heap.size ≤ gb101) : w0.heap.size ≤ gb101)); replace HK := am (KeepBut.trans (J0 HK) (KeepBut.of_below hb g none) (.inl rfl)); have NB0_101 := am ((by rw [hg]; exact Nat.ne_of_lt (IsS143.lt (show IsS143 w0 _ g s0_0 s0_1 from I143_0 HI0)) : g ≠ gb101)); have NB101_0 := am ((by rw [hg]; exact Nat.ne_of_gt (IsS143.lt (show IsS143 w0 _ g s0_0 s0_1 from I143_0 HI0)) : gb101 ≠ g)); replace HI0 := am (IsS143.below (I143_0 HI0) hb); clear hb hbox hg) | ((with_reducible refine gate_callee (f := 124) rfl ?_); refine goesL_ (some 5) rfl rfl Try.func124 (by kernel_rfl) rfl #[.pointer (some ⟨g, 0, none⟩)] rfl MT ?_; (with_reducible refine (spec_l12Call.calls k g s0_0 s0_1 t102 t103 t104 t105 w0 _ ?side1 ?side2 A2.out).mono ?_); (case side1 => exact I143_1 HI0 NB0_101.out); (case side2 => exact K2 HB (IsS143.ge HI0.out) GE101.out); rintro e w34 ⟨rfl, hi, hb, hk⟩; refine ⟨_, rfl, ?_⟩; replace BK101 := am (KeepBut.blk hk (g' := gb101) (o := .cells #[.int .i64 0, .int .i64 0, .int .i64 0] 25 (0, 0)) (KB BK101) NB101_0.out (by simp)); replace HK := am (KeepBut.trans (J1 HK GW101.out) hk (.inl rfl)); replace HB := am (hb); replace HI0 := am (hi); (try clear hb); (try clear hb2); (try clear hk); (try clear hi)) | ((with_reducible refine gate_dst (N := 3) rfl ?_); refine box_event rfl (N := 3) rfl (cs := #[.int .i64 0, .int .i64 0, .int .i64 0]) (t := 25) BX ?_; intro gb106 hg w35 hbox hb; replace HB := am (below_step (K2 HB (IsS143.ge HI0.out) GE101.out) hb); have BK106 := am (hbox); have GW106 := am ((by rw [hg]; exact (keep_size (w := w) (g := g) (row := none) (J1 HK GW101.out)) : w.heap.size ≤ gb106)); have GE106 := am ((Nat.le_trans HW0.out (by rw [hg]; exact (keep_size (w := w) (g := g) (row := none) (J1 HK GW101.out)) : w.heap.size ≤ gb106) : w0.heap.size ≤ gb106)); replace HK := am (KeepBut.trans (J1 HK GW101.out) (KeepBut.of_below hb g none) (.inl rfl)); have NB101_106 := am (NL BK101 hg); have NB106_101 := am (NG BK101 hg); replace BK101 := am (BB BK101 hb); have NB0_106 := am ((by rw [hg]; exact Nat.ne_of_lt (IsS143.lt (show IsS143 w0 _ g s0_0 t105 from I143_1 HI0 NB0_101.out)) : g ≠ gb106)); have NB106_0 := am ((by rw [hg]; exact Nat.ne_of_gt (IsS143.lt (show IsS143 w0 _ g s0_0 t105 from I143_1 HI0 NB0_101.out)) : gb106 ≠ g)); replace HI0 := am (IsS143.below (I143_1 HI0 NB0_101.out) hb); clear hb hbox hg; have hnb36 := NB106_101.out; have hnc36 := NB101_106.out; have hnb37 := NB106_0.out; have hnc37 := NB0_106.out; have hcz38_0 := z0 w35 BK106.out; have hcz38_1 := z1 w35 BK106.out; have hcz38_2 := z2 w35 BK106.out; have hfz38_0 := blk_frozen BK106.out 0; have hfz38_1 := blk_frozen BK106.out 1; have hfz38_2 := blk_frozen BK106.out 2) | ((with_reducible refine gate_callee (f := 91) rfl ?_); refine goesL_ (some 7) rfl rfl Try.func91 (by kernel_rfl) rfl #[.pointer (some ⟨g, 0, none⟩), .int .i64 20] rfl MT ?_; (with_reducible refine (spec_l1Rd_pick.calls k g s0_0 t105 20 t107 t108 w0 _ ?side1 ?side2 A3.out).mono ?_); (case side1 => exact I143_2 HI0 NB0_101.out NB0_106.out); (case side2 => exact K3 HB (IsS143.ge HI0.out) GE101.out GE106.out); rintro e w39 ⟨rfl, hi, hb, hk⟩; refine ⟨_, rfl, ?_⟩; replace BK101 := am (KeepBut.blk hk (g' := gb101) (o := .cells #[.int .i64 0, .int .i64 0, .int .i64 0] 25 (0, 0)) (by (with_reducible repeat (first | refine blk_drewN ?_ _ | refine blk_drew ?_ | refine blk_alloc ?_ _)); refine blk_far ?_ NB101_106.out _; (with_reducible repeat (first | refine blk_drewN ?_ _ | refine blk_drew ?_ | refine blk_alloc ?_ _)); refine blk_far ?_ NB101_106.out _; (with_reducible repeat (first | refine blk_drewN ?_ _ | refine blk_drew ?_ | refine blk_alloc ?_ _)); refine blk_far ?_ NB101_106.out _; (with_reducible repeat (first | refine blk_drewN ?_ _ | refine blk_drew ?_ | refine blk_alloc ?_ _)); exact BK101.out) NB101_0.out (by simp)); replace BK106 := am (KeepBut.blk hk (g' := gb106) (o := .cells #[.int .i64 t102, .int .i64 t103, .int .i64 t104] 25 (0, 0)) (by (with_reducible repeat (first | refine blk_drewN ?_ _ | refine blk_drew ?_ | refine blk_alloc ?_ _)); refine blk_put (cs := #[.int .i64 t102, .int .i64 t103, .int .i64 0]) ?_ 2 _ rfl; (with_reducible repeat (first | refine blk_drewN ?_ _ | refine blk_drew ?_ | refine blk_alloc ?_ _)); refine blk_put (cs := #[.int .i64 t102, .int .i64 0, .int .i64 0]) ?_ 1 _ rfl; (with_reducible repeat (first | refine blk_drewN ?_ _ | refine blk_drew ?_ | refine blk_alloc ?_ _)); refine blk_put (cs := #[.int .i64 0, .int .i64 0, .int .i64 0]) ?_ 0 _ rfl; (with_reducible repeat (first | refine blk_drewN ?_ _ | refine blk_drew ?_ | refine blk_alloc ?_ _)); exact BK106.out) NB106_0.out (by simp)); replace HK := am (KeepBut.trans (J2 HK GW101.out GW106.out) hk (.inl rfl)); replace HB := am (hb); replace HI0 := am (hi); (try clear hb); (try clear hb2); (try clear hk); (try clear hi); have hcz40_0 := z0 w39 BK106.out; have hcz40_1 := z1 w39 BK106.out; have hcz40_2 := z2 w39 BK106.out; have hfz40_0 := blk_frozen BK106.out 0; have hfz40_1 := blk_frozen BK106.out 1; have hfz40_2 := blk_frozen BK106.out 2; have hnb41 := NB101_0.out; have hnc41 := NB0_101.out; have hcz42_0 := z0 w39 BK101.out; have hcz42_1 := z1 w39 BK101.out; have hcz42_2 := z2 w39 BK101.out; have hfz42_0 := blk_frozen BK101.out 0; have hfz42_1 := blk_frozen BK101.out 1; have hfz42_2 := blk_frozen BK101.out 2))
   refine bodyPost_ret (results_cell_row rfl _ _ gb101 25 #[.int .i64 t102, .int .i64 t103, .int .i64 t104] (0, 0) _ rfl (by (with_reducible repeat (first | refine blk_drewN ?_ _ | refine blk_drew ?_ | refine blk_alloc ?_ _)); refine blk_put (cs := #[.int .i64 t102, .int .i64 t103, .int .i64 0]) ?_ 2 _ rfl; (with_reducible repeat (first | refine blk_drewN ?_ _ | refine blk_drew ?_ | refine blk_alloc ?_ _)); refine blk_put (cs := #[.int .i64 t102, .int .i64 0, .int .i64 0]) ?_ 1 _ rfl; (with_reducible repeat (first | refine blk_drewN ?_ _ | refine blk_drew ?_ | refine blk_alloc ?_ _)); refine blk_put (cs := #[.int .i64 0, .int .i64 0, .int .i64 0]) ?_ 0 _ rfl; (with_reducible repeat (first | refine blk_drewN ?_ _ | refine blk_drew ?_ | refine blk_alloc ?_ _)); exact BK101.out) Try.underlying25 rfl (by kernel_rfl)) rfl ?_
   exact ⟨by first | rfl | (simp [errW_none, errW_some] <;> rfl) | (simp [*, errW_none, errW_some] <;> rfl), I143_2 HI0 NB0_101.out NB0_106.out, K3 HB (IsS143.ge HI0.out) GE101.out GE106.out, J2 HK GW101.out GW106.out⟩
end Go.Proofs.Ytioghacieopbdaa.PAll
end
section
namespace Go.Proofs.Ytioghacieopbdaa.PAll
open Go.RowKit Go.Proofs.YtioghacieopbdaaW.PrintWords Go.Proofs.YtioghacieopbdaaW.PrintLast Go.Proofs.YtioghacieopbdaaW.PrintMore
attribute [local go_sem] max2_int min2_int max_two min_two max_three min_three max_four min_four   -- for this text's walks alone
set_option linter.unusedVariables false
set_option linter.unusedSimpArgs false
def slices_Clone_Seen.f (l0 : List (S108)) : Option (List (S108)) := if l0.length < 4398046511104 then some l0 else none
set_option maxHeartbeats 8000000 in
set_option maxRecDepth 100000 in
theorem slices_Clone_Seen.calls (A0 : Option Addr) (c0 : Nat) (l0 : List (S108)) (r : List (S108)) (w : World) (hr0 : Kd.C k108 w A0 l0.length l0) (hc0 : l0.length ≤ c0) (h : slices_Clone_Seen.f l0 = some r) :
  Calls Try.prog 92 #[.slice A0 l0.length c0] w fun e w' => ∃ v0_ : Value, e = .returned (v0_) ∧ Kd.R k108 108 w' w.heap.size (fun _ => True) v0_ r ∧ Below w.heap.size w w' := by
 have hlim : l0.length < 4398046511104 ∧ l0 = r := by
  unfold slices_Clone_Seen.f at h
  by_cases c : l0.length < 4398046511104
  ·rw [if_pos c] at h; exact ⟨c, Option.some.inj h⟩
  ·rw [if_neg c] at h; cases h
 obtain ⟨hlim, rfl⟩ := hlim
 have HL := Aside0.mk hlim
 have q22 : ∀ (w : World) (a : Option Addr) (n c : Nat), (binOp .eql 44 (.slice a n c) (.slice none 0 0)).run Try.prog w = .ok (.bool a.isNone) w := fun w a n c => Go.run_eql_slice_nil w _ _ a n c Try.underlying44
 cases A0 with
 | none =>
  have hz : l0 = [] := by
   cases l0 with
   | nil => rfl
   | cons x l => obtain ⟨ad, e, _⟩ := hr0.2.2 (by simp); cases e
  subst hz
  clear hr0 hc0 h hlim
  go_enter Try.func92, Try.ntmps92
  go_wp2
  go_ret
  exact ⟨_, rfl, Kd.R_nil _ _ _ _ _, Below.refl _ _⟩
 | some a =>
  have HR0 := Aside0.mk hr0
  have HB := am (Below.refl w.heap.size w)
  clear hr0 hc0 h hlim
  go_enter Try.func92, Try.ntmps92
  go_wp2_with (first | ((with_reducible refine gate_dst (N := 5) rfl ?_); refine Kd.R_lit k108 _ 108 ?hg (N := 5) ?hd (xs := ([] : List (S108))) (inner := []) (ok := fun _ => True) (okp := fun _ => True) ?hr ?hp (fun _ hk => hk) trivial (Below.refl _ _) (Nat.le_refl _) (by simp) ?_; (case hd => rfl); (case hg => rfl); (case hr => first | (go_simp; done) | (go_simp; rfl)); (case hp => exact (Reps.none _ _)); intro v102 w3 ho4 hb hg_ hnew_; clear hg_ hnew_; have HO103 := am (Kd.R_lower ho4 (below_size (KL HB))); replace HB := am (below_step (KL HB) hb); clear hb ho4) | ((with_reducible refine gate_builtin (b := .append) (xs := #[.tmp 5, .tmp 6]) rfl ?_); at_builtin; refine Kd.R_append_rows k108 (w0 := w) w.heap.size rfl (.tmp 5) (.tmp 6) 44 108 (.agg #[(.int .i64 0), (.int .i64 0), (.int .i64 0), (.int .i64 0)]) 32 rfl Try.underlying44 info108 rfl (by decide) (by omega) v102 [] l0 _ _ _ (fun _ => True) (fun _ => False) rfl rfl ?aO ?aR (fun _ _ h => h) (fun _ h => h.elim) ?aF ?aB ?aS ?aL ?_; (case aR => exact KC (Kd.C_below HR0.out HB.out)); (case aB => exact (KL HB)); (case aF => exact (fun _ _ => trivial)); (case aO => exact (KR HO103)); (case aS => exact (below_size (KL HB))); (case aL => have := HL.out; simp only [List.length_nil]; omega); intro v105 w5 ho hb hg hat; rw [List.nil_append] at ho; replace HB := am (hb); have HO106 := am (ho); clear HO103; clear ho hb hg hat))
  go_ret
  exact ⟨_, rfl, by (with_reducible repeat (first | apply Kd.R_alloc | apply Kd.R_drewN | apply Kd.R_drew)); exact HO106.out, KL HB⟩
end Go.Proofs.Ytioghacieopbdaa.PAll
end
section
namespace Go.Proofs.Ytioghacieopbdaa.PAll
open Go.RowKit Go.Proofs.YtioghacieopbdaaW.PrintWords Go.Proofs.YtioghacieopbdaaW.PrintLast Go.Proofs.YtioghacieopbdaaW.PrintMore
attribute [local go_sem] max2_int min2_int max_two min_two max_three min_three max_four min_four   -- for this text's walks alone
set_option linter.unusedVariables false
set_option linter.unusedSimpArgs false
attribute [local go_sem high] eqA108
mutual
def laws_ovCache.j0 : Nat → Bool → Int → List (S108) → Int → List (S108) → Option (Bool)
 | 0, _, _, _, _, _ => none
 | k + 1, x19, x102000, x102001, x103000, x103001 => if x19 = true then (some false) else (laws_ovCache.l0 k 0 x102000 x102001 x103000 x103001)
def laws_ovCache.l0 : Nat → Int → Int → List (S108) → Int → List (S108) → Option (Bool)
 | 0, _, _, _, _, _ => none
 | k + 1, x5, x102000, x102001, x103000, x103001 => if x5 < (x102001.length : Int) then (if 0 ≤ x5 then (if x5 < (x103001.length : Int) then (if ((!(((rd_T108 x102001 x5).f0.f0) == ((rd_T108 x103001 x5).f0.f0)) || (!(((rd_T108 x102001 x5).f0.f1) == ((rd_T108 x103001 x5).f0.f1)) || (!(((rd_T108 x102001 x5).f0.f2) == ((rd_T108 x103001 x5).f0.f2))))) || (!(((rd_T108 x102001 x5).f1) == ((rd_T108 x103001 x5).f1)))) = true then (some false) else (laws_ovCache.l0 k (wrap64 (x5 + 1)) x102000 x102001 x103000 x103001)) else (none)) else (none)) else (some true)
end
def laws_ovCache.f (k : Nat) (a0_0 : Int) (l0_1 : List (S108)) (a1_0 : Int) (l1_1 : List (S108)) : Option (Bool) := if a0_0 = a1_0 then (laws_ovCache.j0 k ((l0_1.length : Int) != (l1_1.length : Int)) a0_0 l0_1 a1_0 l1_1) else (laws_ovCache.j0 k true a0_0 l0_1 a1_0 l1_1)
set_option maxHeartbeats 8000000 in
set_option maxRecDepth 100000 in
theorem laws_ovCache.calls (k : Nat) (a0_0 : Int) (A0_1 : Option Addr) (c0_1 : Nat) (l0_1 : List (S108)) (a1_0 : Int) (A1_1 : Option Addr) (c1_1 : Nat) (l1_1 : List (S108)) (r : Bool) (w : World) (hr0_1 : Kd.C k108 w A0_1 l0_1.length l0_1) (hc0_1 : l0_1.length ≤ c0_1) (hr1_1 : Kd.C k108 w A1_1 l1_1.length l1_1) (hc1_1 : l1_1.length ≤ c1_1) (h : laws_ovCache.f k a0_0 l0_1 a1_0 l1_1 = some r) :
  Calls Try.prog 32 #[.agg #[.int .i64 a0_0, .slice A0_1 l0_1.length c0_1], .agg #[.int .i64 a1_0, .slice A1_1 l1_1.length c1_1]] w fun e w' => e = .returned (.bool r) ∧ Below w.heap.size w w' := by
 have hu46 := Try.underlying46
 have hu108 := Try.underlying108
 have HR0_1 := Aside0.mk hr0_1
 have HC0_1 := Aside0.mk hc0_1
 clear hr0_1 hc0_1
 have HR1_1 := Aside0.mk hr1_1
 have HC1_1 := Aside0.mk hc1_1
 clear hr1_1 hc1_1
 have HB := am (Below.refl w.heap.size w)
 have H : (if a0_0 = a1_0 then (laws_ovCache.j0 k ((l0_1.length : Int) != (l1_1.length : Int)) a0_0 l0_1 a1_0 l1_1) else (laws_ovCache.j0 k true a0_0 l0_1 a1_0 l1_1)) = some r := h
 clear h
 have HC3 := Aside0.mk H
 clear H
 go_enter Try.func32, Try.ntmps32
 go_upto_region 1 with (first | ((with_reducible refine gate_dst (N := 2) rfl ?_); (try (refine gate_guard (by rfl) ?_; dsimp only)); refine box_event rfl (N := 2) rfl (cs := #[.int .i64 a0_0, .slice A0_1 l0_1.length c0_1]) (t := 46) BX ?_; intro gb101 hg w4 hbox hb; have BK101 := am (hbox); have GW101 := am ((GL hg (below_size (KL HB)) : w.heap.size ≤ gb101)); have GE101 := GW101; replace HB := am (below_step (KL HB) hb); clear hb hbox hg) | ((with_reducible refine gate_dst (N := 3) rfl ?_); (try (refine gate_guard (by rfl) ?_; dsimp only)); refine box_event rfl (N := 3) rfl (cs := #[.int .i64 a1_0, .slice A1_1 l1_1.length c1_1]) (t := 46) BX ?_; intro gb102 hg w5 hbox hb; have BK102 := am (hbox); have GW102 := am ((GL hg (below_size (K1 HB GE101.out)) : w.heap.size ≤ gb102)); have GE102 := GW102; replace HB := am (below_step (K1 HB GE101.out) hb); have NB101_102 := am (NL BK101 hg); have NB102_101 := am (NG BK101 hg); replace BK101 := am (BB BK101 hb); clear hb hbox hg))
 repeat (go_quiet (first | ((with_reducible refine gate_dst (N := 2) rfl ?_); (try (refine gate_guard (by rfl) ?_; dsimp only)); refine box_event rfl (N := 2) rfl (cs := #[.int .i64 a0_0, .slice A0_1 l0_1.length c0_1]) (t := 46) BX ?_; intro gb101 hg w4 hbox hb; have BK101 := am (hbox); have GW101 := am ((GL hg (below_size (KL HB)) : w.heap.size ≤ gb101)); have GE101 := GW101; replace HB := am (below_step (KL HB) hb); clear hb hbox hg) | ((with_reducible refine gate_dst (N := 3) rfl ?_); (try (refine gate_guard (by rfl) ?_; dsimp only)); refine box_event rfl (N := 3) rfl (cs := #[.int .i64 a1_0, .slice A1_1 l1_1.length c1_1]) (t := 46) BX ?_; intro gb102 hg w5 hbox hb; have BK102 := am (hbox); have GW102 := am ((GL hg (below_size (K1 HB GE101.out)) : w.heap.size ≤ gb102)); have GE102 := GW102; replace HB := am (below_step (K1 HB GE101.out) hb); have NB101_102 := am (NL BK101 hg); have NB102_101 := am (NG BK101 hg); replace BK101 := am (BB BK101 hb); clear hb hbox hg)); go_upto_region 1 with (first | ((with_reducible refine gate_dst (N := 2) rfl ?_); (try (refine gate_guard (by rfl) ?_; dsimp only)); refine box_event rfl (N := 2) rfl (cs := #[.int .i64 a0_0, .slice A0_1 l0_1.length c0_1]) (t := 46) BX ?_; intro gb101 hg w4 hbox hb; have BK101 := am (hbox); have GW101 := am ((GL hg (below_size (KL HB)) : w.heap.size ≤ gb101)); have GE101 := GW101; replace HB := am (below_step (KL HB) hb); clear hb hbox hg) | ((with_reducible refine gate_dst (N := 3) rfl ?_); (try (refine gate_guard (by rfl) ?_; dsimp only)); refine box_event rfl (N := 3) rfl (cs := #[.int .i64 a1_0, .slice A1_1 l1_1.length c1_1]) (t := 46) BX ?_; intro gb102 hg w5 hbox hb; have BK102 := am (hbox); have GW102 := am ((GL hg (below_size (K1 HB GE101.out)) : w.heap.size ≤ gb102)); have GE102 := GW102; replace HB := am (below_step (K1 HB GE101.out) hb); have NB101_102 := am (NL BK101 hg); have NB102_101 := am (NG BK101 hg); replace BK101 := am (BB BK101 hb); clear hb hbox hg)))
 (try simp only [Act.put, List.setIfInBounds_toArray, List.set_cons_zero, List.set_cons_succ])
 go_cut [19] (fun v19 wc => ∃ (kq : Nat) (x19_2 : Bool), v19 = .bool x19_2 ∧ Aside0 (laws_ovCache.j0 kq x19_2 a0_0 l0_1 a1_0 l1_1 = some r) ∧ Aside0 (kq ≤ k) ∧ Aside0 (wc.heap[gb101]? = some (.cells #[.int .i64 a0_0, (.slice A0_1 l0_1.length c0_1)] 46 (0, 0))) ∧ Aside0 (wc.heap[gb102]? = some (.cells #[.int .i64 a1_0, (.slice A1_1 l1_1.length c1_1)] 46 (0, 0))) ∧ Aside0 (Below w.heap.size w wc))
 case first =>
  have H := HC3.out
  clear HC3
  by_cases c6 : a0_0 = a1_0
  ·rw [if_pos c6] at H
   have c6b0 : (a0_0 == a1_0) = true := beq_iff_eq.mpr c6
   have c6b1 : (a0_0 != a1_0) = false := bne_eq_false_iff_eq.mpr c6
   clear c6
   (first | rw [c6b0] | (simp only [i64_w, i32_w]; rw [c6b0]) | skip)
   have H' := Aside0.mk H
   clear H
   have hnb7 := NB101_102.out
   have hnc7 := NB102_101.out
   have hcz8_0 := z0 w5 BK101.out
   have hcz8_1 := z1 w5 BK101.out
   have hfz8_0 := blk_frozen BK101.out 0
   have hfz8_1 := blk_frozen BK101.out 1
   have hcz9_0 := z0 w5 BK102.out
   have hcz9_1 := z1 w5 BK102.out
   have hfz9_0 := blk_frozen BK102.out 0
   have hfz9_1 := blk_frozen BK102.out 1
   go_wp2
   repeat (go_quiet (fail); try go_wp2)
   go_meet
   case rel => exact ⟨_, (((l0_1.length : Int) != (l1_1.length : Int))), (by first | rfl | (simp; done) | (simp [*]; done)), H', ⟨by first | omega | exact Nat.le_refl _⟩, ⟨KB BK101⟩, ⟨KB BK102⟩, ⟨K2 HB GE101.out GE102.out⟩⟩
  ·rw [if_neg c6] at H
   have c6b0 : (a0_0 == a1_0) = false := beq_eq_false_iff_ne.mpr c6
   have c6b1 : (a0_0 != a1_0) = true := bne_iff_ne.mpr c6
   (first | rw [c6b0] | (simp only [i64_w, i32_w]; rw [c6b0]) | skip)
   have H' := Aside0.mk H
   clear H
   have hnb10 := NB101_102.out
   have hnc10 := NB102_101.out
   have hcz11_0 := z0 w5 BK101.out
   have hcz11_1 := z1 w5 BK101.out
   have hfz11_0 := blk_frozen BK101.out 0
   have hfz11_1 := blk_frozen BK101.out 1
   have hcz12_0 := z0 w5 BK102.out
   have hcz12_1 := z1 w5 BK102.out
   have hfz12_0 := blk_frozen BK102.out 0
   have hfz12_1 := blk_frozen BK102.out 1
   go_wp2
   repeat (go_quiet (fail); try go_wp2)
   go_meet
   case rel => exact ⟨_, (true), (by first | rfl | (simp; done) | (simp [*]; done)), H', ⟨by first | omega | exact Nat.le_refl _⟩, ⟨KB BK101⟩, ⟨KB BK102⟩, ⟨K2 HB GE101.out GE102.out⟩⟩
 case rest =>
  clear HC3
  try clear c1
  try clear p2
  try clear c3
  try clear c6
  try clear c6b0
  try clear c6b1
  try clear c7
  try clear c10
  try clear hcz11_0
  try clear hcz11_1
  try clear hcz12_0
  try clear hcz12_1
  try clear hcz8_0
  try clear hcz8_1
  try clear hcz9_0
  try clear hcz9_1
  try clear hfz11_0
  try clear hfz11_1
  try clear hfz12_0
  try clear hfz12_1
  try clear hfz8_0
  try clear hfz8_1
  try clear hfz9_0
  try clear hfz9_1
  obtain ⟨kq, x19_2, rfl, HA, HJ2, BK101, BK102, HB⟩ := hcut
  cases kq with
  | zero => exact absurd HA.out (by simp [laws_ovCache.j0])
  | succ kj2 =>
   have H := HA.out
   clear HA
   simp only [laws_ovCache.j0] at H
   by_cases c13 : x19_2 = true
   ·subst c13
    have H1 : (some false) = some r := by rw [if_pos rfl] at H; exact H
    clear H
    have H := H1
    clear H1
    obtain rfl := Option.some.inj H
    go_wp2
    repeat (go_quiet (fail); try go_wp2)
    go_ret
    exact ⟨by first | rfl | (simp [errW_none, errW_some] <;> rfl) | (simp [*, errW_none, errW_some] <;> rfl), K2 HB GE101.out GE102.out⟩
   ·replace c13 := Bool.eq_false_iff.mpr c13
    subst c13
    have H1 : (laws_ovCache.l0 kj2 0 a0_0 l0_1 a1_0 l1_1) = some r := by rw [if_neg (show ¬ (false = true) by decide)] at H; exact H
    clear H
    have H := H1
    clear H1
    have H' := Aside0.mk H
    clear H
    go_wp2
    repeat (go_quiet (fail); try go_wp2)
    go_loopg [5] kj2 (fun kq v5 w' => ∃ (x5_2 : Int), v5 = .int .i64 x5_2 ∧ Aside0 (laws_ovCache.l0 kq x5_2 a0_0 l0_1 a1_0 l1_1 = some r) ∧ Aside0 (kq ≤ kj2) ∧ Aside0 (w'.heap[gb101]? = some (.cells #[.int .i64 a0_0, (.slice A0_1 l0_1.length c0_1)] 46 (0, 0))) ∧ Aside0 (w'.heap[gb102]? = some (.cells #[.int .i64 a1_0, (.slice A1_1 l1_1.length c1_1)] 46 (0, 0))) ∧ Aside0 (Below w.heap.size w w'))
    case atStart => exact ⟨(0), (by first | rfl | (simp; done) | (simp [*]; done)), H', ⟨Nat.le_refl _⟩, ⟨KB BK101⟩, ⟨KB BK102⟩, ⟨K2 HB GE101.out GE102.out⟩⟩
    case round =>
     clear H'
     try clear c1
     try clear p2
     try clear c3
     try clear c6
     try clear c6b0
     try clear c6b1
     try clear c7
     try clear c10
     try clear c13
     try clear hcz11_0
     try clear hcz11_1
     try clear hcz12_0
     try clear hcz12_1
     try clear hcz8_0
     try clear hcz8_1
     try clear hcz9_0
     try clear hcz9_1
     try clear hfz11_0
     try clear hfz11_1
     try clear hfz12_0
     try clear hfz12_1
     try clear hfz8_0
     try clear hfz8_1
     try clear hfz9_0
     try clear hfz9_1
     try clear p2
     obtain ⟨x5_2, rfl, HA, HK2, BK101, BK102, HB⟩ := hrel
     cases gk with
     | zero => exact absurd HA.out (by simp [laws_ovCache.l0])
     | succ k2 =>
      have H := HA.out
      clear HA
      simp only [laws_ovCache.l0] at H
      by_cases c14 : x5_2 < (l0_1.length : Int)
      ·rw [if_pos c14] at H
       have c14b0 : decide (x5_2 < (l0_1.length : Int)) = true := decide_eq_true c14
       clear c14
       by_cases c15 : 0 ≤ x5_2
       ·rw [if_pos c15] at H
        have c15b0 : decide (0 ≤ x5_2) = true := decide_eq_true c15
        clear c15
        by_cases c16 : x5_2 < (l1_1.length : Int)
        ·rw [if_pos c16] at H
         have c16b0 : decide (x5_2 < (l1_1.length : Int)) = true := decide_eq_true c16
         clear c16
         by_cases c17 : ((!(((rd_T108 l0_1 x5_2).f0.f0) == ((rd_T108 l1_1 x5_2).f0.f0)) || (!(((rd_T108 l0_1 x5_2).f0.f1) == ((rd_T108 l1_1 x5_2).f0.f1)) || (!(((rd_T108 l0_1 x5_2).f0.f2) == ((rd_T108 l1_1 x5_2).f0.f2))))) || (!(((rd_T108 l0_1 x5_2).f1) == ((rd_T108 l1_1 x5_2).f1)))) = true
         ·rw [if_pos c17] at H
          have c17b0 : ((!(((rd_T108 l0_1 x5_2).f0.f0) == ((rd_T108 l1_1 x5_2).f0.f0)) || (!(((rd_T108 l0_1 x5_2).f0.f1) == ((rd_T108 l1_1 x5_2).f0.f1)) || (!(((rd_T108 l0_1 x5_2).f0.f2) == ((rd_T108 l1_1 x5_2).f0.f2))))) || (!(((rd_T108 l0_1 x5_2).f1) == ((rd_T108 l1_1 x5_2).f1)))) = true := c17
          clear c17
          obtain rfl := Option.some.inj H
          have hnb18 := NB101_102.out
          have hnc18 := NB102_101.out
          have hcz19_0 := z0 wr BK101.out
          have hcz19_1 := z1 wr BK101.out
          have hfz19_0 := blk_frozen BK101.out 0
          have hfz19_1 := blk_frozen BK101.out 1
          have p103 : 0 ≤ (x5_2 : Int) := of_decide_eq_true (by first | (with_reducible assumption) | assumption)
          have q103 : x5_2 < (l0_1.length : Int) := of_decide_eq_true (by first | (with_reducible assumption) | assumption)
          obtain ⟨ad103, e103, hx103_0, hx103_1, hx103_2, hx103_3⟩ := at_T108 HR0_1.out x5_2 p103 q103
          cases e103
          replace hx103_0 := (HB.out.cell (World.block_lt_of_cell? w _ hx103_0)).trans hx103_0
          replace hx103_1 := (HB.out.cell (World.block_lt_of_cell? w _ hx103_1)).trans hx103_1
          replace hx103_2 := (HB.out.cell (World.block_lt_of_cell? w _ hx103_2)).trans hx103_2
          replace hx103_3 := (HB.out.cell (World.block_lt_of_cell? w _ hx103_3)).trans hx103_3
          replace p103 := eq_true p103
          replace q103 := eq_true q103
          have hcz20_0 := z0 wr BK102.out
          have hcz20_1 := z1 wr BK102.out
          have hfz20_0 := blk_frozen BK102.out 0
          have hfz20_1 := blk_frozen BK102.out 1
          have p104 : 0 ≤ (x5_2 : Int) := of_decide_eq_true (by first | (with_reducible assumption) | assumption)
          have q104 : x5_2 < (l1_1.length : Int) := of_decide_eq_true (by first | (with_reducible assumption) | assumption)
          obtain ⟨ad104, e104, hx104_0, hx104_1, hx104_2, hx104_3⟩ := at_T108 HR1_1.out x5_2 p104 q104
          cases e104
          replace hx104_0 := (HB.out.cell (World.block_lt_of_cell? w _ hx104_0)).trans hx104_0
          replace hx104_1 := (HB.out.cell (World.block_lt_of_cell? w _ hx104_1)).trans hx104_1
          replace hx104_2 := (HB.out.cell (World.block_lt_of_cell? w _ hx104_2)).trans hx104_2
          replace hx104_3 := (HB.out.cell (World.block_lt_of_cell? w _ hx104_3)).trans hx104_3
          replace p104 := eq_true p104
          replace q104 := eq_true q104
          go_wp2
          repeat (go_quiet (fail); try go_wp2)
          go_ret
          exact ⟨by first | rfl | (simp [errW_none, errW_some] <;> rfl) | (simp [*, errW_none, errW_some] <;> rfl), K2 HB GE101.out GE102.out⟩
         ·rw [if_neg c17] at H
          have c17b0 : ((!(((rd_T108 l0_1 x5_2).f0.f0) == ((rd_T108 l1_1 x5_2).f0.f0)) || (!(((rd_T108 l0_1 x5_2).f0.f1) == ((rd_T108 l1_1 x5_2).f0.f1)) || (!(((rd_T108 l0_1 x5_2).f0.f2) == ((rd_T108 l1_1 x5_2).f0.f2))))) || (!(((rd_T108 l0_1 x5_2).f1) == ((rd_T108 l1_1 x5_2).f1)))) = false := by simpa using c17
          clear c17
          have H' := Aside0.mk H
          clear H
          have hnb21 := NB101_102.out
          have hnc21 := NB102_101.out
          have hcz22_0 := z0 wr BK101.out
          have hcz22_1 := z1 wr BK101.out
          have hfz22_0 := blk_frozen BK101.out 0
          have hfz22_1 := blk_frozen BK101.out 1
          have p103 : 0 ≤ (x5_2 : Int) := of_decide_eq_true (by first | (with_reducible assumption) | assumption)
          have q103 : x5_2 < (l0_1.length : Int) := of_decide_eq_true (by first | (with_reducible assumption) | assumption)
          obtain ⟨ad103, e103, hx103_0, hx103_1, hx103_2, hx103_3⟩ := at_T108 HR0_1.out x5_2 p103 q103
          cases e103
          replace hx103_0 := (HB.out.cell (World.block_lt_of_cell? w _ hx103_0)).trans hx103_0
          replace hx103_1 := (HB.out.cell (World.block_lt_of_cell? w _ hx103_1)).trans hx103_1
          replace hx103_2 := (HB.out.cell (World.block_lt_of_cell? w _ hx103_2)).trans hx103_2
          replace hx103_3 := (HB.out.cell (World.block_lt_of_cell? w _ hx103_3)).trans hx103_3
          replace p103 := eq_true p103
          replace q103 := eq_true q103
          have hcz23_0 := z0 wr BK102.out
          have hcz23_1 := z1 wr BK102.out
          have hfz23_0 := blk_frozen BK102.out 0
          have hfz23_1 := blk_frozen BK102.out 1
          have p104 : 0 ≤ (x5_2 : Int) := of_decide_eq_true (by first | (with_reducible assumption) | assumption)
          have q104 : x5_2 < (l1_1.length : Int) := of_decide_eq_true (by first | (with_reducible assumption) | assumption)
          obtain ⟨ad104, e104, hx104_0, hx104_1, hx104_2, hx104_3⟩ := at_T108 HR1_1.out x5_2 p104 q104
          cases e104
          replace hx104_0 := (HB.out.cell (World.block_lt_of_cell? w _ hx104_0)).trans hx104_0
          replace hx104_1 := (HB.out.cell (World.block_lt_of_cell? w _ hx104_1)).trans hx104_1
          replace hx104_2 := (HB.out.cell (World.block_lt_of_cell? w _ hx104_2)).trans hx104_2
          replace hx104_3 := (HB.out.cell (World.block_lt_of_cell? w _ hx104_3)).trans hx104_3
          replace p104 := eq_true p104
          replace q104 := eq_true q104
          go_wp2
          repeat (go_quiet (fail); try go_wp2)
          go_roundg k2
          case measure => have := HJ2.out; have := HK2.out; omega
          case rel => exact ⟨(wrap64 (x5_2 + 1)), (by first | rfl | (simp; done) | (simp [*]; done)), H', ⟨by have := HJ2.out; have := HK2.out; omega⟩, ⟨KB BK101⟩, ⟨KB BK102⟩, ⟨K2 HB GE101.out GE102.out⟩⟩
        ·rw [if_neg c16] at H
         exact absurd H (by simp)
       ·rw [if_neg c15] at H
        exact absurd H (by simp)
      ·rw [if_neg c14] at H
       have c14b0 : decide (x5_2 < (l0_1.length : Int)) = false := decide_eq_false c14
       clear c14
       obtain rfl := Option.some.inj H
       have hnb24 := NB101_102.out
       have hnc24 := NB102_101.out
       have hcz25_0 := z0 wr BK101.out
       have hcz25_1 := z1 wr BK101.out
       have hfz25_0 := blk_frozen BK101.out 0
       have hfz25_1 := blk_frozen BK101.out 1
       go_wp2
       repeat (go_quiet (fail); try go_wp2)
       go_ret
       exact ⟨by first | rfl | (simp [errW_none, errW_some] <;> rfl) | (simp [*, errW_none, errW_some] <;> rfl), K2 HB GE101.out GE102.out⟩
end Go.Proofs.Ytioghacieopbdaa.PAll
end
