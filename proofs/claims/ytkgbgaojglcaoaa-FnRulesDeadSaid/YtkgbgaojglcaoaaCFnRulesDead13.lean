/- Contracts of the functions that the statement reaches, printed by a program out of the translation and joined with the plain laws. -/
import Derived.Test.YtkgbgaojglcaoaaCFnRulesDead3
import Derived.Test.YtkgbgaojglcaoaaCFnRulesDead4
import Derived.Test.YtkgbgaojglcaoaaCFnRulesDead5
import Derived.Test.YtkgbgaojglcaoaaCFnRulesDead7
section
namespace Go.Proofs.Ytkgbgaojglcaoaa.PAll
open Go.RowKit Go.Proofs.YtkgbgaojglcaoaaW.PrintWords Go.Proofs.YtkgbgaojglcaoaaW.PrintLast Go.Proofs.YtkgbgaojglcaoaaW.PrintMore
attribute [local go_sem] max2_int min2_int max_two min_two max_three min_three max_four min_four   -- for this text's walks alone
set_option linter.unusedVariables false
set_option linter.unusedSimpArgs false
def spec_l12Rules.l0 : Nat → List (S71) → Int → List Int → Int → Option ((List (S71)) × Int)
 | 0, _, _, _, _ => none
 | k + 1, x3, x4, x1000, x1001 => if x4 > 0 then ((spec_l12Rule.f k x1000 x1001).bind fun bt106 => (if x3.length < 2199023255552 then (spec_l12Rules.l0 k (x3 ++ [(⟨bt106.1, bt106.2.1, (⟨bt106.2.2.1, bt106.2.2.2.1⟩ : S43), (⟨bt106.2.2.2.2.1, bt106.2.2.2.2.2.1⟩ : S43), bt106.2.2.2.2.2.2.1, bt106.2.2.2.2.2.2.2.1⟩ : S71)]) (wrap64 (x4 - 1)) x1000 bt106.2.2.2.2.2.2.2.2) else (none))) else ((spec_l1Rd_pick.f k x1000 x1001 2).bind fun bt118 => (if bt118.1 = 0 then ((spec_l1Rd_one.f k x1000 bt118.2 (([1, 2, 2] : List Int))).bind fun bt123 => ((spec_l1Over.f k 0 0).bind fun bt125 => ((spec_l1Over.f k 0 0).bind fun bt127 => (if x3.length < 2199023255552 then (some ((x3 ++ [(⟨bt123.1, 0, (⟨bt125.1, bt125.2⟩ : S43), (⟨bt127.1, bt127.2⟩ : S43), 0, 65535⟩ : S71)]), bt123.2)) else (none))))) else (some (x3, bt118.2))))
def spec_l12Rules.f (k : Nat) (s0_0 : List Int) (s0_1 : Int) : Option ((List (S71)) × Int) := (spec_l1Rd_pick.f k s0_0 s0_1 5).bind fun bt104 => (spec_l12Rules.l0 k (([] : List (S71))) bt104.1 s0_0 bt104.2)
set_option maxHeartbeats 8000000 in
set_option maxRecDepth 100000 in
theorem spec_l12Rules.calls (k : Nat) (g : Nat) (s0_0 : List Int) (s0_1 : Int) (r1 : List (S71)) (r2 : Int) (w0 w : World) (hI : IsS140 w0 w g s0_0 s0_1) (hB : Below w0.heap.size w0 w) (h : spec_l12Rules.f k s0_0 s0_1 = some (r1, r2)) :
  Calls Try.prog 132 #[.pointer (some ⟨g, 0, none⟩)] w fun e w' => ∃ v0_ : Value, e = .returned (v0_) ∧ Kd.R k71 71 w' w.heap.size (fun _ => True) v0_ r1 ∧ IsS140 w0 w' g s0_0 r2 ∧ Below w0.heap.size w0 w' ∧ KeepBut w w' g none := by
 have hu71 := Try.underlying71
 have HI0 := Aside0.mk hI
 have HK := am (KeepBut.refl w g none)
 have HL := Aside0.mk hB.size
 clear hI
 have HW0 := Aside0.mk hB.size
 have HB := Aside0.mk hB
 clear hB
 have H : ((spec_l1Rd_pick.f k s0_0 s0_1 5).bind fun bt104 => (spec_l12Rules.l0 k (([] : List (S71))) bt104.1 s0_0 bt104.2)) = some (r1, r2) := h
 clear h
 obtain ⟨y101, hy101⟩ : ∃ y_ : List (S71), y_ = (([] : List (S71))) := ⟨_, rfl⟩
 replace H : ((spec_l1Rd_pick.f k s0_0 s0_1 5).bind fun bt104 => (spec_l12Rules.l0 k y101 bt104.1 s0_0 bt104.2)) = some (r1, r2) := by first | (rw [hy101]; with_reducible exact H) | (have H2_ := (Option.bind_some _ _).symm.trans H; rw [hy101]; with_reducible exact H2_) | (have H2_ := (Option.bind_some _ _).symm.trans H; with_reducible exact H2_) | with_reducible exact H | (rw [hy101]; exact H) | exact H
 have Ny101 := Aside0.mk hy101
 clear hy101
 replace H := Option.bind_eq_some_iff.mp H
 obtain ⟨⟨t104, t105⟩, A20, H⟩ := H
 replace H : (spec_l12Rules.l0 k y101 t104 s0_0 t105) = some (r1, r2) := H
 have A2 := Aside0.mk A20
 clear A20
 have H' := Aside0.mk H
 clear H
 go_enter Try.func132, Try.ntmps132
 go_wp2_with (first | ((with_reducible refine gate_dst (N := 5) rfl ?_); refine Kd.R_lit k71 _ 71 ?hg (N := 5) ?hd (xs := ([] : List (S71))) (inner := []) (ok := fun _ => True) (okp := fun _ => True) ?hr ?hp (fun _ hk => hk) trivial (Below.refl _ _) (Nat.le_refl _) (by simp) ?_; (case hd => rfl); (case hg => rfl); (case hr => first | (go_simp; done) | (go_simp; rfl)); (case hp => exact (Reps.none _ _)); intro v102 w3 ho4 hb hg_ hnew_; clear hg_ hnew_; (first | rw [← Ny101.out] at ho4 | (simp only [Int.reduceToNat] at ho4; rw [← Ny101.out] at ho4)); have HO103 := am (Kd.R_lower ho4 (keep_size (w := w) (g := g) (row := none) (J0 HK))); replace HK := am (KeepBut.trans (J0 HK) (KeepBut.of_below hb g none) (.inl rfl)); replace HB := am (below_step (K1 HB (IsS140.ge HI0.out)) hb); replace HI0 := am (IsS140.below (I140_0 HI0) hb); clear hb ho4) | ((with_reducible refine gate_callee (f := 69) rfl ?_); refine goesL_ (some 7) rfl rfl Try.func69 (by kernel_rfl) rfl #[.pointer (some ⟨g, 0, none⟩), .int .i64 5] rfl MT ?_; (with_reducible refine (spec_l1Rd_pick.calls k g s0_0 s0_1 5 t104 t105 w0 _ ?side1 ?side2 A2.out).mono ?_); (case side1 => exact I140_0 HI0); (case side2 => exact K1 HB (IsS140.ge HI0.out)); rintro e w5 ⟨rfl, hi, hb, hk⟩; refine ⟨_, rfl, ?_⟩; replace HO103 := am (Kd.R_mono (Kd.R_keep (IsS140.apart (show IsS140 w0 _ g s0_0 s0_1 from I140_0 HI0) (KR HO103) (by decide)) hk (fun _ h => h.2)) (fun _ h => h.1)); replace HK := am (KeepBut.trans (J0 HK) hk (.inl rfl)); replace HB := am (hb); replace HI0 := am (hi); (try clear hb); (try clear hk); (try clear hi)))
 go_loopg [3, 4] k (fun kq v3 v4 w' => ∃ (x3_1 : List (S71)) (x4_1 : Int) (x1001_1 : Int), v4 = .int .i64 x4_1 ∧ Aside0 (spec_l12Rules.l0 kq x3_1 x4_1 s0_0 x1001_1 = some (r1, r2)) ∧ Aside0 (kq ≤ k) ∧ Aside0 (Kd.R k71 71 w' w.heap.size (fun _ => True) v3 x3_1) ∧ Aside0 (IsS140 w0 w' g s0_0 x1001_1) ∧ Aside0 (KeepBut w w' g none) ∧ Aside0 (Below w0.heap.size w0 w'))
 case atStart => exact ⟨(y101), (t104), (t105), (by first | rfl | (simp; done) | (simp [*]; done)), H', ⟨Nat.le_refl _⟩, ⟨KR HO103⟩, ⟨I140_0 HI0⟩, ⟨J0 HK⟩, ⟨K1 HB (IsS140.ge HI0.out)⟩⟩
 case round =>
  clear H'
  try clear c1
  try clear p2
  obtain ⟨x3_1, x4_1, x1001_1, rfl, HA, HK1, HO_3, HI0, HK, HB⟩ := hrel
  cases gk with
  | zero => exact absurd HA.out (by simp [spec_l12Rules.l0])
  | succ k1 =>
   have H := HA.out
   clear HA
   simp only [spec_l12Rules.l0] at H
   by_cases c6 : x4_1 > 0
   ·rw [if_pos c6] at H
    have c6b0 : decide (0 < x4_1) = true := decide_eq_true c6
    clear c6
    replace H := Option.bind_eq_some_iff.mp H
    obtain ⟨⟨t106, t107, t108, t109, t110, t111, t112, t113, t114⟩, A70, H⟩ := H
    replace H : (if x3_1.length < 2199023255552 then (spec_l12Rules.l0 k1 (x3_1 ++ [(⟨t106, t107, (⟨t108, t109⟩ : S43), (⟨t110, t111⟩ : S43), t112, t113⟩ : S71)]) (wrap64 (x4_1 - 1)) s0_0 t114) else (none)) = some (r1, r2) := H
    have A7 := Aside0.mk A70
    clear A70
    by_cases c8 : x3_1.length < 2199023255552
    ·rw [if_pos c8] at H
     have LMc8 := Aside0.mk c8
     clear c8
     obtain ⟨y115, hy115⟩ : ∃ y_ : List (S71), y_ = (x3_1 ++ [(⟨t106, t107, (⟨t108, t109⟩ : S43), (⟨t110, t111⟩ : S43), t112, t113⟩ : S71)]) := ⟨_, rfl⟩
     replace H : (spec_l12Rules.l0 k1 y115 (wrap64 (x4_1 - 1)) s0_0 t114) = some (r1, r2) := by first | (rw [hy115]; with_reducible exact H) | (have H2_ := (Option.bind_some _ _).symm.trans H; rw [hy115]; with_reducible exact H2_) | (have H2_ := (Option.bind_some _ _).symm.trans H; with_reducible exact H2_) | with_reducible exact H | (rw [hy115]; exact H) | exact H
     have Ny115 := Aside0.mk hy115
     clear hy115
     have H' := Aside0.mk H
     clear H
     go_wp2_with (first | ((with_reducible refine gate_callee (f := 133) rfl ?_); refine goesL_ (some 14) rfl rfl Try.func133 (by kernel_rfl) rfl #[.pointer (some ⟨g, 0, none⟩)] rfl MT ?_; (with_reducible refine (spec_l12Rule.calls k1 g s0_0 x1001_1 t106 t107 t108 t109 t110 t111 t112 t113 t114 w0 _ ?side1 ?side2 A7.out).mono ?_); (case side1 => exact I140_0 HI0); (case side2 => exact K1 HB (IsS140.ge HI0.out)); rintro e w9 ⟨rfl, hi, hb, hk⟩; refine ⟨_, rfl, ?_⟩; replace HO_3 := am (Kd.R_mono (Kd.R_keep (IsS140.apart (show IsS140 w0 _ g s0_0 x1001_1 from I140_0 HI0) (KR HO_3) (by decide)) hk (fun _ h => h.2)) (fun _ h => h.1)); replace HK := am (KeepBut.trans (J0 HK) hk (.inl rfl)); replace HB := am (hb); replace HI0 := am (hi); (try clear hb); (try clear hk); (try clear hi)) | ((with_reducible refine gate_builtin (b := .append) (xs := #[.tmp 12, .tmp 15]) rfl ?_); at_builtin; refine Kd.R_append k71 w.heap.size rfl (.tmp 12) (.tmp 15) 52 71 (.agg #[(.int .i64 0), (.int .i64 0), (.int .i64 0), (.int .i64 0), (.int .i64 0), (.int .i64 0), (.int .i64 0), (.int .i64 0)]) 64 rfl Try.underlying52 info71 rfl (by decide) (by omega) u3 x3_1 (⟨t106, t107, (⟨t108, t109⟩ : S43), (⟨t110, t111⟩ : S43), t112, t113⟩ : S71) [.int .i64 t106, .int .i64 t107, .int .i64 t108, .int .i64 t109, .int .i64 t110, .int .i64 t111, .int .i64 t112, .int .i64 t113] (fun _ => True) (fun _ => False) rfl rfl ?aP (fun _ hk => hk.elim) ?aF ?aO (Below.refl _ _) ?aS ?aL ?_; (case aP => exact k71_mkM _ _ _ (⟨t106, t107, (⟨t108, t109⟩ : S43), (⟨t110, t111⟩ : S43), t112, t113⟩ : S71)); (case aF => exact (fun _ _ => trivial)); (case aO => exact (KR HO_3)); (case aS => exact (keep_size (w := w) (g := g) (row := none) (J0 HK))); (case aL => have := LMc8.out; omega); intro v116 w10 ho hb hg hat; rw [← Ny115.out] at ho; replace HB := am (below_weaken (K1 HB (IsS140.ge HI0.out)) HL.out hb); replace HI0 := am (IsS140.grown (I140_0 HI0) hg (IsS140.own_ne HI0.out HO_3.out (by decide))); replace HK := am (KeepBut.trans (J0 HK) (KeepBut.of_grown hg g) (Kd.R_base2 HO_3.out)); have HO117 := am (ho); clear HO_3; clear ho hb hg hat))
     go_roundg k1
     case measure => have := HK1.out; omega
     case rel => exact ⟨(y115), (wrap64 (x4_1 - 1)), (t114), (by first | rfl | (simp; done) | (simp [*]; done)), H', ⟨by have := HK1.out; omega⟩, ⟨KR HO117⟩, ⟨I140_0 HI0⟩, ⟨J0 HK⟩, ⟨K1 HB (IsS140.ge HI0.out)⟩⟩
    ·rw [if_neg c8] at H
     exact absurd H (by simp)
   ·rw [if_neg c6] at H
    have c6b0 : decide (0 < x4_1) = false := decide_eq_false c6
    clear c6
    replace H := Option.bind_eq_some_iff.mp H
    obtain ⟨⟨t118, t119⟩, A110, H⟩ := H
    replace H : (if t118 = 0 then ((spec_l1Rd_one.f k1 s0_0 t119 (([1, 2, 2] : List Int))).bind fun bt123 => ((spec_l1Over.f k1 0 0).bind fun bt125 => ((spec_l1Over.f k1 0 0).bind fun bt127 => (if x3_1.length < 2199023255552 then (some ((x3_1 ++ [(⟨bt123.1, 0, (⟨bt125.1, bt125.2⟩ : S43), (⟨bt127.1, bt127.2⟩ : S43), 0, 65535⟩ : S71)]), bt123.2)) else (none))))) else (some (x3_1, t119))) = some (r1, r2) := H
    have A11 := Aside0.mk A110
    clear A110
    by_cases c12 : t118 = 0
    ·rw [if_pos c12] at H
     have c12b0 : (t118 == 0) = true := beq_iff_eq.mpr c12
     have c12b1 : (t118 != 0) = false := bne_eq_false_iff_eq.mpr c12
     clear c12
     obtain ⟨y120, hy120⟩ : ∃ y_ : List Int, y_ = (([1, 2, 2] : List Int)) := ⟨_, rfl⟩
     replace H : ((spec_l1Rd_one.f k1 s0_0 t119 y120).bind fun bt123 => ((spec_l1Over.f k1 0 0).bind fun bt125 => ((spec_l1Over.f k1 0 0).bind fun bt127 => (if x3_1.length < 2199023255552 then (some ((x3_1 ++ [(⟨bt123.1, 0, (⟨bt125.1, bt125.2⟩ : S43), (⟨bt127.1, bt127.2⟩ : S43), 0, 65535⟩ : S71)]), bt123.2)) else (none))))) = some (r1, r2) := by first | (rw [hy120]; with_reducible exact H) | (have H2_ := (Option.bind_some _ _).symm.trans H; rw [hy120]; with_reducible exact H2_) | (have H2_ := (Option.bind_some _ _).symm.trans H; with_reducible exact H2_) | with_reducible exact H | (rw [hy120]; exact H) | exact H
     have Ny120 := Aside0.mk hy120
     clear hy120
     replace H := Option.bind_eq_some_iff.mp H
     obtain ⟨⟨t123, t124⟩, A130, H⟩ := H
     replace H : ((spec_l1Over.f k1 0 0).bind fun bt125 => ((spec_l1Over.f k1 0 0).bind fun bt127 => (if x3_1.length < 2199023255552 then (some ((x3_1 ++ [(⟨t123, 0, (⟨bt125.1, bt125.2⟩ : S43), (⟨bt127.1, bt127.2⟩ : S43), 0, 65535⟩ : S71)]), t124)) else (none)))) = some (r1, r2) := H
     have A13 := Aside0.mk A130
     clear A130
     replace H := Option.bind_eq_some_iff.mp H
     obtain ⟨⟨t125, t126⟩, A140, H⟩ := H
     replace H : ((spec_l1Over.f k1 0 0).bind fun bt127 => (if x3_1.length < 2199023255552 then (some ((x3_1 ++ [(⟨t123, 0, (⟨t125, t126⟩ : S43), (⟨bt127.1, bt127.2⟩ : S43), 0, 65535⟩ : S71)]), t124)) else (none))) = some (r1, r2) := H
     have A14 := Aside0.mk A140
     clear A140
     replace H := Option.bind_eq_some_iff.mp H
     obtain ⟨⟨t127, t128⟩, A150, H⟩ := H
     replace H : (if x3_1.length < 2199023255552 then (some ((x3_1 ++ [(⟨t123, 0, (⟨t125, t126⟩ : S43), (⟨t127, t128⟩ : S43), 0, 65535⟩ : S71)]), t124)) else (none)) = some (r1, r2) := H
     have A15 := Aside0.mk A150
     clear A150
     by_cases c16 : x3_1.length < 2199023255552
     ·rw [if_pos c16] at H
      have LMc16 := Aside0.mk c16
      clear c16
      obtain ⟨y129, hy129⟩ : ∃ y_ : List (S71), y_ = (x3_1 ++ [(⟨t123, 0, (⟨t125, t126⟩ : S43), (⟨t127, t128⟩ : S43), 0, 65535⟩ : S71)]) := ⟨_, rfl⟩
      replace H : (some (y129, t124)) = some (r1, r2) := by first | (rw [hy129]; with_reducible exact H) | (have H2_ := (Option.bind_some _ _).symm.trans H; rw [hy129]; with_reducible exact H2_) | (have H2_ := (Option.bind_some _ _).symm.trans H; with_reducible exact H2_) | with_reducible exact H | (rw [hy129]; exact H) | exact H
      have Ny129 := Aside0.mk hy129
      clear hy129
      simp only [Option.some.injEq, Prod.mk.injEq] at H
      obtain ⟨rfl, rfl⟩ := H
      go_wp2_with (first | ((with_reducible refine gate_callee (f := 69) rfl ?_); refine goesL_ (some 18) rfl rfl Try.func69 (by kernel_rfl) rfl #[.pointer (some ⟨g, 0, none⟩), .int .i64 2] rfl MT ?_; (with_reducible refine (spec_l1Rd_pick.calls k1 g s0_0 x1001_1 2 t118 t119 w0 _ ?side1 ?side2 A11.out).mono ?_); (case side1 => exact I140_0 HI0); (case side2 => exact K1 HB (IsS140.ge HI0.out)); rintro e w17 ⟨rfl, hi, hb, hk⟩; refine ⟨_, rfl, ?_⟩; replace HO_3 := am (Kd.R_mono (Kd.R_keep (IsS140.apart (show IsS140 w0 _ g s0_0 x1001_1 from I140_0 HI0) (KR HO_3) (by decide)) hk (fun _ h => h.2)) (fun _ h => h.1)); replace HK := am (KeepBut.trans (J0 HK) hk (.inl rfl)); replace HB := am (hb); replace HI0 := am (hi); (try clear hb); (try clear hk); (try clear hi)) | ((with_reducible refine gate_dst (N := 22) rfl ?_); refine Kd.R_lit (Kd.int .i64) _ 3 ?hg (N := 22) ?hd (xs := ([1, 2, 2] : List Int)) (inner := [.int .i64 1, .int .i64 2, .int .i64 2]) (ok := fun _ => True) (okp := fun _ => True) ?hr ?hp (fun _ hk => hk) trivial (Below.refl _ _) (Nat.le_refl _) (by simp) ?_; (case hd => rfl); (case hg => rfl); (case hr => first | (go_simp; done) | (go_simp; rfl)); (case hp => exact (Reps.one (show Kd.M (Kd.int .i64) _ _ _ 1 [.int .i64 1] from rfl) (Reps.one (show Kd.M (Kd.int .i64) _ _ _ 2 [.int .i64 2] from rfl) (Reps.one (show Kd.M (Kd.int .i64) _ _ _ 2 [.int .i64 2] from rfl) (Reps.none _ _))))); intro v121 w18 ho19 hb hg_ hnew_; clear hg_ hnew_; (first | rw [← Ny120.out] at ho19 | (simp only [Int.reduceToNat] at ho19; rw [← Ny120.out] at ho19)); replace HO_3 := am (Kd.R_below (KR HO_3) hb); have HO122 := am (Kd.R_lower ho19 (keep_size (w := w) (g := g) (row := none) (J0 HK))); replace HK := am (KeepBut.trans (J0 HK) (KeepBut.of_below hb g none) (.inl rfl)); replace HB := am (below_step (K1 HB (IsS140.ge HI0.out)) hb); replace HI0 := am (IsS140.below (I140_0 HI0) hb); clear hb ho19; obtain ⟨Ao20, co20, eo20⟩ := Kd.R_slice HO122.out; subst eo20) | ((with_reducible refine gate_callee (f := 115) rfl ?_); refine goesL_ (some 23) rfl rfl Try.func115 (by kernel_rfl) rfl #[.pointer (some ⟨g, 0, none⟩), .slice Ao20 y120.length co20] rfl MT ?_; (with_reducible refine (spec_l1Rd_one.calls k1 g s0_0 t119 _ _ y120 t123 t124 w0 _ ?side1 ?side2 ?side3 ?side4 ?side5 A13.out).mono ?_); (case side1 => exact I140_0 HI0); (case side2 => exact K1 HB (IsS140.ge HI0.out)); (case side3 => exact KC (Kd.R_reads' HO122.out).2.2); (case side4 => exact (Kd.R_reads' HO122.out).2.1); (case side5 => exact far_slice (IsS140.own_ne HI0.out HO122.out (by decide))); rintro e w21 ⟨rfl, hi, hb, hk⟩; refine ⟨_, rfl, ?_⟩; replace HO_3 := am (Kd.R_mono (Kd.R_keep (IsS140.apart (show IsS140 w0 _ g s0_0 t119 from I140_0 HI0) (KR HO_3) (by decide)) hk (fun _ h => h.2)) (fun _ h => h.1)); replace HO122 := am (Kd.R_mono (Kd.R_keep (IsS140.apart (show IsS140 w0 _ g s0_0 t119 from I140_0 HI0) (KR HO122) (by decide)) hk (fun _ h => h.2)) (fun _ h => h.1)); replace HK := am (KeepBut.trans (J0 HK) hk (.inl rfl)); replace HB := am (hb); replace HI0 := am (hi); (try clear hb); (try clear hk); (try clear hi)) | ((with_reducible refine gate_callee (f := 143) rfl ?_); refine goesL_ (some 24) rfl rfl Try.func143 (by kernel_rfl) rfl #[.int .i64 0, .int .i64 0] rfl MT ?_; (with_reducible refine (spec_l1Over.calls k1 0 0 t125 t126 _ A14.out).mono ?_); rintro e w22 ⟨rfl, hb⟩; refine ⟨_, rfl, ?_⟩; replace HO_3 := am (Kd.R_below (KR HO_3) hb); replace HO122 := am (Kd.R_below (KR HO122) hb); replace HK := am (KeepBut.trans (J0 HK) (KeepBut.of_below hb g none) (.inl rfl)); replace HB := am (below_step (K1 HB (IsS140.ge HI0.out)) hb); replace HI0 := am (IsS140.below (I140_0 HI0) hb); (try clear hb)) | ((with_reducible refine gate_callee (f := 143) rfl ?_); refine goesL_ (some 25) rfl rfl Try.func143 (by kernel_rfl) rfl #[.int .i64 0, .int .i64 0] rfl MT ?_; (with_reducible refine (spec_l1Over.calls k1 0 0 t127 t128 _ A15.out).mono ?_); rintro e w23 ⟨rfl, hb⟩; refine ⟨_, rfl, ?_⟩; replace HO_3 := am (Kd.R_below (KR HO_3) hb); replace HO122 := am (Kd.R_below (KR HO122) hb); replace HK := am (KeepBut.trans (J0 HK) (KeepBut.of_below hb g none) (.inl rfl)); replace HB := am (below_step (K1 HB (IsS140.ge HI0.out)) hb); replace HI0 := am (IsS140.below (I140_0 HI0) hb); (try clear hb)) | ((with_reducible refine gate_builtin (b := .append) (xs := #[.tmp 20, .tmp 27]) rfl ?_); at_builtin; refine Kd.R_append k71 w.heap.size rfl (.tmp 20) (.tmp 27) 52 71 (.agg #[(.int .i64 0), (.int .i64 0), (.int .i64 0), (.int .i64 0), (.int .i64 0), (.int .i64 0), (.int .i64 0), (.int .i64 0)]) 64 rfl Try.underlying52 info71 rfl (by decide) (by omega) u3 x3_1 (⟨t123, 0, (⟨t125, t126⟩ : S43), (⟨t127, t128⟩ : S43), 0, 65535⟩ : S71) [.int .i64 t123, .int .i64 0, .int .i64 t125, .int .i64 t126, .int .i64 t127, .int .i64 t128, .int .i64 0, .int .i64 65535] (fun _ => True) (fun _ => False) rfl rfl ?aP (fun _ hk => hk.elim) ?aF ?aO (Below.refl _ _) ?aS ?aL ?_; (case aP => exact k71_mkM _ _ _ (⟨t123, 0, (⟨t125, t126⟩ : S43), (⟨t127, t128⟩ : S43), 0, 65535⟩ : S71)); (case aF => exact (fun _ _ => trivial)); (case aO => exact (KR HO_3)); (case aS => exact (keep_size (w := w) (g := g) (row := none) (J0 HK))); (case aL => have := LMc16.out; omega); intro v130 w24 ho hb hg hat; rw [← Ny129.out] at ho; replace HO122 := am (Kd.R_over' (KR HO122) (Kd.R_typed (KR HO_3)) (by decide) hg); replace HB := am (below_weaken (K1 HB (IsS140.ge HI0.out)) HL.out hb); replace HI0 := am (IsS140.grown (I140_0 HI0) hg (IsS140.own_ne HI0.out HO_3.out (by decide))); replace HK := am (KeepBut.trans (J0 HK) (KeepBut.of_grown hg g) (Kd.R_base2 HO_3.out)); have HO131 := am (ho); clear HO_3; clear ho hb hg hat))
      go_ret
      exact ⟨_, ER, by (with_reducible repeat (first | apply Kd.R_alloc | apply Kd.R_drewN | apply Kd.R_drew)); exact HO131.out, I140_0 HI0, K1 HB (IsS140.ge HI0.out), J0 HK⟩
     ·rw [if_neg c16] at H
      exact absurd H (by simp)
    ·rw [if_neg c12] at H
     have c12b0 : (t118 == 0) = false := beq_eq_false_iff_ne.mpr c12
     have c12b1 : (t118 != 0) = true := bne_iff_ne.mpr c12
     simp only [Option.some.injEq, Prod.mk.injEq] at H
     obtain ⟨rfl, rfl⟩ := H
     go_wp2_with (first | ((with_reducible refine gate_callee (f := 69) rfl ?_); refine goesL_ (some 18) rfl rfl Try.func69 (by kernel_rfl) rfl #[.pointer (some ⟨g, 0, none⟩), .int .i64 2] rfl MT ?_; (with_reducible refine (spec_l1Rd_pick.calls k1 g s0_0 x1001_1 2 t118 t119 w0 _ ?side1 ?side2 A11.out).mono ?_); (case side1 => exact I140_0 HI0); (case side2 => exact K1 HB (IsS140.ge HI0.out)); rintro e w25 ⟨rfl, hi, hb, hk⟩; refine ⟨_, rfl, ?_⟩; replace HO_3 := am (Kd.R_mono (Kd.R_keep (IsS140.apart (show IsS140 w0 _ g s0_0 x1001_1 from I140_0 HI0) (KR HO_3) (by decide)) hk (fun _ h => h.2)) (fun _ h => h.1)); replace HK := am (KeepBut.trans (J0 HK) hk (.inl rfl)); replace HB := am (hb); replace HI0 := am (hi); (try clear hb); (try clear hk); (try clear hi)))
     go_ret
     exact ⟨_, ER, by (with_reducible repeat (first | apply Kd.R_alloc | apply Kd.R_drewN | apply Kd.R_drew)); exact HO_3.out, I140_0 HI0, K1 HB (IsS140.ge HI0.out), J0 HK⟩
def spec_l12AnyRules.l0 : Nat → List (S71) → List Int → Int → Option ((List (S71)) × Int)
 | 0, _, _, _ => none
 | k + 1, x3, x1000, x1001 => (spec_l1Rd_pick.f k x1000 x1001 2).bind fun bt131 => (if (x3.length : Int) < (wrap64 (8 + bt131.1)) then ((spec_l12Rule.f k x1000 bt131.2).bind fun bt133 => (if x3.length < 2199023255552 then (spec_l12AnyRules.l0 k (x3 ++ [(⟨bt133.1, bt133.2.1, (⟨bt133.2.2.1, bt133.2.2.2.1⟩ : S43), (⟨bt133.2.2.2.2.1, bt133.2.2.2.2.2.1⟩ : S43), bt133.2.2.2.2.2.2.1, bt133.2.2.2.2.2.2.2.1⟩ : S71)]) x1000 bt133.2.2.2.2.2.2.2.2) else (none))) else (some (x3, bt131.2)))
def spec_l12AnyRules.f (k : Nat) (s0_0 : List Int) (s0_1 : Int) : Option ((List (S71)) × Int) := (spec_l12Rules.f k s0_0 s0_1).bind fun bt101 => (if (bt101.1.length : Int) = 0 then (some (bt101.1, bt101.2)) else ((spec_l1Rd_pick.f k s0_0 bt101.2 (bt101.1.length : Int)).bind fun bt105 => ((spec_l1Rd_pick.f k s0_0 bt105.2 20).bind fun bt107 => (if bt107.1 = 0 then ((spec_l1Rd_one.f k s0_0 bt107.2 (([(-1), 3, 0] : List Int))).bind fun bt112 => (if 0 ≤ bt105.1 then (if bt105.1 < (bt101.1.length : Int) then (some ((bt101.1.set (bt105.1 : Int).toNat (⟨bt112.1, (rd_T71 bt101.1 bt105.1).f1, (⟨(rd_T71 bt101.1 bt105.1).f2.f0, (rd_T71 bt101.1 bt105.1).f2.f1⟩ : S43), (⟨(rd_T71 bt101.1 bt105.1).f3.f0, (rd_T71 bt101.1 bt105.1).f3.f1⟩ : S43), (rd_T71 bt101.1 bt105.1).f4, (rd_T71 bt101.1 bt105.1).f5⟩ : S71)), bt112.2)) else (none)) else (none))) else (if bt107.1 = 1 then ((spec_l1Rd_one.f k s0_0 bt107.2 (([(-1), 4, 1] : List Int))).bind fun bt118 => (if 0 ≤ bt105.1 then (if bt105.1 < (bt101.1.length : Int) then (some ((bt101.1.set (bt105.1 : Int).toNat (⟨(rd_T71 bt101.1 bt105.1).f0, bt118.1, (⟨(rd_T71 bt101.1 bt105.1).f2.f0, (rd_T71 bt101.1 bt105.1).f2.f1⟩ : S43), (⟨(rd_T71 bt101.1 bt105.1).f3.f0, (rd_T71 bt101.1 bt105.1).f3.f1⟩ : S43), (rd_T71 bt101.1 bt105.1).f4, (rd_T71 bt101.1 bt105.1).f5⟩ : S71)), bt118.2)) else (none)) else (none))) else (if bt107.1 = 2 then ((spec_l1Rd_one.f k s0_0 bt107.2 (([(-1), 65536] : List Int))).bind fun bt124 => (if 0 ≤ bt105.1 then (if bt105.1 < (bt101.1.length : Int) then (some ((bt101.1.set (bt105.1 : Int).toNat (⟨(rd_T71 bt101.1 bt105.1).f0, (rd_T71 bt101.1 bt105.1).f1, (⟨(rd_T71 bt101.1 bt105.1).f2.f0, (rd_T71 bt101.1 bt105.1).f2.f1⟩ : S43), (⟨(rd_T71 bt101.1 bt105.1).f3.f0, (rd_T71 bt101.1 bt105.1).f3.f1⟩ : S43), bt124.1, (rd_T71 bt101.1 bt105.1).f5⟩ : S71)), bt124.2)) else (none)) else (none))) else (if bt107.1 = 3 then ((spec_l12AnyBlock.f k s0_0 bt107.2).bind fun bt127 => (if 0 ≤ bt105.1 then (if bt105.1 < (bt101.1.length : Int) then (some ((bt101.1.set (bt105.1 : Int).toNat (⟨(rd_T71 bt101.1 bt105.1).f0, (rd_T71 bt101.1 bt105.1).f1, (⟨bt127.1, bt127.2.1⟩ : S43), (⟨(rd_T71 bt101.1 bt105.1).f3.f0, (rd_T71 bt101.1 bt105.1).f3.f1⟩ : S43), (rd_T71 bt101.1 bt105.1).f4, (rd_T71 bt101.1 bt105.1).f5⟩ : S71)), bt127.2.2)) else (none)) else (none))) else (if bt107.1 = 4 then (spec_l12AnyRules.l0 k bt101.1 s0_0 bt107.2) else (some (bt101.1, bt107.2))))))))))
set_option maxHeartbeats 8000000 in
set_option maxRecDepth 100000 in
theorem spec_l12AnyRules.calls (k : Nat) (g : Nat) (s0_0 : List Int) (s0_1 : Int) (r1 : List (S71)) (r2 : Int) (w0 w : World) (hI : IsS140 w0 w g s0_0 s0_1) (hB : Below w0.heap.size w0 w) (h : spec_l12AnyRules.f k s0_0 s0_1 = some (r1, r2)) :
  Calls Try.prog 95 #[.pointer (some ⟨g, 0, none⟩)] w fun e w' => ∃ v0_ : Value, e = .returned (v0_) ∧ Kd.R k71 71 w' w.heap.size (fun _ => True) v0_ r1 ∧ IsS140 w0 w' g s0_0 r2 ∧ Below w0.heap.size w0 w' ∧ KeepBut w w' g none := by
 have hu43 := Try.underlying43
 have HI0 := Aside0.mk hI
 have HK := am (KeepBut.refl w g none)
 have HL := Aside0.mk hB.size
 clear hI
 have HW0 := Aside0.mk hB.size
 have HB := Aside0.mk hB
 clear hB
 have H : ((spec_l12Rules.f k s0_0 s0_1).bind fun bt101 => (if (bt101.1.length : Int) = 0 then (some (bt101.1, bt101.2)) else ((spec_l1Rd_pick.f k s0_0 bt101.2 (bt101.1.length : Int)).bind fun bt105 => ((spec_l1Rd_pick.f k s0_0 bt105.2 20).bind fun bt107 => (if bt107.1 = 0 then ((spec_l1Rd_one.f k s0_0 bt107.2 (([(-1), 3, 0] : List Int))).bind fun bt112 => (if 0 ≤ bt105.1 then (if bt105.1 < (bt101.1.length : Int) then (some ((bt101.1.set (bt105.1 : Int).toNat (⟨bt112.1, (rd_T71 bt101.1 bt105.1).f1, (⟨(rd_T71 bt101.1 bt105.1).f2.f0, (rd_T71 bt101.1 bt105.1).f2.f1⟩ : S43), (⟨(rd_T71 bt101.1 bt105.1).f3.f0, (rd_T71 bt101.1 bt105.1).f3.f1⟩ : S43), (rd_T71 bt101.1 bt105.1).f4, (rd_T71 bt101.1 bt105.1).f5⟩ : S71)), bt112.2)) else (none)) else (none))) else (if bt107.1 = 1 then ((spec_l1Rd_one.f k s0_0 bt107.2 (([(-1), 4, 1] : List Int))).bind fun bt118 => (if 0 ≤ bt105.1 then (if bt105.1 < (bt101.1.length : Int) then (some ((bt101.1.set (bt105.1 : Int).toNat (⟨(rd_T71 bt101.1 bt105.1).f0, bt118.1, (⟨(rd_T71 bt101.1 bt105.1).f2.f0, (rd_T71 bt101.1 bt105.1).f2.f1⟩ : S43), (⟨(rd_T71 bt101.1 bt105.1).f3.f0, (rd_T71 bt101.1 bt105.1).f3.f1⟩ : S43), (rd_T71 bt101.1 bt105.1).f4, (rd_T71 bt101.1 bt105.1).f5⟩ : S71)), bt118.2)) else (none)) else (none))) else (if bt107.1 = 2 then ((spec_l1Rd_one.f k s0_0 bt107.2 (([(-1), 65536] : List Int))).bind fun bt124 => (if 0 ≤ bt105.1 then (if bt105.1 < (bt101.1.length : Int) then (some ((bt101.1.set (bt105.1 : Int).toNat (⟨(rd_T71 bt101.1 bt105.1).f0, (rd_T71 bt101.1 bt105.1).f1, (⟨(rd_T71 bt101.1 bt105.1).f2.f0, (rd_T71 bt101.1 bt105.1).f2.f1⟩ : S43), (⟨(rd_T71 bt101.1 bt105.1).f3.f0, (rd_T71 bt101.1 bt105.1).f3.f1⟩ : S43), bt124.1, (rd_T71 bt101.1 bt105.1).f5⟩ : S71)), bt124.2)) else (none)) else (none))) else (if bt107.1 = 3 then ((spec_l12AnyBlock.f k s0_0 bt107.2).bind fun bt127 => (if 0 ≤ bt105.1 then (if bt105.1 < (bt101.1.length : Int) then (some ((bt101.1.set (bt105.1 : Int).toNat (⟨(rd_T71 bt101.1 bt105.1).f0, (rd_T71 bt101.1 bt105.1).f1, (⟨bt127.1, bt127.2.1⟩ : S43), (⟨(rd_T71 bt101.1 bt105.1).f3.f0, (rd_T71 bt101.1 bt105.1).f3.f1⟩ : S43), (rd_T71 bt101.1 bt105.1).f4, (rd_T71 bt101.1 bt105.1).f5⟩ : S71)), bt127.2.2)) else (none)) else (none))) else (if bt107.1 = 4 then (spec_l12AnyRules.l0 k bt101.1 s0_0 bt107.2) else (some (bt101.1, bt107.2))))))))))) = some (r1, r2) := h
 clear h
 replace H := Option.bind_eq_some_iff.mp H
 obtain ⟨⟨t101, t104⟩, A20, H⟩ := H
 replace H : (if (t101.length : Int) = 0 then (some (t101, t104)) else ((spec_l1Rd_pick.f k s0_0 t104 (t101.length : Int)).bind fun bt105 => ((spec_l1Rd_pick.f k s0_0 bt105.2 20).bind fun bt107 => (if bt107.1 = 0 then ((spec_l1Rd_one.f k s0_0 bt107.2 (([(-1), 3, 0] : List Int))).bind fun bt112 => (if 0 ≤ bt105.1 then (if bt105.1 < (t101.length : Int) then (some ((t101.set (bt105.1 : Int).toNat (⟨bt112.1, (rd_T71 t101 bt105.1).f1, (⟨(rd_T71 t101 bt105.1).f2.f0, (rd_T71 t101 bt105.1).f2.f1⟩ : S43), (⟨(rd_T71 t101 bt105.1).f3.f0, (rd_T71 t101 bt105.1).f3.f1⟩ : S43), (rd_T71 t101 bt105.1).f4, (rd_T71 t101 bt105.1).f5⟩ : S71)), bt112.2)) else (none)) else (none))) else (if bt107.1 = 1 then ((spec_l1Rd_one.f k s0_0 bt107.2 (([(-1), 4, 1] : List Int))).bind fun bt118 => (if 0 ≤ bt105.1 then (if bt105.1 < (t101.length : Int) then (some ((t101.set (bt105.1 : Int).toNat (⟨(rd_T71 t101 bt105.1).f0, bt118.1, (⟨(rd_T71 t101 bt105.1).f2.f0, (rd_T71 t101 bt105.1).f2.f1⟩ : S43), (⟨(rd_T71 t101 bt105.1).f3.f0, (rd_T71 t101 bt105.1).f3.f1⟩ : S43), (rd_T71 t101 bt105.1).f4, (rd_T71 t101 bt105.1).f5⟩ : S71)), bt118.2)) else (none)) else (none))) else (if bt107.1 = 2 then ((spec_l1Rd_one.f k s0_0 bt107.2 (([(-1), 65536] : List Int))).bind fun bt124 => (if 0 ≤ bt105.1 then (if bt105.1 < (t101.length : Int) then (some ((t101.set (bt105.1 : Int).toNat (⟨(rd_T71 t101 bt105.1).f0, (rd_T71 t101 bt105.1).f1, (⟨(rd_T71 t101 bt105.1).f2.f0, (rd_T71 t101 bt105.1).f2.f1⟩ : S43), (⟨(rd_T71 t101 bt105.1).f3.f0, (rd_T71 t101 bt105.1).f3.f1⟩ : S43), bt124.1, (rd_T71 t101 bt105.1).f5⟩ : S71)), bt124.2)) else (none)) else (none))) else (if bt107.1 = 3 then ((spec_l12AnyBlock.f k s0_0 bt107.2).bind fun bt127 => (if 0 ≤ bt105.1 then (if bt105.1 < (t101.length : Int) then (some ((t101.set (bt105.1 : Int).toNat (⟨(rd_T71 t101 bt105.1).f0, (rd_T71 t101 bt105.1).f1, (⟨bt127.1, bt127.2.1⟩ : S43), (⟨(rd_T71 t101 bt105.1).f3.f0, (rd_T71 t101 bt105.1).f3.f1⟩ : S43), (rd_T71 t101 bt105.1).f4, (rd_T71 t101 bt105.1).f5⟩ : S71)), bt127.2.2)) else (none)) else (none))) else (if bt107.1 = 4 then (spec_l12AnyRules.l0 k t101 s0_0 bt107.2) else (some (t101, bt107.2)))))))))) = some (r1, r2) := H
 have A2 := Aside0.mk A20
 clear A20
 by_cases c3 : (t101.length : Int) = 0
 ·rw [if_pos c3] at H
  have c3b0 : ((t101.length : Int) == 0) = true := beq_iff_eq.mpr c3
  have c3b1 : ((t101.length : Int) != 0) = false := bne_eq_false_iff_eq.mpr c3
  clear c3
  simp only [Option.some.injEq, Prod.mk.injEq] at H
  obtain ⟨rfl, rfl⟩ := H
  go_enter Try.func95, Try.ntmps95
  go_wp2_with (first | ((with_reducible refine gate_callee (f := 132) rfl ?_); refine goesL_ (some 6) rfl rfl Try.func132 (by kernel_rfl) rfl #[.pointer (some ⟨g, 0, none⟩)] rfl MT ?_; (with_reducible refine (spec_l12Rules.calls k g s0_0 s0_1 t101 t104 w0 _ ?side1 ?side2 A2.out).mono ?_); (case side1 => exact I140_0 HI0); (case side2 => exact K1 HB (IsS140.ge HI0.out)); rintro e w4 ⟨v102, rfl, ho0, hi, hb, hk⟩; refine ⟨_, rfl, ?_⟩; have HO103 := am (Kd.R_lower ho0 (keep_size (w := w) (g := g) (row := none) (J0 HK))); replace HK := am (KeepBut.trans (J0 HK) hk (.inl rfl)); replace HB := am (hb); replace HI0 := am (hi); (try clear hb); (try clear hk); (try clear hi); (try clear ho0); obtain ⟨Ao5, co5, eo5⟩ := Kd.R_slice HO103.out; subst eo5))
  go_ret
  exact ⟨_, ER, by (with_reducible repeat (first | apply Kd.R_alloc | apply Kd.R_drewN | apply Kd.R_drew)); exact HO103.out, I140_0 HI0, K1 HB (IsS140.ge HI0.out), J0 HK⟩
 ·rw [if_neg c3] at H
  have c3b0 : ((t101.length : Int) == 0) = false := beq_eq_false_iff_ne.mpr c3
  have c3b1 : ((t101.length : Int) != 0) = true := bne_iff_ne.mpr c3
  have c3b2 : ¬ (t101 = []) := fun h_ => c3 (by rw [h_]; rfl)
  replace H := Option.bind_eq_some_iff.mp H
  obtain ⟨⟨t105, t106⟩, A60, H⟩ := H
  replace H : ((spec_l1Rd_pick.f k s0_0 t106 20).bind fun bt107 => (if bt107.1 = 0 then ((spec_l1Rd_one.f k s0_0 bt107.2 (([(-1), 3, 0] : List Int))).bind fun bt112 => (if 0 ≤ t105 then (if t105 < (t101.length : Int) then (some ((t101.set (t105 : Int).toNat (⟨bt112.1, (rd_T71 t101 t105).f1, (⟨(rd_T71 t101 t105).f2.f0, (rd_T71 t101 t105).f2.f1⟩ : S43), (⟨(rd_T71 t101 t105).f3.f0, (rd_T71 t101 t105).f3.f1⟩ : S43), (rd_T71 t101 t105).f4, (rd_T71 t101 t105).f5⟩ : S71)), bt112.2)) else (none)) else (none))) else (if bt107.1 = 1 then ((spec_l1Rd_one.f k s0_0 bt107.2 (([(-1), 4, 1] : List Int))).bind fun bt118 => (if 0 ≤ t105 then (if t105 < (t101.length : Int) then (some ((t101.set (t105 : Int).toNat (⟨(rd_T71 t101 t105).f0, bt118.1, (⟨(rd_T71 t101 t105).f2.f0, (rd_T71 t101 t105).f2.f1⟩ : S43), (⟨(rd_T71 t101 t105).f3.f0, (rd_T71 t101 t105).f3.f1⟩ : S43), (rd_T71 t101 t105).f4, (rd_T71 t101 t105).f5⟩ : S71)), bt118.2)) else (none)) else (none))) else (if bt107.1 = 2 then ((spec_l1Rd_one.f k s0_0 bt107.2 (([(-1), 65536] : List Int))).bind fun bt124 => (if 0 ≤ t105 then (if t105 < (t101.length : Int) then (some ((t101.set (t105 : Int).toNat (⟨(rd_T71 t101 t105).f0, (rd_T71 t101 t105).f1, (⟨(rd_T71 t101 t105).f2.f0, (rd_T71 t101 t105).f2.f1⟩ : S43), (⟨(rd_T71 t101 t105).f3.f0, (rd_T71 t101 t105).f3.f1⟩ : S43), bt124.1, (rd_T71 t101 t105).f5⟩ : S71)), bt124.2)) else (none)) else (none))) else (if bt107.1 = 3 then ((spec_l12AnyBlock.f k s0_0 bt107.2).bind fun bt127 => (if 0 ≤ t105 then (if t105 < (t101.length : Int) then (some ((t101.set (t105 : Int).toNat (⟨(rd_T71 t101 t105).f0, (rd_T71 t101 t105).f1, (⟨bt127.1, bt127.2.1⟩ : S43), (⟨(rd_T71 t101 t105).f3.f0, (rd_T71 t101 t105).f3.f1⟩ : S43), (rd_T71 t101 t105).f4, (rd_T71 t101 t105).f5⟩ : S71)), bt127.2.2)) else (none)) else (none))) else (if bt107.1 = 4 then (spec_l12AnyRules.l0 k t101 s0_0 bt107.2) else (some (t101, bt107.2)))))))) = some (r1, r2) := H
  have A6 := Aside0.mk A60
  clear A60
  replace H := Option.bind_eq_some_iff.mp H
  obtain ⟨⟨t107, t108⟩, A70, H⟩ := H
  replace H : (if t107 = 0 then ((spec_l1Rd_one.f k s0_0 t108 (([(-1), 3, 0] : List Int))).bind fun bt112 => (if 0 ≤ t105 then (if t105 < (t101.length : Int) then (some ((t101.set (t105 : Int).toNat (⟨bt112.1, (rd_T71 t101 t105).f1, (⟨(rd_T71 t101 t105).f2.f0, (rd_T71 t101 t105).f2.f1⟩ : S43), (⟨(rd_T71 t101 t105).f3.f0, (rd_T71 t101 t105).f3.f1⟩ : S43), (rd_T71 t101 t105).f4, (rd_T71 t101 t105).f5⟩ : S71)), bt112.2)) else (none)) else (none))) else (if t107 = 1 then ((spec_l1Rd_one.f k s0_0 t108 (([(-1), 4, 1] : List Int))).bind fun bt118 => (if 0 ≤ t105 then (if t105 < (t101.length : Int) then (some ((t101.set (t105 : Int).toNat (⟨(rd_T71 t101 t105).f0, bt118.1, (⟨(rd_T71 t101 t105).f2.f0, (rd_T71 t101 t105).f2.f1⟩ : S43), (⟨(rd_T71 t101 t105).f3.f0, (rd_T71 t101 t105).f3.f1⟩ : S43), (rd_T71 t101 t105).f4, (rd_T71 t101 t105).f5⟩ : S71)), bt118.2)) else (none)) else (none))) else (if t107 = 2 then ((spec_l1Rd_one.f k s0_0 t108 (([(-1), 65536] : List Int))).bind fun bt124 => (if 0 ≤ t105 then (if t105 < (t101.length : Int) then (some ((t101.set (t105 : Int).toNat (⟨(rd_T71 t101 t105).f0, (rd_T71 t101 t105).f1, (⟨(rd_T71 t101 t105).f2.f0, (rd_T71 t101 t105).f2.f1⟩ : S43), (⟨(rd_T71 t101 t105).f3.f0, (rd_T71 t101 t105).f3.f1⟩ : S43), bt124.1, (rd_T71 t101 t105).f5⟩ : S71)), bt124.2)) else (none)) else (none))) else (if t107 = 3 then ((spec_l12AnyBlock.f k s0_0 t108).bind fun bt127 => (if 0 ≤ t105 then (if t105 < (t101.length : Int) then (some ((t101.set (t105 : Int).toNat (⟨(rd_T71 t101 t105).f0, (rd_T71 t101 t105).f1, (⟨bt127.1, bt127.2.1⟩ : S43), (⟨(rd_T71 t101 t105).f3.f0, (rd_T71 t101 t105).f3.f1⟩ : S43), (rd_T71 t101 t105).f4, (rd_T71 t101 t105).f5⟩ : S71)), bt127.2.2)) else (none)) else (none))) else (if t107 = 4 then (spec_l12AnyRules.l0 k t101 s0_0 t108) else (some (t101, t108))))))) = some (r1, r2) := H
  have A7 := Aside0.mk A70
  clear A70
  by_cases c8 : t107 = 0
  ·rw [if_pos c8] at H
   have c8b0 : (t107 == 0) = true := beq_iff_eq.mpr c8
   have c8b1 : (t107 != 0) = false := bne_eq_false_iff_eq.mpr c8
   clear c8
   obtain ⟨y109, hy109⟩ : ∃ y_ : List Int, y_ = (([(-1), 3, 0] : List Int)) := ⟨_, rfl⟩
   replace H : ((spec_l1Rd_one.f k s0_0 t108 y109).bind fun bt112 => (if 0 ≤ t105 then (if t105 < (t101.length : Int) then (some ((t101.set (t105 : Int).toNat (⟨bt112.1, (rd_T71 t101 t105).f1, (⟨(rd_T71 t101 t105).f2.f0, (rd_T71 t101 t105).f2.f1⟩ : S43), (⟨(rd_T71 t101 t105).f3.f0, (rd_T71 t101 t105).f3.f1⟩ : S43), (rd_T71 t101 t105).f4, (rd_T71 t101 t105).f5⟩ : S71)), bt112.2)) else (none)) else (none))) = some (r1, r2) := by first | (rw [hy109]; with_reducible exact H) | (have H2_ := (Option.bind_some _ _).symm.trans H; rw [hy109]; with_reducible exact H2_) | (have H2_ := (Option.bind_some _ _).symm.trans H; with_reducible exact H2_) | with_reducible exact H | (rw [hy109]; exact H) | exact H
   have Ny109 := Aside0.mk hy109
   clear hy109
   replace H := Option.bind_eq_some_iff.mp H
   obtain ⟨⟨t112, t113⟩, A90, H⟩ := H
   replace H : (if 0 ≤ t105 then (if t105 < (t101.length : Int) then (some ((t101.set (t105 : Int).toNat (⟨t112, (rd_T71 t101 t105).f1, (⟨(rd_T71 t101 t105).f2.f0, (rd_T71 t101 t105).f2.f1⟩ : S43), (⟨(rd_T71 t101 t105).f3.f0, (rd_T71 t101 t105).f3.f1⟩ : S43), (rd_T71 t101 t105).f4, (rd_T71 t101 t105).f5⟩ : S71)), t113)) else (none)) else (none)) = some (r1, r2) := H
   have A9 := Aside0.mk A90
   clear A90
   by_cases c10 : 0 ≤ t105
   ·rw [if_pos c10] at H
    have c10b0 : decide (0 ≤ t105) = true := decide_eq_true c10
    clear c10
    by_cases c11 : t105 < (t101.length : Int)
    ·rw [if_pos c11] at H
     have c11b0 : decide (t105 < (t101.length : Int)) = true := decide_eq_true c11
     clear c11
     obtain ⟨y114, hy114⟩ : ∃ y_ : List (S71), y_ = (t101.set (t105 : Int).toNat (⟨t112, (rd_T71 t101 t105).f1, (⟨(rd_T71 t101 t105).f2.f0, (rd_T71 t101 t105).f2.f1⟩ : S43), (⟨(rd_T71 t101 t105).f3.f0, (rd_T71 t101 t105).f3.f1⟩ : S43), (rd_T71 t101 t105).f4, (rd_T71 t101 t105).f5⟩ : S71)) := ⟨_, rfl⟩
     replace H : (some (y114, t113)) = some (r1, r2) := by first | (rw [hy114]; with_reducible exact H) | (have H2_ := (Option.bind_some _ _).symm.trans H; rw [hy114]; with_reducible exact H2_) | (have H2_ := (Option.bind_some _ _).symm.trans H; with_reducible exact H2_) | with_reducible exact H | (rw [hy114]; exact H) | exact H
     have Ny114 := Aside0.mk hy114
     clear hy114
     simp only [Option.some.injEq, Prod.mk.injEq] at H
     obtain ⟨rfl, rfl⟩ := H
     go_enter Try.func95, Try.ntmps95
     go_wp2_with (first | ((with_reducible refine gate_callee (f := 132) rfl ?_); refine goesL_ (some 6) rfl rfl Try.func132 (by kernel_rfl) rfl #[.pointer (some ⟨g, 0, none⟩)] rfl MT ?_; (with_reducible refine (spec_l12Rules.calls k g s0_0 s0_1 t101 t104 w0 _ ?side1 ?side2 A2.out).mono ?_); (case side1 => exact I140_0 HI0); (case side2 => exact K1 HB (IsS140.ge HI0.out)); rintro e w13 ⟨v102, rfl, ho0, hi, hb, hk⟩; refine ⟨_, rfl, ?_⟩; have HO103 := am (Kd.R_lower ho0 (keep_size (w := w) (g := g) (row := none) (J0 HK))); replace HK := am (KeepBut.trans (J0 HK) hk (.inl rfl)); replace HB := am (hb); replace HI0 := am (hi); (try clear hb); (try clear hk); (try clear hi); (try clear ho0); obtain ⟨Ao14, co14, eo14⟩ := Kd.R_slice HO103.out; subst eo14) | ((with_reducible refine gate_callee (f := 69) rfl ?_); refine goesL_ (some 14) rfl rfl Try.func69 (by kernel_rfl) rfl #[.pointer (some ⟨g, 0, none⟩), .int .i64 (t101.length : Int)] rfl MT ?_; (with_reducible refine (spec_l1Rd_pick.calls k g s0_0 t104 (t101.length : Int) t105 t106 w0 _ ?side1 ?side2 A6.out).mono ?_); (case side1 => exact I140_0 HI0); (case side2 => exact K1 HB (IsS140.ge HI0.out)); rintro e w15 ⟨rfl, hi, hb, hk⟩; refine ⟨_, rfl, ?_⟩; replace HO103 := am (Kd.R_mono (Kd.R_keep (IsS140.apart (show IsS140 w0 _ g s0_0 t104 from I140_0 HI0) (KR HO103) (by decide)) hk (fun _ h => h.2)) (fun _ h => h.1)); replace HK := am (KeepBut.trans (J0 HK) hk (.inl rfl)); replace HB := am (hb); replace HI0 := am (hi); (try clear hb); (try clear hk); (try clear hi)) | ((with_reducible refine gate_callee (f := 69) rfl ?_); refine goesL_ (some 16) rfl rfl Try.func69 (by kernel_rfl) rfl #[.pointer (some ⟨g, 0, none⟩), .int .i64 20] rfl MT ?_; (with_reducible refine (spec_l1Rd_pick.calls k g s0_0 t106 20 t107 t108 w0 _ ?side1 ?side2 A7.out).mono ?_); (case side1 => exact I140_0 HI0); (case side2 => exact K1 HB (IsS140.ge HI0.out)); rintro e w16 ⟨rfl, hi, hb, hk⟩; refine ⟨_, rfl, ?_⟩; replace HO103 := am (Kd.R_mono (Kd.R_keep (IsS140.apart (show IsS140 w0 _ g s0_0 t106 from I140_0 HI0) (KR HO103) (by decide)) hk (fun _ h => h.2)) (fun _ h => h.1)); replace HK := am (KeepBut.trans (J0 HK) hk (.inl rfl)); replace HB := am (hb); replace HI0 := am (hi); (try clear hb); (try clear hk); (try clear hi)) | ((with_reducible refine gate_dst (N := 22) rfl ?_); refine Kd.R_lit (Kd.int .i64) _ 3 ?hg (N := 22) ?hd (xs := ([(-1), 3, 0] : List Int)) (inner := [.int .i64 (-1), .int .i64 3, .int .i64 0]) (ok := fun _ => True) (okp := fun _ => True) ?hr ?hp (fun _ hk => hk) trivial (Below.refl _ _) (Nat.le_refl _) (by simp) ?_; (case hd => rfl); (case hg => rfl); (case hr => first | (go_simp; done) | (go_simp; rfl)); (case hp => exact (Reps.one (show Kd.M (Kd.int .i64) _ _ _ (-1) [.int .i64 (-1)] from rfl) (Reps.one (show Kd.M (Kd.int .i64) _ _ _ 3 [.int .i64 3] from rfl) (Reps.one (show Kd.M (Kd.int .i64) _ _ _ 0 [.int .i64 0] from rfl) (Reps.none _ _))))); intro v110 w17 ho18 hb hg_ hnew_; clear hg_ hnew_; (first | rw [← Ny109.out] at ho18 | (simp only [Int.reduceToNat] at ho18; rw [← Ny109.out] at ho18)); replace HO103 := am (Kd.R_below (KR HO103) hb); have HO111 := am (Kd.R_lower ho18 (keep_size (w := w) (g := g) (row := none) (J0 HK))); replace HK := am (KeepBut.trans (J0 HK) (KeepBut.of_below hb g none) (.inl rfl)); replace HB := am (below_step (K1 HB (IsS140.ge HI0.out)) hb); replace HI0 := am (IsS140.below (I140_0 HI0) hb); clear hb ho18; obtain ⟨Ao19, co19, eo19⟩ := Kd.R_slice HO111.out; subst eo19) | ((with_reducible refine gate_callee (f := 115) rfl ?_); refine goesL_ (some 23) rfl rfl Try.func115 (by kernel_rfl) rfl #[.pointer (some ⟨g, 0, none⟩), .slice Ao19 y109.length co19] rfl MT ?_; (with_reducible refine (spec_l1Rd_one.calls k g s0_0 t108 _ _ y109 t112 t113 w0 _ ?side1 ?side2 ?side3 ?side4 ?side5 A9.out).mono ?_); (case side1 => exact I140_0 HI0); (case side2 => exact K1 HB (IsS140.ge HI0.out)); (case side3 => exact KC (Kd.R_reads' HO111.out).2.2); (case side4 => exact (Kd.R_reads' HO111.out).2.1); (case side5 => exact far_slice (IsS140.own_ne HI0.out HO111.out (by decide))); rintro e w20 ⟨rfl, hi, hb, hk⟩; refine ⟨_, rfl, ?_⟩; replace HO103 := am (Kd.R_mono (Kd.R_keep (IsS140.apart (show IsS140 w0 _ g s0_0 t108 from I140_0 HI0) (KR HO103) (by decide)) hk (fun _ h => h.2)) (fun _ h => h.1)); replace HO111 := am (Kd.R_mono (Kd.R_keep (IsS140.apart (show IsS140 w0 _ g s0_0 t108 from I140_0 HI0) (KR HO111) (by decide)) hk (fun _ h => h.2)) (fun _ h => h.1)); replace HK := am (KeepBut.trans (J0 HK) hk (.inl rfl)); replace HB := am (hb); replace HI0 := am (hi); (try clear hb); (try clear hk); (try clear hi); have p12 : 0 ≤ (t105 : Int) := OD; have q12 : (t105 : Int) < ((t101.length : Int) : Int) := OD; obtain ⟨go12, co12, eo12, gb12, gl12, cl12, HG12⟩ := Kd.R_form HO103.out (by omega); (first | cases eo12 | (injection eo12 with ea_ en_ ec_; (first | subst ea_ | (injection ea_ with ea_; subst ea_)); subst ec_; clear en_)); have GB12 := Aside0.mk gb12; have GG12 := Aside0.mk HG12; clear gb12 gl12 HG12; obtain ⟨ce12, hcl12, hM12, hcc12, hfr12⟩ := Kd.R_elem HO103.out z71 (t105 : Int) p12 q12; obtain rfl := k71_openM hM12; have hx12_0 : w20.cell? ⟨go12, (t105 : Int).toNat * 8, none⟩ = some (.int .i64 ((rd_T71 t101 t105).f0)) := hcc12 0 _ rfl; have hx12_1 : w20.cell? ⟨go12, (t105 : Int).toNat * 8 + 1, none⟩ = some (.int .i64 ((rd_T71 t101 t105).f1)) := hcc12 1 _ rfl; have hx12_2 : w20.cell? ⟨go12, (t105 : Int).toNat * 8 + 2, none⟩ = some (.int .i64 ((rd_T71 t101 t105).f2.f0)) := hcc12 2 _ rfl; have hx12_3 : w20.cell? ⟨go12, (t105 : Int).toNat * 8 + 3, none⟩ = some (.int .i64 ((rd_T71 t101 t105).f2.f1)) := hcc12 3 _ rfl; have hx12_4 : w20.cell? ⟨go12, (t105 : Int).toNat * 8 + 4, none⟩ = some (.int .i64 ((rd_T71 t101 t105).f3.f0)) := hcc12 4 _ rfl; have hx12_5 : w20.cell? ⟨go12, (t105 : Int).toNat * 8 + 5, none⟩ = some (.int .i64 ((rd_T71 t101 t105).f3.f1)) := hcc12 5 _ rfl; have hx12_6 : w20.cell? ⟨go12, (t105 : Int).toNat * 8 + 6, none⟩ = some (.int .i64 ((rd_T71 t101 t105).f4)) := hcc12 6 _ rfl; have hx12_7 : w20.cell? ⟨go12, (t105 : Int).toNat * 8 + 7, none⟩ = some (.int .i64 ((rd_T71 t101 t105).f5)) := hcc12 7 _ rfl; have hf12_0 : w20.frozen? ⟨go12, (t105 : Int).toNat * 8, none⟩ = false := hfr12 0; have hf12_1 : w20.frozen? ⟨go12, (t105 : Int).toNat * 8 + 1, none⟩ = false := hfr12 1; have hf12_2 : w20.frozen? ⟨go12, (t105 : Int).toNat * 8 + 2, none⟩ = false := hfr12 2; have hf12_3 : w20.frozen? ⟨go12, (t105 : Int).toNat * 8 + 3, none⟩ = false := hfr12 3; have hf12_4 : w20.frozen? ⟨go12, (t105 : Int).toNat * 8 + 4, none⟩ = false := hfr12 4; have hf12_5 : w20.frozen? ⟨go12, (t105 : Int).toNat * 8 + 5, none⟩ = false := hfr12 5; have hf12_6 : w20.frozen? ⟨go12, (t105 : Int).toNat * 8 + 6, none⟩ = false := hfr12 6; have hf12_7 : w20.frozen? ⟨go12, (t105 : Int).toNat * 8 + 7, none⟩ = false := hfr12 7; clear hcl12 hcc12 hfr12 hM12; replace p12 := eq_true p12; replace q12 := eq_true q12; have HX21 := am (show Kd.R k71 71 w20 w.heap.size (fun _ => True) (.slice (some ⟨go12, 0, none⟩) t101.length co14) t101 from (KR HO103)); obtain ⟨ce21, hcl21, hM21, hcc21, hfr21⟩ := Kd.R_elem HX21.out z71 (t105 : Int) (OD) (by have h_ : (t105 : Int) < ((t101.length : Int) : Int) := OD; first | exact h_ | (have e_ := (Kd.R_reads' HO103.out).1; omega) | simpa using h_); obtain rfl := k71_openM hM21; have HP21 := Kd.R_seg HX21.out (t105 : Int) (OD) (by have h_ : (t105 : Int) < ((t101.length : Int) : Int) := OD; first | exact h_ | (have e_ := (Kd.R_reads' HO103.out).1; omega) | simpa using h_) (seg := [.int .i64 t112]) (j := 0) hcl21 hcc21 (show 1 ≤ 8 from by decide) (x' := (⟨t112, (rd_T71 t101 t105).f1, (⟨(rd_T71 t101 t105).f2.f0, (rd_T71 t101 t105).f2.f1⟩ : S43), (⟨(rd_T71 t101 t105).f3.f0, (rd_T71 t101 t105).f3.f1⟩ : S43), (rd_T71 t101 t105).f4, (rd_T71 t101 t105).f5⟩ : S71)) (k71_mkM _ _ _ (⟨t112, (rd_T71 t101 t105).f1, (⟨(rd_T71 t101 t105).f2.f0, (rd_T71 t101 t105).f2.f1⟩ : S43), (⟨(rd_T71 t101 t105).f3.f0, (rd_T71 t101 t105).f3.f1⟩ : S43), (rd_T71 t101 t105).f4, (rd_T71 t101 t105).f5⟩ : S71) ) (fun _ hk => hk); have hx21_0 := hcc21 0 _ rfl; (try simp only [show (k71).sz = 8 from rfl, Nat.mul_one, Nat.add_zero] at hx21_0); have hf21_0 := hfr21 0; (try simp only [show (k71).sz = 8 from rfl, Nat.mul_one, Nat.add_zero] at hf21_0); clear hcl21 hcc21 hfr21 hM21) | ((with_reducible refine gate_store (t := 3) (p := 25) rfl ?_); refine store_event (t := 3) (p := 25) (v := ?vo_w22) (w1 := (w20.setCell ⟨go12, (t105 : Int).toNat * 8, none⟩ (.int .i64 t112))) ?hg ?ho ?hn ?hr ?_; (case ho => rfl); (case hg => rfl); (case hn => rfl); (case hr => first | (go_simp; done) | (go_simp; rfl)); intro w22 hw; have hg : w20.grownBy w22 (some go12) := (by rw [hw]; exact HP21.2); have hp_ : Kd.R k71 71 w22 w.heap.size (fun _ => True) (.slice (some ⟨go12, 0, none⟩) t101.length co14) y114 := (by rw [hw, Ny114.out]; exact HP21.1); clear HP21; replace HI0 := am (IsS140.grown (I140_0 HI0) hg (IsS140.own_ne HI0.out HO103.out (by decide))); replace HO111 := am (Kd.R_over' (v := (.slice (some ⟨go12, 0, none⟩) t101.length co14)) (KR HO111) (Kd.R_typed HO103.out) (by decide) hg); replace HB := am ((by rw [hw]; exact below_set (HB.out) (Nat.le_trans HL.out GB12.out) : Below w0.heap.size w0 w22)); replace HK := am (KeepBut.trans (J0 HK) (KeepBut.of_grown hg g) (Kd.R_base2 HO103.out)); replace HO103 := am (hp_); clear hg hw hp_))
     go_ret
     exact ⟨_, ER, by (with_reducible repeat (first | apply Kd.R_alloc | apply Kd.R_drewN | apply Kd.R_drew)); exact HO103.out, I140_0 HI0, K1 HB (IsS140.ge HI0.out), J0 HK⟩
    ·rw [if_neg c11] at H
     exact absurd H (by simp)
   ·rw [if_neg c10] at H
    exact absurd H (by simp)
  ·rw [if_neg c8] at H
   have c8b0 : (t107 == 0) = false := beq_eq_false_iff_ne.mpr c8
   have c8b1 : (t107 != 0) = true := bne_iff_ne.mpr c8
   by_cases c23 : t107 = 1
   ·rw [if_pos c23] at H
    have c23b0 : (t107 == 1) = true := beq_iff_eq.mpr c23
    have c23b1 : (t107 != 1) = false := bne_eq_false_iff_eq.mpr c23
    clear c23
    obtain ⟨y115, hy115⟩ : ∃ y_ : List Int, y_ = (([(-1), 4, 1] : List Int)) := ⟨_, rfl⟩
    replace H : ((spec_l1Rd_one.f k s0_0 t108 y115).bind fun bt118 => (if 0 ≤ t105 then (if t105 < (t101.length : Int) then (some ((t101.set (t105 : Int).toNat (⟨(rd_T71 t101 t105).f0, bt118.1, (⟨(rd_T71 t101 t105).f2.f0, (rd_T71 t101 t105).f2.f1⟩ : S43), (⟨(rd_T71 t101 t105).f3.f0, (rd_T71 t101 t105).f3.f1⟩ : S43), (rd_T71 t101 t105).f4, (rd_T71 t101 t105).f5⟩ : S71)), bt118.2)) else (none)) else (none))) = some (r1, r2) := by first | (rw [hy115]; with_reducible exact H) | (have H2_ := (Option.bind_some _ _).symm.trans H; rw [hy115]; with_reducible exact H2_) | (have H2_ := (Option.bind_some _ _).symm.trans H; with_reducible exact H2_) | with_reducible exact H | (rw [hy115]; exact H) | exact H
    have Ny115 := Aside0.mk hy115
    clear hy115
    replace H := Option.bind_eq_some_iff.mp H
    obtain ⟨⟨t118, t119⟩, A240, H⟩ := H
    replace H : (if 0 ≤ t105 then (if t105 < (t101.length : Int) then (some ((t101.set (t105 : Int).toNat (⟨(rd_T71 t101 t105).f0, t118, (⟨(rd_T71 t101 t105).f2.f0, (rd_T71 t101 t105).f2.f1⟩ : S43), (⟨(rd_T71 t101 t105).f3.f0, (rd_T71 t101 t105).f3.f1⟩ : S43), (rd_T71 t101 t105).f4, (rd_T71 t101 t105).f5⟩ : S71)), t119)) else (none)) else (none)) = some (r1, r2) := H
    have A24 := Aside0.mk A240
    clear A240
    by_cases c25 : 0 ≤ t105
    ·rw [if_pos c25] at H
     have c25b0 : decide (0 ≤ t105) = true := decide_eq_true c25
     clear c25
     by_cases c26 : t105 < (t101.length : Int)
     ·rw [if_pos c26] at H
      have c26b0 : decide (t105 < (t101.length : Int)) = true := decide_eq_true c26
      clear c26
      obtain ⟨y120, hy120⟩ : ∃ y_ : List (S71), y_ = (t101.set (t105 : Int).toNat (⟨(rd_T71 t101 t105).f0, t118, (⟨(rd_T71 t101 t105).f2.f0, (rd_T71 t101 t105).f2.f1⟩ : S43), (⟨(rd_T71 t101 t105).f3.f0, (rd_T71 t101 t105).f3.f1⟩ : S43), (rd_T71 t101 t105).f4, (rd_T71 t101 t105).f5⟩ : S71)) := ⟨_, rfl⟩
      replace H : (some (y120, t119)) = some (r1, r2) := by first | (rw [hy120]; with_reducible exact H) | (have H2_ := (Option.bind_some _ _).symm.trans H; rw [hy120]; with_reducible exact H2_) | (have H2_ := (Option.bind_some _ _).symm.trans H; with_reducible exact H2_) | with_reducible exact H | (rw [hy120]; exact H) | exact H
      have Ny120 := Aside0.mk hy120
      clear hy120
      simp only [Option.some.injEq, Prod.mk.injEq] at H
      obtain ⟨rfl, rfl⟩ := H
      go_enter Try.func95, Try.ntmps95
      go_wp2_with (first | ((with_reducible refine gate_callee (f := 132) rfl ?_); refine goesL_ (some 6) rfl rfl Try.func132 (by kernel_rfl) rfl #[.pointer (some ⟨g, 0, none⟩)] rfl MT ?_; (with_reducible refine (spec_l12Rules.calls k g s0_0 s0_1 t101 t104 w0 _ ?side1 ?side2 A2.out).mono ?_); (case side1 => exact I140_0 HI0); (case side2 => exact K1 HB (IsS140.ge HI0.out)); rintro e w28 ⟨v102, rfl, ho0, hi, hb, hk⟩; refine ⟨_, rfl, ?_⟩; have HO103 := am (Kd.R_lower ho0 (keep_size (w := w) (g := g) (row := none) (J0 HK))); replace HK := am (KeepBut.trans (J0 HK) hk (.inl rfl)); replace HB := am (hb); replace HI0 := am (hi); (try clear hb); (try clear hk); (try clear hi); (try clear ho0); obtain ⟨Ao29, co29, eo29⟩ := Kd.R_slice HO103.out; subst eo29) | ((with_reducible refine gate_callee (f := 69) rfl ?_); refine goesL_ (some 14) rfl rfl Try.func69 (by kernel_rfl) rfl #[.pointer (some ⟨g, 0, none⟩), .int .i64 (t101.length : Int)] rfl MT ?_; (with_reducible refine (spec_l1Rd_pick.calls k g s0_0 t104 (t101.length : Int) t105 t106 w0 _ ?side1 ?side2 A6.out).mono ?_); (case side1 => exact I140_0 HI0); (case side2 => exact K1 HB (IsS140.ge HI0.out)); rintro e w30 ⟨rfl, hi, hb, hk⟩; refine ⟨_, rfl, ?_⟩; replace HO103 := am (Kd.R_mono (Kd.R_keep (IsS140.apart (show IsS140 w0 _ g s0_0 t104 from I140_0 HI0) (KR HO103) (by decide)) hk (fun _ h => h.2)) (fun _ h => h.1)); replace HK := am (KeepBut.trans (J0 HK) hk (.inl rfl)); replace HB := am (hb); replace HI0 := am (hi); (try clear hb); (try clear hk); (try clear hi)) | ((with_reducible refine gate_callee (f := 69) rfl ?_); refine goesL_ (some 16) rfl rfl Try.func69 (by kernel_rfl) rfl #[.pointer (some ⟨g, 0, none⟩), .int .i64 20] rfl MT ?_; (with_reducible refine (spec_l1Rd_pick.calls k g s0_0 t106 20 t107 t108 w0 _ ?side1 ?side2 A7.out).mono ?_); (case side1 => exact I140_0 HI0); (case side2 => exact K1 HB (IsS140.ge HI0.out)); rintro e w31 ⟨rfl, hi, hb, hk⟩; refine ⟨_, rfl, ?_⟩; replace HO103 := am (Kd.R_mono (Kd.R_keep (IsS140.apart (show IsS140 w0 _ g s0_0 t106 from I140_0 HI0) (KR HO103) (by decide)) hk (fun _ h => h.2)) (fun _ h => h.1)); replace HK := am (KeepBut.trans (J0 HK) hk (.inl rfl)); replace HB := am (hb); replace HI0 := am (hi); (try clear hb); (try clear hk); (try clear hi)) | ((with_reducible refine gate_dst (N := 31) rfl ?_); refine Kd.R_lit (Kd.int .i64) _ 3 ?hg (N := 31) ?hd (xs := ([(-1), 4, 1] : List Int)) (inner := [.int .i64 (-1), .int .i64 4, .int .i64 1]) (ok := fun _ => True) (okp := fun _ => True) ?hr ?hp (fun _ hk => hk) trivial (Below.refl _ _) (Nat.le_refl _) (by simp) ?_; (case hd => rfl); (case hg => rfl); (case hr => first | (go_simp; done) | (go_simp; rfl)); (case hp => exact (Reps.one (show Kd.M (Kd.int .i64) _ _ _ (-1) [.int .i64 (-1)] from rfl) (Reps.one (show Kd.M (Kd.int .i64) _ _ _ 4 [.int .i64 4] from rfl) (Reps.one (show Kd.M (Kd.int .i64) _ _ _ 1 [.int .i64 1] from rfl) (Reps.none _ _))))); intro v116 w32 ho33 hb hg_ hnew_; clear hg_ hnew_; (first | rw [← Ny115.out] at ho33 | (simp only [Int.reduceToNat] at ho33; rw [← Ny115.out] at ho33)); replace HO103 := am (Kd.R_below (KR HO103) hb); have HO117 := am (Kd.R_lower ho33 (keep_size (w := w) (g := g) (row := none) (J0 HK))); replace HK := am (KeepBut.trans (J0 HK) (KeepBut.of_below hb g none) (.inl rfl)); replace HB := am (below_step (K1 HB (IsS140.ge HI0.out)) hb); replace HI0 := am (IsS140.below (I140_0 HI0) hb); clear hb ho33; obtain ⟨Ao34, co34, eo34⟩ := Kd.R_slice HO117.out; subst eo34) | ((with_reducible refine gate_callee (f := 115) rfl ?_); refine goesL_ (some 32) rfl rfl Try.func115 (by kernel_rfl) rfl #[.pointer (some ⟨g, 0, none⟩), .slice Ao34 y115.length co34] rfl MT ?_; (with_reducible refine (spec_l1Rd_one.calls k g s0_0 t108 _ _ y115 t118 t119 w0 _ ?side1 ?side2 ?side3 ?side4 ?side5 A24.out).mono ?_); (case side1 => exact I140_0 HI0); (case side2 => exact K1 HB (IsS140.ge HI0.out)); (case side3 => exact KC (Kd.R_reads' HO117.out).2.2); (case side4 => exact (Kd.R_reads' HO117.out).2.1); (case side5 => exact far_slice (IsS140.own_ne HI0.out HO117.out (by decide))); rintro e w35 ⟨rfl, hi, hb, hk⟩; refine ⟨_, rfl, ?_⟩; replace HO103 := am (Kd.R_mono (Kd.R_keep (IsS140.apart (show IsS140 w0 _ g s0_0 t108 from I140_0 HI0) (KR HO103) (by decide)) hk (fun _ h => h.2)) (fun _ h => h.1)); replace HO117 := am (Kd.R_mono (Kd.R_keep (IsS140.apart (show IsS140 w0 _ g s0_0 t108 from I140_0 HI0) (KR HO117) (by decide)) hk (fun _ h => h.2)) (fun _ h => h.1)); replace HK := am (KeepBut.trans (J0 HK) hk (.inl rfl)); replace HB := am (hb); replace HI0 := am (hi); (try clear hb); (try clear hk); (try clear hi); have p27 : 0 ≤ (t105 : Int) := OD; have q27 : (t105 : Int) < ((t101.length : Int) : Int) := OD; obtain ⟨go27, co27, eo27, gb27, gl27, cl27, HG27⟩ := Kd.R_form HO103.out (by omega); (first | cases eo27 | (injection eo27 with ea_ en_ ec_; (first | subst ea_ | (injection ea_ with ea_; subst ea_)); subst ec_; clear en_)); have GB27 := Aside0.mk gb27; have GG27 := Aside0.mk HG27; clear gb27 gl27 HG27; obtain ⟨ce27, hcl27, hM27, hcc27, hfr27⟩ := Kd.R_elem HO103.out z71 (t105 : Int) p27 q27; obtain rfl := k71_openM hM27; have hx27_0 : w35.cell? ⟨go27, (t105 : Int).toNat * 8, none⟩ = some (.int .i64 ((rd_T71 t101 t105).f0)) := hcc27 0 _ rfl; have hx27_1 : w35.cell? ⟨go27, (t105 : Int).toNat * 8 + 1, none⟩ = some (.int .i64 ((rd_T71 t101 t105).f1)) := hcc27 1 _ rfl; have hx27_2 : w35.cell? ⟨go27, (t105 : Int).toNat * 8 + 2, none⟩ = some (.int .i64 ((rd_T71 t101 t105).f2.f0)) := hcc27 2 _ rfl; have hx27_3 : w35.cell? ⟨go27, (t105 : Int).toNat * 8 + 3, none⟩ = some (.int .i64 ((rd_T71 t101 t105).f2.f1)) := hcc27 3 _ rfl; have hx27_4 : w35.cell? ⟨go27, (t105 : Int).toNat * 8 + 4, none⟩ = some (.int .i64 ((rd_T71 t101 t105).f3.f0)) := hcc27 4 _ rfl; have hx27_5 : w35.cell? ⟨go27, (t105 : Int).toNat * 8 + 5, none⟩ = some (.int .i64 ((rd_T71 t101 t105).f3.f1)) := hcc27 5 _ rfl; have hx27_6 : w35.cell? ⟨go27, (t105 : Int).toNat * 8 + 6, none⟩ = some (.int .i64 ((rd_T71 t101 t105).f4)) := hcc27 6 _ rfl; have hx27_7 : w35.cell? ⟨go27, (t105 : Int).toNat * 8 + 7, none⟩ = some (.int .i64 ((rd_T71 t101 t105).f5)) := hcc27 7 _ rfl; have hf27_0 : w35.frozen? ⟨go27, (t105 : Int).toNat * 8, none⟩ = false := hfr27 0; have hf27_1 : w35.frozen? ⟨go27, (t105 : Int).toNat * 8 + 1, none⟩ = false := hfr27 1; have hf27_2 : w35.frozen? ⟨go27, (t105 : Int).toNat * 8 + 2, none⟩ = false := hfr27 2; have hf27_3 : w35.frozen? ⟨go27, (t105 : Int).toNat * 8 + 3, none⟩ = false := hfr27 3; have hf27_4 : w35.frozen? ⟨go27, (t105 : Int).toNat * 8 + 4, none⟩ = false := hfr27 4; have hf27_5 : w35.frozen? ⟨go27, (t105 : Int).toNat * 8 + 5, none⟩ = false := hfr27 5; have hf27_6 : w35.frozen? ⟨go27, (t105 : Int).toNat * 8 + 6, none⟩ = false := hfr27 6; have hf27_7 : w35.frozen? ⟨go27, (t105 : Int).toNat * 8 + 7, none⟩ = false := hfr27 7; clear hcl27 hcc27 hfr27 hM27; replace p27 := eq_true p27; replace q27 := eq_true q27; have HX36 := am (show Kd.R k71 71 w35 w.heap.size (fun _ => True) (.slice (some ⟨go27, 0, none⟩) t101.length co29) t101 from (KR HO103)); obtain ⟨ce36, hcl36, hM36, hcc36, hfr36⟩ := Kd.R_elem HX36.out z71 (t105 : Int) (OD) (by have h_ : (t105 : Int) < ((t101.length : Int) : Int) := OD; first | exact h_ | (have e_ := (Kd.R_reads' HO103.out).1; omega) | simpa using h_); obtain rfl := k71_openM hM36; have HP36 := Kd.R_seg HX36.out (t105 : Int) (OD) (by have h_ : (t105 : Int) < ((t101.length : Int) : Int) := OD; first | exact h_ | (have e_ := (Kd.R_reads' HO103.out).1; omega) | simpa using h_) (seg := [.int .i64 t118]) (j := 1) hcl36 hcc36 (show 2 ≤ 8 from by decide) (x' := (⟨(rd_T71 t101 t105).f0, t118, (⟨(rd_T71 t101 t105).f2.f0, (rd_T71 t101 t105).f2.f1⟩ : S43), (⟨(rd_T71 t101 t105).f3.f0, (rd_T71 t101 t105).f3.f1⟩ : S43), (rd_T71 t101 t105).f4, (rd_T71 t101 t105).f5⟩ : S71)) (k71_mkM _ _ _ (⟨(rd_T71 t101 t105).f0, t118, (⟨(rd_T71 t101 t105).f2.f0, (rd_T71 t101 t105).f2.f1⟩ : S43), (⟨(rd_T71 t101 t105).f3.f0, (rd_T71 t101 t105).f3.f1⟩ : S43), (rd_T71 t101 t105).f4, (rd_T71 t101 t105).f5⟩ : S71) ) (fun _ hk => hk); have hx36_1 := hcc36 1 _ rfl; (try simp only [show (k71).sz = 8 from rfl, Nat.mul_one, Nat.add_zero] at hx36_1); have hf36_1 := hfr36 1; (try simp only [show (k71).sz = 8 from rfl, Nat.mul_one, Nat.add_zero] at hf36_1); clear hcl36 hcc36 hfr36 hM36) | ((with_reducible refine gate_store (t := 3) (p := 34) rfl ?_); refine store_event (t := 3) (p := 34) (v := ?vo_w37) (w1 := (w35.setCell ⟨go27, (t105 : Int).toNat * 8 + 1, none⟩ (.int .i64 t118))) ?hg ?ho ?hn ?hr ?_; (case ho => rfl); (case hg => rfl); (case hn => rfl); (case hr => first | (go_simp; done) | (go_simp; rfl)); intro w37 hw; have hg : w35.grownBy w37 (some go27) := (by rw [hw]; exact HP36.2); have hp_ : Kd.R k71 71 w37 w.heap.size (fun _ => True) (.slice (some ⟨go27, 0, none⟩) t101.length co29) y120 := (by rw [hw, Ny120.out]; exact HP36.1); clear HP36; replace HI0 := am (IsS140.grown (I140_0 HI0) hg (IsS140.own_ne HI0.out HO103.out (by decide))); replace HO117 := am (Kd.R_over' (v := (.slice (some ⟨go27, 0, none⟩) t101.length co29)) (KR HO117) (Kd.R_typed HO103.out) (by decide) hg); replace HB := am ((by rw [hw]; exact below_set (HB.out) (Nat.le_trans HL.out GB27.out) : Below w0.heap.size w0 w37)); replace HK := am (KeepBut.trans (J0 HK) (KeepBut.of_grown hg g) (Kd.R_base2 HO103.out)); replace HO103 := am (hp_); clear hg hw hp_))
      go_ret
      exact ⟨_, ER, by (with_reducible repeat (first | apply Kd.R_alloc | apply Kd.R_drewN | apply Kd.R_drew)); exact HO103.out, I140_0 HI0, K1 HB (IsS140.ge HI0.out), J0 HK⟩
     ·rw [if_neg c26] at H
      exact absurd H (by simp)
    ·rw [if_neg c25] at H
     exact absurd H (by simp)
   ·rw [if_neg c23] at H
    have c23b0 : (t107 == 1) = false := beq_eq_false_iff_ne.mpr c23
    have c23b1 : (t107 != 1) = true := bne_iff_ne.mpr c23
    by_cases c38 : t107 = 2
    ·rw [if_pos c38] at H
     have c38b0 : (t107 == 2) = true := beq_iff_eq.mpr c38
     have c38b1 : (t107 != 2) = false := bne_eq_false_iff_eq.mpr c38
     clear c38
     obtain ⟨y121, hy121⟩ : ∃ y_ : List Int, y_ = (([(-1), 65536] : List Int)) := ⟨_, rfl⟩
     replace H : ((spec_l1Rd_one.f k s0_0 t108 y121).bind fun bt124 => (if 0 ≤ t105 then (if t105 < (t101.length : Int) then (some ((t101.set (t105 : Int).toNat (⟨(rd_T71 t101 t105).f0, (rd_T71 t101 t105).f1, (⟨(rd_T71 t101 t105).f2.f0, (rd_T71 t101 t105).f2.f1⟩ : S43), (⟨(rd_T71 t101 t105).f3.f0, (rd_T71 t101 t105).f3.f1⟩ : S43), bt124.1, (rd_T71 t101 t105).f5⟩ : S71)), bt124.2)) else (none)) else (none))) = some (r1, r2) := by first | (rw [hy121]; with_reducible exact H) | (have H2_ := (Option.bind_some _ _).symm.trans H; rw [hy121]; with_reducible exact H2_) | (have H2_ := (Option.bind_some _ _).symm.trans H; with_reducible exact H2_) | with_reducible exact H | (rw [hy121]; exact H) | exact H
     have Ny121 := Aside0.mk hy121
     clear hy121
     replace H := Option.bind_eq_some_iff.mp H
     obtain ⟨⟨t124, t125⟩, A390, H⟩ := H
     replace H : (if 0 ≤ t105 then (if t105 < (t101.length : Int) then (some ((t101.set (t105 : Int).toNat (⟨(rd_T71 t101 t105).f0, (rd_T71 t101 t105).f1, (⟨(rd_T71 t101 t105).f2.f0, (rd_T71 t101 t105).f2.f1⟩ : S43), (⟨(rd_T71 t101 t105).f3.f0, (rd_T71 t101 t105).f3.f1⟩ : S43), t124, (rd_T71 t101 t105).f5⟩ : S71)), t125)) else (none)) else (none)) = some (r1, r2) := H
     have A39 := Aside0.mk A390
     clear A390
     by_cases c40 : 0 ≤ t105
     ·rw [if_pos c40] at H
      have c40b0 : decide (0 ≤ t105) = true := decide_eq_true c40
      clear c40
      by_cases c41 : t105 < (t101.length : Int)
      ·rw [if_pos c41] at H
       have c41b0 : decide (t105 < (t101.length : Int)) = true := decide_eq_true c41
       clear c41
       obtain ⟨y126, hy126⟩ : ∃ y_ : List (S71), y_ = (t101.set (t105 : Int).toNat (⟨(rd_T71 t101 t105).f0, (rd_T71 t101 t105).f1, (⟨(rd_T71 t101 t105).f2.f0, (rd_T71 t101 t105).f2.f1⟩ : S43), (⟨(rd_T71 t101 t105).f3.f0, (rd_T71 t101 t105).f3.f1⟩ : S43), t124, (rd_T71 t101 t105).f5⟩ : S71)) := ⟨_, rfl⟩
       replace H : (some (y126, t125)) = some (r1, r2) := by first | (rw [hy126]; with_reducible exact H) | (have H2_ := (Option.bind_some _ _).symm.trans H; rw [hy126]; with_reducible exact H2_) | (have H2_ := (Option.bind_some _ _).symm.trans H; with_reducible exact H2_) | with_reducible exact H | (rw [hy126]; exact H) | exact H
       have Ny126 := Aside0.mk hy126
       clear hy126
       simp only [Option.some.injEq, Prod.mk.injEq] at H
       obtain ⟨rfl, rfl⟩ := H
       go_enter Try.func95, Try.ntmps95
       go_wp2_with (first | ((with_reducible refine gate_callee (f := 132) rfl ?_); refine goesL_ (some 6) rfl rfl Try.func132 (by kernel_rfl) rfl #[.pointer (some ⟨g, 0, none⟩)] rfl MT ?_; (with_reducible refine (spec_l12Rules.calls k g s0_0 s0_1 t101 t104 w0 _ ?side1 ?side2 A2.out).mono ?_); (case side1 => exact I140_0 HI0); (case side2 => exact K1 HB (IsS140.ge HI0.out)); rintro e w43 ⟨v102, rfl, ho0, hi, hb, hk⟩; refine ⟨_, rfl, ?_⟩; have HO103 := am (Kd.R_lower ho0 (keep_size (w := w) (g := g) (row := none) (J0 HK))); replace HK := am (KeepBut.trans (J0 HK) hk (.inl rfl)); replace HB := am (hb); replace HI0 := am (hi); (try clear hb); (try clear hk); (try clear hi); (try clear ho0); obtain ⟨Ao44, co44, eo44⟩ := Kd.R_slice HO103.out; subst eo44) | ((with_reducible refine gate_callee (f := 69) rfl ?_); refine goesL_ (some 14) rfl rfl Try.func69 (by kernel_rfl) rfl #[.pointer (some ⟨g, 0, none⟩), .int .i64 (t101.length : Int)] rfl MT ?_; (with_reducible refine (spec_l1Rd_pick.calls k g s0_0 t104 (t101.length : Int) t105 t106 w0 _ ?side1 ?side2 A6.out).mono ?_); (case side1 => exact I140_0 HI0); (case side2 => exact K1 HB (IsS140.ge HI0.out)); rintro e w45 ⟨rfl, hi, hb, hk⟩; refine ⟨_, rfl, ?_⟩; replace HO103 := am (Kd.R_mono (Kd.R_keep (IsS140.apart (show IsS140 w0 _ g s0_0 t104 from I140_0 HI0) (KR HO103) (by decide)) hk (fun _ h => h.2)) (fun _ h => h.1)); replace HK := am (KeepBut.trans (J0 HK) hk (.inl rfl)); replace HB := am (hb); replace HI0 := am (hi); (try clear hb); (try clear hk); (try clear hi)) | ((with_reducible refine gate_callee (f := 69) rfl ?_); refine goesL_ (some 16) rfl rfl Try.func69 (by kernel_rfl) rfl #[.pointer (some ⟨g, 0, none⟩), .int .i64 20] rfl MT ?_; (with_reducible refine (spec_l1Rd_pick.calls k g s0_0 t106 20 t107 t108 w0 _ ?side1 ?side2 A7.out).mono ?_); (case side1 => exact I140_0 HI0); (case side2 => exact K1 HB (IsS140.ge HI0.out)); rintro e w46 ⟨rfl, hi, hb, hk⟩; refine ⟨_, rfl, ?_⟩; replace HO103 := am (Kd.R_mono (Kd.R_keep (IsS140.apart (show IsS140 w0 _ g s0_0 t106 from I140_0 HI0) (KR HO103) (by decide)) hk (fun _ h => h.2)) (fun _ h => h.1)); replace HK := am (KeepBut.trans (J0 HK) hk (.inl rfl)); replace HB := am (hb); replace HI0 := am (hi); (try clear hb); (try clear hk); (try clear hi)) | ((with_reducible refine gate_dst (N := 40) rfl ?_); refine Kd.R_lit (Kd.int .i64) _ 3 ?hg (N := 40) ?hd (xs := ([(-1), 65536] : List Int)) (inner := [.int .i64 (-1), .int .i64 65536]) (ok := fun _ => True) (okp := fun _ => True) ?hr ?hp (fun _ hk => hk) trivial (Below.refl _ _) (Nat.le_refl _) (by simp) ?_; (case hd => rfl); (case hg => rfl); (case hr => first | (go_simp; done) | (go_simp; rfl)); (case hp => exact (Reps.one (show Kd.M (Kd.int .i64) _ _ _ (-1) [.int .i64 (-1)] from rfl) (Reps.one (show Kd.M (Kd.int .i64) _ _ _ 65536 [.int .i64 65536] from rfl) (Reps.none _ _)))); intro v122 w47 ho48 hb hg_ hnew_; clear hg_ hnew_; (first | rw [← Ny121.out] at ho48 | (simp only [Int.reduceToNat] at ho48; rw [← Ny121.out] at ho48)); replace HO103 := am (Kd.R_below (KR HO103) hb); have HO123 := am (Kd.R_lower ho48 (keep_size (w := w) (g := g) (row := none) (J0 HK))); replace HK := am (KeepBut.trans (J0 HK) (KeepBut.of_below hb g none) (.inl rfl)); replace HB := am (below_step (K1 HB (IsS140.ge HI0.out)) hb); replace HI0 := am (IsS140.below (I140_0 HI0) hb); clear hb ho48; obtain ⟨Ao49, co49, eo49⟩ := Kd.R_slice HO123.out; subst eo49) | ((with_reducible refine gate_callee (f := 115) rfl ?_); refine goesL_ (some 41) rfl rfl Try.func115 (by kernel_rfl) rfl #[.pointer (some ⟨g, 0, none⟩), .slice Ao49 y121.length co49] rfl MT ?_; (with_reducible refine (spec_l1Rd_one.calls k g s0_0 t108 _ _ y121 t124 t125 w0 _ ?side1 ?side2 ?side3 ?side4 ?side5 A39.out).mono ?_); (case side1 => exact I140_0 HI0); (case side2 => exact K1 HB (IsS140.ge HI0.out)); (case side3 => exact KC (Kd.R_reads' HO123.out).2.2); (case side4 => exact (Kd.R_reads' HO123.out).2.1); (case side5 => exact far_slice (IsS140.own_ne HI0.out HO123.out (by decide))); rintro e w50 ⟨rfl, hi, hb, hk⟩; refine ⟨_, rfl, ?_⟩; replace HO103 := am (Kd.R_mono (Kd.R_keep (IsS140.apart (show IsS140 w0 _ g s0_0 t108 from I140_0 HI0) (KR HO103) (by decide)) hk (fun _ h => h.2)) (fun _ h => h.1)); replace HO123 := am (Kd.R_mono (Kd.R_keep (IsS140.apart (show IsS140 w0 _ g s0_0 t108 from I140_0 HI0) (KR HO123) (by decide)) hk (fun _ h => h.2)) (fun _ h => h.1)); replace HK := am (KeepBut.trans (J0 HK) hk (.inl rfl)); replace HB := am (hb); replace HI0 := am (hi); (try clear hb); (try clear hk); (try clear hi); have p42 : 0 ≤ (t105 : Int) := OD; have q42 : (t105 : Int) < ((t101.length : Int) : Int) := OD; obtain ⟨go42, co42, eo42, gb42, gl42, cl42, HG42⟩ := Kd.R_form HO103.out (by omega); (first | cases eo42 | (injection eo42 with ea_ en_ ec_; (first | subst ea_ | (injection ea_ with ea_; subst ea_)); subst ec_; clear en_)); have GB42 := Aside0.mk gb42; have GG42 := Aside0.mk HG42; clear gb42 gl42 HG42; obtain ⟨ce42, hcl42, hM42, hcc42, hfr42⟩ := Kd.R_elem HO103.out z71 (t105 : Int) p42 q42; obtain rfl := k71_openM hM42; have hx42_0 : w50.cell? ⟨go42, (t105 : Int).toNat * 8, none⟩ = some (.int .i64 ((rd_T71 t101 t105).f0)) := hcc42 0 _ rfl; have hx42_1 : w50.cell? ⟨go42, (t105 : Int).toNat * 8 + 1, none⟩ = some (.int .i64 ((rd_T71 t101 t105).f1)) := hcc42 1 _ rfl; have hx42_2 : w50.cell? ⟨go42, (t105 : Int).toNat * 8 + 2, none⟩ = some (.int .i64 ((rd_T71 t101 t105).f2.f0)) := hcc42 2 _ rfl; have hx42_3 : w50.cell? ⟨go42, (t105 : Int).toNat * 8 + 3, none⟩ = some (.int .i64 ((rd_T71 t101 t105).f2.f1)) := hcc42 3 _ rfl; have hx42_4 : w50.cell? ⟨go42, (t105 : Int).toNat * 8 + 4, none⟩ = some (.int .i64 ((rd_T71 t101 t105).f3.f0)) := hcc42 4 _ rfl; have hx42_5 : w50.cell? ⟨go42, (t105 : Int).toNat * 8 + 5, none⟩ = some (.int .i64 ((rd_T71 t101 t105).f3.f1)) := hcc42 5 _ rfl; have hx42_6 : w50.cell? ⟨go42, (t105 : Int).toNat * 8 + 6, none⟩ = some (.int .i64 ((rd_T71 t101 t105).f4)) := hcc42 6 _ rfl; have hx42_7 : w50.cell? ⟨go42, (t105 : Int).toNat * 8 + 7, none⟩ = some (.int .i64 ((rd_T71 t101 t105).f5)) := hcc42 7 _ rfl; have hf42_0 : w50.frozen? ⟨go42, (t105 : Int).toNat * 8, none⟩ = false := hfr42 0; have hf42_1 : w50.frozen? ⟨go42, (t105 : Int).toNat * 8 + 1, none⟩ = false := hfr42 1; have hf42_2 : w50.frozen? ⟨go42, (t105 : Int).toNat * 8 + 2, none⟩ = false := hfr42 2; have hf42_3 : w50.frozen? ⟨go42, (t105 : Int).toNat * 8 + 3, none⟩ = false := hfr42 3; have hf42_4 : w50.frozen? ⟨go42, (t105 : Int).toNat * 8 + 4, none⟩ = false := hfr42 4; have hf42_5 : w50.frozen? ⟨go42, (t105 : Int).toNat * 8 + 5, none⟩ = false := hfr42 5; have hf42_6 : w50.frozen? ⟨go42, (t105 : Int).toNat * 8 + 6, none⟩ = false := hfr42 6; have hf42_7 : w50.frozen? ⟨go42, (t105 : Int).toNat * 8 + 7, none⟩ = false := hfr42 7; clear hcl42 hcc42 hfr42 hM42; replace p42 := eq_true p42; replace q42 := eq_true q42; have HX51 := am (show Kd.R k71 71 w50 w.heap.size (fun _ => True) (.slice (some ⟨go42, 0, none⟩) t101.length co44) t101 from (KR HO103)); obtain ⟨ce51, hcl51, hM51, hcc51, hfr51⟩ := Kd.R_elem HX51.out z71 (t105 : Int) (OD) (by have h_ : (t105 : Int) < ((t101.length : Int) : Int) := OD; first | exact h_ | (have e_ := (Kd.R_reads' HO103.out).1; omega) | simpa using h_); obtain rfl := k71_openM hM51; have HP51 := Kd.R_seg HX51.out (t105 : Int) (OD) (by have h_ : (t105 : Int) < ((t101.length : Int) : Int) := OD; first | exact h_ | (have e_ := (Kd.R_reads' HO103.out).1; omega) | simpa using h_) (seg := [.int .i64 t124]) (j := 6) hcl51 hcc51 (show 7 ≤ 8 from by decide) (x' := (⟨(rd_T71 t101 t105).f0, (rd_T71 t101 t105).f1, (⟨(rd_T71 t101 t105).f2.f0, (rd_T71 t101 t105).f2.f1⟩ : S43), (⟨(rd_T71 t101 t105).f3.f0, (rd_T71 t101 t105).f3.f1⟩ : S43), t124, (rd_T71 t101 t105).f5⟩ : S71)) (k71_mkM _ _ _ (⟨(rd_T71 t101 t105).f0, (rd_T71 t101 t105).f1, (⟨(rd_T71 t101 t105).f2.f0, (rd_T71 t101 t105).f2.f1⟩ : S43), (⟨(rd_T71 t101 t105).f3.f0, (rd_T71 t101 t105).f3.f1⟩ : S43), t124, (rd_T71 t101 t105).f5⟩ : S71) ) (fun _ hk => hk); have hx51_6 := hcc51 6 _ rfl; (try simp only [show (k71).sz = 8 from rfl, Nat.mul_one, Nat.add_zero] at hx51_6); have hf51_6 := hfr51 6; (try simp only [show (k71).sz = 8 from rfl, Nat.mul_one, Nat.add_zero] at hf51_6); clear hcl51 hcc51 hfr51 hM51) | ((with_reducible refine gate_store (t := 3) (p := 43) rfl ?_); refine store_event (t := 3) (p := 43) (v := ?vo_w52) (w1 := (w50.setCell ⟨go42, (t105 : Int).toNat * 8 + 6, none⟩ (.int .i64 t124))) ?hg ?ho ?hn ?hr ?_; (case ho => rfl); (case hg => rfl); (case hn => rfl); (case hr => first | (go_simp; done) | (go_simp; rfl)); intro w52 hw; have hg : w50.grownBy w52 (some go42) := (by rw [hw]; exact HP51.2); have hp_ : Kd.R k71 71 w52 w.heap.size (fun _ => True) (.slice (some ⟨go42, 0, none⟩) t101.length co44) y126 := (by rw [hw, Ny126.out]; exact HP51.1); clear HP51; replace HI0 := am (IsS140.grown (I140_0 HI0) hg (IsS140.own_ne HI0.out HO103.out (by decide))); replace HO123 := am (Kd.R_over' (v := (.slice (some ⟨go42, 0, none⟩) t101.length co44)) (KR HO123) (Kd.R_typed HO103.out) (by decide) hg); replace HB := am ((by rw [hw]; exact below_set (HB.out) (Nat.le_trans HL.out GB42.out) : Below w0.heap.size w0 w52)); replace HK := am (KeepBut.trans (J0 HK) (KeepBut.of_grown hg g) (Kd.R_base2 HO103.out)); replace HO103 := am (hp_); clear hg hw hp_))
       go_ret
       exact ⟨_, ER, by (with_reducible repeat (first | apply Kd.R_alloc | apply Kd.R_drewN | apply Kd.R_drew)); exact HO103.out, I140_0 HI0, K1 HB (IsS140.ge HI0.out), J0 HK⟩
      ·rw [if_neg c41] at H
       exact absurd H (by simp)
     ·rw [if_neg c40] at H
      exact absurd H (by simp)
    ·rw [if_neg c38] at H
     have c38b0 : (t107 == 2) = false := beq_eq_false_iff_ne.mpr c38
     have c38b1 : (t107 != 2) = true := bne_iff_ne.mpr c38
     by_cases c53 : t107 = 3
     ·rw [if_pos c53] at H
      have c53b0 : (t107 == 3) = true := beq_iff_eq.mpr c53
      have c53b1 : (t107 != 3) = false := bne_eq_false_iff_eq.mpr c53
      clear c53
      replace H := Option.bind_eq_some_iff.mp H
      obtain ⟨⟨t127, t128, t129⟩, A540, H⟩ := H
      replace H : (if 0 ≤ t105 then (if t105 < (t101.length : Int) then (some ((t101.set (t105 : Int).toNat (⟨(rd_T71 t101 t105).f0, (rd_T71 t101 t105).f1, (⟨t127, t128⟩ : S43), (⟨(rd_T71 t101 t105).f3.f0, (rd_T71 t101 t105).f3.f1⟩ : S43), (rd_T71 t101 t105).f4, (rd_T71 t101 t105).f5⟩ : S71)), t129)) else (none)) else (none)) = some (r1, r2) := H
      have A54 := Aside0.mk A540
      clear A540
      by_cases c55 : 0 ≤ t105
      ·rw [if_pos c55] at H
       have c55b0 : decide (0 ≤ t105) = true := decide_eq_true c55
       clear c55
       by_cases c56 : t105 < (t101.length : Int)
       ·rw [if_pos c56] at H
        have c56b0 : decide (t105 < (t101.length : Int)) = true := decide_eq_true c56
        clear c56
        obtain ⟨y130, hy130⟩ : ∃ y_ : List (S71), y_ = (t101.set (t105 : Int).toNat (⟨(rd_T71 t101 t105).f0, (rd_T71 t101 t105).f1, (⟨t127, t128⟩ : S43), (⟨(rd_T71 t101 t105).f3.f0, (rd_T71 t101 t105).f3.f1⟩ : S43), (rd_T71 t101 t105).f4, (rd_T71 t101 t105).f5⟩ : S71)) := ⟨_, rfl⟩
        replace H : (some (y130, t129)) = some (r1, r2) := by first | (rw [hy130]; with_reducible exact H) | (have H2_ := (Option.bind_some _ _).symm.trans H; rw [hy130]; with_reducible exact H2_) | (have H2_ := (Option.bind_some _ _).symm.trans H; with_reducible exact H2_) | with_reducible exact H | (rw [hy130]; exact H) | exact H
        have Ny130 := Aside0.mk hy130
        clear hy130
        simp only [Option.some.injEq, Prod.mk.injEq] at H
        obtain ⟨rfl, rfl⟩ := H
        go_enter Try.func95, Try.ntmps95
        go_wp2_with (first | ((with_reducible refine gate_callee (f := 132) rfl ?_); refine goesL_ (some 6) rfl rfl Try.func132 (by kernel_rfl) rfl #[.pointer (some ⟨g, 0, none⟩)] rfl MT ?_; (with_reducible refine (spec_l12Rules.calls k g s0_0 s0_1 t101 t104 w0 _ ?side1 ?side2 A2.out).mono ?_); (case side1 => exact I140_0 HI0); (case side2 => exact K1 HB (IsS140.ge HI0.out)); rintro e w58 ⟨v102, rfl, ho0, hi, hb, hk⟩; refine ⟨_, rfl, ?_⟩; have HO103 := am (Kd.R_lower ho0 (keep_size (w := w) (g := g) (row := none) (J0 HK))); replace HK := am (KeepBut.trans (J0 HK) hk (.inl rfl)); replace HB := am (hb); replace HI0 := am (hi); (try clear hb); (try clear hk); (try clear hi); (try clear ho0); obtain ⟨Ao59, co59, eo59⟩ := Kd.R_slice HO103.out; subst eo59) | ((with_reducible refine gate_callee (f := 69) rfl ?_); refine goesL_ (some 14) rfl rfl Try.func69 (by kernel_rfl) rfl #[.pointer (some ⟨g, 0, none⟩), .int .i64 (t101.length : Int)] rfl MT ?_; (with_reducible refine (spec_l1Rd_pick.calls k g s0_0 t104 (t101.length : Int) t105 t106 w0 _ ?side1 ?side2 A6.out).mono ?_); (case side1 => exact I140_0 HI0); (case side2 => exact K1 HB (IsS140.ge HI0.out)); rintro e w60 ⟨rfl, hi, hb, hk⟩; refine ⟨_, rfl, ?_⟩; replace HO103 := am (Kd.R_mono (Kd.R_keep (IsS140.apart (show IsS140 w0 _ g s0_0 t104 from I140_0 HI0) (KR HO103) (by decide)) hk (fun _ h => h.2)) (fun _ h => h.1)); replace HK := am (KeepBut.trans (J0 HK) hk (.inl rfl)); replace HB := am (hb); replace HI0 := am (hi); (try clear hb); (try clear hk); (try clear hi)) | ((with_reducible refine gate_callee (f := 69) rfl ?_); refine goesL_ (some 16) rfl rfl Try.func69 (by kernel_rfl) rfl #[.pointer (some ⟨g, 0, none⟩), .int .i64 20] rfl MT ?_; (with_reducible refine (spec_l1Rd_pick.calls k g s0_0 t106 20 t107 t108 w0 _ ?side1 ?side2 A7.out).mono ?_); (case side1 => exact I140_0 HI0); (case side2 => exact K1 HB (IsS140.ge HI0.out)); rintro e w61 ⟨rfl, hi, hb, hk⟩; refine ⟨_, rfl, ?_⟩; replace HO103 := am (Kd.R_mono (Kd.R_keep (IsS140.apart (show IsS140 w0 _ g s0_0 t106 from I140_0 HI0) (KR HO103) (by decide)) hk (fun _ h => h.2)) (fun _ h => h.1)); replace HK := am (KeepBut.trans (J0 HK) hk (.inl rfl)); replace HB := am (hb); replace HI0 := am (hi); (try clear hb); (try clear hk); (try clear hi)) | ((with_reducible refine gate_callee (f := 116) rfl ?_); refine goesL_ (some 49) rfl rfl Try.func116 (by kernel_rfl) rfl #[.pointer (some ⟨g, 0, none⟩)] rfl MT ?_; (with_reducible refine (spec_l12AnyBlock.calls k g s0_0 t108 t127 t128 t129 w0 _ ?side1 ?side2 A54.out).mono ?_); (case side1 => exact I140_0 HI0); (case side2 => exact K1 HB (IsS140.ge HI0.out)); rintro e w62 ⟨rfl, hi, hb, hk⟩; refine ⟨_, rfl, ?_⟩; replace HO103 := am (Kd.R_mono (Kd.R_keep (IsS140.apart (show IsS140 w0 _ g s0_0 t108 from I140_0 HI0) (KR HO103) (by decide)) hk (fun _ h => h.2)) (fun _ h => h.1)); replace HK := am (KeepBut.trans (J0 HK) hk (.inl rfl)); replace HB := am (hb); replace HI0 := am (hi); (try clear hb); (try clear hk); (try clear hi); have p57 : 0 ≤ (t105 : Int) := OD; have q57 : (t105 : Int) < ((t101.length : Int) : Int) := OD; obtain ⟨go57, co57, eo57, gb57, gl57, cl57, HG57⟩ := Kd.R_form HO103.out (by omega); (first | cases eo57 | (injection eo57 with ea_ en_ ec_; (first | subst ea_ | (injection ea_ with ea_; subst ea_)); subst ec_; clear en_)); have GB57 := Aside0.mk gb57; have GG57 := Aside0.mk HG57; clear gb57 gl57 HG57; obtain ⟨ce57, hcl57, hM57, hcc57, hfr57⟩ := Kd.R_elem HO103.out z71 (t105 : Int) p57 q57; obtain rfl := k71_openM hM57; have hx57_0 : w62.cell? ⟨go57, (t105 : Int).toNat * 8, none⟩ = some (.int .i64 ((rd_T71 t101 t105).f0)) := hcc57 0 _ rfl; have hx57_1 : w62.cell? ⟨go57, (t105 : Int).toNat * 8 + 1, none⟩ = some (.int .i64 ((rd_T71 t101 t105).f1)) := hcc57 1 _ rfl; have hx57_2 : w62.cell? ⟨go57, (t105 : Int).toNat * 8 + 2, none⟩ = some (.int .i64 ((rd_T71 t101 t105).f2.f0)) := hcc57 2 _ rfl; have hx57_3 : w62.cell? ⟨go57, (t105 : Int).toNat * 8 + 3, none⟩ = some (.int .i64 ((rd_T71 t101 t105).f2.f1)) := hcc57 3 _ rfl; have hx57_4 : w62.cell? ⟨go57, (t105 : Int).toNat * 8 + 4, none⟩ = some (.int .i64 ((rd_T71 t101 t105).f3.f0)) := hcc57 4 _ rfl; have hx57_5 : w62.cell? ⟨go57, (t105 : Int).toNat * 8 + 5, none⟩ = some (.int .i64 ((rd_T71 t101 t105).f3.f1)) := hcc57 5 _ rfl; have hx57_6 : w62.cell? ⟨go57, (t105 : Int).toNat * 8 + 6, none⟩ = some (.int .i64 ((rd_T71 t101 t105).f4)) := hcc57 6 _ rfl; have hx57_7 : w62.cell? ⟨go57, (t105 : Int).toNat * 8 + 7, none⟩ = some (.int .i64 ((rd_T71 t101 t105).f5)) := hcc57 7 _ rfl; have hf57_0 : w62.frozen? ⟨go57, (t105 : Int).toNat * 8, none⟩ = false := hfr57 0; have hf57_1 : w62.frozen? ⟨go57, (t105 : Int).toNat * 8 + 1, none⟩ = false := hfr57 1; have hf57_2 : w62.frozen? ⟨go57, (t105 : Int).toNat * 8 + 2, none⟩ = false := hfr57 2; have hf57_3 : w62.frozen? ⟨go57, (t105 : Int).toNat * 8 + 3, none⟩ = false := hfr57 3; have hf57_4 : w62.frozen? ⟨go57, (t105 : Int).toNat * 8 + 4, none⟩ = false := hfr57 4; have hf57_5 : w62.frozen? ⟨go57, (t105 : Int).toNat * 8 + 5, none⟩ = false := hfr57 5; have hf57_6 : w62.frozen? ⟨go57, (t105 : Int).toNat * 8 + 6, none⟩ = false := hfr57 6; have hf57_7 : w62.frozen? ⟨go57, (t105 : Int).toNat * 8 + 7, none⟩ = false := hfr57 7; clear hcl57 hcc57 hfr57 hM57; replace p57 := eq_true p57; replace q57 := eq_true q57; have HX63 := am (show Kd.R k71 71 w62 w.heap.size (fun _ => True) (.slice (some ⟨go57, 0, none⟩) t101.length co59) t101 from (KR HO103)); obtain ⟨ce63, hcl63, hM63, hcc63, hfr63⟩ := Kd.R_elem HX63.out z71 (t105 : Int) (OD) (by have h_ : (t105 : Int) < ((t101.length : Int) : Int) := OD; first | exact h_ | (have e_ := (Kd.R_reads' HO103.out).1; omega) | simpa using h_); obtain rfl := k71_openM hM63; have HP63 := Kd.R_seg HX63.out (t105 : Int) (OD) (by have h_ : (t105 : Int) < ((t101.length : Int) : Int) := OD; first | exact h_ | (have e_ := (Kd.R_reads' HO103.out).1; omega) | simpa using h_) (seg := [.int .i64 t127, .int .i64 t128]) (j := 2) hcl63 hcc63 (show 4 ≤ 8 from by decide) (x' := (⟨(rd_T71 t101 t105).f0, (rd_T71 t101 t105).f1, (⟨t127, t128⟩ : S43), (⟨(rd_T71 t101 t105).f3.f0, (rd_T71 t101 t105).f3.f1⟩ : S43), (rd_T71 t101 t105).f4, (rd_T71 t101 t105).f5⟩ : S71)) (k71_mkM _ _ _ (⟨(rd_T71 t101 t105).f0, (rd_T71 t101 t105).f1, (⟨t127, t128⟩ : S43), (⟨(rd_T71 t101 t105).f3.f0, (rd_T71 t101 t105).f3.f1⟩ : S43), (rd_T71 t101 t105).f4, (rd_T71 t101 t105).f5⟩ : S71) ) (fun _ hk => hk); have hx63_2 := hcc63 2 _ rfl; (try simp only [show (k71).sz = 8 from rfl, Nat.mul_one, Nat.add_zero] at hx63_2); have hf63_2 := hfr63 2; (try simp only [show (k71).sz = 8 from rfl, Nat.mul_one, Nat.add_zero] at hf63_2); have hx63_3 := hcc63 3 _ rfl; (try simp only [show (k71).sz = 8 from rfl, Nat.mul_one, Nat.add_zero] at hx63_3); have hf63_3 := hfr63 3; (try simp only [show (k71).sz = 8 from rfl, Nat.mul_one, Nat.add_zero] at hf63_3); clear hcl63 hcc63 hfr63 hM63) | ((with_reducible refine gate_store (t := 43) (p := 51) rfl ?_); refine store_event (t := 43) (p := 51) (v := ?vo_w64) (w1 := ((w62.setCell ⟨go57, (t105 : Int).toNat * 8 + 2, none⟩ (.int .i64 t127)).setCell ⟨go57, (t105 : Int).toNat * 8 + 3, none⟩ (.int .i64 t128))) ?hg ?ho ?hn ?hr ?_; (case ho => rfl); (case hg => rfl); (case hn => rfl); (case hr => first | (go_simp; done) | (go_simp; rfl)); intro w64 hw; have hg : w62.grownBy w64 (some go57) := (by rw [hw]; exact HP63.2); have hp_ : Kd.R k71 71 w64 w.heap.size (fun _ => True) (.slice (some ⟨go57, 0, none⟩) t101.length co59) y130 := (by rw [hw, Ny130.out]; exact HP63.1); clear HP63; replace HI0 := am (IsS140.grown (I140_0 HI0) hg (IsS140.own_ne HI0.out HO103.out (by decide))); replace HB := am ((by rw [hw]; exact below_set (below_set (HB.out) (Nat.le_trans HL.out GB57.out)) (Nat.le_trans HL.out GB57.out) : Below w0.heap.size w0 w64)); replace HK := am (KeepBut.trans (J0 HK) (KeepBut.of_grown hg g) (Kd.R_base2 HO103.out)); replace HO103 := am (hp_); clear hg hw hp_))
        go_ret
        exact ⟨_, ER, by (with_reducible repeat (first | apply Kd.R_alloc | apply Kd.R_drewN | apply Kd.R_drew)); exact HO103.out, I140_0 HI0, K1 HB (IsS140.ge HI0.out), J0 HK⟩
       ·rw [if_neg c56] at H
        exact absurd H (by simp)
      ·rw [if_neg c55] at H
       exact absurd H (by simp)
     ·rw [if_neg c53] at H
      have c53b0 : (t107 == 3) = false := beq_eq_false_iff_ne.mpr c53
      have c53b1 : (t107 != 3) = true := bne_iff_ne.mpr c53
      by_cases c65 : t107 = 4
      ·rw [if_pos c65] at H
       have c65b0 : (t107 == 4) = true := beq_iff_eq.mpr c65
       have c65b1 : (t107 != 4) = false := bne_eq_false_iff_eq.mpr c65
       clear c65
       have H' := Aside0.mk H
       clear H
       go_enter Try.func95, Try.ntmps95
       go_wp2_with (first | ((with_reducible refine gate_callee (f := 132) rfl ?_); refine goesL_ (some 6) rfl rfl Try.func132 (by kernel_rfl) rfl #[.pointer (some ⟨g, 0, none⟩)] rfl MT ?_; (with_reducible refine (spec_l12Rules.calls k g s0_0 s0_1 t101 t104 w0 _ ?side1 ?side2 A2.out).mono ?_); (case side1 => exact I140_0 HI0); (case side2 => exact K1 HB (IsS140.ge HI0.out)); rintro e w66 ⟨v102, rfl, ho0, hi, hb, hk⟩; refine ⟨_, rfl, ?_⟩; have HO103 := am (Kd.R_lower ho0 (keep_size (w := w) (g := g) (row := none) (J0 HK))); replace HK := am (KeepBut.trans (J0 HK) hk (.inl rfl)); replace HB := am (hb); replace HI0 := am (hi); (try clear hb); (try clear hk); (try clear hi); (try clear ho0); obtain ⟨Ao67, co67, eo67⟩ := Kd.R_slice HO103.out; subst eo67) | ((with_reducible refine gate_callee (f := 69) rfl ?_); refine goesL_ (some 14) rfl rfl Try.func69 (by kernel_rfl) rfl #[.pointer (some ⟨g, 0, none⟩), .int .i64 (t101.length : Int)] rfl MT ?_; (with_reducible refine (spec_l1Rd_pick.calls k g s0_0 t104 (t101.length : Int) t105 t106 w0 _ ?side1 ?side2 A6.out).mono ?_); (case side1 => exact I140_0 HI0); (case side2 => exact K1 HB (IsS140.ge HI0.out)); rintro e w68 ⟨rfl, hi, hb, hk⟩; refine ⟨_, rfl, ?_⟩; replace HO103 := am (Kd.R_mono (Kd.R_keep (IsS140.apart (show IsS140 w0 _ g s0_0 t104 from I140_0 HI0) (KR HO103) (by decide)) hk (fun _ h => h.2)) (fun _ h => h.1)); replace HK := am (KeepBut.trans (J0 HK) hk (.inl rfl)); replace HB := am (hb); replace HI0 := am (hi); (try clear hb); (try clear hk); (try clear hi)) | ((with_reducible refine gate_callee (f := 69) rfl ?_); refine goesL_ (some 16) rfl rfl Try.func69 (by kernel_rfl) rfl #[.pointer (some ⟨g, 0, none⟩), .int .i64 20] rfl MT ?_; (with_reducible refine (spec_l1Rd_pick.calls k g s0_0 t106 20 t107 t108 w0 _ ?side1 ?side2 A7.out).mono ?_); (case side1 => exact I140_0 HI0); (case side2 => exact K1 HB (IsS140.ge HI0.out)); rintro e w69 ⟨rfl, hi, hb, hk⟩; refine ⟨_, rfl, ?_⟩; replace HO103 := am (Kd.R_mono (Kd.R_keep (IsS140.apart (show IsS140 w0 _ g s0_0 t106 from I140_0 HI0) (KR HO103) (by decide)) hk (fun _ h => h.2)) (fun _ h => h.1)); replace HK := am (KeepBut.trans (J0 HK) hk (.inl rfl)); replace HB := am (hb); replace HI0 := am (hi); (try clear hb); (try clear hk); (try clear hi)))
       go_loopg [3] k (fun kq v3 w' => ∃ (x3_1 : List (S71)) (x1001_1 : Int), Aside0 (spec_l12AnyRules.l0 kq x3_1 s0_0 x1001_1 = some (r1, r2)) ∧ Aside0 (kq ≤ k) ∧ Aside0 (Kd.R k71 71 w' w.heap.size (fun _ => True) v3 x3_1) ∧ Aside0 (IsS140 w0 w' g s0_0 x1001_1) ∧ Aside0 (KeepBut w w' g none) ∧ Aside0 (Below w0.heap.size w0 w'))
       case atStart => exact ⟨(t101), (t108), H', ⟨Nat.le_refl _⟩, ⟨KR HO103⟩, ⟨I140_0 HI0⟩, ⟨J0 HK⟩, ⟨K1 HB (IsS140.ge HI0.out)⟩⟩
       case round =>
        clear H'
        try clear c1
        try clear p1
        try clear q1
        try clear hx1
        try clear hf1
        try clear c2
        try clear p2
        try clear q2
        try clear hx2
        try clear hf2
        try clear c3
        try clear c3b0
        try clear c3b1
        try clear c3b2
        try clear hx3
        try clear hf3
        try clear c4
        try clear p4
        try clear q4
        try clear hx4
        try clear hf4
        try clear c5
        try clear p5
        try clear q5
        try clear hx5
        try clear hf5
        try clear c6
        try clear hx6
        try clear hf6
        try clear c8
        try clear c8b0
        try clear c8b1
        try clear c9
        try clear c10
        try clear c10b0
        try clear c11
        try clear c11b0
        try clear c12
        try clear p12
        try clear q12
        try clear hx12
        try clear hf12
        try clear c13
        try clear c21
        try clear hx21
        try clear hf21
        try clear c23
        try clear c23b0
        try clear c23b1
        try clear c25
        try clear c25b0
        try clear c26
        try clear c26b0
        try clear c27
        try clear p27
        try clear q27
        try clear hx27
        try clear hf27
        try clear c36
        try clear hx36
        try clear hf36
        try clear c38
        try clear c38b0
        try clear c38b1
        try clear c40
        try clear c40b0
        try clear c41
        try clear c41b0
        try clear c42
        try clear p42
        try clear q42
        try clear hx42
        try clear hf42
        try clear c51
        try clear hx51
        try clear hf51
        try clear c53
        try clear c53b0
        try clear c53b1
        try clear c55
        try clear c55b0
        try clear c56
        try clear c56b0
        try clear c57
        try clear p57
        try clear q57
        try clear hx57
        try clear hf57
        try clear c63
        try clear hx63
        try clear hf63
        try clear c65
        try clear c65b0
        try clear c65b1
        try clear c69
        try clear hx12_0
        try clear hx12_1
        try clear hx12_2
        try clear hx12_3
        try clear hx12_4
        try clear hx12_5
        try clear hx12_6
        try clear hx12_7
        try clear hx21_0
        try clear hx27_0
        try clear hx27_1
        try clear hx27_2
        try clear hx27_3
        try clear hx27_4
        try clear hx27_5
        try clear hx27_6
        try clear hx27_7
        try clear hx36_1
        try clear hx42_0
        try clear hx42_1
        try clear hx42_2
        try clear hx42_3
        try clear hx42_4
        try clear hx42_5
        try clear hx42_6
        try clear hx42_7
        try clear hx51_6
        try clear hx57_0
        try clear hx57_1
        try clear hx57_2
        try clear hx57_3
        try clear hx57_4
        try clear hx57_5
        try clear hx57_6
        try clear hx57_7
        try clear hx63_2
        try clear hx63_3
        try clear p12
        try clear p27
        try clear p42
        try clear p57
        try clear q12
        try clear q27
        try clear q42
        try clear q57
        obtain ⟨x3_1, x1001_1, HA, HK1, HO_3, HI0, HK, HB⟩ := hrel
        cases gk with
        | zero => exact absurd HA.out (by simp [spec_l12AnyRules.l0])
        | succ k1 =>
         have H := HA.out
         clear HA
         simp only [spec_l12AnyRules.l0] at H
         replace H := Option.bind_eq_some_iff.mp H
         obtain ⟨⟨t131, t132⟩, A700, H⟩ := H
         replace H : (if (x3_1.length : Int) < (wrap64 (8 + t131)) then ((spec_l12Rule.f k1 s0_0 t132).bind fun bt133 => (if x3_1.length < 2199023255552 then (spec_l12AnyRules.l0 k1 (x3_1 ++ [(⟨bt133.1, bt133.2.1, (⟨bt133.2.2.1, bt133.2.2.2.1⟩ : S43), (⟨bt133.2.2.2.2.1, bt133.2.2.2.2.2.1⟩ : S43), bt133.2.2.2.2.2.2.1, bt133.2.2.2.2.2.2.2.1⟩ : S71)]) s0_0 bt133.2.2.2.2.2.2.2.2) else (none))) else (some (x3_1, t132))) = some (r1, r2) := H
         have A70 := Aside0.mk A700
         clear A700
         by_cases c71 : (x3_1.length : Int) < (wrap64 (8 + t131))
         ·rw [if_pos c71] at H
          have c71b0 : decide ((x3_1.length : Int) < (wrap64 (8 + t131))) = true := decide_eq_true c71
          clear c71
          replace H := Option.bind_eq_some_iff.mp H
          obtain ⟨⟨t133, t134, t135, t136, t137, t138, t139, t140, t141⟩, A720, H⟩ := H
          replace H : (if x3_1.length < 2199023255552 then (spec_l12AnyRules.l0 k1 (x3_1 ++ [(⟨t133, t134, (⟨t135, t136⟩ : S43), (⟨t137, t138⟩ : S43), t139, t140⟩ : S71)]) s0_0 t141) else (none)) = some (r1, r2) := H
          have A72 := Aside0.mk A720
          clear A720
          by_cases c73 : x3_1.length < 2199023255552
          ·rw [if_pos c73] at H
           have LMc73 := Aside0.mk c73
           clear c73
           obtain ⟨y142, hy142⟩ : ∃ y_ : List (S71), y_ = (x3_1 ++ [(⟨t133, t134, (⟨t135, t136⟩ : S43), (⟨t137, t138⟩ : S43), t139, t140⟩ : S71)]) := ⟨_, rfl⟩
           replace H : (spec_l12AnyRules.l0 k1 y142 s0_0 t141) = some (r1, r2) := by first | (rw [hy142]; with_reducible exact H) | (have H2_ := (Option.bind_some _ _).symm.trans H; rw [hy142]; with_reducible exact H2_) | (have H2_ := (Option.bind_some _ _).symm.trans H; with_reducible exact H2_) | with_reducible exact H | (rw [hy142]; exact H) | exact H
           have Ny142 := Aside0.mk hy142
           clear hy142
           have H' := Aside0.mk H
           clear H
           obtain ⟨Ao74, co74, eo74⟩ := Kd.R_slice HO_3.out
           subst eo74
           go_wp2_with (first | ((with_reducible refine gate_callee (f := 69) rfl ?_); refine goesL_ (some 57) rfl rfl Try.func69 (by kernel_rfl) rfl #[.pointer (some ⟨g, 0, none⟩), .int .i64 2] rfl MT ?_; (with_reducible refine (spec_l1Rd_pick.calls k1 g s0_0 x1001_1 2 t131 t132 w0 _ ?side1 ?side2 A70.out).mono ?_); (case side1 => exact I140_0 HI0); (case side2 => exact K1 HB (IsS140.ge HI0.out)); rintro e w75 ⟨rfl, hi, hb, hk⟩; refine ⟨_, rfl, ?_⟩; replace HO_3 := am (Kd.R_mono (Kd.R_keep (IsS140.apart (show IsS140 w0 _ g s0_0 x1001_1 from I140_0 HI0) (KR HO_3) (by decide)) hk (fun _ h => h.2)) (fun _ h => h.1)); replace HK := am (KeepBut.trans (J0 HK) hk (.inl rfl)); replace HB := am (hb); replace HI0 := am (hi); (try clear hb); (try clear hk); (try clear hi)) | ((with_reducible refine gate_callee (f := 133) rfl ?_); refine goesL_ (some 62) rfl rfl Try.func133 (by kernel_rfl) rfl #[.pointer (some ⟨g, 0, none⟩)] rfl MT ?_; (with_reducible refine (spec_l12Rule.calls k1 g s0_0 t132 t133 t134 t135 t136 t137 t138 t139 t140 t141 w0 _ ?side1 ?side2 A72.out).mono ?_); (case side1 => exact I140_0 HI0); (case side2 => exact K1 HB (IsS140.ge HI0.out)); rintro e w76 ⟨rfl, hi, hb, hk⟩; refine ⟨_, rfl, ?_⟩; replace HO_3 := am (Kd.R_mono (Kd.R_keep (IsS140.apart (show IsS140 w0 _ g s0_0 t132 from I140_0 HI0) (KR HO_3) (by decide)) hk (fun _ h => h.2)) (fun _ h => h.1)); replace HK := am (KeepBut.trans (J0 HK) hk (.inl rfl)); replace HB := am (hb); replace HI0 := am (hi); (try clear hb); (try clear hk); (try clear hi)) | ((with_reducible refine gate_builtin (b := .append) (xs := #[.tmp 60, .tmp 63]) rfl ?_); at_builtin; refine Kd.R_append k71 w.heap.size rfl (.tmp 60) (.tmp 63) 52 71 (.agg #[(.int .i64 0), (.int .i64 0), (.int .i64 0), (.int .i64 0), (.int .i64 0), (.int .i64 0), (.int .i64 0), (.int .i64 0)]) 64 rfl Try.underlying52 info71 rfl (by decide) (by omega) (.slice Ao74 x3_1.length co74) x3_1 (⟨t133, t134, (⟨t135, t136⟩ : S43), (⟨t137, t138⟩ : S43), t139, t140⟩ : S71) [.int .i64 t133, .int .i64 t134, .int .i64 t135, .int .i64 t136, .int .i64 t137, .int .i64 t138, .int .i64 t139, .int .i64 t140] (fun _ => True) (fun _ => False) rfl rfl ?aP (fun _ hk => hk.elim) ?aF ?aO (Below.refl _ _) ?aS ?aL ?_; (case aP => exact k71_mkM _ _ _ (⟨t133, t134, (⟨t135, t136⟩ : S43), (⟨t137, t138⟩ : S43), t139, t140⟩ : S71)); (case aF => exact (fun _ _ => trivial)); (case aO => exact (KR HO_3)); (case aS => exact (keep_size (w := w) (g := g) (row := none) (J0 HK))); (case aL => have := LMc73.out; omega); intro v143 w77 ho hb hg hat; rw [← Ny142.out] at ho; replace HB := am (below_weaken (K1 HB (IsS140.ge HI0.out)) HL.out hb); replace HI0 := am (IsS140.grown (I140_0 HI0) hg (IsS140.own_ne HI0.out HO_3.out (by decide))); replace HK := am (KeepBut.trans (J0 HK) (KeepBut.of_grown hg g) (Kd.R_base2 HO_3.out)); have HO144 := am (ho); clear HO_3; clear ho hb hg hat))
           go_roundg k1
           case measure => have := HK1.out; omega
           case rel => exact ⟨(y142), (t141), H', ⟨by have := HK1.out; omega⟩, ⟨KR HO144⟩, ⟨I140_0 HI0⟩, ⟨J0 HK⟩, ⟨K1 HB (IsS140.ge HI0.out)⟩⟩
          ·rw [if_neg c73] at H
           exact absurd H (by simp)
         ·rw [if_neg c71] at H
          have c71b0 : decide ((x3_1.length : Int) < (wrap64 (8 + t131))) = false := decide_eq_false c71
          clear c71
          simp only [Option.some.injEq, Prod.mk.injEq] at H
          obtain ⟨rfl, rfl⟩ := H
          obtain ⟨Ao78, co78, eo78⟩ := Kd.R_slice HO_3.out
          subst eo78
          go_wp2_with (first | ((with_reducible refine gate_callee (f := 69) rfl ?_); refine goesL_ (some 57) rfl rfl Try.func69 (by kernel_rfl) rfl #[.pointer (some ⟨g, 0, none⟩), .int .i64 2] rfl MT ?_; (with_reducible refine (spec_l1Rd_pick.calls k1 g s0_0 x1001_1 2 t131 t132 w0 _ ?side1 ?side2 A70.out).mono ?_); (case side1 => exact I140_0 HI0); (case side2 => exact K1 HB (IsS140.ge HI0.out)); rintro e w79 ⟨rfl, hi, hb, hk⟩; refine ⟨_, rfl, ?_⟩; replace HO_3 := am (Kd.R_mono (Kd.R_keep (IsS140.apart (show IsS140 w0 _ g s0_0 x1001_1 from I140_0 HI0) (KR HO_3) (by decide)) hk (fun _ h => h.2)) (fun _ h => h.1)); replace HK := am (KeepBut.trans (J0 HK) hk (.inl rfl)); replace HB := am (hb); replace HI0 := am (hi); (try clear hb); (try clear hk); (try clear hi)))
          go_ret
          exact ⟨_, ER, by (with_reducible repeat (first | apply Kd.R_alloc | apply Kd.R_drewN | apply Kd.R_drew)); exact HO_3.out, I140_0 HI0, K1 HB (IsS140.ge HI0.out), J0 HK⟩
      ·rw [if_neg c65] at H
       have c65b0 : (t107 == 4) = false := beq_eq_false_iff_ne.mpr c65
       have c65b1 : (t107 != 4) = true := bne_iff_ne.mpr c65
       simp only [Option.some.injEq, Prod.mk.injEq] at H
       obtain ⟨rfl, rfl⟩ := H
       go_enter Try.func95, Try.ntmps95
       go_wp2_with (first | ((with_reducible refine gate_callee (f := 132) rfl ?_); refine goesL_ (some 6) rfl rfl Try.func132 (by kernel_rfl) rfl #[.pointer (some ⟨g, 0, none⟩)] rfl MT ?_; (with_reducible refine (spec_l12Rules.calls k g s0_0 s0_1 t101 t104 w0 _ ?side1 ?side2 A2.out).mono ?_); (case side1 => exact I140_0 HI0); (case side2 => exact K1 HB (IsS140.ge HI0.out)); rintro e w80 ⟨v102, rfl, ho0, hi, hb, hk⟩; refine ⟨_, rfl, ?_⟩; have HO103 := am (Kd.R_lower ho0 (keep_size (w := w) (g := g) (row := none) (J0 HK))); replace HK := am (KeepBut.trans (J0 HK) hk (.inl rfl)); replace HB := am (hb); replace HI0 := am (hi); (try clear hb); (try clear hk); (try clear hi); (try clear ho0); obtain ⟨Ao81, co81, eo81⟩ := Kd.R_slice HO103.out; subst eo81) | ((with_reducible refine gate_callee (f := 69) rfl ?_); refine goesL_ (some 14) rfl rfl Try.func69 (by kernel_rfl) rfl #[.pointer (some ⟨g, 0, none⟩), .int .i64 (t101.length : Int)] rfl MT ?_; (with_reducible refine (spec_l1Rd_pick.calls k g s0_0 t104 (t101.length : Int) t105 t106 w0 _ ?side1 ?side2 A6.out).mono ?_); (case side1 => exact I140_0 HI0); (case side2 => exact K1 HB (IsS140.ge HI0.out)); rintro e w82 ⟨rfl, hi, hb, hk⟩; refine ⟨_, rfl, ?_⟩; replace HO103 := am (Kd.R_mono (Kd.R_keep (IsS140.apart (show IsS140 w0 _ g s0_0 t104 from I140_0 HI0) (KR HO103) (by decide)) hk (fun _ h => h.2)) (fun _ h => h.1)); replace HK := am (KeepBut.trans (J0 HK) hk (.inl rfl)); replace HB := am (hb); replace HI0 := am (hi); (try clear hb); (try clear hk); (try clear hi)) | ((with_reducible refine gate_callee (f := 69) rfl ?_); refine goesL_ (some 16) rfl rfl Try.func69 (by kernel_rfl) rfl #[.pointer (some ⟨g, 0, none⟩), .int .i64 20] rfl MT ?_; (with_reducible refine (spec_l1Rd_pick.calls k g s0_0 t106 20 t107 t108 w0 _ ?side1 ?side2 A7.out).mono ?_); (case side1 => exact I140_0 HI0); (case side2 => exact K1 HB (IsS140.ge HI0.out)); rintro e w83 ⟨rfl, hi, hb, hk⟩; refine ⟨_, rfl, ?_⟩; replace HO103 := am (Kd.R_mono (Kd.R_keep (IsS140.apart (show IsS140 w0 _ g s0_0 t106 from I140_0 HI0) (KR HO103) (by decide)) hk (fun _ h => h.2)) (fun _ h => h.1)); replace HK := am (KeepBut.trans (J0 HK) hk (.inl rfl)); replace HB := am (hb); replace HI0 := am (hi); (try clear hb); (try clear hk); (try clear hi)))
       go_ret
       exact ⟨_, ER, by (with_reducible repeat (first | apply Kd.R_alloc | apply Kd.R_drewN | apply Kd.R_drew)); exact HO103.out, I140_0 HI0, K1 HB (IsS140.ge HI0.out), J0 HK⟩
def spec_DrawRulesFirst.f (k : Nat) (l0 : List Int) : Option ((List (S71)) × Int × Int × Int) := (spec_l1Open.f l0).bind fun bt102 => ((spec_l12AnyRules.f k bt102.1 bt102.2).bind fun bt105 => ((spec_l12AnyCall.f k bt102.1 bt105.2).bind fun bt109 => (some (bt105.1, bt109.1, bt109.2.1, bt109.2.2.1))))
set_option maxHeartbeats 8000000 in
set_option maxRecDepth 100000 in
theorem spec_DrawRulesFirst.calls (k : Nat) (A0 : Option Addr) (c0 : Nat) (l0 : List Int) (r1 : List (S71)) (r2 : Int) (r3 : Int) (r4 : Int) (w : World) (hr0 : Kd.C (Kd.int .u8) w A0 l0.length l0) (hc0 : l0.length ≤ c0) (h : spec_DrawRulesFirst.f k l0 = some (r1, r2, r3, r4)) :
  Calls Try.prog 46 #[.slice A0 l0.length c0] w fun e w' => ∃ v0_ : Value, e = .returned (.tuple #[v0_, .agg #[.int .i64 r2, .int .i64 r3, .int .i64 r4]]) ∧ Kd.R k71 71 w' w.heap.size (fun _ => True) v0_ r1 ∧ Below w.heap.size w w' := by
 have hu60 := Try.underlying60
 have HR0 := Aside0.mk hr0
 have HC0 := Aside0.mk hc0
 clear hr0 hc0
 have HB := am (Below.refl w.heap.size w)
 have H : ((spec_l1Open.f l0).bind fun bt102 => ((spec_l12AnyRules.f k bt102.1 bt102.2).bind fun bt105 => ((spec_l12AnyCall.f k bt102.1 bt105.2).bind fun bt109 => (some (bt105.1, bt109.1, bt109.2.1, bt109.2.2.1))))) = some (r1, r2, r3, r4) := h
 clear h
 replace H := Option.bind_eq_some_iff.mp H
 obtain ⟨⟨t102, t103⟩, A20, H⟩ := H
 replace H : ((spec_l12AnyRules.f k t102 t103).bind fun bt105 => ((spec_l12AnyCall.f k t102 bt105.2).bind fun bt109 => (some (bt105.1, bt109.1, bt109.2.1, bt109.2.2.1)))) = some (r1, r2, r3, r4) := H
 have A2 := Aside0.mk A20
 clear A20
 replace H := Option.bind_eq_some_iff.mp H
 obtain ⟨⟨t105, t108⟩, A30, H⟩ := H
 replace H : ((spec_l12AnyCall.f k t102 t108).bind fun bt109 => (some (t105, bt109.1, bt109.2.1, bt109.2.2.1))) = some (r1, r2, r3, r4) := H
 have A3 := Aside0.mk A30
 clear A30
 replace H := Option.bind_eq_some_iff.mp H
 obtain ⟨⟨t109, t110, t111, t112⟩, A40, H⟩ := H
 replace H : (some (t105, t109, t110, t111)) = some (r1, r2, r3, r4) := H
 have A4 := Aside0.mk A40
 clear A40
 simp only [Option.some.injEq, Prod.mk.injEq] at H
 obtain ⟨rfl, rfl, rfl, rfl⟩ := H
 go_enter Try.func46, Try.ntmps46
 go_wp2_with (first | ((with_reducible refine gate_dst (N := 3) rfl ?_); refine box_event rfl (N := 3) rfl (cs := #[.int .i64 0, .int .i64 0, .int .i64 0]) (t := 60) BX ?_; intro gb101 hg w5 hbox hb; have BK101 := am (hbox); have GW101 := am (GH HB hg); have GE101 := GW101; replace HB := am (below_step (KL HB) hb); clear hb hbox hg) | ((with_reducible refine gate_callee (f := 67) rfl ?_); refine goesL_ (some 6) rfl rfl Try.func67 (by kernel_rfl) rfl #[.slice A0 l0.length c0] rfl MT ?_; (with_reducible refine (spec_l1Open.calls _ _ l0 t102 t103 w _ ?side1 ?side2 ?side3 A2.out).mono ?_); (case side1 => exact K1 HB GE101.out); (case side2 => exact HR0.out); (case side3 => exact HC0.out); rintro e w6 ⟨g104, rfl, hi, hb, hb2⟩; refine ⟨_, rfl, ?_⟩; replace HB := am (hb); have HI104 := am (hi); have NB104_101 := am (IsS140.ne_blk hi (blk_below (g := gb101) (o := .cells #[.int .i64 0, .int .i64 0, .int .i64 0] 60 (0, 0)) (KB BK101) hb2) (by decide)); have NB101_104 := am (Ne.symm (IsS140.ne_blk hi (blk_below (g := gb101) (o := .cells #[.int .i64 0, .int .i64 0, .int .i64 0] 60 (0, 0)) (KB BK101) hb2) (by decide))); replace BK101 := am (blk_below (g := gb101) (o := .cells #[.int .i64 0, .int .i64 0, .int .i64 0] 60 (0, 0)) (KB BK101) hb2); (try clear hb); (try clear hb2); (try clear hi)) | ((with_reducible refine gate_callee (f := 95) rfl ?_); refine goesL_ (some 8) rfl rfl Try.func95 (by kernel_rfl) rfl #[.pointer (some ⟨g104, 0, none⟩)] rfl MT ?_; (with_reducible refine (spec_l12AnyRules.calls k g104 t102 t103 t105 t108 w _ ?side1 ?side2 A3.out).mono ?_); (case side1 => exact I140_1 HI104 NB104_101.out); (case side2 => exact K2 HB (IsS140.ge HI104.out) GE101.out); rintro e w7 ⟨v106, rfl, ho0, hi, hb, hk⟩; refine ⟨_, rfl, ?_⟩; replace BK101 := am (KeepBut.blk hk (g' := gb101) (o := .cells #[.int .i64 0, .int .i64 0, .int .i64 0] 60 (0, 0)) (KB BK101) NB101_104.out (by simp)); have HO107 := am (Kd.R_lower ho0 (below_size (K2 HB (IsS140.ge HI104.out) GE101.out))); replace HB := am (hb); replace HI104 := am (hi); (try clear hb); (try clear hk); (try clear hi); (try clear ho0)) | ((with_reducible refine gate_callee (f := 100) rfl ?_); refine goesL_ (some 10) rfl rfl Try.func100 (by kernel_rfl) rfl #[.pointer (some ⟨g104, 0, none⟩)] rfl MT ?_; (with_reducible refine (spec_l12AnyCall.calls k g104 t102 t108 t109 t110 t111 t112 w _ ?side1 ?side2 A4.out).mono ?_); (case side1 => exact I140_1 HI104 NB104_101.out); (case side2 => exact K2 HB (IsS140.ge HI104.out) GE101.out); rintro e w8 ⟨rfl, hi, hb, hk⟩; refine ⟨_, rfl, ?_⟩; replace BK101 := am (KeepBut.blk hk (g' := gb101) (o := .cells #[.int .i64 0, .int .i64 0, .int .i64 0] 60 (0, 0)) (KB BK101) NB101_104.out (by simp)); replace HO107 := am (Kd.R_mono (Kd.R_keep (IsS140.apart (show IsS140 w _ g104 t102 t108 from I140_1 HI104 NB104_101.out) (KR HO107) (by decide)) hk (fun _ h => h.2)) (fun _ h => h.1)); replace HB := am (hb); replace HI104 := am (hi); (try clear hb); (try clear hk); (try clear hi); have hnb9 := NB101_104.out; have hnc9 := NB104_101.out; obtain ⟨hcz10_0, hcz10_1, hcz10_2, hfz10_0⟩ := y3 w8 BK101.out))
 refine bodyPost_ret (results_tc rfl _ _ gb101 60 #[.int .i64 t109, .int .i64 t110, .int .i64 t111] (0, 0) _ rfl (by (with_reducible repeat (first | refine blk_drewN ?_ _ | refine blk_drew ?_ | refine blk_alloc ?_ _)); refine blk_put (cs := #[.int .i64 t109, .int .i64 t110, .int .i64 0]) ?_ 2 _ rfl; (with_reducible repeat (first | refine blk_drewN ?_ _ | refine blk_drew ?_ | refine blk_alloc ?_ _)); refine blk_put (cs := #[.int .i64 t109, .int .i64 0, .int .i64 0]) ?_ 1 _ rfl; (with_reducible repeat (first | refine blk_drewN ?_ _ | refine blk_drew ?_ | refine blk_alloc ?_ _)); refine blk_put (cs := #[.int .i64 0, .int .i64 0, .int .i64 0]) ?_ 0 _ rfl; (with_reducible repeat (first | refine blk_drewN ?_ _ | refine blk_drew ?_ | refine blk_alloc ?_ _)); exact BK101.out) Try.underlying60 rfl (by kernel_rfl)) rfl ?_
 exact ⟨_, ER, by (with_reducible repeat (first | apply Kd.R_alloc | apply Kd.R_drewN | apply Kd.R_drew)); exact Kd.R_mono (Kd.R_far (p := ⟨gb101, 2, none⟩) (Kd.R_far (p := ⟨gb101, 1, none⟩) (Kd.R_far (p := ⟨gb101, 0, none⟩) (Kd.R_types HO107.out BK101.out (by decide)) (fun _ hk => hk.2) (.int .i64 t109)) (fun _ hk => hk.2) (.int .i64 t110)) (fun _ hk => hk.2) (.int .i64 t111)) (fun _ hk => trivial), K2 HB (IsS140.ge HI104.out) GE101.out⟩
mutual
def spec_DrawRulesDead.j0 : Nat → List (S71) → Bool → List Int → Int → Option ((List (S71)))
 | 0, _, _, _, _ => none
 | k + 1, x4, x28, x104000, x104001 => if x28 = true then (some x4) else ((spec_l1Rd_pick.f k x104000 x104001 (x4.length : Int)).bind fun bt111 => (if 0 ≤ bt111.1 then (if bt111.1 < (x4.length : Int) then (if ((rd_T71 x4 bt111.1).f2.f1) < 32 then ((spec_l1Rd_pick.f k x104000 bt111.2 2).bind fun bt115 => (spec_DrawRulesDead.j1 k x4 (bt115.1 == 0) x104000 bt115.2 ((rd_T71 x4 bt111.1).f0) ((rd_T71 x4 bt111.1).f1) ((rd_T71 x4 bt111.1).f2.f0) ((rd_T71 x4 bt111.1).f2.f1) ((rd_T71 x4 bt111.1).f3.f0) ((rd_T71 x4 bt111.1).f3.f1) ((rd_T71 x4 bt111.1).f4) ((rd_T71 x4 bt111.1).f5))) else (spec_DrawRulesDead.j1 k x4 false x104000 bt111.2 ((rd_T71 x4 bt111.1).f0) ((rd_T71 x4 bt111.1).f1) ((rd_T71 x4 bt111.1).f2.f0) ((rd_T71 x4 bt111.1).f2.f1) ((rd_T71 x4 bt111.1).f3.f0) ((rd_T71 x4 bt111.1).f3.f1) ((rd_T71 x4 bt111.1).f4) ((rd_T71 x4 bt111.1).f5))) else (none)) else (none)))
def spec_DrawRulesDead.j1 : Nat → List (S71) → Bool → List Int → Int → Int → Int → Int → Int → Int → Int → Int → Int → Option ((List (S71)))
 | 0, _, _, _, _, _, _, _, _, _, _, _, _ => none
 | k + 1, x4, x45, x104000, x104001, x115000, x115001, x115002, x115003, x115004, x115005, x115006, x115007 => if x45 = true then (spec_DrawRulesDead.j2 k x4 x104000 x104001 x115000 x115001 x115002 (wrap64 (x115003 + 1)) x115004 x115005 x115006 x115007) else (spec_DrawRulesDead.j2 k x4 x104000 x104001 x115000 x115001 x115002 x115003 x115004 x115005 x115006 x115007)
def spec_DrawRulesDead.j2 : Nat → List (S71) → List Int → Int → Int → Int → Int → Int → Int → Int → Int → Int → Option ((List (S71)))
 | 0, _, _, _, _, _, _, _, _, _, _, _ => none
 | k + 1, x4, x104000, x104001, x115000, x115001, x115002, x115003, x115004, x115005, x115006, x115007 => if x115006 < x115007 then ((spec_l1Rd_pick.f k x104000 x104001 2).bind fun bt117 => (spec_DrawRulesDead.j3 k x4 (bt117.1 == 0) x104000 bt117.2 x115000 x115001 x115002 x115003 x115004 x115005 x115006 x115007)) else (spec_DrawRulesDead.j3 k x4 false x104000 x104001 x115000 x115001 x115002 x115003 x115004 x115005 x115006 x115007)
def spec_DrawRulesDead.j3 : Nat → List (S71) → Bool → List Int → Int → Int → Int → Int → Int → Int → Int → Int → Int → Option ((List (S71)))
 | 0, _, _, _, _, _, _, _, _, _, _, _, _ => none
 | k + 1, x4, x61, x104000, x104001, x115000, x115001, x115002, x115003, x115004, x115005, x115006, x115007 => if x61 = true then (spec_DrawRulesDead.j4 k x4 x104000 x104001 x115000 x115001 x115002 x115003 x115004 x115005 x115006 (wrap64 (x115007 - 1))) else (spec_DrawRulesDead.j4 k x4 x104000 x104001 x115000 x115001 x115002 x115003 x115004 x115005 x115006 x115007)
def spec_DrawRulesDead.j4 : Nat → List (S71) → List Int → Int → Int → Int → Int → Int → Int → Int → Int → Int → Option ((List (S71)))
 | 0, _, _, _, _, _, _, _, _, _, _, _ => none
 | k + 1, x4, x104000, x104001, x115000, x115001, x115002, x115003, x115004, x115005, x115006, x115007 => (spec_l1Rd_pick.f k x104000 x104001 (wrap64 ((x4.length : Int) + 1))).bind fun bt119 => ((some (([] : List (S71)) : List (S71))).bind fun y121 => (if 0 ≤ bt119.1 then (if bt119.1 ≤ (x4.length : Int) then ((some (x4.take (bt119.1 : Int).toNat : List (S71))).bind fun y124 => (if y121.length + y124.length < 2199023255552 then ((some (y121 ++ y124 : List (S71))).bind fun y128 => ((some (([(⟨x115000, x115001, (⟨x115002, x115003⟩ : S43), (⟨x115004, x115005⟩ : S43), x115006, x115007⟩ : S71)] : List (S71)) : List (S71))).bind fun y131 => (if y128.length + y131.length < 2199023255552 then ((some (y128 ++ y131 : List (S71))).bind fun y134 => ((some (x4.drop (bt119.1 : Int).toNat : List (S71))).bind fun y137 => (if y134.length + y137.length < 2199023255552 then (some (y134 ++ y137)) else (none)))) else (none)))) else (none))) else (none)) else (none)))
end
def spec_DrawRulesDead.f (k : Nat) (l0 : List Int) : Option ((List (S71))) := (spec_l1Open.f l0).bind fun bt101 => ((spec_l12AnyRules.f k bt101.1 bt101.2).bind fun bt104 => ((spec_RulesOk.f k bt104.1).bind fun t108 => (if t108 = true then (if (bt104.1.length : Int) = 0 then (spec_DrawRulesDead.j0 k bt104.1 true bt101.1 bt104.2) else (if (bt104.1.length : Int) ≥ 8 then (spec_DrawRulesDead.j0 k bt104.1 true bt101.1 bt104.2) else ((spec_l1Rd_pick.f k bt101.1 bt104.2 4).bind fun bt109 => (spec_DrawRulesDead.j0 k bt104.1 (bt109.1 == 0) bt101.1 bt109.2)))) else (spec_DrawRulesDead.j0 k bt104.1 true bt101.1 bt104.2))))
def spec_DrawRulesDead.T11 : Bool × List (List Nat × List Nat) := (true, [([], []), ([], []), ([], []), ([1, 2], [1, 2]), ([0, 3], [0, 3]), ([], []), ([5], [5]), ([4, 6, 4], [4, 6]), ([], []), ([], []), ([8, 9], [8, 9]), ([7, 10, 7], [7, 10]), ([11, 11, 0, 1, 2, 3, 4, 5, 6, 7, 8, 9, 10, 11], [11])])
def spec_DrawRulesDead.B11 : List Nat := [0, 0, 0, 6, 15, 0, 32, 127, 0, 0, 768, 2047, 4095]
theorem spec_DrawRulesDead.tab11 : rtab .any (opsOf Try.f49 11) = spec_DrawRulesDead.T11 := by kernel_rfl
theorem spec_DrawRulesDead.bits11 : waitsOk spec_DrawRulesDead.T11.2 spec_DrawRulesDead.B11 = true := by kernel_rfl
set_option maxHeartbeats 8000000 in
set_option maxRecDepth 100000 in
theorem spec_DrawRulesDead.calls (k : Nat) (A0 : Option Addr) (c0 : Nat) (l0 : List Int) (r : List (S71)) (w : World) (hr0 : Kd.C (Kd.int .u8) w A0 l0.length l0) (hc0 : l0.length ≤ c0) (h : spec_DrawRulesDead.f k l0 = some r) :
  Calls Try.prog 49 #[.slice A0 l0.length c0] w fun e w' => ∃ v0_ : Value, e = .returned (v0_) ∧ Kd.R k71 71 w' w.heap.size (fun _ => True) v0_ r ∧ Below w.heap.size w w' := by
 have hu71 := Try.underlying71
 have HR0 := Aside0.mk hr0
 have HC0 := Aside0.mk hc0
 clear hr0 hc0
 have HB := am (Below.refl w.heap.size w)
 have H : ((spec_l1Open.f l0).bind fun bt101 => ((spec_l12AnyRules.f k bt101.1 bt101.2).bind fun bt104 => ((spec_RulesOk.f k bt104.1).bind fun t108 => (if t108 = true then (if (bt104.1.length : Int) = 0 then (spec_DrawRulesDead.j0 k bt104.1 true bt101.1 bt104.2) else (if (bt104.1.length : Int) ≥ 8 then (spec_DrawRulesDead.j0 k bt104.1 true bt101.1 bt104.2) else ((spec_l1Rd_pick.f k bt101.1 bt104.2 4).bind fun bt109 => (spec_DrawRulesDead.j0 k bt104.1 (bt109.1 == 0) bt101.1 bt109.2)))) else (spec_DrawRulesDead.j0 k bt104.1 true bt101.1 bt104.2))))) = some r := h
 clear h
 replace H := Option.bind_eq_some_iff.mp H
 obtain ⟨⟨t101, t102⟩, A20, H⟩ := H
 replace H : ((spec_l12AnyRules.f k t101 t102).bind fun bt104 => ((spec_RulesOk.f k bt104.1).bind fun t108 => (if t108 = true then (if (bt104.1.length : Int) = 0 then (spec_DrawRulesDead.j0 k bt104.1 true t101 bt104.2) else (if (bt104.1.length : Int) ≥ 8 then (spec_DrawRulesDead.j0 k bt104.1 true t101 bt104.2) else ((spec_l1Rd_pick.f k t101 bt104.2 4).bind fun bt109 => (spec_DrawRulesDead.j0 k bt104.1 (bt109.1 == 0) t101 bt109.2)))) else (spec_DrawRulesDead.j0 k bt104.1 true t101 bt104.2)))) = some r := H
 have A2 := Aside0.mk A20
 clear A20
 replace H := Option.bind_eq_some_iff.mp H
 obtain ⟨⟨t104, t107⟩, A30, H⟩ := H
 replace H : ((spec_RulesOk.f k t104).bind fun t108 => (if t108 = true then (if (t104.length : Int) = 0 then (spec_DrawRulesDead.j0 k t104 true t101 t107) else (if (t104.length : Int) ≥ 8 then (spec_DrawRulesDead.j0 k t104 true t101 t107) else ((spec_l1Rd_pick.f k t101 t107 4).bind fun bt109 => (spec_DrawRulesDead.j0 k t104 (bt109.1 == 0) t101 bt109.2)))) else (spec_DrawRulesDead.j0 k t104 true t101 t107))) = some r := H
 have A3 := Aside0.mk A30
 clear A30
 have HC4 := Aside0.mk H
 clear H
 go_enter Try.func49, Try.ntmps49
 go_upto_region 3 with (first | ((with_reducible refine gate_callee (f := 67) rfl ?_); refine goesL_ (some 8) rfl rfl Try.func67 (by kernel_rfl) rfl #[.slice A0 l0.length c0] rfl MT ?_; (with_reducible refine (spec_l1Open.calls _ _ l0 t101 t102 w _ ?side1 ?side2 ?side3 A2.out).mono ?_); (case side1 => exact KL HB); (case side2 => exact HR0.out); (case side3 => exact HC0.out); rintro e w5 ⟨g103, rfl, hi, hb, hb2⟩; refine ⟨_, rfl, ?_⟩; replace HB := am (hb); have HI103 := am (hi); (try clear hb); (try clear hb2); (try clear hi)) | ((with_reducible refine gate_callee (f := 95) rfl ?_); refine goesL_ (some 10) rfl rfl Try.func95 (by kernel_rfl) rfl #[.pointer (some ⟨g103, 0, none⟩)] rfl MT ?_; (with_reducible refine (spec_l12AnyRules.calls k g103 t101 t102 t104 t107 w _ ?side1 ?side2 A3.out).mono ?_); (case side1 => exact I140_0 HI103); (case side2 => exact K1 HB (IsS140.ge HI103.out)); rintro e w6 ⟨v105, rfl, ho0, hi, hb, hk⟩; refine ⟨_, rfl, ?_⟩; have HO106 := am (Kd.R_lower ho0 (below_size (K1 HB (IsS140.ge HI103.out)))); replace HB := am (hb); replace HI103 := am (hi); (try clear hb); (try clear hk); (try clear hi); (try clear ho0)))
 (try simp only [Act.put, List.setIfInBounds_toArray, List.set_cons_zero, List.set_cons_succ])
 go_cut [28] (fun v28 wc => ∃ (kq : Nat) (x28_3 : Bool) (x104001_3 : Int), v28 = .bool x28_3 ∧ Aside0 (spec_DrawRulesDead.j0 kq t104 x28_3 t101 x104001_3 = some r) ∧ Aside0 (kq ≤ k) ∧ Aside0 (Kd.R k71 71 wc w.heap.size (fun _ => True) v105 t104) ∧ Aside0 (IsS140 w wc g103 t101 x104001_3) ∧ Aside0 (Below w.heap.size w wc))
 case first =>
  have H := HC4.out
  clear HC4
  replace H := Option.bind_eq_some_iff.mp H
  obtain ⟨t108, A70, H⟩ := H
  replace H : (if t108 = true then (if (t104.length : Int) = 0 then (spec_DrawRulesDead.j0 k t104 true t101 t107) else (if (t104.length : Int) ≥ 8 then (spec_DrawRulesDead.j0 k t104 true t101 t107) else ((spec_l1Rd_pick.f k t101 t107 4).bind fun bt109 => (spec_DrawRulesDead.j0 k t104 (bt109.1 == 0) t101 bt109.2)))) else (spec_DrawRulesDead.j0 k t104 true t101 t107)) = some r := H
  have A7 := Aside0.mk A70
  clear A70
  by_cases c8 : t108 = true
  ·subst c8
   have H1 : (if (t104.length : Int) = 0 then (spec_DrawRulesDead.j0 k t104 true t101 t107) else (if (t104.length : Int) ≥ 8 then (spec_DrawRulesDead.j0 k t104 true t101 t107) else ((spec_l1Rd_pick.f k t101 t107 4).bind fun bt109 => (spec_DrawRulesDead.j0 k t104 (bt109.1 == 0) t101 bt109.2)))) = some r := by rw [if_pos rfl] at H; exact H
   clear H
   have H := H1
   clear H1
   by_cases c9 : (t104.length : Int) = 0
   ·rw [if_pos c9] at H
    have c9b0 : ((t104.length : Int) == 0) = true := beq_iff_eq.mpr c9
    have c9b1 : ((t104.length : Int) != 0) = false := bne_eq_false_iff_eq.mpr c9
    clear c9
    (first | rw [c9b0] | (simp only [i64_w, i32_w]; rw [c9b0]) | skip)
    have H' := Aside0.mk H
    clear H
    obtain ⟨Ao10, co10, eo10⟩ := Kd.R_slice HO106.out
    subst eo10
    go_wp2_with (first | ((with_reducible refine gate_callee (f := 44) rfl ?_); refine goesL_ (some 12) rfl rfl Try.func44 (by kernel_rfl) rfl #[.slice Ao10 t104.length co10] rfl MT ?_; (with_reducible refine (spec_RulesOk.calls k _ _ t104 true _ ?side1 ?side2 A7.out).mono ?_); (case side1 => exact KC (Kd.R_reads' HO106.out).2.2); (case side2 => exact (Kd.R_reads' HO106.out).2.1); rintro e w11 ⟨rfl, hb⟩; refine ⟨_, rfl, ?_⟩; replace HO106 := am (Kd.R_below (KR HO106) hb); replace HB := am (below_step (K1 HB (IsS140.ge HI103.out)) hb); replace HI103 := am (IsS140.below (I140_0 HI103) hb); (try clear hb)))
    go_meet
    case rel => exact ⟨_, (true), (t107), (by first | rfl | (simp; done) | (simp [*]; done)), H', ⟨by first | omega | exact Nat.le_refl _⟩, ⟨KR HO106⟩, ⟨I140_0 HI103⟩, ⟨K1 HB (IsS140.ge HI103.out)⟩⟩
   ·rw [if_neg c9] at H
    have c9b0 : ((t104.length : Int) == 0) = false := beq_eq_false_iff_ne.mpr c9
    have c9b1 : ((t104.length : Int) != 0) = true := bne_iff_ne.mpr c9
    have c9b2 : ¬ (t104 = []) := fun h_ => c9 (by rw [h_]; rfl)
    (first | rw [c9b0] | (simp only [i64_w, i32_w]; rw [c9b0]) | skip)
    by_cases c12 : (t104.length : Int) ≥ 8
    ·rw [if_pos c12] at H
     have c12b0 : decide (8 ≤ (t104.length : Int)) = true := decide_eq_true c12
     have c12b1 : decide (8 ≤ t104.length) = true := decide_eq_true (by omega)
     clear c12
     have H' := Aside0.mk H
     clear H
     obtain ⟨Ao13, co13, eo13⟩ := Kd.R_slice HO106.out
     subst eo13
     go_wp2_with (first | ((with_reducible refine gate_callee (f := 44) rfl ?_); refine goesL_ (some 12) rfl rfl Try.func44 (by kernel_rfl) rfl #[.slice Ao13 t104.length co13] rfl MT ?_; (with_reducible refine (spec_RulesOk.calls k _ _ t104 true _ ?side1 ?side2 A7.out).mono ?_); (case side1 => exact KC (Kd.R_reads' HO106.out).2.2); (case side2 => exact (Kd.R_reads' HO106.out).2.1); rintro e w14 ⟨rfl, hb⟩; refine ⟨_, rfl, ?_⟩; replace HO106 := am (Kd.R_below (KR HO106) hb); replace HB := am (below_step (K1 HB (IsS140.ge HI103.out)) hb); replace HI103 := am (IsS140.below (I140_0 HI103) hb); (try clear hb)))
     go_meet
     case rel => exact ⟨_, (true), (t107), (by first | rfl | (simp; done) | (simp [*]; done)), H', ⟨by first | omega | exact Nat.le_refl _⟩, ⟨KR HO106⟩, ⟨I140_0 HI103⟩, ⟨K1 HB (IsS140.ge HI103.out)⟩⟩
    ·rw [if_neg c12] at H
     have c12b0 : decide (8 ≤ (t104.length : Int)) = false := decide_eq_false c12
     have c12b1 : decide (8 ≤ t104.length) = false := decide_eq_false (by omega)
     clear c12
     replace H := Option.bind_eq_some_iff.mp H
     obtain ⟨⟨t109, t110⟩, A150, H⟩ := H
     replace H : (spec_DrawRulesDead.j0 k t104 (t109 == 0) t101 t110) = some r := H
     have A15 := Aside0.mk A150
     clear A150
     have H' := Aside0.mk H
     clear H
     obtain ⟨Ao16, co16, eo16⟩ := Kd.R_slice HO106.out
     subst eo16
     go_wp2_with (first | ((with_reducible refine gate_callee (f := 44) rfl ?_); refine goesL_ (some 12) rfl rfl Try.func44 (by kernel_rfl) rfl #[.slice Ao16 t104.length co16] rfl MT ?_; (with_reducible refine (spec_RulesOk.calls k _ _ t104 true _ ?side1 ?side2 A7.out).mono ?_); (case side1 => exact KC (Kd.R_reads' HO106.out).2.2); (case side2 => exact (Kd.R_reads' HO106.out).2.1); rintro e w17 ⟨rfl, hb⟩; refine ⟨_, rfl, ?_⟩; replace HO106 := am (Kd.R_below (KR HO106) hb); replace HB := am (below_step (K1 HB (IsS140.ge HI103.out)) hb); replace HI103 := am (IsS140.below (I140_0 HI103) hb); (try clear hb)) | (go_at_call 69; (with_reducible refine (spec_l1Rd_pick.calls k g103 t101 t107 4 t109 t110 w _ ?side1 ?side2 A15.out).mono ?_); (case side1 => exact I140_0 HI103); (case side2 => exact K1 HB (IsS140.ge HI103.out)); rintro e w18 ⟨rfl, hi, hb, hk⟩; replace HO106 := am (Kd.R_mono (Kd.R_keep (IsS140.apart (show IsS140 w _ g103 t101 t107 from I140_0 HI103) (KR HO106) (by decide)) hk (fun _ h => h.2)) (fun _ h => h.1)); replace HB := am (hb); replace HI103 := am (hi); (try clear hb); (try clear hk); (try clear hi)))
     go_meet
     case rel => exact ⟨_, ((t109 == 0)), (t110), (by first | rfl | (simp; done) | (simp [*]; done)), H', ⟨by first | omega | exact Nat.le_refl _⟩, ⟨KR HO106⟩, ⟨I140_0 HI103⟩, ⟨K1 HB (IsS140.ge HI103.out)⟩⟩
  ·replace c8 := Bool.eq_false_iff.mpr c8
   subst c8
   have H1 : (spec_DrawRulesDead.j0 k t104 true t101 t107) = some r := by rw [if_neg (show ¬ (false = true) by decide)] at H; exact H
   clear H
   have H := H1
   clear H1
   have H' := Aside0.mk H
   clear H
   obtain ⟨Ao19, co19, eo19⟩ := Kd.R_slice HO106.out
   subst eo19
   go_wp2_with (first | ((with_reducible refine gate_callee (f := 44) rfl ?_); refine goesL_ (some 12) rfl rfl Try.func44 (by kernel_rfl) rfl #[.slice Ao19 t104.length co19] rfl MT ?_; (with_reducible refine (spec_RulesOk.calls k _ _ t104 false _ ?side1 ?side2 A7.out).mono ?_); (case side1 => exact KC (Kd.R_reads' HO106.out).2.2); (case side2 => exact (Kd.R_reads' HO106.out).2.1); rintro e w20 ⟨rfl, hb⟩; refine ⟨_, rfl, ?_⟩; replace HO106 := am (Kd.R_below (KR HO106) hb); replace HB := am (below_step (K1 HB (IsS140.ge HI103.out)) hb); replace HI103 := am (IsS140.below (I140_0 HI103) hb); (try clear hb)))
   go_meet
   case rel => exact ⟨_, (true), (t107), (by first | rfl | (simp; done) | (simp [*]; done)), H', ⟨by first | omega | exact Nat.le_refl _⟩, ⟨KR HO106⟩, ⟨I140_0 HI103⟩, ⟨K1 HB (IsS140.ge HI103.out)⟩⟩
 case rest =>
  clear HC4
  try clear c1
  try clear p2
  try clear c4
  try clear c6
  try clear c8
  try clear c9
  try clear c9b0
  try clear c9b1
  try clear c9b2
  try clear c12
  try clear c12b0
  try clear c12b1
  obtain ⟨kq, x28_3, x104001_3, rfl, HA, HJ3, HO_4, HI103, HB⟩ := hcut
  cases kq with
  | zero => exact absurd HA.out (by simp [spec_DrawRulesDead.j0])
  | succ kj3 =>
   have H := HA.out
   clear HA
   simp only [spec_DrawRulesDead.j0] at H
   by_cases c21 : x28_3 = true
   ·subst c21
    have H1 : (some t104) = some r := by rw [if_pos rfl] at H; exact H
    clear H
    have H := H1
    clear H1
    obtain rfl := Option.some.inj H
    go_wp2
    go_ret
    exact ⟨_, ER, by (with_reducible repeat (first | apply Kd.R_alloc | apply Kd.R_drewN | apply Kd.R_drew)); exact HO_4.out, K1 HB (IsS140.ge HI103.out)⟩
   ·replace c21 := Bool.eq_false_iff.mpr c21
    subst c21
    have H1 : ((spec_l1Rd_pick.f kj3 t101 x104001_3 (t104.length : Int)).bind fun bt111 => (if 0 ≤ bt111.1 then (if bt111.1 < (t104.length : Int) then (if ((rd_T71 t104 bt111.1).f2.f1) < 32 then ((spec_l1Rd_pick.f kj3 t101 bt111.2 2).bind fun bt115 => (spec_DrawRulesDead.j1 kj3 t104 (bt115.1 == 0) t101 bt115.2 ((rd_T71 t104 bt111.1).f0) ((rd_T71 t104 bt111.1).f1) ((rd_T71 t104 bt111.1).f2.f0) ((rd_T71 t104 bt111.1).f2.f1) ((rd_T71 t104 bt111.1).f3.f0) ((rd_T71 t104 bt111.1).f3.f1) ((rd_T71 t104 bt111.1).f4) ((rd_T71 t104 bt111.1).f5))) else (spec_DrawRulesDead.j1 kj3 t104 false t101 bt111.2 ((rd_T71 t104 bt111.1).f0) ((rd_T71 t104 bt111.1).f1) ((rd_T71 t104 bt111.1).f2.f0) ((rd_T71 t104 bt111.1).f2.f1) ((rd_T71 t104 bt111.1).f3.f0) ((rd_T71 t104 bt111.1).f3.f1) ((rd_T71 t104 bt111.1).f4) ((rd_T71 t104 bt111.1).f5))) else (none)) else (none))) = some r := by rw [if_neg (show ¬ (false = true) by decide)] at H; exact H
    clear H
    have H := H1
    clear H1
    replace H := Option.bind_eq_some_iff.mp H
    obtain ⟨⟨t111, t112⟩, A220, H⟩ := H
    replace H : (if 0 ≤ t111 then (if t111 < (t104.length : Int) then (if ((rd_T71 t104 t111).f2.f1) < 32 then ((spec_l1Rd_pick.f kj3 t101 t112 2).bind fun bt115 => (spec_DrawRulesDead.j1 kj3 t104 (bt115.1 == 0) t101 bt115.2 ((rd_T71 t104 t111).f0) ((rd_T71 t104 t111).f1) ((rd_T71 t104 t111).f2.f0) ((rd_T71 t104 t111).f2.f1) ((rd_T71 t104 t111).f3.f0) ((rd_T71 t104 t111).f3.f1) ((rd_T71 t104 t111).f4) ((rd_T71 t104 t111).f5))) else (spec_DrawRulesDead.j1 kj3 t104 false t101 t112 ((rd_T71 t104 t111).f0) ((rd_T71 t104 t111).f1) ((rd_T71 t104 t111).f2.f0) ((rd_T71 t104 t111).f2.f1) ((rd_T71 t104 t111).f3.f0) ((rd_T71 t104 t111).f3.f1) ((rd_T71 t104 t111).f4) ((rd_T71 t104 t111).f5))) else (none)) else (none)) = some r := H
    have A22 := Aside0.mk A220
    clear A220
    by_cases c23 : 0 ≤ t111
    ·rw [if_pos c23] at H
     have c23b0 : decide (0 ≤ t111) = true := decide_eq_true c23
     clear c23
     by_cases c24 : t111 < (t104.length : Int)
     ·rw [if_pos c24] at H
      have c24b0 : decide (t111 < (t104.length : Int)) = true := decide_eq_true c24
      clear c24
      have HC25 := Aside0.mk H
      clear H
      obtain ⟨Ao26, co26, eo26⟩ := Kd.R_slice HO_4.out
      subst eo26
      go_upto_region 6 with (first | ((with_reducible refine gate_callee (f := 69) rfl ?_); refine goesL_ (some 34) rfl rfl Try.func69 (by kernel_rfl) rfl #[.pointer (some ⟨g103, 0, none⟩), .int .i64 (t104.length : Int)] rfl MT ?_; (with_reducible refine (spec_l1Rd_pick.calls kj3 g103 t101 x104001_3 (t104.length : Int) t111 t112 w _ ?side1 ?side2 A22.out).mono ?_); (case side1 => exact I140_0 HI103); (case side2 => exact K1 HB (IsS140.ge HI103.out)); rintro e w27 ⟨rfl, hi, hb, hk⟩; refine ⟨_, rfl, ?_⟩; replace HO_4 := am (Kd.R_mono (Kd.R_keep (IsS140.apart (show IsS140 w _ g103 t101 x104001_3 from I140_0 HI103) (KR HO_4) (by decide)) hk (fun _ h => h.2)) (fun _ h => h.1)); replace HB := am (hb); replace HI103 := am (hi); (try clear hb); (try clear hk); (try clear hi); have p113 : 0 ≤ (t111 : Int) := OD; have q113 : t111 < (t104.length : Int) := OD; obtain ⟨ad113, e113, hx113_0, hx113_1, hx113_2, hx113_3, hx113_4, hx113_5, hx113_6, hx113_7⟩ := at_T71 (Kd.R_reads' HO_4.out).2.2 t111 p113 q113; cases e113; replace p113 := eq_true p113; replace q113 := eq_true q113) | ((with_reducible refine gate_dst (N := 5) rfl ?_); (try (refine gate_guard (by rfl) ?_; dsimp only)); refine box_event rfl (N := 5) rfl (cs := #[.int .i64 0, .int .i64 0, .int .i64 0, .int .i64 0, .int .i64 0, .int .i64 0, .int .i64 0, .int .i64 0]) (t := 71) BX ?_; intro gb114 hg w28 hbox hb; replace HO_4 := am (Kd.R_below (Kd.R_elderB (KR HO_4) gb114 (Nat.le_of_eq hg.symm)) hb); have BK114 := am (hbox); have GW114 := am (GH1 HB (IsS140.ge HI103.out) hg); have GE114 := GW114; replace HB := am (below_step (K1 HB (IsS140.ge HI103.out)) hb); have NB103_114 := am ((by rw [hg]; exact Nat.ne_of_lt (IsS140.lt (show IsS140 w _ g103 t101 t112 from I140_0 HI103)) : g103 ≠ gb114)); have NB114_103 := am ((by rw [hg]; exact Nat.ne_of_gt (IsS140.lt (show IsS140 w _ g103 t101 t112 from I140_0 HI103)) : gb114 ≠ g103)); replace HI103 := am (IsS140.below (I140_0 HI103) hb); clear hb hbox hg; have hnb29 := NB114_103.out; have hnc29 := NB103_114.out; obtain ⟨hcz30_0, hcz30_1, hcz30_2, hcz30_3, hcz30_4, hcz30_5, hcz30_6, hcz30_7, hfz30_0⟩ := y8 w28 BK114.out))
      (try simp only [Act.put, List.setIfInBounds_toArray, List.set_cons_zero, List.set_cons_succ])
      go_cut [45] (fun v45 wc => ∃ (kq : Nat) (x45_24 : Bool) (x104001_24 : Int), v45 = .bool x45_24 ∧ Aside0 (spec_DrawRulesDead.j1 kq t104 x45_24 t101 x104001_24 ((rd_T71 t104 t111).f0) ((rd_T71 t104 t111).f1) ((rd_T71 t104 t111).f2.f0) ((rd_T71 t104 t111).f2.f1) ((rd_T71 t104 t111).f3.f0) ((rd_T71 t104 t111).f3.f1) ((rd_T71 t104 t111).f4) ((rd_T71 t104 t111).f5) = some r) ∧ Aside0 (kq ≤ kj3) ∧ Aside0 (Kd.R k71 71 wc w.heap.size (fun k_ => k_ ≠ gb114) (.slice (some ad113) t104.length co26) t104) ∧ Aside0 (wc.heap[gb114]? = some (.cells #[.int .i64 ((rd_T71 t104 t111).f0), .int .i64 ((rd_T71 t104 t111).f1), .int .i64 ((rd_T71 t104 t111).f2.f0), .int .i64 ((rd_T71 t104 t111).f2.f1), .int .i64 ((rd_T71 t104 t111).f3.f0), .int .i64 ((rd_T71 t104 t111).f3.f1), .int .i64 ((rd_T71 t104 t111).f4), .int .i64 ((rd_T71 t104 t111).f5)] 71 (0, 0))) ∧ Aside0 (IsS140 w wc g103 t101 x104001_24) ∧ Aside0 (Below w.heap.size w wc))
      case first =>
       have H := HC25.out
       clear HC25
       by_cases c31 : ((rd_T71 t104 t111).f2.f1) < 32
       ·rw [if_pos c31] at H
        have c31b0 : decide (((rd_T71 t104 t111).f2.f1) < 32) = true := decide_eq_true c31
        clear c31
        (first | rw [c31b0] | (simp only [i64_w, i32_w]; rw [c31b0]) | skip)
        replace H := Option.bind_eq_some_iff.mp H
        obtain ⟨⟨t115, t116⟩, A320, H⟩ := H
        replace H : (spec_DrawRulesDead.j1 kj3 t104 (t115 == 0) t101 t116 ((rd_T71 t104 t111).f0) ((rd_T71 t104 t111).f1) ((rd_T71 t104 t111).f2.f0) ((rd_T71 t104 t111).f2.f1) ((rd_T71 t104 t111).f3.f0) ((rd_T71 t104 t111).f3.f1) ((rd_T71 t104 t111).f4) ((rd_T71 t104 t111).f5)) = some r := H
        have A32 := Aside0.mk A320
        clear A320
        have H' := Aside0.mk H
        clear H
        have hnb33 := NB114_103.out
        have hnc33 := NB103_114.out
        obtain ⟨hcz34_0, hcz34_1, hcz34_2, hcz34_3, hcz34_4, hcz34_5, hcz34_6, hcz34_7, hfz34_0⟩ := y8 w28 BK114.out
        go_wp2_with (first | (go_at_call 69; (with_reducible refine (spec_l1Rd_pick.calls kj3 g103 t101 t112 2 t115 t116 w _ ?side1 ?side2 A32.out).mono ?_); (case side1 => exact I140_1 HI103 NB103_114.out); (case side2 => exact K2 HB (IsS140.ge HI103.out) GE114.out); rintro e w35 ⟨rfl, hi, hb, hk⟩; replace HO_4 := am (Kd.R_mono (Kd.R_keep (IsS140.apart (show IsS140 w _ g103 t101 t112 from I140_1 HI103 NB103_114.out) (by (with_reducible repeat (first | apply Kd.R_alloc | apply Kd.R_drewN | apply Kd.R_drew)); exact (Kd.R_mono (Kd.R_far (p := ⟨gb114, 7, none⟩) (Kd.R_far (p := ⟨gb114, 6, none⟩) (Kd.R_far (p := ⟨gb114, 5, none⟩) (Kd.R_far (p := ⟨gb114, 4, none⟩) (Kd.R_far (p := ⟨gb114, 3, none⟩) (Kd.R_far (p := ⟨gb114, 2, none⟩) (Kd.R_far (p := ⟨gb114, 1, none⟩) (Kd.R_far (p := ⟨gb114, 0, none⟩) (Kd.R_mono HO_4.out (fun k_ hk => (⟨hk, hk.2⟩ : _ ∧ k_ ≠ gb114))) (fun _ hk => hk.2) (.int .i64 ((rd_T71 t104 t111).f0))) (fun _ hk => hk.2) (.int .i64 ((rd_T71 t104 t111).f1))) (fun _ hk => hk.2) (.int .i64 ((rd_T71 t104 t111).f2.f0))) (fun _ hk => hk.2) (.int .i64 ((rd_T71 t104 t111).f2.f1))) (fun _ hk => hk.2) (.int .i64 ((rd_T71 t104 t111).f3.f0))) (fun _ hk => hk.2) (.int .i64 ((rd_T71 t104 t111).f3.f1))) (fun _ hk => hk.2) (.int .i64 ((rd_T71 t104 t111).f4))) (fun _ hk => hk.2) (.int .i64 ((rd_T71 t104 t111).f5))) (fun _ h_ => h_.1))) (by decide)) hk (fun _ h => h.2)) (fun _ h => h.1)); replace BK114 := am (KeepBut.blk hk (g' := gb114) (o := .cells #[.int .i64 ((rd_T71 t104 t111).f0), .int .i64 ((rd_T71 t104 t111).f1), .int .i64 ((rd_T71 t104 t111).f2.f0), .int .i64 ((rd_T71 t104 t111).f2.f1), .int .i64 ((rd_T71 t104 t111).f3.f0), .int .i64 ((rd_T71 t104 t111).f3.f1), .int .i64 ((rd_T71 t104 t111).f4), .int .i64 ((rd_T71 t104 t111).f5)] 71 (0, 0)) (by (with_reducible repeat (first | refine blk_drewN ?_ _ | refine blk_drew ?_ | refine blk_alloc ?_ _)); refine blk_put (cs := #[.int .i64 ((rd_T71 t104 t111).f0), .int .i64 ((rd_T71 t104 t111).f1), .int .i64 ((rd_T71 t104 t111).f2.f0), .int .i64 ((rd_T71 t104 t111).f2.f1), .int .i64 ((rd_T71 t104 t111).f3.f0), .int .i64 ((rd_T71 t104 t111).f3.f1), .int .i64 ((rd_T71 t104 t111).f4), .int .i64 0]) ?_ 7 _ rfl; (with_reducible repeat (first | refine blk_drewN ?_ _ | refine blk_drew ?_ | refine blk_alloc ?_ _)); refine blk_put (cs := #[.int .i64 ((rd_T71 t104 t111).f0), .int .i64 ((rd_T71 t104 t111).f1), .int .i64 ((rd_T71 t104 t111).f2.f0), .int .i64 ((rd_T71 t104 t111).f2.f1), .int .i64 ((rd_T71 t104 t111).f3.f0), .int .i64 ((rd_T71 t104 t111).f3.f1), .int .i64 0, .int .i64 0]) ?_ 6 _ rfl; (with_reducible repeat (first | refine blk_drewN ?_ _ | refine blk_drew ?_ | refine blk_alloc ?_ _)); refine blk_put (cs := #[.int .i64 ((rd_T71 t104 t111).f0), .int .i64 ((rd_T71 t104 t111).f1), .int .i64 ((rd_T71 t104 t111).f2.f0), .int .i64 ((rd_T71 t104 t111).f2.f1), .int .i64 ((rd_T71 t104 t111).f3.f0), .int .i64 0, .int .i64 0, .int .i64 0]) ?_ 5 _ rfl; (with_reducible repeat (first | refine blk_drewN ?_ _ | refine blk_drew ?_ | refine blk_alloc ?_ _)); refine blk_put (cs := #[.int .i64 ((rd_T71 t104 t111).f0), .int .i64 ((rd_T71 t104 t111).f1), .int .i64 ((rd_T71 t104 t111).f2.f0), .int .i64 ((rd_T71 t104 t111).f2.f1), .int .i64 0, .int .i64 0, .int .i64 0, .int .i64 0]) ?_ 4 _ rfl; (with_reducible repeat (first | refine blk_drewN ?_ _ | refine blk_drew ?_ | refine blk_alloc ?_ _)); refine blk_put (cs := #[.int .i64 ((rd_T71 t104 t111).f0), .int .i64 ((rd_T71 t104 t111).f1), .int .i64 ((rd_T71 t104 t111).f2.f0), .int .i64 0, .int .i64 0, .int .i64 0, .int .i64 0, .int .i64 0]) ?_ 3 _ rfl; (with_reducible repeat (first | refine blk_drewN ?_ _ | refine blk_drew ?_ | refine blk_alloc ?_ _)); refine blk_put (cs := #[.int .i64 ((rd_T71 t104 t111).f0), .int .i64 ((rd_T71 t104 t111).f1), .int .i64 0, .int .i64 0, .int .i64 0, .int .i64 0, .int .i64 0, .int .i64 0]) ?_ 2 _ rfl; (with_reducible repeat (first | refine blk_drewN ?_ _ | refine blk_drew ?_ | refine blk_alloc ?_ _)); refine blk_put (cs := #[.int .i64 ((rd_T71 t104 t111).f0), .int .i64 0, .int .i64 0, .int .i64 0, .int .i64 0, .int .i64 0, .int .i64 0, .int .i64 0]) ?_ 1 _ rfl; (with_reducible repeat (first | refine blk_drewN ?_ _ | refine blk_drew ?_ | refine blk_alloc ?_ _)); refine blk_put (cs := #[.int .i64 0, .int .i64 0, .int .i64 0, .int .i64 0, .int .i64 0, .int .i64 0, .int .i64 0, .int .i64 0]) ?_ 0 _ rfl; (with_reducible repeat (first | refine blk_drewN ?_ _ | refine blk_drew ?_ | refine blk_alloc ?_ _)); exact BK114.out) NB114_103.out (by simp)); replace HB := am (hb); replace HI103 := am (hi); (try clear hb); (try clear hb2); (try clear hk); (try clear hi)))
        go_meet
        case rel => exact ⟨_, ((t115 == 0)), (t116), (by first | rfl | (simp; done) | (simp [*]; done)), H', ⟨by have := HJ3.out; first | omega | exact Nat.le_refl _⟩, ⟨by (with_reducible repeat (first | apply Kd.R_alloc | apply Kd.R_drewN | apply Kd.R_drew)); exact Kd.R_mono HO_4.out (fun _ hk => hk.2)⟩, ⟨KB BK114⟩, ⟨I140_1 HI103 NB103_114.out⟩, ⟨K2 HB (IsS140.ge HI103.out) GE114.out⟩⟩
       ·rw [if_neg c31] at H
        have c31b0 : decide (((rd_T71 t104 t111).f2.f1) < 32) = false := decide_eq_false c31
        clear c31
        (first | rw [c31b0] | (simp only [i64_w, i32_w]; rw [c31b0]) | skip)
        have H' := Aside0.mk H
        clear H
        have hnb36 := NB114_103.out
        have hnc36 := NB103_114.out
        obtain ⟨hcz37_0, hcz37_1, hcz37_2, hcz37_3, hcz37_4, hcz37_5, hcz37_6, hcz37_7, hfz37_0⟩ := y8 w28 BK114.out
        go_wp2
        go_meet
        case rel => exact ⟨_, (false), (t112), (by first | rfl | (simp; done) | (simp [*]; done)), H', ⟨by have := HJ3.out; first | omega | exact Nat.le_refl _⟩, ⟨by (with_reducible repeat (first | apply Kd.R_alloc | apply Kd.R_drewN | apply Kd.R_drew)); exact Kd.R_mono (Kd.R_far (p := ⟨gb114, 7, none⟩) (Kd.R_far (p := ⟨gb114, 6, none⟩) (Kd.R_far (p := ⟨gb114, 5, none⟩) (Kd.R_far (p := ⟨gb114, 4, none⟩) (Kd.R_far (p := ⟨gb114, 3, none⟩) (Kd.R_far (p := ⟨gb114, 2, none⟩) (Kd.R_far (p := ⟨gb114, 1, none⟩) (Kd.R_far (p := ⟨gb114, 0, none⟩) (Kd.R_mono HO_4.out (fun k_ hk => (⟨hk, hk.2⟩ : _ ∧ k_ ≠ gb114))) (fun _ hk => hk.2) (.int .i64 ((rd_T71 t104 t111).f0))) (fun _ hk => hk.2) (.int .i64 ((rd_T71 t104 t111).f1))) (fun _ hk => hk.2) (.int .i64 ((rd_T71 t104 t111).f2.f0))) (fun _ hk => hk.2) (.int .i64 ((rd_T71 t104 t111).f2.f1))) (fun _ hk => hk.2) (.int .i64 ((rd_T71 t104 t111).f3.f0))) (fun _ hk => hk.2) (.int .i64 ((rd_T71 t104 t111).f3.f1))) (fun _ hk => hk.2) (.int .i64 ((rd_T71 t104 t111).f4))) (fun _ hk => hk.2) (.int .i64 ((rd_T71 t104 t111).f5))) (fun _ hk => hk.1.2)⟩, ⟨by (with_reducible repeat (first | refine blk_drewN ?_ _ | refine blk_drew ?_ | refine blk_alloc ?_ _)); refine blk_put (cs := #[.int .i64 ((rd_T71 t104 t111).f0), .int .i64 ((rd_T71 t104 t111).f1), .int .i64 ((rd_T71 t104 t111).f2.f0), .int .i64 ((rd_T71 t104 t111).f2.f1), .int .i64 ((rd_T71 t104 t111).f3.f0), .int .i64 ((rd_T71 t104 t111).f3.f1), .int .i64 ((rd_T71 t104 t111).f4), .int .i64 0]) ?_ 7 _ rfl; (with_reducible repeat (first | refine blk_drewN ?_ _ | refine blk_drew ?_ | refine blk_alloc ?_ _)); refine blk_put (cs := #[.int .i64 ((rd_T71 t104 t111).f0), .int .i64 ((rd_T71 t104 t111).f1), .int .i64 ((rd_T71 t104 t111).f2.f0), .int .i64 ((rd_T71 t104 t111).f2.f1), .int .i64 ((rd_T71 t104 t111).f3.f0), .int .i64 ((rd_T71 t104 t111).f3.f1), .int .i64 0, .int .i64 0]) ?_ 6 _ rfl; (with_reducible repeat (first | refine blk_drewN ?_ _ | refine blk_drew ?_ | refine blk_alloc ?_ _)); refine blk_put (cs := #[.int .i64 ((rd_T71 t104 t111).f0), .int .i64 ((rd_T71 t104 t111).f1), .int .i64 ((rd_T71 t104 t111).f2.f0), .int .i64 ((rd_T71 t104 t111).f2.f1), .int .i64 ((rd_T71 t104 t111).f3.f0), .int .i64 0, .int .i64 0, .int .i64 0]) ?_ 5 _ rfl; (with_reducible repeat (first | refine blk_drewN ?_ _ | refine blk_drew ?_ | refine blk_alloc ?_ _)); refine blk_put (cs := #[.int .i64 ((rd_T71 t104 t111).f0), .int .i64 ((rd_T71 t104 t111).f1), .int .i64 ((rd_T71 t104 t111).f2.f0), .int .i64 ((rd_T71 t104 t111).f2.f1), .int .i64 0, .int .i64 0, .int .i64 0, .int .i64 0]) ?_ 4 _ rfl; (with_reducible repeat (first | refine blk_drewN ?_ _ | refine blk_drew ?_ | refine blk_alloc ?_ _)); refine blk_put (cs := #[.int .i64 ((rd_T71 t104 t111).f0), .int .i64 ((rd_T71 t104 t111).f1), .int .i64 ((rd_T71 t104 t111).f2.f0), .int .i64 0, .int .i64 0, .int .i64 0, .int .i64 0, .int .i64 0]) ?_ 3 _ rfl; (with_reducible repeat (first | refine blk_drewN ?_ _ | refine blk_drew ?_ | refine blk_alloc ?_ _)); refine blk_put (cs := #[.int .i64 ((rd_T71 t104 t111).f0), .int .i64 ((rd_T71 t104 t111).f1), .int .i64 0, .int .i64 0, .int .i64 0, .int .i64 0, .int .i64 0, .int .i64 0]) ?_ 2 _ rfl; (with_reducible repeat (first | refine blk_drewN ?_ _ | refine blk_drew ?_ | refine blk_alloc ?_ _)); refine blk_put (cs := #[.int .i64 ((rd_T71 t104 t111).f0), .int .i64 0, .int .i64 0, .int .i64 0, .int .i64 0, .int .i64 0, .int .i64 0, .int .i64 0]) ?_ 1 _ rfl; (with_reducible repeat (first | refine blk_drewN ?_ _ | refine blk_drew ?_ | refine blk_alloc ?_ _)); refine blk_put (cs := #[.int .i64 0, .int .i64 0, .int .i64 0, .int .i64 0, .int .i64 0, .int .i64 0, .int .i64 0, .int .i64 0]) ?_ 0 _ rfl; (with_reducible repeat (first | refine blk_drewN ?_ _ | refine blk_drew ?_ | refine blk_alloc ?_ _)); exact BK114.out⟩, ⟨I140_1 HI103 NB103_114.out⟩, ⟨K2 HB (IsS140.ge HI103.out) GE114.out⟩⟩
      case rest =>
       clear HC25
       try clear c1
       try clear p1
       try clear q1
       try clear hx1
       try clear c2
       try clear p2
       try clear c3
       try clear c4
       try clear c6
       try clear c8
       try clear c9
       try clear c9b0
       try clear c9b1
       try clear c9b2
       try clear p11
       try clear q11
       try clear hx11
       try clear c12
       try clear c12b0
       try clear c12b1
       try clear c21
       try clear c23
       try clear c23b0
       try clear c24
       try clear c24b0
       try clear c29
       try clear c31
       try clear c31b0
       try clear c33
       try clear c36
       try clear hcz30_0 hcz30_1 hcz30_2 hcz30_3 hcz30_4 hcz30_5 hcz30_6 hcz30_7 hfz30_0
       try clear hcz34_0 hcz34_1 hcz34_2 hcz34_3 hcz34_4 hcz34_5 hcz34_6 hcz34_7 hfz34_0
       try clear hcz37_0 hcz37_1 hcz37_2 hcz37_3 hcz37_4 hcz37_5 hcz37_6 hcz37_7 hfz37_0
       try clear hx113_0
       try clear hx113_1
       try clear hx113_2
       try clear hx113_3
       try clear hx113_4
       try clear hx113_5
       try clear hx113_6
       try clear hx113_7
       try clear p113
       try clear p2
       try clear q113
       obtain ⟨kq, x45_24, x104001_24, rfl, HA, HJ24, HO_4, BK114, HI103, HB⟩ := hcut
       cases kq with
       | zero => exact absurd HA.out (by simp [spec_DrawRulesDead.j1])
       | succ kj24 =>
        have H := HA.out
        clear HA
        simp only [spec_DrawRulesDead.j1] at H
        have HC38 := Aside0.mk H
        clear H
        go_upto_if 45 with (fail)
        go_cut [] (fun wc => ∃ (kq : Nat) (x115003_37 : Int), Aside0 (spec_DrawRulesDead.j2 kq t104 t101 x104001_24 ((rd_T71 t104 t111).f0) ((rd_T71 t104 t111).f1) ((rd_T71 t104 t111).f2.f0) x115003_37 ((rd_T71 t104 t111).f3.f0) ((rd_T71 t104 t111).f3.f1) ((rd_T71 t104 t111).f4) ((rd_T71 t104 t111).f5) = some r) ∧ Aside0 (kq ≤ kj24) ∧ Aside0 (Kd.R k71 71 wc w.heap.size (fun k_ => k_ ≠ gb114) (.slice (some ad113) t104.length co26) t104) ∧ Aside0 (wc.heap[gb114]? = some (.cells #[.int .i64 ((rd_T71 t104 t111).f0), .int .i64 ((rd_T71 t104 t111).f1), .int .i64 ((rd_T71 t104 t111).f2.f0), .int .i64 x115003_37, .int .i64 ((rd_T71 t104 t111).f3.f0), .int .i64 ((rd_T71 t104 t111).f3.f1), .int .i64 ((rd_T71 t104 t111).f4), .int .i64 ((rd_T71 t104 t111).f5)] 71 (0, 0))) ∧ Aside0 (IsS140 w wc g103 t101 x104001_24) ∧ Aside0 (Below w.heap.size w wc))
        case first =>
         have H := HC38.out
         clear HC38
         by_cases c39 : x45_24 = true
         ·subst c39
          have H1 : (spec_DrawRulesDead.j2 kj24 t104 t101 x104001_24 ((rd_T71 t104 t111).f0) ((rd_T71 t104 t111).f1) ((rd_T71 t104 t111).f2.f0) (wrap64 (((rd_T71 t104 t111).f2.f1) + 1)) ((rd_T71 t104 t111).f3.f0) ((rd_T71 t104 t111).f3.f1) ((rd_T71 t104 t111).f4) ((rd_T71 t104 t111).f5)) = some r := by rw [if_pos rfl] at H; exact H
          clear H
          have H := H1
          clear H1
          have H' := Aside0.mk H
          clear H
          have hnb40 := NB114_103.out
          have hnc40 := NB103_114.out
          obtain ⟨hcz41_0, hcz41_1, hcz41_2, hcz41_3, hcz41_4, hcz41_5, hcz41_6, hcz41_7, hfz41_0⟩ := y8 wc BK114.out
          go_wp2
          go_meet
          case rel => exact ⟨_, (wrap64 (((rd_T71 t104 t111).f2.f1) + 1)), H', ⟨by have := HJ3.out; have := HJ24.out; first | omega | exact Nat.le_refl _⟩, ⟨by (with_reducible repeat (first | apply Kd.R_alloc | apply Kd.R_drewN | apply Kd.R_drew)); exact Kd.R_mono (Kd.R_far (p := ⟨gb114, 3, none⟩) (Kd.R_mono HO_4.out (fun k_ hk => (⟨hk, hk⟩ : _ ∧ k_ ≠ gb114))) (fun _ hk => hk.2) (.int .i64 (wrap64 (((rd_T71 t104 t111).f2.f1) + 1)))) (fun _ hk => hk.1)⟩, ⟨by (with_reducible repeat (first | refine blk_drewN ?_ _ | refine blk_drew ?_ | refine blk_alloc ?_ _)); refine blk_put (cs := #[.int .i64 ((rd_T71 t104 t111).f0), .int .i64 ((rd_T71 t104 t111).f1), .int .i64 ((rd_T71 t104 t111).f2.f0), .int .i64 ((rd_T71 t104 t111).f2.f1), .int .i64 ((rd_T71 t104 t111).f3.f0), .int .i64 ((rd_T71 t104 t111).f3.f1), .int .i64 ((rd_T71 t104 t111).f4), .int .i64 ((rd_T71 t104 t111).f5)]) ?_ 3 _ rfl; (with_reducible repeat (first | refine blk_drewN ?_ _ | refine blk_drew ?_ | refine blk_alloc ?_ _)); exact BK114.out⟩, ⟨I140_1 HI103 NB103_114.out⟩, ⟨K2 HB (IsS140.ge HI103.out) GE114.out⟩⟩
         ·replace c39 := Bool.eq_false_iff.mpr c39
          subst c39
          have H1 : (spec_DrawRulesDead.j2 kj24 t104 t101 x104001_24 ((rd_T71 t104 t111).f0) ((rd_T71 t104 t111).f1) ((rd_T71 t104 t111).f2.f0) ((rd_T71 t104 t111).f2.f1) ((rd_T71 t104 t111).f3.f0) ((rd_T71 t104 t111).f3.f1) ((rd_T71 t104 t111).f4) ((rd_T71 t104 t111).f5)) = some r := by rw [if_neg (show ¬ (false = true) by decide)] at H; exact H
          clear H
          have H := H1
          clear H1
          have H' := Aside0.mk H
          clear H
          go_wp2
          go_meet
          case rel => exact ⟨_, (((rd_T71 t104 t111).f2.f1)), H', ⟨by have := HJ3.out; have := HJ24.out; first | omega | exact Nat.le_refl _⟩, ⟨KR HO_4⟩, ⟨KB BK114⟩, ⟨I140_1 HI103 NB103_114.out⟩, ⟨K2 HB (IsS140.ge HI103.out) GE114.out⟩⟩
        case rest =>
         clear HC38
         try clear c1
         try clear p1
         try clear q1
         try clear hx1
         try clear c2
         try clear p2
         try clear c3
         try clear c4
         try clear c6
         try clear p6
         try clear c8
         try clear c9
         try clear c9b0
         try clear c9b1
         try clear c9b2
         try clear p11
         try clear q11
         try clear hx11
         try clear c12
         try clear c12b0
         try clear c12b1
         try clear c21
         try clear c23
         try clear c23b0
         try clear c24
         try clear c24b0
         try clear c29
         try clear c31
         try clear c31b0
         try clear c33
         try clear c36
         try clear c39
         try clear c40
         try clear hcz30_0 hcz30_1 hcz30_2 hcz30_3 hcz30_4 hcz30_5 hcz30_6 hcz30_7 hfz30_0
         try clear hcz34_0 hcz34_1 hcz34_2 hcz34_3 hcz34_4 hcz34_5 hcz34_6 hcz34_7 hfz34_0
         try clear hcz37_0 hcz37_1 hcz37_2 hcz37_3 hcz37_4 hcz37_5 hcz37_6 hcz37_7 hfz37_0
         try clear hcz41_0 hcz41_1 hcz41_2 hcz41_3 hcz41_4 hcz41_5 hcz41_6 hcz41_7 hfz41_0
         try clear hx113_0
         try clear hx113_1
         try clear hx113_2
         try clear hx113_3
         try clear hx113_4
         try clear hx113_5
         try clear hx113_6
         try clear hx113_7
         try clear p1
         try clear p11
         try clear p113
         try clear p2
         try clear q1
         try clear q11
         try clear q113
         obtain ⟨kq, x115003_37, HA, HJ37, HO_4, BK114, HI103, HB⟩ := hcut
         cases kq with
         | zero => exact absurd HA.out (by simp [spec_DrawRulesDead.j2])
         | succ kj37 =>
          have H := HA.out
          clear HA
          simp only [spec_DrawRulesDead.j2] at H
          have HC42 := Aside0.mk H
          clear H
          go_upto_region 8 with (fail)
          go_cut [61] (fun v61 wc => ∃ (kq : Nat) (x61_41 : Bool) (x104001_41 : Int), v61 = .bool x61_41 ∧ Aside0 (spec_DrawRulesDead.j3 kq t104 x61_41 t101 x104001_41 ((rd_T71 t104 t111).f0) ((rd_T71 t104 t111).f1) ((rd_T71 t104 t111).f2.f0) x115003_37 ((rd_T71 t104 t111).f3.f0) ((rd_T71 t104 t111).f3.f1) ((rd_T71 t104 t111).f4) ((rd_T71 t104 t111).f5) = some r) ∧ Aside0 (kq ≤ kj37) ∧ Aside0 (Kd.R k71 71 wc w.heap.size (fun k_ => k_ ≠ gb114) (.slice (some ad113) t104.length co26) t104) ∧ Aside0 (wc.heap[gb114]? = some (.cells #[.int .i64 ((rd_T71 t104 t111).f0), .int .i64 ((rd_T71 t104 t111).f1), .int .i64 ((rd_T71 t104 t111).f2.f0), .int .i64 x115003_37, .int .i64 ((rd_T71 t104 t111).f3.f0), .int .i64 ((rd_T71 t104 t111).f3.f1), .int .i64 ((rd_T71 t104 t111).f4), .int .i64 ((rd_T71 t104 t111).f5)] 71 (0, 0))) ∧ Aside0 (IsS140 w wc g103 t101 x104001_41) ∧ Aside0 (Below w.heap.size w wc))
          case first =>
           have H := HC42.out
           clear HC42
           by_cases c43 : ((rd_T71 t104 t111).f4) < ((rd_T71 t104 t111).f5)
           ·rw [if_pos c43] at H
            have c43b0 : decide (((rd_T71 t104 t111).f4) < ((rd_T71 t104 t111).f5)) = true := decide_eq_true c43
            clear c43
            (first | rw [c43b0] | (simp only [i64_w, i32_w]; rw [c43b0]) | skip)
            replace H := Option.bind_eq_some_iff.mp H
            obtain ⟨⟨t117, t118⟩, A440, H⟩ := H
            replace H : (spec_DrawRulesDead.j3 kj37 t104 (t117 == 0) t101 t118 ((rd_T71 t104 t111).f0) ((rd_T71 t104 t111).f1) ((rd_T71 t104 t111).f2.f0) x115003_37 ((rd_T71 t104 t111).f3.f0) ((rd_T71 t104 t111).f3.f1) ((rd_T71 t104 t111).f4) ((rd_T71 t104 t111).f5)) = some r := H
            have A44 := Aside0.mk A440
            clear A440
            have H' := Aside0.mk H
            clear H
            have hnb45 := NB114_103.out
            have hnc45 := NB103_114.out
            obtain ⟨hcz46_0, hcz46_1, hcz46_2, hcz46_3, hcz46_4, hcz46_5, hcz46_6, hcz46_7, hfz46_0⟩ := y8 wc BK114.out
            go_wp2_with (first | (go_at_call 69; (with_reducible refine (spec_l1Rd_pick.calls kj37 g103 t101 x104001_24 2 t117 t118 w _ ?side1 ?side2 A44.out).mono ?_); (case side1 => exact I140_1 HI103 NB103_114.out); (case side2 => exact K2 HB (IsS140.ge HI103.out) GE114.out); rintro e w47 ⟨rfl, hi, hb, hk⟩; replace HO_4 := am (Kd.R_mono (Kd.R_keep (IsS140.apart (show IsS140 w _ g103 t101 x104001_24 from I140_1 HI103 NB103_114.out) (KR HO_4) (by decide)) hk (fun _ h => h.2)) (fun _ h => h.1)); replace BK114 := am (KeepBut.blk hk (g' := gb114) (o := .cells #[.int .i64 ((rd_T71 t104 t111).f0), .int .i64 ((rd_T71 t104 t111).f1), .int .i64 ((rd_T71 t104 t111).f2.f0), .int .i64 x115003_37, .int .i64 ((rd_T71 t104 t111).f3.f0), .int .i64 ((rd_T71 t104 t111).f3.f1), .int .i64 ((rd_T71 t104 t111).f4), .int .i64 ((rd_T71 t104 t111).f5)] 71 (0, 0)) (KB BK114) NB114_103.out (by simp)); replace HB := am (hb); replace HI103 := am (hi); (try clear hb); (try clear hk); (try clear hi)))
            go_meet
            case rel => exact ⟨_, ((t117 == 0)), (t118), (by first | rfl | (simp; done) | (simp [*]; done)), H', ⟨by have := HJ3.out; have := HJ24.out; have := HJ37.out; first | omega | exact Nat.le_refl _⟩, ⟨KR HO_4⟩, ⟨KB BK114⟩, ⟨I140_1 HI103 NB103_114.out⟩, ⟨K2 HB (IsS140.ge HI103.out) GE114.out⟩⟩
           ·rw [if_neg c43] at H
            have c43b0 : decide (((rd_T71 t104 t111).f4) < ((rd_T71 t104 t111).f5)) = false := decide_eq_false c43
            clear c43
            (first | rw [c43b0] | (simp only [i64_w, i32_w]; rw [c43b0]) | skip)
            have H' := Aside0.mk H
            clear H
            have hnb48 := NB114_103.out
            have hnc48 := NB103_114.out
            obtain ⟨hcz49_0, hcz49_1, hcz49_2, hcz49_3, hcz49_4, hcz49_5, hcz49_6, hcz49_7, hfz49_0⟩ := y8 wc BK114.out
            go_wp2
            go_meet
            case rel => exact ⟨_, (false), (x104001_24), (by first | rfl | (simp; done) | (simp [*]; done)), H', ⟨by have := HJ3.out; have := HJ24.out; have := HJ37.out; first | omega | exact Nat.le_refl _⟩, ⟨KR HO_4⟩, ⟨KB BK114⟩, ⟨I140_1 HI103 NB103_114.out⟩, ⟨K2 HB (IsS140.ge HI103.out) GE114.out⟩⟩
          case rest =>
           clear HC42
           try clear c1
           try clear p1
           try clear q1
           try clear hx1
           try clear c2
           try clear p2
           try clear c3
           try clear c4
           try clear c6
           try clear p6
           try clear c8
           try clear c9
           try clear c9b0
           try clear c9b1
           try clear c9b2
           try clear p11
           try clear q11
           try clear hx11
           try clear c12
           try clear c12b0
           try clear c12b1
           try clear c21
           try clear c23
           try clear c23b0
           try clear c24
           try clear c24b0
           try clear c29
           try clear c31
           try clear c31b0
           try clear c33
           try clear c36
           try clear c39
           try clear c40
           try clear c43
           try clear c43b0
           try clear c44
           try clear c45
           try clear c48
           try clear c49
           try clear hcz30_0 hcz30_1 hcz30_2 hcz30_3 hcz30_4 hcz30_5 hcz30_6 hcz30_7 hfz30_0
           try clear hcz34_0 hcz34_1 hcz34_2 hcz34_3 hcz34_4 hcz34_5 hcz34_6 hcz34_7 hfz34_0
           try clear hcz37_0 hcz37_1 hcz37_2 hcz37_3 hcz37_4 hcz37_5 hcz37_6 hcz37_7 hfz37_0
           try clear hcz41_0 hcz41_1 hcz41_2 hcz41_3 hcz41_4 hcz41_5 hcz41_6 hcz41_7 hfz41_0
           try clear hcz46_0 hcz46_1 hcz46_2 hcz46_3 hcz46_4 hcz46_5 hcz46_6 hcz46_7 hfz46_0
           try clear hcz49_0 hcz49_1 hcz49_2 hcz49_3 hcz49_4 hcz49_5 hcz49_6 hcz49_7 hfz49_0
           try clear hx113_0
           try clear hx113_1
           try clear hx113_2
           try clear hx113_3
           try clear hx113_4
           try clear hx113_5
           try clear hx113_6
           try clear hx113_7
           try clear p1
           try clear p11
           try clear p113
           try clear p2
           try clear p6
           try clear q1
           try clear q11
           try clear q113
           obtain ⟨kq, x61_41, x104001_41, rfl, HA, HJ41, HO_4, BK114, HI103, HB⟩ := hcut
           cases kq with
           | zero => exact absurd HA.out (by simp [spec_DrawRulesDead.j3])
           | succ kj41 =>
            have H := HA.out
            clear HA
            simp only [spec_DrawRulesDead.j3] at H
            have HC50 := Aside0.mk H
            clear H
            go_upto_if 61 with (fail)
            go_cut [] (fun wc => ∃ (kq : Nat) (x115007_49 : Int), Aside0 (spec_DrawRulesDead.j4 kq t104 t101 x104001_41 ((rd_T71 t104 t111).f0) ((rd_T71 t104 t111).f1) ((rd_T71 t104 t111).f2.f0) x115003_37 ((rd_T71 t104 t111).f3.f0) ((rd_T71 t104 t111).f3.f1) ((rd_T71 t104 t111).f4) x115007_49 = some r) ∧ Aside0 (kq ≤ kj41) ∧ Aside0 (Kd.R k71 71 wc w.heap.size (fun k_ => k_ ≠ gb114) (.slice (some ad113) t104.length co26) t104) ∧ Aside0 (wc.heap[gb114]? = some (.cells #[.int .i64 ((rd_T71 t104 t111).f0), .int .i64 ((rd_T71 t104 t111).f1), .int .i64 ((rd_T71 t104 t111).f2.f0), .int .i64 x115003_37, .int .i64 ((rd_T71 t104 t111).f3.f0), .int .i64 ((rd_T71 t104 t111).f3.f1), .int .i64 ((rd_T71 t104 t111).f4), .int .i64 x115007_49] 71 (0, 0))) ∧ Aside0 (IsS140 w wc g103 t101 x104001_41) ∧ Aside0 (Below w.heap.size w wc))
            case first =>
             have H := HC50.out
             clear HC50
             by_cases c51 : x61_41 = true
             ·subst c51
              have H1 : (spec_DrawRulesDead.j4 kj41 t104 t101 x104001_41 ((rd_T71 t104 t111).f0) ((rd_T71 t104 t111).f1) ((rd_T71 t104 t111).f2.f0) x115003_37 ((rd_T71 t104 t111).f3.f0) ((rd_T71 t104 t111).f3.f1) ((rd_T71 t104 t111).f4) (wrap64 (((rd_T71 t104 t111).f5) - 1))) = some r := by rw [if_pos rfl] at H; exact H
              clear H
              have H := H1
              clear H1
              have H' := Aside0.mk H
              clear H
              have hnb52 := NB114_103.out
              have hnc52 := NB103_114.out
              obtain ⟨hcz53_0, hcz53_1, hcz53_2, hcz53_3, hcz53_4, hcz53_5, hcz53_6, hcz53_7, hfz53_0⟩ := y8 wc BK114.out
              go_wp2
              go_meet
              case rel => exact ⟨_, (wrap64 (((rd_T71 t104 t111).f5) - 1)), H', ⟨by have := HJ3.out; have := HJ24.out; have := HJ37.out; have := HJ41.out; first | omega | exact Nat.le_refl _⟩, ⟨by (with_reducible repeat (first | apply Kd.R_alloc | apply Kd.R_drewN | apply Kd.R_drew)); exact Kd.R_mono (Kd.R_far (p := ⟨gb114, 7, none⟩) (Kd.R_mono HO_4.out (fun k_ hk => (⟨hk, hk⟩ : _ ∧ k_ ≠ gb114))) (fun _ hk => hk.2) (.int .i64 (wrap64 (((rd_T71 t104 t111).f5) - 1)))) (fun _ hk => hk.1)⟩, ⟨by (with_reducible repeat (first | refine blk_drewN ?_ _ | refine blk_drew ?_ | refine blk_alloc ?_ _)); refine blk_put (cs := #[.int .i64 ((rd_T71 t104 t111).f0), .int .i64 ((rd_T71 t104 t111).f1), .int .i64 ((rd_T71 t104 t111).f2.f0), .int .i64 x115003_37, .int .i64 ((rd_T71 t104 t111).f3.f0), .int .i64 ((rd_T71 t104 t111).f3.f1), .int .i64 ((rd_T71 t104 t111).f4), .int .i64 ((rd_T71 t104 t111).f5)]) ?_ 7 _ rfl; (with_reducible repeat (first | refine blk_drewN ?_ _ | refine blk_drew ?_ | refine blk_alloc ?_ _)); exact BK114.out⟩, ⟨I140_1 HI103 NB103_114.out⟩, ⟨K2 HB (IsS140.ge HI103.out) GE114.out⟩⟩
             ·replace c51 := Bool.eq_false_iff.mpr c51
              subst c51
              have H1 : (spec_DrawRulesDead.j4 kj41 t104 t101 x104001_41 ((rd_T71 t104 t111).f0) ((rd_T71 t104 t111).f1) ((rd_T71 t104 t111).f2.f0) x115003_37 ((rd_T71 t104 t111).f3.f0) ((rd_T71 t104 t111).f3.f1) ((rd_T71 t104 t111).f4) ((rd_T71 t104 t111).f5)) = some r := by rw [if_neg (show ¬ (false = true) by decide)] at H; exact H
              clear H
              have H := H1
              clear H1
              have H' := Aside0.mk H
              clear H
              go_wp2
              go_meet
              case rel => exact ⟨_, (((rd_T71 t104 t111).f5)), H', ⟨by have := HJ3.out; have := HJ24.out; have := HJ37.out; have := HJ41.out; first | omega | exact Nat.le_refl _⟩, ⟨KR HO_4⟩, ⟨KB BK114⟩, ⟨I140_1 HI103 NB103_114.out⟩, ⟨K2 HB (IsS140.ge HI103.out) GE114.out⟩⟩
            case rest =>
             clear HC50
             try clear c1
             try clear p1
             try clear q1
             try clear hx1
             try clear c2
             try clear p2
             try clear c3
             try clear c4
             try clear c5
             try clear c6
             try clear p6
             try clear c8
             try clear c9
             try clear c9b0
             try clear c9b1
             try clear c9b2
             try clear p11
             try clear q11
             try clear hx11
             try clear c12
             try clear c12b0
             try clear c12b1
             try clear c21
             try clear c23
             try clear c23b0
             try clear c24
             try clear c24b0
             try clear c29
             try clear c31
             try clear c31b0
             try clear c33
             try clear c36
             try clear c39
             try clear c40
             try clear c43
             try clear c43b0
             try clear c44
             try clear c45
             try clear c48
             try clear c49
             try clear c51
             try clear c52
             try clear hcz30_0 hcz30_1 hcz30_2 hcz30_3 hcz30_4 hcz30_5 hcz30_6 hcz30_7 hfz30_0
             try clear hcz34_0 hcz34_1 hcz34_2 hcz34_3 hcz34_4 hcz34_5 hcz34_6 hcz34_7 hfz34_0
             try clear hcz37_0 hcz37_1 hcz37_2 hcz37_3 hcz37_4 hcz37_5 hcz37_6 hcz37_7 hfz37_0
             try clear hcz41_0 hcz41_1 hcz41_2 hcz41_3 hcz41_4 hcz41_5 hcz41_6 hcz41_7 hfz41_0
             try clear hcz46_0 hcz46_1 hcz46_2 hcz46_3 hcz46_4 hcz46_5 hcz46_6 hcz46_7 hfz46_0
             try clear hcz49_0 hcz49_1 hcz49_2 hcz49_3 hcz49_4 hcz49_5 hcz49_6 hcz49_7 hfz49_0
             try clear hcz53_0 hcz53_1 hcz53_2 hcz53_3 hcz53_4 hcz53_5 hcz53_6 hcz53_7 hfz53_0
             try clear hx113_0
             try clear hx113_1
             try clear hx113_2
             try clear hx113_3
             try clear hx113_4
             try clear hx113_5
             try clear hx113_6
             try clear hx113_7
             try clear p1
             try clear p11
             try clear p113
             try clear p2
             try clear p6
             try clear q1
             try clear q11
             try clear q113
             obtain ⟨kq, x115007_49, HA, HJ49, HO_4, BK114, HI103, HB⟩ := hcut
             cases kq with
             | zero => exact absurd HA.out (by simp [spec_DrawRulesDead.j4])
             | succ kj49 =>
              have H := HA.out
              clear HA
              simp only [spec_DrawRulesDead.j4] at H
              replace H := Option.bind_eq_some_iff.mp H
              obtain ⟨⟨t119, t120⟩, A540, H⟩ := H
              replace H : ((some (([] : List (S71)) : List (S71))).bind fun y121 => (if 0 ≤ t119 then (if t119 ≤ (t104.length : Int) then ((some (t104.take (t119 : Int).toNat : List (S71))).bind fun y124 => (if y121.length + y124.length < 2199023255552 then ((some (y121 ++ y124 : List (S71))).bind fun y128 => ((some (([(⟨((rd_T71 t104 t111).f0), ((rd_T71 t104 t111).f1), (⟨((rd_T71 t104 t111).f2.f0), x115003_37⟩ : S43), (⟨((rd_T71 t104 t111).f3.f0), ((rd_T71 t104 t111).f3.f1)⟩ : S43), ((rd_T71 t104 t111).f4), x115007_49⟩ : S71)] : List (S71)) : List (S71))).bind fun y131 => (if y128.length + y131.length < 2199023255552 then ((some (y128 ++ y131 : List (S71))).bind fun y134 => ((some (t104.drop (t119 : Int).toNat : List (S71))).bind fun y137 => (if y134.length + y137.length < 2199023255552 then (some (y134 ++ y137)) else (none)))) else (none)))) else (none))) else (none)) else (none))) = some r := H
              have A54 := Aside0.mk A540
              clear A540
              obtain ⟨y121, hy121⟩ : ∃ y_ : List (S71), y_ = (([] : List (S71))) := ⟨_, rfl⟩
              replace H : (if 0 ≤ t119 then (if t119 ≤ (t104.length : Int) then ((some (t104.take (t119 : Int).toNat : List (S71))).bind fun y124 => (if y121.length + y124.length < 2199023255552 then ((some (y121 ++ y124 : List (S71))).bind fun y128 => ((some (([(⟨((rd_T71 t104 t111).f0), ((rd_T71 t104 t111).f1), (⟨((rd_T71 t104 t111).f2.f0), x115003_37⟩ : S43), (⟨((rd_T71 t104 t111).f3.f0), ((rd_T71 t104 t111).f3.f1)⟩ : S43), ((rd_T71 t104 t111).f4), x115007_49⟩ : S71)] : List (S71)) : List (S71))).bind fun y131 => (if y128.length + y131.length < 2199023255552 then ((some (y128 ++ y131 : List (S71))).bind fun y134 => ((some (t104.drop (t119 : Int).toNat : List (S71))).bind fun y137 => (if y134.length + y137.length < 2199023255552 then (some (y134 ++ y137)) else (none)))) else (none)))) else (none))) else (none)) else (none)) = some r := by first | (rw [hy121]; with_reducible exact H) | (have H2_ := (Option.bind_some _ _).symm.trans H; rw [hy121]; with_reducible exact H2_) | (have H2_ := (Option.bind_some _ _).symm.trans H; with_reducible exact H2_) | with_reducible exact H | (rw [hy121]; exact H) | exact H
              have Ny121 := Aside0.mk hy121
              clear hy121
              by_cases c55 : 0 ≤ t119
              ·rw [if_pos c55] at H
               have c55b0 := eq_true c55
               have c55b1 : decide (0 ≤ t119) = true := decide_eq_true c55
               clear c55
               by_cases c56 : t119 ≤ (t104.length : Int)
               ·rw [if_pos c56] at H
                have c56b0 := eq_true c56
                have c56b1 : decide (t119 ≤ (t104.length : Int)) = true := decide_eq_true c56
                clear c56
                obtain ⟨y124, hy124⟩ : ∃ y_ : List (S71), y_ = (t104.take (t119 : Int).toNat) := ⟨_, rfl⟩
                replace H : (if y121.length + y124.length < 2199023255552 then ((some (y121 ++ y124 : List (S71))).bind fun y128 => ((some (([(⟨((rd_T71 t104 t111).f0), ((rd_T71 t104 t111).f1), (⟨((rd_T71 t104 t111).f2.f0), x115003_37⟩ : S43), (⟨((rd_T71 t104 t111).f3.f0), ((rd_T71 t104 t111).f3.f1)⟩ : S43), ((rd_T71 t104 t111).f4), x115007_49⟩ : S71)] : List (S71)) : List (S71))).bind fun y131 => (if y128.length + y131.length < 2199023255552 then ((some (y128 ++ y131 : List (S71))).bind fun y134 => ((some (t104.drop (t119 : Int).toNat : List (S71))).bind fun y137 => (if y134.length + y137.length < 2199023255552 then (some (y134 ++ y137)) else (none)))) else (none)))) else (none)) = some r := by first | (rw [hy124]; with_reducible exact H) | (have H2_ := (Option.bind_some _ _).symm.trans H; rw [hy124]; with_reducible exact H2_) | (have H2_ := (Option.bind_some _ _).symm.trans H; with_reducible exact H2_) | with_reducible exact H | (rw [hy124]; exact H) | exact H
                have Ny124 := Aside0.mk hy124
                clear hy124
                by_cases c57 : y121.length + y124.length < 2199023255552
                ·rw [if_pos c57] at H
                 have LMc57 := Aside0.mk c57
                 clear c57
                 obtain ⟨y128, hy128⟩ : ∃ y_ : List (S71), y_ = (y121 ++ y124) := ⟨_, rfl⟩
                 replace H : ((some (([(⟨((rd_T71 t104 t111).f0), ((rd_T71 t104 t111).f1), (⟨((rd_T71 t104 t111).f2.f0), x115003_37⟩ : S43), (⟨((rd_T71 t104 t111).f3.f0), ((rd_T71 t104 t111).f3.f1)⟩ : S43), ((rd_T71 t104 t111).f4), x115007_49⟩ : S71)] : List (S71)) : List (S71))).bind fun y131 => (if y128.length + y131.length < 2199023255552 then ((some (y128 ++ y131 : List (S71))).bind fun y134 => ((some (t104.drop (t119 : Int).toNat : List (S71))).bind fun y137 => (if y134.length + y137.length < 2199023255552 then (some (y134 ++ y137)) else (none)))) else (none))) = some r := by first | (rw [hy128]; with_reducible exact H) | (have H2_ := (Option.bind_some _ _).symm.trans H; rw [hy128]; with_reducible exact H2_) | (have H2_ := (Option.bind_some _ _).symm.trans H; with_reducible exact H2_) | with_reducible exact H | (rw [hy128]; exact H) | exact H
                 have Ny128 := Aside0.mk hy128
                 clear hy128
                 obtain ⟨y131, hy131⟩ : ∃ y_ : List (S71), y_ = (([(⟨((rd_T71 t104 t111).f0), ((rd_T71 t104 t111).f1), (⟨((rd_T71 t104 t111).f2.f0), x115003_37⟩ : S43), (⟨((rd_T71 t104 t111).f3.f0), ((rd_T71 t104 t111).f3.f1)⟩ : S43), ((rd_T71 t104 t111).f4), x115007_49⟩ : S71)] : List (S71))) := ⟨_, rfl⟩
                 replace H : (if y128.length + y131.length < 2199023255552 then ((some (y128 ++ y131 : List (S71))).bind fun y134 => ((some (t104.drop (t119 : Int).toNat : List (S71))).bind fun y137 => (if y134.length + y137.length < 2199023255552 then (some (y134 ++ y137)) else (none)))) else (none)) = some r := by first | (rw [hy131]; with_reducible exact H) | (have H2_ := (Option.bind_some _ _).symm.trans H; rw [hy131]; with_reducible exact H2_) | (have H2_ := (Option.bind_some _ _).symm.trans H; with_reducible exact H2_) | with_reducible exact H | (rw [hy131]; exact H) | exact H
                 have Ny131 := Aside0.mk hy131
                 clear hy131
                 by_cases c58 : y128.length + y131.length < 2199023255552
                 ·rw [if_pos c58] at H
                  have LMc58 := Aside0.mk c58
                  clear c58
                  obtain ⟨y134, hy134⟩ : ∃ y_ : List (S71), y_ = (y128 ++ y131) := ⟨_, rfl⟩
                  replace H : ((some (t104.drop (t119 : Int).toNat : List (S71))).bind fun y137 => (if y134.length + y137.length < 2199023255552 then (some (y134 ++ y137)) else (none))) = some r := by first | (rw [hy134]; with_reducible exact H) | (have H2_ := (Option.bind_some _ _).symm.trans H; rw [hy134]; with_reducible exact H2_) | (have H2_ := (Option.bind_some _ _).symm.trans H; with_reducible exact H2_) | with_reducible exact H | (rw [hy134]; exact H) | exact H
                  have Ny134 := Aside0.mk hy134
                  clear hy134
                  have c59b0 := eq_true (OD : 0 ≤ t119)
                  have c60b0 := eq_true (OD : t119 ≤ (t104.length : Int))
                  obtain ⟨y137, hy137⟩ : ∃ y_ : List (S71), y_ = (t104.drop (t119 : Int).toNat) := ⟨_, rfl⟩
                  replace H : (if y134.length + y137.length < 2199023255552 then (some (y134 ++ y137)) else (none)) = some r := by first | (rw [hy137]; with_reducible exact H) | (have H2_ := (Option.bind_some _ _).symm.trans H; rw [hy137]; with_reducible exact H2_) | (have H2_ := (Option.bind_some _ _).symm.trans H; with_reducible exact H2_) | with_reducible exact H | (rw [hy137]; exact H) | exact H
                  have Ny137 := Aside0.mk hy137
                  clear hy137
                  by_cases c61 : y134.length + y137.length < 2199023255552
                  ·rw [if_pos c61] at H
                   have LMc61 := Aside0.mk c61
                   clear c61
                   obtain ⟨y141, hy141⟩ : ∃ y_ : List (S71), y_ = (y134 ++ y137) := ⟨_, rfl⟩
                   replace H : (some y141) = some r := by first | (rw [hy141]; with_reducible exact H) | (have H2_ := (Option.bind_some _ _).symm.trans H; rw [hy141]; with_reducible exact H2_) | (have H2_ := (Option.bind_some _ _).symm.trans H; with_reducible exact H2_) | with_reducible exact H | (rw [hy141]; exact H) | exact H
                   have Ny141 := Aside0.mk hy141
                   clear hy141
                   obtain rfl := Option.some.inj H
                   try go_wp2_with (first | ((with_reducible refine gate_callee (f := 69) rfl ?_); refine goesL_ (some 70) rfl rfl Try.func69 (by kernel_rfl) rfl #[.pointer (some ⟨g103, 0, none⟩), .int .i64 (wrap64 ((t104.length : Int) + 1))] rfl MT ?_; (with_reducible refine (spec_l1Rd_pick.calls kj49 g103 t101 x104001_41 (wrap64 ((t104.length : Int) + 1)) t119 t120 w _ ?side1 ?side2 A54.out).mono ?_); (case side1 => exact I140_1 HI103 NB103_114.out); (case side2 => exact K2 HB (IsS140.ge HI103.out) GE114.out); rintro e w62 ⟨rfl, hi, hb, hk⟩; refine ⟨_, rfl, ?_⟩; replace HO_4 := am (Kd.R_mono (Kd.R_keep (IsS140.apart (show IsS140 w _ g103 t101 x104001_41 from I140_1 HI103 NB103_114.out) (KR HO_4) (by decide)) hk (fun _ h => h.2)) (fun _ h => h.1)); replace BK114 := am (KeepBut.blk hk (g' := gb114) (o := .cells #[.int .i64 ((rd_T71 t104 t111).f0), .int .i64 ((rd_T71 t104 t111).f1), .int .i64 ((rd_T71 t104 t111).f2.f0), .int .i64 x115003_37, .int .i64 ((rd_T71 t104 t111).f3.f0), .int .i64 ((rd_T71 t104 t111).f3.f1), .int .i64 ((rd_T71 t104 t111).f4), .int .i64 x115007_49] 71 (0, 0)) (KB BK114) NB114_103.out (by simp)); replace HB := am (hb); replace HI103 := am (hi); (try clear hb); (try clear hk); (try clear hi)))
                   replace HO_4 := am (Kd.R_drew HO_4.out)
                   replace BK114 := am (blk_drew BK114.out)
                   replace HI103 := am (IsS140.drew HI103.out)
                   replace HB := am (below_drew1 HB.out)
                   have q64 : (t119 : Int) ≤ ((t104.length : Int) : Int) := OD
                   obtain ⟨i064, hi064, _, hsz64, _⟩ := info_parts info71
                   have hroom64 : t104.length ≤ co26 := (Kd.R_reads' HO_4.out).2.1
                   have hC64 : Kd.C k71 _ (some ad113) t104.length t104 := (Kd.R_reads' HO_4.out).2.2
                   have hcut64 := cut_to (P := Try.prog) 52 71 .i64 Try.underlying52 hi064 (some ad113) t104.length co26 t119 (OD) q64 hroom64
                   have hr64 := Kd.C_take (m := (t119 : Int).toNat) hC64 (by omega)
                   have hy64 : y124.length = (t119 : Int).toNat := (by rw [Ny124.out, List.length_take]; omega)
                   rw [← Ny124.out] at hr64
                   rw [← hy64] at hcut64
                   have HR127 := Aside0.mk hr64
                   have HC127 := am (show y124.length ≤ co26 from by omega)
                   clear hr64 hC64 hroom64 hi064 hsz64
                   have KY64 := Aside0.mk hy64
                   clear hy64
                   have KL64 := am (show (t119 : Int).toNat ≤ t104.length from by omega)
                   replace q64 := eq_true q64
                   have q65 : (t119 : Int) ≤ ((t104.length : Int) : Int) := OD
                   obtain ⟨i065, hi065, _, hsz65, _⟩ := info_parts info71
                   have hroom65 : t104.length ≤ co26 := (Kd.R_reads' HO_4.out).2.1
                   have hC65 : Kd.C k71 _ (some ad113) t104.length t104 := (Kd.R_reads' HO_4.out).2.2
                   have q065 : (0 : Int) ≤ (t119 : Int) := OD
                   have hcut65 := cut_from (P := Try.prog) 52 71 .i64 Try.underlying52 hi065 8 hsz65 (some ad113) t104.length co26 t119 q065 q65
                   have hr65 := Kd.C_drop (m := (t119 : Int).toNat) (c := co26) hC65 (by omega) hroom65
                   obtain ⟨A65, hA65⟩ : ∃ A1, A1 = (if co26 = (t119 : Int).toNat then (some ad113) else ((some ad113) : Option Addr).map (·.add ((t119 : Int).toNat * 8))) := ⟨_, rfl⟩
                   obtain ⟨c65, hc65⟩ : ∃ c1, c1 = co26 - (t119 : Int).toNat := ⟨_, rfl⟩
                   have hy65 : y137.length = t104.length - (t119 : Int).toNat := (by rw [Ny137.out, List.length_drop] <;> omega)
                   rw [show (t104).drop (t119 : Int).toNat = y137 from Ny137.out.symm] at hr65
                   replace hr65 : Kd.C k71 _ A65 y137.length y137 := (by rw [hA65]; exact hr65)
                   rw [← hy65, ← hA65, ← hc65] at hcut65
                   have HR140 := Aside0.mk hr65
                   have HC140 := am (show y137.length ≤ c65 from by rw [hy65, hc65]; exact Nat.sub_le_sub_right hroom65 _)
                   clear hr65 hC65 hroom65 hi065 hsz65 hc65
                   have KY65 := Aside0.mk hy65
                   have KA65 := Aside0.mk hA65
                   clear hy65 hA65
                   have KL65 := am (show (t119 : Int).toNat ≤ t104.length from by omega)
                   replace q65 := eq_true q65
                   refine start_ (n := 13) (S := fun w' => de8 w' gb114 (.int .i64 ((rd_T71 t104 t111).f0)) (.int .i64 ((rd_T71 t104 t111).f1)) (.int .i64 ((rd_T71 t104 t111).f2.f0)) (.int .i64 x115003_37) (.int .i64 ((rd_T71 t104 t111).f3.f0)) (.int .i64 ((rd_T71 t104 t111).f3.f1)) (.int .i64 ((rd_T71 t104 t111).f4)) (.int .i64 x115007_49)) (ds := []) (tf 0 13) (by kernel_rfl) rfl rfl ⟨z0 _ BK114.out, z1 _ BK114.out, z2 _ BK114.out, z3 _ BK114.out, z4 _ BK114.out, z5 _ BK114.out, z6 _ BK114.out, z7 _ BK114.out⟩ (fun hHeld => ?_); refine with_tabW spec_DrawRulesDead.tab11 spec_DrawRulesDead.bits11 (fun HT_ HW_ => ?_)
                   generalize w62.drew = w63 at HO_4 BK114 HI103 HB HR127 HR140 hHeld ⊢
                   refine pv HT_ 1 72 (tr [0, 1, 1, 11]) ?_
                   refine pv HT_ 2 73 (tr [0, 1, 2, 10]) ?_
                   refine pv HT_ 3 74 (tr [0, 1, 3, 9]) ?_
                   refine pv HT_ 8 79 (tr [0, 1, 3, 4, 1, 4]) ?_
                   refine pv HT_ 9 80 (tr [0, 1, 3, 4, 2, 3]) ?_
                   refine pv HT_ 10 81 (tr [0, 1, 3, 4, 3, 2]) ?_
                   refine tk 5 (some 76) (tr [0, 1, 3, 1, 1, 2, 3, 2]) (take_ofW HT_.out HW_.out (by kernel_rfl)) hHeld ?_
                   refine join_ (σ := Value × Value × Value) 3 (tr [7, 1, 3, 2]) (fun s_ => [(71, s_.1), (75, s_.2.1), (77, s_.2.2)]) (fun s_ w' => (w'.cell? ⟨gb114, 0, none⟩ = some (.int .i64 ((rd_T71 t104 t111).f0)) ∧ w'.cell? ⟨gb114, 1, none⟩ = some (.int .i64 ((rd_T71 t104 t111).f1)) ∧ w'.cell? ⟨gb114, 2, none⟩ = some (.int .i64 ((rd_T71 t104 t111).f2.f0)) ∧ w'.cell? ⟨gb114, 3, none⟩ = some (.int .i64 x115003_37) ∧ w'.cell? ⟨gb114, 4, none⟩ = some (.int .i64 ((rd_T71 t104 t111).f3.f0)) ∧ w'.cell? ⟨gb114, 5, none⟩ = some (.int .i64 ((rd_T71 t104 t111).f3.f1)) ∧ w'.cell? ⟨gb114, 6, none⟩ = some (.int .i64 ((rd_T71 t104 t111).f4)) ∧ w'.cell? ⟨gb114, 7, none⟩ = some (.int .i64 x115007_49)) ∧ (Kd.R k71 71 w' w.heap.size (fun k_ => some k_ ≠ (s_.2.2 : Value).ownBlock ∧ some k_ ≠ (.slice (some ad113) t104.length co26 : Value).ownBlock ∧ k_ ≠ gb114) s_.2.1 y128) ∧ (Kd.R k71 71 w' w.heap.size (fun k_ => some k_ ≠ (s_.2.1 : Value).ownBlock ∧ some k_ ≠ (.slice (some ad113) t104.length co26 : Value).ownBlock ∧ k_ ≠ gb114) s_.2.2 y131) ∧ (Kd.R k71 71 w' w.heap.size (fun k_ => some k_ ≠ (s_.2.1 : Value).ownBlock ∧ some k_ ≠ (s_.2.2 : Value).ownBlock ∧ k_ ≠ gb114) (.slice (some ad113) t104.length co26) t104) ∧ (w'.heap[gb114]? = some (.cells #[.int .i64 ((rd_T71 t104 t111).f0), .int .i64 ((rd_T71 t104 t111).f1), .int .i64 ((rd_T71 t104 t111).f2.f0), .int .i64 x115003_37, .int .i64 ((rd_T71 t104 t111).f3.f0), .int .i64 ((rd_T71 t104 t111).f3.f1), .int .i64 ((rd_T71 t104 t111).f4), .int .i64 x115007_49] 71 (0, 0))) ∧ (IsS140 w w' g103 t101 t120) ∧ (Below w.heap.size w w')) ?_ ?_
                   rotate_left
                   ·intro hCont
                    refine two_ (i := 0) (j := 6) (Ni := some 71) (Nj := some 77) (tr [4, 1, 1, 2, 3, 2]) (tr [0, 1, 3, 1, 2, 1, 3, 2]) rfl rfl rfl rfl (two_of HT_.out (by kernel_rfl)) (by decide) (by decide) (fun K hK => ?_) (fun K hK => ?_)
                    ·skip
                     refine Kd.R_lit_step k71 _ 71 ?hg (N := 71) ?hd (xs := ([] : List (S71))) (inner := []) (ok := fun _ => True) (okp := fun _ => True) ?hr ?hp (fun _ hk => hk) trivial (Below.refl _ _) (Nat.le_refl _) (by simp) ?_; (case hd => rfl); (case hg => rfl); (case hr => first | (go_simp; done) | (go_simp; rfl)); (case hp => exact (Reps.none _ _))
                     intro v122 w66 ho67 hb hg_ hnew_
                     clear hg_ hnew_
                     (first | rw [← Ny121.out] at ho67 | (simp only [Int.reduceToNat] at ho67; rw [← Ny121.out] at ho67))
                     have HO123 := am (Kd.R_lower (Kd.R_newB (Kd.R_new' ho67 (Kd.R_lt (KR HO_4))) (g := gb114) (o := .cells #[.int .i64 ((rd_T71 t104 t111).f0), .int .i64 ((rd_T71 t104 t111).f1), .int .i64 ((rd_T71 t104 t111).f2.f0), .int .i64 x115003_37, .int .i64 ((rd_T71 t104 t111).f3.f0), .int .i64 ((rd_T71 t104 t111).f3.f1), .int .i64 ((rd_T71 t104 t111).f4), .int .i64 x115007_49] 71 (0, 0)) (KB BK114)) (below_size (K2 HB (IsS140.ge HI103.out) GE114.out)))
                     replace HO_4 := am (Kd.R_elder' (KR HO_4) (Kd.R_base ho67) hb)
                     replace BK114 := am (BB BK114 hb)
                     replace HR127 := am (Kd.C_below (by repeat (first | (with_reducible exact HR127.out) | (with_reducible refine Kd.C_alloc ?_ _) | (with_reducible refine Kd.C_drewN ?_ _) | (with_reducible refine Kd.C_drew ?_) | exact HR127.out)) hb)
                     replace HR140 := am (Kd.C_below (by repeat (first | (with_reducible exact HR140.out) | (with_reducible refine Kd.C_alloc ?_ _) | (with_reducible refine Kd.C_drewN ?_ _) | (with_reducible refine Kd.C_drew ?_) | exact HR140.out)) hb)
                     replace HB := am (below_step (K2 HB (IsS140.ge HI103.out) GE114.out) hb)
                     replace HI103 := am (IsS140.below (I140_1 HI103 NB103_114.out) hb)
                     clear hb ho67
                     refine hK.out _ _ ⟨z0 _ BK114.out, z1 _ BK114.out, z2 _ BK114.out, z3 _ BK114.out, z4 _ BK114.out, z5 _ BK114.out, z6 _ BK114.out, z7 _ BK114.out⟩ (fun hHeld => ?_)
                     clear hK K
                     refine norm_ (a' := ?_) ?_ ?_
                     rotate_left
                     ·show Act.put _ (some 71) _ = _
                      simp only [Act.put, List.setIfInBounds_toArray, List.set_cons_zero, List.set_cons_succ, i64_w, i32_w]
                      rfl
                     refine two_ (i := 4) (j := 6) (Ni := some 75) (Nj := some 77) (tr [6, 2, 3, 2]) (tr [4, 1, 2, 1, 3, 2]) rfl rfl rfl rfl (two_of HT_.out (by kernel_rfl)) (by decide) (by decide) (fun K hK => ?_) (fun K hK => ?_)
                     ·skip
                      refine Kd.R_append_rows_step k71 (w0 := w) w.heap.size (by rfl) (.tmp 71) (.tmp 74) 52 71 (.agg #[(.int .i64 0), (.int .i64 0), (.int .i64 0), (.int .i64 0), (.int .i64 0), (.int .i64 0), (.int .i64 0), (.int .i64 0)]) 64 rfl Try.underlying52 info71 rfl (by decide) (by omega) v122 y121 y124 _ _ _ (fun k_ => some k_ ≠ (.slice (some ad113) t104.length co26 : Value).ownBlock ∧ k_ ≠ gb114) (fun _ => False) rfl rfl ?aO ?aR (fun _ _ h => h) (fun _ h => h.elim) ?aF ?aB ?aS ?aL ?_
                      (case aR => repeat (first | exact (by repeat (first | (with_reducible exact HR127.out) | (with_reducible refine Kd.C_alloc ?_ _) | (with_reducible refine Kd.C_drewN ?_ _) | (with_reducible refine Kd.C_drew ?_) | exact HR127.out)) | (with_reducible refine Kd.C_alloc ?_ _) | (with_reducible refine Kd.C_drewN ?_ _) | (with_reducible refine Kd.C_drew ?_)))
                      (case aB => exact (K2 HB (IsS140.ge HI103.out) GE114.out))
                      (case aF => exact (fun k_ hk => ⟨Kd.fresh' (Kd.R_lt (KR HO_4)) k_ hk, Kd.freshB (g := gb114) (o := .cells #[.int .i64 ((rd_T71 t104 t111).f0), .int .i64 ((rd_T71 t104 t111).f1), .int .i64 ((rd_T71 t104 t111).f2.f0), .int .i64 x115003_37, .int .i64 ((rd_T71 t104 t111).f3.f0), .int .i64 ((rd_T71 t104 t111).f3.f1), .int .i64 ((rd_T71 t104 t111).f4), .int .i64 x115007_49] 71 (0, 0)) (KB BK114) k_ hk⟩))
                      (case aO => exact (by (with_reducible repeat (first | apply Kd.R_alloc | apply Kd.R_drewN | apply Kd.R_drew)); exact Kd.R_mono HO123.out (fun _ hk => ⟨hk.1.2, hk.2⟩)))
                      (case aS => exact (below_size (K2 HB (IsS140.ge HI103.out) GE114.out)))
                      (case aL => have := LMc57.out; omega)
                      intro v129 w68 ho hb hg hat
                      rw [← Ny128.out] at ho
                      replace BK114 := am (blk_grown (g := gb114) (o := .cells #[.int .i64 ((rd_T71 t104 t111).f0), .int .i64 ((rd_T71 t104 t111).f1), .int .i64 ((rd_T71 t104 t111).f2.f0), .int .i64 x115003_37, .int .i64 ((rd_T71 t104 t111).f3.f0), .int .i64 ((rd_T71 t104 t111).f3.f1), .int .i64 ((rd_T71 t104 t111).f4), .int .i64 x115007_49] 71 (0, 0)) (KB BK114) hg (Kd.R_away HO123.out (fun _ hk => hk.2)))
                      replace HI103 := am (IsS140.grown (I140_1 HI103 NB103_114.out) hg (IsS140.own_ne HI103.out HO123.out (by decide)))
                      replace HB := am (hb)
                      replace HR127 := am ((show Kd.C k71 w68 (some ad113) y124.length y124 from by rw [Ny124.out]; exact Kd.C_take (m := (t119 : Int).toNat) ((Kd.R_reads' (Kd.R_after (ok := (fun k_ => k_ ≠ gb114)) (KR HO_4) hg hat)).2.2) KL64.out))
                      replace HR140 := am ((show Kd.C k71 w68 A65 y137.length y137 from by rw [Ny137.out, KA65.out]; exact Kd.C_drop (m := (t119 : Int).toNat) (c := co26) ((Kd.R_reads' (Kd.R_after (ok := (fun k_ => k_ ≠ gb114)) (KR HO_4) hg hat)).2.2) KL65.out ((Kd.R_reads' (Kd.R_after (ok := (fun k_ => k_ ≠ gb114)) (KR HO_4) hg hat)).2.1)))
                      replace HO_4 := am (Kd.R_after (ok := (fun k_ => k_ ≠ gb114)) (KR HO_4) hg hat)
                      have HO130 := am (ho)
                      clear HO123
                      clear ho hb hg hat
                      refine hK.out _ _ ⟨z0 _ BK114.out, z1 _ BK114.out, z2 _ BK114.out, z3 _ BK114.out, z4 _ BK114.out, z5 _ BK114.out, z6 _ BK114.out, z7 _ BK114.out⟩ (fun hHeld => ?_)
                      clear hK K
                      refine norm_ (a' := ?_) ?_ ?_
                      rotate_left
                      ·show Act.put _ (some 75) _ = _
                       simp only [Act.put, List.setIfInBounds_toArray, List.set_cons_zero, List.set_cons_succ, i64_w, i32_w]
                       rfl
                      refine one_ (i := 6) (N := some 77) (tr [7, 1, 3, 2]) rfl rfl (one_of HT_.out (by kernel_rfl)) (by decide) (fun K hK => ?_)
                      refine Kd.R_lit_step k71 _ 71 ?hg (N := 77) ?hd (xs := ([(⟨((rd_T71 t104 t111).f0), ((rd_T71 t104 t111).f1), (⟨((rd_T71 t104 t111).f2.f0), x115003_37⟩ : S43), (⟨((rd_T71 t104 t111).f3.f0), ((rd_T71 t104 t111).f3.f1)⟩ : S43), ((rd_T71 t104 t111).f4), x115007_49⟩ : S71)] : List (S71))) (inner := [.int .i64 ((rd_T71 t104 t111).f0), .int .i64 ((rd_T71 t104 t111).f1), .int .i64 ((rd_T71 t104 t111).f2.f0), .int .i64 x115003_37, .int .i64 ((rd_T71 t104 t111).f3.f0), .int .i64 ((rd_T71 t104 t111).f3.f1), .int .i64 ((rd_T71 t104 t111).f4), .int .i64 x115007_49]) (ok := fun _ => True) (okp := fun _ => True) ?hr ?hp (fun _ hk => hk) trivial (Below.refl _ _) (Nat.le_refl _) (by simp) ?_; (case hd => rfl); (case hg => rfl); (case hr => first | (go_simp; done) | (go_simp; rfl)); (case hp => exact (Reps.c8 (show Kd.M k71 _ _ _ (⟨((rd_T71 t104 t111).f0), ((rd_T71 t104 t111).f1), (⟨((rd_T71 t104 t111).f2.f0), x115003_37⟩ : S43), (⟨((rd_T71 t104 t111).f3.f0), ((rd_T71 t104 t111).f3.f1)⟩ : S43), ((rd_T71 t104 t111).f4), x115007_49⟩ : S71) [.int .i64 ((rd_T71 t104 t111).f0), .int .i64 ((rd_T71 t104 t111).f1), .int .i64 ((rd_T71 t104 t111).f2.f0), .int .i64 x115003_37, .int .i64 ((rd_T71 t104 t111).f3.f0), .int .i64 ((rd_T71 t104 t111).f3.f1), .int .i64 ((rd_T71 t104 t111).f4), .int .i64 x115007_49] from (k71_mkM _ _ _ (⟨((rd_T71 t104 t111).f0), ((rd_T71 t104 t111).f1), (⟨((rd_T71 t104 t111).f2.f0), x115003_37⟩ : S43), (⟨((rd_T71 t104 t111).f3.f0), ((rd_T71 t104 t111).f3.f1)⟩ : S43), ((rd_T71 t104 t111).f4), x115007_49⟩ : S71) )) (Reps.none _ _)))
                      intro v132 w69 ho70 hb hg_ hnew_
                      clear hg_ hnew_
                      (first | rw [← Ny131.out] at ho70 | (simp only [Int.reduceToNat] at ho70; rw [← Ny131.out] at ho70))
                      have HO133 := am (Kd.R_lower (Kd.R_newB (Kd.R_new' (Kd.R_new' ho70 (Kd.R_lt (KR HO_4))) (Kd.R_lt (KR HO130))) (g := gb114) (o := .cells #[.int .i64 ((rd_T71 t104 t111).f0), .int .i64 ((rd_T71 t104 t111).f1), .int .i64 ((rd_T71 t104 t111).f2.f0), .int .i64 x115003_37, .int .i64 ((rd_T71 t104 t111).f3.f0), .int .i64 ((rd_T71 t104 t111).f3.f1), .int .i64 ((rd_T71 t104 t111).f4), .int .i64 x115007_49] 71 (0, 0)) (KB BK114)) (below_size (K2 HB (IsS140.ge HI103.out) GE114.out)))
                      replace HO_4 := am (Kd.R_elder' (KR HO_4) (Kd.R_base ho70) hb)
                      replace HO130 := am (Kd.R_elder' (KR HO130) (Kd.R_base ho70) hb)
                      replace BK114 := am (BB BK114 hb)
                      replace HR127 := am (Kd.C_below (by repeat (first | (with_reducible exact HR127.out) | (with_reducible refine Kd.C_alloc ?_ _) | (with_reducible refine Kd.C_drewN ?_ _) | (with_reducible refine Kd.C_drew ?_) | exact HR127.out)) hb)
                      replace HR140 := am (Kd.C_below (by repeat (first | (with_reducible exact HR140.out) | (with_reducible refine Kd.C_alloc ?_ _) | (with_reducible refine Kd.C_drewN ?_ _) | (with_reducible refine Kd.C_drew ?_) | exact HR140.out)) hb)
                      replace HB := am (below_step (K2 HB (IsS140.ge HI103.out) GE114.out) hb)
                      replace HI103 := am (IsS140.below (I140_1 HI103 NB103_114.out) hb)
                      clear hb ho70
                      refine hK.out _ _ ⟨z0 _ BK114.out, z1 _ BK114.out, z2 _ BK114.out, z3 _ BK114.out, z4 _ BK114.out, z5 _ BK114.out, z6 _ BK114.out, z7 _ BK114.out⟩ (fun hHeld => ?_)
                      clear hK K
                      refine norm_ (a' := ?_) ?_ ?_
                      rotate_left
                      ·show Act.put _ (some 77) _ = _
                       simp only [Act.put, List.setIfInBounds_toArray, List.set_cons_zero, List.set_cons_succ, i64_w, i32_w]
                       rfl
                      exact norm_ (by simp only [putAll, Act.put, List.setIfInBounds_toArray, List.set_cons_zero, List.set_cons_succ]) (hCont (v122, v129, v132) _ ⟨hHeld, (by (with_reducible repeat (first | apply Kd.R_alloc | apply Kd.R_drewN | apply Kd.R_drew)); exact Kd.R_mono HO130.out (fun _ hk => ⟨hk.2, ⟨hk.1.1, hk.1.2⟩⟩)), (by (with_reducible repeat (first | apply Kd.R_alloc | apply Kd.R_drewN | apply Kd.R_drew)); exact Kd.R_mono HO133.out (fun _ hk => ⟨hk.1.2, ⟨hk.1.1.2, hk.2⟩⟩)), (by (with_reducible repeat (first | apply Kd.R_alloc | apply Kd.R_drewN | apply Kd.R_drew)); exact Kd.R_mono HO_4.out (fun _ hk => ⟨hk.1.2, ⟨hk.2, hk.1.1⟩⟩)), (KB BK114), (I140_1 HI103 NB103_114.out), (K2 HB (IsS140.ge HI103.out) GE114.out)⟩)
                     ·skip
                      refine Kd.R_lit_step k71 _ 71 ?hg (N := 77) ?hd (xs := ([(⟨((rd_T71 t104 t111).f0), ((rd_T71 t104 t111).f1), (⟨((rd_T71 t104 t111).f2.f0), x115003_37⟩ : S43), (⟨((rd_T71 t104 t111).f3.f0), ((rd_T71 t104 t111).f3.f1)⟩ : S43), ((rd_T71 t104 t111).f4), x115007_49⟩ : S71)] : List (S71))) (inner := [.int .i64 ((rd_T71 t104 t111).f0), .int .i64 ((rd_T71 t104 t111).f1), .int .i64 ((rd_T71 t104 t111).f2.f0), .int .i64 x115003_37, .int .i64 ((rd_T71 t104 t111).f3.f0), .int .i64 ((rd_T71 t104 t111).f3.f1), .int .i64 ((rd_T71 t104 t111).f4), .int .i64 x115007_49]) (ok := fun _ => True) (okp := fun _ => True) ?hr ?hp (fun _ hk => hk) trivial (Below.refl _ _) (Nat.le_refl _) (by simp) ?_; (case hd => rfl); (case hg => rfl); (case hr => first | (go_simp; done) | (go_simp; rfl)); (case hp => exact (Reps.c8 (show Kd.M k71 _ _ _ (⟨((rd_T71 t104 t111).f0), ((rd_T71 t104 t111).f1), (⟨((rd_T71 t104 t111).f2.f0), x115003_37⟩ : S43), (⟨((rd_T71 t104 t111).f3.f0), ((rd_T71 t104 t111).f3.f1)⟩ : S43), ((rd_T71 t104 t111).f4), x115007_49⟩ : S71) [.int .i64 ((rd_T71 t104 t111).f0), .int .i64 ((rd_T71 t104 t111).f1), .int .i64 ((rd_T71 t104 t111).f2.f0), .int .i64 x115003_37, .int .i64 ((rd_T71 t104 t111).f3.f0), .int .i64 ((rd_T71 t104 t111).f3.f1), .int .i64 ((rd_T71 t104 t111).f4), .int .i64 x115007_49] from (k71_mkM _ _ _ (⟨((rd_T71 t104 t111).f0), ((rd_T71 t104 t111).f1), (⟨((rd_T71 t104 t111).f2.f0), x115003_37⟩ : S43), (⟨((rd_T71 t104 t111).f3.f0), ((rd_T71 t104 t111).f3.f1)⟩ : S43), ((rd_T71 t104 t111).f4), x115007_49⟩ : S71) )) (Reps.none _ _)))
                      intro v132 w68 ho69 hb hg_ hnew_
                      clear hg_ hnew_
                      (first | rw [← Ny131.out] at ho69 | (simp only [Int.reduceToNat] at ho69; rw [← Ny131.out] at ho69))
                      have HO133 := am (Kd.R_lower (Kd.R_newB (Kd.R_new' (Kd.R_new' ho69 (Kd.R_lt (KR HO_4))) (Kd.R_lt (KR HO123))) (g := gb114) (o := .cells #[.int .i64 ((rd_T71 t104 t111).f0), .int .i64 ((rd_T71 t104 t111).f1), .int .i64 ((rd_T71 t104 t111).f2.f0), .int .i64 x115003_37, .int .i64 ((rd_T71 t104 t111).f3.f0), .int .i64 ((rd_T71 t104 t111).f3.f1), .int .i64 ((rd_T71 t104 t111).f4), .int .i64 x115007_49] 71 (0, 0)) (KB BK114)) (below_size (K2 HB (IsS140.ge HI103.out) GE114.out)))
                      replace HO_4 := am (Kd.R_elder' (KR HO_4) (Kd.R_base ho69) hb)
                      replace HO123 := am (Kd.R_elder' (KR HO123) (Kd.R_base ho69) hb)
                      replace BK114 := am (BB BK114 hb)
                      replace HR127 := am (Kd.C_below (by repeat (first | (with_reducible exact HR127.out) | (with_reducible refine Kd.C_alloc ?_ _) | (with_reducible refine Kd.C_drewN ?_ _) | (with_reducible refine Kd.C_drew ?_) | exact HR127.out)) hb)
                      replace HR140 := am (Kd.C_below (by repeat (first | (with_reducible exact HR140.out) | (with_reducible refine Kd.C_alloc ?_ _) | (with_reducible refine Kd.C_drewN ?_ _) | (with_reducible refine Kd.C_drew ?_) | exact HR140.out)) hb)
                      replace HB := am (below_step (K2 HB (IsS140.ge HI103.out) GE114.out) hb)
                      replace HI103 := am (IsS140.below (I140_1 HI103 NB103_114.out) hb)
                      clear hb ho69
                      refine hK.out _ _ ⟨z0 _ BK114.out, z1 _ BK114.out, z2 _ BK114.out, z3 _ BK114.out, z4 _ BK114.out, z5 _ BK114.out, z6 _ BK114.out, z7 _ BK114.out⟩ (fun hHeld => ?_)
                      clear hK K
                      refine norm_ (a' := ?_) ?_ ?_
                      rotate_left
                      ·show Act.put _ (some 77) _ = _
                       simp only [Act.put, List.setIfInBounds_toArray, List.set_cons_zero, List.set_cons_succ, i64_w, i32_w]
                       rfl
                      refine one_ (i := 4) (N := some 75) (tr [7, 1, 3, 2]) rfl rfl (one_of HT_.out (by kernel_rfl)) (by decide) (fun K hK => ?_)
                      refine Kd.R_append_rows_step k71 (w0 := w) w.heap.size (by rfl) (.tmp 71) (.tmp 74) 52 71 (.agg #[(.int .i64 0), (.int .i64 0), (.int .i64 0), (.int .i64 0), (.int .i64 0), (.int .i64 0), (.int .i64 0), (.int .i64 0)]) 64 rfl Try.underlying52 info71 rfl (by decide) (by omega) v122 y121 y124 _ _ _ (fun k_ => some k_ ≠ (.slice (some ad113) t104.length co26 : Value).ownBlock ∧ some k_ ≠ (v132 : Value).ownBlock ∧ k_ ≠ gb114) (fun _ => False) rfl rfl ?aO ?aR (fun _ _ h => h) (fun _ h => h.elim) ?aF ?aB ?aS ?aL ?_
                      (case aR => repeat (first | exact (by repeat (first | (with_reducible exact HR127.out) | (with_reducible refine Kd.C_alloc ?_ _) | (with_reducible refine Kd.C_drewN ?_ _) | (with_reducible refine Kd.C_drew ?_) | exact HR127.out)) | (with_reducible refine Kd.C_alloc ?_ _) | (with_reducible refine Kd.C_drewN ?_ _) | (with_reducible refine Kd.C_drew ?_)))
                      (case aB => exact (K2 HB (IsS140.ge HI103.out) GE114.out))
                      (case aF => exact (fun k_ hk => ⟨Kd.fresh' (Kd.R_lt (KR HO_4)) k_ hk, Kd.fresh' (Kd.R_lt (KR HO133)) k_ hk, Kd.freshB (g := gb114) (o := .cells #[.int .i64 ((rd_T71 t104 t111).f0), .int .i64 ((rd_T71 t104 t111).f1), .int .i64 ((rd_T71 t104 t111).f2.f0), .int .i64 x115003_37, .int .i64 ((rd_T71 t104 t111).f3.f0), .int .i64 ((rd_T71 t104 t111).f3.f1), .int .i64 ((rd_T71 t104 t111).f4), .int .i64 x115007_49] 71 (0, 0)) (KB BK114) k_ hk⟩))
                      (case aO => exact (by (with_reducible repeat (first | apply Kd.R_alloc | apply Kd.R_drewN | apply Kd.R_drew)); exact Kd.R_mono HO123.out (fun _ hk => ⟨hk.1.1.2, ⟨hk.2, hk.1.2⟩⟩)))
                      (case aS => exact (below_size (K2 HB (IsS140.ge HI103.out) GE114.out)))
                      (case aL => have := LMc57.out; omega)
                      intro v129 w70 ho hb hg hat
                      rw [← Ny128.out] at ho
                      replace BK114 := am (blk_grown (g := gb114) (o := .cells #[.int .i64 ((rd_T71 t104 t111).f0), .int .i64 ((rd_T71 t104 t111).f1), .int .i64 ((rd_T71 t104 t111).f2.f0), .int .i64 x115003_37, .int .i64 ((rd_T71 t104 t111).f3.f0), .int .i64 ((rd_T71 t104 t111).f3.f1), .int .i64 ((rd_T71 t104 t111).f4), .int .i64 x115007_49] 71 (0, 0)) (KB BK114) hg (Kd.R_away HO123.out (fun _ hk => hk.1.2)))
                      replace HI103 := am (IsS140.grown (I140_1 HI103 NB103_114.out) hg (IsS140.own_ne HI103.out HO123.out (by decide)))
                      replace HO133 := am (Kd.R_after (ok := (fun k_ => some k_ ≠ (.slice (some ad113) t104.length co26 : Value).ownBlock ∧ k_ ≠ gb114)) (by (with_reducible repeat (first | apply Kd.R_alloc | apply Kd.R_drewN | apply Kd.R_drew)); exact Kd.R_mono HO133.out (fun _ hk => ⟨⟨hk.1.1.2, hk.2⟩, hk.1.2⟩)) hg hat)
                      replace HB := am (hb)
                      replace HR127 := am ((show Kd.C k71 w70 (some ad113) y124.length y124 from by rw [Ny124.out]; exact Kd.C_take (m := (t119 : Int).toNat) ((Kd.R_reads' (Kd.R_after (ok := (fun k_ => some k_ ≠ (v132 : Value).ownBlock ∧ k_ ≠ gb114)) (by (with_reducible repeat (first | apply Kd.R_alloc | apply Kd.R_drewN | apply Kd.R_drew)); exact Kd.R_mono HO_4.out (fun _ hk => ⟨⟨hk.2, hk.1.1⟩, hk.1.2⟩)) hg hat)).2.2) KL64.out))
                      replace HR140 := am ((show Kd.C k71 w70 A65 y137.length y137 from by rw [Ny137.out, KA65.out]; exact Kd.C_drop (m := (t119 : Int).toNat) (c := co26) ((Kd.R_reads' (Kd.R_after (ok := (fun k_ => some k_ ≠ (v132 : Value).ownBlock ∧ k_ ≠ gb114)) (by (with_reducible repeat (first | apply Kd.R_alloc | apply Kd.R_drewN | apply Kd.R_drew)); exact Kd.R_mono HO_4.out (fun _ hk => ⟨⟨hk.2, hk.1.1⟩, hk.1.2⟩)) hg hat)).2.2) KL65.out ((Kd.R_reads' (Kd.R_after (ok := (fun k_ => some k_ ≠ (v132 : Value).ownBlock ∧ k_ ≠ gb114)) (by (with_reducible repeat (first | apply Kd.R_alloc | apply Kd.R_drewN | apply Kd.R_drew)); exact Kd.R_mono HO_4.out (fun _ hk => ⟨⟨hk.2, hk.1.1⟩, hk.1.2⟩)) hg hat)).2.1)))
                      replace HO_4 := am (Kd.R_after (ok := (fun k_ => some k_ ≠ (v132 : Value).ownBlock ∧ k_ ≠ gb114)) (by (with_reducible repeat (first | apply Kd.R_alloc | apply Kd.R_drewN | apply Kd.R_drew)); exact Kd.R_mono HO_4.out (fun _ hk => ⟨⟨hk.2, hk.1.1⟩, hk.1.2⟩)) hg hat)
                      have HO130 := am (ho)
                      clear HO123
                      clear ho hb hg hat
                      refine hK.out _ _ ⟨z0 _ BK114.out, z1 _ BK114.out, z2 _ BK114.out, z3 _ BK114.out, z4 _ BK114.out, z5 _ BK114.out, z6 _ BK114.out, z7 _ BK114.out⟩ (fun hHeld => ?_)
                      clear hK K
                      refine norm_ (a' := ?_) ?_ ?_
                      rotate_left
                      ·show Act.put _ (some 75) _ = _
                       simp only [Act.put, List.setIfInBounds_toArray, List.set_cons_zero, List.set_cons_succ, i64_w, i32_w]
                       rfl
                      exact norm_ (by simp only [putAll, Act.put, List.setIfInBounds_toArray, List.set_cons_zero, List.set_cons_succ]) (hCont (v122, v129, v132) _ ⟨hHeld, (by (with_reducible repeat (first | apply Kd.R_alloc | apply Kd.R_drewN | apply Kd.R_drew)); exact Kd.R_mono HO130.out (fun _ hk => ⟨hk.2.1, ⟨hk.1, hk.2.2⟩⟩)), (by (with_reducible repeat (first | apply Kd.R_alloc | apply Kd.R_drewN | apply Kd.R_drew)); exact Kd.R_mono HO133.out (fun _ hk => ⟨hk.2, ⟨hk.1.1, hk.1.2⟩⟩)), (by (with_reducible repeat (first | apply Kd.R_alloc | apply Kd.R_drewN | apply Kd.R_drew)); exact Kd.R_mono HO_4.out (fun _ hk => ⟨hk.2, ⟨hk.1.1, hk.1.2⟩⟩)), (KB BK114), (I140_1 HI103 NB103_114.out), (K2 HB (IsS140.ge HI103.out) GE114.out)⟩)
                    ·skip
                     refine Kd.R_lit_step k71 _ 71 ?hg (N := 77) ?hd (xs := ([(⟨((rd_T71 t104 t111).f0), ((rd_T71 t104 t111).f1), (⟨((rd_T71 t104 t111).f2.f0), x115003_37⟩ : S43), (⟨((rd_T71 t104 t111).f3.f0), ((rd_T71 t104 t111).f3.f1)⟩ : S43), ((rd_T71 t104 t111).f4), x115007_49⟩ : S71)] : List (S71))) (inner := [.int .i64 ((rd_T71 t104 t111).f0), .int .i64 ((rd_T71 t104 t111).f1), .int .i64 ((rd_T71 t104 t111).f2.f0), .int .i64 x115003_37, .int .i64 ((rd_T71 t104 t111).f3.f0), .int .i64 ((rd_T71 t104 t111).f3.f1), .int .i64 ((rd_T71 t104 t111).f4), .int .i64 x115007_49]) (ok := fun _ => True) (okp := fun _ => True) ?hr ?hp (fun _ hk => hk) trivial (Below.refl _ _) (Nat.le_refl _) (by simp) ?_; (case hd => rfl); (case hg => rfl); (case hr => first | (go_simp; done) | (go_simp; rfl)); (case hp => exact (Reps.c8 (show Kd.M k71 _ _ _ (⟨((rd_T71 t104 t111).f0), ((rd_T71 t104 t111).f1), (⟨((rd_T71 t104 t111).f2.f0), x115003_37⟩ : S43), (⟨((rd_T71 t104 t111).f3.f0), ((rd_T71 t104 t111).f3.f1)⟩ : S43), ((rd_T71 t104 t111).f4), x115007_49⟩ : S71) [.int .i64 ((rd_T71 t104 t111).f0), .int .i64 ((rd_T71 t104 t111).f1), .int .i64 ((rd_T71 t104 t111).f2.f0), .int .i64 x115003_37, .int .i64 ((rd_T71 t104 t111).f3.f0), .int .i64 ((rd_T71 t104 t111).f3.f1), .int .i64 ((rd_T71 t104 t111).f4), .int .i64 x115007_49] from (k71_mkM _ _ _ (⟨((rd_T71 t104 t111).f0), ((rd_T71 t104 t111).f1), (⟨((rd_T71 t104 t111).f2.f0), x115003_37⟩ : S43), (⟨((rd_T71 t104 t111).f3.f0), ((rd_T71 t104 t111).f3.f1)⟩ : S43), ((rd_T71 t104 t111).f4), x115007_49⟩ : S71) )) (Reps.none _ _)))
                     intro v132 w66 ho67 hb hg_ hnew_
                     clear hg_ hnew_
                     (first | rw [← Ny131.out] at ho67 | (simp only [Int.reduceToNat] at ho67; rw [← Ny131.out] at ho67))
                     have HO133 := am (Kd.R_lower (Kd.R_newB (Kd.R_new' ho67 (Kd.R_lt (KR HO_4))) (g := gb114) (o := .cells #[.int .i64 ((rd_T71 t104 t111).f0), .int .i64 ((rd_T71 t104 t111).f1), .int .i64 ((rd_T71 t104 t111).f2.f0), .int .i64 x115003_37, .int .i64 ((rd_T71 t104 t111).f3.f0), .int .i64 ((rd_T71 t104 t111).f3.f1), .int .i64 ((rd_T71 t104 t111).f4), .int .i64 x115007_49] 71 (0, 0)) (KB BK114)) (below_size (K2 HB (IsS140.ge HI103.out) GE114.out)))
                     replace HO_4 := am (Kd.R_elder' (KR HO_4) (Kd.R_base ho67) hb)
                     replace BK114 := am (BB BK114 hb)
                     replace HR127 := am (Kd.C_below (by repeat (first | (with_reducible exact HR127.out) | (with_reducible refine Kd.C_alloc ?_ _) | (with_reducible refine Kd.C_drewN ?_ _) | (with_reducible refine Kd.C_drew ?_) | exact HR127.out)) hb)
                     replace HR140 := am (Kd.C_below (by repeat (first | (with_reducible exact HR140.out) | (with_reducible refine Kd.C_alloc ?_ _) | (with_reducible refine Kd.C_drewN ?_ _) | (with_reducible refine Kd.C_drew ?_) | exact HR140.out)) hb)
                     replace HB := am (below_step (K2 HB (IsS140.ge HI103.out) GE114.out) hb)
                     replace HI103 := am (IsS140.below (I140_1 HI103 NB103_114.out) hb)
                     clear hb ho67
                     refine hK.out _ _ ⟨z0 _ BK114.out, z1 _ BK114.out, z2 _ BK114.out, z3 _ BK114.out, z4 _ BK114.out, z5 _ BK114.out, z6 _ BK114.out, z7 _ BK114.out⟩ (fun hHeld => ?_)
                     clear hK K
                     refine norm_ (a' := ?_) ?_ ?_
                     rotate_left
                     ·show Act.put _ (some 77) _ = _
                      simp only [Act.put, List.setIfInBounds_toArray, List.set_cons_zero, List.set_cons_succ, i64_w, i32_w]
                      rfl
                     refine one_ (i := 0) (N := some 71) (tr [4, 1, 2, 1, 3, 2]) rfl rfl (one_of HT_.out (by kernel_rfl)) (by decide) (fun K hK => ?_)
                     refine Kd.R_lit_step k71 _ 71 ?hg (N := 71) ?hd (xs := ([] : List (S71))) (inner := []) (ok := fun _ => True) (okp := fun _ => True) ?hr ?hp (fun _ hk => hk) trivial (Below.refl _ _) (Nat.le_refl _) (by simp) ?_; (case hd => rfl); (case hg => rfl); (case hr => first | (go_simp; done) | (go_simp; rfl)); (case hp => exact (Reps.none _ _))
                     intro v122 w68 ho69 hb hg_ hnew_
                     clear hg_ hnew_
                     (first | rw [← Ny121.out] at ho69 | (simp only [Int.reduceToNat] at ho69; rw [← Ny121.out] at ho69))
                     have HO123 := am (Kd.R_lower (Kd.R_newB (Kd.R_new' (Kd.R_new' ho69 (Kd.R_lt (KR HO_4))) (Kd.R_lt (KR HO133))) (g := gb114) (o := .cells #[.int .i64 ((rd_T71 t104 t111).f0), .int .i64 ((rd_T71 t104 t111).f1), .int .i64 ((rd_T71 t104 t111).f2.f0), .int .i64 x115003_37, .int .i64 ((rd_T71 t104 t111).f3.f0), .int .i64 ((rd_T71 t104 t111).f3.f1), .int .i64 ((rd_T71 t104 t111).f4), .int .i64 x115007_49] 71 (0, 0)) (KB BK114)) (below_size (K2 HB (IsS140.ge HI103.out) GE114.out)))
                     replace HO_4 := am (Kd.R_elder' (KR HO_4) (Kd.R_base ho69) hb)
                     replace HO133 := am (Kd.R_elder' (KR HO133) (Kd.R_base ho69) hb)
                     replace BK114 := am (BB BK114 hb)
                     replace HR127 := am (Kd.C_below (by repeat (first | (with_reducible exact HR127.out) | (with_reducible refine Kd.C_alloc ?_ _) | (with_reducible refine Kd.C_drewN ?_ _) | (with_reducible refine Kd.C_drew ?_) | exact HR127.out)) hb)
                     replace HR140 := am (Kd.C_below (by repeat (first | (with_reducible exact HR140.out) | (with_reducible refine Kd.C_alloc ?_ _) | (with_reducible refine Kd.C_drewN ?_ _) | (with_reducible refine Kd.C_drew ?_) | exact HR140.out)) hb)
                     replace HB := am (below_step (K2 HB (IsS140.ge HI103.out) GE114.out) hb)
                     replace HI103 := am (IsS140.below (I140_1 HI103 NB103_114.out) hb)
                     clear hb ho69
                     refine hK.out _ _ ⟨z0 _ BK114.out, z1 _ BK114.out, z2 _ BK114.out, z3 _ BK114.out, z4 _ BK114.out, z5 _ BK114.out, z6 _ BK114.out, z7 _ BK114.out⟩ (fun hHeld => ?_)
                     clear hK K
                     refine norm_ (a' := ?_) ?_ ?_
                     rotate_left
                     ·show Act.put _ (some 71) _ = _
                      simp only [Act.put, List.setIfInBounds_toArray, List.set_cons_zero, List.set_cons_succ, i64_w, i32_w]
                      rfl
                     refine one_ (i := 4) (N := some 75) (tr [7, 1, 3, 2]) rfl rfl (one_of HT_.out (by kernel_rfl)) (by decide) (fun K hK => ?_)
                     refine Kd.R_append_rows_step k71 (w0 := w) w.heap.size (by rfl) (.tmp 71) (.tmp 74) 52 71 (.agg #[(.int .i64 0), (.int .i64 0), (.int .i64 0), (.int .i64 0), (.int .i64 0), (.int .i64 0), (.int .i64 0), (.int .i64 0)]) 64 rfl Try.underlying52 info71 rfl (by decide) (by omega) v122 y121 y124 _ _ _ (fun k_ => some k_ ≠ (.slice (some ad113) t104.length co26 : Value).ownBlock ∧ some k_ ≠ (v132 : Value).ownBlock ∧ k_ ≠ gb114) (fun _ => False) rfl rfl ?aO ?aR (fun _ _ h => h) (fun _ h => h.elim) ?aF ?aB ?aS ?aL ?_
                     (case aR => repeat (first | exact (by repeat (first | (with_reducible exact HR127.out) | (with_reducible refine Kd.C_alloc ?_ _) | (with_reducible refine Kd.C_drewN ?_ _) | (with_reducible refine Kd.C_drew ?_) | exact HR127.out)) | (with_reducible refine Kd.C_alloc ?_ _) | (with_reducible refine Kd.C_drewN ?_ _) | (with_reducible refine Kd.C_drew ?_)))
                     (case aB => exact (K2 HB (IsS140.ge HI103.out) GE114.out))
                     (case aF => exact (fun k_ hk => ⟨Kd.fresh' (Kd.R_lt (KR HO_4)) k_ hk, Kd.fresh' (Kd.R_lt (KR HO133)) k_ hk, Kd.freshB (g := gb114) (o := .cells #[.int .i64 ((rd_T71 t104 t111).f0), .int .i64 ((rd_T71 t104 t111).f1), .int .i64 ((rd_T71 t104 t111).f2.f0), .int .i64 x115003_37, .int .i64 ((rd_T71 t104 t111).f3.f0), .int .i64 ((rd_T71 t104 t111).f3.f1), .int .i64 ((rd_T71 t104 t111).f4), .int .i64 x115007_49] 71 (0, 0)) (KB BK114) k_ hk⟩))
                     (case aO => exact (by (with_reducible repeat (first | apply Kd.R_alloc | apply Kd.R_drewN | apply Kd.R_drew)); exact Kd.R_mono HO123.out (fun _ hk => ⟨hk.1.1.2, ⟨hk.1.2, hk.2⟩⟩)))
                     (case aS => exact (below_size (K2 HB (IsS140.ge HI103.out) GE114.out)))
                     (case aL => have := LMc57.out; omega)
                     intro v129 w70 ho hb hg hat
                     rw [← Ny128.out] at ho
                     replace BK114 := am (blk_grown (g := gb114) (o := .cells #[.int .i64 ((rd_T71 t104 t111).f0), .int .i64 ((rd_T71 t104 t111).f1), .int .i64 ((rd_T71 t104 t111).f2.f0), .int .i64 x115003_37, .int .i64 ((rd_T71 t104 t111).f3.f0), .int .i64 ((rd_T71 t104 t111).f3.f1), .int .i64 ((rd_T71 t104 t111).f4), .int .i64 x115007_49] 71 (0, 0)) (KB BK114) hg (Kd.R_away HO123.out (fun _ hk => hk.2)))
                     replace HI103 := am (IsS140.grown (I140_1 HI103 NB103_114.out) hg (IsS140.own_ne HI103.out HO123.out (by decide)))
                     replace HO133 := am (Kd.R_after (ok := (fun k_ => some k_ ≠ (.slice (some ad113) t104.length co26 : Value).ownBlock ∧ k_ ≠ gb114)) (by (with_reducible repeat (first | apply Kd.R_alloc | apply Kd.R_drewN | apply Kd.R_drew)); exact Kd.R_mono HO133.out (fun _ hk => ⟨⟨hk.1.1.2, hk.1.2⟩, hk.2⟩)) hg hat)
                     replace HB := am (hb)
                     replace HR127 := am ((show Kd.C k71 w70 (some ad113) y124.length y124 from by rw [Ny124.out]; exact Kd.C_take (m := (t119 : Int).toNat) ((Kd.R_reads' (Kd.R_after (ok := (fun k_ => some k_ ≠ (v132 : Value).ownBlock ∧ k_ ≠ gb114)) (by (with_reducible repeat (first | apply Kd.R_alloc | apply Kd.R_drewN | apply Kd.R_drew)); exact Kd.R_mono HO_4.out (fun _ hk => ⟨⟨hk.1.2, hk.1.1⟩, hk.2⟩)) hg hat)).2.2) KL64.out))
                     replace HR140 := am ((show Kd.C k71 w70 A65 y137.length y137 from by rw [Ny137.out, KA65.out]; exact Kd.C_drop (m := (t119 : Int).toNat) (c := co26) ((Kd.R_reads' (Kd.R_after (ok := (fun k_ => some k_ ≠ (v132 : Value).ownBlock ∧ k_ ≠ gb114)) (by (with_reducible repeat (first | apply Kd.R_alloc | apply Kd.R_drewN | apply Kd.R_drew)); exact Kd.R_mono HO_4.out (fun _ hk => ⟨⟨hk.1.2, hk.1.1⟩, hk.2⟩)) hg hat)).2.2) KL65.out ((Kd.R_reads' (Kd.R_after (ok := (fun k_ => some k_ ≠ (v132 : Value).ownBlock ∧ k_ ≠ gb114)) (by (with_reducible repeat (first | apply Kd.R_alloc | apply Kd.R_drewN | apply Kd.R_drew)); exact Kd.R_mono HO_4.out (fun _ hk => ⟨⟨hk.1.2, hk.1.1⟩, hk.2⟩)) hg hat)).2.1)))
                     replace HO_4 := am (Kd.R_after (ok := (fun k_ => some k_ ≠ (v132 : Value).ownBlock ∧ k_ ≠ gb114)) (by (with_reducible repeat (first | apply Kd.R_alloc | apply Kd.R_drewN | apply Kd.R_drew)); exact Kd.R_mono HO_4.out (fun _ hk => ⟨⟨hk.1.2, hk.1.1⟩, hk.2⟩)) hg hat)
                     have HO130 := am (ho)
                     clear HO123
                     clear ho hb hg hat
                     refine hK.out _ _ ⟨z0 _ BK114.out, z1 _ BK114.out, z2 _ BK114.out, z3 _ BK114.out, z4 _ BK114.out, z5 _ BK114.out, z6 _ BK114.out, z7 _ BK114.out⟩ (fun hHeld => ?_)
                     clear hK K
                     refine norm_ (a' := ?_) ?_ ?_
                     rotate_left
                     ·show Act.put _ (some 75) _ = _
                      simp only [Act.put, List.setIfInBounds_toArray, List.set_cons_zero, List.set_cons_succ, i64_w, i32_w]
                      rfl
                     exact norm_ (by simp only [putAll, Act.put, List.setIfInBounds_toArray, List.set_cons_zero, List.set_cons_succ]) (hCont (v122, v129, v132) _ ⟨hHeld, (by (with_reducible repeat (first | apply Kd.R_alloc | apply Kd.R_drewN | apply Kd.R_drew)); exact Kd.R_mono HO130.out (fun _ hk => ⟨hk.2.1, ⟨hk.1, hk.2.2⟩⟩)), (by (with_reducible repeat (first | apply Kd.R_alloc | apply Kd.R_drewN | apply Kd.R_drew)); exact Kd.R_mono HO133.out (fun _ hk => ⟨hk.2, ⟨hk.1.1, hk.1.2⟩⟩)), (by (with_reducible repeat (first | apply Kd.R_alloc | apply Kd.R_drewN | apply Kd.R_drew)); exact Kd.R_mono HO_4.out (fun _ hk => ⟨hk.2, ⟨hk.1.1, hk.1.2⟩⟩)), (KB BK114), (I140_1 HI103 NB103_114.out), (K2 HB (IsS140.ge HI103.out) GE114.out)⟩)
                   rintro ⟨v122, v129, v132⟩ w71 ⟨hS_, h0_, h1_, h2_, h3_, h4_, h5_⟩
                   have HO130 : Aside0 (Kd.R k71 71 w71 w.heap.size (fun k_ => some k_ ≠ (v132 : Value).ownBlock ∧ some k_ ≠ (.slice (some ad113) t104.length co26 : Value).ownBlock ∧ k_ ≠ gb114) v129 y128) := ⟨h0_⟩
                   have HO133 : Aside0 (Kd.R k71 71 w71 w.heap.size (fun k_ => some k_ ≠ (v129 : Value).ownBlock ∧ some k_ ≠ (.slice (some ad113) t104.length co26 : Value).ownBlock ∧ k_ ≠ gb114) v132 y131) := ⟨h1_⟩
                   replace HO_4 : Aside0 (Kd.R k71 71 w71 w.heap.size (fun k_ => some k_ ≠ (v129 : Value).ownBlock ∧ some k_ ≠ (v132 : Value).ownBlock ∧ k_ ≠ gb114) (.slice (some ad113) t104.length co26) t104) := ⟨h2_⟩
                   replace BK114 : Aside0 (bk w71 gb114 #[.int .i64 ((rd_T71 t104 t111).f0), .int .i64 ((rd_T71 t104 t111).f1), .int .i64 ((rd_T71 t104 t111).f2.f0), .int .i64 x115003_37, .int .i64 ((rd_T71 t104 t111).f3.f0), .int .i64 ((rd_T71 t104 t111).f3.f1), .int .i64 ((rd_T71 t104 t111).f4), .int .i64 x115007_49] 71) := ⟨h3_⟩
                   replace HI103 : Aside0 (IsS140 w w71 g103 t101 t120) := ⟨h4_⟩
                   replace HB : Aside0 (Below w.heap.size w w71) := ⟨h5_⟩
                   clear h0_ h1_ h2_ h3_ h4_ h5_
                   have hHeld : de8 w71 gb114 (.int .i64 ((rd_T71 t104 t111).f0)) (.int .i64 ((rd_T71 t104 t111).f1)) (.int .i64 ((rd_T71 t104 t111).f2.f0)) (.int .i64 x115003_37) (.int .i64 ((rd_T71 t104 t111).f3.f0)) (.int .i64 ((rd_T71 t104 t111).f3.f1)) (.int .i64 ((rd_T71 t104 t111).f4)) (.int .i64 x115007_49) := hS_
                   have HR140 := am (show Kd.C k71 w71 A65 y137.length y137 from by rw [Ny137.out, KA65.out]; exact Kd.C_drop (m := (t119 : Int).toNat) (c := co26) ((Kd.R_reads' HO_4.out).2.2) KL65.out ((Kd.R_reads' HO_4.out).2.1))
                   obtain ⟨Ao73, co73, eo73⟩ := Kd.R_slice HO133.out
                   (first | subst eo73 | (injection eo73 with f1_ f2_ f3_; have f4_ := f1_.symm; have f5_ := f3_.symm; clear f1_ f2_ f3_; subst f4_; subst f5_))
                   refine norm_ (a' := ?_) ?_ ?_
                   rotate_left
                   ·simp only [putAll, Act.put, List.setIfInBounds_toArray, List.set_cons_zero, List.set_cons_succ]
                    rfl
                   refine one_ (i := 7) (N := some 78) (tf 11 2) rfl rfl (one_of HT_.out (by kernel_rfl)) (by decide) (fun K hK => ?_)
                   refine Kd.R_append_rows_step k71 (w0 := w) w.heap.size (by rfl) (.tmp 75) (.tmp 77) 52 71 (.agg #[(.int .i64 0), (.int .i64 0), (.int .i64 0), (.int .i64 0), (.int .i64 0), (.int .i64 0), (.int .i64 0), (.int .i64 0)]) 64 rfl Try.underlying52 info71 rfl (by decide) (by omega) v129 y128 y131 _ _ _ (fun k_ => some k_ ≠ (.slice (some ad113) t104.length co26 : Value).ownBlock ∧ some k_ ≠ (.slice Ao73 y131.length co73 : Value).ownBlock ∧ k_ ≠ gb114) (fun _ => False) rfl rfl ?aO ?aR (fun _ _ h => h) (fun _ h => h.elim) ?aF ?aB ?aS ?aL ?_
                   (case aR => exact KC (Kd.R_reads' HO133.out).2.2)
                   (case aB => exact (K2 HB (IsS140.ge HI103.out) GE114.out))
                   (case aF => exact (fun k_ hk => ⟨Kd.fresh' (Kd.R_lt (KR HO_4)) k_ hk, Kd.fresh' (Kd.R_lt (KR HO133)) k_ hk, Kd.freshB (g := gb114) (o := .cells #[.int .i64 ((rd_T71 t104 t111).f0), .int .i64 ((rd_T71 t104 t111).f1), .int .i64 ((rd_T71 t104 t111).f2.f0), .int .i64 x115003_37, .int .i64 ((rd_T71 t104 t111).f3.f0), .int .i64 ((rd_T71 t104 t111).f3.f1), .int .i64 ((rd_T71 t104 t111).f4), .int .i64 x115007_49] 71 (0, 0)) (KB BK114) k_ hk⟩))
                   (case aO => exact (by (with_reducible repeat (first | apply Kd.R_alloc | apply Kd.R_drewN | apply Kd.R_drew)); exact Kd.R_mono HO130.out (fun _ hk => ⟨hk.2.1, ⟨hk.1, hk.2.2⟩⟩)))
                   (case aS => exact (below_size (K2 HB (IsS140.ge HI103.out) GE114.out)))
                   (case aL => have := LMc58.out; omega)
                   intro v135 w72 ho hb hg hat
                   rw [← Ny134.out] at ho
                   replace BK114 := am (blk_grown (g := gb114) (o := .cells #[.int .i64 ((rd_T71 t104 t111).f0), .int .i64 ((rd_T71 t104 t111).f1), .int .i64 ((rd_T71 t104 t111).f2.f0), .int .i64 x115003_37, .int .i64 ((rd_T71 t104 t111).f3.f0), .int .i64 ((rd_T71 t104 t111).f3.f1), .int .i64 ((rd_T71 t104 t111).f4), .int .i64 x115007_49] 71 (0, 0)) (KB BK114) hg (Kd.R_away HO130.out (fun _ hk => hk.2.2)))
                   replace HI103 := am (IsS140.grown (I140_1 HI103 NB103_114.out) hg (IsS140.own_ne HI103.out HO130.out (by decide)))
                   replace HO133 := am (Kd.R_after (ok := (fun k_ => some k_ ≠ (.slice (some ad113) t104.length co26 : Value).ownBlock ∧ k_ ≠ gb114)) (by (with_reducible repeat (first | apply Kd.R_alloc | apply Kd.R_drewN | apply Kd.R_drew)); exact Kd.R_mono HO133.out (fun _ hk => ⟨⟨hk.2.1, hk.2.2⟩, hk.1⟩)) hg hat)
                   replace HB := am (hb)
                   replace HR140 := am ((show Kd.C k71 w72 A65 y137.length y137 from by rw [Ny137.out, KA65.out]; exact Kd.C_drop (m := (t119 : Int).toNat) (c := co26) ((Kd.R_reads' (Kd.R_after (ok := (fun k_ => some k_ ≠ (.slice Ao73 y131.length co73 : Value).ownBlock ∧ k_ ≠ gb114)) (by (with_reducible repeat (first | apply Kd.R_alloc | apply Kd.R_drewN | apply Kd.R_drew)); exact Kd.R_mono HO_4.out (fun _ hk => ⟨⟨hk.2.1, hk.2.2⟩, hk.1⟩)) hg hat)).2.2) KL65.out ((Kd.R_reads' (Kd.R_after (ok := (fun k_ => some k_ ≠ (.slice Ao73 y131.length co73 : Value).ownBlock ∧ k_ ≠ gb114)) (by (with_reducible repeat (first | apply Kd.R_alloc | apply Kd.R_drewN | apply Kd.R_drew)); exact Kd.R_mono HO_4.out (fun _ hk => ⟨⟨hk.2.1, hk.2.2⟩, hk.1⟩)) hg hat)).2.1)))
                   replace HO_4 := am (Kd.R_after (ok := (fun k_ => some k_ ≠ (.slice Ao73 y131.length co73 : Value).ownBlock ∧ k_ ≠ gb114)) (by (with_reducible repeat (first | apply Kd.R_alloc | apply Kd.R_drewN | apply Kd.R_drew)); exact Kd.R_mono HO_4.out (fun _ hk => ⟨⟨hk.2.1, hk.2.2⟩, hk.1⟩)) hg hat)
                   have HO136 := am (ho)
                   clear HO130
                   clear ho hb hg hat
                   refine hK.out _ _ ⟨z0 _ BK114.out, z1 _ BK114.out, z2 _ BK114.out, z3 _ BK114.out, z4 _ BK114.out, z5 _ BK114.out, z6 _ BK114.out, z7 _ BK114.out⟩ (fun hHeld => ?_)
                   clear hK K
                   refine norm_ (a' := ?_) ?_ ?_
                   rotate_left
                   ·show Act.put _ (some 78) _ = _
                    simp only [Act.put, List.setIfInBounds_toArray, List.set_cons_zero, List.set_cons_succ, i64_w, i32_w]
                    rfl
                   refine one_ (i := 11) (N := some 82) (tf 12 1) rfl rfl (one_of HT_.out (by kernel_rfl)) (by decide) (fun K hK => ?_)
                   refine Kd.R_append_rows_step k71 (w0 := w) w.heap.size (by rfl) (.tmp 78) (.tmp 81) 52 71 (.agg #[(.int .i64 0), (.int .i64 0), (.int .i64 0), (.int .i64 0), (.int .i64 0), (.int .i64 0), (.int .i64 0), (.int .i64 0)]) 64 rfl Try.underlying52 info71 rfl (by decide) (by omega) v135 y134 y137 _ _ _ (fun k_ => some k_ ≠ (.slice (some ad113) t104.length co26 : Value).ownBlock ∧ some k_ ≠ (.slice Ao73 y131.length co73 : Value).ownBlock ∧ k_ ≠ gb114) (fun _ => False) rfl rfl ?aO ?aR (fun _ _ h => h) (fun _ h => h.elim) ?aF ?aB ?aS ?aL ?_
                   (case aR => repeat (first | exact (by repeat (first | (with_reducible exact HR140.out) | (with_reducible refine Kd.C_alloc ?_ _) | (with_reducible refine Kd.C_drewN ?_ _) | (with_reducible refine Kd.C_drew ?_) | exact HR140.out)) | (with_reducible refine Kd.C_alloc ?_ _) | (with_reducible refine Kd.C_drewN ?_ _) | (with_reducible refine Kd.C_drew ?_)))
                   (case aB => exact (K2 HB (IsS140.ge HI103.out) GE114.out))
                   (case aF => exact (fun k_ hk => ⟨Kd.fresh' (Kd.R_lt (KR HO_4)) k_ hk, Kd.fresh' (Kd.R_lt (KR HO133)) k_ hk, Kd.freshB (g := gb114) (o := .cells #[.int .i64 ((rd_T71 t104 t111).f0), .int .i64 ((rd_T71 t104 t111).f1), .int .i64 ((rd_T71 t104 t111).f2.f0), .int .i64 x115003_37, .int .i64 ((rd_T71 t104 t111).f3.f0), .int .i64 ((rd_T71 t104 t111).f3.f1), .int .i64 ((rd_T71 t104 t111).f4), .int .i64 x115007_49] 71 (0, 0)) (KB BK114) k_ hk⟩))
                   (case aO => exact (KR HO136))
                   (case aS => exact (below_size (K2 HB (IsS140.ge HI103.out) GE114.out)))
                   (case aL => have := LMc61.out; omega)
                   intro v142 w74 ho hb hg hat
                   rw [← Ny141.out] at ho
                   replace BK114 := am (blk_grown (g := gb114) (o := .cells #[.int .i64 ((rd_T71 t104 t111).f0), .int .i64 ((rd_T71 t104 t111).f1), .int .i64 ((rd_T71 t104 t111).f2.f0), .int .i64 x115003_37, .int .i64 ((rd_T71 t104 t111).f3.f0), .int .i64 ((rd_T71 t104 t111).f3.f1), .int .i64 ((rd_T71 t104 t111).f4), .int .i64 x115007_49] 71 (0, 0)) (KB BK114) hg (Kd.R_away HO136.out (fun _ hk => hk.2.2)))
                   replace HI103 := am (IsS140.grown (I140_1 HI103 NB103_114.out) hg (IsS140.own_ne HI103.out HO136.out (by decide)))
                   replace HO133 := am (Kd.R_after (ok := (fun k_ => some k_ ≠ (.slice (some ad113) t104.length co26 : Value).ownBlock ∧ k_ ≠ gb114)) (KR HO133) hg hat)
                   replace HB := am (hb)
                   replace HR140 := am ((show Kd.C k71 w74 A65 y137.length y137 from by rw [Ny137.out, KA65.out]; exact Kd.C_drop (m := (t119 : Int).toNat) (c := co26) ((Kd.R_reads' (Kd.R_after (ok := (fun k_ => some k_ ≠ (.slice Ao73 y131.length co73 : Value).ownBlock ∧ k_ ≠ gb114)) (KR HO_4) hg hat)).2.2) KL65.out ((Kd.R_reads' (Kd.R_after (ok := (fun k_ => some k_ ≠ (.slice Ao73 y131.length co73 : Value).ownBlock ∧ k_ ≠ gb114)) (KR HO_4) hg hat)).2.1)))
                   replace HO_4 := am (Kd.R_after (ok := (fun k_ => some k_ ≠ (.slice Ao73 y131.length co73 : Value).ownBlock ∧ k_ ≠ gb114)) (KR HO_4) hg hat)
                   have HO143 := am (ho)
                   clear HO136
                   clear ho hb hg hat
                   refine hK.out _ _ ⟨z0 _ BK114.out, z1 _ BK114.out, z2 _ BK114.out, z3 _ BK114.out, z4 _ BK114.out, z5 _ BK114.out, z6 _ BK114.out, z7 _ BK114.out⟩ (fun hHeld => ?_)
                   clear hK K
                   refine norm_ (a' := ?_) ?_ ?_
                   rotate_left
                   ·show Act.put _ (some 82) _ = _
                    simp only [Act.put, List.setIfInBounds_toArray, List.set_cons_zero, List.set_cons_succ, i64_w, i32_w]
                    rfl
                   refine pv HT_ 12 2 (tf 13 0) ?_
                   refine done_ (done_of HT_.out (by kernel_rfl)) ?_
                   try go_wp2
                   go_ret
                   exact ⟨_, ER, by (with_reducible repeat (first | apply Kd.R_alloc | apply Kd.R_drewN | apply Kd.R_drew)); exact Kd.R_mono HO143.out (fun _ hk => trivial), K2 HB (IsS140.ge HI103.out) GE114.out⟩
                  ·rw [if_neg c61] at H
                   exact absurd H (by simp)
                 ·rw [if_neg c58] at H
                  exact absurd H (by simp)
                ·rw [if_neg c57] at H
                 exact absurd H (by simp)
               ·rw [if_neg c56] at H
                exact absurd H (by simp)
              ·rw [if_neg c55] at H
               exact absurd H (by simp)
     ·rw [if_neg c24] at H
      exact absurd H (by simp)
    ·rw [if_neg c23] at H
     exact absurd H (by simp)
end Go.Proofs.Ytkgbgaojglcaoaa.PAll
end
