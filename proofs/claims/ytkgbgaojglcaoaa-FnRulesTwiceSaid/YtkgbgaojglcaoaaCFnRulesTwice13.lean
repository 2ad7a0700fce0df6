/- Contracts of the functions that the statement reaches, printed by a program out of the translation and joined with the plain laws. -/
import Derived.Test.YtkgbgaojglcaoaaCFnRulesTwice3
import Derived.Test.YtkgbgaojglcaoaaCFnRulesTwice4
import Derived.Test.YtkgbgaojglcaoaaCFnRulesTwice6
import Derived.Test.YtkgbgaojglcaoaaCFnRulesTwice7
import Derived.Test.YtkgbgaojglcaoaaCFnRulesTwice10
import Derived.Test.YtkgbgaojglcaoaaCFnRulesTwice11
import Derived.Test.YtkgbgaojglcaoaaCFnRulesTwice12
section
namespace Go.Proofs.Ytkgbgaojglcaoaa.PAll
open Go.RowKit Go.Proofs.YtkgbgaojglcaoaaW.PrintWords Go.Proofs.YtkgbgaojglcaoaaW.PrintLast Go.Proofs.YtkgbgaojglcaoaaW.PrintMore
attribute [local go_sem] max2_int min2_int max_two min_two max_three min_three max_four min_four   -- for this text's walks alone
set_option linter.unusedVariables false
set_option linter.unusedSimpArgs false
mutual
def laws_FnRulesTwice.j0 : Nat → List (S71) → Bool → List (S71) → Bool → Option (Bool)
 | 0, _, _, _, _ => none
 | k + 1, x3, x4, x5, x35 => if x35 = true then ((spec_RulesOk.f k x3).bind fun t116 => (some (x4 == t116))) else ((impl_RulesDiffer.f k x3 x5).bind fun bt117 => ((impl_RulesDead.f k x5).bind fun t122 => ((some (([] : List Int) : List Int)).bind fun y125 => ((impl_RulesDead.f k x3).bind fun t128 => (if y125.length + t128.length < 17592186044416 then (laws_FnRulesTwice.l0 k x3 bt117.2.2.2 t122 (y125 ++ t128) 0) else (none))))))
def laws_FnRulesTwice.l0 : Nat → List (S71) → Bool → List Int → List Int → Int → Option (Bool)
 | 0, _, _, _, _, _ => none
 | k + 1, x3, x7, x8, x9, x10 => if x10 < (x3.length : Int) then (if x9.length < 17592186044416 then (laws_FnRulesTwice.l0 k x3 x7 x8 (x9 ++ [wrap64 ((x3.length : Int) + x10)]) (wrap64 (x10 + 1))) else (none)) else (if x7 = true then (some false) else ((laws_ovInts.f k x8 x9).bind fun t137 => (some t137)))
end
def laws_FnRulesTwice.f (k : Nat) (l0 : List Int) : Option (Bool) := if (l0.length : Int) > 1048576 then (some true) else ((spec_DrawRulesOk.f k l0).bind fun t101 => ((impl_RulesOk.f k t101).bind fun t104 => ((some (([] : List (S71)) : List (S71))).bind fun y105 => (if y105.length + t101.length < 2199023255552 then ((some (y105 ++ t101 : List (S71))).bind fun y108 => (if y108.length + t101.length < 2199023255552 then ((some (y108 ++ t101 : List (S71))).bind fun y111 => ((spec_RulesOk.f k t101).bind fun t114 => (if (t104 != t114) = true then (laws_FnRulesTwice.j0 k t101 t104 y111 true) else (if t104 = true then ((impl_RulesOk.f k y111).bind fun t115 => (laws_FnRulesTwice.j0 k t101 t104 y111 (!t115))) else (laws_FnRulesTwice.j0 k t101 t104 y111 true))))) else (none))) else (none)))))
set_option maxHeartbeats 8000000 in
set_option maxRecDepth 100000 in
theorem laws_FnRulesTwice.calls (k : Nat) (A0 : Option Addr) (c0 : Nat) (l0 : List Int) (r : Bool) (w : World) (hr0 : Kd.C (Kd.int .u8) w A0 l0.length l0) (hc0 : l0.length ≤ c0) (hr0_ : r = true) (h : laws_FnRulesTwice.f k l0 = some r) :
  Calls Try.prog 8 #[.slice A0 l0.length c0] w fun e w' => e = .returned (.bool r) ∧ Below w.heap.size w w' := by
 have hu60 := Try.underlying60
 have HR0 := Aside0.mk hr0
 have HC0 := Aside0.mk hc0
 clear hr0 hc0
 have HB := am (Below.refl w.heap.size w)
 have H : (if (l0.length : Int) > 1048576 then (some true) else ((spec_DrawRulesOk.f k l0).bind fun t101 => ((impl_RulesOk.f k t101).bind fun t104 => ((some (([] : List (S71)) : List (S71))).bind fun y105 => (if y105.length + t101.length < 2199023255552 then ((some (y105 ++ t101 : List (S71))).bind fun y108 => (if y108.length + t101.length < 2199023255552 then ((some (y108 ++ t101 : List (S71))).bind fun y111 => ((spec_RulesOk.f k t101).bind fun t114 => (if (t104 != t114) = true then (laws_FnRulesTwice.j0 k t101 t104 y111 true) else (if t104 = true then ((impl_RulesOk.f k y111).bind fun t115 => (laws_FnRulesTwice.j0 k t101 t104 y111 (!t115))) else (laws_FnRulesTwice.j0 k t101 t104 y111 true))))) else (none))) else (none)))))) = some r := h
 clear h
 have HR_ := Aside0.mk hr0_
 clear hr0_
 by_cases c2 : (l0.length : Int) > 1048576
 ·rw [if_pos c2] at H
  have c2b0 : decide (1048576 < (l0.length : Int)) = true := decide_eq_true c2
  have c2b1 : decide (1048576 < l0.length) = true := decide_eq_true (by omega)
  clear c2
  obtain rfl := Option.some.inj H
  go_enter Try.func8, Try.ntmps8
  go_wp2
  go_ret
  exact ⟨ER, KL HB⟩
 ·rw [if_neg c2] at H
  have c2b0 : decide (1048576 < (l0.length : Int)) = false := decide_eq_false c2
  have c2b1 : decide (1048576 < l0.length) = false := decide_eq_false (by omega)
  clear c2
  replace H := Option.bind_eq_some_iff.mp H
  obtain ⟨t101, A30, H⟩ := H
  replace H : ((impl_RulesOk.f k t101).bind fun t104 => ((some (([] : List (S71)) : List (S71))).bind fun y105 => (if y105.length + t101.length < 2199023255552 then ((some (y105 ++ t101 : List (S71))).bind fun y108 => (if y108.length + t101.length < 2199023255552 then ((some (y108 ++ t101 : List (S71))).bind fun y111 => ((spec_RulesOk.f k t101).bind fun t114 => (if (t104 != t114) = true then (laws_FnRulesTwice.j0 k t101 t104 y111 true) else (if t104 = true then ((impl_RulesOk.f k y111).bind fun t115 => (laws_FnRulesTwice.j0 k t101 t104 y111 (!t115))) else (laws_FnRulesTwice.j0 k t101 t104 y111 true))))) else (none))) else (none)))) = some r := H
  have A3 := Aside0.mk A30
  clear A30
  replace H := Option.bind_eq_some_iff.mp H
  obtain ⟨t104, A40, H⟩ := H
  replace H : ((some (([] : List (S71)) : List (S71))).bind fun y105 => (if y105.length + t101.length < 2199023255552 then ((some (y105 ++ t101 : List (S71))).bind fun y108 => (if y108.length + t101.length < 2199023255552 then ((some (y108 ++ t101 : List (S71))).bind fun y111 => ((spec_RulesOk.f k t101).bind fun t114 => (if (t104 != t114) = true then (laws_FnRulesTwice.j0 k t101 t104 y111 true) else (if t104 = true then ((impl_RulesOk.f k y111).bind fun t115 => (laws_FnRulesTwice.j0 k t101 t104 y111 (!t115))) else (laws_FnRulesTwice.j0 k t101 t104 y111 true))))) else (none))) else (none))) = some r := H
  have A4 := Aside0.mk A40
  clear A40
  obtain ⟨y105, hy105⟩ : ∃ y_ : List (S71), y_ = (([] : List (S71))) := ⟨_, rfl⟩
  replace H : (if y105.length + t101.length < 2199023255552 then ((some (y105 ++ t101 : List (S71))).bind fun y108 => (if y108.length + t101.length < 2199023255552 then ((some (y108 ++ t101 : List (S71))).bind fun y111 => ((spec_RulesOk.f k t101).bind fun t114 => (if (t104 != t114) = true then (laws_FnRulesTwice.j0 k t101 t104 y111 true) else (if t104 = true then ((impl_RulesOk.f k y111).bind fun t115 => (laws_FnRulesTwice.j0 k t101 t104 y111 (!t115))) else (laws_FnRulesTwice.j0 k t101 t104 y111 true))))) else (none))) else (none)) = some r := by first | (rw [hy105]; with_reducible exact H) | (have H2_ := (Option.bind_some _ _).symm.trans H; rw [hy105]; with_reducible exact H2_) | (have H2_ := (Option.bind_some _ _).symm.trans H; with_reducible exact H2_) | with_reducible exact H | (rw [hy105]; exact H) | exact H
  have Ny105 := Aside0.mk hy105
  clear hy105
  by_cases c5 : y105.length + t101.length < 2199023255552
  ·rw [if_pos c5] at H
   have LMc5 := Aside0.mk c5
   clear c5
   obtain ⟨y108, hy108⟩ : ∃ y_ : List (S71), y_ = (y105 ++ t101) := ⟨_, rfl⟩
   replace H : (if y108.length + t101.length < 2199023255552 then ((some (y108 ++ t101 : List (S71))).bind fun y111 => ((spec_RulesOk.f k t101).bind fun t114 => (if (t104 != t114) = true then (laws_FnRulesTwice.j0 k t101 t104 y111 true) else (if t104 = true then ((impl_RulesOk.f k y111).bind fun t115 => (laws_FnRulesTwice.j0 k t101 t104 y111 (!t115))) else (laws_FnRulesTwice.j0 k t101 t104 y111 true))))) else (none)) = some r := by first | (rw [hy108]; with_reducible exact H) | (have H2_ := (Option.bind_some _ _).symm.trans H; rw [hy108]; with_reducible exact H2_) | (have H2_ := (Option.bind_some _ _).symm.trans H; with_reducible exact H2_) | with_reducible exact H | (rw [hy108]; exact H) | exact H
   have Ny108 := Aside0.mk hy108
   clear hy108
   by_cases c6 : y108.length + t101.length < 2199023255552
   ·rw [if_pos c6] at H
    have LMc6 := Aside0.mk c6
    clear c6
    obtain ⟨y111, hy111⟩ : ∃ y_ : List (S71), y_ = (y108 ++ t101) := ⟨_, rfl⟩
    replace H : ((spec_RulesOk.f k t101).bind fun t114 => (if (t104 != t114) = true then (laws_FnRulesTwice.j0 k t101 t104 y111 true) else (if t104 = true then ((impl_RulesOk.f k y111).bind fun t115 => (laws_FnRulesTwice.j0 k t101 t104 y111 (!t115))) else (laws_FnRulesTwice.j0 k t101 t104 y111 true)))) = some r := by first | (rw [hy111]; with_reducible exact H) | (have H2_ := (Option.bind_some _ _).symm.trans H; rw [hy111]; with_reducible exact H2_) | (have H2_ := (Option.bind_some _ _).symm.trans H; with_reducible exact H2_) | with_reducible exact H | (rw [hy111]; exact H) | exact H
    have Ny111 := Aside0.mk hy111
    clear hy111
    have HC7 := Aside0.mk H
    clear H
    go_enter Try.func8, Try.ntmps8
    go_upto_region 6 with (first | ((with_reducible refine gate_callee (f := 42) rfl ?_); refine goesL_ (some 15) rfl rfl Try.func42 (by kernel_rfl) rfl #[.slice A0 l0.length c0] rfl MT ?_; (with_reducible refine (spec_DrawRulesOk.calls k _ _ l0 t101 _ ?side1 ?side2 A3.out).mono ?_); (case side1 => exact KC HR0.out); (case side2 => exact HC0.out); rintro e w8 ⟨v102, rfl, ho0, hb⟩; refine ⟨_, rfl, ?_⟩; have HO103 := am (Kd.R_lower ho0 (below_size (KL HB))); replace HB := am (below_step (KL HB) hb); (try clear hb); (try clear ho0); obtain ⟨Ao9, co9, eo9⟩ := Kd.R_slice HO103.out; subst eo9) | ((with_reducible refine gate_callee (f := 43) rfl ?_); refine goesL_ (some 17) rfl rfl Try.func43 (by kernel_rfl) rfl #[.slice Ao9 t101.length co9] rfl MT ?_; (with_reducible refine (impl_RulesOk.calls k _ _ t101 t104 _ ?side1 ?side2 A4.out).mono ?_); (case side1 => exact KC (Kd.R_reads' HO103.out).2.2); (case side2 => exact (Kd.R_reads' HO103.out).2.1); rintro e w10 ⟨rfl, hb⟩; refine ⟨_, rfl, ?_⟩; replace HO103 := am (Kd.R_below (KR HO103) hb); replace HB := am (below_step (KL HB) hb); (try clear hb)) | ((with_reducible refine gate_dst (N := 18) rfl ?_); refine Kd.R_lit k71 _ 71 ?hg (N := 18) ?hd (xs := ([] : List (S71))) (inner := []) (ok := fun _ => True) (okp := fun _ => True) ?hr ?hp (fun _ hk => hk) trivial (Below.refl _ _) (Nat.le_refl _) (by simp) ?_; (case hd => rfl); (case hg => rfl); (case hr => first | (go_simp; done) | (go_simp; rfl)); (case hp => exact (Reps.none _ _)); intro v106 w11 ho12 hb hg_ hnew_; clear hg_ hnew_; (first | rw [← Ny105.out] at ho12 | (simp only [Int.reduceToNat] at ho12; rw [← Ny105.out] at ho12)); have HO107 := am (Kd.R_lower (Kd.R_new' ho12 (Kd.R_lt (KR HO103))) (below_size (KL HB))); replace HO103 := am (Kd.R_elder' (KR HO103) (Kd.R_base ho12) hb); replace HB := am (below_step (KL HB) hb); clear hb ho12) | ((with_reducible refine gate_builtin (b := .append) (xs := #[.tmp 18, .tmp 19]) rfl ?_); at_builtin; refine Kd.R_append_rows k71 (w0 := w) w.heap.size rfl (.tmp 18) (.tmp 19) 52 71 (.agg #[(.int .i64 0), (.int .i64 0), (.int .i64 0), (.int .i64 0), (.int .i64 0), (.int .i64 0), (.int .i64 0), (.int .i64 0)]) 64 rfl Try.underlying52 info71 rfl (by decide) (by omega) v106 y105 t101 _ _ _ (fun k_ => some k_ ≠ (.slice Ao9 t101.length co9 : Value).ownBlock) (fun _ => False) rfl rfl ?aO ?aR (fun _ _ h => h) (fun _ h => h.elim) ?aF ?aB ?aS ?aL ?_; (case aR => exact KC (Kd.R_reads' HO103.out).2.2); (case aB => exact (KL HB)); (case aF => exact (fun k_ hk => Kd.fresh' (Kd.R_lt (KR HO103)) k_ hk)); (case aO => exact (by (with_reducible repeat (first | apply Kd.R_alloc | apply Kd.R_drewN | apply Kd.R_drew)); exact Kd.R_mono HO107.out (fun _ hk => hk.2))); (case aS => exact (below_size (KL HB))); (case aL => have := LMc5.out; omega); intro v109 w13 ho hb hg hat; rw [← Ny108.out] at ho; replace HO103 := am (Kd.R_after (ok := (fun _ => True)) (KR HO103) hg hat); replace HB := am (hb); have HO110 := am (ho); clear HO107; clear ho hb hg hat) | ((with_reducible refine gate_builtin (b := .append) (xs := #[.tmp 20, .tmp 21]) rfl ?_); at_builtin; refine Kd.R_append_rows k71 (w0 := w) w.heap.size rfl (.tmp 20) (.tmp 21) 52 71 (.agg #[(.int .i64 0), (.int .i64 0), (.int .i64 0), (.int .i64 0), (.int .i64 0), (.int .i64 0), (.int .i64 0), (.int .i64 0)]) 64 rfl Try.underlying52 info71 rfl (by decide) (by omega) v109 y108 t101 _ _ _ (fun k_ => some k_ ≠ (.slice Ao9 t101.length co9 : Value).ownBlock) (fun _ => False) rfl rfl ?aO ?aR (fun _ _ h => h) (fun _ h => h.elim) ?aF ?aB ?aS ?aL ?_; (case aR => exact KC (Kd.R_reads' HO103.out).2.2); (case aB => exact (KL HB)); (case aF => exact (fun k_ hk => Kd.fresh' (Kd.R_lt (KR HO103)) k_ hk)); (case aO => exact (KR HO110)); (case aS => exact (below_size (KL HB))); (case aL => have := LMc6.out; omega); intro v112 w14 ho hb hg hat; rw [← Ny111.out] at ho; replace HO103 := am (Kd.R_after (ok := (fun _ => True)) (KR HO103) hg hat); replace HB := am (hb); have HO113 := am (ho); clear HO110; clear ho hb hg hat))
    (try simp only [Act.put, List.setIfInBounds_toArray, List.set_cons_zero, List.set_cons_succ])
    go_cut [35] (fun v35 wc => ∃ (kq : Nat) (x35_6 : Bool), v35 = .bool x35_6 ∧ Aside0 (laws_FnRulesTwice.j0 kq t101 t104 y111 x35_6 = some r) ∧ Aside0 (kq ≤ k) ∧ Aside0 (Kd.R k71 71 wc w.heap.size (fun k_ => some k_ ≠ (v112 : Value).ownBlock) (.slice Ao9 t101.length co9) t101) ∧ Aside0 (Kd.R k71 71 wc w.heap.size (fun k_ => some k_ ≠ ((.slice Ao9 t101.length co9) : Value).ownBlock) v112 y111) ∧ Aside0 (Below w.heap.size w wc))
    case first =>
     have H := HC7.out
     clear HC7
     replace H := Option.bind_eq_some_iff.mp H
     obtain ⟨t114, A150, H⟩ := H
     replace H : (if (t104 != t114) = true then (laws_FnRulesTwice.j0 k t101 t104 y111 true) else (if t104 = true then ((impl_RulesOk.f k y111).bind fun t115 => (laws_FnRulesTwice.j0 k t101 t104 y111 (!t115))) else (laws_FnRulesTwice.j0 k t101 t104 y111 true))) = some r := H
     have A15 := Aside0.mk A150
     clear A150
     by_cases c16 : (t104 != t114) = true
     ·rw [if_pos c16] at H
      have c16b0 : (t104 != t114) = true := c16
      (try (have c16b1 : decide (t104 = t114) = false := by simpa using c16))
      (try (have c16b2 : (t104 == t114) = false := by simpa using c16))
      (try (have c16b3 : ¬ (t104 = t114) := by simpa using c16))
      clear c16
      (first | rw [c16b0] | (simp only [i64_w, i32_w]; rw [c16b0]) | skip)
      have H' := Aside0.mk H
      clear H
      go_wp2_with (first | ((with_reducible refine gate_callee (f := 44) rfl ?_); refine goesL_ (some 25) rfl rfl Try.func44 (by kernel_rfl) rfl #[.slice Ao9 t101.length co9] rfl MT ?_; (with_reducible refine (spec_RulesOk.calls k _ _ t101 t114 _ ?side1 ?side2 A15.out).mono ?_); (case side1 => exact KC (Kd.R_reads' HO103.out).2.2); (case side2 => exact (Kd.R_reads' HO103.out).2.1); rintro e w17 ⟨rfl, hb⟩; refine ⟨_, rfl, ?_⟩; replace HO103 := am (Kd.R_below (KR HO103) hb); replace HO113 := am (Kd.R_below (KR HO113) hb); replace HB := am (below_step (KL HB) hb); (try clear hb)))
      go_meet
      case rel => exact ⟨_, (true), (by first | rfl | (simp; done) | (simp [*]; done)), H', ⟨by first | omega | exact Nat.le_refl _⟩, ⟨by (with_reducible repeat (first | apply Kd.R_alloc | apply Kd.R_drewN | apply Kd.R_drew)); exact Kd.R_mono HO103.out (fun _ hk => hk.2)⟩, ⟨KR HO113⟩, ⟨KL HB⟩⟩
     ·rw [if_neg c16] at H
      have c16b0 : (t104 != t114) = false := by simpa using c16
      (try (have c16b1 : decide (t104 = t114) = true := by simpa using c16))
      (try (have c16b2 : (t104 == t114) = true := by simpa using c16))
      clear c16
      (first | rw [c16b0] | (simp only [i64_w, i32_w]; rw [c16b0]) | skip)
      by_cases c18 : t104 = true
      ·subst c18
       have H1 : ((impl_RulesOk.f k y111).bind fun t115 => (laws_FnRulesTwice.j0 k t101 true y111 (!t115))) = some r := by rw [if_pos rfl] at H; exact H
       clear H
       have H := H1
       clear H1
       replace H := Option.bind_eq_some_iff.mp H
       obtain ⟨t115, A190, H⟩ := H
       replace H : (laws_FnRulesTwice.j0 k t101 true y111 (!t115)) = some r := H
       have A19 := Aside0.mk A190
       clear A190
       have H' := Aside0.mk H
       clear H
       go_wp2_with (first | ((with_reducible refine gate_callee (f := 44) rfl ?_); refine goesL_ (some 25) rfl rfl Try.func44 (by kernel_rfl) rfl #[.slice Ao9 t101.length co9] rfl MT ?_; (with_reducible refine (spec_RulesOk.calls k _ _ t101 t114 _ ?side1 ?side2 A15.out).mono ?_); (case side1 => exact KC (Kd.R_reads' HO103.out).2.2); (case side2 => exact (Kd.R_reads' HO103.out).2.1); rintro e w20 ⟨rfl, hb⟩; refine ⟨_, rfl, ?_⟩; replace HO103 := am (Kd.R_below (KR HO103) hb); replace HO113 := am (Kd.R_below (KR HO113) hb); replace HB := am (below_step (KL HB) hb); (try clear hb); obtain ⟨Ao21, co21, eo21⟩ := Kd.R_slice HO113.out; subst eo21) | (go_at_call 43; (with_reducible refine (impl_RulesOk.calls k _ _ y111 t115 _ ?side1 ?side2 A19.out).mono ?_); (case side1 => exact KC (Kd.R_reads' HO113.out).2.2); (case side2 => exact (Kd.R_reads' HO113.out).2.1); rintro e w22 ⟨rfl, hb⟩; replace HO103 := am (Kd.R_below (KR HO103) hb); replace HO113 := am (Kd.R_below (KR HO113) hb); replace HB := am (below_step (KL HB) hb); (try clear hb)))
       go_meet
       case rel => exact ⟨_, (!t115), (by first | rfl | (simp; done) | (simp [*]; done)), H', ⟨by first | omega | exact Nat.le_refl _⟩, ⟨by (with_reducible repeat (first | apply Kd.R_alloc | apply Kd.R_drewN | apply Kd.R_drew)); exact Kd.R_mono HO103.out (fun _ hk => hk.2)⟩, ⟨KR HO113⟩, ⟨KL HB⟩⟩
      ·replace c18 := Bool.eq_false_iff.mpr c18
       subst c18
       have H1 : (laws_FnRulesTwice.j0 k t101 false y111 true) = some r := by rw [if_neg (show ¬ (false = true) by decide)] at H; exact H
       clear H
       have H := H1
       clear H1
       have H' := Aside0.mk H
       clear H
       go_wp2_with (first | ((with_reducible refine gate_callee (f := 44) rfl ?_); refine goesL_ (some 25) rfl rfl Try.func44 (by kernel_rfl) rfl #[.slice Ao9 t101.length co9] rfl MT ?_; (with_reducible refine (spec_RulesOk.calls k _ _ t101 t114 _ ?side1 ?side2 A15.out).mono ?_); (case side1 => exact KC (Kd.R_reads' HO103.out).2.2); (case side2 => exact (Kd.R_reads' HO103.out).2.1); rintro e w23 ⟨rfl, hb⟩; refine ⟨_, rfl, ?_⟩; replace HO103 := am (Kd.R_below (KR HO103) hb); replace HO113 := am (Kd.R_below (KR HO113) hb); replace HB := am (below_step (KL HB) hb); (try clear hb)))
       go_meet
       case rel => exact ⟨_, (true), (by first | rfl | (simp; done) | (simp [*]; done)), H', ⟨by first | omega | exact Nat.le_refl _⟩, ⟨by (with_reducible repeat (first | apply Kd.R_alloc | apply Kd.R_drewN | apply Kd.R_drew)); exact Kd.R_mono HO103.out (fun _ hk => hk.2)⟩, ⟨KR HO113⟩, ⟨KL HB⟩⟩
    case rest =>
     clear HC7
     try clear c1
     try clear c2
     try clear c2b0
     try clear c2b1
     try clear p2
     try clear c4
     try clear c5
     try clear c6
     try clear c8
     try clear c16
     try clear c16b0
     try clear c16b1
     try clear c16b2
     try clear c18
     obtain ⟨kq, x35_6, rfl, HA, HJ6, HO_3, HO_5, HB⟩ := hcut
     cases kq with
     | zero => exact absurd HA.out (by simp [laws_FnRulesTwice.j0])
     | succ kj6 =>
      have H := HA.out
      clear HA
      simp only [laws_FnRulesTwice.j0] at H
      by_cases c24 : x35_6 = true
      ·subst c24
       have H1 : ((spec_RulesOk.f kj6 t101).bind fun t116 => (some (t104 == t116))) = some r := by rw [if_pos rfl] at H; exact H
       clear H
       have H := H1
       clear H1
       replace H := Option.bind_eq_some_iff.mp H
       obtain ⟨t116, A250, H⟩ := H
       replace H : (some (t104 == t116)) = some r := H
       have A25 := Aside0.mk A250
       clear A250
       obtain rfl := Option.some.inj H
       go_wp2_with (first | ((with_reducible refine gate_callee (f := 44) rfl ?_); refine goesL_ (some 38) rfl rfl Try.func44 (by kernel_rfl) rfl #[.slice Ao9 t101.length co9] rfl MT ?_; (with_reducible refine (spec_RulesOk.calls kj6 _ _ t101 t116 _ ?side1 ?side2 A25.out).mono ?_); (case side1 => exact KC (Kd.R_reads' HO_3.out).2.2); (case side2 => exact (Kd.R_reads' HO_3.out).2.1); rintro e w26 ⟨rfl, hb⟩; refine ⟨_, rfl, ?_⟩; replace HO_3 := am (Kd.R_below (KR HO_3) hb); replace HO_5 := am (Kd.R_below (KR HO_5) hb); replace HB := am (below_step (KL HB) hb); (try clear hb)))
       go_ret
       exact ⟨ER, KL HB⟩
      ·replace c24 := Bool.eq_false_iff.mpr c24
       subst c24
       have H1 : ((impl_RulesDiffer.f kj6 t101 y111).bind fun bt117 => ((impl_RulesDead.f kj6 y111).bind fun t122 => ((some (([] : List Int) : List Int)).bind fun y125 => ((impl_RulesDead.f kj6 t101).bind fun t128 => (if y125.length + t128.length < 17592186044416 then (laws_FnRulesTwice.l0 kj6 t101 bt117.2.2.2 t122 (y125 ++ t128) 0) else (none)))))) = some r := by rw [if_neg (show ¬ (false = true) by decide)] at H; exact H
       clear H
       have H := H1
       clear H1
       replace H := Option.bind_eq_some_iff.mp H
       obtain ⟨⟨t117, t118, t119, t120⟩, A270, H⟩ := H
       replace H : ((impl_RulesDead.f kj6 y111).bind fun t122 => ((some (([] : List Int) : List Int)).bind fun y125 => ((impl_RulesDead.f kj6 t101).bind fun t128 => (if y125.length + t128.length < 17592186044416 then (laws_FnRulesTwice.l0 kj6 t101 t120 t122 (y125 ++ t128) 0) else (none))))) = some r := H
       have A27 := Aside0.mk A270
       clear A270
       replace H := Option.bind_eq_some_iff.mp H
       obtain ⟨t122, A280, H⟩ := H
       replace H : ((some (([] : List Int) : List Int)).bind fun y125 => ((impl_RulesDead.f kj6 t101).bind fun t128 => (if y125.length + t128.length < 17592186044416 then (laws_FnRulesTwice.l0 kj6 t101 t120 t122 (y125 ++ t128) 0) else (none)))) = some r := H
       have A28 := Aside0.mk A280
       clear A280
       obtain ⟨y125, hy125⟩ : ∃ y_ : List Int, y_ = (([] : List Int)) := ⟨_, rfl⟩
       replace H : ((impl_RulesDead.f kj6 t101).bind fun t128 => (if y125.length + t128.length < 17592186044416 then (laws_FnRulesTwice.l0 kj6 t101 t120 t122 (y125 ++ t128) 0) else (none))) = some r := by first | (rw [hy125]; with_reducible exact H) | (have H2_ := (Option.bind_some _ _).symm.trans H; rw [hy125]; with_reducible exact H2_) | (have H2_ := (Option.bind_some _ _).symm.trans H; with_reducible exact H2_) | with_reducible exact H | (rw [hy125]; exact H) | exact H
       have Ny125 := Aside0.mk hy125
       clear hy125
       replace H := Option.bind_eq_some_iff.mp H
       obtain ⟨t128, A290, H⟩ := H
       replace H : (if y125.length + t128.length < 17592186044416 then (laws_FnRulesTwice.l0 kj6 t101 t120 t122 (y125 ++ t128) 0) else (none)) = some r := H
       have A29 := Aside0.mk A290
       clear A290
       by_cases c30 : y125.length + t128.length < 17592186044416
       ·rw [if_pos c30] at H
        have LMc30 := Aside0.mk c30
        clear c30
        obtain ⟨y131, hy131⟩ : ∃ y_ : List Int, y_ = (y125 ++ t128) := ⟨_, rfl⟩
        replace H : (laws_FnRulesTwice.l0 kj6 t101 t120 t122 y131 0) = some r := by first | (rw [hy131]; with_reducible exact H) | (have H2_ := (Option.bind_some _ _).symm.trans H; rw [hy131]; with_reducible exact H2_) | (have H2_ := (Option.bind_some _ _).symm.trans H; with_reducible exact H2_) | with_reducible exact H | (rw [hy131]; exact H) | exact H
        have Ny131 := Aside0.mk hy131
        clear hy131
        have H' := Aside0.mk H
        clear H
        obtain ⟨Ao31, co31, eo31⟩ := Kd.R_slice HO_5.out
        subst eo31
        go_wp2_with (first | ((with_reducible refine gate_callee (f := 40) rfl ?_); refine goesL_ (some 43) rfl rfl Try.func40 (by kernel_rfl) rfl #[.slice Ao9 t101.length co9, .slice Ao31 y111.length co31] rfl MT ?_; (with_reducible refine (impl_RulesDiffer.calls kj6 _ _ t101 _ _ y111 t117 t118 t119 t120 _ ?side1 ?side2 ?side3 ?side4 A27.out).mono ?_); (case side1 => exact KC (Kd.R_reads' HO_3.out).2.2); (case side2 => exact (Kd.R_reads' HO_3.out).2.1); (case side3 => exact KC (Kd.R_reads' HO_5.out).2.2); (case side4 => exact (Kd.R_reads' HO_5.out).2.1); rintro e w32 ⟨rfl, hb⟩; refine ⟨_, rfl, ?_⟩; replace HO_3 := am (Kd.R_below (KR HO_3) hb); replace HO_5 := am (Kd.R_below (KR HO_5) hb); replace HB := am (below_step (KL HB) hb); (try clear hb)) | ((with_reducible refine gate_dst (N := 6) rfl ?_); refine box_event rfl (N := 6) rfl (cs := #[.int .i64 0, .int .i64 0, .int .i64 0]) (t := 60) BX ?_; intro gb121 hg w33 hbox hb; replace HO_3 := am (Kd.R_below (KR HO_3) hb); replace HO_5 := am (Kd.R_below (KR HO_5) hb); have BK121 := am (hbox); have GW121 := am (GH HB hg); have GE121 := GW121; replace HB := am (below_step (KL HB) hb); clear hb hbox hg; obtain ⟨hcz34_0, hcz34_1, hcz34_2, hfz34_0⟩ := y3 w33 BK121.out) | ((with_reducible refine gate_callee (f := 33) rfl ?_); refine goesL_ (some 47) rfl rfl Try.func33 (by kernel_rfl) rfl #[.slice Ao31 y111.length co31] rfl MT ?_; (with_reducible refine (impl_RulesDead.calls kj6 _ _ y111 t122 _ ?side1 ?side2 A28.out).mono ?_); (case side1 => refine (Kd.R_reads' (e := 71) (base := w.heap.size) (ok := fun k_ => some k_ ≠ (.slice Ao9 t101.length co9 : Value).ownBlock) (n := y111.length) (c := co31) ?_).2.2; exact (by (with_reducible repeat (first | apply Kd.R_alloc | apply Kd.R_drewN | apply Kd.R_drew)); exact (RF HO_5.out BK121.out))); (case side2 => exact (Kd.R_reads' HO_5.out).2.1); rintro e w35 ⟨v123, rfl, ho0, hb⟩; refine ⟨_, rfl, ?_⟩; replace HO_3 := am (Kd.R_below (by (with_reducible repeat (first | apply Kd.R_alloc | apply Kd.R_drewN | apply Kd.R_drew)); exact (RF HO_3.out BK121.out)) hb); replace HO_5 := am (Kd.R_below (by (with_reducible repeat (first | apply Kd.R_alloc | apply Kd.R_drewN | apply Kd.R_drew)); exact (RF HO_5.out BK121.out)) hb); have HO124 := am (Kd.R_lower ho0 (below_size (K1 HB GE121.out))); replace BK121 := am (blk_below (g := gb121) (o := .cells #[.int .i64 t117, .int .i64 t118, .int .i64 t119] 60 (0, 0)) (by (with_reducible repeat (first | refine blk_drewN ?_ _ | refine blk_drew ?_ | refine blk_alloc ?_ _)); refine blk_put (cs := #[.int .i64 t117, .int .i64 t118, .int .i64 0]) ?_ 2 _ rfl; (with_reducible repeat (first | refine blk_drewN ?_ _ | refine blk_drew ?_ | refine blk_alloc ?_ _)); refine blk_put (cs := #[.int .i64 t117, .int .i64 0, .int .i64 0]) ?_ 1 _ rfl; (with_reducible repeat (first | refine blk_drewN ?_ _ | refine blk_drew ?_ | refine blk_alloc ?_ _)); refine blk_put (cs := #[.int .i64 0, .int .i64 0, .int .i64 0]) ?_ 0 _ rfl; (with_reducible repeat (first | refine blk_drewN ?_ _ | refine blk_drew ?_ | refine blk_alloc ?_ _)); exact BK121.out) hb); replace HB := am (below_step (K1 HB GE121.out) hb); (try clear hb); (try clear hb2); (try clear hk); (try clear hi); (try clear ho0)) | ((with_reducible refine gate_dst (N := 48) rfl ?_); refine Kd.R_lit (Kd.int .i64) _ 3 ?hg (N := 48) ?hd (xs := ([] : List Int)) (inner := []) (ok := fun _ => True) (okp := fun _ => True) ?hr ?hp (fun _ hk => hk) trivial (Below.refl _ _) (Nat.le_refl _) (by simp) ?_; (case hd => rfl); (case hg => rfl); (case hr => first | (go_simp; done) | (go_simp; rfl)); (case hp => exact (Reps.none _ _)); intro v126 w36 ho37 hb hg_ hnew_; clear hg_ hnew_; (first | rw [← Ny125.out] at ho37 | (simp only [Int.reduceToNat] at ho37; rw [← Ny125.out] at ho37)); replace HO_3 := am (Kd.R_below (KR HO_3) hb); replace HO_5 := am (Kd.R_below (KR HO_5) hb); have HO127 := am (Kd.R_lower (Kd.R_new' ho37 (Kd.R_lt (KR HO124))) (below_size (K1 HB GE121.out))); replace HO124 := am (Kd.R_elder' (KR HO124) (Kd.R_base ho37) hb); replace BK121 := am (BB BK121 hb); replace HB := am (below_step (K1 HB GE121.out) hb); clear hb ho37) | ((with_reducible refine gate_callee (f := 33) rfl ?_); refine goesL_ (some 50) rfl rfl Try.func33 (by kernel_rfl) rfl #[.slice Ao9 t101.length co9] rfl MT ?_; (with_reducible refine (impl_RulesDead.calls kj6 _ _ t101 t128 _ ?side1 ?side2 A29.out).mono ?_); (case side1 => exact KC (Kd.R_reads' HO_3.out).2.2); (case side2 => exact (Kd.R_reads' HO_3.out).2.1); rintro e w38 ⟨v129, rfl, ho0, hb⟩; refine ⟨_, rfl, ?_⟩; replace HO_3 := am (Kd.R_below (KR HO_3) hb); replace HO_5 := am (Kd.R_below (KR HO_5) hb); have HO130 := am (Kd.R_lower (Kd.R_new' (Kd.R_new' ho0 (Kd.R_lt (KR HO124))) (Kd.R_lt (KR HO127))) (below_size (K1 HB GE121.out))); replace HO124 := am (Kd.R_elder' (KR HO124) (Kd.R_base ho0) hb); replace HO127 := am (Kd.R_elder' (KR HO127) (Kd.R_base ho0) hb); replace BK121 := am (BB BK121 hb); replace HB := am (below_step (K1 HB GE121.out) hb); (try clear hb); (try clear ho0); obtain ⟨Ao40, co40, eo40⟩ := Kd.R_slice HO130.out; subst eo40) | ((with_reducible refine gate_builtin (b := .append) (xs := #[.tmp 48, .tmp 50]) rfl ?_); at_builtin; refine Kd.R_append_rows (Kd.int .i64) (w0 := w) w.heap.size rfl (.tmp 48) (.tmp 50) 50 3 (.int .i64 0) 8 rfl Try.underlying50 info3 rfl (by decide) (by omega) v126 y125 t128 _ _ _ (fun k_ => some k_ ≠ (v123 : Value).ownBlock ∧ some k_ ≠ (.slice Ao40 t128.length co40 : Value).ownBlock) (fun _ => False) rfl rfl ?aO ?aR (fun _ _ h => h) (fun _ h => h.elim) ?aF ?aB ?aS ?aL ?_; (case aR => exact KC (Kd.R_reads' HO130.out).2.2); (case aB => exact (K1 HB GE121.out)); (case aF => exact (fun k_ hk => ⟨Kd.fresh' (Kd.R_lt (KR HO124)) k_ hk, Kd.fresh' (Kd.R_lt (KR HO130)) k_ hk⟩)); (case aO => exact (by (with_reducible repeat (first | apply Kd.R_alloc | apply Kd.R_drewN | apply Kd.R_drew)); exact Kd.R_mono HO127.out (fun _ hk => ⟨hk.1.2, hk.2⟩))); (case aS => exact (below_size (K1 HB GE121.out))); (case aL => have := LMc30.out; omega); intro v132 w39 ho hb hg hat; rw [← Ny131.out] at ho; replace HO_3 := am (Kd.R_over' (KR HO_3) (Kd.R_typed (KR HO127)) (by decide) hg); replace HO_5 := am (Kd.R_over' (KR HO_5) (Kd.R_typed (KR HO127)) (by decide) hg); replace BK121 := am (blk_grown (g := gb121) (o := .cells #[.int .i64 t117, .int .i64 t118, .int .i64 t119] 60 (0, 0)) (KB BK121) hg (Kd.R_ne HO127.out BK121.out (by decide))); replace HO124 := am (Kd.R_after (ok := (fun k_ => some k_ ≠ (.slice Ao40 t128.length co40 : Value).ownBlock)) (by (with_reducible repeat (first | apply Kd.R_alloc | apply Kd.R_drewN | apply Kd.R_drew)); exact Kd.R_mono HO124.out (fun _ hk => ⟨hk.2, hk.1.2⟩)) hg hat); replace HO130 := am (Kd.R_after (ok := (fun k_ => some k_ ≠ (v123 : Value).ownBlock)) (by (with_reducible repeat (first | apply Kd.R_alloc | apply Kd.R_drewN | apply Kd.R_drew)); exact Kd.R_mono HO130.out (fun _ hk => ⟨hk.1.2, hk.2⟩)) hg hat); replace HB := am (hb); have HO133 := am (ho); clear HO127; clear ho hb hg hat))
        go_loopg [9, 10] kj6 (fun kq v9 v10 w' => ∃ (x9_2 : List Int) (x10_2 : Int), v10 = .int .i64 x10_2 ∧ Aside0 (laws_FnRulesTwice.l0 kq t101 t120 t122 x9_2 x10_2 = some r) ∧ Aside0 (kq ≤ kj6) ∧ Aside0 (Kd.R k71 71 w' w.heap.size (fun _ => True) (.slice Ao9 t101.length co9) t101) ∧ Aside0 (Kd.R (Kd.int .i64) 3 w' w.heap.size (fun k_ => some k_ ≠ (v9 : Value).ownBlock) v123 t122) ∧ Aside0 (Kd.R (Kd.int .i64) 3 w' w.heap.size (fun k_ => some k_ ≠ (v123 : Value).ownBlock) v9 x9_2) ∧ Aside0 (w'.heap[gb121]? = some (.cells #[.int .i64 t117, .int .i64 t118, .int .i64 t119] 60 (0, 0))) ∧ Aside0 (Below w.heap.size w w'))
        case atStart => exact ⟨(y131), (0), (by first | rfl | (simp; done) | (simp [*]; done)), H', ⟨Nat.le_refl _⟩, ⟨by (with_reducible repeat (first | apply Kd.R_alloc | apply Kd.R_drewN | apply Kd.R_drew)); exact Kd.R_mono HO_3.out (fun _ hk => trivial)⟩, ⟨by (with_reducible repeat (first | apply Kd.R_alloc | apply Kd.R_drewN | apply Kd.R_drew)); exact Kd.R_mono HO124.out (fun _ hk => hk.2)⟩, ⟨by (with_reducible repeat (first | apply Kd.R_alloc | apply Kd.R_drewN | apply Kd.R_drew)); exact Kd.R_mono HO133.out (fun _ hk => hk.1)⟩, ⟨KB BK121⟩, ⟨K1 HB GE121.out⟩⟩
        case round =>
         clear H'
         try clear c1
         try clear c2
         try clear c2b0
         try clear c2b1
         try clear p2
         try clear c3
         try clear c4
         try clear c5
         try clear c6
         try clear c8
         try clear c16
         try clear c16b0
         try clear c16b1
         try clear c16b2
         try clear c18
         try clear c24
         try clear c30
         try clear c33
         try clear c40
         try clear hcz34_0 hcz34_1 hcz34_2 hfz34_0
         try clear p2
         obtain ⟨x9_2, x10_2, rfl, HA, HK2, HO_3, HO_8, HO_9, BK121, HB⟩ := hrel
         cases gk with
         | zero => exact absurd HA.out (by simp [laws_FnRulesTwice.l0])
         | succ k2 =>
          have H := HA.out
          clear HA
          simp only [laws_FnRulesTwice.l0] at H
          by_cases c41 : x10_2 < (t101.length : Int)
          ·rw [if_pos c41] at H
           have c41b0 : decide (x10_2 < (t101.length : Int)) = true := decide_eq_true c41
           clear c41
           by_cases c42 : x9_2.length < 17592186044416
           ·rw [if_pos c42] at H
            have LMc42 := Aside0.mk c42
            clear c42
            obtain ⟨y134, hy134⟩ : ∃ y_ : List Int, y_ = (x9_2 ++ [wrap64 ((t101.length : Int) + x10_2)]) := ⟨_, rfl⟩
            replace H : (laws_FnRulesTwice.l0 k2 t101 t120 t122 y134 (wrap64 (x10_2 + 1))) = some r := by first | (rw [hy134]; with_reducible exact H) | (have H2_ := (Option.bind_some _ _).symm.trans H; rw [hy134]; with_reducible exact H2_) | (have H2_ := (Option.bind_some _ _).symm.trans H; with_reducible exact H2_) | with_reducible exact H | (rw [hy134]; exact H) | exact H
            have Ny134 := Aside0.mk hy134
            clear hy134
            have H' := Aside0.mk H
            clear H
            go_wp2_with (first | ((with_reducible refine gate_builtin (b := .append) (xs := #[.tmp 58, .tmp 63]) rfl ?_); at_builtin; refine Kd.R_append (Kd.int .i64) (w0 := w) w.heap.size rfl (.tmp 58) (.tmp 63) 50 3 (.int .i64 0) 8 rfl Try.underlying50 info3 rfl (by decide) (by omega) u9 x9_2 (wrap64 ((t101.length : Int) + x10_2)) [.int .i64 (wrap64 ((t101.length : Int) + x10_2))] (fun k_ => some k_ ≠ (v123 : Value).ownBlock) (fun _ => False) rfl rfl ?aP (fun _ hk => hk.elim) ?aF ?aO ?aB ?aS ?aL ?_; (case aP => exact rfl); (case aB => exact (K1 HB GE121.out)); (case aF => exact (fun k_ hk => Kd.fresh' (Kd.R_lt (KR HO_8)) k_ hk)); (case aO => exact (KR HO_9)); (case aS => exact (below_size (K1 HB GE121.out))); (case aL => have := LMc42.out; omega); intro v135 w43 ho hb hg hat; rw [← Ny134.out] at ho; replace HO_3 := am (Kd.R_over' (KR HO_3) (Kd.R_typed (KR HO_9)) (by decide) hg); replace HO_8 := am (Kd.R_after (ok := (fun _ => True)) (by (with_reducible repeat (first | apply Kd.R_alloc | apply Kd.R_drewN | apply Kd.R_drew)); exact Kd.R_mono HO_8.out (fun _ hk => ⟨trivial, hk⟩)) hg hat); replace BK121 := am (blk_grown (g := gb121) (o := .cells #[.int .i64 t117, .int .i64 t118, .int .i64 t119] 60 (0, 0)) (KB BK121) hg (Kd.R_ne HO_9.out BK121.out (by decide))); replace HB := am (hb); have HO136 := am (ho); clear HO_9; clear ho hb hg hat))
            go_roundg k2
            case measure => have := HJ6.out; have := HK2.out; omega
            case rel => exact ⟨(y134), (wrap64 (x10_2 + 1)), (by first | rfl | (simp; done) | (simp [*]; done)), H', ⟨by have := HJ6.out; have := HK2.out; omega⟩, ⟨KR HO_3⟩, ⟨by (with_reducible repeat (first | apply Kd.R_alloc | apply Kd.R_drewN | apply Kd.R_drew)); exact Kd.R_mono HO_8.out (fun _ hk => hk.2)⟩, ⟨KR HO136⟩, ⟨KB BK121⟩, ⟨K1 HB GE121.out⟩⟩
           ·rw [if_neg c42] at H
            exact absurd H (by simp)
          ·rw [if_neg c41] at H
           have c41b0 : decide (x10_2 < (t101.length : Int)) = false := decide_eq_false c41
           clear c41
           by_cases c44 : t120 = true
           ·subst c44
            have H1 : (some false) = some r := by rw [if_pos rfl] at H; exact H
            clear H
            have H := H1
            clear H1
            exact absurd ((Option.some.inj H).trans HR_.out) (by decide)
           ·replace c44 := Bool.eq_false_iff.mpr c44
            subst c44
            have H1 : ((laws_ovInts.f k2 t122 x9_2).bind fun t137 => (some t137)) = some r := by rw [if_neg (show ¬ (false = true) by decide)] at H; exact H
            clear H
            have H := H1
            clear H1
            replace H := Option.bind_eq_some_iff.mp H
            obtain ⟨t137, A450, H⟩ := H
            replace H : (some t137) = some r := H
            have A45 := Aside0.mk A450
            clear A450
            obtain rfl := Option.some.inj H
            obtain ⟨Ao46, co46, eo46⟩ := Kd.R_slice HO_8.out
            subst eo46
            obtain ⟨Ao47, co47, eo47⟩ := Kd.R_slice HO_9.out
            subst eo47
            go_wp2_with (first | (go_at_call 45; (with_reducible refine (laws_ovInts.calls k2 _ _ t122 _ _ x9_2 t137 _ ?side1 ?side2 ?side3 ?side4 A45.out).mono ?_); (case side1 => exact KC (Kd.R_reads' HO_8.out).2.2); (case side2 => exact (Kd.R_reads' HO_8.out).2.1); (case side3 => exact KC (Kd.R_reads' HO_9.out).2.2); (case side4 => exact (Kd.R_reads' HO_9.out).2.1); rintro e w' ⟨rfl, ⟨nd, rfl⟩⟩))
            go_ret
            exact ⟨ER, K1 HB GE121.out⟩
       ·rw [if_neg c30] at H
        exact absurd H (by simp)
   ·rw [if_neg c6] at H
    exact absurd H (by simp)
  ·rw [if_neg c5] at H
   exact absurd H (by simp)
/-- THE ONE PURE STATEMENT of laws_FnRulesTwice: yours. -/
def laws_FnRulesTwice.Pure : Prop := ∀ (l0 : List Int), l0.length ≤ maxLen → l0.length * 1 ≤ 140737488351232 → (∀ x ∈ l0, (Lit.int .u8 x).wf = true) → ∃ k, laws_FnRulesTwice.f k l0 = some true
theorem laws_FnRulesTwice.walk (P : laws_FnRulesTwice.Pure) (a0 : Option Addr) (len0 cap0 : Nat) (z0 : List Int) (w : World) (w0 : (a0 = none ∧ len0 = 0 ∧ cap0 = 0 ∧ z0 = []) ∨ ∃ x, a0 = some x ∧ len0 ≤ cap0 ∧ cap0 ≤ maxLen ∧ z0.length = cap0 ∧ (∀ i, i < z0.length → w.cell? (x.add i) = some (.int .u8 (z0.getD i 0))) ∧ ∀ n ∈ z0, (Lit.int .u8 n).wf = true) (y0 : len0 * 1 ≤ 140737488351232) :
  Calls Try.prog 8 #[.slice a0 len0 cap0] w fun e w' => e = .returned (.bool true) ∧ Below w.heap.size w w' := by
 obtain ⟨l0, rfl, hr0, hm0, hw0, hc0⟩ := ReadsInt.ofRowC w0
 obtain ⟨k, h⟩ := P l0 hm0 y0 hw0
 refine (laws_FnRulesTwice.calls k _ _ l0 true w (Kd.C_of_reads (d := (0 : Int)) (h1 := fun _ => rfl) hr0) hc0 rfl h).mono ?_
 rintro e w' ⟨rfl, hd⟩
 exact ⟨rfl, hd⟩
end Go.Proofs.Ytkgbgaojglcaoaa.PAll
end
