/- Contracts of the functions that the statement reaches, printed by a program out of the translation and joined with the plain laws. -/
import Derived.Test.YtkgbgaojglcaoaaCFnRulesDead3
import Derived.Test.YtkgbgaojglcaoaaCFnRulesDead4
import Derived.Test.YtkgbgaojglcaoaaCFnRulesDead5
import Derived.Test.YtkgbgaojglcaoaaCFnRulesDead7
import Derived.Test.YtkgbgaojglcaoaaCFnRulesDead8
import Derived.Test.YtkgbgaojglcaoaaCFnRulesDead11
import Derived.Test.YtkgbgaojglcaoaaCFnRulesDead12
import Derived.Test.YtkgbgaojglcaoaaCFnRulesDead13
section
namespace Go.Proofs.Ytkgbgaojglcaoaa.PAll
open Go.RowKit Go.Proofs.YtkgbgaojglcaoaaW.PrintWords Go.Proofs.YtkgbgaojglcaoaaW.PrintLast Go.Proofs.YtkgbgaojglcaoaaW.PrintMore
attribute [local go_sem] max2_int min2_int max_two min_two max_three min_three max_four min_four   -- for this text's walks alone
set_option linter.unusedVariables false
set_option linter.unusedSimpArgs false
mutual
def laws_FnRulesDead.j0 : Nat → List Int → List Int → Bool → Option (Bool)
 | 0, _, _, _ => none
 | k + 1, x0, x1, x21 => if x21 = true then (some true) else ((spec_DrawRulesDead.f k x0).bind fun t101 => ((impl_RulesDead.f k t101).bind fun t104 => ((spec_RulesDead.f k t101).bind fun t107 => ((laws_ovInts.f k t104 t107).bind fun t110 => (if t110 = true then ((spec_RulesOk.f k t101).bind fun t111 => (laws_FnRulesDead.j1 k x1 t101 t104 (!t111))) else (laws_FnRulesDead.j1 k x1 t101 t104 true))))))
def laws_FnRulesDead.j1 : Nat → List Int → List (S71) → List Int → Bool → Option (Bool)
 | 0, _, _, _, _ => none
 | k + 1, x1, x5, x6, x35 => if x35 = true then ((spec_RulesDead.f k x5).bind fun t112 => ((laws_ovInts.f k x6 t112).bind fun t115 => (some t115))) else ((spec_DrawRulesFirst.f k x1).bind fun bt116 => ((impl_RulesFirst.f k x5 bt116.2.1 bt116.2.2.1 bt116.2.2.2).bind fun t123 => (laws_FnRulesDead.l0 k x5 x6 t123 0)))
def laws_FnRulesDead.l0 : Nat → List (S71) → List Int → Int → Int → Option (Bool)
 | 0, _, _, _, _ => none
 | k + 1, x5, x6, x9, x10 => if x10 < (x6.length : Int) then ((some (([] : List (S71)) : List (S71))).bind fun y124 => (if 0 ≤ x10 then (if 0 ≤ (rd x6 x10) then (if (rd x6 x10) ≤ (x5.length : Int) then ((some (x5.take ((rd x6 x10) : Int).toNat : List (S71))).bind fun y128 => (if y124.length + y128.length < 2199023255552 then ((some (y124 ++ y128 : List (S71))).bind fun y132 => (if 0 ≤ (wrap64 ((rd x6 x10) + 1)) then (if (wrap64 ((rd x6 x10) + 1)) ≤ (x5.length : Int) then ((some (x5.drop ((wrap64 ((rd x6 x10) + 1)) : Int).toNat : List (S71))).bind fun y136 => (if y132.length + y136.length < 2199023255552 then ((impl_RulesDiffer.f k x5 (y132 ++ y136)).bind fun bt143 => (if (rd x6 x10) = x9 then (some false) else (if bt143.2.2.2 = true then (some false) else (if x10 > 0 then (if 0 ≤ (wrap64 (x10 - 1)) then (if (wrap64 (x10 - 1)) < (x6.length : Int) then (if (rd x6 (wrap64 (x10 - 1))) ≥ (rd x6 x10) then (some false) else (laws_FnRulesDead.l0 k x5 x6 x9 (wrap64 (x10 + 1)))) else (none)) else (none)) else (laws_FnRulesDead.l0 k x5 x6 x9 (wrap64 (x10 + 1))))))) else (none))) else (none)) else (none))) else (none))) else (none)) else (none)) else (none))) else ((impl_RulesDead.f k ([] : List (S71))).bind fun t151 => (some ((t151.length : Int) == 0)))
end
def laws_FnRulesDead.f (k : Nat) (l0 : List Int) (l1 : List Int) : Option (Bool) := if (l0.length : Int) > 1048576 then (laws_FnRulesDead.j0 k l0 l1 true) else (laws_FnRulesDead.j0 k l0 l1 (decide ((l1.length : Int) > 1048576)))
def laws_FnRulesDead.T12 : Bool × List (List Nat × List Nat) := (true, [([], []), ([], []), ([], []), ([], []), ([2, 3], [2, 3]), ([4], [4]), ([1, 5], [1, 5]), ([0, 6], [0, 6]), ([], []), ([], []), ([], []), ([9, 10], [9, 10]), ([11], [11]), ([12], [12]), ([8, 13], [8, 13]), ([7, 14, 7], [7, 14]), ([15, 15, 0, 1, 2, 3, 4, 5, 6, 7, 8, 9, 10, 11, 12, 13, 14, 15], [15])])
def laws_FnRulesDead.B12 : List Nat := [0, 0, 0, 0, 12, 28, 62, 127, 0, 0, 0, 1536, 3584, 7680, 16128, 32767, 65535]
theorem laws_FnRulesDead.tab12 : rtab .any (opsOf Try.f10 12) = laws_FnRulesDead.T12 := by kernel_rfl
theorem laws_FnRulesDead.bits12 : waitsOk laws_FnRulesDead.T12.2 laws_FnRulesDead.B12 = true := by kernel_rfl
def laws_FnRulesDead.T14 : Bool × List (List Nat × List Nat) := (true, [([], []), ([], []), ([0, 1], [0, 1]), ([2], [2]), ([], []), ([3, 4], [3, 4]), ([5], [5]), ([6], [6]), ([6, 7], [6, 7]), ([8, 6], [8]), ([9], [9]), ([10, 9], [9, 10]), ([11, 9, 9], [9, 11]), ([12], [12]), ([12], [12]), ([14, 12], [12, 14]), ([13, 15, 12], [12, 13, 15]), ([16, 12], [12, 16]), ([12], [12]), ([12], [12]), ([18, 19, 12], [12, 18, 19]), ([20, 12], [12, 20]), ([17, 21, 12], [12, 17, 21]), ([12, 22, 9], [9, 12, 22]), ([9, 23], [9, 23])])
def laws_FnRulesDead.B14 : List Nat := [0, 0, 3, 7, 0, 31, 63, 127, 255, 511, 1023, 2047, 4095, 8191, 8191, 24575, 65535, 131071, 8191, 8191, 794623, 1843199, 4194303, 8388607, 16777215]
theorem laws_FnRulesDead.tab14 : rtab .any (opsOf Try.f10 14) = laws_FnRulesDead.T14 := by kernel_rfl
theorem laws_FnRulesDead.bits14 : waitsOk laws_FnRulesDead.T14.2 laws_FnRulesDead.B14 = true := by kernel_rfl
set_option maxHeartbeats 8000000 in
set_option maxRecDepth 100000 in
theorem laws_FnRulesDead.calls (k : Nat) (A0 : Option Addr) (c0 : Nat) (l0 : List Int) (A1 : Option Addr) (c1 : Nat) (l1 : List Int) (r : Bool) (w : World) (hr0 : Kd.C (Kd.int .u8) w A0 l0.length l0) (hc0 : l0.length ≤ c0) (hr1 : Kd.C (Kd.int .u8) w A1 l1.length l1) (hc1 : l1.length ≤ c1) (hr0_ : r = true) (h : laws_FnRulesDead.f k l0 l1 = some r) :
  Calls Try.prog 10 #[.slice A0 l0.length c0, .slice A1 l1.length c1] w fun e w' => e = .returned (.bool r) ∧ Below w.heap.size w w' := by
 have hu60 := Try.underlying60
 have HR0 := Aside0.mk hr0
 have HC0 := Aside0.mk hc0
 clear hr0 hc0
 have HR1 := Aside0.mk hr1
 have HC1 := Aside0.mk hc1
 clear hr1 hc1
 have HB := am (Below.refl w.heap.size w)
 have H : (if (l0.length : Int) > 1048576 then (laws_FnRulesDead.j0 k l0 l1 true) else (laws_FnRulesDead.j0 k l0 l1 (decide ((l1.length : Int) > 1048576)))) = some r := h
 clear h
 have HR_ := Aside0.mk hr0_
 clear hr0_
 have HC3 := Aside0.mk H
 clear H
 go_enter Try.func10, Try.ntmps10
 go_upto_region 1 with (fail)
 go_cut [21] (fun v21 wc => ∃ (kq : Nat) (x21_2 : Bool), v21 = .bool x21_2 ∧ Aside0 (laws_FnRulesDead.j0 kq l0 l1 x21_2 = some r) ∧ Aside0 (kq ≤ k) ∧ Aside0 (Below w.heap.size w wc))
 case first =>
  have H := HC3.out
  clear HC3
  by_cases c4 : (l0.length : Int) > 1048576
  ·rw [if_pos c4] at H
   have c4b0 : decide (1048576 < (l0.length : Int)) = true := decide_eq_true c4
   have c4b1 : decide (1048576 < l0.length) = true := decide_eq_true (by omega)
   clear c4
   (first | rw [c4b0] | (simp only [i64_w, i32_w]; rw [c4b0]) | skip)
   have H' := Aside0.mk H
   clear H
   go_wp2
   go_meet
   case rel => exact ⟨_, (true), (by first | rfl | (simp; done) | (simp [*]; done)), H', ⟨by first | omega | exact Nat.le_refl _⟩, ⟨KL HB⟩⟩
  ·rw [if_neg c4] at H
   have c4b0 : decide (1048576 < (l0.length : Int)) = false := decide_eq_false c4
   have c4b1 : decide (1048576 < l0.length) = false := decide_eq_false (by omega)
   clear c4
   (first | rw [c4b0] | (simp only [i64_w, i32_w]; rw [c4b0]) | skip)
   have H' := Aside0.mk H
   clear H
   go_wp2
   go_meet
   case rel => exact ⟨_, (decide ((l1.length : Int) > 1048576)), (by first | rfl | (simp; done) | (simp [*]; done)), H', ⟨by first | omega | exact Nat.le_refl _⟩, ⟨KL HB⟩⟩
 case rest =>
  clear HC3
  try clear c1
  try clear p2
  try clear c4
  try clear c4b0
  try clear c4b1
  obtain ⟨kq, x21_2, rfl, HA, HJ2, HB⟩ := hcut
  cases kq with
  | zero => exact absurd HA.out (by simp [laws_FnRulesDead.j0])
  | succ kj2 =>
   have H := HA.out
   clear HA
   simp only [laws_FnRulesDead.j0] at H
   by_cases c5 : x21_2 = true
   ·subst c5
    have H1 : (some true) = some r := by rw [if_pos rfl] at H; exact H
    clear H
    have H := H1
    clear H1
    obtain rfl := Option.some.inj H
    go_wp2
    go_ret
    exact ⟨ER, KL HB⟩
   ·replace c5 := Bool.eq_false_iff.mpr c5
    subst c5
    have H1 : ((spec_DrawRulesDead.f kj2 l0).bind fun t101 => ((impl_RulesDead.f kj2 t101).bind fun t104 => ((spec_RulesDead.f kj2 t101).bind fun t107 => ((laws_ovInts.f kj2 t104 t107).bind fun t110 => (if t110 = true then ((spec_RulesOk.f kj2 t101).bind fun t111 => (laws_FnRulesDead.j1 kj2 l1 t101 t104 (!t111))) else (laws_FnRulesDead.j1 kj2 l1 t101 t104 true)))))) = some r := by rw [if_neg (show ¬ (false = true) by decide)] at H; exact H
    clear H
    have H := H1
    clear H1
    replace H := Option.bind_eq_some_iff.mp H
    obtain ⟨t101, A60, H⟩ := H
    replace H : ((impl_RulesDead.f kj2 t101).bind fun t104 => ((spec_RulesDead.f kj2 t101).bind fun t107 => ((laws_ovInts.f kj2 t104 t107).bind fun t110 => (if t110 = true then ((spec_RulesOk.f kj2 t101).bind fun t111 => (laws_FnRulesDead.j1 kj2 l1 t101 t104 (!t111))) else (laws_FnRulesDead.j1 kj2 l1 t101 t104 true))))) = some r := H
    have A6 := Aside0.mk A60
    clear A60
    replace H := Option.bind_eq_some_iff.mp H
    obtain ⟨t104, A70, H⟩ := H
    replace H : ((spec_RulesDead.f kj2 t101).bind fun t107 => ((laws_ovInts.f kj2 t104 t107).bind fun t110 => (if t110 = true then ((spec_RulesOk.f kj2 t101).bind fun t111 => (laws_FnRulesDead.j1 kj2 l1 t101 t104 (!t111))) else (laws_FnRulesDead.j1 kj2 l1 t101 t104 true)))) = some r := H
    have A7 := Aside0.mk A70
    clear A70
    have HC8 := Aside0.mk H
    clear H
    go_upto_region 5 with (first | ((with_reducible refine gate_callee (f := 49) rfl ?_); refine goesL_ (some 23) rfl rfl Try.func49 (by kernel_rfl) rfl #[.slice A0 l0.length c0] rfl MT ?_; (with_reducible refine (spec_DrawRulesDead.calls kj2 _ _ l0 t101 _ ?side1 ?side2 A6.out).mono ?_); (case side1 => exact KD HR0 HB); (case side2 => exact HC0.out); rintro e w9 ⟨v102, rfl, ho0, hb⟩; refine ⟨_, rfl, ?_⟩; have HO103 := am (Kd.R_lower ho0 (below_size (KL HB))); replace HB := am (below_step (KL HB) hb); (try clear hb); (try clear ho0); obtain ⟨Ao10, co10, eo10⟩ := Kd.R_slice HO103.out; subst eo10) | ((with_reducible refine gate_callee (f := 33) rfl ?_); refine goesL_ (some 25) rfl rfl Try.func33 (by kernel_rfl) rfl #[.slice Ao10 t101.length co10] rfl MT ?_; (with_reducible refine (impl_RulesDead.calls kj2 _ _ t101 t104 _ ?side1 ?side2 A7.out).mono ?_); (case side1 => exact KC (Kd.R_reads' HO103.out).2.2); (case side2 => exact (Kd.R_reads' HO103.out).2.1); rintro e w11 ⟨v105, rfl, ho0, hb⟩; refine ⟨_, rfl, ?_⟩; replace HO103 := am (Kd.R_below (KR HO103) hb); have HO106 := am (Kd.R_lower ho0 (below_size (KL HB))); replace HB := am (below_step (KL HB) hb); (try clear hb); (try clear ho0)))
    (try simp only [Act.put, List.setIfInBounds_toArray, List.set_cons_zero, List.set_cons_succ])
    go_cut [35] (fun v35 wc => ∃ (kq : Nat) (x35_7 : Bool), v35 = .bool x35_7 ∧ Aside0 (laws_FnRulesDead.j1 kq l1 t101 t104 x35_7 = some r) ∧ Aside0 (kq ≤ kj2) ∧ Aside0 (Kd.R k71 71 wc w.heap.size (fun _ => True) (.slice Ao10 t101.length co10) t101) ∧ Aside0 (Kd.R (Kd.int .i64) 3 wc w.heap.size (fun _ => True) v105 t104) ∧ Aside0 (Below w.heap.size w wc))
    case first =>
     have H := HC8.out
     clear HC8
     replace H := Option.bind_eq_some_iff.mp H
     obtain ⟨t107, A120, H⟩ := H
     replace H : ((laws_ovInts.f kj2 t104 t107).bind fun t110 => (if t110 = true then ((spec_RulesOk.f kj2 t101).bind fun t111 => (laws_FnRulesDead.j1 kj2 l1 t101 t104 (!t111))) else (laws_FnRulesDead.j1 kj2 l1 t101 t104 true))) = some r := H
     have A12 := Aside0.mk A120
     clear A120
     replace H := Option.bind_eq_some_iff.mp H
     obtain ⟨t110, A130, H⟩ := H
     replace H : (if t110 = true then ((spec_RulesOk.f kj2 t101).bind fun t111 => (laws_FnRulesDead.j1 kj2 l1 t101 t104 (!t111))) else (laws_FnRulesDead.j1 kj2 l1 t101 t104 true)) = some r := H
     have A13 := Aside0.mk A130
     clear A130
     by_cases c14 : t110 = true
     ·subst c14
      have H1 : ((spec_RulesOk.f kj2 t101).bind fun t111 => (laws_FnRulesDead.j1 kj2 l1 t101 t104 (!t111))) = some r := by rw [if_pos rfl] at H; exact H
      clear H
      have H := H1
      clear H1
      replace H := Option.bind_eq_some_iff.mp H
      obtain ⟨t111, A150, H⟩ := H
      replace H : (laws_FnRulesDead.j1 kj2 l1 t101 t104 (!t111)) = some r := H
      have A15 := Aside0.mk A150
      clear A150
      have H' := Aside0.mk H
      clear H
      go_wp2_with (first | ((with_reducible refine gate_callee (f := 31) rfl ?_); refine goesL_ (some 28) rfl rfl Try.func31 (by kernel_rfl) rfl #[.slice Ao10 t101.length co10] rfl MT ?_; (with_reducible refine (spec_RulesDead.calls kj2 _ _ t101 t107 _ ?side1 ?side2 A12.out).mono ?_); (case side1 => exact KC (Kd.R_reads' HO103.out).2.2); (case side2 => exact (Kd.R_reads' HO103.out).2.1); rintro e w16 ⟨v108, rfl, ho0, hb⟩; refine ⟨_, rfl, ?_⟩; replace HO103 := am (Kd.R_below (KR HO103) hb); have HO109 := am (Kd.R_lower (Kd.R_new' ho0 (Kd.R_lt (KR HO106))) (below_size (KL HB))); replace HO106 := am (Kd.R_elder' (KR HO106) (Kd.R_base ho0) hb); replace HB := am (below_step (KL HB) hb); (try clear hb); (try clear ho0); obtain ⟨Ao17, co17, eo17⟩ := Kd.R_slice HO106.out; subst eo17; obtain ⟨Ao18, co18, eo18⟩ := Kd.R_slice HO109.out; subst eo18) | ((with_reducible refine gate_callee (f := 45) rfl ?_); refine goesL_ (some 29) rfl rfl Try.func45 (by kernel_rfl) rfl #[.slice Ao17 t104.length co17, .slice Ao18 t107.length co18] rfl MT ?_; (with_reducible refine (laws_ovInts.calls kj2 _ _ t104 _ _ t107 true _ ?side1 ?side2 ?side3 ?side4 A13.out).mono ?_); (case side1 => exact KC (Kd.R_reads' HO106.out).2.2); (case side2 => exact (Kd.R_reads' HO106.out).2.1); (case side3 => exact KC (Kd.R_reads' HO109.out).2.2); (case side4 => exact (Kd.R_reads' HO109.out).2.1); rintro e w' ⟨rfl, ⟨nd, rfl⟩⟩; refine ⟨_, rfl, ?_⟩) | (go_at_call 44; (with_reducible refine (spec_RulesOk.calls kj2 _ _ t101 t111 _ ?side1 ?side2 A15.out).mono ?_); (case side1 => exact KC (Kd.R_reads' HO103.out).2.2); (case side2 => exact (Kd.R_reads' HO103.out).2.1); rintro e w19 ⟨rfl, hb⟩; replace HO103 := am (Kd.R_below (KR HO103) hb); replace HO106 := am (Kd.R_below (KR HO106) hb); replace HO109 := am (Kd.R_below (KR HO109) hb); replace HB := am (below_step (KL HB) hb); (try clear hb)))
      go_meet
      case rel => exact ⟨_, (!t111), (by first | rfl | (simp; done) | (simp [*]; done)), H', ⟨by have := HJ2.out; first | omega | exact Nat.le_refl _⟩, ⟨KR HO103⟩, ⟨by (with_reducible repeat (first | apply Kd.R_alloc | apply Kd.R_drewN | apply Kd.R_drew)); exact Kd.R_mono HO106.out (fun _ hk => trivial)⟩, ⟨KL HB⟩⟩
     ·replace c14 := Bool.eq_false_iff.mpr c14
      subst c14
      have H1 : (laws_FnRulesDead.j1 kj2 l1 t101 t104 true) = some r := by rw [if_neg (show ¬ (false = true) by decide)] at H; exact H
      clear H
      have H := H1
      clear H1
      have H' := Aside0.mk H
      clear H
      go_wp2_with (first | ((with_reducible refine gate_callee (f := 31) rfl ?_); refine goesL_ (some 28) rfl rfl Try.func31 (by kernel_rfl) rfl #[.slice Ao10 t101.length co10] rfl MT ?_; (with_reducible refine (spec_RulesDead.calls kj2 _ _ t101 t107 _ ?side1 ?side2 A12.out).mono ?_); (case side1 => exact KC (Kd.R_reads' HO103.out).2.2); (case side2 => exact (Kd.R_reads' HO103.out).2.1); rintro e w20 ⟨v108, rfl, ho0, hb⟩; refine ⟨_, rfl, ?_⟩; replace HO103 := am (Kd.R_below (KR HO103) hb); have HO109 := am (Kd.R_lower (Kd.R_new' ho0 (Kd.R_lt (KR HO106))) (below_size (KL HB))); replace HO106 := am (Kd.R_elder' (KR HO106) (Kd.R_base ho0) hb); replace HB := am (below_step (KL HB) hb); (try clear hb); (try clear ho0); obtain ⟨Ao21, co21, eo21⟩ := Kd.R_slice HO106.out; subst eo21; obtain ⟨Ao22, co22, eo22⟩ := Kd.R_slice HO109.out; subst eo22) | ((with_reducible refine gate_callee (f := 45) rfl ?_); refine goesL_ (some 29) rfl rfl Try.func45 (by kernel_rfl) rfl #[.slice Ao21 t104.length co21, .slice Ao22 t107.length co22] rfl MT ?_; (with_reducible refine (laws_ovInts.calls kj2 _ _ t104 _ _ t107 false _ ?side1 ?side2 ?side3 ?side4 A13.out).mono ?_); (case side1 => exact KC (Kd.R_reads' HO106.out).2.2); (case side2 => exact (Kd.R_reads' HO106.out).2.1); (case side3 => exact KC (Kd.R_reads' HO109.out).2.2); (case side4 => exact (Kd.R_reads' HO109.out).2.1); rintro e w' ⟨rfl, ⟨nd, rfl⟩⟩; refine ⟨_, rfl, ?_⟩))
      go_meet
      case rel => exact ⟨_, (true), (by first | rfl | (simp; done) | (simp [*]; done)), H', ⟨by have := HJ2.out; first | omega | exact Nat.le_refl _⟩, ⟨KR HO103⟩, ⟨by (with_reducible repeat (first | apply Kd.R_alloc | apply Kd.R_drewN | apply Kd.R_drew)); exact Kd.R_mono HO106.out (fun _ hk => trivial)⟩, ⟨KL HB⟩⟩
    case rest =>
     clear HC8
     try clear c1
     try clear p2
     try clear c3
     try clear c4
     try clear c4b0
     try clear c4b1
     try clear c5
     try clear c10
     try clear c14
     try clear p2
     obtain ⟨kq, x35_7, rfl, HA, HJ7, HO_5, HO_6, HB⟩ := hcut
     cases kq with
     | zero => exact absurd HA.out (by simp [laws_FnRulesDead.j1])
     | succ kj7 =>
      have H := HA.out
      clear HA
      simp only [laws_FnRulesDead.j1] at H
      by_cases c23 : x35_7 = true
      ·subst c23
       have H1 : ((spec_RulesDead.f kj7 t101).bind fun t112 => ((laws_ovInts.f kj7 t104 t112).bind fun t115 => (some t115))) = some r := by rw [if_pos rfl] at H; exact H
       clear H
       have H := H1
       clear H1
       replace H := Option.bind_eq_some_iff.mp H
       obtain ⟨t112, A240, H⟩ := H
       replace H : ((laws_ovInts.f kj7 t104 t112).bind fun t115 => (some t115)) = some r := H
       have A24 := Aside0.mk A240
       clear A240
       replace H := Option.bind_eq_some_iff.mp H
       obtain ⟨t115, A250, H⟩ := H
       replace H : (some t115) = some r := H
       have A25 := Aside0.mk A250
       clear A250
       obtain rfl := Option.some.inj H
       go_wp2_with (first | ((with_reducible refine gate_callee (f := 31) rfl ?_); refine goesL_ (some 38) rfl rfl Try.func31 (by kernel_rfl) rfl #[.slice Ao10 t101.length co10] rfl MT ?_; (with_reducible refine (spec_RulesDead.calls kj7 _ _ t101 t112 _ ?side1 ?side2 A24.out).mono ?_); (case side1 => exact KC (Kd.R_reads' HO_5.out).2.2); (case side2 => exact (Kd.R_reads' HO_5.out).2.1); rintro e w26 ⟨v113, rfl, ho0, hb⟩; refine ⟨_, rfl, ?_⟩; replace HO_5 := am (Kd.R_below (KR HO_5) hb); have HO114 := am (Kd.R_lower (Kd.R_new' ho0 (Kd.R_lt (KR HO_6))) (below_size (KL HB))); replace HO_6 := am (Kd.R_elder' (KR HO_6) (Kd.R_base ho0) hb); replace HB := am (below_step (KL HB) hb); (try clear hb); (try clear ho0); obtain ⟨Ao27, co27, eo27⟩ := Kd.R_slice HO_6.out; subst eo27; obtain ⟨Ao28, co28, eo28⟩ := Kd.R_slice HO114.out; subst eo28) | ((with_reducible refine gate_callee (f := 45) rfl ?_); refine goesL_ (some 39) rfl rfl Try.func45 (by kernel_rfl) rfl #[.slice Ao27 t104.length co27, .slice Ao28 t112.length co28] rfl MT ?_; (with_reducible refine (laws_ovInts.calls kj7 _ _ t104 _ _ t112 t115 _ ?side1 ?side2 ?side3 ?side4 A25.out).mono ?_); (case side1 => exact KC (Kd.R_reads' HO_6.out).2.2); (case side2 => exact (Kd.R_reads' HO_6.out).2.1); (case side3 => exact KC (Kd.R_reads' HO114.out).2.2); (case side4 => exact (Kd.R_reads' HO114.out).2.1); rintro e w' ⟨rfl, ⟨nd, rfl⟩⟩; refine ⟨_, rfl, ?_⟩))
       go_ret
       exact ⟨ER, KL HB⟩
      ·replace c23 := Bool.eq_false_iff.mpr c23
       subst c23
       have H1 : ((spec_DrawRulesFirst.f kj7 l1).bind fun bt116 => ((impl_RulesFirst.f kj7 t101 bt116.2.1 bt116.2.2.1 bt116.2.2.2).bind fun t123 => (laws_FnRulesDead.l0 kj7 t101 t104 t123 0))) = some r := by rw [if_neg (show ¬ (false = true) by decide)] at H; exact H
       clear H
       have H := H1
       clear H1
       replace H := Option.bind_eq_some_iff.mp H
       obtain ⟨⟨t116, t119, t120, t121⟩, A290, H⟩ := H
       replace H : ((impl_RulesFirst.f kj7 t101 t119 t120 t121).bind fun t123 => (laws_FnRulesDead.l0 kj7 t101 t104 t123 0)) = some r := H
       have A29 := Aside0.mk A290
       clear A290
       replace H := Option.bind_eq_some_iff.mp H
       obtain ⟨t123, A300, H⟩ := H
       replace H : (laws_FnRulesDead.l0 kj7 t101 t104 t123 0) = some r := H
       have A30 := Aside0.mk A300
       clear A300
       have H' := Aside0.mk H
       clear H
       go_wp2_with (first | ((with_reducible refine gate_callee (f := 46) rfl ?_); refine goesL_ (some 42) rfl rfl Try.func46 (by kernel_rfl) rfl #[.slice A1 l1.length c1] rfl MT ?_; (with_reducible refine (spec_DrawRulesFirst.calls kj7 _ _ l1 t116 t119 t120 t121 _ ?side1 ?side2 A29.out).mono ?_); (case side1 => exact KD HR1 HB); (case side2 => exact HC1.out); rintro e w31 ⟨v117, rfl, ho0, hb⟩; refine ⟨_, rfl, ?_⟩; replace HO_6 := am (Kd.R_below (KR HO_6) hb); have HO118 := am (Kd.R_lower (Kd.R_new' ho0 (Kd.R_lt (KR HO_5))) (below_size (KL HB))); replace HO_5 := am (Kd.R_elder' (KR HO_5) (Kd.R_base ho0) hb); replace HB := am (below_step (KL HB) hb); (try clear hb); (try clear ho0)) | ((with_reducible refine gate_dst (N := 8) rfl ?_); (try (refine gate_guard (by rfl) ?_; dsimp only)); refine box_event rfl (N := 8) rfl (cs := #[.int .i64 0, .int .i64 0, .int .i64 0]) (t := 60) BX ?_; intro gb122 hg w32 hbox hb; replace HO_5 := am (Kd.R_below (KR HO_5) hb); replace HO_6 := am (Kd.R_below (KR HO_6) hb); replace HO118 := am (Kd.R_below (KR HO118) hb); have BK122 := am (hbox); have GW122 := am (GH HB hg); have GE122 := GW122; replace HB := am (below_step (KL HB) hb); clear hb hbox hg; obtain ⟨hcz33_0, hcz33_1, hcz33_2, hfz33_0⟩ := y3 w32 BK122.out) | ((with_reducible refine gate_callee (f := 47) rfl ?_); refine goesL_ (some 47) rfl rfl Try.func47 (by kernel_rfl) rfl #[.slice Ao10 t101.length co10, .agg #[.int .i64 t119, .int .i64 t120, .int .i64 t121]] rfl MT ?_; (with_reducible refine (impl_RulesFirst.calls kj7 _ _ t101 t119 t120 t121 t123 _ ?side1 ?side2 A30.out).mono ?_); (case side1 => refine (Kd.R_reads' (e := 71) (base := w.heap.size) (ok := fun k_ => (True ∧ some k_ ≠ (v117 : Value).ownBlock)) (n := t101.length) (c := co10) ?_).2.2; exact (by (with_reducible repeat (first | apply Kd.R_alloc | apply Kd.R_drewN | apply Kd.R_drew)); exact (RF HO_5.out BK122.out))); (case side2 => exact (Kd.R_reads' HO_5.out).2.1); rintro e w34 ⟨rfl, hb⟩; refine ⟨_, rfl, ?_⟩; replace HO_5 := am (Kd.R_below (by (with_reducible repeat (first | apply Kd.R_alloc | apply Kd.R_drewN | apply Kd.R_drew)); exact (RF HO_5.out BK122.out)) hb); replace HO_6 := am (Kd.R_below (by (with_reducible repeat (first | apply Kd.R_alloc | apply Kd.R_drewN | apply Kd.R_drew)); exact (RF HO_6.out BK122.out)) hb); replace HO118 := am (Kd.R_below (by (with_reducible repeat (first | apply Kd.R_alloc | apply Kd.R_drewN | apply Kd.R_drew)); exact (RF HO118.out BK122.out)) hb); replace BK122 := am (blk_below (g := gb122) (o := .cells #[.int .i64 t119, .int .i64 t120, .int .i64 t121] 60 (0, 0)) (by (with_reducible repeat (first | refine blk_drewN ?_ _ | refine blk_drew ?_ | refine blk_alloc ?_ _)); refine blk_put (cs := #[.int .i64 t119, .int .i64 t120, .int .i64 0]) ?_ 2 _ rfl; (with_reducible repeat (first | refine blk_drewN ?_ _ | refine blk_drew ?_ | refine blk_alloc ?_ _)); refine blk_put (cs := #[.int .i64 t119, .int .i64 0, .int .i64 0]) ?_ 1 _ rfl; (with_reducible repeat (first | refine blk_drewN ?_ _ | refine blk_drew ?_ | refine blk_alloc ?_ _)); refine blk_put (cs := #[.int .i64 0, .int .i64 0, .int .i64 0]) ?_ 0 _ rfl; (with_reducible repeat (first | refine blk_drewN ?_ _ | refine blk_drew ?_ | refine blk_alloc ?_ _)); exact BK122.out) hb); replace HB := am (below_step (K1 HB GE122.out) hb); (try clear hb); (try clear hb2); (try clear hk); (try clear hi)))
       go_loopg [10] kj7 (fun kq v10 w' => ∃ (x10_3 : Int), v10 = .int .i64 x10_3 ∧ Aside0 (laws_FnRulesDead.l0 kq t101 t104 t123 x10_3 = some r) ∧ Aside0 (kq ≤ kj7) ∧ Aside0 (Kd.R k71 71 w' w.heap.size (fun _ => True) (.slice Ao10 t101.length co10) t101) ∧ Aside0 (Kd.R (Kd.int .i64) 3 w' w.heap.size (fun _ => True) v105 t104) ∧ Aside0 (w'.heap[gb122]? = some (.cells #[.int .i64 t119, .int .i64 t120, .int .i64 t121] 60 (0, 0))) ∧ Aside0 (Below w.heap.size w w'))
       case atStart => exact ⟨(0), (by first | rfl | (simp; done) | (simp [*]; done)), H', ⟨Nat.le_refl _⟩, ⟨by (with_reducible repeat (first | apply Kd.R_alloc | apply Kd.R_drewN | apply Kd.R_drew)); exact Kd.R_mono HO_5.out (fun _ hk => trivial)⟩, ⟨KR HO_6⟩, ⟨KB BK122⟩, ⟨K1 HB GE122.out⟩⟩
       case round =>
        clear H'
        try clear c1
        try clear c2
        try clear p2
        try clear c3
        try clear c4
        try clear c4b0
        try clear c4b1
        try clear c5
        try clear c10
        try clear c14
        try clear c23
        try clear c31
        try clear c33
        try clear hcz33_0 hcz33_1 hcz33_2 hfz33_0
        try clear p2
        obtain ⟨x10_3, rfl, HA, HK3, HO_5, HO_6, BK122, HB⟩ := hrel
        cases gk with
        | zero => exact absurd HA.out (by simp [laws_FnRulesDead.l0])
        | succ k3 =>
         have H := HA.out
         clear HA
         simp only [laws_FnRulesDead.l0] at H
         by_cases c35 : x10_3 < (t104.length : Int)
         ·rw [if_pos c35] at H
          have c35b0 : decide (x10_3 < (t104.length : Int)) = true := decide_eq_true c35
          clear c35
          obtain ⟨y124, hy124⟩ : ∃ y_ : List (S71), y_ = (([] : List (S71))) := ⟨_, rfl⟩
          replace H : (if 0 ≤ x10_3 then (if 0 ≤ (rd t104 x10_3) then (if (rd t104 x10_3) ≤ (t101.length : Int) then ((some (t101.take ((rd t104 x10_3) : Int).toNat : List (S71))).bind fun y128 => (if y124.length + y128.length < 2199023255552 then ((some (y124 ++ y128 : List (S71))).bind fun y132 => (if 0 ≤ (wrap64 ((rd t104 x10_3) + 1)) then (if (wrap64 ((rd t104 x10_3) + 1)) ≤ (t101.length : Int) then ((some (t101.drop ((wrap64 ((rd t104 x10_3) + 1)) : Int).toNat : List (S71))).bind fun y136 => (if y132.length + y136.length < 2199023255552 then ((impl_RulesDiffer.f k3 t101 (y132 ++ y136)).bind fun bt143 => (if (rd t104 x10_3) = t123 then (some false) else (if bt143.2.2.2 = true then (some false) else (if x10_3 > 0 then (if 0 ≤ (wrap64 (x10_3 - 1)) then (if (wrap64 (x10_3 - 1)) < (t104.length : Int) then (if (rd t104 (wrap64 (x10_3 - 1))) ≥ (rd t104 x10_3) then (some false) else (laws_FnRulesDead.l0 k3 t101 t104 t123 (wrap64 (x10_3 + 1)))) else (none)) else (none)) else (laws_FnRulesDead.l0 k3 t101 t104 t123 (wrap64 (x10_3 + 1))))))) else (none))) else (none)) else (none))) else (none))) else (none)) else (none)) else (none)) = some r := by first | (rw [hy124]; with_reducible exact H) | (have H2_ := (Option.bind_some _ _).symm.trans H; rw [hy124]; with_reducible exact H2_) | (have H2_ := (Option.bind_some _ _).symm.trans H; with_reducible exact H2_) | with_reducible exact H | (rw [hy124]; exact H) | exact H
          have Ny124 := Aside0.mk hy124
          clear hy124
          by_cases c36 : 0 ≤ x10_3
          ·rw [if_pos c36] at H
           have c36b0 : decide (0 ≤ x10_3) = true := decide_eq_true c36
           clear c36
           by_cases c37 : 0 ≤ (rd t104 x10_3)
           ·rw [if_pos c37] at H
            have c37b0 := eq_true c37
            have c37b1 : decide (0 ≤ (rd t104 x10_3)) = true := decide_eq_true c37
            clear c37
            by_cases c38 : (rd t104 x10_3) ≤ (t101.length : Int)
            ·rw [if_pos c38] at H
             have c38b0 := eq_true c38
             have c38b1 : decide ((rd t104 x10_3) ≤ (t101.length : Int)) = true := decide_eq_true c38
             clear c38
             obtain ⟨y128, hy128⟩ : ∃ y_ : List (S71), y_ = (t101.take ((rd t104 x10_3) : Int).toNat) := ⟨_, rfl⟩
             replace H : (if y124.length + y128.length < 2199023255552 then ((some (y124 ++ y128 : List (S71))).bind fun y132 => (if 0 ≤ (wrap64 ((rd t104 x10_3) + 1)) then (if (wrap64 ((rd t104 x10_3) + 1)) ≤ (t101.length : Int) then ((some (t101.drop ((wrap64 ((rd t104 x10_3) + 1)) : Int).toNat : List (S71))).bind fun y136 => (if y132.length + y136.length < 2199023255552 then ((impl_RulesDiffer.f k3 t101 (y132 ++ y136)).bind fun bt143 => (if (rd t104 x10_3) = t123 then (some false) else (if bt143.2.2.2 = true then (some false) else (if x10_3 > 0 then (if 0 ≤ (wrap64 (x10_3 - 1)) then (if (wrap64 (x10_3 - 1)) < (t104.length : Int) then (if (rd t104 (wrap64 (x10_3 - 1))) ≥ (rd t104 x10_3) then (some false) else (laws_FnRulesDead.l0 k3 t101 t104 t123 (wrap64 (x10_3 + 1)))) else (none)) else (none)) else (laws_FnRulesDead.l0 k3 t101 t104 t123 (wrap64 (x10_3 + 1))))))) else (none))) else (none)) else (none))) else (none)) = some r := by first | (rw [hy128]; with_reducible exact H) | (have H2_ := (Option.bind_some _ _).symm.trans H; rw [hy128]; with_reducible exact H2_) | (have H2_ := (Option.bind_some _ _).symm.trans H; with_reducible exact H2_) | with_reducible exact H | (rw [hy128]; exact H) | exact H
             have Ny128 := Aside0.mk hy128
             clear hy128
             by_cases c39 : y124.length + y128.length < 2199023255552
             ·rw [if_pos c39] at H
              have LMc39 := Aside0.mk c39
              clear c39
              obtain ⟨y132, hy132⟩ : ∃ y_ : List (S71), y_ = (y124 ++ y128) := ⟨_, rfl⟩
              replace H : (if 0 ≤ (wrap64 ((rd t104 x10_3) + 1)) then (if (wrap64 ((rd t104 x10_3) + 1)) ≤ (t101.length : Int) then ((some (t101.drop ((wrap64 ((rd t104 x10_3) + 1)) : Int).toNat : List (S71))).bind fun y136 => (if y132.length + y136.length < 2199023255552 then ((impl_RulesDiffer.f k3 t101 (y132 ++ y136)).bind fun bt143 => (if (rd t104 x10_3) = t123 then (some false) else (if bt143.2.2.2 = true then (some false) else (if x10_3 > 0 then (if 0 ≤ (wrap64 (x10_3 - 1)) then (if (wrap64 (x10_3 - 1)) < (t104.length : Int) then (if (rd t104 (wrap64 (x10_3 - 1))) ≥ (rd t104 x10_3) then (some false) else (laws_FnRulesDead.l0 k3 t101 t104 t123 (wrap64 (x10_3 + 1)))) else (none)) else (none)) else (laws_FnRulesDead.l0 k3 t101 t104 t123 (wrap64 (x10_3 + 1))))))) else (none))) else (none)) else (none)) = some r := by first | (rw [hy132]; with_reducible exact H) | (have H2_ := (Option.bind_some _ _).symm.trans H; rw [hy132]; with_reducible exact H2_) | (have H2_ := (Option.bind_some _ _).symm.trans H; with_reducible exact H2_) | with_reducible exact H | (rw [hy132]; exact H) | exact H
              have Ny132 := Aside0.mk hy132
              clear hy132
              obtain ⟨ji40, hji40⟩ : ∃ j_ : Int, (wrap64 ((rd t104 x10_3) + 1)) = j_ := ⟨_, rfl⟩
              replace H : (if 0 ≤ (ji40) then (if (ji40) ≤ (t101.length : Int) then ((some (t101.drop ((ji40) : Int).toNat : List (S71))).bind fun y136 => (if y132.length + y136.length < 2199023255552 then ((impl_RulesDiffer.f k3 t101 (y132 ++ y136)).bind fun bt143 => (if (rd t104 x10_3) = t123 then (some false) else (if bt143.2.2.2 = true then (some false) else (if x10_3 > 0 then (if 0 ≤ (wrap64 (x10_3 - 1)) then (if (wrap64 (x10_3 - 1)) < (t104.length : Int) then (if (rd t104 (wrap64 (x10_3 - 1))) ≥ (rd t104 x10_3) then (some false) else (laws_FnRulesDead.l0 k3 t101 t104 t123 (wrap64 (x10_3 + 1)))) else (none)) else (none)) else (laws_FnRulesDead.l0 k3 t101 t104 t123 (wrap64 (x10_3 + 1))))))) else (none))) else (none)) else (none)) = some r := by first | (rw [hji40] at H; exact H) | (simp only [hji40] at H ⊢; exact H)
              have hji40w : (IntKind.i64.wrap ((rd t104 x10_3) + 1)) = ji40 := (i64_w _).trans hji40
              by_cases c41 : 0 ≤ (ji40)
              ·rw [if_pos c41] at H
               have c41b0 := eq_true c41
               have c41b1 : decide (0 ≤ (ji40)) = true := decide_eq_true c41
               clear c41
               by_cases c42 : (ji40) ≤ (t101.length : Int)
               ·rw [if_pos c42] at H
                have c42b0 := eq_true c42
                have c42b1 : decide ((ji40) ≤ (t101.length : Int)) = true := decide_eq_true c42
                clear c42
                obtain ⟨y136, hy136⟩ : ∃ y_ : List (S71), y_ = (t101.drop ((ji40) : Int).toNat) := ⟨_, rfl⟩
                replace H : (if y132.length + y136.length < 2199023255552 then ((impl_RulesDiffer.f k3 t101 (y132 ++ y136)).bind fun bt143 => (if (rd t104 x10_3) = t123 then (some false) else (if bt143.2.2.2 = true then (some false) else (if x10_3 > 0 then (if 0 ≤ (wrap64 (x10_3 - 1)) then (if (wrap64 (x10_3 - 1)) < (t104.length : Int) then (if (rd t104 (wrap64 (x10_3 - 1))) ≥ (rd t104 x10_3) then (some false) else (laws_FnRulesDead.l0 k3 t101 t104 t123 (wrap64 (x10_3 + 1)))) else (none)) else (none)) else (laws_FnRulesDead.l0 k3 t101 t104 t123 (wrap64 (x10_3 + 1))))))) else (none)) = some r := by first | (rw [hy136]; with_reducible exact H) | (have H2_ := (Option.bind_some _ _).symm.trans H; rw [hy136]; with_reducible exact H2_) | (have H2_ := (Option.bind_some _ _).symm.trans H; with_reducible exact H2_) | with_reducible exact H | (rw [hy136]; exact H) | exact H
                have Ny136 := Aside0.mk hy136
                clear hy136
                by_cases c43 : y132.length + y136.length < 2199023255552
                ·rw [if_pos c43] at H
                 have LMc43 := Aside0.mk c43
                 clear c43
                 obtain ⟨y140, hy140⟩ : ∃ y_ : List (S71), y_ = (y132 ++ y136) := ⟨_, rfl⟩
                 replace H : ((impl_RulesDiffer.f k3 t101 y140).bind fun bt143 => (if (rd t104 x10_3) = t123 then (some false) else (if bt143.2.2.2 = true then (some false) else (if x10_3 > 0 then (if 0 ≤ (wrap64 (x10_3 - 1)) then (if (wrap64 (x10_3 - 1)) < (t104.length : Int) then (if (rd t104 (wrap64 (x10_3 - 1))) ≥ (rd t104 x10_3) then (some false) else (laws_FnRulesDead.l0 k3 t101 t104 t123 (wrap64 (x10_3 + 1)))) else (none)) else (none)) else (laws_FnRulesDead.l0 k3 t101 t104 t123 (wrap64 (x10_3 + 1))))))) = some r := by first | (rw [hy140]; with_reducible exact H) | (have H2_ := (Option.bind_some _ _).symm.trans H; rw [hy140]; with_reducible exact H2_) | (have H2_ := (Option.bind_some _ _).symm.trans H; with_reducible exact H2_) | with_reducible exact H | (rw [hy140]; exact H) | exact H
                 have Ny140 := Aside0.mk hy140
                 clear hy140
                 replace H := Option.bind_eq_some_iff.mp H
                 obtain ⟨⟨t143, t144, t145, t146⟩, A440, H⟩ := H
                 replace H : (if (rd t104 x10_3) = t123 then (some false) else (if t146 = true then (some false) else (if x10_3 > 0 then (if 0 ≤ (wrap64 (x10_3 - 1)) then (if (wrap64 (x10_3 - 1)) < (t104.length : Int) then (if (rd t104 (wrap64 (x10_3 - 1))) ≥ (rd t104 x10_3) then (some false) else (laws_FnRulesDead.l0 k3 t101 t104 t123 (wrap64 (x10_3 + 1)))) else (none)) else (none)) else (laws_FnRulesDead.l0 k3 t101 t104 t123 (wrap64 (x10_3 + 1)))))) = some r := H
                 have A44 := Aside0.mk A440
                 clear A440
                 by_cases c45 : (rd t104 x10_3) = t123
                 ·rw [if_pos c45] at H
                  have c45b0 : ((rd t104 x10_3) == t123) = true := beq_iff_eq.mpr c45
                  have c45b1 : ((rd t104 x10_3) != t123) = false := bne_eq_false_iff_eq.mpr c45
                  clear c45
                  exact absurd ((Option.some.inj H).trans HR_.out) (by decide)
                 ·rw [if_neg c45] at H
                  have c45b0 : ((rd t104 x10_3) == t123) = false := beq_eq_false_iff_ne.mpr c45
                  have c45b1 : ((rd t104 x10_3) != t123) = true := bne_iff_ne.mpr c45
                  by_cases c46 : t146 = true
                  ·subst c46
                   have H1 : (some false) = some r := by rw [if_pos rfl] at H; exact H
                   clear H
                   have H := H1
                   clear H1
                   exact absurd ((Option.some.inj H).trans HR_.out) (by decide)
                  ·replace c46 := Bool.eq_false_iff.mpr c46
                   subst c46
                   have H1 : (if x10_3 > 0 then (if 0 ≤ (wrap64 (x10_3 - 1)) then (if (wrap64 (x10_3 - 1)) < (t104.length : Int) then (if (rd t104 (wrap64 (x10_3 - 1))) ≥ (rd t104 x10_3) then (some false) else (laws_FnRulesDead.l0 k3 t101 t104 t123 (wrap64 (x10_3 + 1)))) else (none)) else (none)) else (laws_FnRulesDead.l0 k3 t101 t104 t123 (wrap64 (x10_3 + 1)))) = some r := by rw [if_neg (show ¬ (false = true) by decide)] at H; exact H
                   clear H
                   have H := H1
                   clear H1
                   by_cases c47 : x10_3 > 0
                   ·rw [if_pos c47] at H
                    have c47b0 : decide (0 < x10_3) = true := decide_eq_true c47
                    clear c47
                    obtain ⟨ji48, hji48⟩ : ∃ j_ : Int, (wrap64 (x10_3 - 1)) = j_ := ⟨_, rfl⟩
                    replace H : (if 0 ≤ (ji48) then (if (ji48) < (t104.length : Int) then (if (rd t104 (ji48)) ≥ (rd t104 x10_3) then (some false) else (laws_FnRulesDead.l0 k3 t101 t104 t123 (wrap64 (x10_3 + 1)))) else (none)) else (none)) = some r := by first | (rw [hji48] at H; exact H) | (simp only [hji48] at H ⊢; exact H)
                    (try rw [hji48] at A44)
                    have hji48w : (IntKind.i64.wrap (x10_3 - 1)) = ji48 := (i64_w _).trans hji48
                    by_cases c49 : 0 ≤ (ji48)
                    ·rw [if_pos c49] at H
                     have c49b0 : decide (0 ≤ (ji48)) = true := decide_eq_true c49
                     clear c49
                     by_cases c50 : (ji48) < (t104.length : Int)
                     ·rw [if_pos c50] at H
                      have c50b0 : decide ((ji48) < (t104.length : Int)) = true := decide_eq_true c50
                      clear c50
                      by_cases c51 : (rd t104 (ji48)) ≥ (rd t104 x10_3)
                      ·rw [if_pos c51] at H
                       have c51b0 : decide ((rd t104 x10_3) ≤ (rd t104 (ji48))) = true := decide_eq_true c51
                       clear c51
                       exact absurd ((Option.some.inj H).trans HR_.out) (by decide)
                      ·rw [if_neg c51] at H
                       have c51b0 : decide ((rd t104 x10_3) ≤ (rd t104 (ji48))) = false := decide_eq_false c51
                       clear c51
                       have H' := Aside0.mk H
                       clear H
                       obtain ⟨Ao52, co52, eo52⟩ := Kd.R_slice HO_6.out
                       subst eo52
                       try go_wp2
                       replace HO_5 := am (Kd.R_drew HO_5.out)
                       replace HO_6 := am (Kd.R_drew HO_6.out)
                       replace BK122 := am (blk_drew BK122.out)
                       replace HB := am (below_drew1 HB.out)
                       have p127 : 0 ≤ (x10_3 : Int) := OD
                       have q127 : x10_3 < (t104.length : Int) := OD
                       obtain ⟨ad127, e127, hx127_0⟩ := Kd.at_int (Kd.R_reads' HO_6.out).2.2 x10_3 p127 q127
                       cases e127
                       replace p127 := eq_true p127
                       replace q127 := eq_true q127
                       have q54 : ((rd t104 x10_3) : Int) ≤ ((t101.length : Int) : Int) := OD
                       obtain ⟨i054, hi054, _, hsz54, _⟩ := info_parts info71
                       have hroom54 : t101.length ≤ co10 := (Kd.R_reads' HO_5.out).2.1
                       have hC54 : Kd.C k71 _ Ao10 t101.length t101 := (Kd.R_reads' HO_5.out).2.2
                       have hcut54 := cut_to (P := Try.prog) 52 71 .i64 Try.underlying52 hi054 Ao10 t101.length co10 (rd t104 x10_3) (OD) q54 hroom54
                       have hr54 := Kd.C_take (m := ((rd t104 x10_3) : Int).toNat) hC54 (by omega)
                       have hy54 : y128.length = ((rd t104 x10_3) : Int).toNat := (by rw [Ny128.out, List.length_take]; omega)
                       rw [← Ny128.out] at hr54
                       rw [← hy54] at hcut54
                       have HR131 := Aside0.mk hr54
                       have HC131 := am (show y128.length ≤ co10 from by omega)
                       clear hr54 hC54 hroom54 hi054 hsz54
                       have KY54 := Aside0.mk hy54
                       clear hy54
                       have KL54 := am (show ((rd t104 x10_3) : Int).toNat ≤ t101.length from by omega)
                       replace q54 := eq_true q54
                       have p135 : 0 ≤ (x10_3 : Int) := OD
                       have q135 : x10_3 < (t104.length : Int) := OD
                       obtain ⟨ad135, e135, hx135_0⟩ := Kd.at_int (Kd.R_reads' HO_6.out).2.2 x10_3 p135 q135
                       obtain rfl : ad127 = ad135 := (by injection e135)
                       replace p135 := eq_true p135
                       replace q135 := eq_true q135
                       have q55 : ((ji40) : Int) ≤ ((t101.length : Int) : Int) := OD
                       obtain ⟨i055, hi055, _, hsz55, _⟩ := info_parts info71
                       have hroom55 : t101.length ≤ co10 := (Kd.R_reads' HO_5.out).2.1
                       have hC55 : Kd.C k71 _ Ao10 t101.length t101 := (Kd.R_reads' HO_5.out).2.2
                       have q055 : (0 : Int) ≤ ((ji40) : Int) := OD
                       have hcut55 := cut_from (P := Try.prog) 52 71 .i64 Try.underlying52 hi055 8 hsz55 Ao10 t101.length co10 (ji40) q055 q55
                       have hr55 := Kd.C_drop (m := ((ji40) : Int).toNat) (c := co10) hC55 (by omega) hroom55
                       obtain ⟨A55, hA55⟩ : ∃ A1, A1 = (if co10 = ((ji40) : Int).toNat then Ao10 else (Ao10 : Option Addr).map (·.add (((ji40) : Int).toNat * 8))) := ⟨_, rfl⟩
                       obtain ⟨c55, hc55⟩ : ∃ c1, c1 = co10 - ((ji40) : Int).toNat := ⟨_, rfl⟩
                       have hy55 : y136.length = t101.length - ((ji40) : Int).toNat := (by rw [Ny136.out, List.length_drop] <;> omega)
                       rw [show (t101).drop ((ji40) : Int).toNat = y136 from Ny136.out.symm] at hr55
                       replace hr55 : Kd.C k71 _ A55 y136.length y136 := (by rw [hA55]; exact hr55)
                       rw [← hy55, ← hA55, ← hc55] at hcut55
                       have HR139 := Aside0.mk hr55
                       have HC139 := am (show y136.length ≤ c55 from by rw [hy55, hc55]; exact Nat.sub_le_sub_right hroom55 _)
                       clear hr55 hC55 hroom55 hi055 hsz55 hc55
                       have KY55 := Aside0.mk hy55
                       have KA55 := Aside0.mk hA55
                       clear hy55 hA55
                       have KL55 := am (show ((ji40) : Int).toNat ≤ t101.length from by omega)
                       replace q55 := eq_true q55
                       refine start_ (n := 17) (S := fun w' => w'.cell? (ad127.add (x10_3).toNat) = some (.int .i64 (rd t104 x10_3)) ∧ w'.cell? (ad127.add (x10_3).toNat) = some (.int .i64 (rd t104 x10_3))) (ds := [15]) (tf 0 17) (by kernel_rfl) rfl rfl ⟨hx127_0, hx135_0⟩ (fun hHeld => ?_); refine with_tabW laws_FnRulesDead.tab12 laws_FnRulesDead.bits12 (fun HT_ HW_ => ?_)
                       generalize wr.drew = w53 at HO_5 HO_6 BK122 HB HR131 HR139 hx127_0 hx135_0 hHeld ⊢
                       refine pv HT_ 1 55 (tr [0, 1, 1, 15]) ?_
                       refine pv HT_ 2 56 (tr [0, 1, 2, 14]) ?_
                       refine pv HT_ 3 57 (tr [0, 1, 3, 13]) ?_
                       refine pv HT_ 4 58 (tr [0, 1, 4, 12]) ?_
                       refine pv HT_ 8 62 (tr [0, 1, 4, 3, 1, 8]) ?_
                       refine pv HT_ 9 63 (tr [0, 1, 4, 3, 2, 7]) ?_
                       refine pv HT_ 10 64 (tr [0, 1, 4, 3, 3, 6]) ?_
                       refine pv HT_ 11 65 (tr [0, 1, 4, 3, 4, 5]) ?_
                       refine tk 5 (some 59) (tr [0, 1, 5, 2, 4, 5]) (take_ofW HT_.out HW_.out (by kernel_rfl)) hHeld ?_
                       refine pv HT_ 6 60 (tr [0, 1, 6, 1, 4, 5]) ?_
                       refine tk 12 (some 66) (tr [0, 1, 6, 1, 5, 4]) (take_ofW HT_.out HW_.out (by kernel_rfl)) hHeld ?_
                       refine pv HT_ 13 67 (tr [0, 1, 6, 1, 6, 3]) ?_
                       refine pv HT_ 14 68 (tr [0, 1, 6, 1, 7, 2]) ?_
                       refine one_ (i := 0) (N := some 54) (tr [7, 1, 7, 2]) rfl rfl (one_of HT_.out (by kernel_rfl)) (by decide) (fun K hK => ?_)
                       refine Kd.R_lit_step k71 _ 71 ?hg (N := 54) ?hd (xs := ([] : List (S71))) (inner := []) (ok := fun _ => True) (okp := fun _ => True) ?hr ?hp (fun _ hk => hk) trivial (Below.refl _ _) (Nat.le_refl _) (by simp) ?_; (case hd => rfl); (case hg => rfl); (case hr => first | (go_simp; done) | (go_simp; rfl)); (case hp => exact (Reps.none _ _))
                       intro v125 w56 ho57 hb hg_ hnew_
                       have HS0_ := (hb.cell (World.block_lt_of_cell? _ _ (hHeld.1))).trans (hHeld.1)
                       have HS1_ := (hb.cell (World.block_lt_of_cell? _ _ (hHeld.2))).trans (hHeld.2)
                       clear hg_ hnew_
                       (first | rw [← Ny124.out] at ho57 | (simp only [Int.reduceToNat] at ho57; rw [← Ny124.out] at ho57))
                       replace HO_6 := am (Kd.R_below (KR HO_6) hb)
                       have HO126 := am (Kd.R_lower (Kd.R_new' ho57 (Kd.R_lt (KR HO_5))) (below_size (K1 HB GE122.out)))
                       replace HO_5 := am (Kd.R_elder' (KR HO_5) (Kd.R_base ho57) hb)
                       replace BK122 := am (BB BK122 hb)
                       replace HR131 := am (Kd.C_below (by repeat (first | (with_reducible exact HR131.out) | (with_reducible refine Kd.C_alloc ?_ _) | (with_reducible refine Kd.C_drewN ?_ _) | (with_reducible refine Kd.C_drew ?_) | exact HR131.out)) hb)
                       replace HR139 := am (Kd.C_below (by repeat (first | (with_reducible exact HR139.out) | (with_reducible refine Kd.C_alloc ?_ _) | (with_reducible refine Kd.C_drewN ?_ _) | (with_reducible refine Kd.C_drew ?_) | exact HR139.out)) hb)
                       replace HB := am (below_step (K1 HB GE122.out) hb)
                       clear hb ho57
                       refine hK.out _ _ ⟨HS0_, HS1_⟩ (fun hHeld => ?_)
                       clear hK K
                       refine norm_ (a' := ?_) ?_ ?_
                       rotate_left
                       ·show Act.put _ (some 54) _ = _
                        simp only [Act.put, List.setIfInBounds_toArray, List.set_cons_zero, List.set_cons_succ, i64_w, i32_w]
                        rfl
                       refine one_ (i := 7) (N := some 61) (tf 15 2) rfl rfl (one_of HT_.out (by kernel_rfl)) (by decide) (fun K hK => ?_)
                       refine Kd.R_append_rows_step k71 (w0 := w) w.heap.size (by rfl) (.tmp 54) (.tmp 60) 52 71 (.agg #[(.int .i64 0), (.int .i64 0), (.int .i64 0), (.int .i64 0), (.int .i64 0), (.int .i64 0), (.int .i64 0), (.int .i64 0)]) 64 rfl Try.underlying52 info71 rfl (by decide) (by omega) v125 y124 y128 _ _ _ (fun k_ => some k_ ≠ (.slice Ao10 t101.length co10 : Value).ownBlock) (fun _ => False) rfl rfl ?aO ?aR (fun _ _ h => h) (fun _ h => h.elim) ?aF ?aB ?aS ?aL ?_
                       (case aR => repeat (first | exact (by repeat (first | (with_reducible exact HR131.out) | (with_reducible refine Kd.C_alloc ?_ _) | (with_reducible refine Kd.C_drewN ?_ _) | (with_reducible refine Kd.C_drew ?_) | exact HR131.out)) | (with_reducible refine Kd.C_alloc ?_ _) | (with_reducible refine Kd.C_drewN ?_ _) | (with_reducible refine Kd.C_drew ?_)))
                       (case aB => exact (K1 HB GE122.out))
                       (case aF => exact (fun k_ hk => Kd.fresh' (Kd.R_lt (KR HO_5)) k_ hk))
                       (case aO => exact (by (with_reducible repeat (first | apply Kd.R_alloc | apply Kd.R_drewN | apply Kd.R_drew)); exact Kd.R_mono HO126.out (fun _ hk => hk.2)))
                       (case aS => exact (below_size (K1 HB GE122.out)))
                       (case aL => have := LMc39.out; omega)
                       intro v133 w58 ho hb hg hat
                       have HS0_ := cell_grown hg (hHeld.1) (by first | (rw [add_block]; exact ((Kd.R_apart' HO_6.out (Kd.R_typed HO126.out) (by decide)).1 _ rfl).2) | (show some (Addr.add _ _).block ≠ _; rw [add_block]; exact ((Kd.R_apart' HO_6.out (Kd.R_typed HO126.out) (by decide)).1 _ rfl).2) | exact ((Kd.R_apart' HO_6.out (Kd.R_typed HO126.out) (by decide)).1 _ rfl).2)
                       have HS1_ := cell_grown hg (hHeld.2) (by first | (rw [add_block]; exact ((Kd.R_apart' HO_6.out (Kd.R_typed HO126.out) (by decide)).1 _ rfl).2) | (show some (Addr.add _ _).block ≠ _; rw [add_block]; exact ((Kd.R_apart' HO_6.out (Kd.R_typed HO126.out) (by decide)).1 _ rfl).2) | exact ((Kd.R_apart' HO_6.out (Kd.R_typed HO126.out) (by decide)).1 _ rfl).2)
                       rw [← Ny132.out] at ho
                       replace HO_6 := am (Kd.R_over' (KR HO_6) (Kd.R_typed (KR HO126)) (by decide) hg)
                       replace BK122 := am (blk_grown (g := gb122) (o := .cells #[.int .i64 t119, .int .i64 t120, .int .i64 t121] 60 (0, 0)) (KB BK122) hg (Kd.R_ne HO126.out BK122.out (by decide)))
                       replace HB := am (hb)
                       replace HR131 := am ((show Kd.C k71 w58 Ao10 y128.length y128 from by rw [Ny128.out]; exact Kd.C_take (m := ((rd t104 x10_3) : Int).toNat) ((Kd.R_reads' (Kd.R_after (ok := (fun _ => True)) (KR HO_5) hg hat)).2.2) KL54.out))
                       replace HR139 := am ((show Kd.C k71 w58 A55 y136.length y136 from by rw [Ny136.out, KA55.out]; exact Kd.C_drop (m := ((ji40) : Int).toNat) (c := co10) ((Kd.R_reads' (Kd.R_after (ok := (fun _ => True)) (KR HO_5) hg hat)).2.2) KL55.out ((Kd.R_reads' (Kd.R_after (ok := (fun _ => True)) (KR HO_5) hg hat)).2.1)))
                       replace HO_5 := am (Kd.R_after (ok := (fun _ => True)) (KR HO_5) hg hat)
                       have HO134 := am (ho)
                       clear HO126
                       clear ho hb hg hat
                       refine hK.out _ _ ⟨HS0_, HS1_⟩ (fun hHeld => ?_)
                       clear hK K
                       refine norm_ (a' := ?_) ?_ ?_
                       rotate_left
                       ·show Act.put _ (some 61) _ = _
                        simp only [Act.put, List.setIfInBounds_toArray, List.set_cons_zero, List.set_cons_succ, i64_w, i32_w]
                        rfl
                       refine last_ (i := 15) (N := some 69) (tf 16 1) rfl rfl (one_of HT_.out (by kernel_rfl)) (by decide) (fun K hK => ?_)
                       refine Kd.R_append_rows_step k71 (w0 := w) w.heap.size (by rfl) (.tmp 61) (.tmp 68) 52 71 (.agg #[(.int .i64 0), (.int .i64 0), (.int .i64 0), (.int .i64 0), (.int .i64 0), (.int .i64 0), (.int .i64 0), (.int .i64 0)]) 64 rfl Try.underlying52 info71 rfl (by decide) (by omega) v133 y132 y136 _ _ _ (fun k_ => some k_ ≠ (.slice Ao10 t101.length co10 : Value).ownBlock) (fun _ => False) rfl rfl ?aO ?aR (fun _ _ h => h) (fun _ h => h.elim) ?aF ?aB ?aS ?aL ?_
                       (case aR => repeat (first | exact (by repeat (first | (with_reducible exact HR139.out) | (with_reducible refine Kd.C_alloc ?_ _) | (with_reducible refine Kd.C_drewN ?_ _) | (with_reducible refine Kd.C_drew ?_) | exact HR139.out)) | (with_reducible refine Kd.C_alloc ?_ _) | (with_reducible refine Kd.C_drewN ?_ _) | (with_reducible refine Kd.C_drew ?_)))
                       (case aB => exact (K1 HB GE122.out))
                       (case aF => exact (fun k_ hk => Kd.fresh' (Kd.R_lt (KR HO_5)) k_ hk))
                       (case aO => exact (KR HO134))
                       (case aS => exact (below_size (K1 HB GE122.out)))
                       (case aL => have := LMc43.out; omega)
                       intro v141 w59 ho hb hg hat
                       rw [← Ny140.out] at ho
                       replace HO_6 := am (Kd.R_over' (KR HO_6) (Kd.R_typed (KR HO134)) (by decide) hg)
                       replace BK122 := am (blk_grown (g := gb122) (o := .cells #[.int .i64 t119, .int .i64 t120, .int .i64 t121] 60 (0, 0)) (KB BK122) hg (Kd.R_ne HO134.out BK122.out (by decide)))
                       replace HB := am (hb)
                       replace HR131 := am ((show Kd.C k71 w59 Ao10 y128.length y128 from by rw [Ny128.out]; exact Kd.C_take (m := ((rd t104 x10_3) : Int).toNat) ((Kd.R_reads' (Kd.R_after (ok := (fun _ => True)) (KR HO_5) hg hat)).2.2) KL54.out))
                       replace HR139 := am ((show Kd.C k71 w59 A55 y136.length y136 from by rw [Ny136.out, KA55.out]; exact Kd.C_drop (m := ((ji40) : Int).toNat) (c := co10) ((Kd.R_reads' (Kd.R_after (ok := (fun _ => True)) (KR HO_5) hg hat)).2.2) KL55.out ((Kd.R_reads' (Kd.R_after (ok := (fun _ => True)) (KR HO_5) hg hat)).2.1)))
                       replace HO_5 := am (Kd.R_after (ok := (fun _ => True)) (KR HO_5) hg hat)
                       have HO142 := am (ho)
                       clear HO134
                       clear ho hb hg hat
                       refine hK.out _ _ ?_
                       clear hK K
                       refine norm_ (a' := ?_) ?_ ?_
                       rotate_left
                       ·show Act.put _ (some 69) _ = _
                        simp only [Act.put, List.setIfInBounds_toArray, List.set_cons_zero, List.set_cons_succ, i64_w, i32_w]
                        rfl
                       refine pv HT_ 16 11 (tf 17 0) ?_
                       refine done_ (done_of HT_.out (by kernel_rfl)) ?_
                       obtain ⟨Ao60, co60, eo60⟩ := Kd.R_slice HO142.out
                       subst eo60
                       try go_wp2_with (first | ((with_reducible refine gate_callee (f := 40) rfl ?_); refine goesL_ (some 73) rfl rfl Try.func40 (by kernel_rfl) rfl #[.slice Ao10 t101.length co10, .slice Ao60 y140.length co60] rfl MT ?_; (with_reducible refine (impl_RulesDiffer.calls k3 _ _ t101 _ _ y140 t143 t144 t145 false _ ?side1 ?side2 ?side3 ?side4 A44.out).mono ?_); (case side1 => exact KC (Kd.R_reads' HO_5.out).2.2); (case side2 => exact (Kd.R_reads' HO_5.out).2.1); (case side3 => exact KC (Kd.R_reads' HO142.out).2.2); (case side4 => exact (Kd.R_reads' HO142.out).2.1); rintro e w61 ⟨rfl, hb⟩; refine ⟨_, rfl, ?_⟩; replace HO_5 := am (Kd.R_below (KR HO_5) hb); replace HO_6 := am (Kd.R_below (KR HO_6) hb); replace HO142 := am (Kd.R_below (KR HO142) hb); replace BK122 := am (BB BK122 hb); replace HR131 := am (Kd.C_below (by repeat (first | (with_reducible exact HR131.out) | (with_reducible refine Kd.C_alloc ?_ _) | (with_reducible refine Kd.C_drewN ?_ _) | (with_reducible refine Kd.C_drew ?_) | exact HR131.out)) hb); replace HR139 := am (Kd.C_below (by repeat (first | (with_reducible exact HR139.out) | (with_reducible refine Kd.C_alloc ?_ _) | (with_reducible refine Kd.C_drewN ?_ _) | (with_reducible refine Kd.C_drew ?_) | exact HR139.out)) hb); replace HB := am (below_step (K1 HB GE122.out) hb); (try clear hb); (try clear hb2); (try clear hk); (try clear hi)) | ((with_reducible refine gate_dst (N := 12) rfl ?_); (try (refine gate_guard (by rfl) ?_; dsimp only)); refine box_event rfl (N := 12) rfl (cs := #[.int .i64 0, .int .i64 0, .int .i64 0]) (t := 60) BX ?_; intro gb147 hg w62 hbox hb; replace HO_5 := am (Kd.R_below (KR HO_5) hb); replace HO_6 := am (Kd.R_below (KR HO_6) hb); replace HO142 := am (Kd.R_below (KR HO142) hb); replace HR131 := am (Kd.C_below (by repeat (first | (with_reducible exact HR131.out) | (with_reducible refine Kd.C_alloc ?_ _) | (with_reducible refine Kd.C_drewN ?_ _) | (with_reducible refine Kd.C_drew ?_) | exact HR131.out)) hb); replace HR139 := am (Kd.C_below (by repeat (first | (with_reducible exact HR139.out) | (with_reducible refine Kd.C_alloc ?_ _) | (with_reducible refine Kd.C_drewN ?_ _) | (with_reducible refine Kd.C_drew ?_) | exact HR139.out)) hb); have BK147 := am (hbox); have GW147 := am (GH1 HB GE122.out hg); have GE147 := GW147; replace HB := am (below_step (K1 HB GE122.out) hb); have NB122_147 := am (NL BK122 hg); have NB147_122 := am (NG BK122 hg); replace BK122 := am (BB BK122 hb); clear hb hbox hg; have hnb63 := NB147_122.out; have hnc63 := NB122_147.out; obtain ⟨hcz64_0, hcz64_1, hcz64_2, hfz64_0⟩ := y3 w62 BK147.out))
                       generalize hq_ : (((w62.setCell ⟨gb147, 0, none⟩ (.int .i64 t143)).setCell ⟨gb147, 1, none⟩ (.int .i64 t144)).setCell ⟨gb147, 2, none⟩ (.int .i64 t145)) = w65
                       have n0_ : Aside0 (Kd.R k71 71 w65 w.heap.size (fun k_ => some k_ ≠ (.slice Ao60 y140.length co60 : Value).ownBlock) (.slice Ao10 t101.length co10) t101) := ⟨by rw [← hq_]; (with_reducible repeat (first | apply Kd.R_alloc | apply Kd.R_drewN | apply Kd.R_drew)); exact Kd.R_mono (Kd.R_far (p := ⟨gb147, 2, none⟩) (Kd.R_far (p := ⟨gb147, 1, none⟩) (Kd.R_far (p := ⟨gb147, 0, none⟩) (Kd.R_types HO_5.out BK147.out (by decide)) (fun _ hk => hk.2) (.int .i64 t143)) (fun _ hk => hk.2) (.int .i64 t144)) (fun _ hk => hk.2) (.int .i64 t145)) (fun _ hk => hk.1.2)⟩
                       have n1_ : Aside0 (Kd.R (Kd.int .i64) 3 w65 w.heap.size (fun _ => True) (.slice (some ad127) t104.length co52) t104) := ⟨by rw [← hq_]; (with_reducible repeat (first | apply Kd.R_alloc | apply Kd.R_drewN | apply Kd.R_drew)); exact Kd.R_mono (Kd.R_far (p := ⟨gb147, 2, none⟩) (Kd.R_far (p := ⟨gb147, 1, none⟩) (Kd.R_far (p := ⟨gb147, 0, none⟩) (Kd.R_types HO_6.out BK147.out (by decide)) (fun _ hk => hk.2) (.int .i64 t143)) (fun _ hk => hk.2) (.int .i64 t144)) (fun _ hk => hk.2) (.int .i64 t145)) (fun _ hk => trivial)⟩
                       have n2_ : Aside0 (Kd.R k71 71 w65 w.heap.size (fun k_ => some k_ ≠ (.slice Ao10 t101.length co10 : Value).ownBlock) (.slice Ao60 y140.length co60) y140) := ⟨by rw [← hq_]; (with_reducible repeat (first | apply Kd.R_alloc | apply Kd.R_drewN | apply Kd.R_drew)); exact RF HO142.out BK147.out⟩
                       have n3_ : Aside0 (w65.heap[gb122]? = some (.cells #[.int .i64 t119, .int .i64 t120, .int .i64 t121] 60 (0, 0))) := ⟨by rw [← hq_]; (with_reducible repeat (first | refine blk_drewN ?_ _ | refine blk_drew ?_ | refine blk_alloc ?_ _)); refine blk_far ?_ NB122_147.out _; (with_reducible repeat (first | refine blk_drewN ?_ _ | refine blk_drew ?_ | refine blk_alloc ?_ _)); refine blk_far ?_ NB122_147.out _; (with_reducible repeat (first | refine blk_drewN ?_ _ | refine blk_drew ?_ | refine blk_alloc ?_ _)); refine blk_far ?_ NB122_147.out _; (with_reducible repeat (first | refine blk_drewN ?_ _ | refine blk_drew ?_ | refine blk_alloc ?_ _)); exact BK122.out⟩
                       have n4_ : Aside0 (w65.heap[gb147]? = some (.cells #[.int .i64 t143, .int .i64 t144, .int .i64 t145] 60 (0, 0))) := ⟨by rw [← hq_]; exact P3 BK147⟩
                       have n5_ : Aside0 (Below w.heap.size w w65) := ⟨by rw [← hq_]; exact K2 HB GE122.out GE147.out⟩
                       clear hq_
                       (try clear HO_5)
                       (try clear HO_6)
                       (try clear HO142)
                       (try clear BK122)
                       (try clear BK147)
                       (try clear HB)
                       have HO_5 := n0_
                       have HO_6 := n1_
                       have HO142 := n2_
                       have BK122 := n3_
                       have BK147 := n4_
                       have HB := n5_
                       clear n0_ n1_ n2_ n3_ n4_ n5_
                       replace HO_5 := am (Kd.R_drew HO_5.out)
                       replace HO_6 := am (Kd.R_drew HO_6.out)
                       replace HO142 := am (Kd.R_drew HO142.out)
                       replace BK122 := am (blk_drew BK122.out)
                       replace BK147 := am (blk_drew BK147.out)
                       replace HB := am (below_drew1 HB.out)
                       have p148 : 0 ≤ (x10_3 : Int) := OD
                       have q148 : x10_3 < (t104.length : Int) := OD
                       obtain ⟨ad148, e148, hx148_0⟩ := Kd.at_int (Kd.R_reads' HO_6.out).2.2 x10_3 p148 q148
                       obtain rfl : ad127 = ad148 := (by injection e148)
                       replace p148 := eq_true p148
                       replace q148 := eq_true q148
                       have p149 : 0 ≤ ((ji48) : Int) := OD
                       have q149 : (ji48) < (t104.length : Int) := OD
                       obtain ⟨ad149, e149, hx149_0⟩ := Kd.at_int (Kd.R_reads' HO_6.out).2.2 (ji48) p149 q149
                       obtain rfl : ad127 = ad149 := (by injection e149)
                       replace p149 := eq_true p149
                       replace q149 := eq_true q149
                       have p150 : 0 ≤ (x10_3 : Int) := OD
                       have q150 : x10_3 < (t104.length : Int) := OD
                       obtain ⟨ad150, e150, hx150_0⟩ := Kd.at_int (Kd.R_reads' HO_6.out).2.2 x10_3 p150 q150
                       obtain rfl : ad127 = ad150 := (by injection e150)
                       replace p150 := eq_true p150
                       replace q150 := eq_true q150
                       refine start_ (n := 25) (S := fun w' => w'.cell? (ad127.add (x10_3).toNat) = some (.int .i64 (rd t104 x10_3)) ∧ w'.cell? (ad127.add ((ji48)).toNat) = some (.int .i64 (rd t104 (ji48))) ∧ w'.cell? (ad127.add (x10_3).toNat) = some (.int .i64 (rd t104 x10_3))) (ds := []) (tf 0 25) (by kernel_rfl) rfl rfl ⟨hx148_0, hx149_0, hx150_0⟩ (fun hHeld => ?_); refine with_tabW laws_FnRulesDead.tab14 laws_FnRulesDead.bits14 (fun HT_ HW_ => ?_)
                       generalize w65.drew = w66 at HO_5 HO_6 HO142 BK122 BK147 HB hx148_0 hx149_0 hx150_0 hHeld ⊢
                       refine pv HT_ 0 76 (tf 1 24) ?_
                       refine pv HT_ 1 77 (tf 2 23) ?_
                       refine pv HT_ 2 78 (tf 3 22) ?_
                       refine pv HT_ 4 80 (tr [3, 1, 1, 20]) ?_
                       refine tk 3 (some 79) (tf 5 20) (take_ofW HT_.out HW_.out (by kernel_rfl)) hHeld ?_
                       refine pv HT_ 5 81 (tf 6 19) ?_
                       refine pv HT_ 6 82 (tf 7 18) ?_
                       refine pv HT_ 7 83 (tf 8 17) ?_
                       refine pv HT_ 8 84 (tf 9 16) ?_
                       refine pv HT_ 9 85 (tf 10 15) ?_
                       refine pv HT_ 10 86 (tf 11 14) ?_
                       refine pv HT_ 11 87 (tf 12 13) ?_
                       refine pv HT_ 12 88 (tf 13 12) ?_
                       refine pv HT_ 13 89 (tf 14 11) ?_
                       refine pv HT_ 14 90 (tf 15 10) ?_
                       refine pv HT_ 15 91 (tf 16 9) ?_
                       refine pv HT_ 16 92 (tf 17 8) ?_
                       refine pv HT_ 18 94 (tr [17, 1, 1, 6]) ?_
                       refine pv HT_ 19 95 (tr [17, 1, 2, 5]) ?_
                       refine pv HT_ 20 96 (tr [17, 1, 3, 4]) ?_
                       refine tk 17 (some 93) (tf 21 4) (take_ofW HT_.out HW_.out (by kernel_rfl)) hHeld ?_
                       refine tk 21 (some 97) (tf 22 3) (take_ofW HT_.out HW_.out (by kernel_rfl)) hHeld ?_
                       refine pv HT_ 22 98 (tf 23 2) ?_
                       refine pv HT_ 23 99 (tf 24 1) ?_
                       refine pv HT_ 24 100 (tf 25 0) ?_
                       refine done_ (done_of HT_.out (by kernel_rfl)) ?_
                       try go_wp2
                       go_roundg k3
                       case measure => have := HJ2.out; have := HJ7.out; have := HK3.out; omega
                       case rel => exact ⟨(wrap64 (x10_3 + 1)), (by first | rfl | (simp; done) | (simp [*]; done)), H', ⟨by have := HJ2.out; have := HJ7.out; have := HK3.out; omega⟩, ⟨by (with_reducible repeat (first | apply Kd.R_alloc | apply Kd.R_drewN | apply Kd.R_drew)); exact Kd.R_mono HO_5.out (fun _ hk => trivial)⟩, ⟨KR HO_6⟩, ⟨KB BK122⟩, ⟨K2 HB GE122.out GE147.out⟩⟩
                     ·rw [if_neg c50] at H
                      exact absurd H (by simp)
                    ·rw [if_neg c49] at H
                     exact absurd H (by simp)
                   ·rw [if_neg c47] at H
                    have c47b0 : decide (0 < x10_3) = false := decide_eq_false c47
                    clear c47
                    have H' := Aside0.mk H
                    clear H
                    obtain ⟨Ao67, co67, eo67⟩ := Kd.R_slice HO_6.out
                    subst eo67
                    try go_wp2
                    replace HO_5 := am (Kd.R_drew HO_5.out)
                    replace HO_6 := am (Kd.R_drew HO_6.out)
                    replace BK122 := am (blk_drew BK122.out)
                    replace HB := am (below_drew1 HB.out)
                    have p127 : 0 ≤ (x10_3 : Int) := OD
                    have q127 : x10_3 < (t104.length : Int) := OD
                    obtain ⟨ad127, e127, hx127_0⟩ := Kd.at_int (Kd.R_reads' HO_6.out).2.2 x10_3 p127 q127
                    cases e127
                    replace p127 := eq_true p127
                    replace q127 := eq_true q127
                    have q69 : ((rd t104 x10_3) : Int) ≤ ((t101.length : Int) : Int) := OD
                    obtain ⟨i069, hi069, _, hsz69, _⟩ := info_parts info71
                    have hroom69 : t101.length ≤ co10 := (Kd.R_reads' HO_5.out).2.1
                    have hC69 : Kd.C k71 _ Ao10 t101.length t101 := (Kd.R_reads' HO_5.out).2.2
                    have hcut69 := cut_to (P := Try.prog) 52 71 .i64 Try.underlying52 hi069 Ao10 t101.length co10 (rd t104 x10_3) (OD) q69 hroom69
                    have hr69 := Kd.C_take (m := ((rd t104 x10_3) : Int).toNat) hC69 (by omega)
                    have hy69 : y128.length = ((rd t104 x10_3) : Int).toNat := (by rw [Ny128.out, List.length_take]; omega)
                    rw [← Ny128.out] at hr69
                    rw [← hy69] at hcut69
                    have HR131 := Aside0.mk hr69
                    have HC131 := am (show y128.length ≤ co10 from by omega)
                    clear hr69 hC69 hroom69 hi069 hsz69
                    have KY69 := Aside0.mk hy69
                    clear hy69
                    have KL69 := am (show ((rd t104 x10_3) : Int).toNat ≤ t101.length from by omega)
                    replace q69 := eq_true q69
                    have p135 : 0 ≤ (x10_3 : Int) := OD
                    have q135 : x10_3 < (t104.length : Int) := OD
                    obtain ⟨ad135, e135, hx135_0⟩ := Kd.at_int (Kd.R_reads' HO_6.out).2.2 x10_3 p135 q135
                    obtain rfl : ad127 = ad135 := (by injection e135)
                    replace p135 := eq_true p135
                    replace q135 := eq_true q135
                    have q70 : ((ji40) : Int) ≤ ((t101.length : Int) : Int) := OD
                    obtain ⟨i070, hi070, _, hsz70, _⟩ := info_parts info71
                    have hroom70 : t101.length ≤ co10 := (Kd.R_reads' HO_5.out).2.1
                    have hC70 : Kd.C k71 _ Ao10 t101.length t101 := (Kd.R_reads' HO_5.out).2.2
                    have q070 : (0 : Int) ≤ ((ji40) : Int) := OD
                    have hcut70 := cut_from (P := Try.prog) 52 71 .i64 Try.underlying52 hi070 8 hsz70 Ao10 t101.length co10 (ji40) q070 q70
                    have hr70 := Kd.C_drop (m := ((ji40) : Int).toNat) (c := co10) hC70 (by omega) hroom70
                    obtain ⟨A70, hA70⟩ : ∃ A1, A1 = (if co10 = ((ji40) : Int).toNat then Ao10 else (Ao10 : Option Addr).map (·.add (((ji40) : Int).toNat * 8))) := ⟨_, rfl⟩
                    obtain ⟨c70, hc70⟩ : ∃ c1, c1 = co10 - ((ji40) : Int).toNat := ⟨_, rfl⟩
                    have hy70 : y136.length = t101.length - ((ji40) : Int).toNat := (by rw [Ny136.out, List.length_drop] <;> omega)
                    rw [show (t101).drop ((ji40) : Int).toNat = y136 from Ny136.out.symm] at hr70
                    replace hr70 : Kd.C k71 _ A70 y136.length y136 := (by rw [hA70]; exact hr70)
                    rw [← hy70, ← hA70, ← hc70] at hcut70
                    have HR139 := Aside0.mk hr70
                    have HC139 := am (show y136.length ≤ c70 from by rw [hy70, hc70]; exact Nat.sub_le_sub_right hroom70 _)
                    clear hr70 hC70 hroom70 hi070 hsz70 hc70
                    have KY70 := Aside0.mk hy70
                    have KA70 := Aside0.mk hA70
                    clear hy70 hA70
                    have KL70 := am (show ((ji40) : Int).toNat ≤ t101.length from by omega)
                    replace q70 := eq_true q70
                    refine start_ (n := 17) (S := fun w' => w'.cell? (ad127.add (x10_3).toNat) = some (.int .i64 (rd t104 x10_3)) ∧ w'.cell? (ad127.add (x10_3).toNat) = some (.int .i64 (rd t104 x10_3))) (ds := [15]) (tf 0 17) (by kernel_rfl) rfl rfl ⟨hx127_0, hx135_0⟩ (fun hHeld => ?_); refine with_tabW laws_FnRulesDead.tab12 laws_FnRulesDead.bits12 (fun HT_ HW_ => ?_)
                    generalize wr.drew = w68 at HO_5 HO_6 BK122 HB HR131 HR139 hx127_0 hx135_0 hHeld ⊢
                    refine pv HT_ 1 55 (tr [0, 1, 1, 15]) ?_
                    refine pv HT_ 2 56 (tr [0, 1, 2, 14]) ?_
                    refine pv HT_ 3 57 (tr [0, 1, 3, 13]) ?_
                    refine pv HT_ 4 58 (tr [0, 1, 4, 12]) ?_
                    refine pv HT_ 8 62 (tr [0, 1, 4, 3, 1, 8]) ?_
                    refine pv HT_ 9 63 (tr [0, 1, 4, 3, 2, 7]) ?_
                    refine pv HT_ 10 64 (tr [0, 1, 4, 3, 3, 6]) ?_
                    refine pv HT_ 11 65 (tr [0, 1, 4, 3, 4, 5]) ?_
                    refine tk 5 (some 59) (tr [0, 1, 5, 2, 4, 5]) (take_ofW HT_.out HW_.out (by kernel_rfl)) hHeld ?_
                    refine pv HT_ 6 60 (tr [0, 1, 6, 1, 4, 5]) ?_
                    refine tk 12 (some 66) (tr [0, 1, 6, 1, 5, 4]) (take_ofW HT_.out HW_.out (by kernel_rfl)) hHeld ?_
                    refine pv HT_ 13 67 (tr [0, 1, 6, 1, 6, 3]) ?_
                    refine pv HT_ 14 68 (tr [0, 1, 6, 1, 7, 2]) ?_
                    refine one_ (i := 0) (N := some 54) (tr [7, 1, 7, 2]) rfl rfl (one_of HT_.out (by kernel_rfl)) (by decide) (fun K hK => ?_)
                    refine Kd.R_lit_step k71 _ 71 ?hg (N := 54) ?hd (xs := ([] : List (S71))) (inner := []) (ok := fun _ => True) (okp := fun _ => True) ?hr ?hp (fun _ hk => hk) trivial (Below.refl _ _) (Nat.le_refl _) (by simp) ?_; (case hd => rfl); (case hg => rfl); (case hr => first | (go_simp; done) | (go_simp; rfl)); (case hp => exact (Reps.none _ _))
                    intro v125 w71 ho72 hb hg_ hnew_
                    have HS0_ := (hb.cell (World.block_lt_of_cell? _ _ (hHeld.1))).trans (hHeld.1)
                    have HS1_ := (hb.cell (World.block_lt_of_cell? _ _ (hHeld.2))).trans (hHeld.2)
                    clear hg_ hnew_
                    (first | rw [← Ny124.out] at ho72 | (simp only [Int.reduceToNat] at ho72; rw [← Ny124.out] at ho72))
                    replace HO_6 := am (Kd.R_below (KR HO_6) hb)
                    have HO126 := am (Kd.R_lower (Kd.R_new' ho72 (Kd.R_lt (KR HO_5))) (below_size (K1 HB GE122.out)))
                    replace HO_5 := am (Kd.R_elder' (KR HO_5) (Kd.R_base ho72) hb)
                    replace BK122 := am (BB BK122 hb)
                    replace HR131 := am (Kd.C_below (by repeat (first | (with_reducible exact HR131.out) | (with_reducible refine Kd.C_alloc ?_ _) | (with_reducible refine Kd.C_drewN ?_ _) | (with_reducible refine Kd.C_drew ?_) | exact HR131.out)) hb)
                    replace HR139 := am (Kd.C_below (by repeat (first | (with_reducible exact HR139.out) | (with_reducible refine Kd.C_alloc ?_ _) | (with_reducible refine Kd.C_drewN ?_ _) | (with_reducible refine Kd.C_drew ?_) | exact HR139.out)) hb)
                    replace HB := am (below_step (K1 HB GE122.out) hb)
                    clear hb ho72
                    refine hK.out _ _ ⟨HS0_, HS1_⟩ (fun hHeld => ?_)
                    clear hK K
                    refine norm_ (a' := ?_) ?_ ?_
                    rotate_left
                    ·show Act.put _ (some 54) _ = _
                     simp only [Act.put, List.setIfInBounds_toArray, List.set_cons_zero, List.set_cons_succ, i64_w, i32_w]
                     rfl
                    refine one_ (i := 7) (N := some 61) (tf 15 2) rfl rfl (one_of HT_.out (by kernel_rfl)) (by decide) (fun K hK => ?_)
                    refine Kd.R_append_rows_step k71 (w0 := w) w.heap.size (by rfl) (.tmp 54) (.tmp 60) 52 71 (.agg #[(.int .i64 0), (.int .i64 0), (.int .i64 0), (.int .i64 0), (.int .i64 0), (.int .i64 0), (.int .i64 0), (.int .i64 0)]) 64 rfl Try.underlying52 info71 rfl (by decide) (by omega) v125 y124 y128 _ _ _ (fun k_ => some k_ ≠ (.slice Ao10 t101.length co10 : Value).ownBlock) (fun _ => False) rfl rfl ?aO ?aR (fun _ _ h => h) (fun _ h => h.elim) ?aF ?aB ?aS ?aL ?_
                    (case aR => repeat (first | exact (by repeat (first | (with_reducible exact HR131.out) | (with_reducible refine Kd.C_alloc ?_ _) | (with_reducible refine Kd.C_drewN ?_ _) | (with_reducible refine Kd.C_drew ?_) | exact HR131.out)) | (with_reducible refine Kd.C_alloc ?_ _) | (with_reducible refine Kd.C_drewN ?_ _) | (with_reducible refine Kd.C_drew ?_)))
                    (case aB => exact (K1 HB GE122.out))
                    (case aF => exact (fun k_ hk => Kd.fresh' (Kd.R_lt (KR HO_5)) k_ hk))
                    (case aO => exact (by (with_reducible repeat (first | apply Kd.R_alloc | apply Kd.R_drewN | apply Kd.R_drew)); exact Kd.R_mono HO126.out (fun _ hk => hk.2)))
                    (case aS => exact (below_size (K1 HB GE122.out)))
                    (case aL => have := LMc39.out; omega)
                    intro v133 w73 ho hb hg hat
                    have HS0_ := cell_grown hg (hHeld.1) (by first | (rw [add_block]; exact ((Kd.R_apart' HO_6.out (Kd.R_typed HO126.out) (by decide)).1 _ rfl).2) | (show some (Addr.add _ _).block ≠ _; rw [add_block]; exact ((Kd.R_apart' HO_6.out (Kd.R_typed HO126.out) (by decide)).1 _ rfl).2) | exact ((Kd.R_apart' HO_6.out (Kd.R_typed HO126.out) (by decide)).1 _ rfl).2)
                    have HS1_ := cell_grown hg (hHeld.2) (by first | (rw [add_block]; exact ((Kd.R_apart' HO_6.out (Kd.R_typed HO126.out) (by decide)).1 _ rfl).2) | (show some (Addr.add _ _).block ≠ _; rw [add_block]; exact ((Kd.R_apart' HO_6.out (Kd.R_typed HO126.out) (by decide)).1 _ rfl).2) | exact ((Kd.R_apart' HO_6.out (Kd.R_typed HO126.out) (by decide)).1 _ rfl).2)
                    rw [← Ny132.out] at ho
                    replace HO_6 := am (Kd.R_over' (KR HO_6) (Kd.R_typed (KR HO126)) (by decide) hg)
                    replace BK122 := am (blk_grown (g := gb122) (o := .cells #[.int .i64 t119, .int .i64 t120, .int .i64 t121] 60 (0, 0)) (KB BK122) hg (Kd.R_ne HO126.out BK122.out (by decide)))
                    replace HB := am (hb)
                    replace HR131 := am ((show Kd.C k71 w73 Ao10 y128.length y128 from by rw [Ny128.out]; exact Kd.C_take (m := ((rd t104 x10_3) : Int).toNat) ((Kd.R_reads' (Kd.R_after (ok := (fun _ => True)) (KR HO_5) hg hat)).2.2) KL69.out))
                    replace HR139 := am ((show Kd.C k71 w73 A70 y136.length y136 from by rw [Ny136.out, KA70.out]; exact Kd.C_drop (m := ((ji40) : Int).toNat) (c := co10) ((Kd.R_reads' (Kd.R_after (ok := (fun _ => True)) (KR HO_5) hg hat)).2.2) KL70.out ((Kd.R_reads' (Kd.R_after (ok := (fun _ => True)) (KR HO_5) hg hat)).2.1)))
                    replace HO_5 := am (Kd.R_after (ok := (fun _ => True)) (KR HO_5) hg hat)
                    have HO134 := am (ho)
                    clear HO126
                    clear ho hb hg hat
                    refine hK.out _ _ ⟨HS0_, HS1_⟩ (fun hHeld => ?_)
                    clear hK K
                    refine norm_ (a' := ?_) ?_ ?_
                    rotate_left
                    ·show Act.put _ (some 61) _ = _
                     simp only [Act.put, List.setIfInBounds_toArray, List.set_cons_zero, List.set_cons_succ, i64_w, i32_w]
                     rfl
                    refine last_ (i := 15) (N := some 69) (tf 16 1) rfl rfl (one_of HT_.out (by kernel_rfl)) (by decide) (fun K hK => ?_)
                    refine Kd.R_append_rows_step k71 (w0 := w) w.heap.size (by rfl) (.tmp 61) (.tmp 68) 52 71 (.agg #[(.int .i64 0), (.int .i64 0), (.int .i64 0), (.int .i64 0), (.int .i64 0), (.int .i64 0), (.int .i64 0), (.int .i64 0)]) 64 rfl Try.underlying52 info71 rfl (by decide) (by omega) v133 y132 y136 _ _ _ (fun k_ => some k_ ≠ (.slice Ao10 t101.length co10 : Value).ownBlock) (fun _ => False) rfl rfl ?aO ?aR (fun _ _ h => h) (fun _ h => h.elim) ?aF ?aB ?aS ?aL ?_
                    (case aR => repeat (first | exact (by repeat (first | (with_reducible exact HR139.out) | (with_reducible refine Kd.C_alloc ?_ _) | (with_reducible refine Kd.C_drewN ?_ _) | (with_reducible refine Kd.C_drew ?_) | exact HR139.out)) | (with_reducible refine Kd.C_alloc ?_ _) | (with_reducible refine Kd.C_drewN ?_ _) | (with_reducible refine Kd.C_drew ?_)))
                    (case aB => exact (K1 HB GE122.out))
                    (case aF => exact (fun k_ hk => Kd.fresh' (Kd.R_lt (KR HO_5)) k_ hk))
                    (case aO => exact (KR HO134))
                    (case aS => exact (below_size (K1 HB GE122.out)))
                    (case aL => have := LMc43.out; omega)
                    intro v141 w74 ho hb hg hat
                    rw [← Ny140.out] at ho
                    replace HO_6 := am (Kd.R_over' (KR HO_6) (Kd.R_typed (KR HO134)) (by decide) hg)
                    replace BK122 := am (blk_grown (g := gb122) (o := .cells #[.int .i64 t119, .int .i64 t120, .int .i64 t121] 60 (0, 0)) (KB BK122) hg (Kd.R_ne HO134.out BK122.out (by decide)))
                    replace HB := am (hb)
                    replace HR131 := am ((show Kd.C k71 w74 Ao10 y128.length y128 from by rw [Ny128.out]; exact Kd.C_take (m := ((rd t104 x10_3) : Int).toNat) ((Kd.R_reads' (Kd.R_after (ok := (fun _ => True)) (KR HO_5) hg hat)).2.2) KL69.out))
                    replace HR139 := am ((show Kd.C k71 w74 A70 y136.length y136 from by rw [Ny136.out, KA70.out]; exact Kd.C_drop (m := ((ji40) : Int).toNat) (c := co10) ((Kd.R_reads' (Kd.R_after (ok := (fun _ => True)) (KR HO_5) hg hat)).2.2) KL70.out ((Kd.R_reads' (Kd.R_after (ok := (fun _ => True)) (KR HO_5) hg hat)).2.1)))
                    replace HO_5 := am (Kd.R_after (ok := (fun _ => True)) (KR HO_5) hg hat)
                    have HO142 := am (ho)
                    clear HO134
                    clear ho hb hg hat
                    refine hK.out _ _ ?_
                    clear hK K
                    refine norm_ (a' := ?_) ?_ ?_
                    rotate_left
                    ·show Act.put _ (some 69) _ = _
                     simp only [Act.put, List.setIfInBounds_toArray, List.set_cons_zero, List.set_cons_succ, i64_w, i32_w]
                     rfl
                    refine pv HT_ 16 11 (tf 17 0) ?_
                    refine done_ (done_of HT_.out (by kernel_rfl)) ?_
                    obtain ⟨Ao75, co75, eo75⟩ := Kd.R_slice HO142.out
                    subst eo75
                    try go_wp2_with (first | ((with_reducible refine gate_callee (f := 40) rfl ?_); refine goesL_ (some 73) rfl rfl Try.func40 (by kernel_rfl) rfl #[.slice Ao10 t101.length co10, .slice Ao75 y140.length co75] rfl MT ?_; (with_reducible refine (impl_RulesDiffer.calls k3 _ _ t101 _ _ y140 t143 t144 t145 false _ ?side1 ?side2 ?side3 ?side4 A44.out).mono ?_); (case side1 => exact KC (Kd.R_reads' HO_5.out).2.2); (case side2 => exact (Kd.R_reads' HO_5.out).2.1); (case side3 => exact KC (Kd.R_reads' HO142.out).2.2); (case side4 => exact (Kd.R_reads' HO142.out).2.1); rintro e w76 ⟨rfl, hb⟩; refine ⟨_, rfl, ?_⟩; replace HO_5 := am (Kd.R_below (KR HO_5) hb); replace HO_6 := am (Kd.R_below (KR HO_6) hb); replace HO142 := am (Kd.R_below (KR HO142) hb); replace BK122 := am (BB BK122 hb); replace HR131 := am (Kd.C_below (by repeat (first | (with_reducible exact HR131.out) | (with_reducible refine Kd.C_alloc ?_ _) | (with_reducible refine Kd.C_drewN ?_ _) | (with_reducible refine Kd.C_drew ?_) | exact HR131.out)) hb); replace HR139 := am (Kd.C_below (by repeat (first | (with_reducible exact HR139.out) | (with_reducible refine Kd.C_alloc ?_ _) | (with_reducible refine Kd.C_drewN ?_ _) | (with_reducible refine Kd.C_drew ?_) | exact HR139.out)) hb); replace HB := am (below_step (K1 HB GE122.out) hb); (try clear hb); (try clear hb2); (try clear hk); (try clear hi)) | ((with_reducible refine gate_dst (N := 12) rfl ?_); (try (refine gate_guard (by rfl) ?_; dsimp only)); refine box_event rfl (N := 12) rfl (cs := #[.int .i64 0, .int .i64 0, .int .i64 0]) (t := 60) BX ?_; intro gb147 hg w77 hbox hb; replace HO_5 := am (Kd.R_below (KR HO_5) hb); replace HO_6 := am (Kd.R_below (KR HO_6) hb); replace HO142 := am (Kd.R_below (KR HO142) hb); replace HR131 := am (Kd.C_below (by repeat (first | (with_reducible exact HR131.out) | (with_reducible refine Kd.C_alloc ?_ _) | (with_reducible refine Kd.C_drewN ?_ _) | (with_reducible refine Kd.C_drew ?_) | exact HR131.out)) hb); replace HR139 := am (Kd.C_below (by repeat (first | (with_reducible exact HR139.out) | (with_reducible refine Kd.C_alloc ?_ _) | (with_reducible refine Kd.C_drewN ?_ _) | (with_reducible refine Kd.C_drew ?_) | exact HR139.out)) hb); have BK147 := am (hbox); have GW147 := am (GH1 HB GE122.out hg); have GE147 := GW147; replace HB := am (below_step (K1 HB GE122.out) hb); have NB122_147 := am (NL BK122 hg); have NB147_122 := am (NG BK122 hg); replace BK122 := am (BB BK122 hb); clear hb hbox hg; have hnb78 := NB147_122.out; have hnc78 := NB122_147.out; obtain ⟨hcz79_0, hcz79_1, hcz79_2, hfz79_0⟩ := y3 w77 BK147.out))
                    generalize hq_ : (((w77.setCell ⟨gb147, 0, none⟩ (.int .i64 t143)).setCell ⟨gb147, 1, none⟩ (.int .i64 t144)).setCell ⟨gb147, 2, none⟩ (.int .i64 t145)) = w80
                    have n0_ : Aside0 (Kd.R k71 71 w80 w.heap.size (fun k_ => some k_ ≠ (.slice Ao75 y140.length co75 : Value).ownBlock) (.slice Ao10 t101.length co10) t101) := ⟨by rw [← hq_]; (with_reducible repeat (first | apply Kd.R_alloc | apply Kd.R_drewN | apply Kd.R_drew)); exact Kd.R_mono (Kd.R_far (p := ⟨gb147, 2, none⟩) (Kd.R_far (p := ⟨gb147, 1, none⟩) (Kd.R_far (p := ⟨gb147, 0, none⟩) (Kd.R_types HO_5.out BK147.out (by decide)) (fun _ hk => hk.2) (.int .i64 t143)) (fun _ hk => hk.2) (.int .i64 t144)) (fun _ hk => hk.2) (.int .i64 t145)) (fun _ hk => hk.1.2)⟩
                    have n1_ : Aside0 (Kd.R (Kd.int .i64) 3 w80 w.heap.size (fun _ => True) (.slice (some ad127) t104.length co67) t104) := ⟨by rw [← hq_]; (with_reducible repeat (first | apply Kd.R_alloc | apply Kd.R_drewN | apply Kd.R_drew)); exact Kd.R_mono (Kd.R_far (p := ⟨gb147, 2, none⟩) (Kd.R_far (p := ⟨gb147, 1, none⟩) (Kd.R_far (p := ⟨gb147, 0, none⟩) (Kd.R_types HO_6.out BK147.out (by decide)) (fun _ hk => hk.2) (.int .i64 t143)) (fun _ hk => hk.2) (.int .i64 t144)) (fun _ hk => hk.2) (.int .i64 t145)) (fun _ hk => trivial)⟩
                    have n2_ : Aside0 (Kd.R k71 71 w80 w.heap.size (fun k_ => some k_ ≠ (.slice Ao10 t101.length co10 : Value).ownBlock) (.slice Ao75 y140.length co75) y140) := ⟨by rw [← hq_]; (with_reducible repeat (first | apply Kd.R_alloc | apply Kd.R_drewN | apply Kd.R_drew)); exact RF HO142.out BK147.out⟩
                    have n3_ : Aside0 (w80.heap[gb122]? = some (.cells #[.int .i64 t119, .int .i64 t120, .int .i64 t121] 60 (0, 0))) := ⟨by rw [← hq_]; (with_reducible repeat (first | refine blk_drewN ?_ _ | refine blk_drew ?_ | refine blk_alloc ?_ _)); refine blk_far ?_ NB122_147.out _; (with_reducible repeat (first | refine blk_drewN ?_ _ | refine blk_drew ?_ | refine blk_alloc ?_ _)); refine blk_far ?_ NB122_147.out _; (with_reducible repeat (first | refine blk_drewN ?_ _ | refine blk_drew ?_ | refine blk_alloc ?_ _)); refine blk_far ?_ NB122_147.out _; (with_reducible repeat (first | refine blk_drewN ?_ _ | refine blk_drew ?_ | refine blk_alloc ?_ _)); exact BK122.out⟩
                    have n4_ : Aside0 (w80.heap[gb147]? = some (.cells #[.int .i64 t143, .int .i64 t144, .int .i64 t145] 60 (0, 0))) := ⟨by rw [← hq_]; exact P3 BK147⟩
                    have n5_ : Aside0 (Below w.heap.size w w80) := ⟨by rw [← hq_]; exact K2 HB GE122.out GE147.out⟩
                    clear hq_
                    (try clear HO_5)
                    (try clear HO_6)
                    (try clear HO142)
                    (try clear BK122)
                    (try clear BK147)
                    (try clear HB)
                    have HO_5 := n0_
                    have HO_6 := n1_
                    have HO142 := n2_
                    have BK122 := n3_
                    have BK147 := n4_
                    have HB := n5_
                    clear n0_ n1_ n2_ n3_ n4_ n5_
                    replace HO_5 := am (Kd.R_drew HO_5.out)
                    replace HO_6 := am (Kd.R_drew HO_6.out)
                    replace HO142 := am (Kd.R_drew HO142.out)
                    replace BK122 := am (blk_drew BK122.out)
                    replace BK147 := am (blk_drew BK147.out)
                    replace HB := am (below_drew1 HB.out)
                    have p148 : 0 ≤ (x10_3 : Int) := OD
                    have q148 : x10_3 < (t104.length : Int) := OD
                    obtain ⟨ad148, e148, hx148_0⟩ := Kd.at_int (Kd.R_reads' HO_6.out).2.2 x10_3 p148 q148
                    obtain rfl : ad127 = ad148 := (by injection e148)
                    replace p148 := eq_true p148
                    replace q148 := eq_true q148
                    refine start_ (n := 25) (S := fun w' => w'.cell? (ad127.add (x10_3).toNat) = some (.int .i64 (rd t104 x10_3))) (ds := []) (tf 0 25) (by kernel_rfl) rfl rfl (hx148_0) (fun hHeld => ?_); refine with_tabW laws_FnRulesDead.tab14 laws_FnRulesDead.bits14 (fun HT_ HW_ => ?_)
                    generalize w80.drew = w81 at HO_5 HO_6 HO142 BK122 BK147 HB hx148_0 hHeld ⊢
                    refine pv HT_ 0 76 (tf 1 24) ?_
                    refine pv HT_ 1 77 (tf 2 23) ?_
                    refine pv HT_ 2 78 (tf 3 22) ?_
                    refine pv HT_ 4 80 (tr [3, 1, 1, 20]) ?_
                    refine tk 3 (some 79) (tf 5 20) (take_ofW HT_.out HW_.out (by kernel_rfl)) hHeld ?_
                    refine pv HT_ 5 81 (tf 6 19) ?_
                    refine pv HT_ 6 82 (tf 7 18) ?_
                    refine pv HT_ 7 83 (tf 8 17) ?_
                    refine pv HT_ 8 84 (tf 9 16) ?_
                    refine pv HT_ 9 85 (tf 10 15) ?_
                    refine pv HT_ 10 86 (tf 11 14) ?_
                    refine pv HT_ 11 87 (tf 12 13) ?_
                    refine pv HT_ 12 88 (tf 13 12) ?_
                    refine pw HT_ 13 89 (tf 14 11) ?_
                    refine pw HT_ 14 90 (tf 15 10) ?_
                    refine pw HT_ 15 91 (tf 16 9) ?_
                    refine pw HT_ 16 92 (tf 17 8) ?_
                    refine pw HT_ 17 93 (tf 18 7) ?_
                    refine pw HT_ 18 94 (tf 19 6) ?_
                    refine pw HT_ 19 95 (tf 20 5) ?_
                    refine pw HT_ 20 96 (tf 21 4) ?_
                    refine pw HT_ 21 97 (tf 22 3) ?_
                    refine pw HT_ 22 98 (tf 23 2) ?_
                    refine pv HT_ 23 99 (tf 24 1) ?_
                    refine pv HT_ 24 100 (tf 25 0) ?_
                    refine done_ (done_of HT_.out (by kernel_rfl)) ?_
                    try go_wp2
                    go_roundg k3
                    case measure => have := HJ2.out; have := HJ7.out; have := HK3.out; omega
                    case rel => exact ⟨(wrap64 (x10_3 + 1)), (by first | rfl | (simp; done) | (simp [*]; done)), H', ⟨by have := HJ2.out; have := HJ7.out; have := HK3.out; omega⟩, ⟨by (with_reducible repeat (first | apply Kd.R_alloc | apply Kd.R_drewN | apply Kd.R_drew)); exact Kd.R_mono HO_5.out (fun _ hk => trivial)⟩, ⟨KR HO_6⟩, ⟨KB BK122⟩, ⟨K2 HB GE122.out GE147.out⟩⟩
                ·rw [if_neg c43] at H
                 exact absurd H (by simp)
               ·rw [if_neg c42] at H
                exact absurd H (by simp)
              ·rw [if_neg c41] at H
               exact absurd H (by simp)
             ·rw [if_neg c39] at H
              exact absurd H (by simp)
            ·rw [if_neg c38] at H
             exact absurd H (by simp)
           ·rw [if_neg c37] at H
            exact absurd H (by simp)
          ·rw [if_neg c36] at H
           exact absurd H (by simp)
         ·rw [if_neg c35] at H
          have c35b0 : decide (x10_3 < (t104.length : Int)) = false := decide_eq_false c35
          clear c35
          replace H := Option.bind_eq_some_iff.mp H
          obtain ⟨t151, A820, H⟩ := H
          replace H : (some ((t151.length : Int) == 0)) = some r := H
          have A82 := Aside0.mk A820
          clear A820
          obtain rfl := Option.some.inj H
          obtain ⟨Ao83, co83, eo83⟩ := Kd.R_slice HO_6.out
          subst eo83
          go_wp2_with (first | ((with_reducible refine gate_callee (f := 33) rfl ?_); refine goesL_ (some 101) rfl rfl Try.func33 (by kernel_rfl) rfl #[.slice none 0 0] rfl MT ?_; (refine (impl_RulesDead.calls k3 _ _ ([] : List (S71)) t151 _ ?side1 ?side2 A82.out).mono ?_); (case side1 => exact Kd.C_nil _ _); (case side2 => exact Nat.le_refl _); rintro e w84 ⟨v152, rfl, ho0, hb⟩; refine ⟨_, rfl, ?_⟩; replace HO_5 := am (Kd.R_below (KR HO_5) hb); have HO153 := am (Kd.R_lower (Kd.R_new' ho0 (Kd.R_lt (KR HO_6))) (below_size (K1 HB GE122.out))); replace HO_6 := am (Kd.R_elder' (KR HO_6) (Kd.R_base ho0) hb); replace BK122 := am (BB BK122 hb); replace HB := am (below_step (K1 HB GE122.out) hb); (try clear hb); (try clear ho0); obtain ⟨Ao85, co85, eo85⟩ := Kd.R_slice HO153.out; subst eo85))
          go_ret
          exact ⟨ER, K1 HB GE122.out⟩
/-- THE ONE PURE STATEMENT of laws_FnRulesDead: yours. -/
def laws_FnRulesDead.Pure : Prop := ∀ (l0 : List Int) (l1 : List Int), l0.length ≤ maxLen → l0.length * 1 ≤ 140737488351232 → (∀ x ∈ l0, (Lit.int .u8 x).wf = true) → l1.length ≤ maxLen → l1.length * 1 ≤ 140737488351232 → (∀ x ∈ l1, (Lit.int .u8 x).wf = true) → ∃ k, laws_FnRulesDead.f k l0 l1 = some true
theorem laws_FnRulesDead.walk (P : laws_FnRulesDead.Pure) (a0 : Option Addr) (len0 cap0 : Nat) (z0 : List Int) (a1 : Option Addr) (len1 cap1 : Nat) (z1 : List Int) (w : World) (w0 : (a0 = none ∧ len0 = 0 ∧ cap0 = 0 ∧ z0 = []) ∨ ∃ x, a0 = some x ∧ len0 ≤ cap0 ∧ cap0 ≤ maxLen ∧ z0.length = cap0 ∧ (∀ i, i < z0.length → w.cell? (x.add i) = some (.int .u8 (z0.getD i 0))) ∧ ∀ n ∈ z0, (Lit.int .u8 n).wf = true) (y0 : len0 * 1 ≤ 140737488351232) (w1 : (a1 = none ∧ len1 = 0 ∧ cap1 = 0 ∧ z1 = []) ∨ ∃ x, a1 = some x ∧ len1 ≤ cap1 ∧ cap1 ≤ maxLen ∧ z1.length = cap1 ∧ (∀ i, i < z1.length → w.cell? (x.add i) = some (.int .u8 (z1.getD i 0))) ∧ ∀ n ∈ z1, (Lit.int .u8 n).wf = true) (y1 : len1 * 1 ≤ 140737488351232) :
  Calls Try.prog 10 #[.slice a0 len0 cap0, .slice a1 len1 cap1] w fun e w' => e = .returned (.bool true) ∧ Below w.heap.size w w' := by
 obtain ⟨l0, rfl, hr0, hm0, hw0, hc0⟩ := ReadsInt.ofRowC w0
 obtain ⟨l1, rfl, hr1, hm1, hw1, hc1⟩ := ReadsInt.ofRowC w1
 obtain ⟨k, h⟩ := P l0 l1 hm0 y0 hw0 hm1 y1 hw1
 refine (laws_FnRulesDead.calls k _ _ l0 _ _ l1 true w (Kd.C_of_reads (d := (0 : Int)) (h1 := fun _ => rfl) hr0) hc0 (Kd.C_of_reads (d := (0 : Int)) (h1 := fun _ => rfl) hr1) hc1 rfl h).mono ?_
 rintro e w' ⟨rfl, hd⟩
 exact ⟨rfl, hd⟩
end Go.Proofs.Ytkgbgaojglcaoaa.PAll
end
