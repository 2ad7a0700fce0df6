/- Contracts of the functions that the statement reaches, printed by a program out of the translation and joined with the plain laws. -/
import Derived.Test.YtkgbgaojglcaoaaCFnWaysLess3
import Derived.Test.YtkgbgaojglcaoaaCFnWaysLess4
section
namespace Go.Proofs.Ytkgbgaojglcaoaa.PAll
open Go.RowKit Go.Proofs.YtkgbgaojglcaoaaW.PrintWords Go.Proofs.YtkgbgaojglcaoaaW.PrintLast Go.Proofs.YtkgbgaojglcaoaaW.PrintMore
attribute [local go_sem] max2_int min2_int max_two min_two max_three min_three max_four min_four   -- for this text's walks alone
set_option linter.unusedVariables false
set_option linter.unusedSimpArgs false
def impl_Block_size.f (a0_0 : Int) (a0_1 : Int) : Option (Int) := if 0 ≤ (wrap64 (32 - a0_1)) then (some (shl .i64 1 (wrap64 (32 - a0_1)))) else (none)
set_option maxHeartbeats 8000000 in
set_option maxRecDepth 100000 in
theorem impl_Block_size.calls (a0_0 : Int) (a0_1 : Int) (r : Int) (w : World) (h : impl_Block_size.f a0_0 a0_1 = some r) :
  Calls Try.prog 123 #[.agg #[.int .i64 a0_0, .int .i64 a0_1]] w fun e w' => e = .returned (.int .i64 r) ∧ Below w.heap.size w w' := by
 have hu43 := Try.underlying43
 have HB := am (Below.refl w.heap.size w)
 have H : (if 0 ≤ (wrap64 (32 - a0_1)) then (some (shl .i64 1 (wrap64 (32 - a0_1)))) else (none)) = some r := h
 clear h
 obtain ⟨ji2, hji2⟩ : ∃ j_ : Int, (wrap64 (32 - a0_1)) = j_ := ⟨_, rfl⟩
 replace H : (if 0 ≤ (ji2) then (some (shl .i64 1 (ji2))) else (none)) = some r := by first | (rw [hji2] at H; exact H) | (simp only [hji2] at H ⊢; exact H)
 have hji2w : (IntKind.i64.wrap (32 - a0_1)) = ji2 := (i64_w _).trans hji2
 by_cases c3 : 0 ≤ (ji2)
 ·rw [if_pos c3] at H
  have c3b0 := eq_true c3
  have c3b1 : decide (0 ≤ (ji2)) = true := decide_eq_true c3
  clear c3
  obtain ⟨ji4, hji4⟩ : ∃ j_ : Int, (shl .i64 1 (ji2)) = j_ := ⟨_, rfl⟩
  replace H : (some ji4) = some r := by first | (rw [hji4] at H; exact H) | (simp only [hji4] at H ⊢; exact H)
  have hji4_ : (IntKind.i64.wrap (1 * 2 ^ min (ji2).toNat 64)) = ji4 := hji4
  have hji4z : (ji2) ≤ 64 → (IntKind.i64.wrap (1 * 2 ^ (ji2).toNat)) = ji4 := shl_small hji4
  have hji4u : (IntKind.i64.wrap (2 ^ min (ji2).toNat 64)) = ji4 := by have h_ := hji4_; rw [Int.one_mul] at h_; exact h_
  have hji4v : (ji2) ≤ 64 → (IntKind.i64.wrap (2 ^ (ji2).toNat)) = ji4 := fun hle_ => by have h_ := hji4z hle_; rw [Int.one_mul] at h_; exact h_
  have hji4y : (wrap64 (1 * 2 ^ min (ji2).toNat 64)) = ji4 := (i64_w _).symm.trans hji4_
  have hji4x : (ji2) ≤ 64 → (wrap64 (1 * 2 ^ (ji2).toNat)) = ji4 := fun h_ => (i64_w _).symm.trans (hji4z h_)
  obtain rfl := Option.some.inj H
  go_enter Try.func123, Try.ntmps123
  go_wp2_with (first | ((with_reducible refine gate_dst (N := 1) rfl ?_); refine box_event rfl (N := 1) rfl (cs := #[.int .i64 a0_0, .int .i64 a0_1]) (t := 43) BX ?_; intro gb101 hg w5 hbox hb; have BK101 := am (hbox); have GW101 := am (GH HB hg); have GE101 := GW101; replace HB := am (below_step (KL HB) hb); clear hb hbox hg; obtain ⟨hcz6_0, hcz6_1, hfz6_0⟩ := y2 w5 BK101.out))
  go_ret
  exact ⟨by first | rfl | (simp [errW_none, errW_some] <;> rfl) | (simp only [← hji2, ← hji4]; first | rfl | (simp [errW_none, errW_some] <;> rfl)) | (simp [*, errW_none, errW_some] <;> rfl), K1 HB GE101.out⟩
 ·rw [if_neg c3] at H
  exact absurd H (by simp)
def impl_isAddr.f (a0 : Int) : Option (Bool) := (impl_in.f a0 0 4294967295).bind fun t101 => (some t101)
set_option maxHeartbeats 8000000 in
set_option maxRecDepth 100000 in
theorem impl_isAddr.calls (a0 : Int) (r : Bool) (w : World) (h : impl_isAddr.f a0 = some r) :
  Calls Try.prog 74 #[.int .i64 a0] w fun e w' => e = .returned (.bool r) ∧ Drawn0 w w' := by
 have H : ((impl_in.f a0 0 4294967295).bind fun t101 => (some t101)) = some r := h
 clear h
 replace H := Option.bind_eq_some_iff.mp H
 obtain ⟨t101, A20, H⟩ := H
 replace H : (some t101) = some r := H
 have A2 := Aside0.mk A20
 clear A20
 obtain rfl := Option.some.inj H
 go_enter Try.func74, Try.ntmps74
 go_wp2_with (first | ((with_reducible refine gate_callee (f := 81) rfl ?_); refine goesL_ (some 4) rfl rfl Try.func81 (by kernel_rfl) rfl #[.int .i64 a0, .int .i64 0, .int .i64 4294967295] rfl MT ?_; (with_reducible refine (impl_in.calls a0 0 4294967295 t101 _ A2.out).mono ?_); rintro e w' ⟨rfl, ⟨nd, rfl⟩⟩; refine ⟨_, rfl, ?_⟩))
 go_ret
 exact ⟨by first | rfl | (simp; done) | (simp [*]; done), by repeat (first | exact Drawn0.refl _ | apply Drawn0.step)⟩
def impl_BlockOk.f (a0_0 : Int) (a0_1 : Int) : Option (Bool) := (impl_isAddr.f a0_0).bind fun t102 => (if t102 = true then ((impl_in.f a0_1 0 32).bind fun t103 => (if t103 = true then ((impl_Block_size.f a0_0 a0_1).bind fun t104 => (if t104 = 0 then (none) else (some ((Int.tmod a0_0 t104) == 0)))) else (some false))) else (some false))
def impl_BlockOk.T1 : Bool × List (List Nat × List Nat) := (true, [([], []), ([0], [0]), ([1], [1]), ([2, 2], [2]), ([3], [3]), ([4, 3], [3, 4]), ([5, 3, 3], [3, 5]), ([3, 6], [3, 6]), ([7, 6], [7]), ([8], [8]), ([9, 8], [8, 9]), ([8], [8]), ([11, 8, 8], [8, 11]), ([10, 12, 8], [8, 10, 12]), ([13, 8], [8, 13]), ([8, 14], [8, 14]), ([15, 12, 0, 1, 2, 3, 4, 5, 6, 7, 8, 9, 10, 11, 12, 13, 14, 15], [15])])
def impl_BlockOk.B1 : List Nat := [0, 1, 3, 7, 15, 31, 63, 127, 255, 511, 1023, 511, 2559, 8191, 16383, 32767, 65535]
theorem impl_BlockOk.tab1 : rtab .any (opsOf Try.f79 1) = impl_BlockOk.T1 := by kernel_rfl
theorem impl_BlockOk.bits1 : waitsOk impl_BlockOk.T1.2 impl_BlockOk.B1 = true := by kernel_rfl
set_option maxHeartbeats 8000000 in
set_option maxRecDepth 100000 in
theorem impl_BlockOk.calls (a0_0 : Int) (a0_1 : Int) (r : Bool) (w : World) (h : impl_BlockOk.f a0_0 a0_1 = some r) :
  Calls Try.prog 79 #[.agg #[.int .i64 a0_0, .int .i64 a0_1]] w fun e w' => e = .returned (.bool r) ∧ Below w.heap.size w w' := by
 have hu43 := Try.underlying43
 have HB := am (Below.refl w.heap.size w)
 have H : ((impl_isAddr.f a0_0).bind fun t102 => (if t102 = true then ((impl_in.f a0_1 0 32).bind fun t103 => (if t103 = true then ((impl_Block_size.f a0_0 a0_1).bind fun t104 => (if t104 = 0 then (none) else (some ((Int.tmod a0_0 t104) == 0)))) else (some false))) else (some false))) = some r := h
 clear h
 replace H := Option.bind_eq_some_iff.mp H
 obtain ⟨t102, A20, H⟩ := H
 replace H : (if t102 = true then ((impl_in.f a0_1 0 32).bind fun t103 => (if t103 = true then ((impl_Block_size.f a0_0 a0_1).bind fun t104 => (if t104 = 0 then (none) else (some ((Int.tmod a0_0 t104) == 0)))) else (some false))) else (some false)) = some r := H
 have A2 := Aside0.mk A20
 clear A20
 by_cases c3 : t102 = true
 ·subst c3
  have H1 : ((impl_in.f a0_1 0 32).bind fun t103 => (if t103 = true then ((impl_Block_size.f a0_0 a0_1).bind fun t104 => (if t104 = 0 then (none) else (some ((Int.tmod a0_0 t104) == 0)))) else (some false))) = some r := by rw [if_pos rfl] at H; exact H
  clear H
  have H := H1
  clear H1
  replace H := Option.bind_eq_some_iff.mp H
  obtain ⟨t103, A40, H⟩ := H
  replace H : (if t103 = true then ((impl_Block_size.f a0_0 a0_1).bind fun t104 => (if t104 = 0 then (none) else (some ((Int.tmod a0_0 t104) == 0)))) else (some false)) = some r := H
  have A4 := Aside0.mk A40
  clear A40
  by_cases c5 : t103 = true
  ·subst c5
   have H1 : ((impl_Block_size.f a0_0 a0_1).bind fun t104 => (if t104 = 0 then (none) else (some ((Int.tmod a0_0 t104) == 0)))) = some r := by rw [if_pos rfl] at H; exact H
   clear H
   have H := H1
   clear H1
   replace H := Option.bind_eq_some_iff.mp H
   obtain ⟨t104, A60, H⟩ := H
   replace H : (if t104 = 0 then (none) else (some ((Int.tmod a0_0 t104) == 0))) = some r := H
   have A6 := Aside0.mk A60
   clear A60
   by_cases c7 : t104 = 0
   ·rw [if_pos c7] at H
    exact absurd H (by simp)
   ·rw [if_neg c7] at H
    have c7b0 : (t104 == 0) = false := beq_eq_false_iff_ne.mpr c7
    have c7b1 : (t104 != 0) = true := bne_iff_ne.mpr c7
    obtain rfl := Option.some.inj H
    go_enter Try.func79, Try.ntmps79
    try go_wp2_with (first | ((with_reducible refine gate_dst (N := 1) rfl ?_); refine box_event rfl (N := 1) rfl (cs := #[.int .i64 a0_0, .int .i64 a0_1]) (t := 43) BX ?_; intro gb101 hg w8 hbox hb; have BK101 := am (hbox); have GW101 := am (GH HB hg); have GE101 := GW101; replace HB := am (below_step (KL HB) hb); clear hb hbox hg))
    replace BK101 := am (blk_drew BK101.out)
    replace HB := am (below_drew1 HB.out)
    refine start_ (n := 17) (S := fun w' => de2 w' gb101 (.int .i64 a0_0) (.int .i64 a0_1)) (ds := []) (tf 0 17) (by kernel_rfl) rfl rfl ⟨z0 _ BK101.out, z1 _ BK101.out⟩ (fun hHeld => ?_); refine with_tabW impl_BlockOk.tab1 impl_BlockOk.bits1 (fun HT_ HW_ => ?_)
    generalize w8.drew = w9 at BK101 HB hHeld ⊢
    refine pv HT_ 0 3 (tf 1 16) ?_
    refine tk 1 (some 4) (tf 2 15) (take_ofW HT_.out HW_.out (by kernel_rfl)) hHeld ?_
    refine one_ (i := 2) (N := some 5) (tf 3 14) rfl rfl (one_of HT_.out (by kernel_rfl)) (by decide) (fun K hK => ?_)
    refine goes_ Try.func74 (by kernel_rfl) rfl #[.int .i64 a0_0] (by rfl) rfl rfl MT ?_
    with_reducible refine (impl_isAddr.calls a0_0 true _ A2.out).mono ?_
    rintro e w' ⟨rfl, ⟨nd, rfl⟩⟩
    refine ⟨_, rfl, ?_⟩
    refine hK.out _ _ ⟨z0 _ BK101.out, z1 _ BK101.out⟩ (fun hHeld => ?_)
    clear hK K
    refine norm_ (a' := ?_) ?_ ?_
    rotate_left
    ·show Act.put _ (some 5) _ = _
     simp only [Act.put, List.setIfInBounds_toArray, List.set_cons_zero, List.set_cons_succ, i64_w, i32_w]
     rfl
    refine pv HT_ 3 6 (tf 4 13) ?_
    refine pv HT_ 4 7 (tf 5 12) ?_
    refine tk 5 (some 8) (tf 6 11) (take_ofW HT_.out HW_.out (by kernel_rfl)) hHeld ?_
    refine one_ (i := 6) (N := some 9) (tf 7 10) rfl rfl (one_of HT_.out (by kernel_rfl)) (by decide) (fun K hK => ?_)
    refine goes_ Try.func81 (by kernel_rfl) rfl #[.int .i64 a0_1, .int .i64 0, .int .i64 32] (by rfl) rfl rfl MT ?_
    with_reducible refine (impl_in.calls a0_1 0 32 true _ A4.out).mono ?_
    rintro e w' ⟨rfl, ⟨nd, rfl⟩⟩
    refine ⟨_, rfl, ?_⟩
    refine hK.out _ _ ⟨z0 _ BK101.out, z1 _ BK101.out⟩ (fun hHeld => ?_)
    clear hK K
    refine norm_ (a' := ?_) ?_ ?_
    rotate_left
    ·show Act.put _ (some 9) _ = _
     simp only [Act.put, List.setIfInBounds_toArray, List.set_cons_zero, List.set_cons_succ, i64_w, i32_w]
     rfl
    refine pv HT_ 7 10 (tf 8 9) ?_
    refine pv HT_ 8 11 (tf 9 8) ?_
    refine pv HT_ 9 12 (tf 10 7) ?_
    refine tk 10 (some 13) (tf 11 6) (take_ofW HT_.out HW_.out (by kernel_rfl)) hHeld ?_
    refine tk 11 (some 14) (tf 12 5) (take_ofW HT_.out HW_.out (by kernel_rfl)) hHeld ?_
    refine one_ (i := 12) (N := some 15) (tf 13 4) rfl rfl (one_of HT_.out (by kernel_rfl)) (by decide) (fun K hK => ?_)
    refine goes_ Try.func123 (by kernel_rfl) rfl #[.agg #[.int .i64 a0_0, .int .i64 a0_1]] (by rfl) rfl rfl MT ?_
    with_reducible refine (impl_Block_size.calls a0_0 a0_1 t104 _ A6.out).mono ?_
    rintro e w10 ⟨rfl, hb⟩
    refine ⟨_, rfl, ?_⟩
    replace BK101 := am (BB BK101 hb)
    replace HB := am (below_step (K1 HB GE101.out) hb)
    (try clear hb)
    (try clear hb2)
    (try clear hk)
    (try clear hi)
    refine hK.out _ _ ⟨z0 _ BK101.out, z1 _ BK101.out⟩ (fun hHeld => ?_)
    clear hK K
    refine norm_ (a' := ?_) ?_ ?_
    rotate_left
    ·show Act.put _ (some 15) _ = _
     simp only [Act.put, List.setIfInBounds_toArray, List.set_cons_zero, List.set_cons_succ, i64_w, i32_w]
     rfl
    refine pv HT_ 13 16 (tf 14 3) ?_
    refine pv HT_ 14 17 (tf 15 2) ?_
    refine pv HT_ 15 18 (tf 16 1) ?_
    refine pv HT_ 16 2 (tf 17 0) ?_
    refine done_ (done_of HT_.out (by kernel_rfl)) ?_
    try go_wp2
    go_ret
    exact ⟨ER, K1 HB GE101.out⟩
  ·replace c5 := Bool.eq_false_iff.mpr c5
   subst c5
   have H1 : (some false) = some r := by rw [if_neg (show ¬ (false = true) by decide)] at H; exact H
   clear H
   have H := H1
   clear H1
   obtain rfl := Option.some.inj H
   go_enter Try.func79, Try.ntmps79
   try go_wp2_with (first | ((with_reducible refine gate_dst (N := 1) rfl ?_); refine box_event rfl (N := 1) rfl (cs := #[.int .i64 a0_0, .int .i64 a0_1]) (t := 43) BX ?_; intro gb101 hg w11 hbox hb; have BK101 := am (hbox); have GW101 := am (GH HB hg); have GE101 := GW101; replace HB := am (below_step (KL HB) hb); clear hb hbox hg))
   replace BK101 := am (blk_drew BK101.out)
   replace HB := am (below_drew1 HB.out)
   refine start_ (n := 17) (S := fun w' => de2 w' gb101 (.int .i64 a0_0) (.int .i64 a0_1)) (ds := []) (tf 0 17) (by kernel_rfl) rfl rfl ⟨z0 _ BK101.out, z1 _ BK101.out⟩ (fun hHeld => ?_); refine with_tabW impl_BlockOk.tab1 impl_BlockOk.bits1 (fun HT_ HW_ => ?_)
   generalize w11.drew = w12 at BK101 HB hHeld ⊢
   refine pv HT_ 0 3 (tf 1 16) ?_
   refine tk 1 (some 4) (tf 2 15) (take_ofW HT_.out HW_.out (by kernel_rfl)) hHeld ?_
   refine one_ (i := 2) (N := some 5) (tf 3 14) rfl rfl (one_of HT_.out (by kernel_rfl)) (by decide) (fun K hK => ?_)
   refine goes_ Try.func74 (by kernel_rfl) rfl #[.int .i64 a0_0] (by rfl) rfl rfl MT ?_
   with_reducible refine (impl_isAddr.calls a0_0 true _ A2.out).mono ?_
   rintro e w' ⟨rfl, ⟨nd, rfl⟩⟩
   refine ⟨_, rfl, ?_⟩
   refine hK.out _ _ ⟨z0 _ BK101.out, z1 _ BK101.out⟩ (fun hHeld => ?_)
   clear hK K
   refine norm_ (a' := ?_) ?_ ?_
   rotate_left
   ·show Act.put _ (some 5) _ = _
    simp only [Act.put, List.setIfInBounds_toArray, List.set_cons_zero, List.set_cons_succ, i64_w, i32_w]
    rfl
   refine pv HT_ 3 6 (tf 4 13) ?_
   refine pv HT_ 4 7 (tf 5 12) ?_
   refine tk 5 (some 8) (tf 6 11) (take_ofW HT_.out HW_.out (by kernel_rfl)) hHeld ?_
   refine one_ (i := 6) (N := some 9) (tf 7 10) rfl rfl (one_of HT_.out (by kernel_rfl)) (by decide) (fun K hK => ?_)
   refine goes_ Try.func81 (by kernel_rfl) rfl #[.int .i64 a0_1, .int .i64 0, .int .i64 32] (by rfl) rfl rfl MT ?_
   with_reducible refine (impl_in.calls a0_1 0 32 false _ A4.out).mono ?_
   rintro e w' ⟨rfl, ⟨nd, rfl⟩⟩
   refine ⟨_, rfl, ?_⟩
   refine hK.out _ _ ⟨z0 _ BK101.out, z1 _ BK101.out⟩ (fun hHeld => ?_)
   clear hK K
   refine norm_ (a' := ?_) ?_ ?_
   rotate_left
   ·show Act.put _ (some 9) _ = _
    simp only [Act.put, List.setIfInBounds_toArray, List.set_cons_zero, List.set_cons_succ, i64_w, i32_w]
    rfl
   refine pv HT_ 7 10 (tf 8 9) ?_
   refine pv HT_ 8 11 (tf 9 8) ?_
   refine pw HT_ 9 12 (tf 10 7) ?_
   refine pw HT_ 10 13 (tf 11 6) ?_
   refine pw HT_ 11 14 (tf 12 5) ?_
   refine pw HT_ 12 15 (tf 13 4) ?_
   refine pw HT_ 13 16 (tf 14 3) ?_
   refine pw HT_ 14 17 (tf 15 2) ?_
   refine pv HT_ 15 18 (tf 16 1) ?_
   refine pv HT_ 16 2 (tf 17 0) ?_
   refine done_ (done_of HT_.out (by kernel_rfl)) ?_
   try go_wp2
   go_ret
   exact ⟨ER, K1 HB GE101.out⟩
 ·replace c3 := Bool.eq_false_iff.mpr c3
  subst c3
  have H1 : (some false) = some r := by rw [if_neg (show ¬ (false = true) by decide)] at H; exact H
  clear H
  have H := H1
  clear H1
  obtain rfl := Option.some.inj H
  go_enter Try.func79, Try.ntmps79
  try go_wp2_with (first | ((with_reducible refine gate_dst (N := 1) rfl ?_); refine box_event rfl (N := 1) rfl (cs := #[.int .i64 a0_0, .int .i64 a0_1]) (t := 43) BX ?_; intro gb101 hg w13 hbox hb; have BK101 := am (hbox); have GW101 := am (GH HB hg); have GE101 := GW101; replace HB := am (below_step (KL HB) hb); clear hb hbox hg))
  replace BK101 := am (blk_drew BK101.out)
  replace HB := am (below_drew1 HB.out)
  refine start_ (n := 17) (S := fun w' => de2 w' gb101 (.int .i64 a0_0) (.int .i64 a0_1)) (ds := []) (tf 0 17) (by kernel_rfl) rfl rfl ⟨z0 _ BK101.out, z1 _ BK101.out⟩ (fun hHeld => ?_); refine with_tabW impl_BlockOk.tab1 impl_BlockOk.bits1 (fun HT_ HW_ => ?_)
  generalize w13.drew = w14 at BK101 HB hHeld ⊢
  refine pv HT_ 0 3 (tf 1 16) ?_
  refine tk 1 (some 4) (tf 2 15) (take_ofW HT_.out HW_.out (by kernel_rfl)) hHeld ?_
  refine one_ (i := 2) (N := some 5) (tf 3 14) rfl rfl (one_of HT_.out (by kernel_rfl)) (by decide) (fun K hK => ?_)
  refine goes_ Try.func74 (by kernel_rfl) rfl #[.int .i64 a0_0] (by rfl) rfl rfl MT ?_
  with_reducible refine (impl_isAddr.calls a0_0 false _ A2.out).mono ?_
  rintro e w' ⟨rfl, ⟨nd, rfl⟩⟩
  refine ⟨_, rfl, ?_⟩
  refine hK.out _ _ ⟨z0 _ BK101.out, z1 _ BK101.out⟩ (fun hHeld => ?_)
  clear hK K
  refine norm_ (a' := ?_) ?_ ?_
  rotate_left
  ·show Act.put _ (some 5) _ = _
   simp only [Act.put, List.setIfInBounds_toArray, List.set_cons_zero, List.set_cons_succ, i64_w, i32_w]
   rfl
  refine pv HT_ 3 6 (tf 4 13) ?_
  refine pw HT_ 4 7 (tf 5 12) ?_
  refine pw HT_ 5 8 (tf 6 11) ?_
  refine pw HT_ 6 9 (tf 7 10) ?_
  refine pv HT_ 7 10 (tf 8 9) ?_
  refine pv HT_ 8 11 (tf 9 8) ?_
  refine pw HT_ 9 12 (tf 10 7) ?_
  refine pw HT_ 10 13 (tf 11 6) ?_
  refine pw HT_ 11 14 (tf 12 5) ?_
  refine pw HT_ 12 15 (tf 13 4) ?_
  refine pw HT_ 13 16 (tf 14 3) ?_
  refine pw HT_ 14 17 (tf 15 2) ?_
  refine pv HT_ 15 18 (tf 16 1) ?_
  refine pv HT_ 16 2 (tf 17 0) ?_
  refine done_ (done_of HT_.out (by kernel_rfl)) ?_
  try go_wp2
  go_ret
  exact ⟨ER, K1 HB GE101.out⟩
def cmp_Or_int.l0 : Nat → Int → List Int → Int → Int → Option (Int)
 | 0, _, _, _, _ => none
 | k + 1, x3, x6, x7, x8 => if x8 < x7 then (if 0 ≤ x8 then (if x8 < (x6.length : Int) then (if (rd x6 x8) = x3 then (cmp_Or_int.l0 k x3 x6 x7 (wrap64 (x8 + 1))) else (some (rd x6 x8))) else (none)) else (none)) else (some x3)
def cmp_Or_int.f (k : Nat) (l0 : List Int) : Option (Int) := cmp_Or_int.l0 k 0 l0 (l0.length : Int) 0
set_option maxHeartbeats 8000000 in
set_option maxRecDepth 100000 in
theorem cmp_Or_int.calls (k : Nat) (A0 : Option Addr) (c0 : Nat) (l0 : List Int) (r : Int) (w : World) (hr0 : Kd.C (Kd.int .i64) w A0 l0.length l0) (hc0 : l0.length ≤ c0) (h : cmp_Or_int.f k l0 = some r) :
  Calls Try.prog 124 #[.slice A0 l0.length c0] w fun e w' => e = .returned (.int .i64 r) ∧ Drawn0 w w' := by
 have HR0 := Aside0.mk hr0
 have HC0 := Aside0.mk hc0
 clear hr0 hc0
 have H : (cmp_Or_int.l0 k 0 l0 (l0.length : Int) 0) = some r := h
 clear h
 have H' := Aside0.mk H
 clear H
 go_enter Try.func124, Try.ntmps124
 go_wp2
 go_loopg [8] k (fun kq v8 w' => ∃ (x8_1 : Int), v8 = .int .i64 x8_1 ∧ Aside0 (cmp_Or_int.l0 kq 0 l0 (l0.length : Int) x8_1 = some r) ∧ Aside0 (kq ≤ k) ∧ Drawn0 w w')
 case atStart => exact ⟨(0), (by first | rfl | (simp; done) | (simp [*]; done)), H', ⟨Nat.le_refl _⟩, by repeat (first | exact Drawn0.refl _ | apply Drawn0.step)⟩
 case round =>
  clear H'
  try clear c1
  obtain ⟨x8_1, rfl, HA, HK1, ⟨m1, rfl⟩⟩ := hrel
  cases gk with
  | zero => exact absurd HA.out (by simp [cmp_Or_int.l0])
  | succ k1 =>
   have H := HA.out
   clear HA
   simp only [cmp_Or_int.l0] at H
   by_cases c2 : x8_1 < (l0.length : Int)
   ·rw [if_pos c2] at H
    have c2b0 : decide (x8_1 < (l0.length : Int)) = true := decide_eq_true c2
    clear c2
    by_cases c3 : 0 ≤ x8_1
    ·rw [if_pos c3] at H
     have c3b0 : decide (0 ≤ x8_1) = true := decide_eq_true c3
     clear c3
     by_cases c4 : x8_1 < (l0.length : Int)
     ·rw [if_pos c4] at H
      have c4b0 : decide (x8_1 < (l0.length : Int)) = true := decide_eq_true c4
      clear c4
      by_cases c5 : (rd l0 x8_1) = 0
      ·rw [if_pos c5] at H
       have c5b0 : ((rd l0 x8_1) == 0) = true := beq_iff_eq.mpr c5
       have c5b1 : ((rd l0 x8_1) != 0) = false := bne_eq_false_iff_eq.mpr c5
       clear c5
       have H' := Aside0.mk H
       clear H
       have p101 : 0 ≤ (x8_1 : Int) := OD
       have q101 : x8_1 < (l0.length : Int) := OD
       obtain ⟨ad101, e101, hx101_0⟩ := Kd.at_int HR0.out x8_1 p101 q101
       cases e101
       replace p101 := eq_true p101
       replace q101 := eq_true q101
       go_wp2
       go_roundg k1
       case measure => have := HK1.out; omega
       case rel => exact ⟨(wrap64 (x8_1 + 1)), (by first | rfl | (simp; done) | (simp [*]; done)), H', ⟨by have := HK1.out; omega⟩, by repeat (first | exact Drawn0.refl _ | apply Drawn0.step)⟩
      ·rw [if_neg c5] at H
       have c5b0 : ((rd l0 x8_1) == 0) = false := beq_eq_false_iff_ne.mpr c5
       have c5b1 : ((rd l0 x8_1) != 0) = true := bne_iff_ne.mpr c5
       obtain rfl := Option.some.inj H
       have p101 : 0 ≤ (x8_1 : Int) := OD
       have q101 : x8_1 < (l0.length : Int) := OD
       obtain ⟨ad101, e101, hx101_0⟩ := Kd.at_int HR0.out x8_1 p101 q101
       cases e101
       replace p101 := eq_true p101
       replace q101 := eq_true q101
       go_wp2
       go_ret
       exact ⟨by first | rfl | (simp; done) | (simp [*]; done), by repeat (first | exact Drawn0.refl _ | apply Drawn0.step)⟩
     ·rw [if_neg c4] at H
      exact absurd H (by simp)
    ·rw [if_neg c3] at H
     exact absurd H (by simp)
   ·rw [if_neg c2] at H
    have c2b0 : decide (x8_1 < (l0.length : Int)) = false := decide_eq_false c2
    clear c2
    obtain rfl := Option.some.inj H
    go_wp2
    go_ret
    exact ⟨by first | rfl | (simp; done) | (simp [*]; done), by repeat (first | exact Drawn0.refl _ | apply Drawn0.step)⟩
def cmp_Compare_int.f (a0 : Int) (a1 : Int) : Option (Int) := (cmp_isNaN_int.f a0).bind fun t101 => ((cmp_isNaN_int.f a1).bind fun t102 => (if t101 = true then (if t102 = true then (some 0) else (some (-1))) else (if t102 = true then (some 1) else (if a0 < a1 then (some (-1)) else (if a0 > a1 then (some 1) else (some 0))))))
set_option maxHeartbeats 8000000 in
set_option maxRecDepth 100000 in
theorem cmp_Compare_int.calls (a0 : Int) (a1 : Int) (r : Int) (w : World) (h : cmp_Compare_int.f a0 a1 = some r) :
  Calls Try.prog 125 #[.int .i64 a0, .int .i64 a1] w fun e w' => e = .returned (.int .i64 r) ∧ Drawn0 w w' := by
 have H : ((cmp_isNaN_int.f a0).bind fun t101 => ((cmp_isNaN_int.f a1).bind fun t102 => (if t101 = true then (if t102 = true then (some 0) else (some (-1))) else (if t102 = true then (some 1) else (if a0 < a1 then (some (-1)) else (if a0 > a1 then (some 1) else (some 0))))))) = some r := h
 clear h
 replace H := Option.bind_eq_some_iff.mp H
 obtain ⟨t101, A30, H⟩ := H
 replace H : ((cmp_isNaN_int.f a1).bind fun t102 => (if t101 = true then (if t102 = true then (some 0) else (some (-1))) else (if t102 = true then (some 1) else (if a0 < a1 then (some (-1)) else (if a0 > a1 then (some 1) else (some 0)))))) = some r := H
 have A3 := Aside0.mk A30
 clear A30
 replace H := Option.bind_eq_some_iff.mp H
 obtain ⟨t102, A40, H⟩ := H
 replace H : (if t101 = true then (if t102 = true then (some 0) else (some (-1))) else (if t102 = true then (some 1) else (if a0 < a1 then (some (-1)) else (if a0 > a1 then (some 1) else (some 0))))) = some r := H
 have A4 := Aside0.mk A40
 clear A40
 by_cases c5 : t101 = true
 ·subst c5
  have H1 : (if t102 = true then (some 0) else (some (-1))) = some r := by rw [if_pos rfl] at H; exact H
  clear H
  have H := H1
  clear H1
  by_cases c6 : t102 = true
  ·subst c6
   have H1 : (some 0) = some r := by rw [if_pos rfl] at H; exact H
   clear H
   have H := H1
   clear H1
   obtain rfl := Option.some.inj H
   go_enter Try.func125, Try.ntmps125
   go_wp2_with (first | ((with_reducible refine gate_callee (f := 142) rfl ?_); refine goesL_ (some 8) rfl rfl Try.func142 (by kernel_rfl) rfl #[.int .i64 a0] rfl MT ?_; (with_reducible refine (cmp_isNaN_int.calls a0 true _ A3.out).mono ?_); rintro e w' ⟨rfl, ⟨nd, rfl⟩⟩; refine ⟨_, rfl, ?_⟩) | ((with_reducible refine gate_callee (f := 142) rfl ?_); refine goesL_ (some 10) rfl rfl Try.func142 (by kernel_rfl) rfl #[.int .i64 a1] rfl MT ?_; (with_reducible refine (cmp_isNaN_int.calls a1 true _ A4.out).mono ?_); rintro e w' ⟨rfl, ⟨nd, rfl⟩⟩; refine ⟨_, rfl, ?_⟩))
   go_ret
   exact ⟨by first | rfl | (simp; done) | (simp [*]; done), by repeat (first | exact Drawn0.refl _ | apply Drawn0.step)⟩
  ·replace c6 := Bool.eq_false_iff.mpr c6
   subst c6
   have H1 : (some (-1)) = some r := by rw [if_neg (show ¬ (false = true) by decide)] at H; exact H
   clear H
   have H := H1
   clear H1
   obtain rfl := Option.some.inj H
   go_enter Try.func125, Try.ntmps125
   go_wp2_with (first | ((with_reducible refine gate_callee (f := 142) rfl ?_); refine goesL_ (some 8) rfl rfl Try.func142 (by kernel_rfl) rfl #[.int .i64 a0] rfl MT ?_; (with_reducible refine (cmp_isNaN_int.calls a0 true _ A3.out).mono ?_); rintro e w' ⟨rfl, ⟨nd, rfl⟩⟩; refine ⟨_, rfl, ?_⟩) | ((with_reducible refine gate_callee (f := 142) rfl ?_); refine goesL_ (some 10) rfl rfl Try.func142 (by kernel_rfl) rfl #[.int .i64 a1] rfl MT ?_; (with_reducible refine (cmp_isNaN_int.calls a1 false _ A4.out).mono ?_); rintro e w' ⟨rfl, ⟨nd, rfl⟩⟩; refine ⟨_, rfl, ?_⟩))
   go_ret
   exact ⟨by first | rfl | (simp; done) | (simp [*]; done), by repeat (first | exact Drawn0.refl _ | apply Drawn0.step)⟩
 ·replace c5 := Bool.eq_false_iff.mpr c5
  subst c5
  have H1 : (if t102 = true then (some 1) else (if a0 < a1 then (some (-1)) else (if a0 > a1 then (some 1) else (some 0)))) = some r := by rw [if_neg (show ¬ (false = true) by decide)] at H; exact H
  clear H
  have H := H1
  clear H1
  by_cases c7 : t102 = true
  ·subst c7
   have H1 : (some 1) = some r := by rw [if_pos rfl] at H; exact H
   clear H
   have H := H1
   clear H1
   obtain rfl := Option.some.inj H
   go_enter Try.func125, Try.ntmps125
   go_wp2_with (first | ((with_reducible refine gate_callee (f := 142) rfl ?_); refine goesL_ (some 8) rfl rfl Try.func142 (by kernel_rfl) rfl #[.int .i64 a0] rfl MT ?_; (with_reducible refine (cmp_isNaN_int.calls a0 false _ A3.out).mono ?_); rintro e w' ⟨rfl, ⟨nd, rfl⟩⟩; refine ⟨_, rfl, ?_⟩) | ((with_reducible refine gate_callee (f := 142) rfl ?_); refine goesL_ (some 10) rfl rfl Try.func142 (by kernel_rfl) rfl #[.int .i64 a1] rfl MT ?_; (with_reducible refine (cmp_isNaN_int.calls a1 true _ A4.out).mono ?_); rintro e w' ⟨rfl, ⟨nd, rfl⟩⟩; refine ⟨_, rfl, ?_⟩))
   go_ret
   exact ⟨by first | rfl | (simp; done) | (simp [*]; done), by repeat (first | exact Drawn0.refl _ | apply Drawn0.step)⟩
  ·replace c7 := Bool.eq_false_iff.mpr c7
   subst c7
   have H1 : (if a0 < a1 then (some (-1)) else (if a0 > a1 then (some 1) else (some 0))) = some r := by rw [if_neg (show ¬ (false = true) by decide)] at H; exact H
   clear H
   have H := H1
   clear H1
   by_cases c8 : a0 < a1
   ·rw [if_pos c8] at H
    have c8b0 : decide (a0 < a1) = true := decide_eq_true c8
    clear c8
    obtain rfl := Option.some.inj H
    go_enter Try.func125, Try.ntmps125
    go_wp2_with (first | ((with_reducible refine gate_callee (f := 142) rfl ?_); refine goesL_ (some 8) rfl rfl Try.func142 (by kernel_rfl) rfl #[.int .i64 a0] rfl MT ?_; (with_reducible refine (cmp_isNaN_int.calls a0 false _ A3.out).mono ?_); rintro e w' ⟨rfl, ⟨nd, rfl⟩⟩; refine ⟨_, rfl, ?_⟩) | ((with_reducible refine gate_callee (f := 142) rfl ?_); refine goesL_ (some 10) rfl rfl Try.func142 (by kernel_rfl) rfl #[.int .i64 a1] rfl MT ?_; (with_reducible refine (cmp_isNaN_int.calls a1 false _ A4.out).mono ?_); rintro e w' ⟨rfl, ⟨nd, rfl⟩⟩; refine ⟨_, rfl, ?_⟩))
    go_ret
    exact ⟨by first | rfl | (simp; done) | (simp [*]; done), by repeat (first | exact Drawn0.refl _ | apply Drawn0.step)⟩
   ·rw [if_neg c8] at H
    have c8b0 : decide (a0 < a1) = false := decide_eq_false c8
    clear c8
    by_cases c9 : a0 > a1
    ·rw [if_pos c9] at H
     have c9b0 : decide (a1 < a0) = true := decide_eq_true c9
     clear c9
     obtain rfl := Option.some.inj H
     go_enter Try.func125, Try.ntmps125
     go_wp2_with (first | ((with_reducible refine gate_callee (f := 142) rfl ?_); refine goesL_ (some 8) rfl rfl Try.func142 (by kernel_rfl) rfl #[.int .i64 a0] rfl MT ?_; (with_reducible refine (cmp_isNaN_int.calls a0 false _ A3.out).mono ?_); rintro e w' ⟨rfl, ⟨nd, rfl⟩⟩; refine ⟨_, rfl, ?_⟩) | ((with_reducible refine gate_callee (f := 142) rfl ?_); refine goesL_ (some 10) rfl rfl Try.func142 (by kernel_rfl) rfl #[.int .i64 a1] rfl MT ?_; (with_reducible refine (cmp_isNaN_int.calls a1 false _ A4.out).mono ?_); rintro e w' ⟨rfl, ⟨nd, rfl⟩⟩; refine ⟨_, rfl, ?_⟩))
     go_ret
     exact ⟨by first | rfl | (simp; done) | (simp [*]; done), by repeat (first | exact Drawn0.refl _ | apply Drawn0.step)⟩
    ·rw [if_neg c9] at H
     have c9b0 : decide (a1 < a0) = false := decide_eq_false c9
     clear c9
     obtain rfl := Option.some.inj H
     go_enter Try.func125, Try.ntmps125
     go_wp2_with (first | ((with_reducible refine gate_callee (f := 142) rfl ?_); refine goesL_ (some 8) rfl rfl Try.func142 (by kernel_rfl) rfl #[.int .i64 a0] rfl MT ?_; (with_reducible refine (cmp_isNaN_int.calls a0 false _ A3.out).mono ?_); rintro e w' ⟨rfl, ⟨nd, rfl⟩⟩; refine ⟨_, rfl, ?_⟩) | ((with_reducible refine gate_callee (f := 142) rfl ?_); refine goesL_ (some 10) rfl rfl Try.func142 (by kernel_rfl) rfl #[.int .i64 a1] rfl MT ?_; (with_reducible refine (cmp_isNaN_int.calls a1 false _ A4.out).mono ?_); rintro e w' ⟨rfl, ⟨nd, rfl⟩⟩; refine ⟨_, rfl, ?_⟩))
     go_ret
     exact ⟨by first | rfl | (simp; done) | (simp [*]; done), by repeat (first | exact Drawn0.refl _ | apply Drawn0.step)⟩
def impl_byBlock.f (k : Nat) (a0_0 : Int) (a0_1 : Int) (a1_0 : Int) (a1_1 : Int) : Option (Int) := (cmp_Compare_int.f a0_0 a1_0).bind fun t103 => ((cmp_Compare_int.f a0_1 a1_1).bind fun t104 => ((cmp_Or_int.f k (([t103, t104] : List Int))).bind fun t108 => (some t108)))
def impl_byBlock.T1 : Bool × List (List Nat × List Nat) := (true, [([], []), ([0], [0]), ([], []), ([2], [2]), ([1, 3], [1, 3]), ([], []), ([5], [5]), ([], []), ([7], [7]), ([6, 8, 4], [6, 8]), ([4, 9], [4, 9]), ([10, 9], [10]), ([11, 11, 0, 1, 2, 3, 4, 5, 6, 7, 8, 9, 10, 11], [11])])
def impl_byBlock.B1 : List Nat := [0, 1, 0, 4, 15, 0, 32, 0, 128, 511, 1023, 2047, 4095]
theorem impl_byBlock.tab1 : rtab .any (opsOf Try.f82 1) = impl_byBlock.T1 := by kernel_rfl
theorem impl_byBlock.bits1 : waitsOk impl_byBlock.T1.2 impl_byBlock.B1 = true := by kernel_rfl
set_option maxHeartbeats 8000000 in
set_option maxRecDepth 100000 in
theorem impl_byBlock.calls (k : Nat) (a0_0 : Int) (a0_1 : Int) (a1_0 : Int) (a1_1 : Int) (r : Int) (w : World) (h : impl_byBlock.f k a0_0 a0_1 a1_0 a1_1 = some r) :
  Calls Try.prog 82 #[.agg #[.int .i64 a0_0, .int .i64 a0_1], .agg #[.int .i64 a1_0, .int .i64 a1_1]] w fun e w' => e = .returned (.int .i64 r) ∧ Below w.heap.size w w' := by
 have hu43 := Try.underlying43
 have HB := am (Below.refl w.heap.size w)
 have H : ((cmp_Compare_int.f a0_0 a1_0).bind fun t103 => ((cmp_Compare_int.f a0_1 a1_1).bind fun t104 => ((cmp_Or_int.f k (([t103, t104] : List Int))).bind fun t108 => (some t108)))) = some r := h
 clear h
 replace H := Option.bind_eq_some_iff.mp H
 obtain ⟨t103, A30, H⟩ := H
 replace H : ((cmp_Compare_int.f a0_1 a1_1).bind fun t104 => ((cmp_Or_int.f k (([t103, t104] : List Int))).bind fun t108 => (some t108))) = some r := H
 have A3 := Aside0.mk A30
 clear A30
 replace H := Option.bind_eq_some_iff.mp H
 obtain ⟨t104, A40, H⟩ := H
 replace H : ((cmp_Or_int.f k (([t103, t104] : List Int))).bind fun t108 => (some t108)) = some r := H
 have A4 := Aside0.mk A40
 clear A40
 obtain ⟨y105, hy105⟩ : ∃ y_ : List Int, y_ = (([t103, t104] : List Int)) := ⟨_, rfl⟩
 replace H : ((cmp_Or_int.f k y105).bind fun t108 => (some t108)) = some r := by first | (rw [hy105]; with_reducible exact H) | (have H2_ := (Option.bind_some _ _).symm.trans H; rw [hy105]; with_reducible exact H2_) | (have H2_ := (Option.bind_some _ _).symm.trans H; with_reducible exact H2_) | with_reducible exact H | (rw [hy105]; exact H) | exact H
 have Ny105 := Aside0.mk hy105
 clear hy105
 replace H := Option.bind_eq_some_iff.mp H
 obtain ⟨t108, A50, H⟩ := H
 replace H : (some t108) = some r := H
 have A5 := Aside0.mk A50
 clear A50
 obtain rfl := Option.some.inj H
 go_enter Try.func82, Try.ntmps82
 try go_wp2_with (first | ((with_reducible refine gate_dst (N := 2) rfl ?_); refine box_event rfl (N := 2) rfl (cs := #[.int .i64 a0_0, .int .i64 a0_1]) (t := 43) BX ?_; intro gb101 hg w6 hbox hb; have BK101 := am (hbox); have GW101 := am (GH HB hg); have GE101 := GW101; replace HB := am (below_step (KL HB) hb); clear hb hbox hg) | ((with_reducible refine gate_dst (N := 3) rfl ?_); refine box_event rfl (N := 3) rfl (cs := #[.int .i64 a1_0, .int .i64 a1_1]) (t := 43) BX ?_; intro gb102 hg w7 hbox hb; have BK102 := am (hbox); have GW102 := am (GH1 HB GE101.out hg); have GE102 := GW102; replace HB := am (below_step (K1 HB GE101.out) hb); have NB101_102 := am (NL BK101 hg); have NB102_101 := am (NG BK101 hg); replace BK101 := am (BB BK101 hb); clear hb hbox hg))
 replace BK101 := am (blk_drew BK101.out)
 replace BK102 := am (blk_drew BK102.out)
 replace HB := am (below_drew1 HB.out)
 refine start_ (n := 13) (S := fun w' => ce2 w' gb101 (.int .i64 a0_0) (.int .i64 a0_1) (de2 w' gb102 (.int .i64 a1_0) (.int .i64 a1_1))) (ds := []) (tf 0 13) (by kernel_rfl) rfl rfl ⟨z0 _ BK101.out, z1 _ BK101.out, z0 _ BK102.out, z1 _ BK102.out⟩ (fun hHeld => ?_); refine with_tabW impl_byBlock.tab1 impl_byBlock.bits1 (fun HT_ HW_ => ?_)
 generalize w7.drew = w8 at BK101 BK102 HB hHeld ⊢
 refine pv HT_ 0 5 (tf 1 12) ?_
 refine pv HT_ 2 7 (tr [1, 1, 1, 10]) ?_
 refine pv HT_ 5 10 (tr [1, 1, 1, 2, 1, 7]) ?_
 refine pv HT_ 7 12 (tr [1, 1, 1, 2, 1, 1, 1, 5]) ?_
 refine tk 1 (some 6) (tr [3, 2, 1, 1, 1, 5]) (take_ofW HT_.out HW_.out (by kernel_rfl)) hHeld ?_
 refine tk 3 (some 8) (tr [4, 1, 1, 1, 1, 5]) (take_ofW HT_.out HW_.out (by kernel_rfl)) hHeld ?_
 refine tk 6 (some 11) (tr [4, 1, 3, 5]) (take_ofW HT_.out HW_.out (by kernel_rfl)) hHeld ?_
 refine tk 8 (some 13) (tr [4, 1, 4, 4]) (take_ofW HT_.out HW_.out (by kernel_rfl)) hHeld ?_
 refine one_ (i := 4) (N := some 9) (tf 9 4) rfl rfl (one_of HT_.out (by kernel_rfl)) (by decide) (fun K hK => ?_)
 refine goes_ Try.func125 (by kernel_rfl) rfl #[.int .i64 a0_0, .int .i64 a1_0] (by rfl) rfl rfl MT ?_
 with_reducible refine (cmp_Compare_int.calls a0_0 a1_0 t103 _ A3.out).mono ?_
 rintro e w' ⟨rfl, ⟨nd, rfl⟩⟩
 refine ⟨_, rfl, ?_⟩
 refine hK.out _ _ ⟨z0 _ BK101.out, z1 _ BK101.out, z0 _ BK102.out, z1 _ BK102.out⟩ (fun hHeld => ?_)
 clear hK K
 refine norm_ (a' := ?_) ?_ ?_
 rotate_left
 ·show Act.put _ (some 9) _ = _
  simp only [Act.put, List.setIfInBounds_toArray, List.set_cons_zero, List.set_cons_succ, i64_w, i32_w]
  rfl
 refine one_ (i := 9) (N := some 14) (tf 10 3) rfl rfl (one_of HT_.out (by kernel_rfl)) (by decide) (fun K hK => ?_)
 refine goes_ Try.func125 (by kernel_rfl) rfl #[.int .i64 a0_1, .int .i64 a1_1] (by rfl) rfl rfl MT ?_
 with_reducible refine (cmp_Compare_int.calls a0_1 a1_1 t104 _ A4.out).mono ?_
 rintro e w' ⟨rfl, ⟨nd, rfl⟩⟩
 refine ⟨_, rfl, ?_⟩
 refine hK.out _ _ ⟨z0 _ BK101.out, z1 _ BK101.out, z0 _ BK102.out, z1 _ BK102.out⟩ (fun hHeld => ?_)
 clear hK K
 refine norm_ (a' := ?_) ?_ ?_
 rotate_left
 ·show Act.put _ (some 14) _ = _
  simp only [Act.put, List.setIfInBounds_toArray, List.set_cons_zero, List.set_cons_succ, i64_w, i32_w]
  rfl
 refine one_ (i := 10) (N := some 15) (tf 11 2) rfl rfl (one_of HT_.out (by kernel_rfl)) (by decide) (fun K hK => ?_)
 refine Kd.R_lit_step (Kd.int .i64) _ 3 ?hg (N := 15) ?hd (xs := ([t103, t104] : List Int)) (inner := [.int .i64 t103, .int .i64 t104]) (ok := fun _ => True) (okp := fun _ => True) ?hr ?hp (fun _ hk => hk) trivial (Below.refl _ _) (Nat.le_refl _) (by simp) ?_; (case hd => rfl); (case hg => rfl); (case hr => first | (go_simp; done) | (go_simp; rfl)); (case hp => exact (Reps.one (show Kd.M (Kd.int .i64) _ _ _ t103 [.int .i64 t103] from rfl) (Reps.one (show Kd.M (Kd.int .i64) _ _ _ t104 [.int .i64 t104] from rfl) (Reps.none _ _))))
 intro v106 w9 ho10 hb hg_ hnew_
 clear hg_ hnew_
 (first | rw [← Ny105.out] at ho10 | (simp only [Int.reduceToNat] at ho10; rw [← Ny105.out] at ho10))
 have HO107 := am (Kd.R_lower ho10 (below_size (K2 HB GE101.out GE102.out)))
 replace BK101 := am (BB BK101 hb)
 replace BK102 := am (BB BK102 hb)
 replace HB := am (below_step (K2 HB GE101.out GE102.out) hb)
 clear hb ho10
 obtain ⟨Ao11, co11, eo11⟩ := Kd.R_slice HO107.out
 (first | subst eo11 | (injection eo11 with f1_ f2_ f3_; have f4_ := f1_.symm; have f5_ := f3_.symm; clear f1_ f2_ f3_; subst f4_; subst f5_))
 refine hK.out _ _ ⟨z0 _ BK101.out, z1 _ BK101.out, z0 _ BK102.out, z1 _ BK102.out⟩ (fun hHeld => ?_)
 clear hK K
 refine norm_ (a' := ?_) ?_ ?_
 rotate_left
 ·show Act.put _ (some 15) _ = _
  simp only [Act.put, List.setIfInBounds_toArray, List.set_cons_zero, List.set_cons_succ, i64_w, i32_w]
  rfl
 refine one_ (i := 11) (N := some 16) (tf 12 1) rfl rfl (one_of HT_.out (by kernel_rfl)) (by decide) (fun K hK => ?_)
 refine goes_ Try.func124 (by kernel_rfl) rfl #[.slice Ao11 y105.length co11] (by rfl) rfl rfl MT ?_
 with_reducible refine (cmp_Or_int.calls k _ _ y105 t108 _ ?side1 ?side2 A5.out).mono ?_
 (case side1 => exact KC (Kd.R_reads' HO107.out).2.2)
 (case side2 => exact (Kd.R_reads' HO107.out).2.1)
 rintro e w' ⟨rfl, ⟨nd, rfl⟩⟩
 refine ⟨_, rfl, ?_⟩
 refine hK.out _ _ ⟨z0 _ BK101.out, z1 _ BK101.out, z0 _ BK102.out, z1 _ BK102.out⟩ (fun hHeld => ?_)
 clear hK K
 refine norm_ (a' := ?_) ?_ ?_
 rotate_left
 ·show Act.put _ (some 16) _ = _
  simp only [Act.put, List.setIfInBounds_toArray, List.set_cons_zero, List.set_cons_succ, i64_w, i32_w]
  rfl
 refine pv HT_ 12 4 (tf 13 0) ?_
 refine done_ (done_of HT_.out (by kernel_rfl)) ?_
 try go_wp2
 go_ret
 exact ⟨ER, K2 HB GE101.out GE102.out⟩
def impl_WaysOk.l0 : Nat → List (S45) → List (S45) → Int → Int → Option (Bool)
 | 0, _, _, _, _ => none
 | k + 1, x0, x5, x6, x7 => if x7 < x6 then (if 0 ≤ x7 then (if x7 < (x5.length : Int) then ((impl_BlockOk.f ((rd_T45 x5 x7).f0.f0) ((rd_T45 x5 x7).f0.f1)).bind fun t103 => (if t103 = true then ((impl_in.f ((rd_T45 x5 x7).f1) 0 99).bind fun t104 => (if t104 = true then (if x7 > 0 then (if 0 ≤ (wrap64 (x7 - 1)) then (if (wrap64 (x7 - 1)) < (x0.length : Int) then ((impl_byBlock.f k ((rd_T45 x0 (wrap64 (x7 - 1))).f0.f0) ((rd_T45 x0 (wrap64 (x7 - 1))).f0.f1) ((rd_T45 x5 x7).f0.f0) ((rd_T45 x5 x7).f0.f1)).bind fun t106 => (if t106 ≥ 0 then (some false) else (impl_WaysOk.l0 k x0 x5 x6 (wrap64 (x7 + 1))))) else (none)) else (none)) else (impl_WaysOk.l0 k x0 x5 x6 (wrap64 (x7 + 1)))) else (some false))) else (some false))) else (none)) else (none)) else (some (decide ((x0.length : Int) ≤ 40)))
def impl_WaysOk.f (k : Nat) (l0 : List (S45)) : Option (Bool) := impl_WaysOk.l0 k l0 l0 (l0.length : Int) 0
def impl_WaysOk.T4 : Bool × List (List Nat × List Nat) := (true, [([], []), ([0], [0]), ([1], [1]), ([2], [2]), ([3, 2], [3]), ([4], [4]), ([5, 4], [4, 5]), ([6, 4, 4], [4, 6]), ([7, 4], [4, 7]), ([4, 8], [4, 8]), ([9, 7], [9]), ([10], [10]), ([11, 10], [10, 11]), ([12, 10, 10], [10, 12]), ([13], [13]), ([13], [13]), ([15, 13], [13, 15]), ([14, 16, 13], [13, 14, 16]), ([17, 13], [13, 17]), ([18, 13], [13, 18]), ([13], [13]), ([20, 13], [13, 20]), ([19, 21, 13, 13], [13, 19, 21]), ([22, 13], [13, 22]), ([13, 23, 10], [10, 13, 23]), ([10, 24], [10, 24])])
def impl_WaysOk.B4 : List Nat := [0, 1, 3, 7, 15, 31, 63, 127, 255, 511, 1023, 2047, 4095, 8191, 16383, 16383, 49151, 131071, 262143, 524287, 16383, 1064959, 4194303, 8388607, 16777215, 33554431]
theorem impl_WaysOk.tab4 : rtab .any (opsOf Try.f29 4) = impl_WaysOk.T4 := by kernel_rfl
theorem impl_WaysOk.bits4 : waitsOk impl_WaysOk.T4.2 impl_WaysOk.B4 = true := by kernel_rfl
set_option maxHeartbeats 8000000 in
set_option maxRecDepth 100000 in
theorem impl_WaysOk.calls (k : Nat) (A0 : Option Addr) (c0 : Nat) (l0 : List (S45)) (r : Bool) (w : World) (hr0 : Kd.C k45 w A0 l0.length l0) (hc0 : l0.length ≤ c0) (h : impl_WaysOk.f k l0 = some r) :
  Calls Try.prog 29 #[.slice A0 l0.length c0] w fun e w' => e = .returned (.bool r) ∧ Below w.heap.size w w' := by
 have hu45 := Try.underlying45
 have hu43 := Try.underlying43
 have HR0 := Aside0.mk hr0
 have HC0 := Aside0.mk hc0
 clear hr0 hc0
 have HB := am (Below.refl w.heap.size w)
 have H : (impl_WaysOk.l0 k l0 l0 (l0.length : Int) 0) = some r := h
 clear h
 have H' := Aside0.mk H
 clear H
 go_enter Try.func29, Try.ntmps29
 go_wp2
 go_loopg [7] k (fun kq v7 w' => ∃ (x7_1 : Int), v7 = .int .i64 x7_1 ∧ Aside0 (impl_WaysOk.l0 kq l0 l0 (l0.length : Int) x7_1 = some r) ∧ Aside0 (kq ≤ k) ∧ Aside0 (Below w.heap.size w w'))
 case atStart => exact ⟨(0), (by first | rfl | (simp; done) | (simp [*]; done)), H', ⟨Nat.le_refl _⟩, ⟨KL HB⟩⟩
 case round =>
  clear H'
  obtain ⟨x7_1, rfl, HA, HK1, HB⟩ := hrel
  cases gk with
  | zero => exact absurd HA.out (by simp [impl_WaysOk.l0])
  | succ k1 =>
   have H := HA.out
   clear HA
   simp only [impl_WaysOk.l0] at H
   by_cases c2 : x7_1 < (l0.length : Int)
   ·rw [if_pos c2] at H
    have c2b0 : decide (x7_1 < (l0.length : Int)) = true := decide_eq_true c2
    clear c2
    by_cases c3 : 0 ≤ x7_1
    ·rw [if_pos c3] at H
     have c3b0 : decide (0 ≤ x7_1) = true := decide_eq_true c3
     clear c3
     by_cases c4 : x7_1 < (l0.length : Int)
     ·rw [if_pos c4] at H
      have c4b0 : decide (x7_1 < (l0.length : Int)) = true := decide_eq_true c4
      clear c4
      replace H := Option.bind_eq_some_iff.mp H
      obtain ⟨t103, A50, H⟩ := H
      replace H : (if t103 = true then ((impl_in.f ((rd_T45 l0 x7_1).f1) 0 99).bind fun t104 => (if t104 = true then (if x7_1 > 0 then (if 0 ≤ (wrap64 (x7_1 - 1)) then (if (wrap64 (x7_1 - 1)) < (l0.length : Int) then ((impl_byBlock.f k1 ((rd_T45 l0 (wrap64 (x7_1 - 1))).f0.f0) ((rd_T45 l0 (wrap64 (x7_1 - 1))).f0.f1) ((rd_T45 l0 x7_1).f0.f0) ((rd_T45 l0 x7_1).f0.f1)).bind fun t106 => (if t106 ≥ 0 then (some false) else (impl_WaysOk.l0 k1 l0 l0 (l0.length : Int) (wrap64 (x7_1 + 1))))) else (none)) else (none)) else (impl_WaysOk.l0 k1 l0 l0 (l0.length : Int) (wrap64 (x7_1 + 1)))) else (some false))) else (some false)) = some r := H
      have A5 := Aside0.mk A50
      clear A50
      by_cases c6 : t103 = true
      ·subst c6
       have H1 : ((impl_in.f ((rd_T45 l0 x7_1).f1) 0 99).bind fun t104 => (if t104 = true then (if x7_1 > 0 then (if 0 ≤ (wrap64 (x7_1 - 1)) then (if (wrap64 (x7_1 - 1)) < (l0.length : Int) then ((impl_byBlock.f k1 ((rd_T45 l0 (wrap64 (x7_1 - 1))).f0.f0) ((rd_T45 l0 (wrap64 (x7_1 - 1))).f0.f1) ((rd_T45 l0 x7_1).f0.f0) ((rd_T45 l0 x7_1).f0.f1)).bind fun t106 => (if t106 ≥ 0 then (some false) else (impl_WaysOk.l0 k1 l0 l0 (l0.length : Int) (wrap64 (x7_1 + 1))))) else (none)) else (none)) else (impl_WaysOk.l0 k1 l0 l0 (l0.length : Int) (wrap64 (x7_1 + 1)))) else (some false))) = some r := by rw [if_pos rfl] at H; exact H
       clear H
       have H := H1
       clear H1
       replace H := Option.bind_eq_some_iff.mp H
       obtain ⟨t104, A70, H⟩ := H
       replace H : (if t104 = true then (if x7_1 > 0 then (if 0 ≤ (wrap64 (x7_1 - 1)) then (if (wrap64 (x7_1 - 1)) < (l0.length : Int) then ((impl_byBlock.f k1 ((rd_T45 l0 (wrap64 (x7_1 - 1))).f0.f0) ((rd_T45 l0 (wrap64 (x7_1 - 1))).f0.f1) ((rd_T45 l0 x7_1).f0.f0) ((rd_T45 l0 x7_1).f0.f1)).bind fun t106 => (if t106 ≥ 0 then (some false) else (impl_WaysOk.l0 k1 l0 l0 (l0.length : Int) (wrap64 (x7_1 + 1))))) else (none)) else (none)) else (impl_WaysOk.l0 k1 l0 l0 (l0.length : Int) (wrap64 (x7_1 + 1)))) else (some false)) = some r := H
       have A7 := Aside0.mk A70
       clear A70
       by_cases c8 : t104 = true
       ·subst c8
        have H1 : (if x7_1 > 0 then (if 0 ≤ (wrap64 (x7_1 - 1)) then (if (wrap64 (x7_1 - 1)) < (l0.length : Int) then ((impl_byBlock.f k1 ((rd_T45 l0 (wrap64 (x7_1 - 1))).f0.f0) ((rd_T45 l0 (wrap64 (x7_1 - 1))).f0.f1) ((rd_T45 l0 x7_1).f0.f0) ((rd_T45 l0 x7_1).f0.f1)).bind fun t106 => (if t106 ≥ 0 then (some false) else (impl_WaysOk.l0 k1 l0 l0 (l0.length : Int) (wrap64 (x7_1 + 1))))) else (none)) else (none)) else (impl_WaysOk.l0 k1 l0 l0 (l0.length : Int) (wrap64 (x7_1 + 1)))) = some r := by rw [if_pos rfl] at H; exact H
        clear H
        have H := H1
        clear H1
        by_cases c9 : x7_1 > 0
        ·rw [if_pos c9] at H
         have c9b0 : decide (0 < x7_1) = true := decide_eq_true c9
         clear c9
         obtain ⟨ji10, hji10⟩ : ∃ j_ : Int, (wrap64 (x7_1 - 1)) = j_ := ⟨_, rfl⟩
         replace H : (if 0 ≤ (ji10) then (if (ji10) < (l0.length : Int) then ((impl_byBlock.f k1 ((rd_T45 l0 (ji10)).f0.f0) ((rd_T45 l0 (ji10)).f0.f1) ((rd_T45 l0 x7_1).f0.f0) ((rd_T45 l0 x7_1).f0.f1)).bind fun t106 => (if t106 ≥ 0 then (some false) else (impl_WaysOk.l0 k1 l0 l0 (l0.length : Int) (wrap64 (x7_1 + 1))))) else (none)) else (none)) = some r := by first | (rw [hji10] at H; exact H) | (simp only [hji10] at H ⊢; exact H)
         (try rw [hji10] at A5)
         (try rw [hji10] at A7)
         have hji10w : (IntKind.i64.wrap (x7_1 - 1)) = ji10 := (i64_w _).trans hji10
         by_cases c11 : 0 ≤ (ji10)
         ·rw [if_pos c11] at H
          have c11b0 : decide (0 ≤ (ji10)) = true := decide_eq_true c11
          clear c11
          by_cases c12 : (ji10) < (l0.length : Int)
          ·rw [if_pos c12] at H
           have c12b0 : decide ((ji10) < (l0.length : Int)) = true := decide_eq_true c12
           clear c12
           replace H := Option.bind_eq_some_iff.mp H
           obtain ⟨t106, A130, H⟩ := H
           replace H : (if t106 ≥ 0 then (some false) else (impl_WaysOk.l0 k1 l0 l0 (l0.length : Int) (wrap64 (x7_1 + 1)))) = some r := H
           have A13 := Aside0.mk A130
           clear A130
           by_cases c14 : t106 ≥ 0
           ·rw [if_pos c14] at H
            have c14b0 : decide (0 ≤ t106) = true := decide_eq_true c14
            clear c14
            obtain rfl := Option.some.inj H
            have p101 : 0 ≤ (x7_1 : Int) := OD
            have q101 : x7_1 < (l0.length : Int) := OD
            obtain ⟨ad101, e101, hx101_0, hx101_1, hx101_2⟩ := at_T45 HR0.out x7_1 p101 q101
            cases e101
            replace hx101_0 := CX HB.out hx101_0
            replace hx101_1 := CX HB.out hx101_1
            replace hx101_2 := CX HB.out hx101_2
            replace p101 := eq_true p101
            replace q101 := eq_true q101
            try go_wp2_with (first | ((with_reducible refine gate_dst (N := 4) rfl ?_); refine box_event rfl (N := 4) rfl (cs := #[.int .i64 0, .int .i64 0, .int .i64 0]) (t := 45) BX ?_; intro gb102 hg w15 hbox hb; have BK102 := am (hbox); have GW102 := am (GH HB hg); have GE102 := GW102; replace HB := am (below_step (KL HB) hb); clear hb hbox hg; obtain ⟨hcz16_0, hcz16_1, hcz16_2, hfz16_0⟩ := y3 w15 BK102.out))
            generalize hq_ : (((w15.setCell ⟨gb102, 0, none⟩ (.int .i64 ((rd_T45 l0 x7_1).f0.f0))).setCell ⟨gb102, 1, none⟩ (.int .i64 ((rd_T45 l0 x7_1).f0.f1))).setCell ⟨gb102, 2, none⟩ (.int .i64 ((rd_T45 l0 x7_1).f1))) = w17
            have n0_ : Aside0 (w17.heap[gb102]? = some (.cells #[.int .i64 ((rd_T45 l0 x7_1).f0.f0), .int .i64 ((rd_T45 l0 x7_1).f0.f1), .int .i64 ((rd_T45 l0 x7_1).f1)] 45 (0, 0))) := ⟨by rw [← hq_]; exact P3 BK102⟩
            have n1_ : Aside0 (Below w.heap.size w w17) := ⟨by rw [← hq_]; exact K1 HB GE102.out⟩
            clear hq_
            (try clear BK102)
            (try clear HB)
            have BK102 := n0_
            have HB := n1_
            clear n0_ n1_
            replace BK102 := am (blk_drew BK102.out)
            replace HB := am (below_drew1 HB.out)
            have p105 : 0 ≤ ((ji10) : Int) := OD
            have q105 : (ji10) < (l0.length : Int) := OD
            obtain ⟨ad105, e105, hx105_0, hx105_1, hx105_2⟩ := at_T45 HR0.out (ji10) p105 q105
            have hw105_2 := hx105_2
            have hw105_1 := hx105_1
            have hw105_0 := hx105_0
            obtain rfl : ad101 = ad105 := (by injection e105)
            replace hx105_0 := CX HB.out hx105_0
            replace hx105_1 := CX HB.out hx105_1
            replace hx105_2 := CX HB.out hx105_2
            replace p105 := eq_true p105
            replace q105 := eq_true q105
            refine start_ (n := 26) (S := fun w' => ce3 w' gb102 (.int .i64 ((rd_T45 l0 x7_1).f0.f0)) (.int .i64 ((rd_T45 l0 x7_1).f0.f1)) (.int .i64 ((rd_T45 l0 x7_1).f1)) (w'.cell? (ad101.add (((ji10)).toNat * 3)) = some (.int .i64 ((rd_T45 l0 (ji10)).f0.f0)) ∧ w'.cell? ⟨(ad101.add (((ji10)).toNat * 3)).block, (ad101.add (((ji10)).toNat * 3)).off + 1, none⟩ = some (.int .i64 ((rd_T45 l0 (ji10)).f0.f1)) ∧ w'.cell? ⟨(ad101.add (((ji10)).toNat * 3)).block, (ad101.add (((ji10)).toNat * 3)).off + 2, none⟩ = some (.int .i64 ((rd_T45 l0 (ji10)).f1)))) (ds := []) (tf 0 26) (by kernel_rfl) rfl rfl ⟨z0 _ BK102.out, z1 _ BK102.out, z2 _ BK102.out, (CY HB.out hw105_0), (CY HB.out hw105_1), (CY HB.out hw105_2)⟩ (fun hHeld => ?_); refine with_tabW impl_WaysOk.tab4 impl_WaysOk.bits4 (fun HT_ HW_ => ?_)
            generalize w17.drew = w18 at BK102 HB hx105_0 hx105_1 hx105_2 hHeld ⊢
            refine pv HT_ 0 12 (tf 1 25) ?_
            refine tk 1 (some 13) (tf 2 24) (take_ofW HT_.out HW_.out (by kernel_rfl)) hHeld ?_
            refine one_ (i := 2) (N := some 14) (tf 3 23) rfl rfl (one_of HT_.out (by kernel_rfl)) (by decide) (fun K hK => ?_)
            refine goes_ Try.func79 (by kernel_rfl) rfl #[.agg #[.int .i64 ((rd_T45 l0 x7_1).f0.f0), .int .i64 ((rd_T45 l0 x7_1).f0.f1)]] (by rfl) rfl rfl MT ?_
            with_reducible refine (impl_BlockOk.calls ((rd_T45 l0 x7_1).f0.f0) ((rd_T45 l0 x7_1).f0.f1) true _ A5.out).mono ?_
            rintro e w19 ⟨rfl, hb⟩
            refine ⟨_, rfl, ?_⟩
            replace BK102 := am (BB BK102 hb)
            replace HB := am (below_step (K1 HB GE102.out) hb)
            (try clear hb)
            (try clear hb2)
            (try clear hk)
            (try clear hi)
            refine hK.out _ _ ⟨z0 _ BK102.out, z1 _ BK102.out, z2 _ BK102.out, (CY HB.out hw105_0), (CY HB.out hw105_1), (CY HB.out hw105_2)⟩ (fun hHeld => ?_)
            clear hK K
            refine norm_ (a' := ?_) ?_ ?_
            rotate_left
            ·show Act.put _ (some 14) _ = _
             simp only [Act.put, List.setIfInBounds_toArray, List.set_cons_zero, List.set_cons_succ, i64_w, i32_w]
             rfl
            refine pv HT_ 3 15 (tf 4 22) ?_
            refine pv HT_ 4 16 (tf 5 21) ?_
            refine pv HT_ 5 17 (tf 6 20) ?_
            refine tk 6 (some 18) (tf 7 19) (take_ofW HT_.out HW_.out (by kernel_rfl)) hHeld ?_
            refine one_ (i := 7) (N := some 19) (tf 8 18) rfl rfl (one_of HT_.out (by kernel_rfl)) (by decide) (fun K hK => ?_)
            refine goes_ Try.func81 (by kernel_rfl) rfl #[.int .i64 ((rd_T45 l0 x7_1).f1), .int .i64 0, .int .i64 99] (by rfl) rfl rfl MT ?_
            with_reducible refine (impl_in.calls ((rd_T45 l0 x7_1).f1) 0 99 true _ A7.out).mono ?_
            rintro e w' ⟨rfl, ⟨nd, rfl⟩⟩
            refine ⟨_, rfl, ?_⟩
            refine hK.out _ _ ⟨z0 _ BK102.out, z1 _ BK102.out, z2 _ BK102.out, (CY HB.out hw105_0), (CY HB.out hw105_1), (CY HB.out hw105_2)⟩ (fun hHeld => ?_)
            clear hK K
            refine norm_ (a' := ?_) ?_ ?_
            rotate_left
            ·show Act.put _ (some 19) _ = _
             simp only [Act.put, List.setIfInBounds_toArray, List.set_cons_zero, List.set_cons_succ, i64_w, i32_w]
             rfl
            refine pv HT_ 8 20 (tf 9 17) ?_
            refine pv HT_ 9 21 (tf 10 16) ?_
            refine pv HT_ 10 22 (tf 11 15) ?_
            refine pv HT_ 11 23 (tf 12 14) ?_
            refine pv HT_ 12 24 (tf 13 13) ?_
            refine pv HT_ 13 25 (tf 14 12) ?_
            refine pv HT_ 14 26 (tf 15 11) ?_
            refine pv HT_ 15 27 (tf 16 10) ?_
            refine pv HT_ 16 28 (tf 17 9) ?_
            refine pv HT_ 17 29 (tf 18 8) ?_
            refine pv HT_ 18 30 (tf 19 7) ?_
            refine pv HT_ 20 32 (tr [19, 1, 1, 5]) ?_
            refine tk 19 (some 31) (tf 21 5) (take_ofW HT_.out HW_.out (by kernel_rfl)) hHeld ?_
            refine tk 21 (some 33) (tf 22 4) (take_ofW HT_.out HW_.out (by kernel_rfl)) hHeld ?_
            refine one_ (i := 22) (N := some 34) (tf 23 3) rfl rfl (one_of HT_.out (by kernel_rfl)) (by decide) (fun K hK => ?_)
            refine goes_ Try.func82 (by kernel_rfl) rfl #[.agg #[.int .i64 ((rd_T45 l0 (ji10)).f0.f0), .int .i64 ((rd_T45 l0 (ji10)).f0.f1)], .agg #[.int .i64 ((rd_T45 l0 x7_1).f0.f0), .int .i64 ((rd_T45 l0 x7_1).f0.f1)]] (by rfl) rfl rfl (by (try simp only [List.map_toArray, List.map_cons, List.map_nil]); first | done | (simp only [hji10]; rfl) | rfl | (simp only [List.length_drop, List.length_take]; rfl)) ?_
            with_reducible refine (impl_byBlock.calls k1 ((rd_T45 l0 (ji10)).f0.f0) ((rd_T45 l0 (ji10)).f0.f1) ((rd_T45 l0 x7_1).f0.f0) ((rd_T45 l0 x7_1).f0.f1) t106 _ A13.out).mono ?_
            rintro e w20 ⟨rfl, hb⟩
            refine ⟨_, rfl, ?_⟩
            replace BK102 := am (BB BK102 hb)
            replace HB := am (below_step (K1 HB GE102.out) hb)
            (try clear hb)
            (try clear hb2)
            (try clear hk)
            (try clear hi)
            refine hK.out _ _ ⟨z0 _ BK102.out, z1 _ BK102.out, z2 _ BK102.out, (CY HB.out hw105_0), (CY HB.out hw105_1), (CY HB.out hw105_2)⟩ (fun hHeld => ?_)
            clear hK K
            refine norm_ (a' := ?_) ?_ ?_
            rotate_left
            ·show Act.put _ (some 34) _ = _
             simp only [Act.put, List.setIfInBounds_toArray, List.set_cons_zero, List.set_cons_succ, i64_w, i32_w]
             rfl
            refine pv HT_ 23 35 (tf 24 2) ?_
            refine pv HT_ 24 36 (tf 25 1) ?_
            refine pv HT_ 25 37 (tf 26 0) ?_
            refine done_ (done_of HT_.out (by kernel_rfl)) ?_
            try go_wp2
            go_ret
            exact ⟨by first | rfl | (simp [errW_none, errW_some] <;> rfl) | (simp only [← hji10]; first | rfl | (simp [errW_none, errW_some] <;> rfl)) | (simp [*, errW_none, errW_some] <;> rfl), K1 HB GE102.out⟩
           ·rw [if_neg c14] at H
            have c14b0 : decide (0 ≤ t106) = false := decide_eq_false c14
            clear c14
            have H' := Aside0.mk H
            clear H
            have p101 : 0 ≤ (x7_1 : Int) := OD
            have q101 : x7_1 < (l0.length : Int) := OD
            obtain ⟨ad101, e101, hx101_0, hx101_1, hx101_2⟩ := at_T45 HR0.out x7_1 p101 q101
            cases e101
            replace hx101_0 := CX HB.out hx101_0
            replace hx101_1 := CX HB.out hx101_1
            replace hx101_2 := CX HB.out hx101_2
            replace p101 := eq_true p101
            replace q101 := eq_true q101
            try go_wp2_with (first | ((with_reducible refine gate_dst (N := 4) rfl ?_); refine box_event rfl (N := 4) rfl (cs := #[.int .i64 0, .int .i64 0, .int .i64 0]) (t := 45) BX ?_; intro gb102 hg w21 hbox hb; have BK102 := am (hbox); have GW102 := am (GH HB hg); have GE102 := GW102; replace HB := am (below_step (KL HB) hb); clear hb hbox hg; obtain ⟨hcz22_0, hcz22_1, hcz22_2, hfz22_0⟩ := y3 w21 BK102.out))
            generalize hq_ : (((w21.setCell ⟨gb102, 0, none⟩ (.int .i64 ((rd_T45 l0 x7_1).f0.f0))).setCell ⟨gb102, 1, none⟩ (.int .i64 ((rd_T45 l0 x7_1).f0.f1))).setCell ⟨gb102, 2, none⟩ (.int .i64 ((rd_T45 l0 x7_1).f1))) = w23
            have n0_ : Aside0 (w23.heap[gb102]? = some (.cells #[.int .i64 ((rd_T45 l0 x7_1).f0.f0), .int .i64 ((rd_T45 l0 x7_1).f0.f1), .int .i64 ((rd_T45 l0 x7_1).f1)] 45 (0, 0))) := ⟨by rw [← hq_]; exact P3 BK102⟩
            have n1_ : Aside0 (Below w.heap.size w w23) := ⟨by rw [← hq_]; exact K1 HB GE102.out⟩
            clear hq_
            (try clear BK102)
            (try clear HB)
            have BK102 := n0_
            have HB := n1_
            clear n0_ n1_
            replace BK102 := am (blk_drew BK102.out)
            replace HB := am (below_drew1 HB.out)
            have p105 : 0 ≤ ((ji10) : Int) := OD
            have q105 : (ji10) < (l0.length : Int) := OD
            obtain ⟨ad105, e105, hx105_0, hx105_1, hx105_2⟩ := at_T45 HR0.out (ji10) p105 q105
            have hw105_2 := hx105_2
            have hw105_1 := hx105_1
            have hw105_0 := hx105_0
            obtain rfl : ad101 = ad105 := (by injection e105)
            replace hx105_0 := CX HB.out hx105_0
            replace hx105_1 := CX HB.out hx105_1
            replace hx105_2 := CX HB.out hx105_2
            replace p105 := eq_true p105
            replace q105 := eq_true q105
            refine start_ (n := 26) (S := fun w' => ce3 w' gb102 (.int .i64 ((rd_T45 l0 x7_1).f0.f0)) (.int .i64 ((rd_T45 l0 x7_1).f0.f1)) (.int .i64 ((rd_T45 l0 x7_1).f1)) (w'.cell? (ad101.add (((ji10)).toNat * 3)) = some (.int .i64 ((rd_T45 l0 (ji10)).f0.f0)) ∧ w'.cell? ⟨(ad101.add (((ji10)).toNat * 3)).block, (ad101.add (((ji10)).toNat * 3)).off + 1, none⟩ = some (.int .i64 ((rd_T45 l0 (ji10)).f0.f1)) ∧ w'.cell? ⟨(ad101.add (((ji10)).toNat * 3)).block, (ad101.add (((ji10)).toNat * 3)).off + 2, none⟩ = some (.int .i64 ((rd_T45 l0 (ji10)).f1)))) (ds := []) (tf 0 26) (by kernel_rfl) rfl rfl ⟨z0 _ BK102.out, z1 _ BK102.out, z2 _ BK102.out, (CY HB.out hw105_0), (CY HB.out hw105_1), (CY HB.out hw105_2)⟩ (fun hHeld => ?_); refine with_tabW impl_WaysOk.tab4 impl_WaysOk.bits4 (fun HT_ HW_ => ?_)
            generalize w23.drew = w24 at BK102 HB hx105_0 hx105_1 hx105_2 hHeld ⊢
            refine pv HT_ 0 12 (tf 1 25) ?_
            refine tk 1 (some 13) (tf 2 24) (take_ofW HT_.out HW_.out (by kernel_rfl)) hHeld ?_
            refine one_ (i := 2) (N := some 14) (tf 3 23) rfl rfl (one_of HT_.out (by kernel_rfl)) (by decide) (fun K hK => ?_)
            refine goes_ Try.func79 (by kernel_rfl) rfl #[.agg #[.int .i64 ((rd_T45 l0 x7_1).f0.f0), .int .i64 ((rd_T45 l0 x7_1).f0.f1)]] (by rfl) rfl rfl MT ?_
            with_reducible refine (impl_BlockOk.calls ((rd_T45 l0 x7_1).f0.f0) ((rd_T45 l0 x7_1).f0.f1) true _ A5.out).mono ?_
            rintro e w25 ⟨rfl, hb⟩
            refine ⟨_, rfl, ?_⟩
            replace BK102 := am (BB BK102 hb)
            replace HB := am (below_step (K1 HB GE102.out) hb)
            (try clear hb)
            (try clear hb2)
            (try clear hk)
            (try clear hi)
            refine hK.out _ _ ⟨z0 _ BK102.out, z1 _ BK102.out, z2 _ BK102.out, (CY HB.out hw105_0), (CY HB.out hw105_1), (CY HB.out hw105_2)⟩ (fun hHeld => ?_)
            clear hK K
            refine norm_ (a' := ?_) ?_ ?_
            rotate_left
            ·show Act.put _ (some 14) _ = _
             simp only [Act.put, List.setIfInBounds_toArray, List.set_cons_zero, List.set_cons_succ, i64_w, i32_w]
             rfl
            refine pv HT_ 3 15 (tf 4 22) ?_
            refine pv HT_ 4 16 (tf 5 21) ?_
            refine pv HT_ 5 17 (tf 6 20) ?_
            refine tk 6 (some 18) (tf 7 19) (take_ofW HT_.out HW_.out (by kernel_rfl)) hHeld ?_
            refine one_ (i := 7) (N := some 19) (tf 8 18) rfl rfl (one_of HT_.out (by kernel_rfl)) (by decide) (fun K hK => ?_)
            refine goes_ Try.func81 (by kernel_rfl) rfl #[.int .i64 ((rd_T45 l0 x7_1).f1), .int .i64 0, .int .i64 99] (by rfl) rfl rfl MT ?_
            with_reducible refine (impl_in.calls ((rd_T45 l0 x7_1).f1) 0 99 true _ A7.out).mono ?_
            rintro e w' ⟨rfl, ⟨nd, rfl⟩⟩
            refine ⟨_, rfl, ?_⟩
            refine hK.out _ _ ⟨z0 _ BK102.out, z1 _ BK102.out, z2 _ BK102.out, (CY HB.out hw105_0), (CY HB.out hw105_1), (CY HB.out hw105_2)⟩ (fun hHeld => ?_)
            clear hK K
            refine norm_ (a' := ?_) ?_ ?_
            rotate_left
            ·show Act.put _ (some 19) _ = _
             simp only [Act.put, List.setIfInBounds_toArray, List.set_cons_zero, List.set_cons_succ, i64_w, i32_w]
             rfl
            refine pv HT_ 8 20 (tf 9 17) ?_
            refine pv HT_ 9 21 (tf 10 16) ?_
            refine pv HT_ 10 22 (tf 11 15) ?_
            refine pv HT_ 11 23 (tf 12 14) ?_
            refine pv HT_ 12 24 (tf 13 13) ?_
            refine pv HT_ 13 25 (tf 14 12) ?_
            refine pv HT_ 14 26 (tf 15 11) ?_
            refine pv HT_ 15 27 (tf 16 10) ?_
            refine pv HT_ 16 28 (tf 17 9) ?_
            refine pv HT_ 17 29 (tf 18 8) ?_
            refine pv HT_ 18 30 (tf 19 7) ?_
            refine pv HT_ 20 32 (tr [19, 1, 1, 5]) ?_
            refine tk 19 (some 31) (tf 21 5) (take_ofW HT_.out HW_.out (by kernel_rfl)) hHeld ?_
            refine tk 21 (some 33) (tf 22 4) (take_ofW HT_.out HW_.out (by kernel_rfl)) hHeld ?_
            refine one_ (i := 22) (N := some 34) (tf 23 3) rfl rfl (one_of HT_.out (by kernel_rfl)) (by decide) (fun K hK => ?_)
            refine goes_ Try.func82 (by kernel_rfl) rfl #[.agg #[.int .i64 ((rd_T45 l0 (ji10)).f0.f0), .int .i64 ((rd_T45 l0 (ji10)).f0.f1)], .agg #[.int .i64 ((rd_T45 l0 x7_1).f0.f0), .int .i64 ((rd_T45 l0 x7_1).f0.f1)]] (by rfl) rfl rfl (by (try simp only [List.map_toArray, List.map_cons, List.map_nil]); first | done | (simp only [hji10]; rfl) | rfl | (simp only [List.length_drop, List.length_take]; rfl)) ?_
            with_reducible refine (impl_byBlock.calls k1 ((rd_T45 l0 (ji10)).f0.f0) ((rd_T45 l0 (ji10)).f0.f1) ((rd_T45 l0 x7_1).f0.f0) ((rd_T45 l0 x7_1).f0.f1) t106 _ A13.out).mono ?_
            rintro e w26 ⟨rfl, hb⟩
            refine ⟨_, rfl, ?_⟩
            replace BK102 := am (BB BK102 hb)
            replace HB := am (below_step (K1 HB GE102.out) hb)
            (try clear hb)
            (try clear hb2)
            (try clear hk)
            (try clear hi)
            refine hK.out _ _ ⟨z0 _ BK102.out, z1 _ BK102.out, z2 _ BK102.out, (CY HB.out hw105_0), (CY HB.out hw105_1), (CY HB.out hw105_2)⟩ (fun hHeld => ?_)
            clear hK K
            refine norm_ (a' := ?_) ?_ ?_
            rotate_left
            ·show Act.put _ (some 34) _ = _
             simp only [Act.put, List.setIfInBounds_toArray, List.set_cons_zero, List.set_cons_succ, i64_w, i32_w]
             rfl
            refine pv HT_ 23 35 (tf 24 2) ?_
            refine pv HT_ 24 36 (tf 25 1) ?_
            refine pv HT_ 25 37 (tf 26 0) ?_
            refine done_ (done_of HT_.out (by kernel_rfl)) ?_
            try go_wp2
            go_roundg k1
            case measure => have := HK1.out; omega
            case rel => exact ⟨(wrap64 (x7_1 + 1)), (by first | rfl | (simp; done) | (simp [*]; done)), H', ⟨by have := HK1.out; omega⟩, ⟨K1 HB GE102.out⟩⟩
          ·rw [if_neg c12] at H
           exact absurd H (by simp)
         ·rw [if_neg c11] at H
          exact absurd H (by simp)
        ·rw [if_neg c9] at H
         have c9b0 : decide (0 < x7_1) = false := decide_eq_false c9
         clear c9
         have H' := Aside0.mk H
         clear H
         have p101 : 0 ≤ (x7_1 : Int) := OD
         have q101 : x7_1 < (l0.length : Int) := OD
         obtain ⟨ad101, e101, hx101_0, hx101_1, hx101_2⟩ := at_T45 HR0.out x7_1 p101 q101
         cases e101
         replace hx101_0 := CX HB.out hx101_0
         replace hx101_1 := CX HB.out hx101_1
         replace hx101_2 := CX HB.out hx101_2
         replace p101 := eq_true p101
         replace q101 := eq_true q101
         try go_wp2_with (first | ((with_reducible refine gate_dst (N := 4) rfl ?_); refine box_event rfl (N := 4) rfl (cs := #[.int .i64 0, .int .i64 0, .int .i64 0]) (t := 45) BX ?_; intro gb102 hg w27 hbox hb; have BK102 := am (hbox); have GW102 := am (GH HB hg); have GE102 := GW102; replace HB := am (below_step (KL HB) hb); clear hb hbox hg; obtain ⟨hcz28_0, hcz28_1, hcz28_2, hfz28_0⟩ := y3 w27 BK102.out))
         generalize hq_ : (((w27.setCell ⟨gb102, 0, none⟩ (.int .i64 ((rd_T45 l0 x7_1).f0.f0))).setCell ⟨gb102, 1, none⟩ (.int .i64 ((rd_T45 l0 x7_1).f0.f1))).setCell ⟨gb102, 2, none⟩ (.int .i64 ((rd_T45 l0 x7_1).f1))) = w29
         have n0_ : Aside0 (w29.heap[gb102]? = some (.cells #[.int .i64 ((rd_T45 l0 x7_1).f0.f0), .int .i64 ((rd_T45 l0 x7_1).f0.f1), .int .i64 ((rd_T45 l0 x7_1).f1)] 45 (0, 0))) := ⟨by rw [← hq_]; exact P3 BK102⟩
         have n1_ : Aside0 (Below w.heap.size w w29) := ⟨by rw [← hq_]; exact K1 HB GE102.out⟩
         clear hq_
         (try clear BK102)
         (try clear HB)
         have BK102 := n0_
         have HB := n1_
         clear n0_ n1_
         replace BK102 := am (blk_drew BK102.out)
         replace HB := am (below_drew1 HB.out)
         refine start_ (n := 26) (S := fun w' => de3 w' gb102 (.int .i64 ((rd_T45 l0 x7_1).f0.f0)) (.int .i64 ((rd_T45 l0 x7_1).f0.f1)) (.int .i64 ((rd_T45 l0 x7_1).f1))) (ds := []) (tf 0 26) (by kernel_rfl) rfl rfl ⟨z0 _ BK102.out, z1 _ BK102.out, z2 _ BK102.out⟩ (fun hHeld => ?_); refine with_tabW impl_WaysOk.tab4 impl_WaysOk.bits4 (fun HT_ HW_ => ?_)
         generalize w29.drew = w30 at BK102 HB hHeld ⊢
         refine pv HT_ 0 12 (tf 1 25) ?_
         refine tk 1 (some 13) (tf 2 24) (take_ofW HT_.out HW_.out (by kernel_rfl)) hHeld ?_
         refine one_ (i := 2) (N := some 14) (tf 3 23) rfl rfl (one_of HT_.out (by kernel_rfl)) (by decide) (fun K hK => ?_)
         refine goes_ Try.func79 (by kernel_rfl) rfl #[.agg #[.int .i64 ((rd_T45 l0 x7_1).f0.f0), .int .i64 ((rd_T45 l0 x7_1).f0.f1)]] (by rfl) rfl rfl MT ?_
         with_reducible refine (impl_BlockOk.calls ((rd_T45 l0 x7_1).f0.f0) ((rd_T45 l0 x7_1).f0.f1) true _ A5.out).mono ?_
         rintro e w31 ⟨rfl, hb⟩
         refine ⟨_, rfl, ?_⟩
         replace BK102 := am (BB BK102 hb)
         replace HB := am (below_step (K1 HB GE102.out) hb)
         (try clear hb)
         (try clear hb2)
         (try clear hk)
         (try clear hi)
         refine hK.out _ _ ⟨z0 _ BK102.out, z1 _ BK102.out, z2 _ BK102.out⟩ (fun hHeld => ?_)
         clear hK K
         refine norm_ (a' := ?_) ?_ ?_
         rotate_left
         ·show Act.put _ (some 14) _ = _
          simp only [Act.put, List.setIfInBounds_toArray, List.set_cons_zero, List.set_cons_succ, i64_w, i32_w]
          rfl
         refine pv HT_ 3 15 (tf 4 22) ?_
         refine pv HT_ 4 16 (tf 5 21) ?_
         refine pv HT_ 5 17 (tf 6 20) ?_
         refine tk 6 (some 18) (tf 7 19) (take_ofW HT_.out HW_.out (by kernel_rfl)) hHeld ?_
         refine one_ (i := 7) (N := some 19) (tf 8 18) rfl rfl (one_of HT_.out (by kernel_rfl)) (by decide) (fun K hK => ?_)
         refine goes_ Try.func81 (by kernel_rfl) rfl #[.int .i64 ((rd_T45 l0 x7_1).f1), .int .i64 0, .int .i64 99] (by rfl) rfl rfl MT ?_
         with_reducible refine (impl_in.calls ((rd_T45 l0 x7_1).f1) 0 99 true _ A7.out).mono ?_
         rintro e w' ⟨rfl, ⟨nd, rfl⟩⟩
         refine ⟨_, rfl, ?_⟩
         refine hK.out _ _ ⟨z0 _ BK102.out, z1 _ BK102.out, z2 _ BK102.out⟩ (fun hHeld => ?_)
         clear hK K
         refine norm_ (a' := ?_) ?_ ?_
         rotate_left
         ·show Act.put _ (some 19) _ = _
          simp only [Act.put, List.setIfInBounds_toArray, List.set_cons_zero, List.set_cons_succ, i64_w, i32_w]
          rfl
         refine pv HT_ 8 20 (tf 9 17) ?_
         refine pv HT_ 9 21 (tf 10 16) ?_
         refine pv HT_ 10 22 (tf 11 15) ?_
         refine pv HT_ 11 23 (tf 12 14) ?_
         refine pv HT_ 12 24 (tf 13 13) ?_
         refine pv HT_ 13 25 (tf 14 12) ?_
         refine pw HT_ 14 26 (tf 15 11) ?_
         refine pw HT_ 15 27 (tf 16 10) ?_
         refine pw HT_ 16 28 (tf 17 9) ?_
         refine pw HT_ 17 29 (tf 18 8) ?_
         refine pw HT_ 18 30 (tf 19 7) ?_
         refine pw HT_ 19 31 (tf 20 6) ?_
         refine pw HT_ 20 32 (tf 21 5) ?_
         refine pw HT_ 21 33 (tf 22 4) ?_
         refine pw HT_ 22 34 (tf 23 3) ?_
         refine pw HT_ 23 35 (tf 24 2) ?_
         refine pv HT_ 24 36 (tf 25 1) ?_
         refine pv HT_ 25 37 (tf 26 0) ?_
         refine done_ (done_of HT_.out (by kernel_rfl)) ?_
         try go_wp2
         go_roundg k1
         case measure => have := HK1.out; omega
         case rel => exact ⟨(wrap64 (x7_1 + 1)), (by first | rfl | (simp; done) | (simp [*]; done)), H', ⟨by have := HK1.out; omega⟩, ⟨K1 HB GE102.out⟩⟩
       ·replace c8 := Bool.eq_false_iff.mpr c8
        subst c8
        have H1 : (some false) = some r := by rw [if_neg (show ¬ (false = true) by decide)] at H; exact H
        clear H
        have H := H1
        clear H1
        obtain rfl := Option.some.inj H
        have p101 : 0 ≤ (x7_1 : Int) := OD
        have q101 : x7_1 < (l0.length : Int) := OD
        obtain ⟨ad101, e101, hx101_0, hx101_1, hx101_2⟩ := at_T45 HR0.out x7_1 p101 q101
        cases e101
        replace hx101_0 := CX HB.out hx101_0
        replace hx101_1 := CX HB.out hx101_1
        replace hx101_2 := CX HB.out hx101_2
        replace p101 := eq_true p101
        replace q101 := eq_true q101
        try go_wp2_with (first | ((with_reducible refine gate_dst (N := 4) rfl ?_); refine box_event rfl (N := 4) rfl (cs := #[.int .i64 0, .int .i64 0, .int .i64 0]) (t := 45) BX ?_; intro gb102 hg w32 hbox hb; have BK102 := am (hbox); have GW102 := am (GH HB hg); have GE102 := GW102; replace HB := am (below_step (KL HB) hb); clear hb hbox hg; obtain ⟨hcz33_0, hcz33_1, hcz33_2, hfz33_0⟩ := y3 w32 BK102.out))
        generalize hq_ : (((w32.setCell ⟨gb102, 0, none⟩ (.int .i64 ((rd_T45 l0 x7_1).f0.f0))).setCell ⟨gb102, 1, none⟩ (.int .i64 ((rd_T45 l0 x7_1).f0.f1))).setCell ⟨gb102, 2, none⟩ (.int .i64 ((rd_T45 l0 x7_1).f1))) = w34
        have n0_ : Aside0 (w34.heap[gb102]? = some (.cells #[.int .i64 ((rd_T45 l0 x7_1).f0.f0), .int .i64 ((rd_T45 l0 x7_1).f0.f1), .int .i64 ((rd_T45 l0 x7_1).f1)] 45 (0, 0))) := ⟨by rw [← hq_]; exact P3 BK102⟩
        have n1_ : Aside0 (Below w.heap.size w w34) := ⟨by rw [← hq_]; exact K1 HB GE102.out⟩
        clear hq_
        (try clear BK102)
        (try clear HB)
        have BK102 := n0_
        have HB := n1_
        clear n0_ n1_
        replace BK102 := am (blk_drew BK102.out)
        replace HB := am (below_drew1 HB.out)
        refine start_ (n := 26) (S := fun w' => de3 w' gb102 (.int .i64 ((rd_T45 l0 x7_1).f0.f0)) (.int .i64 ((rd_T45 l0 x7_1).f0.f1)) (.int .i64 ((rd_T45 l0 x7_1).f1))) (ds := []) (tf 0 26) (by kernel_rfl) rfl rfl ⟨z0 _ BK102.out, z1 _ BK102.out, z2 _ BK102.out⟩ (fun hHeld => ?_); refine with_tabW impl_WaysOk.tab4 impl_WaysOk.bits4 (fun HT_ HW_ => ?_)
        generalize w34.drew = w35 at BK102 HB hHeld ⊢
        refine pv HT_ 0 12 (tf 1 25) ?_
        refine tk 1 (some 13) (tf 2 24) (take_ofW HT_.out HW_.out (by kernel_rfl)) hHeld ?_
        refine one_ (i := 2) (N := some 14) (tf 3 23) rfl rfl (one_of HT_.out (by kernel_rfl)) (by decide) (fun K hK => ?_)
        refine goes_ Try.func79 (by kernel_rfl) rfl #[.agg #[.int .i64 ((rd_T45 l0 x7_1).f0.f0), .int .i64 ((rd_T45 l0 x7_1).f0.f1)]] (by rfl) rfl rfl MT ?_
        with_reducible refine (impl_BlockOk.calls ((rd_T45 l0 x7_1).f0.f0) ((rd_T45 l0 x7_1).f0.f1) true _ A5.out).mono ?_
        rintro e w36 ⟨rfl, hb⟩
        refine ⟨_, rfl, ?_⟩
        replace BK102 := am (BB BK102 hb)
        replace HB := am (below_step (K1 HB GE102.out) hb)
        (try clear hb)
        (try clear hb2)
        (try clear hk)
        (try clear hi)
        refine hK.out _ _ ⟨z0 _ BK102.out, z1 _ BK102.out, z2 _ BK102.out⟩ (fun hHeld => ?_)
        clear hK K
        refine norm_ (a' := ?_) ?_ ?_
        rotate_left
        ·show Act.put _ (some 14) _ = _
         simp only [Act.put, List.setIfInBounds_toArray, List.set_cons_zero, List.set_cons_succ, i64_w, i32_w]
         rfl
        refine pv HT_ 3 15 (tf 4 22) ?_
        refine pv HT_ 4 16 (tf 5 21) ?_
        refine pv HT_ 5 17 (tf 6 20) ?_
        refine tk 6 (some 18) (tf 7 19) (take_ofW HT_.out HW_.out (by kernel_rfl)) hHeld ?_
        refine one_ (i := 7) (N := some 19) (tf 8 18) rfl rfl (one_of HT_.out (by kernel_rfl)) (by decide) (fun K hK => ?_)
        refine goes_ Try.func81 (by kernel_rfl) rfl #[.int .i64 ((rd_T45 l0 x7_1).f1), .int .i64 0, .int .i64 99] (by rfl) rfl rfl MT ?_
        with_reducible refine (impl_in.calls ((rd_T45 l0 x7_1).f1) 0 99 false _ A7.out).mono ?_
        rintro e w' ⟨rfl, ⟨nd, rfl⟩⟩
        refine ⟨_, rfl, ?_⟩
        refine hK.out _ _ ⟨z0 _ BK102.out, z1 _ BK102.out, z2 _ BK102.out⟩ (fun hHeld => ?_)
        clear hK K
        refine norm_ (a' := ?_) ?_ ?_
        rotate_left
        ·show Act.put _ (some 19) _ = _
         simp only [Act.put, List.setIfInBounds_toArray, List.set_cons_zero, List.set_cons_succ, i64_w, i32_w]
         rfl
        refine pv HT_ 8 20 (tf 9 17) ?_
        refine pv HT_ 9 21 (tf 10 16) ?_
        refine pv HT_ 10 22 (tf 11 15) ?_
        refine pw HT_ 11 23 (tf 12 14) ?_
        refine pw HT_ 12 24 (tf 13 13) ?_
        refine pw HT_ 13 25 (tf 14 12) ?_
        refine pw HT_ 14 26 (tf 15 11) ?_
        refine pw HT_ 15 27 (tf 16 10) ?_
        refine pw HT_ 16 28 (tf 17 9) ?_
        refine pw HT_ 17 29 (tf 18 8) ?_
        refine pw HT_ 18 30 (tf 19 7) ?_
        refine pw HT_ 19 31 (tf 20 6) ?_
        refine pw HT_ 20 32 (tf 21 5) ?_
        refine pw HT_ 21 33 (tf 22 4) ?_
        refine pw HT_ 22 34 (tf 23 3) ?_
        refine pw HT_ 23 35 (tf 24 2) ?_
        refine pw HT_ 24 36 (tf 25 1) ?_
        refine pv HT_ 25 37 (tf 26 0) ?_
        refine done_ (done_of HT_.out (by kernel_rfl)) ?_
        try go_wp2
        go_ret
        exact ⟨ER, K1 HB GE102.out⟩
      ·replace c6 := Bool.eq_false_iff.mpr c6
       subst c6
       have H1 : (some false) = some r := by rw [if_neg (show ¬ (false = true) by decide)] at H; exact H
       clear H
       have H := H1
       clear H1
       obtain rfl := Option.some.inj H
       have p101 : 0 ≤ (x7_1 : Int) := OD
       have q101 : x7_1 < (l0.length : Int) := OD
       obtain ⟨ad101, e101, hx101_0, hx101_1, hx101_2⟩ := at_T45 HR0.out x7_1 p101 q101
       cases e101
       replace hx101_0 := CX HB.out hx101_0
       replace hx101_1 := CX HB.out hx101_1
       replace hx101_2 := CX HB.out hx101_2
       replace p101 := eq_true p101
       replace q101 := eq_true q101
       try go_wp2_with (first | ((with_reducible refine gate_dst (N := 4) rfl ?_); refine box_event rfl (N := 4) rfl (cs := #[.int .i64 0, .int .i64 0, .int .i64 0]) (t := 45) BX ?_; intro gb102 hg w37 hbox hb; have BK102 := am (hbox); have GW102 := am (GH HB hg); have GE102 := GW102; replace HB := am (below_step (KL HB) hb); clear hb hbox hg; obtain ⟨hcz38_0, hcz38_1, hcz38_2, hfz38_0⟩ := y3 w37 BK102.out))
       generalize hq_ : (((w37.setCell ⟨gb102, 0, none⟩ (.int .i64 ((rd_T45 l0 x7_1).f0.f0))).setCell ⟨gb102, 1, none⟩ (.int .i64 ((rd_T45 l0 x7_1).f0.f1))).setCell ⟨gb102, 2, none⟩ (.int .i64 ((rd_T45 l0 x7_1).f1))) = w39
       have n0_ : Aside0 (w39.heap[gb102]? = some (.cells #[.int .i64 ((rd_T45 l0 x7_1).f0.f0), .int .i64 ((rd_T45 l0 x7_1).f0.f1), .int .i64 ((rd_T45 l0 x7_1).f1)] 45 (0, 0))) := ⟨by rw [← hq_]; exact P3 BK102⟩
       have n1_ : Aside0 (Below w.heap.size w w39) := ⟨by rw [← hq_]; exact K1 HB GE102.out⟩
       clear hq_
       (try clear BK102)
       (try clear HB)
       have BK102 := n0_
       have HB := n1_
       clear n0_ n1_
       replace BK102 := am (blk_drew BK102.out)
       replace HB := am (below_drew1 HB.out)
       refine start_ (n := 26) (S := fun w' => de3 w' gb102 (.int .i64 ((rd_T45 l0 x7_1).f0.f0)) (.int .i64 ((rd_T45 l0 x7_1).f0.f1)) (.int .i64 ((rd_T45 l0 x7_1).f1))) (ds := []) (tf 0 26) (by kernel_rfl) rfl rfl ⟨z0 _ BK102.out, z1 _ BK102.out, z2 _ BK102.out⟩ (fun hHeld => ?_); refine with_tabW impl_WaysOk.tab4 impl_WaysOk.bits4 (fun HT_ HW_ => ?_)
       generalize w39.drew = w40 at BK102 HB hHeld ⊢
       refine pv HT_ 0 12 (tf 1 25) ?_
       refine tk 1 (some 13) (tf 2 24) (take_ofW HT_.out HW_.out (by kernel_rfl)) hHeld ?_
       refine one_ (i := 2) (N := some 14) (tf 3 23) rfl rfl (one_of HT_.out (by kernel_rfl)) (by decide) (fun K hK => ?_)
       refine goes_ Try.func79 (by kernel_rfl) rfl #[.agg #[.int .i64 ((rd_T45 l0 x7_1).f0.f0), .int .i64 ((rd_T45 l0 x7_1).f0.f1)]] (by rfl) rfl rfl MT ?_
       with_reducible refine (impl_BlockOk.calls ((rd_T45 l0 x7_1).f0.f0) ((rd_T45 l0 x7_1).f0.f1) false _ A5.out).mono ?_
       rintro e w41 ⟨rfl, hb⟩
       refine ⟨_, rfl, ?_⟩
       replace BK102 := am (BB BK102 hb)
       replace HB := am (below_step (K1 HB GE102.out) hb)
       (try clear hb)
       (try clear hb2)
       (try clear hk)
       (try clear hi)
       refine hK.out _ _ ⟨z0 _ BK102.out, z1 _ BK102.out, z2 _ BK102.out⟩ (fun hHeld => ?_)
       clear hK K
       refine norm_ (a' := ?_) ?_ ?_
       rotate_left
       ·show Act.put _ (some 14) _ = _
        simp only [Act.put, List.setIfInBounds_toArray, List.set_cons_zero, List.set_cons_succ, i64_w, i32_w]
        rfl
       refine pv HT_ 3 15 (tf 4 22) ?_
       refine pv HT_ 4 16 (tf 5 21) ?_
       refine pw HT_ 5 17 (tf 6 20) ?_
       refine pw HT_ 6 18 (tf 7 19) ?_
       refine pw HT_ 7 19 (tf 8 18) ?_
       refine pw HT_ 8 20 (tf 9 17) ?_
       refine pv HT_ 9 21 (tf 10 16) ?_
       refine pv HT_ 10 22 (tf 11 15) ?_
       refine pw HT_ 11 23 (tf 12 14) ?_
       refine pw HT_ 12 24 (tf 13 13) ?_
       refine pw HT_ 13 25 (tf 14 12) ?_
       refine pw HT_ 14 26 (tf 15 11) ?_
       refine pw HT_ 15 27 (tf 16 10) ?_
       refine pw HT_ 16 28 (tf 17 9) ?_
       refine pw HT_ 17 29 (tf 18 8) ?_
       refine pw HT_ 18 30 (tf 19 7) ?_
       refine pw HT_ 19 31 (tf 20 6) ?_
       refine pw HT_ 20 32 (tf 21 5) ?_
       refine pw HT_ 21 33 (tf 22 4) ?_
       refine pw HT_ 22 34 (tf 23 3) ?_
       refine pw HT_ 23 35 (tf 24 2) ?_
       refine pw HT_ 24 36 (tf 25 1) ?_
       refine pv HT_ 25 37 (tf 26 0) ?_
       refine done_ (done_of HT_.out (by kernel_rfl)) ?_
       try go_wp2
       go_ret
       exact ⟨ER, K1 HB GE102.out⟩
     ·rw [if_neg c4] at H
      exact absurd H (by simp)
    ·rw [if_neg c3] at H
     exact absurd H (by simp)
   ·rw [if_neg c2] at H
    have c2b0 : decide (x7_1 < (l0.length : Int)) = false := decide_eq_false c2
    clear c2
    obtain rfl := Option.some.inj H
    go_wp2
    go_ret
    exact ⟨ER, KL HB⟩
def impl_Block_last.f (a0_0 : Int) (a0_1 : Int) : Option (Int) := (impl_Block_size.f a0_0 a0_1).bind fun t102 => (some (wrap64 ((wrap64 (a0_0 + t102)) - 1)))
set_option maxHeartbeats 8000000 in
set_option maxRecDepth 100000 in
theorem impl_Block_last.calls (a0_0 : Int) (a0_1 : Int) (r : Int) (w : World) (h : impl_Block_last.f a0_0 a0_1 = some r) :
  Calls Try.prog 110 #[.agg #[.int .i64 a0_0, .int .i64 a0_1]] w fun e w' => e = .returned (.int .i64 r) ∧ Below w.heap.size w w' := by
 have hu43 := Try.underlying43
 have HB := am (Below.refl w.heap.size w)
 have H : ((impl_Block_size.f a0_0 a0_1).bind fun t102 => (some (wrap64 ((wrap64 (a0_0 + t102)) - 1)))) = some r := h
 clear h
 replace H := Option.bind_eq_some_iff.mp H
 obtain ⟨t102, A20, H⟩ := H
 replace H : (some (wrap64 ((wrap64 (a0_0 + t102)) - 1))) = some r := H
 have A2 := Aside0.mk A20
 clear A20
 obtain rfl := Option.some.inj H
 go_enter Try.func110, Try.ntmps110
 try go_wp2_with (first | ((with_reducible refine gate_dst (N := 1) rfl ?_); refine box_event rfl (N := 1) rfl (cs := #[.int .i64 a0_0, .int .i64 a0_1]) (t := 43) BX ?_; intro gb101 hg w3 hbox hb; have BK101 := am (hbox); have GW101 := am (GH HB hg); have GE101 := GW101; replace HB := am (below_step (KL HB) hb); clear hb hbox hg))
 replace BK101 := am (blk_drew BK101.out)
 replace HB := am (below_drew1 HB.out)
 refine start_ (n := 7) (S := fun w' => de2 w' gb101 (.int .i64 a0_0) (.int .i64 a0_1)) (ds := []) (tf 0 7) (by kernel_rfl) rfl rfl ⟨z0 _ BK101.out, z1 _ BK101.out⟩ (fun hHeld => ?_)
 generalize w3.drew = w4 at BK101 HB hHeld ⊢
 refine pure_ (i := 0) (N := some 3) (v := ?_) (a' := ?_) (tf 1 6) rfl rfl (by kernel_rfl) (fun _ _ _ h => h) (Or.inl ⟨by rfl, ?_⟩) ?_ ?_; rotate_left; (· intro w'; go_simp; with_reducible rfl); rotate_left; (· simp only [Act.put, List.setIfInBounds_toArray, List.set_cons_zero, List.set_cons_succ, i64_w, i32_w]; rfl)
 refine take_ (i := 1) (N := some 4) (v := ?_) (a' := ?_) (tf 2 5) rfl rfl (by kernel_rfl) (fun _ _ _ h => h) (Or.inl ⟨by rfl, ?_⟩) hHeld ?_ ?_
 rotate_left
 ·rintro w' ⟨s0, s1⟩
  go_simp
  with_reducible rfl
 rotate_left
 ·simp only [Act.put, List.setIfInBounds_toArray, List.set_cons_zero, List.set_cons_succ, i64_w, i32_w]
  rfl
 refine take_ (i := 2) (N := some 5) (v := ?_) (a' := ?_) (tf 3 4) rfl rfl (by kernel_rfl) (fun _ _ _ h => h) (Or.inl ⟨by rfl, ?_⟩) hHeld ?_ ?_
 rotate_left
 ·rintro w' ⟨s0, s1⟩
  go_simp
  with_reducible rfl
 rotate_left
 ·simp only [Act.put, List.setIfInBounds_toArray, List.set_cons_zero, List.set_cons_succ, i64_w, i32_w]
  rfl
 refine one_ (i := 3) (N := some 6) (tf 4 3) rfl rfl (by kernel_rfl) (by decide) (fun K hK => ?_)
 refine goes_ Try.func123 (by kernel_rfl) rfl #[.agg #[.int .i64 a0_0, .int .i64 a0_1]] (by rfl) rfl rfl MT ?_
 with_reducible refine (impl_Block_size.calls a0_0 a0_1 t102 _ A2.out).mono ?_
 rintro e w5 ⟨rfl, hb⟩
 refine ⟨_, rfl, ?_⟩
 replace BK101 := am (BB BK101 hb)
 replace HB := am (below_step (K1 HB GE101.out) hb)
 (try clear hb)
 (try clear hb2)
 (try clear hk)
 (try clear hi)
 refine hK.out _ _ ⟨z0 _ BK101.out, z1 _ BK101.out⟩ (fun hHeld => ?_)
 clear hK K
 refine norm_ (a' := ?_) ?_ ?_
 rotate_left
 ·show Act.put _ (some 6) _ = _
  simp only [Act.put, List.setIfInBounds_toArray, List.set_cons_zero, List.set_cons_succ, i64_w, i32_w]
  rfl
 refine pure_ (i := 4) (N := some 7) (v := ?_) (a' := ?_) (tf 5 2) rfl rfl (by kernel_rfl) (fun _ _ _ h => h) (Or.inl ⟨by rfl, ?_⟩) ?_ ?_; rotate_left; (· intro w'; go_simp; with_reducible rfl); rotate_left; (· simp only [Act.put, List.setIfInBounds_toArray, List.set_cons_zero, List.set_cons_succ, i64_w, i32_w]; rfl)
 refine pure_ (i := 5) (N := some 8) (v := ?_) (a' := ?_) (tf 6 1) rfl rfl (by kernel_rfl) (fun _ _ _ h => h) (Or.inl ⟨by rfl, ?_⟩) ?_ ?_; rotate_left; (· intro w'; go_simp; with_reducible rfl); rotate_left; (· simp only [Act.put, List.setIfInBounds_toArray, List.set_cons_zero, List.set_cons_succ, i64_w, i32_w]; rfl)
 refine pure_ (i := 6) (N := some 2) (v := ?_) (a' := ?_) (tf 7 0) rfl rfl (by kernel_rfl) (fun _ _ _ h => h) (Or.inl ⟨by rfl, ?_⟩) ?_ ?_; rotate_left; (· intro w'; go_simp; with_reducible rfl); rotate_left; (· simp only [Act.put, List.setIfInBounds_toArray, List.set_cons_zero, List.set_cons_succ, i64_w, i32_w]; rfl)
 refine done_ (by kernel_rfl) ?_
 try go_wp2
 go_ret
 exact ⟨ER, K1 HB GE101.out⟩
mutual
def impl_blocksOf.l0 : Nat → List (S43) → List (List (S45)) → Int → Int → Option ((List (S43)))
 | 0, _, _, _, _ => none
 | k + 1, x3, x8, x9, x10 => if x10 < x9 then (if 0 ≤ x10 then (if x10 < (x8.length : Int) then (impl_blocksOf.l1 k x3 x8 x9 x10 (rd_L7 x8 x10) ((rd_L7 x8 x10).length : Int) 0) else (none)) else (none)) else (some x3)
def impl_blocksOf.l1 : Nat → List (S43) → List (List (S45)) → Int → Int → List (S45) → Int → Int → Option ((List (S43)))
 | 0, _, _, _, _, _, _, _ => none
 | k + 1, x3, x8, x9, x10, x14, x15, x16 => if x16 < x15 then (if 0 ≤ x16 then (if x16 < (x14.length : Int) then (if x3.length < 8796093022208 then (impl_blocksOf.l1 k (x3 ++ [(⟨(rd_T45 x14 x16).f0.f0, (rd_T45 x14 x16).f0.f1⟩ : S43)]) x8 x9 x10 x14 x15 (wrap64 (x16 + 1))) else (none)) else (none)) else (none)) else (impl_blocksOf.l0 k x3 x8 x9 (wrap64 (x10 + 1)))
end
def impl_blocksOf.f (k : Nat) (l0 : List (List (S45))) : Option ((List (S43))) := impl_blocksOf.l0 k ([] : List (S43)) l0 (l0.length : Int) 0
set_option maxHeartbeats 8000000 in
set_option maxRecDepth 100000 in
theorem impl_blocksOf.calls (k : Nat) (A0 : Option Addr) (c0 : Nat) (l0 : List (List (S45))) (r : List (S43)) (w : World) (hr0 : Kd.C (Kd.slice 45 k45) w A0 l0.length l0) (hc0 : l0.length ≤ c0) (h : impl_blocksOf.f k l0 = some r) :
  Calls Try.prog 64 #[.slice A0 l0.length c0] w fun e w' => ∃ v0_ : Value, e = .returned (v0_) ∧ Kd.R k43 43 w' w.heap.size (fun _ => True) v0_ r ∧ Below w.heap.size w w' := by
 have hu45 := Try.underlying45
 have hu43 := Try.underlying43
 have HR0 := Aside0.mk hr0
 have HC0 := Aside0.mk hc0
 clear hr0 hc0
 have HB := am (Below.refl w.heap.size w)
 have H : (impl_blocksOf.l0 k ([] : List (S43)) l0 (l0.length : Int) 0) = some r := h
 clear h
 have H' := Aside0.mk H
 clear H
 go_enter Try.func64, Try.ntmps64
 go_wp2
 go_loopg [3, 10] k (fun kq v3 v10 w' => ∃ (x3_1 : List (S43)) (x10_1 : Int), v10 = .int .i64 x10_1 ∧ Aside0 (impl_blocksOf.l0 kq x3_1 l0 (l0.length : Int) x10_1 = some r) ∧ Aside0 (kq ≤ k) ∧ Aside0 (Kd.R k43 43 w' w.heap.size (fun _ => True) v3 x3_1) ∧ Aside0 (Below w.heap.size w w'))
 case atStart => exact ⟨(([] : List (S43))), (0), (by first | rfl | (simp; done) | (simp [*]; done)), H', ⟨Nat.le_refl _⟩, ⟨by first | exact Kd.R_nil _ _ _ _ _ | exact Kd.N_nil _ _ _ _ _ | exact Kd.V_nil _ _ _ _ _ | exact Kd.Q_nil _ _ _ _ _ | exact Kd.S_nil _ _ _ _ _⟩, ⟨KL HB⟩⟩
 case round =>
  clear H'
  obtain ⟨x3_1, x10_1, rfl, HA, HK1, HO_3, HB⟩ := hrel
  cases gk with
  | zero => exact absurd HA.out (by simp [impl_blocksOf.l0])
  | succ k1 =>
   have H := HA.out
   clear HA
   simp only [impl_blocksOf.l0] at H
   by_cases c2 : x10_1 < (l0.length : Int)
   ·rw [if_pos c2] at H
    have c2b0 : decide (x10_1 < (l0.length : Int)) = true := decide_eq_true c2
    clear c2
    by_cases c3 : 0 ≤ x10_1
    ·rw [if_pos c3] at H
     have c3b0 : decide (0 ≤ x10_1) = true := decide_eq_true c3
     clear c3
     by_cases c4 : x10_1 < (l0.length : Int)
     ·rw [if_pos c4] at H
      have c4b0 : decide (x10_1 < (l0.length : Int)) = true := decide_eq_true c4
      clear c4
      have H' := Aside0.mk H
      clear H
      have p101 : 0 ≤ (x10_1 : Int) := OD
      have q101 : x10_1 < (l0.length : Int) := OD
      obtain ⟨ad101, A101_0, c101_0, e101, hx101_0, hl101_0, hi101_0⟩ := at_L7 HR0.out x10_1 p101 q101
      cases e101
      replace hx101_0 := CX HB.out hx101_0
      have HR101_0 := Aside0.mk hi101_0
      have HC101_0 := Aside0.mk hl101_0
      clear hi101_0 hl101_0
      replace p101 := eq_true p101
      replace q101 := eq_true q101
      go_wp2
      go_loopg [3, 16] k1 (fun kq v3 v16 w' => ∃ (x3_2 : List (S43)) (x16_2 : Int), v16 = .int .i64 x16_2 ∧ Aside0 (impl_blocksOf.l1 kq x3_2 l0 (l0.length : Int) x10_1 (rd_L7 l0 x10_1) ((rd_L7 l0 x10_1).length : Int) x16_2 = some r) ∧ Aside0 (kq ≤ k1) ∧ Aside0 (Kd.R k43 43 w' w.heap.size (fun _ => True) v3 x3_2) ∧ Aside0 (Below w.heap.size w w'))
      case atStart => exact ⟨(x3_1), (0), (by first | rfl | (simp; done) | (simp [*]; done)), H', ⟨Nat.le_refl _⟩, ⟨KR HO_3⟩, ⟨KL HB⟩⟩
      case round =>
       clear H'
       try clear c1
       try clear p1
       try clear q1
       try clear hx1
       try clear c2
       try clear c2b0
       try clear p2
       try clear c3
       try clear c3b0
       try clear c4
       try clear c4b0
       try clear hx101_0
       try clear p101
       try clear q101
       obtain ⟨x3_2, x16_2, rfl, HA, HK2, HO_3, HB⟩ := hrel
       cases gk with
       | zero => exact absurd HA.out (by simp [impl_blocksOf.l1])
       | succ k2 =>
        have H := HA.out
        clear HA
        simp only [impl_blocksOf.l1] at H
        by_cases c5 : x16_2 < ((rd_L7 l0 x10_1).length : Int)
        ·rw [if_pos c5] at H
         have c5b0 : decide (x16_2 < ((rd_L7 l0 x10_1).length : Int)) = true := decide_eq_true c5
         clear c5
         by_cases c6 : 0 ≤ x16_2
         ·rw [if_pos c6] at H
          have c6b0 : decide (0 ≤ x16_2) = true := decide_eq_true c6
          clear c6
          by_cases c7 : x16_2 < ((rd_L7 l0 x10_1).length : Int)
          ·rw [if_pos c7] at H
           have c7b0 : decide (x16_2 < ((rd_L7 l0 x10_1).length : Int)) = true := decide_eq_true c7
           clear c7
           by_cases c8 : x3_2.length < 8796093022208
           ·rw [if_pos c8] at H
            have LMc8 := Aside0.mk c8
            clear c8
            obtain ⟨y104, hy104⟩ : ∃ y_ : List (S43), y_ = (x3_2 ++ [(⟨(rd_T45 (rd_L7 l0 x10_1) x16_2).f0.f0, (rd_T45 (rd_L7 l0 x10_1) x16_2).f0.f1⟩ : S43)]) := ⟨_, rfl⟩
            replace H : (impl_blocksOf.l1 k2 y104 l0 (l0.length : Int) x10_1 (rd_L7 l0 x10_1) ((rd_L7 l0 x10_1).length : Int) (wrap64 (x16_2 + 1))) = some r := by first | (rw [hy104]; with_reducible exact H) | (have H2_ := (Option.bind_some _ _).symm.trans H; rw [hy104]; with_reducible exact H2_) | (have H2_ := (Option.bind_some _ _).symm.trans H; with_reducible exact H2_) | with_reducible exact H | (rw [hy104]; exact H) | exact H
            have Ny104 := Aside0.mk hy104
            clear hy104
            have H' := Aside0.mk H
            clear H
            have p102 : 0 ≤ (x16_2 : Int) := OD
            have q102 : x16_2 < ((rd_L7 l0 x10_1).length : Int) := OD
            obtain ⟨ad102, e102, hx102_0, hx102_1, hx102_2⟩ := at_T45 HR101_0.out x16_2 p102 q102
            cases e102
            replace hx102_0 := CX HB.out hx102_0
            replace hx102_1 := CX HB.out hx102_1
            replace hx102_2 := CX HB.out hx102_2
            replace p102 := eq_true p102
            replace q102 := eq_true q102
            go_wp2_with (first | ((with_reducible refine gate_dst (N := 7) rfl ?_); refine box_event rfl (N := 7) rfl (cs := #[.int .i64 0, .int .i64 0, .int .i64 0]) (t := 45) BX ?_; intro gb103 hg w9 hbox hb; replace HO_3 := am (Kd.R_below (KR HO_3) hb); have BK103 := am (hbox); have GW103 := am (GH HB hg); have GE103 := GW103; replace HB := am (below_step (KL HB) hb); clear hb hbox hg; obtain ⟨hcz10_0, hcz10_1, hcz10_2, hfz10_0⟩ := y3 w9 BK103.out) | ((with_reducible refine gate_builtin (b := .append) (xs := #[.tmp 20, .tmp 23]) rfl ?_); at_builtin; refine Kd.R_append k43 (w0 := w) w.heap.size rfl (.tmp 20) (.tmp 23) 89 43 (.agg #[(.int .i64 0), (.int .i64 0)]) 16 rfl Try.underlying89 info43 rfl (by decide) (by omega) u3 x3_2 (⟨(rd_T45 (rd_L7 l0 x10_1) x16_2).f0.f0, (rd_T45 (rd_L7 l0 x10_1) x16_2).f0.f1⟩ : S43) [.int .i64 ((rd_T45 (rd_L7 l0 x10_1) x16_2).f0.f0), .int .i64 ((rd_T45 (rd_L7 l0 x10_1) x16_2).f0.f1)] (fun _ => True) (fun _ => False) rfl (by first | (go_simp; done) | (go_simp; rfl)) ?aP (fun _ hk => hk.elim) ?aF ?aO ?aB ?aS ?aL ?_; (case aP => exact k43_mkM _ _ _ (⟨(rd_T45 (rd_L7 l0 x10_1) x16_2).f0.f0, (rd_T45 (rd_L7 l0 x10_1) x16_2).f0.f1⟩ : S43)); (case aB => exact (K1 HB GE103.out)); (case aF => exact (fun _ _ => trivial)); (case aO => exact (by (with_reducible repeat (first | apply Kd.R_alloc | apply Kd.R_drewN | apply Kd.R_drew)); exact Kd.R_mono (Kd.R_far (p := ⟨gb103, 2, none⟩) (Kd.R_far (p := ⟨gb103, 1, none⟩) (Kd.R_far (p := ⟨gb103, 0, none⟩) (Kd.R_types HO_3.out BK103.out (by decide)) (fun _ hk => hk.2) (.int .i64 ((rd_T45 (rd_L7 l0 x10_1) x16_2).f0.f0))) (fun _ hk => hk.2) (.int .i64 ((rd_T45 (rd_L7 l0 x10_1) x16_2).f0.f1))) (fun _ hk => hk.2) (.int .i64 ((rd_T45 (rd_L7 l0 x10_1) x16_2).f1))) (fun _ hk => trivial))); (case aS => exact (below_size (K1 HB GE103.out))); (case aL => have := LMc8.out; omega); intro v105 w11 ho hb hg hat; rw [← Ny104.out] at ho; replace BK103 := am (blk_grown (g := gb103) (o := .cells #[.int .i64 ((rd_T45 (rd_L7 l0 x10_1) x16_2).f0.f0), .int .i64 ((rd_T45 (rd_L7 l0 x10_1) x16_2).f0.f1), .int .i64 ((rd_T45 (rd_L7 l0 x10_1) x16_2).f1)] 45 (0, 0)) (by (with_reducible repeat (first | refine blk_drewN ?_ _ | refine blk_drew ?_ | refine blk_alloc ?_ _)); refine blk_put (cs := #[.int .i64 ((rd_T45 (rd_L7 l0 x10_1) x16_2).f0.f0), .int .i64 ((rd_T45 (rd_L7 l0 x10_1) x16_2).f0.f1), .int .i64 0]) ?_ 2 _ rfl; (with_reducible repeat (first | refine blk_drewN ?_ _ | refine blk_drew ?_ | refine blk_alloc ?_ _)); refine blk_put (cs := #[.int .i64 ((rd_T45 (rd_L7 l0 x10_1) x16_2).f0.f0), .int .i64 0, .int .i64 0]) ?_ 1 _ rfl; (with_reducible repeat (first | refine blk_drewN ?_ _ | refine blk_drew ?_ | refine blk_alloc ?_ _)); refine blk_put (cs := #[.int .i64 0, .int .i64 0, .int .i64 0]) ?_ 0 _ rfl; (with_reducible repeat (first | refine blk_drewN ?_ _ | refine blk_drew ?_ | refine blk_alloc ?_ _)); exact BK103.out) hg (Kd.R_ne HO_3.out BK103.out (by decide))); replace HB := am (hb); have HO106 := am (ho); clear HO_3; clear ho hb hg hat))
            go_roundg k2
            case measure => have := HK1.out; have := HK2.out; omega
            case rel => exact ⟨(y104), (wrap64 (x16_2 + 1)), (by first | rfl | (simp; done) | (simp [*]; done)), H', ⟨by have := HK1.out; have := HK2.out; omega⟩, ⟨KR HO106⟩, ⟨K1 HB GE103.out⟩⟩
           ·rw [if_neg c8] at H
            exact absurd H (by simp)
          ·rw [if_neg c7] at H
           exact absurd H (by simp)
         ·rw [if_neg c6] at H
          exact absurd H (by simp)
        ·rw [if_neg c5] at H
         have c5b0 : decide (x16_2 < ((rd_L7 l0 x10_1).length : Int)) = false := decide_eq_false c5
         clear c5
         have H' := Aside0.mk H
         clear H
         go_wp2
         go_roundg k2
         case measure => have := HK1.out; have := HK2.out; omega
         case rel => exact ⟨(x3_2), (wrap64 (x10_1 + 1)), (by first | rfl | (simp; done) | (simp [*]; done)), H', ⟨by have := HK1.out; have := HK2.out; omega⟩, ⟨KR HO_3⟩, ⟨KL HB⟩⟩
     ·rw [if_neg c4] at H
      exact absurd H (by simp)
    ·rw [if_neg c3] at H
     exact absurd H (by simp)
   ·rw [if_neg c2] at H
    have c2b0 : decide (x10_1 < (l0.length : Int)) = false := decide_eq_false c2
    clear c2
    obtain rfl := Option.some.inj H
    go_wp2
    go_ret
    exact ⟨_, ER, by (with_reducible repeat (first | apply Kd.R_alloc | apply Kd.R_drewN | apply Kd.R_drew)); exact HO_3.out, KL HB⟩
def impl_Block_has.f (a0_0 : Int) (a0_1 : Int) (a1 : Int) : Option (Bool) := (impl_Block_last.f a0_0 a0_1).bind fun t102 => ((impl_in.f a1 a0_0 t102).bind fun t103 => (some t103))
set_option maxHeartbeats 8000000 in
set_option maxRecDepth 100000 in
theorem impl_Block_has.calls (a0_0 : Int) (a0_1 : Int) (a1 : Int) (r : Bool) (w : World) (h : impl_Block_has.f a0_0 a0_1 a1 = some r) :
  Calls Try.prog 80 #[.agg #[.int .i64 a0_0, .int .i64 a0_1], .int .i64 a1] w fun e w' => e = .returned (.bool r) ∧ Below w.heap.size w w' := by
 have hu43 := Try.underlying43
 have HB := am (Below.refl w.heap.size w)
 have H : ((impl_Block_last.f a0_0 a0_1).bind fun t102 => ((impl_in.f a1 a0_0 t102).bind fun t103 => (some t103))) = some r := h
 clear h
 replace H := Option.bind_eq_some_iff.mp H
 obtain ⟨t102, A30, H⟩ := H
 replace H : ((impl_in.f a1 a0_0 t102).bind fun t103 => (some t103)) = some r := H
 have A3 := Aside0.mk A30
 clear A30
 replace H := Option.bind_eq_some_iff.mp H
 obtain ⟨t103, A40, H⟩ := H
 replace H : (some t103) = some r := H
 have A4 := Aside0.mk A40
 clear A40
 obtain rfl := Option.some.inj H
 go_enter Try.func80, Try.ntmps80
 try go_wp2_with (first | ((with_reducible refine gate_dst (N := 2) rfl ?_); refine box_event rfl (N := 2) rfl (cs := #[.int .i64 a0_0, .int .i64 a0_1]) (t := 43) BX ?_; intro gb101 hg w5 hbox hb; have BK101 := am (hbox); have GW101 := am (GH HB hg); have GE101 := GW101; replace HB := am (below_step (KL HB) hb); clear hb hbox hg))
 replace BK101 := am (blk_drew BK101.out)
 replace HB := am (below_drew1 HB.out)
 refine start_ (n := 7) (S := fun w' => de2 w' gb101 (.int .i64 a0_0) (.int .i64 a0_1)) (ds := []) (tf 0 7) (by kernel_rfl) rfl rfl ⟨z0 _ BK101.out, z1 _ BK101.out⟩ (fun hHeld => ?_)
 generalize w5.drew = w6 at BK101 HB hHeld ⊢
 refine pure_ (i := 0) (N := some 5) (v := ?_) (a' := ?_) (tf 1 6) rfl rfl (by kernel_rfl) (fun _ _ _ h => h) (Or.inl ⟨by rfl, ?_⟩) ?_ ?_; rotate_left; (· intro w'; go_simp; with_reducible rfl); rotate_left; (· simp only [Act.put, List.setIfInBounds_toArray, List.set_cons_zero, List.set_cons_succ, i64_w, i32_w]; rfl)
 refine pure_ (i := 1) (N := some 6) (v := ?_) (a' := ?_) (tf 2 5) rfl rfl (by kernel_rfl) (fun _ _ _ h => h) (Or.inl ⟨by rfl, ?_⟩) ?_ ?_; rotate_left; (· intro w'; go_simp; with_reducible rfl); rotate_left; (· simp only [Act.put, List.setIfInBounds_toArray, List.set_cons_zero, List.set_cons_succ, i64_w, i32_w]; rfl)
 refine take_ (i := 2) (N := some 7) (v := ?_) (a' := ?_) (tf 3 4) rfl rfl (by kernel_rfl) (fun _ _ _ h => h) (Or.inl ⟨by rfl, ?_⟩) hHeld ?_ ?_
 rotate_left
 ·rintro w' ⟨s0, s1⟩
  go_simp
  with_reducible rfl
 rotate_left
 ·simp only [Act.put, List.setIfInBounds_toArray, List.set_cons_zero, List.set_cons_succ, i64_w, i32_w]
  rfl
 refine take_ (i := 3) (N := some 8) (v := ?_) (a' := ?_) (tf 4 3) rfl rfl (by kernel_rfl) (fun _ _ _ h => h) (Or.inl ⟨by rfl, ?_⟩) hHeld ?_ ?_
 rotate_left
 ·rintro w' ⟨s0, s1⟩
  go_simp
  with_reducible rfl
 rotate_left
 ·simp only [Act.put, List.setIfInBounds_toArray, List.set_cons_zero, List.set_cons_succ, i64_w, i32_w]
  rfl
 refine one_ (i := 4) (N := some 9) (tf 5 2) rfl rfl (by kernel_rfl) (by decide) (fun K hK => ?_)
 refine goes_ Try.func110 (by kernel_rfl) rfl #[.agg #[.int .i64 a0_0, .int .i64 a0_1]] (by rfl) rfl rfl MT ?_
 with_reducible refine (impl_Block_last.calls a0_0 a0_1 t102 _ A3.out).mono ?_
 rintro e w7 ⟨rfl, hb⟩
 refine ⟨_, rfl, ?_⟩
 replace BK101 := am (BB BK101 hb)
 replace HB := am (below_step (K1 HB GE101.out) hb)
 (try clear hb)
 (try clear hb2)
 (try clear hk)
 (try clear hi)
 refine hK.out _ _ ⟨z0 _ BK101.out, z1 _ BK101.out⟩ (fun hHeld => ?_)
 clear hK K
 refine norm_ (a' := ?_) ?_ ?_
 rotate_left
 ·show Act.put _ (some 9) _ = _
  simp only [Act.put, List.setIfInBounds_toArray, List.set_cons_zero, List.set_cons_succ, i64_w, i32_w]
  rfl
 refine one_ (i := 5) (N := some 10) (tf 6 1) rfl rfl (by kernel_rfl) (by decide) (fun K hK => ?_)
 refine goes_ Try.func81 (by kernel_rfl) rfl #[.int .i64 a1, .int .i64 a0_0, .int .i64 t102] (by rfl) rfl rfl MT ?_
 with_reducible refine (impl_in.calls a1 a0_0 t102 t103 _ A4.out).mono ?_
 rintro e w' ⟨rfl, ⟨nd, rfl⟩⟩
 refine ⟨_, rfl, ?_⟩
 refine hK.out _ _ ⟨z0 _ BK101.out, z1 _ BK101.out⟩ (fun hHeld => ?_)
 clear hK K
 refine norm_ (a' := ?_) ?_ ?_
 rotate_left
 ·show Act.put _ (some 10) _ = _
  simp only [Act.put, List.setIfInBounds_toArray, List.set_cons_zero, List.set_cons_succ, i64_w, i32_w]
  rfl
 refine pure_ (i := 6) (N := some 4) (v := ?_) (a' := ?_) (tf 7 0) rfl rfl (by kernel_rfl) (fun _ _ _ h => h) (Or.inl ⟨by rfl, ?_⟩) ?_ ?_; rotate_left; (· intro w'; go_simp; with_reducible rfl); rotate_left; (· simp only [Act.put, List.setIfInBounds_toArray, List.set_cons_zero, List.set_cons_succ, i64_w, i32_w]; rfl)
 refine done_ (by kernel_rfl) ?_
 try go_wp2
 go_ret
 exact ⟨ER, K1 HB GE101.out⟩
def impl_lead.l0 : Nat → Int → List (S45) → Int → Int → Int → Int → Int → Option (Int)
 | 0, _, _, _, _, _, _, _ => none
 | k + 1, x1, x10, x11, x12, x102000, x102001, x102002 => if x12 < x11 then (if 0 ≤ x12 then (if x12 < (x10.length : Int) then ((impl_Block_has.f ((rd_T45 x10 x12).f0.f0) ((rd_T45 x10 x12).f0.f1) x1).bind fun t104 => (if t104 = true then (if ((rd_T45 x10 x12).f0.f1) > x102001 then (impl_lead.l0 k x1 x10 x11 (wrap64 (x12 + 1)) ((rd_T45 x10 x12).f0.f0) ((rd_T45 x10 x12).f0.f1) ((rd_T45 x10 x12).f1)) else (impl_lead.l0 k x1 x10 x11 (wrap64 (x12 + 1)) x102000 x102001 x102002)) else (impl_lead.l0 k x1 x10 x11 (wrap64 (x12 + 1)) x102000 x102001 x102002))) else (none)) else (none)) else (some x102002)
def impl_lead.f (k : Nat) (l0 : List (S45)) (a1 : Int) : Option (Int) := impl_lead.l0 k a1 l0 (l0.length : Int) 0 0 (-1) (-1)
set_option maxHeartbeats 8000000 in
set_option maxRecDepth 100000 in
theorem impl_lead.calls (k : Nat) (A0 : Option Addr) (c0 : Nat) (l0 : List (S45)) (a1 : Int) (r : Int) (w : World) (hr0 : Kd.C k45 w A0 l0.length l0) (hc0 : l0.length ≤ c0) (h : impl_lead.f k l0 a1 = some r) :
  Calls Try.prog 65 #[.slice A0 l0.length c0, .int .i64 a1] w fun e w' => e = .returned (.int .i64 r) ∧ Below w.heap.size w w' := by
 have hu43 := Try.underlying43
 have hu45 := Try.underlying45
 have HR0 := Aside0.mk hr0
 have HC0 := Aside0.mk hc0
 clear hr0 hc0
 have HB := am (Below.refl w.heap.size w)
 have H : (impl_lead.l0 k a1 l0 (l0.length : Int) 0 0 (-1) (-1)) = some r := h
 clear h
 have H' := Aside0.mk H
 clear H
 go_enter Try.func65, Try.ntmps65
 go_wp2_with (first | ((with_reducible refine gate_dst (N := 5) rfl ?_); refine box_event rfl (N := 5) rfl (cs := #[.int .i64 0, .int .i64 0, .int .i64 0]) (t := 45) BX ?_; intro gb101 hg w3 hbox hb; have BK101 := am (hbox); have GW101 := am (GH HB hg); have GE101 := GW101; replace HB := am (below_step (KL HB) hb); clear hb hbox hg; obtain ⟨hcz4_0, hcz4_1, hcz4_2, hfz4_0⟩ := y3 w3 BK101.out))
 go_loopg [12] k (fun kq v12 w' => ∃ (x12_1 : Int) (x102000_1 : Int) (x102001_1 : Int) (x102002_1 : Int), v12 = .int .i64 x12_1 ∧ Aside0 (impl_lead.l0 kq a1 l0 (l0.length : Int) x12_1 x102000_1 x102001_1 x102002_1 = some r) ∧ Aside0 (kq ≤ k) ∧ Aside0 (w'.heap[gb101]? = some (.cells #[.int .i64 x102000_1, .int .i64 x102001_1, .int .i64 x102002_1] 45 (0, 0))) ∧ Aside0 (Below w.heap.size w w'))
 case atStart => exact ⟨(0), (0), ((-1)), ((-1)), (by first | rfl | (simp; done) | (simp [*]; done)), H', ⟨Nat.le_refl _⟩, ⟨by (with_reducible repeat (first | refine blk_drewN ?_ _ | refine blk_drew ?_ | refine blk_alloc ?_ _)); refine blk_put (cs := #[.int .i64 0, .int .i64 (-1), .int .i64 0]) ?_ 2 _ rfl; (with_reducible repeat (first | refine blk_drewN ?_ _ | refine blk_drew ?_ | refine blk_alloc ?_ _)); refine blk_put (cs := #[.int .i64 0, .int .i64 0, .int .i64 0]) ?_ 1 _ rfl; (with_reducible repeat (first | refine blk_drewN ?_ _ | refine blk_drew ?_ | refine blk_alloc ?_ _)); refine blk_put (cs := #[.int .i64 0, .int .i64 0, .int .i64 0]) ?_ 0 _ rfl; (with_reducible repeat (first | refine blk_drewN ?_ _ | refine blk_drew ?_ | refine blk_alloc ?_ _)); exact BK101.out⟩, ⟨K1 HB GE101.out⟩⟩
 case round =>
  clear H'
  try clear p2
  try clear hcz4_0 hcz4_1 hcz4_2 hfz4_0
  obtain ⟨x12_1, x102000_1, x102001_1, x102002_1, rfl, HA, HK1, BK101, HB⟩ := hrel
  cases gk with
  | zero => exact absurd HA.out (by simp [impl_lead.l0])
  | succ k1 =>
   have H := HA.out
   clear HA
   simp only [impl_lead.l0] at H
   by_cases c5 : x12_1 < (l0.length : Int)
   ·rw [if_pos c5] at H
    have c5b0 : decide (x12_1 < (l0.length : Int)) = true := decide_eq_true c5
    clear c5
    by_cases c6 : 0 ≤ x12_1
    ·rw [if_pos c6] at H
     have c6b0 : decide (0 ≤ x12_1) = true := decide_eq_true c6
     clear c6
     by_cases c7 : x12_1 < (l0.length : Int)
     ·rw [if_pos c7] at H
      have c7b0 : decide (x12_1 < (l0.length : Int)) = true := decide_eq_true c7
      clear c7
      replace H := Option.bind_eq_some_iff.mp H
      obtain ⟨t104, A80, H⟩ := H
      replace H : (if t104 = true then (if ((rd_T45 l0 x12_1).f0.f1) > x102001_1 then (impl_lead.l0 k1 a1 l0 (l0.length : Int) (wrap64 (x12_1 + 1)) ((rd_T45 l0 x12_1).f0.f0) ((rd_T45 l0 x12_1).f0.f1) ((rd_T45 l0 x12_1).f1)) else (impl_lead.l0 k1 a1 l0 (l0.length : Int) (wrap64 (x12_1 + 1)) x102000_1 x102001_1 x102002_1)) else (impl_lead.l0 k1 a1 l0 (l0.length : Int) (wrap64 (x12_1 + 1)) x102000_1 x102001_1 x102002_1)) = some r := H
      have A8 := Aside0.mk A80
      clear A80
      by_cases c9 : t104 = true
      ·subst c9
       have H1 : (if ((rd_T45 l0 x12_1).f0.f1) > x102001_1 then (impl_lead.l0 k1 a1 l0 (l0.length : Int) (wrap64 (x12_1 + 1)) ((rd_T45 l0 x12_1).f0.f0) ((rd_T45 l0 x12_1).f0.f1) ((rd_T45 l0 x12_1).f1)) else (impl_lead.l0 k1 a1 l0 (l0.length : Int) (wrap64 (x12_1 + 1)) x102000_1 x102001_1 x102002_1)) = some r := by rw [if_pos rfl] at H; exact H
       clear H
       have H := H1
       clear H1
       by_cases c10 : ((rd_T45 l0 x12_1).f0.f1) > x102001_1
       ·rw [if_pos c10] at H
        have c10b0 : decide (x102001_1 < ((rd_T45 l0 x12_1).f0.f1)) = true := decide_eq_true c10
        clear c10
        have H' := Aside0.mk H
        clear H
        have p102 : 0 ≤ (x12_1 : Int) := OD
        have q102 : x12_1 < (l0.length : Int) := OD
        obtain ⟨ad102, e102, hx102_0, hx102_1, hx102_2⟩ := at_T45 HR0.out x12_1 p102 q102
        cases e102
        replace hx102_0 := CX HB.out hx102_0
        replace hx102_1 := CX HB.out hx102_1
        replace hx102_2 := CX HB.out hx102_2
        replace p102 := eq_true p102
        replace q102 := eq_true q102
        go_wp2_with (first | ((with_reducible refine gate_dst (N := 7) rfl ?_); refine box_event rfl (N := 7) rfl (cs := #[.int .i64 0, .int .i64 0, .int .i64 0]) (t := 45) BX ?_; intro gb103 hg w11 hbox hb; have BK103 := am (hbox); have GW103 := am (GH1 HB GE101.out hg); have GE103 := GW103; replace HB := am (below_step (K1 HB GE101.out) hb); have NB101_103 := am (NL BK101 hg); have NB103_101 := am (NG BK101 hg); replace BK101 := am (BB BK101 hb); clear hb hbox hg; have hnb12 := NB103_101.out; have hnc12 := NB101_103.out; obtain ⟨hcz13_0, hcz13_1, hcz13_2, hfz13_0⟩ := y3 w11 BK103.out) | ((with_reducible refine gate_callee (f := 80) rfl ?_); refine goesL_ (some 19) rfl rfl Try.func80 (by kernel_rfl) rfl #[.agg #[.int .i64 ((rd_T45 l0 x12_1).f0.f0), .int .i64 ((rd_T45 l0 x12_1).f0.f1)], .int .i64 a1] rfl MT ?_; (with_reducible refine (impl_Block_has.calls ((rd_T45 l0 x12_1).f0.f0) ((rd_T45 l0 x12_1).f0.f1) a1 true _ A8.out).mono ?_); rintro e w14 ⟨rfl, hb⟩; refine ⟨_, rfl, ?_⟩; replace BK101 := am (blk_below (g := gb101) (o := .cells #[.int .i64 x102000_1, .int .i64 x102001_1, .int .i64 x102002_1] 45 (0, 0)) (by (with_reducible repeat (first | refine blk_drewN ?_ _ | refine blk_drew ?_ | refine blk_alloc ?_ _)); refine blk_far ?_ NB101_103.out _; (with_reducible repeat (first | refine blk_drewN ?_ _ | refine blk_drew ?_ | refine blk_alloc ?_ _)); refine blk_far ?_ NB101_103.out _; (with_reducible repeat (first | refine blk_drewN ?_ _ | refine blk_drew ?_ | refine blk_alloc ?_ _)); refine blk_far ?_ NB101_103.out _; (with_reducible repeat (first | refine blk_drewN ?_ _ | refine blk_drew ?_ | refine blk_alloc ?_ _)); exact BK101.out) hb); replace BK103 := am (blk_below (g := gb103) (o := .cells #[.int .i64 ((rd_T45 l0 x12_1).f0.f0), .int .i64 ((rd_T45 l0 x12_1).f0.f1), .int .i64 ((rd_T45 l0 x12_1).f1)] 45 (0, 0)) (by (with_reducible repeat (first | refine blk_drewN ?_ _ | refine blk_drew ?_ | refine blk_alloc ?_ _)); refine blk_put (cs := #[.int .i64 ((rd_T45 l0 x12_1).f0.f0), .int .i64 ((rd_T45 l0 x12_1).f0.f1), .int .i64 0]) ?_ 2 _ rfl; (with_reducible repeat (first | refine blk_drewN ?_ _ | refine blk_drew ?_ | refine blk_alloc ?_ _)); refine blk_put (cs := #[.int .i64 ((rd_T45 l0 x12_1).f0.f0), .int .i64 0, .int .i64 0]) ?_ 1 _ rfl; (with_reducible repeat (first | refine blk_drewN ?_ _ | refine blk_drew ?_ | refine blk_alloc ?_ _)); refine blk_put (cs := #[.int .i64 0, .int .i64 0, .int .i64 0]) ?_ 0 _ rfl; (with_reducible repeat (first | refine blk_drewN ?_ _ | refine blk_drew ?_ | refine blk_alloc ?_ _)); exact BK103.out) hb); replace HB := am (below_step (K2 HB GE101.out GE103.out) hb); (try clear hb); (try clear hb2); (try clear hk); (try clear hi); obtain ⟨hcz15_0, hcz15_1, hcz15_2, hfz15_0⟩ := y3 w14 BK103.out; obtain ⟨hcz16_0, hcz16_1, hcz16_2, hfz16_0⟩ := y3 w14 BK101.out))
        go_roundg k1
        case measure => have := HK1.out; omega
        case rel => exact ⟨(wrap64 (x12_1 + 1)), ((rd_T45 l0 x12_1).f0.f0), ((rd_T45 l0 x12_1).f0.f1), ((rd_T45 l0 x12_1).f1), (by first | rfl | (simp; done) | (simp [*]; done)), H', ⟨by have := HK1.out; omega⟩, ⟨by (with_reducible repeat (first | refine blk_drewN ?_ _ | refine blk_drew ?_ | refine blk_alloc ?_ _)); refine blk_put (cs := #[.int .i64 ((rd_T45 l0 x12_1).f0.f0), .int .i64 ((rd_T45 l0 x12_1).f0.f1), .int .i64 x102002_1]) ?_ 2 _ rfl; (with_reducible repeat (first | refine blk_drewN ?_ _ | refine blk_drew ?_ | refine blk_alloc ?_ _)); refine blk_put (cs := #[.int .i64 ((rd_T45 l0 x12_1).f0.f0), .int .i64 x102001_1, .int .i64 x102002_1]) ?_ 1 _ rfl; (with_reducible repeat (first | refine blk_drewN ?_ _ | refine blk_drew ?_ | refine blk_alloc ?_ _)); refine blk_put (cs := #[.int .i64 x102000_1, .int .i64 x102001_1, .int .i64 x102002_1]) ?_ 0 _ rfl; (with_reducible repeat (first | refine blk_drewN ?_ _ | refine blk_drew ?_ | refine blk_alloc ?_ _)); exact BK101.out⟩, ⟨K2 HB GE101.out GE103.out⟩⟩
       ·rw [if_neg c10] at H
        have c10b0 : decide (x102001_1 < ((rd_T45 l0 x12_1).f0.f1)) = false := decide_eq_false c10
        clear c10
        have H' := Aside0.mk H
        clear H
        have p102 : 0 ≤ (x12_1 : Int) := OD
        have q102 : x12_1 < (l0.length : Int) := OD
        obtain ⟨ad102, e102, hx102_0, hx102_1, hx102_2⟩ := at_T45 HR0.out x12_1 p102 q102
        cases e102
        replace hx102_0 := CX HB.out hx102_0
        replace hx102_1 := CX HB.out hx102_1
        replace hx102_2 := CX HB.out hx102_2
        replace p102 := eq_true p102
        replace q102 := eq_true q102
        go_wp2_with (first | ((with_reducible refine gate_dst (N := 7) rfl ?_); refine box_event rfl (N := 7) rfl (cs := #[.int .i64 0, .int .i64 0, .int .i64 0]) (t := 45) BX ?_; intro gb103 hg w17 hbox hb; have BK103 := am (hbox); have GW103 := am (GH1 HB GE101.out hg); have GE103 := GW103; replace HB := am (below_step (K1 HB GE101.out) hb); have NB101_103 := am (NL BK101 hg); have NB103_101 := am (NG BK101 hg); replace BK101 := am (BB BK101 hb); clear hb hbox hg; have hnb18 := NB103_101.out; have hnc18 := NB101_103.out; obtain ⟨hcz19_0, hcz19_1, hcz19_2, hfz19_0⟩ := y3 w17 BK103.out) | ((with_reducible refine gate_callee (f := 80) rfl ?_); refine goesL_ (some 19) rfl rfl Try.func80 (by kernel_rfl) rfl #[.agg #[.int .i64 ((rd_T45 l0 x12_1).f0.f0), .int .i64 ((rd_T45 l0 x12_1).f0.f1)], .int .i64 a1] rfl MT ?_; (with_reducible refine (impl_Block_has.calls ((rd_T45 l0 x12_1).f0.f0) ((rd_T45 l0 x12_1).f0.f1) a1 true _ A8.out).mono ?_); rintro e w20 ⟨rfl, hb⟩; refine ⟨_, rfl, ?_⟩; replace BK101 := am (blk_below (g := gb101) (o := .cells #[.int .i64 x102000_1, .int .i64 x102001_1, .int .i64 x102002_1] 45 (0, 0)) (by (with_reducible repeat (first | refine blk_drewN ?_ _ | refine blk_drew ?_ | refine blk_alloc ?_ _)); refine blk_far ?_ NB101_103.out _; (with_reducible repeat (first | refine blk_drewN ?_ _ | refine blk_drew ?_ | refine blk_alloc ?_ _)); refine blk_far ?_ NB101_103.out _; (with_reducible repeat (first | refine blk_drewN ?_ _ | refine blk_drew ?_ | refine blk_alloc ?_ _)); refine blk_far ?_ NB101_103.out _; (with_reducible repeat (first | refine blk_drewN ?_ _ | refine blk_drew ?_ | refine blk_alloc ?_ _)); exact BK101.out) hb); replace BK103 := am (blk_below (g := gb103) (o := .cells #[.int .i64 ((rd_T45 l0 x12_1).f0.f0), .int .i64 ((rd_T45 l0 x12_1).f0.f1), .int .i64 ((rd_T45 l0 x12_1).f1)] 45 (0, 0)) (by (with_reducible repeat (first | refine blk_drewN ?_ _ | refine blk_drew ?_ | refine blk_alloc ?_ _)); refine blk_put (cs := #[.int .i64 ((rd_T45 l0 x12_1).f0.f0), .int .i64 ((rd_T45 l0 x12_1).f0.f1), .int .i64 0]) ?_ 2 _ rfl; (with_reducible repeat (first | refine blk_drewN ?_ _ | refine blk_drew ?_ | refine blk_alloc ?_ _)); refine blk_put (cs := #[.int .i64 ((rd_T45 l0 x12_1).f0.f0), .int .i64 0, .int .i64 0]) ?_ 1 _ rfl; (with_reducible repeat (first | refine blk_drewN ?_ _ | refine blk_drew ?_ | refine blk_alloc ?_ _)); refine blk_put (cs := #[.int .i64 0, .int .i64 0, .int .i64 0]) ?_ 0 _ rfl; (with_reducible repeat (first | refine blk_drewN ?_ _ | refine blk_drew ?_ | refine blk_alloc ?_ _)); exact BK103.out) hb); replace HB := am (below_step (K2 HB GE101.out GE103.out) hb); (try clear hb); (try clear hb2); (try clear hk); (try clear hi); obtain ⟨hcz21_0, hcz21_1, hcz21_2, hfz21_0⟩ := y3 w20 BK103.out; obtain ⟨hcz22_0, hcz22_1, hcz22_2, hfz22_0⟩ := y3 w20 BK101.out))
        go_roundg k1
        case measure => have := HK1.out; omega
        case rel => exact ⟨(wrap64 (x12_1 + 1)), (x102000_1), (x102001_1), (x102002_1), (by first | rfl | (simp; done) | (simp [*]; done)), H', ⟨by have := HK1.out; omega⟩, ⟨KB BK101⟩, ⟨K2 HB GE101.out GE103.out⟩⟩
      ·replace c9 := Bool.eq_false_iff.mpr c9
       subst c9
       have H1 : (impl_lead.l0 k1 a1 l0 (l0.length : Int) (wrap64 (x12_1 + 1)) x102000_1 x102001_1 x102002_1) = some r := by rw [if_neg (show ¬ (false = true) by decide)] at H; exact H
       clear H
       have H := H1
       clear H1
       have H' := Aside0.mk H
       clear H
       have p102 : 0 ≤ (x12_1 : Int) := OD
       have q102 : x12_1 < (l0.length : Int) := OD
       obtain ⟨ad102, e102, hx102_0, hx102_1, hx102_2⟩ := at_T45 HR0.out x12_1 p102 q102
       cases e102
       replace hx102_0 := CX HB.out hx102_0
       replace hx102_1 := CX HB.out hx102_1
       replace hx102_2 := CX HB.out hx102_2
       replace p102 := eq_true p102
       replace q102 := eq_true q102
       go_wp2_with (first | ((with_reducible refine gate_dst (N := 7) rfl ?_); refine box_event rfl (N := 7) rfl (cs := #[.int .i64 0, .int .i64 0, .int .i64 0]) (t := 45) BX ?_; intro gb103 hg w23 hbox hb; have BK103 := am (hbox); have GW103 := am (GH1 HB GE101.out hg); have GE103 := GW103; replace HB := am (below_step (K1 HB GE101.out) hb); have NB101_103 := am (NL BK101 hg); have NB103_101 := am (NG BK101 hg); replace BK101 := am (BB BK101 hb); clear hb hbox hg; have hnb24 := NB103_101.out; have hnc24 := NB101_103.out; obtain ⟨hcz25_0, hcz25_1, hcz25_2, hfz25_0⟩ := y3 w23 BK103.out) | ((with_reducible refine gate_callee (f := 80) rfl ?_); refine goesL_ (some 19) rfl rfl Try.func80 (by kernel_rfl) rfl #[.agg #[.int .i64 ((rd_T45 l0 x12_1).f0.f0), .int .i64 ((rd_T45 l0 x12_1).f0.f1)], .int .i64 a1] rfl MT ?_; (with_reducible refine (impl_Block_has.calls ((rd_T45 l0 x12_1).f0.f0) ((rd_T45 l0 x12_1).f0.f1) a1 false _ A8.out).mono ?_); rintro e w26 ⟨rfl, hb⟩; refine ⟨_, rfl, ?_⟩; replace BK101 := am (blk_below (g := gb101) (o := .cells #[.int .i64 x102000_1, .int .i64 x102001_1, .int .i64 x102002_1] 45 (0, 0)) (by (with_reducible repeat (first | refine blk_drewN ?_ _ | refine blk_drew ?_ | refine blk_alloc ?_ _)); refine blk_far ?_ NB101_103.out _; (with_reducible repeat (first | refine blk_drewN ?_ _ | refine blk_drew ?_ | refine blk_alloc ?_ _)); refine blk_far ?_ NB101_103.out _; (with_reducible repeat (first | refine blk_drewN ?_ _ | refine blk_drew ?_ | refine blk_alloc ?_ _)); refine blk_far ?_ NB101_103.out _; (with_reducible repeat (first | refine blk_drewN ?_ _ | refine blk_drew ?_ | refine blk_alloc ?_ _)); exact BK101.out) hb); replace BK103 := am (blk_below (g := gb103) (o := .cells #[.int .i64 ((rd_T45 l0 x12_1).f0.f0), .int .i64 ((rd_T45 l0 x12_1).f0.f1), .int .i64 ((rd_T45 l0 x12_1).f1)] 45 (0, 0)) (by (with_reducible repeat (first | refine blk_drewN ?_ _ | refine blk_drew ?_ | refine blk_alloc ?_ _)); refine blk_put (cs := #[.int .i64 ((rd_T45 l0 x12_1).f0.f0), .int .i64 ((rd_T45 l0 x12_1).f0.f1), .int .i64 0]) ?_ 2 _ rfl; (with_reducible repeat (first | refine blk_drewN ?_ _ | refine blk_drew ?_ | refine blk_alloc ?_ _)); refine blk_put (cs := #[.int .i64 ((rd_T45 l0 x12_1).f0.f0), .int .i64 0, .int .i64 0]) ?_ 1 _ rfl; (with_reducible repeat (first | refine blk_drewN ?_ _ | refine blk_drew ?_ | refine blk_alloc ?_ _)); refine blk_put (cs := #[.int .i64 0, .int .i64 0, .int .i64 0]) ?_ 0 _ rfl; (with_reducible repeat (first | refine blk_drewN ?_ _ | refine blk_drew ?_ | refine blk_alloc ?_ _)); exact BK103.out) hb); replace HB := am (below_step (K2 HB GE101.out GE103.out) hb); (try clear hb); (try clear hb2); (try clear hk); (try clear hi)))
       go_roundg k1
       case measure => have := HK1.out; omega
       case rel => exact ⟨(wrap64 (x12_1 + 1)), (x102000_1), (x102001_1), (x102002_1), (by first | rfl | (simp; done) | (simp [*]; done)), H', ⟨by have := HK1.out; omega⟩, ⟨KB BK101⟩, ⟨K2 HB GE101.out GE103.out⟩⟩
     ·rw [if_neg c7] at H
      exact absurd H (by simp)
    ·rw [if_neg c6] at H
     exact absurd H (by simp)
   ·rw [if_neg c5] at H
    have c5b0 : decide (x12_1 < (l0.length : Int)) = false := decide_eq_false c5
    clear c5
    obtain rfl := Option.some.inj H
    obtain ⟨hcz27_0, hcz27_1, hcz27_2, hfz27_0⟩ := y3 wr BK101.out
    go_wp2
    go_ret
    exact ⟨ER, K1 HB GE101.out⟩
def spec_l1Addr.f (a0 : Int) : Option (Bool) := (spec_l1In.f a0 0 4294967295).bind fun t101 => (some t101)
set_option maxHeartbeats 8000000 in
set_option maxRecDepth 100000 in
theorem spec_l1Addr.calls (a0 : Int) (r : Bool) (w : World) (h : spec_l1Addr.f a0 = some r) :
  Calls Try.prog 117 #[.int .i64 a0] w fun e w' => e = .returned (.bool r) ∧ Drawn0 w w' := by
 have H : ((spec_l1In.f a0 0 4294967295).bind fun t101 => (some t101)) = some r := h
 clear h
 replace H := Option.bind_eq_some_iff.mp H
 obtain ⟨t101, A20, H⟩ := H
 replace H : (some t101) = some r := H
 have A2 := Aside0.mk A20
 clear A20
 obtain rfl := Option.some.inj H
 go_enter Try.func117, Try.ntmps117
 go_wp2_with (first | ((with_reducible refine gate_callee (f := 71) rfl ?_); refine goesL_ (some 4) rfl rfl Try.func71 (by kernel_rfl) rfl #[.int .i64 a0, .int .i64 0, .int .i64 4294967295] rfl MT ?_; (with_reducible refine (spec_l1In.calls a0 0 4294967295 t101 _ A2.out).mono ?_); rintro e w' ⟨rfl, ⟨nd, rfl⟩⟩; refine ⟨_, rfl, ?_⟩))
 go_ret
 exact ⟨by first | rfl | (simp; done) | (simp [*]; done), by repeat (first | exact Drawn0.refl _ | apply Drawn0.step)⟩
def spec_l1Two.l0 : Nat → Int → Int → Option (Int)
 | 0, _, _ => none
 | k + 1, x0, x3 => if x0 > 0 then (spec_l1Two.l0 k (wrap64 (x0 - 1)) (wrap64 (x3 * 2))) else (some x3)
def spec_l1Two.f (k : Nat) (a0 : Int) : Option (Int) := spec_l1Two.l0 k a0 1
set_option maxHeartbeats 8000000 in
set_option maxRecDepth 100000 in
theorem spec_l1Two.calls (k : Nat) (a0 : Int) (r : Int) (w : World) (h : spec_l1Two.f k a0 = some r) :
  Calls Try.prog 141 #[.int .i64 a0] w fun e w' => e = .returned (.int .i64 r) ∧ Drawn0 w w' := by
 have H : (spec_l1Two.l0 k a0 1) = some r := h
 clear h
 have H' := Aside0.mk H
 clear H
 go_enter Try.func141, Try.ntmps141
 go_wp2
 go_loopg [0, 3] k (fun kq v0 v3 w' => ∃ (x0_1 : Int) (x3_1 : Int), v0 = .int .i64 x0_1 ∧ v3 = .int .i64 x3_1 ∧ Aside0 (spec_l1Two.l0 kq x0_1 x3_1 = some r) ∧ Aside0 (kq ≤ k) ∧ Drawn0 w w')
 case atStart => exact ⟨(a0), (1), (by first | rfl | (simp; done) | (simp [*]; done)), (by first | rfl | (simp; done) | (simp [*]; done)), H', ⟨Nat.le_refl _⟩, by repeat (first | exact Drawn0.refl _ | apply Drawn0.step)⟩
 case round =>
  clear H'
  try clear c1
  obtain ⟨x0_1, x3_1, rfl, rfl, HA, HK1, ⟨m1, rfl⟩⟩ := hrel
  cases gk with
  | zero => exact absurd HA.out (by simp [spec_l1Two.l0])
  | succ k1 =>
   have H := HA.out
   clear HA
   simp only [spec_l1Two.l0] at H
   by_cases c2 : x0_1 > 0
   ·rw [if_pos c2] at H
    have c2b0 : decide (0 < x0_1) = true := decide_eq_true c2
    clear c2
    have H' := Aside0.mk H
    clear H
    go_wp2
    go_roundg k1
    case measure => have := HK1.out; omega
    case rel => exact ⟨(wrap64 (x0_1 - 1)), (wrap64 (x3_1 * 2)), (by first | rfl | (simp; done) | (simp [*]; done)), (by first | rfl | (simp; done) | (simp [*]; done)), H', ⟨by have := HK1.out; omega⟩, by repeat (first | exact Drawn0.refl _ | apply Drawn0.step)⟩
   ·rw [if_neg c2] at H
    have c2b0 : decide (0 < x0_1) = false := decide_eq_false c2
    clear c2
    obtain rfl := Option.some.inj H
    go_wp2
    go_ret
    exact ⟨by first | rfl | (simp; done) | (simp [*]; done), by repeat (first | exact Drawn0.refl _ | apply Drawn0.step)⟩
def spec_l1Size.f (k : Nat) (a0 : Int) : Option (Int) := (spec_l1Two.f k (wrap64 (32 - a0))).bind fun t101 => (some t101)
set_option maxHeartbeats 8000000 in
set_option maxRecDepth 100000 in
theorem spec_l1Size.calls (k : Nat) (a0 : Int) (r : Int) (w : World) (h : spec_l1Size.f k a0 = some r) :
  Calls Try.prog 118 #[.int .i64 a0] w fun e w' => e = .returned (.int .i64 r) ∧ Drawn0 w w' := by
 have H : ((spec_l1Two.f k (wrap64 (32 - a0))).bind fun t101 => (some t101)) = some r := h
 clear h
 replace H := Option.bind_eq_some_iff.mp H
 obtain ⟨t101, A20, H⟩ := H
 replace H : (some t101) = some r := H
 have A2 := Aside0.mk A20
 clear A20
 obtain rfl := Option.some.inj H
 go_enter Try.func118, Try.ntmps118
 go_wp2_with (first | ((with_reducible refine gate_callee (f := 141) rfl ?_); refine goesL_ (some 5) rfl rfl Try.func141 (by kernel_rfl) rfl #[.int .i64 (wrap64 (32 - a0))] rfl MT ?_; (with_reducible refine (spec_l1Two.calls k (wrap64 (32 - a0)) t101 _ A2.out).mono ?_); rintro e w' ⟨rfl, ⟨nd, rfl⟩⟩; refine ⟨_, rfl, ?_⟩))
 go_ret
 exact ⟨by first | rfl | (simp; done) | (simp [*]; done), by repeat (first | exact Drawn0.refl _ | apply Drawn0.step)⟩
def spec_BlockOk.f (k : Nat) (a0_0 : Int) (a0_1 : Int) : Option (Bool) := (spec_l1Addr.f a0_0).bind fun t102 => (if t102 = true then ((spec_l1In.f a0_1 0 32).bind fun t103 => (if t103 = true then ((spec_l1Size.f k a0_1).bind fun t104 => (if t104 = 0 then (none) else (some ((Int.tmod a0_0 t104) == 0)))) else (some false))) else (some false))
set_option maxHeartbeats 8000000 in
set_option maxRecDepth 100000 in
theorem spec_BlockOk.calls (k : Nat) (a0_0 : Int) (a0_1 : Int) (r : Bool) (w : World) (h : spec_BlockOk.f k a0_0 a0_1 = some r) :
  Calls Try.prog 70 #[.agg #[.int .i64 a0_0, .int .i64 a0_1]] w fun e w' => e = .returned (.bool r) ∧ Below w.heap.size w w' := by
 have hu43 := Try.underlying43
 have HB := am (Below.refl w.heap.size w)
 have H : ((spec_l1Addr.f a0_0).bind fun t102 => (if t102 = true then ((spec_l1In.f a0_1 0 32).bind fun t103 => (if t103 = true then ((spec_l1Size.f k a0_1).bind fun t104 => (if t104 = 0 then (none) else (some ((Int.tmod a0_0 t104) == 0)))) else (some false))) else (some false))) = some r := h
 clear h
 replace H := Option.bind_eq_some_iff.mp H
 obtain ⟨t102, A20, H⟩ := H
 replace H : (if t102 = true then ((spec_l1In.f a0_1 0 32).bind fun t103 => (if t103 = true then ((spec_l1Size.f k a0_1).bind fun t104 => (if t104 = 0 then (none) else (some ((Int.tmod a0_0 t104) == 0)))) else (some false))) else (some false)) = some r := H
 have A2 := Aside0.mk A20
 clear A20
 by_cases c3 : t102 = true
 ·subst c3
  have H1 : ((spec_l1In.f a0_1 0 32).bind fun t103 => (if t103 = true then ((spec_l1Size.f k a0_1).bind fun t104 => (if t104 = 0 then (none) else (some ((Int.tmod a0_0 t104) == 0)))) else (some false))) = some r := by rw [if_pos rfl] at H; exact H
  clear H
  have H := H1
  clear H1
  replace H := Option.bind_eq_some_iff.mp H
  obtain ⟨t103, A40, H⟩ := H
  replace H : (if t103 = true then ((spec_l1Size.f k a0_1).bind fun t104 => (if t104 = 0 then (none) else (some ((Int.tmod a0_0 t104) == 0)))) else (some false)) = some r := H
  have A4 := Aside0.mk A40
  clear A40
  by_cases c5 : t103 = true
  ·subst c5
   have H1 : ((spec_l1Size.f k a0_1).bind fun t104 => (if t104 = 0 then (none) else (some ((Int.tmod a0_0 t104) == 0)))) = some r := by rw [if_pos rfl] at H; exact H
   clear H
   have H := H1
   clear H1
   replace H := Option.bind_eq_some_iff.mp H
   obtain ⟨t104, A60, H⟩ := H
   replace H : (if t104 = 0 then (none) else (some ((Int.tmod a0_0 t104) == 0))) = some r := H
   have A6 := Aside0.mk A60
   clear A60
   by_cases c7 : t104 = 0
   ·rw [if_pos c7] at H
    exact absurd H (by simp)
   ·rw [if_neg c7] at H
    have c7b0 : (t104 == 0) = false := beq_eq_false_iff_ne.mpr c7
    have c7b1 : (t104 != 0) = true := bne_iff_ne.mpr c7
    obtain rfl := Option.some.inj H
    go_enter Try.func70, Try.ntmps70
    go_wp2_with (first | ((with_reducible refine gate_dst (N := 1) rfl ?_); refine box_event rfl (N := 1) rfl (cs := #[.int .i64 a0_0, .int .i64 a0_1]) (t := 43) BX ?_; intro gb101 hg w8 hbox hb; have BK101 := am (hbox); have GW101 := am (GH HB hg); have GE101 := GW101; replace HB := am (below_step (KL HB) hb); clear hb hbox hg; obtain ⟨hcz9_0, hcz9_1, hfz9_0⟩ := y2 w8 BK101.out) | (go_at_call 117; (with_reducible refine (spec_l1Addr.calls a0_0 true _ A2.out).mono ?_); rintro e w' ⟨rfl, ⟨nd, rfl⟩⟩; (try first | exact ⟨rfl, _, World.drewN_drewN _ _ _⟩ | exact ⟨rfl, _, Eq.trans (World.drewN_drewN _ _ _) (congrArg (World.drewN _) (Nat.add_assoc _ _ _))⟩)) | (go_at_call 71; (with_reducible refine (spec_l1In.calls a0_1 0 32 true _ A4.out).mono ?_); rintro e w' ⟨rfl, ⟨nd, rfl⟩⟩; (try first | exact ⟨rfl, _, World.drewN_drewN _ _ _⟩ | exact ⟨rfl, _, Eq.trans (World.drewN_drewN _ _ _) (congrArg (World.drewN _) (Nat.add_assoc _ _ _))⟩)) | (go_at_call 118; (with_reducible refine (spec_l1Size.calls k a0_1 t104 _ A6.out).mono ?_); rintro e w' ⟨rfl, ⟨nd, rfl⟩⟩; (try first | exact ⟨rfl, _, World.drewN_drewN _ _ _⟩ | exact ⟨rfl, _, Eq.trans (World.drewN_drewN _ _ _) (congrArg (World.drewN _) (Nat.add_assoc _ _ _))⟩)))
    repeat (go_quiet (first | ((with_reducible refine gate_dst (N := 1) rfl ?_); refine box_event rfl (N := 1) rfl (cs := #[.int .i64 a0_0, .int .i64 a0_1]) (t := 43) BX ?_; intro gb101 hg w8 hbox hb; have BK101 := am (hbox); have GW101 := am (GH HB hg); have GE101 := GW101; replace HB := am (below_step (KL HB) hb); clear hb hbox hg; obtain ⟨hcz9_0, hcz9_1, hfz9_0⟩ := y2 w8 BK101.out) | (go_at_call 117; (with_reducible refine (spec_l1Addr.calls a0_0 true _ A2.out).mono ?_); rintro e w' ⟨rfl, ⟨nd, rfl⟩⟩; (try first | exact ⟨rfl, _, World.drewN_drewN _ _ _⟩ | exact ⟨rfl, _, Eq.trans (World.drewN_drewN _ _ _) (congrArg (World.drewN _) (Nat.add_assoc _ _ _))⟩)) | (go_at_call 71; (with_reducible refine (spec_l1In.calls a0_1 0 32 true _ A4.out).mono ?_); rintro e w' ⟨rfl, ⟨nd, rfl⟩⟩; (try first | exact ⟨rfl, _, World.drewN_drewN _ _ _⟩ | exact ⟨rfl, _, Eq.trans (World.drewN_drewN _ _ _) (congrArg (World.drewN _) (Nat.add_assoc _ _ _))⟩)) | (go_at_call 118; (with_reducible refine (spec_l1Size.calls k a0_1 t104 _ A6.out).mono ?_); rintro e w' ⟨rfl, ⟨nd, rfl⟩⟩; (try first | exact ⟨rfl, _, World.drewN_drewN _ _ _⟩ | exact ⟨rfl, _, Eq.trans (World.drewN_drewN _ _ _) (congrArg (World.drewN _) (Nat.add_assoc _ _ _))⟩))); try go_wp2_with (first | ((with_reducible refine gate_dst (N := 1) rfl ?_); refine box_event rfl (N := 1) rfl (cs := #[.int .i64 a0_0, .int .i64 a0_1]) (t := 43) BX ?_; intro gb101 hg w8 hbox hb; have BK101 := am (hbox); have GW101 := am (GH HB hg); have GE101 := GW101; replace HB := am (below_step (KL HB) hb); clear hb hbox hg; obtain ⟨hcz9_0, hcz9_1, hfz9_0⟩ := y2 w8 BK101.out) | (go_at_call 117; (with_reducible refine (spec_l1Addr.calls a0_0 true _ A2.out).mono ?_); rintro e w' ⟨rfl, ⟨nd, rfl⟩⟩; (try first | exact ⟨rfl, _, World.drewN_drewN _ _ _⟩ | exact ⟨rfl, _, Eq.trans (World.drewN_drewN _ _ _) (congrArg (World.drewN _) (Nat.add_assoc _ _ _))⟩)) | (go_at_call 71; (with_reducible refine (spec_l1In.calls a0_1 0 32 true _ A4.out).mono ?_); rintro e w' ⟨rfl, ⟨nd, rfl⟩⟩; (try first | exact ⟨rfl, _, World.drewN_drewN _ _ _⟩ | exact ⟨rfl, _, Eq.trans (World.drewN_drewN _ _ _) (congrArg (World.drewN _) (Nat.add_assoc _ _ _))⟩)) | (go_at_call 118; (with_reducible refine (spec_l1Size.calls k a0_1 t104 _ A6.out).mono ?_); rintro e w' ⟨rfl, ⟨nd, rfl⟩⟩; (try first | exact ⟨rfl, _, World.drewN_drewN _ _ _⟩ | exact ⟨rfl, _, Eq.trans (World.drewN_drewN _ _ _) (congrArg (World.drewN _) (Nat.add_assoc _ _ _))⟩))))
    go_ret
    exact ⟨ER, K1 HB GE101.out⟩
  ·replace c5 := Bool.eq_false_iff.mpr c5
   subst c5
   have H1 : (some false) = some r := by rw [if_neg (show ¬ (false = true) by decide)] at H; exact H
   clear H
   have H := H1
   clear H1
   obtain rfl := Option.some.inj H
   go_enter Try.func70, Try.ntmps70
   go_wp2_with (first | ((with_reducible refine gate_dst (N := 1) rfl ?_); refine box_event rfl (N := 1) rfl (cs := #[.int .i64 a0_0, .int .i64 a0_1]) (t := 43) BX ?_; intro gb101 hg w10 hbox hb; have BK101 := am (hbox); have GW101 := am (GH HB hg); have GE101 := GW101; replace HB := am (below_step (KL HB) hb); clear hb hbox hg; obtain ⟨hcz11_0, hcz11_1, hfz11_0⟩ := y2 w10 BK101.out) | (go_at_call 117; (with_reducible refine (spec_l1Addr.calls a0_0 true _ A2.out).mono ?_); rintro e w' ⟨rfl, ⟨nd, rfl⟩⟩; (try first | exact ⟨rfl, _, World.drewN_drewN _ _ _⟩ | exact ⟨rfl, _, Eq.trans (World.drewN_drewN _ _ _) (congrArg (World.drewN _) (Nat.add_assoc _ _ _))⟩)) | (go_at_call 71; (with_reducible refine (spec_l1In.calls a0_1 0 32 false _ A4.out).mono ?_); rintro e w' ⟨rfl, ⟨nd, rfl⟩⟩; (try first | exact ⟨rfl, _, World.drewN_drewN _ _ _⟩ | exact ⟨rfl, _, Eq.trans (World.drewN_drewN _ _ _) (congrArg (World.drewN _) (Nat.add_assoc _ _ _))⟩)))
   repeat (go_quiet (first | ((with_reducible refine gate_dst (N := 1) rfl ?_); refine box_event rfl (N := 1) rfl (cs := #[.int .i64 a0_0, .int .i64 a0_1]) (t := 43) BX ?_; intro gb101 hg w10 hbox hb; have BK101 := am (hbox); have GW101 := am (GH HB hg); have GE101 := GW101; replace HB := am (below_step (KL HB) hb); clear hb hbox hg; obtain ⟨hcz11_0, hcz11_1, hfz11_0⟩ := y2 w10 BK101.out) | (go_at_call 117; (with_reducible refine (spec_l1Addr.calls a0_0 true _ A2.out).mono ?_); rintro e w' ⟨rfl, ⟨nd, rfl⟩⟩; (try first | exact ⟨rfl, _, World.drewN_drewN _ _ _⟩ | exact ⟨rfl, _, Eq.trans (World.drewN_drewN _ _ _) (congrArg (World.drewN _) (Nat.add_assoc _ _ _))⟩)) | (go_at_call 71; (with_reducible refine (spec_l1In.calls a0_1 0 32 false _ A4.out).mono ?_); rintro e w' ⟨rfl, ⟨nd, rfl⟩⟩; (try first | exact ⟨rfl, _, World.drewN_drewN _ _ _⟩ | exact ⟨rfl, _, Eq.trans (World.drewN_drewN _ _ _) (congrArg (World.drewN _) (Nat.add_assoc _ _ _))⟩))); try go_wp2_with (first | ((with_reducible refine gate_dst (N := 1) rfl ?_); refine box_event rfl (N := 1) rfl (cs := #[.int .i64 a0_0, .int .i64 a0_1]) (t := 43) BX ?_; intro gb101 hg w10 hbox hb; have BK101 := am (hbox); have GW101 := am (GH HB hg); have GE101 := GW101; replace HB := am (below_step (KL HB) hb); clear hb hbox hg; obtain ⟨hcz11_0, hcz11_1, hfz11_0⟩ := y2 w10 BK101.out) | (go_at_call 117; (with_reducible refine (spec_l1Addr.calls a0_0 true _ A2.out).mono ?_); rintro e w' ⟨rfl, ⟨nd, rfl⟩⟩; (try first | exact ⟨rfl, _, World.drewN_drewN _ _ _⟩ | exact ⟨rfl, _, Eq.trans (World.drewN_drewN _ _ _) (congrArg (World.drewN _) (Nat.add_assoc _ _ _))⟩)) | (go_at_call 71; (with_reducible refine (spec_l1In.calls a0_1 0 32 false _ A4.out).mono ?_); rintro e w' ⟨rfl, ⟨nd, rfl⟩⟩; (try first | exact ⟨rfl, _, World.drewN_drewN _ _ _⟩ | exact ⟨rfl, _, Eq.trans (World.drewN_drewN _ _ _) (congrArg (World.drewN _) (Nat.add_assoc _ _ _))⟩))))
   go_ret
   exact ⟨ER, K1 HB GE101.out⟩
 ·replace c3 := Bool.eq_false_iff.mpr c3
  subst c3
  have H1 : (some false) = some r := by rw [if_neg (show ¬ (false = true) by decide)] at H; exact H
  clear H
  have H := H1
  clear H1
  obtain rfl := Option.some.inj H
  go_enter Try.func70, Try.ntmps70
  go_wp2_with (first | ((with_reducible refine gate_dst (N := 1) rfl ?_); refine box_event rfl (N := 1) rfl (cs := #[.int .i64 a0_0, .int .i64 a0_1]) (t := 43) BX ?_; intro gb101 hg w12 hbox hb; have BK101 := am (hbox); have GW101 := am (GH HB hg); have GE101 := GW101; replace HB := am (below_step (KL HB) hb); clear hb hbox hg; obtain ⟨hcz13_0, hcz13_1, hfz13_0⟩ := y2 w12 BK101.out) | (go_at_call 117; (with_reducible refine (spec_l1Addr.calls a0_0 false _ A2.out).mono ?_); rintro e w' ⟨rfl, ⟨nd, rfl⟩⟩; (try first | exact ⟨rfl, _, World.drewN_drewN _ _ _⟩ | exact ⟨rfl, _, Eq.trans (World.drewN_drewN _ _ _) (congrArg (World.drewN _) (Nat.add_assoc _ _ _))⟩)))
  repeat (go_quiet (first | ((with_reducible refine gate_dst (N := 1) rfl ?_); refine box_event rfl (N := 1) rfl (cs := #[.int .i64 a0_0, .int .i64 a0_1]) (t := 43) BX ?_; intro gb101 hg w12 hbox hb; have BK101 := am (hbox); have GW101 := am (GH HB hg); have GE101 := GW101; replace HB := am (below_step (KL HB) hb); clear hb hbox hg; obtain ⟨hcz13_0, hcz13_1, hfz13_0⟩ := y2 w12 BK101.out) | (go_at_call 117; (with_reducible refine (spec_l1Addr.calls a0_0 false _ A2.out).mono ?_); rintro e w' ⟨rfl, ⟨nd, rfl⟩⟩; (try first | exact ⟨rfl, _, World.drewN_drewN _ _ _⟩ | exact ⟨rfl, _, Eq.trans (World.drewN_drewN _ _ _) (congrArg (World.drewN _) (Nat.add_assoc _ _ _))⟩))); try go_wp2_with (first | ((with_reducible refine gate_dst (N := 1) rfl ?_); refine box_event rfl (N := 1) rfl (cs := #[.int .i64 a0_0, .int .i64 a0_1]) (t := 43) BX ?_; intro gb101 hg w12 hbox hb; have BK101 := am (hbox); have GW101 := am (GH HB hg); have GE101 := GW101; replace HB := am (below_step (KL HB) hb); clear hb hbox hg; obtain ⟨hcz13_0, hcz13_1, hfz13_0⟩ := y2 w12 BK101.out) | (go_at_call 117; (with_reducible refine (spec_l1Addr.calls a0_0 false _ A2.out).mono ?_); rintro e w' ⟨rfl, ⟨nd, rfl⟩⟩; (try first | exact ⟨rfl, _, World.drewN_drewN _ _ _⟩ | exact ⟨rfl, _, Eq.trans (World.drewN_drewN _ _ _) (congrArg (World.drewN _) (Nat.add_assoc _ _ _))⟩))))
  go_ret
  exact ⟨ER, K1 HB GE101.out⟩
def spec_l3Cmp.f (a0_0 : Int) (a0_1 : Int) (a1_0 : Int) (a1_1 : Int) : Option (Int) := if a0_0 = a1_0 then (some (wrap64 (a0_1 - a1_1))) else (some (wrap64 (a0_0 - a1_0)))
set_option maxHeartbeats 8000000 in
set_option maxRecDepth 100000 in
theorem spec_l3Cmp.calls (a0_0 : Int) (a0_1 : Int) (a1_0 : Int) (a1_1 : Int) (r : Int) (w : World) (h : spec_l3Cmp.f a0_0 a0_1 a1_0 a1_1 = some r) :
  Calls Try.prog 72 #[.agg #[.int .i64 a0_0, .int .i64 a0_1], .agg #[.int .i64 a1_0, .int .i64 a1_1]] w fun e w' => e = .returned (.int .i64 r) ∧ Below w.heap.size w w' := by
 have hu43 := Try.underlying43
 have HB := am (Below.refl w.heap.size w)
 have H : (if a0_0 = a1_0 then (some (wrap64 (a0_1 - a1_1))) else (some (wrap64 (a0_0 - a1_0)))) = some r := h
 clear h
 by_cases c3 : a0_0 = a1_0
 ·rw [if_pos c3] at H
  have c3b0 : (a0_0 == a1_0) = true := beq_iff_eq.mpr c3
  have c3b1 : (a0_0 != a1_0) = false := bne_eq_false_iff_eq.mpr c3
  clear c3
  obtain rfl := Option.some.inj H
  go_enter Try.func72, Try.ntmps72
  go_wp2_with (first | ((with_reducible refine gate_dst (N := 2) rfl ?_); refine box_event rfl (N := 2) rfl (cs := #[.int .i64 a0_0, .int .i64 a0_1]) (t := 43) BX ?_; intro gb101 hg w4 hbox hb; have BK101 := am (hbox); have GW101 := am (GH HB hg); have GE101 := GW101; replace HB := am (below_step (KL HB) hb); clear hb hbox hg) | ((with_reducible refine gate_dst (N := 3) rfl ?_); refine box_event rfl (N := 3) rfl (cs := #[.int .i64 a1_0, .int .i64 a1_1]) (t := 43) BX ?_; intro gb102 hg w5 hbox hb; have BK102 := am (hbox); have GW102 := am (GH1 HB GE101.out hg); have GE102 := GW102; replace HB := am (below_step (K1 HB GE101.out) hb); have NB101_102 := am (NL BK101 hg); have NB102_101 := am (NG BK101 hg); replace BK101 := am (BB BK101 hb); clear hb hbox hg; have hnb6 := NB101_102.out; have hnc6 := NB102_101.out; obtain ⟨hcz7_0, hcz7_1, hfz7_0⟩ := y2 w5 BK101.out; obtain ⟨hcz8_0, hcz8_1, hfz8_0⟩ := y2 w5 BK102.out))
  go_ret
  exact ⟨ER, K2 HB GE101.out GE102.out⟩
 ·rw [if_neg c3] at H
  have c3b0 : (a0_0 == a1_0) = false := beq_eq_false_iff_ne.mpr c3
  have c3b1 : (a0_0 != a1_0) = true := bne_iff_ne.mpr c3
  obtain rfl := Option.some.inj H
  go_enter Try.func72, Try.ntmps72
  go_wp2_with (first | ((with_reducible refine gate_dst (N := 2) rfl ?_); refine box_event rfl (N := 2) rfl (cs := #[.int .i64 a0_0, .int .i64 a0_1]) (t := 43) BX ?_; intro gb101 hg w9 hbox hb; have BK101 := am (hbox); have GW101 := am (GH HB hg); have GE101 := GW101; replace HB := am (below_step (KL HB) hb); clear hb hbox hg) | ((with_reducible refine gate_dst (N := 3) rfl ?_); refine box_event rfl (N := 3) rfl (cs := #[.int .i64 a1_0, .int .i64 a1_1]) (t := 43) BX ?_; intro gb102 hg w10 hbox hb; have BK102 := am (hbox); have GW102 := am (GH1 HB GE101.out hg); have GE102 := GW102; replace HB := am (below_step (K1 HB GE101.out) hb); have NB101_102 := am (NL BK101 hg); have NB102_101 := am (NG BK101 hg); replace BK101 := am (BB BK101 hb); clear hb hbox hg; have hnb11 := NB101_102.out; have hnc11 := NB102_101.out; obtain ⟨hcz12_0, hcz12_1, hfz12_0⟩ := y2 w10 BK101.out; obtain ⟨hcz13_0, hcz13_1, hfz13_0⟩ := y2 w10 BK102.out))
  go_ret
  exact ⟨ER, K2 HB GE101.out GE102.out⟩
def spec_WaysOk.l0 : Nat → List (S45) → Int → Option (Bool)
 | 0, _, _ => none
 | k + 1, x0, x3 => if x3 < (x0.length : Int) then (if 0 ≤ x3 then ((spec_BlockOk.f k ((rd_T45 x0 x3).f0.f0) ((rd_T45 x0 x3).f0.f1)).bind fun t102 => (if t102 = true then ((spec_l1In.f ((rd_T45 x0 x3).f1) 0 99).bind fun t104 => (if t104 = true then (if x3 > 0 then (if 0 ≤ (wrap64 (x3 - 1)) then (if (wrap64 (x3 - 1)) < (x0.length : Int) then ((spec_l3Cmp.f ((rd_T45 x0 (wrap64 (x3 - 1))).f0.f0) ((rd_T45 x0 (wrap64 (x3 - 1))).f0.f1) ((rd_T45 x0 x3).f0.f0) ((rd_T45 x0 x3).f0.f1)).bind fun t107 => (if t107 ≥ 0 then (some false) else (spec_WaysOk.l0 k x0 (wrap64 (x3 + 1))))) else (none)) else (none)) else (spec_WaysOk.l0 k x0 (wrap64 (x3 + 1)))) else (some false))) else (some false))) else (none)) else (some (decide ((x0.length : Int) ≤ 40)))
def spec_WaysOk.f (k : Nat) (l0 : List (S45)) : Option (Bool) := spec_WaysOk.l0 k l0 0
def spec_WaysOk.T4 : Bool × List (List Nat × List Nat) := (true, [([], []), ([], []), ([0, 1], [0, 1]), ([2], [2]), ([3], [3]), ([4], [4]), ([5], [5]), ([6, 5], [6]), ([7], [7]), ([7], [7]), ([8, 9, 7], [7, 8, 9]), ([10, 7], [7, 10]), ([11, 7], [7, 11]), ([12, 7, 7], [7, 12]), ([13, 7], [7, 13]), ([7, 14], [7, 14]), ([15, 13], [15]), ([16], [16]), ([17, 16], [16, 17]), ([18, 16, 16], [16, 18]), ([19], [19]), ([19], [19]), ([21, 19], [19, 21]), ([20, 22, 19], [19, 20, 22]), ([23, 19], [19, 23]), ([24, 19], [19, 24]), ([19], [19]), ([19], [19]), ([26, 27, 19], [19, 26, 27]), ([28, 19], [19, 28]), ([29, 19], [19, 29]), ([25, 30, 19, 19], [19, 25, 30]), ([31, 19], [19, 31]), ([19, 32, 16], [16, 19, 32]), ([16, 33], [16, 33])])
def spec_WaysOk.B4 : List Nat := [0, 0, 3, 7, 15, 31, 63, 127, 255, 255, 1023, 2047, 4095, 8191, 16383, 32767, 65535, 131071, 262143, 524287, 1048575, 1048575, 3145727, 8388607, 16777215, 33554431, 1048575, 1048575, 202375167, 470810623, 1007681535, 2147483647, 4294967295, 8589934591, 17179869183]
theorem spec_WaysOk.tab4 : rtab .any (opsOf Try.f20 4) = spec_WaysOk.T4 := by kernel_rfl
theorem spec_WaysOk.bits4 : waitsOk spec_WaysOk.T4.2 spec_WaysOk.B4 = true := by kernel_rfl
set_option maxHeartbeats 8000000 in
set_option maxRecDepth 100000 in
theorem spec_WaysOk.calls (k : Nat) (A0 : Option Addr) (c0 : Nat) (l0 : List (S45)) (r : Bool) (w : World) (hr0 : Kd.C k45 w A0 l0.length l0) (hc0 : l0.length ≤ c0) (h : spec_WaysOk.f k l0 = some r) :
  Calls Try.prog 20 #[.slice A0 l0.length c0] w fun e w' => e = .returned (.bool r) ∧ Below w.heap.size w w' := by
 have hu43 := Try.underlying43
 have HR0 := Aside0.mk hr0
 have HC0 := Aside0.mk hc0
 clear hr0 hc0
 have HB := am (Below.refl w.heap.size w)
 have H : (spec_WaysOk.l0 k l0 0) = some r := h
 clear h
 have H' := Aside0.mk H
 clear H
 go_enter Try.func20, Try.ntmps20
 go_wp2
 go_loopg [3] k (fun kq v3 w' => ∃ (x3_1 : Int), v3 = .int .i64 x3_1 ∧ Aside0 (spec_WaysOk.l0 kq l0 x3_1 = some r) ∧ Aside0 (kq ≤ k) ∧ Aside0 (Below w.heap.size w w'))
 case atStart => exact ⟨(0), (by first | rfl | (simp; done) | (simp [*]; done)), H', ⟨Nat.le_refl _⟩, ⟨KL HB⟩⟩
 case round =>
  clear H'
  obtain ⟨x3_1, rfl, HA, HK1, HB⟩ := hrel
  cases gk with
  | zero => exact absurd HA.out (by simp [spec_WaysOk.l0])
  | succ k1 =>
   have H := HA.out
   clear HA
   simp only [spec_WaysOk.l0] at H
   by_cases c2 : x3_1 < (l0.length : Int)
   ·rw [if_pos c2] at H
    have c2b0 : decide (x3_1 < (l0.length : Int)) = true := decide_eq_true c2
    clear c2
    by_cases c3 : 0 ≤ x3_1
    ·rw [if_pos c3] at H
     have c3b0 : decide (0 ≤ x3_1) = true := decide_eq_true c3
     clear c3
     replace H := Option.bind_eq_some_iff.mp H
     obtain ⟨t102, A40, H⟩ := H
     replace H : (if t102 = true then ((spec_l1In.f ((rd_T45 l0 x3_1).f1) 0 99).bind fun t104 => (if t104 = true then (if x3_1 > 0 then (if 0 ≤ (wrap64 (x3_1 - 1)) then (if (wrap64 (x3_1 - 1)) < (l0.length : Int) then ((spec_l3Cmp.f ((rd_T45 l0 (wrap64 (x3_1 - 1))).f0.f0) ((rd_T45 l0 (wrap64 (x3_1 - 1))).f0.f1) ((rd_T45 l0 x3_1).f0.f0) ((rd_T45 l0 x3_1).f0.f1)).bind fun t107 => (if t107 ≥ 0 then (some false) else (spec_WaysOk.l0 k1 l0 (wrap64 (x3_1 + 1))))) else (none)) else (none)) else (spec_WaysOk.l0 k1 l0 (wrap64 (x3_1 + 1)))) else (some false))) else (some false)) = some r := H
     have A4 := Aside0.mk A40
     clear A40
     by_cases c5 : t102 = true
     ·subst c5
      have H1 : ((spec_l1In.f ((rd_T45 l0 x3_1).f1) 0 99).bind fun t104 => (if t104 = true then (if x3_1 > 0 then (if 0 ≤ (wrap64 (x3_1 - 1)) then (if (wrap64 (x3_1 - 1)) < (l0.length : Int) then ((spec_l3Cmp.f ((rd_T45 l0 (wrap64 (x3_1 - 1))).f0.f0) ((rd_T45 l0 (wrap64 (x3_1 - 1))).f0.f1) ((rd_T45 l0 x3_1).f0.f0) ((rd_T45 l0 x3_1).f0.f1)).bind fun t107 => (if t107 ≥ 0 then (some false) else (spec_WaysOk.l0 k1 l0 (wrap64 (x3_1 + 1))))) else (none)) else (none)) else (spec_WaysOk.l0 k1 l0 (wrap64 (x3_1 + 1)))) else (some false))) = some r := by rw [if_pos rfl] at H; exact H
      clear H
      have H := H1
      clear H1
      replace H := Option.bind_eq_some_iff.mp H
      obtain ⟨t104, A60, H⟩ := H
      replace H : (if t104 = true then (if x3_1 > 0 then (if 0 ≤ (wrap64 (x3_1 - 1)) then (if (wrap64 (x3_1 - 1)) < (l0.length : Int) then ((spec_l3Cmp.f ((rd_T45 l0 (wrap64 (x3_1 - 1))).f0.f0) ((rd_T45 l0 (wrap64 (x3_1 - 1))).f0.f1) ((rd_T45 l0 x3_1).f0.f0) ((rd_T45 l0 x3_1).f0.f1)).bind fun t107 => (if t107 ≥ 0 then (some false) else (spec_WaysOk.l0 k1 l0 (wrap64 (x3_1 + 1))))) else (none)) else (none)) else (spec_WaysOk.l0 k1 l0 (wrap64 (x3_1 + 1)))) else (some false)) = some r := H
      have A6 := Aside0.mk A60
      clear A60
      by_cases c7 : t104 = true
      ·subst c7
       have H1 : (if x3_1 > 0 then (if 0 ≤ (wrap64 (x3_1 - 1)) then (if (wrap64 (x3_1 - 1)) < (l0.length : Int) then ((spec_l3Cmp.f ((rd_T45 l0 (wrap64 (x3_1 - 1))).f0.f0) ((rd_T45 l0 (wrap64 (x3_1 - 1))).f0.f1) ((rd_T45 l0 x3_1).f0.f0) ((rd_T45 l0 x3_1).f0.f1)).bind fun t107 => (if t107 ≥ 0 then (some false) else (spec_WaysOk.l0 k1 l0 (wrap64 (x3_1 + 1))))) else (none)) else (none)) else (spec_WaysOk.l0 k1 l0 (wrap64 (x3_1 + 1)))) = some r := by rw [if_pos rfl] at H; exact H
       clear H
       have H := H1
       clear H1
       by_cases c8 : x3_1 > 0
       ·rw [if_pos c8] at H
        have c8b0 : decide (0 < x3_1) = true := decide_eq_true c8
        clear c8
        obtain ⟨ji9, hji9⟩ : ∃ j_ : Int, (wrap64 (x3_1 - 1)) = j_ := ⟨_, rfl⟩
        replace H : (if 0 ≤ (ji9) then (if (ji9) < (l0.length : Int) then ((spec_l3Cmp.f ((rd_T45 l0 (ji9)).f0.f0) ((rd_T45 l0 (ji9)).f0.f1) ((rd_T45 l0 x3_1).f0.f0) ((rd_T45 l0 x3_1).f0.f1)).bind fun t107 => (if t107 ≥ 0 then (some false) else (spec_WaysOk.l0 k1 l0 (wrap64 (x3_1 + 1))))) else (none)) else (none)) = some r := by first | (rw [hji9] at H; exact H) | (simp only [hji9] at H ⊢; exact H)
        (try rw [hji9] at A4)
        (try rw [hji9] at A6)
        have hji9w : (IntKind.i64.wrap (x3_1 - 1)) = ji9 := (i64_w _).trans hji9
        by_cases c10 : 0 ≤ (ji9)
        ·rw [if_pos c10] at H
         have c10b0 : decide (0 ≤ (ji9)) = true := decide_eq_true c10
         clear c10
         by_cases c11 : (ji9) < (l0.length : Int)
         ·rw [if_pos c11] at H
          have c11b0 : decide ((ji9) < (l0.length : Int)) = true := decide_eq_true c11
          clear c11
          replace H := Option.bind_eq_some_iff.mp H
          obtain ⟨t107, A120, H⟩ := H
          replace H : (if t107 ≥ 0 then (some false) else (spec_WaysOk.l0 k1 l0 (wrap64 (x3_1 + 1)))) = some r := H
          have A12 := Aside0.mk A120
          clear A120
          by_cases c13 : t107 ≥ 0
          ·rw [if_pos c13] at H
           have c13b0 : decide (0 ≤ t107) = true := decide_eq_true c13
           clear c13
           obtain rfl := Option.some.inj H
           try go_wp2
           replace HB := am (below_drew1 HB.out)
           have p101 : 0 ≤ (x3_1 : Int) := OD
           have q101 : x3_1 < (l0.length : Int) := OD
           obtain ⟨ad101, e101, hx101_0, hx101_1, hx101_2⟩ := at_T45 HR0.out x3_1 p101 q101
           have hw101_2 := hx101_2
           have hw101_1 := hx101_1
           have hw101_0 := hx101_0
           cases e101
           replace hx101_0 := CX HB.out hx101_0
           replace hx101_1 := CX HB.out hx101_1
           replace hx101_2 := CX HB.out hx101_2
           replace p101 := eq_true p101
           replace q101 := eq_true q101
           have p103 : 0 ≤ (x3_1 : Int) := OD
           have q103 : x3_1 < (l0.length : Int) := OD
           obtain ⟨ad103, e103, hx103_0, hx103_1, hx103_2⟩ := at_T45 HR0.out x3_1 p103 q103
           have hw103_2 := hx103_2
           have hw103_1 := hx103_1
           have hw103_0 := hx103_0
           obtain rfl : ad101 = ad103 := (by injection e103)
           replace hx103_0 := CX HB.out hx103_0
           replace hx103_1 := CX HB.out hx103_1
           replace hx103_2 := CX HB.out hx103_2
           replace p103 := eq_true p103
           replace q103 := eq_true q103
           have p105 : 0 ≤ ((ji9) : Int) := OD
           have q105 : (ji9) < (l0.length : Int) := OD
           obtain ⟨ad105, e105, hx105_0, hx105_1, hx105_2⟩ := at_T45 HR0.out (ji9) p105 q105
           have hw105_2 := hx105_2
           have hw105_1 := hx105_1
           have hw105_0 := hx105_0
           obtain rfl : ad101 = ad105 := (by injection e105)
           replace hx105_0 := CX HB.out hx105_0
           replace hx105_1 := CX HB.out hx105_1
           replace hx105_2 := CX HB.out hx105_2
           replace p105 := eq_true p105
           replace q105 := eq_true q105
           have p106 : 0 ≤ (x3_1 : Int) := OD
           have q106 : x3_1 < (l0.length : Int) := OD
           obtain ⟨ad106, e106, hx106_0, hx106_1, hx106_2⟩ := at_T45 HR0.out x3_1 p106 q106
           have hw106_2 := hx106_2
           have hw106_1 := hx106_1
           have hw106_0 := hx106_0
           obtain rfl : ad101 = ad106 := (by injection e106)
           replace hx106_0 := CX HB.out hx106_0
           replace hx106_1 := CX HB.out hx106_1
           replace hx106_2 := CX HB.out hx106_2
           replace p106 := eq_true p106
           replace q106 := eq_true q106
           refine start_ (n := 35) (S := fun w' => w'.cell? (ad101.add ((x3_1).toNat * 3)) = some (.int .i64 ((rd_T45 l0 x3_1).f0.f0)) ∧ w'.cell? ⟨(ad101.add ((x3_1).toNat * 3)).block, (ad101.add ((x3_1).toNat * 3)).off + 1, none⟩ = some (.int .i64 ((rd_T45 l0 x3_1).f0.f1)) ∧ w'.cell? ⟨(ad101.add ((x3_1).toNat * 3)).block, (ad101.add ((x3_1).toNat * 3)).off + 2, none⟩ = some (.int .i64 ((rd_T45 l0 x3_1).f1)) ∧ w'.cell? (ad101.add ((x3_1).toNat * 3)) = some (.int .i64 ((rd_T45 l0 x3_1).f0.f0)) ∧ w'.cell? ⟨(ad101.add ((x3_1).toNat * 3)).block, (ad101.add ((x3_1).toNat * 3)).off + 1, none⟩ = some (.int .i64 ((rd_T45 l0 x3_1).f0.f1)) ∧ w'.cell? ⟨(ad101.add ((x3_1).toNat * 3)).block, (ad101.add ((x3_1).toNat * 3)).off + 2, none⟩ = some (.int .i64 ((rd_T45 l0 x3_1).f1)) ∧ w'.cell? (ad101.add (((ji9)).toNat * 3)) = some (.int .i64 ((rd_T45 l0 (ji9)).f0.f0)) ∧ w'.cell? ⟨(ad101.add (((ji9)).toNat * 3)).block, (ad101.add (((ji9)).toNat * 3)).off + 1, none⟩ = some (.int .i64 ((rd_T45 l0 (ji9)).f0.f1)) ∧ w'.cell? ⟨(ad101.add (((ji9)).toNat * 3)).block, (ad101.add (((ji9)).toNat * 3)).off + 2, none⟩ = some (.int .i64 ((rd_T45 l0 (ji9)).f1)) ∧ w'.cell? (ad101.add ((x3_1).toNat * 3)) = some (.int .i64 ((rd_T45 l0 x3_1).f0.f0)) ∧ w'.cell? ⟨(ad101.add ((x3_1).toNat * 3)).block, (ad101.add ((x3_1).toNat * 3)).off + 1, none⟩ = some (.int .i64 ((rd_T45 l0 x3_1).f0.f1)) ∧ w'.cell? ⟨(ad101.add ((x3_1).toNat * 3)).block, (ad101.add ((x3_1).toNat * 3)).off + 2, none⟩ = some (.int .i64 ((rd_T45 l0 x3_1).f1))) (ds := []) (tf 0 35) (by kernel_rfl) rfl rfl ⟨(CY HB.out hw101_0), (CY HB.out hw101_1), (CY HB.out hw101_2), (CY HB.out hw103_0), (CY HB.out hw103_1), (CY HB.out hw103_2), (CY HB.out hw105_0), (CY HB.out hw105_1), (CY HB.out hw105_2), (CY HB.out hw106_0), (CY HB.out hw106_1), (CY HB.out hw106_2)⟩ (fun hHeld => ?_); refine with_tabW spec_WaysOk.tab4 spec_WaysOk.bits4 (fun HT_ HW_ => ?_)
           generalize wr.drew = w14 at HB hx101_0 hx101_1 hx101_2 hx103_0 hx103_1 hx103_2 hx105_0 hx105_1 hx105_2 hx106_0 hx106_1 hx106_2 hHeld ⊢
           refine pv HT_ 0 10 (tf 1 34) ?_
           refine pv HT_ 1 11 (tf 2 33) ?_
           refine pv HT_ 2 12 (tf 3 32) ?_
           refine pv HT_ 3 13 (tf 4 31) ?_
           refine tk 4 (some 14) (tf 5 30) (take_ofW HT_.out HW_.out (by kernel_rfl)) hHeld ?_
           refine one_ (i := 5) (N := some 15) (tf 6 29) rfl rfl (one_of HT_.out (by kernel_rfl)) (by decide) (fun K hK => ?_)
           refine goes_ Try.func70 (by kernel_rfl) rfl #[.agg #[.int .i64 ((rd_T45 l0 x3_1).f0.f0), .int .i64 ((rd_T45 l0 x3_1).f0.f1)]] (by rfl) rfl rfl MT ?_
           with_reducible refine (spec_BlockOk.calls k1 ((rd_T45 l0 x3_1).f0.f0) ((rd_T45 l0 x3_1).f0.f1) true _ A4.out).mono ?_
           rintro e w15 ⟨rfl, hb⟩
           refine ⟨_, rfl, ?_⟩
           replace HB := am (below_step (KL HB) hb)
           (try clear hb)
           (try clear hb2)
           (try clear hk)
           (try clear hi)
           refine hK.out _ _ ⟨(CY HB.out hw101_0), (CY HB.out hw101_1), (CY HB.out hw101_2), (CY HB.out hw103_0), (CY HB.out hw103_1), (CY HB.out hw103_2), (CY HB.out hw105_0), (CY HB.out hw105_1), (CY HB.out hw105_2), (CY HB.out hw106_0), (CY HB.out hw106_1), (CY HB.out hw106_2)⟩ (fun hHeld => ?_)
           clear hK K
           refine norm_ (a' := ?_) ?_ ?_
           rotate_left
           ·show Act.put _ (some 15) _ = _
            simp only [Act.put, List.setIfInBounds_toArray, List.set_cons_zero, List.set_cons_succ, i64_w, i32_w]
            rfl
           refine pv HT_ 6 16 (tf 7 28) ?_
           refine pv HT_ 7 17 (tf 8 27) ?_
           refine pv HT_ 8 18 (tf 9 26) ?_
           refine pv HT_ 9 19 (tf 10 25) ?_
           refine pv HT_ 10 20 (tf 11 24) ?_
           refine pv HT_ 11 21 (tf 12 23) ?_
           refine tk 12 (some 22) (tf 13 22) (take_ofW HT_.out HW_.out (by kernel_rfl)) hHeld ?_
           refine one_ (i := 13) (N := some 23) (tf 14 21) rfl rfl (one_of HT_.out (by kernel_rfl)) (by decide) (fun K hK => ?_)
           refine goes_ Try.func71 (by kernel_rfl) rfl #[.int .i64 ((rd_T45 l0 x3_1).f1), .int .i64 0, .int .i64 99] (by rfl) rfl rfl MT ?_
           with_reducible refine (spec_l1In.calls ((rd_T45 l0 x3_1).f1) 0 99 true _ A6.out).mono ?_
           rintro e w' ⟨rfl, ⟨nd, rfl⟩⟩
           refine ⟨_, rfl, ?_⟩
           refine hK.out _ _ ⟨(CY HB.out hw101_0), (CY HB.out hw101_1), (CY HB.out hw101_2), (CY HB.out hw103_0), (CY HB.out hw103_1), (CY HB.out hw103_2), (CY HB.out hw105_0), (CY HB.out hw105_1), (CY HB.out hw105_2), (CY HB.out hw106_0), (CY HB.out hw106_1), (CY HB.out hw106_2)⟩ (fun hHeld => ?_)
           clear hK K
           refine norm_ (a' := ?_) ?_ ?_
           rotate_left
           ·show Act.put _ (some 23) _ = _
            simp only [Act.put, List.setIfInBounds_toArray, List.set_cons_zero, List.set_cons_succ, i64_w, i32_w]
            rfl
           refine pv HT_ 14 24 (tf 15 20) ?_
           refine pv HT_ 15 25 (tf 16 19) ?_
           refine pv HT_ 16 26 (tf 17 18) ?_
           refine pv HT_ 17 27 (tf 18 17) ?_
           refine pv HT_ 18 28 (tf 19 16) ?_
           refine pv HT_ 19 29 (tf 20 15) ?_
           refine pv HT_ 20 30 (tf 21 14) ?_
           refine pv HT_ 21 31 (tf 22 13) ?_
           refine pv HT_ 22 32 (tf 23 12) ?_
           refine pv HT_ 23 33 (tf 24 11) ?_
           refine pv HT_ 24 34 (tf 25 10) ?_
           refine pv HT_ 26 36 (tr [25, 1, 1, 8]) ?_
           refine pv HT_ 27 37 (tr [25, 1, 2, 7]) ?_
           refine pv HT_ 28 38 (tr [25, 1, 3, 6]) ?_
           refine pv HT_ 29 39 (tr [25, 1, 4, 5]) ?_
           refine tk 25 (some 35) (tf 30 5) (take_ofW HT_.out HW_.out (by kernel_rfl)) hHeld ?_
           refine tk 30 (some 40) (tf 31 4) (take_ofW HT_.out HW_.out (by kernel_rfl)) hHeld ?_
           refine one_ (i := 31) (N := some 41) (tf 32 3) rfl rfl (one_of HT_.out (by kernel_rfl)) (by decide) (fun K hK => ?_)
           refine goes_ Try.func72 (by kernel_rfl) rfl #[.agg #[.int .i64 ((rd_T45 l0 (ji9)).f0.f0), .int .i64 ((rd_T45 l0 (ji9)).f0.f1)], .agg #[.int .i64 ((rd_T45 l0 x3_1).f0.f0), .int .i64 ((rd_T45 l0 x3_1).f0.f1)]] (by rfl) rfl rfl (by (try simp only [List.map_toArray, List.map_cons, List.map_nil]); first | done | (simp only [hji9]; rfl) | rfl | (simp only [List.length_drop, List.length_take]; rfl)) ?_
           with_reducible refine (spec_l3Cmp.calls ((rd_T45 l0 (ji9)).f0.f0) ((rd_T45 l0 (ji9)).f0.f1) ((rd_T45 l0 x3_1).f0.f0) ((rd_T45 l0 x3_1).f0.f1) t107 _ A12.out).mono ?_
           rintro e w16 ⟨rfl, hb⟩
           refine ⟨_, rfl, ?_⟩
           replace HB := am (below_step (KL HB) hb)
           (try clear hb)
           (try clear hb2)
           (try clear hk)
           (try clear hi)
           refine hK.out _ _ ⟨(CY HB.out hw101_0), (CY HB.out hw101_1), (CY HB.out hw101_2), (CY HB.out hw103_0), (CY HB.out hw103_1), (CY HB.out hw103_2), (CY HB.out hw105_0), (CY HB.out hw105_1), (CY HB.out hw105_2), (CY HB.out hw106_0), (CY HB.out hw106_1), (CY HB.out hw106_2)⟩ (fun hHeld => ?_)
           clear hK K
           refine norm_ (a' := ?_) ?_ ?_
           rotate_left
           ·show Act.put _ (some 41) _ = _
            simp only [Act.put, List.setIfInBounds_toArray, List.set_cons_zero, List.set_cons_succ, i64_w, i32_w]
            rfl
           refine pv HT_ 32 42 (tf 33 2) ?_
           refine pv HT_ 33 43 (tf 34 1) ?_
           refine pv HT_ 34 44 (tf 35 0) ?_
           refine done_ (done_of HT_.out (by kernel_rfl)) ?_
           try go_wp2
           go_ret
           exact ⟨by first | rfl | (simp [errW_none, errW_some] <;> rfl) | (simp only [← hji9]; first | rfl | (simp [errW_none, errW_some] <;> rfl)) | (simp [*, errW_none, errW_some] <;> rfl), KL HB⟩
          ·rw [if_neg c13] at H
           have c13b0 : decide (0 ≤ t107) = false := decide_eq_false c13
           clear c13
           have H' := Aside0.mk H
           clear H
           try go_wp2
           replace HB := am (below_drew1 HB.out)
           have p101 : 0 ≤ (x3_1 : Int) := OD
           have q101 : x3_1 < (l0.length : Int) := OD
           obtain ⟨ad101, e101, hx101_0, hx101_1, hx101_2⟩ := at_T45 HR0.out x3_1 p101 q101
           have hw101_2 := hx101_2
           have hw101_1 := hx101_1
           have hw101_0 := hx101_0
           cases e101
           replace hx101_0 := CX HB.out hx101_0
           replace hx101_1 := CX HB.out hx101_1
           replace hx101_2 := CX HB.out hx101_2
           replace p101 := eq_true p101
           replace q101 := eq_true q101
           have p103 : 0 ≤ (x3_1 : Int) := OD
           have q103 : x3_1 < (l0.length : Int) := OD
           obtain ⟨ad103, e103, hx103_0, hx103_1, hx103_2⟩ := at_T45 HR0.out x3_1 p103 q103
           have hw103_2 := hx103_2
           have hw103_1 := hx103_1
           have hw103_0 := hx103_0
           obtain rfl : ad101 = ad103 := (by injection e103)
           replace hx103_0 := CX HB.out hx103_0
           replace hx103_1 := CX HB.out hx103_1
           replace hx103_2 := CX HB.out hx103_2
           replace p103 := eq_true p103
           replace q103 := eq_true q103
           have p105 : 0 ≤ ((ji9) : Int) := OD
           have q105 : (ji9) < (l0.length : Int) := OD
           obtain ⟨ad105, e105, hx105_0, hx105_1, hx105_2⟩ := at_T45 HR0.out (ji9) p105 q105
           have hw105_2 := hx105_2
           have hw105_1 := hx105_1
           have hw105_0 := hx105_0
           obtain rfl : ad101 = ad105 := (by injection e105)
           replace hx105_0 := CX HB.out hx105_0
           replace hx105_1 := CX HB.out hx105_1
           replace hx105_2 := CX HB.out hx105_2
           replace p105 := eq_true p105
           replace q105 := eq_true q105
           have p106 : 0 ≤ (x3_1 : Int) := OD
           have q106 : x3_1 < (l0.length : Int) := OD
           obtain ⟨ad106, e106, hx106_0, hx106_1, hx106_2⟩ := at_T45 HR0.out x3_1 p106 q106
           have hw106_2 := hx106_2
           have hw106_1 := hx106_1
           have hw106_0 := hx106_0
           obtain rfl : ad101 = ad106 := (by injection e106)
           replace hx106_0 := CX HB.out hx106_0
           replace hx106_1 := CX HB.out hx106_1
           replace hx106_2 := CX HB.out hx106_2
           replace p106 := eq_true p106
           replace q106 := eq_true q106
           refine start_ (n := 35) (S := fun w' => w'.cell? (ad101.add ((x3_1).toNat * 3)) = some (.int .i64 ((rd_T45 l0 x3_1).f0.f0)) ∧ w'.cell? ⟨(ad101.add ((x3_1).toNat * 3)).block, (ad101.add ((x3_1).toNat * 3)).off + 1, none⟩ = some (.int .i64 ((rd_T45 l0 x3_1).f0.f1)) ∧ w'.cell? ⟨(ad101.add ((x3_1).toNat * 3)).block, (ad101.add ((x3_1).toNat * 3)).off + 2, none⟩ = some (.int .i64 ((rd_T45 l0 x3_1).f1)) ∧ w'.cell? (ad101.add ((x3_1).toNat * 3)) = some (.int .i64 ((rd_T45 l0 x3_1).f0.f0)) ∧ w'.cell? ⟨(ad101.add ((x3_1).toNat * 3)).block, (ad101.add ((x3_1).toNat * 3)).off + 1, none⟩ = some (.int .i64 ((rd_T45 l0 x3_1).f0.f1)) ∧ w'.cell? ⟨(ad101.add ((x3_1).toNat * 3)).block, (ad101.add ((x3_1).toNat * 3)).off + 2, none⟩ = some (.int .i64 ((rd_T45 l0 x3_1).f1)) ∧ w'.cell? (ad101.add (((ji9)).toNat * 3)) = some (.int .i64 ((rd_T45 l0 (ji9)).f0.f0)) ∧ w'.cell? ⟨(ad101.add (((ji9)).toNat * 3)).block, (ad101.add (((ji9)).toNat * 3)).off + 1, none⟩ = some (.int .i64 ((rd_T45 l0 (ji9)).f0.f1)) ∧ w'.cell? ⟨(ad101.add (((ji9)).toNat * 3)).block, (ad101.add (((ji9)).toNat * 3)).off + 2, none⟩ = some (.int .i64 ((rd_T45 l0 (ji9)).f1)) ∧ w'.cell? (ad101.add ((x3_1).toNat * 3)) = some (.int .i64 ((rd_T45 l0 x3_1).f0.f0)) ∧ w'.cell? ⟨(ad101.add ((x3_1).toNat * 3)).block, (ad101.add ((x3_1).toNat * 3)).off + 1, none⟩ = some (.int .i64 ((rd_T45 l0 x3_1).f0.f1)) ∧ w'.cell? ⟨(ad101.add ((x3_1).toNat * 3)).block, (ad101.add ((x3_1).toNat * 3)).off + 2, none⟩ = some (.int .i64 ((rd_T45 l0 x3_1).f1))) (ds := []) (tf 0 35) (by kernel_rfl) rfl rfl ⟨(CY HB.out hw101_0), (CY HB.out hw101_1), (CY HB.out hw101_2), (CY HB.out hw103_0), (CY HB.out hw103_1), (CY HB.out hw103_2), (CY HB.out hw105_0), (CY HB.out hw105_1), (CY HB.out hw105_2), (CY HB.out hw106_0), (CY HB.out hw106_1), (CY HB.out hw106_2)⟩ (fun hHeld => ?_); refine with_tabW spec_WaysOk.tab4 spec_WaysOk.bits4 (fun HT_ HW_ => ?_)
           generalize wr.drew = w17 at HB hx101_0 hx101_1 hx101_2 hx103_0 hx103_1 hx103_2 hx105_0 hx105_1 hx105_2 hx106_0 hx106_1 hx106_2 hHeld ⊢
           refine pv HT_ 0 10 (tf 1 34) ?_
           refine pv HT_ 1 11 (tf 2 33) ?_
           refine pv HT_ 2 12 (tf 3 32) ?_
           refine pv HT_ 3 13 (tf 4 31) ?_
           refine tk 4 (some 14) (tf 5 30) (take_ofW HT_.out HW_.out (by kernel_rfl)) hHeld ?_
           refine one_ (i := 5) (N := some 15) (tf 6 29) rfl rfl (one_of HT_.out (by kernel_rfl)) (by decide) (fun K hK => ?_)
           refine goes_ Try.func70 (by kernel_rfl) rfl #[.agg #[.int .i64 ((rd_T45 l0 x3_1).f0.f0), .int .i64 ((rd_T45 l0 x3_1).f0.f1)]] (by rfl) rfl rfl MT ?_
           with_reducible refine (spec_BlockOk.calls k1 ((rd_T45 l0 x3_1).f0.f0) ((rd_T45 l0 x3_1).f0.f1) true _ A4.out).mono ?_
           rintro e w18 ⟨rfl, hb⟩
           refine ⟨_, rfl, ?_⟩
           replace HB := am (below_step (KL HB) hb)
           (try clear hb)
           (try clear hb2)
           (try clear hk)
           (try clear hi)
           refine hK.out _ _ ⟨(CY HB.out hw101_0), (CY HB.out hw101_1), (CY HB.out hw101_2), (CY HB.out hw103_0), (CY HB.out hw103_1), (CY HB.out hw103_2), (CY HB.out hw105_0), (CY HB.out hw105_1), (CY HB.out hw105_2), (CY HB.out hw106_0), (CY HB.out hw106_1), (CY HB.out hw106_2)⟩ (fun hHeld => ?_)
           clear hK K
           refine norm_ (a' := ?_) ?_ ?_
           rotate_left
           ·show Act.put _ (some 15) _ = _
            simp only [Act.put, List.setIfInBounds_toArray, List.set_cons_zero, List.set_cons_succ, i64_w, i32_w]
            rfl
           refine pv HT_ 6 16 (tf 7 28) ?_
           refine pv HT_ 7 17 (tf 8 27) ?_
           refine pv HT_ 8 18 (tf 9 26) ?_
           refine pv HT_ 9 19 (tf 10 25) ?_
           refine pv HT_ 10 20 (tf 11 24) ?_
           refine pv HT_ 11 21 (tf 12 23) ?_
           refine tk 12 (some 22) (tf 13 22) (take_ofW HT_.out HW_.out (by kernel_rfl)) hHeld ?_
           refine one_ (i := 13) (N := some 23) (tf 14 21) rfl rfl (one_of HT_.out (by kernel_rfl)) (by decide) (fun K hK => ?_)
           refine goes_ Try.func71 (by kernel_rfl) rfl #[.int .i64 ((rd_T45 l0 x3_1).f1), .int .i64 0, .int .i64 99] (by rfl) rfl rfl MT ?_
           with_reducible refine (spec_l1In.calls ((rd_T45 l0 x3_1).f1) 0 99 true _ A6.out).mono ?_
           rintro e w' ⟨rfl, ⟨nd, rfl⟩⟩
           refine ⟨_, rfl, ?_⟩
           refine hK.out _ _ ⟨(CY HB.out hw101_0), (CY HB.out hw101_1), (CY HB.out hw101_2), (CY HB.out hw103_0), (CY HB.out hw103_1), (CY HB.out hw103_2), (CY HB.out hw105_0), (CY HB.out hw105_1), (CY HB.out hw105_2), (CY HB.out hw106_0), (CY HB.out hw106_1), (CY HB.out hw106_2)⟩ (fun hHeld => ?_)
           clear hK K
           refine norm_ (a' := ?_) ?_ ?_
           rotate_left
           ·show Act.put _ (some 23) _ = _
            simp only [Act.put, List.setIfInBounds_toArray, List.set_cons_zero, List.set_cons_succ, i64_w, i32_w]
            rfl
           refine pv HT_ 14 24 (tf 15 20) ?_
           refine pv HT_ 15 25 (tf 16 19) ?_
           refine pv HT_ 16 26 (tf 17 18) ?_
           refine pv HT_ 17 27 (tf 18 17) ?_
           refine pv HT_ 18 28 (tf 19 16) ?_
           refine pv HT_ 19 29 (tf 20 15) ?_
           refine pv HT_ 20 30 (tf 21 14) ?_
           refine pv HT_ 21 31 (tf 22 13) ?_
           refine pv HT_ 22 32 (tf 23 12) ?_
           refine pv HT_ 23 33 (tf 24 11) ?_
           refine pv HT_ 24 34 (tf 25 10) ?_
           refine pv HT_ 26 36 (tr [25, 1, 1, 8]) ?_
           refine pv HT_ 27 37 (tr [25, 1, 2, 7]) ?_
           refine pv HT_ 28 38 (tr [25, 1, 3, 6]) ?_
           refine pv HT_ 29 39 (tr [25, 1, 4, 5]) ?_
           refine tk 25 (some 35) (tf 30 5) (take_ofW HT_.out HW_.out (by kernel_rfl)) hHeld ?_
           refine tk 30 (some 40) (tf 31 4) (take_ofW HT_.out HW_.out (by kernel_rfl)) hHeld ?_
           refine one_ (i := 31) (N := some 41) (tf 32 3) rfl rfl (one_of HT_.out (by kernel_rfl)) (by decide) (fun K hK => ?_)
           refine goes_ Try.func72 (by kernel_rfl) rfl #[.agg #[.int .i64 ((rd_T45 l0 (ji9)).f0.f0), .int .i64 ((rd_T45 l0 (ji9)).f0.f1)], .agg #[.int .i64 ((rd_T45 l0 x3_1).f0.f0), .int .i64 ((rd_T45 l0 x3_1).f0.f1)]] (by rfl) rfl rfl (by (try simp only [List.map_toArray, List.map_cons, List.map_nil]); first | done | (simp only [hji9]; rfl) | rfl | (simp only [List.length_drop, List.length_take]; rfl)) ?_
           with_reducible refine (spec_l3Cmp.calls ((rd_T45 l0 (ji9)).f0.f0) ((rd_T45 l0 (ji9)).f0.f1) ((rd_T45 l0 x3_1).f0.f0) ((rd_T45 l0 x3_1).f0.f1) t107 _ A12.out).mono ?_
           rintro e w19 ⟨rfl, hb⟩
           refine ⟨_, rfl, ?_⟩
           replace HB := am (below_step (KL HB) hb)
           (try clear hb)
           (try clear hb2)
           (try clear hk)
           (try clear hi)
           refine hK.out _ _ ⟨(CY HB.out hw101_0), (CY HB.out hw101_1), (CY HB.out hw101_2), (CY HB.out hw103_0), (CY HB.out hw103_1), (CY HB.out hw103_2), (CY HB.out hw105_0), (CY HB.out hw105_1), (CY HB.out hw105_2), (CY HB.out hw106_0), (CY HB.out hw106_1), (CY HB.out hw106_2)⟩ (fun hHeld => ?_)
           clear hK K
           refine norm_ (a' := ?_) ?_ ?_
           rotate_left
           ·show Act.put _ (some 41) _ = _
            simp only [Act.put, List.setIfInBounds_toArray, List.set_cons_zero, List.set_cons_succ, i64_w, i32_w]
            rfl
           refine pv HT_ 32 42 (tf 33 2) ?_
           refine pv HT_ 33 43 (tf 34 1) ?_
           refine pv HT_ 34 44 (tf 35 0) ?_
           refine done_ (done_of HT_.out (by kernel_rfl)) ?_
           try go_wp2
           go_roundg k1
           case measure => have := HK1.out; omega
           case rel => exact ⟨(wrap64 (x3_1 + 1)), (by first | rfl | (simp; done) | (simp [*]; done)), H', ⟨by have := HK1.out; omega⟩, ⟨KL HB⟩⟩
         ·rw [if_neg c11] at H
          exact absurd H (by simp)
        ·rw [if_neg c10] at H
         exact absurd H (by simp)
       ·rw [if_neg c8] at H
        have c8b0 : decide (0 < x3_1) = false := decide_eq_false c8
        clear c8
        have H' := Aside0.mk H
        clear H
        try go_wp2
        replace HB := am (below_drew1 HB.out)
        have p101 : 0 ≤ (x3_1 : Int) := OD
        have q101 : x3_1 < (l0.length : Int) := OD
        obtain ⟨ad101, e101, hx101_0, hx101_1, hx101_2⟩ := at_T45 HR0.out x3_1 p101 q101
        have hw101_2 := hx101_2
        have hw101_1 := hx101_1
        have hw101_0 := hx101_0
        cases e101
        replace hx101_0 := CX HB.out hx101_0
        replace hx101_1 := CX HB.out hx101_1
        replace hx101_2 := CX HB.out hx101_2
        replace p101 := eq_true p101
        replace q101 := eq_true q101
        have p103 : 0 ≤ (x3_1 : Int) := OD
        have q103 : x3_1 < (l0.length : Int) := OD
        obtain ⟨ad103, e103, hx103_0, hx103_1, hx103_2⟩ := at_T45 HR0.out x3_1 p103 q103
        have hw103_2 := hx103_2
        have hw103_1 := hx103_1
        have hw103_0 := hx103_0
        obtain rfl : ad101 = ad103 := (by injection e103)
        replace hx103_0 := CX HB.out hx103_0
        replace hx103_1 := CX HB.out hx103_1
        replace hx103_2 := CX HB.out hx103_2
        replace p103 := eq_true p103
        replace q103 := eq_true q103
        refine start_ (n := 35) (S := fun w' => w'.cell? (ad101.add ((x3_1).toNat * 3)) = some (.int .i64 ((rd_T45 l0 x3_1).f0.f0)) ∧ w'.cell? ⟨(ad101.add ((x3_1).toNat * 3)).block, (ad101.add ((x3_1).toNat * 3)).off + 1, none⟩ = some (.int .i64 ((rd_T45 l0 x3_1).f0.f1)) ∧ w'.cell? ⟨(ad101.add ((x3_1).toNat * 3)).block, (ad101.add ((x3_1).toNat * 3)).off + 2, none⟩ = some (.int .i64 ((rd_T45 l0 x3_1).f1)) ∧ w'.cell? (ad101.add ((x3_1).toNat * 3)) = some (.int .i64 ((rd_T45 l0 x3_1).f0.f0)) ∧ w'.cell? ⟨(ad101.add ((x3_1).toNat * 3)).block, (ad101.add ((x3_1).toNat * 3)).off + 1, none⟩ = some (.int .i64 ((rd_T45 l0 x3_1).f0.f1)) ∧ w'.cell? ⟨(ad101.add ((x3_1).toNat * 3)).block, (ad101.add ((x3_1).toNat * 3)).off + 2, none⟩ = some (.int .i64 ((rd_T45 l0 x3_1).f1))) (ds := []) (tf 0 35) (by kernel_rfl) rfl rfl ⟨(CY HB.out hw101_0), (CY HB.out hw101_1), (CY HB.out hw101_2), (CY HB.out hw103_0), (CY HB.out hw103_1), (CY HB.out hw103_2)⟩ (fun hHeld => ?_); refine with_tabW spec_WaysOk.tab4 spec_WaysOk.bits4 (fun HT_ HW_ => ?_)
        generalize wr.drew = w20 at HB hx101_0 hx101_1 hx101_2 hx103_0 hx103_1 hx103_2 hHeld ⊢
        refine pv HT_ 0 10 (tf 1 34) ?_
        refine pv HT_ 1 11 (tf 2 33) ?_
        refine pv HT_ 2 12 (tf 3 32) ?_
        refine pv HT_ 3 13 (tf 4 31) ?_
        refine tk 4 (some 14) (tf 5 30) (take_ofW HT_.out HW_.out (by kernel_rfl)) hHeld ?_
        refine one_ (i := 5) (N := some 15) (tf 6 29) rfl rfl (one_of HT_.out (by kernel_rfl)) (by decide) (fun K hK => ?_)
        refine goes_ Try.func70 (by kernel_rfl) rfl #[.agg #[.int .i64 ((rd_T45 l0 x3_1).f0.f0), .int .i64 ((rd_T45 l0 x3_1).f0.f1)]] (by rfl) rfl rfl MT ?_
        with_reducible refine (spec_BlockOk.calls k1 ((rd_T45 l0 x3_1).f0.f0) ((rd_T45 l0 x3_1).f0.f1) true _ A4.out).mono ?_
        rintro e w21 ⟨rfl, hb⟩
        refine ⟨_, rfl, ?_⟩
        replace HB := am (below_step (KL HB) hb)
        (try clear hb)
        (try clear hb2)
        (try clear hk)
        (try clear hi)
        refine hK.out _ _ ⟨(CY HB.out hw101_0), (CY HB.out hw101_1), (CY HB.out hw101_2), (CY HB.out hw103_0), (CY HB.out hw103_1), (CY HB.out hw103_2)⟩ (fun hHeld => ?_)
        clear hK K
        refine norm_ (a' := ?_) ?_ ?_
        rotate_left
        ·show Act.put _ (some 15) _ = _
         simp only [Act.put, List.setIfInBounds_toArray, List.set_cons_zero, List.set_cons_succ, i64_w, i32_w]
         rfl
        refine pv HT_ 6 16 (tf 7 28) ?_
        refine pv HT_ 7 17 (tf 8 27) ?_
        refine pv HT_ 8 18 (tf 9 26) ?_
        refine pv HT_ 9 19 (tf 10 25) ?_
        refine pv HT_ 10 20 (tf 11 24) ?_
        refine pv HT_ 11 21 (tf 12 23) ?_
        refine tk 12 (some 22) (tf 13 22) (take_ofW HT_.out HW_.out (by kernel_rfl)) hHeld ?_
        refine one_ (i := 13) (N := some 23) (tf 14 21) rfl rfl (one_of HT_.out (by kernel_rfl)) (by decide) (fun K hK => ?_)
        refine goes_ Try.func71 (by kernel_rfl) rfl #[.int .i64 ((rd_T45 l0 x3_1).f1), .int .i64 0, .int .i64 99] (by rfl) rfl rfl MT ?_
        with_reducible refine (spec_l1In.calls ((rd_T45 l0 x3_1).f1) 0 99 true _ A6.out).mono ?_
        rintro e w' ⟨rfl, ⟨nd, rfl⟩⟩
        refine ⟨_, rfl, ?_⟩
        refine hK.out _ _ ⟨(CY HB.out hw101_0), (CY HB.out hw101_1), (CY HB.out hw101_2), (CY HB.out hw103_0), (CY HB.out hw103_1), (CY HB.out hw103_2)⟩ (fun hHeld => ?_)
        clear hK K
        refine norm_ (a' := ?_) ?_ ?_
        rotate_left
        ·show Act.put _ (some 23) _ = _
         simp only [Act.put, List.setIfInBounds_toArray, List.set_cons_zero, List.set_cons_succ, i64_w, i32_w]
         rfl
        refine pv HT_ 14 24 (tf 15 20) ?_
        refine pv HT_ 15 25 (tf 16 19) ?_
        refine pv HT_ 16 26 (tf 17 18) ?_
        refine pv HT_ 17 27 (tf 18 17) ?_
        refine pv HT_ 18 28 (tf 19 16) ?_
        refine pv HT_ 19 29 (tf 20 15) ?_
        refine pw HT_ 20 30 (tf 21 14) ?_
        refine pw HT_ 21 31 (tf 22 13) ?_
        refine pw HT_ 22 32 (tf 23 12) ?_
        refine pw HT_ 23 33 (tf 24 11) ?_
        refine pw HT_ 24 34 (tf 25 10) ?_
        refine pw HT_ 25 35 (tf 26 9) ?_
        refine pw HT_ 26 36 (tf 27 8) ?_
        refine pw HT_ 27 37 (tf 28 7) ?_
        refine pw HT_ 28 38 (tf 29 6) ?_
        refine pw HT_ 29 39 (tf 30 5) ?_
        refine pw HT_ 30 40 (tf 31 4) ?_
        refine pw HT_ 31 41 (tf 32 3) ?_
        refine pw HT_ 32 42 (tf 33 2) ?_
        refine pv HT_ 33 43 (tf 34 1) ?_
        refine pv HT_ 34 44 (tf 35 0) ?_
        refine done_ (done_of HT_.out (by kernel_rfl)) ?_
        try go_wp2
        go_roundg k1
        case measure => have := HK1.out; omega
        case rel => exact ⟨(wrap64 (x3_1 + 1)), (by first | rfl | (simp; done) | (simp [*]; done)), H', ⟨by have := HK1.out; omega⟩, ⟨KL HB⟩⟩
      ·replace c7 := Bool.eq_false_iff.mpr c7
       subst c7
       have H1 : (some false) = some r := by rw [if_neg (show ¬ (false = true) by decide)] at H; exact H
       clear H
       have H := H1
       clear H1
       obtain rfl := Option.some.inj H
       try go_wp2
       replace HB := am (below_drew1 HB.out)
       have p101 : 0 ≤ (x3_1 : Int) := OD
       have q101 : x3_1 < (l0.length : Int) := OD
       obtain ⟨ad101, e101, hx101_0, hx101_1, hx101_2⟩ := at_T45 HR0.out x3_1 p101 q101
       have hw101_2 := hx101_2
       have hw101_1 := hx101_1
       have hw101_0 := hx101_0
       cases e101
       replace hx101_0 := CX HB.out hx101_0
       replace hx101_1 := CX HB.out hx101_1
       replace hx101_2 := CX HB.out hx101_2
       replace p101 := eq_true p101
       replace q101 := eq_true q101
       have p103 : 0 ≤ (x3_1 : Int) := OD
       have q103 : x3_1 < (l0.length : Int) := OD
       obtain ⟨ad103, e103, hx103_0, hx103_1, hx103_2⟩ := at_T45 HR0.out x3_1 p103 q103
       have hw103_2 := hx103_2
       have hw103_1 := hx103_1
       have hw103_0 := hx103_0
       obtain rfl : ad101 = ad103 := (by injection e103)
       replace hx103_0 := CX HB.out hx103_0
       replace hx103_1 := CX HB.out hx103_1
       replace hx103_2 := CX HB.out hx103_2
       replace p103 := eq_true p103
       replace q103 := eq_true q103
       refine start_ (n := 35) (S := fun w' => w'.cell? (ad101.add ((x3_1).toNat * 3)) = some (.int .i64 ((rd_T45 l0 x3_1).f0.f0)) ∧ w'.cell? ⟨(ad101.add ((x3_1).toNat * 3)).block, (ad101.add ((x3_1).toNat * 3)).off + 1, none⟩ = some (.int .i64 ((rd_T45 l0 x3_1).f0.f1)) ∧ w'.cell? ⟨(ad101.add ((x3_1).toNat * 3)).block, (ad101.add ((x3_1).toNat * 3)).off + 2, none⟩ = some (.int .i64 ((rd_T45 l0 x3_1).f1)) ∧ w'.cell? (ad101.add ((x3_1).toNat * 3)) = some (.int .i64 ((rd_T45 l0 x3_1).f0.f0)) ∧ w'.cell? ⟨(ad101.add ((x3_1).toNat * 3)).block, (ad101.add ((x3_1).toNat * 3)).off + 1, none⟩ = some (.int .i64 ((rd_T45 l0 x3_1).f0.f1)) ∧ w'.cell? ⟨(ad101.add ((x3_1).toNat * 3)).block, (ad101.add ((x3_1).toNat * 3)).off + 2, none⟩ = some (.int .i64 ((rd_T45 l0 x3_1).f1))) (ds := []) (tf 0 35) (by kernel_rfl) rfl rfl ⟨(CY HB.out hw101_0), (CY HB.out hw101_1), (CY HB.out hw101_2), (CY HB.out hw103_0), (CY HB.out hw103_1), (CY HB.out hw103_2)⟩ (fun hHeld => ?_); refine with_tabW spec_WaysOk.tab4 spec_WaysOk.bits4 (fun HT_ HW_ => ?_)
       generalize wr.drew = w22 at HB hx101_0 hx101_1 hx101_2 hx103_0 hx103_1 hx103_2 hHeld ⊢
       refine pv HT_ 0 10 (tf 1 34) ?_
       refine pv HT_ 1 11 (tf 2 33) ?_
       refine pv HT_ 2 12 (tf 3 32) ?_
       refine pv HT_ 3 13 (tf 4 31) ?_
       refine tk 4 (some 14) (tf 5 30) (take_ofW HT_.out HW_.out (by kernel_rfl)) hHeld ?_
       refine one_ (i := 5) (N := some 15) (tf 6 29) rfl rfl (one_of HT_.out (by kernel_rfl)) (by decide) (fun K hK => ?_)
       refine goes_ Try.func70 (by kernel_rfl) rfl #[.agg #[.int .i64 ((rd_T45 l0 x3_1).f0.f0), .int .i64 ((rd_T45 l0 x3_1).f0.f1)]] (by rfl) rfl rfl MT ?_
       with_reducible refine (spec_BlockOk.calls k1 ((rd_T45 l0 x3_1).f0.f0) ((rd_T45 l0 x3_1).f0.f1) true _ A4.out).mono ?_
       rintro e w23 ⟨rfl, hb⟩
       refine ⟨_, rfl, ?_⟩
       replace HB := am (below_step (KL HB) hb)
       (try clear hb)
       (try clear hb2)
       (try clear hk)
       (try clear hi)
       refine hK.out _ _ ⟨(CY HB.out hw101_0), (CY HB.out hw101_1), (CY HB.out hw101_2), (CY HB.out hw103_0), (CY HB.out hw103_1), (CY HB.out hw103_2)⟩ (fun hHeld => ?_)
       clear hK K
       refine norm_ (a' := ?_) ?_ ?_
       rotate_left
       ·show Act.put _ (some 15) _ = _
        simp only [Act.put, List.setIfInBounds_toArray, List.set_cons_zero, List.set_cons_succ, i64_w, i32_w]
        rfl
       refine pv HT_ 6 16 (tf 7 28) ?_
       refine pv HT_ 7 17 (tf 8 27) ?_
       refine pv HT_ 8 18 (tf 9 26) ?_
       refine pv HT_ 9 19 (tf 10 25) ?_
       refine pv HT_ 10 20 (tf 11 24) ?_
       refine pv HT_ 11 21 (tf 12 23) ?_
       refine tk 12 (some 22) (tf 13 22) (take_ofW HT_.out HW_.out (by kernel_rfl)) hHeld ?_
       refine one_ (i := 13) (N := some 23) (tf 14 21) rfl rfl (one_of HT_.out (by kernel_rfl)) (by decide) (fun K hK => ?_)
       refine goes_ Try.func71 (by kernel_rfl) rfl #[.int .i64 ((rd_T45 l0 x3_1).f1), .int .i64 0, .int .i64 99] (by rfl) rfl rfl MT ?_
       with_reducible refine (spec_l1In.calls ((rd_T45 l0 x3_1).f1) 0 99 false _ A6.out).mono ?_
       rintro e w' ⟨rfl, ⟨nd, rfl⟩⟩
       refine ⟨_, rfl, ?_⟩
       refine hK.out _ _ ⟨(CY HB.out hw101_0), (CY HB.out hw101_1), (CY HB.out hw101_2), (CY HB.out hw103_0), (CY HB.out hw103_1), (CY HB.out hw103_2)⟩ (fun hHeld => ?_)
       clear hK K
       refine norm_ (a' := ?_) ?_ ?_
       rotate_left
       ·show Act.put _ (some 23) _ = _
        simp only [Act.put, List.setIfInBounds_toArray, List.set_cons_zero, List.set_cons_succ, i64_w, i32_w]
        rfl
       refine pv HT_ 14 24 (tf 15 20) ?_
       refine pv HT_ 15 25 (tf 16 19) ?_
       refine pv HT_ 16 26 (tf 17 18) ?_
       refine pw HT_ 17 27 (tf 18 17) ?_
       refine pw HT_ 18 28 (tf 19 16) ?_
       refine pw HT_ 19 29 (tf 20 15) ?_
       refine pw HT_ 20 30 (tf 21 14) ?_
       refine pw HT_ 21 31 (tf 22 13) ?_
       refine pw HT_ 22 32 (tf 23 12) ?_
       refine pw HT_ 23 33 (tf 24 11) ?_
       refine pw HT_ 24 34 (tf 25 10) ?_
       refine pw HT_ 25 35 (tf 26 9) ?_
       refine pw HT_ 26 36 (tf 27 8) ?_
       refine pw HT_ 27 37 (tf 28 7) ?_
       refine pw HT_ 28 38 (tf 29 6) ?_
       refine pw HT_ 29 39 (tf 30 5) ?_
       refine pw HT_ 30 40 (tf 31 4) ?_
       refine pw HT_ 31 41 (tf 32 3) ?_
       refine pw HT_ 32 42 (tf 33 2) ?_
       refine pw HT_ 33 43 (tf 34 1) ?_
       refine pv HT_ 34 44 (tf 35 0) ?_
       refine done_ (done_of HT_.out (by kernel_rfl)) ?_
       try go_wp2
       go_ret
       exact ⟨ER, KL HB⟩
     ·replace c5 := Bool.eq_false_iff.mpr c5
      subst c5
      have H1 : (some false) = some r := by rw [if_neg (show ¬ (false = true) by decide)] at H; exact H
      clear H
      have H := H1
      clear H1
      obtain rfl := Option.some.inj H
      try go_wp2
      replace HB := am (below_drew1 HB.out)
      have p101 : 0 ≤ (x3_1 : Int) := OD
      have q101 : x3_1 < (l0.length : Int) := OD
      obtain ⟨ad101, e101, hx101_0, hx101_1, hx101_2⟩ := at_T45 HR0.out x3_1 p101 q101
      have hw101_2 := hx101_2
      have hw101_1 := hx101_1
      have hw101_0 := hx101_0
      cases e101
      replace hx101_0 := CX HB.out hx101_0
      replace hx101_1 := CX HB.out hx101_1
      replace hx101_2 := CX HB.out hx101_2
      replace p101 := eq_true p101
      replace q101 := eq_true q101
      refine start_ (n := 35) (S := fun w' => w'.cell? (ad101.add ((x3_1).toNat * 3)) = some (.int .i64 ((rd_T45 l0 x3_1).f0.f0)) ∧ w'.cell? ⟨(ad101.add ((x3_1).toNat * 3)).block, (ad101.add ((x3_1).toNat * 3)).off + 1, none⟩ = some (.int .i64 ((rd_T45 l0 x3_1).f0.f1)) ∧ w'.cell? ⟨(ad101.add ((x3_1).toNat * 3)).block, (ad101.add ((x3_1).toNat * 3)).off + 2, none⟩ = some (.int .i64 ((rd_T45 l0 x3_1).f1))) (ds := []) (tf 0 35) (by kernel_rfl) rfl rfl ⟨(CY HB.out hw101_0), (CY HB.out hw101_1), (CY HB.out hw101_2)⟩ (fun hHeld => ?_); refine with_tabW spec_WaysOk.tab4 spec_WaysOk.bits4 (fun HT_ HW_ => ?_)
      generalize wr.drew = w24 at HB hx101_0 hx101_1 hx101_2 hHeld ⊢
      refine pv HT_ 0 10 (tf 1 34) ?_
      refine pv HT_ 1 11 (tf 2 33) ?_
      refine pv HT_ 2 12 (tf 3 32) ?_
      refine pv HT_ 3 13 (tf 4 31) ?_
      refine tk 4 (some 14) (tf 5 30) (take_ofW HT_.out HW_.out (by kernel_rfl)) hHeld ?_
      refine one_ (i := 5) (N := some 15) (tf 6 29) rfl rfl (one_of HT_.out (by kernel_rfl)) (by decide) (fun K hK => ?_)
      refine goes_ Try.func70 (by kernel_rfl) rfl #[.agg #[.int .i64 ((rd_T45 l0 x3_1).f0.f0), .int .i64 ((rd_T45 l0 x3_1).f0.f1)]] (by rfl) rfl rfl MT ?_
      with_reducible refine (spec_BlockOk.calls k1 ((rd_T45 l0 x3_1).f0.f0) ((rd_T45 l0 x3_1).f0.f1) false _ A4.out).mono ?_
      rintro e w25 ⟨rfl, hb⟩
      refine ⟨_, rfl, ?_⟩
      replace HB := am (below_step (KL HB) hb)
      (try clear hb)
      (try clear hb2)
      (try clear hk)
      (try clear hi)
      refine hK.out _ _ ⟨(CY HB.out hw101_0), (CY HB.out hw101_1), (CY HB.out hw101_2)⟩ (fun hHeld => ?_)
      clear hK K
      refine norm_ (a' := ?_) ?_ ?_
      rotate_left
      ·show Act.put _ (some 15) _ = _
       simp only [Act.put, List.setIfInBounds_toArray, List.set_cons_zero, List.set_cons_succ, i64_w, i32_w]
       rfl
      refine pv HT_ 6 16 (tf 7 28) ?_
      refine pv HT_ 7 17 (tf 8 27) ?_
      refine pw HT_ 8 18 (tf 9 26) ?_
      refine pw HT_ 9 19 (tf 10 25) ?_
      refine pw HT_ 10 20 (tf 11 24) ?_
      refine pw HT_ 11 21 (tf 12 23) ?_
      refine pw HT_ 12 22 (tf 13 22) ?_
      refine pw HT_ 13 23 (tf 14 21) ?_
      refine pw HT_ 14 24 (tf 15 20) ?_
      refine pv HT_ 15 25 (tf 16 19) ?_
      refine pv HT_ 16 26 (tf 17 18) ?_
      refine pw HT_ 17 27 (tf 18 17) ?_
      refine pw HT_ 18 28 (tf 19 16) ?_
      refine pw HT_ 19 29 (tf 20 15) ?_
      refine pw HT_ 20 30 (tf 21 14) ?_
      refine pw HT_ 21 31 (tf 22 13) ?_
      refine pw HT_ 22 32 (tf 23 12) ?_
      refine pw HT_ 23 33 (tf 24 11) ?_
      refine pw HT_ 24 34 (tf 25 10) ?_
      refine pw HT_ 25 35 (tf 26 9) ?_
      refine pw HT_ 26 36 (tf 27 8) ?_
      refine pw HT_ 27 37 (tf 28 7) ?_
      refine pw HT_ 28 38 (tf 29 6) ?_
      refine pw HT_ 29 39 (tf 30 5) ?_
      refine pw HT_ 30 40 (tf 31 4) ?_
      refine pw HT_ 31 41 (tf 32 3) ?_
      refine pw HT_ 32 42 (tf 33 2) ?_
      refine pw HT_ 33 43 (tf 34 1) ?_
      refine pv HT_ 34 44 (tf 35 0) ?_
      refine done_ (done_of HT_.out (by kernel_rfl)) ?_
      try go_wp2
      go_ret
      exact ⟨ER, KL HB⟩
    ·rw [if_neg c3] at H
     exact absurd H (by simp)
   ·rw [if_neg c2] at H
    have c2b0 : decide (x3_1 < (l0.length : Int)) = false := decide_eq_false c2
    clear c2
    obtain rfl := Option.some.inj H
    go_wp2
    go_ret
    exact ⟨ER, KL HB⟩
/-- A state of type 140 at block g of W; what its slices lead to came in by w0. -/
def IsS140 (w0 W : World) (g : Nat) (f0 : List Int) (f1 : Int) : Prop := ∃ A0 c0, W.heap[g]? = some (.cells #[.slice A0 f0.length c0, .int .i64 f1] 140 (0, 0)) ∧ w0.heap.size ≤ g ∧ Kd.C (Kd.int .u8) w0 A0 f0.length f0
theorem IsS140.grown {w0 W : World} {g : Nat} {f0 : List Int} {f1 : Int} {W1 : World} {row : Option Nat} (h : IsS140 w0 W g f0 f1) (hw : W.grownBy W1 row) (hne : some g ≠ row) : IsS140 w0 W1 g f0 f1 := by
 obtain ⟨A0, c0, hb, hg, hr0⟩ := h
 exact ⟨A0, c0, blk_grown hb hw hne, hg, hr0⟩
theorem IsS140.kept {w0 W : World} {g : Nat} {f0 : List Int} {f1 : Int} {W1 : World} {S : Nat → Prop} (h : IsS140 w0 W g f0 f1) (hk : Kept W W1 S) (hne : ¬ S g) : IsS140 w0 W1 g f0 f1 := by
 obtain ⟨A0, c0, hb, hg, hr0⟩ := h
 exact ⟨A0, c0, blk_kept hb hk hne, hg, hr0⟩
theorem IsS140.below {w0 W : World} {g : Nat} {f0 : List Int} {f1 : Int} {W1 : World} (h : IsS140 w0 W g f0 f1) (hw : Below W.heap.size W W1) : IsS140 w0 W1 g f0 f1 := h.grown (grown_of_below hw none) (by simp)
theorem IsS140.alloc {w0 W : World} {g : Nat} {f0 : List Int} {f1 : Int} (h : IsS140 w0 W g f0 f1) (o : Obj) : IsS140 w0 (W.alloc o) g f0 f1 := h.below (below_alloc (Below.refl _ _) o)
theorem IsS140.drewN {w0 W : World} {g : Nat} {f0 : List Int} {f1 : Int} (h : IsS140 w0 W g f0 f1) (m : Nat) : IsS140 w0 (W.drewN m) g f0 f1 := h
theorem IsS140.drew {w0 W : World} {g : Nat} {f0 : List Int} {f1 : Int} (h : IsS140 w0 W g f0 f1) : IsS140 w0 W.drew g f0 f1 := h
theorem IsS140.at_ {w0 W : World} {g : Nat} {f0 : List Int} {f1 : Int} {w' : World} {m : Nat} (hq : W.drewN m = w') (h : IsS140 w0 W g f0 f1) : IsS140 w0 w' g f0 f1 := by subst hq; exact IsS140.drewN h m
theorem IsS140.apart {w0 W : World} {g : Nat} {f0 : List Int} {f1 : Int} {α : Type} {d : Kd α} {e : Nat} {base : Nat} {ok : Nat → Prop} {v : Value} {xs : List α} (h : IsS140 w0 W g f0 f1) (ho : d.R e W base ok v xs) (ht : ∀ q, q ∈ e :: d.E → q ≠ 140) : d.R e W base (fun k => ok k ∧ k ≠ g) v xs := by
 obtain ⟨A0, c0, hb, hg, hr0⟩ := h
 exact Kd.R_types ho hb ht
theorem IsS140.own_ne {w0 W : World} {g : Nat} {f0 : List Int} {f1 : Int} {α : Type} {d : Kd α} {e : Nat} {base : Nat} {ok : Nat → Prop} {v : Value} {xs : List α} (h : IsS140 w0 W g f0 f1) (ho : d.R e W base ok v xs) (ht : e ≠ 140) : some g ≠ v.ownBlock := by
 obtain ⟨A0, c0, hb, hg, hr0⟩ := h
 exact Kd.R_ne ho hb ht
theorem IsS140.lt {w0 W : World} {g : Nat} {f0 : List Int} {f1 : Int} (h : IsS140 w0 W g f0 f1) : g < W.heap.size := by
 obtain ⟨A0, c0, hb, hg, hr0⟩ := h
 exact blk_lt hb
theorem IsS140.ge {w0 W : World} {g : Nat} {f0 : List Int} {f1 : Int} (h : IsS140 w0 W g f0 f1) : w0.heap.size ≤ g := by
 obtain ⟨A0, c0, hb, hg, hr0⟩ := h
 exact hg
theorem IsS140.far {w0 W : World} {g : Nat} {f0 : List Int} {f1 : Int} {p : Addr} (h : IsS140 w0 W g f0 f1) (hne : g ≠ p.block) (u : Value) : IsS140 w0 (W.setCell p u) g f0 f1 := by
 obtain ⟨A0, c0, hb, hg, hr0⟩ := h
 exact ⟨A0, c0, blk_far hb hne u, hg, hr0⟩
theorem cellS140_0 {W : World} {g : Nat} {A0 : Option Addr} {c0 : Nat} {f0 : List Int} {f1 : Int} (h : W.heap[g]? = some (.cells #[.slice A0 f0.length c0, .int .i64 f1] 140 (0, 0))) : W.cell? ⟨g, 0, none⟩ = some (.slice A0 f0.length c0) := (blk_cell h 0).trans rfl
theorem cellS140_1 {W : World} {g : Nat} {A0 : Option Addr} {c0 : Nat} {f0 : List Int} {f1 : Int} (h : W.heap[g]? = some (.cells #[.slice A0 f0.length c0, .int .i64 f1] 140 (0, 0))) : W.cell? ⟨g, 1, none⟩ = some (.int .i64 f1) := (blk_cell h 1).trans rfl
theorem IsS140.set_1 {w0 W : World} {g : Nat} {f0 : List Int} {f1 : Int} (h : IsS140 w0 W g f0 f1) (x : Int) : IsS140 w0 (W.setCell ⟨g, 1, none⟩ (.int .i64 x)) g f0 x := by
 obtain ⟨A0, c0, hb, hg, hr0⟩ := h
 exact ⟨A0, c0, by simpa using blk_set hb 1 (.int .i64 x), hg, hr0⟩
theorem I140_0 {P Q : Prop} (q : Aside0 Q)  (h : Q → P := by intro h_; repeat (first | (with_reducible first | exact h_ | apply IsS140.alloc | apply IsS140.drewN | apply IsS140.drew | apply IsS140.set_1) | exact h_)) : P := h q.out
theorem I140_1 {P Q R0 : Prop} (q : Aside0 Q) (r0 : R0) (h : Q → R0 → P := by intro h_ r0_; repeat (first | (with_reducible first | exact h_ | apply IsS140.alloc | apply IsS140.drewN | apply IsS140.drew | apply IsS140.set_1 | refine IsS140.far ?_ r0_ _) | exact h_)) : P := h q.out r0
theorem I140_2 {P Q R0 R1 : Prop} (q : Aside0 Q) (r0 : R0) (r1 : R1) (h : Q → R0 → R1 → P := by intro h_ r0_ r1_; repeat (first | (with_reducible first | exact h_ | apply IsS140.alloc | apply IsS140.drewN | apply IsS140.drew | apply IsS140.set_1 | refine IsS140.far ?_ r0_ _ | refine IsS140.far ?_ r1_ _) | exact h_)) : P := h q.out r0 r1
theorem IsS140.new (w0 W : World) (A0 : Option Addr) (c0 : Nat) (f0 : List Int) (f1 : Int) (hB : Below w0.heap.size w0 W) (hr0 : Kd.C (Kd.int .u8) w0 A0 f0.length f0) : IsS140 w0 (W.alloc (.cells #[.slice A0 f0.length c0, .int .i64 f1] 140)) W.heap.size f0 f1 := ⟨A0, c0, by simpa using heap_alloc_new W _, hB.size, hr0⟩
def spec_l1Open.f (l0 : List Int) : Option (List Int × Int) := if (l0.length : Int) > 2000 then (if 2000 ≤ (l0.length : Int) then (some (l0.take 2000, 0)) else (none)) else (some (l0, 0))
set_option maxHeartbeats 8000000 in
set_option maxRecDepth 100000 in
theorem spec_l1Open.calls (A0 : Option Addr) (c0 : Nat) (l0 : List Int) (r1 : List Int) (r2 : Int) (w0 w : World) (hB : Below w0.heap.size w0 w) (hr0 : Kd.C (Kd.int .u8) w0 A0 l0.length l0) (hc0 : l0.length ≤ c0) (h : spec_l1Open.f l0 = some (r1, r2)) :
  Calls Try.prog 67 #[.slice A0 l0.length c0] w fun e w' => ∃ g_ : Nat, e = .returned (.pointer (some ⟨g_, 0, none⟩)) ∧ IsS140 w0 w' g_ r1 r2 ∧ Below w0.heap.size w0 w' ∧ Below w.heap.size w w' := by
 have hu140 := Try.underlying140
 have HR0 := Aside0.mk hr0
 have HC0 := Aside0.mk hc0
 clear hr0 hc0
 have HBW := am (Below.refl w.heap.size w)
 have HW0 := Aside0.mk hB.size
 have HB := Aside0.mk hB
 clear hB
 have H : (if (l0.length : Int) > 2000 then (if 2000 ≤ (l0.length : Int) then (some (l0.take 2000, 0)) else (none)) else (some (l0, 0))) = some (r1, r2) := h
 clear h
 by_cases c2 : (l0.length : Int) > 2000
 ·rw [if_pos c2] at H
  have c2b0 : decide (2000 < (l0.length : Int)) = true := decide_eq_true c2
  have c2b1 : decide (2000 < l0.length) = true := decide_eq_true (by omega)
  clear c2
  by_cases c3 : 2000 ≤ (l0.length : Int)
  ·rw [if_pos c3] at H
   have c3b0 := eq_true c3
   have c3b1 : decide (2000 ≤ (l0.length : Int)) = true := decide_eq_true c3
   clear c3
   simp only [Option.some.injEq, Prod.mk.injEq] at H
   obtain ⟨rfl, rfl⟩ := H
   obtain ⟨i04, hi04, _, hsz4, _⟩ := info_parts info5
   obtain ⟨hcut4, hA4, hC4⟩ := print_take_of (P := Try.prog) (Value.int .u8) 0 30 5 .i64 Try.underlying30 hi04 hsz4 A0 c0 l0 2000 (by omega) (OD) HC0.out
   have HR101 := am (Kd.C_of_reads (h1 := fun _ => rfl) (hA4 _ (Kd.reads_of_C HR0.out)))
   have HC101 := Aside0.mk hC4
   clear hA4 hC4 hi04 hsz4
   go_enter Try.func67, Try.ntmps67
   go_wp2_with (first | ((with_reducible refine gate_dst (N := 10) rfl ?_); refine box_event rfl (N := 10) rfl (cs := #[.slice A0 (l0.take 2000).length c0, .int .i64 0]) (t := 140) BX ?_; intro gb102 hg w5 hbox hb; replace HB := am (below_step (KL HB) hb); have BK102 := am (hbox); have GW102 := am ((GL hg (below_size (KL HBW)) : w.heap.size ≤ gb102)); have GE102 := am ((Nat.le_trans HW0.out (GL hg (below_size (KL HBW)) : w.heap.size ≤ gb102) : w0.heap.size ≤ gb102)); replace HBW := am (below_step HBW.out hb); clear hb hbox hg))
   go_ret
   exact ⟨_, rfl, (show IsS140 w0 _ gb102 (l0.take 2000) 0 from ⟨_, _, by (with_reducible repeat (first | refine blk_drewN ?_ _ | refine blk_drew ?_ | refine blk_alloc ?_ _)); exact BK102.out, GE102.out, HR101.out⟩), K1 HB GE102.out, K1 HBW GW102.out⟩
  ·rw [if_neg c3] at H
   exact absurd H (by simp)
 ·rw [if_neg c2] at H
  have c2b0 : decide (2000 < (l0.length : Int)) = false := decide_eq_false c2
  have c2b1 : decide (2000 < l0.length) = false := decide_eq_false (by omega)
  clear c2
  simp only [Option.some.injEq, Prod.mk.injEq] at H
  obtain ⟨rfl, rfl⟩ := H
  go_enter Try.func67, Try.ntmps67
  go_wp2_with (first | ((with_reducible refine gate_dst (N := 10) rfl ?_); refine box_event rfl (N := 10) rfl (cs := #[.slice A0 l0.length c0, .int .i64 0]) (t := 140) BX ?_; intro gb103 hg w6 hbox hb; replace HB := am (below_step (KL HB) hb); have BK103 := am (hbox); have GW103 := am ((GL hg (below_size (KL HBW)) : w.heap.size ≤ gb103)); have GE103 := am ((Nat.le_trans HW0.out (GL hg (below_size (KL HBW)) : w.heap.size ≤ gb103) : w0.heap.size ≤ gb103)); replace HBW := am (below_step HBW.out hb); clear hb hbox hg))
  go_ret
  exact ⟨_, rfl, (show IsS140 w0 _ gb103 l0 0 from ⟨_, _, by (with_reducible repeat (first | refine blk_drewN ?_ _ | refine blk_drew ?_ | refine blk_alloc ?_ _)); exact BK103.out, GE103.out, HR0.out⟩), K1 HB GE103.out, K1 HBW GW103.out⟩
def spec_l3Copy.f (l0 : List (S45)) : Option ((List (S45))) := (some (([] : List (S45)) : List (S45))).bind fun y101 => (if y101.length + l0.length < 5864062014805 then (some (y101 ++ l0)) else (none))
set_option maxHeartbeats 8000000 in
set_option maxRecDepth 100000 in
theorem spec_l3Copy.calls (A0 : Option Addr) (c0 : Nat) (l0 : List (S45)) (r : List (S45)) (w : World) (hr0 : Kd.C k45 w A0 l0.length l0) (hc0 : l0.length ≤ c0) (h : spec_l3Copy.f l0 = some r) :
  Calls Try.prog 155 #[.slice A0 l0.length c0] w fun e w' => ∃ v0_ : Value, e = .returned (v0_) ∧ Kd.R k45 45 w' w.heap.size (fun _ => True) v0_ r ∧ Below w.heap.size w w' := by
 have HR0 := Aside0.mk hr0
 have HC0 := Aside0.mk hc0
 clear hr0 hc0
 have HB := am (Below.refl w.heap.size w)
 have H : ((some (([] : List (S45)) : List (S45))).bind fun y101 => (if y101.length + l0.length < 5864062014805 then (some (y101 ++ l0)) else (none))) = some r := h
 clear h
 obtain ⟨y101, hy101⟩ : ∃ y_ : List (S45), y_ = (([] : List (S45))) := ⟨_, rfl⟩
 replace H : (if y101.length + l0.length < 5864062014805 then (some (y101 ++ l0)) else (none)) = some r := by first | (rw [hy101]; with_reducible exact H) | (have H2_ := (Option.bind_some _ _).symm.trans H; rw [hy101]; with_reducible exact H2_) | (have H2_ := (Option.bind_some _ _).symm.trans H; with_reducible exact H2_) | with_reducible exact H | (rw [hy101]; exact H) | exact H
 have Ny101 := Aside0.mk hy101
 clear hy101
 by_cases c2 : y101.length + l0.length < 5864062014805
 ·rw [if_pos c2] at H
  have LMc2 := Aside0.mk c2
  clear c2
  obtain ⟨y104, hy104⟩ : ∃ y_ : List (S45), y_ = (y101 ++ l0) := ⟨_, rfl⟩
  replace H : (some y104) = some r := by first | (rw [hy104]; with_reducible exact H) | (have H2_ := (Option.bind_some _ _).symm.trans H; rw [hy104]; with_reducible exact H2_) | (have H2_ := (Option.bind_some _ _).symm.trans H; with_reducible exact H2_) | with_reducible exact H | (rw [hy104]; exact H) | exact H
  have Ny104 := Aside0.mk hy104
  clear hy104
  obtain rfl := Option.some.inj H
  go_enter Try.func155, Try.ntmps155
  go_wp2_with (first | ((with_reducible refine gate_dst (N := 3) rfl ?_); refine Kd.R_lit k45 _ 45 ?hg (N := 3) ?hd (xs := ([] : List (S45))) (inner := []) (ok := fun _ => True) (okp := fun _ => True) ?hr ?hp (fun _ hk => hk) trivial (Below.refl _ _) (Nat.le_refl _) (by simp) ?_; (case hd => rfl); (case hg => rfl); (case hr => first | (go_simp; done) | (go_simp; rfl)); (case hp => exact (Reps.none _ _)); intro v102 w3 ho4 hb hg_ hnew_; clear hg_ hnew_; (first | rw [← Ny101.out] at ho4 | (simp only [Int.reduceToNat] at ho4; rw [← Ny101.out] at ho4)); have HO103 := am (Kd.R_lower ho4 (below_size (KL HB))); replace HB := am (below_step (KL HB) hb); clear hb ho4) | ((with_reducible refine gate_builtin (b := .append) (xs := #[.tmp 3, .tmp 4]) rfl ?_); at_builtin; refine Kd.R_append_rows k45 (w0 := w) w.heap.size rfl (.tmp 3) (.tmp 4) 26 45 (.agg #[(.int .i64 0), (.int .i64 0), (.int .i64 0)]) 24 rfl Try.underlying26 info45 rfl (by decide) (by omega) v102 y101 l0 _ _ _ (fun _ => True) (fun _ => False) rfl rfl ?aO ?aR (fun _ _ h => h) (fun _ h => h.elim) ?aF ?aB ?aS ?aL ?_; (case aR => exact KD HR0 HB); (case aB => exact (KL HB)); (case aF => exact (fun _ _ => trivial)); (case aO => exact (KR HO103)); (case aS => exact (below_size (KL HB))); (case aL => have := LMc2.out; omega); intro v105 w5 ho hb hg hat; rw [← Ny104.out] at ho; replace HB := am (hb); have HO106 := am (ho); clear HO103; clear ho hb hg hat))
  go_ret
  exact ⟨_, ER, by (with_reducible repeat (first | apply Kd.R_alloc | apply Kd.R_drewN | apply Kd.R_drew)); exact HO106.out, KL HB⟩
 ·rw [if_neg c2] at H
  exact absurd H (by simp)
theorem eqA43 (d : Nat) (w : World) (x0 y0 : Int) (x1 y1 : Int) :
  (Op.equalIn (d + 2) 43 (.agg #[.int .i64 x0, .int .i64 x1]) (.agg #[.int .i64 y0, .int .i64 y1])).run Try.prog w = .ok (x0 == y0 && (x1 == y1)) w := by
 refine eqA_of Try.underlying43 (by kernel_rfl) ?_
 refine eqf_cons (by rfl) (by go_simp; rfl) (by go_simp; rfl) (by go_simp) ?_
 exact eqf_last (by rfl) (by go_simp; rfl) (by go_simp; rfl) (by go_simp)
end Go.Proofs.Ytkgbgaojglcaoaa.PAll
end
section
namespace Go.Proofs.Ytkgbgaojglcaoaa.PAll
open Go.RowKit Go.Proofs.YtkgbgaojglcaoaaW.PrintWords Go.Proofs.YtkgbgaojglcaoaaW.PrintLast Go.Proofs.YtkgbgaojglcaoaaW.PrintMore
attribute [local go_sem] max2_int min2_int max_two min_two max_three min_three max_four min_four   -- for this text's walks alone
set_option linter.unusedVariables false
set_option linter.unusedSimpArgs false
attribute [local go_sem high] eqA43
def spec_l3At.l0 : Nat → List (S45) → Int → Int → Int → Option (Int × Bool)
 | 0, _, _, _, _ => none
 | k + 1, x0, x6, x102000, x102001 => if x6 < (x0.length : Int) then (if 0 ≤ x6 then ((spec_l3Cmp.f ((rd_T45 x0 x6).f0.f0) ((rd_T45 x0 x6).f0.f1) x102000 x102001).bind fun t103 => (if t103 < 0 then (spec_l3At.l0 k x0 (wrap64 (x6 + 1)) x102000 x102001) else (some (x6, (((rd_T45 x0 x6).f0.f0) == x102000 && (((rd_T45 x0 x6).f0.f1) == x102001)))))) else (none)) else (some (x6, false))
def spec_l3At.f (k : Nat) (l0 : List (S45)) (a1_0 : Int) (a1_1 : Int) : Option (Int × Bool) := spec_l3At.l0 k l0 0 a1_0 a1_1
def spec_l3At.T2 : Bool × List (List Nat × List Nat) := (true, [([], []), ([], []), ([1], [1]), ([0, 2], [0, 2]), ([3], [3]), ([4], [4]), ([4], [4]), ([5, 6, 4], [4, 5, 6]), ([7, 4], [4, 7]), ([8, 4], [4, 8]), ([4], [4]), ([9, 10, 4, 4], [4, 9, 10]), ([11, 4], [4, 11]), ([4, 12], [4, 12])])
def spec_l3At.B2 : List Nat := [0, 0, 2, 7, 15, 31, 31, 127, 255, 511, 31, 2047, 4095, 8191]
theorem spec_l3At.tab2 : rtab .any (opsOf Try.f156 2) = spec_l3At.T2 := by kernel_rfl
theorem spec_l3At.bits2 : waitsOk spec_l3At.T2.2 spec_l3At.B2 = true := by kernel_rfl
def spec_l3At.T4 : Bool × List (List Nat × List Nat) := (true, [([], []), ([], []), ([], []), ([2], [2]), ([1, 3], [1, 3]), ([4], [4]), ([5], [5]), ([5], [5]), ([6, 7, 5], [5, 6, 7]), ([8, 5], [5, 8]), ([9, 5], [5, 9]), ([5], [5]), ([10, 11, 5], [5, 10, 11]), ([5, 12], [5, 12]), ([0, 5, 0], [0]), ([13, 14, 0, 1, 2, 3, 4, 5, 6, 7, 8, 9, 10, 11, 12, 13, 14], [13])])
def spec_l3At.B4 : List Nat := [0, 0, 0, 4, 14, 30, 62, 62, 254, 510, 1022, 62, 4094, 8190, 63, 32767]
theorem spec_l3At.tab4 : rtab .any (opsOf Try.f156 4) = spec_l3At.T4 := by kernel_rfl
theorem spec_l3At.bits4 : waitsOk spec_l3At.T4.2 spec_l3At.B4 = true := by kernel_rfl
set_option maxHeartbeats 8000000 in
set_option maxRecDepth 100000 in
theorem spec_l3At.calls (k : Nat) (A0 : Option Addr) (c0 : Nat) (l0 : List (S45)) (a1_0 : Int) (a1_1 : Int) (r1 : Int) (r2 : Bool) (w : World) (hr0 : Kd.C k45 w A0 l0.length l0) (hc0 : l0.length ≤ c0) (h : spec_l3At.f k l0 a1_0 a1_1 = some (r1, r2)) :
  Calls Try.prog 156 #[.slice A0 l0.length c0, .agg #[.int .i64 a1_0, .int .i64 a1_1]] w fun e w' => e = .returned (.tuple #[.int .i64 r1, .bool r2]) ∧ Below w.heap.size w w' := by
 have hu43 := Try.underlying43
 have HR0 := Aside0.mk hr0
 have HC0 := Aside0.mk hc0
 clear hr0 hc0
 have HB := am (Below.refl w.heap.size w)
 have H : (spec_l3At.l0 k l0 0 a1_0 a1_1) = some (r1, r2) := h
 clear h
 have H' := Aside0.mk H
 clear H
 go_enter Try.func156, Try.ntmps156
 go_wp2_with (first | ((with_reducible refine gate_dst (N := 3) rfl ?_); refine box_event rfl (N := 3) rfl (cs := #[.int .i64 a1_0, .int .i64 a1_1]) (t := 43) BX ?_; intro gb101 hg w3 hbox hb; have BK101 := am (hbox); have GW101 := am (GH HB hg); have GE101 := GW101; replace HB := am (below_step (KL HB) hb); clear hb hbox hg))
 go_loopg [6] k (fun kq v6 w' => ∃ (x6_1 : Int), v6 = .int .i64 x6_1 ∧ Aside0 (spec_l3At.l0 kq l0 x6_1 a1_0 a1_1 = some (r1, r2)) ∧ Aside0 (kq ≤ k) ∧ Aside0 (w'.heap[gb101]? = some (.cells #[.int .i64 a1_0, .int .i64 a1_1] 43 (0, 0))) ∧ Aside0 (Below w.heap.size w w'))
 case atStart => exact ⟨(0), (by first | rfl | (simp; done) | (simp [*]; done)), H', ⟨Nat.le_refl _⟩, ⟨KB BK101⟩, ⟨K1 HB GE101.out⟩⟩
 case round =>
  clear H'
  try clear c1
  try clear p2
  obtain ⟨x6_1, rfl, HA, HK1, BK101, HB⟩ := hrel
  cases gk with
  | zero => exact absurd HA.out (by simp [spec_l3At.l0])
  | succ k1 =>
   have H := HA.out
   clear HA
   simp only [spec_l3At.l0] at H
   by_cases c4 : x6_1 < (l0.length : Int)
   ·rw [if_pos c4] at H
    have c4b0 : decide (x6_1 < (l0.length : Int)) = true := decide_eq_true c4
    clear c4
    by_cases c5 : 0 ≤ x6_1
    ·rw [if_pos c5] at H
     have c5b0 : decide (0 ≤ x6_1) = true := decide_eq_true c5
     clear c5
     replace H := Option.bind_eq_some_iff.mp H
     obtain ⟨t103, A60, H⟩ := H
     replace H : (if t103 < 0 then (spec_l3At.l0 k1 l0 (wrap64 (x6_1 + 1)) a1_0 a1_1) else (some (x6_1, (((rd_T45 l0 x6_1).f0.f0) == a1_0 && (((rd_T45 l0 x6_1).f0.f1) == a1_1))))) = some (r1, r2) := H
     have A6 := Aside0.mk A60
     clear A60
     by_cases c7 : t103 < 0
     ·rw [if_pos c7] at H
      have c7b0 : decide (t103 < 0) = true := decide_eq_true c7
      clear c7
      have H' := Aside0.mk H
      clear H
      try go_wp2
      replace BK101 := am (blk_drew BK101.out)
      replace HB := am (below_drew1 HB.out)
      have p102 : 0 ≤ (x6_1 : Int) := OD
      have q102 : x6_1 < (l0.length : Int) := OD
      obtain ⟨ad102, e102, hx102_0, hx102_1, hx102_2⟩ := at_T45 HR0.out x6_1 p102 q102
      have hw102_2 := hx102_2
      have hw102_1 := hx102_1
      have hw102_0 := hx102_0
      cases e102
      replace hx102_0 := CX HB.out hx102_0
      replace hx102_1 := CX HB.out hx102_1
      replace hx102_2 := CX HB.out hx102_2
      replace p102 := eq_true p102
      replace q102 := eq_true q102
      refine start_ (n := 14) (S := fun w' => ce2 w' gb101 (.int .i64 a1_0) (.int .i64 a1_1) (w'.cell? (ad102.add ((x6_1).toNat * 3)) = some (.int .i64 ((rd_T45 l0 x6_1).f0.f0)) ∧ w'.cell? ⟨(ad102.add ((x6_1).toNat * 3)).block, (ad102.add ((x6_1).toNat * 3)).off + 1, none⟩ = some (.int .i64 ((rd_T45 l0 x6_1).f0.f1)) ∧ w'.cell? ⟨(ad102.add ((x6_1).toNat * 3)).block, (ad102.add ((x6_1).toNat * 3)).off + 2, none⟩ = some (.int .i64 ((rd_T45 l0 x6_1).f1)))) (ds := []) (tf 0 14) (by kernel_rfl) rfl rfl ⟨z0 _ BK101.out, z1 _ BK101.out, (CY HB.out hw102_0), (CY HB.out hw102_1), (CY HB.out hw102_2)⟩ (fun hHeld => ?_); refine with_tabW spec_l3At.tab2 spec_l3At.bits2 (fun HT_ HW_ => ?_)
      generalize wr.drew = w8 at BK101 HB hx102_0 hx102_1 hx102_2 hHeld ⊢
      refine pv HT_ 0 7 (tf 1 13) ?_
      refine pv HT_ 1 8 (tf 2 12) ?_
      refine pv HT_ 2 9 (tf 3 11) ?_
      refine pv HT_ 3 10 (tf 4 10) ?_
      refine pv HT_ 4 11 (tf 5 9) ?_
      refine pv HT_ 5 12 (tf 6 8) ?_
      refine pv HT_ 6 13 (tf 7 7) ?_
      refine pv HT_ 7 14 (tf 8 6) ?_
      refine pv HT_ 8 15 (tf 9 5) ?_
      refine tk 9 (some 16) (tf 10 4) (take_ofW HT_.out HW_.out (by kernel_rfl)) hHeld ?_
      refine tk 10 (some 17) (tf 11 3) (take_ofW HT_.out HW_.out (by kernel_rfl)) hHeld ?_
      refine one_ (i := 11) (N := some 18) (tf 12 2) rfl rfl (one_of HT_.out (by kernel_rfl)) (by decide) (fun K hK => ?_)
      refine goes_ Try.func72 (by kernel_rfl) rfl #[.agg #[.int .i64 ((rd_T45 l0 x6_1).f0.f0), .int .i64 ((rd_T45 l0 x6_1).f0.f1)], .agg #[.int .i64 a1_0, .int .i64 a1_1]] (by rfl) rfl rfl MT ?_
      with_reducible refine (spec_l3Cmp.calls ((rd_T45 l0 x6_1).f0.f0) ((rd_T45 l0 x6_1).f0.f1) a1_0 a1_1 t103 _ A6.out).mono ?_
      rintro e w9 ⟨rfl, hb⟩
      refine ⟨_, rfl, ?_⟩
      replace BK101 := am (BB BK101 hb)
      replace HB := am (below_step (K1 HB GE101.out) hb)
      (try clear hb)
      (try clear hb2)
      (try clear hk)
      (try clear hi)
      refine hK.out _ _ ⟨z0 _ BK101.out, z1 _ BK101.out, (CY HB.out hw102_0), (CY HB.out hw102_1), (CY HB.out hw102_2)⟩ (fun hHeld => ?_)
      clear hK K
      refine norm_ (a' := ?_) ?_ ?_
      rotate_left
      ·show Act.put _ (some 18) _ = _
       simp only [Act.put, List.setIfInBounds_toArray, List.set_cons_zero, List.set_cons_succ, i64_w, i32_w]
       rfl
      refine pv HT_ 12 19 (tf 13 1) ?_
      refine pv HT_ 13 20 (tf 14 0) ?_
      refine done_ (done_of HT_.out (by kernel_rfl)) ?_
      try go_wp2
      go_roundg k1
      case measure => have := HK1.out; omega
      case rel => exact ⟨(wrap64 (x6_1 + 1)), (by first | rfl | (simp; done) | (simp [*]; done)), H', ⟨by have := HK1.out; omega⟩, ⟨KB BK101⟩, ⟨K1 HB GE101.out⟩⟩
     ·rw [if_neg c7] at H
      have c7b0 : decide (t103 < 0) = false := decide_eq_false c7
      clear c7
      simp only [Option.some.injEq, Prod.mk.injEq] at H
      obtain ⟨rfl, rfl⟩ := H
      try go_wp2
      replace BK101 := am (blk_drew BK101.out)
      replace HB := am (below_drew1 HB.out)
      have p102 : 0 ≤ (x6_1 : Int) := OD
      have q102 : x6_1 < (l0.length : Int) := OD
      obtain ⟨ad102, e102, hx102_0, hx102_1, hx102_2⟩ := at_T45 HR0.out x6_1 p102 q102
      have hw102_2 := hx102_2
      have hw102_1 := hx102_1
      have hw102_0 := hx102_0
      cases e102
      replace hx102_0 := CX HB.out hx102_0
      replace hx102_1 := CX HB.out hx102_1
      replace hx102_2 := CX HB.out hx102_2
      replace p102 := eq_true p102
      replace q102 := eq_true q102
      refine start_ (n := 14) (S := fun w' => ce2 w' gb101 (.int .i64 a1_0) (.int .i64 a1_1) (w'.cell? (ad102.add ((x6_1).toNat * 3)) = some (.int .i64 ((rd_T45 l0 x6_1).f0.f0)) ∧ w'.cell? ⟨(ad102.add ((x6_1).toNat * 3)).block, (ad102.add ((x6_1).toNat * 3)).off + 1, none⟩ = some (.int .i64 ((rd_T45 l0 x6_1).f0.f1)) ∧ w'.cell? ⟨(ad102.add ((x6_1).toNat * 3)).block, (ad102.add ((x6_1).toNat * 3)).off + 2, none⟩ = some (.int .i64 ((rd_T45 l0 x6_1).f1)))) (ds := []) (tf 0 14) (by kernel_rfl) rfl rfl ⟨z0 _ BK101.out, z1 _ BK101.out, (CY HB.out hw102_0), (CY HB.out hw102_1), (CY HB.out hw102_2)⟩ (fun hHeld => ?_); refine with_tabW spec_l3At.tab2 spec_l3At.bits2 (fun HT_ HW_ => ?_)
      generalize wr.drew = w10 at BK101 HB hx102_0 hx102_1 hx102_2 hHeld ⊢
      refine pv HT_ 0 7 (tf 1 13) ?_
      refine pv HT_ 1 8 (tf 2 12) ?_
      refine pv HT_ 2 9 (tf 3 11) ?_
      refine pv HT_ 3 10 (tf 4 10) ?_
      refine pv HT_ 4 11 (tf 5 9) ?_
      refine pv HT_ 5 12 (tf 6 8) ?_
      refine pv HT_ 6 13 (tf 7 7) ?_
      refine pv HT_ 7 14 (tf 8 6) ?_
      refine pv HT_ 8 15 (tf 9 5) ?_
      refine tk 9 (some 16) (tf 10 4) (take_ofW HT_.out HW_.out (by kernel_rfl)) hHeld ?_
      refine tk 10 (some 17) (tf 11 3) (take_ofW HT_.out HW_.out (by kernel_rfl)) hHeld ?_
      refine one_ (i := 11) (N := some 18) (tf 12 2) rfl rfl (one_of HT_.out (by kernel_rfl)) (by decide) (fun K hK => ?_)
      refine goes_ Try.func72 (by kernel_rfl) rfl #[.agg #[.int .i64 ((rd_T45 l0 x6_1).f0.f0), .int .i64 ((rd_T45 l0 x6_1).f0.f1)], .agg #[.int .i64 a1_0, .int .i64 a1_1]] (by rfl) rfl rfl MT ?_
      with_reducible refine (spec_l3Cmp.calls ((rd_T45 l0 x6_1).f0.f0) ((rd_T45 l0 x6_1).f0.f1) a1_0 a1_1 t103 _ A6.out).mono ?_
      rintro e w11 ⟨rfl, hb⟩
      refine ⟨_, rfl, ?_⟩
      replace BK101 := am (BB BK101 hb)
      replace HB := am (below_step (K1 HB GE101.out) hb)
      (try clear hb)
      (try clear hb2)
      (try clear hk)
      (try clear hi)
      refine hK.out _ _ ⟨z0 _ BK101.out, z1 _ BK101.out, (CY HB.out hw102_0), (CY HB.out hw102_1), (CY HB.out hw102_2)⟩ (fun hHeld => ?_)
      clear hK K
      refine norm_ (a' := ?_) ?_ ?_
      rotate_left
      ·show Act.put _ (some 18) _ = _
       simp only [Act.put, List.setIfInBounds_toArray, List.set_cons_zero, List.set_cons_succ, i64_w, i32_w]
       rfl
      refine pv HT_ 12 19 (tf 13 1) ?_
      refine pv HT_ 13 20 (tf 14 0) ?_
      refine done_ (done_of HT_.out (by kernel_rfl)) ?_
      try go_wp2
      replace BK101 := am (blk_drew BK101.out)
      replace HB := am (below_drew1 HB.out)
      have p104 : 0 ≤ (x6_1 : Int) := OD
      have q104 : x6_1 < (l0.length : Int) := OD
      obtain ⟨ad104, e104, hx104_0, hx104_1, hx104_2⟩ := at_T45 HR0.out x6_1 p104 q104
      have hw104_2 := hx104_2
      have hw104_1 := hx104_1
      have hw104_0 := hx104_0
      obtain rfl : ad102 = ad104 := (by injection e104)
      replace hx104_0 := CX HB.out hx104_0
      replace hx104_1 := CX HB.out hx104_1
      replace hx104_2 := CX HB.out hx104_2
      replace p104 := eq_true p104
      replace q104 := eq_true q104
      refine start_ (n := 16) (S := fun w' => ce2 w' gb101 (.int .i64 a1_0) (.int .i64 a1_1) (w'.cell? (ad102.add ((x6_1).toNat * 3)) = some (.int .i64 ((rd_T45 l0 x6_1).f0.f0)) ∧ w'.cell? ⟨(ad102.add ((x6_1).toNat * 3)).block, (ad102.add ((x6_1).toNat * 3)).off + 1, none⟩ = some (.int .i64 ((rd_T45 l0 x6_1).f0.f1)) ∧ w'.cell? ⟨(ad102.add ((x6_1).toNat * 3)).block, (ad102.add ((x6_1).toNat * 3)).off + 2, none⟩ = some (.int .i64 ((rd_T45 l0 x6_1).f1)))) (ds := []) (tf 0 16) (by kernel_rfl) rfl rfl ⟨z0 _ BK101.out, z1 _ BK101.out, (CY HB.out hw104_0), (CY HB.out hw104_1), (CY HB.out hw104_2)⟩ (fun hHeld => ?_); refine with_tabW spec_l3At.tab4 spec_l3At.bits4 (fun HT_ HW_ => ?_)
      generalize w11.drew = w12 at BK101 HB hx104_0 hx104_1 hx104_2 hHeld ⊢
      refine pv HT_ 0 23 (tf 1 15) ?_
      refine pv HT_ 1 24 (tf 2 14) ?_
      refine pv HT_ 2 25 (tf 3 13) ?_
      refine pv HT_ 3 26 (tf 4 12) ?_
      refine pv HT_ 4 27 (tf 5 11) ?_
      refine pv HT_ 5 28 (tf 6 10) ?_
      refine pv HT_ 6 29 (tf 7 9) ?_
      refine pv HT_ 7 30 (tf 8 8) ?_
      refine pv HT_ 8 31 (tf 9 7) ?_
      refine pv HT_ 9 32 (tf 10 6) ?_
      refine pv HT_ 14 4 (tr [10, 4, 1, 1]) ?_
      refine tk 10 (some 33) (tr [11, 3, 1, 1]) (take_ofW HT_.out HW_.out (by kernel_rfl)) hHeld ?_
      refine tk 11 (some 34) (tr [12, 2, 1, 1]) (take_ofW HT_.out HW_.out (by kernel_rfl)) hHeld ?_
      refine pv HT_ 12 35 (tr [13, 1, 1, 1]) ?_
      refine pv HT_ 13 36 (tf 15 1) ?_
      refine pv HT_ 15 5 (tf 16 0) ?_
      refine done_ (done_of HT_.out (by kernel_rfl)) ?_
      try go_wp2
      go_ret2
      exact ⟨ER, K1 HB GE101.out⟩
    ·rw [if_neg c5] at H
     exact absurd H (by simp)
   ·rw [if_neg c4] at H
    have c4b0 : decide (x6_1 < (l0.length : Int)) = false := decide_eq_false c4
    clear c4
    simp only [Option.some.injEq, Prod.mk.injEq] at H
    obtain ⟨rfl, rfl⟩ := H
    try go_wp2
    replace BK101 := am (blk_drew BK101.out)
    replace HB := am (below_drew1 HB.out)
    refine start_ (n := 14) (S := fun w' => True) (ds := []) (tf 0 14) (by kernel_rfl) rfl rfl trivial (fun hHeld => ?_); refine with_tabW spec_l3At.tab2 spec_l3At.bits2 (fun HT_ HW_ => ?_)
    generalize wr.drew = w13 at BK101 HB hHeld ⊢
    refine pv HT_ 0 7 (tf 1 13) ?_
    refine pv HT_ 1 8 (tf 2 12) ?_
    refine pv HT_ 2 9 (tf 3 11) ?_
    refine pv HT_ 3 10 (tf 4 10) ?_
    refine pv HT_ 4 11 (tf 5 9) ?_
    refine pw HT_ 5 12 (tf 6 8) ?_
    refine pw HT_ 6 13 (tf 7 7) ?_
    refine pw HT_ 7 14 (tf 8 6) ?_
    refine pw HT_ 8 15 (tf 9 5) ?_
    refine pw HT_ 9 16 (tf 10 4) ?_
    refine pw HT_ 10 17 (tf 11 3) ?_
    refine pw HT_ 11 18 (tf 12 2) ?_
    refine pw HT_ 12 19 (tf 13 1) ?_
    refine pv HT_ 13 20 (tf 14 0) ?_
    refine done_ (done_of HT_.out (by kernel_rfl)) ?_
    try go_wp2
    replace BK101 := am (blk_drew BK101.out)
    replace HB := am (below_drew1 HB.out)
    refine start_ (n := 16) (S := fun w' => True) (ds := []) (tf 0 16) (by kernel_rfl) rfl rfl trivial (fun hHeld => ?_); refine with_tabW spec_l3At.tab4 spec_l3At.bits4 (fun HT_ HW_ => ?_)
    generalize w13.drew = w14 at BK101 HB hHeld ⊢
    refine pv HT_ 0 23 (tf 1 15) ?_
    refine pv HT_ 1 24 (tf 2 14) ?_
    refine pv HT_ 2 25 (tf 3 13) ?_
    refine pv HT_ 3 26 (tf 4 12) ?_
    refine pv HT_ 4 27 (tf 5 11) ?_
    refine pv HT_ 5 28 (tf 6 10) ?_
    refine pw HT_ 6 29 (tf 7 9) ?_
    refine pw HT_ 7 30 (tf 8 8) ?_
    refine pw HT_ 8 31 (tf 9 7) ?_
    refine pw HT_ 9 32 (tf 10 6) ?_
    refine pw HT_ 10 33 (tf 11 5) ?_
    refine pw HT_ 11 34 (tf 12 4) ?_
    refine pw HT_ 12 35 (tf 13 3) ?_
    refine pv HT_ 13 36 (tf 14 2) ?_
    refine pv HT_ 14 4 (tf 15 1) ?_
    refine pv HT_ 15 5 (tf 16 0) ?_
    refine done_ (done_of HT_.out (by kernel_rfl)) ?_
    try go_wp2
    go_ret2
    exact ⟨ER, K1 HB GE101.out⟩
end Go.Proofs.Ytkgbgaojglcaoaa.PAll
end
section
namespace Go.Proofs.Ytkgbgaojglcaoaa.PAll
open Go.RowKit Go.Proofs.YtkgbgaojglcaoaaW.PrintWords Go.Proofs.YtkgbgaojglcaoaaW.PrintLast Go.Proofs.YtkgbgaojglcaoaaW.PrintMore
attribute [local go_sem] max2_int min2_int max_two min_two max_three min_three max_four min_four   -- for this text's walks alone
set_option linter.unusedVariables false
set_option linter.unusedSimpArgs false
def spec_WaysPut.j0 : Nat → List (S45) → List (S45) → Bool → Int → Int → Int → Option ((List (S45)) × Bool)
 | 0, _, _, _, _, _, _ => none
 | k + 1, x0, x6, x24, x102000, x102001, x102002 => if x24 = true then (some (x6, false)) else ((spec_l3At.f k x0 x102000 x102001).bind fun bt111 => (if bt111.2 = true then (if 0 ≤ bt111.1 then (if bt111.1 < (x6.length : Int) then (some ((x6.set (bt111.1 : Int).toNat (⟨(⟨x102000, x102001⟩ : S43), x102002⟩ : S45)), true)) else (none)) else (none)) else (if (x0.length : Int) ≥ 40 then (some (x6, false)) else ((some (([] : List (S45)) : List (S45))).bind fun y114 => (if 0 ≤ bt111.1 then (if bt111.1 ≤ (x0.length : Int) then ((some (x0.take (bt111.1 : Int).toNat : List (S45))).bind fun y117 => (if y114.length + y117.length < 5864062014805 then ((some (y114 ++ y117 : List (S45))).bind fun y121 => ((some (([(⟨(⟨x102000, x102001⟩ : S43), x102002⟩ : S45)] : List (S45)) : List (S45))).bind fun y124 => (if y121.length + y124.length < 5864062014805 then ((some (y121 ++ y124 : List (S45))).bind fun y127 => ((some (x0.drop (bt111.1 : Int).toNat : List (S45))).bind fun y130 => (if y127.length + y130.length < 5864062014805 then (some ((y127 ++ y130), true)) else (none)))) else (none)))) else (none))) else (none)) else (none))))))
def spec_WaysPut.f (k : Nat) (l0 : List (S45)) (a1_0 : Int) (a1_1 : Int) (a1_2 : Int) : Option ((List (S45)) × Bool) := (spec_WaysOk.f k l0).bind fun t102 => (if t102 = true then ((spec_l3Copy.f l0).bind fun t106 => ((spec_BlockOk.f k a1_0 a1_1).bind fun t109 => (if t109 = true then ((spec_l1In.f a1_2 0 99).bind fun t110 => (spec_WaysPut.j0 k l0 t106 (!t110) a1_0 a1_1 a1_2)) else (spec_WaysPut.j0 k l0 t106 true a1_0 a1_1 a1_2)))) else (some ((([] : List (S45))), false)))
def spec_WaysPut.T12 : Bool × List (List Nat × List Nat) := (true, [([], []), ([], []), ([], []), ([1, 2], [1, 2]), ([0, 3], [0, 3]), ([], []), ([5], [5]), ([4, 6, 4], [4, 6]), ([], []), ([], []), ([8, 9], [8, 9]), ([7, 10, 7], [7, 10]), ([11, 11, 0, 1, 2, 3, 4, 5, 6, 7, 8, 9, 10, 11], [11]), ([12, 0, 1, 2, 3, 4, 5, 6, 7, 8, 9, 10, 11, 12], [])])
def spec_WaysPut.B12 : List Nat := [0, 0, 0, 6, 15, 0, 32, 127, 0, 0, 768, 2047, 4095, 8191]
theorem spec_WaysPut.tab12 : rtab .any (opsOf Try.f139 12) = spec_WaysPut.T12 := by kernel_rfl
theorem spec_WaysPut.bits12 : waitsOk spec_WaysPut.T12.2 spec_WaysPut.B12 = true := by kernel_rfl
set_option maxHeartbeats 8000000 in
set_option maxRecDepth 100000 in
theorem spec_WaysPut.calls (k : Nat) (A0 : Option Addr) (c0 : Nat) (l0 : List (S45)) (a1_0 : Int) (a1_1 : Int) (a1_2 : Int) (r1 : List (S45)) (r2 : Bool) (w : World) (hr0 : Kd.C k45 w A0 l0.length l0) (hc0 : l0.length ≤ c0) (h : spec_WaysPut.f k l0 a1_0 a1_1 a1_2 = some (r1, r2)) :
  Calls Try.prog 139 #[.slice A0 l0.length c0, .agg #[.int .i64 a1_0, .int .i64 a1_1, .int .i64 a1_2]] w fun e w' => ∃ v0_ : Value, e = .returned (.tuple #[v0_, .bool r2]) ∧ Kd.R k45 45 w' w.heap.size (fun _ => True) v0_ r1 ∧ Below w.heap.size w w' := by
 have hu45 := Try.underlying45
 have hu43 := Try.underlying43
 have HR0 := Aside0.mk hr0
 have HC0 := Aside0.mk hc0
 clear hr0 hc0
 have HB := am (Below.refl w.heap.size w)
 have H : ((spec_WaysOk.f k l0).bind fun t102 => (if t102 = true then ((spec_l3Copy.f l0).bind fun t106 => ((spec_BlockOk.f k a1_0 a1_1).bind fun t109 => (if t109 = true then ((spec_l1In.f a1_2 0 99).bind fun t110 => (spec_WaysPut.j0 k l0 t106 (!t110) a1_0 a1_1 a1_2)) else (spec_WaysPut.j0 k l0 t106 true a1_0 a1_1 a1_2)))) else (some ((([] : List (S45))), false)))) = some (r1, r2) := h
 clear h
 replace H := Option.bind_eq_some_iff.mp H
 obtain ⟨t102, A30, H⟩ := H
 replace H : (if t102 = true then ((spec_l3Copy.f l0).bind fun t106 => ((spec_BlockOk.f k a1_0 a1_1).bind fun t109 => (if t109 = true then ((spec_l1In.f a1_2 0 99).bind fun t110 => (spec_WaysPut.j0 k l0 t106 (!t110) a1_0 a1_1 a1_2)) else (spec_WaysPut.j0 k l0 t106 true a1_0 a1_1 a1_2)))) else (some ((([] : List (S45))), false))) = some (r1, r2) := H
 have A3 := Aside0.mk A30
 clear A30
 by_cases c4 : t102 = true
 ·subst c4
  have H1 : ((spec_l3Copy.f l0).bind fun t106 => ((spec_BlockOk.f k a1_0 a1_1).bind fun t109 => (if t109 = true then ((spec_l1In.f a1_2 0 99).bind fun t110 => (spec_WaysPut.j0 k l0 t106 (!t110) a1_0 a1_1 a1_2)) else (spec_WaysPut.j0 k l0 t106 true a1_0 a1_1 a1_2)))) = some (r1, r2) := by rw [if_pos rfl] at H; exact H
  clear H
  have H := H1
  clear H1
  replace H := Option.bind_eq_some_iff.mp H
  obtain ⟨t106, A50, H⟩ := H
  replace H : ((spec_BlockOk.f k a1_0 a1_1).bind fun t109 => (if t109 = true then ((spec_l1In.f a1_2 0 99).bind fun t110 => (spec_WaysPut.j0 k l0 t106 (!t110) a1_0 a1_1 a1_2)) else (spec_WaysPut.j0 k l0 t106 true a1_0 a1_1 a1_2))) = some (r1, r2) := H
  have A5 := Aside0.mk A50
  clear A50
  have HC6 := Aside0.mk H
  clear H
  go_enter Try.func139, Try.ntmps139
  go_upto_region 4 with (first | ((with_reducible refine gate_dst (N := 3) rfl ?_); refine box_event rfl (N := 3) rfl (cs := #[.int .i64 a1_0, .int .i64 a1_1, .int .i64 a1_2]) (t := 45) BX ?_; intro gb101 hg w7 hbox hb; have BK101 := am (hbox); have GW101 := am (GH HB hg); have GE101 := GW101; replace HB := am (below_step (KL HB) hb); clear hb hbox hg) | ((with_reducible refine gate_callee (f := 20) rfl ?_); refine goesL_ (some 10) rfl rfl Try.func20 (by kernel_rfl) rfl #[.slice A0 l0.length c0] rfl MT ?_; (with_reducible refine (spec_WaysOk.calls k _ _ l0 true _ ?side1 ?side2 A3.out).mono ?_); (case side1 => exact KD HR0 HB); (case side2 => exact HC0.out); rintro e w8 ⟨rfl, hb⟩; refine ⟨_, rfl, ?_⟩; replace BK101 := am (BB BK101 hb); replace HB := am (below_step (K1 HB GE101.out) hb); (try clear hb)) | ((with_reducible refine gate_callee (f := 155) rfl ?_); refine goesL_ (some 14) rfl rfl Try.func155 (by kernel_rfl) rfl #[.slice A0 l0.length c0] rfl MT ?_; (with_reducible refine (spec_l3Copy.calls _ _ l0 t106 _ ?side1 ?side2 A5.out).mono ?_); (case side1 => exact KD HR0 HB); (case side2 => exact HC0.out); rintro e w9 ⟨v107, rfl, ho0, hb⟩; refine ⟨_, rfl, ?_⟩; have HO108 := am (Kd.R_lower (Kd.R_newB ho0 (g := gb101) (o := .cells #[.int .i64 a1_0, .int .i64 a1_1, .int .i64 a1_2] 45 (0, 0)) (KB BK101)) (below_size (K1 HB GE101.out))); replace BK101 := am (BB BK101 hb); replace HB := am (below_step (K1 HB GE101.out) hb); (try clear hb); (try clear ho0)))
  (try simp only [Act.put, List.setIfInBounds_toArray, List.set_cons_zero, List.set_cons_succ])
  go_cut [24] (fun v24 wc => ∃ (kq : Nat) (x24_5 : Bool), v24 = .bool x24_5 ∧ Aside0 (spec_WaysPut.j0 kq l0 t106 x24_5 a1_0 a1_1 a1_2 = some (r1, r2)) ∧ Aside0 (kq ≤ k) ∧ Aside0 (Kd.R k45 45 wc w.heap.size (fun k_ => k_ ≠ gb101) v107 t106) ∧ Aside0 (wc.heap[gb101]? = some (.cells #[.int .i64 a1_0, .int .i64 a1_1, .int .i64 a1_2] 45 (0, 0))) ∧ Aside0 (Below w.heap.size w wc))
  case first =>
   have H := HC6.out
   clear HC6
   replace H := Option.bind_eq_some_iff.mp H
   obtain ⟨t109, A100, H⟩ := H
   replace H : (if t109 = true then ((spec_l1In.f a1_2 0 99).bind fun t110 => (spec_WaysPut.j0 k l0 t106 (!t110) a1_0 a1_1 a1_2)) else (spec_WaysPut.j0 k l0 t106 true a1_0 a1_1 a1_2)) = some (r1, r2) := H
   have A10 := Aside0.mk A100
   clear A100
   by_cases c11 : t109 = true
   ·subst c11
    have H1 : ((spec_l1In.f a1_2 0 99).bind fun t110 => (spec_WaysPut.j0 k l0 t106 (!t110) a1_0 a1_1 a1_2)) = some (r1, r2) := by rw [if_pos rfl] at H; exact H
    clear H
    have H := H1
    clear H1
    replace H := Option.bind_eq_some_iff.mp H
    obtain ⟨t110, A120, H⟩ := H
    replace H : (spec_WaysPut.j0 k l0 t106 (!t110) a1_0 a1_1 a1_2) = some (r1, r2) := H
    have A12 := Aside0.mk A120
    clear A120
    have H' := Aside0.mk H
    clear H
    obtain ⟨hcz13_0, hcz13_1, hcz13_2, hfz13_0⟩ := y3 w9 BK101.out
    go_wp2_with (first | ((with_reducible refine gate_callee (f := 70) rfl ?_); refine goesL_ (some 17) rfl rfl Try.func70 (by kernel_rfl) rfl #[.agg #[.int .i64 a1_0, .int .i64 a1_1]] rfl MT ?_; (with_reducible refine (spec_BlockOk.calls k a1_0 a1_1 true _ A10.out).mono ?_); rintro e w14 ⟨rfl, hb⟩; refine ⟨_, rfl, ?_⟩; replace HO108 := am (Kd.R_below (KR HO108) hb); replace BK101 := am (BB BK101 hb); replace HB := am (below_step (K1 HB GE101.out) hb); (try clear hb); obtain ⟨hcz15_0, hcz15_1, hcz15_2, hfz15_0⟩ := y3 w14 BK101.out) | (go_at_call 71; (with_reducible refine (spec_l1In.calls a1_2 0 99 t110 _ A12.out).mono ?_); rintro e w' ⟨rfl, ⟨nd, rfl⟩⟩))
    go_meet
    case rel => exact ⟨_, (!t110), (by first | rfl | (simp; done) | (simp [*]; done)), H', ⟨by first | omega | exact Nat.le_refl _⟩, ⟨by (with_reducible repeat (first | apply Kd.R_alloc | apply Kd.R_drewN | apply Kd.R_drew)); exact Kd.R_mono HO108.out (fun _ hk => hk.2)⟩, ⟨KB BK101⟩, ⟨K1 HB GE101.out⟩⟩
   ·replace c11 := Bool.eq_false_iff.mpr c11
    subst c11
    have H1 : (spec_WaysPut.j0 k l0 t106 true a1_0 a1_1 a1_2) = some (r1, r2) := by rw [if_neg (show ¬ (false = true) by decide)] at H; exact H
    clear H
    have H := H1
    clear H1
    have H' := Aside0.mk H
    clear H
    obtain ⟨hcz16_0, hcz16_1, hcz16_2, hfz16_0⟩ := y3 w9 BK101.out
    go_wp2_with (first | ((with_reducible refine gate_callee (f := 70) rfl ?_); refine goesL_ (some 17) rfl rfl Try.func70 (by kernel_rfl) rfl #[.agg #[.int .i64 a1_0, .int .i64 a1_1]] rfl MT ?_; (with_reducible refine (spec_BlockOk.calls k a1_0 a1_1 false _ A10.out).mono ?_); rintro e w17 ⟨rfl, hb⟩; refine ⟨_, rfl, ?_⟩; replace HO108 := am (Kd.R_below (KR HO108) hb); replace BK101 := am (BB BK101 hb); replace HB := am (below_step (K1 HB GE101.out) hb); (try clear hb)))
    go_meet
    case rel => exact ⟨_, (true), (by first | rfl | (simp; done) | (simp [*]; done)), H', ⟨by first | omega | exact Nat.le_refl _⟩, ⟨by (with_reducible repeat (first | apply Kd.R_alloc | apply Kd.R_drewN | apply Kd.R_drew)); exact Kd.R_mono HO108.out (fun _ hk => hk.2)⟩, ⟨KB BK101⟩, ⟨K1 HB GE101.out⟩⟩
  case rest =>
   clear HC6
   try clear c1
   try clear c2
   try clear p2
   try clear c4
   try clear c7
   try clear c11
   try clear c13
   try clear c15
   try clear hcz13_0 hcz13_1 hcz13_2 hfz13_0
   try clear hcz15_0 hcz15_1 hcz15_2 hfz15_0
   try clear hcz16_0 hcz16_1 hcz16_2 hfz16_0
   obtain ⟨kq, x24_5, rfl, HA, HJ5, HO_6, BK101, HB⟩ := hcut
   cases kq with
   | zero => exact absurd HA.out (by simp [spec_WaysPut.j0])
   | succ kj5 =>
    have H := HA.out
    clear HA
    simp only [spec_WaysPut.j0] at H
    by_cases c18 : x24_5 = true
    ·subst c18
     have H1 : (some (t106, false)) = some (r1, r2) := by rw [if_pos rfl] at H; exact H
     clear H
     have H := H1
     clear H1
     simp only [Option.some.injEq, Prod.mk.injEq] at H
     obtain ⟨rfl, rfl⟩ := H
     go_wp2
     go_ret2
     exact ⟨_, ER, by (with_reducible repeat (first | apply Kd.R_alloc | apply Kd.R_drewN | apply Kd.R_drew)); exact Kd.R_mono HO_6.out (fun _ hk => trivial), K1 HB GE101.out⟩
    ·replace c18 := Bool.eq_false_iff.mpr c18
     subst c18
     have H1 : ((spec_l3At.f kj5 l0 a1_0 a1_1).bind fun bt111 => (if bt111.2 = true then (if 0 ≤ bt111.1 then (if bt111.1 < (t106.length : Int) then (some ((t106.set (bt111.1 : Int).toNat (⟨(⟨a1_0, a1_1⟩ : S43), a1_2⟩ : S45)), true)) else (none)) else (none)) else (if (l0.length : Int) ≥ 40 then (some (t106, false)) else ((some (([] : List (S45)) : List (S45))).bind fun y114 => (if 0 ≤ bt111.1 then (if bt111.1 ≤ (l0.length : Int) then ((some (l0.take (bt111.1 : Int).toNat : List (S45))).bind fun y117 => (if y114.length + y117.length < 5864062014805 then ((some (y114 ++ y117 : List (S45))).bind fun y121 => ((some (([(⟨(⟨a1_0, a1_1⟩ : S43), a1_2⟩ : S45)] : List (S45)) : List (S45))).bind fun y124 => (if y121.length + y124.length < 5864062014805 then ((some (y121 ++ y124 : List (S45))).bind fun y127 => ((some (l0.drop (bt111.1 : Int).toNat : List (S45))).bind fun y130 => (if y127.length + y130.length < 5864062014805 then (some ((y127 ++ y130), true)) else (none)))) else (none)))) else (none))) else (none)) else (none)))))) = some (r1, r2) := by rw [if_neg (show ¬ (false = true) by decide)] at H; exact H
     clear H
     have H := H1
     clear H1
     replace H := Option.bind_eq_some_iff.mp H
     obtain ⟨⟨t111, t112⟩, A190, H⟩ := H
     replace H : (if t112 = true then (if 0 ≤ t111 then (if t111 < (t106.length : Int) then (some ((t106.set (t111 : Int).toNat (⟨(⟨a1_0, a1_1⟩ : S43), a1_2⟩ : S45)), true)) else (none)) else (none)) else (if (l0.length : Int) ≥ 40 then (some (t106, false)) else ((some (([] : List (S45)) : List (S45))).bind fun y114 => (if 0 ≤ t111 then (if t111 ≤ (l0.length : Int) then ((some (l0.take (t111 : Int).toNat : List (S45))).bind fun y117 => (if y114.length + y117.length < 5864062014805 then ((some (y114 ++ y117 : List (S45))).bind fun y121 => ((some (([(⟨(⟨a1_0, a1_1⟩ : S43), a1_2⟩ : S45)] : List (S45)) : List (S45))).bind fun y124 => (if y121.length + y124.length < 5864062014805 then ((some (y121 ++ y124 : List (S45))).bind fun y127 => ((some (l0.drop (t111 : Int).toNat : List (S45))).bind fun y130 => (if y127.length + y130.length < 5864062014805 then (some ((y127 ++ y130), true)) else (none)))) else (none)))) else (none))) else (none)) else (none))))) = some (r1, r2) := H
     have A19 := Aside0.mk A190
     clear A190
     by_cases c20 : t112 = true
     ·subst c20
      have H1 : (if 0 ≤ t111 then (if t111 < (t106.length : Int) then (some ((t106.set (t111 : Int).toNat (⟨(⟨a1_0, a1_1⟩ : S43), a1_2⟩ : S45)), true)) else (none)) else (none)) = some (r1, r2) := by rw [if_pos rfl] at H; exact H
      clear H
      have H := H1
      clear H1
      by_cases c21 : 0 ≤ t111
      ·rw [if_pos c21] at H
       have c21b0 : decide (0 ≤ t111) = true := decide_eq_true c21
       clear c21
       by_cases c22 : t111 < (t106.length : Int)
       ·rw [if_pos c22] at H
        have c22b0 : decide (t111 < (t106.length : Int)) = true := decide_eq_true c22
        clear c22
        obtain ⟨y113, hy113⟩ : ∃ y_ : List (S45), y_ = (t106.set (t111 : Int).toNat (⟨(⟨a1_0, a1_1⟩ : S43), a1_2⟩ : S45)) := ⟨_, rfl⟩
        replace H : (some (y113, true)) = some (r1, r2) := by first | (rw [hy113]; with_reducible exact H) | (have H2_ := (Option.bind_some _ _).symm.trans H; rw [hy113]; with_reducible exact H2_) | (have H2_ := (Option.bind_some _ _).symm.trans H; with_reducible exact H2_) | with_reducible exact H | (rw [hy113]; exact H) | exact H
        have Ny113 := Aside0.mk hy113
        clear hy113
        simp only [Option.some.injEq, Prod.mk.injEq] at H
        obtain ⟨rfl, rfl⟩ := H
        obtain ⟨hcz24_0, hcz24_1, hcz24_2, hfz24_0⟩ := y3 wc BK101.out
        go_wp2_with (first | ((with_reducible refine gate_callee (f := 156) rfl ?_); refine goesL_ (some 30) rfl rfl Try.func156 (by kernel_rfl) rfl #[.slice A0 l0.length c0, .agg #[.int .i64 a1_0, .int .i64 a1_1]] rfl MT ?_; (with_reducible refine (spec_l3At.calls kj5 _ _ l0 a1_0 a1_1 t111 true _ ?side1 ?side2 A19.out).mono ?_); (case side1 => exact KD HR0 HB); (case side2 => exact HC0.out); rintro e w25 ⟨rfl, hb⟩; refine ⟨_, rfl, ?_⟩; replace HO_6 := am (Kd.R_below (KR HO_6) hb); replace BK101 := am (BB BK101 hb); replace HB := am (below_step (K1 HB GE101.out) hb); (try clear hb); obtain ⟨hcz26_0, hcz26_1, hcz26_2, hfz26_0⟩ := y3 w25 BK101.out; have p23 : 0 ≤ (t111 : Int) := OD; have q23 : (t111 : Int) < ((t106.length : Int) : Int) := OD; obtain ⟨go23, co23, eo23, gb23, gl23, cl23, HG23⟩ := Kd.R_form HO_6.out (by omega); (first | cases eo23 | (injection eo23 with ea_ en_ ec_; (first | subst ea_ | (injection ea_ with ea_; subst ea_)); subst ec_; clear en_)); have GB23 := Aside0.mk gb23; have GG23 := Aside0.mk HG23; clear gb23 gl23 HG23; obtain ⟨ce23, hcl23, hM23, hcc23, hfr23⟩ := Kd.R_elem HO_6.out z45 (t111 : Int) p23 q23; obtain rfl := k45_openM hM23; have hx23_0 : w25.cell? ⟨go23, (t111 : Int).toNat * 3, none⟩ = some (.int .i64 ((rd_T45 t106 t111).f0.f0)) := hcc23 0 _ rfl; have hx23_1 : w25.cell? ⟨go23, (t111 : Int).toNat * 3 + 1, none⟩ = some (.int .i64 ((rd_T45 t106 t111).f0.f1)) := hcc23 1 _ rfl; have hx23_2 : w25.cell? ⟨go23, (t111 : Int).toNat * 3 + 2, none⟩ = some (.int .i64 ((rd_T45 t106 t111).f1)) := hcc23 2 _ rfl; have hf23_0 : w25.frozen? ⟨go23, (t111 : Int).toNat * 3, none⟩ = false := hfr23 0; have hf23_1 : w25.frozen? ⟨go23, (t111 : Int).toNat * 3 + 1, none⟩ = false := hfr23 1; have hf23_2 : w25.frozen? ⟨go23, (t111 : Int).toNat * 3 + 2, none⟩ = false := hfr23 2; clear hcl23 hcc23 hfr23 hM23; replace p23 := eq_true p23; replace q23 := eq_true q23; have HX27 := am (show Kd.R k45 45 w25 w.heap.size (fun k_ => k_ ≠ gb101) (.slice (some ⟨go23, 0, none⟩) t106.length co23) t106 from (KR HO_6)); obtain ⟨ce27, hcl27, hM27, hcc27, hfr27⟩ := Kd.R_elem HX27.out z45 (t111 : Int) (OD) (by have h_ : (t111 : Int) < ((t106.length : Int) : Int) := OD; first | exact h_ | (have e_ := (Kd.R_reads' HO_6.out).1; omega) | simpa using h_); obtain rfl := k45_openM hM27; have HP27 := Kd.R_seg HX27.out (t111 : Int) (OD) (by have h_ : (t111 : Int) < ((t106.length : Int) : Int) := OD; first | exact h_ | (have e_ := (Kd.R_reads' HO_6.out).1; omega) | simpa using h_) (seg := [.int .i64 a1_0, .int .i64 a1_1, .int .i64 a1_2]) (j := 0) hcl27 hcc27 (show 3 ≤ 3 from by decide) (x' := (⟨(⟨a1_0, a1_1⟩ : S43), a1_2⟩ : S45)) (k45_mkM _ _ _ (⟨(⟨a1_0, a1_1⟩ : S43), a1_2⟩ : S45) ) (fun _ hk => hk); have hx27_0 := hcc27 0 _ rfl; (try simp only [show (k45).sz = 3 from rfl, Nat.mul_one, Nat.add_zero] at hx27_0); have hf27_0 := hfr27 0; (try simp only [show (k45).sz = 3 from rfl, Nat.mul_one, Nat.add_zero] at hf27_0); have hx27_1 := hcc27 1 _ rfl; (try simp only [show (k45).sz = 3 from rfl, Nat.mul_one, Nat.add_zero] at hx27_1); have hf27_1 := hfr27 1; (try simp only [show (k45).sz = 3 from rfl, Nat.mul_one, Nat.add_zero] at hf27_1); have hx27_2 := hcc27 2 _ rfl; (try simp only [show (k45).sz = 3 from rfl, Nat.mul_one, Nat.add_zero] at hx27_2); have hf27_2 := hfr27 2; (try simp only [show (k45).sz = 3 from rfl, Nat.mul_one, Nat.add_zero] at hf27_2); clear hcl27 hcc27 hfr27 hM27) | ((with_reducible refine gate_store (t := 45) (p := 37) rfl ?_); refine store_event (t := 45) (p := 37) (v := ?vo_w28) (w1 := (((w25.setCell ⟨go23, (t111 : Int).toNat * 3, none⟩ (.int .i64 a1_0)).setCell ⟨go23, (t111 : Int).toNat * 3 + 1, none⟩ (.int .i64 a1_1)).setCell ⟨go23, (t111 : Int).toNat * 3 + 2, none⟩ (.int .i64 a1_2))) ?hg ?ho ?hn ?hr ?_; (case ho => rfl); (case hg => rfl); (case hn => rfl); (case hr => first | (go_simp; done) | (go_simp; rfl)); intro w28 hw; have hg : w25.grownBy w28 (some go23) := (by rw [hw]; exact HP27.2); have hp_ : Kd.R k45 45 w28 w.heap.size (fun k_ => k_ ≠ gb101) (.slice (some ⟨go23, 0, none⟩) t106.length co23) y113 := (by rw [hw, Ny113.out]; exact HP27.1); clear HP27; replace BK101 := am (blk_grown (g := gb101) (o := .cells #[.int .i64 a1_0, .int .i64 a1_1, .int .i64 a1_2] 45 (0, 0)) (KB BK101) hg (Kd.R_away HO_6.out (fun _ hk => hk))); replace HO_6 := am (hp_); replace HB := am ((by rw [hw]; exact below_set (below_set (below_set (HB.out) GB23.out) GB23.out) GB23.out : Below w.heap.size w w28)); clear hg hw hp_))
        go_ret2
        exact ⟨_, ER, by (with_reducible repeat (first | apply Kd.R_alloc | apply Kd.R_drewN | apply Kd.R_drew)); exact Kd.R_mono HO_6.out (fun _ hk => trivial), K1 HB GE101.out⟩
       ·rw [if_neg c22] at H
        exact absurd H (by simp)
      ·rw [if_neg c21] at H
       exact absurd H (by simp)
     ·replace c20 := Bool.eq_false_iff.mpr c20
      subst c20
      have H1 : (if (l0.length : Int) ≥ 40 then (some (t106, false)) else ((some (([] : List (S45)) : List (S45))).bind fun y114 => (if 0 ≤ t111 then (if t111 ≤ (l0.length : Int) then ((some (l0.take (t111 : Int).toNat : List (S45))).bind fun y117 => (if y114.length + y117.length < 5864062014805 then ((some (y114 ++ y117 : List (S45))).bind fun y121 => ((some (([(⟨(⟨a1_0, a1_1⟩ : S43), a1_2⟩ : S45)] : List (S45)) : List (S45))).bind fun y124 => (if y121.length + y124.length < 5864062014805 then ((some (y121 ++ y124 : List (S45))).bind fun y127 => ((some (l0.drop (t111 : Int).toNat : List (S45))).bind fun y130 => (if y127.length + y130.length < 5864062014805 then (some ((y127 ++ y130), true)) else (none)))) else (none)))) else (none))) else (none)) else (none)))) = some (r1, r2) := by rw [if_neg (show ¬ (false = true) by decide)] at H; exact H
      clear H
      have H := H1
      clear H1
      by_cases c29 : (l0.length : Int) ≥ 40
      ·rw [if_pos c29] at H
       have c29b0 : decide (40 ≤ (l0.length : Int)) = true := decide_eq_true c29
       have c29b1 : decide (40 ≤ l0.length) = true := decide_eq_true (by omega)
       clear c29
       simp only [Option.some.injEq, Prod.mk.injEq] at H
       obtain ⟨rfl, rfl⟩ := H
       obtain ⟨hcz30_0, hcz30_1, hcz30_2, hfz30_0⟩ := y3 wc BK101.out
       go_wp2_with (first | ((with_reducible refine gate_callee (f := 156) rfl ?_); refine goesL_ (some 30) rfl rfl Try.func156 (by kernel_rfl) rfl #[.slice A0 l0.length c0, .agg #[.int .i64 a1_0, .int .i64 a1_1]] rfl MT ?_; (with_reducible refine (spec_l3At.calls kj5 _ _ l0 a1_0 a1_1 t111 false _ ?side1 ?side2 A19.out).mono ?_); (case side1 => exact KD HR0 HB); (case side2 => exact HC0.out); rintro e w31 ⟨rfl, hb⟩; refine ⟨_, rfl, ?_⟩; replace HO_6 := am (Kd.R_below (KR HO_6) hb); replace BK101 := am (BB BK101 hb); replace HB := am (below_step (K1 HB GE101.out) hb); (try clear hb)))
       go_ret2
       exact ⟨_, ER, by (with_reducible repeat (first | apply Kd.R_alloc | apply Kd.R_drewN | apply Kd.R_drew)); exact Kd.R_mono HO_6.out (fun _ hk => trivial), K1 HB GE101.out⟩
      ·rw [if_neg c29] at H
       have c29b0 : decide (40 ≤ (l0.length : Int)) = false := decide_eq_false c29
       have c29b1 : decide (40 ≤ l0.length) = false := decide_eq_false (by omega)
       clear c29
       obtain ⟨y114, hy114⟩ : ∃ y_ : List (S45), y_ = (([] : List (S45))) := ⟨_, rfl⟩
       replace H : (if 0 ≤ t111 then (if t111 ≤ (l0.length : Int) then ((some (l0.take (t111 : Int).toNat : List (S45))).bind fun y117 => (if y114.length + y117.length < 5864062014805 then ((some (y114 ++ y117 : List (S45))).bind fun y121 => ((some (([(⟨(⟨a1_0, a1_1⟩ : S43), a1_2⟩ : S45)] : List (S45)) : List (S45))).bind fun y124 => (if y121.length + y124.length < 5864062014805 then ((some (y121 ++ y124 : List (S45))).bind fun y127 => ((some (l0.drop (t111 : Int).toNat : List (S45))).bind fun y130 => (if y127.length + y130.length < 5864062014805 then (some ((y127 ++ y130), true)) else (none)))) else (none)))) else (none))) else (none)) else (none)) = some (r1, r2) := by first | (rw [hy114]; with_reducible exact H) | (have H2_ := (Option.bind_some _ _).symm.trans H; rw [hy114]; with_reducible exact H2_) | (have H2_ := (Option.bind_some _ _).symm.trans H; with_reducible exact H2_) | with_reducible exact H | (rw [hy114]; exact H) | exact H
       have Ny114 := Aside0.mk hy114
       clear hy114
       by_cases c32 : 0 ≤ t111
       ·rw [if_pos c32] at H
        have c32b0 := eq_true c32
        have c32b1 : decide (0 ≤ t111) = true := decide_eq_true c32
        clear c32
        by_cases c33 : t111 ≤ (l0.length : Int)
        ·rw [if_pos c33] at H
         have c33b0 := eq_true c33
         have c33b1 : decide (t111 ≤ (l0.length : Int)) = true := decide_eq_true c33
         clear c33
         obtain ⟨y117, hy117⟩ : ∃ y_ : List (S45), y_ = (l0.take (t111 : Int).toNat) := ⟨_, rfl⟩
         replace H : (if y114.length + y117.length < 5864062014805 then ((some (y114 ++ y117 : List (S45))).bind fun y121 => ((some (([(⟨(⟨a1_0, a1_1⟩ : S43), a1_2⟩ : S45)] : List (S45)) : List (S45))).bind fun y124 => (if y121.length + y124.length < 5864062014805 then ((some (y121 ++ y124 : List (S45))).bind fun y127 => ((some (l0.drop (t111 : Int).toNat : List (S45))).bind fun y130 => (if y127.length + y130.length < 5864062014805 then (some ((y127 ++ y130), true)) else (none)))) else (none)))) else (none)) = some (r1, r2) := by first | (rw [hy117]; with_reducible exact H) | (have H2_ := (Option.bind_some _ _).symm.trans H; rw [hy117]; with_reducible exact H2_) | (have H2_ := (Option.bind_some _ _).symm.trans H; with_reducible exact H2_) | with_reducible exact H | (rw [hy117]; exact H) | exact H
         have Ny117 := Aside0.mk hy117
         clear hy117
         by_cases c34 : y114.length + y117.length < 5864062014805
         ·rw [if_pos c34] at H
          have LMc34 := Aside0.mk c34
          clear c34
          obtain ⟨y121, hy121⟩ : ∃ y_ : List (S45), y_ = (y114 ++ y117) := ⟨_, rfl⟩
          replace H : ((some (([(⟨(⟨a1_0, a1_1⟩ : S43), a1_2⟩ : S45)] : List (S45)) : List (S45))).bind fun y124 => (if y121.length + y124.length < 5864062014805 then ((some (y121 ++ y124 : List (S45))).bind fun y127 => ((some (l0.drop (t111 : Int).toNat : List (S45))).bind fun y130 => (if y127.length + y130.length < 5864062014805 then (some ((y127 ++ y130), true)) else (none)))) else (none))) = some (r1, r2) := by first | (rw [hy121]; with_reducible exact H) | (have H2_ := (Option.bind_some _ _).symm.trans H; rw [hy121]; with_reducible exact H2_) | (have H2_ := (Option.bind_some _ _).symm.trans H; with_reducible exact H2_) | with_reducible exact H | (rw [hy121]; exact H) | exact H
          have Ny121 := Aside0.mk hy121
          clear hy121
          obtain ⟨y124, hy124⟩ : ∃ y_ : List (S45), y_ = (([(⟨(⟨a1_0, a1_1⟩ : S43), a1_2⟩ : S45)] : List (S45))) := ⟨_, rfl⟩
          replace H : (if y121.length + y124.length < 5864062014805 then ((some (y121 ++ y124 : List (S45))).bind fun y127 => ((some (l0.drop (t111 : Int).toNat : List (S45))).bind fun y130 => (if y127.length + y130.length < 5864062014805 then (some ((y127 ++ y130), true)) else (none)))) else (none)) = some (r1, r2) := by first | (rw [hy124]; with_reducible exact H) | (have H2_ := (Option.bind_some _ _).symm.trans H; rw [hy124]; with_reducible exact H2_) | (have H2_ := (Option.bind_some _ _).symm.trans H; with_reducible exact H2_) | with_reducible exact H | (rw [hy124]; exact H) | exact H
          have Ny124 := Aside0.mk hy124
          clear hy124
          by_cases c35 : y121.length + y124.length < 5864062014805
          ·rw [if_pos c35] at H
           have LMc35 := Aside0.mk c35
           clear c35
           obtain ⟨y127, hy127⟩ : ∃ y_ : List (S45), y_ = (y121 ++ y124) := ⟨_, rfl⟩
           replace H : ((some (l0.drop (t111 : Int).toNat : List (S45))).bind fun y130 => (if y127.length + y130.length < 5864062014805 then (some ((y127 ++ y130), true)) else (none))) = some (r1, r2) := by first | (rw [hy127]; with_reducible exact H) | (have H2_ := (Option.bind_some _ _).symm.trans H; rw [hy127]; with_reducible exact H2_) | (have H2_ := (Option.bind_some _ _).symm.trans H; with_reducible exact H2_) | with_reducible exact H | (rw [hy127]; exact H) | exact H
           have Ny127 := Aside0.mk hy127
           clear hy127
           have c36b0 := eq_true (OD : 0 ≤ t111)
           have c37b0 := eq_true (OD : t111 ≤ (l0.length : Int))
           obtain ⟨y130, hy130⟩ : ∃ y_ : List (S45), y_ = (l0.drop (t111 : Int).toNat) := ⟨_, rfl⟩
           replace H : (if y127.length + y130.length < 5864062014805 then (some ((y127 ++ y130), true)) else (none)) = some (r1, r2) := by first | (rw [hy130]; with_reducible exact H) | (have H2_ := (Option.bind_some _ _).symm.trans H; rw [hy130]; with_reducible exact H2_) | (have H2_ := (Option.bind_some _ _).symm.trans H; with_reducible exact H2_) | with_reducible exact H | (rw [hy130]; exact H) | exact H
           have Ny130 := Aside0.mk hy130
           clear hy130
           by_cases c38 : y127.length + y130.length < 5864062014805
           ·rw [if_pos c38] at H
            have LMc38 := Aside0.mk c38
            clear c38
            obtain ⟨y134, hy134⟩ : ∃ y_ : List (S45), y_ = (y127 ++ y130) := ⟨_, rfl⟩
            replace H : (some (y134, true)) = some (r1, r2) := by first | (rw [hy134]; with_reducible exact H) | (have H2_ := (Option.bind_some _ _).symm.trans H; rw [hy134]; with_reducible exact H2_) | (have H2_ := (Option.bind_some _ _).symm.trans H; with_reducible exact H2_) | with_reducible exact H | (rw [hy134]; exact H) | exact H
            have Ny134 := Aside0.mk hy134
            clear hy134
            simp only [Option.some.injEq, Prod.mk.injEq] at H
            obtain ⟨rfl, rfl⟩ := H
            obtain ⟨hcz39_0, hcz39_1, hcz39_2, hfz39_0⟩ := y3 wc BK101.out
            try go_wp2_with (first | ((with_reducible refine gate_callee (f := 156) rfl ?_); refine goesL_ (some 30) rfl rfl Try.func156 (by kernel_rfl) rfl #[.slice A0 l0.length c0, .agg #[.int .i64 a1_0, .int .i64 a1_1]] rfl MT ?_; (with_reducible refine (spec_l3At.calls kj5 _ _ l0 a1_0 a1_1 t111 false _ ?side1 ?side2 A19.out).mono ?_); (case side1 => exact KD HR0 HB); (case side2 => exact HC0.out); rintro e w40 ⟨rfl, hb⟩; refine ⟨_, rfl, ?_⟩; replace HO_6 := am (Kd.R_below (KR HO_6) hb); replace BK101 := am (BB BK101 hb); replace HB := am (below_step (K1 HB GE101.out) hb); (try clear hb)))
            replace HO_6 := am (Kd.R_drew HO_6.out)
            replace BK101 := am (blk_drew BK101.out)
            replace HB := am (below_drew1 HB.out)
            have q42 : (t111 : Int) ≤ ((l0.length : Int) : Int) := OD
            obtain ⟨i042, hi042, _, hsz42, _⟩ := info_parts info45
            have hroom42 : l0.length ≤ c0 := HC0.out
            have hC42 : Kd.C k45 _ A0 l0.length l0 := HR0.out
            have hcut42 := cut_to (P := Try.prog) 26 45 .i64 Try.underlying26 hi042 A0 l0.length c0 t111 (OD) q42 hroom42
            have hr42 := Kd.C_take (m := (t111 : Int).toNat) hC42 (by omega)
            have hy42 : y117.length = (t111 : Int).toNat := (by rw [Ny117.out, List.length_take]; omega)
            rw [← Ny117.out] at hr42
            rw [← hy42] at hcut42
            have HR120 := Aside0.mk hr42
            have HC120 := am (show y117.length ≤ c0 from by omega)
            clear hr42 hC42 hroom42 hi042 hsz42
            have KY42 := Aside0.mk hy42
            clear hy42
            replace q42 := eq_true q42
            have q43 : (t111 : Int) ≤ ((l0.length : Int) : Int) := OD
            obtain ⟨i043, hi043, _, hsz43, _⟩ := info_parts info45
            have hroom43 : l0.length ≤ c0 := HC0.out
            have hC43 : Kd.C k45 _ A0 l0.length l0 := HR0.out
            have q043 : (0 : Int) ≤ (t111 : Int) := OD
            have hcut43 := cut_from (P := Try.prog) 26 45 .i64 Try.underlying26 hi043 3 hsz43 A0 l0.length c0 t111 q043 q43
            have hr43 := Kd.C_drop (m := (t111 : Int).toNat) (c := c0) hC43 (by omega) hroom43
            obtain ⟨A43, hA43⟩ : ∃ A1, A1 = (if c0 = (t111 : Int).toNat then A0 else (A0 : Option Addr).map (·.add ((t111 : Int).toNat * 3))) := ⟨_, rfl⟩
            obtain ⟨c43, hc43⟩ : ∃ c1, c1 = c0 - (t111 : Int).toNat := ⟨_, rfl⟩
            have hy43 : y130.length = l0.length - (t111 : Int).toNat := (by rw [Ny130.out, List.length_drop] <;> omega)
            rw [show (l0).drop (t111 : Int).toNat = y130 from Ny130.out.symm] at hr43
            replace hr43 : Kd.C k45 _ A43 y130.length y130 := (by rw [hA43]; exact hr43)
            rw [← hy43, ← hA43, ← hc43] at hcut43
            have HR133 := Aside0.mk hr43
            have HC133 := am (show y130.length ≤ c43 from by rw [hy43, hc43]; exact Nat.sub_le_sub_right hroom43 _)
            clear hr43 hC43 hroom43 hi043 hsz43 hc43
            have KY43 := Aside0.mk hy43
            have KA43 := Aside0.mk hA43
            clear hy43 hA43
            replace q43 := eq_true q43
            refine start_ (n := 14) (S := fun w' => de3 w' gb101 (.int .i64 a1_0) (.int .i64 a1_1) (.int .i64 a1_2)) (ds := []) (tf 0 14) (by kernel_rfl) rfl rfl ⟨z0 _ BK101.out, z1 _ BK101.out, z2 _ BK101.out⟩ (fun hHeld => ?_); refine with_tabW spec_WaysPut.tab12 spec_WaysPut.bits12 (fun HT_ HW_ => ?_)
            generalize w40.drew = w41 at HO_6 BK101 HB HR120 HR133 hHeld ⊢
            refine pv HT_ 1 44 (tr [0, 1, 1, 12]) ?_
            refine pv HT_ 2 45 (tr [0, 1, 2, 11]) ?_
            refine pv HT_ 3 46 (tr [0, 1, 3, 10]) ?_
            refine pv HT_ 8 51 (tr [0, 1, 3, 4, 1, 5]) ?_
            refine pv HT_ 9 52 (tr [0, 1, 3, 4, 2, 4]) ?_
            refine pv HT_ 10 53 (tr [0, 1, 3, 4, 3, 3]) ?_
            refine tk 5 (some 48) (tr [0, 1, 3, 1, 1, 2, 3, 3]) (take_ofW HT_.out HW_.out (by kernel_rfl)) hHeld ?_
            refine join_ (σ := Value × Value × Value) 4 (tr [7, 1, 3, 3]) (fun s_ => [(43, s_.1), (47, s_.2.1), (49, s_.2.2)]) (fun s_ w' => (w'.cell? ⟨gb101, 0, none⟩ = some (.int .i64 a1_0) ∧ w'.cell? ⟨gb101, 1, none⟩ = some (.int .i64 a1_1) ∧ w'.cell? ⟨gb101, 2, none⟩ = some (.int .i64 a1_2)) ∧ (Kd.R k45 45 w' w.heap.size (fun k_ => some k_ ≠ (s_.2.2 : Value).ownBlock ∧ some k_ ≠ (v107 : Value).ownBlock ∧ k_ ≠ gb101) s_.2.1 y121) ∧ (Kd.R k45 45 w' w.heap.size (fun k_ => some k_ ≠ (s_.2.1 : Value).ownBlock ∧ some k_ ≠ (v107 : Value).ownBlock ∧ k_ ≠ gb101) s_.2.2 y124) ∧ (Kd.R k45 45 w' w.heap.size (fun k_ => some k_ ≠ (s_.2.1 : Value).ownBlock ∧ some k_ ≠ (s_.2.2 : Value).ownBlock ∧ k_ ≠ gb101) v107 t106) ∧ (w'.heap[gb101]? = some (.cells #[.int .i64 a1_0, .int .i64 a1_1, .int .i64 a1_2] 45 (0, 0))) ∧ (Below w.heap.size w w')) ?_ ?_
            rotate_left
            ·intro hCont
             refine two_ (i := 0) (j := 6) (Ni := some 43) (Nj := some 49) (tr [4, 1, 1, 2, 3, 3]) (tr [0, 1, 3, 1, 2, 1, 3, 3]) rfl rfl rfl rfl (two_of HT_.out (by kernel_rfl)) (by decide) (by decide) (fun K hK => ?_) (fun K hK => ?_)
             ·skip
              refine Kd.R_lit_step k45 _ 45 ?hg (N := 43) ?hd (xs := ([] : List (S45))) (inner := []) (ok := fun _ => True) (okp := fun _ => True) ?hr ?hp (fun _ hk => hk) trivial (Below.refl _ _) (Nat.le_refl _) (by simp) ?_; (case hd => rfl); (case hg => rfl); (case hr => first | (go_simp; done) | (go_simp; rfl)); (case hp => exact (Reps.none _ _))
              intro v115 w44 ho45 hb hg_ hnew_
              clear hg_ hnew_
              (first | rw [← Ny114.out] at ho45 | (simp only [Int.reduceToNat] at ho45; rw [← Ny114.out] at ho45))
              have HO116 := am (Kd.R_lower (Kd.R_newB (Kd.R_new' ho45 (Kd.R_lt (KR HO_6))) (g := gb101) (o := .cells #[.int .i64 a1_0, .int .i64 a1_1, .int .i64 a1_2] 45 (0, 0)) (KB BK101)) (below_size (K1 HB GE101.out)))
              replace HO_6 := am (Kd.R_elder' (KR HO_6) (Kd.R_base ho45) hb)
              replace BK101 := am (BB BK101 hb)
              replace HB := am (below_step (K1 HB GE101.out) hb)
              clear hb ho45
              refine hK.out _ _ ⟨z0 _ BK101.out, z1 _ BK101.out, z2 _ BK101.out⟩ (fun hHeld => ?_)
              clear hK K
              refine norm_ (a' := ?_) ?_ ?_
              rotate_left
              ·show Act.put _ (some 43) _ = _
               simp only [Act.put, List.setIfInBounds_toArray, List.set_cons_zero, List.set_cons_succ, i64_w, i32_w]
               rfl
              refine two_ (i := 4) (j := 6) (Ni := some 47) (Nj := some 49) (tr [6, 2, 3, 3]) (tr [4, 1, 2, 1, 3, 3]) rfl rfl rfl rfl (two_of HT_.out (by kernel_rfl)) (by decide) (by decide) (fun K hK => ?_) (fun K hK => ?_)
              ·skip
               refine Kd.R_append_rows_step k45 (w0 := w) w.heap.size (by rfl) (.tmp 43) (.tmp 46) 26 45 (.agg #[(.int .i64 0), (.int .i64 0), (.int .i64 0)]) 24 rfl Try.underlying26 info45 rfl (by decide) (by omega) v115 y114 y117 _ _ _ (fun k_ => some k_ ≠ (v107 : Value).ownBlock ∧ k_ ≠ gb101) (fun _ => False) rfl rfl ?aO ?aR (fun _ _ h => h) (fun _ h => h.elim) ?aF ?aB ?aS ?aL ?_
               (case aR => exact KD HR120 HB)
               (case aB => exact (K1 HB GE101.out))
               (case aF => exact (fun k_ hk => ⟨Kd.fresh' (Kd.R_lt (KR HO_6)) k_ hk, Kd.freshB (g := gb101) (o := .cells #[.int .i64 a1_0, .int .i64 a1_1, .int .i64 a1_2] 45 (0, 0)) (KB BK101) k_ hk⟩))
               (case aO => exact (by (with_reducible repeat (first | apply Kd.R_alloc | apply Kd.R_drewN | apply Kd.R_drew)); exact Kd.R_mono HO116.out (fun _ hk => ⟨hk.1.2, hk.2⟩)))
               (case aS => exact (below_size (K1 HB GE101.out)))
               (case aL => have := LMc34.out; omega)
               intro v122 w46 ho hb hg hat
               rw [← Ny121.out] at ho
               replace HO_6 := am (Kd.R_after (ok := (fun k_ => k_ ≠ gb101)) (KR HO_6) hg hat)
               replace BK101 := am (blk_grown (g := gb101) (o := .cells #[.int .i64 a1_0, .int .i64 a1_1, .int .i64 a1_2] 45 (0, 0)) (KB BK101) hg (Kd.R_away HO116.out (fun _ hk => hk.2)))
               replace HB := am (hb)
               have HO123 := am (ho)
               clear HO116
               clear ho hb hg hat
               refine hK.out _ _ ⟨z0 _ BK101.out, z1 _ BK101.out, z2 _ BK101.out⟩ (fun hHeld => ?_)
               clear hK K
               refine norm_ (a' := ?_) ?_ ?_
               rotate_left
               ·show Act.put _ (some 47) _ = _
                simp only [Act.put, List.setIfInBounds_toArray, List.set_cons_zero, List.set_cons_succ, i64_w, i32_w]
                rfl
               refine one_ (i := 6) (N := some 49) (tr [7, 1, 3, 3]) rfl rfl (one_of HT_.out (by kernel_rfl)) (by decide) (fun K hK => ?_)
               refine Kd.R_lit_step k45 _ 45 ?hg (N := 49) ?hd (xs := ([(⟨(⟨a1_0, a1_1⟩ : S43), a1_2⟩ : S45)] : List (S45))) (inner := [.int .i64 a1_0, .int .i64 a1_1, .int .i64 a1_2]) (ok := fun _ => True) (okp := fun _ => True) ?hr ?hp (fun _ hk => hk) trivial (Below.refl _ _) (Nat.le_refl _) (by simp) ?_; (case hd => rfl); (case hg => rfl); (case hr => first | (go_simp; done) | (go_simp; rfl)); (case hp => exact (Reps.c3 (show Kd.M k45 _ _ _ (⟨(⟨a1_0, a1_1⟩ : S43), a1_2⟩ : S45) [.int .i64 a1_0, .int .i64 a1_1, .int .i64 a1_2] from (k45_mkM _ _ _ (⟨(⟨a1_0, a1_1⟩ : S43), a1_2⟩ : S45) )) (Reps.none _ _)))
               intro v125 w47 ho48 hb hg_ hnew_
               clear hg_ hnew_
               (first | rw [← Ny124.out] at ho48 | (simp only [Int.reduceToNat] at ho48; rw [← Ny124.out] at ho48))
               have HO126 := am (Kd.R_lower (Kd.R_newB (Kd.R_new' (Kd.R_new' ho48 (Kd.R_lt (KR HO_6))) (Kd.R_lt (KR HO123))) (g := gb101) (o := .cells #[.int .i64 a1_0, .int .i64 a1_1, .int .i64 a1_2] 45 (0, 0)) (KB BK101)) (below_size (K1 HB GE101.out)))
               replace HO_6 := am (Kd.R_elder' (KR HO_6) (Kd.R_base ho48) hb)
               replace HO123 := am (Kd.R_elder' (KR HO123) (Kd.R_base ho48) hb)
               replace BK101 := am (BB BK101 hb)
               replace HB := am (below_step (K1 HB GE101.out) hb)
               clear hb ho48
               refine hK.out _ _ ⟨z0 _ BK101.out, z1 _ BK101.out, z2 _ BK101.out⟩ (fun hHeld => ?_)
               clear hK K
               refine norm_ (a' := ?_) ?_ ?_
               rotate_left
               ·show Act.put _ (some 49) _ = _
                simp only [Act.put, List.setIfInBounds_toArray, List.set_cons_zero, List.set_cons_succ, i64_w, i32_w]
                rfl
               exact norm_ (by simp only [putAll, Act.put, List.setIfInBounds_toArray, List.set_cons_zero, List.set_cons_succ]) (hCont (v115, v122, v125) _ ⟨hHeld, (by (with_reducible repeat (first | apply Kd.R_alloc | apply Kd.R_drewN | apply Kd.R_drew)); exact Kd.R_mono HO123.out (fun _ hk => ⟨hk.2, ⟨hk.1.1, hk.1.2⟩⟩)), (by (with_reducible repeat (first | apply Kd.R_alloc | apply Kd.R_drewN | apply Kd.R_drew)); exact Kd.R_mono HO126.out (fun _ hk => ⟨hk.1.2, ⟨hk.1.1.2, hk.2⟩⟩)), (by (with_reducible repeat (first | apply Kd.R_alloc | apply Kd.R_drewN | apply Kd.R_drew)); exact Kd.R_mono HO_6.out (fun _ hk => ⟨hk.1.2, ⟨hk.2, hk.1.1⟩⟩)), (KB BK101), (K1 HB GE101.out)⟩)
              ·skip
               refine Kd.R_lit_step k45 _ 45 ?hg (N := 49) ?hd (xs := ([(⟨(⟨a1_0, a1_1⟩ : S43), a1_2⟩ : S45)] : List (S45))) (inner := [.int .i64 a1_0, .int .i64 a1_1, .int .i64 a1_2]) (ok := fun _ => True) (okp := fun _ => True) ?hr ?hp (fun _ hk => hk) trivial (Below.refl _ _) (Nat.le_refl _) (by simp) ?_; (case hd => rfl); (case hg => rfl); (case hr => first | (go_simp; done) | (go_simp; rfl)); (case hp => exact (Reps.c3 (show Kd.M k45 _ _ _ (⟨(⟨a1_0, a1_1⟩ : S43), a1_2⟩ : S45) [.int .i64 a1_0, .int .i64 a1_1, .int .i64 a1_2] from (k45_mkM _ _ _ (⟨(⟨a1_0, a1_1⟩ : S43), a1_2⟩ : S45) )) (Reps.none _ _)))
               intro v125 w46 ho47 hb hg_ hnew_
               clear hg_ hnew_
               (first | rw [← Ny124.out] at ho47 | (simp only [Int.reduceToNat] at ho47; rw [← Ny124.out] at ho47))
               have HO126 := am (Kd.R_lower (Kd.R_newB (Kd.R_new' (Kd.R_new' ho47 (Kd.R_lt (KR HO_6))) (Kd.R_lt (KR HO116))) (g := gb101) (o := .cells #[.int .i64 a1_0, .int .i64 a1_1, .int .i64 a1_2] 45 (0, 0)) (KB BK101)) (below_size (K1 HB GE101.out)))
               replace HO_6 := am (Kd.R_elder' (KR HO_6) (Kd.R_base ho47) hb)
               replace HO116 := am (Kd.R_elder' (KR HO116) (Kd.R_base ho47) hb)
               replace BK101 := am (BB BK101 hb)
               replace HB := am (below_step (K1 HB GE101.out) hb)
               clear hb ho47
               refine hK.out _ _ ⟨z0 _ BK101.out, z1 _ BK101.out, z2 _ BK101.out⟩ (fun hHeld => ?_)
               clear hK K
               refine norm_ (a' := ?_) ?_ ?_
               rotate_left
               ·show Act.put _ (some 49) _ = _
                simp only [Act.put, List.setIfInBounds_toArray, List.set_cons_zero, List.set_cons_succ, i64_w, i32_w]
                rfl
               refine one_ (i := 4) (N := some 47) (tr [7, 1, 3, 3]) rfl rfl (one_of HT_.out (by kernel_rfl)) (by decide) (fun K hK => ?_)
               refine Kd.R_append_rows_step k45 (w0 := w) w.heap.size (by rfl) (.tmp 43) (.tmp 46) 26 45 (.agg #[(.int .i64 0), (.int .i64 0), (.int .i64 0)]) 24 rfl Try.underlying26 info45 rfl (by decide) (by omega) v115 y114 y117 _ _ _ (fun k_ => some k_ ≠ (v107 : Value).ownBlock ∧ some k_ ≠ (v125 : Value).ownBlock ∧ k_ ≠ gb101) (fun _ => False) rfl rfl ?aO ?aR (fun _ _ h => h) (fun _ h => h.elim) ?aF ?aB ?aS ?aL ?_
               (case aR => exact KD HR120 HB)
               (case aB => exact (K1 HB GE101.out))
               (case aF => exact (fun k_ hk => ⟨Kd.fresh' (Kd.R_lt (KR HO_6)) k_ hk, Kd.fresh' (Kd.R_lt (KR HO126)) k_ hk, Kd.freshB (g := gb101) (o := .cells #[.int .i64 a1_0, .int .i64 a1_1, .int .i64 a1_2] 45 (0, 0)) (KB BK101) k_ hk⟩))
               (case aO => exact (by (with_reducible repeat (first | apply Kd.R_alloc | apply Kd.R_drewN | apply Kd.R_drew)); exact Kd.R_mono HO116.out (fun _ hk => ⟨hk.1.1.2, ⟨hk.2, hk.1.2⟩⟩)))
               (case aS => exact (below_size (K1 HB GE101.out)))
               (case aL => have := LMc34.out; omega)
               intro v122 w48 ho hb hg hat
               rw [← Ny121.out] at ho
               replace HO_6 := am (Kd.R_after (ok := (fun k_ => some k_ ≠ (v125 : Value).ownBlock ∧ k_ ≠ gb101)) (by (with_reducible repeat (first | apply Kd.R_alloc | apply Kd.R_drewN | apply Kd.R_drew)); exact Kd.R_mono HO_6.out (fun _ hk => ⟨⟨hk.2, hk.1.1⟩, hk.1.2⟩)) hg hat)
               replace BK101 := am (blk_grown (g := gb101) (o := .cells #[.int .i64 a1_0, .int .i64 a1_1, .int .i64 a1_2] 45 (0, 0)) (KB BK101) hg (Kd.R_away HO116.out (fun _ hk => hk.1.2)))
               replace HO126 := am (Kd.R_after (ok := (fun k_ => some k_ ≠ (v107 : Value).ownBlock ∧ k_ ≠ gb101)) (by (with_reducible repeat (first | apply Kd.R_alloc | apply Kd.R_drewN | apply Kd.R_drew)); exact Kd.R_mono HO126.out (fun _ hk => ⟨⟨hk.1.1.2, hk.2⟩, hk.1.2⟩)) hg hat)
               replace HB := am (hb)
               have HO123 := am (ho)
               clear HO116
               clear ho hb hg hat
               refine hK.out _ _ ⟨z0 _ BK101.out, z1 _ BK101.out, z2 _ BK101.out⟩ (fun hHeld => ?_)
               clear hK K
               refine norm_ (a' := ?_) ?_ ?_
               rotate_left
               ·show Act.put _ (some 47) _ = _
                simp only [Act.put, List.setIfInBounds_toArray, List.set_cons_zero, List.set_cons_succ, i64_w, i32_w]
                rfl
               exact norm_ (by simp only [putAll, Act.put, List.setIfInBounds_toArray, List.set_cons_zero, List.set_cons_succ]) (hCont (v115, v122, v125) _ ⟨hHeld, (by (with_reducible repeat (first | apply Kd.R_alloc | apply Kd.R_drewN | apply Kd.R_drew)); exact Kd.R_mono HO123.out (fun _ hk => ⟨hk.2.1, ⟨hk.1, hk.2.2⟩⟩)), (by (with_reducible repeat (first | apply Kd.R_alloc | apply Kd.R_drewN | apply Kd.R_drew)); exact Kd.R_mono HO126.out (fun _ hk => ⟨hk.2, ⟨hk.1.1, hk.1.2⟩⟩)), (by (with_reducible repeat (first | apply Kd.R_alloc | apply Kd.R_drewN | apply Kd.R_drew)); exact Kd.R_mono HO_6.out (fun _ hk => ⟨hk.2, ⟨hk.1.1, hk.1.2⟩⟩)), (KB BK101), (K1 HB GE101.out)⟩)
             ·skip
              refine Kd.R_lit_step k45 _ 45 ?hg (N := 49) ?hd (xs := ([(⟨(⟨a1_0, a1_1⟩ : S43), a1_2⟩ : S45)] : List (S45))) (inner := [.int .i64 a1_0, .int .i64 a1_1, .int .i64 a1_2]) (ok := fun _ => True) (okp := fun _ => True) ?hr ?hp (fun _ hk => hk) trivial (Below.refl _ _) (Nat.le_refl _) (by simp) ?_; (case hd => rfl); (case hg => rfl); (case hr => first | (go_simp; done) | (go_simp; rfl)); (case hp => exact (Reps.c3 (show Kd.M k45 _ _ _ (⟨(⟨a1_0, a1_1⟩ : S43), a1_2⟩ : S45) [.int .i64 a1_0, .int .i64 a1_1, .int .i64 a1_2] from (k45_mkM _ _ _ (⟨(⟨a1_0, a1_1⟩ : S43), a1_2⟩ : S45) )) (Reps.none _ _)))
              intro v125 w44 ho45 hb hg_ hnew_
              clear hg_ hnew_
              (first | rw [← Ny124.out] at ho45 | (simp only [Int.reduceToNat] at ho45; rw [← Ny124.out] at ho45))
              have HO126 := am (Kd.R_lower (Kd.R_newB (Kd.R_new' ho45 (Kd.R_lt (KR HO_6))) (g := gb101) (o := .cells #[.int .i64 a1_0, .int .i64 a1_1, .int .i64 a1_2] 45 (0, 0)) (KB BK101)) (below_size (K1 HB GE101.out)))
              replace HO_6 := am (Kd.R_elder' (KR HO_6) (Kd.R_base ho45) hb)
              replace BK101 := am (BB BK101 hb)
              replace HB := am (below_step (K1 HB GE101.out) hb)
              clear hb ho45
              refine hK.out _ _ ⟨z0 _ BK101.out, z1 _ BK101.out, z2 _ BK101.out⟩ (fun hHeld => ?_)
              clear hK K
              refine norm_ (a' := ?_) ?_ ?_
              rotate_left
              ·show Act.put _ (some 49) _ = _
               simp only [Act.put, List.setIfInBounds_toArray, List.set_cons_zero, List.set_cons_succ, i64_w, i32_w]
               rfl
              refine one_ (i := 0) (N := some 43) (tr [4, 1, 2, 1, 3, 3]) rfl rfl (one_of HT_.out (by kernel_rfl)) (by decide) (fun K hK => ?_)
              refine Kd.R_lit_step k45 _ 45 ?hg (N := 43) ?hd (xs := ([] : List (S45))) (inner := []) (ok := fun _ => True) (okp := fun _ => True) ?hr ?hp (fun _ hk => hk) trivial (Below.refl _ _) (Nat.le_refl _) (by simp) ?_; (case hd => rfl); (case hg => rfl); (case hr => first | (go_simp; done) | (go_simp; rfl)); (case hp => exact (Reps.none _ _))
              intro v115 w46 ho47 hb hg_ hnew_
              clear hg_ hnew_
              (first | rw [← Ny114.out] at ho47 | (simp only [Int.reduceToNat] at ho47; rw [← Ny114.out] at ho47))
              have HO116 := am (Kd.R_lower (Kd.R_newB (Kd.R_new' (Kd.R_new' ho47 (Kd.R_lt (KR HO_6))) (Kd.R_lt (KR HO126))) (g := gb101) (o := .cells #[.int .i64 a1_0, .int .i64 a1_1, .int .i64 a1_2] 45 (0, 0)) (KB BK101)) (below_size (K1 HB GE101.out)))
              replace HO_6 := am (Kd.R_elder' (KR HO_6) (Kd.R_base ho47) hb)
              replace HO126 := am (Kd.R_elder' (KR HO126) (Kd.R_base ho47) hb)
              replace BK101 := am (BB BK101 hb)
              replace HB := am (below_step (K1 HB GE101.out) hb)
              clear hb ho47
              refine hK.out _ _ ⟨z0 _ BK101.out, z1 _ BK101.out, z2 _ BK101.out⟩ (fun hHeld => ?_)
              clear hK K
              refine norm_ (a' := ?_) ?_ ?_
              rotate_left
              ·show Act.put _ (some 43) _ = _
               simp only [Act.put, List.setIfInBounds_toArray, List.set_cons_zero, List.set_cons_succ, i64_w, i32_w]
               rfl
              refine one_ (i := 4) (N := some 47) (tr [7, 1, 3, 3]) rfl rfl (one_of HT_.out (by kernel_rfl)) (by decide) (fun K hK => ?_)
              refine Kd.R_append_rows_step k45 (w0 := w) w.heap.size (by rfl) (.tmp 43) (.tmp 46) 26 45 (.agg #[(.int .i64 0), (.int .i64 0), (.int .i64 0)]) 24 rfl Try.underlying26 info45 rfl (by decide) (by omega) v115 y114 y117 _ _ _ (fun k_ => some k_ ≠ (v107 : Value).ownBlock ∧ some k_ ≠ (v125 : Value).ownBlock ∧ k_ ≠ gb101) (fun _ => False) rfl rfl ?aO ?aR (fun _ _ h => h) (fun _ h => h.elim) ?aF ?aB ?aS ?aL ?_
              (case aR => exact KD HR120 HB)
              (case aB => exact (K1 HB GE101.out))
              (case aF => exact (fun k_ hk => ⟨Kd.fresh' (Kd.R_lt (KR HO_6)) k_ hk, Kd.fresh' (Kd.R_lt (KR HO126)) k_ hk, Kd.freshB (g := gb101) (o := .cells #[.int .i64 a1_0, .int .i64 a1_1, .int .i64 a1_2] 45 (0, 0)) (KB BK101) k_ hk⟩))
              (case aO => exact (by (with_reducible repeat (first | apply Kd.R_alloc | apply Kd.R_drewN | apply Kd.R_drew)); exact Kd.R_mono HO116.out (fun _ hk => ⟨hk.1.1.2, ⟨hk.1.2, hk.2⟩⟩)))
              (case aS => exact (below_size (K1 HB GE101.out)))
              (case aL => have := LMc34.out; omega)
              intro v122 w48 ho hb hg hat
              rw [← Ny121.out] at ho
              replace HO_6 := am (Kd.R_after (ok := (fun k_ => some k_ ≠ (v125 : Value).ownBlock ∧ k_ ≠ gb101)) (by (with_reducible repeat (first | apply Kd.R_alloc | apply Kd.R_drewN | apply Kd.R_drew)); exact Kd.R_mono HO_6.out (fun _ hk => ⟨⟨hk.1.2, hk.1.1⟩, hk.2⟩)) hg hat)
              replace BK101 := am (blk_grown (g := gb101) (o := .cells #[.int .i64 a1_0, .int .i64 a1_1, .int .i64 a1_2] 45 (0, 0)) (KB BK101) hg (Kd.R_away HO116.out (fun _ hk => hk.2)))
              replace HO126 := am (Kd.R_after (ok := (fun k_ => some k_ ≠ (v107 : Value).ownBlock ∧ k_ ≠ gb101)) (by (with_reducible repeat (first | apply Kd.R_alloc | apply Kd.R_drewN | apply Kd.R_drew)); exact Kd.R_mono HO126.out (fun _ hk => ⟨⟨hk.1.1.2, hk.1.2⟩, hk.2⟩)) hg hat)
              replace HB := am (hb)
              have HO123 := am (ho)
              clear HO116
              clear ho hb hg hat
              refine hK.out _ _ ⟨z0 _ BK101.out, z1 _ BK101.out, z2 _ BK101.out⟩ (fun hHeld => ?_)
              clear hK K
              refine norm_ (a' := ?_) ?_ ?_
              rotate_left
              ·show Act.put _ (some 47) _ = _
               simp only [Act.put, List.setIfInBounds_toArray, List.set_cons_zero, List.set_cons_succ, i64_w, i32_w]
               rfl
              exact norm_ (by simp only [putAll, Act.put, List.setIfInBounds_toArray, List.set_cons_zero, List.set_cons_succ]) (hCont (v115, v122, v125) _ ⟨hHeld, (by (with_reducible repeat (first | apply Kd.R_alloc | apply Kd.R_drewN | apply Kd.R_drew)); exact Kd.R_mono HO123.out (fun _ hk => ⟨hk.2.1, ⟨hk.1, hk.2.2⟩⟩)), (by (with_reducible repeat (first | apply Kd.R_alloc | apply Kd.R_drewN | apply Kd.R_drew)); exact Kd.R_mono HO126.out (fun _ hk => ⟨hk.2, ⟨hk.1.1, hk.1.2⟩⟩)), (by (with_reducible repeat (first | apply Kd.R_alloc | apply Kd.R_drewN | apply Kd.R_drew)); exact Kd.R_mono HO_6.out (fun _ hk => ⟨hk.2, ⟨hk.1.1, hk.1.2⟩⟩)), (KB BK101), (K1 HB GE101.out)⟩)
            rintro ⟨v115, v122, v125⟩ w49 ⟨hS_, h0_, h1_, h2_, h3_, h4_⟩
            have HO123 : Aside0 (Kd.R k45 45 w49 w.heap.size (fun k_ => some k_ ≠ (v125 : Value).ownBlock ∧ some k_ ≠ (v107 : Value).ownBlock ∧ k_ ≠ gb101) v122 y121) := ⟨h0_⟩
            have HO126 : Aside0 (Kd.R k45 45 w49 w.heap.size (fun k_ => some k_ ≠ (v122 : Value).ownBlock ∧ some k_ ≠ (v107 : Value).ownBlock ∧ k_ ≠ gb101) v125 y124) := ⟨h1_⟩
            replace HO_6 : Aside0 (Kd.R k45 45 w49 w.heap.size (fun k_ => some k_ ≠ (v122 : Value).ownBlock ∧ some k_ ≠ (v125 : Value).ownBlock ∧ k_ ≠ gb101) v107 t106) := ⟨h2_⟩
            replace BK101 : Aside0 (bk w49 gb101 #[.int .i64 a1_0, .int .i64 a1_1, .int .i64 a1_2] 45) := ⟨h3_⟩
            replace HB : Aside0 (Below w.heap.size w w49) := ⟨h4_⟩
            clear h0_ h1_ h2_ h3_ h4_
            have hHeld : de3 w49 gb101 (.int .i64 a1_0) (.int .i64 a1_1) (.int .i64 a1_2) := hS_
            obtain ⟨Ao51, co51, eo51⟩ := Kd.R_slice HO126.out
            (first | subst eo51 | (injection eo51 with f1_ f2_ f3_; have f4_ := f1_.symm; have f5_ := f3_.symm; clear f1_ f2_ f3_; subst f4_; subst f5_))
            refine norm_ (a' := ?_) ?_ ?_
            rotate_left
            ·simp only [putAll, Act.put, List.setIfInBounds_toArray, List.set_cons_zero, List.set_cons_succ]
             rfl
            refine one_ (i := 7) (N := some 50) (tf 11 3) rfl rfl (one_of HT_.out (by kernel_rfl)) (by decide) (fun K hK => ?_)
            refine Kd.R_append_rows_step k45 (w0 := w) w.heap.size (by rfl) (.tmp 47) (.tmp 49) 26 45 (.agg #[(.int .i64 0), (.int .i64 0), (.int .i64 0)]) 24 rfl Try.underlying26 info45 rfl (by decide) (by omega) v122 y121 y124 _ _ _ (fun k_ => some k_ ≠ (v107 : Value).ownBlock ∧ some k_ ≠ (.slice Ao51 y124.length co51 : Value).ownBlock ∧ k_ ≠ gb101) (fun _ => False) rfl rfl ?aO ?aR (fun _ _ h => h) (fun _ h => h.elim) ?aF ?aB ?aS ?aL ?_
            (case aR => exact KC (Kd.R_reads' HO126.out).2.2)
            (case aB => exact (K1 HB GE101.out))
            (case aF => exact (fun k_ hk => ⟨Kd.fresh' (Kd.R_lt (KR HO_6)) k_ hk, Kd.fresh' (Kd.R_lt (KR HO126)) k_ hk, Kd.freshB (g := gb101) (o := .cells #[.int .i64 a1_0, .int .i64 a1_1, .int .i64 a1_2] 45 (0, 0)) (KB BK101) k_ hk⟩))
            (case aO => exact (by (with_reducible repeat (first | apply Kd.R_alloc | apply Kd.R_drewN | apply Kd.R_drew)); exact Kd.R_mono HO123.out (fun _ hk => ⟨hk.2.1, ⟨hk.1, hk.2.2⟩⟩)))
            (case aS => exact (below_size (K1 HB GE101.out)))
            (case aL => have := LMc35.out; omega)
            intro v128 w50 ho hb hg hat
            rw [← Ny127.out] at ho
            replace HO_6 := am (Kd.R_after (ok := (fun k_ => some k_ ≠ (.slice Ao51 y124.length co51 : Value).ownBlock ∧ k_ ≠ gb101)) (by (with_reducible repeat (first | apply Kd.R_alloc | apply Kd.R_drewN | apply Kd.R_drew)); exact Kd.R_mono HO_6.out (fun _ hk => ⟨⟨hk.2.1, hk.2.2⟩, hk.1⟩)) hg hat)
            replace BK101 := am (blk_grown (g := gb101) (o := .cells #[.int .i64 a1_0, .int .i64 a1_1, .int .i64 a1_2] 45 (0, 0)) (KB BK101) hg (Kd.R_away HO123.out (fun _ hk => hk.2.2)))
            replace HO126 := am (Kd.R_after (ok := (fun k_ => some k_ ≠ (v107 : Value).ownBlock ∧ k_ ≠ gb101)) (by (with_reducible repeat (first | apply Kd.R_alloc | apply Kd.R_drewN | apply Kd.R_drew)); exact Kd.R_mono HO126.out (fun _ hk => ⟨⟨hk.2.1, hk.2.2⟩, hk.1⟩)) hg hat)
            replace HB := am (hb)
            have HO129 := am (ho)
            clear HO123
            clear ho hb hg hat
            refine hK.out _ _ ⟨z0 _ BK101.out, z1 _ BK101.out, z2 _ BK101.out⟩ (fun hHeld => ?_)
            clear hK K
            refine norm_ (a' := ?_) ?_ ?_
            rotate_left
            ·show Act.put _ (some 50) _ = _
             simp only [Act.put, List.setIfInBounds_toArray, List.set_cons_zero, List.set_cons_succ, i64_w, i32_w]
             rfl
            refine one_ (i := 11) (N := some 54) (tf 12 2) rfl rfl (one_of HT_.out (by kernel_rfl)) (by decide) (fun K hK => ?_)
            refine Kd.R_append_rows_step k45 (w0 := w) w.heap.size (by rfl) (.tmp 50) (.tmp 53) 26 45 (.agg #[(.int .i64 0), (.int .i64 0), (.int .i64 0)]) 24 rfl Try.underlying26 info45 rfl (by decide) (by omega) v128 y127 y130 _ _ _ (fun k_ => some k_ ≠ (v107 : Value).ownBlock ∧ some k_ ≠ (.slice Ao51 y124.length co51 : Value).ownBlock ∧ k_ ≠ gb101) (fun _ => False) rfl rfl ?aO ?aR (fun _ _ h => h) (fun _ h => h.elim) ?aF ?aB ?aS ?aL ?_
            (case aR => exact KD HR133 HB)
            (case aB => exact (K1 HB GE101.out))
            (case aF => exact (fun k_ hk => ⟨Kd.fresh' (Kd.R_lt (KR HO_6)) k_ hk, Kd.fresh' (Kd.R_lt (KR HO126)) k_ hk, Kd.freshB (g := gb101) (o := .cells #[.int .i64 a1_0, .int .i64 a1_1, .int .i64 a1_2] 45 (0, 0)) (KB BK101) k_ hk⟩))
            (case aO => exact (KR HO129))
            (case aS => exact (below_size (K1 HB GE101.out)))
            (case aL => have := LMc38.out; omega)
            intro v135 w52 ho hb hg hat
            rw [← Ny134.out] at ho
            replace HO_6 := am (Kd.R_after (ok := (fun k_ => some k_ ≠ (.slice Ao51 y124.length co51 : Value).ownBlock ∧ k_ ≠ gb101)) (KR HO_6) hg hat)
            replace BK101 := am (blk_grown (g := gb101) (o := .cells #[.int .i64 a1_0, .int .i64 a1_1, .int .i64 a1_2] 45 (0, 0)) (KB BK101) hg (Kd.R_away HO129.out (fun _ hk => hk.2.2)))
            replace HO126 := am (Kd.R_after (ok := (fun k_ => some k_ ≠ (v107 : Value).ownBlock ∧ k_ ≠ gb101)) (KR HO126) hg hat)
            replace HB := am (hb)
            have HO136 := am (ho)
            clear HO129
            clear ho hb hg hat
            refine hK.out _ _ ⟨z0 _ BK101.out, z1 _ BK101.out, z2 _ BK101.out⟩ (fun hHeld => ?_)
            clear hK K
            refine norm_ (a' := ?_) ?_ ?_
            rotate_left
            ·show Act.put _ (some 54) _ = _
             simp only [Act.put, List.setIfInBounds_toArray, List.set_cons_zero, List.set_cons_succ, i64_w, i32_w]
             rfl
            refine pv HT_ 12 4 (tf 13 1) ?_
            refine pv HT_ 13 5 (tf 14 0) ?_
            refine done_ (done_of HT_.out (by kernel_rfl)) ?_
            try go_wp2
            go_ret2
            exact ⟨_, ER, by (with_reducible repeat (first | apply Kd.R_alloc | apply Kd.R_drewN | apply Kd.R_drew)); exact Kd.R_mono HO136.out (fun _ hk => trivial), K1 HB GE101.out⟩
           ·rw [if_neg c38] at H
            exact absurd H (by simp)
          ·rw [if_neg c35] at H
           exact absurd H (by simp)
         ·rw [if_neg c34] at H
          exact absurd H (by simp)
        ·rw [if_neg c33] at H
         exact absurd H (by simp)
       ·rw [if_neg c32] at H
        exact absurd H (by simp)
 ·replace c4 := Bool.eq_false_iff.mpr c4
  subst c4
  have H1 : (some ((([] : List (S45))), false)) = some (r1, r2) := by rw [if_neg (show ¬ (false = true) by decide)] at H; exact H
  clear H
  have H := H1
  clear H1
  obtain ⟨y103, hy103⟩ : ∃ y_ : List (S45), y_ = (([] : List (S45))) := ⟨_, rfl⟩
  replace H : (some (y103, false)) = some (r1, r2) := by first | (rw [hy103]; with_reducible exact H) | (have H2_ := (Option.bind_some _ _).symm.trans H; rw [hy103]; with_reducible exact H2_) | (have H2_ := (Option.bind_some _ _).symm.trans H; with_reducible exact H2_) | with_reducible exact H | (rw [hy103]; exact H) | exact H
  have Ny103 := Aside0.mk hy103
  clear hy103
  simp only [Option.some.injEq, Prod.mk.injEq] at H
  obtain ⟨rfl, rfl⟩ := H
  go_enter Try.func139, Try.ntmps139
  go_wp2_with (first | ((with_reducible refine gate_dst (N := 3) rfl ?_); refine box_event rfl (N := 3) rfl (cs := #[.int .i64 a1_0, .int .i64 a1_1, .int .i64 a1_2]) (t := 45) BX ?_; intro gb101 hg w53 hbox hb; have BK101 := am (hbox); have GW101 := am (GH HB hg); have GE101 := GW101; replace HB := am (below_step (KL HB) hb); clear hb hbox hg) | ((with_reducible refine gate_callee (f := 20) rfl ?_); refine goesL_ (some 10) rfl rfl Try.func20 (by kernel_rfl) rfl #[.slice A0 l0.length c0] rfl MT ?_; (with_reducible refine (spec_WaysOk.calls k _ _ l0 false _ ?side1 ?side2 A3.out).mono ?_); (case side1 => exact KD HR0 HB); (case side2 => exact HC0.out); rintro e w54 ⟨rfl, hb⟩; refine ⟨_, rfl, ?_⟩; replace BK101 := am (BB BK101 hb); replace HB := am (below_step (K1 HB GE101.out) hb); (try clear hb)) | ((with_reducible refine gate_dst (N := 12) rfl ?_); refine Kd.R_lit k45 _ 45 ?hg (N := 12) ?hd (xs := ([] : List (S45))) (inner := []) (ok := fun _ => True) (okp := fun _ => True) ?hr ?hp (fun _ hk => hk) trivial (Below.refl _ _) (Nat.le_refl _) (by simp) ?_; (case hd => rfl); (case hg => rfl); (case hr => first | (go_simp; done) | (go_simp; rfl)); (case hp => exact (Reps.none _ _)); intro v104 w55 ho56 hb hg_ hnew_; clear hg_ hnew_; (first | rw [← Ny103.out] at ho56 | (simp only [Int.reduceToNat] at ho56; rw [← Ny103.out] at ho56)); have HO105 := am (Kd.R_lower (Kd.R_newB ho56 (g := gb101) (o := .cells #[.int .i64 a1_0, .int .i64 a1_1, .int .i64 a1_2] 45 (0, 0)) (KB BK101)) (below_size (K1 HB GE101.out))); replace BK101 := am (BB BK101 hb); replace HB := am (below_step (K1 HB GE101.out) hb); clear hb ho56))
  go_ret2
  exact ⟨_, ER, by (with_reducible repeat (first | apply Kd.R_alloc | apply Kd.R_drewN | apply Kd.R_drew)); exact Kd.R_mono HO105.out (fun _ hk => trivial), K1 HB GE101.out⟩
theorem eqA45 (d : Nat) (w : World) (x0 y0 : Int) (x1 y1 : Int) (x2 y2 : Int) :
  (Op.equalIn (d + 3) 45 (.agg #[.int .i64 x0, .int .i64 x1, .int .i64 x2]) (.agg #[.int .i64 y0, .int .i64 y1, .int .i64 y2])).run Try.prog w = .ok ((x0 == y0 && (x1 == y1)) && (x2 == y2)) w := by
 refine eqA_of Try.underlying45 (by kernel_rfl) ?_
 refine eqf_cons (by rfl) (by go_simp) (by go_simp) (eqA43 (d + 0) w _ _ _ _) ?_
 exact eqf_last (by rfl) (by go_simp; rfl) (by go_simp; rfl) (by go_simp)
def spec_l1Last.f (k : Nat) (a0_0 : Int) (a0_1 : Int) : Option (Int) := (spec_l1Size.f k a0_1).bind fun t102 => (some (wrap64 ((wrap64 (a0_0 + t102)) - 1)))
set_option maxHeartbeats 8000000 in
set_option maxRecDepth 100000 in
theorem spec_l1Last.calls (k : Nat) (a0_0 : Int) (a0_1 : Int) (r : Int) (w : World) (h : spec_l1Last.f k a0_0 a0_1 = some r) :
  Calls Try.prog 108 #[.agg #[.int .i64 a0_0, .int .i64 a0_1]] w fun e w' => e = .returned (.int .i64 r) ∧ Below w.heap.size w w' := by
 have hu43 := Try.underlying43
 have HB := am (Below.refl w.heap.size w)
 have H : ((spec_l1Size.f k a0_1).bind fun t102 => (some (wrap64 ((wrap64 (a0_0 + t102)) - 1)))) = some r := h
 clear h
 replace H := Option.bind_eq_some_iff.mp H
 obtain ⟨t102, A20, H⟩ := H
 replace H : (some (wrap64 ((wrap64 (a0_0 + t102)) - 1))) = some r := H
 have A2 := Aside0.mk A20
 clear A20
 obtain rfl := Option.some.inj H
 go_enter Try.func108, Try.ntmps108
 go_wp2_with (first | ((with_reducible refine gate_dst (N := 1) rfl ?_); refine box_event rfl (N := 1) rfl (cs := #[.int .i64 a0_0, .int .i64 a0_1]) (t := 43) BX ?_; intro gb101 hg w3 hbox hb; have BK101 := am (hbox); have GW101 := am (GH HB hg); have GE101 := GW101; replace HB := am (below_step (KL HB) hb); clear hb hbox hg; obtain ⟨hcz4_0, hcz4_1, hfz4_0⟩ := y2 w3 BK101.out) | (go_at_call 118; (with_reducible refine (spec_l1Size.calls k a0_1 t102 _ A2.out).mono ?_); rintro e w' ⟨rfl, ⟨nd, rfl⟩⟩; (try first | exact ⟨rfl, _, World.drewN_drewN _ _ _⟩ | exact ⟨rfl, _, Eq.trans (World.drewN_drewN _ _ _) (congrArg (World.drewN _) (Nat.add_assoc _ _ _))⟩)))
 repeat (go_quiet (first | ((with_reducible refine gate_dst (N := 1) rfl ?_); refine box_event rfl (N := 1) rfl (cs := #[.int .i64 a0_0, .int .i64 a0_1]) (t := 43) BX ?_; intro gb101 hg w3 hbox hb; have BK101 := am (hbox); have GW101 := am (GH HB hg); have GE101 := GW101; replace HB := am (below_step (KL HB) hb); clear hb hbox hg; obtain ⟨hcz4_0, hcz4_1, hfz4_0⟩ := y2 w3 BK101.out) | (go_at_call 118; (with_reducible refine (spec_l1Size.calls k a0_1 t102 _ A2.out).mono ?_); rintro e w' ⟨rfl, ⟨nd, rfl⟩⟩; (try first | exact ⟨rfl, _, World.drewN_drewN _ _ _⟩ | exact ⟨rfl, _, Eq.trans (World.drewN_drewN _ _ _) (congrArg (World.drewN _) (Nat.add_assoc _ _ _))⟩))); try go_wp2_with (first | ((with_reducible refine gate_dst (N := 1) rfl ?_); refine box_event rfl (N := 1) rfl (cs := #[.int .i64 a0_0, .int .i64 a0_1]) (t := 43) BX ?_; intro gb101 hg w3 hbox hb; have BK101 := am (hbox); have GW101 := am (GH HB hg); have GE101 := GW101; replace HB := am (below_step (KL HB) hb); clear hb hbox hg; obtain ⟨hcz4_0, hcz4_1, hfz4_0⟩ := y2 w3 BK101.out) | (go_at_call 118; (with_reducible refine (spec_l1Size.calls k a0_1 t102 _ A2.out).mono ?_); rintro e w' ⟨rfl, ⟨nd, rfl⟩⟩; (try first | exact ⟨rfl, _, World.drewN_drewN _ _ _⟩ | exact ⟨rfl, _, Eq.trans (World.drewN_drewN _ _ _) (congrArg (World.drewN _) (Nat.add_assoc _ _ _))⟩))))
 go_ret
 exact ⟨ER, K1 HB GE101.out⟩
end Go.Proofs.Ytkgbgaojglcaoaa.PAll
end
