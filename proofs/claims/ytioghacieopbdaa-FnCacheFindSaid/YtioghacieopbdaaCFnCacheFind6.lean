/- Contracts of the functions that the statement reaches, printed by a program out of the translation and joined with the plain laws. -/
import Derived.Test.YtioghacieopbdaaCFnCacheFind3
import Derived.Test.YtioghacieopbdaaCFnCacheFind4
section
namespace Go.Proofs.Ytioghacieopbdaa.PAll
open Go.RowKit Go.Proofs.YtioghacieopbdaaW.PrintWords Go.Proofs.YtioghacieopbdaaW.PrintLast Go.Proofs.YtioghacieopbdaaW.PrintMore
attribute [local go_sem] max2_int min2_int max_two min_two max_three min_three max_four min_four   -- for this text's walks alone
set_option linter.unusedVariables false
set_option linter.unusedSimpArgs false
def impl_isAddr.f (a0 : Int) : Option (Bool) := (impl_in.f a0 0 4294967295).bind fun t101 => (some t101)
set_option maxHeartbeats 8000000 in
set_option maxRecDepth 100000 in
theorem impl_isAddr.calls (a0 : Int) (r : Bool) (w : World) (h : impl_isAddr.f a0 = some r) :
  Calls Try.prog 106 #[.int .i64 a0] w fun e w' => e = .returned (.bool r) ∧ Drawn0 w w' := by
 have H : ((impl_in.f a0 0 4294967295).bind fun t101 => (some t101)) = some r := h
 clear h
 replace H := Option.bind_eq_some_iff.mp H
 obtain ⟨t101, A20, H⟩ := H
 replace H : (some t101) = some r := H
 have A2 := Aside0.mk A20
 clear A20
 obtain rfl := Option.some.inj H
 go_enter Try.func106, Try.ntmps106
 go_wp2_with (first | ((with_reducible refine gate_callee (f := 85) rfl ?_); refine goesL_ (some 4) rfl rfl Try.func85 (by kernel_rfl) rfl #[.int .i64 a0, .int .i64 0, .int .i64 4294967295] rfl MT ?_; (with_reducible refine (impl_in.calls a0 0 4294967295 t101 _ A2.out).mono ?_); rintro e w' ⟨rfl, ⟨nd, rfl⟩⟩; refine ⟨_, rfl, ?_⟩))
 go_ret
 exact ⟨by first | rfl | (simp; done) | (simp [*]; done), by repeat (first | exact Drawn0.refl _ | apply Drawn0.step)⟩
end Go.Proofs.Ytioghacieopbdaa.PAll
end
section
namespace Go.Proofs.Ytioghacieopbdaa.PAll
open Go.RowKit Go.Proofs.YtioghacieopbdaaW.PrintWords Go.Proofs.YtioghacieopbdaaW.PrintLast Go.Proofs.YtioghacieopbdaaW.PrintMore
attribute [local go_sem] max2_int min2_int max_two min_two max_three min_three max_four min_four   -- for this text's walks alone
set_option linter.unusedVariables false
set_option linter.unusedSimpArgs false
def impl_Block_size.f (a0_0 : Int) (a0_1 : Int) : Option (Int) := if 0 ≤ (wrap64 (32 - a0_1)) then (some (shl .i64 1 (wrap64 (32 - a0_1)))) else (none)
set_option maxHeartbeats 8000000 in
set_option maxRecDepth 100000 in
theorem impl_Block_size.calls (a0_0 : Int) (a0_1 : Int) (r : Int) (w : World) (h : impl_Block_size.f a0_0 a0_1 = some r) :
  Calls Try.prog 113 #[.agg #[.int .i64 a0_0, .int .i64 a0_1]] w fun e w' => e = .returned (.int .i64 r) ∧ Below w.heap.size w w' := by
 have hu32 := Try.underlying32
 have HB := am (Below.refl w.heap.size w)
 have H : (if 0 ≤ (wrap64 (32 - a0_1)) then (some (shl .i64 1 (wrap64 (32 - a0_1)))) else (none)) = some r := h
 clear h
 obtain ⟨ji2, hji2⟩ : ∃ j_ : Int, (wrap64 (32 - a0_1)) = j_ := ⟨_, rfl⟩
 replace H : (if 0 ≤ (ji2) then (some (shl .i64 1 (ji2))) else (none)) = some r := by first | (rw [hji2] at H; exact H) | (simp only [hji2] at H ⊢; exact H)
 have hji2w : (IntKind.i64.wrap (32 - a0_1)) = ji2 := (i64_w _).trans hji2
 by_cases c3 : 0 ≤ (ji2)
 ·rw [if_pos c3] at H
  have c3b0 := eq_true c3
  have c3b1 : decide (0 ≤ (ji2)) = true := decide_eq_true c3
  clear c3
  obtain ⟨ji4, hji4⟩ : ∃ j_ : Int, (shl .i64 1 (ji2)) = j_ := ⟨_, rfl⟩
  replace H : (some ji4) = some r := by first | (rw [hji4] at H; exact H) | (simp only [hji4] at H ⊢; exact H)
  have hji4_ : (IntKind.i64.wrap (1 * 2 ^ min (ji2).toNat 64)) = ji4 := hji4
  have hji4z : (ji2) ≤ 64 → (IntKind.i64.wrap (1 * 2 ^ (ji2).toNat)) = ji4 := shl_small hji4
  have hji4u : (IntKind.i64.wrap (2 ^ min (ji2).toNat 64)) = ji4 := by have h_ := hji4_; rw [Int.one_mul] at h_; exact h_
  have hji4v : (ji2) ≤ 64 → (IntKind.i64.wrap (2 ^ (ji2).toNat)) = ji4 := fun hle_ => by have h_ := hji4z hle_; rw [Int.one_mul] at h_; exact h_
  have hji4y : (wrap64 (1 * 2 ^ min (ji2).toNat 64)) = ji4 := (i64_w _).symm.trans hji4_
  have hji4x : (ji2) ≤ 64 → (wrap64 (1 * 2 ^ (ji2).toNat)) = ji4 := fun h_ => (i64_w _).symm.trans (hji4z h_)
  obtain rfl := Option.some.inj H
  go_enter Try.func113, Try.ntmps113
  go_wp2_with (first | ((with_reducible refine gate_dst (N := 1) rfl ?_); refine box_event rfl (N := 1) rfl (cs := #[.int .i64 a0_0, .int .i64 a0_1]) (t := 32) BX ?_; intro gb101 hg w5 hbox hb; have BK101 := am (hbox); have GW101 := am ((GL hg (below_size (KL HB)) : w.heap.size ≤ gb101)); have GE101 := GW101; replace HB := am (below_step (KL HB) hb); clear hb hbox hg; have hcz6_0 := z0 w5 BK101.out; have hcz6_1 := z1 w5 BK101.out; have hfz6_0 := blk_frozen BK101.out 0; have hfz6_1 := blk_frozen BK101.out 1))
  go_ret
  exact ⟨by first | rfl | (simp [errW_none, errW_some] <;> rfl) | (simp only [← hji2, ← hji4]; first | rfl | (simp [errW_none, errW_some] <;> rfl)) | (simp [*, errW_none, errW_some] <;> rfl), K1 HB GE101.out⟩
 ·rw [if_neg c3] at H
  exact absurd H (by simp)
end Go.Proofs.Ytioghacieopbdaa.PAll
end
section
namespace Go.Proofs.Ytioghacieopbdaa.PAll
open Go.RowKit Go.Proofs.YtioghacieopbdaaW.PrintWords Go.Proofs.YtioghacieopbdaaW.PrintLast Go.Proofs.YtioghacieopbdaaW.PrintMore
attribute [local go_sem] max2_int min2_int max_two min_two max_three min_three max_four min_four   -- for this text's walks alone
set_option linter.unusedVariables false
set_option linter.unusedSimpArgs false
def impl_BlockOk.f (a0_0 : Int) (a0_1 : Int) : Option (Bool) := (impl_isAddr.f a0_0).bind fun t102 => (if t102 = true then ((impl_in.f a0_1 0 32).bind fun t103 => (if t103 = true then ((impl_Block_size.f a0_0 a0_1).bind fun t104 => (if t104 = 0 then (none) else (some ((Int.tmod a0_0 t104) == 0)))) else (some false))) else (some false))
def impl_BlockOk.T1 : Bool × List (List Nat × List Nat) := (true, [([], []), ([0], [0]), ([1], [1]), ([2, 2], [2]), ([3], [3]), ([4, 3], [3, 4]), ([5, 3, 3], [3, 5]), ([3, 6], [3, 6]), ([7, 6], [7]), ([8], [8]), ([9, 8], [8, 9]), ([8], [8]), ([11, 8, 8], [8, 11]), ([10, 12, 8], [8, 10, 12]), ([13, 8], [8, 13]), ([8, 14], [8, 14]), ([15, 12, 0, 1, 2, 3, 4, 5, 6, 7, 8, 9, 10, 11, 12, 13, 14, 15], [15])])
def impl_BlockOk.B1 : List Nat := [0, 1, 3, 7, 15, 31, 63, 127, 255, 511, 1023, 511, 2559, 8191, 16383, 32767, 65535]
theorem impl_BlockOk.tab1 : rtab .any (opsOf Try.f111 1) = impl_BlockOk.T1 := by kernel_rfl
theorem impl_BlockOk.bits1 : waitsOk impl_BlockOk.T1.2 impl_BlockOk.B1 = true := by kernel_rfl
set_option maxHeartbeats 8000000 in
set_option maxRecDepth 100000 in
theorem impl_BlockOk.calls (a0_0 : Int) (a0_1 : Int) (r : Bool) (w : World) (h : impl_BlockOk.f a0_0 a0_1 = some r) :
  Calls Try.prog 111 #[.agg #[.int .i64 a0_0, .int .i64 a0_1]] w fun e w' => e = .returned (.bool r) ∧ Below w.heap.size w w' := by
 have hu32 := Try.underlying32
 have HB := am (Below.refl w.heap.size w)
 have H : ((impl_isAddr.f a0_0).bind fun t102 => (if t102 = true then ((impl_in.f a0_1 0 32).bind fun t103 => (if t103 = true then ((impl_Block_size.f a0_0 a0_1).bind fun t104 => (if t104 = 0 then (none) else (some ((Int.tmod a0_0 t104) == 0)))) else (some false))) else (some false))) = some r := h
 clear h
 replace H := Option.bind_eq_some_iff.mp H
 obtain ⟨t102, A20, H⟩ := H
 replace H : (if t102 = true then ((impl_in.f a0_1 0 32).bind fun t103 => (if t103 = true then ((impl_Block_size.f a0_0 a0_1).bind fun t104 => (if t104 = 0 then (none) else (some ((Int.tmod a0_0 t104) == 0)))) else (some false))) else (some false)) = some r := H
 have A2 := Aside0.mk A20
 clear A20
 by_cases c3 : t102 = true
 ·subst c3
  have H1 : ((impl_in.f a0_1 0 32).bind fun t103 => (if t103 = true then ((impl_Block_size.f a0_0 a0_1).bind fun t104 => (if t104 = 0 then (none) else (some ((Int.tmod a0_0 t104) == 0)))) else (some false))) = some r := by rw [if_pos rfl] at H; exact H
  clear H
  have H := H1
  clear H1
  replace H := Option.bind_eq_some_iff.mp H
  obtain ⟨t103, A40, H⟩ := H
  replace H : (if t103 = true then ((impl_Block_size.f a0_0 a0_1).bind fun t104 => (if t104 = 0 then (none) else (some ((Int.tmod a0_0 t104) == 0)))) else (some false)) = some r := H
  have A4 := Aside0.mk A40
  clear A40
  by_cases c5 : t103 = true
  ·subst c5
   have H1 : ((impl_Block_size.f a0_0 a0_1).bind fun t104 => (if t104 = 0 then (none) else (some ((Int.tmod a0_0 t104) == 0)))) = some r := by rw [if_pos rfl] at H; exact H
   clear H
   have H := H1
   clear H1
   replace H := Option.bind_eq_some_iff.mp H
   obtain ⟨t104, A60, H⟩ := H
   replace H : (if t104 = 0 then (none) else (some ((Int.tmod a0_0 t104) == 0))) = some r := H
   have A6 := Aside0.mk A60
   clear A60
   by_cases c7 : t104 = 0
   ·rw [if_pos c7] at H
    exact absurd H (by simp)
   ·rw [if_neg c7] at H
    have c7b0 : (t104 == 0) = false := beq_eq_false_iff_ne.mpr c7
    have c7b1 : (t104 != 0) = true := bne_iff_ne.mpr c7
    obtain rfl := Option.some.inj H
    go_enter Try.func111, Try.ntmps111
    try go_wp2_with (first | ((with_reducible refine gate_dst (N := 1) rfl ?_); refine box_event rfl (N := 1) rfl (cs := #[.int .i64 a0_0, .int .i64 a0_1]) (t := 32) BX ?_; intro gb101 hg w8 hbox hb; have BK101 := am (hbox); have GW101 := am ((GL hg (below_size (KL HB)) : w.heap.size ≤ gb101)); have GE101 := GW101; replace HB := am (below_step (KL HB) hb); clear hb hbox hg))
    replace BK101 := am (blk_drew BK101.out)
    replace HB := am (below_drew1 HB.out)
    refine start_ (n := 17) (S := fun w' => w'.cell? ⟨gb101, 0, none⟩ = some (.int .i64 a0_0) ∧ w'.cell? ⟨gb101, 1, none⟩ = some (.int .i64 a0_1)) (ds := []) (tf 0 17) (by kernel_rfl) rfl rfl ⟨z0 _ BK101.out, z1 _ BK101.out⟩ (fun hHeld => ?_); refine with_tabW impl_BlockOk.tab1 impl_BlockOk.bits1 (fun HT_ HW_ => ?_)
    generalize w8.drew = w9 at BK101 HB hHeld ⊢
    refine pu 0 (some 3) (tf 1 16) (any_of HT_.out (by kernel_rfl)) ?_
    refine tk 1 (some 4) (tf 2 15) (take_ofW HT_.out HW_.out (by kernel_rfl)) hHeld ?_
    refine one_ (i := 2) (N := some 5) (tf 3 14) rfl rfl (one_of HT_.out (by kernel_rfl)) (by decide) (fun K hK => ?_)
    refine goes_ Try.func106 (by kernel_rfl) rfl #[.int .i64 a0_0] (by rfl) rfl rfl MT ?_
    with_reducible refine (impl_isAddr.calls a0_0 true _ A2.out).mono ?_
    rintro e w' ⟨rfl, ⟨nd, rfl⟩⟩
    refine ⟨_, rfl, ?_⟩
    refine hK.out _ _ ⟨z0 _ BK101.out, z1 _ BK101.out⟩ (fun hHeld => ?_)
    clear hK K
    refine norm_ (a' := ?_) ?_ ?_
    rotate_left
    ·show Act.put _ (some 5) _ = _
     simp only [Act.put, List.setIfInBounds_toArray, List.set_cons_zero, List.set_cons_succ, i64_w, i32_w]
     rfl
    refine pu 3 (some 6) (tf 4 13) (any_of HT_.out (by kernel_rfl)) ?_
    refine pu 4 (some 7) (tf 5 12) (any_of HT_.out (by kernel_rfl)) ?_
    refine tk 5 (some 8) (tf 6 11) (take_ofW HT_.out HW_.out (by kernel_rfl)) hHeld ?_
    refine one_ (i := 6) (N := some 9) (tf 7 10) rfl rfl (one_of HT_.out (by kernel_rfl)) (by decide) (fun K hK => ?_)
    refine goes_ Try.func85 (by kernel_rfl) rfl #[.int .i64 a0_1, .int .i64 0, .int .i64 32] (by rfl) rfl rfl MT ?_
    with_reducible refine (impl_in.calls a0_1 0 32 true _ A4.out).mono ?_
    rintro e w' ⟨rfl, ⟨nd, rfl⟩⟩
    refine ⟨_, rfl, ?_⟩
    refine hK.out _ _ ⟨z0 _ BK101.out, z1 _ BK101.out⟩ (fun hHeld => ?_)
    clear hK K
    refine norm_ (a' := ?_) ?_ ?_
    rotate_left
    ·show Act.put _ (some 9) _ = _
     simp only [Act.put, List.setIfInBounds_toArray, List.set_cons_zero, List.set_cons_succ, i64_w, i32_w]
     rfl
    refine pu 7 (some 10) (tf 8 9) (any_of HT_.out (by kernel_rfl)) ?_
    refine pu 8 (some 11) (tf 9 8) (any_of HT_.out (by kernel_rfl)) ?_
    refine pu 9 (some 12) (tf 10 7) (any_of HT_.out (by kernel_rfl)) ?_
    refine tk 10 (some 13) (tf 11 6) (take_ofW HT_.out HW_.out (by kernel_rfl)) hHeld ?_
    refine tk 11 (some 14) (tf 12 5) (take_ofW HT_.out HW_.out (by kernel_rfl)) hHeld ?_
    refine one_ (i := 12) (N := some 15) (tf 13 4) rfl rfl (one_of HT_.out (by kernel_rfl)) (by decide) (fun K hK => ?_)
    refine goes_ Try.func113 (by kernel_rfl) rfl #[.agg #[.int .i64 a0_0, .int .i64 a0_1]] (by rfl) rfl rfl MT ?_
    with_reducible refine (impl_Block_size.calls a0_0 a0_1 t104 _ A6.out).mono ?_
    rintro e w10 ⟨rfl, hb⟩
    refine ⟨_, rfl, ?_⟩
    replace BK101 := am (BB BK101 hb)
    replace HB := am (below_step (K1 HB GE101.out) hb)
    (try clear hb)
    (try clear hb2)
    (try clear hk)
    (try clear hi)
    refine hK.out _ _ ⟨z0 _ BK101.out, z1 _ BK101.out⟩ (fun hHeld => ?_)
    clear hK K
    refine norm_ (a' := ?_) ?_ ?_
    rotate_left
    ·show Act.put _ (some 15) _ = _
     simp only [Act.put, List.setIfInBounds_toArray, List.set_cons_zero, List.set_cons_succ, i64_w, i32_w]
     rfl
    refine pu 13 (some 16) (tf 14 3) (any_of HT_.out (by kernel_rfl)) ?_
    refine pu 14 (some 17) (tf 15 2) (any_of HT_.out (by kernel_rfl)) ?_
    refine pu 15 (some 18) (tf 16 1) (any_of HT_.out (by kernel_rfl)) ?_
    refine pu 16 (some 2) (tf 17 0) (any_of HT_.out (by kernel_rfl)) ?_
    refine done_ (done_of HT_.out (by kernel_rfl)) ?_
    try go_wp2
    go_ret
    exact ⟨by first | rfl | (simp [errW_none, errW_some] <;> rfl) | (simp [*, errW_none, errW_some] <;> rfl), K1 HB GE101.out⟩
  ·replace c5 := Bool.eq_false_iff.mpr c5
   subst c5
   have H1 : (some false) = some r := by rw [if_neg (show ¬ (false = true) by decide)] at H; exact H
   clear H
   have H := H1
   clear H1
   obtain rfl := Option.some.inj H
   go_enter Try.func111, Try.ntmps111
   try go_wp2_with (first | ((with_reducible refine gate_dst (N := 1) rfl ?_); refine box_event rfl (N := 1) rfl (cs := #[.int .i64 a0_0, .int .i64 a0_1]) (t := 32) BX ?_; intro gb101 hg w11 hbox hb; have BK101 := am (hbox); have GW101 := am ((GL hg (below_size (KL HB)) : w.heap.size ≤ gb101)); have GE101 := GW101; replace HB := am (below_step (KL HB) hb); clear hb hbox hg))
   replace BK101 := am (blk_drew BK101.out)
   replace HB := am (below_drew1 HB.out)
   refine start_ (n := 17) (S := fun w' => w'.cell? ⟨gb101, 0, none⟩ = some (.int .i64 a0_0) ∧ w'.cell? ⟨gb101, 1, none⟩ = some (.int .i64 a0_1)) (ds := []) (tf 0 17) (by kernel_rfl) rfl rfl ⟨z0 _ BK101.out, z1 _ BK101.out⟩ (fun hHeld => ?_); refine with_tabW impl_BlockOk.tab1 impl_BlockOk.bits1 (fun HT_ HW_ => ?_)
   generalize w11.drew = w12 at BK101 HB hHeld ⊢
   refine pu 0 (some 3) (tf 1 16) (any_of HT_.out (by kernel_rfl)) ?_
   refine tk 1 (some 4) (tf 2 15) (take_ofW HT_.out HW_.out (by kernel_rfl)) hHeld ?_
   refine one_ (i := 2) (N := some 5) (tf 3 14) rfl rfl (one_of HT_.out (by kernel_rfl)) (by decide) (fun K hK => ?_)
   refine goes_ Try.func106 (by kernel_rfl) rfl #[.int .i64 a0_0] (by rfl) rfl rfl MT ?_
   with_reducible refine (impl_isAddr.calls a0_0 true _ A2.out).mono ?_
   rintro e w' ⟨rfl, ⟨nd, rfl⟩⟩
   refine ⟨_, rfl, ?_⟩
   refine hK.out _ _ ⟨z0 _ BK101.out, z1 _ BK101.out⟩ (fun hHeld => ?_)
   clear hK K
   refine norm_ (a' := ?_) ?_ ?_
   rotate_left
   ·show Act.put _ (some 5) _ = _
    simp only [Act.put, List.setIfInBounds_toArray, List.set_cons_zero, List.set_cons_succ, i64_w, i32_w]
    rfl
   refine pu 3 (some 6) (tf 4 13) (any_of HT_.out (by kernel_rfl)) ?_
   refine pu 4 (some 7) (tf 5 12) (any_of HT_.out (by kernel_rfl)) ?_
   refine tk 5 (some 8) (tf 6 11) (take_ofW HT_.out HW_.out (by kernel_rfl)) hHeld ?_
   refine one_ (i := 6) (N := some 9) (tf 7 10) rfl rfl (one_of HT_.out (by kernel_rfl)) (by decide) (fun K hK => ?_)
   refine goes_ Try.func85 (by kernel_rfl) rfl #[.int .i64 a0_1, .int .i64 0, .int .i64 32] (by rfl) rfl rfl MT ?_
   with_reducible refine (impl_in.calls a0_1 0 32 false _ A4.out).mono ?_
   rintro e w' ⟨rfl, ⟨nd, rfl⟩⟩
   refine ⟨_, rfl, ?_⟩
   refine hK.out _ _ ⟨z0 _ BK101.out, z1 _ BK101.out⟩ (fun hHeld => ?_)
   clear hK K
   refine norm_ (a' := ?_) ?_ ?_
   rotate_left
   ·show Act.put _ (some 9) _ = _
    simp only [Act.put, List.setIfInBounds_toArray, List.set_cons_zero, List.set_cons_succ, i64_w, i32_w]
    rfl
   refine pu 7 (some 10) (tf 8 9) (any_of HT_.out (by kernel_rfl)) ?_
   refine pu 8 (some 11) (tf 9 8) (any_of HT_.out (by kernel_rfl)) ?_
   refine pn 9 (some 12) (tf 10 7) (any_of HT_.out (by kernel_rfl)) ?_
   refine pn 10 (some 13) (tf 11 6) (any_of HT_.out (by kernel_rfl)) ?_
   refine pn 11 (some 14) (tf 12 5) (any_of HT_.out (by kernel_rfl)) ?_
   refine pn 12 (some 15) (tf 13 4) (any_of HT_.out (by kernel_rfl)) ?_
   refine pn 13 (some 16) (tf 14 3) (any_of HT_.out (by kernel_rfl)) ?_
   refine pn 14 (some 17) (tf 15 2) (any_of HT_.out (by kernel_rfl)) ?_
   refine pu 15 (some 18) (tf 16 1) (any_of HT_.out (by kernel_rfl)) ?_
   refine pu 16 (some 2) (tf 17 0) (any_of HT_.out (by kernel_rfl)) ?_
   refine done_ (done_of HT_.out (by kernel_rfl)) ?_
   try go_wp2
   go_ret
   exact ⟨by first | rfl | (simp [errW_none, errW_some] <;> rfl) | (simp [*, errW_none, errW_some] <;> rfl), K1 HB GE101.out⟩
 ·replace c3 := Bool.eq_false_iff.mpr c3
  subst c3
  have H1 : (some false) = some r := by rw [if_neg (show ¬ (false = true) by decide)] at H; exact H
  clear H
  have H := H1
  clear H1
  obtain rfl := Option.some.inj H
  go_enter Try.func111, Try.ntmps111
  try go_wp2_with (first | ((with_reducible refine gate_dst (N := 1) rfl ?_); refine box_event rfl (N := 1) rfl (cs := #[.int .i64 a0_0, .int .i64 a0_1]) (t := 32) BX ?_; intro gb101 hg w13 hbox hb; have BK101 := am (hbox); have GW101 := am ((GL hg (below_size (KL HB)) : w.heap.size ≤ gb101)); have GE101 := GW101; replace HB := am (below_step (KL HB) hb); clear hb hbox hg))
  replace BK101 := am (blk_drew BK101.out)
  replace HB := am (below_drew1 HB.out)
  refine start_ (n := 17) (S := fun w' => w'.cell? ⟨gb101, 0, none⟩ = some (.int .i64 a0_0) ∧ w'.cell? ⟨gb101, 1, none⟩ = some (.int .i64 a0_1)) (ds := []) (tf 0 17) (by kernel_rfl) rfl rfl ⟨z0 _ BK101.out, z1 _ BK101.out⟩ (fun hHeld => ?_); refine with_tabW impl_BlockOk.tab1 impl_BlockOk.bits1 (fun HT_ HW_ => ?_)
  generalize w13.drew = w14 at BK101 HB hHeld ⊢
  refine pu 0 (some 3) (tf 1 16) (any_of HT_.out (by kernel_rfl)) ?_
  refine tk 1 (some 4) (tf 2 15) (take_ofW HT_.out HW_.out (by kernel_rfl)) hHeld ?_
  refine one_ (i := 2) (N := some 5) (tf 3 14) rfl rfl (one_of HT_.out (by kernel_rfl)) (by decide) (fun K hK => ?_)
  refine goes_ Try.func106 (by kernel_rfl) rfl #[.int .i64 a0_0] (by rfl) rfl rfl MT ?_
  with_reducible refine (impl_isAddr.calls a0_0 false _ A2.out).mono ?_
  rintro e w' ⟨rfl, ⟨nd, rfl⟩⟩
  refine ⟨_, rfl, ?_⟩
  refine hK.out _ _ ⟨z0 _ BK101.out, z1 _ BK101.out⟩ (fun hHeld => ?_)
  clear hK K
  refine norm_ (a' := ?_) ?_ ?_
  rotate_left
  ·show Act.put _ (some 5) _ = _
   simp only [Act.put, List.setIfInBounds_toArray, List.set_cons_zero, List.set_cons_succ, i64_w, i32_w]
   rfl
  refine pu 3 (some 6) (tf 4 13) (any_of HT_.out (by kernel_rfl)) ?_
  refine pn 4 (some 7) (tf 5 12) (any_of HT_.out (by kernel_rfl)) ?_
  refine pn 5 (some 8) (tf 6 11) (any_of HT_.out (by kernel_rfl)) ?_
  refine pn 6 (some 9) (tf 7 10) (any_of HT_.out (by kernel_rfl)) ?_
  refine pu 7 (some 10) (tf 8 9) (any_of HT_.out (by kernel_rfl)) ?_
  refine pu 8 (some 11) (tf 9 8) (any_of HT_.out (by kernel_rfl)) ?_
  refine pn 9 (some 12) (tf 10 7) (any_of HT_.out (by kernel_rfl)) ?_
  refine pn 10 (some 13) (tf 11 6) (any_of HT_.out (by kernel_rfl)) ?_
  refine pn 11 (some 14) (tf 12 5) (any_of HT_.out (by kernel_rfl)) ?_
  refine pn 12 (some 15) (tf 13 4) (any_of HT_.out (by kernel_rfl)) ?_
  refine pn 13 (some 16) (tf 14 3) (any_of HT_.out (by kernel_rfl)) ?_
  refine pn 14 (some 17) (tf 15 2) (any_of HT_.out (by kernel_rfl)) ?_
  refine pu 15 (some 18) (tf 16 1) (any_of HT_.out (by kernel_rfl)) ?_
  refine pu 16 (some 2) (tf 17 0) (any_of HT_.out (by kernel_rfl)) ?_
  refine done_ (done_of HT_.out (by kernel_rfl)) ?_
  try go_wp2
  go_ret
  exact ⟨by first | rfl | (simp [errW_none, errW_some] <;> rfl) | (simp [*, errW_none, errW_some] <;> rfl), K1 HB GE101.out⟩
end Go.Proofs.Ytioghacieopbdaa.PAll
end
section
namespace Go.Proofs.Ytioghacieopbdaa.PAll
open Go.RowKit Go.Proofs.YtioghacieopbdaaW.PrintWords Go.Proofs.YtioghacieopbdaaW.PrintLast Go.Proofs.YtioghacieopbdaaW.PrintMore
attribute [local go_sem] max2_int min2_int max_two min_two max_three min_three max_four min_four   -- for this text's walks alone
set_option linter.unusedVariables false
set_option linter.unusedSimpArgs false
def impl_Rule_right.j0 : Nat → Bool → Int → Int → Int → Int → Int → Int → Int → Int → Option (Bool)
 | 0, _, _, _, _, _, _, _, _, _ => none
 | k + 1, x3, x102000, x102001, x102002, x102003, x102004, x102005, x102006, x102007 => (impl_BlockOk.f x102002 x102003).bind fun t103 => (if t103 = true then ((impl_BlockOk.f x102004 x102005).bind fun t104 => (if t104 = true then ((impl_in.f x102006 0 x102007).bind fun t105 => (if t105 = true then (if x102007 ≤ 65535 then ((impl_in.f x102000 0 2).bind fun t106 => (if t106 = true then (some x3) else (some false))) else (some false)) else (some false))) else (some false))) else (some false))
def impl_Rule_right.f (k : Nat) (a0_0 : Int) (a0_1 : Int) (a0_2 : Int) (a0_3 : Int) (a0_4 : Int) (a0_5 : Int) (a0_6 : Int) (a0_7 : Int) : Option (Bool) := if a0_1 = 0 then (impl_Rule_right.j0 k true a0_0 a0_1 a0_2 a0_3 a0_4 a0_5 a0_6 a0_7) else (if a0_0 = 2 then ((impl_in.f a0_1 0 3).bind fun t102 => (impl_Rule_right.j0 k t102 a0_0 a0_1 a0_2 a0_3 a0_4 a0_5 a0_6 a0_7)) else (impl_Rule_right.j0 k false a0_0 a0_1 a0_2 a0_3 a0_4 a0_5 a0_6 a0_7))
set_option maxHeartbeats 8000000 in
set_option maxRecDepth 100000 in
theorem impl_Rule_right.calls (k : Nat) (a0_0 : Int) (a0_1 : Int) (a0_2 : Int) (a0_3 : Int) (a0_4 : Int) (a0_5 : Int) (a0_6 : Int) (a0_7 : Int) (r : Bool) (w : World) (h : impl_Rule_right.f k a0_0 a0_1 a0_2 a0_3 a0_4 a0_5 a0_6 a0_7 = some r) :
  Calls Try.prog 79 #[.agg #[.int .i64 a0_0, .int .i64 a0_1, .int .i64 a0_2, .int .i64 a0_3, .int .i64 a0_4, .int .i64 a0_5, .int .i64 a0_6, .int .i64 a0_7]] w fun e w' => e = .returned (.bool r) ∧ Below w.heap.size w w' := by
 have hu34 := Try.underlying34
 have hu32 := Try.underlying32
 have HB := am (Below.refl w.heap.size w)
 have H : (if a0_1 = 0 then (impl_Rule_right.j0 k true a0_0 a0_1 a0_2 a0_3 a0_4 a0_5 a0_6 a0_7) else (if a0_0 = 2 then ((impl_in.f a0_1 0 3).bind fun t102 => (impl_Rule_right.j0 k t102 a0_0 a0_1 a0_2 a0_3 a0_4 a0_5 a0_6 a0_7)) else (impl_Rule_right.j0 k false a0_0 a0_1 a0_2 a0_3 a0_4 a0_5 a0_6 a0_7))) = some r := h
 clear h
 have HC2 := Aside0.mk H
 clear H
 go_enter Try.func79, Try.ntmps79
 go_upto_region 1 with (first | ((with_reducible refine gate_dst (N := 1) rfl ?_); refine box_event rfl (N := 1) rfl (cs := #[.int .i64 a0_0, .int .i64 a0_1, .int .i64 a0_2, .int .i64 a0_3, .int .i64 a0_4, .int .i64 a0_5, .int .i64 a0_6, .int .i64 a0_7]) (t := 34) BX ?_; intro gb101 hg w3 hbox hb; have BK101 := am (hbox); have GW101 := am ((GL hg (below_size (KL HB)) : w.heap.size ≤ gb101)); have GE101 := GW101; replace HB := am (below_step (KL HB) hb); clear hb hbox hg))
 (try simp only [Act.put, List.setIfInBounds_toArray, List.set_cons_zero, List.set_cons_succ])
 go_cut [3] (fun v3 wc => ∃ (kq : Nat) (x3_1 : Bool), v3 = .bool x3_1 ∧ Aside0 (impl_Rule_right.j0 kq x3_1 a0_0 a0_1 a0_2 a0_3 a0_4 a0_5 a0_6 a0_7 = some r) ∧ Aside0 (kq ≤ k) ∧ Aside0 (wc.heap[gb101]? = some (.cells #[.int .i64 a0_0, .int .i64 a0_1, .int .i64 a0_2, .int .i64 a0_3, .int .i64 a0_4, .int .i64 a0_5, .int .i64 a0_6, .int .i64 a0_7] 34 (0, 0))) ∧ Aside0 (Below w.heap.size w wc))
 case first =>
  have H := HC2.out
  clear HC2
  by_cases c4 : a0_1 = 0
  ·rw [if_pos c4] at H
   have c4b0 : (a0_1 == 0) = true := beq_iff_eq.mpr c4
   have c4b1 : (a0_1 != 0) = false := bne_eq_false_iff_eq.mpr c4
   clear c4
   (first | rw [c4b0] | (simp only [i64_w, i32_w]; rw [c4b0]) | skip)
   have H' := Aside0.mk H
   clear H
   have hcz5_0 := z0 w3 BK101.out
   have hcz5_1 := z1 w3 BK101.out
   have hcz5_2 := z2 w3 BK101.out
   have hcz5_3 := z3 w3 BK101.out
   have hcz5_4 := z4 w3 BK101.out
   have hcz5_5 := z5 w3 BK101.out
   have hcz5_6 := z6 w3 BK101.out
   have hcz5_7 := z7 w3 BK101.out
   have hfz5_0 := blk_frozen BK101.out 0
   have hfz5_1 := blk_frozen BK101.out 1
   have hfz5_2 := blk_frozen BK101.out 2
   have hfz5_3 := blk_frozen BK101.out 3
   have hfz5_4 := blk_frozen BK101.out 4
   have hfz5_5 := blk_frozen BK101.out 5
   have hfz5_6 := blk_frozen BK101.out 6
   have hfz5_7 := blk_frozen BK101.out 7
   go_wp2
   go_meet
   case rel => exact ⟨_, (true), (by first | rfl | (simp; done) | (simp [*]; done)), H', ⟨by first | omega | exact Nat.le_refl _⟩, ⟨KB BK101⟩, ⟨K1 HB GE101.out⟩⟩
  ·rw [if_neg c4] at H
   have c4b0 : (a0_1 == 0) = false := beq_eq_false_iff_ne.mpr c4
   have c4b1 : (a0_1 != 0) = true := bne_iff_ne.mpr c4
   (first | rw [c4b0] | (simp only [i64_w, i32_w]; rw [c4b0]) | skip)
   by_cases c6 : a0_0 = 2
   ·rw [if_pos c6] at H
    have c6b0 : (a0_0 == 2) = true := beq_iff_eq.mpr c6
    have c6b1 : (a0_0 != 2) = false := bne_eq_false_iff_eq.mpr c6
    clear c6
    replace H := Option.bind_eq_some_iff.mp H
    obtain ⟨t102, A70, H⟩ := H
    replace H : (impl_Rule_right.j0 k t102 a0_0 a0_1 a0_2 a0_3 a0_4 a0_5 a0_6 a0_7) = some r := H
    have A7 := Aside0.mk A70
    clear A70
    have H' := Aside0.mk H
    clear H
    have hcz8_0 := z0 w3 BK101.out
    have hcz8_1 := z1 w3 BK101.out
    have hcz8_2 := z2 w3 BK101.out
    have hcz8_3 := z3 w3 BK101.out
    have hcz8_4 := z4 w3 BK101.out
    have hcz8_5 := z5 w3 BK101.out
    have hcz8_6 := z6 w3 BK101.out
    have hcz8_7 := z7 w3 BK101.out
    have hfz8_0 := blk_frozen BK101.out 0
    have hfz8_1 := blk_frozen BK101.out 1
    have hfz8_2 := blk_frozen BK101.out 2
    have hfz8_3 := blk_frozen BK101.out 3
    have hfz8_4 := blk_frozen BK101.out 4
    have hfz8_5 := blk_frozen BK101.out 5
    have hfz8_6 := blk_frozen BK101.out 6
    have hfz8_7 := blk_frozen BK101.out 7
    go_wp2_with (first | (go_at_call 85; (with_reducible refine (impl_in.calls a0_1 0 3 t102 _ A7.out).mono ?_); rintro e w' ⟨rfl, ⟨nd, rfl⟩⟩))
    go_meet
    case rel => exact ⟨_, (t102), (by first | rfl | (simp; done) | (simp [*]; done)), H', ⟨by first | omega | exact Nat.le_refl _⟩, ⟨KB BK101⟩, ⟨K1 HB GE101.out⟩⟩
   ·rw [if_neg c6] at H
    have c6b0 : (a0_0 == 2) = false := beq_eq_false_iff_ne.mpr c6
    have c6b1 : (a0_0 != 2) = true := bne_iff_ne.mpr c6
    have H' := Aside0.mk H
    clear H
    have hcz9_0 := z0 w3 BK101.out
    have hcz9_1 := z1 w3 BK101.out
    have hcz9_2 := z2 w3 BK101.out
    have hcz9_3 := z3 w3 BK101.out
    have hcz9_4 := z4 w3 BK101.out
    have hcz9_5 := z5 w3 BK101.out
    have hcz9_6 := z6 w3 BK101.out
    have hcz9_7 := z7 w3 BK101.out
    have hfz9_0 := blk_frozen BK101.out 0
    have hfz9_1 := blk_frozen BK101.out 1
    have hfz9_2 := blk_frozen BK101.out 2
    have hfz9_3 := blk_frozen BK101.out 3
    have hfz9_4 := blk_frozen BK101.out 4
    have hfz9_5 := blk_frozen BK101.out 5
    have hfz9_6 := blk_frozen BK101.out 6
    have hfz9_7 := blk_frozen BK101.out 7
    go_wp2
    go_meet
    case rel => exact ⟨_, (false), (by first | rfl | (simp; done) | (simp [*]; done)), H', ⟨by first | omega | exact Nat.le_refl _⟩, ⟨KB BK101⟩, ⟨K1 HB GE101.out⟩⟩
 case rest =>
  clear HC2
  try clear p2
  try clear c4
  try clear c4b0
  try clear c4b1
  try clear c6
  try clear c6b0
  try clear c6b1
  try clear c7
  try clear hcz5_0
  try clear hcz5_1
  try clear hcz5_2
  try clear hcz5_3
  try clear hcz5_4
  try clear hcz5_5
  try clear hcz5_6
  try clear hcz5_7
  try clear hcz8_0
  try clear hcz8_1
  try clear hcz8_2
  try clear hcz8_3
  try clear hcz8_4
  try clear hcz8_5
  try clear hcz8_6
  try clear hcz8_7
  try clear hcz9_0
  try clear hcz9_1
  try clear hcz9_2
  try clear hcz9_3
  try clear hcz9_4
  try clear hcz9_5
  try clear hcz9_6
  try clear hcz9_7
  try clear hfz5_0
  try clear hfz5_1
  try clear hfz5_2
  try clear hfz5_3
  try clear hfz5_4
  try clear hfz5_5
  try clear hfz5_6
  try clear hfz5_7
  try clear hfz8_0
  try clear hfz8_1
  try clear hfz8_2
  try clear hfz8_3
  try clear hfz8_4
  try clear hfz8_5
  try clear hfz8_6
  try clear hfz8_7
  try clear hfz9_0
  try clear hfz9_1
  try clear hfz9_2
  try clear hfz9_3
  try clear hfz9_4
  try clear hfz9_5
  try clear hfz9_6
  try clear hfz9_7
  obtain ⟨kq, x3_1, rfl, HA, HJ1, BK101, HB⟩ := hcut
  cases kq with
  | zero => exact absurd HA.out (by simp [impl_Rule_right.j0])
  | succ kj1 =>
   have H := HA.out
   clear HA
   simp only [impl_Rule_right.j0] at H
   replace H := Option.bind_eq_some_iff.mp H
   obtain ⟨t103, A100, H⟩ := H
   replace H : (if t103 = true then ((impl_BlockOk.f a0_4 a0_5).bind fun t104 => (if t104 = true then ((impl_in.f a0_6 0 a0_7).bind fun t105 => (if t105 = true then (if a0_7 ≤ 65535 then ((impl_in.f a0_0 0 2).bind fun t106 => (if t106 = true then (some x3_1) else (some false))) else (some false)) else (some false))) else (some false))) else (some false)) = some r := H
   have A10 := Aside0.mk A100
   clear A100
   by_cases c11 : t103 = true
   ·subst c11
    have H1 : ((impl_BlockOk.f a0_4 a0_5).bind fun t104 => (if t104 = true then ((impl_in.f a0_6 0 a0_7).bind fun t105 => (if t105 = true then (if a0_7 ≤ 65535 then ((impl_in.f a0_0 0 2).bind fun t106 => (if t106 = true then (some x3_1) else (some false))) else (some false)) else (some false))) else (some false))) = some r := by rw [if_pos rfl] at H; exact H
    clear H
    have H := H1
    clear H1
    replace H := Option.bind_eq_some_iff.mp H
    obtain ⟨t104, A120, H⟩ := H
    replace H : (if t104 = true then ((impl_in.f a0_6 0 a0_7).bind fun t105 => (if t105 = true then (if a0_7 ≤ 65535 then ((impl_in.f a0_0 0 2).bind fun t106 => (if t106 = true then (some x3_1) else (some false))) else (some false)) else (some false))) else (some false)) = some r := H
    have A12 := Aside0.mk A120
    clear A120
    by_cases c13 : t104 = true
    ·subst c13
     have H1 : ((impl_in.f a0_6 0 a0_7).bind fun t105 => (if t105 = true then (if a0_7 ≤ 65535 then ((impl_in.f a0_0 0 2).bind fun t106 => (if t106 = true then (some x3_1) else (some false))) else (some false)) else (some false))) = some r := by rw [if_pos rfl] at H; exact H
     clear H
     have H := H1
     clear H1
     replace H := Option.bind_eq_some_iff.mp H
     obtain ⟨t105, A140, H⟩ := H
     replace H : (if t105 = true then (if a0_7 ≤ 65535 then ((impl_in.f a0_0 0 2).bind fun t106 => (if t106 = true then (some x3_1) else (some false))) else (some false)) else (some false)) = some r := H
     have A14 := Aside0.mk A140
     clear A140
     by_cases c15 : t105 = true
     ·subst c15
      have H1 : (if a0_7 ≤ 65535 then ((impl_in.f a0_0 0 2).bind fun t106 => (if t106 = true then (some x3_1) else (some false))) else (some false)) = some r := by rw [if_pos rfl] at H; exact H
      clear H
      have H := H1
      clear H1
      by_cases c16 : a0_7 ≤ 65535
      ·rw [if_pos c16] at H
       have c16b0 : decide (a0_7 ≤ 65535) = true := decide_eq_true c16
       clear c16
       replace H := Option.bind_eq_some_iff.mp H
       obtain ⟨t106, A170, H⟩ := H
       replace H : (if t106 = true then (some x3_1) else (some false)) = some r := H
       have A17 := Aside0.mk A170
       clear A170
       by_cases c18 : t106 = true
       ·subst c18
        have H1 : (some x3_1) = some r := by rw [if_pos rfl] at H; exact H
        clear H
        have H := H1
        clear H1
        obtain rfl := Option.some.inj H
        have hcz19_0 := z0 wc BK101.out
        have hcz19_1 := z1 wc BK101.out
        have hcz19_2 := z2 wc BK101.out
        have hcz19_3 := z3 wc BK101.out
        have hcz19_4 := z4 wc BK101.out
        have hcz19_5 := z5 wc BK101.out
        have hcz19_6 := z6 wc BK101.out
        have hcz19_7 := z7 wc BK101.out
        have hfz19_0 := blk_frozen BK101.out 0
        have hfz19_1 := blk_frozen BK101.out 1
        have hfz19_2 := blk_frozen BK101.out 2
        have hfz19_3 := blk_frozen BK101.out 3
        have hfz19_4 := blk_frozen BK101.out 4
        have hfz19_5 := blk_frozen BK101.out 5
        have hfz19_6 := blk_frozen BK101.out 6
        have hfz19_7 := blk_frozen BK101.out 7
        go_wp2_with (first | ((with_reducible refine gate_callee (f := 111) rfl ?_); refine goesL_ (some 19) rfl rfl Try.func111 (by kernel_rfl) rfl #[.agg #[.int .i64 a0_2, .int .i64 a0_3]] rfl MT ?_; (with_reducible refine (impl_BlockOk.calls a0_2 a0_3 true _ A10.out).mono ?_); rintro e w20 ⟨rfl, hb⟩; refine ⟨_, rfl, ?_⟩; replace BK101 := am (BB BK101 hb); replace HB := am (below_step (K1 HB GE101.out) hb); (try clear hb); (try clear hb2); (try clear hk); (try clear hi); have hcz21_0 := z0 w20 BK101.out; have hcz21_1 := z1 w20 BK101.out; have hcz21_2 := z2 w20 BK101.out; have hcz21_3 := z3 w20 BK101.out; have hcz21_4 := z4 w20 BK101.out; have hcz21_5 := z5 w20 BK101.out; have hcz21_6 := z6 w20 BK101.out; have hcz21_7 := z7 w20 BK101.out; have hfz21_0 := blk_frozen BK101.out 0; have hfz21_1 := blk_frozen BK101.out 1; have hfz21_2 := blk_frozen BK101.out 2; have hfz21_3 := blk_frozen BK101.out 3; have hfz21_4 := blk_frozen BK101.out 4; have hfz21_5 := blk_frozen BK101.out 5; have hfz21_6 := blk_frozen BK101.out 6; have hfz21_7 := blk_frozen BK101.out 7) | (go_at_call 111; (with_reducible refine (impl_BlockOk.calls a0_4 a0_5 true _ A12.out).mono ?_); rintro e w22 ⟨rfl, hb⟩; replace BK101 := am (BB BK101 hb); replace HB := am (below_step (K1 HB GE101.out) hb); (try clear hb); (try clear hb2); (try clear hk); (try clear hi); have hcz23_0 := z0 w22 BK101.out; have hcz23_1 := z1 w22 BK101.out; have hcz23_2 := z2 w22 BK101.out; have hcz23_3 := z3 w22 BK101.out; have hcz23_4 := z4 w22 BK101.out; have hcz23_5 := z5 w22 BK101.out; have hcz23_6 := z6 w22 BK101.out; have hcz23_7 := z7 w22 BK101.out; have hfz23_0 := blk_frozen BK101.out 0; have hfz23_1 := blk_frozen BK101.out 1; have hfz23_2 := blk_frozen BK101.out 2; have hfz23_3 := blk_frozen BK101.out 3; have hfz23_4 := blk_frozen BK101.out 4; have hfz23_5 := blk_frozen BK101.out 5; have hfz23_6 := blk_frozen BK101.out 6; have hfz23_7 := blk_frozen BK101.out 7) | (go_at_call 85; (with_reducible refine (impl_in.calls a0_6 0 a0_7 true _ A14.out).mono ?_); rintro e w' ⟨rfl, ⟨nd, rfl⟩⟩) | (go_at_call 85; (with_reducible refine (impl_in.calls a0_0 0 2 true _ A17.out).mono ?_); rintro e w' ⟨rfl, ⟨nd, rfl⟩⟩))
        go_ret
        exact ⟨by first | rfl | (simp [errW_none, errW_some] <;> rfl) | (simp [*, errW_none, errW_some] <;> rfl), K1 HB GE101.out⟩
       ·replace c18 := Bool.eq_false_iff.mpr c18
        subst c18
        have H1 : (some false) = some r := by rw [if_neg (show ¬ (false = true) by decide)] at H; exact H
        clear H
        have H := H1
        clear H1
        obtain rfl := Option.some.inj H
        have hcz24_0 := z0 wc BK101.out
        have hcz24_1 := z1 wc BK101.out
        have hcz24_2 := z2 wc BK101.out
        have hcz24_3 := z3 wc BK101.out
        have hcz24_4 := z4 wc BK101.out
        have hcz24_5 := z5 wc BK101.out
        have hcz24_6 := z6 wc BK101.out
        have hcz24_7 := z7 wc BK101.out
        have hfz24_0 := blk_frozen BK101.out 0
        have hfz24_1 := blk_frozen BK101.out 1
        have hfz24_2 := blk_frozen BK101.out 2
        have hfz24_3 := blk_frozen BK101.out 3
        have hfz24_4 := blk_frozen BK101.out 4
        have hfz24_5 := blk_frozen BK101.out 5
        have hfz24_6 := blk_frozen BK101.out 6
        have hfz24_7 := blk_frozen BK101.out 7
        go_wp2_with (first | ((with_reducible refine gate_callee (f := 111) rfl ?_); refine goesL_ (some 19) rfl rfl Try.func111 (by kernel_rfl) rfl #[.agg #[.int .i64 a0_2, .int .i64 a0_3]] rfl MT ?_; (with_reducible refine (impl_BlockOk.calls a0_2 a0_3 true _ A10.out).mono ?_); rintro e w25 ⟨rfl, hb⟩; refine ⟨_, rfl, ?_⟩; replace BK101 := am (BB BK101 hb); replace HB := am (below_step (K1 HB GE101.out) hb); (try clear hb); (try clear hb2); (try clear hk); (try clear hi); have hcz26_0 := z0 w25 BK101.out; have hcz26_1 := z1 w25 BK101.out; have hcz26_2 := z2 w25 BK101.out; have hcz26_3 := z3 w25 BK101.out; have hcz26_4 := z4 w25 BK101.out; have hcz26_5 := z5 w25 BK101.out; have hcz26_6 := z6 w25 BK101.out; have hcz26_7 := z7 w25 BK101.out; have hfz26_0 := blk_frozen BK101.out 0; have hfz26_1 := blk_frozen BK101.out 1; have hfz26_2 := blk_frozen BK101.out 2; have hfz26_3 := blk_frozen BK101.out 3; have hfz26_4 := blk_frozen BK101.out 4; have hfz26_5 := blk_frozen BK101.out 5; have hfz26_6 := blk_frozen BK101.out 6; have hfz26_7 := blk_frozen BK101.out 7) | (go_at_call 111; (with_reducible refine (impl_BlockOk.calls a0_4 a0_5 true _ A12.out).mono ?_); rintro e w27 ⟨rfl, hb⟩; replace BK101 := am (BB BK101 hb); replace HB := am (below_step (K1 HB GE101.out) hb); (try clear hb); (try clear hb2); (try clear hk); (try clear hi); have hcz28_0 := z0 w27 BK101.out; have hcz28_1 := z1 w27 BK101.out; have hcz28_2 := z2 w27 BK101.out; have hcz28_3 := z3 w27 BK101.out; have hcz28_4 := z4 w27 BK101.out; have hcz28_5 := z5 w27 BK101.out; have hcz28_6 := z6 w27 BK101.out; have hcz28_7 := z7 w27 BK101.out; have hfz28_0 := blk_frozen BK101.out 0; have hfz28_1 := blk_frozen BK101.out 1; have hfz28_2 := blk_frozen BK101.out 2; have hfz28_3 := blk_frozen BK101.out 3; have hfz28_4 := blk_frozen BK101.out 4; have hfz28_5 := blk_frozen BK101.out 5; have hfz28_6 := blk_frozen BK101.out 6; have hfz28_7 := blk_frozen BK101.out 7) | (go_at_call 85; (with_reducible refine (impl_in.calls a0_6 0 a0_7 true _ A14.out).mono ?_); rintro e w' ⟨rfl, ⟨nd, rfl⟩⟩) | (go_at_call 85; (with_reducible refine (impl_in.calls a0_0 0 2 false _ A17.out).mono ?_); rintro e w' ⟨rfl, ⟨nd, rfl⟩⟩))
        go_ret
        exact ⟨by first | rfl | (simp [errW_none, errW_some] <;> rfl) | (simp [*, errW_none, errW_some] <;> rfl), K1 HB GE101.out⟩
      ·rw [if_neg c16] at H
       have c16b0 : decide (a0_7 ≤ 65535) = false := decide_eq_false c16
       clear c16
       obtain rfl := Option.some.inj H
       have hcz29_0 := z0 wc BK101.out
       have hcz29_1 := z1 wc BK101.out
       have hcz29_2 := z2 wc BK101.out
       have hcz29_3 := z3 wc BK101.out
       have hcz29_4 := z4 wc BK101.out
       have hcz29_5 := z5 wc BK101.out
       have hcz29_6 := z6 wc BK101.out
       have hcz29_7 := z7 wc BK101.out
       have hfz29_0 := blk_frozen BK101.out 0
       have hfz29_1 := blk_frozen BK101.out 1
       have hfz29_2 := blk_frozen BK101.out 2
       have hfz29_3 := blk_frozen BK101.out 3
       have hfz29_4 := blk_frozen BK101.out 4
       have hfz29_5 := blk_frozen BK101.out 5
       have hfz29_6 := blk_frozen BK101.out 6
       have hfz29_7 := blk_frozen BK101.out 7
       go_wp2_with (first | ((with_reducible refine gate_callee (f := 111) rfl ?_); refine goesL_ (some 19) rfl rfl Try.func111 (by kernel_rfl) rfl #[.agg #[.int .i64 a0_2, .int .i64 a0_3]] rfl MT ?_; (with_reducible refine (impl_BlockOk.calls a0_2 a0_3 true _ A10.out).mono ?_); rintro e w30 ⟨rfl, hb⟩; refine ⟨_, rfl, ?_⟩; replace BK101 := am (BB BK101 hb); replace HB := am (below_step (K1 HB GE101.out) hb); (try clear hb); (try clear hb2); (try clear hk); (try clear hi); have hcz31_0 := z0 w30 BK101.out; have hcz31_1 := z1 w30 BK101.out; have hcz31_2 := z2 w30 BK101.out; have hcz31_3 := z3 w30 BK101.out; have hcz31_4 := z4 w30 BK101.out; have hcz31_5 := z5 w30 BK101.out; have hcz31_6 := z6 w30 BK101.out; have hcz31_7 := z7 w30 BK101.out; have hfz31_0 := blk_frozen BK101.out 0; have hfz31_1 := blk_frozen BK101.out 1; have hfz31_2 := blk_frozen BK101.out 2; have hfz31_3 := blk_frozen BK101.out 3; have hfz31_4 := blk_frozen BK101.out 4; have hfz31_5 := blk_frozen BK101.out 5; have hfz31_6 := blk_frozen BK101.out 6; have hfz31_7 := blk_frozen BK101.out 7) | (go_at_call 111; (with_reducible refine (impl_BlockOk.calls a0_4 a0_5 true _ A12.out).mono ?_); rintro e w32 ⟨rfl, hb⟩; replace BK101 := am (BB BK101 hb); replace HB := am (below_step (K1 HB GE101.out) hb); (try clear hb); (try clear hb2); (try clear hk); (try clear hi); have hcz33_0 := z0 w32 BK101.out; have hcz33_1 := z1 w32 BK101.out; have hcz33_2 := z2 w32 BK101.out; have hcz33_3 := z3 w32 BK101.out; have hcz33_4 := z4 w32 BK101.out; have hcz33_5 := z5 w32 BK101.out; have hcz33_6 := z6 w32 BK101.out; have hcz33_7 := z7 w32 BK101.out; have hfz33_0 := blk_frozen BK101.out 0; have hfz33_1 := blk_frozen BK101.out 1; have hfz33_2 := blk_frozen BK101.out 2; have hfz33_3 := blk_frozen BK101.out 3; have hfz33_4 := blk_frozen BK101.out 4; have hfz33_5 := blk_frozen BK101.out 5; have hfz33_6 := blk_frozen BK101.out 6; have hfz33_7 := blk_frozen BK101.out 7) | (go_at_call 85; (with_reducible refine (impl_in.calls a0_6 0 a0_7 true _ A14.out).mono ?_); rintro e w' ⟨rfl, ⟨nd, rfl⟩⟩))
       go_ret
       exact ⟨by first | rfl | (simp [errW_none, errW_some] <;> rfl) | (simp [*, errW_none, errW_some] <;> rfl), K1 HB GE101.out⟩
     ·replace c15 := Bool.eq_false_iff.mpr c15
      subst c15
      have H1 : (some false) = some r := by rw [if_neg (show ¬ (false = true) by decide)] at H; exact H
      clear H
      have H := H1
      clear H1
      obtain rfl := Option.some.inj H
      have hcz34_0 := z0 wc BK101.out
      have hcz34_1 := z1 wc BK101.out
      have hcz34_2 := z2 wc BK101.out
      have hcz34_3 := z3 wc BK101.out
      have hcz34_4 := z4 wc BK101.out
      have hcz34_5 := z5 wc BK101.out
      have hcz34_6 := z6 wc BK101.out
      have hcz34_7 := z7 wc BK101.out
      have hfz34_0 := blk_frozen BK101.out 0
      have hfz34_1 := blk_frozen BK101.out 1
      have hfz34_2 := blk_frozen BK101.out 2
      have hfz34_3 := blk_frozen BK101.out 3
      have hfz34_4 := blk_frozen BK101.out 4
      have hfz34_5 := blk_frozen BK101.out 5
      have hfz34_6 := blk_frozen BK101.out 6
      have hfz34_7 := blk_frozen BK101.out 7
      go_wp2_with (first | ((with_reducible refine gate_callee (f := 111) rfl ?_); refine goesL_ (some 19) rfl rfl Try.func111 (by kernel_rfl) rfl #[.agg #[.int .i64 a0_2, .int .i64 a0_3]] rfl MT ?_; (with_reducible refine (impl_BlockOk.calls a0_2 a0_3 true _ A10.out).mono ?_); rintro e w35 ⟨rfl, hb⟩; refine ⟨_, rfl, ?_⟩; replace BK101 := am (BB BK101 hb); replace HB := am (below_step (K1 HB GE101.out) hb); (try clear hb); (try clear hb2); (try clear hk); (try clear hi); have hcz36_0 := z0 w35 BK101.out; have hcz36_1 := z1 w35 BK101.out; have hcz36_2 := z2 w35 BK101.out; have hcz36_3 := z3 w35 BK101.out; have hcz36_4 := z4 w35 BK101.out; have hcz36_5 := z5 w35 BK101.out; have hcz36_6 := z6 w35 BK101.out; have hcz36_7 := z7 w35 BK101.out; have hfz36_0 := blk_frozen BK101.out 0; have hfz36_1 := blk_frozen BK101.out 1; have hfz36_2 := blk_frozen BK101.out 2; have hfz36_3 := blk_frozen BK101.out 3; have hfz36_4 := blk_frozen BK101.out 4; have hfz36_5 := blk_frozen BK101.out 5; have hfz36_6 := blk_frozen BK101.out 6; have hfz36_7 := blk_frozen BK101.out 7) | (go_at_call 111; (with_reducible refine (impl_BlockOk.calls a0_4 a0_5 true _ A12.out).mono ?_); rintro e w37 ⟨rfl, hb⟩; replace BK101 := am (BB BK101 hb); replace HB := am (below_step (K1 HB GE101.out) hb); (try clear hb); (try clear hb2); (try clear hk); (try clear hi); have hcz38_0 := z0 w37 BK101.out; have hcz38_1 := z1 w37 BK101.out; have hcz38_2 := z2 w37 BK101.out; have hcz38_3 := z3 w37 BK101.out; have hcz38_4 := z4 w37 BK101.out; have hcz38_5 := z5 w37 BK101.out; have hcz38_6 := z6 w37 BK101.out; have hcz38_7 := z7 w37 BK101.out; have hfz38_0 := blk_frozen BK101.out 0; have hfz38_1 := blk_frozen BK101.out 1; have hfz38_2 := blk_frozen BK101.out 2; have hfz38_3 := blk_frozen BK101.out 3; have hfz38_4 := blk_frozen BK101.out 4; have hfz38_5 := blk_frozen BK101.out 5; have hfz38_6 := blk_frozen BK101.out 6; have hfz38_7 := blk_frozen BK101.out 7) | (go_at_call 85; (with_reducible refine (impl_in.calls a0_6 0 a0_7 false _ A14.out).mono ?_); rintro e w' ⟨rfl, ⟨nd, rfl⟩⟩))
      go_ret
      exact ⟨by first | rfl | (simp [errW_none, errW_some] <;> rfl) | (simp [*, errW_none, errW_some] <;> rfl), K1 HB GE101.out⟩
    ·replace c13 := Bool.eq_false_iff.mpr c13
     subst c13
     have H1 : (some false) = some r := by rw [if_neg (show ¬ (false = true) by decide)] at H; exact H
     clear H
     have H := H1
     clear H1
     obtain rfl := Option.some.inj H
     have hcz39_0 := z0 wc BK101.out
     have hcz39_1 := z1 wc BK101.out
     have hcz39_2 := z2 wc BK101.out
     have hcz39_3 := z3 wc BK101.out
     have hcz39_4 := z4 wc BK101.out
     have hcz39_5 := z5 wc BK101.out
     have hcz39_6 := z6 wc BK101.out
     have hcz39_7 := z7 wc BK101.out
     have hfz39_0 := blk_frozen BK101.out 0
     have hfz39_1 := blk_frozen BK101.out 1
     have hfz39_2 := blk_frozen BK101.out 2
     have hfz39_3 := blk_frozen BK101.out 3
     have hfz39_4 := blk_frozen BK101.out 4
     have hfz39_5 := blk_frozen BK101.out 5
     have hfz39_6 := blk_frozen BK101.out 6
     have hfz39_7 := blk_frozen BK101.out 7
     go_wp2_with (first | ((with_reducible refine gate_callee (f := 111) rfl ?_); refine goesL_ (some 19) rfl rfl Try.func111 (by kernel_rfl) rfl #[.agg #[.int .i64 a0_2, .int .i64 a0_3]] rfl MT ?_; (with_reducible refine (impl_BlockOk.calls a0_2 a0_3 true _ A10.out).mono ?_); rintro e w40 ⟨rfl, hb⟩; refine ⟨_, rfl, ?_⟩; replace BK101 := am (BB BK101 hb); replace HB := am (below_step (K1 HB GE101.out) hb); (try clear hb); (try clear hb2); (try clear hk); (try clear hi); have hcz41_0 := z0 w40 BK101.out; have hcz41_1 := z1 w40 BK101.out; have hcz41_2 := z2 w40 BK101.out; have hcz41_3 := z3 w40 BK101.out; have hcz41_4 := z4 w40 BK101.out; have hcz41_5 := z5 w40 BK101.out; have hcz41_6 := z6 w40 BK101.out; have hcz41_7 := z7 w40 BK101.out; have hfz41_0 := blk_frozen BK101.out 0; have hfz41_1 := blk_frozen BK101.out 1; have hfz41_2 := blk_frozen BK101.out 2; have hfz41_3 := blk_frozen BK101.out 3; have hfz41_4 := blk_frozen BK101.out 4; have hfz41_5 := blk_frozen BK101.out 5; have hfz41_6 := blk_frozen BK101.out 6; have hfz41_7 := blk_frozen BK101.out 7) | (go_at_call 111; (with_reducible refine (impl_BlockOk.calls a0_4 a0_5 false _ A12.out).mono ?_); rintro e w42 ⟨rfl, hb⟩; replace BK101 := am (BB BK101 hb); replace HB := am (below_step (K1 HB GE101.out) hb); (try clear hb); (try clear hb2); (try clear hk); (try clear hi)))
     go_ret
     exact ⟨by first | rfl | (simp [errW_none, errW_some] <;> rfl) | (simp [*, errW_none, errW_some] <;> rfl), K1 HB GE101.out⟩
   ·replace c11 := Bool.eq_false_iff.mpr c11
    subst c11
    have H1 : (some false) = some r := by rw [if_neg (show ¬ (false = true) by decide)] at H; exact H
    clear H
    have H := H1
    clear H1
    obtain rfl := Option.some.inj H
    have hcz43_0 := z0 wc BK101.out
    have hcz43_1 := z1 wc BK101.out
    have hcz43_2 := z2 wc BK101.out
    have hcz43_3 := z3 wc BK101.out
    have hcz43_4 := z4 wc BK101.out
    have hcz43_5 := z5 wc BK101.out
    have hcz43_6 := z6 wc BK101.out
    have hcz43_7 := z7 wc BK101.out
    have hfz43_0 := blk_frozen BK101.out 0
    have hfz43_1 := blk_frozen BK101.out 1
    have hfz43_2 := blk_frozen BK101.out 2
    have hfz43_3 := blk_frozen BK101.out 3
    have hfz43_4 := blk_frozen BK101.out 4
    have hfz43_5 := blk_frozen BK101.out 5
    have hfz43_6 := blk_frozen BK101.out 6
    have hfz43_7 := blk_frozen BK101.out 7
    go_wp2_with (first | ((with_reducible refine gate_callee (f := 111) rfl ?_); refine goesL_ (some 19) rfl rfl Try.func111 (by kernel_rfl) rfl #[.agg #[.int .i64 a0_2, .int .i64 a0_3]] rfl MT ?_; (with_reducible refine (impl_BlockOk.calls a0_2 a0_3 false _ A10.out).mono ?_); rintro e w44 ⟨rfl, hb⟩; refine ⟨_, rfl, ?_⟩; replace BK101 := am (BB BK101 hb); replace HB := am (below_step (K1 HB GE101.out) hb); (try clear hb); (try clear hb2); (try clear hk); (try clear hi)))
    go_ret
    exact ⟨by first | rfl | (simp [errW_none, errW_some] <;> rfl) | (simp [*, errW_none, errW_some] <;> rfl), K1 HB GE101.out⟩
end Go.Proofs.Ytioghacieopbdaa.PAll
end
section
namespace Go.Proofs.Ytioghacieopbdaa.PAll
open Go.RowKit Go.Proofs.YtioghacieopbdaaW.PrintWords Go.Proofs.YtioghacieopbdaaW.PrintLast Go.Proofs.YtioghacieopbdaaW.PrintMore
attribute [local go_sem] max2_int min2_int max_two min_two max_three min_three max_four min_four   -- for this text's walks alone
set_option linter.unusedVariables false
set_option linter.unusedSimpArgs false
def impl_isCall.f (a0_0 : Int) (a0_1 : Int) (a0_2 : Int) : Option (Bool) := (impl_isAddr.f a0_0).bind fun t102 => (if t102 = true then ((impl_isAddr.f a0_1).bind fun t103 => (if t103 = true then ((impl_in.f a0_2 0 65535).bind fun t104 => (some t104)) else (some false))) else (some false))
set_option maxHeartbeats 8000000 in
set_option maxRecDepth 100000 in
theorem impl_isCall.calls (a0_0 : Int) (a0_1 : Int) (a0_2 : Int) (r : Bool) (w : World) (h : impl_isCall.f a0_0 a0_1 a0_2 = some r) :
  Calls Try.prog 73 #[.agg #[.int .i64 a0_0, .int .i64 a0_1, .int .i64 a0_2]] w fun e w' => e = .returned (.bool r) ∧ Below w.heap.size w w' := by
 have hu25 := Try.underlying25
 have HB := am (Below.refl w.heap.size w)
 have H : ((impl_isAddr.f a0_0).bind fun t102 => (if t102 = true then ((impl_isAddr.f a0_1).bind fun t103 => (if t103 = true then ((impl_in.f a0_2 0 65535).bind fun t104 => (some t104)) else (some false))) else (some false))) = some r := h
 clear h
 replace H := Option.bind_eq_some_iff.mp H
 obtain ⟨t102, A20, H⟩ := H
 replace H : (if t102 = true then ((impl_isAddr.f a0_1).bind fun t103 => (if t103 = true then ((impl_in.f a0_2 0 65535).bind fun t104 => (some t104)) else (some false))) else (some false)) = some r := H
 have A2 := Aside0.mk A20
 clear A20
 by_cases c3 : t102 = true
 ·subst c3
  have H1 : ((impl_isAddr.f a0_1).bind fun t103 => (if t103 = true then ((impl_in.f a0_2 0 65535).bind fun t104 => (some t104)) else (some false))) = some r := by rw [if_pos rfl] at H; exact H
  clear H
  have H := H1
  clear H1
  replace H := Option.bind_eq_some_iff.mp H
  obtain ⟨t103, A40, H⟩ := H
  replace H : (if t103 = true then ((impl_in.f a0_2 0 65535).bind fun t104 => (some t104)) else (some false)) = some r := H
  have A4 := Aside0.mk A40
  clear A40
  by_cases c5 : t103 = true
  ·subst c5
   have H1 : ((impl_in.f a0_2 0 65535).bind fun t104 => (some t104)) = some r := by rw [if_pos rfl] at H; exact H
   clear H
   have H := H1
   clear H1
   replace H := Option.bind_eq_some_iff.mp H
   obtain ⟨t104, A60, H⟩ := H
   replace H : (some t104) = some r := H
   have A6 := Aside0.mk A60
   clear A60
   obtain rfl := Option.some.inj H
   go_enter Try.func73, Try.ntmps73
   go_wp2_with (first | ((with_reducible refine gate_dst (N := 1) rfl ?_); refine box_event rfl (N := 1) rfl (cs := #[.int .i64 a0_0, .int .i64 a0_1, .int .i64 a0_2]) (t := 25) BX ?_; intro gb101 hg w7 hbox hb; have BK101 := am (hbox); have GW101 := am ((GL hg (below_size (KL HB)) : w.heap.size ≤ gb101)); have GE101 := GW101; replace HB := am (below_step (KL HB) hb); clear hb hbox hg; have hcz8_0 := z0 w7 BK101.out; have hcz8_1 := z1 w7 BK101.out; have hcz8_2 := z2 w7 BK101.out; have hfz8_0 := blk_frozen BK101.out 0; have hfz8_1 := blk_frozen BK101.out 1; have hfz8_2 := blk_frozen BK101.out 2) | ((with_reducible refine gate_callee (f := 106) rfl ?_); refine goesL_ (some 5) rfl rfl Try.func106 (by kernel_rfl) rfl #[.int .i64 a0_0] rfl MT ?_; (with_reducible refine (impl_isAddr.calls a0_0 true _ A2.out).mono ?_); rintro e w' ⟨rfl, ⟨nd, rfl⟩⟩; refine ⟨_, rfl, ?_⟩) | (go_at_call 106; (with_reducible refine (impl_isAddr.calls a0_1 true _ A4.out).mono ?_); rintro e w' ⟨rfl, ⟨nd, rfl⟩⟩) | (go_at_call 85; (with_reducible refine (impl_in.calls a0_2 0 65535 t104 _ A6.out).mono ?_); rintro e w' ⟨rfl, ⟨nd, rfl⟩⟩))
   go_ret
   exact ⟨by first | rfl | (simp [errW_none, errW_some] <;> rfl) | (simp [*, errW_none, errW_some] <;> rfl), K1 HB GE101.out⟩
  ·replace c5 := Bool.eq_false_iff.mpr c5
   subst c5
   have H1 : (some false) = some r := by rw [if_neg (show ¬ (false = true) by decide)] at H; exact H
   clear H
   have H := H1
   clear H1
   obtain rfl := Option.some.inj H
   go_enter Try.func73, Try.ntmps73
   go_wp2_with (first | ((with_reducible refine gate_dst (N := 1) rfl ?_); refine box_event rfl (N := 1) rfl (cs := #[.int .i64 a0_0, .int .i64 a0_1, .int .i64 a0_2]) (t := 25) BX ?_; intro gb101 hg w9 hbox hb; have BK101 := am (hbox); have GW101 := am ((GL hg (below_size (KL HB)) : w.heap.size ≤ gb101)); have GE101 := GW101; replace HB := am (below_step (KL HB) hb); clear hb hbox hg; have hcz10_0 := z0 w9 BK101.out; have hcz10_1 := z1 w9 BK101.out; have hcz10_2 := z2 w9 BK101.out; have hfz10_0 := blk_frozen BK101.out 0; have hfz10_1 := blk_frozen BK101.out 1; have hfz10_2 := blk_frozen BK101.out 2) | ((with_reducible refine gate_callee (f := 106) rfl ?_); refine goesL_ (some 5) rfl rfl Try.func106 (by kernel_rfl) rfl #[.int .i64 a0_0] rfl MT ?_; (with_reducible refine (impl_isAddr.calls a0_0 true _ A2.out).mono ?_); rintro e w' ⟨rfl, ⟨nd, rfl⟩⟩; refine ⟨_, rfl, ?_⟩) | (go_at_call 106; (with_reducible refine (impl_isAddr.calls a0_1 false _ A4.out).mono ?_); rintro e w' ⟨rfl, ⟨nd, rfl⟩⟩))
   go_ret
   exact ⟨by first | rfl | (simp [errW_none, errW_some] <;> rfl) | (simp [*, errW_none, errW_some] <;> rfl), K1 HB GE101.out⟩
 ·replace c3 := Bool.eq_false_iff.mpr c3
  subst c3
  have H1 : (some false) = some r := by rw [if_neg (show ¬ (false = true) by decide)] at H; exact H
  clear H
  have H := H1
  clear H1
  obtain rfl := Option.some.inj H
  go_enter Try.func73, Try.ntmps73
  go_wp2_with (first | ((with_reducible refine gate_dst (N := 1) rfl ?_); refine box_event rfl (N := 1) rfl (cs := #[.int .i64 a0_0, .int .i64 a0_1, .int .i64 a0_2]) (t := 25) BX ?_; intro gb101 hg w11 hbox hb; have BK101 := am (hbox); have GW101 := am ((GL hg (below_size (KL HB)) : w.heap.size ≤ gb101)); have GE101 := GW101; replace HB := am (below_step (KL HB) hb); clear hb hbox hg; have hcz12_0 := z0 w11 BK101.out; have hcz12_1 := z1 w11 BK101.out; have hcz12_2 := z2 w11 BK101.out; have hfz12_0 := blk_frozen BK101.out 0; have hfz12_1 := blk_frozen BK101.out 1; have hfz12_2 := blk_frozen BK101.out 2) | ((with_reducible refine gate_callee (f := 106) rfl ?_); refine goesL_ (some 5) rfl rfl Try.func106 (by kernel_rfl) rfl #[.int .i64 a0_0] rfl MT ?_; (with_reducible refine (impl_isAddr.calls a0_0 false _ A2.out).mono ?_); rintro e w' ⟨rfl, ⟨nd, rfl⟩⟩; refine ⟨_, rfl, ?_⟩))
  go_ret
  exact ⟨by first | rfl | (simp [errW_none, errW_some] <;> rfl) | (simp [*, errW_none, errW_some] <;> rfl), K1 HB GE101.out⟩
end Go.Proofs.Ytioghacieopbdaa.PAll
end
section
namespace Go.Proofs.Ytioghacieopbdaa.PAll
open Go.RowKit Go.Proofs.YtioghacieopbdaaW.PrintWords Go.Proofs.YtioghacieopbdaaW.PrintLast Go.Proofs.YtioghacieopbdaaW.PrintMore
attribute [local go_sem] max2_int min2_int max_two min_two max_three min_three max_four min_four   -- for this text's walks alone
set_option linter.unusedVariables false
set_option linter.unusedSimpArgs false
def impl_Block_last.f (a0_0 : Int) (a0_1 : Int) : Option (Int) := (impl_Block_size.f a0_0 a0_1).bind fun t102 => (some (wrap64 ((wrap64 (a0_0 + t102)) - 1)))
set_option maxHeartbeats 8000000 in
set_option maxRecDepth 100000 in
theorem impl_Block_last.calls (a0_0 : Int) (a0_1 : Int) (r : Int) (w : World) (h : impl_Block_last.f a0_0 a0_1 = some r) :
  Calls Try.prog 139 #[.agg #[.int .i64 a0_0, .int .i64 a0_1]] w fun e w' => e = .returned (.int .i64 r) ∧ Below w.heap.size w w' := by
 have hu32 := Try.underlying32
 have HB := am (Below.refl w.heap.size w)
 have H : ((impl_Block_size.f a0_0 a0_1).bind fun t102 => (some (wrap64 ((wrap64 (a0_0 + t102)) - 1)))) = some r := h
 clear h
 replace H := Option.bind_eq_some_iff.mp H
 obtain ⟨t102, A20, H⟩ := H
 replace H : (some (wrap64 ((wrap64 (a0_0 + t102)) - 1))) = some r := H
 have A2 := Aside0.mk A20
 clear A20
 obtain rfl := Option.some.inj H
 go_enter Try.func139, Try.ntmps139
 try go_wp2_with (first | ((with_reducible refine gate_dst (N := 1) rfl ?_); refine box_event rfl (N := 1) rfl (cs := #[.int .i64 a0_0, .int .i64 a0_1]) (t := 32) BX ?_; intro gb101 hg w3 hbox hb; have BK101 := am (hbox); have GW101 := am ((GL hg (below_size (KL HB)) : w.heap.size ≤ gb101)); have GE101 := GW101; replace HB := am (below_step (KL HB) hb); clear hb hbox hg))
 replace BK101 := am (blk_drew BK101.out)
 replace HB := am (below_drew1 HB.out)
 refine start_ (n := 7) (S := fun w' => w'.cell? ⟨gb101, 0, none⟩ = some (.int .i64 a0_0) ∧ w'.cell? ⟨gb101, 1, none⟩ = some (.int .i64 a0_1)) (ds := []) (tf 0 7) (by kernel_rfl) rfl rfl ⟨z0 _ BK101.out, z1 _ BK101.out⟩ (fun hHeld => ?_)
 generalize w3.drew = w4 at BK101 HB hHeld ⊢
 refine pure_ (i := 0) (N := some 3) (v := ?_) (a' := ?_) (tf 1 6) rfl rfl (by kernel_rfl) (fun _ _ _ h => h) (Or.inl ⟨by rfl, ?_⟩) ?_ ?_; rotate_left; (· intro w'; go_simp; with_reducible rfl); rotate_left; (· simp only [Act.put, List.setIfInBounds_toArray, List.set_cons_zero, List.set_cons_succ, i64_w, i32_w]; rfl)
 refine take_ (i := 1) (N := some 4) (v := ?_) (a' := ?_) (tf 2 5) rfl rfl (by kernel_rfl) (fun _ _ _ h => h) (Or.inl ⟨by rfl, ?_⟩) hHeld ?_ ?_
 rotate_left
 ·rintro w' ⟨s0, s1⟩
  go_simp
  with_reducible rfl
 rotate_left
 ·simp only [Act.put, List.setIfInBounds_toArray, List.set_cons_zero, List.set_cons_succ, i64_w, i32_w]
  rfl
 refine take_ (i := 2) (N := some 5) (v := ?_) (a' := ?_) (tf 3 4) rfl rfl (by kernel_rfl) (fun _ _ _ h => h) (Or.inl ⟨by rfl, ?_⟩) hHeld ?_ ?_
 rotate_left
 ·rintro w' ⟨s0, s1⟩
  go_simp
  with_reducible rfl
 rotate_left
 ·simp only [Act.put, List.setIfInBounds_toArray, List.set_cons_zero, List.set_cons_succ, i64_w, i32_w]
  rfl
 refine one_ (i := 3) (N := some 6) (tf 4 3) rfl rfl (by kernel_rfl) (by decide) (fun K hK => ?_)
 refine goes_ Try.func113 (by kernel_rfl) rfl #[.agg #[.int .i64 a0_0, .int .i64 a0_1]] (by rfl) rfl rfl MT ?_
 with_reducible refine (impl_Block_size.calls a0_0 a0_1 t102 _ A2.out).mono ?_
 rintro e w5 ⟨rfl, hb⟩
 refine ⟨_, rfl, ?_⟩
 replace BK101 := am (BB BK101 hb)
 replace HB := am (below_step (K1 HB GE101.out) hb)
 (try clear hb)
 (try clear hb2)
 (try clear hk)
 (try clear hi)
 refine hK.out _ _ ⟨z0 _ BK101.out, z1 _ BK101.out⟩ (fun hHeld => ?_)
 clear hK K
 refine norm_ (a' := ?_) ?_ ?_
 rotate_left
 ·show Act.put _ (some 6) _ = _
  simp only [Act.put, List.setIfInBounds_toArray, List.set_cons_zero, List.set_cons_succ, i64_w, i32_w]
  rfl
 refine pure_ (i := 4) (N := some 7) (v := ?_) (a' := ?_) (tf 5 2) rfl rfl (by kernel_rfl) (fun _ _ _ h => h) (Or.inl ⟨by rfl, ?_⟩) ?_ ?_; rotate_left; (· intro w'; go_simp; with_reducible rfl); rotate_left; (· simp only [Act.put, List.setIfInBounds_toArray, List.set_cons_zero, List.set_cons_succ, i64_w, i32_w]; rfl)
 refine pure_ (i := 5) (N := some 8) (v := ?_) (a' := ?_) (tf 6 1) rfl rfl (by kernel_rfl) (fun _ _ _ h => h) (Or.inl ⟨by rfl, ?_⟩) ?_ ?_; rotate_left; (· intro w'; go_simp; with_reducible rfl); rotate_left; (· simp only [Act.put, List.setIfInBounds_toArray, List.set_cons_zero, List.set_cons_succ, i64_w, i32_w]; rfl)
 refine pure_ (i := 6) (N := some 2) (v := ?_) (a' := ?_) (tf 7 0) rfl rfl (by kernel_rfl) (fun _ _ _ h => h) (Or.inl ⟨by rfl, ?_⟩) ?_ ?_; rotate_left; (· intro w'; go_simp; with_reducible rfl); rotate_left; (· simp only [Act.put, List.setIfInBounds_toArray, List.set_cons_zero, List.set_cons_succ, i64_w, i32_w]; rfl)
 refine done_ (by kernel_rfl) ?_
 try go_wp2
 go_ret
 exact ⟨by first | rfl | (simp [errW_none, errW_some] <;> rfl) | (simp [*, errW_none, errW_some] <;> rfl), K1 HB GE101.out⟩
end Go.Proofs.Ytioghacieopbdaa.PAll
end
section
namespace Go.Proofs.Ytioghacieopbdaa.PAll
open Go.RowKit Go.Proofs.YtioghacieopbdaaW.PrintWords Go.Proofs.YtioghacieopbdaaW.PrintLast Go.Proofs.YtioghacieopbdaaW.PrintMore
attribute [local go_sem] max2_int min2_int max_two min_two max_three min_three max_four min_four   -- for this text's walks alone
set_option linter.unusedVariables false
set_option linter.unusedSimpArgs false
def impl_Block_has.f (a0_0 : Int) (a0_1 : Int) (a1 : Int) : Option (Bool) := (impl_Block_last.f a0_0 a0_1).bind fun t102 => ((impl_in.f a1 a0_0 t102).bind fun t103 => (some t103))
set_option maxHeartbeats 8000000 in
set_option maxRecDepth 100000 in
theorem impl_Block_has.calls (a0_0 : Int) (a0_1 : Int) (a1 : Int) (r : Bool) (w : World) (h : impl_Block_has.f a0_0 a0_1 a1 = some r) :
  Calls Try.prog 112 #[.agg #[.int .i64 a0_0, .int .i64 a0_1], .int .i64 a1] w fun e w' => e = .returned (.bool r) ∧ Below w.heap.size w w' := by
 have hu32 := Try.underlying32
 have HB := am (Below.refl w.heap.size w)
 have H : ((impl_Block_last.f a0_0 a0_1).bind fun t102 => ((impl_in.f a1 a0_0 t102).bind fun t103 => (some t103))) = some r := h
 clear h
 replace H := Option.bind_eq_some_iff.mp H
 obtain ⟨t102, A30, H⟩ := H
 replace H : ((impl_in.f a1 a0_0 t102).bind fun t103 => (some t103)) = some r := H
 have A3 := Aside0.mk A30
 clear A30
 replace H := Option.bind_eq_some_iff.mp H
 obtain ⟨t103, A40, H⟩ := H
 replace H : (some t103) = some r := H
 have A4 := Aside0.mk A40
 clear A40
 obtain rfl := Option.some.inj H
 go_enter Try.func112, Try.ntmps112
 try go_wp2_with (first | ((with_reducible refine gate_dst (N := 2) rfl ?_); refine box_event rfl (N := 2) rfl (cs := #[.int .i64 a0_0, .int .i64 a0_1]) (t := 32) BX ?_; intro gb101 hg w5 hbox hb; have BK101 := am (hbox); have GW101 := am ((GL hg (below_size (KL HB)) : w.heap.size ≤ gb101)); have GE101 := GW101; replace HB := am (below_step (KL HB) hb); clear hb hbox hg))
 replace BK101 := am (blk_drew BK101.out)
 replace HB := am (below_drew1 HB.out)
 refine start_ (n := 7) (S := fun w' => w'.cell? ⟨gb101, 0, none⟩ = some (.int .i64 a0_0) ∧ w'.cell? ⟨gb101, 1, none⟩ = some (.int .i64 a0_1)) (ds := []) (tf 0 7) (by kernel_rfl) rfl rfl ⟨z0 _ BK101.out, z1 _ BK101.out⟩ (fun hHeld => ?_)
 generalize w5.drew = w6 at BK101 HB hHeld ⊢
 refine pure_ (i := 0) (N := some 5) (v := ?_) (a' := ?_) (tf 1 6) rfl rfl (by kernel_rfl) (fun _ _ _ h => h) (Or.inl ⟨by rfl, ?_⟩) ?_ ?_; rotate_left; (· intro w'; go_simp; with_reducible rfl); rotate_left; (· simp only [Act.put, List.setIfInBounds_toArray, List.set_cons_zero, List.set_cons_succ, i64_w, i32_w]; rfl)
 refine pure_ (i := 1) (N := some 6) (v := ?_) (a' := ?_) (tf 2 5) rfl rfl (by kernel_rfl) (fun _ _ _ h => h) (Or.inl ⟨by rfl, ?_⟩) ?_ ?_; rotate_left; (· intro w'; go_simp; with_reducible rfl); rotate_left; (· simp only [Act.put, List.setIfInBounds_toArray, List.set_cons_zero, List.set_cons_succ, i64_w, i32_w]; rfl)
 refine take_ (i := 2) (N := some 7) (v := ?_) (a' := ?_) (tf 3 4) rfl rfl (by kernel_rfl) (fun _ _ _ h => h) (Or.inl ⟨by rfl, ?_⟩) hHeld ?_ ?_
 rotate_left
 ·rintro w' ⟨s0, s1⟩
  go_simp
  with_reducible rfl
 rotate_left
 ·simp only [Act.put, List.setIfInBounds_toArray, List.set_cons_zero, List.set_cons_succ, i64_w, i32_w]
  rfl
 refine take_ (i := 3) (N := some 8) (v := ?_) (a' := ?_) (tf 4 3) rfl rfl (by kernel_rfl) (fun _ _ _ h => h) (Or.inl ⟨by rfl, ?_⟩) hHeld ?_ ?_
 rotate_left
 ·rintro w' ⟨s0, s1⟩
  go_simp
  with_reducible rfl
 rotate_left
 ·simp only [Act.put, List.setIfInBounds_toArray, List.set_cons_zero, List.set_cons_succ, i64_w, i32_w]
  rfl
 refine one_ (i := 4) (N := some 9) (tf 5 2) rfl rfl (by kernel_rfl) (by decide) (fun K hK => ?_)
 refine goes_ Try.func139 (by kernel_rfl) rfl #[.agg #[.int .i64 a0_0, .int .i64 a0_1]] (by rfl) rfl rfl MT ?_
 with_reducible refine (impl_Block_last.calls a0_0 a0_1 t102 _ A3.out).mono ?_
 rintro e w7 ⟨rfl, hb⟩
 refine ⟨_, rfl, ?_⟩
 replace BK101 := am (BB BK101 hb)
 replace HB := am (below_step (K1 HB GE101.out) hb)
 (try clear hb)
 (try clear hb2)
 (try clear hk)
 (try clear hi)
 refine hK.out _ _ ⟨z0 _ BK101.out, z1 _ BK101.out⟩ (fun hHeld => ?_)
 clear hK K
 refine norm_ (a' := ?_) ?_ ?_
 rotate_left
 ·show Act.put _ (some 9) _ = _
  simp only [Act.put, List.setIfInBounds_toArray, List.set_cons_zero, List.set_cons_succ, i64_w, i32_w]
  rfl
 refine one_ (i := 5) (N := some 10) (tf 6 1) rfl rfl (by kernel_rfl) (by decide) (fun K hK => ?_)
 refine goes_ Try.func85 (by kernel_rfl) rfl #[.int .i64 a1, .int .i64 a0_0, .int .i64 t102] (by rfl) rfl rfl MT ?_
 with_reducible refine (impl_in.calls a1 a0_0 t102 t103 _ A4.out).mono ?_
 rintro e w' ⟨rfl, ⟨nd, rfl⟩⟩
 refine ⟨_, rfl, ?_⟩
 refine hK.out _ _ ⟨z0 _ BK101.out, z1 _ BK101.out⟩ (fun hHeld => ?_)
 clear hK K
 refine norm_ (a' := ?_) ?_ ?_
 rotate_left
 ·show Act.put _ (some 10) _ = _
  simp only [Act.put, List.setIfInBounds_toArray, List.set_cons_zero, List.set_cons_succ, i64_w, i32_w]
  rfl
 refine pure_ (i := 6) (N := some 4) (v := ?_) (a' := ?_) (tf 7 0) rfl rfl (by kernel_rfl) (fun _ _ _ h => h) (Or.inl ⟨by rfl, ?_⟩) ?_ ?_; rotate_left; (· intro w'; go_simp; with_reducible rfl); rotate_left; (· simp only [Act.put, List.setIfInBounds_toArray, List.set_cons_zero, List.set_cons_succ, i64_w, i32_w]; rfl)
 refine done_ (by kernel_rfl) ?_
 try go_wp2
 go_ret
 exact ⟨by first | rfl | (simp [errW_none, errW_some] <;> rfl) | (simp [*, errW_none, errW_some] <;> rfl), K1 HB GE101.out⟩
end Go.Proofs.Ytioghacieopbdaa.PAll
end
section
namespace Go.Proofs.Ytioghacieopbdaa.PAll
open Go.RowKit Go.Proofs.YtioghacieopbdaaW.PrintWords Go.Proofs.YtioghacieopbdaaW.PrintLast Go.Proofs.YtioghacieopbdaaW.PrintMore
attribute [local go_sem] max2_int min2_int max_two min_two max_three min_three max_four min_four   -- for this text's walks alone
set_option linter.unusedVariables false
set_option linter.unusedSimpArgs false
def impl_Rule_matches.f (a0_0 : Int) (a0_1 : Int) (a0_2 : Int) (a0_3 : Int) (a0_4 : Int) (a0_5 : Int) (a0_6 : Int) (a0_7 : Int) (a1_0 : Int) (a1_1 : Int) (a1_2 : Int) : Option (Bool) := (impl_Block_has.f a0_2 a0_3 a1_0).bind fun t103 => (if t103 = true then ((impl_Block_has.f a0_4 a0_5 a1_1).bind fun t104 => (if t104 = true then ((impl_in.f a1_2 a0_6 a0_7).bind fun t105 => (some t105)) else (some false))) else (some false))
set_option maxHeartbeats 8000000 in
set_option maxRecDepth 100000 in
theorem impl_Rule_matches.calls (a0_0 : Int) (a0_1 : Int) (a0_2 : Int) (a0_3 : Int) (a0_4 : Int) (a0_5 : Int) (a0_6 : Int) (a0_7 : Int) (a1_0 : Int) (a1_1 : Int) (a1_2 : Int) (r : Bool) (w : World) (h : impl_Rule_matches.f a0_0 a0_1 a0_2 a0_3 a0_4 a0_5 a0_6 a0_7 a1_0 a1_1 a1_2 = some r) :
  Calls Try.prog 127 #[.agg #[.int .i64 a0_0, .int .i64 a0_1, .int .i64 a0_2, .int .i64 a0_3, .int .i64 a0_4, .int .i64 a0_5, .int .i64 a0_6, .int .i64 a0_7], .agg #[.int .i64 a1_0, .int .i64 a1_1, .int .i64 a1_2]] w fun e w' => e = .returned (.bool r) ∧ Below w.heap.size w w' := by
 have hu34 := Try.underlying34
 have hu25 := Try.underlying25
 have hu32 := Try.underlying32
 have HB := am (Below.refl w.heap.size w)
 have H : ((impl_Block_has.f a0_2 a0_3 a1_0).bind fun t103 => (if t103 = true then ((impl_Block_has.f a0_4 a0_5 a1_1).bind fun t104 => (if t104 = true then ((impl_in.f a1_2 a0_6 a0_7).bind fun t105 => (some t105)) else (some false))) else (some false))) = some r := h
 clear h
 replace H := Option.bind_eq_some_iff.mp H
 obtain ⟨t103, A30, H⟩ := H
 replace H : (if t103 = true then ((impl_Block_has.f a0_4 a0_5 a1_1).bind fun t104 => (if t104 = true then ((impl_in.f a1_2 a0_6 a0_7).bind fun t105 => (some t105)) else (some false))) else (some false)) = some r := H
 have A3 := Aside0.mk A30
 clear A30
 by_cases c4 : t103 = true
 ·subst c4
  have H1 : ((impl_Block_has.f a0_4 a0_5 a1_1).bind fun t104 => (if t104 = true then ((impl_in.f a1_2 a0_6 a0_7).bind fun t105 => (some t105)) else (some false))) = some r := by rw [if_pos rfl] at H; exact H
  clear H
  have H := H1
  clear H1
  replace H := Option.bind_eq_some_iff.mp H
  obtain ⟨t104, A50, H⟩ := H
  replace H : (if t104 = true then ((impl_in.f a1_2 a0_6 a0_7).bind fun t105 => (some t105)) else (some false)) = some r := H
  have A5 := Aside0.mk A50
  clear A50
  by_cases c6 : t104 = true
  ·subst c6
   have H1 : ((impl_in.f a1_2 a0_6 a0_7).bind fun t105 => (some t105)) = some r := by rw [if_pos rfl] at H; exact H
   clear H
   have H := H1
   clear H1
   replace H := Option.bind_eq_some_iff.mp H
   obtain ⟨t105, A70, H⟩ := H
   replace H : (some t105) = some r := H
   have A7 := Aside0.mk A70
   clear A70
   obtain rfl := Option.some.inj H
   go_enter Try.func127, Try.ntmps127
   go_wp2_with (first | ((with_reducible refine gate_dst (N := 2) rfl ?_); refine box_event rfl (N := 2) rfl (cs := #[.int .i64 a0_0, .int .i64 a0_1, .int .i64 a0_2, .int .i64 a0_3, .int .i64 a0_4, .int .i64 a0_5, .int .i64 a0_6, .int .i64 a0_7]) (t := 34) BX ?_; intro gb101 hg w8 hbox hb; have BK101 := am (hbox); have GW101 := am ((GL hg (below_size (KL HB)) : w.heap.size ≤ gb101)); have GE101 := GW101; replace HB := am (below_step (KL HB) hb); clear hb hbox hg) | ((with_reducible refine gate_dst (N := 3) rfl ?_); refine box_event rfl (N := 3) rfl (cs := #[.int .i64 a1_0, .int .i64 a1_1, .int .i64 a1_2]) (t := 25) BX ?_; intro gb102 hg w9 hbox hb; have BK102 := am (hbox); have GW102 := am ((GL hg (below_size (K1 HB GE101.out)) : w.heap.size ≤ gb102)); have GE102 := GW102; replace HB := am (below_step (K1 HB GE101.out) hb); have NB101_102 := am (NL BK101 hg); have NB102_101 := am (NG BK101 hg); replace BK101 := am (BB BK101 hb); clear hb hbox hg; have hnb10 := NB101_102.out; have hnc10 := NB102_101.out; have hcz11_0 := z0 w9 BK101.out; have hcz11_1 := z1 w9 BK101.out; have hcz11_2 := z2 w9 BK101.out; have hcz11_3 := z3 w9 BK101.out; have hcz11_4 := z4 w9 BK101.out; have hcz11_5 := z5 w9 BK101.out; have hcz11_6 := z6 w9 BK101.out; have hcz11_7 := z7 w9 BK101.out; have hfz11_0 := blk_frozen BK101.out 0; have hfz11_1 := blk_frozen BK101.out 1; have hfz11_2 := blk_frozen BK101.out 2; have hfz11_3 := blk_frozen BK101.out 3; have hfz11_4 := blk_frozen BK101.out 4; have hfz11_5 := blk_frozen BK101.out 5; have hfz11_6 := blk_frozen BK101.out 6; have hfz11_7 := blk_frozen BK101.out 7; have hcz12_0 := z0 w9 BK102.out; have hcz12_1 := z1 w9 BK102.out; have hcz12_2 := z2 w9 BK102.out; have hfz12_0 := blk_frozen BK102.out 0; have hfz12_1 := blk_frozen BK102.out 1; have hfz12_2 := blk_frozen BK102.out 2) | ((with_reducible refine gate_callee (f := 112) rfl ?_); refine goesL_ (some 9) rfl rfl Try.func112 (by kernel_rfl) rfl #[.agg #[.int .i64 a0_2, .int .i64 a0_3], .int .i64 a1_0] rfl MT ?_; (with_reducible refine (impl_Block_has.calls a0_2 a0_3 a1_0 true _ A3.out).mono ?_); rintro e w13 ⟨rfl, hb⟩; refine ⟨_, rfl, ?_⟩; replace BK101 := am (BB BK101 hb); replace BK102 := am (BB BK102 hb); replace HB := am (below_step (K2 HB GE101.out GE102.out) hb); (try clear hb); (try clear hb2); (try clear hk); (try clear hi); have hcz14_0 := z0 w13 BK101.out; have hcz14_1 := z1 w13 BK101.out; have hcz14_2 := z2 w13 BK101.out; have hcz14_3 := z3 w13 BK101.out; have hcz14_4 := z4 w13 BK101.out; have hcz14_5 := z5 w13 BK101.out; have hcz14_6 := z6 w13 BK101.out; have hcz14_7 := z7 w13 BK101.out; have hfz14_0 := blk_frozen BK101.out 0; have hfz14_1 := blk_frozen BK101.out 1; have hfz14_2 := blk_frozen BK101.out 2; have hfz14_3 := blk_frozen BK101.out 3; have hfz14_4 := blk_frozen BK101.out 4; have hfz14_5 := blk_frozen BK101.out 5; have hfz14_6 := blk_frozen BK101.out 6; have hfz14_7 := blk_frozen BK101.out 7; have hcz15_0 := z0 w13 BK102.out; have hcz15_1 := z1 w13 BK102.out; have hcz15_2 := z2 w13 BK102.out; have hfz15_0 := blk_frozen BK102.out 0; have hfz15_1 := blk_frozen BK102.out 1; have hfz15_2 := blk_frozen BK102.out 2) | (go_at_call 112; (with_reducible refine (impl_Block_has.calls a0_4 a0_5 a1_1 true _ A5.out).mono ?_); rintro e w16 ⟨rfl, hb⟩; replace BK101 := am (BB BK101 hb); replace BK102 := am (BB BK102 hb); replace HB := am (below_step (K2 HB GE101.out GE102.out) hb); (try clear hb); (try clear hb2); (try clear hk); (try clear hi); have hcz17_0 := z0 w16 BK102.out; have hcz17_1 := z1 w16 BK102.out; have hcz17_2 := z2 w16 BK102.out; have hfz17_0 := blk_frozen BK102.out 0; have hfz17_1 := blk_frozen BK102.out 1; have hfz17_2 := blk_frozen BK102.out 2; have hcz18_0 := z0 w16 BK101.out; have hcz18_1 := z1 w16 BK101.out; have hcz18_2 := z2 w16 BK101.out; have hcz18_3 := z3 w16 BK101.out; have hcz18_4 := z4 w16 BK101.out; have hcz18_5 := z5 w16 BK101.out; have hcz18_6 := z6 w16 BK101.out; have hcz18_7 := z7 w16 BK101.out; have hfz18_0 := blk_frozen BK101.out 0; have hfz18_1 := blk_frozen BK101.out 1; have hfz18_2 := blk_frozen BK101.out 2; have hfz18_3 := blk_frozen BK101.out 3; have hfz18_4 := blk_frozen BK101.out 4; have hfz18_5 := blk_frozen BK101.out 5; have hfz18_6 := blk_frozen BK101.out 6; have hfz18_7 := blk_frozen BK101.out 7) | (go_at_call 85; (with_reducible refine (impl_in.calls a1_2 a0_6 a0_7 t105 _ A7.out).mono ?_); rintro e w' ⟨rfl, ⟨nd, rfl⟩⟩))
   go_ret
   exact ⟨by first | rfl | (simp [errW_none, errW_some] <;> rfl) | (simp [*, errW_none, errW_some] <;> rfl), K2 HB GE101.out GE102.out⟩
  ·replace c6 := Bool.eq_false_iff.mpr c6
   subst c6
   have H1 : (some false) = some r := by rw [if_neg (show ¬ (false = true) by decide)] at H; exact H
   clear H
   have H := H1
   clear H1
   obtain rfl := Option.some.inj H
   go_enter Try.func127, Try.ntmps127
   go_wp2_with (first | ((with_reducible refine gate_dst (N := 2) rfl ?_); refine box_event rfl (N := 2) rfl (cs := #[.int .i64 a0_0, .int .i64 a0_1, .int .i64 a0_2, .int .i64 a0_3, .int .i64 a0_4, .int .i64 a0_5, .int .i64 a0_6, .int .i64 a0_7]) (t := 34) BX ?_; intro gb101 hg w19 hbox hb; have BK101 := am (hbox); have GW101 := am ((GL hg (below_size (KL HB)) : w.heap.size ≤ gb101)); have GE101 := GW101; replace HB := am (below_step (KL HB) hb); clear hb hbox hg) | ((with_reducible refine gate_dst (N := 3) rfl ?_); refine box_event rfl (N := 3) rfl (cs := #[.int .i64 a1_0, .int .i64 a1_1, .int .i64 a1_2]) (t := 25) BX ?_; intro gb102 hg w20 hbox hb; have BK102 := am (hbox); have GW102 := am ((GL hg (below_size (K1 HB GE101.out)) : w.heap.size ≤ gb102)); have GE102 := GW102; replace HB := am (below_step (K1 HB GE101.out) hb); have NB101_102 := am (NL BK101 hg); have NB102_101 := am (NG BK101 hg); replace BK101 := am (BB BK101 hb); clear hb hbox hg; have hnb21 := NB101_102.out; have hnc21 := NB102_101.out; have hcz22_0 := z0 w20 BK101.out; have hcz22_1 := z1 w20 BK101.out; have hcz22_2 := z2 w20 BK101.out; have hcz22_3 := z3 w20 BK101.out; have hcz22_4 := z4 w20 BK101.out; have hcz22_5 := z5 w20 BK101.out; have hcz22_6 := z6 w20 BK101.out; have hcz22_7 := z7 w20 BK101.out; have hfz22_0 := blk_frozen BK101.out 0; have hfz22_1 := blk_frozen BK101.out 1; have hfz22_2 := blk_frozen BK101.out 2; have hfz22_3 := blk_frozen BK101.out 3; have hfz22_4 := blk_frozen BK101.out 4; have hfz22_5 := blk_frozen BK101.out 5; have hfz22_6 := blk_frozen BK101.out 6; have hfz22_7 := blk_frozen BK101.out 7; have hcz23_0 := z0 w20 BK102.out; have hcz23_1 := z1 w20 BK102.out; have hcz23_2 := z2 w20 BK102.out; have hfz23_0 := blk_frozen BK102.out 0; have hfz23_1 := blk_frozen BK102.out 1; have hfz23_2 := blk_frozen BK102.out 2) | ((with_reducible refine gate_callee (f := 112) rfl ?_); refine goesL_ (some 9) rfl rfl Try.func112 (by kernel_rfl) rfl #[.agg #[.int .i64 a0_2, .int .i64 a0_3], .int .i64 a1_0] rfl MT ?_; (with_reducible refine (impl_Block_has.calls a0_2 a0_3 a1_0 true _ A3.out).mono ?_); rintro e w24 ⟨rfl, hb⟩; refine ⟨_, rfl, ?_⟩; replace BK101 := am (BB BK101 hb); replace BK102 := am (BB BK102 hb); replace HB := am (below_step (K2 HB GE101.out GE102.out) hb); (try clear hb); (try clear hb2); (try clear hk); (try clear hi); have hcz25_0 := z0 w24 BK101.out; have hcz25_1 := z1 w24 BK101.out; have hcz25_2 := z2 w24 BK101.out; have hcz25_3 := z3 w24 BK101.out; have hcz25_4 := z4 w24 BK101.out; have hcz25_5 := z5 w24 BK101.out; have hcz25_6 := z6 w24 BK101.out; have hcz25_7 := z7 w24 BK101.out; have hfz25_0 := blk_frozen BK101.out 0; have hfz25_1 := blk_frozen BK101.out 1; have hfz25_2 := blk_frozen BK101.out 2; have hfz25_3 := blk_frozen BK101.out 3; have hfz25_4 := blk_frozen BK101.out 4; have hfz25_5 := blk_frozen BK101.out 5; have hfz25_6 := blk_frozen BK101.out 6; have hfz25_7 := blk_frozen BK101.out 7; have hcz26_0 := z0 w24 BK102.out; have hcz26_1 := z1 w24 BK102.out; have hcz26_2 := z2 w24 BK102.out; have hfz26_0 := blk_frozen BK102.out 0; have hfz26_1 := blk_frozen BK102.out 1; have hfz26_2 := blk_frozen BK102.out 2) | (go_at_call 112; (with_reducible refine (impl_Block_has.calls a0_4 a0_5 a1_1 false _ A5.out).mono ?_); rintro e w27 ⟨rfl, hb⟩; replace BK101 := am (BB BK101 hb); replace BK102 := am (BB BK102 hb); replace HB := am (below_step (K2 HB GE101.out GE102.out) hb); (try clear hb); (try clear hb2); (try clear hk); (try clear hi)))
   go_ret
   exact ⟨by first | rfl | (simp [errW_none, errW_some] <;> rfl) | (simp [*, errW_none, errW_some] <;> rfl), K2 HB GE101.out GE102.out⟩
 ·replace c4 := Bool.eq_false_iff.mpr c4
  subst c4
  have H1 : (some false) = some r := by rw [if_neg (show ¬ (false = true) by decide)] at H; exact H
  clear H
  have H := H1
  clear H1
  obtain rfl := Option.some.inj H
  go_enter Try.func127, Try.ntmps127
  go_wp2_with (first | ((with_reducible refine gate_dst (N := 2) rfl ?_); refine box_event rfl (N := 2) rfl (cs := #[.int .i64 a0_0, .int .i64 a0_1, .int .i64 a0_2, .int .i64 a0_3, .int .i64 a0_4, .int .i64 a0_5, .int .i64 a0_6, .int .i64 a0_7]) (t := 34) BX ?_; intro gb101 hg w28 hbox hb; have BK101 := am (hbox); have GW101 := am ((GL hg (below_size (KL HB)) : w.heap.size ≤ gb101)); have GE101 := GW101; replace HB := am (below_step (KL HB) hb); clear hb hbox hg) | ((with_reducible refine gate_dst (N := 3) rfl ?_); refine box_event rfl (N := 3) rfl (cs := #[.int .i64 a1_0, .int .i64 a1_1, .int .i64 a1_2]) (t := 25) BX ?_; intro gb102 hg w29 hbox hb; have BK102 := am (hbox); have GW102 := am ((GL hg (below_size (K1 HB GE101.out)) : w.heap.size ≤ gb102)); have GE102 := GW102; replace HB := am (below_step (K1 HB GE101.out) hb); have NB101_102 := am (NL BK101 hg); have NB102_101 := am (NG BK101 hg); replace BK101 := am (BB BK101 hb); clear hb hbox hg; have hnb30 := NB101_102.out; have hnc30 := NB102_101.out; have hcz31_0 := z0 w29 BK101.out; have hcz31_1 := z1 w29 BK101.out; have hcz31_2 := z2 w29 BK101.out; have hcz31_3 := z3 w29 BK101.out; have hcz31_4 := z4 w29 BK101.out; have hcz31_5 := z5 w29 BK101.out; have hcz31_6 := z6 w29 BK101.out; have hcz31_7 := z7 w29 BK101.out; have hfz31_0 := blk_frozen BK101.out 0; have hfz31_1 := blk_frozen BK101.out 1; have hfz31_2 := blk_frozen BK101.out 2; have hfz31_3 := blk_frozen BK101.out 3; have hfz31_4 := blk_frozen BK101.out 4; have hfz31_5 := blk_frozen BK101.out 5; have hfz31_6 := blk_frozen BK101.out 6; have hfz31_7 := blk_frozen BK101.out 7; have hcz32_0 := z0 w29 BK102.out; have hcz32_1 := z1 w29 BK102.out; have hcz32_2 := z2 w29 BK102.out; have hfz32_0 := blk_frozen BK102.out 0; have hfz32_1 := blk_frozen BK102.out 1; have hfz32_2 := blk_frozen BK102.out 2) | ((with_reducible refine gate_callee (f := 112) rfl ?_); refine goesL_ (some 9) rfl rfl Try.func112 (by kernel_rfl) rfl #[.agg #[.int .i64 a0_2, .int .i64 a0_3], .int .i64 a1_0] rfl MT ?_; (with_reducible refine (impl_Block_has.calls a0_2 a0_3 a1_0 false _ A3.out).mono ?_); rintro e w33 ⟨rfl, hb⟩; refine ⟨_, rfl, ?_⟩; replace BK101 := am (BB BK101 hb); replace BK102 := am (BB BK102 hb); replace HB := am (below_step (K2 HB GE101.out GE102.out) hb); (try clear hb); (try clear hb2); (try clear hk); (try clear hi)))
  go_ret
  exact ⟨by first | rfl | (simp [errW_none, errW_some] <;> rfl) | (simp [*, errW_none, errW_some] <;> rfl), K2 HB GE101.out GE102.out⟩
end Go.Proofs.Ytioghacieopbdaa.PAll
end
section
namespace Go.Proofs.Ytioghacieopbdaa.PAll
open Go.RowKit Go.Proofs.YtioghacieopbdaaW.PrintWords Go.Proofs.YtioghacieopbdaaW.PrintLast Go.Proofs.YtioghacieopbdaaW.PrintMore
attribute [local go_sem] max2_int min2_int max_two min_two max_three min_three max_four min_four   -- for this text's walks alone
set_option linter.unusedVariables false
set_option linter.unusedSimpArgs false
def spec_l1Addr.f (a0 : Int) : Option (Bool) := (spec_l1In.f a0 0 4294967295).bind fun t101 => (some t101)
set_option maxHeartbeats 8000000 in
set_option maxRecDepth 100000 in
theorem spec_l1Addr.calls (a0 : Int) (r : Bool) (w : World) (h : spec_l1Addr.f a0 = some r) :
  Calls Try.prog 107 #[.int .i64 a0] w fun e w' => e = .returned (.bool r) ∧ Drawn0 w w' := by
 have H : ((spec_l1In.f a0 0 4294967295).bind fun t101 => (some t101)) = some r := h
 clear h
 replace H := Option.bind_eq_some_iff.mp H
 obtain ⟨t101, A20, H⟩ := H
 replace H : (some t101) = some r := H
 have A2 := Aside0.mk A20
 clear A20
 obtain rfl := Option.some.inj H
 go_enter Try.func107, Try.ntmps107
 go_wp2_with (first | ((with_reducible refine gate_callee (f := 82) rfl ?_); refine goesL_ (some 4) rfl rfl Try.func82 (by kernel_rfl) rfl #[.int .i64 a0, .int .i64 0, .int .i64 4294967295] rfl MT ?_; (with_reducible refine (spec_l1In.calls a0 0 4294967295 t101 _ A2.out).mono ?_); rintro e w' ⟨rfl, ⟨nd, rfl⟩⟩; refine ⟨_, rfl, ?_⟩))
 go_ret
 exact ⟨by first | rfl | (simp; done) | (simp [*]; done), by repeat (first | exact Drawn0.refl _ | apply Drawn0.step)⟩
end Go.Proofs.Ytioghacieopbdaa.PAll
end
section
namespace Go.Proofs.Ytioghacieopbdaa.PAll
open Go.RowKit Go.Proofs.YtioghacieopbdaaW.PrintWords Go.Proofs.YtioghacieopbdaaW.PrintLast Go.Proofs.YtioghacieopbdaaW.PrintMore
attribute [local go_sem] max2_int min2_int max_two min_two max_three min_three max_four min_four   -- for this text's walks alone
set_option linter.unusedVariables false
set_option linter.unusedSimpArgs false
def spec_l1Size.f (k : Nat) (a0 : Int) : Option (Int) := (spec_l1Two.f k (wrap64 (32 - a0))).bind fun t101 => (some t101)
set_option maxHeartbeats 8000000 in
set_option maxRecDepth 100000 in
theorem spec_l1Size.calls (k : Nat) (a0 : Int) (r : Int) (w : World) (h : spec_l1Size.f k a0 = some r) :
  Calls Try.prog 138 #[.int .i64 a0] w fun e w' => e = .returned (.int .i64 r) ∧ Drawn0 w w' := by
 have H : ((spec_l1Two.f k (wrap64 (32 - a0))).bind fun t101 => (some t101)) = some r := h
 clear h
 replace H := Option.bind_eq_some_iff.mp H
 obtain ⟨t101, A20, H⟩ := H
 replace H : (some t101) = some r := H
 have A2 := Aside0.mk A20
 clear A20
 obtain rfl := Option.some.inj H
 go_enter Try.func138, Try.ntmps138
 go_wp2_with (first | ((with_reducible refine gate_callee (f := 148) rfl ?_); refine goesL_ (some 5) rfl rfl Try.func148 (by kernel_rfl) rfl #[.int .i64 (wrap64 (32 - a0))] rfl MT ?_; (with_reducible refine (spec_l1Two.calls k (wrap64 (32 - a0)) t101 _ A2.out).mono ?_); rintro e w' ⟨rfl, ⟨nd, rfl⟩⟩; refine ⟨_, rfl, ?_⟩))
 go_ret
 exact ⟨by first | rfl | (simp; done) | (simp [*]; done), by repeat (first | exact Drawn0.refl _ | apply Drawn0.step)⟩
end Go.Proofs.Ytioghacieopbdaa.PAll
end
section
namespace Go.Proofs.Ytioghacieopbdaa.PAll
open Go.RowKit Go.Proofs.YtioghacieopbdaaW.PrintWords Go.Proofs.YtioghacieopbdaaW.PrintLast Go.Proofs.YtioghacieopbdaaW.PrintMore
attribute [local go_sem] max2_int min2_int max_two min_two max_three min_three max_four min_four   -- for this text's walks alone
set_option linter.unusedVariables false
set_option linter.unusedSimpArgs false
def spec_BlockOk.f (k : Nat) (a0_0 : Int) (a0_1 : Int) : Option (Bool) := (spec_l1Addr.f a0_0).bind fun t102 => (if t102 = true then ((spec_l1In.f a0_1 0 32).bind fun t103 => (if t103 = true then ((spec_l1Size.f k a0_1).bind fun t104 => (if t104 = 0 then (none) else (some ((Int.tmod a0_0 t104) == 0)))) else (some false))) else (some false))
set_option maxHeartbeats 8000000 in
set_option maxRecDepth 100000 in
theorem spec_BlockOk.calls (k : Nat) (a0_0 : Int) (a0_1 : Int) (r : Bool) (w : World) (h : spec_BlockOk.f k a0_0 a0_1 = some r) :
  Calls Try.prog 109 #[.agg #[.int .i64 a0_0, .int .i64 a0_1]] w fun e w' => e = .returned (.bool r) ∧ Below w.heap.size w w' := by
 have hu32 := Try.underlying32
 have HB := am (Below.refl w.heap.size w)
 have H : ((spec_l1Addr.f a0_0).bind fun t102 => (if t102 = true then ((spec_l1In.f a0_1 0 32).bind fun t103 => (if t103 = true then ((spec_l1Size.f k a0_1).bind fun t104 => (if t104 = 0 then (none) else (some ((Int.tmod a0_0 t104) == 0)))) else (some false))) else (some false))) = some r := h
 clear h
 replace H := Option.bind_eq_some_iff.mp H
 obtain ⟨t102, A20, H⟩ := H
 replace H : (if t102 = true then ((spec_l1In.f a0_1 0 32).bind fun t103 => (if t103 = true then ((spec_l1Size.f k a0_1).bind fun t104 => (if t104 = 0 then (none) else (some ((Int.tmod a0_0 t104) == 0)))) else (some false))) else (some false)) = some r := H
 have A2 := Aside0.mk A20
 clear A20
 by_cases c3 : t102 = true
 ·subst c3
  have H1 : ((spec_l1In.f a0_1 0 32).bind fun t103 => (if t103 = true then ((spec_l1Size.f k a0_1).bind fun t104 => (if t104 = 0 then (none) else (some ((Int.tmod a0_0 t104) == 0)))) else (some false))) = some r := by rw [if_pos rfl] at H; exact H
  clear H
  have H := H1
  clear H1
  replace H := Option.bind_eq_some_iff.mp H
  obtain ⟨t103, A40, H⟩ := H
  replace H : (if t103 = true then ((spec_l1Size.f k a0_1).bind fun t104 => (if t104 = 0 then (none) else (some ((Int.tmod a0_0 t104) == 0)))) else (some false)) = some r := H
  have A4 := Aside0.mk A40
  clear A40
  by_cases c5 : t103 = true
  ·subst c5
   have H1 : ((spec_l1Size.f k a0_1).bind fun t104 => (if t104 = 0 then (none) else (some ((Int.tmod a0_0 t104) == 0)))) = some r := by rw [if_pos rfl] at H; exact H
   clear H
   have H := H1
   clear H1
   replace H := Option.bind_eq_some_iff.mp H
   obtain ⟨t104, A60, H⟩ := H
   replace H : (if t104 = 0 then (none) else (some ((Int.tmod a0_0 t104) == 0))) = some r := H
   have A6 := Aside0.mk A60
   clear A60
   by_cases c7 : t104 = 0
   ·rw [if_pos c7] at H
    exact absurd H (by simp)
   ·rw [if_neg c7] at H
    have c7b0 : (t104 == 0) = false := beq_eq_false_iff_ne.mpr c7
    have c7b1 : (t104 != 0) = true := bne_iff_ne.mpr c7
    obtain rfl := Option.some.inj H
    go_enter Try.func109, Try.ntmps109
    go_wp2_with (first | ((with_reducible refine gate_dst (N := 1) rfl ?_); refine box_event rfl (N := 1) rfl (cs := #[.int .i64 a0_0, .int .i64 a0_1]) (t := 32) BX ?_; intro gb101 hg w8 hbox hb; have BK101 := am (hbox); have GW101 := am ((GL hg (below_size (KL HB)) : w.heap.size ≤ gb101)); have GE101 := GW101; replace HB := am (below_step (KL HB) hb); clear hb hbox hg; have hcz9_0 := z0 w8 BK101.out; have hcz9_1 := z1 w8 BK101.out; have hfz9_0 := blk_frozen BK101.out 0; have hfz9_1 := blk_frozen BK101.out 1) | (go_at_call 107; (with_reducible refine (spec_l1Addr.calls a0_0 true _ A2.out).mono ?_); rintro e w' ⟨rfl, ⟨nd, rfl⟩⟩; (try first | exact ⟨rfl, _, World.drewN_drewN _ _ _⟩ | exact ⟨rfl, _, Eq.trans (World.drewN_drewN _ _ _) (congrArg (World.drewN _) (Nat.add_assoc _ _ _))⟩)) | (go_at_call 82; (with_reducible refine (spec_l1In.calls a0_1 0 32 true _ A4.out).mono ?_); rintro e w' ⟨rfl, ⟨nd, rfl⟩⟩; (try first | exact ⟨rfl, _, World.drewN_drewN _ _ _⟩ | exact ⟨rfl, _, Eq.trans (World.drewN_drewN _ _ _) (congrArg (World.drewN _) (Nat.add_assoc _ _ _))⟩)) | (go_at_call 138; (with_reducible refine (spec_l1Size.calls k a0_1 t104 _ A6.out).mono ?_); rintro e w' ⟨rfl, ⟨nd, rfl⟩⟩; (try first | exact ⟨rfl, _, World.drewN_drewN _ _ _⟩ | exact ⟨rfl, _, Eq.trans (World.drewN_drewN _ _ _) (congrArg (World.drewN _) (Nat.add_assoc _ _ _))⟩)))
    repeat (go_quiet (first | ((with_reducible refine gate_dst (N := 1) rfl ?_); refine box_event rfl (N := 1) rfl (cs := #[.int .i64 a0_0, .int .i64 a0_1]) (t := 32) BX ?_; intro gb101 hg w8 hbox hb; have BK101 := am (hbox); have GW101 := am ((GL hg (below_size (KL HB)) : w.heap.size ≤ gb101)); have GE101 := GW101; replace HB := am (below_step (KL HB) hb); clear hb hbox hg; have hcz9_0 := z0 w8 BK101.out; have hcz9_1 := z1 w8 BK101.out; have hfz9_0 := blk_frozen BK101.out 0; have hfz9_1 := blk_frozen BK101.out 1) | (go_at_call 107; (with_reducible refine (spec_l1Addr.calls a0_0 true _ A2.out).mono ?_); rintro e w' ⟨rfl, ⟨nd, rfl⟩⟩; (try first | exact ⟨rfl, _, World.drewN_drewN _ _ _⟩ | exact ⟨rfl, _, Eq.trans (World.drewN_drewN _ _ _) (congrArg (World.drewN _) (Nat.add_assoc _ _ _))⟩)) | (go_at_call 82; (with_reducible refine (spec_l1In.calls a0_1 0 32 true _ A4.out).mono ?_); rintro e w' ⟨rfl, ⟨nd, rfl⟩⟩; (try first | exact ⟨rfl, _, World.drewN_drewN _ _ _⟩ | exact ⟨rfl, _, Eq.trans (World.drewN_drewN _ _ _) (congrArg (World.drewN _) (Nat.add_assoc _ _ _))⟩)) | (go_at_call 138; (with_reducible refine (spec_l1Size.calls k a0_1 t104 _ A6.out).mono ?_); rintro e w' ⟨rfl, ⟨nd, rfl⟩⟩; (try first | exact ⟨rfl, _, World.drewN_drewN _ _ _⟩ | exact ⟨rfl, _, Eq.trans (World.drewN_drewN _ _ _) (congrArg (World.drewN _) (Nat.add_assoc _ _ _))⟩))); try go_wp2_with (first | ((with_reducible refine gate_dst (N := 1) rfl ?_); refine box_event rfl (N := 1) rfl (cs := #[.int .i64 a0_0, .int .i64 a0_1]) (t := 32) BX ?_; intro gb101 hg w8 hbox hb; have BK101 := am (hbox); have GW101 := am ((GL hg (below_size (KL HB)) : w.heap.size ≤ gb101)); have GE101 := GW101; replace HB := am (below_step (KL HB) hb); clear hb hbox hg; have hcz9_0 := z0 w8 BK101.out; have hcz9_1 := z1 w8 BK101.out; have hfz9_0 := blk_frozen BK101.out 0; have hfz9_1 := blk_frozen BK101.out 1) | (go_at_call 107; (with_reducible refine (spec_l1Addr.calls a0_0 true _ A2.out).mono ?_); rintro e w' ⟨rfl, ⟨nd, rfl⟩⟩; (try first | exact ⟨rfl, _, World.drewN_drewN _ _ _⟩ | exact ⟨rfl, _, Eq.trans (World.drewN_drewN _ _ _) (congrArg (World.drewN _) (Nat.add_assoc _ _ _))⟩)) | (go_at_call 82; (with_reducible refine (spec_l1In.calls a0_1 0 32 true _ A4.out).mono ?_); rintro e w' ⟨rfl, ⟨nd, rfl⟩⟩; (try first | exact ⟨rfl, _, World.drewN_drewN _ _ _⟩ | exact ⟨rfl, _, Eq.trans (World.drewN_drewN _ _ _) (congrArg (World.drewN _) (Nat.add_assoc _ _ _))⟩)) | (go_at_call 138; (with_reducible refine (spec_l1Size.calls k a0_1 t104 _ A6.out).mono ?_); rintro e w' ⟨rfl, ⟨nd, rfl⟩⟩; (try first | exact ⟨rfl, _, World.drewN_drewN _ _ _⟩ | exact ⟨rfl, _, Eq.trans (World.drewN_drewN _ _ _) (congrArg (World.drewN _) (Nat.add_assoc _ _ _))⟩))))
    go_ret
    exact ⟨by first | rfl | (simp [errW_none, errW_some] <;> rfl) | (simp [*, errW_none, errW_some] <;> rfl), K1 HB GE101.out⟩
  ·replace c5 := Bool.eq_false_iff.mpr c5
   subst c5
   have H1 : (some false) = some r := by rw [if_neg (show ¬ (false = true) by decide)] at H; exact H
   clear H
   have H := H1
   clear H1
   obtain rfl := Option.some.inj H
   go_enter Try.func109, Try.ntmps109
   go_wp2_with (first | ((with_reducible refine gate_dst (N := 1) rfl ?_); refine box_event rfl (N := 1) rfl (cs := #[.int .i64 a0_0, .int .i64 a0_1]) (t := 32) BX ?_; intro gb101 hg w10 hbox hb; have BK101 := am (hbox); have GW101 := am ((GL hg (below_size (KL HB)) : w.heap.size ≤ gb101)); have GE101 := GW101; replace HB := am (below_step (KL HB) hb); clear hb hbox hg; have hcz11_0 := z0 w10 BK101.out; have hcz11_1 := z1 w10 BK101.out; have hfz11_0 := blk_frozen BK101.out 0; have hfz11_1 := blk_frozen BK101.out 1) | (go_at_call 107; (with_reducible refine (spec_l1Addr.calls a0_0 true _ A2.out).mono ?_); rintro e w' ⟨rfl, ⟨nd, rfl⟩⟩; (try first | exact ⟨rfl, _, World.drewN_drewN _ _ _⟩ | exact ⟨rfl, _, Eq.trans (World.drewN_drewN _ _ _) (congrArg (World.drewN _) (Nat.add_assoc _ _ _))⟩)) | (go_at_call 82; (with_reducible refine (spec_l1In.calls a0_1 0 32 false _ A4.out).mono ?_); rintro e w' ⟨rfl, ⟨nd, rfl⟩⟩; (try first | exact ⟨rfl, _, World.drewN_drewN _ _ _⟩ | exact ⟨rfl, _, Eq.trans (World.drewN_drewN _ _ _) (congrArg (World.drewN _) (Nat.add_assoc _ _ _))⟩)))
   repeat (go_quiet (first | ((with_reducible refine gate_dst (N := 1) rfl ?_); refine box_event rfl (N := 1) rfl (cs := #[.int .i64 a0_0, .int .i64 a0_1]) (t := 32) BX ?_; intro gb101 hg w10 hbox hb; have BK101 := am (hbox); have GW101 := am ((GL hg (below_size (KL HB)) : w.heap.size ≤ gb101)); have GE101 := GW101; replace HB := am (below_step (KL HB) hb); clear hb hbox hg; have hcz11_0 := z0 w10 BK101.out; have hcz11_1 := z1 w10 BK101.out; have hfz11_0 := blk_frozen BK101.out 0; have hfz11_1 := blk_frozen BK101.out 1) | (go_at_call 107; (with_reducible refine (spec_l1Addr.calls a0_0 true _ A2.out).mono ?_); rintro e w' ⟨rfl, ⟨nd, rfl⟩⟩; (try first | exact ⟨rfl, _, World.drewN_drewN _ _ _⟩ | exact ⟨rfl, _, Eq.trans (World.drewN_drewN _ _ _) (congrArg (World.drewN _) (Nat.add_assoc _ _ _))⟩)) | (go_at_call 82; (with_reducible refine (spec_l1In.calls a0_1 0 32 false _ A4.out).mono ?_); rintro e w' ⟨rfl, ⟨nd, rfl⟩⟩; (try first | exact ⟨rfl, _, World.drewN_drewN _ _ _⟩ | exact ⟨rfl, _, Eq.trans (World.drewN_drewN _ _ _) (congrArg (World.drewN _) (Nat.add_assoc _ _ _))⟩))); try go_wp2_with (first | ((with_reducible refine gate_dst (N := 1) rfl ?_); refine box_event rfl (N := 1) rfl (cs := #[.int .i64 a0_0, .int .i64 a0_1]) (t := 32) BX ?_; intro gb101 hg w10 hbox hb; have BK101 := am (hbox); have GW101 := am ((GL hg (below_size (KL HB)) : w.heap.size ≤ gb101)); have GE101 := GW101; replace HB := am (below_step (KL HB) hb); clear hb hbox hg; have hcz11_0 := z0 w10 BK101.out; have hcz11_1 := z1 w10 BK101.out; have hfz11_0 := blk_frozen BK101.out 0; have hfz11_1 := blk_frozen BK101.out 1) | (go_at_call 107; (with_reducible refine (spec_l1Addr.calls a0_0 true _ A2.out).mono ?_); rintro e w' ⟨rfl, ⟨nd, rfl⟩⟩; (try first | exact ⟨rfl, _, World.drewN_drewN _ _ _⟩ | exact ⟨rfl, _, Eq.trans (World.drewN_drewN _ _ _) (congrArg (World.drewN _) (Nat.add_assoc _ _ _))⟩)) | (go_at_call 82; (with_reducible refine (spec_l1In.calls a0_1 0 32 false _ A4.out).mono ?_); rintro e w' ⟨rfl, ⟨nd, rfl⟩⟩; (try first | exact ⟨rfl, _, World.drewN_drewN _ _ _⟩ | exact ⟨rfl, _, Eq.trans (World.drewN_drewN _ _ _) (congrArg (World.drewN _) (Nat.add_assoc _ _ _))⟩))))
   go_ret
   exact ⟨by first | rfl | (simp [errW_none, errW_some] <;> rfl) | (simp [*, errW_none, errW_some] <;> rfl), K1 HB GE101.out⟩
 ·replace c3 := Bool.eq_false_iff.mpr c3
  subst c3
  have H1 : (some false) = some r := by rw [if_neg (show ¬ (false = true) by decide)] at H; exact H
  clear H
  have H := H1
  clear H1
  obtain rfl := Option.some.inj H
  go_enter Try.func109, Try.ntmps109
  go_wp2_with (first | ((with_reducible refine gate_dst (N := 1) rfl ?_); refine box_event rfl (N := 1) rfl (cs := #[.int .i64 a0_0, .int .i64 a0_1]) (t := 32) BX ?_; intro gb101 hg w12 hbox hb; have BK101 := am (hbox); have GW101 := am ((GL hg (below_size (KL HB)) : w.heap.size ≤ gb101)); have GE101 := GW101; replace HB := am (below_step (KL HB) hb); clear hb hbox hg; have hcz13_0 := z0 w12 BK101.out; have hcz13_1 := z1 w12 BK101.out; have hfz13_0 := blk_frozen BK101.out 0; have hfz13_1 := blk_frozen BK101.out 1) | (go_at_call 107; (with_reducible refine (spec_l1Addr.calls a0_0 false _ A2.out).mono ?_); rintro e w' ⟨rfl, ⟨nd, rfl⟩⟩; (try first | exact ⟨rfl, _, World.drewN_drewN _ _ _⟩ | exact ⟨rfl, _, Eq.trans (World.drewN_drewN _ _ _) (congrArg (World.drewN _) (Nat.add_assoc _ _ _))⟩)))
  repeat (go_quiet (first | ((with_reducible refine gate_dst (N := 1) rfl ?_); refine box_event rfl (N := 1) rfl (cs := #[.int .i64 a0_0, .int .i64 a0_1]) (t := 32) BX ?_; intro gb101 hg w12 hbox hb; have BK101 := am (hbox); have GW101 := am ((GL hg (below_size (KL HB)) : w.heap.size ≤ gb101)); have GE101 := GW101; replace HB := am (below_step (KL HB) hb); clear hb hbox hg; have hcz13_0 := z0 w12 BK101.out; have hcz13_1 := z1 w12 BK101.out; have hfz13_0 := blk_frozen BK101.out 0; have hfz13_1 := blk_frozen BK101.out 1) | (go_at_call 107; (with_reducible refine (spec_l1Addr.calls a0_0 false _ A2.out).mono ?_); rintro e w' ⟨rfl, ⟨nd, rfl⟩⟩; (try first | exact ⟨rfl, _, World.drewN_drewN _ _ _⟩ | exact ⟨rfl, _, Eq.trans (World.drewN_drewN _ _ _) (congrArg (World.drewN _) (Nat.add_assoc _ _ _))⟩))); try go_wp2_with (first | ((with_reducible refine gate_dst (N := 1) rfl ?_); refine box_event rfl (N := 1) rfl (cs := #[.int .i64 a0_0, .int .i64 a0_1]) (t := 32) BX ?_; intro gb101 hg w12 hbox hb; have BK101 := am (hbox); have GW101 := am ((GL hg (below_size (KL HB)) : w.heap.size ≤ gb101)); have GE101 := GW101; replace HB := am (below_step (KL HB) hb); clear hb hbox hg; have hcz13_0 := z0 w12 BK101.out; have hcz13_1 := z1 w12 BK101.out; have hfz13_0 := blk_frozen BK101.out 0; have hfz13_1 := blk_frozen BK101.out 1) | (go_at_call 107; (with_reducible refine (spec_l1Addr.calls a0_0 false _ A2.out).mono ?_); rintro e w' ⟨rfl, ⟨nd, rfl⟩⟩; (try first | exact ⟨rfl, _, World.drewN_drewN _ _ _⟩ | exact ⟨rfl, _, Eq.trans (World.drewN_drewN _ _ _) (congrArg (World.drewN _) (Nat.add_assoc _ _ _))⟩))))
  go_ret
  exact ⟨by first | rfl | (simp [errW_none, errW_some] <;> rfl) | (simp [*, errW_none, errW_some] <;> rfl), K1 HB GE101.out⟩
end Go.Proofs.Ytioghacieopbdaa.PAll
end
section
namespace Go.Proofs.Ytioghacieopbdaa.PAll
open Go.RowKit Go.Proofs.YtioghacieopbdaaW.PrintWords Go.Proofs.YtioghacieopbdaaW.PrintLast Go.Proofs.YtioghacieopbdaaW.PrintMore
attribute [local go_sem] max2_int min2_int max_two min_two max_three min_three max_four min_four   -- for this text's walks alone
set_option linter.unusedVariables false
set_option linter.unusedSimpArgs false
def spec_l4Ok.j0 : Nat → Bool → Int → Int → Int → Int → Int → Int → Int → Int → Option (Bool)
 | 0, _, _, _, _, _, _, _, _, _ => none
 | k + 1, x31, x102000, x102001, x102002, x102003, x102004, x102005, x102006, x102007 => if x31 = true then (some false) else (if x102000 = 2 then ((spec_l1In.f x102001 0 3).bind fun t106 => (some t106)) else (some (x102001 == 0)))
def spec_l4Ok.f (k : Nat) (a0_0 : Int) (a0_1 : Int) (a0_2 : Int) (a0_3 : Int) (a0_4 : Int) (a0_5 : Int) (a0_6 : Int) (a0_7 : Int) : Option (Bool) := (spec_BlockOk.f k a0_2 a0_3).bind fun t102 => (if t102 = true then ((spec_BlockOk.f k a0_4 a0_5).bind fun t103 => (if t103 = true then ((spec_l1In.f a0_6 0 a0_7).bind fun t104 => (if t104 = true then (if a0_7 > 65535 then (spec_l4Ok.j0 k true a0_0 a0_1 a0_2 a0_3 a0_4 a0_5 a0_6 a0_7) else ((spec_l1In.f a0_0 0 2).bind fun t105 => (spec_l4Ok.j0 k (!t105) a0_0 a0_1 a0_2 a0_3 a0_4 a0_5 a0_6 a0_7))) else (spec_l4Ok.j0 k true a0_0 a0_1 a0_2 a0_3 a0_4 a0_5 a0_6 a0_7))) else (spec_l4Ok.j0 k true a0_0 a0_1 a0_2 a0_3 a0_4 a0_5 a0_6 a0_7))) else (spec_l4Ok.j0 k true a0_0 a0_1 a0_2 a0_3 a0_4 a0_5 a0_6 a0_7))
set_option maxHeartbeats 8000000 in
set_option maxRecDepth 100000 in
theorem spec_l4Ok.calls (k : Nat) (a0_0 : Int) (a0_1 : Int) (a0_2 : Int) (a0_3 : Int) (a0_4 : Int) (a0_5 : Int) (a0_6 : Int) (a0_7 : Int) (r : Bool) (w : World) (h : spec_l4Ok.f k a0_0 a0_1 a0_2 a0_3 a0_4 a0_5 a0_6 a0_7 = some r) :
  Calls Try.prog 80 #[.agg #[.int .i64 a0_0, .int .i64 a0_1, .int .i64 a0_2, .int .i64 a0_3, .int .i64 a0_4, .int .i64 a0_5, .int .i64 a0_6, .int .i64 a0_7]] w fun e w' => e = .returned (.bool r) ∧ Below w.heap.size w w' := by
 have hu34 := Try.underlying34
 have hu32 := Try.underlying32
 have HB := am (Below.refl w.heap.size w)
 have H : ((spec_BlockOk.f k a0_2 a0_3).bind fun t102 => (if t102 = true then ((spec_BlockOk.f k a0_4 a0_5).bind fun t103 => (if t103 = true then ((spec_l1In.f a0_6 0 a0_7).bind fun t104 => (if t104 = true then (if a0_7 > 65535 then (spec_l4Ok.j0 k true a0_0 a0_1 a0_2 a0_3 a0_4 a0_5 a0_6 a0_7) else ((spec_l1In.f a0_0 0 2).bind fun t105 => (spec_l4Ok.j0 k (!t105) a0_0 a0_1 a0_2 a0_3 a0_4 a0_5 a0_6 a0_7))) else (spec_l4Ok.j0 k true a0_0 a0_1 a0_2 a0_3 a0_4 a0_5 a0_6 a0_7))) else (spec_l4Ok.j0 k true a0_0 a0_1 a0_2 a0_3 a0_4 a0_5 a0_6 a0_7))) else (spec_l4Ok.j0 k true a0_0 a0_1 a0_2 a0_3 a0_4 a0_5 a0_6 a0_7))) = some r := h
 clear h
 have HC2 := Aside0.mk H
 clear H
 go_enter Try.func80, Try.ntmps80
 go_upto_region 1 with (first | ((with_reducible refine gate_dst (N := 1) rfl ?_); refine box_event rfl (N := 1) rfl (cs := #[.int .i64 a0_0, .int .i64 a0_1, .int .i64 a0_2, .int .i64 a0_3, .int .i64 a0_4, .int .i64 a0_5, .int .i64 a0_6, .int .i64 a0_7]) (t := 34) BX ?_; intro gb101 hg w3 hbox hb; have BK101 := am (hbox); have GW101 := am ((GL hg (below_size (KL HB)) : w.heap.size ≤ gb101)); have GE101 := GW101; replace HB := am (below_step (KL HB) hb); clear hb hbox hg))
 (try simp only [Act.put, List.setIfInBounds_toArray, List.set_cons_zero, List.set_cons_succ])
 go_cut [31] (fun v31 wc => ∃ (kq : Nat) (x31_1 : Bool), v31 = .bool x31_1 ∧ Aside0 (spec_l4Ok.j0 kq x31_1 a0_0 a0_1 a0_2 a0_3 a0_4 a0_5 a0_6 a0_7 = some r) ∧ Aside0 (kq ≤ k) ∧ Aside0 (wc.heap[gb101]? = some (.cells #[.int .i64 a0_0, .int .i64 a0_1, .int .i64 a0_2, .int .i64 a0_3, .int .i64 a0_4, .int .i64 a0_5, .int .i64 a0_6, .int .i64 a0_7] 34 (0, 0))) ∧ Aside0 (Below w.heap.size w wc))
 case first =>
  have H := HC2.out
  clear HC2
  replace H := Option.bind_eq_some_iff.mp H
  obtain ⟨t102, A40, H⟩ := H
  replace H : (if t102 = true then ((spec_BlockOk.f k a0_4 a0_5).bind fun t103 => (if t103 = true then ((spec_l1In.f a0_6 0 a0_7).bind fun t104 => (if t104 = true then (if a0_7 > 65535 then (spec_l4Ok.j0 k true a0_0 a0_1 a0_2 a0_3 a0_4 a0_5 a0_6 a0_7) else ((spec_l1In.f a0_0 0 2).bind fun t105 => (spec_l4Ok.j0 k (!t105) a0_0 a0_1 a0_2 a0_3 a0_4 a0_5 a0_6 a0_7))) else (spec_l4Ok.j0 k true a0_0 a0_1 a0_2 a0_3 a0_4 a0_5 a0_6 a0_7))) else (spec_l4Ok.j0 k true a0_0 a0_1 a0_2 a0_3 a0_4 a0_5 a0_6 a0_7))) else (spec_l4Ok.j0 k true a0_0 a0_1 a0_2 a0_3 a0_4 a0_5 a0_6 a0_7)) = some r := H
  have A4 := Aside0.mk A40
  clear A40
  by_cases c5 : t102 = true
  ·subst c5
   have H1 : ((spec_BlockOk.f k a0_4 a0_5).bind fun t103 => (if t103 = true then ((spec_l1In.f a0_6 0 a0_7).bind fun t104 => (if t104 = true then (if a0_7 > 65535 then (spec_l4Ok.j0 k true a0_0 a0_1 a0_2 a0_3 a0_4 a0_5 a0_6 a0_7) else ((spec_l1In.f a0_0 0 2).bind fun t105 => (spec_l4Ok.j0 k (!t105) a0_0 a0_1 a0_2 a0_3 a0_4 a0_5 a0_6 a0_7))) else (spec_l4Ok.j0 k true a0_0 a0_1 a0_2 a0_3 a0_4 a0_5 a0_6 a0_7))) else (spec_l4Ok.j0 k true a0_0 a0_1 a0_2 a0_3 a0_4 a0_5 a0_6 a0_7))) = some r := by rw [if_pos rfl] at H; exact H
   clear H
   have H := H1
   clear H1
   replace H := Option.bind_eq_some_iff.mp H
   obtain ⟨t103, A60, H⟩ := H
   replace H : (if t103 = true then ((spec_l1In.f a0_6 0 a0_7).bind fun t104 => (if t104 = true then (if a0_7 > 65535 then (spec_l4Ok.j0 k true a0_0 a0_1 a0_2 a0_3 a0_4 a0_5 a0_6 a0_7) else ((spec_l1In.f a0_0 0 2).bind fun t105 => (spec_l4Ok.j0 k (!t105) a0_0 a0_1 a0_2 a0_3 a0_4 a0_5 a0_6 a0_7))) else (spec_l4Ok.j0 k true a0_0 a0_1 a0_2 a0_3 a0_4 a0_5 a0_6 a0_7))) else (spec_l4Ok.j0 k true a0_0 a0_1 a0_2 a0_3 a0_4 a0_5 a0_6 a0_7)) = some r := H
   have A6 := Aside0.mk A60
   clear A60
   by_cases c7 : t103 = true
   ·subst c7
    have H1 : ((spec_l1In.f a0_6 0 a0_7).bind fun t104 => (if t104 = true then (if a0_7 > 65535 then (spec_l4Ok.j0 k true a0_0 a0_1 a0_2 a0_3 a0_4 a0_5 a0_6 a0_7) else ((spec_l1In.f a0_0 0 2).bind fun t105 => (spec_l4Ok.j0 k (!t105) a0_0 a0_1 a0_2 a0_3 a0_4 a0_5 a0_6 a0_7))) else (spec_l4Ok.j0 k true a0_0 a0_1 a0_2 a0_3 a0_4 a0_5 a0_6 a0_7))) = some r := by rw [if_pos rfl] at H; exact H
    clear H
    have H := H1
    clear H1
    replace H := Option.bind_eq_some_iff.mp H
    obtain ⟨t104, A80, H⟩ := H
    replace H : (if t104 = true then (if a0_7 > 65535 then (spec_l4Ok.j0 k true a0_0 a0_1 a0_2 a0_3 a0_4 a0_5 a0_6 a0_7) else ((spec_l1In.f a0_0 0 2).bind fun t105 => (spec_l4Ok.j0 k (!t105) a0_0 a0_1 a0_2 a0_3 a0_4 a0_5 a0_6 a0_7))) else (spec_l4Ok.j0 k true a0_0 a0_1 a0_2 a0_3 a0_4 a0_5 a0_6 a0_7)) = some r := H
    have A8 := Aside0.mk A80
    clear A80
    by_cases c9 : t104 = true
    ·subst c9
     have H1 : (if a0_7 > 65535 then (spec_l4Ok.j0 k true a0_0 a0_1 a0_2 a0_3 a0_4 a0_5 a0_6 a0_7) else ((spec_l1In.f a0_0 0 2).bind fun t105 => (spec_l4Ok.j0 k (!t105) a0_0 a0_1 a0_2 a0_3 a0_4 a0_5 a0_6 a0_7))) = some r := by rw [if_pos rfl] at H; exact H
     clear H
     have H := H1
     clear H1
     by_cases c10 : a0_7 > 65535
     ·rw [if_pos c10] at H
      have c10b0 : decide (65535 < a0_7) = true := decide_eq_true c10
      clear c10
      (first | rw [c10b0] | (simp only [i64_w, i32_w]; rw [c10b0]) | skip)
      have H' := Aside0.mk H
      clear H
      have hcz11_0 := z0 w3 BK101.out
      have hcz11_1 := z1 w3 BK101.out
      have hcz11_2 := z2 w3 BK101.out
      have hcz11_3 := z3 w3 BK101.out
      have hcz11_4 := z4 w3 BK101.out
      have hcz11_5 := z5 w3 BK101.out
      have hcz11_6 := z6 w3 BK101.out
      have hcz11_7 := z7 w3 BK101.out
      have hfz11_0 := blk_frozen BK101.out 0
      have hfz11_1 := blk_frozen BK101.out 1
      have hfz11_2 := blk_frozen BK101.out 2
      have hfz11_3 := blk_frozen BK101.out 3
      have hfz11_4 := blk_frozen BK101.out 4
      have hfz11_5 := blk_frozen BK101.out 5
      have hfz11_6 := blk_frozen BK101.out 6
      have hfz11_7 := blk_frozen BK101.out 7
      go_wp2_with (first | ((with_reducible refine gate_callee (f := 109) rfl ?_); refine goesL_ (some 5) rfl rfl Try.func109 (by kernel_rfl) rfl #[.agg #[.int .i64 a0_2, .int .i64 a0_3]] rfl MT ?_; (with_reducible refine (spec_BlockOk.calls k a0_2 a0_3 true _ A4.out).mono ?_); rintro e w12 ⟨rfl, hb⟩; refine ⟨_, rfl, ?_⟩; replace BK101 := am (BB BK101 hb); replace HB := am (below_step (K1 HB GE101.out) hb); (try clear hb); (try clear hb2); (try clear hk); (try clear hi); have hcz13_0 := z0 w12 BK101.out; have hcz13_1 := z1 w12 BK101.out; have hcz13_2 := z2 w12 BK101.out; have hcz13_3 := z3 w12 BK101.out; have hcz13_4 := z4 w12 BK101.out; have hcz13_5 := z5 w12 BK101.out; have hcz13_6 := z6 w12 BK101.out; have hcz13_7 := z7 w12 BK101.out; have hfz13_0 := blk_frozen BK101.out 0; have hfz13_1 := blk_frozen BK101.out 1; have hfz13_2 := blk_frozen BK101.out 2; have hfz13_3 := blk_frozen BK101.out 3; have hfz13_4 := blk_frozen BK101.out 4; have hfz13_5 := blk_frozen BK101.out 5; have hfz13_6 := blk_frozen BK101.out 6; have hfz13_7 := blk_frozen BK101.out 7) | (go_at_call 109; (with_reducible refine (spec_BlockOk.calls k a0_4 a0_5 true _ A6.out).mono ?_); rintro e w14 ⟨rfl, hb⟩; replace BK101 := am (BB BK101 hb); replace HB := am (below_step (K1 HB GE101.out) hb); (try clear hb); (try clear hb2); (try clear hk); (try clear hi); have hcz15_0 := z0 w14 BK101.out; have hcz15_1 := z1 w14 BK101.out; have hcz15_2 := z2 w14 BK101.out; have hcz15_3 := z3 w14 BK101.out; have hcz15_4 := z4 w14 BK101.out; have hcz15_5 := z5 w14 BK101.out; have hcz15_6 := z6 w14 BK101.out; have hcz15_7 := z7 w14 BK101.out; have hfz15_0 := blk_frozen BK101.out 0; have hfz15_1 := blk_frozen BK101.out 1; have hfz15_2 := blk_frozen BK101.out 2; have hfz15_3 := blk_frozen BK101.out 3; have hfz15_4 := blk_frozen BK101.out 4; have hfz15_5 := blk_frozen BK101.out 5; have hfz15_6 := blk_frozen BK101.out 6; have hfz15_7 := blk_frozen BK101.out 7) | (go_at_call 82; (with_reducible refine (spec_l1In.calls a0_6 0 a0_7 true _ A8.out).mono ?_); rintro e w' ⟨rfl, ⟨nd, rfl⟩⟩))
      go_meet
      case rel => exact ⟨_, (true), (by first | rfl | (simp; done) | (simp [*]; done)), H', ⟨by first | omega | exact Nat.le_refl _⟩, ⟨KB BK101⟩, ⟨K1 HB GE101.out⟩⟩
     ·rw [if_neg c10] at H
      have c10b0 : decide (65535 < a0_7) = false := decide_eq_false c10
      clear c10
      (first | rw [c10b0] | (simp only [i64_w, i32_w]; rw [c10b0]) | skip)
      replace H := Option.bind_eq_some_iff.mp H
      obtain ⟨t105, A160, H⟩ := H
      replace H : (spec_l4Ok.j0 k (!t105) a0_0 a0_1 a0_2 a0_3 a0_4 a0_5 a0_6 a0_7) = some r := H
      have A16 := Aside0.mk A160
      clear A160
      have H' := Aside0.mk H
      clear H
      have hcz17_0 := z0 w3 BK101.out
      have hcz17_1 := z1 w3 BK101.out
      have hcz17_2 := z2 w3 BK101.out
      have hcz17_3 := z3 w3 BK101.out
      have hcz17_4 := z4 w3 BK101.out
      have hcz17_5 := z5 w3 BK101.out
      have hcz17_6 := z6 w3 BK101.out
      have hcz17_7 := z7 w3 BK101.out
      have hfz17_0 := blk_frozen BK101.out 0
      have hfz17_1 := blk_frozen BK101.out 1
      have hfz17_2 := blk_frozen BK101.out 2
      have hfz17_3 := blk_frozen BK101.out 3
      have hfz17_4 := blk_frozen BK101.out 4
      have hfz17_5 := blk_frozen BK101.out 5
      have hfz17_6 := blk_frozen BK101.out 6
      have hfz17_7 := blk_frozen BK101.out 7
      go_wp2_with (first | ((with_reducible refine gate_callee (f := 109) rfl ?_); refine goesL_ (some 5) rfl rfl Try.func109 (by kernel_rfl) rfl #[.agg #[.int .i64 a0_2, .int .i64 a0_3]] rfl MT ?_; (with_reducible refine (spec_BlockOk.calls k a0_2 a0_3 true _ A4.out).mono ?_); rintro e w18 ⟨rfl, hb⟩; refine ⟨_, rfl, ?_⟩; replace BK101 := am (BB BK101 hb); replace HB := am (below_step (K1 HB GE101.out) hb); (try clear hb); (try clear hb2); (try clear hk); (try clear hi); have hcz19_0 := z0 w18 BK101.out; have hcz19_1 := z1 w18 BK101.out; have hcz19_2 := z2 w18 BK101.out; have hcz19_3 := z3 w18 BK101.out; have hcz19_4 := z4 w18 BK101.out; have hcz19_5 := z5 w18 BK101.out; have hcz19_6 := z6 w18 BK101.out; have hcz19_7 := z7 w18 BK101.out; have hfz19_0 := blk_frozen BK101.out 0; have hfz19_1 := blk_frozen BK101.out 1; have hfz19_2 := blk_frozen BK101.out 2; have hfz19_3 := blk_frozen BK101.out 3; have hfz19_4 := blk_frozen BK101.out 4; have hfz19_5 := blk_frozen BK101.out 5; have hfz19_6 := blk_frozen BK101.out 6; have hfz19_7 := blk_frozen BK101.out 7) | (go_at_call 109; (with_reducible refine (spec_BlockOk.calls k a0_4 a0_5 true _ A6.out).mono ?_); rintro e w20 ⟨rfl, hb⟩; replace BK101 := am (BB BK101 hb); replace HB := am (below_step (K1 HB GE101.out) hb); (try clear hb); (try clear hb2); (try clear hk); (try clear hi); have hcz21_0 := z0 w20 BK101.out; have hcz21_1 := z1 w20 BK101.out; have hcz21_2 := z2 w20 BK101.out; have hcz21_3 := z3 w20 BK101.out; have hcz21_4 := z4 w20 BK101.out; have hcz21_5 := z5 w20 BK101.out; have hcz21_6 := z6 w20 BK101.out; have hcz21_7 := z7 w20 BK101.out; have hfz21_0 := blk_frozen BK101.out 0; have hfz21_1 := blk_frozen BK101.out 1; have hfz21_2 := blk_frozen BK101.out 2; have hfz21_3 := blk_frozen BK101.out 3; have hfz21_4 := blk_frozen BK101.out 4; have hfz21_5 := blk_frozen BK101.out 5; have hfz21_6 := blk_frozen BK101.out 6; have hfz21_7 := blk_frozen BK101.out 7) | (go_at_call 82; (with_reducible refine (spec_l1In.calls a0_6 0 a0_7 true _ A8.out).mono ?_); rintro e w' ⟨rfl, ⟨nd, rfl⟩⟩) | (go_at_call 82; (with_reducible refine (spec_l1In.calls a0_0 0 2 t105 _ A16.out).mono ?_); rintro e w' ⟨rfl, ⟨nd, rfl⟩⟩))
      go_meet
      case rel => exact ⟨_, (!t105), (by first | rfl | (simp; done) | (simp [*]; done)), H', ⟨by first | omega | exact Nat.le_refl _⟩, ⟨KB BK101⟩, ⟨K1 HB GE101.out⟩⟩
    ·replace c9 := Bool.eq_false_iff.mpr c9
     subst c9
     have H1 : (spec_l4Ok.j0 k true a0_0 a0_1 a0_2 a0_3 a0_4 a0_5 a0_6 a0_7) = some r := by rw [if_neg (show ¬ (false = true) by decide)] at H; exact H
     clear H
     have H := H1
     clear H1
     have H' := Aside0.mk H
     clear H
     have hcz22_0 := z0 w3 BK101.out
     have hcz22_1 := z1 w3 BK101.out
     have hcz22_2 := z2 w3 BK101.out
     have hcz22_3 := z3 w3 BK101.out
     have hcz22_4 := z4 w3 BK101.out
     have hcz22_5 := z5 w3 BK101.out
     have hcz22_6 := z6 w3 BK101.out
     have hcz22_7 := z7 w3 BK101.out
     have hfz22_0 := blk_frozen BK101.out 0
     have hfz22_1 := blk_frozen BK101.out 1
     have hfz22_2 := blk_frozen BK101.out 2
     have hfz22_3 := blk_frozen BK101.out 3
     have hfz22_4 := blk_frozen BK101.out 4
     have hfz22_5 := blk_frozen BK101.out 5
     have hfz22_6 := blk_frozen BK101.out 6
     have hfz22_7 := blk_frozen BK101.out 7
     go_wp2_with (first | ((with_reducible refine gate_callee (f := 109) rfl ?_); refine goesL_ (some 5) rfl rfl Try.func109 (by kernel_rfl) rfl #[.agg #[.int .i64 a0_2, .int .i64 a0_3]] rfl MT ?_; (with_reducible refine (spec_BlockOk.calls k a0_2 a0_3 true _ A4.out).mono ?_); rintro e w23 ⟨rfl, hb⟩; refine ⟨_, rfl, ?_⟩; replace BK101 := am (BB BK101 hb); replace HB := am (below_step (K1 HB GE101.out) hb); (try clear hb); (try clear hb2); (try clear hk); (try clear hi); have hcz24_0 := z0 w23 BK101.out; have hcz24_1 := z1 w23 BK101.out; have hcz24_2 := z2 w23 BK101.out; have hcz24_3 := z3 w23 BK101.out; have hcz24_4 := z4 w23 BK101.out; have hcz24_5 := z5 w23 BK101.out; have hcz24_6 := z6 w23 BK101.out; have hcz24_7 := z7 w23 BK101.out; have hfz24_0 := blk_frozen BK101.out 0; have hfz24_1 := blk_frozen BK101.out 1; have hfz24_2 := blk_frozen BK101.out 2; have hfz24_3 := blk_frozen BK101.out 3; have hfz24_4 := blk_frozen BK101.out 4; have hfz24_5 := blk_frozen BK101.out 5; have hfz24_6 := blk_frozen BK101.out 6; have hfz24_7 := blk_frozen BK101.out 7) | (go_at_call 109; (with_reducible refine (spec_BlockOk.calls k a0_4 a0_5 true _ A6.out).mono ?_); rintro e w25 ⟨rfl, hb⟩; replace BK101 := am (BB BK101 hb); replace HB := am (below_step (K1 HB GE101.out) hb); (try clear hb); (try clear hb2); (try clear hk); (try clear hi); have hcz26_0 := z0 w25 BK101.out; have hcz26_1 := z1 w25 BK101.out; have hcz26_2 := z2 w25 BK101.out; have hcz26_3 := z3 w25 BK101.out; have hcz26_4 := z4 w25 BK101.out; have hcz26_5 := z5 w25 BK101.out; have hcz26_6 := z6 w25 BK101.out; have hcz26_7 := z7 w25 BK101.out; have hfz26_0 := blk_frozen BK101.out 0; have hfz26_1 := blk_frozen BK101.out 1; have hfz26_2 := blk_frozen BK101.out 2; have hfz26_3 := blk_frozen BK101.out 3; have hfz26_4 := blk_frozen BK101.out 4; have hfz26_5 := blk_frozen BK101.out 5; have hfz26_6 := blk_frozen BK101.out 6; have hfz26_7 := blk_frozen BK101.out 7) | (go_at_call 82; (with_reducible refine (spec_l1In.calls a0_6 0 a0_7 false _ A8.out).mono ?_); rintro e w' ⟨rfl, ⟨nd, rfl⟩⟩))
     go_meet
     case rel => exact ⟨_, (true), (by first | rfl | (simp; done) | (simp [*]; done)), H', ⟨by first | omega | exact Nat.le_refl _⟩, ⟨KB BK101⟩, ⟨K1 HB GE101.out⟩⟩
   ·replace c7 := Bool.eq_false_iff.mpr c7
    subst c7
    have H1 : (spec_l4Ok.j0 k true a0_0 a0_1 a0_2 a0_3 a0_4 a0_5 a0_6 a0_7) = some r := by rw [if_neg (show ¬ (false = true) by decide)] at H; exact H
    clear H
    have H := H1
    clear H1
    have H' := Aside0.mk H
    clear H
    have hcz27_0 := z0 w3 BK101.out
    have hcz27_1 := z1 w3 BK101.out
    have hcz27_2 := z2 w3 BK101.out
    have hcz27_3 := z3 w3 BK101.out
    have hcz27_4 := z4 w3 BK101.out
    have hcz27_5 := z5 w3 BK101.out
    have hcz27_6 := z6 w3 BK101.out
    have hcz27_7 := z7 w3 BK101.out
    have hfz27_0 := blk_frozen BK101.out 0
    have hfz27_1 := blk_frozen BK101.out 1
    have hfz27_2 := blk_frozen BK101.out 2
    have hfz27_3 := blk_frozen BK101.out 3
    have hfz27_4 := blk_frozen BK101.out 4
    have hfz27_5 := blk_frozen BK101.out 5
    have hfz27_6 := blk_frozen BK101.out 6
    have hfz27_7 := blk_frozen BK101.out 7
    go_wp2_with (first | ((with_reducible refine gate_callee (f := 109) rfl ?_); refine goesL_ (some 5) rfl rfl Try.func109 (by kernel_rfl) rfl #[.agg #[.int .i64 a0_2, .int .i64 a0_3]] rfl MT ?_; (with_reducible refine (spec_BlockOk.calls k a0_2 a0_3 true _ A4.out).mono ?_); rintro e w28 ⟨rfl, hb⟩; refine ⟨_, rfl, ?_⟩; replace BK101 := am (BB BK101 hb); replace HB := am (below_step (K1 HB GE101.out) hb); (try clear hb); (try clear hb2); (try clear hk); (try clear hi); have hcz29_0 := z0 w28 BK101.out; have hcz29_1 := z1 w28 BK101.out; have hcz29_2 := z2 w28 BK101.out; have hcz29_3 := z3 w28 BK101.out; have hcz29_4 := z4 w28 BK101.out; have hcz29_5 := z5 w28 BK101.out; have hcz29_6 := z6 w28 BK101.out; have hcz29_7 := z7 w28 BK101.out; have hfz29_0 := blk_frozen BK101.out 0; have hfz29_1 := blk_frozen BK101.out 1; have hfz29_2 := blk_frozen BK101.out 2; have hfz29_3 := blk_frozen BK101.out 3; have hfz29_4 := blk_frozen BK101.out 4; have hfz29_5 := blk_frozen BK101.out 5; have hfz29_6 := blk_frozen BK101.out 6; have hfz29_7 := blk_frozen BK101.out 7) | (go_at_call 109; (with_reducible refine (spec_BlockOk.calls k a0_4 a0_5 false _ A6.out).mono ?_); rintro e w30 ⟨rfl, hb⟩; replace BK101 := am (BB BK101 hb); replace HB := am (below_step (K1 HB GE101.out) hb); (try clear hb); (try clear hb2); (try clear hk); (try clear hi)))
    go_meet
    case rel => exact ⟨_, (true), (by first | rfl | (simp; done) | (simp [*]; done)), H', ⟨by first | omega | exact Nat.le_refl _⟩, ⟨KB BK101⟩, ⟨K1 HB GE101.out⟩⟩
  ·replace c5 := Bool.eq_false_iff.mpr c5
   subst c5
   have H1 : (spec_l4Ok.j0 k true a0_0 a0_1 a0_2 a0_3 a0_4 a0_5 a0_6 a0_7) = some r := by rw [if_neg (show ¬ (false = true) by decide)] at H; exact H
   clear H
   have H := H1
   clear H1
   have H' := Aside0.mk H
   clear H
   have hcz31_0 := z0 w3 BK101.out
   have hcz31_1 := z1 w3 BK101.out
   have hcz31_2 := z2 w3 BK101.out
   have hcz31_3 := z3 w3 BK101.out
   have hcz31_4 := z4 w3 BK101.out
   have hcz31_5 := z5 w3 BK101.out
   have hcz31_6 := z6 w3 BK101.out
   have hcz31_7 := z7 w3 BK101.out
   have hfz31_0 := blk_frozen BK101.out 0
   have hfz31_1 := blk_frozen BK101.out 1
   have hfz31_2 := blk_frozen BK101.out 2
   have hfz31_3 := blk_frozen BK101.out 3
   have hfz31_4 := blk_frozen BK101.out 4
   have hfz31_5 := blk_frozen BK101.out 5
   have hfz31_6 := blk_frozen BK101.out 6
   have hfz31_7 := blk_frozen BK101.out 7
   go_wp2_with (first | ((with_reducible refine gate_callee (f := 109) rfl ?_); refine goesL_ (some 5) rfl rfl Try.func109 (by kernel_rfl) rfl #[.agg #[.int .i64 a0_2, .int .i64 a0_3]] rfl MT ?_; (with_reducible refine (spec_BlockOk.calls k a0_2 a0_3 false _ A4.out).mono ?_); rintro e w32 ⟨rfl, hb⟩; refine ⟨_, rfl, ?_⟩; replace BK101 := am (BB BK101 hb); replace HB := am (below_step (K1 HB GE101.out) hb); (try clear hb); (try clear hb2); (try clear hk); (try clear hi)))
   go_meet
   case rel => exact ⟨_, (true), (by first | rfl | (simp; done) | (simp [*]; done)), H', ⟨by first | omega | exact Nat.le_refl _⟩, ⟨KB BK101⟩, ⟨K1 HB GE101.out⟩⟩
 case rest =>
  clear HC2
  try clear c1
  try clear p2
  try clear c5
  try clear c7
  try clear c8
  try clear c9
  try clear c10
  try clear c10b0
  try clear hcz11_0
  try clear hcz11_1
  try clear hcz11_2
  try clear hcz11_3
  try clear hcz11_4
  try clear hcz11_5
  try clear hcz11_6
  try clear hcz11_7
  try clear hcz13_0
  try clear hcz13_1
  try clear hcz13_2
  try clear hcz13_3
  try clear hcz13_4
  try clear hcz13_5
  try clear hcz13_6
  try clear hcz13_7
  try clear hcz15_0
  try clear hcz15_1
  try clear hcz15_2
  try clear hcz15_3
  try clear hcz15_4
  try clear hcz15_5
  try clear hcz15_6
  try clear hcz15_7
  try clear hcz17_0
  try clear hcz17_1
  try clear hcz17_2
  try clear hcz17_3
  try clear hcz17_4
  try clear hcz17_5
  try clear hcz17_6
  try clear hcz17_7
  try clear hcz19_0
  try clear hcz19_1
  try clear hcz19_2
  try clear hcz19_3
  try clear hcz19_4
  try clear hcz19_5
  try clear hcz19_6
  try clear hcz19_7
  try clear hcz21_0
  try clear hcz21_1
  try clear hcz21_2
  try clear hcz21_3
  try clear hcz21_4
  try clear hcz21_5
  try clear hcz21_6
  try clear hcz21_7
  try clear hcz22_0
  try clear hcz22_1
  try clear hcz22_2
  try clear hcz22_3
  try clear hcz22_4
  try clear hcz22_5
  try clear hcz22_6
  try clear hcz22_7
  try clear hcz24_0
  try clear hcz24_1
  try clear hcz24_2
  try clear hcz24_3
  try clear hcz24_4
  try clear hcz24_5
  try clear hcz24_6
  try clear hcz24_7
  try clear hcz26_0
  try clear hcz26_1
  try clear hcz26_2
  try clear hcz26_3
  try clear hcz26_4
  try clear hcz26_5
  try clear hcz26_6
  try clear hcz26_7
  try clear hcz27_0
  try clear hcz27_1
  try clear hcz27_2
  try clear hcz27_3
  try clear hcz27_4
  try clear hcz27_5
  try clear hcz27_6
  try clear hcz27_7
  try clear hcz29_0
  try clear hcz29_1
  try clear hcz29_2
  try clear hcz29_3
  try clear hcz29_4
  try clear hcz29_5
  try clear hcz29_6
  try clear hcz29_7
  try clear hcz31_0
  try clear hcz31_1
  try clear hcz31_2
  try clear hcz31_3
  try clear hcz31_4
  try clear hcz31_5
  try clear hcz31_6
  try clear hcz31_7
  try clear hfz11_0
  try clear hfz11_1
  try clear hfz11_2
  try clear hfz11_3
  try clear hfz11_4
  try clear hfz11_5
  try clear hfz11_6
  try clear hfz11_7
  try clear hfz13_0
  try clear hfz13_1
  try clear hfz13_2
  try clear hfz13_3
  try clear hfz13_4
  try clear hfz13_5
  try clear hfz13_6
  try clear hfz13_7
  try clear hfz15_0
  try clear hfz15_1
  try clear hfz15_2
  try clear hfz15_3
  try clear hfz15_4
  try clear hfz15_5
  try clear hfz15_6
  try clear hfz15_7
  try clear hfz17_0
  try clear hfz17_1
  try clear hfz17_2
  try clear hfz17_3
  try clear hfz17_4
  try clear hfz17_5
  try clear hfz17_6
  try clear hfz17_7
  try clear hfz19_0
  try clear hfz19_1
  try clear hfz19_2
  try clear hfz19_3
  try clear hfz19_4
  try clear hfz19_5
  try clear hfz19_6
  try clear hfz19_7
  try clear hfz21_0
  try clear hfz21_1
  try clear hfz21_2
  try clear hfz21_3
  try clear hfz21_4
  try clear hfz21_5
  try clear hfz21_6
  try clear hfz21_7
  try clear hfz22_0
  try clear hfz22_1
  try clear hfz22_2
  try clear hfz22_3
  try clear hfz22_4
  try clear hfz22_5
  try clear hfz22_6
  try clear hfz22_7
  try clear hfz24_0
  try clear hfz24_1
  try clear hfz24_2
  try clear hfz24_3
  try clear hfz24_4
  try clear hfz24_5
  try clear hfz24_6
  try clear hfz24_7
  try clear hfz26_0
  try clear hfz26_1
  try clear hfz26_2
  try clear hfz26_3
  try clear hfz26_4
  try clear hfz26_5
  try clear hfz26_6
  try clear hfz26_7
  try clear hfz27_0
  try clear hfz27_1
  try clear hfz27_2
  try clear hfz27_3
  try clear hfz27_4
  try clear hfz27_5
  try clear hfz27_6
  try clear hfz27_7
  try clear hfz29_0
  try clear hfz29_1
  try clear hfz29_2
  try clear hfz29_3
  try clear hfz29_4
  try clear hfz29_5
  try clear hfz29_6
  try clear hfz29_7
  try clear hfz31_0
  try clear hfz31_1
  try clear hfz31_2
  try clear hfz31_3
  try clear hfz31_4
  try clear hfz31_5
  try clear hfz31_6
  try clear hfz31_7
  obtain ⟨kq, x31_1, rfl, HA, HJ1, BK101, HB⟩ := hcut
  cases kq with
  | zero => exact absurd HA.out (by simp [spec_l4Ok.j0])
  | succ kj1 =>
   have H := HA.out
   clear HA
   simp only [spec_l4Ok.j0] at H
   by_cases c33 : x31_1 = true
   ·subst c33
    have H1 : (some false) = some r := by rw [if_pos rfl] at H; exact H
    clear H
    have H := H1
    clear H1
    obtain rfl := Option.some.inj H
    go_wp2
    go_ret
    exact ⟨by first | rfl | (simp [errW_none, errW_some] <;> rfl) | (simp [*, errW_none, errW_some] <;> rfl), K1 HB GE101.out⟩
   ·replace c33 := Bool.eq_false_iff.mpr c33
    subst c33
    have H1 : (if a0_0 = 2 then ((spec_l1In.f a0_1 0 3).bind fun t106 => (some t106)) else (some (a0_1 == 0))) = some r := by rw [if_neg (show ¬ (false = true) by decide)] at H; exact H
    clear H
    have H := H1
    clear H1
    by_cases c34 : a0_0 = 2
    ·rw [if_pos c34] at H
     have c34b0 : (a0_0 == 2) = true := beq_iff_eq.mpr c34
     have c34b1 : (a0_0 != 2) = false := bne_eq_false_iff_eq.mpr c34
     clear c34
     replace H := Option.bind_eq_some_iff.mp H
     obtain ⟨t106, A350, H⟩ := H
     replace H : (some t106) = some r := H
     have A35 := Aside0.mk A350
     clear A350
     obtain rfl := Option.some.inj H
     have hcz36_0 := z0 wc BK101.out
     have hcz36_1 := z1 wc BK101.out
     have hcz36_2 := z2 wc BK101.out
     have hcz36_3 := z3 wc BK101.out
     have hcz36_4 := z4 wc BK101.out
     have hcz36_5 := z5 wc BK101.out
     have hcz36_6 := z6 wc BK101.out
     have hcz36_7 := z7 wc BK101.out
     have hfz36_0 := blk_frozen BK101.out 0
     have hfz36_1 := blk_frozen BK101.out 1
     have hfz36_2 := blk_frozen BK101.out 2
     have hfz36_3 := blk_frozen BK101.out 3
     have hfz36_4 := blk_frozen BK101.out 4
     have hfz36_5 := blk_frozen BK101.out 5
     have hfz36_6 := blk_frozen BK101.out 6
     have hfz36_7 := blk_frozen BK101.out 7
     go_wp2_with (first | ((with_reducible refine gate_callee (f := 82) rfl ?_); refine goesL_ (some 37) rfl rfl Try.func82 (by kernel_rfl) rfl #[.int .i64 a0_1, .int .i64 0, .int .i64 3] rfl MT ?_; (with_reducible refine (spec_l1In.calls a0_1 0 3 t106 _ A35.out).mono ?_); rintro e w' ⟨rfl, ⟨nd, rfl⟩⟩; refine ⟨_, rfl, ?_⟩))
     go_ret
     exact ⟨by first | rfl | (simp [errW_none, errW_some] <;> rfl) | (simp [*, errW_none, errW_some] <;> rfl), K1 HB GE101.out⟩
    ·rw [if_neg c34] at H
     have c34b0 : (a0_0 == 2) = false := beq_eq_false_iff_ne.mpr c34
     have c34b1 : (a0_0 != 2) = true := bne_iff_ne.mpr c34
     obtain rfl := Option.some.inj H
     have hcz37_0 := z0 wc BK101.out
     have hcz37_1 := z1 wc BK101.out
     have hcz37_2 := z2 wc BK101.out
     have hcz37_3 := z3 wc BK101.out
     have hcz37_4 := z4 wc BK101.out
     have hcz37_5 := z5 wc BK101.out
     have hcz37_6 := z6 wc BK101.out
     have hcz37_7 := z7 wc BK101.out
     have hfz37_0 := blk_frozen BK101.out 0
     have hfz37_1 := blk_frozen BK101.out 1
     have hfz37_2 := blk_frozen BK101.out 2
     have hfz37_3 := blk_frozen BK101.out 3
     have hfz37_4 := blk_frozen BK101.out 4
     have hfz37_5 := blk_frozen BK101.out 5
     have hfz37_6 := blk_frozen BK101.out 6
     have hfz37_7 := blk_frozen BK101.out 7
     go_wp2
     go_ret
     exact ⟨by first | rfl | (simp [errW_none, errW_some] <;> rfl) | (simp [*, errW_none, errW_some] <;> rfl), K1 HB GE101.out⟩
end Go.Proofs.Ytioghacieopbdaa.PAll
end
section
namespace Go.Proofs.Ytioghacieopbdaa.PAll
open Go.RowKit Go.Proofs.YtioghacieopbdaaW.PrintWords Go.Proofs.YtioghacieopbdaaW.PrintLast Go.Proofs.YtioghacieopbdaaW.PrintMore
attribute [local go_sem] max2_int min2_int max_two min_two max_three min_three max_four min_four   -- for this text's walks alone
set_option linter.unusedVariables false
set_option linter.unusedSimpArgs false
def spec_RulesOk.l0 : Nat → List (S34) → Int → Option (Bool)
 | 0, _, _ => none
 | k + 1, x0, x3 => if x3 < (x0.length : Int) then (if 0 ≤ x3 then ((spec_l4Ok.f k ((rd_T34 x0 x3).f0) ((rd_T34 x0 x3).f1) ((rd_T34 x0 x3).f2.f0) ((rd_T34 x0 x3).f2.f1) ((rd_T34 x0 x3).f3.f0) ((rd_T34 x0 x3).f3.f1) ((rd_T34 x0 x3).f4) ((rd_T34 x0 x3).f5)).bind fun t102 => (if t102 = true then (spec_RulesOk.l0 k x0 (wrap64 (x3 + 1))) else (some false))) else (none)) else (some (decide ((x0.length : Int) ≤ 8)))
def spec_RulesOk.f (k : Nat) (l0 : List (S34)) : Option (Bool) := spec_RulesOk.l0 k l0 0
set_option maxHeartbeats 8000000 in
set_option maxRecDepth 100000 in
theorem spec_RulesOk.calls (k : Nat) (A0 : Option Addr) (c0 : Nat) (l0 : List (S34)) (r : Bool) (w : World) (hr0 : Kd.C k34 w A0 l0.length l0) (hc0 : l0.length ≤ c0) (h : spec_RulesOk.f k l0 = some r) :
  Calls Try.prog 19 #[.slice A0 l0.length c0] w fun e w' => e = .returned (.bool r) ∧ Below w.heap.size w w' := by
 have hu34 := Try.underlying34
 have HR0 := Aside0.mk hr0
 have HC0 := Aside0.mk hc0
 clear hr0 hc0
 have HB := am (Below.refl w.heap.size w)
 have H : (spec_RulesOk.l0 k l0 0) = some r := h
 clear h
 have H' := Aside0.mk H
 clear H
 go_enter Try.func19, Try.ntmps19
 go_wp2
 go_loopg [3] k (fun kq v3 w' => ∃ (x3_1 : Int), v3 = .int .i64 x3_1 ∧ Aside0 (spec_RulesOk.l0 kq l0 x3_1 = some r) ∧ Aside0 (kq ≤ k) ∧ Aside0 (Below w.heap.size w w'))
 case atStart => exact ⟨(0), (by first | rfl | (simp; done) | (simp [*]; done)), H', ⟨Nat.le_refl _⟩, ⟨KL HB⟩⟩
 case round =>
  clear H'
  try clear c1
  obtain ⟨x3_1, rfl, HA, HK1, HB⟩ := hrel
  cases gk with
  | zero => exact absurd HA.out (by simp [spec_RulesOk.l0])
  | succ k1 =>
   have H := HA.out
   clear HA
   simp only [spec_RulesOk.l0] at H
   by_cases c2 : x3_1 < (l0.length : Int)
   ·rw [if_pos c2] at H
    have c2b0 : decide (x3_1 < (l0.length : Int)) = true := decide_eq_true c2
    clear c2
    by_cases c3 : 0 ≤ x3_1
    ·rw [if_pos c3] at H
     have c3b0 : decide (0 ≤ x3_1) = true := decide_eq_true c3
     clear c3
     replace H := Option.bind_eq_some_iff.mp H
     obtain ⟨t102, A40, H⟩ := H
     replace H : (if t102 = true then (spec_RulesOk.l0 k1 l0 (wrap64 (x3_1 + 1))) else (some false)) = some r := H
     have A4 := Aside0.mk A40
     clear A40
     by_cases c5 : t102 = true
     ·subst c5
      have H1 : (spec_RulesOk.l0 k1 l0 (wrap64 (x3_1 + 1))) = some r := by rw [if_pos rfl] at H; exact H
      clear H
      have H := H1
      clear H1
      have H' := Aside0.mk H
      clear H
      have p101 : 0 ≤ (x3_1 : Int) := of_decide_eq_true (by first | (with_reducible assumption) | assumption)
      have q101 : x3_1 < (l0.length : Int) := of_decide_eq_true (by first | (with_reducible assumption) | assumption)
      obtain ⟨ad101, e101, hx101_0, hx101_1, hx101_2, hx101_3, hx101_4, hx101_5, hx101_6, hx101_7⟩ := at_T34 HR0.out x3_1 p101 q101
      cases e101
      replace hx101_0 := (HB.out.cell (World.block_lt_of_cell? w _ hx101_0)).trans hx101_0
      replace hx101_1 := (HB.out.cell (World.block_lt_of_cell? w _ hx101_1)).trans hx101_1
      replace hx101_2 := (HB.out.cell (World.block_lt_of_cell? w _ hx101_2)).trans hx101_2
      replace hx101_3 := (HB.out.cell (World.block_lt_of_cell? w _ hx101_3)).trans hx101_3
      replace hx101_4 := (HB.out.cell (World.block_lt_of_cell? w _ hx101_4)).trans hx101_4
      replace hx101_5 := (HB.out.cell (World.block_lt_of_cell? w _ hx101_5)).trans hx101_5
      replace hx101_6 := (HB.out.cell (World.block_lt_of_cell? w _ hx101_6)).trans hx101_6
      replace hx101_7 := (HB.out.cell (World.block_lt_of_cell? w _ hx101_7)).trans hx101_7
      replace p101 := eq_true p101
      replace q101 := eq_true q101
      go_wp2_with (first | ((with_reducible refine gate_callee (f := 80) rfl ?_); refine goesL_ (some 14) rfl rfl Try.func80 (by kernel_rfl) rfl #[.agg #[.int .i64 ((rd_T34 l0 x3_1).f0), .int .i64 ((rd_T34 l0 x3_1).f1), .int .i64 ((rd_T34 l0 x3_1).f2.f0), .int .i64 ((rd_T34 l0 x3_1).f2.f1), .int .i64 ((rd_T34 l0 x3_1).f3.f0), .int .i64 ((rd_T34 l0 x3_1).f3.f1), .int .i64 ((rd_T34 l0 x3_1).f4), .int .i64 ((rd_T34 l0 x3_1).f5)]] rfl MT ?_; (with_reducible refine (spec_l4Ok.calls k1 ((rd_T34 l0 x3_1).f0) ((rd_T34 l0 x3_1).f1) ((rd_T34 l0 x3_1).f2.f0) ((rd_T34 l0 x3_1).f2.f1) ((rd_T34 l0 x3_1).f3.f0) ((rd_T34 l0 x3_1).f3.f1) ((rd_T34 l0 x3_1).f4) ((rd_T34 l0 x3_1).f5) true _ A4.out).mono ?_); rintro e w6 ⟨rfl, hb⟩; refine ⟨_, rfl, ?_⟩; replace HB := am (below_step (KL HB) hb); (try clear hb); (try clear hb2); (try clear hk); (try clear hi)))
      go_roundg k1
      case measure => have := HK1.out; omega
      case rel => exact ⟨(wrap64 (x3_1 + 1)), (by first | rfl | (simp; done) | (simp [*]; done)), H', ⟨by have := HK1.out; omega⟩, ⟨KL HB⟩⟩
     ·replace c5 := Bool.eq_false_iff.mpr c5
      subst c5
      have H1 : (some false) = some r := by rw [if_neg (show ¬ (false = true) by decide)] at H; exact H
      clear H
      have H := H1
      clear H1
      obtain rfl := Option.some.inj H
      have p101 : 0 ≤ (x3_1 : Int) := of_decide_eq_true (by first | (with_reducible assumption) | assumption)
      have q101 : x3_1 < (l0.length : Int) := of_decide_eq_true (by first | (with_reducible assumption) | assumption)
      obtain ⟨ad101, e101, hx101_0, hx101_1, hx101_2, hx101_3, hx101_4, hx101_5, hx101_6, hx101_7⟩ := at_T34 HR0.out x3_1 p101 q101
      cases e101
      replace hx101_0 := (HB.out.cell (World.block_lt_of_cell? w _ hx101_0)).trans hx101_0
      replace hx101_1 := (HB.out.cell (World.block_lt_of_cell? w _ hx101_1)).trans hx101_1
      replace hx101_2 := (HB.out.cell (World.block_lt_of_cell? w _ hx101_2)).trans hx101_2
      replace hx101_3 := (HB.out.cell (World.block_lt_of_cell? w _ hx101_3)).trans hx101_3
      replace hx101_4 := (HB.out.cell (World.block_lt_of_cell? w _ hx101_4)).trans hx101_4
      replace hx101_5 := (HB.out.cell (World.block_lt_of_cell? w _ hx101_5)).trans hx101_5
      replace hx101_6 := (HB.out.cell (World.block_lt_of_cell? w _ hx101_6)).trans hx101_6
      replace hx101_7 := (HB.out.cell (World.block_lt_of_cell? w _ hx101_7)).trans hx101_7
      replace p101 := eq_true p101
      replace q101 := eq_true q101
      go_wp2_with (first | ((with_reducible refine gate_callee (f := 80) rfl ?_); refine goesL_ (some 14) rfl rfl Try.func80 (by kernel_rfl) rfl #[.agg #[.int .i64 ((rd_T34 l0 x3_1).f0), .int .i64 ((rd_T34 l0 x3_1).f1), .int .i64 ((rd_T34 l0 x3_1).f2.f0), .int .i64 ((rd_T34 l0 x3_1).f2.f1), .int .i64 ((rd_T34 l0 x3_1).f3.f0), .int .i64 ((rd_T34 l0 x3_1).f3.f1), .int .i64 ((rd_T34 l0 x3_1).f4), .int .i64 ((rd_T34 l0 x3_1).f5)]] rfl MT ?_; (with_reducible refine (spec_l4Ok.calls k1 ((rd_T34 l0 x3_1).f0) ((rd_T34 l0 x3_1).f1) ((rd_T34 l0 x3_1).f2.f0) ((rd_T34 l0 x3_1).f2.f1) ((rd_T34 l0 x3_1).f3.f0) ((rd_T34 l0 x3_1).f3.f1) ((rd_T34 l0 x3_1).f4) ((rd_T34 l0 x3_1).f5) false _ A4.out).mono ?_); rintro e w7 ⟨rfl, hb⟩; refine ⟨_, rfl, ?_⟩; replace HB := am (below_step (KL HB) hb); (try clear hb); (try clear hb2); (try clear hk); (try clear hi)))
      go_ret
      exact ⟨by first | rfl | (simp [errW_none, errW_some] <;> rfl) | (simp [*, errW_none, errW_some] <;> rfl), KL HB⟩
    ·rw [if_neg c3] at H
     exact absurd H (by simp)
   ·rw [if_neg c2] at H
    have c2b0 : decide (x3_1 < (l0.length : Int)) = false := decide_eq_false c2
    clear c2
    obtain rfl := Option.some.inj H
    go_wp2
    go_ret
    exact ⟨by first | rfl | (simp [errW_none, errW_some] <;> rfl) | (simp [*, errW_none, errW_some] <;> rfl), KL HB⟩
end Go.Proofs.Ytioghacieopbdaa.PAll
end
section
namespace Go.Proofs.Ytioghacieopbdaa.PAll
open Go.RowKit Go.Proofs.YtioghacieopbdaaW.PrintWords Go.Proofs.YtioghacieopbdaaW.PrintLast Go.Proofs.YtioghacieopbdaaW.PrintMore
attribute [local go_sem] max2_int min2_int max_two min_two max_three min_three max_four min_four   -- for this text's walks alone
set_option linter.unusedVariables false
set_option linter.unusedSimpArgs false
def spec_l4Call.f (a0_0 : Int) (a0_1 : Int) (a0_2 : Int) : Option (Bool) := (spec_l1Addr.f a0_0).bind fun t102 => (if t102 = true then ((spec_l1Addr.f a0_1).bind fun t103 => (if t103 = true then ((spec_l1In.f a0_2 0 65535).bind fun t104 => (some t104)) else (some false))) else (some false))
set_option maxHeartbeats 8000000 in
set_option maxRecDepth 100000 in
theorem spec_l4Call.calls (a0_0 : Int) (a0_1 : Int) (a0_2 : Int) (r : Bool) (w : World) (h : spec_l4Call.f a0_0 a0_1 a0_2 = some r) :
  Calls Try.prog 75 #[.agg #[.int .i64 a0_0, .int .i64 a0_1, .int .i64 a0_2]] w fun e w' => e = .returned (.bool r) ∧ Below w.heap.size w w' := by
 have hu25 := Try.underlying25
 have HB := am (Below.refl w.heap.size w)
 have H : ((spec_l1Addr.f a0_0).bind fun t102 => (if t102 = true then ((spec_l1Addr.f a0_1).bind fun t103 => (if t103 = true then ((spec_l1In.f a0_2 0 65535).bind fun t104 => (some t104)) else (some false))) else (some false))) = some r := h
 clear h
 replace H := Option.bind_eq_some_iff.mp H
 obtain ⟨t102, A20, H⟩ := H
 replace H : (if t102 = true then ((spec_l1Addr.f a0_1).bind fun t103 => (if t103 = true then ((spec_l1In.f a0_2 0 65535).bind fun t104 => (some t104)) else (some false))) else (some false)) = some r := H
 have A2 := Aside0.mk A20
 clear A20
 by_cases c3 : t102 = true
 ·subst c3
  have H1 : ((spec_l1Addr.f a0_1).bind fun t103 => (if t103 = true then ((spec_l1In.f a0_2 0 65535).bind fun t104 => (some t104)) else (some false))) = some r := by rw [if_pos rfl] at H; exact H
  clear H
  have H := H1
  clear H1
  replace H := Option.bind_eq_some_iff.mp H
  obtain ⟨t103, A40, H⟩ := H
  replace H : (if t103 = true then ((spec_l1In.f a0_2 0 65535).bind fun t104 => (some t104)) else (some false)) = some r := H
  have A4 := Aside0.mk A40
  clear A40
  by_cases c5 : t103 = true
  ·subst c5
   have H1 : ((spec_l1In.f a0_2 0 65535).bind fun t104 => (some t104)) = some r := by rw [if_pos rfl] at H; exact H
   clear H
   have H := H1
   clear H1
   replace H := Option.bind_eq_some_iff.mp H
   obtain ⟨t104, A60, H⟩ := H
   replace H : (some t104) = some r := H
   have A6 := Aside0.mk A60
   clear A60
   obtain rfl := Option.some.inj H
   go_enter Try.func75, Try.ntmps75
   go_wp2_with (first | ((with_reducible refine gate_dst (N := 1) rfl ?_); refine box_event rfl (N := 1) rfl (cs := #[.int .i64 a0_0, .int .i64 a0_1, .int .i64 a0_2]) (t := 25) BX ?_; intro gb101 hg w7 hbox hb; have BK101 := am (hbox); have GW101 := am ((GL hg (below_size (KL HB)) : w.heap.size ≤ gb101)); have GE101 := GW101; replace HB := am (below_step (KL HB) hb); clear hb hbox hg; have hcz8_0 := z0 w7 BK101.out; have hcz8_1 := z1 w7 BK101.out; have hcz8_2 := z2 w7 BK101.out; have hfz8_0 := blk_frozen BK101.out 0; have hfz8_1 := blk_frozen BK101.out 1; have hfz8_2 := blk_frozen BK101.out 2) | ((with_reducible refine gate_callee (f := 107) rfl ?_); refine goesL_ (some 5) rfl rfl Try.func107 (by kernel_rfl) rfl #[.int .i64 a0_0] rfl MT ?_; (with_reducible refine (spec_l1Addr.calls a0_0 true _ A2.out).mono ?_); rintro e w' ⟨rfl, ⟨nd, rfl⟩⟩; refine ⟨_, rfl, ?_⟩) | (go_at_call 107; (with_reducible refine (spec_l1Addr.calls a0_1 true _ A4.out).mono ?_); rintro e w' ⟨rfl, ⟨nd, rfl⟩⟩) | (go_at_call 82; (with_reducible refine (spec_l1In.calls a0_2 0 65535 t104 _ A6.out).mono ?_); rintro e w' ⟨rfl, ⟨nd, rfl⟩⟩))
   go_ret
   exact ⟨by first | rfl | (simp [errW_none, errW_some] <;> rfl) | (simp [*, errW_none, errW_some] <;> rfl), K1 HB GE101.out⟩
  ·replace c5 := Bool.eq_false_iff.mpr c5
   subst c5
   have H1 : (some false) = some r := by rw [if_neg (show ¬ (false = true) by decide)] at H; exact H
   clear H
   have H := H1
   clear H1
   obtain rfl := Option.some.inj H
   go_enter Try.func75, Try.ntmps75
   go_wp2_with (first | ((with_reducible refine gate_dst (N := 1) rfl ?_); refine box_event rfl (N := 1) rfl (cs := #[.int .i64 a0_0, .int .i64 a0_1, .int .i64 a0_2]) (t := 25) BX ?_; intro gb101 hg w9 hbox hb; have BK101 := am (hbox); have GW101 := am ((GL hg (below_size (KL HB)) : w.heap.size ≤ gb101)); have GE101 := GW101; replace HB := am (below_step (KL HB) hb); clear hb hbox hg; have hcz10_0 := z0 w9 BK101.out; have hcz10_1 := z1 w9 BK101.out; have hcz10_2 := z2 w9 BK101.out; have hfz10_0 := blk_frozen BK101.out 0; have hfz10_1 := blk_frozen BK101.out 1; have hfz10_2 := blk_frozen BK101.out 2) | ((with_reducible refine gate_callee (f := 107) rfl ?_); refine goesL_ (some 5) rfl rfl Try.func107 (by kernel_rfl) rfl #[.int .i64 a0_0] rfl MT ?_; (with_reducible refine (spec_l1Addr.calls a0_0 true _ A2.out).mono ?_); rintro e w' ⟨rfl, ⟨nd, rfl⟩⟩; refine ⟨_, rfl, ?_⟩) | (go_at_call 107; (with_reducible refine (spec_l1Addr.calls a0_1 false _ A4.out).mono ?_); rintro e w' ⟨rfl, ⟨nd, rfl⟩⟩))
   go_ret
   exact ⟨by first | rfl | (simp [errW_none, errW_some] <;> rfl) | (simp [*, errW_none, errW_some] <;> rfl), K1 HB GE101.out⟩
 ·replace c3 := Bool.eq_false_iff.mpr c3
  subst c3
  have H1 : (some false) = some r := by rw [if_neg (show ¬ (false = true) by decide)] at H; exact H
  clear H
  have H := H1
  clear H1
  obtain rfl := Option.some.inj H
  go_enter Try.func75, Try.ntmps75
  go_wp2_with (first | ((with_reducible refine gate_dst (N := 1) rfl ?_); refine box_event rfl (N := 1) rfl (cs := #[.int .i64 a0_0, .int .i64 a0_1, .int .i64 a0_2]) (t := 25) BX ?_; intro gb101 hg w11 hbox hb; have BK101 := am (hbox); have GW101 := am ((GL hg (below_size (KL HB)) : w.heap.size ≤ gb101)); have GE101 := GW101; replace HB := am (below_step (KL HB) hb); clear hb hbox hg; have hcz12_0 := z0 w11 BK101.out; have hcz12_1 := z1 w11 BK101.out; have hcz12_2 := z2 w11 BK101.out; have hfz12_0 := blk_frozen BK101.out 0; have hfz12_1 := blk_frozen BK101.out 1; have hfz12_2 := blk_frozen BK101.out 2) | ((with_reducible refine gate_callee (f := 107) rfl ?_); refine goesL_ (some 5) rfl rfl Try.func107 (by kernel_rfl) rfl #[.int .i64 a0_0] rfl MT ?_; (with_reducible refine (spec_l1Addr.calls a0_0 false _ A2.out).mono ?_); rintro e w' ⟨rfl, ⟨nd, rfl⟩⟩; refine ⟨_, rfl, ?_⟩))
  go_ret
  exact ⟨by first | rfl | (simp [errW_none, errW_some] <;> rfl) | (simp [*, errW_none, errW_some] <;> rfl), K1 HB GE101.out⟩
end Go.Proofs.Ytioghacieopbdaa.PAll
end
section
namespace Go.Proofs.Ytioghacieopbdaa.PAll
open Go.RowKit Go.Proofs.YtioghacieopbdaaW.PrintWords Go.Proofs.YtioghacieopbdaaW.PrintLast Go.Proofs.YtioghacieopbdaaW.PrintMore
attribute [local go_sem] max2_int min2_int max_two min_two max_three min_three max_four min_four   -- for this text's walks alone
set_option linter.unusedVariables false
set_option linter.unusedSimpArgs false
def spec_l1Last.f (k : Nat) (a0_0 : Int) (a0_1 : Int) : Option (Int) := (spec_l1Size.f k a0_1).bind fun t102 => (some (wrap64 ((wrap64 (a0_0 + t102)) - 1)))
set_option maxHeartbeats 8000000 in
set_option maxRecDepth 100000 in
theorem spec_l1Last.calls (k : Nat) (a0_0 : Int) (a0_1 : Int) (r : Int) (w : World) (h : spec_l1Last.f k a0_0 a0_1 = some r) :
  Calls Try.prog 137 #[.agg #[.int .i64 a0_0, .int .i64 a0_1]] w fun e w' => e = .returned (.int .i64 r) ∧ Below w.heap.size w w' := by
 have hu32 := Try.underlying32
 have HB := am (Below.refl w.heap.size w)
 have H : ((spec_l1Size.f k a0_1).bind fun t102 => (some (wrap64 ((wrap64 (a0_0 + t102)) - 1)))) = some r := h
 clear h
 replace H := Option.bind_eq_some_iff.mp H
 obtain ⟨t102, A20, H⟩ := H
 replace H : (some (wrap64 ((wrap64 (a0_0 + t102)) - 1))) = some r := H
 have A2 := Aside0.mk A20
 clear A20
 obtain rfl := Option.some.inj H
 go_enter Try.func137, Try.ntmps137
 go_wp2_with (first | ((with_reducible refine gate_dst (N := 1) rfl ?_); refine box_event rfl (N := 1) rfl (cs := #[.int .i64 a0_0, .int .i64 a0_1]) (t := 32) BX ?_; intro gb101 hg w3 hbox hb; have BK101 := am (hbox); have GW101 := am ((GL hg (below_size (KL HB)) : w.heap.size ≤ gb101)); have GE101 := GW101; replace HB := am (below_step (KL HB) hb); clear hb hbox hg; have hcz4_0 := z0 w3 BK101.out; have hcz4_1 := z1 w3 BK101.out; have hfz4_0 := blk_frozen BK101.out 0; have hfz4_1 := blk_frozen BK101.out 1) | (go_at_call 138; (with_reducible refine (spec_l1Size.calls k a0_1 t102 _ A2.out).mono ?_); rintro e w' ⟨rfl, ⟨nd, rfl⟩⟩; (try first | exact ⟨rfl, _, World.drewN_drewN _ _ _⟩ | exact ⟨rfl, _, Eq.trans (World.drewN_drewN _ _ _) (congrArg (World.drewN _) (Nat.add_assoc _ _ _))⟩)))
 repeat (go_quiet (first | ((with_reducible refine gate_dst (N := 1) rfl ?_); refine box_event rfl (N := 1) rfl (cs := #[.int .i64 a0_0, .int .i64 a0_1]) (t := 32) BX ?_; intro gb101 hg w3 hbox hb; have BK101 := am (hbox); have GW101 := am ((GL hg (below_size (KL HB)) : w.heap.size ≤ gb101)); have GE101 := GW101; replace HB := am (below_step (KL HB) hb); clear hb hbox hg; have hcz4_0 := z0 w3 BK101.out; have hcz4_1 := z1 w3 BK101.out; have hfz4_0 := blk_frozen BK101.out 0; have hfz4_1 := blk_frozen BK101.out 1) | (go_at_call 138; (with_reducible refine (spec_l1Size.calls k a0_1 t102 _ A2.out).mono ?_); rintro e w' ⟨rfl, ⟨nd, rfl⟩⟩; (try first | exact ⟨rfl, _, World.drewN_drewN _ _ _⟩ | exact ⟨rfl, _, Eq.trans (World.drewN_drewN _ _ _) (congrArg (World.drewN _) (Nat.add_assoc _ _ _))⟩))); try go_wp2_with (first | ((with_reducible refine gate_dst (N := 1) rfl ?_); refine box_event rfl (N := 1) rfl (cs := #[.int .i64 a0_0, .int .i64 a0_1]) (t := 32) BX ?_; intro gb101 hg w3 hbox hb; have BK101 := am (hbox); have GW101 := am ((GL hg (below_size (KL HB)) : w.heap.size ≤ gb101)); have GE101 := GW101; replace HB := am (below_step (KL HB) hb); clear hb hbox hg; have hcz4_0 := z0 w3 BK101.out; have hcz4_1 := z1 w3 BK101.out; have hfz4_0 := blk_frozen BK101.out 0; have hfz4_1 := blk_frozen BK101.out 1) | (go_at_call 138; (with_reducible refine (spec_l1Size.calls k a0_1 t102 _ A2.out).mono ?_); rintro e w' ⟨rfl, ⟨nd, rfl⟩⟩; (try first | exact ⟨rfl, _, World.drewN_drewN _ _ _⟩ | exact ⟨rfl, _, Eq.trans (World.drewN_drewN _ _ _) (congrArg (World.drewN _) (Nat.add_assoc _ _ _))⟩))))
 go_ret
 exact ⟨by first | rfl | (simp [errW_none, errW_some] <;> rfl) | (simp [*, errW_none, errW_some] <;> rfl), K1 HB GE101.out⟩
end Go.Proofs.Ytioghacieopbdaa.PAll
end
section
namespace Go.Proofs.Ytioghacieopbdaa.PAll
open Go.RowKit Go.Proofs.YtioghacieopbdaaW.PrintWords Go.Proofs.YtioghacieopbdaaW.PrintLast Go.Proofs.YtioghacieopbdaaW.PrintMore
attribute [local go_sem] max2_int min2_int max_two min_two max_three min_three max_four min_four   -- for this text's walks alone
set_option linter.unusedVariables false
set_option linter.unusedSimpArgs false
def spec_l4About.f (k : Nat) (a0_0 : Int) (a0_1 : Int) (a0_2 : Int) (a0_3 : Int) (a0_4 : Int) (a0_5 : Int) (a0_6 : Int) (a0_7 : Int) (a1_0 : Int) (a1_1 : Int) (a1_2 : Int) : Option (Bool) := (spec_l1Last.f k a0_2 a0_3).bind fun t103 => ((spec_l1In.f a1_0 a0_2 t103).bind fun t104 => (if t104 = true then ((spec_l1Last.f k a0_4 a0_5).bind fun t105 => ((spec_l1In.f a1_1 a0_4 t105).bind fun t106 => (if t106 = true then ((spec_l1In.f a1_2 a0_6 a0_7).bind fun t107 => (some t107)) else (some false)))) else (some false)))
def spec_l4About.T1 : Bool × List (List Nat × List Nat) := (true, [([], []), ([0], [0]), ([], []), ([2], [2]), ([3], [3]), ([], []), ([5], [5]), ([6], [6]), ([1, 4, 7, 7], [1, 4, 7]), ([8, 8], [8]), ([9], [9]), ([10, 9], [9, 10]), ([9], [9]), ([12, 9], [9, 12]), ([13, 9], [9, 13]), ([9], [9]), ([15, 9], [9, 15]), ([16, 9, 9], [9, 16]), ([11, 14, 17, 17, 9], [9, 11, 14, 17]), ([9, 18], [9, 18]), ([19, 18], [19]), ([20], [20]), ([21, 20], [20, 21]), ([20], [20]), ([23, 20], [20, 23]), ([20], [20]), ([25, 20], [20, 25]), ([22, 24, 26, 20, 20], [20, 22, 24, 26]), ([20, 27], [20, 27]), ([28, 27, 0, 1, 2, 3, 4, 5, 6, 7, 8, 9, 10, 11, 12, 13, 14, 15, 16, 17, 18, 19, 20, 21, 22, 23, 24, 25, 26, 27, 28], [28])])
def spec_l4About.B1 : List Nat := [0, 1, 0, 4, 12, 0, 32, 96, 255, 511, 1023, 2047, 1023, 5119, 13311, 1023, 33791, 99327, 262143, 524287, 1048575, 2097151, 4194303, 2097151, 10485759, 2097151, 35651583, 134217727, 268435455, 536870911]
theorem spec_l4About.tab1 : rtab .any (opsOf Try.f128 1) = spec_l4About.T1 := by kernel_rfl
theorem spec_l4About.bits1 : waitsOk spec_l4About.T1.2 spec_l4About.B1 = true := by kernel_rfl
set_option maxHeartbeats 8000000 in
set_option maxRecDepth 100000 in
theorem spec_l4About.calls (k : Nat) (a0_0 : Int) (a0_1 : Int) (a0_2 : Int) (a0_3 : Int) (a0_4 : Int) (a0_5 : Int) (a0_6 : Int) (a0_7 : Int) (a1_0 : Int) (a1_1 : Int) (a1_2 : Int) (r : Bool) (w : World) (h : spec_l4About.f k a0_0 a0_1 a0_2 a0_3 a0_4 a0_5 a0_6 a0_7 a1_0 a1_1 a1_2 = some r) :
  Calls Try.prog 128 #[.agg #[.int .i64 a0_0, .int .i64 a0_1, .int .i64 a0_2, .int .i64 a0_3, .int .i64 a0_4, .int .i64 a0_5, .int .i64 a0_6, .int .i64 a0_7], .agg #[.int .i64 a1_0, .int .i64 a1_1, .int .i64 a1_2]] w fun e w' => e = .returned (.bool r) ∧ Below w.heap.size w w' := by
 have hu34 := Try.underlying34
 have hu25 := Try.underlying25
 have hu32 := Try.underlying32
 have HB := am (Below.refl w.heap.size w)
 have H : ((spec_l1Last.f k a0_2 a0_3).bind fun t103 => ((spec_l1In.f a1_0 a0_2 t103).bind fun t104 => (if t104 = true then ((spec_l1Last.f k a0_4 a0_5).bind fun t105 => ((spec_l1In.f a1_1 a0_4 t105).bind fun t106 => (if t106 = true then ((spec_l1In.f a1_2 a0_6 a0_7).bind fun t107 => (some t107)) else (some false)))) else (some false)))) = some r := h
 clear h
 replace H := Option.bind_eq_some_iff.mp H
 obtain ⟨t103, A30, H⟩ := H
 replace H : ((spec_l1In.f a1_0 a0_2 t103).bind fun t104 => (if t104 = true then ((spec_l1Last.f k a0_4 a0_5).bind fun t105 => ((spec_l1In.f a1_1 a0_4 t105).bind fun t106 => (if t106 = true then ((spec_l1In.f a1_2 a0_6 a0_7).bind fun t107 => (some t107)) else (some false)))) else (some false))) = some r := H
 have A3 := Aside0.mk A30
 clear A30
 replace H := Option.bind_eq_some_iff.mp H
 obtain ⟨t104, A40, H⟩ := H
 replace H : (if t104 = true then ((spec_l1Last.f k a0_4 a0_5).bind fun t105 => ((spec_l1In.f a1_1 a0_4 t105).bind fun t106 => (if t106 = true then ((spec_l1In.f a1_2 a0_6 a0_7).bind fun t107 => (some t107)) else (some false)))) else (some false)) = some r := H
 have A4 := Aside0.mk A40
 clear A40
 by_cases c5 : t104 = true
 ·subst c5
  have H1 : ((spec_l1Last.f k a0_4 a0_5).bind fun t105 => ((spec_l1In.f a1_1 a0_4 t105).bind fun t106 => (if t106 = true then ((spec_l1In.f a1_2 a0_6 a0_7).bind fun t107 => (some t107)) else (some false)))) = some r := by rw [if_pos rfl] at H; exact H
  clear H
  have H := H1
  clear H1
  replace H := Option.bind_eq_some_iff.mp H
  obtain ⟨t105, A60, H⟩ := H
  replace H : ((spec_l1In.f a1_1 a0_4 t105).bind fun t106 => (if t106 = true then ((spec_l1In.f a1_2 a0_6 a0_7).bind fun t107 => (some t107)) else (some false))) = some r := H
  have A6 := Aside0.mk A60
  clear A60
  replace H := Option.bind_eq_some_iff.mp H
  obtain ⟨t106, A70, H⟩ := H
  replace H : (if t106 = true then ((spec_l1In.f a1_2 a0_6 a0_7).bind fun t107 => (some t107)) else (some false)) = some r := H
  have A7 := Aside0.mk A70
  clear A70
  by_cases c8 : t106 = true
  ·subst c8
   have H1 : ((spec_l1In.f a1_2 a0_6 a0_7).bind fun t107 => (some t107)) = some r := by rw [if_pos rfl] at H; exact H
   clear H
   have H := H1
   clear H1
   replace H := Option.bind_eq_some_iff.mp H
   obtain ⟨t107, A90, H⟩ := H
   replace H : (some t107) = some r := H
   have A9 := Aside0.mk A90
   clear A90
   obtain rfl := Option.some.inj H
   go_enter Try.func128, Try.ntmps128
   try go_wp2_with (first | ((with_reducible refine gate_dst (N := 2) rfl ?_); refine box_event rfl (N := 2) rfl (cs := #[.int .i64 a0_0, .int .i64 a0_1, .int .i64 a0_2, .int .i64 a0_3, .int .i64 a0_4, .int .i64 a0_5, .int .i64 a0_6, .int .i64 a0_7]) (t := 34) BX ?_; intro gb101 hg w10 hbox hb; have BK101 := am (hbox); have GW101 := am ((GL hg (below_size (KL HB)) : w.heap.size ≤ gb101)); have GE101 := GW101; replace HB := am (below_step (KL HB) hb); clear hb hbox hg) | ((with_reducible refine gate_dst (N := 3) rfl ?_); refine box_event rfl (N := 3) rfl (cs := #[.int .i64 a1_0, .int .i64 a1_1, .int .i64 a1_2]) (t := 25) BX ?_; intro gb102 hg w11 hbox hb; have BK102 := am (hbox); have GW102 := am ((GL hg (below_size (K1 HB GE101.out)) : w.heap.size ≤ gb102)); have GE102 := GW102; replace HB := am (below_step (K1 HB GE101.out) hb); have NB101_102 := am (NL BK101 hg); have NB102_101 := am (NG BK101 hg); replace BK101 := am (BB BK101 hb); clear hb hbox hg))
   replace BK101 := am (blk_drew BK101.out)
   replace BK102 := am (blk_drew BK102.out)
   replace HB := am (below_drew1 HB.out)
   refine start_ (n := 30) (S := fun w' => w'.cell? ⟨gb102, 0, none⟩ = some (.int .i64 a1_0) ∧ w'.cell? ⟨gb102, 1, none⟩ = some (.int .i64 a1_1) ∧ w'.cell? ⟨gb102, 2, none⟩ = some (.int .i64 a1_2) ∧ w'.cell? ⟨gb101, 0, none⟩ = some (.int .i64 a0_0) ∧ w'.cell? ⟨gb101, 1, none⟩ = some (.int .i64 a0_1) ∧ w'.cell? ⟨gb101, 2, none⟩ = some (.int .i64 a0_2) ∧ w'.cell? ⟨gb101, 3, none⟩ = some (.int .i64 a0_3) ∧ w'.cell? ⟨gb101, 4, none⟩ = some (.int .i64 a0_4) ∧ w'.cell? ⟨gb101, 5, none⟩ = some (.int .i64 a0_5) ∧ w'.cell? ⟨gb101, 6, none⟩ = some (.int .i64 a0_6) ∧ w'.cell? ⟨gb101, 7, none⟩ = some (.int .i64 a0_7)) (ds := []) (tf 0 30) (by kernel_rfl) rfl rfl ⟨z0 _ BK102.out, z1 _ BK102.out, z2 _ BK102.out, z0 _ BK101.out, z1 _ BK101.out, z2 _ BK101.out, z3 _ BK101.out, z4 _ BK101.out, z5 _ BK101.out, z6 _ BK101.out, z7 _ BK101.out⟩ (fun hHeld => ?_); refine with_tabW spec_l4About.tab1 spec_l4About.bits1 (fun HT_ HW_ => ?_)
   generalize w11.drew = w12 at BK101 BK102 HB hHeld ⊢
   refine pu 0 (some 5) (tf 1 29) (any_of HT_.out (by kernel_rfl)) ?_
   refine pu 2 (some 7) #[true, false, true, false, false, false, false, false, false, false, false, false, false, false, false, false, false, false, false, false, false, false, false, false, false, false, false, false, false, false] (any_of HT_.out (by kernel_rfl)) ?_
   refine pu 3 (some 8) #[true, false, true, true, false, false, false, false, false, false, false, false, false, false, false, false, false, false, false, false, false, false, false, false, false, false, false, false, false, false] (any_of HT_.out (by kernel_rfl)) ?_
   refine pu 5 (some 10) #[true, false, true, true, false, true, false, false, false, false, false, false, false, false, false, false, false, false, false, false, false, false, false, false, false, false, false, false, false, false] (any_of HT_.out (by kernel_rfl)) ?_
   refine tk 1 (some 6) #[true, true, true, true, false, true, false, false, false, false, false, false, false, false, false, false, false, false, false, false, false, false, false, false, false, false, false, false, false, false] (take_ofW HT_.out HW_.out (by kernel_rfl)) hHeld ?_
   refine tk 4 (some 9) (tf 6 24) (take_ofW HT_.out HW_.out (by kernel_rfl)) hHeld ?_
   refine tk 6 (some 11) (tf 7 23) (take_ofW HT_.out HW_.out (by kernel_rfl)) hHeld ?_
   refine one_ (i := 7) (N := some 12) (tf 8 22) rfl rfl (one_of HT_.out (by kernel_rfl)) (by decide) (fun K hK => ?_)
   refine goes_ Try.func137 (by kernel_rfl) rfl #[.agg #[.int .i64 a0_2, .int .i64 a0_3]] (by rfl) rfl rfl MT ?_
   with_reducible refine (spec_l1Last.calls k a0_2 a0_3 t103 _ A3.out).mono ?_
   rintro e w13 ⟨rfl, hb⟩
   refine ⟨_, rfl, ?_⟩
   replace BK101 := am (BB BK101 hb)
   replace BK102 := am (BB BK102 hb)
   replace HB := am (below_step (K2 HB GE101.out GE102.out) hb)
   (try clear hb)
   (try clear hb2)
   (try clear hk)
   (try clear hi)
   refine hK.out _ _ ⟨z0 _ BK102.out, z1 _ BK102.out, z2 _ BK102.out, z0 _ BK101.out, z1 _ BK101.out, z2 _ BK101.out, z3 _ BK101.out, z4 _ BK101.out, z5 _ BK101.out, z6 _ BK101.out, z7 _ BK101.out⟩ (fun hHeld => ?_)
   clear hK K
   refine norm_ (a' := ?_) ?_ ?_
   rotate_left
   ·show Act.put _ (some 12) _ = _
    simp only [Act.put, List.setIfInBounds_toArray, List.set_cons_zero, List.set_cons_succ, i64_w, i32_w]
    rfl
   refine one_ (i := 8) (N := some 13) (tf 9 21) rfl rfl (one_of HT_.out (by kernel_rfl)) (by decide) (fun K hK => ?_)
   refine goes_ Try.func82 (by kernel_rfl) rfl #[.int .i64 a1_0, .int .i64 a0_2, .int .i64 t103] (by rfl) rfl rfl MT ?_
   with_reducible refine (spec_l1In.calls a1_0 a0_2 t103 true _ A4.out).mono ?_
   rintro e w' ⟨rfl, ⟨nd, rfl⟩⟩
   refine ⟨_, rfl, ?_⟩
   refine hK.out _ _ ⟨z0 _ BK102.out, z1 _ BK102.out, z2 _ BK102.out, z0 _ BK101.out, z1 _ BK101.out, z2 _ BK101.out, z3 _ BK101.out, z4 _ BK101.out, z5 _ BK101.out, z6 _ BK101.out, z7 _ BK101.out⟩ (fun hHeld => ?_)
   clear hK K
   refine norm_ (a' := ?_) ?_ ?_
   rotate_left
   ·show Act.put _ (some 13) _ = _
    simp only [Act.put, List.setIfInBounds_toArray, List.set_cons_zero, List.set_cons_succ, i64_w, i32_w]
    rfl
   refine pu 9 (some 14) (tf 10 20) (any_of HT_.out (by kernel_rfl)) ?_
   refine pu 10 (some 15) (tf 11 19) (any_of HT_.out (by kernel_rfl)) ?_
   refine pu 12 (some 17) #[true, true, true, true, true, true, true, true, true, true, true, false, true, false, false, false, false, false, false, false, false, false, false, false, false, false, false, false, false, false] (any_of HT_.out (by kernel_rfl)) ?_
   refine pu 13 (some 18) #[true, true, true, true, true, true, true, true, true, true, true, false, true, true, false, false, false, false, false, false, false, false, false, false, false, false, false, false, false, false] (any_of HT_.out (by kernel_rfl)) ?_
   refine pu 15 (some 20) #[true, true, true, true, true, true, true, true, true, true, true, false, true, true, false, true, false, false, false, false, false, false, false, false, false, false, false, false, false, false] (any_of HT_.out (by kernel_rfl)) ?_
   refine tk 11 (some 16) #[true, true, true, true, true, true, true, true, true, true, true, true, true, true, false, true, false, false, false, false, false, false, false, false, false, false, false, false, false, false] (take_ofW HT_.out HW_.out (by kernel_rfl)) hHeld ?_
   refine tk 14 (some 19) (tf 16 14) (take_ofW HT_.out HW_.out (by kernel_rfl)) hHeld ?_
   refine tk 16 (some 21) (tf 17 13) (take_ofW HT_.out HW_.out (by kernel_rfl)) hHeld ?_
   refine one_ (i := 17) (N := some 22) (tf 18 12) rfl rfl (one_of HT_.out (by kernel_rfl)) (by decide) (fun K hK => ?_)
   refine goes_ Try.func137 (by kernel_rfl) rfl #[.agg #[.int .i64 a0_4, .int .i64 a0_5]] (by rfl) rfl rfl MT ?_
   with_reducible refine (spec_l1Last.calls k a0_4 a0_5 t105 _ A6.out).mono ?_
   rintro e w14 ⟨rfl, hb⟩
   refine ⟨_, rfl, ?_⟩
   replace BK101 := am (BB BK101 hb)
   replace BK102 := am (BB BK102 hb)
   replace HB := am (below_step (K2 HB GE101.out GE102.out) hb)
   (try clear hb)
   (try clear hb2)
   (try clear hk)
   (try clear hi)
   refine hK.out _ _ ⟨z0 _ BK102.out, z1 _ BK102.out, z2 _ BK102.out, z0 _ BK101.out, z1 _ BK101.out, z2 _ BK101.out, z3 _ BK101.out, z4 _ BK101.out, z5 _ BK101.out, z6 _ BK101.out, z7 _ BK101.out⟩ (fun hHeld => ?_)
   clear hK K
   refine norm_ (a' := ?_) ?_ ?_
   rotate_left
   ·show Act.put _ (some 22) _ = _
    simp only [Act.put, List.setIfInBounds_toArray, List.set_cons_zero, List.set_cons_succ, i64_w, i32_w]
    rfl
   refine one_ (i := 18) (N := some 23) (tf 19 11) rfl rfl (one_of HT_.out (by kernel_rfl)) (by decide) (fun K hK => ?_)
   refine goes_ Try.func82 (by kernel_rfl) rfl #[.int .i64 a1_1, .int .i64 a0_4, .int .i64 t105] (by rfl) rfl rfl MT ?_
   with_reducible refine (spec_l1In.calls a1_1 a0_4 t105 true _ A7.out).mono ?_
   rintro e w' ⟨rfl, ⟨nd, rfl⟩⟩
   refine ⟨_, rfl, ?_⟩
   refine hK.out _ _ ⟨z0 _ BK102.out, z1 _ BK102.out, z2 _ BK102.out, z0 _ BK101.out, z1 _ BK101.out, z2 _ BK101.out, z3 _ BK101.out, z4 _ BK101.out, z5 _ BK101.out, z6 _ BK101.out, z7 _ BK101.out⟩ (fun hHeld => ?_)
   clear hK K
   refine norm_ (a' := ?_) ?_ ?_
   rotate_left
   ·show Act.put _ (some 23) _ = _
    simp only [Act.put, List.setIfInBounds_toArray, List.set_cons_zero, List.set_cons_succ, i64_w, i32_w]
    rfl
   refine pu 19 (some 24) (tf 20 10) (any_of HT_.out (by kernel_rfl)) ?_
   refine pu 20 (some 25) (tf 21 9) (any_of HT_.out (by kernel_rfl)) ?_
   refine pu 21 (some 26) (tf 22 8) (any_of HT_.out (by kernel_rfl)) ?_
   refine pu 23 (some 28) #[true, true, true, true, true, true, true, true, true, true, true, true, true, true, true, true, true, true, true, true, true, true, false, true, false, false, false, false, false, false] (any_of HT_.out (by kernel_rfl)) ?_
   refine pu 25 (some 30) #[true, true, true, true, true, true, true, true, true, true, true, true, true, true, true, true, true, true, true, true, true, true, false, true, false, true, false, false, false, false] (any_of HT_.out (by kernel_rfl)) ?_
   refine tk 22 (some 27) #[true, true, true, true, true, true, true, true, true, true, true, true, true, true, true, true, true, true, true, true, true, true, true, true, false, true, false, false, false, false] (take_ofW HT_.out HW_.out (by kernel_rfl)) hHeld ?_
   refine tk 24 (some 29) (tf 26 4) (take_ofW HT_.out HW_.out (by kernel_rfl)) hHeld ?_
   refine tk 26 (some 31) (tf 27 3) (take_ofW HT_.out HW_.out (by kernel_rfl)) hHeld ?_
   refine one_ (i := 27) (N := some 32) (tf 28 2) rfl rfl (one_of HT_.out (by kernel_rfl)) (by decide) (fun K hK => ?_)
   refine goes_ Try.func82 (by kernel_rfl) rfl #[.int .i64 a1_2, .int .i64 a0_6, .int .i64 a0_7] (by rfl) rfl rfl MT ?_
   with_reducible refine (spec_l1In.calls a1_2 a0_6 a0_7 t107 _ A9.out).mono ?_
   rintro e w' ⟨rfl, ⟨nd, rfl⟩⟩
   refine ⟨_, rfl, ?_⟩
   refine hK.out _ _ ⟨z0 _ BK102.out, z1 _ BK102.out, z2 _ BK102.out, z0 _ BK101.out, z1 _ BK101.out, z2 _ BK101.out, z3 _ BK101.out, z4 _ BK101.out, z5 _ BK101.out, z6 _ BK101.out, z7 _ BK101.out⟩ (fun hHeld => ?_)
   clear hK K
   refine norm_ (a' := ?_) ?_ ?_
   rotate_left
   ·show Act.put _ (some 32) _ = _
    simp only [Act.put, List.setIfInBounds_toArray, List.set_cons_zero, List.set_cons_succ, i64_w, i32_w]
    rfl
   refine pu 28 (some 33) (tf 29 1) (any_of HT_.out (by kernel_rfl)) ?_
   refine pu 29 (some 4) (tf 30 0) (any_of HT_.out (by kernel_rfl)) ?_
   refine done_ (done_of HT_.out (by kernel_rfl)) ?_
   try go_wp2
   go_ret
   exact ⟨by first | rfl | (simp [errW_none, errW_some] <;> rfl) | (simp [*, errW_none, errW_some] <;> rfl), K2 HB GE101.out GE102.out⟩
  ·replace c8 := Bool.eq_false_iff.mpr c8
   subst c8
   have H1 : (some false) = some r := by rw [if_neg (show ¬ (false = true) by decide)] at H; exact H
   clear H
   have H := H1
   clear H1
   obtain rfl := Option.some.inj H
   go_enter Try.func128, Try.ntmps128
   try go_wp2_with (first | ((with_reducible refine gate_dst (N := 2) rfl ?_); refine box_event rfl (N := 2) rfl (cs := #[.int .i64 a0_0, .int .i64 a0_1, .int .i64 a0_2, .int .i64 a0_3, .int .i64 a0_4, .int .i64 a0_5, .int .i64 a0_6, .int .i64 a0_7]) (t := 34) BX ?_; intro gb101 hg w15 hbox hb; have BK101 := am (hbox); have GW101 := am ((GL hg (below_size (KL HB)) : w.heap.size ≤ gb101)); have GE101 := GW101; replace HB := am (below_step (KL HB) hb); clear hb hbox hg) | ((with_reducible refine gate_dst (N := 3) rfl ?_); refine box_event rfl (N := 3) rfl (cs := #[.int .i64 a1_0, .int .i64 a1_1, .int .i64 a1_2]) (t := 25) BX ?_; intro gb102 hg w16 hbox hb; have BK102 := am (hbox); have GW102 := am ((GL hg (below_size (K1 HB GE101.out)) : w.heap.size ≤ gb102)); have GE102 := GW102; replace HB := am (below_step (K1 HB GE101.out) hb); have NB101_102 := am (NL BK101 hg); have NB102_101 := am (NG BK101 hg); replace BK101 := am (BB BK101 hb); clear hb hbox hg))
   replace BK101 := am (blk_drew BK101.out)
   replace BK102 := am (blk_drew BK102.out)
   replace HB := am (below_drew1 HB.out)
   refine start_ (n := 30) (S := fun w' => w'.cell? ⟨gb102, 0, none⟩ = some (.int .i64 a1_0) ∧ w'.cell? ⟨gb102, 1, none⟩ = some (.int .i64 a1_1) ∧ w'.cell? ⟨gb102, 2, none⟩ = some (.int .i64 a1_2) ∧ w'.cell? ⟨gb101, 0, none⟩ = some (.int .i64 a0_0) ∧ w'.cell? ⟨gb101, 1, none⟩ = some (.int .i64 a0_1) ∧ w'.cell? ⟨gb101, 2, none⟩ = some (.int .i64 a0_2) ∧ w'.cell? ⟨gb101, 3, none⟩ = some (.int .i64 a0_3) ∧ w'.cell? ⟨gb101, 4, none⟩ = some (.int .i64 a0_4) ∧ w'.cell? ⟨gb101, 5, none⟩ = some (.int .i64 a0_5) ∧ w'.cell? ⟨gb101, 6, none⟩ = some (.int .i64 a0_6) ∧ w'.cell? ⟨gb101, 7, none⟩ = some (.int .i64 a0_7)) (ds := []) (tf 0 30) (by kernel_rfl) rfl rfl ⟨z0 _ BK102.out, z1 _ BK102.out, z2 _ BK102.out, z0 _ BK101.out, z1 _ BK101.out, z2 _ BK101.out, z3 _ BK101.out, z4 _ BK101.out, z5 _ BK101.out, z6 _ BK101.out, z7 _ BK101.out⟩ (fun hHeld => ?_); refine with_tabW spec_l4About.tab1 spec_l4About.bits1 (fun HT_ HW_ => ?_)
   generalize w16.drew = w17 at BK101 BK102 HB hHeld ⊢
   refine pu 0 (some 5) (tf 1 29) (any_of HT_.out (by kernel_rfl)) ?_
   refine pu 2 (some 7) #[true, false, true, false, false, false, false, false, false, false, false, false, false, false, false, false, false, false, false, false, false, false, false, false, false, false, false, false, false, false] (any_of HT_.out (by kernel_rfl)) ?_
   refine pu 3 (some 8) #[true, false, true, true, false, false, false, false, false, false, false, false, false, false, false, false, false, false, false, false, false, false, false, false, false, false, false, false, false, false] (any_of HT_.out (by kernel_rfl)) ?_
   refine pu 5 (some 10) #[true, false, true, true, false, true, false, false, false, false, false, false, false, false, false, false, false, false, false, false, false, false, false, false, false, false, false, false, false, false] (any_of HT_.out (by kernel_rfl)) ?_
   refine tk 1 (some 6) #[true, true, true, true, false, true, false, false, false, false, false, false, false, false, false, false, false, false, false, false, false, false, false, false, false, false, false, false, false, false] (take_ofW HT_.out HW_.out (by kernel_rfl)) hHeld ?_
   refine tk 4 (some 9) (tf 6 24) (take_ofW HT_.out HW_.out (by kernel_rfl)) hHeld ?_
   refine tk 6 (some 11) (tf 7 23) (take_ofW HT_.out HW_.out (by kernel_rfl)) hHeld ?_
   refine one_ (i := 7) (N := some 12) (tf 8 22) rfl rfl (one_of HT_.out (by kernel_rfl)) (by decide) (fun K hK => ?_)
   refine goes_ Try.func137 (by kernel_rfl) rfl #[.agg #[.int .i64 a0_2, .int .i64 a0_3]] (by rfl) rfl rfl MT ?_
   with_reducible refine (spec_l1Last.calls k a0_2 a0_3 t103 _ A3.out).mono ?_
   rintro e w18 ⟨rfl, hb⟩
   refine ⟨_, rfl, ?_⟩
   replace BK101 := am (BB BK101 hb)
   replace BK102 := am (BB BK102 hb)
   replace HB := am (below_step (K2 HB GE101.out GE102.out) hb)
   (try clear hb)
   (try clear hb2)
   (try clear hk)
   (try clear hi)
   refine hK.out _ _ ⟨z0 _ BK102.out, z1 _ BK102.out, z2 _ BK102.out, z0 _ BK101.out, z1 _ BK101.out, z2 _ BK101.out, z3 _ BK101.out, z4 _ BK101.out, z5 _ BK101.out, z6 _ BK101.out, z7 _ BK101.out⟩ (fun hHeld => ?_)
   clear hK K
   refine norm_ (a' := ?_) ?_ ?_
   rotate_left
   ·show Act.put _ (some 12) _ = _
    simp only [Act.put, List.setIfInBounds_toArray, List.set_cons_zero, List.set_cons_succ, i64_w, i32_w]
    rfl
   refine one_ (i := 8) (N := some 13) (tf 9 21) rfl rfl (one_of HT_.out (by kernel_rfl)) (by decide) (fun K hK => ?_)
   refine goes_ Try.func82 (by kernel_rfl) rfl #[.int .i64 a1_0, .int .i64 a0_2, .int .i64 t103] (by rfl) rfl rfl MT ?_
   with_reducible refine (spec_l1In.calls a1_0 a0_2 t103 true _ A4.out).mono ?_
   rintro e w' ⟨rfl, ⟨nd, rfl⟩⟩
   refine ⟨_, rfl, ?_⟩
   refine hK.out _ _ ⟨z0 _ BK102.out, z1 _ BK102.out, z2 _ BK102.out, z0 _ BK101.out, z1 _ BK101.out, z2 _ BK101.out, z3 _ BK101.out, z4 _ BK101.out, z5 _ BK101.out, z6 _ BK101.out, z7 _ BK101.out⟩ (fun hHeld => ?_)
   clear hK K
   refine norm_ (a' := ?_) ?_ ?_
   rotate_left
   ·show Act.put _ (some 13) _ = _
    simp only [Act.put, List.setIfInBounds_toArray, List.set_cons_zero, List.set_cons_succ, i64_w, i32_w]
    rfl
   refine pu 9 (some 14) (tf 10 20) (any_of HT_.out (by kernel_rfl)) ?_
   refine pu 10 (some 15) (tf 11 19) (any_of HT_.out (by kernel_rfl)) ?_
   refine pu 12 (some 17) #[true, true, true, true, true, true, true, true, true, true, true, false, true, false, false, false, false, false, false, false, false, false, false, false, false, false, false, false, false, false] (any_of HT_.out (by kernel_rfl)) ?_
   refine pu 13 (some 18) #[true, true, true, true, true, true, true, true, true, true, true, false, true, true, false, false, false, false, false, false, false, false, false, false, false, false, false, false, false, false] (any_of HT_.out (by kernel_rfl)) ?_
   refine pu 15 (some 20) #[true, true, true, true, true, true, true, true, true, true, true, false, true, true, false, true, false, false, false, false, false, false, false, false, false, false, false, false, false, false] (any_of HT_.out (by kernel_rfl)) ?_
   refine tk 11 (some 16) #[true, true, true, true, true, true, true, true, true, true, true, true, true, true, false, true, false, false, false, false, false, false, false, false, false, false, false, false, false, false] (take_ofW HT_.out HW_.out (by kernel_rfl)) hHeld ?_
   refine tk 14 (some 19) (tf 16 14) (take_ofW HT_.out HW_.out (by kernel_rfl)) hHeld ?_
   refine tk 16 (some 21) (tf 17 13) (take_ofW HT_.out HW_.out (by kernel_rfl)) hHeld ?_
   refine one_ (i := 17) (N := some 22) (tf 18 12) rfl rfl (one_of HT_.out (by kernel_rfl)) (by decide) (fun K hK => ?_)
   refine goes_ Try.func137 (by kernel_rfl) rfl #[.agg #[.int .i64 a0_4, .int .i64 a0_5]] (by rfl) rfl rfl MT ?_
   with_reducible refine (spec_l1Last.calls k a0_4 a0_5 t105 _ A6.out).mono ?_
   rintro e w19 ⟨rfl, hb⟩
   refine ⟨_, rfl, ?_⟩
   replace BK101 := am (BB BK101 hb)
   replace BK102 := am (BB BK102 hb)
   replace HB := am (below_step (K2 HB GE101.out GE102.out) hb)
   (try clear hb)
   (try clear hb2)
   (try clear hk)
   (try clear hi)
   refine hK.out _ _ ⟨z0 _ BK102.out, z1 _ BK102.out, z2 _ BK102.out, z0 _ BK101.out, z1 _ BK101.out, z2 _ BK101.out, z3 _ BK101.out, z4 _ BK101.out, z5 _ BK101.out, z6 _ BK101.out, z7 _ BK101.out⟩ (fun hHeld => ?_)
   clear hK K
   refine norm_ (a' := ?_) ?_ ?_
   rotate_left
   ·show Act.put _ (some 22) _ = _
    simp only [Act.put, List.setIfInBounds_toArray, List.set_cons_zero, List.set_cons_succ, i64_w, i32_w]
    rfl
   refine one_ (i := 18) (N := some 23) (tf 19 11) rfl rfl (one_of HT_.out (by kernel_rfl)) (by decide) (fun K hK => ?_)
   refine goes_ Try.func82 (by kernel_rfl) rfl #[.int .i64 a1_1, .int .i64 a0_4, .int .i64 t105] (by rfl) rfl rfl MT ?_
   with_reducible refine (spec_l1In.calls a1_1 a0_4 t105 false _ A7.out).mono ?_
   rintro e w' ⟨rfl, ⟨nd, rfl⟩⟩
   refine ⟨_, rfl, ?_⟩
   refine hK.out _ _ ⟨z0 _ BK102.out, z1 _ BK102.out, z2 _ BK102.out, z0 _ BK101.out, z1 _ BK101.out, z2 _ BK101.out, z3 _ BK101.out, z4 _ BK101.out, z5 _ BK101.out, z6 _ BK101.out, z7 _ BK101.out⟩ (fun hHeld => ?_)
   clear hK K
   refine norm_ (a' := ?_) ?_ ?_
   rotate_left
   ·show Act.put _ (some 23) _ = _
    simp only [Act.put, List.setIfInBounds_toArray, List.set_cons_zero, List.set_cons_succ, i64_w, i32_w]
    rfl
   refine pu 19 (some 24) (tf 20 10) (any_of HT_.out (by kernel_rfl)) ?_
   refine pu 20 (some 25) (tf 21 9) (any_of HT_.out (by kernel_rfl)) ?_
   refine pn 21 (some 26) (tf 22 8) (any_of HT_.out (by kernel_rfl)) ?_
   refine pn 22 (some 27) (tf 23 7) (any_of HT_.out (by kernel_rfl)) ?_
   refine pn 23 (some 28) (tf 24 6) (any_of HT_.out (by kernel_rfl)) ?_
   refine pn 24 (some 29) (tf 25 5) (any_of HT_.out (by kernel_rfl)) ?_
   refine pn 25 (some 30) (tf 26 4) (any_of HT_.out (by kernel_rfl)) ?_
   refine pn 26 (some 31) (tf 27 3) (any_of HT_.out (by kernel_rfl)) ?_
   refine pn 27 (some 32) (tf 28 2) (any_of HT_.out (by kernel_rfl)) ?_
   refine pu 28 (some 33) (tf 29 1) (any_of HT_.out (by kernel_rfl)) ?_
   refine pu 29 (some 4) (tf 30 0) (any_of HT_.out (by kernel_rfl)) ?_
   refine done_ (done_of HT_.out (by kernel_rfl)) ?_
   try go_wp2
   go_ret
   exact ⟨by first | rfl | (simp [errW_none, errW_some] <;> rfl) | (simp [*, errW_none, errW_some] <;> rfl), K2 HB GE101.out GE102.out⟩
 ·replace c5 := Bool.eq_false_iff.mpr c5
  subst c5
  have H1 : (some false) = some r := by rw [if_neg (show ¬ (false = true) by decide)] at H; exact H
  clear H
  have H := H1
  clear H1
  obtain rfl := Option.some.inj H
  go_enter Try.func128, Try.ntmps128
  try go_wp2_with (first | ((with_reducible refine gate_dst (N := 2) rfl ?_); refine box_event rfl (N := 2) rfl (cs := #[.int .i64 a0_0, .int .i64 a0_1, .int .i64 a0_2, .int .i64 a0_3, .int .i64 a0_4, .int .i64 a0_5, .int .i64 a0_6, .int .i64 a0_7]) (t := 34) BX ?_; intro gb101 hg w20 hbox hb; have BK101 := am (hbox); have GW101 := am ((GL hg (below_size (KL HB)) : w.heap.size ≤ gb101)); have GE101 := GW101; replace HB := am (below_step (KL HB) hb); clear hb hbox hg) | ((with_reducible refine gate_dst (N := 3) rfl ?_); refine box_event rfl (N := 3) rfl (cs := #[.int .i64 a1_0, .int .i64 a1_1, .int .i64 a1_2]) (t := 25) BX ?_; intro gb102 hg w21 hbox hb; have BK102 := am (hbox); have GW102 := am ((GL hg (below_size (K1 HB GE101.out)) : w.heap.size ≤ gb102)); have GE102 := GW102; replace HB := am (below_step (K1 HB GE101.out) hb); have NB101_102 := am (NL BK101 hg); have NB102_101 := am (NG BK101 hg); replace BK101 := am (BB BK101 hb); clear hb hbox hg))
  replace BK101 := am (blk_drew BK101.out)
  replace BK102 := am (blk_drew BK102.out)
  replace HB := am (below_drew1 HB.out)
  refine start_ (n := 30) (S := fun w' => w'.cell? ⟨gb102, 0, none⟩ = some (.int .i64 a1_0) ∧ w'.cell? ⟨gb102, 1, none⟩ = some (.int .i64 a1_1) ∧ w'.cell? ⟨gb102, 2, none⟩ = some (.int .i64 a1_2) ∧ w'.cell? ⟨gb101, 0, none⟩ = some (.int .i64 a0_0) ∧ w'.cell? ⟨gb101, 1, none⟩ = some (.int .i64 a0_1) ∧ w'.cell? ⟨gb101, 2, none⟩ = some (.int .i64 a0_2) ∧ w'.cell? ⟨gb101, 3, none⟩ = some (.int .i64 a0_3) ∧ w'.cell? ⟨gb101, 4, none⟩ = some (.int .i64 a0_4) ∧ w'.cell? ⟨gb101, 5, none⟩ = some (.int .i64 a0_5) ∧ w'.cell? ⟨gb101, 6, none⟩ = some (.int .i64 a0_6) ∧ w'.cell? ⟨gb101, 7, none⟩ = some (.int .i64 a0_7)) (ds := []) (tf 0 30) (by kernel_rfl) rfl rfl ⟨z0 _ BK102.out, z1 _ BK102.out, z2 _ BK102.out, z0 _ BK101.out, z1 _ BK101.out, z2 _ BK101.out, z3 _ BK101.out, z4 _ BK101.out, z5 _ BK101.out, z6 _ BK101.out, z7 _ BK101.out⟩ (fun hHeld => ?_); refine with_tabW spec_l4About.tab1 spec_l4About.bits1 (fun HT_ HW_ => ?_)
  generalize w21.drew = w22 at BK101 BK102 HB hHeld ⊢
  refine pu 0 (some 5) (tf 1 29) (any_of HT_.out (by kernel_rfl)) ?_
  refine pu 2 (some 7) #[true, false, true, false, false, false, false, false, false, false, false, false, false, false, false, false, false, false, false, false, false, false, false, false, false, false, false, false, false, false] (any_of HT_.out (by kernel_rfl)) ?_
  refine pu 3 (some 8) #[true, false, true, true, false, false, false, false, false, false, false, false, false, false, false, false, false, false, false, false, false, false, false, false, false, false, false, false, false, false] (any_of HT_.out (by kernel_rfl)) ?_
  refine pu 5 (some 10) #[true, false, true, true, false, true, false, false, false, false, false, false, false, false, false, false, false, false, false, false, false, false, false, false, false, false, false, false, false, false] (any_of HT_.out (by kernel_rfl)) ?_
  refine tk 1 (some 6) #[true, true, true, true, false, true, false, false, false, false, false, false, false, false, false, false, false, false, false, false, false, false, false, false, false, false, false, false, false, false] (take_ofW HT_.out HW_.out (by kernel_rfl)) hHeld ?_
  refine tk 4 (some 9) (tf 6 24) (take_ofW HT_.out HW_.out (by kernel_rfl)) hHeld ?_
  refine tk 6 (some 11) (tf 7 23) (take_ofW HT_.out HW_.out (by kernel_rfl)) hHeld ?_
  refine one_ (i := 7) (N := some 12) (tf 8 22) rfl rfl (one_of HT_.out (by kernel_rfl)) (by decide) (fun K hK => ?_)
  refine goes_ Try.func137 (by kernel_rfl) rfl #[.agg #[.int .i64 a0_2, .int .i64 a0_3]] (by rfl) rfl rfl MT ?_
  with_reducible refine (spec_l1Last.calls k a0_2 a0_3 t103 _ A3.out).mono ?_
  rintro e w23 ⟨rfl, hb⟩
  refine ⟨_, rfl, ?_⟩
  replace BK101 := am (BB BK101 hb)
  replace BK102 := am (BB BK102 hb)
  replace HB := am (below_step (K2 HB GE101.out GE102.out) hb)
  (try clear hb)
  (try clear hb2)
  (try clear hk)
  (try clear hi)
  refine hK.out _ _ ⟨z0 _ BK102.out, z1 _ BK102.out, z2 _ BK102.out, z0 _ BK101.out, z1 _ BK101.out, z2 _ BK101.out, z3 _ BK101.out, z4 _ BK101.out, z5 _ BK101.out, z6 _ BK101.out, z7 _ BK101.out⟩ (fun hHeld => ?_)
  clear hK K
  refine norm_ (a' := ?_) ?_ ?_
  rotate_left
  ·show Act.put _ (some 12) _ = _
   simp only [Act.put, List.setIfInBounds_toArray, List.set_cons_zero, List.set_cons_succ, i64_w, i32_w]
   rfl
  refine one_ (i := 8) (N := some 13) (tf 9 21) rfl rfl (one_of HT_.out (by kernel_rfl)) (by decide) (fun K hK => ?_)
  refine goes_ Try.func82 (by kernel_rfl) rfl #[.int .i64 a1_0, .int .i64 a0_2, .int .i64 t103] (by rfl) rfl rfl MT ?_
  with_reducible refine (spec_l1In.calls a1_0 a0_2 t103 false _ A4.out).mono ?_
  rintro e w' ⟨rfl, ⟨nd, rfl⟩⟩
  refine ⟨_, rfl, ?_⟩
  refine hK.out _ _ ⟨z0 _ BK102.out, z1 _ BK102.out, z2 _ BK102.out, z0 _ BK101.out, z1 _ BK101.out, z2 _ BK101.out, z3 _ BK101.out, z4 _ BK101.out, z5 _ BK101.out, z6 _ BK101.out, z7 _ BK101.out⟩ (fun hHeld => ?_)
  clear hK K
  refine norm_ (a' := ?_) ?_ ?_
  rotate_left
  ·show Act.put _ (some 13) _ = _
   simp only [Act.put, List.setIfInBounds_toArray, List.set_cons_zero, List.set_cons_succ, i64_w, i32_w]
   rfl
  refine pu 9 (some 14) (tf 10 20) (any_of HT_.out (by kernel_rfl)) ?_
  refine pn 10 (some 15) (tf 11 19) (any_of HT_.out (by kernel_rfl)) ?_
  refine pn 11 (some 16) (tf 12 18) (any_of HT_.out (by kernel_rfl)) ?_
  refine pn 12 (some 17) (tf 13 17) (any_of HT_.out (by kernel_rfl)) ?_
  refine pn 13 (some 18) (tf 14 16) (any_of HT_.out (by kernel_rfl)) ?_
  refine pn 14 (some 19) (tf 15 15) (any_of HT_.out (by kernel_rfl)) ?_
  refine pn 15 (some 20) (tf 16 14) (any_of HT_.out (by kernel_rfl)) ?_
  refine pn 16 (some 21) (tf 17 13) (any_of HT_.out (by kernel_rfl)) ?_
  refine pn 17 (some 22) (tf 18 12) (any_of HT_.out (by kernel_rfl)) ?_
  refine pn 18 (some 23) (tf 19 11) (any_of HT_.out (by kernel_rfl)) ?_
  refine pu 19 (some 24) (tf 20 10) (any_of HT_.out (by kernel_rfl)) ?_
  refine pu 20 (some 25) (tf 21 9) (any_of HT_.out (by kernel_rfl)) ?_
  refine pn 21 (some 26) (tf 22 8) (any_of HT_.out (by kernel_rfl)) ?_
  refine pn 22 (some 27) (tf 23 7) (any_of HT_.out (by kernel_rfl)) ?_
  refine pn 23 (some 28) (tf 24 6) (any_of HT_.out (by kernel_rfl)) ?_
  refine pn 24 (some 29) (tf 25 5) (any_of HT_.out (by kernel_rfl)) ?_
  refine pn 25 (some 30) (tf 26 4) (any_of HT_.out (by kernel_rfl)) ?_
  refine pn 26 (some 31) (tf 27 3) (any_of HT_.out (by kernel_rfl)) ?_
  refine pn 27 (some 32) (tf 28 2) (any_of HT_.out (by kernel_rfl)) ?_
  refine pu 28 (some 33) (tf 29 1) (any_of HT_.out (by kernel_rfl)) ?_
  refine pu 29 (some 4) (tf 30 0) (any_of HT_.out (by kernel_rfl)) ?_
  refine done_ (done_of HT_.out (by kernel_rfl)) ?_
  try go_wp2
  go_ret
  exact ⟨by first | rfl | (simp [errW_none, errW_some] <;> rfl) | (simp [*, errW_none, errW_some] <;> rfl), K2 HB GE101.out GE102.out⟩
end Go.Proofs.Ytioghacieopbdaa.PAll
end
section
namespace Go.Proofs.Ytioghacieopbdaa.PAll
open Go.RowKit Go.Proofs.YtioghacieopbdaaW.PrintWords Go.Proofs.YtioghacieopbdaaW.PrintLast Go.Proofs.YtioghacieopbdaaW.PrintMore
attribute [local go_sem] max2_int min2_int max_two min_two max_three min_three max_four min_four   -- for this text's walks alone
set_option linter.unusedVariables false
set_option linter.unusedSimpArgs false
def spec_l4First.l0 : Nat → List (S34) → Int → Int → Int → Int → Option (Int)
 | 0, _, _, _, _, _ => none
 | k + 1, x0, x5, x102000, x102001, x102002 => if x5 < (x0.length : Int) then (if 0 ≤ x5 then ((spec_l4About.f k ((rd_T34 x0 x5).f0) ((rd_T34 x0 x5).f1) ((rd_T34 x0 x5).f2.f0) ((rd_T34 x0 x5).f2.f1) ((rd_T34 x0 x5).f3.f0) ((rd_T34 x0 x5).f3.f1) ((rd_T34 x0 x5).f4) ((rd_T34 x0 x5).f5) x102000 x102001 x102002).bind fun t103 => (if t103 = true then (some x5) else (spec_l4First.l0 k x0 (wrap64 (x5 + 1)) x102000 x102001 x102002))) else (none)) else (some (-1))
def spec_l4First.f (k : Nat) (l0 : List (S34)) (a1_0 : Int) (a1_1 : Int) (a1_2 : Int) : Option (Int) := spec_l4First.l0 k l0 0 a1_0 a1_1 a1_2
set_option maxHeartbeats 8000000 in
set_option maxRecDepth 100000 in
theorem spec_l4First.calls (k : Nat) (A0 : Option Addr) (c0 : Nat) (l0 : List (S34)) (a1_0 : Int) (a1_1 : Int) (a1_2 : Int) (r : Int) (w : World) (hr0 : Kd.C k34 w A0 l0.length l0) (hc0 : l0.length ≤ c0) (h : spec_l4First.f k l0 a1_0 a1_1 a1_2 = some r) :
  Calls Try.prog 76 #[.slice A0 l0.length c0, .agg #[.int .i64 a1_0, .int .i64 a1_1, .int .i64 a1_2]] w fun e w' => e = .returned (.int .i64 r) ∧ Below w.heap.size w w' := by
 have hu25 := Try.underlying25
 have hu34 := Try.underlying34
 have HR0 := Aside0.mk hr0
 have HC0 := Aside0.mk hc0
 clear hr0 hc0
 have HB := am (Below.refl w.heap.size w)
 have H : (spec_l4First.l0 k l0 0 a1_0 a1_1 a1_2) = some r := h
 clear h
 have H' := Aside0.mk H
 clear H
 go_enter Try.func76, Try.ntmps76
 go_wp2_with (first | ((with_reducible refine gate_dst (N := 3) rfl ?_); refine box_event rfl (N := 3) rfl (cs := #[.int .i64 a1_0, .int .i64 a1_1, .int .i64 a1_2]) (t := 25) BX ?_; intro gb101 hg w3 hbox hb; have BK101 := am (hbox); have GW101 := am ((GL hg (below_size (KL HB)) : w.heap.size ≤ gb101)); have GE101 := GW101; replace HB := am (below_step (KL HB) hb); clear hb hbox hg))
 go_loopg [5] k (fun kq v5 w' => ∃ (x5_1 : Int), v5 = .int .i64 x5_1 ∧ Aside0 (spec_l4First.l0 kq l0 x5_1 a1_0 a1_1 a1_2 = some r) ∧ Aside0 (kq ≤ k) ∧ Aside0 (w'.heap[gb101]? = some (.cells #[.int .i64 a1_0, .int .i64 a1_1, .int .i64 a1_2] 25 (0, 0))) ∧ Aside0 (Below w.heap.size w w'))
 case atStart => exact ⟨(0), (by first | rfl | (simp; done) | (simp [*]; done)), H', ⟨Nat.le_refl _⟩, ⟨KB BK101⟩, ⟨K1 HB GE101.out⟩⟩
 case round =>
  clear H'
  try clear p2
  obtain ⟨x5_1, rfl, HA, HK1, BK101, HB⟩ := hrel
  cases gk with
  | zero => exact absurd HA.out (by simp [spec_l4First.l0])
  | succ k1 =>
   have H := HA.out
   clear HA
   simp only [spec_l4First.l0] at H
   by_cases c4 : x5_1 < (l0.length : Int)
   ·rw [if_pos c4] at H
    have c4b0 : decide (x5_1 < (l0.length : Int)) = true := decide_eq_true c4
    clear c4
    by_cases c5 : 0 ≤ x5_1
    ·rw [if_pos c5] at H
     have c5b0 : decide (0 ≤ x5_1) = true := decide_eq_true c5
     clear c5
     replace H := Option.bind_eq_some_iff.mp H
     obtain ⟨t103, A60, H⟩ := H
     replace H : (if t103 = true then (some x5_1) else (spec_l4First.l0 k1 l0 (wrap64 (x5_1 + 1)) a1_0 a1_1 a1_2)) = some r := H
     have A6 := Aside0.mk A60
     clear A60
     by_cases c7 : t103 = true
     ·subst c7
      have H1 : (some x5_1) = some r := by rw [if_pos rfl] at H; exact H
      clear H
      have H := H1
      clear H1
      obtain rfl := Option.some.inj H
      try go_wp2
      replace BK101 := am (blk_drew BK101.out)
      replace HB := am (below_drew1 HB.out)
      have p102 : 0 ≤ (x5_1 : Int) := of_decide_eq_true (by first | (with_reducible assumption) | assumption)
      have q102 : x5_1 < (l0.length : Int) := of_decide_eq_true (by first | (with_reducible assumption) | assumption)
      obtain ⟨ad102, e102, hx102_0, hx102_1, hx102_2, hx102_3, hx102_4, hx102_5, hx102_6, hx102_7⟩ := at_T34 HR0.out x5_1 p102 q102
      have hw102_7 := hx102_7
      have hw102_6 := hx102_6
      have hw102_5 := hx102_5
      have hw102_4 := hx102_4
      have hw102_3 := hx102_3
      have hw102_2 := hx102_2
      have hw102_1 := hx102_1
      have hw102_0 := hx102_0
      cases e102
      replace hx102_0 := (HB.out.cell (World.block_lt_of_cell? w _ hx102_0)).trans hx102_0
      replace hx102_1 := (HB.out.cell (World.block_lt_of_cell? w _ hx102_1)).trans hx102_1
      replace hx102_2 := (HB.out.cell (World.block_lt_of_cell? w _ hx102_2)).trans hx102_2
      replace hx102_3 := (HB.out.cell (World.block_lt_of_cell? w _ hx102_3)).trans hx102_3
      replace hx102_4 := (HB.out.cell (World.block_lt_of_cell? w _ hx102_4)).trans hx102_4
      replace hx102_5 := (HB.out.cell (World.block_lt_of_cell? w _ hx102_5)).trans hx102_5
      replace hx102_6 := (HB.out.cell (World.block_lt_of_cell? w _ hx102_6)).trans hx102_6
      replace hx102_7 := (HB.out.cell (World.block_lt_of_cell? w _ hx102_7)).trans hx102_7
      replace p102 := eq_true p102
      replace q102 := eq_true q102
      refine start_ (n := 6) (S := fun w' => w'.cell? ⟨gb101, 0, none⟩ = some (.int .i64 a1_0) ∧ w'.cell? ⟨gb101, 1, none⟩ = some (.int .i64 a1_1) ∧ w'.cell? ⟨gb101, 2, none⟩ = some (.int .i64 a1_2) ∧ w'.cell? (ad102.add ((x5_1).toNat * 8)) = some (.int .i64 ((rd_T34 l0 x5_1).f0)) ∧ w'.cell? ⟨(ad102.add ((x5_1).toNat * 8)).block, (ad102.add ((x5_1).toNat * 8)).off + 1, none⟩ = some (.int .i64 ((rd_T34 l0 x5_1).f1)) ∧ w'.cell? ⟨(ad102.add ((x5_1).toNat * 8)).block, (ad102.add ((x5_1).toNat * 8)).off + 2, none⟩ = some (.int .i64 ((rd_T34 l0 x5_1).f2.f0)) ∧ w'.cell? ⟨(ad102.add ((x5_1).toNat * 8)).block, (ad102.add ((x5_1).toNat * 8)).off + 3, none⟩ = some (.int .i64 ((rd_T34 l0 x5_1).f2.f1)) ∧ w'.cell? ⟨(ad102.add ((x5_1).toNat * 8)).block, (ad102.add ((x5_1).toNat * 8)).off + 4, none⟩ = some (.int .i64 ((rd_T34 l0 x5_1).f3.f0)) ∧ w'.cell? ⟨(ad102.add ((x5_1).toNat * 8)).block, (ad102.add ((x5_1).toNat * 8)).off + 5, none⟩ = some (.int .i64 ((rd_T34 l0 x5_1).f3.f1)) ∧ w'.cell? ⟨(ad102.add ((x5_1).toNat * 8)).block, (ad102.add ((x5_1).toNat * 8)).off + 6, none⟩ = some (.int .i64 ((rd_T34 l0 x5_1).f4)) ∧ w'.cell? ⟨(ad102.add ((x5_1).toNat * 8)).block, (ad102.add ((x5_1).toNat * 8)).off + 7, none⟩ = some (.int .i64 ((rd_T34 l0 x5_1).f5))) (ds := []) (tf 0 6) (by kernel_rfl) rfl rfl ⟨z0 _ BK101.out, z1 _ BK101.out, z2 _ BK101.out, ((HB.out.cell (World.block_lt_of_cell? w _ hw102_0)).trans hw102_0), ((HB.out.cell (World.block_lt_of_cell? w _ hw102_1)).trans hw102_1), ((HB.out.cell (World.block_lt_of_cell? w _ hw102_2)).trans hw102_2), ((HB.out.cell (World.block_lt_of_cell? w _ hw102_3)).trans hw102_3), ((HB.out.cell (World.block_lt_of_cell? w _ hw102_4)).trans hw102_4), ((HB.out.cell (World.block_lt_of_cell? w _ hw102_5)).trans hw102_5), ((HB.out.cell (World.block_lt_of_cell? w _ hw102_6)).trans hw102_6), ((HB.out.cell (World.block_lt_of_cell? w _ hw102_7)).trans hw102_7)⟩ (fun hHeld => ?_)
      generalize wr.drew = w8 at BK101 HB hx102_0 hx102_1 hx102_2 hx102_3 hx102_4 hx102_5 hx102_6 hx102_7 hHeld ⊢
      refine pure_ (i := 0) (N := some 12) (v := ?_) (a' := ?_) (tf 1 5) rfl rfl (by kernel_rfl) (fun _ _ _ h => h) (Or.inl ⟨by rfl, ?_⟩) ?_ ?_; rotate_left; (· intro w'; go_simp; with_reducible rfl); rotate_left; (· simp only [Act.put, List.setIfInBounds_toArray, List.set_cons_zero, List.set_cons_succ, i64_w, i32_w]; rfl)
      refine pure_ (i := 1) (N := some 13) (v := ?_) (a' := ?_) (tf 2 4) rfl rfl (by kernel_rfl) (fun _ _ _ h => h) (Or.inl ⟨by rfl, ?_⟩) ?_ ?_; rotate_left; (· intro w'; go_simp; with_reducible rfl); rotate_left; (· simp only [Act.put, List.setIfInBounds_toArray, List.set_cons_zero, List.set_cons_succ, i64_w, i32_w]; rfl)
      refine pure_ (i := 2) (N := some 14) (v := ?_) (a' := ?_) (tf 3 3) rfl rfl (by kernel_rfl) (fun _ _ _ h => h) (Or.inl ⟨by rfl, ?_⟩) ?_ ?_; rotate_left; (· intro w'; go_simp; with_reducible rfl); rotate_left; (· simp only [Act.put, List.setIfInBounds_toArray, List.set_cons_zero, List.set_cons_succ, i64_w, i32_w]; rfl)
      refine take_ (i := 3) (N := some 15) (v := ?_) (a' := ?_) (tf 4 2) rfl rfl (by kernel_rfl) (fun _ _ _ h => h) (Or.inl ⟨by rfl, ?_⟩) hHeld ?_ ?_
      rotate_left
      ·rintro w' ⟨s0, s1, s2, s3, s4, s5, s6, s7, s8, s9, s10⟩
       go_simp
       with_reducible rfl
      rotate_left
      ·simp only [Act.put, List.setIfInBounds_toArray, List.set_cons_zero, List.set_cons_succ, i64_w, i32_w]
       rfl
      refine take_ (i := 4) (N := some 16) (v := ?_) (a' := ?_) (tf 5 1) rfl rfl (by kernel_rfl) (fun _ _ _ h => h) (Or.inl ⟨by rfl, ?_⟩) hHeld ?_ ?_
      rotate_left
      ·rintro w' ⟨s0, s1, s2, s3, s4, s5, s6, s7, s8, s9, s10⟩
       go_simp
       with_reducible rfl
      rotate_left
      ·simp only [Act.put, List.setIfInBounds_toArray, List.set_cons_zero, List.set_cons_succ, i64_w, i32_w]
       rfl
      refine one_ (i := 5) (N := some 17) (tf 6 0) rfl rfl (by kernel_rfl) (by decide) (fun K hK => ?_)
      refine goes_ Try.func128 (by kernel_rfl) rfl #[.agg #[.int .i64 ((rd_T34 l0 x5_1).f0), .int .i64 ((rd_T34 l0 x5_1).f1), .int .i64 ((rd_T34 l0 x5_1).f2.f0), .int .i64 ((rd_T34 l0 x5_1).f2.f1), .int .i64 ((rd_T34 l0 x5_1).f3.f0), .int .i64 ((rd_T34 l0 x5_1).f3.f1), .int .i64 ((rd_T34 l0 x5_1).f4), .int .i64 ((rd_T34 l0 x5_1).f5)], .agg #[.int .i64 a1_0, .int .i64 a1_1, .int .i64 a1_2]] (by rfl) rfl rfl MT ?_
      with_reducible refine (spec_l4About.calls k1 ((rd_T34 l0 x5_1).f0) ((rd_T34 l0 x5_1).f1) ((rd_T34 l0 x5_1).f2.f0) ((rd_T34 l0 x5_1).f2.f1) ((rd_T34 l0 x5_1).f3.f0) ((rd_T34 l0 x5_1).f3.f1) ((rd_T34 l0 x5_1).f4) ((rd_T34 l0 x5_1).f5) a1_0 a1_1 a1_2 true _ A6.out).mono ?_
      rintro e w9 ⟨rfl, hb⟩
      refine ⟨_, rfl, ?_⟩
      replace BK101 := am (BB BK101 hb)
      replace HB := am (below_step (K1 HB GE101.out) hb)
      (try clear hb)
      (try clear hb2)
      (try clear hk)
      (try clear hi)
      refine hK.out _ _ ⟨z0 _ BK101.out, z1 _ BK101.out, z2 _ BK101.out, ((HB.out.cell (World.block_lt_of_cell? w _ hw102_0)).trans hw102_0), ((HB.out.cell (World.block_lt_of_cell? w _ hw102_1)).trans hw102_1), ((HB.out.cell (World.block_lt_of_cell? w _ hw102_2)).trans hw102_2), ((HB.out.cell (World.block_lt_of_cell? w _ hw102_3)).trans hw102_3), ((HB.out.cell (World.block_lt_of_cell? w _ hw102_4)).trans hw102_4), ((HB.out.cell (World.block_lt_of_cell? w _ hw102_5)).trans hw102_5), ((HB.out.cell (World.block_lt_of_cell? w _ hw102_6)).trans hw102_6), ((HB.out.cell (World.block_lt_of_cell? w _ hw102_7)).trans hw102_7)⟩ (fun hHeld => ?_)
      clear hK K
      refine norm_ (a' := ?_) ?_ ?_
      rotate_left
      ·show Act.put _ (some 17) _ = _
       simp only [Act.put, List.setIfInBounds_toArray, List.set_cons_zero, List.set_cons_succ, i64_w, i32_w]
       rfl
      refine done_ (by kernel_rfl) ?_
      try go_wp2
      go_ret
      exact ⟨by first | rfl | (simp [errW_none, errW_some] <;> rfl) | (simp [*, errW_none, errW_some] <;> rfl), K1 HB GE101.out⟩
     ·replace c7 := Bool.eq_false_iff.mpr c7
      subst c7
      have H1 : (spec_l4First.l0 k1 l0 (wrap64 (x5_1 + 1)) a1_0 a1_1 a1_2) = some r := by rw [if_neg (show ¬ (false = true) by decide)] at H; exact H
      clear H
      have H := H1
      clear H1
      have H' := Aside0.mk H
      clear H
      try go_wp2
      replace BK101 := am (blk_drew BK101.out)
      replace HB := am (below_drew1 HB.out)
      have p102 : 0 ≤ (x5_1 : Int) := of_decide_eq_true (by first | (with_reducible assumption) | assumption)
      have q102 : x5_1 < (l0.length : Int) := of_decide_eq_true (by first | (with_reducible assumption) | assumption)
      obtain ⟨ad102, e102, hx102_0, hx102_1, hx102_2, hx102_3, hx102_4, hx102_5, hx102_6, hx102_7⟩ := at_T34 HR0.out x5_1 p102 q102
      have hw102_7 := hx102_7
      have hw102_6 := hx102_6
      have hw102_5 := hx102_5
      have hw102_4 := hx102_4
      have hw102_3 := hx102_3
      have hw102_2 := hx102_2
      have hw102_1 := hx102_1
      have hw102_0 := hx102_0
      cases e102
      replace hx102_0 := (HB.out.cell (World.block_lt_of_cell? w _ hx102_0)).trans hx102_0
      replace hx102_1 := (HB.out.cell (World.block_lt_of_cell? w _ hx102_1)).trans hx102_1
      replace hx102_2 := (HB.out.cell (World.block_lt_of_cell? w _ hx102_2)).trans hx102_2
      replace hx102_3 := (HB.out.cell (World.block_lt_of_cell? w _ hx102_3)).trans hx102_3
      replace hx102_4 := (HB.out.cell (World.block_lt_of_cell? w _ hx102_4)).trans hx102_4
      replace hx102_5 := (HB.out.cell (World.block_lt_of_cell? w _ hx102_5)).trans hx102_5
      replace hx102_6 := (HB.out.cell (World.block_lt_of_cell? w _ hx102_6)).trans hx102_6
      replace hx102_7 := (HB.out.cell (World.block_lt_of_cell? w _ hx102_7)).trans hx102_7
      replace p102 := eq_true p102
      replace q102 := eq_true q102
      refine start_ (n := 6) (S := fun w' => w'.cell? ⟨gb101, 0, none⟩ = some (.int .i64 a1_0) ∧ w'.cell? ⟨gb101, 1, none⟩ = some (.int .i64 a1_1) ∧ w'.cell? ⟨gb101, 2, none⟩ = some (.int .i64 a1_2) ∧ w'.cell? (ad102.add ((x5_1).toNat * 8)) = some (.int .i64 ((rd_T34 l0 x5_1).f0)) ∧ w'.cell? ⟨(ad102.add ((x5_1).toNat * 8)).block, (ad102.add ((x5_1).toNat * 8)).off + 1, none⟩ = some (.int .i64 ((rd_T34 l0 x5_1).f1)) ∧ w'.cell? ⟨(ad102.add ((x5_1).toNat * 8)).block, (ad102.add ((x5_1).toNat * 8)).off + 2, none⟩ = some (.int .i64 ((rd_T34 l0 x5_1).f2.f0)) ∧ w'.cell? ⟨(ad102.add ((x5_1).toNat * 8)).block, (ad102.add ((x5_1).toNat * 8)).off + 3, none⟩ = some (.int .i64 ((rd_T34 l0 x5_1).f2.f1)) ∧ w'.cell? ⟨(ad102.add ((x5_1).toNat * 8)).block, (ad102.add ((x5_1).toNat * 8)).off + 4, none⟩ = some (.int .i64 ((rd_T34 l0 x5_1).f3.f0)) ∧ w'.cell? ⟨(ad102.add ((x5_1).toNat * 8)).block, (ad102.add ((x5_1).toNat * 8)).off + 5, none⟩ = some (.int .i64 ((rd_T34 l0 x5_1).f3.f1)) ∧ w'.cell? ⟨(ad102.add ((x5_1).toNat * 8)).block, (ad102.add ((x5_1).toNat * 8)).off + 6, none⟩ = some (.int .i64 ((rd_T34 l0 x5_1).f4)) ∧ w'.cell? ⟨(ad102.add ((x5_1).toNat * 8)).block, (ad102.add ((x5_1).toNat * 8)).off + 7, none⟩ = some (.int .i64 ((rd_T34 l0 x5_1).f5))) (ds := []) (tf 0 6) (by kernel_rfl) rfl rfl ⟨z0 _ BK101.out, z1 _ BK101.out, z2 _ BK101.out, ((HB.out.cell (World.block_lt_of_cell? w _ hw102_0)).trans hw102_0), ((HB.out.cell (World.block_lt_of_cell? w _ hw102_1)).trans hw102_1), ((HB.out.cell (World.block_lt_of_cell? w _ hw102_2)).trans hw102_2), ((HB.out.cell (World.block_lt_of_cell? w _ hw102_3)).trans hw102_3), ((HB.out.cell (World.block_lt_of_cell? w _ hw102_4)).trans hw102_4), ((HB.out.cell (World.block_lt_of_cell? w _ hw102_5)).trans hw102_5), ((HB.out.cell (World.block_lt_of_cell? w _ hw102_6)).trans hw102_6), ((HB.out.cell (World.block_lt_of_cell? w _ hw102_7)).trans hw102_7)⟩ (fun hHeld => ?_)
      generalize wr.drew = w10 at BK101 HB hx102_0 hx102_1 hx102_2 hx102_3 hx102_4 hx102_5 hx102_6 hx102_7 hHeld ⊢
      refine pure_ (i := 0) (N := some 12) (v := ?_) (a' := ?_) (tf 1 5) rfl rfl (by kernel_rfl) (fun _ _ _ h => h) (Or.inl ⟨by rfl, ?_⟩) ?_ ?_; rotate_left; (· intro w'; go_simp; with_reducible rfl); rotate_left; (· simp only [Act.put, List.setIfInBounds_toArray, List.set_cons_zero, List.set_cons_succ, i64_w, i32_w]; rfl)
      refine pure_ (i := 1) (N := some 13) (v := ?_) (a' := ?_) (tf 2 4) rfl rfl (by kernel_rfl) (fun _ _ _ h => h) (Or.inl ⟨by rfl, ?_⟩) ?_ ?_; rotate_left; (· intro w'; go_simp; with_reducible rfl); rotate_left; (· simp only [Act.put, List.setIfInBounds_toArray, List.set_cons_zero, List.set_cons_succ, i64_w, i32_w]; rfl)
      refine pure_ (i := 2) (N := some 14) (v := ?_) (a' := ?_) (tf 3 3) rfl rfl (by kernel_rfl) (fun _ _ _ h => h) (Or.inl ⟨by rfl, ?_⟩) ?_ ?_; rotate_left; (· intro w'; go_simp; with_reducible rfl); rotate_left; (· simp only [Act.put, List.setIfInBounds_toArray, List.set_cons_zero, List.set_cons_succ, i64_w, i32_w]; rfl)
      refine take_ (i := 3) (N := some 15) (v := ?_) (a' := ?_) (tf 4 2) rfl rfl (by kernel_rfl) (fun _ _ _ h => h) (Or.inl ⟨by rfl, ?_⟩) hHeld ?_ ?_
      rotate_left
      ·rintro w' ⟨s0, s1, s2, s3, s4, s5, s6, s7, s8, s9, s10⟩
       go_simp
       with_reducible rfl
      rotate_left
      ·simp only [Act.put, List.setIfInBounds_toArray, List.set_cons_zero, List.set_cons_succ, i64_w, i32_w]
       rfl
      refine take_ (i := 4) (N := some 16) (v := ?_) (a' := ?_) (tf 5 1) rfl rfl (by kernel_rfl) (fun _ _ _ h => h) (Or.inl ⟨by rfl, ?_⟩) hHeld ?_ ?_
      rotate_left
      ·rintro w' ⟨s0, s1, s2, s3, s4, s5, s6, s7, s8, s9, s10⟩
       go_simp
       with_reducible rfl
      rotate_left
      ·simp only [Act.put, List.setIfInBounds_toArray, List.set_cons_zero, List.set_cons_succ, i64_w, i32_w]
       rfl
      refine one_ (i := 5) (N := some 17) (tf 6 0) rfl rfl (by kernel_rfl) (by decide) (fun K hK => ?_)
      refine goes_ Try.func128 (by kernel_rfl) rfl #[.agg #[.int .i64 ((rd_T34 l0 x5_1).f0), .int .i64 ((rd_T34 l0 x5_1).f1), .int .i64 ((rd_T34 l0 x5_1).f2.f0), .int .i64 ((rd_T34 l0 x5_1).f2.f1), .int .i64 ((rd_T34 l0 x5_1).f3.f0), .int .i64 ((rd_T34 l0 x5_1).f3.f1), .int .i64 ((rd_T34 l0 x5_1).f4), .int .i64 ((rd_T34 l0 x5_1).f5)], .agg #[.int .i64 a1_0, .int .i64 a1_1, .int .i64 a1_2]] (by rfl) rfl rfl MT ?_
      with_reducible refine (spec_l4About.calls k1 ((rd_T34 l0 x5_1).f0) ((rd_T34 l0 x5_1).f1) ((rd_T34 l0 x5_1).f2.f0) ((rd_T34 l0 x5_1).f2.f1) ((rd_T34 l0 x5_1).f3.f0) ((rd_T34 l0 x5_1).f3.f1) ((rd_T34 l0 x5_1).f4) ((rd_T34 l0 x5_1).f5) a1_0 a1_1 a1_2 false _ A6.out).mono ?_
      rintro e w11 ⟨rfl, hb⟩
      refine ⟨_, rfl, ?_⟩
      replace BK101 := am (BB BK101 hb)
      replace HB := am (below_step (K1 HB GE101.out) hb)
      (try clear hb)
      (try clear hb2)
      (try clear hk)
      (try clear hi)
      refine hK.out _ _ ⟨z0 _ BK101.out, z1 _ BK101.out, z2 _ BK101.out, ((HB.out.cell (World.block_lt_of_cell? w _ hw102_0)).trans hw102_0), ((HB.out.cell (World.block_lt_of_cell? w _ hw102_1)).trans hw102_1), ((HB.out.cell (World.block_lt_of_cell? w _ hw102_2)).trans hw102_2), ((HB.out.cell (World.block_lt_of_cell? w _ hw102_3)).trans hw102_3), ((HB.out.cell (World.block_lt_of_cell? w _ hw102_4)).trans hw102_4), ((HB.out.cell (World.block_lt_of_cell? w _ hw102_5)).trans hw102_5), ((HB.out.cell (World.block_lt_of_cell? w _ hw102_6)).trans hw102_6), ((HB.out.cell (World.block_lt_of_cell? w _ hw102_7)).trans hw102_7)⟩ (fun hHeld => ?_)
      clear hK K
      refine norm_ (a' := ?_) ?_ ?_
      rotate_left
      ·show Act.put _ (some 17) _ = _
       simp only [Act.put, List.setIfInBounds_toArray, List.set_cons_zero, List.set_cons_succ, i64_w, i32_w]
       rfl
      refine done_ (by kernel_rfl) ?_
      try go_wp2
      go_roundg k1
      case measure => have := HK1.out; omega
      case rel => exact ⟨(wrap64 (x5_1 + 1)), (by first | rfl | (simp; done) | (simp [*]; done)), H', ⟨by have := HK1.out; omega⟩, ⟨KB BK101⟩, ⟨K1 HB GE101.out⟩⟩
    ·rw [if_neg c5] at H
     exact absurd H (by simp)
   ·rw [if_neg c4] at H
    have c4b0 : decide (x5_1 < (l0.length : Int)) = false := decide_eq_false c4
    clear c4
    obtain rfl := Option.some.inj H
    go_wp2
    go_ret
    exact ⟨by first | rfl | (simp [errW_none, errW_some] <;> rfl) | (simp [*, errW_none, errW_some] <;> rfl), K1 HB GE101.out⟩
end Go.Proofs.Ytioghacieopbdaa.PAll
end
section
namespace Go.Proofs.Ytioghacieopbdaa.PAll
open Go.RowKit Go.Proofs.YtioghacieopbdaaW.PrintWords Go.Proofs.YtioghacieopbdaaW.PrintLast Go.Proofs.YtioghacieopbdaaW.PrintMore
attribute [local go_sem] max2_int min2_int max_two min_two max_three min_three max_four min_four   -- for this text's walks alone
set_option linter.unusedVariables false
set_option linter.unusedSimpArgs false
attribute [local go_sem high] eqA25
mutual
def spec_CacheOk.j0 : Nat → List (S34) → Bool → Int → List (S108) → Option (Bool)
 | 0, _, _, _, _ => none
 | k + 1, x0, x23, x102000, x102001 => if x23 = true then (some false) else (spec_CacheOk.l0 k x0 0 x102000 x102001)
def spec_CacheOk.l0 : Nat → List (S34) → Int → Int → List (S108) → Option (Bool)
 | 0, _, _, _, _ => none
 | k + 1, x0, x5, x102000, x102001 => if x5 < (x102001.length : Int) then (if 0 ≤ x5 then ((spec_l4Call.f ((rd_T108 x102001 x5).f0.f0) ((rd_T108 x102001 x5).f0.f1) ((rd_T108 x102001 x5).f0.f2)).bind fun t105 => (if t105 = true then ((spec_l4First.f k x0 ((rd_T108 x102001 x5).f0.f0) ((rd_T108 x102001 x5).f0.f1) ((rd_T108 x102001 x5).f0.f2)).bind fun t108 => (spec_CacheOk.j2 k x0 x5 (((rd_T108 x102001 x5).f1) != t108) x102000 x102001)) else (spec_CacheOk.j2 k x0 x5 true x102000 x102001))) else (none)) else (some true)
def spec_CacheOk.j2 : Nat → List (S34) → Int → Bool → Int → List (S108) → Option (Bool)
 | 0, _, _, _, _, _ => none
 | k + 1, x0, x5, x55, x102000, x102001 => if x55 = true then (some false) else (spec_CacheOk.l1 k x0 x5 0 x102000 x102001)
def spec_CacheOk.l1 : Nat → List (S34) → Int → Int → Int → List (S108) → Option (Bool)
 | 0, _, _, _, _, _ => none
 | k + 1, x0, x5, x6, x102000, x102001 => if x6 < x5 then (if 0 ≤ x6 then (if x6 < (x102001.length : Int) then (if 0 ≤ x5 then (if x5 < (x102001.length : Int) then (if (((rd_T108 x102001 x6).f0.f0) == ((rd_T108 x102001 x5).f0.f0) && (((rd_T108 x102001 x6).f0.f1) == ((rd_T108 x102001 x5).f0.f1) && (((rd_T108 x102001 x6).f0.f2) == ((rd_T108 x102001 x5).f0.f2)))) = true then (some false) else (spec_CacheOk.l1 k x0 x5 (wrap64 (x6 + 1)) x102000 x102001)) else (none)) else (none)) else (none)) else (none)) else (spec_CacheOk.l0 k x0 (wrap64 (x5 + 1)) x102000 x102001)
end
def spec_CacheOk.f (k : Nat) (l0 : List (S34)) (a1_0 : Int) (l1_1 : List (S108)) : Option (Bool) := (spec_RulesOk.f k l0).bind fun t102 => (if t102 = true then ((spec_l1In.f a1_0 0 16).bind fun t103 => (if t103 = true then (spec_CacheOk.j0 k l0 (decide ((l1_1.length : Int) > a1_0)) a1_0 l1_1) else (spec_CacheOk.j0 k l0 true a1_0 l1_1))) else (spec_CacheOk.j0 k l0 true a1_0 l1_1))
def spec_CacheOk.T6 : Bool × List (List Nat × List Nat) := (true, [([], []), ([0], [0]), ([], []), ([1, 2], [1, 2]), ([3], [3]), ([4], [4]), ([5], [5]), ([6], [6]), ([7, 6], [7]), ([8], [8]), ([9, 8], [8, 9]), ([8], [8]), ([10, 11, 8], [8, 10, 11]), ([12, 8], [8, 12]), ([13, 8], [8, 13]), ([8], [8]), ([8], [8]), ([16, 8], [8, 16]), ([8], [8]), ([17, 18, 8], [8, 17, 18]), ([19, 8], [8, 19]), ([20, 8], [8, 20]), ([15, 21, 8, 8], [8, 15, 21]), ([14, 22, 8], [8, 14, 22]), ([8, 23], [8, 23])])
def spec_CacheOk.B6 : List Nat := [0, 1, 0, 7, 15, 31, 63, 127, 255, 511, 1023, 511, 4095, 8191, 16383, 511, 511, 66047, 511, 459263, 983551, 2032127, 4162047, 8388607, 16777215]
theorem spec_CacheOk.tab6 : rtab .any (opsOf Try.f23 6) = spec_CacheOk.T6 := by kernel_rfl
theorem spec_CacheOk.bits6 : waitsOk spec_CacheOk.T6.2 spec_CacheOk.B6 = true := by kernel_rfl
def spec_CacheOk.T11 : Bool × List (List Nat × List Nat) := (true, [([], []), ([0], [0]), ([], []), ([1, 2], [1, 2]), ([3], [3]), ([4], [4]), ([], []), ([6], [6]), ([], []), ([7, 8], [7, 8]), ([9], [9]), ([10], [10]), ([5, 11], [5, 11])])
def spec_CacheOk.B11 : List Nat := [0, 1, 0, 7, 15, 31, 0, 64, 0, 448, 960, 1984, 4095]
theorem spec_CacheOk.tab11 : rtab .any (opsOf Try.f23 11) = spec_CacheOk.T11 := by kernel_rfl
theorem spec_CacheOk.bits11 : waitsOk spec_CacheOk.T11.2 spec_CacheOk.B11 = true := by kernel_rfl
set_option maxHeartbeats 8000000 in
set_option maxRecDepth 100000 in
theorem spec_CacheOk.calls (k : Nat) (A0 : Option Addr) (c0 : Nat) (l0 : List (S34)) (a1_0 : Int) (A1_1 : Option Addr) (c1_1 : Nat) (l1_1 : List (S108)) (r : Bool) (w : World) (hr0 : Kd.C k34 w A0 l0.length l0) (hc0 : l0.length ≤ c0) (hr1_1 : Kd.C k108 w A1_1 l1_1.length l1_1) (hc1_1 : l1_1.length ≤ c1_1) (h : spec_CacheOk.f k l0 a1_0 l1_1 = some r) :
  Calls Try.prog 23 #[.slice A0 l0.length c0, .agg #[.int .i64 a1_0, .slice A1_1 l1_1.length c1_1]] w fun e w' => e = .returned (.bool r) ∧ Below w.heap.size w w' := by
 have hu46 := Try.underlying46
 have hu25 := Try.underlying25
 have HR0 := Aside0.mk hr0
 have HC0 := Aside0.mk hc0
 clear hr0 hc0
 have HR1_1 := Aside0.mk hr1_1
 have HC1_1 := Aside0.mk hc1_1
 clear hr1_1 hc1_1
 have HB := am (Below.refl w.heap.size w)
 have H : ((spec_RulesOk.f k l0).bind fun t102 => (if t102 = true then ((spec_l1In.f a1_0 0 16).bind fun t103 => (if t103 = true then (spec_CacheOk.j0 k l0 (decide ((l1_1.length : Int) > a1_0)) a1_0 l1_1) else (spec_CacheOk.j0 k l0 true a1_0 l1_1))) else (spec_CacheOk.j0 k l0 true a1_0 l1_1))) = some r := h
 clear h
 have HC3 := Aside0.mk H
 clear H
 go_enter Try.func23, Try.ntmps23
 go_upto_region 1 with (first | ((with_reducible refine gate_dst (N := 3) rfl ?_); (try (refine gate_guard (by rfl) ?_; dsimp only)); refine box_event rfl (N := 3) rfl (cs := #[.int .i64 a1_0, .slice A1_1 l1_1.length c1_1]) (t := 46) BX ?_; intro gb101 hg w4 hbox hb; have BK101 := am (hbox); have GW101 := am ((GL hg (below_size (KL HB)) : w.heap.size ≤ gb101)); have GE101 := GW101; replace HB := am (below_step (KL HB) hb); clear hb hbox hg))
 (try simp only [Act.put, List.setIfInBounds_toArray, List.set_cons_zero, List.set_cons_succ])
 go_cut [23] (fun v23 wc => ∃ (kq : Nat) (x23_2 : Bool), v23 = .bool x23_2 ∧ Aside0 (spec_CacheOk.j0 kq l0 x23_2 a1_0 l1_1 = some r) ∧ Aside0 (kq ≤ k) ∧ Aside0 (wc.heap[gb101]? = some (.cells #[.int .i64 a1_0, (.slice A1_1 l1_1.length c1_1)] 46 (0, 0))) ∧ Aside0 (Below w.heap.size w wc))
 case first =>
  have H := HC3.out
  clear HC3
  replace H := Option.bind_eq_some_iff.mp H
  obtain ⟨t102, A50, H⟩ := H
  replace H : (if t102 = true then ((spec_l1In.f a1_0 0 16).bind fun t103 => (if t103 = true then (spec_CacheOk.j0 k l0 (decide ((l1_1.length : Int) > a1_0)) a1_0 l1_1) else (spec_CacheOk.j0 k l0 true a1_0 l1_1))) else (spec_CacheOk.j0 k l0 true a1_0 l1_1)) = some r := H
  have A5 := Aside0.mk A50
  clear A50
  by_cases c6 : t102 = true
  ·subst c6
   have H1 : ((spec_l1In.f a1_0 0 16).bind fun t103 => (if t103 = true then (spec_CacheOk.j0 k l0 (decide ((l1_1.length : Int) > a1_0)) a1_0 l1_1) else (spec_CacheOk.j0 k l0 true a1_0 l1_1))) = some r := by rw [if_pos rfl] at H; exact H
   clear H
   have H := H1
   clear H1
   replace H := Option.bind_eq_some_iff.mp H
   obtain ⟨t103, A70, H⟩ := H
   replace H : (if t103 = true then (spec_CacheOk.j0 k l0 (decide ((l1_1.length : Int) > a1_0)) a1_0 l1_1) else (spec_CacheOk.j0 k l0 true a1_0 l1_1)) = some r := H
   have A7 := Aside0.mk A70
   clear A70
   by_cases c8 : t103 = true
   ·subst c8
    have H1 : (spec_CacheOk.j0 k l0 (decide ((l1_1.length : Int) > a1_0)) a1_0 l1_1) = some r := by rw [if_pos rfl] at H; exact H
    clear H
    have H := H1
    clear H1
    have H' := Aside0.mk H
    clear H
    go_wp2_with (first | ((with_reducible refine gate_callee (f := 19) rfl ?_); refine goesL_ (some 8) rfl rfl Try.func19 (by kernel_rfl) rfl #[.slice A0 l0.length c0] rfl MT ?_; (with_reducible refine (spec_RulesOk.calls k _ _ l0 true _ ?side1 ?side2 A5.out).mono ?_); (case side1 => exact KC (Kd.C_below HR0.out HB.out)); (case side2 => exact HC0.out); rintro e w9 ⟨rfl, hb⟩; refine ⟨_, rfl, ?_⟩; replace BK101 := am (BB BK101 hb); replace HB := am (below_step (K1 HB GE101.out) hb); (try clear hb); (try clear hb2); (try clear hk); (try clear hi); have hcz10_0 := z0 w9 BK101.out; have hcz10_1 := z1 w9 BK101.out; have hfz10_0 := blk_frozen BK101.out 0; have hfz10_1 := blk_frozen BK101.out 1) | (go_at_call 82; (with_reducible refine (spec_l1In.calls a1_0 0 16 true _ A7.out).mono ?_); rintro e w' ⟨rfl, ⟨nd, rfl⟩⟩))
    go_meet
    case rel => exact ⟨_, (decide ((l1_1.length : Int) > a1_0)), (by first | rfl | (simp; done) | (simp [*]; done)), H', ⟨by first | omega | exact Nat.le_refl _⟩, ⟨KB BK101⟩, ⟨K1 HB GE101.out⟩⟩
   ·replace c8 := Bool.eq_false_iff.mpr c8
    subst c8
    have H1 : (spec_CacheOk.j0 k l0 true a1_0 l1_1) = some r := by rw [if_neg (show ¬ (false = true) by decide)] at H; exact H
    clear H
    have H := H1
    clear H1
    have H' := Aside0.mk H
    clear H
    go_wp2_with (first | ((with_reducible refine gate_callee (f := 19) rfl ?_); refine goesL_ (some 8) rfl rfl Try.func19 (by kernel_rfl) rfl #[.slice A0 l0.length c0] rfl MT ?_; (with_reducible refine (spec_RulesOk.calls k _ _ l0 true _ ?side1 ?side2 A5.out).mono ?_); (case side1 => exact KC (Kd.C_below HR0.out HB.out)); (case side2 => exact HC0.out); rintro e w11 ⟨rfl, hb⟩; refine ⟨_, rfl, ?_⟩; replace BK101 := am (BB BK101 hb); replace HB := am (below_step (K1 HB GE101.out) hb); (try clear hb); (try clear hb2); (try clear hk); (try clear hi); have hcz12_0 := z0 w11 BK101.out; have hcz12_1 := z1 w11 BK101.out; have hfz12_0 := blk_frozen BK101.out 0; have hfz12_1 := blk_frozen BK101.out 1) | (go_at_call 82; (with_reducible refine (spec_l1In.calls a1_0 0 16 false _ A7.out).mono ?_); rintro e w' ⟨rfl, ⟨nd, rfl⟩⟩))
    go_meet
    case rel => exact ⟨_, (true), (by first | rfl | (simp; done) | (simp [*]; done)), H', ⟨by first | omega | exact Nat.le_refl _⟩, ⟨KB BK101⟩, ⟨K1 HB GE101.out⟩⟩
  ·replace c6 := Bool.eq_false_iff.mpr c6
   subst c6
   have H1 : (spec_CacheOk.j0 k l0 true a1_0 l1_1) = some r := by rw [if_neg (show ¬ (false = true) by decide)] at H; exact H
   clear H
   have H := H1
   clear H1
   have H' := Aside0.mk H
   clear H
   go_wp2_with (first | ((with_reducible refine gate_callee (f := 19) rfl ?_); refine goesL_ (some 8) rfl rfl Try.func19 (by kernel_rfl) rfl #[.slice A0 l0.length c0] rfl MT ?_; (with_reducible refine (spec_RulesOk.calls k _ _ l0 false _ ?side1 ?side2 A5.out).mono ?_); (case side1 => exact KC (Kd.C_below HR0.out HB.out)); (case side2 => exact HC0.out); rintro e w13 ⟨rfl, hb⟩; refine ⟨_, rfl, ?_⟩; replace BK101 := am (BB BK101 hb); replace HB := am (below_step (K1 HB GE101.out) hb); (try clear hb); (try clear hb2); (try clear hk); (try clear hi)))
   go_meet
   case rel => exact ⟨_, (true), (by first | rfl | (simp; done) | (simp [*]; done)), H', ⟨by first | omega | exact Nat.le_refl _⟩, ⟨KB BK101⟩, ⟨K1 HB GE101.out⟩⟩
 case rest =>
  clear HC3
  try clear c1
  try clear c2
  try clear p2
  try clear c6
  try clear c8
  try clear hcz10_0
  try clear hcz10_1
  try clear hcz12_0
  try clear hcz12_1
  try clear hfz10_0
  try clear hfz10_1
  try clear hfz12_0
  try clear hfz12_1
  obtain ⟨kq, x23_2, rfl, HA, HJ2, BK101, HB⟩ := hcut
  cases kq with
  | zero => exact absurd HA.out (by simp [spec_CacheOk.j0])
  | succ kj2 =>
   have H := HA.out
   clear HA
   simp only [spec_CacheOk.j0] at H
   by_cases c14 : x23_2 = true
   ·subst c14
    have H1 : (some false) = some r := by rw [if_pos rfl] at H; exact H
    clear H
    have H := H1
    clear H1
    obtain rfl := Option.some.inj H
    go_wp2
    go_ret
    exact ⟨by first | rfl | (simp [errW_none, errW_some] <;> rfl) | (simp [*, errW_none, errW_some] <;> rfl), K1 HB GE101.out⟩
   ·replace c14 := Bool.eq_false_iff.mpr c14
    subst c14
    have H1 : (spec_CacheOk.l0 kj2 l0 0 a1_0 l1_1) = some r := by rw [if_neg (show ¬ (false = true) by decide)] at H; exact H
    clear H
    have H := H1
    clear H1
    have H' := Aside0.mk H
    clear H
    go_wp2
    go_loopg [5] kj2 (fun kq v5 w' => ∃ (x5_2 : Int), v5 = .int .i64 x5_2 ∧ Aside0 (spec_CacheOk.l0 kq l0 x5_2 a1_0 l1_1 = some r) ∧ Aside0 (kq ≤ kj2) ∧ Aside0 (w'.heap[gb101]? = some (.cells #[.int .i64 a1_0, (.slice A1_1 l1_1.length c1_1)] 46 (0, 0))) ∧ Aside0 (Below w.heap.size w w'))
    case atStart => exact ⟨(0), (by first | rfl | (simp; done) | (simp [*]; done)), H', ⟨Nat.le_refl _⟩, ⟨KB BK101⟩, ⟨K1 HB GE101.out⟩⟩
    case round =>
     clear H'
     try clear c1
     try clear c2
     try clear p2
     try clear c6
     try clear c8
     try clear c14
     try clear hcz10_0
     try clear hcz10_1
     try clear hcz12_0
     try clear hcz12_1
     try clear hfz10_0
     try clear hfz10_1
     try clear hfz12_0
     try clear hfz12_1
     try clear p2
     obtain ⟨x5_2, rfl, HA, HK2, BK101, HB⟩ := hrel
     cases gk with
     | zero => exact absurd HA.out (by simp [spec_CacheOk.l0])
     | succ k2 =>
      have H := HA.out
      clear HA
      simp only [spec_CacheOk.l0] at H
      by_cases c15 : x5_2 < (l1_1.length : Int)
      ·rw [if_pos c15] at H
       have c15b0 : decide (x5_2 < (l1_1.length : Int)) = true := decide_eq_true c15
       clear c15
       have HC16 := Aside0.mk H
       clear H
       have hcz17_0 := z0 wr BK101.out
       have hcz17_1 := z1 wr BK101.out
       have hfz17_0 := blk_frozen BK101.out 0
       have hfz17_1 := blk_frozen BK101.out 1
       go_upto_region 6 with (fail)
       go_cut [55] (fun v55 wc => ∃ (kq : Nat) (x55_15 : Bool), v55 = .bool x55_15 ∧ Aside0 (spec_CacheOk.j2 kq l0 x5_2 x55_15 a1_0 l1_1 = some r) ∧ Aside0 (kq ≤ k2) ∧ Aside0 (wc.heap[gb101]? = some (.cells #[.int .i64 a1_0, (.slice A1_1 l1_1.length c1_1)] 46 (0, 0))) ∧ Aside0 (Below w.heap.size w wc))
       case first =>
        have H := HC16.out
        clear HC16
        by_cases c18 : 0 ≤ x5_2
        ·rw [if_pos c18] at H
         have c18b0 : decide (0 ≤ x5_2) = true := decide_eq_true c18
         clear c18
         (first | rw [c18b0] | (simp only [i64_w, i32_w]; rw [c18b0]) | skip)
         replace H := Option.bind_eq_some_iff.mp H
         obtain ⟨t105, A190, H⟩ := H
         replace H : (if t105 = true then ((spec_l4First.f k2 l0 ((rd_T108 l1_1 x5_2).f0.f0) ((rd_T108 l1_1 x5_2).f0.f1) ((rd_T108 l1_1 x5_2).f0.f2)).bind fun t108 => (spec_CacheOk.j2 k2 l0 x5_2 (((rd_T108 l1_1 x5_2).f1) != t108) a1_0 l1_1)) else (spec_CacheOk.j2 k2 l0 x5_2 true a1_0 l1_1)) = some r := H
         have A19 := Aside0.mk A190
         clear A190
         by_cases c20 : t105 = true
         ·subst c20
          have H1 : ((spec_l4First.f k2 l0 ((rd_T108 l1_1 x5_2).f0.f0) ((rd_T108 l1_1 x5_2).f0.f1) ((rd_T108 l1_1 x5_2).f0.f2)).bind fun t108 => (spec_CacheOk.j2 k2 l0 x5_2 (((rd_T108 l1_1 x5_2).f1) != t108) a1_0 l1_1)) = some r := by rw [if_pos rfl] at H; exact H
          clear H
          have H := H1
          clear H1
          replace H := Option.bind_eq_some_iff.mp H
          obtain ⟨t108, A210, H⟩ := H
          replace H : (spec_CacheOk.j2 k2 l0 x5_2 (((rd_T108 l1_1 x5_2).f1) != t108) a1_0 l1_1) = some r := H
          have A21 := Aside0.mk A210
          clear A210
          have H' := Aside0.mk H
          clear H
          try go_wp2
          replace BK101 := am (blk_drew BK101.out)
          replace HB := am (below_drew1 HB.out)
          have p104 : 0 ≤ (x5_2 : Int) := of_decide_eq_true (by first | (with_reducible assumption) | assumption)
          have q104 : x5_2 < (l1_1.length : Int) := of_decide_eq_true (by first | (with_reducible assumption) | assumption)
          obtain ⟨ad104, e104, hx104_0, hx104_1, hx104_2, hx104_3⟩ := at_T108 HR1_1.out x5_2 p104 q104
          have hw104_3 := hx104_3
          have hw104_2 := hx104_2
          have hw104_1 := hx104_1
          have hw104_0 := hx104_0
          cases e104
          replace hx104_0 := (HB.out.cell (World.block_lt_of_cell? w _ hx104_0)).trans hx104_0
          replace hx104_1 := (HB.out.cell (World.block_lt_of_cell? w _ hx104_1)).trans hx104_1
          replace hx104_2 := (HB.out.cell (World.block_lt_of_cell? w _ hx104_2)).trans hx104_2
          replace hx104_3 := (HB.out.cell (World.block_lt_of_cell? w _ hx104_3)).trans hx104_3
          replace p104 := eq_true p104
          replace q104 := eq_true q104
          have p106 : 0 ≤ (x5_2 : Int) := of_decide_eq_true (by first | (with_reducible assumption) | assumption)
          have q106 : x5_2 < (l1_1.length : Int) := of_decide_eq_true (by first | (with_reducible assumption) | assumption)
          obtain ⟨ad106, e106, hx106_0, hx106_1, hx106_2, hx106_3⟩ := at_T108 HR1_1.out x5_2 p106 q106
          have hw106_3 := hx106_3
          have hw106_2 := hx106_2
          have hw106_1 := hx106_1
          have hw106_0 := hx106_0
          obtain rfl : ad104 = ad106 := (by injection e106)
          replace hx106_0 := (HB.out.cell (World.block_lt_of_cell? w _ hx106_0)).trans hx106_0
          replace hx106_1 := (HB.out.cell (World.block_lt_of_cell? w _ hx106_1)).trans hx106_1
          replace hx106_2 := (HB.out.cell (World.block_lt_of_cell? w _ hx106_2)).trans hx106_2
          replace hx106_3 := (HB.out.cell (World.block_lt_of_cell? w _ hx106_3)).trans hx106_3
          replace p106 := eq_true p106
          replace q106 := eq_true q106
          have p107 : 0 ≤ (x5_2 : Int) := of_decide_eq_true (by first | (with_reducible assumption) | assumption)
          have q107 : x5_2 < (l1_1.length : Int) := of_decide_eq_true (by first | (with_reducible assumption) | assumption)
          obtain ⟨ad107, e107, hx107_0, hx107_1, hx107_2, hx107_3⟩ := at_T108 HR1_1.out x5_2 p107 q107
          have hw107_3 := hx107_3
          have hw107_2 := hx107_2
          have hw107_1 := hx107_1
          have hw107_0 := hx107_0
          obtain rfl : ad104 = ad107 := (by injection e107)
          replace hx107_0 := (HB.out.cell (World.block_lt_of_cell? w _ hx107_0)).trans hx107_0
          replace hx107_1 := (HB.out.cell (World.block_lt_of_cell? w _ hx107_1)).trans hx107_1
          replace hx107_2 := (HB.out.cell (World.block_lt_of_cell? w _ hx107_2)).trans hx107_2
          replace hx107_3 := (HB.out.cell (World.block_lt_of_cell? w _ hx107_3)).trans hx107_3
          replace p107 := eq_true p107
          replace q107 := eq_true q107
          refine start_ (n := 25) (S := fun w' => w'.cell? ⟨gb101, 0, none⟩ = some (.int .i64 a1_0) ∧ w'.cell? ⟨gb101, 1, none⟩ = some (.slice (some ad104) l1_1.length c1_1) ∧ w'.cell? (ad104.add ((x5_2).toNat * 4)) = some (.int .i64 ((rd_T108 l1_1 x5_2).f0.f0)) ∧ w'.cell? ⟨(ad104.add ((x5_2).toNat * 4)).block, (ad104.add ((x5_2).toNat * 4)).off + 1, none⟩ = some (.int .i64 ((rd_T108 l1_1 x5_2).f0.f1)) ∧ w'.cell? ⟨(ad104.add ((x5_2).toNat * 4)).block, (ad104.add ((x5_2).toNat * 4)).off + 2, none⟩ = some (.int .i64 ((rd_T108 l1_1 x5_2).f0.f2)) ∧ w'.cell? ⟨(ad104.add ((x5_2).toNat * 4)).block, (ad104.add ((x5_2).toNat * 4)).off + 3, none⟩ = some (.int .i64 ((rd_T108 l1_1 x5_2).f1)) ∧ w'.cell? (ad104.add ((x5_2).toNat * 4)) = some (.int .i64 ((rd_T108 l1_1 x5_2).f0.f0)) ∧ w'.cell? ⟨(ad104.add ((x5_2).toNat * 4)).block, (ad104.add ((x5_2).toNat * 4)).off + 1, none⟩ = some (.int .i64 ((rd_T108 l1_1 x5_2).f0.f1)) ∧ w'.cell? ⟨(ad104.add ((x5_2).toNat * 4)).block, (ad104.add ((x5_2).toNat * 4)).off + 2, none⟩ = some (.int .i64 ((rd_T108 l1_1 x5_2).f0.f2)) ∧ w'.cell? ⟨(ad104.add ((x5_2).toNat * 4)).block, (ad104.add ((x5_2).toNat * 4)).off + 3, none⟩ = some (.int .i64 ((rd_T108 l1_1 x5_2).f1)) ∧ w'.cell? (ad104.add ((x5_2).toNat * 4)) = some (.int .i64 ((rd_T108 l1_1 x5_2).f0.f0)) ∧ w'.cell? ⟨(ad104.add ((x5_2).toNat * 4)).block, (ad104.add ((x5_2).toNat * 4)).off + 1, none⟩ = some (.int .i64 ((rd_T108 l1_1 x5_2).f0.f1)) ∧ w'.cell? ⟨(ad104.add ((x5_2).toNat * 4)).block, (ad104.add ((x5_2).toNat * 4)).off + 2, none⟩ = some (.int .i64 ((rd_T108 l1_1 x5_2).f0.f2)) ∧ w'.cell? ⟨(ad104.add ((x5_2).toNat * 4)).block, (ad104.add ((x5_2).toNat * 4)).off + 3, none⟩ = some (.int .i64 ((rd_T108 l1_1 x5_2).f1))) (ds := []) (tf 0 25) (by kernel_rfl) rfl rfl ⟨z0 _ BK101.out, z1 _ BK101.out, ((HB.out.cell (World.block_lt_of_cell? w _ hw104_0)).trans hw104_0), ((HB.out.cell (World.block_lt_of_cell? w _ hw104_1)).trans hw104_1), ((HB.out.cell (World.block_lt_of_cell? w _ hw104_2)).trans hw104_2), ((HB.out.cell (World.block_lt_of_cell? w _ hw104_3)).trans hw104_3), ((HB.out.cell (World.block_lt_of_cell? w _ hw106_0)).trans hw106_0), ((HB.out.cell (World.block_lt_of_cell? w _ hw106_1)).trans hw106_1), ((HB.out.cell (World.block_lt_of_cell? w _ hw106_2)).trans hw106_2), ((HB.out.cell (World.block_lt_of_cell? w _ hw106_3)).trans hw106_3), ((HB.out.cell (World.block_lt_of_cell? w _ hw107_0)).trans hw107_0), ((HB.out.cell (World.block_lt_of_cell? w _ hw107_1)).trans hw107_1), ((HB.out.cell (World.block_lt_of_cell? w _ hw107_2)).trans hw107_2), ((HB.out.cell (World.block_lt_of_cell? w _ hw107_3)).trans hw107_3)⟩ (fun hHeld => ?_); refine with_tabW spec_CacheOk.tab6 spec_CacheOk.bits6 (fun HT_ HW_ => ?_)
          generalize wr.drew = w22 at BK101 HB hx104_0 hx104_1 hx104_2 hx104_3 hx106_0 hx106_1 hx106_2 hx106_3 hx107_0 hx107_1 hx107_2 hx107_3 hHeld ⊢
          refine pu 0 (some 31) (tf 1 24) (any_of HT_.out (by kernel_rfl)) ?_
          refine pu 2 (some 33) #[true, false, true, false, false, false, false, false, false, false, false, false, false, false, false, false, false, false, false, false, false, false, false, false, false] (any_of HT_.out (by kernel_rfl)) ?_
          refine tk 1 (some 32) (tf 3 22) (take_ofW HT_.out HW_.out (by kernel_rfl)) hHeld ?_
          refine pu 3 (some 34) (tf 4 21) (any_of HT_.out (by kernel_rfl)) ?_
          refine pu 4 (some 35) (tf 5 20) (any_of HT_.out (by kernel_rfl)) ?_
          refine tk 5 (some 36) (tf 6 19) (take_ofW HT_.out HW_.out (by kernel_rfl)) hHeld ?_
          refine one_ (i := 6) (N := some 37) (tf 7 18) rfl rfl (one_of HT_.out (by kernel_rfl)) (by decide) (fun K hK => ?_)
          refine goes_ Try.func75 (by kernel_rfl) rfl #[.agg #[.int .i64 ((rd_T108 l1_1 x5_2).f0.f0), .int .i64 ((rd_T108 l1_1 x5_2).f0.f1), .int .i64 ((rd_T108 l1_1 x5_2).f0.f2)]] (by rfl) rfl rfl MT ?_
          with_reducible refine (spec_l4Call.calls ((rd_T108 l1_1 x5_2).f0.f0) ((rd_T108 l1_1 x5_2).f0.f1) ((rd_T108 l1_1 x5_2).f0.f2) true _ A19.out).mono ?_
          rintro e w23 ⟨rfl, hb⟩
          refine ⟨_, rfl, ?_⟩
          replace BK101 := am (BB BK101 hb)
          replace HB := am (below_step (K1 HB GE101.out) hb)
          (try clear hb)
          (try clear hb2)
          (try clear hk)
          (try clear hi)
          refine hK.out _ _ ⟨z0 _ BK101.out, z1 _ BK101.out, ((HB.out.cell (World.block_lt_of_cell? w _ hw104_0)).trans hw104_0), ((HB.out.cell (World.block_lt_of_cell? w _ hw104_1)).trans hw104_1), ((HB.out.cell (World.block_lt_of_cell? w _ hw104_2)).trans hw104_2), ((HB.out.cell (World.block_lt_of_cell? w _ hw104_3)).trans hw104_3), ((HB.out.cell (World.block_lt_of_cell? w _ hw106_0)).trans hw106_0), ((HB.out.cell (World.block_lt_of_cell? w _ hw106_1)).trans hw106_1), ((HB.out.cell (World.block_lt_of_cell? w _ hw106_2)).trans hw106_2), ((HB.out.cell (World.block_lt_of_cell? w _ hw106_3)).trans hw106_3), ((HB.out.cell (World.block_lt_of_cell? w _ hw107_0)).trans hw107_0), ((HB.out.cell (World.block_lt_of_cell? w _ hw107_1)).trans hw107_1), ((HB.out.cell (World.block_lt_of_cell? w _ hw107_2)).trans hw107_2), ((HB.out.cell (World.block_lt_of_cell? w _ hw107_3)).trans hw107_3)⟩ (fun hHeld => ?_)
          clear hK K
          refine norm_ (a' := ?_) ?_ ?_
          rotate_left
          ·show Act.put _ (some 37) _ = _
           simp only [Act.put, List.setIfInBounds_toArray, List.set_cons_zero, List.set_cons_succ, i64_w, i32_w]
           rfl
          refine pu 7 (some 38) (tf 8 17) (any_of HT_.out (by kernel_rfl)) ?_
          refine pu 8 (some 39) (tf 9 16) (any_of HT_.out (by kernel_rfl)) ?_
          refine pu 9 (some 40) (tf 10 15) (any_of HT_.out (by kernel_rfl)) ?_
          refine pu 11 (some 42) #[true, true, true, true, true, true, true, true, true, true, false, true, false, false, false, false, false, false, false, false, false, false, false, false, false] (any_of HT_.out (by kernel_rfl)) ?_
          refine pu 15 (some 46) #[true, true, true, true, true, true, true, true, true, true, false, true, false, false, false, true, false, false, false, false, false, false, false, false, false] (any_of HT_.out (by kernel_rfl)) ?_
          refine pu 16 (some 47) #[true, true, true, true, true, true, true, true, true, true, false, true, false, false, false, true, true, false, false, false, false, false, false, false, false] (any_of HT_.out (by kernel_rfl)) ?_
          refine pu 18 (some 49) #[true, true, true, true, true, true, true, true, true, true, false, true, false, false, false, true, true, false, true, false, false, false, false, false, false] (any_of HT_.out (by kernel_rfl)) ?_
          refine tk 10 (some 41) #[true, true, true, true, true, true, true, true, true, true, true, true, false, false, false, true, true, false, true, false, false, false, false, false, false] (take_ofW HT_.out HW_.out (by kernel_rfl)) hHeld ?_
          refine pu 12 (some 43) #[true, true, true, true, true, true, true, true, true, true, true, true, true, false, false, true, true, false, true, false, false, false, false, false, false] (any_of HT_.out (by kernel_rfl)) ?_
          refine pu 13 (some 44) #[true, true, true, true, true, true, true, true, true, true, true, true, true, true, false, true, true, false, true, false, false, false, false, false, false] (any_of HT_.out (by kernel_rfl)) ?_
          refine tk 14 (some 45) #[true, true, true, true, true, true, true, true, true, true, true, true, true, true, true, true, true, false, true, false, false, false, false, false, false] (take_ofW HT_.out HW_.out (by kernel_rfl)) hHeld ?_
          refine tk 17 (some 48) (tf 19 6) (take_ofW HT_.out HW_.out (by kernel_rfl)) hHeld ?_
          refine pu 19 (some 50) (tf 20 5) (any_of HT_.out (by kernel_rfl)) ?_
          refine pu 20 (some 51) (tf 21 4) (any_of HT_.out (by kernel_rfl)) ?_
          refine tk 21 (some 52) (tf 22 3) (take_ofW HT_.out HW_.out (by kernel_rfl)) hHeld ?_
          refine one_ (i := 22) (N := some 53) (tf 23 2) rfl rfl (one_of HT_.out (by kernel_rfl)) (by decide) (fun K hK => ?_)
          refine goes_ Try.func76 (by kernel_rfl) rfl #[.slice A0 l0.length c0, .agg #[.int .i64 ((rd_T108 l1_1 x5_2).f0.f0), .int .i64 ((rd_T108 l1_1 x5_2).f0.f1), .int .i64 ((rd_T108 l1_1 x5_2).f0.f2)]] (by rfl) rfl rfl MT ?_
          with_reducible refine (spec_l4First.calls k2 _ _ l0 ((rd_T108 l1_1 x5_2).f0.f0) ((rd_T108 l1_1 x5_2).f0.f1) ((rd_T108 l1_1 x5_2).f0.f2) t108 _ ?side1 ?side2 A21.out).mono ?_
          (case side1 => exact KC (Kd.C_below HR0.out HB.out))
          (case side2 => exact HC0.out)
          rintro e w24 ⟨rfl, hb⟩
          refine ⟨_, rfl, ?_⟩
          replace BK101 := am (BB BK101 hb)
          replace HB := am (below_step (K1 HB GE101.out) hb)
          (try clear hb)
          (try clear hb2)
          (try clear hk)
          (try clear hi)
          refine hK.out _ _ ⟨z0 _ BK101.out, z1 _ BK101.out, ((HB.out.cell (World.block_lt_of_cell? w _ hw104_0)).trans hw104_0), ((HB.out.cell (World.block_lt_of_cell? w _ hw104_1)).trans hw104_1), ((HB.out.cell (World.block_lt_of_cell? w _ hw104_2)).trans hw104_2), ((HB.out.cell (World.block_lt_of_cell? w _ hw104_3)).trans hw104_3), ((HB.out.cell (World.block_lt_of_cell? w _ hw106_0)).trans hw106_0), ((HB.out.cell (World.block_lt_of_cell? w _ hw106_1)).trans hw106_1), ((HB.out.cell (World.block_lt_of_cell? w _ hw106_2)).trans hw106_2), ((HB.out.cell (World.block_lt_of_cell? w _ hw106_3)).trans hw106_3), ((HB.out.cell (World.block_lt_of_cell? w _ hw107_0)).trans hw107_0), ((HB.out.cell (World.block_lt_of_cell? w _ hw107_1)).trans hw107_1), ((HB.out.cell (World.block_lt_of_cell? w _ hw107_2)).trans hw107_2), ((HB.out.cell (World.block_lt_of_cell? w _ hw107_3)).trans hw107_3)⟩ (fun hHeld => ?_)
          clear hK K
          refine norm_ (a' := ?_) ?_ ?_
          rotate_left
          ·show Act.put _ (some 53) _ = _
           simp only [Act.put, List.setIfInBounds_toArray, List.set_cons_zero, List.set_cons_succ, i64_w, i32_w]
           rfl
          refine pu 23 (some 54) (tf 24 1) (any_of HT_.out (by kernel_rfl)) ?_
          refine pu 24 (some 55) (tf 25 0) (any_of HT_.out (by kernel_rfl)) ?_
          refine done_ (done_of HT_.out (by kernel_rfl)) ?_
          try go_wp2
          go_meet
          case rel => exact ⟨_, ((((rd_T108 l1_1 x5_2).f1) != t108)), (by first | rfl | (simp; done) | (simp [*]; done)), H', ⟨by have := HJ2.out; have := HK2.out; first | omega | exact Nat.le_refl _⟩, ⟨KB BK101⟩, ⟨K1 HB GE101.out⟩⟩
         ·replace c20 := Bool.eq_false_iff.mpr c20
          subst c20
          have H1 : (spec_CacheOk.j2 k2 l0 x5_2 true a1_0 l1_1) = some r := by rw [if_neg (show ¬ (false = true) by decide)] at H; exact H
          clear H
          have H := H1
          clear H1
          have H' := Aside0.mk H
          clear H
          try go_wp2
          replace BK101 := am (blk_drew BK101.out)
          replace HB := am (below_drew1 HB.out)
          have p104 : 0 ≤ (x5_2 : Int) := of_decide_eq_true (by first | (with_reducible assumption) | assumption)
          have q104 : x5_2 < (l1_1.length : Int) := of_decide_eq_true (by first | (with_reducible assumption) | assumption)
          obtain ⟨ad104, e104, hx104_0, hx104_1, hx104_2, hx104_3⟩ := at_T108 HR1_1.out x5_2 p104 q104
          have hw104_3 := hx104_3
          have hw104_2 := hx104_2
          have hw104_1 := hx104_1
          have hw104_0 := hx104_0
          cases e104
          replace hx104_0 := (HB.out.cell (World.block_lt_of_cell? w _ hx104_0)).trans hx104_0
          replace hx104_1 := (HB.out.cell (World.block_lt_of_cell? w _ hx104_1)).trans hx104_1
          replace hx104_2 := (HB.out.cell (World.block_lt_of_cell? w _ hx104_2)).trans hx104_2
          replace hx104_3 := (HB.out.cell (World.block_lt_of_cell? w _ hx104_3)).trans hx104_3
          replace p104 := eq_true p104
          replace q104 := eq_true q104
          refine start_ (n := 25) (S := fun w' => w'.cell? ⟨gb101, 0, none⟩ = some (.int .i64 a1_0) ∧ w'.cell? ⟨gb101, 1, none⟩ = some (.slice (some ad104) l1_1.length c1_1) ∧ w'.cell? (ad104.add ((x5_2).toNat * 4)) = some (.int .i64 ((rd_T108 l1_1 x5_2).f0.f0)) ∧ w'.cell? ⟨(ad104.add ((x5_2).toNat * 4)).block, (ad104.add ((x5_2).toNat * 4)).off + 1, none⟩ = some (.int .i64 ((rd_T108 l1_1 x5_2).f0.f1)) ∧ w'.cell? ⟨(ad104.add ((x5_2).toNat * 4)).block, (ad104.add ((x5_2).toNat * 4)).off + 2, none⟩ = some (.int .i64 ((rd_T108 l1_1 x5_2).f0.f2)) ∧ w'.cell? ⟨(ad104.add ((x5_2).toNat * 4)).block, (ad104.add ((x5_2).toNat * 4)).off + 3, none⟩ = some (.int .i64 ((rd_T108 l1_1 x5_2).f1))) (ds := []) (tf 0 25) (by kernel_rfl) rfl rfl ⟨z0 _ BK101.out, z1 _ BK101.out, ((HB.out.cell (World.block_lt_of_cell? w _ hw104_0)).trans hw104_0), ((HB.out.cell (World.block_lt_of_cell? w _ hw104_1)).trans hw104_1), ((HB.out.cell (World.block_lt_of_cell? w _ hw104_2)).trans hw104_2), ((HB.out.cell (World.block_lt_of_cell? w _ hw104_3)).trans hw104_3)⟩ (fun hHeld => ?_); refine with_tabW spec_CacheOk.tab6 spec_CacheOk.bits6 (fun HT_ HW_ => ?_)
          generalize wr.drew = w25 at BK101 HB hx104_0 hx104_1 hx104_2 hx104_3 hHeld ⊢
          refine pu 0 (some 31) (tf 1 24) (any_of HT_.out (by kernel_rfl)) ?_
          refine pu 2 (some 33) #[true, false, true, false, false, false, false, false, false, false, false, false, false, false, false, false, false, false, false, false, false, false, false, false, false] (any_of HT_.out (by kernel_rfl)) ?_
          refine tk 1 (some 32) (tf 3 22) (take_ofW HT_.out HW_.out (by kernel_rfl)) hHeld ?_
          refine pu 3 (some 34) (tf 4 21) (any_of HT_.out (by kernel_rfl)) ?_
          refine pu 4 (some 35) (tf 5 20) (any_of HT_.out (by kernel_rfl)) ?_
          refine tk 5 (some 36) (tf 6 19) (take_ofW HT_.out HW_.out (by kernel_rfl)) hHeld ?_
          refine one_ (i := 6) (N := some 37) (tf 7 18) rfl rfl (one_of HT_.out (by kernel_rfl)) (by decide) (fun K hK => ?_)
          refine goes_ Try.func75 (by kernel_rfl) rfl #[.agg #[.int .i64 ((rd_T108 l1_1 x5_2).f0.f0), .int .i64 ((rd_T108 l1_1 x5_2).f0.f1), .int .i64 ((rd_T108 l1_1 x5_2).f0.f2)]] (by rfl) rfl rfl MT ?_
          with_reducible refine (spec_l4Call.calls ((rd_T108 l1_1 x5_2).f0.f0) ((rd_T108 l1_1 x5_2).f0.f1) ((rd_T108 l1_1 x5_2).f0.f2) false _ A19.out).mono ?_
          rintro e w26 ⟨rfl, hb⟩
          refine ⟨_, rfl, ?_⟩
          replace BK101 := am (BB BK101 hb)
          replace HB := am (below_step (K1 HB GE101.out) hb)
          (try clear hb)
          (try clear hb2)
          (try clear hk)
          (try clear hi)
          refine hK.out _ _ ⟨z0 _ BK101.out, z1 _ BK101.out, ((HB.out.cell (World.block_lt_of_cell? w _ hw104_0)).trans hw104_0), ((HB.out.cell (World.block_lt_of_cell? w _ hw104_1)).trans hw104_1), ((HB.out.cell (World.block_lt_of_cell? w _ hw104_2)).trans hw104_2), ((HB.out.cell (World.block_lt_of_cell? w _ hw104_3)).trans hw104_3)⟩ (fun hHeld => ?_)
          clear hK K
          refine norm_ (a' := ?_) ?_ ?_
          rotate_left
          ·show Act.put _ (some 37) _ = _
           simp only [Act.put, List.setIfInBounds_toArray, List.set_cons_zero, List.set_cons_succ, i64_w, i32_w]
           rfl
          refine pu 7 (some 38) (tf 8 17) (any_of HT_.out (by kernel_rfl)) ?_
          refine pu 8 (some 39) (tf 9 16) (any_of HT_.out (by kernel_rfl)) ?_
          refine pn 9 (some 40) (tf 10 15) (any_of HT_.out (by kernel_rfl)) ?_
          refine pn 10 (some 41) (tf 11 14) (any_of HT_.out (by kernel_rfl)) ?_
          refine pn 11 (some 42) (tf 12 13) (any_of HT_.out (by kernel_rfl)) ?_
          refine pn 12 (some 43) (tf 13 12) (any_of HT_.out (by kernel_rfl)) ?_
          refine pn 13 (some 44) (tf 14 11) (any_of HT_.out (by kernel_rfl)) ?_
          refine pn 14 (some 45) (tf 15 10) (any_of HT_.out (by kernel_rfl)) ?_
          refine pn 15 (some 46) (tf 16 9) (any_of HT_.out (by kernel_rfl)) ?_
          refine pn 16 (some 47) (tf 17 8) (any_of HT_.out (by kernel_rfl)) ?_
          refine pn 17 (some 48) (tf 18 7) (any_of HT_.out (by kernel_rfl)) ?_
          refine pn 18 (some 49) (tf 19 6) (any_of HT_.out (by kernel_rfl)) ?_
          refine pn 19 (some 50) (tf 20 5) (any_of HT_.out (by kernel_rfl)) ?_
          refine pn 20 (some 51) (tf 21 4) (any_of HT_.out (by kernel_rfl)) ?_
          refine pn 21 (some 52) (tf 22 3) (any_of HT_.out (by kernel_rfl)) ?_
          refine pn 22 (some 53) (tf 23 2) (any_of HT_.out (by kernel_rfl)) ?_
          refine pn 23 (some 54) (tf 24 1) (any_of HT_.out (by kernel_rfl)) ?_
          refine pu 24 (some 55) (tf 25 0) (any_of HT_.out (by kernel_rfl)) ?_
          refine done_ (done_of HT_.out (by kernel_rfl)) ?_
          try go_wp2
          go_meet
          case rel => exact ⟨_, (true), (by first | rfl | (simp; done) | (simp [*]; done)), H', ⟨by have := HJ2.out; have := HK2.out; first | omega | exact Nat.le_refl _⟩, ⟨KB BK101⟩, ⟨K1 HB GE101.out⟩⟩
        ·rw [if_neg c18] at H
         exact absurd H (by simp)
       case rest =>
        clear HC16
        try clear c1
        try clear p1
        try clear q1
        try clear hx1
        try clear c2
        try clear p2
        try clear c6
        try clear c7
        try clear c8
        try clear p10
        try clear q10
        try clear hx10
        try clear c14
        try clear c15
        try clear c15b0
        try clear c18
        try clear c18b0
        try clear c19
        try clear c20
        try clear hcz10_0
        try clear hcz10_1
        try clear hcz12_0
        try clear hcz12_1
        try clear hcz17_0
        try clear hcz17_1
        try clear hfz10_0
        try clear hfz10_1
        try clear hfz12_0
        try clear hfz12_1
        try clear hfz17_0
        try clear hfz17_1
        try clear hx104_0
        try clear hx104_1
        try clear hx104_2
        try clear hx104_3
        try clear hx106_0
        try clear hx106_1
        try clear hx106_2
        try clear hx106_3
        try clear hx107_0
        try clear hx107_1
        try clear hx107_2
        try clear hx107_3
        try clear p104
        try clear p106
        try clear p107
        try clear p2
        try clear q104
        try clear q106
        try clear q107
        obtain ⟨kq, x55_15, rfl, HA, HJ15, BK101, HB⟩ := hcut
        cases kq with
        | zero => exact absurd HA.out (by simp [spec_CacheOk.j2])
        | succ kj15 =>
         have H := HA.out
         clear HA
         simp only [spec_CacheOk.j2] at H
         by_cases c27 : x55_15 = true
         ·subst c27
          have H1 : (some false) = some r := by rw [if_pos rfl] at H; exact H
          clear H
          have H := H1
          clear H1
          obtain rfl := Option.some.inj H
          go_wp2
          go_ret
          exact ⟨by first | rfl | (simp [errW_none, errW_some] <;> rfl) | (simp [*, errW_none, errW_some] <;> rfl), K1 HB GE101.out⟩
         ·replace c27 := Bool.eq_false_iff.mpr c27
          subst c27
          have H1 : (spec_CacheOk.l1 kj15 l0 x5_2 0 a1_0 l1_1) = some r := by rw [if_neg (show ¬ (false = true) by decide)] at H; exact H
          clear H
          have H := H1
          clear H1
          have H' := Aside0.mk H
          clear H
          go_wp2
          go_loopg [6] kj15 (fun kq v6 w' => ∃ (x6_4 : Int), v6 = .int .i64 x6_4 ∧ Aside0 (spec_CacheOk.l1 kq l0 x5_2 x6_4 a1_0 l1_1 = some r) ∧ Aside0 (kq ≤ kj15) ∧ Aside0 (w'.heap[gb101]? = some (.cells #[.int .i64 a1_0, (.slice A1_1 l1_1.length c1_1)] 46 (0, 0))) ∧ Aside0 (Below w.heap.size w w'))
          case atStart => exact ⟨(0), (by first | rfl | (simp; done) | (simp [*]; done)), H', ⟨Nat.le_refl _⟩, ⟨KB BK101⟩, ⟨K1 HB GE101.out⟩⟩
          case round =>
           clear H'
           try clear c1
           try clear p1
           try clear q1
           try clear hx1
           try clear c2
           try clear p2
           try clear c6
           try clear c7
           try clear c8
           try clear p10
           try clear q10
           try clear hx10
           try clear c14
           try clear c15
           try clear c15b0
           try clear c18
           try clear c18b0
           try clear c19
           try clear c20
           try clear c27
           try clear hcz10_0
           try clear hcz10_1
           try clear hcz12_0
           try clear hcz12_1
           try clear hcz17_0
           try clear hcz17_1
           try clear hfz10_0
           try clear hfz10_1
           try clear hfz12_0
           try clear hfz12_1
           try clear hfz17_0
           try clear hfz17_1
           try clear hx104_0
           try clear hx104_1
           try clear hx104_2
           try clear hx104_3
           try clear hx106_0
           try clear hx106_1
           try clear hx106_2
           try clear hx106_3
           try clear hx107_0
           try clear hx107_1
           try clear hx107_2
           try clear hx107_3
           try clear p1
           try clear p10
           try clear p104
           try clear p106
           try clear p107
           try clear p2
           try clear q1
           try clear q10
           try clear q104
           try clear q106
           try clear q107
           obtain ⟨x6_4, rfl, HA, HK4, BK101, HB⟩ := hrel
           cases gk with
           | zero => exact absurd HA.out (by simp [spec_CacheOk.l1])
           | succ k4 =>
            have H := HA.out
            clear HA
            simp only [spec_CacheOk.l1] at H
            by_cases c28 : x6_4 < x5_2
            ·rw [if_pos c28] at H
             have c28b0 : decide (x6_4 < x5_2) = true := decide_eq_true c28
             clear c28
             by_cases c29 : 0 ≤ x6_4
             ·rw [if_pos c29] at H
              have c29b0 : decide (0 ≤ x6_4) = true := decide_eq_true c29
              clear c29
              by_cases c30 : x6_4 < (l1_1.length : Int)
              ·rw [if_pos c30] at H
               have c30b0 : decide (x6_4 < (l1_1.length : Int)) = true := decide_eq_true c30
               clear c30
               by_cases c31 : 0 ≤ x5_2
               ·rw [if_pos c31] at H
                have c31b0 : decide (0 ≤ x5_2) = true := decide_eq_true c31
                clear c31
                by_cases c32 : x5_2 < (l1_1.length : Int)
                ·rw [if_pos c32] at H
                 have c32b0 : decide (x5_2 < (l1_1.length : Int)) = true := decide_eq_true c32
                 clear c32
                 by_cases c33 : (((rd_T108 l1_1 x6_4).f0.f0) == ((rd_T108 l1_1 x5_2).f0.f0) && (((rd_T108 l1_1 x6_4).f0.f1) == ((rd_T108 l1_1 x5_2).f0.f1) && (((rd_T108 l1_1 x6_4).f0.f2) == ((rd_T108 l1_1 x5_2).f0.f2)))) = true
                 ·rw [if_pos c33] at H
                  have c33b0 : (((rd_T108 l1_1 x6_4).f0.f0) == ((rd_T108 l1_1 x5_2).f0.f0) && (((rd_T108 l1_1 x6_4).f0.f1) == ((rd_T108 l1_1 x5_2).f0.f1) && (((rd_T108 l1_1 x6_4).f0.f2) == ((rd_T108 l1_1 x5_2).f0.f2)))) = true := c33
                  (try (have c33b1 : decide (((rd_T108 l1_1 x6_4).f0.f0) = ((rd_T108 l1_1 x5_2).f0.f0) && (((rd_T108 l1_1 x6_4).f0.f1) == ((rd_T108 l1_1 x5_2).f0.f1) && (((rd_T108 l1_1 x6_4).f0.f2) == ((rd_T108 l1_1 x5_2).f0.f2)))) = true := by simpa using c33))
                  (try (have c33b2 : (((rd_T108 l1_1 x6_4).f0.f0) == ((rd_T108 l1_1 x5_2).f0.f0) && (((rd_T108 l1_1 x6_4).f0.f1) == ((rd_T108 l1_1 x5_2).f0.f1) && (((rd_T108 l1_1 x6_4).f0.f2) == ((rd_T108 l1_1 x5_2).f0.f2)))) = true := by simpa using c33))
                  clear c33
                  obtain rfl := Option.some.inj H
                  try go_wp2
                  replace BK101 := am (blk_drew BK101.out)
                  replace HB := am (below_drew1 HB.out)
                  have p109 : 0 ≤ (x6_4 : Int) := of_decide_eq_true (by first | (with_reducible assumption) | assumption)
                  have q109 : x6_4 < (l1_1.length : Int) := of_decide_eq_true (by first | (with_reducible assumption) | assumption)
                  obtain ⟨ad109, e109, hx109_0, hx109_1, hx109_2, hx109_3⟩ := at_T108 HR1_1.out x6_4 p109 q109
                  have hw109_3 := hx109_3
                  have hw109_2 := hx109_2
                  have hw109_1 := hx109_1
                  have hw109_0 := hx109_0
                  cases e109
                  replace hx109_0 := (HB.out.cell (World.block_lt_of_cell? w _ hx109_0)).trans hx109_0
                  replace hx109_1 := (HB.out.cell (World.block_lt_of_cell? w _ hx109_1)).trans hx109_1
                  replace hx109_2 := (HB.out.cell (World.block_lt_of_cell? w _ hx109_2)).trans hx109_2
                  replace hx109_3 := (HB.out.cell (World.block_lt_of_cell? w _ hx109_3)).trans hx109_3
                  replace p109 := eq_true p109
                  replace q109 := eq_true q109
                  have p110 : 0 ≤ (x5_2 : Int) := of_decide_eq_true (by first | (with_reducible assumption) | assumption)
                  have q110 : x5_2 < (l1_1.length : Int) := of_decide_eq_true (by first | (with_reducible assumption) | assumption)
                  obtain ⟨ad110, e110, hx110_0, hx110_1, hx110_2, hx110_3⟩ := at_T108 HR1_1.out x5_2 p110 q110
                  have hw110_3 := hx110_3
                  have hw110_2 := hx110_2
                  have hw110_1 := hx110_1
                  have hw110_0 := hx110_0
                  obtain rfl : ad109 = ad110 := (by injection e110)
                  replace hx110_0 := (HB.out.cell (World.block_lt_of_cell? w _ hx110_0)).trans hx110_0
                  replace hx110_1 := (HB.out.cell (World.block_lt_of_cell? w _ hx110_1)).trans hx110_1
                  replace hx110_2 := (HB.out.cell (World.block_lt_of_cell? w _ hx110_2)).trans hx110_2
                  replace hx110_3 := (HB.out.cell (World.block_lt_of_cell? w _ hx110_3)).trans hx110_3
                  replace p110 := eq_true p110
                  replace q110 := eq_true q110
                  refine start_ (n := 13) (S := fun w' => w'.cell? ⟨gb101, 0, none⟩ = some (.int .i64 a1_0) ∧ w'.cell? ⟨gb101, 1, none⟩ = some (.slice (some ad109) l1_1.length c1_1) ∧ w'.cell? (ad109.add ((x6_4).toNat * 4)) = some (.int .i64 ((rd_T108 l1_1 x6_4).f0.f0)) ∧ w'.cell? ⟨(ad109.add ((x6_4).toNat * 4)).block, (ad109.add ((x6_4).toNat * 4)).off + 1, none⟩ = some (.int .i64 ((rd_T108 l1_1 x6_4).f0.f1)) ∧ w'.cell? ⟨(ad109.add ((x6_4).toNat * 4)).block, (ad109.add ((x6_4).toNat * 4)).off + 2, none⟩ = some (.int .i64 ((rd_T108 l1_1 x6_4).f0.f2)) ∧ w'.cell? ⟨(ad109.add ((x6_4).toNat * 4)).block, (ad109.add ((x6_4).toNat * 4)).off + 3, none⟩ = some (.int .i64 ((rd_T108 l1_1 x6_4).f1)) ∧ w'.cell? (ad109.add ((x5_2).toNat * 4)) = some (.int .i64 ((rd_T108 l1_1 x5_2).f0.f0)) ∧ w'.cell? ⟨(ad109.add ((x5_2).toNat * 4)).block, (ad109.add ((x5_2).toNat * 4)).off + 1, none⟩ = some (.int .i64 ((rd_T108 l1_1 x5_2).f0.f1)) ∧ w'.cell? ⟨(ad109.add ((x5_2).toNat * 4)).block, (ad109.add ((x5_2).toNat * 4)).off + 2, none⟩ = some (.int .i64 ((rd_T108 l1_1 x5_2).f0.f2)) ∧ w'.cell? ⟨(ad109.add ((x5_2).toNat * 4)).block, (ad109.add ((x5_2).toNat * 4)).off + 3, none⟩ = some (.int .i64 ((rd_T108 l1_1 x5_2).f1))) (ds := []) (tf 0 13) (by kernel_rfl) rfl rfl ⟨z0 _ BK101.out, z1 _ BK101.out, ((HB.out.cell (World.block_lt_of_cell? w _ hw109_0)).trans hw109_0), ((HB.out.cell (World.block_lt_of_cell? w _ hw109_1)).trans hw109_1), ((HB.out.cell (World.block_lt_of_cell? w _ hw109_2)).trans hw109_2), ((HB.out.cell (World.block_lt_of_cell? w _ hw109_3)).trans hw109_3), ((HB.out.cell (World.block_lt_of_cell? w _ hw110_0)).trans hw110_0), ((HB.out.cell (World.block_lt_of_cell? w _ hw110_1)).trans hw110_1), ((HB.out.cell (World.block_lt_of_cell? w _ hw110_2)).trans hw110_2), ((HB.out.cell (World.block_lt_of_cell? w _ hw110_3)).trans hw110_3)⟩ (fun hHeld => ?_); refine with_tabW spec_CacheOk.tab11 spec_CacheOk.bits11 (fun HT_ HW_ => ?_)
                  generalize wr.drew = w34 at BK101 HB hx109_0 hx109_1 hx109_2 hx109_3 hx110_0 hx110_1 hx110_2 hx110_3 hHeld ⊢
                  refine pu 0 (some 61) (tf 1 12) (any_of HT_.out (by kernel_rfl)) ?_
                  refine pu 2 (some 63) #[true, false, true, false, false, false, false, false, false, false, false, false, false] (any_of HT_.out (by kernel_rfl)) ?_
                  refine pu 6 (some 67) #[true, false, true, false, false, false, true, false, false, false, false, false, false] (any_of HT_.out (by kernel_rfl)) ?_
                  refine pu 8 (some 69) #[true, false, true, false, false, false, true, false, true, false, false, false, false] (any_of HT_.out (by kernel_rfl)) ?_
                  refine tk 1 (some 62) #[true, true, true, false, false, false, true, false, true, false, false, false, false] (take_ofW HT_.out HW_.out (by kernel_rfl)) hHeld ?_
                  refine pu 3 (some 64) #[true, true, true, true, false, false, true, false, true, false, false, false, false] (any_of HT_.out (by kernel_rfl)) ?_
                  refine pu 4 (some 65) #[true, true, true, true, true, false, true, false, true, false, false, false, false] (any_of HT_.out (by kernel_rfl)) ?_
                  refine tk 5 (some 66) #[true, true, true, true, true, true, true, false, true, false, false, false, false] (take_ofW HT_.out HW_.out (by kernel_rfl)) hHeld ?_
                  refine tk 7 (some 68) (tf 9 4) (take_ofW HT_.out HW_.out (by kernel_rfl)) hHeld ?_
                  refine pu 9 (some 70) (tf 10 3) (any_of HT_.out (by kernel_rfl)) ?_
                  refine pu 10 (some 71) (tf 11 2) (any_of HT_.out (by kernel_rfl)) ?_
                  refine tk 11 (some 72) (tf 12 1) (take_ofW HT_.out HW_.out (by kernel_rfl)) hHeld ?_
                  refine pu 12 (some 73) (tf 13 0) (any_of HT_.out (by kernel_rfl)) ?_
                  refine done_ (done_of HT_.out (by kernel_rfl)) ?_
                  try go_wp2
                  go_ret
                  exact ⟨by first | rfl | (simp [errW_none, errW_some] <;> rfl) | (simp [*, errW_none, errW_some] <;> rfl), K1 HB GE101.out⟩
                 ·rw [if_neg c33] at H
                  have c33b0 : (((rd_T108 l1_1 x6_4).f0.f0) == ((rd_T108 l1_1 x5_2).f0.f0) && (((rd_T108 l1_1 x6_4).f0.f1) == ((rd_T108 l1_1 x5_2).f0.f1) && (((rd_T108 l1_1 x6_4).f0.f2) == ((rd_T108 l1_1 x5_2).f0.f2)))) = false := by simpa using c33
                  (try (have c33b1 : decide (((rd_T108 l1_1 x6_4).f0.f0) = ((rd_T108 l1_1 x5_2).f0.f0) && (((rd_T108 l1_1 x6_4).f0.f1) == ((rd_T108 l1_1 x5_2).f0.f1) && (((rd_T108 l1_1 x6_4).f0.f2) == ((rd_T108 l1_1 x5_2).f0.f2)))) = false := by simpa using c33))
                  (try (have c33b2 : (((rd_T108 l1_1 x6_4).f0.f0) == ((rd_T108 l1_1 x5_2).f0.f0) && (((rd_T108 l1_1 x6_4).f0.f1) == ((rd_T108 l1_1 x5_2).f0.f1) && (((rd_T108 l1_1 x6_4).f0.f2) == ((rd_T108 l1_1 x5_2).f0.f2)))) = false := by simpa using c33))
                  (try (have c33b3 : ¬ (((rd_T108 l1_1 x6_4).f0.f0) = ((rd_T108 l1_1 x5_2).f0.f0) && (((rd_T108 l1_1 x6_4).f0.f1) == ((rd_T108 l1_1 x5_2).f0.f1) && (((rd_T108 l1_1 x6_4).f0.f2) == ((rd_T108 l1_1 x5_2).f0.f2)))) := by simpa using c33))
                  clear c33
                  have H' := Aside0.mk H
                  clear H
                  try go_wp2
                  replace BK101 := am (blk_drew BK101.out)
                  replace HB := am (below_drew1 HB.out)
                  have p109 : 0 ≤ (x6_4 : Int) := of_decide_eq_true (by first | (with_reducible assumption) | assumption)
                  have q109 : x6_4 < (l1_1.length : Int) := of_decide_eq_true (by first | (with_reducible assumption) | assumption)
                  obtain ⟨ad109, e109, hx109_0, hx109_1, hx109_2, hx109_3⟩ := at_T108 HR1_1.out x6_4 p109 q109
                  have hw109_3 := hx109_3
                  have hw109_2 := hx109_2
                  have hw109_1 := hx109_1
                  have hw109_0 := hx109_0
                  cases e109
                  replace hx109_0 := (HB.out.cell (World.block_lt_of_cell? w _ hx109_0)).trans hx109_0
                  replace hx109_1 := (HB.out.cell (World.block_lt_of_cell? w _ hx109_1)).trans hx109_1
                  replace hx109_2 := (HB.out.cell (World.block_lt_of_cell? w _ hx109_2)).trans hx109_2
                  replace hx109_3 := (HB.out.cell (World.block_lt_of_cell? w _ hx109_3)).trans hx109_3
                  replace p109 := eq_true p109
                  replace q109 := eq_true q109
                  have p110 : 0 ≤ (x5_2 : Int) := of_decide_eq_true (by first | (with_reducible assumption) | assumption)
                  have q110 : x5_2 < (l1_1.length : Int) := of_decide_eq_true (by first | (with_reducible assumption) | assumption)
                  obtain ⟨ad110, e110, hx110_0, hx110_1, hx110_2, hx110_3⟩ := at_T108 HR1_1.out x5_2 p110 q110
                  have hw110_3 := hx110_3
                  have hw110_2 := hx110_2
                  have hw110_1 := hx110_1
                  have hw110_0 := hx110_0
                  obtain rfl : ad109 = ad110 := (by injection e110)
                  replace hx110_0 := (HB.out.cell (World.block_lt_of_cell? w _ hx110_0)).trans hx110_0
                  replace hx110_1 := (HB.out.cell (World.block_lt_of_cell? w _ hx110_1)).trans hx110_1
                  replace hx110_2 := (HB.out.cell (World.block_lt_of_cell? w _ hx110_2)).trans hx110_2
                  replace hx110_3 := (HB.out.cell (World.block_lt_of_cell? w _ hx110_3)).trans hx110_3
                  replace p110 := eq_true p110
                  replace q110 := eq_true q110
                  refine start_ (n := 13) (S := fun w' => w'.cell? ⟨gb101, 0, none⟩ = some (.int .i64 a1_0) ∧ w'.cell? ⟨gb101, 1, none⟩ = some (.slice (some ad109) l1_1.length c1_1) ∧ w'.cell? (ad109.add ((x6_4).toNat * 4)) = some (.int .i64 ((rd_T108 l1_1 x6_4).f0.f0)) ∧ w'.cell? ⟨(ad109.add ((x6_4).toNat * 4)).block, (ad109.add ((x6_4).toNat * 4)).off + 1, none⟩ = some (.int .i64 ((rd_T108 l1_1 x6_4).f0.f1)) ∧ w'.cell? ⟨(ad109.add ((x6_4).toNat * 4)).block, (ad109.add ((x6_4).toNat * 4)).off + 2, none⟩ = some (.int .i64 ((rd_T108 l1_1 x6_4).f0.f2)) ∧ w'.cell? ⟨(ad109.add ((x6_4).toNat * 4)).block, (ad109.add ((x6_4).toNat * 4)).off + 3, none⟩ = some (.int .i64 ((rd_T108 l1_1 x6_4).f1)) ∧ w'.cell? (ad109.add ((x5_2).toNat * 4)) = some (.int .i64 ((rd_T108 l1_1 x5_2).f0.f0)) ∧ w'.cell? ⟨(ad109.add ((x5_2).toNat * 4)).block, (ad109.add ((x5_2).toNat * 4)).off + 1, none⟩ = some (.int .i64 ((rd_T108 l1_1 x5_2).f0.f1)) ∧ w'.cell? ⟨(ad109.add ((x5_2).toNat * 4)).block, (ad109.add ((x5_2).toNat * 4)).off + 2, none⟩ = some (.int .i64 ((rd_T108 l1_1 x5_2).f0.f2)) ∧ w'.cell? ⟨(ad109.add ((x5_2).toNat * 4)).block, (ad109.add ((x5_2).toNat * 4)).off + 3, none⟩ = some (.int .i64 ((rd_T108 l1_1 x5_2).f1))) (ds := []) (tf 0 13) (by kernel_rfl) rfl rfl ⟨z0 _ BK101.out, z1 _ BK101.out, ((HB.out.cell (World.block_lt_of_cell? w _ hw109_0)).trans hw109_0), ((HB.out.cell (World.block_lt_of_cell? w _ hw109_1)).trans hw109_1), ((HB.out.cell (World.block_lt_of_cell? w _ hw109_2)).trans hw109_2), ((HB.out.cell (World.block_lt_of_cell? w _ hw109_3)).trans hw109_3), ((HB.out.cell (World.block_lt_of_cell? w _ hw110_0)).trans hw110_0), ((HB.out.cell (World.block_lt_of_cell? w _ hw110_1)).trans hw110_1), ((HB.out.cell (World.block_lt_of_cell? w _ hw110_2)).trans hw110_2), ((HB.out.cell (World.block_lt_of_cell? w _ hw110_3)).trans hw110_3)⟩ (fun hHeld => ?_); refine with_tabW spec_CacheOk.tab11 spec_CacheOk.bits11 (fun HT_ HW_ => ?_)
                  generalize wr.drew = w35 at BK101 HB hx109_0 hx109_1 hx109_2 hx109_3 hx110_0 hx110_1 hx110_2 hx110_3 hHeld ⊢
                  refine pu 0 (some 61) (tf 1 12) (any_of HT_.out (by kernel_rfl)) ?_
                  refine pu 2 (some 63) #[true, false, true, false, false, false, false, false, false, false, false, false, false] (any_of HT_.out (by kernel_rfl)) ?_
                  refine pu 6 (some 67) #[true, false, true, false, false, false, true, false, false, false, false, false, false] (any_of HT_.out (by kernel_rfl)) ?_
                  refine pu 8 (some 69) #[true, false, true, false, false, false, true, false, true, false, false, false, false] (any_of HT_.out (by kernel_rfl)) ?_
                  refine tk 1 (some 62) #[true, true, true, false, false, false, true, false, true, false, false, false, false] (take_ofW HT_.out HW_.out (by kernel_rfl)) hHeld ?_
                  refine pu 3 (some 64) #[true, true, true, true, false, false, true, false, true, false, false, false, false] (any_of HT_.out (by kernel_rfl)) ?_
                  refine pu 4 (some 65) #[true, true, true, true, true, false, true, false, true, false, false, false, false] (any_of HT_.out (by kernel_rfl)) ?_
                  refine tk 5 (some 66) #[true, true, true, true, true, true, true, false, true, false, false, false, false] (take_ofW HT_.out HW_.out (by kernel_rfl)) hHeld ?_
                  refine tk 7 (some 68) (tf 9 4) (take_ofW HT_.out HW_.out (by kernel_rfl)) hHeld ?_
                  refine pu 9 (some 70) (tf 10 3) (any_of HT_.out (by kernel_rfl)) ?_
                  refine pu 10 (some 71) (tf 11 2) (any_of HT_.out (by kernel_rfl)) ?_
                  refine tk 11 (some 72) (tf 12 1) (take_ofW HT_.out HW_.out (by kernel_rfl)) hHeld ?_
                  refine pu 12 (some 73) (tf 13 0) (any_of HT_.out (by kernel_rfl)) ?_
                  refine done_ (done_of HT_.out (by kernel_rfl)) ?_
                  try go_wp2
                  go_roundg k4
                  case measure => have := HJ2.out; have := HK2.out; have := HJ15.out; have := HK4.out; omega
                  case rel => exact ⟨(wrap64 (x6_4 + 1)), (by first | rfl | (simp; done) | (simp [*]; done)), H', ⟨by have := HJ2.out; have := HK2.out; have := HJ15.out; have := HK4.out; omega⟩, ⟨KB BK101⟩, ⟨K1 HB GE101.out⟩⟩
                ·rw [if_neg c32] at H
                 exact absurd H (by simp)
               ·rw [if_neg c31] at H
                exact absurd H (by simp)
              ·rw [if_neg c30] at H
               exact absurd H (by simp)
             ·rw [if_neg c29] at H
              exact absurd H (by simp)
            ·rw [if_neg c28] at H
             have c28b0 : decide (x6_4 < x5_2) = false := decide_eq_false c28
             clear c28
             have H' := Aside0.mk H
             clear H
             go_wp2
             go_roundg k4
             case measure => have := HJ2.out; have := HK2.out; have := HJ15.out; have := HK4.out; omega
             case rel => exact ⟨(wrap64 (x5_2 + 1)), (by first | rfl | (simp; done) | (simp [*]; done)), H', ⟨by have := HJ2.out; have := HK2.out; have := HJ15.out; have := HK4.out; omega⟩, ⟨KB BK101⟩, ⟨K1 HB GE101.out⟩⟩
      ·rw [if_neg c15] at H
       have c15b0 : decide (x5_2 < (l1_1.length : Int)) = false := decide_eq_false c15
       clear c15
       obtain rfl := Option.some.inj H
       have hcz36_0 := z0 wr BK101.out
       have hcz36_1 := z1 wr BK101.out
       have hfz36_0 := blk_frozen BK101.out 0
       have hfz36_1 := blk_frozen BK101.out 1
       go_wp2
       go_ret
       exact ⟨by first | rfl | (simp [errW_none, errW_some] <;> rfl) | (simp [*, errW_none, errW_some] <;> rfl), K1 HB GE101.out⟩
end Go.Proofs.Ytioghacieopbdaa.PAll
end
section
namespace Go.Proofs.Ytioghacieopbdaa.PAll
open Go.RowKit Go.Proofs.YtioghacieopbdaaW.PrintWords Go.Proofs.YtioghacieopbdaaW.PrintLast Go.Proofs.YtioghacieopbdaaW.PrintMore
attribute [local go_sem] max2_int min2_int max_two min_two max_three min_three max_four min_four   -- for this text's walks alone
set_option linter.unusedVariables false
set_option linter.unusedSimpArgs false
/-- A state of type 143 at block g of W; what its slices lead to came in by w0. -/
def IsS143 (w0 W : World) (g : Nat) (f0 : List Int) (f1 : Int) : Prop := ∃ A0 c0, W.heap[g]? = some (.cells #[.slice A0 f0.length c0, .int .i64 f1] 143 (0, 0)) ∧ w0.heap.size ≤ g ∧ Kd.C (Kd.int .u8) w0 A0 f0.length f0
theorem IsS143.grown {w0 W : World} {g : Nat} {f0 : List Int} {f1 : Int} {W1 : World} {row : Option Nat} (h : IsS143 w0 W g f0 f1) (hw : W.grownBy W1 row) (hne : some g ≠ row) : IsS143 w0 W1 g f0 f1 := by
 obtain ⟨A0, c0, hb, hg, hr0⟩ := h
 exact ⟨A0, c0, blk_grown hb hw hne, hg, hr0⟩
theorem IsS143.kept {w0 W : World} {g : Nat} {f0 : List Int} {f1 : Int} {W1 : World} {S : Nat → Prop} (h : IsS143 w0 W g f0 f1) (hk : Kept W W1 S) (hne : ¬ S g) : IsS143 w0 W1 g f0 f1 := by
 obtain ⟨A0, c0, hb, hg, hr0⟩ := h
 exact ⟨A0, c0, blk_kept hb hk hne, hg, hr0⟩
theorem IsS143.below {w0 W : World} {g : Nat} {f0 : List Int} {f1 : Int} {W1 : World} (h : IsS143 w0 W g f0 f1) (hw : Below W.heap.size W W1) : IsS143 w0 W1 g f0 f1 := h.grown (grown_of_below hw none) (by simp)
theorem IsS143.alloc {w0 W : World} {g : Nat} {f0 : List Int} {f1 : Int} (h : IsS143 w0 W g f0 f1) (o : Obj) : IsS143 w0 (W.alloc o) g f0 f1 := h.below (below_alloc (Below.refl _ _) o)
theorem IsS143.drewN {w0 W : World} {g : Nat} {f0 : List Int} {f1 : Int} (h : IsS143 w0 W g f0 f1) (m : Nat) : IsS143 w0 (W.drewN m) g f0 f1 := h
theorem IsS143.drew {w0 W : World} {g : Nat} {f0 : List Int} {f1 : Int} (h : IsS143 w0 W g f0 f1) : IsS143 w0 W.drew g f0 f1 := h
theorem IsS143.at_ {w0 W : World} {g : Nat} {f0 : List Int} {f1 : Int} {w' : World} {m : Nat} (hq : W.drewN m = w') (h : IsS143 w0 W g f0 f1) : IsS143 w0 w' g f0 f1 := by subst hq; exact IsS143.drewN h m
theorem IsS143.apart {w0 W : World} {g : Nat} {f0 : List Int} {f1 : Int} {α : Type} {d : Kd α} {e : Nat} {base : Nat} {ok : Nat → Prop} {v : Value} {xs : List α} (h : IsS143 w0 W g f0 f1) (ho : d.R e W base ok v xs) (ht : ∀ q, q ∈ e :: d.E → q ≠ 143) : d.R e W base (fun k => ok k ∧ k ≠ g) v xs := by
 obtain ⟨A0, c0, hb, hg, hr0⟩ := h
 exact Kd.R_types ho hb ht
theorem IsS143.own_ne {w0 W : World} {g : Nat} {f0 : List Int} {f1 : Int} {α : Type} {d : Kd α} {e : Nat} {base : Nat} {ok : Nat → Prop} {v : Value} {xs : List α} (h : IsS143 w0 W g f0 f1) (ho : d.R e W base ok v xs) (ht : e ≠ 143) : some g ≠ v.ownBlock := by
 obtain ⟨A0, c0, hb, hg, hr0⟩ := h
 exact Kd.R_ne ho hb ht
theorem IsS143.lt {w0 W : World} {g : Nat} {f0 : List Int} {f1 : Int} (h : IsS143 w0 W g f0 f1) : g < W.heap.size := by
 obtain ⟨A0, c0, hb, hg, hr0⟩ := h
 exact blk_lt hb
theorem IsS143.ge {w0 W : World} {g : Nat} {f0 : List Int} {f1 : Int} (h : IsS143 w0 W g f0 f1) : w0.heap.size ≤ g := by
 obtain ⟨A0, c0, hb, hg, hr0⟩ := h
 exact hg
theorem IsS143.ne_blk {w0 W : World} {g : Nat} {f0 : List Int} {f1 : Int} {a : Nat} {cs : Array Value} {t : TypeId} {fr : Nat × Nat} (h : IsS143 w0 W g f0 f1) (hb2 : W.heap[a]? = some (.cells cs t fr)) (ht : t ≠ 143) : g ≠ a := by
 obtain ⟨A0, c0, hb, hg, hr0⟩ := h
 rintro rfl
 rw [hb] at hb2
 injection hb2 with hb2
 injection hb2 with _ ht2
 exact ht ht2.symm
theorem IsS143.far {w0 W : World} {g : Nat} {f0 : List Int} {f1 : Int} {p : Addr} (h : IsS143 w0 W g f0 f1) (hne : g ≠ p.block) (u : Value) : IsS143 w0 (W.setCell p u) g f0 f1 := by
 obtain ⟨A0, c0, hb, hg, hr0⟩ := h
 exact ⟨A0, c0, blk_far hb hne u, hg, hr0⟩
theorem cellS143_0 {W : World} {g : Nat} {A0 : Option Addr} {c0 : Nat} {f0 : List Int} {f1 : Int} (h : W.heap[g]? = some (.cells #[.slice A0 f0.length c0, .int .i64 f1] 143 (0, 0))) : W.cell? ⟨g, 0, none⟩ = some (.slice A0 f0.length c0) := (blk_cell h 0).trans rfl
theorem cellS143_1 {W : World} {g : Nat} {A0 : Option Addr} {c0 : Nat} {f0 : List Int} {f1 : Int} (h : W.heap[g]? = some (.cells #[.slice A0 f0.length c0, .int .i64 f1] 143 (0, 0))) : W.cell? ⟨g, 1, none⟩ = some (.int .i64 f1) := (blk_cell h 1).trans rfl
theorem IsS143.set_1 {w0 W : World} {g : Nat} {f0 : List Int} {f1 : Int} (h : IsS143 w0 W g f0 f1) (x : Int) : IsS143 w0 (W.setCell ⟨g, 1, none⟩ (.int .i64 x)) g f0 x := by
 obtain ⟨A0, c0, hb, hg, hr0⟩ := h
 exact ⟨A0, c0, by simpa using blk_set hb 1 (.int .i64 x), hg, hr0⟩
theorem I143_0 {P Q : Prop} (q : Aside0 Q)  (h : Q → P := by intro h_; repeat (first | (with_reducible first | exact h_ | apply IsS143.alloc | apply IsS143.drewN | apply IsS143.drew | apply IsS143.set_1) | exact h_)) : P := h q.out
theorem I143_1 {P Q R0 : Prop} (q : Aside0 Q) (r0 : R0) (h : Q → R0 → P := by intro h_ r0_; repeat (first | (with_reducible first | exact h_ | apply IsS143.alloc | apply IsS143.drewN | apply IsS143.drew | apply IsS143.set_1 | refine IsS143.far ?_ r0_ _) | exact h_)) : P := h q.out r0
theorem I143_2 {P Q R0 R1 : Prop} (q : Aside0 Q) (r0 : R0) (r1 : R1) (h : Q → R0 → R1 → P := by intro h_ r0_ r1_; repeat (first | (with_reducible first | exact h_ | apply IsS143.alloc | apply IsS143.drewN | apply IsS143.drew | apply IsS143.set_1 | refine IsS143.far ?_ r0_ _ | refine IsS143.far ?_ r1_ _) | exact h_)) : P := h q.out r0 r1
theorem I143_3 {P Q R0 R1 R2 : Prop} (q : Aside0 Q) (r0 : R0) (r1 : R1) (r2 : R2) (h : Q → R0 → R1 → R2 → P := by intro h_ r0_ r1_ r2_; repeat (first | (with_reducible first | exact h_ | apply IsS143.alloc | apply IsS143.drewN | apply IsS143.drew | apply IsS143.set_1 | refine IsS143.far ?_ r0_ _ | refine IsS143.far ?_ r1_ _ | refine IsS143.far ?_ r2_ _) | exact h_)) : P := h q.out r0 r1 r2
theorem I143_4 {P Q R0 R1 R2 R3 : Prop} (q : Aside0 Q) (r0 : R0) (r1 : R1) (r2 : R2) (r3 : R3) (h : Q → R0 → R1 → R2 → R3 → P := by intro h_ r0_ r1_ r2_ r3_; repeat (first | (with_reducible first | exact h_ | apply IsS143.alloc | apply IsS143.drewN | apply IsS143.drew | apply IsS143.set_1 | refine IsS143.far ?_ r0_ _ | refine IsS143.far ?_ r1_ _ | refine IsS143.far ?_ r2_ _ | refine IsS143.far ?_ r3_ _) | exact h_)) : P := h q.out r0 r1 r2 r3
theorem IsS143.new (w0 W : World) (A0 : Option Addr) (c0 : Nat) (f0 : List Int) (f1 : Int) (hB : Below w0.heap.size w0 W) (hr0 : Kd.C (Kd.int .u8) w0 A0 f0.length f0) : IsS143 w0 (W.alloc (.cells #[.slice A0 f0.length c0, .int .i64 f1] 143)) W.heap.size f0 f1 := ⟨A0, c0, by simpa using heap_alloc_new W _, hB.size, hr0⟩
def spec_l1Open.f (l0 : List Int) : Option (List Int × Int) := if (l0.length : Int) > 2000 then (if 2000 ≤ (l0.length : Int) then (some (l0.take 2000, 0)) else (none)) else (some (l0, 0))
set_option maxHeartbeats 8000000 in
set_option maxRecDepth 100000 in
theorem spec_l1Open.calls (A0 : Option Addr) (c0 : Nat) (l0 : List Int) (r1 : List Int) (r2 : Int) (w0 w : World) (hB : Below w0.heap.size w0 w) (hr0 : Kd.C (Kd.int .u8) w0 A0 l0.length l0) (hc0 : l0.length ≤ c0) (h : spec_l1Open.f l0 = some (r1, r2)) :
  Calls Try.prog 70 #[.slice A0 l0.length c0] w fun e w' => ∃ g_ : Nat, e = .returned (.pointer (some ⟨g_, 0, none⟩)) ∧ IsS143 w0 w' g_ r1 r2 ∧ Below w0.heap.size w0 w' ∧ Below w.heap.size w w' := by
 have hu143 := Try.underlying143
 have HR0 := Aside0.mk hr0
 have HC0 := Aside0.mk hc0
 clear hr0 hc0
 have HBW := am (Below.refl w.heap.size w)
 have HW0 := Aside0.mk hB.size
 have HB := Aside0.mk hB
 clear hB
 have H : (if (l0.length : Int) > 2000 then (if 2000 ≤ (l0.length : Int) then (some (l0.take 2000, 0)) else (none)) else (some (l0, 0))) = some (r1, r2) := h
 clear h
 by_cases c2 : (l0.length : Int) > 2000
 ·rw [if_pos c2] at H
  have c2b0 : decide (2000 < (l0.length : Int)) = true := decide_eq_true c2
  have c2b1 : decide (2000 < l0.length) = true := decide_eq_true (by omega)
  clear c2
  by_cases c3 : 2000 ≤ (l0.length : Int)
  ·rw [if_pos c3] at H
   have c3b0 := eq_true c3
   have c3b1 : decide (2000 ≤ (l0.length : Int)) = true := decide_eq_true c3
   clear c3
   simp only [Option.some.injEq, Prod.mk.injEq] at H
   obtain ⟨rfl, rfl⟩ := H
   obtain ⟨i04, hi04, _, hsz4, _⟩ := info_parts info5
   obtain ⟨hcut4, hA4, hC4⟩ := print_take_of (P := Try.prog) (Value.int .u8) 0 22 5 .i64 Try.underlying22 hi04 hsz4 A0 c0 l0 2000 (by omega) (of_decide_eq_true (by first | (with_reducible assumption) | assumption)) HC0.out
   have HR101 := am (Kd.C_of_reads (h1 := fun _ => rfl) (hA4 _ (Kd.reads_of_C HR0.out)))
   have HC101 := Aside0.mk hC4
   clear hA4 hC4 hi04 hsz4
   go_enter Try.func70, Try.ntmps70
   go_wp2_with (first | ((with_reducible refine gate_dst (N := 10) rfl ?_); refine box_event rfl (N := 10) rfl (cs := #[.slice A0 (l0.take 2000).length c0, .int .i64 0]) (t := 143) BX ?_; intro gb102 hg w5 hbox hb; replace HB := am (below_step (KL HB) hb); have BK102 := am (hbox); have GW102 := am ((GL hg (below_size (KL HBW)) : w.heap.size ≤ gb102)); have GE102 := am ((Nat.le_trans HW0.out (GL hg (below_size (KL HBW)) : w.heap.size ≤ gb102) : w0.heap.size ≤ gb102)); replace HBW := am (below_step HBW.out hb); clear hb hbox hg))
   go_ret
   exact ⟨_, rfl, (show IsS143 w0 _ gb102 (l0.take 2000) 0 from ⟨_, _, by (with_reducible repeat (first | refine blk_drewN ?_ _ | refine blk_drew ?_ | refine blk_alloc ?_ _)); exact BK102.out, GE102.out, HR101.out⟩), K1 HB GE102.out, K1 HBW GW102.out⟩
  ·rw [if_neg c3] at H
   exact absurd H (by simp)
 ·rw [if_neg c2] at H
  have c2b0 : decide (2000 < (l0.length : Int)) = false := decide_eq_false c2
  have c2b1 : decide (2000 < l0.length) = false := decide_eq_false (by omega)
  clear c2
  simp only [Option.some.injEq, Prod.mk.injEq] at H
  obtain ⟨rfl, rfl⟩ := H
  go_enter Try.func70, Try.ntmps70
  go_wp2_with (first | ((with_reducible refine gate_dst (N := 10) rfl ?_); refine box_event rfl (N := 10) rfl (cs := #[.slice A0 l0.length c0, .int .i64 0]) (t := 143) BX ?_; intro gb103 hg w6 hbox hb; replace HB := am (below_step (KL HB) hb); have BK103 := am (hbox); have GW103 := am ((GL hg (below_size (KL HBW)) : w.heap.size ≤ gb103)); have GE103 := am ((Nat.le_trans HW0.out (GL hg (below_size (KL HBW)) : w.heap.size ≤ gb103) : w0.heap.size ≤ gb103)); replace HBW := am (below_step HBW.out hb); clear hb hbox hg))
  go_ret
  exact ⟨_, rfl, (show IsS143 w0 _ gb103 l0 0 from ⟨_, _, by (with_reducible repeat (first | refine blk_drewN ?_ _ | refine blk_drew ?_ | refine blk_alloc ?_ _)); exact BK103.out, GE103.out, HR0.out⟩), K1 HB GE103.out, K1 HBW GW103.out⟩
end Go.Proofs.Ytioghacieopbdaa.PAll
end
section
namespace Go.Proofs.Ytioghacieopbdaa.PAll
open Go.RowKit Go.Proofs.YtioghacieopbdaaW.PrintWords Go.Proofs.YtioghacieopbdaaW.PrintLast Go.Proofs.YtioghacieopbdaaW.PrintMore
attribute [local go_sem] max2_int min2_int max_two min_two max_three min_three max_four min_four   -- for this text's walks alone
set_option linter.unusedVariables false
set_option linter.unusedSimpArgs false
def spec_l1Rd_pick.j0 : Nat → Int → Bool → List Int → Int → Option (Int × Int)
 | 0, _, _, _, _ => none
 | k + 1, x1, x24, x1000, x1001 => if x24 = true then (some (0, x1001)) else (if (wrap64 (x1001 - 1)) < (x1000.length : Int) then (if 0 ≤ (wrap64 (x1001 - 1)) then (if x1 = 0 then (none) else (some (Int.tmod (wrap64 (rd x1000 (wrap64 (x1001 - 1)))) x1, x1001))) else (none)) else (if (x1000.length : Int) = 0 then (none) else (if 0 ≤ (Int.tmod (wrap64 (x1001 - 1)) (x1000.length : Int)) then (if (Int.tmod (wrap64 (x1001 - 1)) (x1000.length : Int)) < (x1000.length : Int) then (if 0 ≤ (Int.tmod (wrap64 ((wrap64 ((wrap64 (x1001 - 1)) * 7)) + 3)) (x1000.length : Int)) then (if (Int.tmod (wrap64 ((wrap64 ((wrap64 (x1001 - 1)) * 7)) + 3)) (x1000.length : Int)) < (x1000.length : Int) then (if x1 = 0 then (none) else (some (Int.tmod (Go.bits .xor .i64 (wrap64 ((wrap64 ((wrap64 ((wrap64 ((wrap64 (rd x1000 (Int.tmod (wrap64 (x1001 - 1)) (x1000.length : Int)))) * 131)) + (wrap64 ((wrap64 (rd x1000 (Int.tmod (wrap64 ((wrap64 ((wrap64 (x1001 - 1)) * 7)) + 3)) (x1000.length : Int)))) * 1117)))) + (wrap64 ((wrap64 (x1001 - 1)) * 29)))) + (wrap64 ((wrap64 (Int.tdiv (wrap64 (x1001 - 1)) (x1000.length : Int))) * 53)))) (wrap64 (Int.tdiv (wrap64 ((wrap64 ((wrap64 ((wrap64 ((wrap64 (rd x1000 (Int.tmod (wrap64 (x1001 - 1)) (x1000.length : Int)))) * 131)) + (wrap64 ((wrap64 (rd x1000 (Int.tmod (wrap64 ((wrap64 ((wrap64 (x1001 - 1)) * 7)) + 3)) (x1000.length : Int)))) * 1117)))) + (wrap64 ((wrap64 (x1001 - 1)) * 29)))) + (wrap64 ((wrap64 (Int.tdiv (wrap64 (x1001 - 1)) (x1000.length : Int))) * 53)))) 64))) x1, x1001))) else (none)) else (none)) else (none)) else (none))))
def spec_l1Rd_pick.f (k : Nat) (s0_0 : List Int) (s0_1 : Int) (a1 : Int) : Option (Int × Int) := if a1 < 1 then (spec_l1Rd_pick.j0 k a1 true s0_0 (wrap64 (s0_1 + 1))) else (spec_l1Rd_pick.j0 k a1 ((s0_0.length : Int) == 0) s0_0 (wrap64 (s0_1 + 1)))
theorem spec_l1Rd_pick.mono_l : ∀ k, (∀ y0 y1 y2 y3, LeO (spec_l1Rd_pick.j0 k y0 y1 y2 y3) (spec_l1Rd_pick.j0 (k + 1) y0 y1 y2 y3))
 | 0 => fun _ _ _ _ r h => by simp [spec_l1Rd_pick.j0] at h
 | k + 1 => by
  have ih0 := spec_l1Rd_pick.mono_l k
  ·intro y0 y1 y2 y3
   unfold spec_l1Rd_pick.j0
   repeat' first
   | (with_reducible exact ih0 _ _ _ _)
   | (with_reducible exact LeO.refl _)
   | (with_reducible exact LeO.none _)
   | (with_reducible refine LeO.ite ?_ ?_)
   | (with_reducible refine LeO.bind ?_ (fun _ => ?_))
   | exact ih0 _ _ _ _
   | exact LeO.none _
   | refine LeO.ite ?_ ?_
   | refine LeO.bind ?_ (fun _ => ?_)
theorem spec_l1Rd_pick.mono : ∀ a0 a1 a2 k, LeO (spec_l1Rd_pick.f k a0 a1 a2) (spec_l1Rd_pick.f (k + 1) a0 a1 a2) := by
 intro a0 a1 a2 k
 have ih0 := spec_l1Rd_pick.mono_l k
 unfold spec_l1Rd_pick.f
 repeat' first
   | (with_reducible exact ih0 _ _ _ _)
   | (with_reducible exact LeO.refl _)
   | (with_reducible exact LeO.none _)
   | (with_reducible refine LeO.ite ?_ ?_)
   | (with_reducible refine LeO.bind ?_ (fun _ => ?_))
   | exact ih0 _ _ _ _
   | exact LeO.none _
   | refine LeO.ite ?_ ?_
   | refine LeO.bind ?_ (fun _ => ?_)
set_option maxHeartbeats 8000000 in
set_option maxRecDepth 100000 in
theorem spec_l1Rd_pick.calls (k : Nat) (g : Nat) (s0_0 : List Int) (s0_1 : Int) (a1 : Int) (r1 : Int) (r2 : Int) (w0 w : World) (hI : IsS143 w0 w g s0_0 s0_1) (hB : Below w0.heap.size w0 w) (h : spec_l1Rd_pick.f k s0_0 s0_1 a1 = some (r1, r2)) :
  Calls Try.prog 91 #[.pointer (some ⟨g, 0, none⟩), .int .i64 a1] w fun e w' => e = .returned (.int .i64 r1) ∧ IsS143 w0 w' g s0_0 r2 ∧ Below w0.heap.size w0 w' ∧ KeepBut w w' g none := by
 have HI0 := Aside0.mk hI
 have HK := am (KeepBut.refl w g none)
 have HL := Aside0.mk hB.size
 clear hI
 have HW0 := Aside0.mk hB.size
 have HB := Aside0.mk hB
 clear hB
 have H : (if a1 < 1 then (spec_l1Rd_pick.j0 k a1 true s0_0 (wrap64 (s0_1 + 1))) else (spec_l1Rd_pick.j0 k a1 ((s0_0.length : Int) == 0) s0_0 (wrap64 (s0_1 + 1)))) = some (r1, r2) := h
 clear h
 have HC3 := Aside0.mk H
 clear H
 obtain ⟨ASz4_0, cSz4_0, HGz4, hgz4, HSz4_0⟩ := HI0.out
 have hcz4_0 := cellS143_0 HGz4
 have hcz4_1 := cellS143_1 HGz4
 have hfz4_1 := blk_frozen HGz4 1
 clear HGz4 hgz4
 go_enter Try.func91, Try.ntmps91
 go_upto_region 2 with (fail)
 repeat (go_quiet (fail); go_upto_region 2 with (fail))
 go_cut [24] (fun v24 wc => ∃ (kq : Nat) (x24_2 : Bool), v24 = .bool x24_2 ∧ Aside0 (spec_l1Rd_pick.j0 kq a1 x24_2 s0_0 (wrap64 (s0_1 + 1)) = some (r1, r2)) ∧ Aside0 (kq ≤ k) ∧ Aside0 (IsS143 w0 wc g s0_0 (wrap64 (s0_1 + 1))) ∧ Aside0 (KeepBut w wc g none) ∧ Aside0 (Below w0.heap.size w0 wc))
 case first =>
  have H := HC3.out
  clear HC3
  by_cases c5 : a1 < 1
  ·rw [if_pos c5] at H
   have c5b0 : decide (a1 < 1) = true := decide_eq_true c5
   clear c5
   (first | rw [c5b0] | (simp only [i64_w, i32_w]; rw [c5b0]) | skip)
   have H' := Aside0.mk H
   clear H
   go_wp2
   repeat (go_quiet (fail); try go_wp2)
   go_meet
   case rel => exact ⟨_, (true), (by first | rfl | (simp; done) | (simp [*]; done)), H', ⟨by first | omega | exact Nat.le_refl _⟩, ⟨I143_0 HI0⟩, ⟨J0 HK⟩, ⟨K1 HB (IsS143.ge HI0.out)⟩⟩
  ·rw [if_neg c5] at H
   have c5b0 : decide (a1 < 1) = false := decide_eq_false c5
   clear c5
   (first | rw [c5b0] | (simp only [i64_w, i32_w]; rw [c5b0]) | skip)
   have H' := Aside0.mk H
   clear H
   obtain ⟨ASz6_0, cSz6_0, HGz6, hgz6, HSz6_0⟩ := HI0.out
   have hcz6_0 := cellS143_0 HGz6
   have hcz6_1 := cellS143_1 HGz6
   have hfz6_1 := blk_frozen HGz6 1
   clear HGz6 hgz6
   go_wp2
   repeat (go_quiet (fail); try go_wp2)
   go_meet
   case rel => exact ⟨_, (((s0_0.length : Int) == 0)), (by first | rfl | (simp; done) | (simp [*]; done)), H', ⟨by first | omega | exact Nat.le_refl _⟩, ⟨I143_0 HI0⟩, ⟨J0 HK⟩, ⟨K1 HB (IsS143.ge HI0.out)⟩⟩
 case rest =>
  clear HC3
  try clear p2
  try clear c5
  try clear c5b0
  try clear p6
  try clear hcz4_0
  try clear hcz4_1
  try clear hcz6_0
  try clear hcz6_1
  try clear hfz4_1
  try clear hfz6_1
  obtain ⟨kq, x24_2, rfl, HA, HJ2, HI0, HK, HB⟩ := hcut
  cases kq with
  | zero => exact absurd HA.out (by simp [spec_l1Rd_pick.j0])
  | succ kj2 =>
   have H := HA.out
   clear HA
   simp only [spec_l1Rd_pick.j0] at H
   by_cases c7 : x24_2 = true
   ·subst c7
    have H1 : (some (0, (wrap64 (s0_1 + 1)))) = some (r1, r2) := by rw [if_pos rfl] at H; exact H
    clear H
    have H := H1
    clear H1
    simp only [Option.some.injEq, Prod.mk.injEq] at H
    obtain ⟨rfl, rfl⟩ := H
    go_wp2
    repeat (go_quiet (fail); try go_wp2)
    go_ret
    exact ⟨by first | rfl | (simp [errW_none, errW_some] <;> rfl) | (simp [*, errW_none, errW_some] <;> rfl), I143_0 HI0, K1 HB (IsS143.ge HI0.out), J0 HK⟩
   ·replace c7 := Bool.eq_false_iff.mpr c7
    subst c7
    have H1 : (if (wrap64 ((wrap64 (s0_1 + 1)) - 1)) < (s0_0.length : Int) then (if 0 ≤ (wrap64 ((wrap64 (s0_1 + 1)) - 1)) then (if a1 = 0 then (none) else (some (Int.tmod (wrap64 (rd s0_0 (wrap64 ((wrap64 (s0_1 + 1)) - 1)))) a1, (wrap64 (s0_1 + 1))))) else (none)) else (if (s0_0.length : Int) = 0 then (none) else (if 0 ≤ (Int.tmod (wrap64 ((wrap64 (s0_1 + 1)) - 1)) (s0_0.length : Int)) then (if (Int.tmod (wrap64 ((wrap64 (s0_1 + 1)) - 1)) (s0_0.length : Int)) < (s0_0.length : Int) then (if 0 ≤ (Int.tmod (wrap64 ((wrap64 ((wrap64 ((wrap64 (s0_1 + 1)) - 1)) * 7)) + 3)) (s0_0.length : Int)) then (if (Int.tmod (wrap64 ((wrap64 ((wrap64 ((wrap64 (s0_1 + 1)) - 1)) * 7)) + 3)) (s0_0.length : Int)) < (s0_0.length : Int) then (if a1 = 0 then (none) else (some (Int.tmod (Go.bits .xor .i64 (wrap64 ((wrap64 ((wrap64 ((wrap64 ((wrap64 (rd s0_0 (Int.tmod (wrap64 ((wrap64 (s0_1 + 1)) - 1)) (s0_0.length : Int)))) * 131)) + (wrap64 ((wrap64 (rd s0_0 (Int.tmod (wrap64 ((wrap64 ((wrap64 ((wrap64 (s0_1 + 1)) - 1)) * 7)) + 3)) (s0_0.length : Int)))) * 1117)))) + (wrap64 ((wrap64 ((wrap64 (s0_1 + 1)) - 1)) * 29)))) + (wrap64 ((wrap64 (Int.tdiv (wrap64 ((wrap64 (s0_1 + 1)) - 1)) (s0_0.length : Int))) * 53)))) (wrap64 (Int.tdiv (wrap64 ((wrap64 ((wrap64 ((wrap64 ((wrap64 (rd s0_0 (Int.tmod (wrap64 ((wrap64 (s0_1 + 1)) - 1)) (s0_0.length : Int)))) * 131)) + (wrap64 ((wrap64 (rd s0_0 (Int.tmod (wrap64 ((wrap64 ((wrap64 ((wrap64 (s0_1 + 1)) - 1)) * 7)) + 3)) (s0_0.length : Int)))) * 1117)))) + (wrap64 ((wrap64 ((wrap64 (s0_1 + 1)) - 1)) * 29)))) + (wrap64 ((wrap64 (Int.tdiv (wrap64 ((wrap64 (s0_1 + 1)) - 1)) (s0_0.length : Int))) * 53)))) 64))) a1, (wrap64 (s0_1 + 1))))) else (none)) else (none)) else (none)) else (none)))) = some (r1, r2) := by rw [if_neg (show ¬ (false = true) by decide)] at H; exact H
    clear H
    have H := H1
    clear H1
    by_cases c8 : (wrap64 ((wrap64 (s0_1 + 1)) - 1)) < (s0_0.length : Int)
    ·rw [if_pos c8] at H
     have c8b0 : decide ((wrap64 ((wrap64 (s0_1 + 1)) - 1)) < (s0_0.length : Int)) = true := decide_eq_true c8
     clear c8
     obtain ⟨ji9, hji9⟩ : ∃ j_ : Int, (wrap64 ((wrap64 (s0_1 + 1)) - 1)) = j_ := ⟨_, rfl⟩
     replace H : (if 0 ≤ (ji9) then (if a1 = 0 then (none) else (some (Int.tmod (wrap64 (rd s0_0 (ji9))) a1, (wrap64 (s0_1 + 1))))) else (none)) = some (r1, r2) := by first | (rw [hji9] at H; exact H) | (simp only [hji9] at H ⊢; exact H)
     (try rw [hji9] at c8b0)
     have hji9w : (IntKind.i64.wrap ((wrap64 (s0_1 + 1)) - 1)) = ji9 := (i64_w _).trans hji9
     by_cases c10 : 0 ≤ (ji9)
     ·rw [if_pos c10] at H
      have c10b0 : decide (0 ≤ (ji9)) = true := decide_eq_true c10
      clear c10
      by_cases c11 : a1 = 0
      ·rw [if_pos c11] at H
       exact absurd H (by simp)
      ·rw [if_neg c11] at H
       have c11b0 : (a1 == 0) = false := beq_eq_false_iff_ne.mpr c11
       have c11b1 : (a1 != 0) = true := bne_iff_ne.mpr c11
       simp only [Option.some.injEq, Prod.mk.injEq] at H
       obtain ⟨rfl, rfl⟩ := H
       obtain ⟨ASz12_0, cSz12_0, HGz12, hgz12, HSz12_0⟩ := HI0.out
       have hcz12_0 := cellS143_0 HGz12
       have hcz12_1 := cellS143_1 HGz12
       have hfz12_1 := blk_frozen HGz12 1
       clear HGz12 hgz12
       have p101 : 0 ≤ ((ji9) : Int) := of_decide_eq_true (by first | (with_reducible assumption) | assumption)
       have q101 : (ji9) < (s0_0.length : Int) := of_decide_eq_true (by first | (with_reducible assumption) | assumption)
       obtain ⟨ad101, e101, hx101_0⟩ := Kd.at_int HSz12_0 (ji9) p101 q101
       cases e101
       replace hx101_0 := pw_cell_below HB.out hx101_0
       replace p101 := eq_true p101
       replace q101 := eq_true q101
       go_wp2
       repeat (go_quiet (fail); try go_wp2)
       go_ret
       exact ⟨by first | rfl | (simp [errW_none, errW_some] <;> rfl) | (simp only [← hji9]; first | rfl | (simp [errW_none, errW_some] <;> rfl)) | (simp [*, errW_none, errW_some] <;> rfl), I143_0 HI0, K1 HB (IsS143.ge HI0.out), J0 HK⟩
     ·rw [if_neg c10] at H
      exact absurd H (by simp)
    ·rw [if_neg c8] at H
     have c8b0 : decide ((wrap64 ((wrap64 (s0_1 + 1)) - 1)) < (s0_0.length : Int)) = false := decide_eq_false c8
     clear c8
     by_cases c13 : (s0_0.length : Int) = 0
     ·rw [if_pos c13] at H
      exact absurd H (by simp)
     ·rw [if_neg c13] at H
      have c13b0 : ((s0_0.length : Int) == 0) = false := beq_eq_false_iff_ne.mpr c13
      have c13b1 : ((s0_0.length : Int) != 0) = true := bne_iff_ne.mpr c13
      have c13b2 : ¬ (s0_0 = []) := fun h_ => c13 (by rw [h_]; rfl)
      obtain ⟨ji14, hji14⟩ : ∃ j_ : Int, (Int.tmod (wrap64 ((wrap64 (s0_1 + 1)) - 1)) (s0_0.length : Int)) = j_ := ⟨_, rfl⟩
      replace H : (if 0 ≤ (ji14) then (if (ji14) < (s0_0.length : Int) then (if 0 ≤ (Int.tmod (wrap64 ((wrap64 ((wrap64 ((wrap64 (s0_1 + 1)) - 1)) * 7)) + 3)) (s0_0.length : Int)) then (if (Int.tmod (wrap64 ((wrap64 ((wrap64 ((wrap64 (s0_1 + 1)) - 1)) * 7)) + 3)) (s0_0.length : Int)) < (s0_0.length : Int) then (if a1 = 0 then (none) else (some (Int.tmod (Go.bits .xor .i64 (wrap64 ((wrap64 ((wrap64 ((wrap64 ((wrap64 (rd s0_0 (ji14))) * 131)) + (wrap64 ((wrap64 (rd s0_0 (Int.tmod (wrap64 ((wrap64 ((wrap64 ((wrap64 (s0_1 + 1)) - 1)) * 7)) + 3)) (s0_0.length : Int)))) * 1117)))) + (wrap64 ((wrap64 ((wrap64 (s0_1 + 1)) - 1)) * 29)))) + (wrap64 ((wrap64 (Int.tdiv (wrap64 ((wrap64 (s0_1 + 1)) - 1)) (s0_0.length : Int))) * 53)))) (wrap64 (Int.tdiv (wrap64 ((wrap64 ((wrap64 ((wrap64 ((wrap64 (rd s0_0 (ji14))) * 131)) + (wrap64 ((wrap64 (rd s0_0 (Int.tmod (wrap64 ((wrap64 ((wrap64 ((wrap64 (s0_1 + 1)) - 1)) * 7)) + 3)) (s0_0.length : Int)))) * 1117)))) + (wrap64 ((wrap64 ((wrap64 (s0_1 + 1)) - 1)) * 29)))) + (wrap64 ((wrap64 (Int.tdiv (wrap64 ((wrap64 (s0_1 + 1)) - 1)) (s0_0.length : Int))) * 53)))) 64))) a1, (wrap64 (s0_1 + 1))))) else (none)) else (none)) else (none)) else (none)) = some (r1, r2) := by first | (rw [hji14] at H; exact H) | (simp only [hji14] at H ⊢; exact H)
      by_cases c15 : 0 ≤ (ji14)
      ·rw [if_pos c15] at H
       have c15b0 : decide (0 ≤ (ji14)) = true := decide_eq_true c15
       clear c15
       by_cases c16 : (ji14) < (s0_0.length : Int)
       ·rw [if_pos c16] at H
        have c16b0 : decide ((ji14) < (s0_0.length : Int)) = true := decide_eq_true c16
        clear c16
        obtain ⟨ji17, hji17⟩ : ∃ j_ : Int, (Int.tmod (wrap64 ((wrap64 ((wrap64 ((wrap64 (s0_1 + 1)) - 1)) * 7)) + 3)) (s0_0.length : Int)) = j_ := ⟨_, rfl⟩
        replace H : (if 0 ≤ (ji17) then (if (ji17) < (s0_0.length : Int) then (if a1 = 0 then (none) else (some (Int.tmod (Go.bits .xor .i64 (wrap64 ((wrap64 ((wrap64 ((wrap64 ((wrap64 (rd s0_0 (ji14))) * 131)) + (wrap64 ((wrap64 (rd s0_0 (ji17))) * 1117)))) + (wrap64 ((wrap64 ((wrap64 (s0_1 + 1)) - 1)) * 29)))) + (wrap64 ((wrap64 (Int.tdiv (wrap64 ((wrap64 (s0_1 + 1)) - 1)) (s0_0.length : Int))) * 53)))) (wrap64 (Int.tdiv (wrap64 ((wrap64 ((wrap64 ((wrap64 ((wrap64 (rd s0_0 (ji14))) * 131)) + (wrap64 ((wrap64 (rd s0_0 (ji17))) * 1117)))) + (wrap64 ((wrap64 ((wrap64 (s0_1 + 1)) - 1)) * 29)))) + (wrap64 ((wrap64 (Int.tdiv (wrap64 ((wrap64 (s0_1 + 1)) - 1)) (s0_0.length : Int))) * 53)))) 64))) a1, (wrap64 (s0_1 + 1))))) else (none)) else (none)) = some (r1, r2) := by first | (rw [hji17] at H; exact H) | (simp only [hji17] at H ⊢; exact H)
        by_cases c18 : 0 ≤ (ji17)
        ·rw [if_pos c18] at H
         have c18b0 : decide (0 ≤ (ji17)) = true := decide_eq_true c18
         clear c18
         by_cases c19 : (ji17) < (s0_0.length : Int)
         ·rw [if_pos c19] at H
          have c19b0 : decide ((ji17) < (s0_0.length : Int)) = true := decide_eq_true c19
          clear c19
          by_cases c20 : a1 = 0
          ·rw [if_pos c20] at H
           exact absurd H (by simp)
          ·rw [if_neg c20] at H
           have c20b0 : (a1 == 0) = false := beq_eq_false_iff_ne.mpr c20
           have c20b1 : (a1 != 0) = true := bne_iff_ne.mpr c20
           simp only [Option.some.injEq, Prod.mk.injEq] at H
           obtain ⟨rfl, rfl⟩ := H
           obtain ⟨ASz21_0, cSz21_0, HGz21, hgz21, HSz21_0⟩ := HI0.out
           have hcz21_0 := cellS143_0 HGz21
           have hcz21_1 := cellS143_1 HGz21
           have hfz21_1 := blk_frozen HGz21 1
           clear HGz21 hgz21
           have p102 : 0 ≤ ((ji14) : Int) := of_decide_eq_true (by first | (with_reducible assumption) | assumption)
           have q102 : (ji14) < (s0_0.length : Int) := of_decide_eq_true (by first | (with_reducible assumption) | assumption)
           obtain ⟨ad102, e102, hx102_0⟩ := Kd.at_int HSz21_0 (ji14) p102 q102
           cases e102
           replace hx102_0 := pw_cell_below HB.out hx102_0
           replace p102 := eq_true p102
           replace q102 := eq_true q102
           have p103 : 0 ≤ ((ji17) : Int) := of_decide_eq_true (by first | (with_reducible assumption) | assumption)
           have q103 : (ji17) < (s0_0.length : Int) := of_decide_eq_true (by first | (with_reducible assumption) | assumption)
           obtain ⟨ad103, e103, hx103_0⟩ := Kd.at_int HSz21_0 (ji17) p103 q103
           obtain rfl : ad102 = ad103 := (by injection e103)
           replace hx103_0 := pw_cell_below HB.out hx103_0
           replace p103 := eq_true p103
           replace q103 := eq_true q103
           go_wp2
           repeat (go_quiet (fail); try go_wp2)
           go_ret
           exact ⟨by first | rfl | (simp [errW_none, errW_some] <;> rfl) | (simp only [← hji14, ← hji17]; first | rfl | (simp [errW_none, errW_some] <;> rfl)) | (simp [*, errW_none, errW_some] <;> rfl), I143_0 HI0, K1 HB (IsS143.ge HI0.out), J0 HK⟩
         ·rw [if_neg c19] at H
          exact absurd H (by simp)
        ·rw [if_neg c18] at H
         exact absurd H (by simp)
       ·rw [if_neg c16] at H
        exact absurd H (by simp)
      ·rw [if_neg c15] at H
       exact absurd H (by simp)
end Go.Proofs.Ytioghacieopbdaa.PAll
end
