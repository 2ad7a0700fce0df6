/- Contracts of the functions that the statement reaches, printed by a program out of the translation and joined with the plain laws. -/
import Derived.Test.YtmanlcakdcoekaaCFnSetOf3
import Derived.Test.YtmanlcakdcoekaaCFnSetOf4
import Derived.Test.YtmanlcakdcoekaaCFnSetOf5
import Derived.Test.YtmanlcakdcoekaaCFnSetOf8
import Derived.Test.YtmanlcakdcoekaaCFnSetOf9
import Derived.Test.YtmanlcakdcoekaaCFnSetOf10
section
namespace Go.Proofs.Ytmanlcakdcoekaa.PAll
open Go.RowKit Go.Proofs.YtmanlcakdcoekaaW.PrintWords Go.Proofs.YtmanlcakdcoekaaW.PrintLast Go.Proofs.YtmanlcakdcoekaaW.PrintMore
attribute [local go_sem] max2_int min2_int max_two min_two max_three min_three max_four min_four   -- for this text's walks alone
set_option linter.unusedVariables false
set_option linter.unusedSimpArgs false
mutual
def laws_FnSetOf.j0 : Nat → List (S40) → List (S40) → Bool → List (S40) → Bool → Bool → Option (Bool)
 | 0, _, _, _, _, _, _ => none
 | k + 1, x3, x4, x5, x6, x7, x40 => if x40 = true then (if (x5 == x7) = true then ((laws_ovBlocks.f k x4 x6).bind fun t113 => (some t113)) else (some false)) else (laws_FnSetOf.l0 k x3 x4 0)
def laws_FnSetOf.l0 : Nat → List (S40) → List (S40) → Int → Option (Bool)
 | 0, _, _, _ => none
 | k + 1, x3, x4, x8 => if x8 < (x3.length : Int) then (if 0 ≤ x8 then ((impl_SetHas.f k x4 ((rd_T40 x3 x8).f0)).bind fun t115 => (if t115 = true then ((impl_BlockSize.f ((rd_T40 x3 x8).f0) ((rd_T40 x3 x8).f1)).bind fun t118 => ((impl_SetHas.f k x4 (wrap64 ((wrap64 (((rd_T40 x3 x8).f0) + t118)) - 1))).bind fun t119 => (if t119 = true then (laws_FnSetOf.l0 k x3 x4 (wrap64 (x8 + 1))) else (some false)))) else (some false))) else (none)) else (laws_FnSetOf.l1 k x4 1)
def laws_FnSetOf.l1 : Nat → List (S40) → Int → Option (Bool)
 | 0, _, _ => none
 | k + 1, x4, x9 => if x9 < (x4.length : Int) then (if 0 ≤ (wrap64 (x9 - 1)) then (if (wrap64 (x9 - 1)) < (x4.length : Int) then (if 0 ≤ x9 then ((impl_BlockOver.f k ((rd_T40 x4 (wrap64 (x9 - 1))).f0) ((rd_T40 x4 (wrap64 (x9 - 1))).f1) ((rd_T40 x4 x9).f0) ((rd_T40 x4 x9).f1)).bind fun bt128 => (if ((rd_T40 x4 (wrap64 (x9 - 1))).f0) ≥ ((rd_T40 x4 x9).f0) then (some false) else ((impl_BlockMeets.f ((rd_T40 x4 (wrap64 (x9 - 1))).f0) ((rd_T40 x4 (wrap64 (x9 - 1))).f1) ((rd_T40 x4 x9).f0) ((rd_T40 x4 x9).f1)).bind fun t135 => (if t135 = true then (some false) else ((impl_BlockSize.f bt128.1 bt128.2).bind fun t136 => ((impl_BlockSize.f ((rd_T40 x4 (wrap64 (x9 - 1))).f0) ((rd_T40 x4 (wrap64 (x9 - 1))).f1)).bind fun t138 => ((impl_BlockSize.f ((rd_T40 x4 x9).f0) ((rd_T40 x4 x9).f1)).bind fun t140 => (if t136 = (wrap64 (t138 + t140)) then (if ((rd_T40 x4 (wrap64 (x9 - 1))).f1) = ((rd_T40 x4 x9).f1) then (some false) else (laws_FnSetOf.l1 k x4 (wrap64 (x9 + 1)))) else (laws_FnSetOf.l1 k x4 (wrap64 (x9 + 1))))))))))) else (none)) else (none)) else (none)) else ((impl_SetOf.f k x4).bind fun bt120 => ((impl_SetOk.f k x4).bind fun t124 => (if t124 = true then (if bt120.2 = true then ((laws_ovBlocks.f k bt120.1 x4).bind fun t125 => (some t125)) else (some false)) else (some false))))
end
def laws_FnSetOf.f (k : Nat) (l0 : List Int) : Option (Bool) := if (l0.length : Int) > 1048576 then (some true) else ((spec_DrawSetOf.f k l0).bind fun t101 => ((impl_SetOf.f k t101).bind fun bt104 => ((spec_SetOf.f k t101).bind fun bt108 => (if (bt104.2 != bt108.2) = true then (laws_FnSetOf.j0 k t101 bt104.1 bt104.2 bt108.1 bt108.2 true) else ((laws_ovBlocks.f k bt104.1 bt108.1).bind fun t112 => (if t112 = true then (laws_FnSetOf.j0 k t101 bt104.1 bt104.2 bt108.1 bt108.2 (!bt104.2)) else (laws_FnSetOf.j0 k t101 bt104.1 bt104.2 bt108.1 bt108.2 true)))))))
def laws_FnSetOf.T11 : Bool × List (List Nat × List Nat) := (true, [([], []), ([], []), ([], []), ([1, 2], [1, 2]), ([3], [3]), ([4], [4]), ([0, 5], [0, 5]), ([6], [6]), ([7, 6], [7]), ([8], [8]), ([8], [8]), ([8], [8]), ([10, 11, 8], [8, 10, 11]), ([12, 8], [8, 12]), ([13, 8], [8, 13]), ([8], [8]), ([8], [8]), ([15, 16, 8], [8, 15, 16]), ([17, 8], [8, 17]), ([18, 8, 8], [8, 18]), ([14, 19, 8], [8, 14, 19]), ([20, 8], [8, 20]), ([9, 21, 19, 8], [8, 9, 21]), ([22, 8], [8, 22]), ([8, 23], [8, 23])])
def laws_FnSetOf.B11 : List Nat := [0, 0, 0, 6, 14, 30, 63, 127, 255, 511, 511, 511, 3583, 7679, 15871, 511, 511, 98815, 229887, 492031, 1048063, 2096639, 4194303, 8388607, 16777215]
theorem laws_FnSetOf.tab11 : rtab .any (opsOf Try.f5 11) = laws_FnSetOf.T11 := by kernel_rfl
theorem laws_FnSetOf.bits11 : waitsOk laws_FnSetOf.T11.2 laws_FnSetOf.B11 = true := by kernel_rfl
def laws_FnSetOf.T16 : Bool × List (List Nat × List Nat) := (true, [([], []), ([], []), ([1], [1]), ([0, 2], [0, 2]), ([3], [3]), ([], []), ([], []), ([5, 6], [5, 6]), ([7], [7]), ([4, 8], [4, 8]), ([], []), ([10, 9, 9, 0, 1, 2, 3, 4, 5, 6, 7, 8, 9, 10], [9, 10])])
def laws_FnSetOf.B16 : List Nat := [0, 0, 2, 7, 15, 0, 0, 96, 224, 511, 0, 2047]
theorem laws_FnSetOf.tab16 : rtab .any (opsOf Try.f5 16) = laws_FnSetOf.T16 := by kernel_rfl
theorem laws_FnSetOf.bits16 : waitsOk laws_FnSetOf.T16.2 laws_FnSetOf.B16 = true := by kernel_rfl
def laws_FnSetOf.T17 : Bool × List (List Nat × List Nat) := (true, [([], []), ([], []), ([1], [1]), ([0, 2], [0, 2]), ([3], [3]), ([4], [4]), ([], []), ([], []), ([6, 7], [6, 7]), ([8], [8]), ([9], [9]), ([5, 10], [5, 10]), ([11], [11]), ([12], [12]), ([12], [12]), ([14, 12], [12, 14]), ([13, 15, 12], [12, 13, 15]), ([16, 12], [12, 16]), ([12], [12]), ([12], [12]), ([18, 19, 12], [12, 18, 19]), ([20, 12], [12, 20]), ([17, 21, 12, 12], [12, 17, 21]), ([12, 22], [12, 22]), ([23, 22], [23]), ([24], [24]), ([25, 24, 24], [24, 25]), ([24], [24]), ([24], [24]), ([28, 24], [24, 28]), ([27, 29, 24], [24, 27, 29]), ([30, 24], [24, 30]), ([31, 26, 24], [24, 31]), ([24], [24]), ([24], [24]), ([33, 34, 24], [24, 33, 34]), ([35, 24], [24, 35]), ([36, 32, 24], [24, 36]), ([32, 37, 24], [24, 32, 37]), ([26, 38, 24], [24, 26, 38]), ([39, 37, 24], [24, 39]), ([40], [40]), ([40], [40]), ([42, 40], [40, 42]), ([41, 43, 40], [40, 41, 43]), ([44, 40], [40, 44]), ([45, 40], [40, 45]), ([40], [40]), ([40], [40]), ([47, 48, 40], [40, 47, 48]), ([49, 40], [40, 49]), ([50, 40], [40, 50]), ([46, 51, 40], [40, 46, 51]), ([40, 52, 24], [24, 40, 52]), ([24, 53], [24, 53])])
def laws_FnSetOf.B17 : List Nat := [0, 0, 2, 7, 15, 31, 0, 0, 192, 448, 960, 2047, 4095, 8191, 8191, 24575, 65535, 131071, 8191, 8191, 794623, 1843199, 4194303, 8388607, 16777215, 33554431, 67108863, 33554431, 33554431, 301989887, 973078527, 2046820351, 4294967295, 33554431, 33554431, 25803358207, 60163096575, 137438953471, 274877906943, 549755813887, 1099511627775, 2199023255551, 2199023255551, 6597069766655, 17592186044415, 35184372088831, 70368744177663, 2199023255551, 2199023255551, 424411488321535, 987361441742847, 2113261348585471, 4503599627370495, 9007199254740991, 18014398509481983]
theorem laws_FnSetOf.tab17 : rtab .any (opsOf Try.f5 17) = laws_FnSetOf.T17 := by kernel_rfl
theorem laws_FnSetOf.bits17 : waitsOk laws_FnSetOf.T17.2 laws_FnSetOf.B17 = true := by kernel_rfl
set_option maxHeartbeats 8000000 in
set_option maxRecDepth 100000 in
theorem laws_FnSetOf.calls (k : Nat) (A0 : Option Addr) (c0 : Nat) (l0 : List Int) (r : Bool) (w : World) (hr0 : Kd.C (Kd.int .u8) w A0 l0.length l0) (hc0 : l0.length ≤ c0) (hr0_ : r = true) (h : laws_FnSetOf.f k l0 = some r) :
  Calls Try.prog 5 #[.slice A0 l0.length c0] w fun e w' => e = .returned (.bool r) ∧ Below w.heap.size w w' := by
 have hu40 := Try.underlying40
 have HR0 := Aside0.mk hr0
 have HC0 := Aside0.mk hc0
 clear hr0 hc0
 have HB := am (Below.refl w.heap.size w)
 have H : (if (l0.length : Int) > 1048576 then (some true) else ((spec_DrawSetOf.f k l0).bind fun t101 => ((impl_SetOf.f k t101).bind fun bt104 => ((spec_SetOf.f k t101).bind fun bt108 => (if (bt104.2 != bt108.2) = true then (laws_FnSetOf.j0 k t101 bt104.1 bt104.2 bt108.1 bt108.2 true) else ((laws_ovBlocks.f k bt104.1 bt108.1).bind fun t112 => (if t112 = true then (laws_FnSetOf.j0 k t101 bt104.1 bt104.2 bt108.1 bt108.2 (!bt104.2)) else (laws_FnSetOf.j0 k t101 bt104.1 bt104.2 bt108.1 bt108.2 true)))))))) = some r := h
 clear h
 have HR_ := Aside0.mk hr0_
 clear hr0_
 by_cases c2 : (l0.length : Int) > 1048576
 ·rw [if_pos c2] at H
  have c2b0 : decide (1048576 < (l0.length : Int)) = true := decide_eq_true c2
  have c2b1 : decide (1048576 < l0.length) = true := decide_eq_true (by omega)
  clear c2
  obtain rfl := Option.some.inj H
  go_enter Try.func5, Try.ntmps5
  go_wp2
  go_ret
  exact ⟨ER, KL HB⟩
 ·rw [if_neg c2] at H
  have c2b0 : decide (1048576 < (l0.length : Int)) = false := decide_eq_false c2
  have c2b1 : decide (1048576 < l0.length) = false := decide_eq_false (by omega)
  clear c2
  replace H := Option.bind_eq_some_iff.mp H
  obtain ⟨t101, A30, H⟩ := H
  replace H : ((impl_SetOf.f k t101).bind fun bt104 => ((spec_SetOf.f k t101).bind fun bt108 => (if (bt104.2 != bt108.2) = true then (laws_FnSetOf.j0 k t101 bt104.1 bt104.2 bt108.1 bt108.2 true) else ((laws_ovBlocks.f k bt104.1 bt108.1).bind fun t112 => (if t112 = true then (laws_FnSetOf.j0 k t101 bt104.1 bt104.2 bt108.1 bt108.2 (!bt104.2)) else (laws_FnSetOf.j0 k t101 bt104.1 bt104.2 bt108.1 bt108.2 true)))))) = some r := H
  have A3 := Aside0.mk A30
  clear A30
  replace H := Option.bind_eq_some_iff.mp H
  obtain ⟨⟨t104, t105⟩, A40, H⟩ := H
  replace H : ((spec_SetOf.f k t101).bind fun bt108 => (if (t105 != bt108.2) = true then (laws_FnSetOf.j0 k t101 t104 t105 bt108.1 bt108.2 true) else ((laws_ovBlocks.f k t104 bt108.1).bind fun t112 => (if t112 = true then (laws_FnSetOf.j0 k t101 t104 t105 bt108.1 bt108.2 (!t105)) else (laws_FnSetOf.j0 k t101 t104 t105 bt108.1 bt108.2 true))))) = some r := H
  have A4 := Aside0.mk A40
  clear A40
  replace H := Option.bind_eq_some_iff.mp H
  obtain ⟨⟨t108, t109⟩, A50, H⟩ := H
  replace H : (if (t105 != t109) = true then (laws_FnSetOf.j0 k t101 t104 t105 t108 t109 true) else ((laws_ovBlocks.f k t104 t108).bind fun t112 => (if t112 = true then (laws_FnSetOf.j0 k t101 t104 t105 t108 t109 (!t105)) else (laws_FnSetOf.j0 k t101 t104 t105 t108 t109 true)))) = some r := H
  have A5 := Aside0.mk A50
  clear A50
  have HC6 := Aside0.mk H
  clear H
  go_enter Try.func5, Try.ntmps5
  go_upto_region 6 with (first | ((with_reducible refine gate_callee (f := 20) rfl ?_); refine goesL_ (some 17) rfl rfl Try.func20 (by kernel_rfl) rfl #[.slice A0 l0.length c0] rfl MT ?_; (with_reducible refine (spec_DrawSetOf.calls k _ _ l0 t101 _ ?side1 ?side2 A3.out).mono ?_); (case side1 => exact KC HR0.out); (case side2 => exact HC0.out); rintro e w7 ⟨v102, rfl, ho0, hb⟩; refine ⟨_, rfl, ?_⟩; have HO103 := am (Kd.R_lower ho0 (below_size (KL HB))); replace HB := am (below_step (KL HB) hb); (try clear hb); (try clear ho0); obtain ⟨Ao8, co8, eo8⟩ := Kd.R_slice HO103.out; subst eo8) | ((with_reducible refine gate_callee (f := 21) rfl ?_); refine goesL_ (some 20) rfl rfl Try.func21 (by kernel_rfl) rfl #[.slice Ao8 t101.length co8] rfl MT ?_; (with_reducible refine (impl_SetOf.calls k _ _ t101 t104 t105 _ ?side1 ?side2 A4.out).mono ?_); (case side1 => exact KC (Kd.R_reads' HO103.out).2.2); (case side2 => exact (Kd.R_reads' HO103.out).2.1); rintro e w9 ⟨v106, rfl, ho0, hb⟩; refine ⟨_, rfl, ?_⟩; have HO107 := am (Kd.R_lower (Kd.R_new' ho0 (Kd.R_lt (KR HO103))) (below_size (KL HB))); replace HO103 := am (Kd.R_elder' (KR HO103) (Kd.R_base ho0) hb); replace HB := am (below_step (KL HB) hb); (try clear hb); (try clear ho0)) | ((with_reducible refine gate_callee (f := 22) rfl ?_); refine goesL_ (some 25) rfl rfl Try.func22 (by kernel_rfl) rfl #[.slice Ao8 t101.length co8] rfl MT ?_; (with_reducible refine (spec_SetOf.calls k _ _ t101 t108 t109 _ ?side1 ?side2 A5.out).mono ?_); (case side1 => exact KC (Kd.R_reads' HO103.out).2.2); (case side2 => exact (Kd.R_reads' HO103.out).2.1); rintro e w10 ⟨v110, rfl, ho0, hb⟩; refine ⟨_, rfl, ?_⟩; have HO111 := am (Kd.R_lower (Kd.R_new' (Kd.R_new' ho0 (Kd.R_lt (KR HO103))) (Kd.R_lt (KR HO107))) (below_size (KL HB))); replace HO103 := am (Kd.R_elder' (KR HO103) (Kd.R_base ho0) hb); replace HO107 := am (Kd.R_elder' (KR HO107) (Kd.R_base ho0) hb); replace HB := am (below_step (KL HB) hb); (try clear hb); (try clear ho0)))
  (try simp only [Act.put, List.setIfInBounds_toArray, List.set_cons_zero, List.set_cons_succ])
  go_cut [40] (fun v40 wc => ∃ (kq : Nat) (x40_5 : Bool), v40 = .bool x40_5 ∧ Aside0 (laws_FnSetOf.j0 kq t101 t104 t105 t108 t109 x40_5 = some r) ∧ Aside0 (kq ≤ k) ∧ Aside0 (Kd.R k40 40 wc w.heap.size (fun k_ => some k_ ≠ (v106 : Value).ownBlock ∧ some k_ ≠ (v110 : Value).ownBlock) (.slice Ao8 t101.length co8) t101) ∧ Aside0 (Kd.R k40 40 wc w.heap.size (fun k_ => some k_ ≠ ((.slice Ao8 t101.length co8) : Value).ownBlock ∧ some k_ ≠ (v110 : Value).ownBlock) v106 t104) ∧ Aside0 (Kd.R k40 40 wc w.heap.size (fun k_ => some k_ ≠ ((.slice Ao8 t101.length co8) : Value).ownBlock ∧ some k_ ≠ (v106 : Value).ownBlock) v110 t108) ∧ Aside0 (Below w.heap.size w wc))
  case first =>
   have H := HC6.out
   clear HC6
   by_cases c11 : (t105 != t109) = true
   ·rw [if_pos c11] at H
    have c11b0 : (t105 != t109) = true := c11
    (try (have c11b1 : decide (t105 = t109) = false := by simpa using c11))
    (try (have c11b2 : (t105 == t109) = false := by simpa using c11))
    (try (have c11b3 : ¬ (t105 = t109) := by simpa using c11))
    clear c11
    (first | rw [c11b0] | (simp only [i64_w, i32_w]; rw [c11b0]) | skip)
    have H' := Aside0.mk H
    clear H
    go_wp2
    go_meet
    case rel => exact ⟨_, (true), (by first | rfl | (simp; done) | (simp [*]; done)), H', ⟨by first | omega | exact Nat.le_refl _⟩, ⟨by (with_reducible repeat (first | apply Kd.R_alloc | apply Kd.R_drewN | apply Kd.R_drew)); exact Kd.R_mono HO103.out (fun _ hk => ⟨hk.1.2, hk.2⟩)⟩, ⟨by (with_reducible repeat (first | apply Kd.R_alloc | apply Kd.R_drewN | apply Kd.R_drew)); exact Kd.R_mono HO107.out (fun _ hk => ⟨hk.1.2, hk.2⟩)⟩, ⟨by (with_reducible repeat (first | apply Kd.R_alloc | apply Kd.R_drewN | apply Kd.R_drew)); exact Kd.R_mono HO111.out (fun _ hk => ⟨hk.1.2, hk.2⟩)⟩, ⟨KL HB⟩⟩
   ·rw [if_neg c11] at H
    have c11b0 : (t105 != t109) = false := by simpa using c11
    (try (have c11b1 : decide (t105 = t109) = true := by simpa using c11))
    (try (have c11b2 : (t105 == t109) = true := by simpa using c11))
    clear c11
    (first | rw [c11b0] | (simp only [i64_w, i32_w]; rw [c11b0]) | skip)
    replace H := Option.bind_eq_some_iff.mp H
    obtain ⟨t112, A120, H⟩ := H
    replace H : (if t112 = true then (laws_FnSetOf.j0 k t101 t104 t105 t108 t109 (!t105)) else (laws_FnSetOf.j0 k t101 t104 t105 t108 t109 true)) = some r := H
    have A12 := Aside0.mk A120
    clear A120
    by_cases c13 : t112 = true
    ·subst c13
     have H1 : (laws_FnSetOf.j0 k t101 t104 t105 t108 t109 (!t105)) = some r := by rw [if_pos rfl] at H; exact H
     clear H
     have H := H1
     clear H1
     have H' := Aside0.mk H
     clear H
     obtain ⟨Ao14, co14, eo14⟩ := Kd.R_slice HO107.out
     subst eo14
     obtain ⟨Ao15, co15, eo15⟩ := Kd.R_slice HO111.out
     subst eo15
     go_wp2_with (first | (go_at_call 11; (with_reducible refine (laws_ovBlocks.calls k _ _ t104 _ _ t108 true _ ?side1 ?side2 ?side3 ?side4 A12.out).mono ?_); (case side1 => exact KC (Kd.R_reads' HO107.out).2.2); (case side2 => exact (Kd.R_reads' HO107.out).2.1); (case side3 => exact KC (Kd.R_reads' HO111.out).2.2); (case side4 => exact (Kd.R_reads' HO111.out).2.1); rintro e w' ⟨rfl, ⟨nd, rfl⟩⟩))
     go_meet
     case rel => exact ⟨_, (!t105), (by first | rfl | (simp; done) | (simp [*]; done)), H', ⟨by first | omega | exact Nat.le_refl _⟩, ⟨by (with_reducible repeat (first | apply Kd.R_alloc | apply Kd.R_drewN | apply Kd.R_drew)); exact Kd.R_mono HO103.out (fun _ hk => ⟨hk.1.2, hk.2⟩)⟩, ⟨by (with_reducible repeat (first | apply Kd.R_alloc | apply Kd.R_drewN | apply Kd.R_drew)); exact Kd.R_mono HO107.out (fun _ hk => ⟨hk.1.2, hk.2⟩)⟩, ⟨by (with_reducible repeat (first | apply Kd.R_alloc | apply Kd.R_drewN | apply Kd.R_drew)); exact Kd.R_mono HO111.out (fun _ hk => ⟨hk.1.2, hk.2⟩)⟩, ⟨KL HB⟩⟩
    ·replace c13 := Bool.eq_false_iff.mpr c13
     subst c13
     have H1 : (laws_FnSetOf.j0 k t101 t104 t105 t108 t109 true) = some r := by rw [if_neg (show ¬ (false = true) by decide)] at H; exact H
     clear H
     have H := H1
     clear H1
     have H' := Aside0.mk H
     clear H
     obtain ⟨Ao16, co16, eo16⟩ := Kd.R_slice HO107.out
     subst eo16
     obtain ⟨Ao17, co17, eo17⟩ := Kd.R_slice HO111.out
     subst eo17
     go_wp2_with (first | (go_at_call 11; (with_reducible refine (laws_ovBlocks.calls k _ _ t104 _ _ t108 false _ ?side1 ?side2 ?side3 ?side4 A12.out).mono ?_); (case side1 => exact KC (Kd.R_reads' HO107.out).2.2); (case side2 => exact (Kd.R_reads' HO107.out).2.1); (case side3 => exact KC (Kd.R_reads' HO111.out).2.2); (case side4 => exact (Kd.R_reads' HO111.out).2.1); rintro e w' ⟨rfl, ⟨nd, rfl⟩⟩))
     go_meet
     case rel => exact ⟨_, (true), (by first | rfl | (simp; done) | (simp [*]; done)), H', ⟨by first | omega | exact Nat.le_refl _⟩, ⟨by (with_reducible repeat (first | apply Kd.R_alloc | apply Kd.R_drewN | apply Kd.R_drew)); exact Kd.R_mono HO103.out (fun _ hk => ⟨hk.1.2, hk.2⟩)⟩, ⟨by (with_reducible repeat (first | apply Kd.R_alloc | apply Kd.R_drewN | apply Kd.R_drew)); exact Kd.R_mono HO107.out (fun _ hk => ⟨hk.1.2, hk.2⟩)⟩, ⟨by (with_reducible repeat (first | apply Kd.R_alloc | apply Kd.R_drewN | apply Kd.R_drew)); exact Kd.R_mono HO111.out (fun _ hk => ⟨hk.1.2, hk.2⟩)⟩, ⟨KL HB⟩⟩
  case rest =>
   clear HC6
   try clear c1
   try clear c2
   try clear c2b0
   try clear c2b1
   try clear p2
   try clear c5
   try clear c11
   try clear c11b0
   try clear c11b1
   try clear c11b2
   try clear c13
   obtain ⟨kq, x40_5, rfl, HA, HJ5, HO_3, HO_4, HO_6, HB⟩ := hcut
   cases kq with
   | zero => exact absurd HA.out (by simp [laws_FnSetOf.j0])
   | succ kj5 =>
    have H := HA.out
    clear HA
    simp only [laws_FnSetOf.j0] at H
    by_cases c18 : x40_5 = true
    ·subst c18
     have H1 : (if (t105 == t109) = true then ((laws_ovBlocks.f kj5 t104 t108).bind fun t113 => (some t113)) else (some false)) = some r := by rw [if_pos rfl] at H; exact H
     clear H
     have H := H1
     clear H1
     by_cases c19 : (t105 == t109) = true
     ·rw [if_pos c19] at H
      have c19b0 : (t105 == t109) = true := c19
      (try (have c19b1 : decide (t105 = t109) = true := by simpa using c19))
      (try (have c19b2 : (t105 == t109) = true := by simpa using c19))
      clear c19
      replace H := Option.bind_eq_some_iff.mp H
      obtain ⟨t113, A200, H⟩ := H
      replace H : (some t113) = some r := H
      have A20 := Aside0.mk A200
      clear A200
      obtain rfl := Option.some.inj H
      obtain ⟨Ao21, co21, eo21⟩ := Kd.R_slice HO_4.out
      subst eo21
      obtain ⟨Ao22, co22, eo22⟩ := Kd.R_slice HO_6.out
      subst eo22
      go_wp2_with (first | (go_at_call 11; (with_reducible refine (laws_ovBlocks.calls kj5 _ _ t104 _ _ t108 t113 _ ?side1 ?side2 ?side3 ?side4 A20.out).mono ?_); (case side1 => exact KC (Kd.R_reads' HO_4.out).2.2); (case side2 => exact (Kd.R_reads' HO_4.out).2.1); (case side3 => exact KC (Kd.R_reads' HO_6.out).2.2); (case side4 => exact (Kd.R_reads' HO_6.out).2.1); rintro e w' ⟨rfl, ⟨nd, rfl⟩⟩))
      go_ret
      exact ⟨ER, KL HB⟩
     ·rw [if_neg c19] at H
      have c19b0 : (t105 == t109) = false := by simpa using c19
      (try (have c19b1 : decide (t105 = t109) = false := by simpa using c19))
      (try (have c19b2 : (t105 == t109) = false := by simpa using c19))
      (try (have c19b3 : ¬ (t105 = t109) := by simpa using c19))
      clear c19
      exact absurd ((Option.some.inj H).trans HR_.out) (by decide)
    ·replace c18 := Bool.eq_false_iff.mpr c18
     subst c18
     have H1 : (laws_FnSetOf.l0 kj5 t101 t104 0) = some r := by rw [if_neg (show ¬ (false = true) by decide)] at H; exact H
     clear H
     have H := H1
     clear H1
     have H' := Aside0.mk H
     clear H
     go_wp2
     go_loopg [8] kj5 (fun kq v8 w' => ∃ (x8_2 : Int), v8 = .int .i64 x8_2 ∧ Aside0 (laws_FnSetOf.l0 kq t101 t104 x8_2 = some r) ∧ Aside0 (kq ≤ kj5) ∧ Aside0 (Kd.R k40 40 w' w.heap.size (fun k_ => some k_ ≠ (v106 : Value).ownBlock) (.slice Ao8 t101.length co8) t101) ∧ Aside0 (Kd.R k40 40 w' w.heap.size (fun k_ => some k_ ≠ ((.slice Ao8 t101.length co8) : Value).ownBlock) v106 t104) ∧ Aside0 (Below w.heap.size w w'))
     case atStart => exact ⟨(0), (by first | rfl | (simp; done) | (simp [*]; done)), H', ⟨Nat.le_refl _⟩, ⟨by (with_reducible repeat (first | apply Kd.R_alloc | apply Kd.R_drewN | apply Kd.R_drew)); exact Kd.R_mono HO_3.out (fun _ hk => hk.1)⟩, ⟨by (with_reducible repeat (first | apply Kd.R_alloc | apply Kd.R_drewN | apply Kd.R_drew)); exact Kd.R_mono HO_4.out (fun _ hk => hk.1)⟩, ⟨KL HB⟩⟩
     case round =>
      clear H'
      try clear c1
      try clear c2
      try clear c2b0
      try clear c2b1
      try clear p2
      try clear c5
      try clear c11
      try clear c11b0
      try clear c11b1
      try clear c11b2
      try clear c13
      try clear c18
      try clear c19
      try clear c19b0
      try clear c19b1
      try clear c19b2
      try clear c20
      try clear c21
      try clear c22
      try clear p2
      obtain ⟨x8_2, rfl, HA, HK2, HO_3, HO_4, HB⟩ := hrel
      cases gk with
      | zero => exact absurd HA.out (by simp [laws_FnSetOf.l0])
      | succ k2 =>
       have H := HA.out
       clear HA
       simp only [laws_FnSetOf.l0] at H
       by_cases c23 : x8_2 < (t101.length : Int)
       ·rw [if_pos c23] at H
        have c23b0 : decide (x8_2 < (t101.length : Int)) = true := decide_eq_true c23
        clear c23
        by_cases c24 : 0 ≤ x8_2
        ·rw [if_pos c24] at H
         have c24b0 : decide (0 ≤ x8_2) = true := decide_eq_true c24
         clear c24
         replace H := Option.bind_eq_some_iff.mp H
         obtain ⟨t115, A250, H⟩ := H
         replace H : (if t115 = true then ((impl_BlockSize.f ((rd_T40 t101 x8_2).f0) ((rd_T40 t101 x8_2).f1)).bind fun t118 => ((impl_SetHas.f k2 t104 (wrap64 ((wrap64 (((rd_T40 t101 x8_2).f0) + t118)) - 1))).bind fun t119 => (if t119 = true then (laws_FnSetOf.l0 k2 t101 t104 (wrap64 (x8_2 + 1))) else (some false)))) else (some false)) = some r := H
         have A25 := Aside0.mk A250
         clear A250
         by_cases c26 : t115 = true
         ·subst c26
          have H1 : ((impl_BlockSize.f ((rd_T40 t101 x8_2).f0) ((rd_T40 t101 x8_2).f1)).bind fun t118 => ((impl_SetHas.f k2 t104 (wrap64 ((wrap64 (((rd_T40 t101 x8_2).f0) + t118)) - 1))).bind fun t119 => (if t119 = true then (laws_FnSetOf.l0 k2 t101 t104 (wrap64 (x8_2 + 1))) else (some false)))) = some r := by rw [if_pos rfl] at H; exact H
          clear H
          have H := H1
          clear H1
          replace H := Option.bind_eq_some_iff.mp H
          obtain ⟨t118, A270, H⟩ := H
          replace H : ((impl_SetHas.f k2 t104 (wrap64 ((wrap64 (((rd_T40 t101 x8_2).f0) + t118)) - 1))).bind fun t119 => (if t119 = true then (laws_FnSetOf.l0 k2 t101 t104 (wrap64 (x8_2 + 1))) else (some false))) = some r := H
          have A27 := Aside0.mk A270
          clear A270
          replace H := Option.bind_eq_some_iff.mp H
          obtain ⟨t119, A280, H⟩ := H
          replace H : (if t119 = true then (laws_FnSetOf.l0 k2 t101 t104 (wrap64 (x8_2 + 1))) else (some false)) = some r := H
          have A28 := Aside0.mk A280
          clear A280
          by_cases c29 : t119 = true
          ·subst c29
           have H1 : (laws_FnSetOf.l0 k2 t101 t104 (wrap64 (x8_2 + 1))) = some r := by rw [if_pos rfl] at H; exact H
           clear H
           have H := H1
           clear H1
           have H' := Aside0.mk H
           clear H
           try go_wp2
           replace HO_3 := am (Kd.R_drew HO_3.out)
           replace HO_4 := am (Kd.R_drew HO_4.out)
           replace HB := am (below_drew1 HB.out)
           have p114 : 0 ≤ (x8_2 : Int) := OD
           have q114 : x8_2 < (t101.length : Int) := OD
           obtain ⟨ad114, e114, hx114_0, hx114_1⟩ := at_T40 (Kd.R_reads' HO_3.out).2.2 x8_2 p114 q114
           cases e114
           replace p114 := eq_true p114
           replace q114 := eq_true q114
           obtain ⟨Ao31, co31, eo31⟩ := Kd.R_slice HO_4.out
           (first | subst eo31 | (injection eo31 with f1_ f2_ f3_; have f4_ := f1_.symm; have f5_ := f3_.symm; clear f1_ f2_ f3_; subst f4_; subst f5_))
           have p116 : 0 ≤ (x8_2 : Int) := OD
           have q116 : x8_2 < (t101.length : Int) := OD
           obtain ⟨ad116, e116, hx116_0, hx116_1⟩ := at_T40 (Kd.R_reads' HO_3.out).2.2 x8_2 p116 q116
           obtain rfl : ad114 = ad116 := (by injection e116)
           replace p116 := eq_true p116
           replace q116 := eq_true q116
           have p117 : 0 ≤ (x8_2 : Int) := OD
           have q117 : x8_2 < (t101.length : Int) := OD
           obtain ⟨ad117, e117, hx117_0, hx117_1⟩ := at_T40 (Kd.R_reads' HO_3.out).2.2 x8_2 p117 q117
           obtain rfl : ad114 = ad117 := (by injection e117)
           replace p117 := eq_true p117
           replace q117 := eq_true q117
           refine start_ (n := 25) (S := fun w' => w'.cell? (ad114.add ((x8_2).toNat * 2)) = some (.int .i64 ((rd_T40 t101 x8_2).f0)) ∧ w'.cell? ⟨(ad114.add ((x8_2).toNat * 2)).block, (ad114.add ((x8_2).toNat * 2)).off + 1, none⟩ = some (.int .i64 ((rd_T40 t101 x8_2).f1)) ∧ w'.cell? (ad114.add ((x8_2).toNat * 2)) = some (.int .i64 ((rd_T40 t101 x8_2).f0)) ∧ w'.cell? ⟨(ad114.add ((x8_2).toNat * 2)).block, (ad114.add ((x8_2).toNat * 2)).off + 1, none⟩ = some (.int .i64 ((rd_T40 t101 x8_2).f1)) ∧ w'.cell? (ad114.add ((x8_2).toNat * 2)) = some (.int .i64 ((rd_T40 t101 x8_2).f0)) ∧ w'.cell? ⟨(ad114.add ((x8_2).toNat * 2)).block, (ad114.add ((x8_2).toNat * 2)).off + 1, none⟩ = some (.int .i64 ((rd_T40 t101 x8_2).f1))) (ds := []) (tf 0 25) (by kernel_rfl) rfl rfl ⟨hx114_0, hx114_1, hx116_0, hx116_1, hx117_0, hx117_1⟩ (fun hHeld => ?_); refine with_tabW laws_FnSetOf.tab11 laws_FnSetOf.bits11 (fun HT_ HW_ => ?_)
           generalize wr.drew = w30 at HO_3 HO_4 HB hx114_0 hx114_1 hx116_0 hx116_1 hx117_0 hx117_1 hHeld ⊢
           refine pv HT_ 0 55 (tf 1 24) ?_
           refine pv HT_ 1 56 (tf 2 23) ?_
           refine pv HT_ 2 57 (tf 3 22) ?_
           refine pv HT_ 3 58 (tf 4 21) ?_
           refine pv HT_ 4 59 (tf 5 20) ?_
           refine tk 5 (some 60) (tf 6 19) (take_ofW HT_.out HW_.out (by kernel_rfl)) hHeld ?_
           refine one_ (i := 6) (N := some 61) (tf 7 18) rfl rfl (one_of HT_.out (by kernel_rfl)) (by decide) (fun K hK => ?_)
           refine goes_ Try.func15 (by kernel_rfl) rfl #[.slice Ao31 t104.length co31, .int .i64 ((rd_T40 t101 x8_2).f0)] (by rfl) rfl rfl MT ?_
           with_reducible refine (impl_SetHas.calls k2 _ _ t104 ((rd_T40 t101 x8_2).f0) true _ ?side1 ?side2 A25.out).mono ?_
           (case side1 => exact KC (Kd.R_reads' HO_4.out).2.2)
           (case side2 => exact (Kd.R_reads' HO_4.out).2.1)
           rintro e w32 ⟨rfl, hb⟩
           have HS0_ := (hb.cell (World.block_lt_of_cell? _ _ (hHeld.1))).trans (hHeld.1)
           have HS1_ := (hb.cell (World.block_lt_of_cell? _ _ (hHeld.2.1))).trans (hHeld.2.1)
           have HS2_ := (hb.cell (World.block_lt_of_cell? _ _ (hHeld.2.2.1))).trans (hHeld.2.2.1)
           have HS3_ := (hb.cell (World.block_lt_of_cell? _ _ (hHeld.2.2.2.1))).trans (hHeld.2.2.2.1)
           have HS4_ := (hb.cell (World.block_lt_of_cell? _ _ (hHeld.2.2.2.2.1))).trans (hHeld.2.2.2.2.1)
           have HS5_ := (hb.cell (World.block_lt_of_cell? _ _ (hHeld.2.2.2.2.2))).trans (hHeld.2.2.2.2.2)
           refine ⟨_, rfl, ?_⟩
           replace HO_3 := am (Kd.R_below (KR HO_3) hb)
           replace HO_4 := am (Kd.R_below (KR HO_4) hb)
           replace HB := am (below_step (KL HB) hb)
           (try clear hb)
           (try clear hb2)
           (try clear hk)
           (try clear hi)
           refine hK.out _ _ ⟨HS0_, HS1_, HS2_, HS3_, HS4_, HS5_⟩ (fun hHeld => ?_)
           clear hK K
           refine norm_ (a' := ?_) ?_ ?_
           rotate_left
           ·show Act.put _ (some 61) _ = _
            simp only [Act.put, List.setIfInBounds_toArray, List.set_cons_zero, List.set_cons_succ, i64_w, i32_w]
            rfl
           refine pv HT_ 7 62 (tf 8 17) ?_
           refine pv HT_ 8 63 (tf 9 16) ?_
           refine pv HT_ 9 64 (tf 10 15) ?_
           refine pv HT_ 10 65 (tf 11 14) ?_
           refine pv HT_ 11 66 (tf 12 13) ?_
           refine pv HT_ 12 67 (tf 13 12) ?_
           refine pv HT_ 13 68 (tf 14 11) ?_
           refine pv HT_ 15 70 (tr [14, 1, 1, 9]) ?_
           refine pv HT_ 16 71 (tr [14, 1, 2, 8]) ?_
           refine pv HT_ 17 72 (tr [14, 1, 3, 7]) ?_
           refine tk 14 (some 69) (tf 18 7) (take_ofW HT_.out HW_.out (by kernel_rfl)) hHeld ?_
           refine tk 18 (some 73) (tf 19 6) (take_ofW HT_.out HW_.out (by kernel_rfl)) hHeld ?_
           refine one_ (i := 19) (N := some 74) (tf 20 5) rfl rfl (one_of HT_.out (by kernel_rfl)) (by decide) (fun K hK => ?_)
           refine goes_ Try.func23 (by kernel_rfl) rfl #[.agg #[.int .i64 ((rd_T40 t101 x8_2).f0), .int .i64 ((rd_T40 t101 x8_2).f1)]] (by rfl) rfl rfl MT ?_
           with_reducible refine (impl_BlockSize.calls ((rd_T40 t101 x8_2).f0) ((rd_T40 t101 x8_2).f1) t118 _ A27.out).mono ?_
           rintro e w33 ⟨rfl, hb⟩
           have HS0_ := (hb.cell (World.block_lt_of_cell? _ _ (hHeld.1))).trans (hHeld.1)
           have HS1_ := (hb.cell (World.block_lt_of_cell? _ _ (hHeld.2.1))).trans (hHeld.2.1)
           have HS2_ := (hb.cell (World.block_lt_of_cell? _ _ (hHeld.2.2.1))).trans (hHeld.2.2.1)
           have HS3_ := (hb.cell (World.block_lt_of_cell? _ _ (hHeld.2.2.2.1))).trans (hHeld.2.2.2.1)
           have HS4_ := (hb.cell (World.block_lt_of_cell? _ _ (hHeld.2.2.2.2.1))).trans (hHeld.2.2.2.2.1)
           have HS5_ := (hb.cell (World.block_lt_of_cell? _ _ (hHeld.2.2.2.2.2))).trans (hHeld.2.2.2.2.2)
           refine ⟨_, rfl, ?_⟩
           replace HO_3 := am (Kd.R_below (KR HO_3) hb)
           replace HO_4 := am (Kd.R_below (KR HO_4) hb)
           replace HB := am (below_step (KL HB) hb)
           (try clear hb)
           (try clear hb2)
           (try clear hk)
           (try clear hi)
           refine hK.out _ _ ⟨HS0_, HS1_, HS2_, HS3_, HS4_, HS5_⟩ (fun hHeld => ?_)
           clear hK K
           refine norm_ (a' := ?_) ?_ ?_
           rotate_left
           ·show Act.put _ (some 74) _ = _
            simp only [Act.put, List.setIfInBounds_toArray, List.set_cons_zero, List.set_cons_succ, i64_w, i32_w]
            rfl
           refine pv HT_ 20 75 (tf 21 4) ?_
           refine pv HT_ 21 76 (tf 22 3) ?_
           refine one_ (i := 22) (N := some 77) (tf 23 2) rfl rfl (one_of HT_.out (by kernel_rfl)) (by decide) (fun K hK => ?_)
           refine goes_ Try.func15 (by kernel_rfl) rfl #[.slice Ao31 t104.length co31, .int .i64 (wrap64 ((wrap64 (((rd_T40 t101 x8_2).f0) + t118)) - 1))] (by rfl) rfl rfl MT ?_
           with_reducible refine (impl_SetHas.calls k2 _ _ t104 (wrap64 ((wrap64 (((rd_T40 t101 x8_2).f0) + t118)) - 1)) true _ ?side1 ?side2 A28.out).mono ?_
           (case side1 => exact KC (Kd.R_reads' HO_4.out).2.2)
           (case side2 => exact (Kd.R_reads' HO_4.out).2.1)
           rintro e w34 ⟨rfl, hb⟩
           have HS0_ := (hb.cell (World.block_lt_of_cell? _ _ (hHeld.1))).trans (hHeld.1)
           have HS1_ := (hb.cell (World.block_lt_of_cell? _ _ (hHeld.2.1))).trans (hHeld.2.1)
           have HS2_ := (hb.cell (World.block_lt_of_cell? _ _ (hHeld.2.2.1))).trans (hHeld.2.2.1)
           have HS3_ := (hb.cell (World.block_lt_of_cell? _ _ (hHeld.2.2.2.1))).trans (hHeld.2.2.2.1)
           have HS4_ := (hb.cell (World.block_lt_of_cell? _ _ (hHeld.2.2.2.2.1))).trans (hHeld.2.2.2.2.1)
           have HS5_ := (hb.cell (World.block_lt_of_cell? _ _ (hHeld.2.2.2.2.2))).trans (hHeld.2.2.2.2.2)
           refine ⟨_, rfl, ?_⟩
           replace HO_3 := am (Kd.R_below (KR HO_3) hb)
           replace HO_4 := am (Kd.R_below (KR HO_4) hb)
           replace HB := am (below_step (KL HB) hb)
           (try clear hb)
           (try clear hb2)
           (try clear hk)
           (try clear hi)
           refine hK.out _ _ ⟨HS0_, HS1_, HS2_, HS3_, HS4_, HS5_⟩ (fun hHeld => ?_)
           clear hK K
           refine norm_ (a' := ?_) ?_ ?_
           rotate_left
           ·show Act.put _ (some 77) _ = _
            simp only [Act.put, List.setIfInBounds_toArray, List.set_cons_zero, List.set_cons_succ, i64_w, i32_w]
            rfl
           refine pv HT_ 23 78 (tf 24 1) ?_
           refine pv HT_ 24 79 (tf 25 0) ?_
           refine done_ (done_of HT_.out (by kernel_rfl)) ?_
           try go_wp2
           go_roundg k2
           case measure => have := HJ5.out; have := HK2.out; omega
           case rel => exact ⟨(wrap64 (x8_2 + 1)), (by first | rfl | (simp; done) | (simp [*]; done)), H', ⟨by have := HJ5.out; have := HK2.out; omega⟩, ⟨KR HO_3⟩, ⟨KR HO_4⟩, ⟨KL HB⟩⟩
          ·replace c29 := Bool.eq_false_iff.mpr c29
           subst c29
           have H1 : (some false) = some r := by rw [if_neg (show ¬ (false = true) by decide)] at H; exact H
           clear H
           have H := H1
           clear H1
           exact absurd ((Option.some.inj H).trans HR_.out) (by decide)
         ·replace c26 := Bool.eq_false_iff.mpr c26
          subst c26
          have H1 : (some false) = some r := by rw [if_neg (show ¬ (false = true) by decide)] at H; exact H
          clear H
          have H := H1
          clear H1
          exact absurd ((Option.some.inj H).trans HR_.out) (by decide)
        ·rw [if_neg c24] at H
         exact absurd H (by simp)
       ·rw [if_neg c23] at H
        have c23b0 : decide (x8_2 < (t101.length : Int)) = false := decide_eq_false c23
        clear c23
        have H' := Aside0.mk H
        clear H
        go_wp2
        go_loopg [9] k2 (fun kq v9 w' => ∃ (x9_3 : Int), v9 = .int .i64 x9_3 ∧ Aside0 (laws_FnSetOf.l1 kq t104 x9_3 = some r) ∧ Aside0 (kq ≤ k2) ∧ Aside0 (Kd.R k40 40 w' w.heap.size (fun _ => True) v106 t104) ∧ Aside0 (Below w.heap.size w w'))
        case atStart => exact ⟨(1), (by first | rfl | (simp; done) | (simp [*]; done)), H', ⟨Nat.le_refl _⟩, ⟨by (with_reducible repeat (first | apply Kd.R_alloc | apply Kd.R_drewN | apply Kd.R_drew)); exact Kd.R_mono HO_4.out (fun _ hk => trivial)⟩, ⟨KL HB⟩⟩
        case round =>
         clear H'
         try clear c1
         try clear p1
         try clear q1
         try clear hx1
         try clear c2
         try clear c2b0
         try clear c2b1
         try clear p2
         try clear c5
         try clear p6
         try clear c11
         try clear c11b0
         try clear c11b1
         try clear c11b2
         try clear p11
         try clear q11
         try clear hx11
         try clear c13
         try clear c15
         try clear c18
         try clear c19
         try clear c19b0
         try clear c19b1
         try clear c19b2
         try clear c20
         try clear c21
         try clear c22
         try clear c23
         try clear c23b0
         try clear c24
         try clear c24b0
         try clear c26
         try clear c29
         try clear hx114_0
         try clear hx114_1
         try clear hx116_0
         try clear hx116_1
         try clear hx117_0
         try clear hx117_1
         try clear p114
         try clear p116
         try clear p117
         try clear p2
         try clear q114
         try clear q116
         try clear q117
         obtain ⟨x9_3, rfl, HA, HK3, HO_4, HB⟩ := hrel
         cases gk with
         | zero => exact absurd HA.out (by simp [laws_FnSetOf.l1])
         | succ k3 =>
          have H := HA.out
          clear HA
          simp only [laws_FnSetOf.l1] at H
          by_cases c35 : x9_3 < (t104.length : Int)
          ·rw [if_pos c35] at H
           have c35b0 : decide (x9_3 < (t104.length : Int)) = true := decide_eq_true c35
           clear c35
           obtain ⟨ji36, hji36⟩ : ∃ j_ : Int, (wrap64 (x9_3 - 1)) = j_ := ⟨_, rfl⟩
           replace H : (if 0 ≤ (ji36) then (if (ji36) < (t104.length : Int) then (if 0 ≤ x9_3 then ((impl_BlockOver.f k3 ((rd_T40 t104 (ji36)).f0) ((rd_T40 t104 (ji36)).f1) ((rd_T40 t104 x9_3).f0) ((rd_T40 t104 x9_3).f1)).bind fun bt128 => (if ((rd_T40 t104 (ji36)).f0) ≥ ((rd_T40 t104 x9_3).f0) then (some false) else ((impl_BlockMeets.f ((rd_T40 t104 (ji36)).f0) ((rd_T40 t104 (ji36)).f1) ((rd_T40 t104 x9_3).f0) ((rd_T40 t104 x9_3).f1)).bind fun t135 => (if t135 = true then (some false) else ((impl_BlockSize.f bt128.1 bt128.2).bind fun t136 => ((impl_BlockSize.f ((rd_T40 t104 (ji36)).f0) ((rd_T40 t104 (ji36)).f1)).bind fun t138 => ((impl_BlockSize.f ((rd_T40 t104 x9_3).f0) ((rd_T40 t104 x9_3).f1)).bind fun t140 => (if t136 = (wrap64 (t138 + t140)) then (if ((rd_T40 t104 (ji36)).f1) = ((rd_T40 t104 x9_3).f1) then (some false) else (laws_FnSetOf.l1 k3 t104 (wrap64 (x9_3 + 1)))) else (laws_FnSetOf.l1 k3 t104 (wrap64 (x9_3 + 1))))))))))) else (none)) else (none)) else (none)) = some r := by first | (rw [hji36] at H; exact H) | (simp only [hji36] at H ⊢; exact H)
           have hji36w : (IntKind.i64.wrap (x9_3 - 1)) = ji36 := (i64_w _).trans hji36
           by_cases c37 : 0 ≤ (ji36)
           ·rw [if_pos c37] at H
            have c37b0 : decide (0 ≤ (ji36)) = true := decide_eq_true c37
            clear c37
            by_cases c38 : (ji36) < (t104.length : Int)
            ·rw [if_pos c38] at H
             have c38b0 : decide ((ji36) < (t104.length : Int)) = true := decide_eq_true c38
             clear c38
             by_cases c39 : 0 ≤ x9_3
             ·rw [if_pos c39] at H
              have c39b0 : decide (0 ≤ x9_3) = true := decide_eq_true c39
              clear c39
              replace H := Option.bind_eq_some_iff.mp H
              obtain ⟨⟨t128, t129⟩, A400, H⟩ := H
              replace H : (if ((rd_T40 t104 (ji36)).f0) ≥ ((rd_T40 t104 x9_3).f0) then (some false) else ((impl_BlockMeets.f ((rd_T40 t104 (ji36)).f0) ((rd_T40 t104 (ji36)).f1) ((rd_T40 t104 x9_3).f0) ((rd_T40 t104 x9_3).f1)).bind fun t135 => (if t135 = true then (some false) else ((impl_BlockSize.f t128 t129).bind fun t136 => ((impl_BlockSize.f ((rd_T40 t104 (ji36)).f0) ((rd_T40 t104 (ji36)).f1)).bind fun t138 => ((impl_BlockSize.f ((rd_T40 t104 x9_3).f0) ((rd_T40 t104 x9_3).f1)).bind fun t140 => (if t136 = (wrap64 (t138 + t140)) then (if ((rd_T40 t104 (ji36)).f1) = ((rd_T40 t104 x9_3).f1) then (some false) else (laws_FnSetOf.l1 k3 t104 (wrap64 (x9_3 + 1)))) else (laws_FnSetOf.l1 k3 t104 (wrap64 (x9_3 + 1)))))))))) = some r := H
              have A40 := Aside0.mk A400
              clear A400
              by_cases c41 : ((rd_T40 t104 (ji36)).f0) ≥ ((rd_T40 t104 x9_3).f0)
              ·rw [if_pos c41] at H
               have c41b0 : decide (((rd_T40 t104 x9_3).f0) ≤ ((rd_T40 t104 (ji36)).f0)) = true := decide_eq_true c41
               clear c41
               exact absurd ((Option.some.inj H).trans HR_.out) (by decide)
              ·rw [if_neg c41] at H
               have c41b0 : decide (((rd_T40 t104 x9_3).f0) ≤ ((rd_T40 t104 (ji36)).f0)) = false := decide_eq_false c41
               clear c41
               replace H := Option.bind_eq_some_iff.mp H
               obtain ⟨t135, A420, H⟩ := H
               replace H : (if t135 = true then (some false) else ((impl_BlockSize.f t128 t129).bind fun t136 => ((impl_BlockSize.f ((rd_T40 t104 (ji36)).f0) ((rd_T40 t104 (ji36)).f1)).bind fun t138 => ((impl_BlockSize.f ((rd_T40 t104 x9_3).f0) ((rd_T40 t104 x9_3).f1)).bind fun t140 => (if t136 = (wrap64 (t138 + t140)) then (if ((rd_T40 t104 (ji36)).f1) = ((rd_T40 t104 x9_3).f1) then (some false) else (laws_FnSetOf.l1 k3 t104 (wrap64 (x9_3 + 1)))) else (laws_FnSetOf.l1 k3 t104 (wrap64 (x9_3 + 1)))))))) = some r := H
               have A42 := Aside0.mk A420
               clear A420
               by_cases c43 : t135 = true
               ·subst c43
                have H1 : (some false) = some r := by rw [if_pos rfl] at H; exact H
                clear H
                have H := H1
                clear H1
                exact absurd ((Option.some.inj H).trans HR_.out) (by decide)
               ·replace c43 := Bool.eq_false_iff.mpr c43
                subst c43
                have H1 : ((impl_BlockSize.f t128 t129).bind fun t136 => ((impl_BlockSize.f ((rd_T40 t104 (ji36)).f0) ((rd_T40 t104 (ji36)).f1)).bind fun t138 => ((impl_BlockSize.f ((rd_T40 t104 x9_3).f0) ((rd_T40 t104 x9_3).f1)).bind fun t140 => (if t136 = (wrap64 (t138 + t140)) then (if ((rd_T40 t104 (ji36)).f1) = ((rd_T40 t104 x9_3).f1) then (some false) else (laws_FnSetOf.l1 k3 t104 (wrap64 (x9_3 + 1)))) else (laws_FnSetOf.l1 k3 t104 (wrap64 (x9_3 + 1))))))) = some r := by rw [if_neg (show ¬ (false = true) by decide)] at H; exact H
                clear H
                have H := H1
                clear H1
                replace H := Option.bind_eq_some_iff.mp H
                obtain ⟨t136, A440, H⟩ := H
                replace H : ((impl_BlockSize.f ((rd_T40 t104 (ji36)).f0) ((rd_T40 t104 (ji36)).f1)).bind fun t138 => ((impl_BlockSize.f ((rd_T40 t104 x9_3).f0) ((rd_T40 t104 x9_3).f1)).bind fun t140 => (if t136 = (wrap64 (t138 + t140)) then (if ((rd_T40 t104 (ji36)).f1) = ((rd_T40 t104 x9_3).f1) then (some false) else (laws_FnSetOf.l1 k3 t104 (wrap64 (x9_3 + 1)))) else (laws_FnSetOf.l1 k3 t104 (wrap64 (x9_3 + 1)))))) = some r := H
                have A44 := Aside0.mk A440
                clear A440
                replace H := Option.bind_eq_some_iff.mp H
                obtain ⟨t138, A450, H⟩ := H
                replace H : ((impl_BlockSize.f ((rd_T40 t104 x9_3).f0) ((rd_T40 t104 x9_3).f1)).bind fun t140 => (if t136 = (wrap64 (t138 + t140)) then (if ((rd_T40 t104 (ji36)).f1) = ((rd_T40 t104 x9_3).f1) then (some false) else (laws_FnSetOf.l1 k3 t104 (wrap64 (x9_3 + 1)))) else (laws_FnSetOf.l1 k3 t104 (wrap64 (x9_3 + 1))))) = some r := H
                have A45 := Aside0.mk A450
                clear A450
                replace H := Option.bind_eq_some_iff.mp H
                obtain ⟨t140, A460, H⟩ := H
                replace H : (if t136 = (wrap64 (t138 + t140)) then (if ((rd_T40 t104 (ji36)).f1) = ((rd_T40 t104 x9_3).f1) then (some false) else (laws_FnSetOf.l1 k3 t104 (wrap64 (x9_3 + 1)))) else (laws_FnSetOf.l1 k3 t104 (wrap64 (x9_3 + 1)))) = some r := H
                have A46 := Aside0.mk A460
                clear A460
                by_cases c47 : t136 = (wrap64 (t138 + t140))
                ·rw [if_pos c47] at H
                 have c47b0 : (t136 == (wrap64 (t138 + t140))) = true := beq_iff_eq.mpr c47
                 have c47b1 : (t136 != (wrap64 (t138 + t140))) = false := bne_eq_false_iff_eq.mpr c47
                 clear c47
                 by_cases c48 : ((rd_T40 t104 (ji36)).f1) = ((rd_T40 t104 x9_3).f1)
                 ·rw [if_pos c48] at H
                  have c48b0 : (((rd_T40 t104 (ji36)).f1) == ((rd_T40 t104 x9_3).f1)) = true := beq_iff_eq.mpr c48
                  have c48b1 : (((rd_T40 t104 (ji36)).f1) != ((rd_T40 t104 x9_3).f1)) = false := bne_eq_false_iff_eq.mpr c48
                  clear c48
                  exact absurd ((Option.some.inj H).trans HR_.out) (by decide)
                 ·rw [if_neg c48] at H
                  have c48b0 : (((rd_T40 t104 (ji36)).f1) == ((rd_T40 t104 x9_3).f1)) = false := beq_eq_false_iff_ne.mpr c48
                  have c48b1 : (((rd_T40 t104 (ji36)).f1) != ((rd_T40 t104 x9_3).f1)) = true := bne_iff_ne.mpr c48
                  have H' := Aside0.mk H
                  clear H
                  obtain ⟨Ao49, co49, eo49⟩ := Kd.R_slice HO_4.out
                  subst eo49
                  try go_wp2
                  replace HO_4 := am (Kd.R_drew HO_4.out)
                  replace HB := am (below_drew1 HB.out)
                  have p126 : 0 ≤ ((ji36) : Int) := OD
                  have q126 : (ji36) < (t104.length : Int) := OD
                  obtain ⟨ad126, e126, hx126_0, hx126_1⟩ := at_T40 (Kd.R_reads' HO_4.out).2.2 (ji36) p126 q126
                  cases e126
                  replace p126 := eq_true p126
                  replace q126 := eq_true q126
                  have p127 : 0 ≤ (x9_3 : Int) := OD
                  have q127 : x9_3 < (t104.length : Int) := OD
                  obtain ⟨ad127, e127, hx127_0, hx127_1⟩ := at_T40 (Kd.R_reads' HO_4.out).2.2 x9_3 p127 q127
                  obtain rfl : ad126 = ad127 := (by injection e127)
                  replace p127 := eq_true p127
                  replace q127 := eq_true q127
                  refine start_ (n := 12) (S := fun w' => w'.cell? (ad126.add (((ji36)).toNat * 2)) = some (.int .i64 ((rd_T40 t104 (ji36)).f0)) ∧ w'.cell? ⟨(ad126.add (((ji36)).toNat * 2)).block, (ad126.add (((ji36)).toNat * 2)).off + 1, none⟩ = some (.int .i64 ((rd_T40 t104 (ji36)).f1)) ∧ w'.cell? (ad126.add ((x9_3).toNat * 2)) = some (.int .i64 ((rd_T40 t104 x9_3).f0)) ∧ w'.cell? ⟨(ad126.add ((x9_3).toNat * 2)).block, (ad126.add ((x9_3).toNat * 2)).off + 1, none⟩ = some (.int .i64 ((rd_T40 t104 x9_3).f1))) (ds := []) (tf 0 12) (by kernel_rfl) rfl rfl ⟨hx126_0, hx126_1, hx127_0, hx127_1⟩ (fun hHeld => ?_); refine with_tabW laws_FnSetOf.tab16 laws_FnSetOf.bits16 (fun HT_ HW_ => ?_)
                  generalize wr.drew = w50 at HO_4 HB hx126_0 hx126_1 hx127_0 hx127_1 hHeld ⊢
                  refine pv HT_ 0 86 (tf 1 11) ?_
                  refine pv HT_ 1 87 (tf 2 10) ?_
                  refine pv HT_ 2 88 (tf 3 9) ?_
                  refine pv HT_ 3 89 (tf 4 8) ?_
                  refine pv HT_ 5 91 (tr [4, 1, 1, 6]) ?_
                  refine pv HT_ 6 92 (tr [4, 1, 2, 5]) ?_
                  refine pv HT_ 7 93 (tr [4, 1, 3, 4]) ?_
                  refine tk 4 (some 90) (tf 8 4) (take_ofW HT_.out HW_.out (by kernel_rfl)) hHeld ?_
                  refine tk 8 (some 94) (tf 9 3) (take_ofW HT_.out HW_.out (by kernel_rfl)) hHeld ?_
                  refine join_ (σ := Nat) 1 (tf 11 1) (fun s_ => [(95, .agg #[.int .i64 t128, .int .i64 t129]), (10, .pointer (some ⟨s_, 0, none⟩))]) (fun s_ w' => (w'.cell? (ad126.add (((ji36)).toNat * 2)) = some (.int .i64 ((rd_T40 t104 (ji36)).f0)) ∧ w'.cell? ⟨(ad126.add (((ji36)).toNat * 2)).block, (ad126.add (((ji36)).toNat * 2)).off + 1, none⟩ = some (.int .i64 ((rd_T40 t104 (ji36)).f1)) ∧ w'.cell? (ad126.add ((x9_3).toNat * 2)) = some (.int .i64 ((rd_T40 t104 x9_3).f0)) ∧ w'.cell? ⟨(ad126.add ((x9_3).toNat * 2)).block, (ad126.add ((x9_3).toNat * 2)).off + 1, none⟩ = some (.int .i64 ((rd_T40 t104 x9_3).f1))) ∧ (Kd.R k40 40 w' w.heap.size (fun k_ => k_ ≠ s_) (.slice (some ad126) t104.length co49) t104) ∧ (w'.heap[s_]? = some (.cells #[.int .i64 0, .int .i64 0] 40 (0, 0))) ∧ (w.heap.size ≤ s_) ∧ (w.heap.size ≤ s_) ∧ (Below w.heap.size w w')) ?_ ?_
                  rotate_left
                  ·intro hCont
                   refine two_ (i := 9) (j := 10) (Ni := some 95) (Nj := some 10) (tf 10 2) (tr [9, 1, 1, 1]) rfl rfl rfl rfl (two_of HT_.out (by kernel_rfl)) (by decide) (by decide) (fun K hK => ?_) (fun K hK => ?_)
                   ·skip
                    refine goes_ Try.func24 (by kernel_rfl) rfl #[.agg #[.int .i64 ((rd_T40 t104 (ji36)).f0), .int .i64 ((rd_T40 t104 (ji36)).f1)], .agg #[.int .i64 ((rd_T40 t104 x9_3).f0), .int .i64 ((rd_T40 t104 x9_3).f1)]] (by rfl) rfl rfl (by (try simp only [List.map_toArray, List.map_cons, List.map_nil]); first | done | (simp only [hji36]; rfl) | rfl | (simp only [List.length_drop, List.length_take]; rfl)) ?_
                    with_reducible refine (impl_BlockOver.calls k3 ((rd_T40 t104 (ji36)).f0) ((rd_T40 t104 (ji36)).f1) ((rd_T40 t104 x9_3).f0) ((rd_T40 t104 x9_3).f1) t128 t129 _ A40.out).mono ?_
                    rintro e w51 ⟨rfl, hb⟩
                    have HS0_ := (hb.cell (World.block_lt_of_cell? _ _ (hHeld.1))).trans (hHeld.1)
                    have HS1_ := (hb.cell (World.block_lt_of_cell? _ _ (hHeld.2.1))).trans (hHeld.2.1)
                    have HS2_ := (hb.cell (World.block_lt_of_cell? _ _ (hHeld.2.2.1))).trans (hHeld.2.2.1)
                    have HS3_ := (hb.cell (World.block_lt_of_cell? _ _ (hHeld.2.2.2))).trans (hHeld.2.2.2)
                    refine ⟨_, rfl, ?_⟩
                    replace HO_4 := am (Kd.R_below (KR HO_4) hb)
                    replace HB := am (below_step (KL HB) hb)
                    (try clear hb)
                    (try clear hb2)
                    (try clear hk)
                    (try clear hi)
                    refine hK.out _ _ ⟨HS0_, HS1_, HS2_, HS3_⟩ (fun hHeld => ?_)
                    clear hK K
                    refine norm_ (a' := ?_) ?_ ?_
                    rotate_left
                    ·show Act.put _ (some 95) _ = _
                     simp only [Act.put, List.setIfInBounds_toArray, List.set_cons_zero, List.set_cons_succ, i64_w, i32_w]
                     rfl
                    refine one_ (i := 10) (N := some 10) (tf 11 1) rfl rfl (one_of HT_.out (by kernel_rfl)) (by decide) (fun K hK => ?_)
                    refine box_step rfl (N := 10) rfl (cs := #[.int .i64 0, .int .i64 0]) (t := 40) BX ?_
                    intro gb130 hg w52 hbox hb
                    have HS0_ := (hb.cell (World.block_lt_of_cell? _ _ (hHeld.1))).trans (hHeld.1)
                    have HS1_ := (hb.cell (World.block_lt_of_cell? _ _ (hHeld.2.1))).trans (hHeld.2.1)
                    have HS2_ := (hb.cell (World.block_lt_of_cell? _ _ (hHeld.2.2.1))).trans (hHeld.2.2.1)
                    have HS3_ := (hb.cell (World.block_lt_of_cell? _ _ (hHeld.2.2.2))).trans (hHeld.2.2.2)
                    replace HO_4 := am (Kd.R_below (Kd.R_elderB (KR HO_4) gb130 (Nat.le_of_eq hg.symm)) hb)
                    have BK130 := am (hbox)
                    have GW130 := am (GH HB hg)
                    have GE130 := GW130
                    replace HB := am (below_step (KL HB) hb)
                    clear hb hbox hg
                    refine hK.out _ _ ⟨HS0_, HS1_, HS2_, HS3_⟩ (fun hHeld => ?_)
                    clear hK K
                    refine norm_ (a' := ?_) ?_ ?_
                    rotate_left
                    ·show Act.put _ (some 10) _ = _
                     simp only [Act.put, List.setIfInBounds_toArray, List.set_cons_zero, List.set_cons_succ, i64_w, i32_w]
                     rfl
                    exact norm_ (by simp only [putAll, Act.put, List.setIfInBounds_toArray, List.set_cons_zero, List.set_cons_succ]) (hCont (gb130) _ ⟨hHeld, (by (with_reducible repeat (first | apply Kd.R_alloc | apply Kd.R_drewN | apply Kd.R_drew)); exact Kd.R_mono HO_4.out (fun _ hk => hk.2)), (KB BK130), GW130.out, GE130.out, (K1 HB GE130.out)⟩)
                   ·skip
                    refine box_step rfl (N := 10) rfl (cs := #[.int .i64 0, .int .i64 0]) (t := 40) BX ?_
                    intro gb130 hg w51 hbox hb
                    have HS0_ := (hb.cell (World.block_lt_of_cell? _ _ (hHeld.1))).trans (hHeld.1)
                    have HS1_ := (hb.cell (World.block_lt_of_cell? _ _ (hHeld.2.1))).trans (hHeld.2.1)
                    have HS2_ := (hb.cell (World.block_lt_of_cell? _ _ (hHeld.2.2.1))).trans (hHeld.2.2.1)
                    have HS3_ := (hb.cell (World.block_lt_of_cell? _ _ (hHeld.2.2.2))).trans (hHeld.2.2.2)
                    replace HO_4 := am (Kd.R_below (Kd.R_elderB (KR HO_4) gb130 (Nat.le_of_eq hg.symm)) hb)
                    have BK130 := am (hbox)
                    have GW130 := am (GH HB hg)
                    have GE130 := GW130
                    replace HB := am (below_step (KL HB) hb)
                    clear hb hbox hg
                    refine hK.out _ _ ⟨HS0_, HS1_, HS2_, HS3_⟩ (fun hHeld => ?_)
                    clear hK K
                    refine norm_ (a' := ?_) ?_ ?_
                    rotate_left
                    ·show Act.put _ (some 10) _ = _
                     simp only [Act.put, List.setIfInBounds_toArray, List.set_cons_zero, List.set_cons_succ, i64_w, i32_w]
                     rfl
                    refine one_ (i := 9) (N := some 95) (tf 11 1) rfl rfl (one_of HT_.out (by kernel_rfl)) (by decide) (fun K hK => ?_)
                    refine goes_ Try.func24 (by kernel_rfl) rfl #[.agg #[.int .i64 ((rd_T40 t104 (ji36)).f0), .int .i64 ((rd_T40 t104 (ji36)).f1)], .agg #[.int .i64 ((rd_T40 t104 x9_3).f0), .int .i64 ((rd_T40 t104 x9_3).f1)]] (by rfl) rfl rfl (by (try simp only [List.map_toArray, List.map_cons, List.map_nil]); first | done | (simp only [hji36]; rfl) | rfl | (simp only [List.length_drop, List.length_take]; rfl)) ?_
                    with_reducible refine (impl_BlockOver.calls k3 ((rd_T40 t104 (ji36)).f0) ((rd_T40 t104 (ji36)).f1) ((rd_T40 t104 x9_3).f0) ((rd_T40 t104 x9_3).f1) t128 t129 _ A40.out).mono ?_
                    rintro e w52 ⟨rfl, hb⟩
                    have HS0_ := (hb.cell (World.block_lt_of_cell? _ _ (hHeld.1))).trans (hHeld.1)
                    have HS1_ := (hb.cell (World.block_lt_of_cell? _ _ (hHeld.2.1))).trans (hHeld.2.1)
                    have HS2_ := (hb.cell (World.block_lt_of_cell? _ _ (hHeld.2.2.1))).trans (hHeld.2.2.1)
                    have HS3_ := (hb.cell (World.block_lt_of_cell? _ _ (hHeld.2.2.2))).trans (hHeld.2.2.2)
                    refine ⟨_, rfl, ?_⟩
                    replace HO_4 := am (Kd.R_below (KR HO_4) hb)
                    replace BK130 := am (BB BK130 hb)
                    replace HB := am (below_step (K1 HB GE130.out) hb)
                    (try clear hb)
                    (try clear hb2)
                    (try clear hk)
                    (try clear hi)
                    refine hK.out _ _ ⟨HS0_, HS1_, HS2_, HS3_⟩ (fun hHeld => ?_)
                    clear hK K
                    refine norm_ (a' := ?_) ?_ ?_
                    rotate_left
                    ·show Act.put _ (some 95) _ = _
                     simp only [Act.put, List.setIfInBounds_toArray, List.set_cons_zero, List.set_cons_succ, i64_w, i32_w]
                     rfl
                    exact norm_ (by simp only [putAll, Act.put, List.setIfInBounds_toArray, List.set_cons_zero, List.set_cons_succ]) (hCont (gb130) _ ⟨hHeld, (by (with_reducible repeat (first | apply Kd.R_alloc | apply Kd.R_drewN | apply Kd.R_drew)); exact Kd.R_mono HO_4.out (fun _ hk => hk.2)), (KB BK130), GW130.out, GE130.out, (K1 HB GE130.out)⟩)
                  rintro gb130 w53 ⟨hS_, h0_, h1_, h2_, h3_, h4_⟩
                  replace HO_4 : Aside0 (Kd.R k40 40 w53 w.heap.size (fun k_ => k_ ≠ gb130) (.slice (some ad126) t104.length co49) t104) := ⟨h0_⟩
                  have BK130 : Aside0 (bk w53 gb130 #[.int .i64 0, .int .i64 0] 40) := ⟨h1_⟩
                  have GW130 : Aside0 (w.heap.size ≤ gb130) := ⟨h2_⟩
                  have GE130 : Aside0 (w.heap.size ≤ gb130) := ⟨h3_⟩
                  replace HB : Aside0 (Below w.heap.size w w53) := ⟨h4_⟩
                  clear h0_ h1_ h2_ h3_ h4_
                  have hHeld : w53.cell? (ad126.add (((ji36)).toNat * 2)) = some (.int .i64 ((rd_T40 t104 (ji36)).f0)) ∧ w53.cell? ⟨(ad126.add (((ji36)).toNat * 2)).block, (ad126.add (((ji36)).toNat * 2)).off + 1, none⟩ = some (.int .i64 ((rd_T40 t104 (ji36)).f1)) ∧ w53.cell? (ad126.add ((x9_3).toNat * 2)) = some (.int .i64 ((rd_T40 t104 x9_3).f0)) ∧ w53.cell? ⟨(ad126.add ((x9_3).toNat * 2)).block, (ad126.add ((x9_3).toNat * 2)).off + 1, none⟩ = some (.int .i64 ((rd_T40 t104 x9_3).f1)) := hS_
                  refine norm_ (a' := ?_) ?_ ?_
                  rotate_left
                  ·simp only [putAll, Act.put, List.setIfInBounds_toArray, List.set_cons_zero, List.set_cons_succ]
                   rfl
                  refine one_ (i := 11) (N := none) (tf 12 0) rfl rfl (one_of HT_.out (by kernel_rfl)) (by decide) (fun K hK => ?_)
                  have hs54 : w53.cell? ⟨gb130, 0, none⟩ = some (.int .i64 0) := z0 _ BK130.out
                  have hfs54 := blk_frozen BK130.out 0
                  have hs55 : w53.cell? ⟨gb130, 1, none⟩ = some (.int .i64 0) := z1 _ BK130.out
                  have hfs55 := blk_frozen BK130.out 1
                  refine skip_ (w1 := ?_) (by rfl) rfl ?_ ?_
                  rotate_left
                  ·go_simp
                   rfl
                  refine hK.out _ _ ⟨((cell_far (p := ⟨gb130, _, none⟩) (by first | exact Kd.own_blk (Kd.R_away HO_4.out (fun _ hk => hk)) | (rw [add_block]; exact Kd.own_blk (Kd.R_away HO_4.out (fun _ hk => hk))) | (show (Addr.add _ _).block ≠ _; rw [add_block]; exact Kd.own_blk (Kd.R_away HO_4.out (fun _ hk => hk))) | (dsimp only; exact Kd.own_blk (Kd.R_away HO_4.out (fun _ hk => hk)))) _).trans (((cell_far (p := ⟨gb130, _, none⟩) (by first | exact Kd.own_blk (Kd.R_away HO_4.out (fun _ hk => hk)) | (rw [add_block]; exact Kd.own_blk (Kd.R_away HO_4.out (fun _ hk => hk))) | (show (Addr.add _ _).block ≠ _; rw [add_block]; exact Kd.own_blk (Kd.R_away HO_4.out (fun _ hk => hk))) | (dsimp only; exact Kd.own_blk (Kd.R_away HO_4.out (fun _ hk => hk)))) _).trans (hHeld.1)))), ((cell_far (p := ⟨gb130, _, none⟩) (by first | exact Kd.own_blk (Kd.R_away HO_4.out (fun _ hk => hk)) | (rw [add_block]; exact Kd.own_blk (Kd.R_away HO_4.out (fun _ hk => hk))) | (show (Addr.add _ _).block ≠ _; rw [add_block]; exact Kd.own_blk (Kd.R_away HO_4.out (fun _ hk => hk))) | (dsimp only; exact Kd.own_blk (Kd.R_away HO_4.out (fun _ hk => hk)))) _).trans (((cell_far (p := ⟨gb130, _, none⟩) (by first | exact Kd.own_blk (Kd.R_away HO_4.out (fun _ hk => hk)) | (rw [add_block]; exact Kd.own_blk (Kd.R_away HO_4.out (fun _ hk => hk))) | (show (Addr.add _ _).block ≠ _; rw [add_block]; exact Kd.own_blk (Kd.R_away HO_4.out (fun _ hk => hk))) | (dsimp only; exact Kd.own_blk (Kd.R_away HO_4.out (fun _ hk => hk)))) _).trans (hHeld.2.1)))), ((cell_far (p := ⟨gb130, _, none⟩) (by first | exact Kd.own_blk (Kd.R_away HO_4.out (fun _ hk => hk)) | (rw [add_block]; exact Kd.own_blk (Kd.R_away HO_4.out (fun _ hk => hk))) | (show (Addr.add _ _).block ≠ _; rw [add_block]; exact Kd.own_blk (Kd.R_away HO_4.out (fun _ hk => hk))) | (dsimp only; exact Kd.own_blk (Kd.R_away HO_4.out (fun _ hk => hk)))) _).trans (((cell_far (p := ⟨gb130, _, none⟩) (by first | exact Kd.own_blk (Kd.R_away HO_4.out (fun _ hk => hk)) | (rw [add_block]; exact Kd.own_blk (Kd.R_away HO_4.out (fun _ hk => hk))) | (show (Addr.add _ _).block ≠ _; rw [add_block]; exact Kd.own_blk (Kd.R_away HO_4.out (fun _ hk => hk))) | (dsimp only; exact Kd.own_blk (Kd.R_away HO_4.out (fun _ hk => hk)))) _).trans (hHeld.2.2.1)))), ((cell_far (p := ⟨gb130, _, none⟩) (by first | exact Kd.own_blk (Kd.R_away HO_4.out (fun _ hk => hk)) | (rw [add_block]; exact Kd.own_blk (Kd.R_away HO_4.out (fun _ hk => hk))) | (show (Addr.add _ _).block ≠ _; rw [add_block]; exact Kd.own_blk (Kd.R_away HO_4.out (fun _ hk => hk))) | (dsimp only; exact Kd.own_blk (Kd.R_away HO_4.out (fun _ hk => hk)))) _).trans (((cell_far (p := ⟨gb130, _, none⟩) (by first | exact Kd.own_blk (Kd.R_away HO_4.out (fun _ hk => hk)) | (rw [add_block]; exact Kd.own_blk (Kd.R_away HO_4.out (fun _ hk => hk))) | (show (Addr.add _ _).block ≠ _; rw [add_block]; exact Kd.own_blk (Kd.R_away HO_4.out (fun _ hk => hk))) | (dsimp only; exact Kd.own_blk (Kd.R_away HO_4.out (fun _ hk => hk)))) _).trans (hHeld.2.2.2))))⟩ (fun hHeld => ?_)
                  clear hK K
                  refine done_ (done_of HT_.out (by kernel_rfl)) ?_
                  try go_wp2
                  generalize hq_ : ((w53.setCell ⟨gb130, 0, none⟩ (.int .i64 t128)).setCell ⟨gb130, 1, none⟩ (.int .i64 t129)) = w56
                  have n0_ : Aside0 (Kd.R k40 40 w56 w.heap.size (fun k_ => k_ ≠ gb130) (.slice (some ad126) t104.length co49) t104) := ⟨by rw [← hq_]; (with_reducible repeat (first | apply Kd.R_alloc | apply Kd.R_drewN | apply Kd.R_drew)); exact Kd.R_mono (Kd.R_far (p := ⟨gb130, 1, none⟩) (Kd.R_far (p := ⟨gb130, 0, none⟩) (Kd.R_mono HO_4.out (fun k_ hk => (⟨hk, hk⟩ : _ ∧ k_ ≠ gb130))) (fun _ hk => hk.2) (.int .i64 t128)) (fun _ hk => hk.2) (.int .i64 t129)) (fun _ hk => hk.1)⟩
                  have n1_ : Aside0 (w56.heap[gb130]? = some (.cells #[.int .i64 t128, .int .i64 t129] 40 (0, 0))) := ⟨by rw [← hq_]; exact P2 BK130⟩
                  have n2_ : Aside0 (Below w.heap.size w w56) := ⟨by rw [← hq_]; exact K1 HB GE130.out⟩
                  clear hq_
                  (try clear HO_4)
                  (try clear BK130)
                  (try clear HB)
                  have HO_4 := n0_
                  have BK130 := n1_
                  have HB := n2_
                  clear n0_ n1_ n2_
                  replace HO_4 := am (Kd.R_drew HO_4.out)
                  replace BK130 := am (blk_drew BK130.out)
                  replace HB := am (below_drew1 HB.out)
                  have p131 : 0 ≤ ((ji36) : Int) := OD
                  have q131 : (ji36) < (t104.length : Int) := OD
                  obtain ⟨ad131, e131, hx131_0, hx131_1⟩ := at_T40 (Kd.R_reads' HO_4.out).2.2 (ji36) p131 q131
                  obtain rfl : ad126 = ad131 := (by injection e131)
                  replace p131 := eq_true p131
                  replace q131 := eq_true q131
                  have p132 : 0 ≤ (x9_3 : Int) := OD
                  have q132 : x9_3 < (t104.length : Int) := OD
                  obtain ⟨ad132, e132, hx132_0, hx132_1⟩ := at_T40 (Kd.R_reads' HO_4.out).2.2 x9_3 p132 q132
                  obtain rfl : ad126 = ad132 := (by injection e132)
                  replace p132 := eq_true p132
                  replace q132 := eq_true q132
                  have p133 : 0 ≤ ((ji36) : Int) := OD
                  have q133 : (ji36) < (t104.length : Int) := OD
                  obtain ⟨ad133, e133, hx133_0, hx133_1⟩ := at_T40 (Kd.R_reads' HO_4.out).2.2 (ji36) p133 q133
                  obtain rfl : ad126 = ad133 := (by injection e133)
                  replace p133 := eq_true p133
                  replace q133 := eq_true q133
                  have p134 : 0 ≤ (x9_3 : Int) := OD
                  have q134 : x9_3 < (t104.length : Int) := OD
                  obtain ⟨ad134, e134, hx134_0, hx134_1⟩ := at_T40 (Kd.R_reads' HO_4.out).2.2 x9_3 p134 q134
                  obtain rfl : ad126 = ad134 := (by injection e134)
                  replace p134 := eq_true p134
                  replace q134 := eq_true q134
                  have p137 : 0 ≤ ((ji36) : Int) := OD
                  have q137 : (ji36) < (t104.length : Int) := OD
                  obtain ⟨ad137, e137, hx137_0, hx137_1⟩ := at_T40 (Kd.R_reads' HO_4.out).2.2 (ji36) p137 q137
                  obtain rfl : ad126 = ad137 := (by injection e137)
                  replace p137 := eq_true p137
                  replace q137 := eq_true q137
                  have p139 : 0 ≤ (x9_3 : Int) := OD
                  have q139 : x9_3 < (t104.length : Int) := OD
                  obtain ⟨ad139, e139, hx139_0, hx139_1⟩ := at_T40 (Kd.R_reads' HO_4.out).2.2 x9_3 p139 q139
                  obtain rfl : ad126 = ad139 := (by injection e139)
                  replace p139 := eq_true p139
                  replace q139 := eq_true q139
                  have p141 : 0 ≤ ((ji36) : Int) := OD
                  have q141 : (ji36) < (t104.length : Int) := OD
                  obtain ⟨ad141, e141, hx141_0, hx141_1⟩ := at_T40 (Kd.R_reads' HO_4.out).2.2 (ji36) p141 q141
                  obtain rfl : ad126 = ad141 := (by injection e141)
                  replace p141 := eq_true p141
                  replace q141 := eq_true q141
                  have p142 : 0 ≤ (x9_3 : Int) := OD
                  have q142 : x9_3 < (t104.length : Int) := OD
                  obtain ⟨ad142, e142, hx142_0, hx142_1⟩ := at_T40 (Kd.R_reads' HO_4.out).2.2 x9_3 p142 q142
                  obtain rfl : ad126 = ad142 := (by injection e142)
                  replace p142 := eq_true p142
                  replace q142 := eq_true q142
                  refine start_ (n := 55) (S := fun w' => ce2 w' gb130 (.int .i64 t128) (.int .i64 t129) (w'.cell? (ad126.add (((ji36)).toNat * 2)) = some (.int .i64 ((rd_T40 t104 (ji36)).f0)) ∧ w'.cell? ⟨(ad126.add (((ji36)).toNat * 2)).block, (ad126.add (((ji36)).toNat * 2)).off + 1, none⟩ = some (.int .i64 ((rd_T40 t104 (ji36)).f1)) ∧ w'.cell? (ad126.add ((x9_3).toNat * 2)) = some (.int .i64 ((rd_T40 t104 x9_3).f0)) ∧ w'.cell? ⟨(ad126.add ((x9_3).toNat * 2)).block, (ad126.add ((x9_3).toNat * 2)).off + 1, none⟩ = some (.int .i64 ((rd_T40 t104 x9_3).f1)) ∧ w'.cell? (ad126.add (((ji36)).toNat * 2)) = some (.int .i64 ((rd_T40 t104 (ji36)).f0)) ∧ w'.cell? ⟨(ad126.add (((ji36)).toNat * 2)).block, (ad126.add (((ji36)).toNat * 2)).off + 1, none⟩ = some (.int .i64 ((rd_T40 t104 (ji36)).f1)) ∧ w'.cell? (ad126.add ((x9_3).toNat * 2)) = some (.int .i64 ((rd_T40 t104 x9_3).f0)) ∧ w'.cell? ⟨(ad126.add ((x9_3).toNat * 2)).block, (ad126.add ((x9_3).toNat * 2)).off + 1, none⟩ = some (.int .i64 ((rd_T40 t104 x9_3).f1)) ∧ w'.cell? (ad126.add (((ji36)).toNat * 2)) = some (.int .i64 ((rd_T40 t104 (ji36)).f0)) ∧ w'.cell? ⟨(ad126.add (((ji36)).toNat * 2)).block, (ad126.add (((ji36)).toNat * 2)).off + 1, none⟩ = some (.int .i64 ((rd_T40 t104 (ji36)).f1)) ∧ w'.cell? (ad126.add ((x9_3).toNat * 2)) = some (.int .i64 ((rd_T40 t104 x9_3).f0)) ∧ w'.cell? ⟨(ad126.add ((x9_3).toNat * 2)).block, (ad126.add ((x9_3).toNat * 2)).off + 1, none⟩ = some (.int .i64 ((rd_T40 t104 x9_3).f1)) ∧ w'.cell? (ad126.add (((ji36)).toNat * 2)) = some (.int .i64 ((rd_T40 t104 (ji36)).f0)) ∧ w'.cell? ⟨(ad126.add (((ji36)).toNat * 2)).block, (ad126.add (((ji36)).toNat * 2)).off + 1, none⟩ = some (.int .i64 ((rd_T40 t104 (ji36)).f1)) ∧ w'.cell? (ad126.add ((x9_3).toNat * 2)) = some (.int .i64 ((rd_T40 t104 x9_3).f0)) ∧ w'.cell? ⟨(ad126.add ((x9_3).toNat * 2)).block, (ad126.add ((x9_3).toNat * 2)).off + 1, none⟩ = some (.int .i64 ((rd_T40 t104 x9_3).f1)))) (ds := []) (tf 0 55) (by kernel_rfl) rfl rfl ⟨z0 _ BK130.out, z1 _ BK130.out, hx131_0, hx131_1, hx132_0, hx132_1, hx133_0, hx133_1, hx134_0, hx134_1, hx137_0, hx137_1, hx139_0, hx139_1, hx141_0, hx141_1, hx142_0, hx142_1⟩ (fun hHeld => ?_); refine with_tabW laws_FnSetOf.tab17 laws_FnSetOf.bits17 (fun HT_ HW_ => ?_)
                  generalize w56.drew = w57 at HO_4 BK130 HB hx131_0 hx131_1 hx132_0 hx132_1 hx133_0 hx133_1 hx134_0 hx134_1 hx137_0 hx137_1 hx139_0 hx139_1 hx141_0 hx141_1 hx142_0 hx142_1 hHeld ⊢
                  refine pv HT_ 0 96 (tf 1 54) ?_
                  refine pv HT_ 1 97 (tf 2 53) ?_
                  refine pv HT_ 2 98 (tf 3 52) ?_
                  refine pv HT_ 3 99 (tf 4 51) ?_
                  refine pv HT_ 4 100 (tf 5 50) ?_
                  refine pv HT_ 6 102 (tr [5, 1, 1, 48]) ?_
                  refine pv HT_ 7 103 (tr [5, 1, 2, 47]) ?_
                  refine pv HT_ 8 104 (tr [5, 1, 3, 46]) ?_
                  refine pv HT_ 9 105 (tr [5, 1, 4, 45]) ?_
                  refine tk 5 (some 101) (tf 10 45) (take_ofW HT_.out HW_.out (by kernel_rfl)) hHeld ?_
                  refine tk 10 (some 106) (tf 11 44) (take_ofW HT_.out HW_.out (by kernel_rfl)) hHeld ?_
                  refine pv HT_ 11 107 (tf 12 43) ?_
                  refine pv HT_ 12 108 (tf 13 42) ?_
                  refine pv HT_ 13 109 (tf 14 41) ?_
                  refine pv HT_ 14 110 (tf 15 40) ?_
                  refine pv HT_ 15 111 (tf 16 39) ?_
                  refine pv HT_ 16 112 (tf 17 38) ?_
                  refine pv HT_ 18 114 (tr [17, 1, 1, 36]) ?_
                  refine pv HT_ 19 115 (tr [17, 1, 2, 35]) ?_
                  refine pv HT_ 20 116 (tr [17, 1, 3, 34]) ?_
                  refine tk 17 (some 113) (tf 21 34) (take_ofW HT_.out HW_.out (by kernel_rfl)) hHeld ?_
                  refine tk 21 (some 117) (tf 22 33) (take_ofW HT_.out HW_.out (by kernel_rfl)) hHeld ?_
                  refine one_ (i := 22) (N := some 118) (tf 23 32) rfl rfl (one_of HT_.out (by kernel_rfl)) (by decide) (fun K hK => ?_)
                  refine goes_ Try.func25 (by kernel_rfl) rfl #[.agg #[.int .i64 ((rd_T40 t104 (ji36)).f0), .int .i64 ((rd_T40 t104 (ji36)).f1)], .agg #[.int .i64 ((rd_T40 t104 x9_3).f0), .int .i64 ((rd_T40 t104 x9_3).f1)]] (by rfl) rfl rfl (by (try simp only [List.map_toArray, List.map_cons, List.map_nil]); first | done | (simp only [hji36]; rfl) | rfl | (simp only [List.length_drop, List.length_take]; rfl)) ?_
                  with_reducible refine (impl_BlockMeets.calls ((rd_T40 t104 (ji36)).f0) ((rd_T40 t104 (ji36)).f1) ((rd_T40 t104 x9_3).f0) ((rd_T40 t104 x9_3).f1) false _ A42.out).mono ?_
                  rintro e w58 ⟨rfl, hb⟩
                  have HS2_ := (hb.cell (World.block_lt_of_cell? _ _ (hHeld.2.2.1))).trans (hHeld.2.2.1)
                  have HS3_ := (hb.cell (World.block_lt_of_cell? _ _ (hHeld.2.2.2.1))).trans (hHeld.2.2.2.1)
                  have HS4_ := (hb.cell (World.block_lt_of_cell? _ _ (hHeld.2.2.2.2.1))).trans (hHeld.2.2.2.2.1)
                  have HS5_ := (hb.cell (World.block_lt_of_cell? _ _ (hHeld.2.2.2.2.2.1))).trans (hHeld.2.2.2.2.2.1)
                  have HS6_ := (hb.cell (World.block_lt_of_cell? _ _ (hHeld.2.2.2.2.2.2.1))).trans (hHeld.2.2.2.2.2.2.1)
                  have HS7_ := (hb.cell (World.block_lt_of_cell? _ _ (hHeld.2.2.2.2.2.2.2.1))).trans (hHeld.2.2.2.2.2.2.2.1)
                  have HS8_ := (hb.cell (World.block_lt_of_cell? _ _ (hHeld.2.2.2.2.2.2.2.2.1))).trans (hHeld.2.2.2.2.2.2.2.2.1)
                  have HS9_ := (hb.cell (World.block_lt_of_cell? _ _ (hHeld.2.2.2.2.2.2.2.2.2.1))).trans (hHeld.2.2.2.2.2.2.2.2.2.1)
                  have HS10_ := (hb.cell (World.block_lt_of_cell? _ _ (hHeld.2.2.2.2.2.2.2.2.2.2.1))).trans (hHeld.2.2.2.2.2.2.2.2.2.2.1)
                  have HS11_ := (hb.cell (World.block_lt_of_cell? _ _ (hHeld.2.2.2.2.2.2.2.2.2.2.2.1))).trans (hHeld.2.2.2.2.2.2.2.2.2.2.2.1)
                  have HS12_ := (hb.cell (World.block_lt_of_cell? _ _ (hHeld.2.2.2.2.2.2.2.2.2.2.2.2.1))).trans (hHeld.2.2.2.2.2.2.2.2.2.2.2.2.1)
                  have HS13_ := (hb.cell (World.block_lt_of_cell? _ _ (hHeld.2.2.2.2.2.2.2.2.2.2.2.2.2.1))).trans (hHeld.2.2.2.2.2.2.2.2.2.2.2.2.2.1)
                  have HS14_ := (hb.cell (World.block_lt_of_cell? _ _ (hHeld.2.2.2.2.2.2.2.2.2.2.2.2.2.2.1))).trans (hHeld.2.2.2.2.2.2.2.2.2.2.2.2.2.2.1)
                  have HS15_ := (hb.cell (World.block_lt_of_cell? _ _ (hHeld.2.2.2.2.2.2.2.2.2.2.2.2.2.2.2.1))).trans (hHeld.2.2.2.2.2.2.2.2.2.2.2.2.2.2.2.1)
                  have HS16_ := (hb.cell (World.block_lt_of_cell? _ _ (hHeld.2.2.2.2.2.2.2.2.2.2.2.2.2.2.2.2.1))).trans (hHeld.2.2.2.2.2.2.2.2.2.2.2.2.2.2.2.2.1)
                  have HS17_ := (hb.cell (World.block_lt_of_cell? _ _ (hHeld.2.2.2.2.2.2.2.2.2.2.2.2.2.2.2.2.2))).trans (hHeld.2.2.2.2.2.2.2.2.2.2.2.2.2.2.2.2.2)
                  refine ⟨_, rfl, ?_⟩
                  replace HO_4 := am (Kd.R_below (KR HO_4) hb)
                  replace BK130 := am (BB BK130 hb)
                  replace HB := am (below_step (K1 HB GE130.out) hb)
                  (try clear hb)
                  (try clear hb2)
                  (try clear hk)
                  (try clear hi)
                  refine hK.out _ _ ⟨z0 _ BK130.out, z1 _ BK130.out, HS2_, HS3_, HS4_, HS5_, HS6_, HS7_, HS8_, HS9_, HS10_, HS11_, HS12_, HS13_, HS14_, HS15_, HS16_, HS17_⟩ (fun hHeld => ?_)
                  clear hK K
                  refine norm_ (a' := ?_) ?_ ?_
                  rotate_left
                  ·show Act.put _ (some 118) _ = _
                   simp only [Act.put, List.setIfInBounds_toArray, List.set_cons_zero, List.set_cons_succ, i64_w, i32_w]
                   rfl
                  refine pv HT_ 23 119 (tf 24 31) ?_
                  refine pv HT_ 24 120 (tf 25 30) ?_
                  refine pv HT_ 27 123 (tr [25, 2, 1, 27]) ?_
                  refine pv HT_ 28 124 (tr [25, 2, 2, 26]) ?_
                  refine pv HT_ 29 125 (tr [25, 2, 3, 25]) ?_
                  refine pv HT_ 30 126 (tr [25, 2, 4, 24]) ?_
                  refine pv HT_ 33 129 (tr [25, 2, 4, 2, 1, 21]) ?_
                  refine pv HT_ 34 130 (tr [25, 2, 4, 2, 2, 20]) ?_
                  refine pv HT_ 35 131 (tr [25, 2, 4, 2, 3, 19]) ?_
                  refine tk 25 (some 121) (tr [26, 1, 4, 2, 3, 19]) (take_ofW HT_.out HW_.out (by kernel_rfl)) hHeld ?_
                  refine tk 31 (some 127) (tr [26, 1, 5, 1, 3, 19]) (take_ofW HT_.out HW_.out (by kernel_rfl)) hHeld ?_
                  refine tk 36 (some 132) (tr [26, 1, 5, 1, 4, 18]) (take_ofW HT_.out HW_.out (by kernel_rfl)) hHeld ?_
                  refine one_ (i := 26) (N := some 122) (tr [32, 1, 4, 18]) rfl rfl (one_of HT_.out (by kernel_rfl)) (by decide) (fun K hK => ?_)
                  refine goes_ Try.func23 (by kernel_rfl) rfl #[.agg #[.int .i64 t128, .int .i64 t129]] (by rfl) rfl rfl MT ?_
                  with_reducible refine (impl_BlockSize.calls t128 t129 t136 _ A44.out).mono ?_
                  rintro e w59 ⟨rfl, hb⟩
                  have HS2_ := (hb.cell (World.block_lt_of_cell? _ _ (hHeld.2.2.1))).trans (hHeld.2.2.1)
                  have HS3_ := (hb.cell (World.block_lt_of_cell? _ _ (hHeld.2.2.2.1))).trans (hHeld.2.2.2.1)
                  have HS4_ := (hb.cell (World.block_lt_of_cell? _ _ (hHeld.2.2.2.2.1))).trans (hHeld.2.2.2.2.1)
                  have HS5_ := (hb.cell (World.block_lt_of_cell? _ _ (hHeld.2.2.2.2.2.1))).trans (hHeld.2.2.2.2.2.1)
                  have HS6_ := (hb.cell (World.block_lt_of_cell? _ _ (hHeld.2.2.2.2.2.2.1))).trans (hHeld.2.2.2.2.2.2.1)
                  have HS7_ := (hb.cell (World.block_lt_of_cell? _ _ (hHeld.2.2.2.2.2.2.2.1))).trans (hHeld.2.2.2.2.2.2.2.1)
                  have HS8_ := (hb.cell (World.block_lt_of_cell? _ _ (hHeld.2.2.2.2.2.2.2.2.1))).trans (hHeld.2.2.2.2.2.2.2.2.1)
                  have HS9_ := (hb.cell (World.block_lt_of_cell? _ _ (hHeld.2.2.2.2.2.2.2.2.2.1))).trans (hHeld.2.2.2.2.2.2.2.2.2.1)
                  have HS10_ := (hb.cell (World.block_lt_of_cell? _ _ (hHeld.2.2.2.2.2.2.2.2.2.2.1))).trans (hHeld.2.2.2.2.2.2.2.2.2.2.1)
                  have HS11_ := (hb.cell (World.block_lt_of_cell? _ _ (hHeld.2.2.2.2.2.2.2.2.2.2.2.1))).trans (hHeld.2.2.2.2.2.2.2.2.2.2.2.1)
                  have HS12_ := (hb.cell (World.block_lt_of_cell? _ _ (hHeld.2.2.2.2.2.2.2.2.2.2.2.2.1))).trans (hHeld.2.2.2.2.2.2.2.2.2.2.2.2.1)
                  have HS13_ := (hb.cell (World.block_lt_of_cell? _ _ (hHeld.2.2.2.2.2.2.2.2.2.2.2.2.2.1))).trans (hHeld.2.2.2.2.2.2.2.2.2.2.2.2.2.1)
                  have HS14_ := (hb.cell (World.block_lt_of_cell? _ _ (hHeld.2.2.2.2.2.2.2.2.2.2.2.2.2.2.1))).trans (hHeld.2.2.2.2.2.2.2.2.2.2.2.2.2.2.1)
                  have HS15_ := (hb.cell (World.block_lt_of_cell? _ _ (hHeld.2.2.2.2.2.2.2.2.2.2.2.2.2.2.2.1))).trans (hHeld.2.2.2.2.2.2.2.2.2.2.2.2.2.2.2.1)
                  have HS16_ := (hb.cell (World.block_lt_of_cell? _ _ (hHeld.2.2.2.2.2.2.2.2.2.2.2.2.2.2.2.2.1))).trans (hHeld.2.2.2.2.2.2.2.2.2.2.2.2.2.2.2.2.1)
                  have HS17_ := (hb.cell (World.block_lt_of_cell? _ _ (hHeld.2.2.2.2.2.2.2.2.2.2.2.2.2.2.2.2.2))).trans (hHeld.2.2.2.2.2.2.2.2.2.2.2.2.2.2.2.2.2)
                  refine ⟨_, rfl, ?_⟩
                  replace HO_4 := am (Kd.R_below (KR HO_4) hb)
                  replace BK130 := am (BB BK130 hb)
                  replace HB := am (below_step (K1 HB GE130.out) hb)
                  (try clear hb)
                  (try clear hb2)
                  (try clear hk)
                  (try clear hi)
                  refine hK.out _ _ ⟨z0 _ BK130.out, z1 _ BK130.out, HS2_, HS3_, HS4_, HS5_, HS6_, HS7_, HS8_, HS9_, HS10_, HS11_, HS12_, HS13_, HS14_, HS15_, HS16_, HS17_⟩ (fun hHeld => ?_)
                  clear hK K
                  refine norm_ (a' := ?_) ?_ ?_
                  rotate_left
                  ·show Act.put _ (some 122) _ = _
                   simp only [Act.put, List.setIfInBounds_toArray, List.set_cons_zero, List.set_cons_succ, i64_w, i32_w]
                   rfl
                  refine one_ (i := 32) (N := some 128) (tf 37 18) rfl rfl (one_of HT_.out (by kernel_rfl)) (by decide) (fun K hK => ?_)
                  refine goes_ Try.func23 (by kernel_rfl) rfl #[.agg #[.int .i64 ((rd_T40 t104 (ji36)).f0), .int .i64 ((rd_T40 t104 (ji36)).f1)]] (by rfl) rfl rfl (by (try simp only [List.map_toArray, List.map_cons, List.map_nil]); first | done | (simp only [hji36]; rfl) | rfl | (simp only [List.length_drop, List.length_take]; rfl)) ?_
                  with_reducible refine (impl_BlockSize.calls ((rd_T40 t104 (ji36)).f0) ((rd_T40 t104 (ji36)).f1) t138 _ A45.out).mono ?_
                  rintro e w60 ⟨rfl, hb⟩
                  have HS2_ := (hb.cell (World.block_lt_of_cell? _ _ (hHeld.2.2.1))).trans (hHeld.2.2.1)
                  have HS3_ := (hb.cell (World.block_lt_of_cell? _ _ (hHeld.2.2.2.1))).trans (hHeld.2.2.2.1)
                  have HS4_ := (hb.cell (World.block_lt_of_cell? _ _ (hHeld.2.2.2.2.1))).trans (hHeld.2.2.2.2.1)
                  have HS5_ := (hb.cell (World.block_lt_of_cell? _ _ (hHeld.2.2.2.2.2.1))).trans (hHeld.2.2.2.2.2.1)
                  have HS6_ := (hb.cell (World.block_lt_of_cell? _ _ (hHeld.2.2.2.2.2.2.1))).trans (hHeld.2.2.2.2.2.2.1)
                  have HS7_ := (hb.cell (World.block_lt_of_cell? _ _ (hHeld.2.2.2.2.2.2.2.1))).trans (hHeld.2.2.2.2.2.2.2.1)
                  have HS8_ := (hb.cell (World.block_lt_of_cell? _ _ (hHeld.2.2.2.2.2.2.2.2.1))).trans (hHeld.2.2.2.2.2.2.2.2.1)
                  have HS9_ := (hb.cell (World.block_lt_of_cell? _ _ (hHeld.2.2.2.2.2.2.2.2.2.1))).trans (hHeld.2.2.2.2.2.2.2.2.2.1)
                  have HS10_ := (hb.cell (World.block_lt_of_cell? _ _ (hHeld.2.2.2.2.2.2.2.2.2.2.1))).trans (hHeld.2.2.2.2.2.2.2.2.2.2.1)
                  have HS11_ := (hb.cell (World.block_lt_of_cell? _ _ (hHeld.2.2.2.2.2.2.2.2.2.2.2.1))).trans (hHeld.2.2.2.2.2.2.2.2.2.2.2.1)
                  have HS12_ := (hb.cell (World.block_lt_of_cell? _ _ (hHeld.2.2.2.2.2.2.2.2.2.2.2.2.1))).trans (hHeld.2.2.2.2.2.2.2.2.2.2.2.2.1)
                  have HS13_ := (hb.cell (World.block_lt_of_cell? _ _ (hHeld.2.2.2.2.2.2.2.2.2.2.2.2.2.1))).trans (hHeld.2.2.2.2.2.2.2.2.2.2.2.2.2.1)
                  have HS14_ := (hb.cell (World.block_lt_of_cell? _ _ (hHeld.2.2.2.2.2.2.2.2.2.2.2.2.2.2.1))).trans (hHeld.2.2.2.2.2.2.2.2.2.2.2.2.2.2.1)
                  have HS15_ := (hb.cell (World.block_lt_of_cell? _ _ (hHeld.2.2.2.2.2.2.2.2.2.2.2.2.2.2.2.1))).trans (hHeld.2.2.2.2.2.2.2.2.2.2.2.2.2.2.2.1)
                  have HS16_ := (hb.cell (World.block_lt_of_cell? _ _ (hHeld.2.2.2.2.2.2.2.2.2.2.2.2.2.2.2.2.1))).trans (hHeld.2.2.2.2.2.2.2.2.2.2.2.2.2.2.2.2.1)
                  have HS17_ := (hb.cell (World.block_lt_of_cell? _ _ (hHeld.2.2.2.2.2.2.2.2.2.2.2.2.2.2.2.2.2))).trans (hHeld.2.2.2.2.2.2.2.2.2.2.2.2.2.2.2.2.2)
                  refine ⟨_, rfl, ?_⟩
                  replace HO_4 := am (Kd.R_below (KR HO_4) hb)
                  replace BK130 := am (BB BK130 hb)
                  replace HB := am (below_step (K1 HB GE130.out) hb)
                  (try clear hb)
                  (try clear hb2)
                  (try clear hk)
                  (try clear hi)
                  refine hK.out _ _ ⟨z0 _ BK130.out, z1 _ BK130.out, HS2_, HS3_, HS4_, HS5_, HS6_, HS7_, HS8_, HS9_, HS10_, HS11_, HS12_, HS13_, HS14_, HS15_, HS16_, HS17_⟩ (fun hHeld => ?_)
                  clear hK K
                  refine norm_ (a' := ?_) ?_ ?_
                  rotate_left
                  ·show Act.put _ (some 128) _ = _
                   simp only [Act.put, List.setIfInBounds_toArray, List.set_cons_zero, List.set_cons_succ, i64_w, i32_w]
                   rfl
                  refine one_ (i := 37) (N := some 133) (tf 38 17) rfl rfl (one_of HT_.out (by kernel_rfl)) (by decide) (fun K hK => ?_)
                  refine goes_ Try.func23 (by kernel_rfl) rfl #[.agg #[.int .i64 ((rd_T40 t104 x9_3).f0), .int .i64 ((rd_T40 t104 x9_3).f1)]] (by rfl) rfl rfl MT ?_
                  with_reducible refine (impl_BlockSize.calls ((rd_T40 t104 x9_3).f0) ((rd_T40 t104 x9_3).f1) t140 _ A46.out).mono ?_
                  rintro e w61 ⟨rfl, hb⟩
                  have HS2_ := (hb.cell (World.block_lt_of_cell? _ _ (hHeld.2.2.1))).trans (hHeld.2.2.1)
                  have HS3_ := (hb.cell (World.block_lt_of_cell? _ _ (hHeld.2.2.2.1))).trans (hHeld.2.2.2.1)
                  have HS4_ := (hb.cell (World.block_lt_of_cell? _ _ (hHeld.2.2.2.2.1))).trans (hHeld.2.2.2.2.1)
                  have HS5_ := (hb.cell (World.block_lt_of_cell? _ _ (hHeld.2.2.2.2.2.1))).trans (hHeld.2.2.2.2.2.1)
                  have HS6_ := (hb.cell (World.block_lt_of_cell? _ _ (hHeld.2.2.2.2.2.2.1))).trans (hHeld.2.2.2.2.2.2.1)
                  have HS7_ := (hb.cell (World.block_lt_of_cell? _ _ (hHeld.2.2.2.2.2.2.2.1))).trans (hHeld.2.2.2.2.2.2.2.1)
                  have HS8_ := (hb.cell (World.block_lt_of_cell? _ _ (hHeld.2.2.2.2.2.2.2.2.1))).trans (hHeld.2.2.2.2.2.2.2.2.1)
                  have HS9_ := (hb.cell (World.block_lt_of_cell? _ _ (hHeld.2.2.2.2.2.2.2.2.2.1))).trans (hHeld.2.2.2.2.2.2.2.2.2.1)
                  have HS10_ := (hb.cell (World.block_lt_of_cell? _ _ (hHeld.2.2.2.2.2.2.2.2.2.2.1))).trans (hHeld.2.2.2.2.2.2.2.2.2.2.1)
                  have HS11_ := (hb.cell (World.block_lt_of_cell? _ _ (hHeld.2.2.2.2.2.2.2.2.2.2.2.1))).trans (hHeld.2.2.2.2.2.2.2.2.2.2.2.1)
                  have HS12_ := (hb.cell (World.block_lt_of_cell? _ _ (hHeld.2.2.2.2.2.2.2.2.2.2.2.2.1))).trans (hHeld.2.2.2.2.2.2.2.2.2.2.2.2.1)
                  have HS13_ := (hb.cell (World.block_lt_of_cell? _ _ (hHeld.2.2.2.2.2.2.2.2.2.2.2.2.2.1))).trans (hHeld.2.2.2.2.2.2.2.2.2.2.2.2.2.1)
                  have HS14_ := (hb.cell (World.block_lt_of_cell? _ _ (hHeld.2.2.2.2.2.2.2.2.2.2.2.2.2.2.1))).trans (hHeld.2.2.2.2.2.2.2.2.2.2.2.2.2.2.1)
                  have HS15_ := (hb.cell (World.block_lt_of_cell? _ _ (hHeld.2.2.2.2.2.2.2.2.2.2.2.2.2.2.2.1))).trans (hHeld.2.2.2.2.2.2.2.2.2.2.2.2.2.2.2.1)
                  have HS16_ := (hb.cell (World.block_lt_of_cell? _ _ (hHeld.2.2.2.2.2.2.2.2.2.2.2.2.2.2.2.2.1))).trans (hHeld.2.2.2.2.2.2.2.2.2.2.2.2.2.2.2.2.1)
                  have HS17_ := (hb.cell (World.block_lt_of_cell? _ _ (hHeld.2.2.2.2.2.2.2.2.2.2.2.2.2.2.2.2.2))).trans (hHeld.2.2.2.2.2.2.2.2.2.2.2.2.2.2.2.2.2)
                  refine ⟨_, rfl, ?_⟩
                  replace HO_4 := am (Kd.R_below (KR HO_4) hb)
                  replace BK130 := am (BB BK130 hb)
                  replace HB := am (below_step (K1 HB GE130.out) hb)
                  (try clear hb)
                  (try clear hb2)
                  (try clear hk)
                  (try clear hi)
                  refine hK.out _ _ ⟨z0 _ BK130.out, z1 _ BK130.out, HS2_, HS3_, HS4_, HS5_, HS6_, HS7_, HS8_, HS9_, HS10_, HS11_, HS12_, HS13_, HS14_, HS15_, HS16_, HS17_⟩ (fun hHeld => ?_)
                  clear hK K
                  refine norm_ (a' := ?_) ?_ ?_
                  rotate_left
                  ·show Act.put _ (some 133) _ = _
                   simp only [Act.put, List.setIfInBounds_toArray, List.set_cons_zero, List.set_cons_succ, i64_w, i32_w]
                   rfl
                  refine pv HT_ 38 134 (tf 39 16) ?_
                  refine pv HT_ 39 135 (tf 40 15) ?_
                  refine pv HT_ 40 136 (tf 41 14) ?_
                  refine pv HT_ 41 137 (tf 42 13) ?_
                  refine pv HT_ 42 138 (tf 43 12) ?_
                  refine pv HT_ 43 139 (tf 44 11) ?_
                  refine pv HT_ 44 140 (tf 45 10) ?_
                  refine pv HT_ 45 141 (tf 46 9) ?_
                  refine pv HT_ 47 143 (tr [46, 1, 1, 7]) ?_
                  refine pv HT_ 48 144 (tr [46, 1, 2, 6]) ?_
                  refine pv HT_ 49 145 (tr [46, 1, 3, 5]) ?_
                  refine pv HT_ 50 146 (tr [46, 1, 4, 4]) ?_
                  refine tk 46 (some 142) (tf 51 4) (take_ofW HT_.out HW_.out (by kernel_rfl)) hHeld ?_
                  refine tk 51 (some 147) (tf 52 3) (take_ofW HT_.out HW_.out (by kernel_rfl)) hHeld ?_
                  refine pv HT_ 52 148 (tf 53 2) ?_
                  refine pv HT_ 53 149 (tf 54 1) ?_
                  refine pv HT_ 54 150 (tf 55 0) ?_
                  refine done_ (done_of HT_.out (by kernel_rfl)) ?_
                  try go_wp2
                  go_roundg k3
                  case measure => have := HJ5.out; have := HK2.out; have := HK3.out; omega
                  case rel => exact ⟨(wrap64 (x9_3 + 1)), (by first | rfl | (simp; done) | (simp [*]; done)), H', ⟨by have := HJ5.out; have := HK2.out; have := HK3.out; omega⟩, ⟨by (with_reducible repeat (first | apply Kd.R_alloc | apply Kd.R_drewN | apply Kd.R_drew)); exact Kd.R_mono HO_4.out (fun _ hk => trivial)⟩, ⟨K1 HB GE130.out⟩⟩
                ·rw [if_neg c47] at H
                 have c47b0 : (t136 == (wrap64 (t138 + t140))) = false := beq_eq_false_iff_ne.mpr c47
                 have c47b1 : (t136 != (wrap64 (t138 + t140))) = true := bne_iff_ne.mpr c47
                 have H' := Aside0.mk H
                 clear H
                 obtain ⟨Ao62, co62, eo62⟩ := Kd.R_slice HO_4.out
                 subst eo62
                 try go_wp2
                 replace HO_4 := am (Kd.R_drew HO_4.out)
                 replace HB := am (below_drew1 HB.out)
                 have p126 : 0 ≤ ((ji36) : Int) := OD
                 have q126 : (ji36) < (t104.length : Int) := OD
                 obtain ⟨ad126, e126, hx126_0, hx126_1⟩ := at_T40 (Kd.R_reads' HO_4.out).2.2 (ji36) p126 q126
                 cases e126
                 replace p126 := eq_true p126
                 replace q126 := eq_true q126
                 have p127 : 0 ≤ (x9_3 : Int) := OD
                 have q127 : x9_3 < (t104.length : Int) := OD
                 obtain ⟨ad127, e127, hx127_0, hx127_1⟩ := at_T40 (Kd.R_reads' HO_4.out).2.2 x9_3 p127 q127
                 obtain rfl : ad126 = ad127 := (by injection e127)
                 replace p127 := eq_true p127
                 replace q127 := eq_true q127
                 refine start_ (n := 12) (S := fun w' => w'.cell? (ad126.add (((ji36)).toNat * 2)) = some (.int .i64 ((rd_T40 t104 (ji36)).f0)) ∧ w'.cell? ⟨(ad126.add (((ji36)).toNat * 2)).block, (ad126.add (((ji36)).toNat * 2)).off + 1, none⟩ = some (.int .i64 ((rd_T40 t104 (ji36)).f1)) ∧ w'.cell? (ad126.add ((x9_3).toNat * 2)) = some (.int .i64 ((rd_T40 t104 x9_3).f0)) ∧ w'.cell? ⟨(ad126.add ((x9_3).toNat * 2)).block, (ad126.add ((x9_3).toNat * 2)).off + 1, none⟩ = some (.int .i64 ((rd_T40 t104 x9_3).f1))) (ds := []) (tf 0 12) (by kernel_rfl) rfl rfl ⟨hx126_0, hx126_1, hx127_0, hx127_1⟩ (fun hHeld => ?_); refine with_tabW laws_FnSetOf.tab16 laws_FnSetOf.bits16 (fun HT_ HW_ => ?_)
                 generalize wr.drew = w63 at HO_4 HB hx126_0 hx126_1 hx127_0 hx127_1 hHeld ⊢
                 refine pv HT_ 0 86 (tf 1 11) ?_
                 refine pv HT_ 1 87 (tf 2 10) ?_
                 refine pv HT_ 2 88 (tf 3 9) ?_
                 refine pv HT_ 3 89 (tf 4 8) ?_
                 refine pv HT_ 5 91 (tr [4, 1, 1, 6]) ?_
                 refine pv HT_ 6 92 (tr [4, 1, 2, 5]) ?_
                 refine pv HT_ 7 93 (tr [4, 1, 3, 4]) ?_
                 refine tk 4 (some 90) (tf 8 4) (take_ofW HT_.out HW_.out (by kernel_rfl)) hHeld ?_
                 refine tk 8 (some 94) (tf 9 3) (take_ofW HT_.out HW_.out (by kernel_rfl)) hHeld ?_
                 refine join_ (σ := Nat) 1 (tf 11 1) (fun s_ => [(95, .agg #[.int .i64 t128, .int .i64 t129]), (10, .pointer (some ⟨s_, 0, none⟩))]) (fun s_ w' => (w'.cell? (ad126.add (((ji36)).toNat * 2)) = some (.int .i64 ((rd_T40 t104 (ji36)).f0)) ∧ w'.cell? ⟨(ad126.add (((ji36)).toNat * 2)).block, (ad126.add (((ji36)).toNat * 2)).off + 1, none⟩ = some (.int .i64 ((rd_T40 t104 (ji36)).f1)) ∧ w'.cell? (ad126.add ((x9_3).toNat * 2)) = some (.int .i64 ((rd_T40 t104 x9_3).f0)) ∧ w'.cell? ⟨(ad126.add ((x9_3).toNat * 2)).block, (ad126.add ((x9_3).toNat * 2)).off + 1, none⟩ = some (.int .i64 ((rd_T40 t104 x9_3).f1))) ∧ (Kd.R k40 40 w' w.heap.size (fun k_ => k_ ≠ s_) (.slice (some ad126) t104.length co62) t104) ∧ (w'.heap[s_]? = some (.cells #[.int .i64 0, .int .i64 0] 40 (0, 0))) ∧ (w.heap.size ≤ s_) ∧ (w.heap.size ≤ s_) ∧ (Below w.heap.size w w')) ?_ ?_
                 rotate_left
                 ·intro hCont
                  refine two_ (i := 9) (j := 10) (Ni := some 95) (Nj := some 10) (tf 10 2) (tr [9, 1, 1, 1]) rfl rfl rfl rfl (two_of HT_.out (by kernel_rfl)) (by decide) (by decide) (fun K hK => ?_) (fun K hK => ?_)
                  ·skip
                   refine goes_ Try.func24 (by kernel_rfl) rfl #[.agg #[.int .i64 ((rd_T40 t104 (ji36)).f0), .int .i64 ((rd_T40 t104 (ji36)).f1)], .agg #[.int .i64 ((rd_T40 t104 x9_3).f0), .int .i64 ((rd_T40 t104 x9_3).f1)]] (by rfl) rfl rfl (by (try simp only [List.map_toArray, List.map_cons, List.map_nil]); first | done | (simp only [hji36]; rfl) | rfl | (simp only [List.length_drop, List.length_take]; rfl)) ?_
                   with_reducible refine (impl_BlockOver.calls k3 ((rd_T40 t104 (ji36)).f0) ((rd_T40 t104 (ji36)).f1) ((rd_T40 t104 x9_3).f0) ((rd_T40 t104 x9_3).f1) t128 t129 _ A40.out).mono ?_
                   rintro e w64 ⟨rfl, hb⟩
                   have HS0_ := (hb.cell (World.block_lt_of_cell? _ _ (hHeld.1))).trans (hHeld.1)
                   have HS1_ := (hb.cell (World.block_lt_of_cell? _ _ (hHeld.2.1))).trans (hHeld.2.1)
                   have HS2_ := (hb.cell (World.block_lt_of_cell? _ _ (hHeld.2.2.1))).trans (hHeld.2.2.1)
                   have HS3_ := (hb.cell (World.block_lt_of_cell? _ _ (hHeld.2.2.2))).trans (hHeld.2.2.2)
                   refine ⟨_, rfl, ?_⟩
                   replace HO_4 := am (Kd.R_below (KR HO_4) hb)
                   replace HB := am (below_step (KL HB) hb)
                   (try clear hb)
                   (try clear hb2)
                   (try clear hk)
                   (try clear hi)
                   refine hK.out _ _ ⟨HS0_, HS1_, HS2_, HS3_⟩ (fun hHeld => ?_)
                   clear hK K
                   refine norm_ (a' := ?_) ?_ ?_
                   rotate_left
                   ·show Act.put _ (some 95) _ = _
                    simp only [Act.put, List.setIfInBounds_toArray, List.set_cons_zero, List.set_cons_succ, i64_w, i32_w]
                    rfl
                   refine one_ (i := 10) (N := some 10) (tf 11 1) rfl rfl (one_of HT_.out (by kernel_rfl)) (by decide) (fun K hK => ?_)
                   refine box_step rfl (N := 10) rfl (cs := #[.int .i64 0, .int .i64 0]) (t := 40) BX ?_
                   intro gb130 hg w65 hbox hb
                   have HS0_ := (hb.cell (World.block_lt_of_cell? _ _ (hHeld.1))).trans (hHeld.1)
                   have HS1_ := (hb.cell (World.block_lt_of_cell? _ _ (hHeld.2.1))).trans (hHeld.2.1)
                   have HS2_ := (hb.cell (World.block_lt_of_cell? _ _ (hHeld.2.2.1))).trans (hHeld.2.2.1)
                   have HS3_ := (hb.cell (World.block_lt_of_cell? _ _ (hHeld.2.2.2))).trans (hHeld.2.2.2)
                   replace HO_4 := am (Kd.R_below (Kd.R_elderB (KR HO_4) gb130 (Nat.le_of_eq hg.symm)) hb)
                   have BK130 := am (hbox)
                   have GW130 := am (GH HB hg)
                   have GE130 := GW130
                   replace HB := am (below_step (KL HB) hb)
                   clear hb hbox hg
                   refine hK.out _ _ ⟨HS0_, HS1_, HS2_, HS3_⟩ (fun hHeld => ?_)
                   clear hK K
                   refine norm_ (a' := ?_) ?_ ?_
                   rotate_left
                   ·show Act.put _ (some 10) _ = _
                    simp only [Act.put, List.setIfInBounds_toArray, List.set_cons_zero, List.set_cons_succ, i64_w, i32_w]
                    rfl
                   exact norm_ (by simp only [putAll, Act.put, List.setIfInBounds_toArray, List.set_cons_zero, List.set_cons_succ]) (hCont (gb130) _ ⟨hHeld, (by (with_reducible repeat (first | apply Kd.R_alloc | apply Kd.R_drewN | apply Kd.R_drew)); exact Kd.R_mono HO_4.out (fun _ hk => hk.2)), (KB BK130), GW130.out, GE130.out, (K1 HB GE130.out)⟩)
                  ·skip
                   refine box_step rfl (N := 10) rfl (cs := #[.int .i64 0, .int .i64 0]) (t := 40) BX ?_
                   intro gb130 hg w64 hbox hb
                   have HS0_ := (hb.cell (World.block_lt_of_cell? _ _ (hHeld.1))).trans (hHeld.1)
                   have HS1_ := (hb.cell (World.block_lt_of_cell? _ _ (hHeld.2.1))).trans (hHeld.2.1)
                   have HS2_ := (hb.cell (World.block_lt_of_cell? _ _ (hHeld.2.2.1))).trans (hHeld.2.2.1)
                   have HS3_ := (hb.cell (World.block_lt_of_cell? _ _ (hHeld.2.2.2))).trans (hHeld.2.2.2)
                   replace HO_4 := am (Kd.R_below (Kd.R_elderB (KR HO_4) gb130 (Nat.le_of_eq hg.symm)) hb)
                   have BK130 := am (hbox)
                   have GW130 := am (GH HB hg)
                   have GE130 := GW130
                   replace HB := am (below_step (KL HB) hb)
                   clear hb hbox hg
                   refine hK.out _ _ ⟨HS0_, HS1_, HS2_, HS3_⟩ (fun hHeld => ?_)
                   clear hK K
                   refine norm_ (a' := ?_) ?_ ?_
                   rotate_left
                   ·show Act.put _ (some 10) _ = _
                    simp only [Act.put, List.setIfInBounds_toArray, List.set_cons_zero, List.set_cons_succ, i64_w, i32_w]
                    rfl
                   refine one_ (i := 9) (N := some 95) (tf 11 1) rfl rfl (one_of HT_.out (by kernel_rfl)) (by decide) (fun K hK => ?_)
                   refine goes_ Try.func24 (by kernel_rfl) rfl #[.agg #[.int .i64 ((rd_T40 t104 (ji36)).f0), .int .i64 ((rd_T40 t104 (ji36)).f1)], .agg #[.int .i64 ((rd_T40 t104 x9_3).f0), .int .i64 ((rd_T40 t104 x9_3).f1)]] (by rfl) rfl rfl (by (try simp only [List.map_toArray, List.map_cons, List.map_nil]); first | done | (simp only [hji36]; rfl) | rfl | (simp only [List.length_drop, List.length_take]; rfl)) ?_
                   with_reducible refine (impl_BlockOver.calls k3 ((rd_T40 t104 (ji36)).f0) ((rd_T40 t104 (ji36)).f1) ((rd_T40 t104 x9_3).f0) ((rd_T40 t104 x9_3).f1) t128 t129 _ A40.out).mono ?_
                   rintro e w65 ⟨rfl, hb⟩
                   have HS0_ := (hb.cell (World.block_lt_of_cell? _ _ (hHeld.1))).trans (hHeld.1)
                   have HS1_ := (hb.cell (World.block_lt_of_cell? _ _ (hHeld.2.1))).trans (hHeld.2.1)
                   have HS2_ := (hb.cell (World.block_lt_of_cell? _ _ (hHeld.2.2.1))).trans (hHeld.2.2.1)
                   have HS3_ := (hb.cell (World.block_lt_of_cell? _ _ (hHeld.2.2.2))).trans (hHeld.2.2.2)
                   refine ⟨_, rfl, ?_⟩
                   replace HO_4 := am (Kd.R_below (KR HO_4) hb)
                   replace BK130 := am (BB BK130 hb)
                   replace HB := am (below_step (K1 HB GE130.out) hb)
                   (try clear hb)
                   (try clear hb2)
                   (try clear hk)
                   (try clear hi)
                   refine hK.out _ _ ⟨HS0_, HS1_, HS2_, HS3_⟩ (fun hHeld => ?_)
                   clear hK K
                   refine norm_ (a' := ?_) ?_ ?_
                   rotate_left
                   ·show Act.put _ (some 95) _ = _
                    simp only [Act.put, List.setIfInBounds_toArray, List.set_cons_zero, List.set_cons_succ, i64_w, i32_w]
                    rfl
                   exact norm_ (by simp only [putAll, Act.put, List.setIfInBounds_toArray, List.set_cons_zero, List.set_cons_succ]) (hCont (gb130) _ ⟨hHeld, (by (with_reducible repeat (first | apply Kd.R_alloc | apply Kd.R_drewN | apply Kd.R_drew)); exact Kd.R_mono HO_4.out (fun _ hk => hk.2)), (KB BK130), GW130.out, GE130.out, (K1 HB GE130.out)⟩)
                 rintro gb130 w66 ⟨hS_, h0_, h1_, h2_, h3_, h4_⟩
                 replace HO_4 : Aside0 (Kd.R k40 40 w66 w.heap.size (fun k_ => k_ ≠ gb130) (.slice (some ad126) t104.length co62) t104) := ⟨h0_⟩
                 have BK130 : Aside0 (bk w66 gb130 #[.int .i64 0, .int .i64 0] 40) := ⟨h1_⟩
                 have GW130 : Aside0 (w.heap.size ≤ gb130) := ⟨h2_⟩
                 have GE130 : Aside0 (w.heap.size ≤ gb130) := ⟨h3_⟩
                 replace HB : Aside0 (Below w.heap.size w w66) := ⟨h4_⟩
                 clear h0_ h1_ h2_ h3_ h4_
                 have hHeld : w66.cell? (ad126.add (((ji36)).toNat * 2)) = some (.int .i64 ((rd_T40 t104 (ji36)).f0)) ∧ w66.cell? ⟨(ad126.add (((ji36)).toNat * 2)).block, (ad126.add (((ji36)).toNat * 2)).off + 1, none⟩ = some (.int .i64 ((rd_T40 t104 (ji36)).f1)) ∧ w66.cell? (ad126.add ((x9_3).toNat * 2)) = some (.int .i64 ((rd_T40 t104 x9_3).f0)) ∧ w66.cell? ⟨(ad126.add ((x9_3).toNat * 2)).block, (ad126.add ((x9_3).toNat * 2)).off + 1, none⟩ = some (.int .i64 ((rd_T40 t104 x9_3).f1)) := hS_
                 refine norm_ (a' := ?_) ?_ ?_
                 rotate_left
                 ·simp only [putAll, Act.put, List.setIfInBounds_toArray, List.set_cons_zero, List.set_cons_succ]
                  rfl
                 refine one_ (i := 11) (N := none) (tf 12 0) rfl rfl (one_of HT_.out (by kernel_rfl)) (by decide) (fun K hK => ?_)
                 have hs67 : w66.cell? ⟨gb130, 0, none⟩ = some (.int .i64 0) := z0 _ BK130.out
                 have hfs67 := blk_frozen BK130.out 0
                 have hs68 : w66.cell? ⟨gb130, 1, none⟩ = some (.int .i64 0) := z1 _ BK130.out
                 have hfs68 := blk_frozen BK130.out 1
                 refine skip_ (w1 := ?_) (by rfl) rfl ?_ ?_
                 rotate_left
                 ·go_simp
                  rfl
                 refine hK.out _ _ ⟨((cell_far (p := ⟨gb130, _, none⟩) (by first | exact Kd.own_blk (Kd.R_away HO_4.out (fun _ hk => hk)) | (rw [add_block]; exact Kd.own_blk (Kd.R_away HO_4.out (fun _ hk => hk))) | (show (Addr.add _ _).block ≠ _; rw [add_block]; exact Kd.own_blk (Kd.R_away HO_4.out (fun _ hk => hk))) | (dsimp only; exact Kd.own_blk (Kd.R_away HO_4.out (fun _ hk => hk)))) _).trans (((cell_far (p := ⟨gb130, _, none⟩) (by first | exact Kd.own_blk (Kd.R_away HO_4.out (fun _ hk => hk)) | (rw [add_block]; exact Kd.own_blk (Kd.R_away HO_4.out (fun _ hk => hk))) | (show (Addr.add _ _).block ≠ _; rw [add_block]; exact Kd.own_blk (Kd.R_away HO_4.out (fun _ hk => hk))) | (dsimp only; exact Kd.own_blk (Kd.R_away HO_4.out (fun _ hk => hk)))) _).trans (hHeld.1)))), ((cell_far (p := ⟨gb130, _, none⟩) (by first | exact Kd.own_blk (Kd.R_away HO_4.out (fun _ hk => hk)) | (rw [add_block]; exact Kd.own_blk (Kd.R_away HO_4.out (fun _ hk => hk))) | (show (Addr.add _ _).block ≠ _; rw [add_block]; exact Kd.own_blk (Kd.R_away HO_4.out (fun _ hk => hk))) | (dsimp only; exact Kd.own_blk (Kd.R_away HO_4.out (fun _ hk => hk)))) _).trans (((cell_far (p := ⟨gb130, _, none⟩) (by first | exact Kd.own_blk (Kd.R_away HO_4.out (fun _ hk => hk)) | (rw [add_block]; exact Kd.own_blk (Kd.R_away HO_4.out (fun _ hk => hk))) | (show (Addr.add _ _).block ≠ _; rw [add_block]; exact Kd.own_blk (Kd.R_away HO_4.out (fun _ hk => hk))) | (dsimp only; exact Kd.own_blk (Kd.R_away HO_4.out (fun _ hk => hk)))) _).trans (hHeld.2.1)))), ((cell_far (p := ⟨gb130, _, none⟩) (by first | exact Kd.own_blk (Kd.R_away HO_4.out (fun _ hk => hk)) | (rw [add_block]; exact Kd.own_blk (Kd.R_away HO_4.out (fun _ hk => hk))) | (show (Addr.add _ _).block ≠ _; rw [add_block]; exact Kd.own_blk (Kd.R_away HO_4.out (fun _ hk => hk))) | (dsimp only; exact Kd.own_blk (Kd.R_away HO_4.out (fun _ hk => hk)))) _).trans (((cell_far (p := ⟨gb130, _, none⟩) (by first | exact Kd.own_blk (Kd.R_away HO_4.out (fun _ hk => hk)) | (rw [add_block]; exact Kd.own_blk (Kd.R_away HO_4.out (fun _ hk => hk))) | (show (Addr.add _ _).block ≠ _; rw [add_block]; exact Kd.own_blk (Kd.R_away HO_4.out (fun _ hk => hk))) | (dsimp only; exact Kd.own_blk (Kd.R_away HO_4.out (fun _ hk => hk)))) _).trans (hHeld.2.2.1)))), ((cell_far (p := ⟨gb130, _, none⟩) (by first | exact Kd.own_blk (Kd.R_away HO_4.out (fun _ hk => hk)) | (rw [add_block]; exact Kd.own_blk (Kd.R_away HO_4.out (fun _ hk => hk))) | (show (Addr.add _ _).block ≠ _; rw [add_block]; exact Kd.own_blk (Kd.R_away HO_4.out (fun _ hk => hk))) | (dsimp only; exact Kd.own_blk (Kd.R_away HO_4.out (fun _ hk => hk)))) _).trans (((cell_far (p := ⟨gb130, _, none⟩) (by first | exact Kd.own_blk (Kd.R_away HO_4.out (fun _ hk => hk)) | (rw [add_block]; exact Kd.own_blk (Kd.R_away HO_4.out (fun _ hk => hk))) | (show (Addr.add _ _).block ≠ _; rw [add_block]; exact Kd.own_blk (Kd.R_away HO_4.out (fun _ hk => hk))) | (dsimp only; exact Kd.own_blk (Kd.R_away HO_4.out (fun _ hk => hk)))) _).trans (hHeld.2.2.2))))⟩ (fun hHeld => ?_)
                 clear hK K
                 refine done_ (done_of HT_.out (by kernel_rfl)) ?_
                 try go_wp2
                 generalize hq_ : ((w66.setCell ⟨gb130, 0, none⟩ (.int .i64 t128)).setCell ⟨gb130, 1, none⟩ (.int .i64 t129)) = w69
                 have n0_ : Aside0 (Kd.R k40 40 w69 w.heap.size (fun k_ => k_ ≠ gb130) (.slice (some ad126) t104.length co62) t104) := ⟨by rw [← hq_]; (with_reducible repeat (first | apply Kd.R_alloc | apply Kd.R_drewN | apply Kd.R_drew)); exact Kd.R_mono (Kd.R_far (p := ⟨gb130, 1, none⟩) (Kd.R_far (p := ⟨gb130, 0, none⟩) (Kd.R_mono HO_4.out (fun k_ hk => (⟨hk, hk⟩ : _ ∧ k_ ≠ gb130))) (fun _ hk => hk.2) (.int .i64 t128)) (fun _ hk => hk.2) (.int .i64 t129)) (fun _ hk => hk.1)⟩
                 have n1_ : Aside0 (w69.heap[gb130]? = some (.cells #[.int .i64 t128, .int .i64 t129] 40 (0, 0))) := ⟨by rw [← hq_]; exact P2 BK130⟩
                 have n2_ : Aside0 (Below w.heap.size w w69) := ⟨by rw [← hq_]; exact K1 HB GE130.out⟩
                 clear hq_
                 (try clear HO_4)
                 (try clear BK130)
                 (try clear HB)
                 have HO_4 := n0_
                 have BK130 := n1_
                 have HB := n2_
                 clear n0_ n1_ n2_
                 replace HO_4 := am (Kd.R_drew HO_4.out)
                 replace BK130 := am (blk_drew BK130.out)
                 replace HB := am (below_drew1 HB.out)
                 have p131 : 0 ≤ ((ji36) : Int) := OD
                 have q131 : (ji36) < (t104.length : Int) := OD
                 obtain ⟨ad131, e131, hx131_0, hx131_1⟩ := at_T40 (Kd.R_reads' HO_4.out).2.2 (ji36) p131 q131
                 obtain rfl : ad126 = ad131 := (by injection e131)
                 replace p131 := eq_true p131
                 replace q131 := eq_true q131
                 have p132 : 0 ≤ (x9_3 : Int) := OD
                 have q132 : x9_3 < (t104.length : Int) := OD
                 obtain ⟨ad132, e132, hx132_0, hx132_1⟩ := at_T40 (Kd.R_reads' HO_4.out).2.2 x9_3 p132 q132
                 obtain rfl : ad126 = ad132 := (by injection e132)
                 replace p132 := eq_true p132
                 replace q132 := eq_true q132
                 have p133 : 0 ≤ ((ji36) : Int) := OD
                 have q133 : (ji36) < (t104.length : Int) := OD
                 obtain ⟨ad133, e133, hx133_0, hx133_1⟩ := at_T40 (Kd.R_reads' HO_4.out).2.2 (ji36) p133 q133
                 obtain rfl : ad126 = ad133 := (by injection e133)
                 replace p133 := eq_true p133
                 replace q133 := eq_true q133
                 have p134 : 0 ≤ (x9_3 : Int) := OD
                 have q134 : x9_3 < (t104.length : Int) := OD
                 obtain ⟨ad134, e134, hx134_0, hx134_1⟩ := at_T40 (Kd.R_reads' HO_4.out).2.2 x9_3 p134 q134
                 obtain rfl : ad126 = ad134 := (by injection e134)
                 replace p134 := eq_true p134
                 replace q134 := eq_true q134
                 have p137 : 0 ≤ ((ji36) : Int) := OD
                 have q137 : (ji36) < (t104.length : Int) := OD
                 obtain ⟨ad137, e137, hx137_0, hx137_1⟩ := at_T40 (Kd.R_reads' HO_4.out).2.2 (ji36) p137 q137
                 obtain rfl : ad126 = ad137 := (by injection e137)
                 replace p137 := eq_true p137
                 replace q137 := eq_true q137
                 have p139 : 0 ≤ (x9_3 : Int) := OD
                 have q139 : x9_3 < (t104.length : Int) := OD
                 obtain ⟨ad139, e139, hx139_0, hx139_1⟩ := at_T40 (Kd.R_reads' HO_4.out).2.2 x9_3 p139 q139
                 obtain rfl : ad126 = ad139 := (by injection e139)
                 replace p139 := eq_true p139
                 replace q139 := eq_true q139
                 refine start_ (n := 55) (S := fun w' => ce2 w' gb130 (.int .i64 t128) (.int .i64 t129) (w'.cell? (ad126.add (((ji36)).toNat * 2)) = some (.int .i64 ((rd_T40 t104 (ji36)).f0)) ∧ w'.cell? ⟨(ad126.add (((ji36)).toNat * 2)).block, (ad126.add (((ji36)).toNat * 2)).off + 1, none⟩ = some (.int .i64 ((rd_T40 t104 (ji36)).f1)) ∧ w'.cell? (ad126.add ((x9_3).toNat * 2)) = some (.int .i64 ((rd_T40 t104 x9_3).f0)) ∧ w'.cell? ⟨(ad126.add ((x9_3).toNat * 2)).block, (ad126.add ((x9_3).toNat * 2)).off + 1, none⟩ = some (.int .i64 ((rd_T40 t104 x9_3).f1)) ∧ w'.cell? (ad126.add (((ji36)).toNat * 2)) = some (.int .i64 ((rd_T40 t104 (ji36)).f0)) ∧ w'.cell? ⟨(ad126.add (((ji36)).toNat * 2)).block, (ad126.add (((ji36)).toNat * 2)).off + 1, none⟩ = some (.int .i64 ((rd_T40 t104 (ji36)).f1)) ∧ w'.cell? (ad126.add ((x9_3).toNat * 2)) = some (.int .i64 ((rd_T40 t104 x9_3).f0)) ∧ w'.cell? ⟨(ad126.add ((x9_3).toNat * 2)).block, (ad126.add ((x9_3).toNat * 2)).off + 1, none⟩ = some (.int .i64 ((rd_T40 t104 x9_3).f1)) ∧ w'.cell? (ad126.add (((ji36)).toNat * 2)) = some (.int .i64 ((rd_T40 t104 (ji36)).f0)) ∧ w'.cell? ⟨(ad126.add (((ji36)).toNat * 2)).block, (ad126.add (((ji36)).toNat * 2)).off + 1, none⟩ = some (.int .i64 ((rd_T40 t104 (ji36)).f1)) ∧ w'.cell? (ad126.add ((x9_3).toNat * 2)) = some (.int .i64 ((rd_T40 t104 x9_3).f0)) ∧ w'.cell? ⟨(ad126.add ((x9_3).toNat * 2)).block, (ad126.add ((x9_3).toNat * 2)).off + 1, none⟩ = some (.int .i64 ((rd_T40 t104 x9_3).f1)))) (ds := []) (tf 0 55) (by kernel_rfl) rfl rfl ⟨z0 _ BK130.out, z1 _ BK130.out, hx131_0, hx131_1, hx132_0, hx132_1, hx133_0, hx133_1, hx134_0, hx134_1, hx137_0, hx137_1, hx139_0, hx139_1⟩ (fun hHeld => ?_); refine with_tabW laws_FnSetOf.tab17 laws_FnSetOf.bits17 (fun HT_ HW_ => ?_)
                 generalize w69.drew = w70 at HO_4 BK130 HB hx131_0 hx131_1 hx132_0 hx132_1 hx133_0 hx133_1 hx134_0 hx134_1 hx137_0 hx137_1 hx139_0 hx139_1 hHeld ⊢
                 refine pv HT_ 0 96 (tf 1 54) ?_
                 refine pv HT_ 1 97 (tf 2 53) ?_
                 refine pv HT_ 2 98 (tf 3 52) ?_
                 refine pv HT_ 3 99 (tf 4 51) ?_
                 refine pv HT_ 4 100 (tf 5 50) ?_
                 refine pv HT_ 6 102 (tr [5, 1, 1, 48]) ?_
                 refine pv HT_ 7 103 (tr [5, 1, 2, 47]) ?_
                 refine pv HT_ 8 104 (tr [5, 1, 3, 46]) ?_
                 refine pv HT_ 9 105 (tr [5, 1, 4, 45]) ?_
                 refine tk 5 (some 101) (tf 10 45) (take_ofW HT_.out HW_.out (by kernel_rfl)) hHeld ?_
                 refine tk 10 (some 106) (tf 11 44) (take_ofW HT_.out HW_.out (by kernel_rfl)) hHeld ?_
                 refine pv HT_ 11 107 (tf 12 43) ?_
                 refine pv HT_ 12 108 (tf 13 42) ?_
                 refine pv HT_ 13 109 (tf 14 41) ?_
                 refine pv HT_ 14 110 (tf 15 40) ?_
                 refine pv HT_ 15 111 (tf 16 39) ?_
                 refine pv HT_ 16 112 (tf 17 38) ?_
                 refine pv HT_ 18 114 (tr [17, 1, 1, 36]) ?_
                 refine pv HT_ 19 115 (tr [17, 1, 2, 35]) ?_
                 refine pv HT_ 20 116 (tr [17, 1, 3, 34]) ?_
                 refine tk 17 (some 113) (tf 21 34) (take_ofW HT_.out HW_.out (by kernel_rfl)) hHeld ?_
                 refine tk 21 (some 117) (tf 22 33) (take_ofW HT_.out HW_.out (by kernel_rfl)) hHeld ?_
                 refine one_ (i := 22) (N := some 118) (tf 23 32) rfl rfl (one_of HT_.out (by kernel_rfl)) (by decide) (fun K hK => ?_)
                 refine goes_ Try.func25 (by kernel_rfl) rfl #[.agg #[.int .i64 ((rd_T40 t104 (ji36)).f0), .int .i64 ((rd_T40 t104 (ji36)).f1)], .agg #[.int .i64 ((rd_T40 t104 x9_3).f0), .int .i64 ((rd_T40 t104 x9_3).f1)]] (by rfl) rfl rfl (by (try simp only [List.map_toArray, List.map_cons, List.map_nil]); first | done | (simp only [hji36]; rfl) | rfl | (simp only [List.length_drop, List.length_take]; rfl)) ?_
                 with_reducible refine (impl_BlockMeets.calls ((rd_T40 t104 (ji36)).f0) ((rd_T40 t104 (ji36)).f1) ((rd_T40 t104 x9_3).f0) ((rd_T40 t104 x9_3).f1) false _ A42.out).mono ?_
                 rintro e w71 ⟨rfl, hb⟩
                 have HS2_ := (hb.cell (World.block_lt_of_cell? _ _ (hHeld.2.2.1))).trans (hHeld.2.2.1)
                 have HS3_ := (hb.cell (World.block_lt_of_cell? _ _ (hHeld.2.2.2.1))).trans (hHeld.2.2.2.1)
                 have HS4_ := (hb.cell (World.block_lt_of_cell? _ _ (hHeld.2.2.2.2.1))).trans (hHeld.2.2.2.2.1)
                 have HS5_ := (hb.cell (World.block_lt_of_cell? _ _ (hHeld.2.2.2.2.2.1))).trans (hHeld.2.2.2.2.2.1)
                 have HS6_ := (hb.cell (World.block_lt_of_cell? _ _ (hHeld.2.2.2.2.2.2.1))).trans (hHeld.2.2.2.2.2.2.1)
                 have HS7_ := (hb.cell (World.block_lt_of_cell? _ _ (hHeld.2.2.2.2.2.2.2.1))).trans (hHeld.2.2.2.2.2.2.2.1)
                 have HS8_ := (hb.cell (World.block_lt_of_cell? _ _ (hHeld.2.2.2.2.2.2.2.2.1))).trans (hHeld.2.2.2.2.2.2.2.2.1)
                 have HS9_ := (hb.cell (World.block_lt_of_cell? _ _ (hHeld.2.2.2.2.2.2.2.2.2.1))).trans (hHeld.2.2.2.2.2.2.2.2.2.1)
                 have HS10_ := (hb.cell (World.block_lt_of_cell? _ _ (hHeld.2.2.2.2.2.2.2.2.2.2.1))).trans (hHeld.2.2.2.2.2.2.2.2.2.2.1)
                 have HS11_ := (hb.cell (World.block_lt_of_cell? _ _ (hHeld.2.2.2.2.2.2.2.2.2.2.2.1))).trans (hHeld.2.2.2.2.2.2.2.2.2.2.2.1)
                 have HS12_ := (hb.cell (World.block_lt_of_cell? _ _ (hHeld.2.2.2.2.2.2.2.2.2.2.2.2.1))).trans (hHeld.2.2.2.2.2.2.2.2.2.2.2.2.1)
                 have HS13_ := (hb.cell (World.block_lt_of_cell? _ _ (hHeld.2.2.2.2.2.2.2.2.2.2.2.2.2))).trans (hHeld.2.2.2.2.2.2.2.2.2.2.2.2.2)
                 refine ⟨_, rfl, ?_⟩
                 replace HO_4 := am (Kd.R_below (KR HO_4) hb)
                 replace BK130 := am (BB BK130 hb)
                 replace HB := am (below_step (K1 HB GE130.out) hb)
                 (try clear hb)
                 (try clear hb2)
                 (try clear hk)
                 (try clear hi)
                 refine hK.out _ _ ⟨z0 _ BK130.out, z1 _ BK130.out, HS2_, HS3_, HS4_, HS5_, HS6_, HS7_, HS8_, HS9_, HS10_, HS11_, HS12_, HS13_⟩ (fun hHeld => ?_)
                 clear hK K
                 refine norm_ (a' := ?_) ?_ ?_
                 rotate_left
                 ·show Act.put _ (some 118) _ = _
                  simp only [Act.put, List.setIfInBounds_toArray, List.set_cons_zero, List.set_cons_succ, i64_w, i32_w]
                  rfl
                 refine pv HT_ 23 119 (tf 24 31) ?_
                 refine pv HT_ 24 120 (tf 25 30) ?_
                 refine pv HT_ 27 123 (tr [25, 2, 1, 27]) ?_
                 refine pv HT_ 28 124 (tr [25, 2, 2, 26]) ?_
                 refine pv HT_ 29 125 (tr [25, 2, 3, 25]) ?_
                 refine pv HT_ 30 126 (tr [25, 2, 4, 24]) ?_
                 refine pv HT_ 33 129 (tr [25, 2, 4, 2, 1, 21]) ?_
                 refine pv HT_ 34 130 (tr [25, 2, 4, 2, 2, 20]) ?_
                 refine pv HT_ 35 131 (tr [25, 2, 4, 2, 3, 19]) ?_
                 refine tk 25 (some 121) (tr [26, 1, 4, 2, 3, 19]) (take_ofW HT_.out HW_.out (by kernel_rfl)) hHeld ?_
                 refine tk 31 (some 127) (tr [26, 1, 5, 1, 3, 19]) (take_ofW HT_.out HW_.out (by kernel_rfl)) hHeld ?_
                 refine tk 36 (some 132) (tr [26, 1, 5, 1, 4, 18]) (take_ofW HT_.out HW_.out (by kernel_rfl)) hHeld ?_
                 refine one_ (i := 26) (N := some 122) (tr [32, 1, 4, 18]) rfl rfl (one_of HT_.out (by kernel_rfl)) (by decide) (fun K hK => ?_)
                 refine goes_ Try.func23 (by kernel_rfl) rfl #[.agg #[.int .i64 t128, .int .i64 t129]] (by rfl) rfl rfl MT ?_
                 with_reducible refine (impl_BlockSize.calls t128 t129 t136 _ A44.out).mono ?_
                 rintro e w72 ⟨rfl, hb⟩
                 have HS2_ := (hb.cell (World.block_lt_of_cell? _ _ (hHeld.2.2.1))).trans (hHeld.2.2.1)
                 have HS3_ := (hb.cell (World.block_lt_of_cell? _ _ (hHeld.2.2.2.1))).trans (hHeld.2.2.2.1)
                 have HS4_ := (hb.cell (World.block_lt_of_cell? _ _ (hHeld.2.2.2.2.1))).trans (hHeld.2.2.2.2.1)
                 have HS5_ := (hb.cell (World.block_lt_of_cell? _ _ (hHeld.2.2.2.2.2.1))).trans (hHeld.2.2.2.2.2.1)
                 have HS6_ := (hb.cell (World.block_lt_of_cell? _ _ (hHeld.2.2.2.2.2.2.1))).trans (hHeld.2.2.2.2.2.2.1)
                 have HS7_ := (hb.cell (World.block_lt_of_cell? _ _ (hHeld.2.2.2.2.2.2.2.1))).trans (hHeld.2.2.2.2.2.2.2.1)
                 have HS8_ := (hb.cell (World.block_lt_of_cell? _ _ (hHeld.2.2.2.2.2.2.2.2.1))).trans (hHeld.2.2.2.2.2.2.2.2.1)
                 have HS9_ := (hb.cell (World.block_lt_of_cell? _ _ (hHeld.2.2.2.2.2.2.2.2.2.1))).trans (hHeld.2.2.2.2.2.2.2.2.2.1)
                 have HS10_ := (hb.cell (World.block_lt_of_cell? _ _ (hHeld.2.2.2.2.2.2.2.2.2.2.1))).trans (hHeld.2.2.2.2.2.2.2.2.2.2.1)
                 have HS11_ := (hb.cell (World.block_lt_of_cell? _ _ (hHeld.2.2.2.2.2.2.2.2.2.2.2.1))).trans (hHeld.2.2.2.2.2.2.2.2.2.2.2.1)
                 have HS12_ := (hb.cell (World.block_lt_of_cell? _ _ (hHeld.2.2.2.2.2.2.2.2.2.2.2.2.1))).trans (hHeld.2.2.2.2.2.2.2.2.2.2.2.2.1)
                 have HS13_ := (hb.cell (World.block_lt_of_cell? _ _ (hHeld.2.2.2.2.2.2.2.2.2.2.2.2.2))).trans (hHeld.2.2.2.2.2.2.2.2.2.2.2.2.2)
                 refine ⟨_, rfl, ?_⟩
                 replace HO_4 := am (Kd.R_below (KR HO_4) hb)
                 replace BK130 := am (BB BK130 hb)
                 replace HB := am (below_step (K1 HB GE130.out) hb)
                 (try clear hb)
                 (try clear hb2)
                 (try clear hk)
                 (try clear hi)
                 refine hK.out _ _ ⟨z0 _ BK130.out, z1 _ BK130.out, HS2_, HS3_, HS4_, HS5_, HS6_, HS7_, HS8_, HS9_, HS10_, HS11_, HS12_, HS13_⟩ (fun hHeld => ?_)
                 clear hK K
                 refine norm_ (a' := ?_) ?_ ?_
                 rotate_left
                 ·show Act.put _ (some 122) _ = _
                  simp only [Act.put, List.setIfInBounds_toArray, List.set_cons_zero, List.set_cons_succ, i64_w, i32_w]
                  rfl
                 refine one_ (i := 32) (N := some 128) (tf 37 18) rfl rfl (one_of HT_.out (by kernel_rfl)) (by decide) (fun K hK => ?_)
                 refine goes_ Try.func23 (by kernel_rfl) rfl #[.agg #[.int .i64 ((rd_T40 t104 (ji36)).f0), .int .i64 ((rd_T40 t104 (ji36)).f1)]] (by rfl) rfl rfl (by (try simp only [List.map_toArray, List.map_cons, List.map_nil]); first | done | (simp only [hji36]; rfl) | rfl | (simp only [List.length_drop, List.length_take]; rfl)) ?_
                 with_reducible refine (impl_BlockSize.calls ((rd_T40 t104 (ji36)).f0) ((rd_T40 t104 (ji36)).f1) t138 _ A45.out).mono ?_
                 rintro e w73 ⟨rfl, hb⟩
                 have HS2_ := (hb.cell (World.block_lt_of_cell? _ _ (hHeld.2.2.1))).trans (hHeld.2.2.1)
                 have HS3_ := (hb.cell (World.block_lt_of_cell? _ _ (hHeld.2.2.2.1))).trans (hHeld.2.2.2.1)
                 have HS4_ := (hb.cell (World.block_lt_of_cell? _ _ (hHeld.2.2.2.2.1))).trans (hHeld.2.2.2.2.1)
                 have HS5_ := (hb.cell (World.block_lt_of_cell? _ _ (hHeld.2.2.2.2.2.1))).trans (hHeld.2.2.2.2.2.1)
                 have HS6_ := (hb.cell (World.block_lt_of_cell? _ _ (hHeld.2.2.2.2.2.2.1))).trans (hHeld.2.2.2.2.2.2.1)
                 have HS7_ := (hb.cell (World.block_lt_of_cell? _ _ (hHeld.2.2.2.2.2.2.2.1))).trans (hHeld.2.2.2.2.2.2.2.1)
                 have HS8_ := (hb.cell (World.block_lt_of_cell? _ _ (hHeld.2.2.2.2.2.2.2.2.1))).trans (hHeld.2.2.2.2.2.2.2.2.1)
                 have HS9_ := (hb.cell (World.block_lt_of_cell? _ _ (hHeld.2.2.2.2.2.2.2.2.2.1))).trans (hHeld.2.2.2.2.2.2.2.2.2.1)
                 have HS10_ := (hb.cell (World.block_lt_of_cell? _ _ (hHeld.2.2.2.2.2.2.2.2.2.2.1))).trans (hHeld.2.2.2.2.2.2.2.2.2.2.1)
                 have HS11_ := (hb.cell (World.block_lt_of_cell? _ _ (hHeld.2.2.2.2.2.2.2.2.2.2.2.1))).trans (hHeld.2.2.2.2.2.2.2.2.2.2.2.1)
                 have HS12_ := (hb.cell (World.block_lt_of_cell? _ _ (hHeld.2.2.2.2.2.2.2.2.2.2.2.2.1))).trans (hHeld.2.2.2.2.2.2.2.2.2.2.2.2.1)
                 have HS13_ := (hb.cell (World.block_lt_of_cell? _ _ (hHeld.2.2.2.2.2.2.2.2.2.2.2.2.2))).trans (hHeld.2.2.2.2.2.2.2.2.2.2.2.2.2)
                 refine ⟨_, rfl, ?_⟩
                 replace HO_4 := am (Kd.R_below (KR HO_4) hb)
                 replace BK130 := am (BB BK130 hb)
                 replace HB := am (below_step (K1 HB GE130.out) hb)
                 (try clear hb)
                 (try clear hb2)
                 (try clear hk)
                 (try clear hi)
                 refine hK.out _ _ ⟨z0 _ BK130.out, z1 _ BK130.out, HS2_, HS3_, HS4_, HS5_, HS6_, HS7_, HS8_, HS9_, HS10_, HS11_, HS12_, HS13_⟩ (fun hHeld => ?_)
                 clear hK K
                 refine norm_ (a' := ?_) ?_ ?_
                 rotate_left
                 ·show Act.put _ (some 128) _ = _
                  simp only [Act.put, List.setIfInBounds_toArray, List.set_cons_zero, List.set_cons_succ, i64_w, i32_w]
                  rfl
                 refine one_ (i := 37) (N := some 133) (tf 38 17) rfl rfl (one_of HT_.out (by kernel_rfl)) (by decide) (fun K hK => ?_)
                 refine goes_ Try.func23 (by kernel_rfl) rfl #[.agg #[.int .i64 ((rd_T40 t104 x9_3).f0), .int .i64 ((rd_T40 t104 x9_3).f1)]] (by rfl) rfl rfl MT ?_
                 with_reducible refine (impl_BlockSize.calls ((rd_T40 t104 x9_3).f0) ((rd_T40 t104 x9_3).f1) t140 _ A46.out).mono ?_
                 rintro e w74 ⟨rfl, hb⟩
                 have HS2_ := (hb.cell (World.block_lt_of_cell? _ _ (hHeld.2.2.1))).trans (hHeld.2.2.1)
                 have HS3_ := (hb.cell (World.block_lt_of_cell? _ _ (hHeld.2.2.2.1))).trans (hHeld.2.2.2.1)
                 have HS4_ := (hb.cell (World.block_lt_of_cell? _ _ (hHeld.2.2.2.2.1))).trans (hHeld.2.2.2.2.1)
                 have HS5_ := (hb.cell (World.block_lt_of_cell? _ _ (hHeld.2.2.2.2.2.1))).trans (hHeld.2.2.2.2.2.1)
                 have HS6_ := (hb.cell (World.block_lt_of_cell? _ _ (hHeld.2.2.2.2.2.2.1))).trans (hHeld.2.2.2.2.2.2.1)
                 have HS7_ := (hb.cell (World.block_lt_of_cell? _ _ (hHeld.2.2.2.2.2.2.2.1))).trans (hHeld.2.2.2.2.2.2.2.1)
                 have HS8_ := (hb.cell (World.block_lt_of_cell? _ _ (hHeld.2.2.2.2.2.2.2.2.1))).trans (hHeld.2.2.2.2.2.2.2.2.1)
                 have HS9_ := (hb.cell (World.block_lt_of_cell? _ _ (hHeld.2.2.2.2.2.2.2.2.2.1))).trans (hHeld.2.2.2.2.2.2.2.2.2.1)
                 have HS10_ := (hb.cell (World.block_lt_of_cell? _ _ (hHeld.2.2.2.2.2.2.2.2.2.2.1))).trans (hHeld.2.2.2.2.2.2.2.2.2.2.1)
                 have HS11_ := (hb.cell (World.block_lt_of_cell? _ _ (hHeld.2.2.2.2.2.2.2.2.2.2.2.1))).trans (hHeld.2.2.2.2.2.2.2.2.2.2.2.1)
                 have HS12_ := (hb.cell (World.block_lt_of_cell? _ _ (hHeld.2.2.2.2.2.2.2.2.2.2.2.2.1))).trans (hHeld.2.2.2.2.2.2.2.2.2.2.2.2.1)
                 have HS13_ := (hb.cell (World.block_lt_of_cell? _ _ (hHeld.2.2.2.2.2.2.2.2.2.2.2.2.2))).trans (hHeld.2.2.2.2.2.2.2.2.2.2.2.2.2)
                 refine ⟨_, rfl, ?_⟩
                 replace HO_4 := am (Kd.R_below (KR HO_4) hb)
                 replace BK130 := am (BB BK130 hb)
                 replace HB := am (below_step (K1 HB GE130.out) hb)
                 (try clear hb)
                 (try clear hb2)
                 (try clear hk)
                 (try clear hi)
                 refine hK.out _ _ ⟨z0 _ BK130.out, z1 _ BK130.out, HS2_, HS3_, HS4_, HS5_, HS6_, HS7_, HS8_, HS9_, HS10_, HS11_, HS12_, HS13_⟩ (fun hHeld => ?_)
                 clear hK K
                 refine norm_ (a' := ?_) ?_ ?_
                 rotate_left
                 ·show Act.put _ (some 133) _ = _
                  simp only [Act.put, List.setIfInBounds_toArray, List.set_cons_zero, List.set_cons_succ, i64_w, i32_w]
                  rfl
                 refine pv HT_ 38 134 (tf 39 16) ?_
                 refine pv HT_ 39 135 (tf 40 15) ?_
                 refine pv HT_ 40 136 (tf 41 14) ?_
                 refine pw HT_ 41 137 (tf 42 13) ?_
                 refine pw HT_ 42 138 (tf 43 12) ?_
                 refine pw HT_ 43 139 (tf 44 11) ?_
                 refine pw HT_ 44 140 (tf 45 10) ?_
                 refine pw HT_ 45 141 (tf 46 9) ?_
                 refine pw HT_ 46 142 (tf 47 8) ?_
                 refine pw HT_ 47 143 (tf 48 7) ?_
                 refine pw HT_ 48 144 (tf 49 6) ?_
                 refine pw HT_ 49 145 (tf 50 5) ?_
                 refine pw HT_ 50 146 (tf 51 4) ?_
                 refine pw HT_ 51 147 (tf 52 3) ?_
                 refine pw HT_ 52 148 (tf 53 2) ?_
                 refine pv HT_ 53 149 (tf 54 1) ?_
                 refine pv HT_ 54 150 (tf 55 0) ?_
                 refine done_ (done_of HT_.out (by kernel_rfl)) ?_
                 try go_wp2
                 go_roundg k3
                 case measure => have := HJ5.out; have := HK2.out; have := HK3.out; omega
                 case rel => exact ⟨(wrap64 (x9_3 + 1)), (by first | rfl | (simp; done) | (simp [*]; done)), H', ⟨by have := HJ5.out; have := HK2.out; have := HK3.out; omega⟩, ⟨by (with_reducible repeat (first | apply Kd.R_alloc | apply Kd.R_drewN | apply Kd.R_drew)); exact Kd.R_mono HO_4.out (fun _ hk => trivial)⟩, ⟨K1 HB GE130.out⟩⟩
             ·rw [if_neg c39] at H
              exact absurd H (by simp)
            ·rw [if_neg c38] at H
             exact absurd H (by simp)
           ·rw [if_neg c37] at H
            exact absurd H (by simp)
          ·rw [if_neg c35] at H
           have c35b0 : decide (x9_3 < (t104.length : Int)) = false := decide_eq_false c35
           clear c35
           replace H := Option.bind_eq_some_iff.mp H
           obtain ⟨⟨t120, t121⟩, A750, H⟩ := H
           replace H : ((impl_SetOk.f k3 t104).bind fun t124 => (if t124 = true then (if t121 = true then ((laws_ovBlocks.f k3 t120 t104).bind fun t125 => (some t125)) else (some false)) else (some false))) = some r := H
           have A75 := Aside0.mk A750
           clear A750
           replace H := Option.bind_eq_some_iff.mp H
           obtain ⟨t124, A760, H⟩ := H
           replace H : (if t124 = true then (if t121 = true then ((laws_ovBlocks.f k3 t120 t104).bind fun t125 => (some t125)) else (some false)) else (some false)) = some r := H
           have A76 := Aside0.mk A760
           clear A760
           by_cases c77 : t124 = true
           ·subst c77
            have H1 : (if t121 = true then ((laws_ovBlocks.f k3 t120 t104).bind fun t125 => (some t125)) else (some false)) = some r := by rw [if_pos rfl] at H; exact H
            clear H
            have H := H1
            clear H1
            by_cases c78 : t121 = true
            ·subst c78
             have H1 : ((laws_ovBlocks.f k3 t120 t104).bind fun t125 => (some t125)) = some r := by rw [if_pos rfl] at H; exact H
             clear H
             have H := H1
             clear H1
             replace H := Option.bind_eq_some_iff.mp H
             obtain ⟨t125, A790, H⟩ := H
             replace H : (some t125) = some r := H
             have A79 := Aside0.mk A790
             clear A790
             obtain rfl := Option.some.inj H
             obtain ⟨Ao80, co80, eo80⟩ := Kd.R_slice HO_4.out
             subst eo80
             go_wp2_with (first | ((with_reducible refine gate_callee (f := 21) rfl ?_); refine goesL_ (some 153) rfl rfl Try.func21 (by kernel_rfl) rfl #[.slice Ao80 t104.length co80] rfl MT ?_; (with_reducible refine (impl_SetOf.calls k3 _ _ t104 t120 true _ ?side1 ?side2 A75.out).mono ?_); (case side1 => exact KC (Kd.R_reads' HO_4.out).2.2); (case side2 => exact (Kd.R_reads' HO_4.out).2.1); rintro e w81 ⟨v122, rfl, ho0, hb⟩; refine ⟨_, rfl, ?_⟩; have HO123 := am (Kd.R_lower (Kd.R_new' ho0 (Kd.R_lt (KR HO_4))) (below_size (KL HB))); replace HO_4 := am (Kd.R_elder' (KR HO_4) (Kd.R_base ho0) hb); replace HB := am (below_step (KL HB) hb); (try clear hb); (try clear ho0)) | ((with_reducible refine gate_callee (f := 13) rfl ?_); refine goesL_ (some 157) rfl rfl Try.func13 (by kernel_rfl) rfl #[.slice Ao80 t104.length co80] rfl MT ?_; (with_reducible refine (impl_SetOk.calls k3 _ _ t104 true _ ?side1 ?side2 A76.out).mono ?_); (case side1 => exact KC (Kd.R_reads' HO_4.out).2.2); (case side2 => exact (Kd.R_reads' HO_4.out).2.1); rintro e w82 ⟨rfl, hb⟩; refine ⟨_, rfl, ?_⟩; replace HO_4 := am (Kd.R_below (KR HO_4) hb); replace HO123 := am (Kd.R_below (KR HO123) hb); replace HB := am (below_step (KL HB) hb); (try clear hb); obtain ⟨Ao83, co83, eo83⟩ := Kd.R_slice HO123.out; subst eo83) | (go_at_call 11; (with_reducible refine (laws_ovBlocks.calls k3 _ _ t120 _ _ t104 t125 _ ?side1 ?side2 ?side3 ?side4 A79.out).mono ?_); (case side1 => exact KC (Kd.R_reads' HO123.out).2.2); (case side2 => exact (Kd.R_reads' HO123.out).2.1); (case side3 => exact KC (Kd.R_reads' HO_4.out).2.2); (case side4 => exact (Kd.R_reads' HO_4.out).2.1); rintro e w' ⟨rfl, ⟨nd, rfl⟩⟩))
             go_ret
             exact ⟨ER, KL HB⟩
            ·replace c78 := Bool.eq_false_iff.mpr c78
             subst c78
             have H1 : (some false) = some r := by rw [if_neg (show ¬ (false = true) by decide)] at H; exact H
             clear H
             have H := H1
             clear H1
             exact absurd ((Option.some.inj H).trans HR_.out) (by decide)
           ·replace c77 := Bool.eq_false_iff.mpr c77
            subst c77
            have H1 : (some false) = some r := by rw [if_neg (show ¬ (false = true) by decide)] at H; exact H
            clear H
            have H := H1
            clear H1
            exact absurd ((Option.some.inj H).trans HR_.out) (by decide)
/-- THE ONE PURE STATEMENT of laws_FnSetOf: yours. -/
def laws_FnSetOf.Pure : Prop := ∀ (l0 : List Int), l0.length ≤ maxLen → l0.length * 1 ≤ 140737488351232 → (∀ x ∈ l0, (Lit.int .u8 x).wf = true) → ∃ k, laws_FnSetOf.f k l0 = some true
theorem laws_FnSetOf.walk (P : laws_FnSetOf.Pure) (a0 : Option Addr) (len0 cap0 : Nat) (z0 : List Int) (w : World) (w0 : (a0 = none ∧ len0 = 0 ∧ cap0 = 0 ∧ z0 = []) ∨ ∃ x, a0 = some x ∧ len0 ≤ cap0 ∧ cap0 ≤ maxLen ∧ z0.length = cap0 ∧ (∀ i, i < z0.length → w.cell? (x.add i) = some (.int .u8 (z0.getD i 0))) ∧ ∀ n ∈ z0, (Lit.int .u8 n).wf = true) (y0 : len0 * 1 ≤ 140737488351232) :
  Calls Try.prog 5 #[.slice a0 len0 cap0] w fun e w' => e = .returned (.bool true) ∧ Below w.heap.size w w' := by
 obtain ⟨l0, rfl, hr0, hm0, hw0, hc0⟩ := ReadsInt.ofRowC w0
 obtain ⟨k, h⟩ := P l0 hm0 y0 hw0
 refine (laws_FnSetOf.calls k _ _ l0 true w (Kd.C_of_reads (d := (0 : Int)) (h1 := fun _ => rfl) hr0) hc0 rfl h).mono ?_
 rintro e w' ⟨rfl, hd⟩
 exact ⟨rfl, hd⟩
end Go.Proofs.Ytmanlcakdcoekaa.PAll
end
